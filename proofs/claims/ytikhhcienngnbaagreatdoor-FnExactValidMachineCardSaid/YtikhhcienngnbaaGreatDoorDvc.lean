/- An evaluator over the program text and its soundness: what a function returns, as plain equations. It holds for every program that the configuration describes. -/
import Derived.Test.YtikhhcienngnbaaGreatDoorDvb
set_option linter.all false
set_option linter.unusedVariables false
set_option linter.unusedSimpArgs false
namespace Go.Dv
open Go
section
variable {G:Sig} {C:Cfg G} {ops:Array Oper} {bf:List (List Nat)} {pu:List Nat} {sf:List (Nat×Nat)} {sts curs:Nat->St G.S} {bs:Nat->Bool} {vs:Nat->V G.S} {cg:Nat->Bool} {fl:Nat->Option (Flt G.S)} {ad:Nat->Option Nat}
def mY (C:Cfg G) (ops:Array Oper) (bf:List (List Nat)) (pu:List Nat) (sf:List (Nat×Nat)) (sts curs:Nat->St G.S) (bs:Nat->Bool) (vs:Nat->V G.S) (cg:Nat->Bool) (fl:Nat->Option (Flt G.S)) (ad:Nat->Option Nat):Prop:=
 ∀ (j:Nat) (o:Oper),ops[j]?=some o->CA C ops bf pu sf j o (sts j) (curs j) (bs j) (vs j) (cg j) fl ad (sts (j+1))
theorem AF (hst:mY C ops bf pu sf sts curs bs vs cg fl ad):∀ i,i<=ops.size->(sts i).tm.length=(sts 0).tm.length
 | 0,_=>rfl
 | i+1,h=>by
  obtain ⟨o,ho⟩:=jF (ops:=ops) (i:=i) (by omega)
  have hs:=hst i o ho
  rw [hs.tm]
  have:∀ (st:St G.S) d v,(st.put d v).tm.length=st.tm.length:=by
   intro st d v;cases d<;>simp [St.put]
  rw [this,hs.len,AF hst i (by omega)]
theorem QK {a b:St G.S} (h:a.tm=b.tm) (t:Nat):a.get t=b.get t:=by unfold St.get;rw [h]
theorem Ii (hst:mY C ops bf pu sf sts curs bs vs cg fl ad) {t:Nat} (ht:t<(sts 0).tm.length):∀ i,i<=ops.size ->
    (∃ (j:Nat) (o:Oper),j<i/\ops[j]?=some o/\o.dst=some t/\Eqv ((sts i).get t) (vs j))\/((∀ (j:Nat) (o:Oper),j<i->ops[j]?=some o->o.dst≠some t)/\Eqv ((sts i).get t) ((sts 0).get t))
  | 0,_=>.inr ⟨fun j o h=>by omega,.refl _⟩
  | i + 1,h=>by
    obtain ⟨o,ho⟩:=jF (ops:=ops) (i:=i) (by omega)
    have hs:=hst i o ho
    have hcl:t<(curs i).tm.length:=by rw [hs.len,AF hst i (by omega)];exact ht
    rw [QK hs.tm]
    by_cases hd:o.dst=some t
    · refine .inl ⟨i,o,by omega,ho,hd,?_⟩
      rw [hd,If,if_pos ⟨rfl,hcl⟩]
      exact .refl _
    · have e:((curs i).put o.dst (vs i)).get t=(curs i).get t:=by
        cases hq:o.dst with
        | none=>rfl
        | some d=>
          rw [If,if_neg]
          rintro ⟨rfl,_⟩
          exact hd hq
      rw [e]
      rcases Ii hst ht i (by omega) with ⟨j,p,h1,h2,h3,h4⟩ | ⟨h1,h2⟩
      · exact .inl ⟨j,p,by omega,h2,h3,(hs.eqv t).trans h4⟩
      · refine .inr ⟨fun j p hj hp=>?_,(hs.eqv t).trans h2⟩
        by_cases e:j=i
        · subst e;rw [ho] at hp;cases hp;exact hd
        · exact h1 j p (by omega) hp
theorem KL (hst:mY C ops bf pu sf sts curs bs vs cg fl ad):∀ (d m:Nat),m+d<=ops.size->(∀ j,m<=j->j<m+d->cg j=false)->(sts (m+d)).L=(sts m).L
 | 0,m,_,_=>rfl
 | d+1,m,h,hc=>by
  obtain ⟨o,ho⟩:=jF (ops:=ops) (i:=m+d) (by omega)
  have hs:=hst (m+d) o ho
  have:=hs.keep (hc (m+d) (by omega) (by omega))
  rw [show m+(d+1)=m+d+1 by omega,this]
  exact KL hst d m (by omega) (fun j h1 h2=>hc j h1 (by omega))
theorem Ij (hst:mY C ops bf pu sf sts curs bs vs cg fl ad) (b:Nat):∀ (d m:Nat),m+d<=ops.size->(∀ j,m<=j->j<m+d->cg j=true->(sts (j+1)).L[b]?=(sts j).L[b]?)->(sts (m+d)).L[b]?=(sts m).L[b]?
 | 0,m,_,_=>rfl
 | d+1,m,h,hc=>by
  obtain ⟨o,ho⟩:=jF (ops:=ops) (i:=m+d) (by omega)
  have hs:=hst (m+d) o ho
  have ih:=Ij hst b d m (by omega) (fun j h1 h2=>hc j h1 (by omega))
  rw [<-ih]
  show (sts (m+d+1)).L[b]?=_
  cases hcg:cg (m+d) with
  | false=>rw [hs.keep hcg]
  | true=>exact hc (m+d) (by omega) (by omega) hcg
structure Flo (fl:Nat->Option (Flt G.S)) (ad:Nat->Option Nat) (w0:World) (S:Nat->Bool) (a:Act) (w:World) (M:Mem) (ok:Okc) (L:List (Obj G.S)):Prop where
 now:∀ (i:Nat) (p:Flt G.S),fl i=some p->S i=true->(∀ j,ad j=some i->S j=false)->NZ w0 w L M ok p (a.tmps.getD p.d undef)
 dis:∀ (i i':Nat) (p p':Flt G.S) (b:Nat),fl i=some p->fl i'=some p'->S i=true->S i'=true->(∀ j,ad j=some i->S j=false)->(∀ j,ad j=some i'->S j=false)->(a.tmps.getD p.d undef).ownBlock=some b->(a.tmps.getD p'.d undef).ownBlock=some b->i=i'
structure MM (C:Cfg G) (ops:Array Oper) (bf:List (List Nat)) (sts:Nat->St G.S) (vs:Nat->V G.S) (cg:Nat->Bool) (fl:Nat->Option (Flt G.S)) (ad:Nat->Option Nat) (w0:World) (Fp:Fx) (okA:Okc) (d0:List Deferred) (S:Nat->Bool) (a:Act) (w:World) (M:Mem) (ok:Okc):Prop where
 mem:∃ m,m<=ops.size/\MI C w0 Fp okA M ok (sts m).L w/\Flo fl ad w0 S a w M ok (sts m).L/\(∀ j,j<m->cg j=true->S j=true)/\(∀ j,m<=j->j<ops.size->cg j=true->S j=false)
 dfr:a.defers=d0
 len:a.tmps.size=(sts 0).tm.length
 unw:∀ t,t<(sts 0).tm.length->(∀ (j:Nat) (o:Oper),ops[j]?=some o->S j=true->o.dst≠some t)->VR w ok M ((sts 0).get t) (a.tmps.getD t undef)
 wrt:∀ (j:Nat) (o:Oper) (t:Nat),t<(sts 0).tm.length->ops[j]?=some o->S j=true->o.dst=some t->VR w ok M (vs j) (a.tmps.getD t undef)
 cl:∀ (i:Nat) (o:Oper),ops[i]?=some o->S i=true->∀ j,ltB bf j i=true->S j=true
section
variable {mixed:Bool} (hb:Bf ops bf) (hd:F3 mixed ops bf=true) (hst:mY C ops bf pu sf sts curs bs vs cg fl ad) {w0:World} {Fp:Fx} {okA:Okc} {d0:List Deferred} {S:Nat->Bool} {a:Act} {w:World} {M:Mem} {ok:Okc}
include hb hd hst
theorem MM.reads (h:MM C ops bf sts vs cg fl ad w0 Fp okA d0 S a w M ok) {i:Nat} {o:Oper} (ho:ops[i]?=some o) (hi:S i=false) (hbe:∀ j,ltB bf j i=true->S j=true):
    ∀ t∈o.looksAt ops,VR w ok M ((curs i).get t) (a.tmps.getD t undef):=by
  intro t ht
  have hs:=hst i o ho
  have hil:=iO ho
  obtain ⟨_,hdr⟩:=lY hd
  by_cases hl:t<(sts 0).tm.length
  · rcases Ii hst hl i (by omega) with ⟨j,p,h1,h2,h3,h4⟩ | ⟨h1,h2⟩
    · have hord:=(hdr j i p o h2 ho (by omega) t h3).2 ht
      have hSj:S j=true:=by
        rcases hord with h5 | h5
        · exact hbe j h5
        · have:=hb.less j i (iO h2) h5;omega
      exact (((hs.eqv t).trans h4) w ok M _).2 (h.wrt j p t hl h2 hSj h3)
    · refine (((hs.eqv t).trans h2) w ok M _).2 (h.unw t hl fun j p hp hSj hdst=>?_)
      have hji:j≠i:=by rintro rfl;rw [hi] at hSj;cases hSj
      have hge:¬ j<i:=fun hlt=>h1 j p hlt hp hdst
      have hord:=(hdr j i p o hp ho hji t hdst).2 ht
      rcases hord with h5 | h5
      · have:=hb.less i j hil h5;omega
      · have:=h.cl j p hp hSj i h5
        rw [hi] at this;cases this
  · have e:(curs i).get t = .un:=by
      unfold St.get
      rw [List.getD_eq_getElem?_getD,List.getElem?_eq_none (by rw [hs.len,AF hst i (by omega)];exact Nat.le_of_not_lt hl)]
      rfl
    rw [e];exact .un _

omit hd in
theorem MM.level (h:MM C ops bf sts vs cg fl ad w0 Fp okA d0 S a w M ok) {i:Nat} {o:Oper} (ho:ops[i]?=some o) (hi:S i=false) (hbe:∀ j,ltB bf j i=true->S j=true) (hp:(fT o||pu.contains i)=false) (hsf:sf.lookup i=none) (hfb:HW C ops bf pu i o=false):
    MI C w0 Fp okA M ok (sts i).L w/\Flo fl ad w0 S a w M ok (sts i).L:=by
  obtain ⟨m,hm,hmi,hfo,h1,h2⟩:=h.mem
  have hil:=iO ho
  have fix:∀ j,j<ops.size->j≠i->cg j=true->ltB bf j i=true\/ltB bf i j=true:=by
    intro j hj hne hc
    obtain ⟨p,hpj⟩:=jF hj
    rcases ((hst j p hpj).fix hc).1 i o ho (Ne.symm hne) hp with h5 | h5 | h5 | ⟨b,h5,_⟩
    · exact .inl h5
    · exact .inr h5
    · rw [hfb] at h5;cases h5
    · rw [hsf] at h5;cases h5
  rcases Nat.le_total m i with hle | hle
  · have:=KL hst (i-m) m (by omega) (fun j hj1 hj2=>by
      cases hc:cg j with
      | false=>rfl
      | true=>
        rcases fix j (by omega) (by omega) hc with h5 | h5
        · have:=hbe j h5
          rw [h2 j hj1 (by omega) hc] at this;cases this
        · have:=hb.less j i (by omega) h5;omega)
    rw [show m+(i-m)=i by omega] at this
    rw [this];exact ⟨hmi,hfo⟩
  · have:=KL hst (m-i) i (by omega) (fun j hj1 hj2=>by
      cases hc:cg j with
      | false=>rfl
      | true=>
        have hSj:=h1 j (by omega) hc
        have hne:j≠i:=by rintro rfl;rw [hi] at hSj;cases hSj
        rcases fix j (by omega) hne hc with h5 | h5
        · have:=hb.less i j hil h5;omega
        · obtain ⟨p,hpj⟩:=jF (ops:=ops) (i:=j) (by omega)
          have:=h.cl j p hpj hSj i h5
          rw [hi] at this;cases this)
    rw [show i+(m-i)=m by omega] at this
    rw [<-this];exact ⟨hmi,hfo⟩

omit hd in
theorem MM.levelS (h:MM C ops bf sts vs cg fl ad w0 Fp okA d0 S a w M ok) {i:Nat} {o:Oper} (ho:ops[i]?=some o) (hi:S i=false) (hbe:∀ j,ltB bf j i=true->S j=true) (hp:(fT o||pu.contains i)=false) {b:Nat} (hsf:sf.lookup i=some b) (hfb:HW C ops bf pu i o=false) (hcg:cg i=false):
    ∃ m,MI C w0 Fp okA M ok (sts m).L w/\(sts m).L[b]?=(sts i).L[b]?:=by
  obtain ⟨m,hm,hmi,hfo,h1,h2⟩:=h.mem
  have hil:=iO ho
  have fix:∀ j,j<ops.size->j≠i->cg j=true->ltB bf j i=true\/ltB bf i j=true\/(sts (j+1)).L[b]?=(sts j).L[b]?:=by
    intro j hj hne hc
    obtain ⟨p,hpj⟩:=jF hj
    rcases ((hst j p hpj).fix hc).1 i o ho (Ne.symm hne) hp with h5 | h5 | h5 | ⟨b',h5,h6⟩
    · exact .inl h5
    · exact .inr (.inl h5)
    · rw [hfb] at h5;cases h5
    · rw [hsf] at h5;cases h5;exact .inr (.inr h6)
  refine ⟨m,hmi,?_⟩
  rcases Nat.le_total m i with hle | hle
  · have:=Ij hst b (i-m) m (by omega) (fun j hj1 hj2 hc=>by
      rcases fix j (by omega) (by omega) hc with h5 | h5 | h5
      · have:=hbe j h5
        rw [h2 j hj1 (by omega) hc] at this;cases this
      · have:=hb.less j i (by omega) h5;omega
      · exact h5)
    rw [show m+(i-m)=i by omega] at this
    exact this.symm
  · have:=Ij hst b (m-i) i (by omega) (fun j hj1 hj2 hc=>by
      have hSj:=h1 j (by omega) hc
      have hne:j≠i:=by rintro rfl;rw [hi] at hSj;cases hSj
      rcases fix j (by omega) hne hc with h5 | h5 | h5
      · have:=hb.less i j hil h5;omega
      · obtain ⟨p,hpj⟩:=jF (ops:=ops) (i:=j) (by omega)
        have:=h.cl j p hpj hSj i h5
        rw [hi] at this;cases this
      · exact h5)
    rw [show i+(m-i)=m by omega] at this
    exact this

omit hb hd hst in
theorem Eu {a:Act} {d:Option Nat} {val:Value} {t:Nat} (h:d≠some t):(a.put d val).tmps.getD t undef=a.tmps.getD t undef:=by
 cases d with
 | none=>rfl
 | some d=>
  have:d≠t:=fun e=>h (by rw [e])
  simp [Act.put,Array.getD_eq_getD_getElem?,Array.getElem?_setIfInBounds_ne this]
omit hb hst in
theorem MM.next (h:MM C ops bf sts vs cg fl ad w0 Fp okA d0 S a w M ok) {i:Nat} {o:Oper} (ho:ops[i]?=some o) (hi:S i=false) (hbe:∀ j,ltB bf j i=true->S j=true)
  {val:Value} {w':World} {M':Mem} {ok':Okc} (he:Ex M ok w M' ok' w') (hv:VR w' ok' M' (vs i) val) (hmem:∃ m,m<=ops.size/\MI C w0 Fp okA M' ok' (sts m).L w'/\Flo fl ad w0 (fun j=>S j||decide (j=i)) (a.put o.dst val) w' M' ok' (sts m).L/\(∀ j,j<m->cg j=true->(S j||decide (j=i))=true)/\(∀ j,m<=j->j<ops.size->cg j=true->(S j||decide (j=i))=false)):
  MM C ops bf sts vs cg fl ad w0 Fp okA d0 (fun j=>S j||decide (j=i)) (a.put o.dst val) w' M' ok':=by
 obtain ⟨_,hdr⟩:=lY hd
 have hil:=iO ho
 refine ⟨hmem,?_,?_,fun t ht hun=>?_,fun j p t ht hp hS hdst=>?_,fun k p hk hS j hj=>?_⟩
 ·cases hq:o.dst<;>exact h.dfr
 ·cases hq:o.dst<;>simp [Act.put,h.len]
 ·have hne:=hun i o ho (by simp)
  rw [Eu hne]
  exact (h.unw t ht fun j p hp hSj=>hun j p hp (by simp [hSj])).mono he
 ·by_cases e:j=i
  ·subst e
   rw [ho] at hp;cases hp
   rw [hdst]
   have hlt:t<a.tmps.size:=by rw [h.len];exact ht
   have:(a.put (some t) val).tmps.getD t undef=val:=by
    simp [Act.put,Array.getD_eq_getD_getElem?,hlt]
   rw [this];exact hv
  ·have hSj:S j=true:=by simpa [e] using hS
   have hne:=(hdr j i p o hp ho e t hdst).1
   rw [Eu hne]
   exact (h.wrt j p t ht hp hSj hdst).mono he
 ·by_cases e:k=i
  ·subst e
   simp [hbe j hj]
  ·have hSk:S k=true:=by simpa [e] using hS
   simp [h.cl k p hk hSk j hj]
omit hb in
theorem Pj {i:Nat} {p:Flt G.S} (h:fl i=some p) (hi:i<ops.size):∃ o,ops[i]?=some o/\o.dst=some p.d:=by
 obtain ⟨o,ho⟩:=jF hi
 refine ⟨o,ho,?_⟩
 rcases (hst i o ho).stp with h1 | h1 | h1 | h1 | ⟨_,_,_,_,_,_,q,h2,h3,_⟩ | h1
 ·rw [h1.2.2.2.1] at h;cases h
 ·rw [h1.2.2.1] at h;cases h
 ·rw [h1.2.2.2.1] at h;cases h
 ·rw [h1.2.2.2.2.1] at h;cases h
 ·rw [h] at h2;cases h2;exact h3
 ·rw [h1.2.2.2.2.2.1] at h;cases h
omit hb in
theorem qw (hSz:∀ j,S j=true->j<ops.size) {i i':Nat} {o:Oper} {p:Flt G.S} (ho:ops[i]?=some o) (h:fl i'=some p) (hS:S i'=true) (hne:i'≠i) (val:Value):(a.put o.dst val).tmps.getD p.d undef=a.tmps.getD p.d undef:=by
 obtain ⟨o',ho',hd'⟩:=Pj hd hst h (hSz i' hS)
 exact Eu ((lY hd).2 i' i o' o ho' ho hne p.d hd').1
omit hb in
theorem Flo.step (hSz:∀ j,S j=true->j<ops.size) {L L':List (Obj G.S)} {w':World} {M':Mem} {ok':Okc} (h:Flo fl ad w0 S a w M ok L) (k:MI C w (fxU L M Fp) ok M' ok' L' w') {i:Nat} {o:Oper} (ho:ops[i]?=some o) (hfl:fl i=none) (val:Value):
  Flo fl ad w0 (fun j=>S j||decide (j=i)) (a.put o.dst val) w' M' ok' L':=by
 have hne:∀ i' p,fl i'=some p->i'≠i:=fun i' p h1 e=>by subst e;rw [hfl] at h1;cases h1
 have hS':∀ i',i'≠i->(S i'||decide (i'=i))=true->S i'=true:=fun i' h1 h2=>by simpa [h1] using h2
 have hpd:∀ i',(∀ j,ad j=some i'->(S j||decide (j=i))=false)->∀ j,ad j=some i'->S j=false:=fun i' h1 j hj=>by
  have:=h1 j hj
  simp only [Bool.or_eq_false_iff] at this
  exact this.1
 refine ⟨fun i' p h1 h2 h3=>?_,fun i1 i2 p1 p2 b h1 h2 h3 h4 h5 h6 h7 h8=>?_⟩
 ·have e:=hne i' p h1
  rw [qw hd hst hSz ho h1 (hS' i' e h2) e]
  exact (h.now i' p h1 (hS' i' e h2) (hpd i' h3)).step k
 ·have e1:=hne i1 p1 h1
  have e2:=hne i2 p2 h2
  rw [qw hd hst hSz ho h1 (hS' i1 e1 h3) e1] at h7
  rw [qw hd hst hSz ho h2 (hS' i2 e2 h4) e2] at h8
  exact h.dis i1 i2 p1 p2 b h1 h2 (hS' i1 e1 h3) (hS' i2 e2 h4) (hpd i1 h5) (hpd i2 h6) h7 h8
omit hb in
theorem Flo.laid (hSz:∀ j,S j=true->j<ops.size) {L:List (Obj G.S)} {w':World} (h:Flo fl ad w0 S a w M ok L) (k:MI C w (fxU L M Fp) ok M ok L w') {i:Nat} {o:Oper} {p:Flt G.S} (ho:ops[i]?=some o) (hi:S i=false) (hfl:fl i=some p) (hod:o.dst=some p.d) (hpl:p.d<a.tmps.size) {val:Value}
  (hn:NZ w0 w' L M ok p val) (hb:∀ b,val.ownBlock=some b->b=w.heap.size):Flo fl ad w0 (fun j=>S j||decide (j=i)) (a.put o.dst val) w' M ok L:=by
 have hS':∀ i',i'≠i->(S i'||decide (i'=i))=true->S i'=true:=fun i' h1 h2=>by simpa [h1] using h2
 have hpd:∀ i',(∀ j,ad j=some i'->(S j||decide (j=i))=false)->∀ j,ad j=some i'->S j=false:=fun i' h1 j hj=>by
  have:=h1 j hj
  simp only [Bool.or_eq_false_iff] at this
  exact this.1
 have hval:(a.put o.dst val).tmps.getD p.d undef=val:=by
  rw [hod]
  simp [Act.put,Array.getD_eq_getD_getElem?,hpl]
 have hnew:∀ i' q b,i'≠i->fl i'=some q->S i'=true->(∀ j,ad j=some i'->S j=false)->(a.tmps.getD q.d undef).ownBlock=some b->val.ownBlock≠some b:=fun i' q b _ h1 h2 h3 h4 h5=>by
  obtain ⟨_,_,_,_,_,_,_,h6⟩:=h.now i' q h1 h2 h3
  have:=(h6 b h4).2.1
  have:=hb b h5
  omega
 refine ⟨fun i' q h1 h2 h3=>?_,fun i1 i2 p1 p2 b h1 h2 h3 h4 h5 h6 h7 h8=>?_⟩
 ·by_cases e:i'=i
  ·subst e
   rw [hfl] at h1;cases h1
   rw [hval];exact hn
  ·rw [qw hd hst hSz ho h1 (hS' i' e h2) e]
   exact (h.now i' q h1 (hS' i' e h2) (hpd i' h3)).step k
 ·by_cases e1:i1=i
  ·by_cases e2:i2=i
   ·omega
   ·subst e1
    rw [hfl] at h1;cases h1
    rw [hval] at h7
    rw [qw hd hst hSz ho h2 (hS' i2 e2 h4) e2] at h8
    exact (hnew i2 p2 b e2 h2 (hS' i2 e2 h4) (hpd i2 h6) h8 h7).elim
  ·by_cases e2:i2=i
   ·subst e2
    rw [hfl] at h2;cases h2
    rw [hval] at h8
    rw [qw hd hst hSz ho h1 (hS' i1 e1 h3) e1] at h7
    exact (hnew i1 p1 b e1 h1 (hS' i1 e1 h3) (hpd i1 h5) h7 h8).elim
   ·rw [qw hd hst hSz ho h1 (hS' i1 e1 h3) e1] at h7
    rw [qw hd hst hSz ho h2 (hS' i2 e2 h4) e2] at h8
    exact h.dis i1 i2 p1 p2 b h1 h2 (hS' i1 e1 h3) (hS' i2 e2 h4) (hpd i1 h5) (hpd i2 h6) h7 h8
omit hb in
theorem Flo.taken (hSz:∀ j,S j=true->j<ops.size) {L L':List (Obj G.S)} {w':World} {M':Mem} {ok':Okc} {p:Flt G.S} {x:MB} (h:Flo fl ad w0 S a w M ok L) (k:MI C w (fxU (L++[.arr p.e p.ty p.xs false]) (o4 M L.length x) Fp) ok M' ok' L' w') {i i0:Nat} {o:Oper} (ho:ops[i]?=some o) (hfl:fl i=none)
  (had:ad i=some i0) (hf0:fl i0=some p) (hs0:S i0=true) (hp0:∀ j,ad j=some i0->S j=false) (hx:x.blk=(a.tmps.getD p.d undef).ownBlock) (val:Value):
  Flo fl ad w0 (fun j=>S j||decide (j=i)) (a.put o.dst val) w' M' ok' L':=by
 have hne:∀ i' p,fl i'=some p->i'≠i:=fun i' p h1 e=>by subst e;rw [hfl] at h1;cases h1
 have hS':∀ i',i'≠i->(S i'||decide (i'=i))=true->S i'=true:=fun i' h1 h2=>by simpa [h1] using h2
 have hpd:∀ i',(∀ j,ad j=some i'->(S j||decide (j=i))=false)->∀ j,ad j=some i'->S j=false:=fun i' h1 j hj=>by
  have:=h1 j hj
  simp only [Bool.or_eq_false_iff] at this
  exact this.1
 have hn0:∀ i',(∀ j,ad j=some i'->(S j||decide (j=i))=false)->i'≠i0:=fun i' h1 e=>by
  subst e
  have:=h1 i had
  simp at this
 refine ⟨fun i' q h1 h2 h3=>?_,fun i1 i2 p1 p2 b h1 h2 h3 h4 h5 h6 h7 h8=>?_⟩
 ·have e:=hne i' q h1
  rw [qw hd hst hSz ho h1 (hS' i' e h2) e]
  refine ((h.now i' q h1 (hS' i' e h2) (hpd i' h3)).adopt x (p:=p) fun b hb hxb=>?_).step k
  rw [hx] at hxb
  exact hn0 i' h3 (h.dis i' i0 q p b h1 hf0 (hS' i' e h2) hs0 (hpd i' h3) hp0 hb hxb)
 ·have e1:=hne i1 p1 h1
  have e2:=hne i2 p2 h2
  rw [qw hd hst hSz ho h1 (hS' i1 e1 h3) e1] at h7
  rw [qw hd hst hSz ho h2 (hS' i2 e2 h4) e2] at h8
  exact h.dis i1 i2 p1 p2 b h1 h2 (hS' i1 e1 h3) (hS' i2 e2 h4) (hpd i1 h5) (hpd i2 h6) h7 h8
omit hb hd hst in
theorem AG {α:Type} {p q:α->Bool}:∀ {l:List α} {x:α},x∈l->(∀ y,q y=true->p y=true)->p x=true->q x=false->(l.filter q).length+1<=(l.filter p).length
 | b:: l,x,hx,hqp,hp,hq=>by
  have mono:∀ l:List α,(l.filter q).length<=(l.filter p).length:=by
   intro l
   induction l with
   | nil=>simp
   | cons c l ih=>
    rw [List.filter_cons,List.filter_cons]
    cases hqc:q c with
    | true=>simp [hqp c hqc];exact ih
    | false=>cases p c<;>simp<;>omega
  rw [List.filter_cons,List.filter_cons]
  cases hx with
  | head=>have:=mono l;simp [hp,hq];exact this
  | tail _ hx=>
   have ih:=AG hx hqp hp hq
   cases hqb:q b with
   | true=>simp [hqp b hqb];exact ih
   | false=>cases p b<;>simp<;>omega
end
end
end Go.Dv

namespace Go.Dv
open Go
section
variable {G:Sig} {C:Cfg G} {ops:Array Oper} {bf:List (List Nat)} {pu:List Nat} {sf:List (Nat×Nat)} {sts curs:Nat->St G.S} {bs:Nat->Bool} {vs:Nat->V G.S} {cg:Nat->Bool} {fl:Nat->Option (Flt G.S)} {ad:Nat->Option Nat}
  {mixed:Bool} {w0:World} {Fp:Fx} {okA:Okc} {d0:List Deferred}
theorem Gl {listed:Array Bool} {i:Nat} (hi:i∈Region.ready .any ops listed):∃ o,ops[i]?=some o/\listed.getD i true=false/\∀ e∈iM o,listed.getD e false=true:=by
 unfold Region.ready at hi
 simp only [List.mem_filter,List.mem_range,Bool.and_eq_true,Bool.not_eq_true'] at hi
 obtain ⟨h1,h2,h3⟩:=hi
 obtain ⟨o,ho⟩:=jF h1
 refine ⟨o,ho,h2,fun e he=>?_⟩
 rw [ho] at h3
 simp only [Option.map_some,Option.getD_some] at h3
 simp only [iM,List.mem_map,List.mem_filter] at he
 obtain ⟨x,⟨hx1,hx2⟩,rfl⟩:=he
 rw [<-Array.all_toList,List.all_eq_true] at h3
 have:=h3 x hx1
 simpa [hx2] using this
theorem OG {listed:Array Bool} {i:Nat} {o:Oper} (ho:ops[i]?=some o) (hl:listed.getD i true=false) (he:∀ e∈iM o,listed.getD e false=true):i∈Region.ready .any ops listed:=by
 unfold Region.ready
 simp only [List.mem_filter,List.mem_range,Bool.and_eq_true,Bool.not_eq_true']
 refine ⟨iO ho,hl,?_⟩
 rw [ho]
 simp only [Option.map_some,Option.getD_some]
 rw [<-Array.all_toList,List.all_eq_true]
 intro x hx
 cases hb:Region.binds .any x with
 | false=>rfl
 | true=>
  have:=he x.on (by simp only [iM,List.mem_map,List.mem_filter];exact ⟨x,⟨hx,hb⟩,rfl⟩)
  simp [this]
theorem Ik {listed:Array Bool} {i:Nat} (h:i<listed.size):listed.getD i true=listed.getD i false:=by
 simp [Array.getD_eq_getD_getElem?,h]
theorem JX {listed:Array Bool} {i:Nat} (h:i<listed.size):(fun j=>(listed.setIfInBounds i true).getD j false)=fun j=>listed.getD j false||decide (j=i):=by
 funext j
 by_cases e:j=i
 ·subst e;simp [Array.getD_eq_getD_getElem?,h]
 ·simp [Array.getD_eq_getD_getElem?,Array.getElem?_setIfInBounds_ne (Ne.symm e),e]
theorem Gm (hst:mY C ops bf pu sf sts curs bs vs cg fl ad) {S:Nat->Bool} {a:Act} {w:World} {M:Mem} {ok:Okc} (h:MM C ops bf sts vs cg fl ad w0 Fp okA d0 S a w M ok) (hall:∀ i,i<ops.size->S i=true):
  MI C w0 Fp okA M ok (sts ops.size).L w/\TR w ok M (sts ops.size).tm a/\a.defers=d0:=by
 obtain ⟨m,hm,hmi,_,h1,h2⟩:=h.mem
 have hL:=KL hst (ops.size-m) m (by omega) (fun j hj1 hj2=>by
  cases hc:cg j with
  | false=>rfl
  | true=>
   have:=h2 j hj1 (by omega) hc
   rw [hall j (by omega)] at this;cases this)
 rw [show m+(ops.size-m)=ops.size by omega] at hL
 have hlen:=AF hst ops.size (Nat.le_refl _)
 refine ⟨by rw [hL];exact hmi,⟨by rw [hlen,h.len],fun t y hy=>?_⟩,h.dfr⟩
 have ht:t<(sts 0).tm.length:=by rw [<-hlen];exact (List.getElem?_eq_some_iff.1 hy).1
 have hget:(sts ops.size).get t=y:=by unfold St.get;rw [List.getD_eq_getElem?_getD,hy];rfl
 rw [<-hget]
 rcases Ii hst ht ops.size (Nat.le_refl _) with ⟨j,p,k1,k2,k3,k4⟩ | ⟨k1,k2⟩
 ·exact (k4 w ok M _).2 (h.wrt j p t ht k2 (hall j k1) k3)
 ·exact (k2 w ok M _).2 (h.unw t ht fun j p hp _=>k1 j p (iO hp) hp)
theorem JY (hb:Bf ops bf) (hd:F3 mixed ops bf=true) (hst:mY C ops bf pu sf sts curs bs vs cg fl ad) {Q:Exit->Act->World->Prop} (hq5:∀ j j' i',ad j=some i'->ad j'=some i'->j=j')
    (hQ:∀ M ok a w,MI C w0 Fp okA M ok (sts ops.size).L w->TR w ok M (sts ops.size).tm a->a.defers=d0->Q .normal a w):
    ∀ (fuel:Nat) (listed:Array Bool) (a:Act) (w:World),listed.size=ops.size->((List.range ops.size).filter fun j=>!listed.getD j false).length<=fuel ->
      (∃ M ok,MM C ops bf sts vs cg fl ad w0 Fp okA d0 (fun j=>listed.getD j false) a w M ok)->wpAny C.P .any ops Q fuel listed a w
  | 0,listed,a,w,hsz,hf,⟨M,ok,h⟩=>by
    have hall:∀ i,i<ops.size->listed.getD i false=true:=by
      intro i hi
      have hnil:(List.range ops.size).filter (fun j=>!listed.getD j false)=[]:=List.eq_nil_of_length_eq_zero (by omega)
      cases hq:listed.getD i false with
      | true=>rfl
      | false=>
        have:i∈(List.range ops.size).filter (fun j=>!listed.getD j false):=by
          simp only [List.mem_filter,List.mem_range,hq];exact ⟨hi,rfl⟩
        rw [hnil] at this;cases this
    obtain ⟨h1,h2,h3⟩:=Gm hst h hall
    refine ⟨?_,hQ M ok a w h1 h2 h3⟩
    cases hr:Region.ready .any ops listed with
    | nil=>rfl
    | cons i l=>
      obtain ⟨o,ho,hl,_⟩:=Gl (ops:=ops) (listed:=listed) (i:=i) (by rw [hr];exact List.mem_cons_self)
      have hi:=iO ho
      rw [Ik (by omega),hall i hi] at hl;cases hl
  | fuel + 1, listed,a,w,hsz,hf,⟨M,ok,h⟩=>by
    refine ⟨fun hr=>?_,fun i hi=>?_⟩
    · have hall:∀ i,i<ops.size->listed.getD i false=true:=by
        intro i
        induction i using Nat.strongRecOn with
        | _ i ih=>
          intro hi
          cases hq:listed.getD i false with
          | true=>rfl
          | false=>
            obtain ⟨o,ho⟩:=jF hi
            have:=OG (listed:=listed) ho (by rw [Ik (by omega)];exact hq) (fun e he=>ih e (hb.lt i o ho e he) (by have:=hb.lt i o ho e he;omega))
            rw [hr] at this;cases this
      obtain ⟨h1,h2,h3⟩:=Gm hst h hall
      exact hQ M ok a w h1 h2 h3
    · obtain ⟨o,ho,hl,hed⟩:=Gl hi
      have hil:=iO ho
      have hSi:(fun j=>listed.getD j false) i=false:=by
        show listed.getD i false=false
        rw [<-Ik (by omega)];exact hl
      have hbe:∀ j,ltB bf j i=true->(fun j=>listed.getD j false) j=true:=by
        intro j hj
        obtain ⟨e,he,h1⟩:=hb.cases ho hj
        rcases h1 with rfl | h1
        · exact hed j he
        · have hei:=hb.lt i o ho e he
          obtain ⟨p,hp⟩:=jF (ops:=ops) (i:=e) (by omega)
          exact h.cl e p hp (hed e he) j h1
      have hs:=hst i o ho
      have hreads:=h.reads hb hd hst ho hSi hbe
      have hwant:=hs.want w ok M a hreads
      have hlen:(curs i).tm.length=a.tmps.size:=by rw [hs.len,AF hst i (by omega),h.len]
      have htr:=PQ hlen hreads
      have hless:((List.range ops.size).filter fun j=>!(listed.setIfInBounds i true).getD j false).length<=fuel:=by
        have hg:=JX (listed:=listed) (i:=i) (by omega)
        have hgy:∀ y,(listed.setIfInBounds i true).getD y false=(listed.getD y false||decide (y=i)):=fun y=>congrFun hg y
        have hq0:listed.getD i false=false:=hSi
        have:=AG (p:=fun j=>!listed.getD j false) (q:=fun j=>!(listed.setIfInBounds i true).getD j false) (l:=List.range ops.size) (x:=i) (by simpa using hil) (fun y hy=>by
          rw [hgy y] at hy
          simp only [Bool.not_or,Bool.and_eq_true] at hy
          exact hy.1) (by rw [hq0];rfl) (by rw [hgy i];simp)
        omega
      have hSz:∀ j,listed.getD j false=true->j<ops.size:=fun j hj=>by
        rw [<-hsz]
        rcases Nat.lt_or_ge j listed.size with h1 | h1
        · exact h1
        · simp [Array.getD_eq_getD_getElem?,h1] at hj
      have more:∀ (val:Value) (w':World) (M':Mem) (ok':Okc),Ex M ok w M' ok' w'->VR w' ok' M' (vs i) val ->
          (∃ m,m<=ops.size/\MI C w0 Fp okA M' ok' (sts m).L w'/\Flo fl ad w0 (fun j=>listed.getD j false||decide (j=i)) (a.put o.dst val) w' M' ok' (sts m).L/\(∀ j,j<m->cg j=true->(listed.getD j false||decide (j=i))=true)/\(∀ j,m<=j->j<ops.size->cg j=true->(listed.getD j false||decide (j=i))=false)) ->
          wpAny C.P .any ops Q fuel (listed.setIfInBounds i true) (a.put o.dst val) w':=by
        intro val w' M' ok' he hv hmem
        have hn:=h.next hd ho hSi hbe he hv hmem
        refine JY hb hd hst hq5 hQ fuel _ _ _ (by simpa using hsz) hless ⟨M',ok',?_⟩
        rw [JX (by omega)]
        exact hn
      -- an operation that changes no objects
      have stay:∀ (m:Nat),cg i=false->(∀ j,j<m->cg j=true->listed.getD j false=true)->(∀ j,m<=j->j<ops.size->cg j=true->listed.getD j false=false) ->
          (∀ j,j<m->cg j=true->(listed.getD j false||decide (j=i))=true)/\(∀ j,m<=j->j<ops.size->cg j=true->(listed.getD j false||decide (j=i))=false):=by
        intro m hc h1 h2
        refine ⟨fun j hj hcj=>by rw [h1 j hj hcj];rfl,fun j hj1 hj2 hcj=>?_⟩
        have hne:j≠i:=by rintro rfl;rw [hc] at hcj;cases hcj
        rw [h2 j hj1 hj2 hcj];simp [hne]
      have same:∀ (val:Value) (hc:cg i=false) (hfl:fl i=none),
          ∃ m,m<=ops.size/\MI C w0 Fp okA M ok (sts m).L w/\Flo fl ad w0 (fun j=>listed.getD j false||decide (j=i)) (a.put o.dst val) w M ok (sts m).L/\(∀ j,j<m->cg j=true->(listed.getD j false||decide (j=i))=true)/\(∀ j,m<=j->j<ops.size->cg j=true->(listed.getD j false||decide (j=i))=false):=by
        intro val hc hfl
        obtain ⟨m,hm,hmi,hfo,h1,h2⟩:=h.mem
        exact ⟨m,hm,hmi,hfo.step hd hst hSz hmi.rebase ho hfl val,stay m hc h1 h2⟩
      -- an operation that has its place in the order
      have placed:∀ (hc:cg i=true),(∀ j,j<i+1->cg j=true->(listed.getD j false||decide (j=i))=true)/\(∀ j,i+1<=j->j<ops.size->cg j=true->(listed.getD j false||decide (j=i))=false):=by
        intro hc
        have hfx:=(hs.fix hc).1
        refine ⟨fun j hj hcj=>?_,fun j hj1 hj2 hcj=>?_⟩
        · by_cases e:j=i
          · simp [e]
          · obtain ⟨p,hp⟩:=jF (ops:=ops) (i:=j) (by omega)
            have hpp:=((hst j p hp).fix hcj).2
            rcases hfx j p hp e hpp.1 with h5 | h5 | h5 | ⟨b,h5,_⟩
            · have:=hb.less j i (by omega) h5;omega
            · have h6:listed.getD j false=true:=hbe j h5
              rw [h6];rfl
            · rw [hpp.2.2] at h5;cases h5
            · rw [hpp.2.1] at h5;cases h5
        · have e:j≠i:=by omega
          obtain ⟨p,hp⟩:=jF (ops:=ops) (i:=j) (by omega)
          have hpp:=((hst j p hp).fix hcj).2
          simp only [e,decide_false,Bool.or_false]
          cases hq:listed.getD j false with
          | false=>rfl
          | true=>
            rcases hfx j p hp e hpp.1 with h5 | h5 | h5 | ⟨b,h5,_⟩
            · have h6:listed.getD i false=true:=h.cl j p hp hq i h5
              have h7:listed.getD i false=false:=hSi
              rw [h7] at h6;cases h6
            · have:=hb.less i j hil h5;omega
            · rw [hpp.2.2] at h5;cases h5
            · rw [hpp.2.1] at h5;cases h5
      unfold wpOp
      simp only [ho]
      rw [hwant]
      rcases hs.stp with ⟨hbf,hvt,hcf,hfl,_⟩ | ⟨hbt,hcf,hfl,_,hpu,hfb,bx,ob,hsf,hob,hsoft⟩ | ⟨hbt,hpu,hcf,hfl,_,hpure⟩ | ⟨hbt,hpu,hsf,hfb,hfl,_,st1,hop,hL1⟩ | ⟨hbt,hpu,hsf,hcf,hvu,_,p,hfl,hod,hpl,hfop⟩ | ⟨hbt,hpu,hsf,hfb,hct,hfl,i0,p,st1,had,hi0,hf0,hlk,hop,hL1⟩
      · rw [hbf]
        simp only [Bool.false_eq_true,if_false]
        refine more undef w M ok (Ex.refl _ _ _) ?_ (same _ hcf hfl)
        rw [hvt]
        exact .tup [] [] rfl (fun j y v hj=>by simp at hj)
      · rw [hbt]
        simp only [if_true]
        obtain ⟨m,hmi,hmb⟩:=h.levelS hb hst ho hSi hbe hpu hsf hfb hcf
        rw [hs.curL,<-hmb] at hob
        obtain ⟨val,hr,hv⟩:=hsoft w0 Fp okA M ok (sts m).L a w hob hmi htr
        refine .inl ?_
        unfold Oper.wp
        rw [hr,Oper.upon_value]
        exact more val w M ok (Ex.refl _ _ _) hv (same _ hcf hfl)
      · rw [hbt]
        simp only [if_true]
        refine .inl ?_
        obtain ⟨m,hm,hmi,hfo,h1,h2⟩:=h.mem
        refine (hpure (sts m).L).2.2 w _ ok M ok a w hmi.rebase htr _ _ fun val w' M' ok' hk he hv=>more val w' M' ok' he hv ?_
        exact ⟨m,hm,hmi.unbase hk,hfo.step hd hst hSz hk ho hfl val,stay m hcf h1 h2⟩
      · rw [hbt]
        simp only [if_true]
        refine .inl ?_
        obtain ⟨hmi,hfo⟩:=h.level hb hst ho hSi hbe hpu hsf hfb
        have hmi2:MI C w (fxU (sts i).L M Fp) ok M ok (⟨iN (o.looksAt ops) 0 (curs i).tm,(curs i).L,(curs i).n0⟩:St G.S).L w:=by
          simp only;rw [hs.curL];exact hmi.rebase
        refine hop.2.2 w _ ok M ok a w hmi2 htr _ _ fun val w' M' ok' hk he hv=>more val w' M' ok' he hv ?_
        rw [hL1] at hk
        have hm':=hmi.unbase hk
        have hfo':=hfo.step hd hst hSz hk ho hfl val
        cases hc:cg i with
        | true=>exact ⟨i+1,by omega,hm',hfo',placed hc⟩
        | false =>
          -- the level stays
          obtain ⟨m,hm,hmi0,_,h1,h2⟩:=h.mem
          have hkeep:=hs.keep hc
          rw [hkeep] at hm' hfo'
          -- both levels carry the same list
          have hL : (sts m).L=(sts i).L:=by
            have fix:∀ j,j<ops.size->j≠i->cg j=true->ltB bf j i=true\/ltB bf i j=true:=by
              intro j hj hne hcj
              obtain ⟨p,hpj⟩:=jF hj
              rcases ((hst j p hpj).fix hcj).1 i o ho (Ne.symm hne) hpu with h5 | h5 | h5 | ⟨b,h5,_⟩
              · exact .inl h5
              · exact .inr h5
              · rw [hfb] at h5;cases h5
              · rw [hsf] at h5;cases h5
            rcases Nat.le_total m i with hle | hle
            · have:=KL hst (i-m) m (by omega) (fun j hj1 hj2=>by
                cases hcj:cg j with
                | false=>rfl
                | true=>
                  rcases fix j (by omega) (by omega) hcj with h5 | h5
                  · exact Bool.noConfusion ((hbe j h5).symm.trans (h2 j hj1 (by omega) hcj))
                  · have:=hb.less j i (by omega) h5;omega)
              rw [show m+(i-m)=i by omega] at this
              exact this.symm
            · have:=KL hst (m-i) i (by omega) (fun j hj1 hj2=>by
                cases hcj:cg j with
                | false=>rfl
                | true=>
                  have hSj:=h1 j (by omega) hcj
                  have hne:j≠i:=by rintro rfl;exact Bool.noConfusion (hSj.symm.trans hSi)
                  rcases fix j (by omega) hne hcj with h5 | h5
                  · have:=hb.less i j hil h5;omega
                  · obtain ⟨p,hpj⟩:=jF (ops:=ops) (i:=j) (by omega)
                    exact Bool.noConfusion ((h.cl j p hpj hSj i h5).symm.trans hSi))
              rw [show i+(m-i)=m by omega] at this
              exact this
          exact ⟨m,hm,by rw [hL];exact hm',by rw [hL];exact hfo',stay m hc h1 h2⟩
      · rw [hbt]
        simp only [if_true]
        refine .inl ?_
        obtain ⟨m,hm,hmi,hfo,h1,h2⟩:=h.mem
        obtain ⟨val,w',hr,hmi',hex,hfn,hblk,hk⟩:=hfop w0 Fp okA M ok (sts m).L a w hmi htr
        unfold Oper.wp
        rw [hr,Oper.upon_value]
        refine more val w' M ok hex ?_ ⟨m,hm,hmi',hfo.laid hd hst hSz hk ho hSi hfl hod (by rw [<-hlen];exact hpl) hfn hblk,stay m hcf h1 h2⟩
        rw [hvu]
        exact .un _
      · rw [hbt]
        simp only [if_true]
        refine .inl ?_
        obtain ⟨hmi,hfo⟩:=h.level hb hst ho hSi hbe hpu hsf hfb
        obtain ⟨o0,ho0,hd0⟩:=Pj hd hst hf0 (by omega)
        have hS0:listed.getD i0 false=true:=by
          rcases ((lY hd).2 i0 i o0 o ho0 ho (by omega) p.d hd0).2 hlk with h5 | h5
          · exact hbe i0 h5
          · have:=hb.less i0 i (by omega) h5;omega
        have hp0:∀ j,ad j=some i0->listed.getD j false=false:=fun j hj=>by
          have:=hq5 j i i0 hj had
          subst this
          exact hSi
        obtain ⟨x,hmA,hexA,hvA,hxb⟩:=hmi.adopt (hfo.now i0 p hf0 hS0 hp0)
        have hmA2:MI C w (fxU ((sts i).L++[.arr p.e p.ty p.xs false]) (o4 M (sts i).L.length x) Fp) ok (o4 M (sts i).L.length x) ok (⟨(iN (o.looksAt ops) 0 (curs i).tm).set p.d (.arr (curs i).L.length),(curs i).L++[.arr p.e p.ty p.xs false],(curs i).n0⟩:St G.S).L w:=by
          simp only;rw [hs.curL];exact hmA.rebase
        have htr2:TR w ok (o4 M (sts i).L.length x) (⟨(iN (o.looksAt ops) 0 (curs i).tm).set p.d (.arr (curs i).L.length),(curs i).L++[.arr p.e p.ty p.xs false],(curs i).n0⟩:St G.S).tm a:=by
          simp only;rw [hs.curL];exact (htr.mono hexA).set p.d hvA
        refine hop.2.2 w _ ok _ ok a w hmA2 htr2 _ _ fun val w' M' ok' hk he hv=>more val w' M' ok' (hexA.trans he) hv ?_
        rw [hL1] at hk
        exact ⟨i+1,by omega,hmA.unbase hk,hfo.taken hd hst hSz hk ho hfl had hf0 hS0 hp0 hxb val,placed hct⟩
end
section
variable {G:Sig} {C:Cfg G} {Φ:FuncId->List Item->St G.S->Option (Ret G.S)} {f:FuncId} {r:Ret G.S}
theorem OH (hS:bG G) (hΦ:o6 C Φ) (hE:ou C) {ops:Array Oper} {st:St G.S} {k:St G.S->Tree G.S} (h:(Px C ops st k).run G Φ f=some r):
  ∃ st',st'.n0=st.n0/\(k st').run G Φ f=some r/\∀ (w0:World) (Fp:Fx) (okA:Okc) (M:Mem) (ok:Okc) (a:Act) (w:World) (id:Nat),MI C w0 Fp okA M ok st.L w->TR w ok M st.tm a ->
   (Code.region id ops true).wp C.P (fun e a' w'=>e = .normal/\∃ M' ok',MI C w0 Fp okA M' ok' st'.L w'/\TR w' ok' M' st'.tm a'/\a'.defers=a.defers) a w:=by
 unfold Px at h
 split at h
 ·rename_i bf hbf
  split at h
  ·rename_i hd
   obtain ⟨sts,curs,bs,vs,cg,fl,ad,h0,hk,hfa,hst⟩:=rZ hS hΦ hE ops.toList [] 0 st k (fun p hp=>by cases hp) List.Pairwise.nil h
   have hst':mY C ops bf (puS C st ops bf) ((H0 (TL st.L) (QE 0 st.tm) [] ops.toList 0).filter fun p=>!LJ ops bf (puS C st ops bf) p.1) sts curs bs vs cg fl ad:=by
    intro j o ho
    have:=hst j o (by simpa using ho)
    rw [Nat.zero_add] at this
    exact this
   rw [Nat.zero_add,Array.length_toList] at hk
   have hn0:∀ i,i<=ops.size->(sts i).n0=st.n0:=by
    intro i
    induction i with
    | zero=>intro _;rw [h0]
    | succ i ih=>
     intro hi
     obtain ⟨o,ho⟩:=jF (ops:=ops) (i:=i) (by omega)
     rw [(hst' i o ho).n0,ih (by omega)]
   refine ⟨sts ops.size,hn0 _ (Nat.le_refl _),hk,fun w0 Fp okA M ok a w id hm ht=>wp_region_draw fun t=>?_⟩
   have hsched:Region.schedule (C.P.follows .mixedOrders) ops t=Region.linearise .any ops t:=by
    unfold Region.schedule
    rcases (lY hd).1 with h1 | h1
    ·simp [h1]
    ·simp [h1]
   rw [hsched]
   have hx:Ex M ok w M ok {w with drawn:=w.drawn+1}:=⟨fun _ _ h=>h,fun _ _ _ h1 h2=>⟨h1,h2⟩⟩
   have hxx:∀ M',Ex M' ok w M' ok {w with drawn:=w.drawn+1}:=fun M'=>⟨fun _ _ h=>h,fun _ _ _ h1 h2=>⟨h1,h2⟩⟩
   have hm':MI C w0 Fp okA M ok st.L {w with drawn:=w.drawn+1}:=
    ⟨fun o ob h=>(hm.objs o ob h).mono hx (fun _ h=>h) (fun _ _=>rfl),hm.dom,hm.dis,hm.own,hm.old,hm.flt,hm.rdA,hm.lt,hm.okN,hm.glob.mono (hxx M).rd,hm.os,hm.tape,hm.output,hm.size,hm.frame,hm.gt,hm.pin⟩
   have ht':TR {w with drawn:=w.drawn+1} ok M st.tm a:=ht.mono hx
   refine wpAny_sound ops.size t _ a _ (JY (w0:=w0) (Fp:=Fp) (okA:=okA) (d0:=a.defers) (SQ hbf) hd hst' hfa.q5 (fun M ok a w h1 h2 h3=>⟨rfl,M,ok,h1,h2,h3⟩) ops.size _ a _ (by simp) (by
    have:=List.length_filter_le (fun j=>!(Array.replicate ops.size false).getD j false) (List.range ops.size)
    simpa using this) ⟨M,ok,⟨0,by omega,by rw [h0];exact hm',⟨fun i p _ hS _=>?_,fun i i' p p' b _ _ hS _ _ _ _ _=>?_⟩,fun j hj=>by omega,fun j _ hj _=>by simp [Array.getD_eq_getD_getElem?,hj]⟩,rfl,by rw [h0];exact ht'.1.symm,fun t ht0 _=>by rw [h0];exact ht'.get t,fun j o t _ ho hS _=>?_,fun i o ho hS=>?_⟩)
   ·rcases Nat.lt_or_ge i ops.size with h1 | h1<;>simp [Array.getD_eq_getD_getElem?,h1] at hS
   ·rcases Nat.lt_or_ge i ops.size with h1 | h1<;>simp [Array.getD_eq_getD_getElem?,h1] at hS
   ·have:=iO ho
    simp [Array.getD_eq_getD_getElem?,this] at hS
   ·have:=iO ho
    simp [Array.getD_eq_getD_getElem?,this] at hS
  ·exact al h
 ·exact al h
end
end Go.Dv

namespace Go.Dv
open Go
section
variable {G:Sig} {C:Cfg G} {Φ:FuncId->List Item->St G.S->Option (Ret G.S)} {f:FuncId} {r:Ret G.S}
theorem Mf.of_steps {P:Program} {b:Frame} {cs:List Frame} {a a':Act} {todo todo':List Item} {w w':World} {R:Value->World->Prop} (h:Steps P (lone (b.at a todo) cs w) (lone (b.at a' todo') cs w')) (k:Mf P b cs a' todo' w' R):Mf P b cs a todo w R:=by
 obtain ⟨v,w2,fr,h1,h2,h3,h4⟩:=k
 exact ⟨v,w2,fr,h1,h.trans h2,h3,h4⟩
theorem Mf.head {P:Program} {b:Frame} {cs:List Frame} {a a':Act} {todo todo':List Item} {w w':World} {R:Value->World->Prop} (h:step P (lone (b.at a todo) cs w) = .next (lone (b.at a' todo') cs w')) (k:Mf P b cs a' todo' w' R):Mf P b cs a todo w R:=
 .of_steps (.one h) k
theorem QL (hS:bG G) (hΦ:o6 C Φ) (hE:ou C):∀ (n:Nat) (q:Bool) (todo:List Item) (st:St G.S),(ev C f n q todo st).run G Φ f=some r ->
  ∀ (w0:World) (Fp:Fx) (okA:Okc) (M:Mem) (ok:Okc) (b:Frame) (cs:List Frame) (a:Act) (w:World),
  (∀ i x,Fp.pin i=some x->i<st.n0)->b.fn=f->b.kind = .normal->a.defers=[]->MI C w0 Fp okA M ok st.L w->TR w ok M st.tm a->Mf C.P b cs a todo w (Ek C w0 Fp okA r)
 | 0,q,todo,st,h=>al h
 | n + 1,q,todo,st,h=>by
  intro w0 Fp okA M ok b cs a w hnp hb hk hd hm ht
  have ih:=QL hS hΦ hE n
  unfold ev at h
  split at h
  ·exact MD hS h hnp hb hk hd hm ht step_end
  ·exact MD hS h hnp hb hk hd hm ht step_ret
  ·exact .head step_skip (ih _ _ _ h w0 Fp okA M ok b cs a w hnp hb hk hd hm ht)
  ·exact .head step_seq (ih _ _ _ h w0 Fp okA M ok b cs a w hnp hb hk hd hm ht)
  ·rename_i c x y k
   obtain ⟨t,st',hL,hn,hp,h⟩:=OC h
   obtain ⟨ht',hc⟩:=hp w0 Fp okA w ok M a hm ht
   exact .head (step_cond hc) (ih _ _ _ h w0 Fp okA M ok b cs a w (by rw [hn];exact hnp) hb hk hd (by rw [hL];exact hm) ht')
  ·exact .head step_block (ih _ _ _ h w0 Fp okA M ok b cs a w hnp hb hk hd hm ht)
  ·exact .head step_inBlock (ih _ _ _ h w0 Fp okA M ok b cs a w hnp hb hk hd hm ht)
  ·exact .head step_loop (ih _ _ _ h w0 Fp okA M ok b cs a w hnp hb hk hd hm ht)
  ·exact .head step_inLoop (ih _ _ _ h w0 Fp okA M ok b cs a w hnp hb hk hd hm ht)
  ·rename_i id k
   split at h
   ·rename_i k' hx
    exact .head (step_exit hx) (ih _ _ _ h w0 Fp okA M ok b cs a w hnp hb hk hd hm ht)
   ·exact al h
  ·rename_i id ops draw k
   split at h
   ·rename_i keep hcut
    obtain ⟨st1,h,e1,e2,e3⟩:=Jz (C:=C) hS fU h
    obtain ⟨M1,k1,k2⟩:=e3 w0 Fp okA M ok w hm
    have ht1:TR w ok M1 st1.tm a:=by rw [e1];exact ht.mono k2
    split at h
    ·rename_i st' hr
     rw [fU,dR] at h
     obtain ⟨hn,M',ok',hm',ht'⟩:=Id hS hr (by rw [e2];exact hnp) k1 ht1
     simp only [Tree.run] at h
     exact hΦ f _ _ r h w0 Fp okA M' ok' b cs a w (by rw [e2];exact hnp) hb hk hd hm' ht'
    ·exact al h
   ·split at h
    ·rename_i hdr
     subst hdr
     obtain ⟨st',hn,h',hw⟩:=OH hS hΦ hE h
     obtain ⟨e,a',w',⟨rfl,M',ok',h1,h2,h3⟩,harr⟩:=hw w0 Fp okA M ok a w id hm ht b k cs
     exact .of_steps harr (ih _ _ _ h' w0 Fp okA M' ok' b cs a' w' (by rw [hn];exact hnp) hb hk (by rw [h3,hd]) h1 h2)
    ·rename_i hdr
     have hdr':draw=false:=by simpa using hdr
     subst hdr'
     obtain ⟨st',hn,h',hw⟩:=Es hS hΦ hE ops.toList 0 st _ (by simp) h
     have hwp:=hw w0 Fp okA M ok a w hm ht (fun e a' w'=>e = .normal/\∃ M' ok',MI C w0 Fp okA M' ok' st'.L w'/\TR w' ok' M' st'.tm a'/\a'.defers=a.defers) (fun M' ok' a' w' h1 h2 h3=>⟨rfl,M',ok',h1,h2,h3⟩)
     rw [Array.length_toList,<-List.range_eq_range'] at hwp
     obtain ⟨e,a',w',⟨rfl,M',ok',h1,h2,h3⟩,harr⟩:=wp_ops _ a w hwp b k cs
     exact .of_steps (.head step_region harr) (ih _ _ _ h' w0 Fp okA M' ok' b cs a' w' (by rw [hn];exact hnp) hb hk (by rw [h3,hd]) h1 h2)
  ·exact al h
theorem Pk (hS:bG G) (hE:ou C):∀ n,o6 C (Phi C n)
 | 0=>fun f todo st r h=>by cases h
 | n+1=>fun f todo st r h w0 Fp okA M ok b cs a w hnp hb hk hd hm ht=>
  QL hS (Pk hS hE n) hE 4000 (LM todo) todo st h w0 Fp okA M ok b cs a w hnp hb hk hd hm ht
end
end Go.Dv

namespace Go.Dv
open Go
section
variable {G:Sig} {C:Cfg G} {f:FuncId}
def Ple (Φ Ψ:FuncId->List Item->St G.S->Option (Ret G.S)):Prop:=∀ f todo st r,Φ f todo st=some r->Ψ f todo st=some r
theorem o8 {Φ Ψ:FuncId->List Item->St G.S->Option (Ret G.S)} (h:Ple Φ Ψ):∀ (t:Tree G.S) (r:Ret G.S),t.run G Φ f=some r->t.run G Ψ f=some r:=by
 intro t
 induction t with
 | ret q=>intro r hr;exact hr
 | fail n=>intro r hr;exact hr
 | br b t e iht ihe=>
  intro r hr
  simp only [Tree.run] at hr ⊢
  split at hr
  ·rename_i hb;rw [if_pos hb];exact iht r hr
  ·rename_i hb;rw [if_neg hb];exact ihe r hr
 | bnd o k ih=>
  intro r hr
  simp only [Tree.run] at hr ⊢
  cases o with
  | none=>cases hr
  | some x=>exact ih x r hr
 | call g todo st rt k ih=>
  intro r hr
  simp only [Tree.run] at hr ⊢
  cases hp:Φ g todo st with
  | none=>rw [hp] at hr;cases hr
  | some q=>
   rw [hp] at hr
   rw [h g todo st q hp]
   simp only [Option.bind_some] at hr ⊢
   cases hq:aC G rt q.1 with
   | none=>rw [hq] at hr;cases hr
   | some p=>rw [hq] at hr;simp only [Option.bind_some] at hr ⊢;exact ih p r hr
 | callR g todo st rt bt k ih=>
  intro r hr
  simp only [Tree.run] at hr ⊢
  cases hp:Φ g todo st with
  | none=>rw [hp] at hr;cases hr
  | some q=>
   rw [hp] at hr
   rw [h g todo st q hp]
   simp only [Option.bind_some] at hr ⊢
   cases hq:Ly G rt bt q with
   | none=>rw [hq] at hr;cases hr
   | some p=>rw [hq] at hr;simp only [Option.bind_some] at hr ⊢;exact ih p.1 p.2 r hr
 | callO g todo st ot k ih=>
  intro r hr
  simp only [Tree.run] at hr ⊢
  cases hp:Φ g todo st with
  | none=>rw [hp] at hr;cases hr
  | some q=>
   rw [hp] at hr
   rw [h g todo st q hp]
   simp only [Option.bind_some] at hr ⊢
   cases hq:mI G ot q with
   | none=>rw [hq] at hr;cases hr
   | some p=>rw [hq] at hr;simp only [Option.bind_some] at hr ⊢;exact ih p r hr
 | callW g todo st rt wt k ih=>
  intro r hr
  simp only [Tree.run] at hr ⊢
  cases hp:Φ g todo st with
  | none=>rw [hp] at hr;cases hr
  | some q=>
   rw [hp] at hr
   rw [h g todo st q hp]
   simp only [Option.bind_some] at hr ⊢
   cases hq:Qu G rt wt q with
   | none=>rw [hq] at hr;cases hr
   | some p=>rw [hq] at hr;simp only [Option.bind_some] at hr ⊢;exact ih p.1 p.2 r hr
 | callY g todo st ot bt k ih=>
  intro r hr
  simp only [Tree.run] at hr ⊢
  cases hp:Φ g todo st with
  | none=>rw [hp] at hr;cases hr
  | some q=>
   rw [hp] at hr
   rw [h g todo st q hp]
   simp only [Option.bind_some] at hr ⊢
   cases hq:Qt G ot bt q with
   | none=>rw [hq] at hr;cases hr
   | some p=>rw [hq] at hr;simp only [Option.bind_some] at hr ⊢;exact ih p.1 p.2 r hr
 | jump todo st=>intro r hr;exact h _ _ _ _ hr
theorem JZ : ∀ n,Ple (Phi C n) (Phi C (n+1))
 | 0=>fun f todo st r h=>by cases h
 | n+1=>fun f todo st r h=>o8 (JZ n) _ r h
theorem pY {m n:Nat} (h:m<=n):Ple (Phi C m) (Phi C n):=by
 induction h with
 | refl=>exact fun _ _ _ _ h=>h
 | step _ ih=>exact fun f todo st r h=>JZ _ f todo st r (ih f todo st r h)
open Classical in
noncomputable def Den (C:Cfg G) (f:FuncId) (todo:List Item) (st:St G.S):Option (Ret G.S):=
 if h:∃ r,∃ n,Phi C n f todo st=some r then some h.choose else none
theorem Pl {n:Nat} {todo:List Item} {st:St G.S} {r:Ret G.S} (h:Phi C n f todo st=some r):Den C f todo st=some r:=by
 have hex:∃ r,∃ n,Phi C n f todo st=some r:=⟨r,n,h⟩
 unfold Den
 rw [dif_pos hex]
 obtain ⟨m,hm⟩:=hex.choose_spec
 have h1:=pY (Nat.le_max_left n m) f todo st _ h
 have h2:=pY (Nat.le_max_right n m) f todo st _ hm
 rw [h1] at h2
 exact h2.symm
theorem yP {todo:List Item} {st:St G.S} {r:Ret G.S} (h:Den C f todo st=some r):∃ n,Phi C n f todo st=some r:=by
 unfold Den at h
 split at h
 ·rename_i hex
  cases h
  exact hex.choose_spec
 ·cases h
theorem PR : ∀ (t:Tree G.S) (r:Ret G.S),t.run G (Den C) f=some r->∃ n,t.run G (Phi C n) f=some r:=by
 intro t
 induction t with
 | ret q=>intro r hr;exact ⟨0,hr⟩
 | fail n=>intro r hr;cases hr
 | br b t e iht ihe=>
  intro r hr
  simp only [Tree.run] at hr ⊢
  split at hr
  ·rename_i hb;simp only [if_pos hb];exact iht r hr
  ·rename_i hb;simp only [if_neg hb];exact ihe r hr
 | bnd o k ih=>
  intro r hr
  simp only [Tree.run] at hr ⊢
  cases o with
  | none=>cases hr
  | some x=>exact ih x r hr
 | call g todo st rt k ih=>
  intro r hr
  simp only [Tree.run] at hr ⊢
  cases hp:Den C g todo st with
  | none=>rw [hp] at hr;cases hr
  | some q=>
   rw [hp] at hr
   simp only [Option.bind_some] at hr
   cases hq:aC G rt q.1 with
   | none=>rw [hq] at hr;cases hr
   | some p=>
    rw [hq] at hr
    simp only [Option.bind_some] at hr
    obtain ⟨n,hn⟩:=yP hp
    obtain ⟨m,hm⟩:=ih p r hr
    refine ⟨max n m,?_⟩
    rw [pY (Nat.le_max_left n m) _ _ _ _ hn]
    simp only [Option.bind_some,hq]
    exact o8 (pY (Nat.le_max_right n m)) _ r hm
 | callR g todo st rt bt k ih=>
  intro r hr
  simp only [Tree.run] at hr ⊢
  cases hp:Den C g todo st with
  | none=>rw [hp] at hr;cases hr
  | some q=>
   rw [hp] at hr
   simp only [Option.bind_some] at hr
   cases hq:Ly G rt bt q with
   | none=>rw [hq] at hr;cases hr
   | some p=>
    rw [hq] at hr
    simp only [Option.bind_some] at hr
    obtain ⟨n,hn⟩:=yP hp
    obtain ⟨m,hm⟩:=ih p.1 p.2 r hr
    refine ⟨max n m,?_⟩
    rw [pY (Nat.le_max_left n m) _ _ _ _ hn]
    simp only [Option.bind_some,hq]
    exact o8 (pY (Nat.le_max_right n m)) _ r hm
 | callO g todo st ot k ih=>
  intro r hr
  simp only [Tree.run] at hr ⊢
  cases hp:Den C g todo st with
  | none=>rw [hp] at hr;cases hr
  | some q=>
   rw [hp] at hr
   simp only [Option.bind_some] at hr
   cases hq:mI G ot q with
   | none=>rw [hq] at hr;cases hr
   | some p=>
    rw [hq] at hr
    simp only [Option.bind_some] at hr
    obtain ⟨n,hn⟩:=yP hp
    obtain ⟨m,hm⟩:=ih p r hr
    refine ⟨max n m,?_⟩
    rw [pY (Nat.le_max_left n m) _ _ _ _ hn]
    simp only [Option.bind_some,hq]
    exact o8 (pY (Nat.le_max_right n m)) _ r hm
 | callW g todo st rt wt k ih=>
  intro r hr
  simp only [Tree.run] at hr ⊢
  cases hp:Den C g todo st with
  | none=>rw [hp] at hr;cases hr
  | some q=>
   rw [hp] at hr
   simp only [Option.bind_some] at hr
   cases hq:Qu G rt wt q with
   | none=>rw [hq] at hr;cases hr
   | some p=>
    rw [hq] at hr
    simp only [Option.bind_some] at hr
    obtain ⟨n,hn⟩:=yP hp
    obtain ⟨m,hm⟩:=ih p.1 p.2 r hr
    refine ⟨max n m,?_⟩
    rw [pY (Nat.le_max_left n m) _ _ _ _ hn]
    simp only [Option.bind_some,hq]
    exact o8 (pY (Nat.le_max_right n m)) _ r hm
 | callY g todo st ot bt k ih=>
  intro r hr
  simp only [Tree.run] at hr ⊢
  cases hp:Den C g todo st with
  | none=>rw [hp] at hr;cases hr
  | some q=>
   rw [hp] at hr
   simp only [Option.bind_some] at hr
   cases hq:Qt G ot bt q with
   | none=>rw [hq] at hr;cases hr
   | some p=>
    rw [hq] at hr
    simp only [Option.bind_some] at hr
    obtain ⟨n,hn⟩:=yP hp
    obtain ⟨m,hm⟩:=ih p.1 p.2 r hr
    refine ⟨max n m,?_⟩
    rw [pY (Nat.le_max_left n m) _ _ _ _ hn]
    simp only [Option.bind_some,hq]
    exact o8 (pY (Nat.le_max_right n m)) _ r hm
 | jump todo st=>
  intro r hr
  exact yP hr
theorem QM (C:Cfg G) (f:FuncId) (todo:List Item) (st:St G.S):Den C f todo st=(ev C f 4000 (LM todo) todo st).run G (Den C) f:=by
 cases h:(ev C f 4000 (LM todo) todo st).run G (Den C) f with
 | some r=>
  obtain ⟨n,hn⟩:=PR _ r h
  exact Pl (n:=n+1) hn
 | none=>
  cases hd:Den C f todo st with
  | none=>rfl
  | some r=>
   obtain ⟨n,hn⟩:=yP hd
   cases n with
   | zero=>cases hn
   | succ n=>
    have:=o8 (Ψ:=Den C) (fun f todo st r h=>Pl h) _ r hn
    rw [h] at this;cases this
theorem QN (hS:bG G) (hE:ou C):o6 C (Den C):=fun f todo st r h=>by
 obtain ⟨n,hn⟩:=yP h
 exact Pk hS hE n f todo st r hn
theorem PS {Φ:FuncId->List Item->St G.S->Option (Ret G.S)} {α:Type} (p:Ret G.S->Option α):∀ t:Tree G.S,(t.run G Φ f).bind p=t.runP G Φ f p:=by
 intro t
 induction t with
 | ret r=>rfl
 | fail n=>rfl
 | br b t e iht ihe=>
  simp only [Tree.run,Tree.runP]
  split
  ·exact iht
  ·exact ihe
 | bnd o k ih=>
  simp only [Tree.run,Tree.runP]
  cases o with
  | none=>rfl
  | some x=>exact ih x
 | call g todo st rt k ih=>
  simp only [Tree.run,Tree.runP]
  cases (Φ g todo st).bind fun q=>aC G rt q.1 with
  | none=>rfl
  | some x=>exact ih x
 | callR g todo st rt bt k ih=>
  simp only [Tree.run,Tree.runP]
  cases (Φ g todo st).bind fun q=>Ly G rt bt q with
  | none=>rfl
  | some x=>exact ih x.1 x.2
 | callO g todo st ot k ih=>
  simp only [Tree.run,Tree.runP]
  cases (Φ g todo st).bind fun q=>mI G ot q with
  | none=>rfl
  | some x=>exact ih x
 | callW g todo st rt wt k ih=>
  simp only [Tree.run,Tree.runP]
  cases (Φ g todo st).bind fun q=>Qu G rt wt q with
  | none=>rfl
  | some x=>exact ih x.1 x.2
 | callY g todo st ot bt k ih=>
  simp only [Tree.run,Tree.runP]
  cases (Φ g todo st).bind fun q=>Qt G ot bt q with
  | none=>rfl
  | some x=>exact ih x.1 x.2
 | jump todo st=>rfl
theorem ab (C:Cfg G) (f:FuncId) (todo:List Item) (st:St G.S) {α:Type} (p:Ret G.S->Option α):
  (Den C f todo st).bind p=(ev C f 4000 (LM todo) todo st).runP G (Den C) f p:=by
 rw [QM,PS]
def Il (id:Nat):Code->List Item->Option (List Item)
 | .region i ops d,k=>if i=id then some (.code (.region i ops d):: k) else none
 | .seq x y,k=>match Il id x (.code y:: k) with
  | some t=>some t
  | none=>Il id y k
 | .cond _ x y,k=>match Il id x k with
  | some t=>some t
  | none=>Il id y k
 | .block i x,k=>Il id x (.inBlock i:: k)
 | .loop x,k=>Il id x (.inLoop x:: k)
 | _,_=>none
def az (C:Cfg G) (f:FuncId):List Item:=match C.P.funcs[f]? with
 | some fn=>match fn.body with
  | some c=>[.code c]
  | none=>[]
 | none=>[]
def lbl (C:Cfg G) (f:FuncId) (id:Nat):List Item:=match C.P.funcs[f]? with
 | some fn=>match fn.body with
  | some c=>(Il id c []).getD []
  | none=>[]
 | none=>[]
def ntmps (C:Cfg G) (f:FuncId):Nat:=match C.P.funcs[f]? with
 | some fn=>fn.ntmps
 | none=>0
noncomputable def Fn (C:Cfg G) (f:FuncId) (rt:List Ty) (vs:List (V G.S)):Option (yE G.S rt):=
 (Den C f (az C f) ⟨vs++List.replicate (ntmps C f-vs.length) .un,[],0⟩).bind fun r=>aC G rt r.1
theorem OI (hS:bG G) (hE:ou C) {g:FuncId} {fn:Func} {body:Code} (hf:C.P.funcs[g]?=some fn) (hb:fn.body=some body) {rt:List Ty} {vs:List (V G.S)} {p:yE G.S rt} (h:Fn C g rt vs=some p)
  (hn:vs.length<=fn.ntmps) {w:World} {ok:Okc} {vals:List Value} (hlt:∀ b off,ok b off->b<w.heap.size) (hg:F6 C w ok) (hv:VRs w ok Mem.no vs vals):
  Calls C.P g vals.toArray w (fun e w'=>∃ v,e = .returned v/\(∃ M' ok',VR w' ok' M' (Am G rt p) v/\∀ b off,ok' b off->ok b off\/w.heap.size<=b) /\
   w'.os=w.os/\w'.tape=w.tape/\w'.output=w.output/\w.heap.size<=w'.heap.size/\∀ b,b<w.heap.size->w'.heap[b]?=w.heap[b]?):=by
 unfold Fn at h
 have hbt:az C g=[.code body]:=by simp [az,hf,hb]
 have hnt:ntmps C g=fn.ntmps:=by simp [ntmps,hf]
 rw [hbt,hnt] at h
 cases hd:Den C g [.code body] ⟨vs++List.replicate (fn.ntmps-vs.length) .un,[],0⟩ with
 | none=>rw [hd] at h;cases h
 | some r=>
  rw [hd] at h
  simp only [Option.bind_some] at h
  have hm:MI C w Fx.no ok Mem.no ok [] w:=
   ⟨fun o ob h=>by simp at h,fun o x h=>by simp [Mem.no] at h,fun o1 o2 ob1 ob2 b h=>by simp at h,fun o ob b off h=>by simp at h,fun o ob b h=>by simp at h,fun o ob b h=>by simp at h,fun _ _ h=>h,hlt,fun _ _ h=>.inl h,hg.1,rfl,rfl,rfl,Nat.le_refl _,fun _ _ _=>rfl,hg.2,fun i x h=>by cases h⟩
  refine (yL (QN hS hE) hf hb hm hv hn hd).mono ?_
  rintro e w' ⟨v,rfl,hp⟩
  obtain ⟨M',ok',h1,h2,_⟩:=hp.res
  refine ⟨v,rfl,⟨M',ok',Mk hS h h1,fun b off hk=>?_⟩,hp.os,hp.tape,hp.output,hp.size,fun b hb=>hp.frame b hb (fun h=>h)⟩
  rcases h2 b off hk with h | h | h
  ·exact .inl h
  ·exact .inr h
  ·exact h.elim
end
end Go.Dv

namespace Go.Dv
open Go
section
variable {G:Sig}
def WfV (G:Sig):Nat->V G.S->Prop
 | 0,_=>True
 | k+1,v=>match v with
  | .int t n=>(Lit.int t n).wf=true
  | .str s=>s.length<=maxLen
  | .sl t xs=>xs.length<=maxLen/\∀ x∈xs,∀ c∈Ty.cells G t x,WfV G k c
  | .st n x=>∀ c∈G.cells n x,WfV G k c
  | _=>True
inductive gJ (G:Sig):List Ty->List (V G.S)->Prop
 | nil:gJ G [] []
 | cons (t:Ty) (x:t.den G.S) (ts:List Ty) (vs:List (V G.S)) (h:gJ G ts vs):gJ G (t:: ts) (inj G t x:: vs)
theorem gJ.append {a b:List Ty} {u v:List (V G.S)} (h:gJ G a u) (k:gJ G b v):gJ G (a++b) (u++v):=by
 induction h with
 | nil=>exact k
 | cons t x ts vs h ih=>exact .cons t x _ _ ih
structure Opn (G:Sig) where
 P:Program
 tab:List (TypeId×Ty)
 cty:Nat->List Ty
def Ev (t:TypeId):List (TypeId×Ty)->Option Ty
 | []=>none
 | (a,b):: r=>if a=t then some b else Ev t r
theorem Gn {t:TypeId} {ty:Ty}:∀ {l:List (TypeId×Ty)},Ev t l=some ty->(t,ty)∈l
 | (a,b):: r,h=>by
  simp only [Ev] at h
  split at h
  ·rename_i e;cases h;subst e;exact List.mem_cons_self
  ·exact List.mem_cons_of_mem _ (Gn h)
section
variable (O:Opn G)
mutual
def flat : Nat->TypeId->Option (List Ty)
 | 0,_=>none
 | m+1,t=>match O.P.underlying t with
  | some (.struct fs)=>match AH m fs.toList 0 with
   | some l=>if l.length=O.P.cellsOf t then some l else none
   | none=>none
  | some (.int k)=>some [.int k]
  | some .bool=>some [.bool]
  | some .string=>some [.str]
  | some (.slice e)=>match Ev e O.tab with
   | some ty=>some [.sl ty]
   | none=>none
  | _=>none
def AH : Nat->List Field->Nat->Option (List Ty)
 | 0,_,_=>none
 | _+1,[],_=>some []
 | m+1,f:: r,off=>if f.offset=off then match flat m f.type with
  | some l=>if l.length=O.P.cellsOf f.type then match AH m r (off+l.length) with
   | some l'=>some (l++l')
   | none=>none
   else none
  | none=>none
  else none
end
def SR (O:Opn G):Ty->List Ty
 | .st n=>O.cty n
 | t=>[t]
def SB (P:Program) (t:TypeId):Bool:=match P.underlying t with
 | some (.struct _)=>true
 | some (.array _ _)=>true
 | _=>false
def Ty.isSt : Ty->Bool
 | .st _=>true
 | _=>false
def MN : Bool:=O.tab.all fun p=>decide (flat O 40 p.1=some (SR O p.2))&&decide (O.P.cellsOf p.1=Ty.sz G p.2)&&decide (0<Ty.sz G p.2)&&(SB O.P p.1==p.2.isSt)
end
structure Gp (O:Opn G):Prop where
 closed:MN O=true
 tot:∀ n vs,gJ G (O.cty n) vs->∃ x,G.make n vs=some x/\G.cells n x=vs
theorem Gp.get {O:Opn G} (hO:Gp O) {t:TypeId} {ty:Ty} (h:Ev t O.tab=some ty):flat O 40 t=some (SR O ty)/\O.P.cellsOf t=Ty.sz G ty/\0<Ty.sz G ty/\SB O.P t=ty.isSt:=by
 have:=hO.closed
 unfold MN at this
 rw [List.all_eq_true] at this
 have h1:=this _ (Gn h)
 simp only [Bool.and_eq_true,decide_eq_true_eq,beq_iff_eq] at h1
 exact ⟨h1.1.1.1,h1.1.1.2,h1.1.2,h1.2⟩
section
variable {O:Opn G} {H:Type} {enc:TypeId×Value->H} {w:World} {spare:Nat->Bool} {held:Bool}
def ze (w:World):Okc:=fun b _=>b<w.heap.size
theorem MO {w:World} {a:Addr} {v:Value} (h:w.cell? a=some v):a.spot=none:=by
 unfold World.cell? at h
 split at h
 ·cases hs:a.spot with
  | none=>rfl
  | some s=>rw [hs] at h;simp at h
 ·cases h
theorem cells?_get {w:World} {base:Nat} {a:Addr} {n:Nat} {cs:List Value} (h:w.cells? base a n=some cs):cs.length=n/\∀ j,j<n->w.cell? (a.add j)=cs[j]?:=by
 unfold World.cells? at h
 split at h
 ·refine ⟨by simpa using mapM_some_length h,fun j hj=>?_⟩
  have:=mapM_some_get h j j (by simp [hj])
  exact this
 ·cases h
theorem KM {ts:List Ty} {vs:List (V G.S)} (h:gJ G ts vs):ts.length=vs.length:=by
 induction h with
 | nil=>rfl
 | cons t x ts vs h ih=>simp [ih]
theorem MP (hO:Gp O) {ty:Ty} {e:TypeId} (h:Ev e O.tab=some ty) {vs:List (V G.S)} (hl:gJ G (SR O ty) vs):∃ x:ty.den G.S,Ty.cells G ty x=vs:=by
 cases ty with
 | st n=>obtain ⟨x,_,h2⟩:=hO.tot n vs hl;exact ⟨x,h2⟩
 | int k=>cases hl with | cons t x ts vs h=>cases h;exact ⟨x,rfl⟩
 | bool=>cases hl with | cons t x ts vs h=>cases h;exact ⟨x,rfl⟩
 | str=>cases hl with | cons t x ts vs h=>cases h;exact ⟨x,rfl⟩
 | sl t=>cases hl with | cons t x ts vs h=>cases h;exact ⟨x,rfl⟩
 | ptr t=>cases hl with | cons t x ts vs h=>cases h;exact ⟨x,rfl⟩
theorem AI {α β:Type} {p:Nat->α->β->Prop}:∀ (n:Nat),(∀ i,i<n->∃ x c,p i x c)->∃ xs:List α,xs.length=n/\∀ i x,xs[i]?=some x->∃ c,p i x c
 | 0,_=>⟨[],rfl,fun i x h=>by simp at h⟩
 | n+1,h=>by
  obtain ⟨xs,h1,h2⟩:=AI n (fun i hi=>h i (by omega))
  obtain ⟨x,c,hx⟩:=h n (by omega)
  refine ⟨xs++[x],by simp [h1],fun i y hi=>?_⟩
  by_cases hlt:i<xs.length
  ·rw [List.getElem?_append_left hlt] at hi;exact h2 i y hi
  ·rw [List.getElem?_append_right (by omega)] at hi
   have:i-xs.length=0:=by have:=(List.getElem?_eq_some_iff.1 hi).1;simp at this;omega
   rw [this] at hi
   simp at hi;subst hi
   have:i=n:=by omega
   subst this
   exact ⟨c,hx⟩
theorem PT (hO:Gp O):∀ (fuel:Nat),
    (∀ (m:Nat) (t:TypeId) (tys:List Ty) (cs:List Value) (y:DataW H×List MemPlace),flat O m t=some tys->DataW.trod enc O.P w 0 spare held fuel t cs=some y ->
      ∃ vs,gJ G tys vs/\VRs w (ze w) Mem.no vs cs/\∀ k,∀ v∈vs,WfV G k v):=by
  intro fuel
  induction fuel with
  | zero=>intro m t tys cs y _ h;simp [DataW.trod] at h
  | succ n ih =>
    intro m t tys cs y hf h
    cases m with
    | zero=>simp [flat] at hf
    | succ m=>
      unfold flat at hf
      split at hf
      · rename_i fs hu
        have hf0:AH O m fs.toList 0=some tys/\tys.length=O.P.cellsOf t:=by
          split at hf
          · rename_i l hl
            split at hf
            · rename_i hlen;cases hf;exact ⟨hl,hlen⟩
            · cases hf
          · cases hf
        clear hf
        obtain ⟨hf,hcl⟩:=hf0
        obtain ⟨xs,n',hn,_,hlen,hxl,hget⟩:=DataW.trod_struct hu h
        cases hn
        have key : ∀ (m : Nat) (l:List Field) (off:Nat) (tys:List Ty),AH O m l off=some tys->(∀ f∈l,∃ x,DataW.trod enc O.P w 0 spare held n f.type ((cs.drop f.offset).take (O.P.cellsOf f.type))=some x) ->
            ∃ vs,gJ G tys vs/\VRs w (ze w) Mem.no vs ((cs.drop off).take tys.length)/\∀ k,∀ v∈vs,WfV G k v:=by
          intro m
          induction m with
          | zero=>intro l off tys h;simp [AH] at h
          | succ m ihm=>
            intro l off tys h hall
            cases l with
            | nil=>simp [AH] at h;subst h;exact ⟨[],.nil,by simp;exact .nil,fun k v hv=>by cases hv⟩
            | cons f r=>
              simp only [AH] at h
              split at h
              · rename_i hoff
                split at h
                · rename_i l1 h1
                  split at h
                  · rename_i hl1
                    split at h
                    · rename_i l2 h2
                      cases h
                      obtain ⟨x,hx⟩:=hall f (by simp)
                      obtain ⟨vs1,a1,a2,a3⟩:=ih m f.type l1 _ x h1 hx
                      obtain ⟨vs2,b1,b2,b3⟩:=ihm r (off+l1.length) l2 h2 (fun g hg=>hall g (by simp [hg]))
                      refine ⟨vs1++vs2,a1.append b1,?_,fun k v hv=>?_⟩
                      · have:=a2.append b2
                        rw [hoff,<-hl1] at this
                        have e:(cs.drop off).take (l1++l2).length=(cs.drop off).take l1.length++(cs.drop (off+l1.length)).take l2.length:=by
                          rw [List.length_append,List.take_add,List.drop_drop]
                        rw [e]
                        exact this
                      · rw [List.mem_append] at hv
                        rcases hv with hv | hv
                        · exact a3 k v hv
                        · exact b3 k v hv
                    · cases h
                  · cases h
                · cases h
              · cases h
        obtain ⟨vs,h1,h2,h3⟩:=key m fs.toList 0 tys hf (fun f hf=>by
          obtain ⟨i,hi⟩:=List.mem_iff_getElem?.1 hf
          have hi':fs[i]?=some f:=by simpa using hi
          have hil:i<xs.length:=by rw [hxl];exact (Array.getElem?_eq_some_iff.1 hi').1
          exact ⟨xs[i],by rw [hget i f hi'];exact List.getElem?_eq_getElem hil⟩)
        refine ⟨vs,h1,?_,h3⟩
        rw [List.drop_zero,List.take_of_length_le (by rw [hlen,hcl];exact Nat.le_refl _)] at h2
        exact h2
      · rename_i k hu
        cases hf
        obtain ⟨z,rfl,_,hw⟩:=DataW.trod_int hu h
        refine ⟨[.int k z],.cons (.int k) z [] [] .nil,.sing (.int _ _),fun q v hv=>?_⟩
        simp at hv;subst hv
        cases q with
        | zero=>trivial
        | succ q=>exact hw
      · rename_i hu
        cases hf
        obtain ⟨z,rfl,_⟩:=DataW.trod_bool hu h
        refine ⟨[.bool z],.cons .bool z [] [] .nil,.sing (.bool _),fun q v hv=>?_⟩
        simp at hv;subst hv
        cases q<;>trivial
      · rename_i hu
        cases hf
        obtain ⟨z,rfl,_,hw⟩:=DataW.trod_string hu h
        refine ⟨[.str z.data.toList],.cons .str z.data.toList [] [] .nil,.sing (.str _),fun q v hv=>?_⟩
        simp at hv;subst hv
        cases q with
        | zero=>trivial
        | succ q=>show z.data.toList.length<=_;simpa using hw
      · rename_i e hu
        split at hf
        · rename_i ty hty
          cases hf
          obtain ⟨hfl,hsz,hpos,_⟩:=hO.get hty
          rcases DataW.trod_slice hu h with ⟨rfl,_⟩ | ⟨a,len,cap,elems,rest,n',hn,rfl,_,_,hlc,hcm,hel,hget,_⟩
          · refine ⟨[.sl ty []],.cons (.sl ty) [] [] [] .nil,.sing (.sl0 _ _ _),fun q v hv=>?_⟩
            simp at hv;subst hv
            cases q with
            | zero=>trivial
            | succ q=>exact ⟨Nat.zero_le _,fun x hx=>by cases hx⟩
          · cases hn
            have hone:∀ i,i<len->∃ (x:ty.den G.S) (cs:List Value),w.cells? 0 (a.add (i*Ty.sz G ty)) (Ty.sz G ty)=some cs/\VRs w (ze w) Mem.no (Ty.cells G ty x) cs/\∀ k,∀ c∈Ty.cells G ty x,WfV G k c:=by
              intro i hi
              have:=hget i hi
              rw [hsz] at this
              have hel':elems[i]?=some elems[i]:=List.getElem?_eq_getElem (by rw [hel];exact hi)
              rw [hel'] at this
              simp only [Option.bind_eq_some_iff] at this
              obtain ⟨cs,h1,h2⟩:=this
              obtain ⟨vs,g1,g2,g3⟩:=ih 40 e _ cs _ hfl h2
              obtain ⟨x,hx⟩:=MP hO hty g1
              subst hx
              exact ⟨x,cs,h1,g2,g3⟩
            obtain ⟨xs,hxl,hxs⟩:=AI len hone
            rcases Nat.eq_zero_or_pos len with hl0 | hl0
            · subst hl0
              refine ⟨[.sl ty []],.cons (.sl ty) [] [] [] .nil,.sing (.sl0 _ _ _),fun q v hv=>?_⟩
              simp at hv;subst hv
              cases q with
              | zero=>trivial
              | succ q=>exact ⟨Nat.zero_le _,fun x hx=>by cases hx⟩
            · obtain ⟨b,off,sp⟩:=a
              have hsp:sp=none:=by
                obtain ⟨x,cs,h1,h2,_⟩:=hone 0 hl0
                have h3:=(cells?_get h1).2 0 hpos
                have hcl:0<cs.length:=by rw [(cells?_get h1).1];exact hpos
                rw [List.getElem?_eq_getElem hcl] at h3
                have h4:=MO h3
                simpa [Addr.add] using h4
              subst hsp
              refine ⟨[.sl ty xs],.cons (.sl ty) xs [] [] .nil,.sing ?_,fun q v hv=>?_⟩
              · have hget':∀ (i:Nat) (x:ty.den G.S) (j:Nat) (y:V G.S),xs[i]?=some x->(Ty.cells G ty x)[j]?=some y->∃ v,w.cell? ⟨b,off+(i*Ty.sz G ty+j),none⟩=some v/\VR w (ze w) Mem.no y v:=by
                  intro i x j y hi hj
                  obtain ⟨cs,h1,h2,_⟩:=hxs i x hi
                  obtain ⟨v,hv,hvr⟩:=h2.get hj
                  have hjl:j<Ty.sz G ty:=by rw [<-(cells?_get h1).1];exact (List.getElem?_eq_some_iff.1 hv).1
                  have h3:=(cells?_get h1).2 j hjl
                  rw [jW,jW,hv,Nat.add_assoc] at h3
                  exact ⟨v,h3,hvr⟩
                rw [<-hxl]
                refine .sl1 ty xs b off cap (fun i j=>(w.cell? ⟨b,off+(i*Ty.sz G ty+j),none⟩).getD undef) (by rw [hxl];exact hlc) (fun i x j y hi hj=>?_) (fun i x j y hi hj=>?_)
                · obtain ⟨v,h1,h2⟩:=hget' i x j y hi hj
                  rw [h1]
                  exact ⟨rfl,World.block_lt_of_cell? w _ h1⟩
                · obtain ⟨v,h1,h2⟩:=hget' i x j y hi hj
                  rw [h1]
                  exact h2
              · simp at hv;subst hv
                cases q with
                | zero=>trivial
                | succ q=>
                  refine ⟨by rw [hxl];omega,fun x hx c hc=>?_⟩
                  obtain ⟨i,hi⟩:=List.mem_iff_getElem?.1 hx
                  obtain ⟨cs,_,_,h3⟩:=hxs i x hi
                  exact h3 q c hc
        · cases hf
      · cases hf
end
end
end Go.Dv

namespace Go.Dv
open Go Go.RowKit Go.ChangeShapes
section
variable {G:Sig} {C:Cfg G} {O:Opn G}
section
variable {H:Type} {enc:TypeId×Value->H} {w:World} {spare:Nat->Bool} {held:Bool} {base:Nat} {P:Program}
theorem OJ {P:Program} {w:World} {r:Reach} {base:Nat} {t:TypeId} {v:Value} (h:Value.okWide P w r base t v) (hu:(∀ fs,P.underlying t≠some (.struct fs))/\∀ n e,P.underlying t≠some (.array n e)):∀ cs,v ≠ .agg cs:=by
 intro cs e
 subst e
 unfold Value.okWide at h
 split at h
 ·rename_i fs hu';exact hu.1 _ hu'
 ·rename_i n e hu';exact hu.2 _ _ hu'
 ·unfold Cell.okWide at h
  split at h<;>simp_all [Cell.ok]
theorem MQ {v:Value} (h:∀ cs,v ≠ .agg cs):v.cells=#[v]:=by
 cases v<;>first | rfl | exact (h _ rfl).elim
theorem QO (hO:Gp O) {t:TypeId} {ty:Ty} (hf:Ev t O.tab=some ty) {v:Value} {d:DataW H} {p:List MemPlace} (h:DataW.Trod enc O.P w 0 spare held t v d p) (hok:Value.okWide O.P w .any base t v):
    ∃ x:ty.den G.S,VR w (ze w) Mem.no (inj G ty x) v/\∀ k,WfV G k (inj G ty x):=by
  obtain ⟨fuel,h⟩:=h
  obtain ⟨hfl,hsz,hpos,hag⟩:=hO.get hf
  obtain ⟨vs,h1,h2,h3⟩:=PT hO fuel 40 t _ _ _ hfl h
  obtain ⟨x,hx⟩:=MP hO hf h1
  subst hx
  by_cases hst:ty.isSt=true
  · cases ty with
    | st n=>
      have hagg:∃ cs,v = .agg cs:=by
        rw [hst] at hag
        unfold SB at hag
        unfold Value.okWide at hok
        split at hok
        · obtain ⟨cs,h,_⟩:=hok;exact ⟨cs,h⟩
        · obtain ⟨cs,h,_⟩:=hok;exact ⟨cs,h⟩
        · split at hag<;>simp_all
      obtain ⟨cs,rfl⟩:=hagg
      refine ⟨x,?_,fun k=>?_⟩
      · have:=VR.st n x cs.toList h2.1 h2.2
        rw [Array.toArray_toList] at this
        exact this
      · cases k with
        | zero=>trivial
        | succ k=>exact h3 k
    | _=>cases hst
  · have hnag:=OJ hok (by
      have hf:ty.isSt=false:=by simpa using hst
      rw [hf] at hag
      unfold SB at hag
      refine ⟨fun fs e=>?_,fun n e' e=>?_⟩
      · rw [e] at hag;cases hag
      · rw [e] at hag;cases hag)
    rw [MQ hnag] at h2
    have hlist:∀ (y:V G.S),VRs w (ze w) Mem.no [y] #[v].toList->VR w (ze w) Mem.no y v:=fun y hy=>hy.2 0 y v rfl rfl
    cases ty with
    | st n=>exact (hst rfl).elim
    | int k=>exact ⟨x,hlist _ h2,fun q=>h3 q _ (by simp [Ty.cells,inj])⟩
    | bool=>exact ⟨x,hlist _ h2,fun q=>h3 q _ (by simp [Ty.cells,inj])⟩
    | str=>exact ⟨x,hlist _ h2,fun q=>h3 q _ (by simp [Ty.cells,inj])⟩
    | sl t=>exact ⟨x,hlist _ h2,fun q=>h3 q _ (by simp [Ty.cells,inj])⟩
    | ptr t=>exact ⟨x,hlist _ h2,fun q=>h3 q _ (by simp [Ty.cells,inj])⟩
theorem MR (hO:Gp O):∀ {ts:List TypeId} {tys:List Ty},ts.map (Ev · O.tab)=tys.map some->∀ {vs:List Value} {ds:List (DataW H)} {p:List MemPlace},DataW.TrodAll enc O.P w 0 spare held ts vs ds p ->
  (∀ (j:Nat) t v,ts[j]?=some t->vs[j]?=some v->Value.okWide O.P w .any base t v) ->
  ∃ us,gJ G tys us/\VRs w (ze w) Mem.no us vs/\(∀ k,∀ u∈us,WfV G k u)/\ds.length=ts.length
 | [],[],_,vs,ds,p,h,_=>by
  obtain ⟨rfl,rfl,rfl⟩:=trodAll_nil h
  exact ⟨[],.nil,.nil,fun k u hu=>(List.not_mem_nil hu).elim,rfl⟩
 | t:: ts,ty:: tys,hm,vs,ds,p,h,hok=>by
  obtain ⟨v,vs',d,ds',p1,q,rfl,rfl,rfl,h1,h2⟩:=trodAll_cons h
  simp only [List.map_cons,List.cons.injEq] at hm
  obtain ⟨x,g1,g2⟩:=QO hO hm.1 h1 (hok 0 t v rfl rfl)
  obtain ⟨us,k1,k2,k3,k4⟩:=MR hO hm.2 h2 (fun j t' v' hj hv=>hok (j+1) t' v' (by simpa using hj) (by simpa using hv))
  refine ⟨inj G ty x:: us,.cons ty x _ _ k1,.cons g1 k2,fun k u hu=>?_,by simp [k4]⟩
  cases hu with
  | head=>exact g2 k
  | tail _ hu=>exact k3 k u hu
 | [],_:: _,hm,_,_,_,_,_=>by simp at hm
 | _:: _,[],hm,_,_,_,_,_=>by simp at hm
theorem Gq {P:Program} (hl:laidOutB P=true) {W W':World} (hb:Below W.heap.size W W'):∀ {ts:List TypeId},(∀ t∈ts,P.readableRec t=true/\t<P.types.size)->∀ {vs:List Value} {ds:List (DataW H)} {p:List MemPlace},
  DataW.TrodAll enc P W 0 (fun _=>true) true ts vs ds p->(∀ x∈p,x.block<W.heap.size)->DataW.TrodAll enc P W' 0 (fun b=>decide (b<W.heap.size)) true ts vs ds p
 | [],_,vs,ds,p,h,_=>by
  obtain ⟨rfl,rfl,rfl⟩:=trodAll_nil h
  exact rfl
 | t:: ts,hr,vs,ds,p,h,hlt=>by
  obtain ⟨v,vs',d,ds',p1,q,rfl,rfl,rfl,h1,h2⟩:=trodAll_cons h
  refine ⟨p1,q,Below.trod hl (hr t (by simp)).1 (hr t (by simp)).2 h1 hb (fun x hx=>hlt x (by simp [hx])),Gq hl hb (fun t ht=>hr t (by simp [ht])) h2 (fun x hx=>hlt x (by simp [hx])),rfl⟩
end
theorem MS (hS:bG G) (hE:ou C) (hO:Gp O) (hP:O.P=C.P) {f:FuncId} {fn:Func} {body:Code} (hf:C.P.funcs[f]?=some fn) (hb:fn.body=some body)
  {tys:List Ty} (htys:fn.params.toList.map (Ev · O.tab)=tys.map some) (hnt:fn.params.size<=fn.ntmps) {tb:TypeId} (hrt:fn.resultTypes=#[tb]) (hbool:C.P.underlying tb=some .bool)
  (hlaid:laidOutB C.P=true) (hrd:∀ t∈fn.params.toList,C.P.readableRec t=true/\t<C.P.types.size) {s:ChangeSpec} (hs:s.vars=[])
  (hsf:∀ (H:Type) (ds:List (DataW H)),ds.length=fn.params.size->s.fn H ds={results:=[.lit (.bool true)],args:=ds})
  (hpure:∀ us,gJ G tys us->(∀ k,∀ u∈us,WfV G k u)->Fn C f [.bool] us=some true)
  {H:Type} {enc:TypeId×Value->H} {apart handsOn:Bool} (W:World) (base:Nat) (args:Array Value) (ds gs:List (DataW H)) (before:List MemPlace)
  (hglob:F6 C W (ze W)) (hval:∀ (j:Nat) t v,fn.params[j]?=some t->args[j]?=some v->Value.okWide C.P W .any base t v)
  (hW:DataW.Whole enc C.P fn.params.toList s.vars apart W args.toList ds gs before):
  Calls C.P f args W fun e W'=>∃ v,e = .returned v/\s.post enc C.P fn apart true handsOn false W args v W':=by
 have hW':=hW
 obtain ⟨p,q,hA,hV,rfl,hfz,hnd⟩:=hW
 have hA':DataW.TrodAll enc O.P W 0 (fun _=>true) true fn.params.toList args.toList ds p:=by rw [hP];exact hA
 obtain ⟨us,h1,h2,h3,h4⟩:=MR (base:=base) hO htys hA' (fun j t v hj hv=>by rw [hP];exact hval j t v (by simpa using hj) (by simpa using hv))
 have hfn:=hpure us h1 h3
 have hul:us.length=fn.params.size:=by
  have:=congrArg List.length htys
  simp only [List.length_map,Array.length_toList] at this
  rw [<-KM h1,<-this]
 have hc:=OI hS hE hf hb hfn (by rw [hul];exact hnt) (w:=W) (ok:=ze W) (fun b off h=>h) hglob h2
 rw [Array.toArray_toList] at hc
 refine hc.mono ?_
 rintro e W' ⟨v,rfl,⟨M',ok',hv,_⟩,hos,htape,hout,hsz,hfr⟩
 have hvb:v = .bool true:=by
  generalize hgen:Am G [Ty.bool] (true:Bool)=u at hv
  have:u = .bool true:=hgen.symm
  subst this
  cases hv;rfl
 subst hvb
 have hbel:Below W.heap.size W W':=⟨hos,htape,hout,hsz,hfr⟩
 have hgs:gs=[]/\q=[]:=by
  rw [hs] at hV
  cases gs with
  | nil=>exact ⟨rfl,hV⟩
  | cons _ _=>exact hV.elim
 obtain ⟨rfl,rfl⟩:=hgs
 have hds:ds.length=fn.params.size:=by rw [h4,Array.length_toList]
 refine ⟨_,rfl,ds,[],p++[],[],p,[],hW',?_,?_,?_,hbel.frame _,fun h=>by cases h⟩
 ·rw [List.append_nil,hsf H ds hds,hrt]
  exact trodAll_mk1 ⟨1,by simp [DataW.trod,hbool,Value.cells]⟩
 ·rw [List.append_nil,hsf H ds hds]
  exact Gq hlaid hbel hrd hA (fun x hx=>by have:=hW'.lt x (by simp [hx]);exact this)
 ·rw [List.append_nil,hsf H ds hds,hs]
  rfl
end
end Go.Dv

namespace Go.Dv
open Go
section
variable (S:Nat->Type)
def Ty.leaf : Ty->Bool
 | .st _=>false
 | .ptr _=>false
 | .sl t=>t.np
 | _=>true
def J0 : (t:Ty)->t.den S->V S
 | .int k,n=>.int k n
 | .bool,b=>.bool b
 | .str,s=>.str s
 | .sl t,xs=>.sl t xs
 | .st n,x=>.st n x
 | .ptr _,_=>.un
def ii : List Ty->Type
 | []=>Unit
 | t:: r=>t.den S×ii r
def cellsL : (ts:List Ty)->ii S ts->List (V S)
 | [],_=>[]
 | t:: r,p=>J0 S t p.1:: cellsL r p.2
def pl0 : (t:Ty)->V S->Option (t.den S)
 | .int k,.int k' n=>if k'=k then some n else none
 | .bool,.bool b=>some b
 | .bool,.lb b=>some b
 | .str,.str s=>some s
 | .sl t,.sl t' xs=>if h:t'=t then some (h▸xs) else none
 | .sl _,.nil _ _=>some []
 | _,_=>none
def qx : (ts:List Ty)->List (V S)->Option (ii S ts)
 | [],[]=>some ()
 | t:: r,c:: cs=>match pl0 S t c with
  | some x=>match qx r cs with
   | some y=>some (x,y)
   | none=>none
  | none=>none
 | _,_=>none
end
section
variable {G:Sig}
theorem QP {t:Ty} {c:V G.S} {x:t.den G.S} (h:pl0 G.S t c=some x) {w:World} {ok:Okc} {M:Mem} {v:Value} (hv:VR w ok M c v):VR w ok M (J0 G.S t x) v:=by
 cases t with
 | int k=>
  cases c<;>first | (cases h;done) | skip
  rename_i k' n
  simp only [pl0] at h
  split at h
  ·rename_i e;cases h;subst e;exact hv
  ·cases h
 | bool=>
  cases c<;>first | (cases h;done) | skip
  ·have h':=Option.some.inj h;subst h';exact hv
  ·have h':=Option.some.inj h;subst h';cases hv;exact .bool _
 | str=>
  cases c<;>first | (cases h;done) | skip
  have h':=Option.some.inj h;subst h';exact hv
 | sl t=>
  cases c<;>first | (cases h;done) | skip
  ·rename_i t' xs
   simp only [pl0] at h
   split at h
   ·rename_i e;subst e;cases h;exact hv
   ·cases h
  ·have h':=Option.some.inj h;subst h';cases hv;exact .sl0 _ _ _
 | st n=>cases c<;>cases h
 | ptr t=>cases c<;>cases h
theorem MT : ∀ {ts:List Ty} {cs:List (V G.S)} {p:ii G.S ts},qx G.S ts cs=some p->∀ {w:World} {ok:Okc} {M:Mem} {l:List Value},VRs w ok M cs l->VRs w ok M (cellsL G.S ts p) l
 | [],[],p,h,w,ok,M,l,hv=>hv
 | [],_:: _,p,h,_,_,_,_,_=>by cases h
 | t:: ts,[],p,h,_,_,_,_,_=>by cases h
 | t:: ts,c:: cs,p,h,w,ok,M,l,hv=>by
  obtain ⟨v,l',rfl,h1,h2⟩:=hv.inv
  simp only [qx] at h
  split at h
  ·rename_i x hx
   split at h
   ·rename_i y hy
    cases h
    exact .cons (QP hx h1) (MT hy h2)
   ·cases h
  ·cases h
theorem DU : ∀ (ts:List Ty) (p:ii G.S ts),(cellsL G.S ts p).length=ts.length
 | [],_=>rfl
 | t:: ts,p=>by simp [cellsL,DU ts p.2]
theorem AJ : ∀ (ts:List Ty) (p:ii G.S ts),ts.all Ty.leaf=true->(cellsL G.S ts p).all V.scal=true
 | [],_,_=>rfl
 | t:: ts,p,h=>by
  simp only [List.all_cons,Bool.and_eq_true] at h
  simp only [cellsL,List.all_cons,AJ ts p.2 h.2,Bool.and_true]
  cases t with
  | sl t=>exact h.1
  | st n=>cases h.1
  | ptr t=>cases h.1
  | _=>rfl
theorem PU {t:Ty} (x:t.den G.S) (h:t.leaf=true):pl0 G.S t (inj G t x)=some x/\J0 G.S t x=inj G t x:=by
 cases t with
 | int k=>exact ⟨by simp [pl0,inj],rfl⟩
 | bool=>exact ⟨rfl,rfl⟩
 | str=>exact ⟨rfl,rfl⟩
 | sl t=>exact ⟨by simp [pl0,inj],rfl⟩
 | st n=>cases h
 | ptr t=>cases h
theorem AK : ∀ {ts:List Ty} {vs:List (V G.S)},ts.all Ty.leaf=true->gJ G ts vs->∃ p,qx G.S ts vs=some p/\cellsL G.S ts p=vs
 | [],vs,_,h=>by cases h;exact ⟨(),rfl,rfl⟩
 | t:: ts,vs,hl,h=>by
  cases h with
  | cons _ x _ vs h=>
   simp only [List.all_cons,Bool.and_eq_true] at hl
   obtain ⟨p,h1,h2⟩:=AK hl.2 h
   obtain ⟨h3,h4⟩:=PU x hl.1
   exact ⟨(x,p),by simp [qx,h3,h1],by simp only [cellsL,h4,h2]⟩
theorem MU {t:Ty} {c:V G.S} {x:t.den G.S} (h:pl0 G.S t c=some x) (hc:c.scal=true):J0 G.S t x=c:=by
 cases t with
 | int k=>
  cases c<;>first | (cases h;done) | skip
  rename_i k' n
  simp only [pl0] at h
  split at h
  ·rename_i e;cases h;subst e;rfl
  ·cases h
 | bool=>
  cases c<;>first | (cases h;done) | (cases hc;done) | skip
  have h':=Option.some.inj h;subst h';rfl
 | str=>
  cases c<;>first | (cases h;done) | skip
  have h':=Option.some.inj h;subst h';rfl
 | sl t=>
  cases c<;>first | (cases h;done) | (cases hc;done) | skip
  rename_i t' xs
  simp only [pl0] at h
  split at h
  ·rename_i e;subst e;cases h;rfl
  ·cases h
 | st n=>cases c<;>cases h
 | ptr t=>cases c<;>cases h
theorem DV : ∀ {ts:List Ty} {cs:List (V G.S)} {p:ii G.S ts},qx G.S ts cs=some p->cs.all V.scal=true->cellsL G.S ts p=cs
 | [],[],p,h,_=>rfl
 | [],c:: cs,p,h,_=>by cases h
 | t:: ts,[],p,h,_=>by cases h
 | t:: ts,c:: cs,p,h,hc=>by
  simp only [List.all_cons,Bool.and_eq_true] at hc
  simp only [qx] at h
  split at h
  ·rename_i x hx
   split at h
   ·rename_i y hy
    cases h
    simp only [cellsL]
    rw [MU hx hc.1,DV hy hc.2]
   ·cases h
  ·cases h
theorem DW : ∀ (ts:List Ty) (p:ii G.S ts),ts.all Ty.flat=true->(cellsL G.S ts p).all V.scl=true
 | [],p,_=>rfl
 | t:: ts,p,h=>by
  simp only [List.all_cons,Bool.and_eq_true] at h
  simp only [cellsL,List.all_cons,DW ts p.2 h.2,Bool.and_true]
  cases t<;>first | rfl | cases h.1
structure SOk (G:Sig) (n:Nat) (ts:List Ty) (to:G.S n->ii G.S ts) (of:ii G.S ts->G.S n):Prop where
 csz:G.csz n=ts.length
 cells:∀ x,G.cells n x=cellsL G.S ts (to x)
 make:∀ cs,G.make n cs=(qx G.S ts cs).map of
 leaf:ts.all Ty.leaf=true
 inv:∀ p,to (of p)=p
 fl:G.fl n=ts.all Ty.flat
structure QQ (G:Sig) (n:Nat):Prop where
 len:∀ x,(G.cells n x).length=G.csz n
 make:∀ cs x,G.make n cs=some x->∀ w ok M l,VRs (G:=G) w ok M cs l->VRs w ok M (G.cells n x) l
 imm:∀ x,(G.cells n x).all V.scal=true
 fl:∀ x,G.fl n=true->(G.cells n x).all V.scl=true
 mkc:∀ cs x,G.make n cs=some x->cs.all V.scal=true->G.cells n x=cs
theorem SOk.law {n:Nat} {ts:List Ty} {to:G.S n->ii G.S ts} {of:ii G.S ts->G.S n} (h:SOk G n ts to of):QQ G n:=by
 refine ⟨fun x=>?_,fun cs x hx w ok M l hv=>?_,fun x=>?_,fun x hf=>?_,fun cs x hx hc=>?_⟩
 ·rw [h.cells,DU,h.csz]
 ·rw [h.make] at hx
  cases hp:qx G.S ts cs with
  | none=>rw [hp] at hx;cases hx
  | some p=>
   rw [hp] at hx
   cases hx
   rw [h.cells,h.inv]
   exact MT hp hv
 ·rw [h.cells];exact AJ _ _ h.leaf
 ·rw [h.cells];exact DW _ _ (by rw [<-h.fl];exact hf)
 ·rw [h.make] at hx
  cases hp:qx G.S ts cs with
  | none=>rw [hp] at hx;cases hx
  | some p=>
   rw [hp] at hx
   cases hx
   rw [h.cells,h.inv]
   exact DV hp hc
theorem SOk.tot {n:Nat} {ts:List Ty} {to:G.S n->ii G.S ts} {of:ii G.S ts->G.S n} (h:SOk G n ts to of) {vs:List (V G.S)} (hl:gJ G ts vs):∃ x,G.make n vs=some x/\G.cells n x=vs:=by
 obtain ⟨p,h1,h2⟩:=AK h.leaf hl
 exact ⟨of p,by rw [h.make,h1];rfl,by rw [h.cells,h.inv,h2]⟩
theorem QQ.empty {n:Nat} (h:G.S n->False):QQ G n:=⟨fun x=>(h x).elim,fun _ x _=>(h x).elim,fun x=>(h x).elim,fun x=>(h x).elim,fun _ x=>(h x).elim⟩
theorem OK (h:∀ n,QQ G n):bG G:=⟨fun n=>(h n).len,fun n cs x hx=>(h n).make cs x hx,fun n=>(h n).imm,fun n=>(h n).fl,fun n=>(h n).mkc⟩
theorem MV {n:Nat} {vs:List (V G.S)} (h:gJ G [.st n] vs):Nonempty (G.S n):=by
 cases h with
 | cons _ x _ _ _=>exact ⟨x⟩
def aA {S:Nat->Type} (l:List (Nat×V S)):Nat->Nat->List (V S)
 | _,0=>[]
 | i,n+1=>(match l with
  | (j,v):: r=>if j=i then v:: aA r (i+1) n else .un:: aA l (i+1) n
  | []=>.un:: aA [] (i+1) n)
end
end Go.Dv

namespace Go.Dv
open Go
def w64 (n:Int):Int:=IntKind.i64.wrap n
def len {α:Type} (l:List α):Int:=Int.ofNat l.length
def ib (b:UInt8):Int:=Int.ofNat b.toNat
def yQ (xs:List (List UInt8)):Option (List (List UInt8)):=if xs.length<=big then some xs else none
def MW (n:Int):Option (List (List UInt8)):=if 0<=n/\n<=big then some [] else none
def Im (xs:List (List UInt8)):Option (List (List UInt8)):=if xs.length<=big then some (Lib.compact (xs.mergeSort fun x y=>decide (x<=y))) else none
def MX {S:Nat->Type}:List (V S)->Option (List (List UInt8))
 | [.sl .str xs]=>yQ xs
 | [.nil _ .str]=>yQ []
 | _=>none
def OL {S:Nat->Type}:List (V S)->Option (List (List UInt8))
 | [.nil _ .str,.int .i64 n]=>MW n
 | _=>none
end Go.Dv

namespace Go.Dv
open Go Go.Proofs Go.Shelf Go.RowKit
variable {P:Program} {ρ:Ren} {G:Sig}
theorem nL {w w':World} (h:Below w.heap.size w w'):w.grownBy w' none:=⟨h.os,h.tape,h.output,h.size,fun k hk _=>h.block k hk⟩
theorem Io (L:Lays2.n16 P ρ) {vs:List (V G.S)} {xs:List (List UInt8)} (h:MX vs=some xs) {okA:Okc} {w:World} {vals:List Value} (hv:VRs w okA Mem.no vs vals):
  Calls P (ρ.f 16) vals.toArray w (fun en w'=>∃ v',en = .returned v'/\w'.ownsRow w.heap.size (ρ.t 9) 1 v' xs.length (xs.map encStr)/\w.grownBy w' none):=by
 unfold MX at h
 have zero:∀ a c,Calls P (ρ.f 16) #[.slice a 0 c] w (fun en w'=>∃ v',en = .returned v'/\w'.ownsRow w.heap.size (ρ.t 9) 1 v' 0 []/\w.grownBy w' none):=by
  intro a c
  cases a with
  | none=>
   refine (Any.slices_Clone_string_nil L 0 c w).mono ?_
   rintro e w' ⟨rfl,rfl⟩
   exact ⟨_,rfl,World.ownsRow_nil _ _ _ _,⟨rfl,rfl,rfl,Nat.le_refl _,fun _ _ _=>rfl⟩⟩
  | some a=>
   refine (Any.slices_Clone_string_zero L a c w).mono ?_
   rintro e w' ⟨v',rfl,h1,_,h2⟩
   exact ⟨_,rfl,h1,nL h2⟩
 split at h
 ·rename_i ys
  unfold yQ at h
  split at h
  ·rename_i hl
   have h:=Option.some.inj h
   subst h
   obtain ⟨v,l',rfl,hv1,hv2⟩:=hv.inv
   obtain ⟨rfl⟩:l'=[]:=by have:=hv2.1;exact List.eq_nil_of_length_eq_zero (by simpa using this.symm)
   have hbb:big=68719476736:=rfl
   rw [hbb] at hl
   generalize hs:V.sl .str ys=s at hv1
   cases hv1 with
   | sl0 t a c=>
    cases hs
    exact zero a c
   | sl1 t zs b off c u hc h1 h2=>
    cases hs
    have hcell:∀ j,j<ys.length->w.cell? ⟨b,off+j,none⟩=some (.string ((ys.map fun s=>(⟨s.toArray⟩:ByteArray)).getD j ByteArray.empty)):=by
     intro j hj
     have g1:=(h1 j ys[j] 0 (.str ys[j]) (List.getElem?_eq_getElem hj) rfl).1
     have g2:=Ia (h2 j ys[j] 0 (.str ys[j]) (List.getElem?_eq_getElem hj) rfl)
     simp only [Ty.sz,Nat.mul_one,Nat.add_zero] at g1
     rw [g1,g2]
     simp [encStr,List.getD_eq_getElem?_getD,hj]
    refine (Any.slices_Clone_string L b off ys.length c (ys.map fun s=>(⟨s.toArray⟩:ByteArray)) w (by simp) (Nat.le_trans (Nat.mul_le_mul_right 16 hl) (by decide)) (fun j hj=>hcell j (by simpa using hj))).mono ?_
    rintro e w' ⟨v',rfl,h3,_,h4⟩
    refine ⟨_,rfl,?_,nL h4⟩
    have e2:((ys.map fun s=>(⟨s.toArray⟩:ByteArray)).take ys.length).map Value.string=ys.map encStr:=by
     rw [List.take_of_length_le (by simp),List.map_map];rfl
    rw [e2] at h3
    exact h3
   | _=>cases hs
  ·cases h
 ·rename_i e t
  have h:xs=[]:=by
   unfold yQ at h
   split at h
   ·exact (Option.some.inj h).symm
   ·cases h
  subst h
  obtain ⟨v,l',rfl,hv1,hv2⟩:=hv.inv
  obtain ⟨rfl⟩:l'=[]:=by have:=hv2.1;exact List.eq_nil_of_length_eq_zero (by simpa using this.symm)
  cases hv1
  exact zero none 0
 ·cases h
theorem KN {i0:TypeInfo} {z:Value} (L:Lays8.n4 P ρ) (hi:P.info? (ρ.t 25)=some i0) (hz:i0.zero=some z) (hs:i0.size=1) (hzc:z.cells.size=1) (hb:i0.bytes<=128) {vs:List (V G.S)} {xs:List (List UInt8)} (h:OL vs=some xs) {okA:Okc} {w:World} {vals:List Value} (hv:VRs w okA Mem.no vs vals):
    Calls P (ρ.f 4) vals.toArray w (fun en w'=>∃ v',en = .returned v'/\w'.ownsRow w.heap.size (ρ.t 25) 1 v' xs.length (xs.map encStr)/\w.grownBy w' none):=by
  have hbb:big=68719476736:=rfl
  unfold OL at h
  split at h
  · rename_i e n
    unfold MW at h
    split at h
    · rename_i hn
      have h:=Option.some.inj h
      subst h
      obtain ⟨v,l',rfl,hv1,hv2⟩:=hv.inv
      obtain ⟨v2,l'',rfl,hv3,hv4⟩:=hv2.inv
      obtain ⟨rfl⟩:l''=[]:=by have:=hv4.1;exact List.eq_nil_of_length_eq_zero (by simpa using this.symm)
      cases hv1
      cases hv3
      obtain ⟨m,rfl⟩:∃ m:Nat,n=m:=⟨n.toNat,by omega⟩
      by_cases hm:m=0
      · subst hm
        refine (Any8.slices_Grow_room L none 0 0 0 w (by omega) (by omega) (by omega) (by omega)).mono ?_
        rintro e w' ⟨rfl,rfl⟩
        exact ⟨_,rfl,World.ownsRow_nil _ _ _ _,⟨rfl,rfl,rfl,Nat.le_refl _,fun _ _ _=>rfl⟩⟩
      · refine (Any8.slices_Grow_grow L i0 z hi hz (by omega) none 0 0 m [] w (by omega) (by omega) (by
          calc (0+m)*i0.bytes<=big*128:=Nat.mul_le_mul (by omega) hb
            _<=140737488355328:=by rw [hbb];omega) (by omega) (by simp) (fun _=>rfl) (fun a h=>by cases h)).mono ?_
        rintro e w' ⟨rfl,rfl⟩
        have hge:=grownCap_ge w (0+m) 0 (ρ.t 25)
        have hle:=grownCap_le_maxLen w (0+m) 0 (ρ.t 25) (by unfold maxLen;omega)
        refine ⟨_,rfl,⟨rfl,.inr ⟨_,_,_,rfl,Nat.le_refl _,heap_alloc_new _ _,Nat.zero_le _,hle,?_,by simp⟩⟩,⟨rfl,rfl,rfl,by simp,fun k hk _=>lW _ _ k (by simpa using hk)⟩⟩
        have h1:grownCap w (0+m) 0 (ρ.t 25)-(0+m)+m=grownCap w (0+m) 0 (ρ.t 25):=by omega
        simp [size_zeroCells,hzc]
        simp only [Nat.zero_add] at h1
        omega
    · cases h
  · cases h
def Ew (P:Program) (t:TypeId) (sz:Nat):Bool:=match P.info? t with
 | some i=>(match i.zero with | some z=>(i.size==sz)&&(z.cells.size==sz)&&Nat.ble i.bytes 1024&&Nat.blt 0 sz | none=>false)
 | none=>false
theorem J1 (L:Lays8.n4 P ρ) {sz:Nat} (hi:Ew P (ρ.t 25) sz=true) {n:Int} {w:World} (h0:0<=n) (h1:n<=big):
    Calls P (ρ.f 4) #[.slice none 0 0,.int .i64 n] w (fun en w'=>∃ v',en = .returned v'/\w'.ownsRow w.heap.size (ρ.t 25) sz v' 0 []/\w.grownBy w' none):=by
  have hbb:big=68719476736:=rfl
  unfold Ew at hi
  split at hi
  · rename_i i0 hi0
    split at hi
    · rename_i z hz
      simp only [Bool.and_eq_true_iff,beq_iff_eq] at hi
      obtain ⟨⟨⟨hs,hzc⟩,hb⟩,hpos⟩:=hi
      have hb:=Nat.le_of_ble_eq_true hb
      have hpos:0<sz:=by rw [Nat.blt_eq] at hpos;exact hpos
      obtain ⟨m,rfl⟩:∃ m:Nat,n=m:=⟨n.toNat,by omega⟩
      by_cases hm:m=0
      · subst hm
        refine (Any8.slices_Grow_room L none 0 0 0 w (by omega) (by omega) (by omega) (by omega)).mono ?_
        rintro e w' ⟨rfl,rfl⟩
        exact ⟨_,rfl,World.ownsRow_nil _ _ _ _,⟨rfl,rfl,rfl,Nat.le_refl _,fun _ _ _=>rfl⟩⟩
      · refine (Any8.slices_Grow_grow L i0 z hi0 hz (by omega) none 0 0 m [] w (by omega) (by omega) (by
          calc (0+m)*i0.bytes<=big*1024:=Nat.mul_le_mul (by omega) hb
            _<=140737488355328:=by rw [hbb];omega) (by omega) (by simp) (fun _=>rfl) (fun a h=>by cases h)).mono ?_
        rintro e w' ⟨rfl,rfl⟩
        have hge:=grownCap_ge w (0+m) 0 (ρ.t 25)
        have hle:=grownCap_le_maxLen w (0+m) 0 (ρ.t 25) (by unfold maxLen;omega)
        refine ⟨_,rfl,⟨by simp,.inr ⟨_,_,_,rfl,Nat.le_refl _,heap_alloc_new _ _,Nat.zero_le _,hle,?_,by simp⟩⟩,⟨rfl,rfl,rfl,by simp,fun k hk _=>lW _ _ k (by simpa using hk)⟩⟩
        have h1:(grownCap w (0+m) 0 (ρ.t 25)-(0+m))+m=grownCap w (0+m) 0 (ρ.t 25):=by omega
        simp only [Nat.zero_add] at h1
        simp [size_zeroCells,hzc]
        rw [<-Nat.add_mul]
        congr 1
        omega
    · cases hi
  · cases hi
theorem MY (L:SlLaysE0.n41 P ρ) {sz:Nat} (hi:Ew P (ρ.t 23) sz=true) {a:Option Addr} {n c:Nat} {us:List Value} {w:World} (hown:w.ownsRow 0 (ρ.t 23) sz (.slice a n c) n us) (h1:∀ u∈us,u.oneCell'=true) (hn:n<=big):
    Calls P (ρ.f 41) #[.slice a n c] w (fun en w'=>∃ v',en = .returned v'/\w'.ownsRow w.heap.size (ρ.t 23) sz v' n us/\w.grownBy w' none):=by
  have hbb:big=68719476736:=rfl
  unfold Ew at hi
  split at hi
  · rename_i i0 hi0
    split at hi
    · rename_i z hz
      simp only [Bool.and_eq_true_iff,beq_iff_eq] at hi
      obtain ⟨⟨⟨hs,hzc⟩,hb⟩,hpos⟩:=hi
      have hb:=Nat.le_of_ble_eq_true hb
      have hpos:0<sz:=by rw [Nat.blt_eq] at hpos;exact hpos
      rcases hown.2 with ⟨e1,e2⟩ | ⟨g,cap,cur,e1,_,e3,e4,e5,e6,e7⟩
      · cases e1
        have hu:us=[]:=List.eq_nil_of_length_eq_zero (by rw [hown.1,Nat.zero_mul])
        subst hu
        refine (AnyE.slices_Clone_nil L 0 0 w).mono ?_
        rintro e w' ⟨rfl,rfl⟩
        exact ⟨_,rfl,World.ownsRow_nil _ _ _ _,⟨rfl,rfl,rfl,Nat.le_refl _,fun _ _ _=>rfl⟩⟩
      · cases e1
        refine (AnyE.slices_Clone L i0 z sz i0.bytes hi0 hz hs rfl hzc hpos (fun w=>?_) g 0 n c us w hown.1 (by unfold maxLen;omega) ?_ (fun j u hj=>?_) h1).mono ?_
        · rw [run_sizeOf w hi0]
          unfold Program.cellsOf
          rw [hi0]
          simp [hs]
        · calc n*i0.bytes<=big*1024:=Nat.mul_le_mul hn hb
            _<=140737488355328:=by rw [hbb];omega
        · rw [<-e7] at hj
          have hjl:j<n*sz:=by have:=(List.getElem?_eq_some_iff.1 hj).1;simp at this;omega
          rw [List.getElem?_take_of_lt hjl] at hj
          unfold World.cell?
          simp [e3]
          simpa using hj
        · rintro e w' ⟨v',rfl,g1,_,g2⟩
          exact ⟨_,rfl,g1,nL g2⟩
    · cases hi
  · cases hi
def J2 (P:Program) (t:TypeId):Bool:=match P.info? t with
 | some i=>(match i.zero with | some z=>(i.size==1)&&(z.cells.size==1)&&Nat.ble i.bytes 128 | none=>false)
 | none=>false
theorem grow_calls' (L:Lays8.n4 P ρ) (hi:J2 P (ρ.t 25)=true) {vs:List (V G.S)} {xs:List (List UInt8)} (h:OL vs=some xs) {okA:Okc} {w:World} {vals:List Value} (hv:VRs w okA Mem.no vs vals):
  Calls P (ρ.f 4) vals.toArray w (fun en w'=>∃ v',en = .returned v'/\w'.ownsRow w.heap.size (ρ.t 25) 1 v' xs.length (xs.map encStr)/\w.grownBy w' none):=by
 unfold J2 at hi
 split at hi
 ·rename_i i h1
  split at hi
  ·rename_i z h2
   simp only [Bool.and_eq_true_iff,beq_iff_eq] at hi
   exact KN L h1 h2 hi.1.1 hi.1.2 (Nat.le_of_ble_eq_true hi.2) h hv
  ·cases hi
 ·cases hi
end Go.Dv

namespace Go.Dv
open Go
variable {G:Sig}
def KO (xs:List (List UInt8)) (sep:List UInt8):Option (List UInt8):=if xs.length<=big/\(Lib.join xs sep).length<=big then some (Lib.join xs sep) else none
def iP (s t:List UInt8):Option Bool:=if s.length<4294967281 then some (Lib.contains s t) else none
def jJ (s:List UInt8) (c:Int):Option Int:=some (Lib.indexByte s c.toNat.toUInt8)
def OM (n b:Int):Option (List UInt8):=if b=10 /\ -9223372036854775808<=n/\n<=9223372036854775807 then some (Lib.itoa n) else none
def PV : List (V G.S)->Option (List UInt8)
 | [.sl .str xs,.str sep]=>KO xs sep
 | [.nil _ .str,.str sep]=>KO [] sep
 | _=>none
def AL : List (V G.S)->Option Bool
 | [.str s,.str t]=>iP s t
 | _=>none
def wT : List (V G.S)->Option Int
 | [.str s,.int .u8 c]=>jJ s c
 | _=>none
def PW : List (V G.S)->Option (List UInt8)
 | [.int .i64 n,.int .i64 b]=>OM n b
 | _=>none
def FV (s:List UInt8) (a:Nat):Nat:=s.foldl (fun a b=>a*10+(b.toNat-48)) a
def N0 (b:UInt8):Bool:=decide (48<=b.toNat)&&decide (b.toNat<=57)
theorem MZ : ∀ (l:List UInt8) (acc k:Nat),l.all N0=true->acc<10 ^ k->FV l acc<10 ^ (k+l.length)
 | [],acc,k,_,ha=>by simpa [FV] using ha
 | c:: r,acc,k,h,ha=>by
  simp only [List.all_cons,Bool.and_eq_true_iff] at h
  have hd:=h.1
  unfold N0 at hd
  simp only [Bool.and_eq_true_iff,decide_eq_true_eq] at hd
  have hs:10 ^ (k+1)=10 ^ k*10:=Nat.pow_succ _ _
  have:=MZ r (acc*10+(c.toNat-48)) (k+1) h.2 (by omega)
  simp only [List.length_cons]
  rw [show k+(r.length+1)=k+1+r.length by omega]
  exact this
def r0 (s:List UInt8):Option (Int×Bool):=if 13<s.length then some (0,false) else if s≠[]/\s.all N0=true then some ((FV s 0:Nat),decide (FV s 0<=1000000000000)) else none
def Ey : List (V G.S)->Option (Int×Bool)
 | [.str s]=>r0 s
 | _=>none
end Go.Dv

namespace Go.Dv
open Go Go.Proofs Go.Shelf Go.RowKit
variable {P:Program} {ρ:Ren} {G:Sig}
theorem r3 {f:FuncId} {vals:Array Value} {w:World} {okA:Okc} {r:V G.S} {val:Value} (hv:∀ w ok M,VR w ok M r val) (hc:r.clo 21=true) (h:Calls P f vals w fun e w'=>e = .returned val/\Below w.heap.size w w'):
  Calls P f vals w (fun e w'=>∃ v,e = .returned v/\Mg w (fun _=>False) okA (r,[]) v w'):=by
 refine h.mono ?_
 rintro e w' ⟨rfl,hb⟩
 exact ⟨_,rfl,⟨⟨Mem.no,fun _ _=>False,hv _ _ _,fun _ _ h=>h.elim,fun _ _ h=>h.elim⟩,hb.os,hb.tape,hb.output,hb.size,fun b hlt _=>hb.block b hlt⟩⟩
theorem ON {C:Cfg G} {w:World} {Fp:Nat->Prop} (h:GT C w Fp) {g:Nat} {name:String} {k:IntKind} {zs:List Int} (hg:C.gtab g=some ((zs.map fun z=>Value.int k z).toArray)) (hn:C.P.globalNamed name=some g):Lib.TabIs C.P w name k zs:=by
 obtain ⟨_,_,e,z,h3⟩:=h g _ hg
 unfold Lib.TabIs World.var?
 rw [hn]
 simp [h3]
theorem ox (w:World):Below w.heap.size w w:=Below.refl _ _
theorem M0 {w:World} {ok:Okc} {M:Mem} (s:List UInt8):VR (G:=G) w ok M (.str s) (.string ⟨s.toArray⟩):=Mw s
theorem AM {w:World} {ok:Okc} {M:Mem} {a b:V G.S} {vals:List Value} (h:VRs w ok M [a,b] vals):∃ x y,vals=[x,y]/\VR w ok M a x/\VR w ok M b y:=by
 obtain ⟨x,l,rfl,h1,h2⟩:=h.inv
 obtain ⟨y,l',rfl,h3,h4⟩:=h2.inv
 have:l'=[]:=by have:=h4.1;exact List.eq_nil_of_length_eq_zero (by simpa using this.symm)
 subst this
 exact ⟨x,y,rfl,h1,h3⟩
theorem DX {w:World} {ok:Okc} {M:Mem} {s:List UInt8} {v:Value} (h:VR (G:=G) w ok M (.str s) v):∃ b:ByteArray,v = .string b/\b.data.toList=s:=by
 cases h with
 | str b=>exact ⟨b,rfl,rfl⟩
theorem M4 (b:ByteArray):b.size=b.data.toList.length:=(Array.length_toList (xs:=b.data)).symm
theorem KP (L:LaysM.n173 P ρ) {vs:List (V G.S)} {p:List UInt8} (h:PW vs=some p) {okA:Okc} {w:World} {vals:List Value} (htab:Lib.TabIs P w "internal/strconv.uint64pow10" .u64 Lib.pow10Tab) (hv:VRs w okA Mem.no vs vals):
  ∃ r,aC G [.str] r=some p/\Calls P (ρ.f 173) vals.toArray w (fun e w'=>∃ v,e = .returned v/\Mg w (fun _=>False) okA (r,[]) v w'):=by
 unfold PW at h
 split at h
 ·rename_i n b
  unfold OM at h
  split at h
  ·rename_i hn
   obtain ⟨rfl,hn⟩:=hn
   have h:=Option.some.inj h
   subst h
   obtain ⟨x,y,rfl,h1,h2⟩:=AM hv
   cases h1;cases h2
   refine ⟨.str (Lib.itoa n),rfl,?_⟩
   refine r3 (fun w ok M=>M0 _) rfl ((Any.strconv_FormatInt_10 L n hn.1 hn.2 w htab).mono ?_)
   rintro e w' ⟨rfl,k,os,rfl⟩
   refine ⟨rfl,⟨rfl,rfl,rfl,by simp [Go.Sort.grow,World.drewN],fun j hj=>?_⟩⟩
   rw [Go.Sort.heap_grow_old _ _ (show j<(w.drewN k).heap.size from hj)]
   rfl
  ·cases h
 ·cases h
theorem AN (L:Lays.n137 P ρ) {vs:List (V G.S)} {p:Int} (h:wT vs=some p) {okA:Okc} {w:World} {vals:List Value} (hv:VRs w okA Mem.no vs vals):
  ∃ r,aC G [.int .i64] r=some p/\Calls P (ρ.f 137) vals.toArray w (fun e w'=>∃ v,e = .returned v/\Mg w (fun _=>False) okA (r,[]) v w'):=by
 unfold wT at h
 split at h
 ·rename_i s c
  have h:=Option.some.inj h
  subst h
  obtain ⟨x,y,rfl,h1,h2⟩:=AM hv
  obtain ⟨b,rfl,rfl⟩:=DX h1
  cases h2
  refine ⟨.int .i64 (Lib.indexByte b.data.toList c.toNat.toUInt8),rfl,?_⟩
  refine r3 (fun w ok M=>.int _ _) rfl ((Any.strings_IndexByte L b c w).mono ?_)
  rintro e w' ⟨rfl,rfl⟩
  exact ⟨rfl,ox _⟩
 ·cases h
theorem CB (L:Lays.n144 P ρ) {vs:List (V G.S)} {p:Bool} (h:AL vs=some p) {okA:Okc} {w:World} {vals:List Value} {m:Int} (hm:w.cell? ⟨(ρ.g 1),0,none⟩=some (.int .i64 m)) (hv:VRs w okA Mem.no vs vals):
  ∃ r,aC G [.bool] r=some p/\Calls P (ρ.f 144) vals.toArray w (fun e w'=>∃ v,e = .returned v/\Mg w (fun _=>False) okA (r,[]) v w'):=by
 unfold AL at h
 split at h
 ·rename_i s t
  unfold iP at h
  split at h
  ·rename_i hs
   have h:=Option.some.inj h
   subst h
   obtain ⟨x,y,rfl,h1,h2⟩:=AM hv
   obtain ⟨b,rfl,rfl⟩:=DX h1
   obtain ⟨b2,rfl,rfl⟩:=DX h2
   refine ⟨.bool (Lib.contains b.data.toList b2.data.toList),rfl,?_⟩
   refine r3 (fun w ok M=>.bool _) rfl ((Any.strings_Contains L b b2 m w (by rw [M4];exact hs) hm).mono ?_)
   rintro e w' ⟨rfl,rfl⟩
   exact ⟨rfl,ox _⟩
  ·cases h
 ·cases h
theorem KQ (L:Lays.n156 P ρ) (X:Builder.Extra P ρ) {vs:List (V G.S)} {p:List UInt8} (h:PV vs=some p) {okA:Okc} {w:World} {vals:List Value} (hlt:∀ b off,okA b off->b<w.heap.size) (hv:VRs w okA Mem.no vs vals):
    ∃ r,aC G [.str] r=some p/\Calls P (ρ.f 156) vals.toArray w (fun e w'=>∃ v,e = .returned v/\Mg w (fun _=>False) okA (r,[]) v w'):=by
  have hbb:big=68719476736:=rfl
  have none0:∀ (a:Option Addr) (c:Nat) (b:ByteArray),Calls P (ρ.f 156) #[.slice a 0 c,.string b] w (fun e w'=>∃ v,e = .returned v/\Mg w (fun _=>False) okA ((.str (Lib.join [] b.data.toList):V G.S),[]) v w'):=by
    intro a c b
    refine r3 (val:=.string ⟨#[]⟩) (fun w ok M=>?_) rfl ((Any.strings_Join_none L X a c b w).mono ?_)
    · have:Lib.join [] b.data.toList=[]:=rfl
      rw [this];exact M0 []
    · rintro e w' ⟨rfl,rfl⟩
      exact ⟨rfl,ox _⟩
  unfold PV at h
  split at h
  · rename_i xs sep
    unfold KO at h
    split at h
    · rename_i hl
      have h:=Option.some.inj h
      subst h
      obtain ⟨x,y,rfl,h1,h2⟩:=AM hv
      obtain ⟨b,rfl,rfl⟩:=DX h2
      refine ⟨.str (Lib.join xs b.data.toList),rfl,?_⟩
      generalize hs:V.sl .str xs=s at h1
      cases h1 with
      | sl0 t a c=>cases hs;exact none0 a c b
      | sl1 t zs bk o c u hc g1 g2=>
        cases hs
        have hcells:∀ (j:Nat) x,(xs.map fun s=>(⟨s.toArray⟩:ByteArray))[j]?=some x->w.cell? ⟨bk,o+j,none⟩=some (.string x):=by
          intro j x hj
          rw [List.getElem?_map] at hj
          cases hx:xs[j]? with
          | none=>rw [hx] at hj;cases hj
          | some s=>
            rw [hx] at hj
            have hj:=Option.some.inj hj
            subst hj
            have q1:=(g1 j s 0 (.str s) hx rfl).1
            have q2:=Ia (g2 j s 0 (.str s) hx rfl)
            simp only [Ty.sz,Nat.mul_one,Nat.add_zero] at q1
            rw [q1,q2];rfl
        by_cases h0:xs.length=0
        · have hx0:xs=[]:=List.eq_nil_of_length_eq_zero h0
          subst hx0
          exact none0 _ c b
        · have hbk:bk<w.heap.size:=by
            have hx:xs[0]?=some (xs[0]'(by omega)):=List.getElem?_eq_getElem (by omega)
            exact hlt _ _ (g1 0 _ 0 (.str _) hx rfl).2
          have e1:((xs.map fun s=>(⟨s.toArray⟩:ByteArray)).map (·.data.toList))=xs:=by
            rw [List.map_map];exact List.map_id _
          have hj:=Any.strings_Join L X bk o c (xs.map fun s=>(⟨s.toArray⟩:ByteArray)) b w hcells hbk (by rw [List.length_map];exact Nat.le_trans hl.1 (by decide)) (by rw [List.length_map];exact hc) (by rw [e1];exact Nat.le_trans hl.2 (by decide))
          rw [e1,List.length_map] at hj
          exact r3 (fun w ok M=>M0 _) rfl hj
      | _=>cases hs
    · cases h
  · rename_i e sep
    unfold KO at h
    split at h
    · have h:=Option.some.inj h
      subst h
      obtain ⟨x,y,rfl,h1,h2⟩:=AM hv
      obtain ⟨b,rfl,rfl⟩:=DX h2
      cases h1
      exact ⟨.str (Lib.join [] b.data.toList),rfl,none0 none 0 b⟩
    · cases h
  · cases h
theorem Gr (M:Nat):∀ (l:List UInt8) (acc k:Nat),l.all N0=true->acc<10 ^ k->l.length+k<=18->1000000000000000000<=M->Lib.parseUintM M acc l = .ok (FV l acc)
 | [],acc,k,_,_,_,_=>rfl
 | c:: r,acc,k,h,ha,hl,hM=>by
  simp only [List.all_cons,Bool.and_eq_true_iff] at h
  have hd:=h.1
  unfold N0 at hd
  simp only [Bool.and_eq_true_iff,decide_eq_true_eq] at hd
  simp only [List.length_cons] at hl
  have hp:10 ^ (k+1)<=10 ^ 18:=Nat.pow_le_pow_right (by decide) (by omega)
  have hs:10 ^ (k+1)=10 ^ k*10:=Nat.pow_succ _ _
  unfold Lib.parseUintM
  rw [if_pos hd,if_neg (by omega),if_neg (by omega),Gr M r _ (k+1) h.2 (by omega) (by omega) hM]
  rfl
theorem Ip {l:List UInt8} (hne:l≠[]) (hd:l.all N0=true) (hl:l.length<=13):Lib.parseIntB 64 l = .ok (FV l 0:Nat):=by
 cases l with
 | nil=>exact absurd rfl hne
 | cons c r=>
  have h0:=hd
  simp only [List.all_cons,Bool.and_eq_true_iff] at h0
  have hc:=h0.1
  unfold N0 at hc
  simp only [Bool.and_eq_true_iff,decide_eq_true_eq] at hc
  have hlt:=MZ (c:: r) 0 0 hd (by decide)
  have hp:10 ^ (0+(c:: r).length)<=10 ^ 13:=Nat.pow_le_pow_right (by decide) (by omega)
  unfold Lib.parseIntB
  simp only
  rw [if_neg (by omega)]
  unfold Lib.parseUintB
  rw [if_neg (by simp),Gr _ (c:: r) 0 0 hd (by decide) (by omega) (by decide)]
  simp only
  rw [if_neg (by rintro ⟨_,h⟩;simp at h;omega),if_neg (by rintro ⟨h,_⟩;omega),if_neg (by omega)]
theorem QR {w:World} {ok:Okc} {M:Mem} {a b:V G.S} {x y:Value} (h1:VR w ok M a x) (h2:VR w ok M b y):VR w ok M (.tup [a,b]) (.tuple #[x,y]):=by
 refine .tup [a,b] [x,y] rfl fun j u v hj hv=>?_
 match j with
 | 0=>cases hj;cases hv;exact h1
 | 1=>cases hj;cases hv;exact h2
 | j+2=>cases hj
theorem Iq {f:FuncId} (hw:∀ (s:ByteArray) (p:Int×Bool),r0 s.data.toList=some p->∀ w:World,Calls P f #[.string s] w fun e w'=>e = .returned (.tuple #[.int .i64 p.1,.bool p.2])/\Below w.heap.size w w')
  {vs:List (V G.S)} {p:Int×Bool} (h:Ey vs=some p) {okA:Okc} {w:World} {vals:List Value} (hv:VRs w okA Mem.no vs vals):
  ∃ r,aC G [.int .i64,.bool] r=some p/\Calls P f vals.toArray w (fun e w'=>∃ v,e = .returned v/\Mg w (fun _=>False) okA (r,[]) v w'):=by
 unfold Ey at h
 split at h
 ·rename_i s
  obtain ⟨x,l,rfl,h1,h2⟩:=hv.inv
  have hl:l=[]:=by have:=h2.1;exact List.eq_nil_of_length_eq_zero (by simpa using this.symm)
  subst hl
  obtain ⟨b,rfl,rfl⟩:=DX h1
  exact ⟨.tup [.int .i64 p.1,.bool p.2],rfl,r3 (fun w ok M=>QR (.int _ _) (.bool _)) rfl (hw b p h w)⟩
 ·cases h
end Go.Dv

namespace Go.Dv
open Go Go.Proofs Go.Shelf Go.RowKit
variable {P:Program} {ρ:Ren}
theorem M5 {w:World} {t u ty e:TypeId} {i:TypeInfo} (ht:P.underlying t=some (.slice e)) (hu:P.underlying u=some .string) (hi:P.info? e=some i) (hz:i.zero=some (.int .u8 0)) (hsize:i.size=1) (hby:i.bytes=1)
  {v:Value} {n:Nat} {xs:List Value} (hown:w.ownsRow 0 e 1 v n xs) {s:ByteArray} (h63:n+s.size<=maxLen) (hbytes:n+s.size<=140737488355328) {v':Value} {w':World} (hr:(Builtin.append_ #[t,u] ty #[v,.string s]).run P w = .ok v' w') {g:Nat} (hg:v'.ownBlock=some g):w.heap.size<=g\/v.ownBlock=some g:=by
 have hsmall:n+s.size<=9223372036854775807:=by simp only [maxLen] at h63;omega
 have hxl:xs.length=n:=by simpa using hown.1
 rcases hown.2 with ⟨rfl,rfl⟩ | ⟨g0,cap,cur,rfl,hbg,hg0,hnc,hcm,hcs,htake⟩
 ·have hx:xs=[]:=List.eq_nil_of_length_eq_zero hxl
  subst hx
  obtain ⟨v2,w2,h1,h2,_,_⟩:=Lib.run_append_own_string (P:=P) w w.heap.size t u ty e i ht hu hi hz hsize hby (.slice none 0 0) 0 [] (World.ownsRow_nil w _ e 1) s h63 hbytes (Nat.le_refl _)
  rw [h1] at hr
  cases hr
  exact .inl (h2.lt g hg).1
 ·by_cases hroom:n+s.size<=cap
  ·have hcs':cur.size=cap:=by simpa using hcs
   have h1:=Lib.run_append_room_string (P:=P) w t u ty e i ht hu hi hsize g0 n cap cur hg0 s hroom (by omega)
   rw [h1] at hr
   cases hr
   exact .inr hg
  ·have holds:∀ j u,xs[j]?=some u->w.cell? ((⟨g0,0,none⟩:Addr).add j)=some u:=hown.cells (g:=g0) rfl
   have h1:=Lib.run_append_grow_string (P:=P) w t u ty e i (.int .u8 0) ht hu hi hz ⟨g0,0,none⟩ n cap xs (by rw [hsize];simpa using hxl) holds s (by omega) (by omega) (by rw [hby];exact growslice_fits (by omega) (by omega))
   rw [h1] at hr
   cases hr
   simp only [Value.ownBlock,Option.map_some,Option.some.injEq] at hg
   exact .inl (by omega)
theorem CD {w:World} {ops:Array Oper} {rest:List Oper} {o:Oper} {a:Act} {Q:Exit->Act->World->Prop} (hgd:o.guard=none) (sl x:Operand) (t u:TypeId)
  (ho:o.op = .call {callee:=.builtin .append,args:=#[sl,x],argTypes:=#[t,u]})
  (e:TypeId) (i:TypeInfo) (ht:P.underlying t=some (.slice e)) (hu:P.underlying u=some .string) (hi:P.info? e=some i) (hz:i.zero=some (.int .u8 0)) (hsize:i.size=1) (hby:i.bytes=1)
  (v:Value) (n:Nat) (xs:List Value) (hs:a.eval sl=v) (hown:w.ownsRow 0 e 1 v n xs) (s:ByteArray) (hx:a.eval x = .string s) (h63:n+s.size<=maxLen) (hbytes:n+s.size<=140737488355328)
  (h:∀ v' w',w'.ownsRow 0 e 1 v' (n+s.size) (xs++Lib.strCells s)->w.grownBy w' v.ownBlock->(∀ g,v'.ownBlock=some g->w.heap.size<=g\/v.ownBlock=some g)->wpList P ops Q rest (a.put o.dst v') w'):wpList P ops Q (o:: rest) a w:=by
 obtain ⟨v',w',hr,h2,h3,_⟩:=Lib.run_append_own_string (P:=P) w 0 t u o.type e i ht hu hi hz hsize hby v n xs hown s h63 hbytes (Nat.zero_le _)
 have hblk:=fun g hg=>M5 ht hu hi hz hsize hby hown h63 hbytes hr (g:=g) hg
 refine wpList_plain hgd fun K hK=>?_
 unfold Oper.wp execOp
 simp only [ho,resolve,invoke,builtin,Sem.run_bind,Sem.run_pure,Result.andThen_ok,List.map_toArray,List.map_cons,List.map_nil,hs,hx,hr]
 exact hK _ _ (h v' w' h2 h3 hblk)
theorem KR {w:World} {b:Nat} {o:Go.Obj} (h:w.heap[b]?=some o):b<w.heap.size:=(Array.getElem?_eq_some_iff.1 h).1
theorem AO (L:Lays.n240 P ρ) (X:Builder.X72 P ρ) {w:World} {b:Nat} {v:Value} {bs:List Value} (h:H7 (ρ.t 72) (ρ.t 5) w b v bs):
  Calls P (ρ.f 240) #[.pointer (some ⟨b,0,none⟩)] w fun e w'=>e = .returned (.tuple #[])/\w'.heap[b]?=some (.cells #[.pointer (some ⟨b,0,none⟩),v] (ρ.t 72) (0,0))/\w'.os=w.os/\w'.tape=w.tape/\w'.output=w.output/\w'.heap.size=w.heap.size/\∀ k,k≠b->w'.heap[k]?=w.heap[k]?:=by
 rcases h.cell with h1 | h1
 ·have hb:Lib.BuilderAt (ρ.t 72) (ρ.t 5) 0 b (.pointer none) bs w:=⟨Nat.zero_le _,v,h1,h.own,h.ne⟩
  refine (Any.Builder_copyCheck_fresh L X b w hb.cell0 hb.shape hb.frozen0).mono ?_
  rintro e w' ⟨rfl,rfl⟩
  refine ⟨rfl,?_,rfl,rfl,rfl,by simp [World.setCell],fun k hk=>Below.heap_setCell _ _ _ _ hk⟩
  simp [World.setCell,Array.getElem?_modify,h1]
 ·have hb:Lib.BuilderAt (ρ.t 72) (ρ.t 5) 0 b (.pointer (some ⟨b,0,none⟩)) bs w:=⟨Nat.zero_le _,v,h1,h.own,h.ne⟩
  refine (Any.Builder_copyCheck_used L X b w hb.cell0).mono ?_
  rintro e w' ⟨rfl,rfl⟩
  exact ⟨rfl,h1,rfl,rfl,rfl,rfl,fun _ _=>rfl⟩
set_option maxHeartbeats 2000000 in
set_option maxRecDepth 100000 in
theorem wU (L:Lays.n166 P ρ) (X:Builder.Extra P ρ) {w:World} {b:Nat} {v:Value} {bs:List Value} (h:H7 (ρ.t 72) (ρ.t 5) w b v bs) (s:ByteArray) (hlen:bs.length+s.size<=140737488355328):
    Calls P (ρ.f 166) #[.pointer (some ⟨b,0,none⟩),.string s] w fun e w'=>e = .returned (.tuple #[.int .i64 s.size,.nilIface])/\∃ v',PE (ρ.t 72) (ρ.t 5) w b v (bs++Lib.strCells s) w' v':=by
  obtain ⟨i0,hi,hz0,hz1,hz2⟩:=info_parts X.infoByte
  have mixed:=L.mixed
  have t72:=L.t72;have a72:=L.a72;have z72:=L.z72;have v72:=L.v72;have u72:=run_underlying L.t72
  have t70:=L.t70;have a70:=L.a70;have z70:=L.z70;have v70:=L.v70;have u70:=run_underlying L.t70
  have t37:=L.t37;have a37:=L.a37;have z37:=L.z37;have v37:=L.v37;have u37:=run_underlying L.t37
  have t3:=L.t3;have a3:=L.a3;have z3:=L.z3;have v3:=L.v3;have u3:=run_underlying L.t3
  have t9:=L.t9;have a9:=L.a9;have z9:=L.z9;have v9:=L.v9;have u9:=run_underlying L.t9
  have t4:=L.t4;have a4:=L.a4;have z4:=L.z4;have v4:=L.v4;have u4:=run_underlying L.t4
  have t164:=L.t164;have a164:=L.a164;have z164:=L.z164;have v164:=L.v164;have u164:=run_underlying L.t164
  have t5:=X.t5;have a5:=X.a5;have z5:=X.z5;have v5:=X.v5;have u5:=run_underlying X.t5
  have e240:∀ args w,(callFunc (ρ.f 240) args).run P w = .ok (.enter (ρ.f 240) args) w:=enters_of L.f240 (by kernel_rfl) rfl
  have hcc:=AO (P:=P) {L with} X.toX72 h
  have hbw:b<w.heap.size:=by rcases h.cell with h1 | h1<;>exact KR h1
  have hown0:=h.own
  have hne:=h.ne
  clear h
  go_enter L.f166,Body.n166_ntmps ρ
  go_wp2_with (go_at_fn (ρ.f 240);refine hcc.mono ?_)
  rintro e w1 ⟨rfl,hbk,q1,q2,q3,q4,q5⟩
  have hown:w1.ownsRow 0 (ρ.t 5) 1 v bs.length bs:=by
    refine hown0.kept (row:=some b) ⟨q1,q2,q3,by omega,fun k _ hk=>q5 k (fun e=>hk (by simp [e]))⟩ (.inr hne)
  have c0:w1.cell? ⟨b,0,none⟩=some (.pointer (some ⟨b,0,none⟩)):=by rw [Lib.cell_of_heap hbk];rfl
  have c1:w1.cell? ⟨b,1,none⟩=some v:=by rw [Lib.cell_of_heap hbk];rfl
  go_wp2_with (at_builtin;refine CD rfl _ _ (ρ.t 37) (ρ.t 9) rfl (ρ.t 5) i0 L.t37 L.t9 hi hz0 hz1 hz2 _ _ _ rfl hown s rfl ?c3 ?c4 ?_)
  case c3=>unfold maxLen;omega
  case c4=>omega
  intro v' w2 hown' hgrow hblk
  have hlt:b<w1.heap.size:=by omega
  have hb2:w2.heap[b]?=some (.cells #[.pointer (some ⟨b,0,none⟩),v] (ρ.t 72) (0,0)):=by
    rw [hgrow.block b hlt (fun e=>hne e.symm)]
    exact hbk
  have d0:w2.cell? ⟨b,0,none⟩=some (.pointer (some ⟨b,0,none⟩)):=by rw [Lib.cell_of_heap hb2];rfl
  have d1:w2.cell? ⟨b,1,none⟩=some v:=by rw [Lib.cell_of_heap hb2];rfl
  have f1:w2.frozen? ⟨b,1,none⟩=false:=Lib.frozen_of_heap hb2 1
  have hne':v'.ownBlock≠some b:=by
    intro e
    rcases hblk b e with h1 | h1
    · omega
    · exact hne h1
  obtain ⟨ao,n',cap,rfl⟩:∃ ao n' cap,v' = .slice ao n' cap:=by
    rcases hown'.2 with ⟨hv,_⟩ | ⟨g,cap,cur,hv,_⟩
    · exact ⟨_,_,_,hv⟩
    · exact ⟨_,_,_,hv⟩
  go_wp2
  go_ret2
  refine ⟨rfl,_,?_,?_,hne',fun g hg=>?_,hgrow.os.trans q1,hgrow.tape.trans q2,hgrow.output.trans q3,?_,fun k hk hkb hkv=>?_⟩
  · simp [World.setCell,Array.getElem?_modify,hb2]
  · have hl:(bs++Lib.strCells s).length=bs.length+s.size:=by simp [Lib.strCells_length]
    rw [hl]
    exact hown'.kept (row:=some b) ⟨rfl,rfl,rfl,by simp [World.setCell],fun k _ hk=>Below.heap_setCell _ _ _ _ (fun e=>hk (by simp [e]))⟩ (.inr hne')
  · rcases hblk g hg with h1 | h1
    · exact .inl (by omega)
    · exact .inr h1
  · have:=hgrow.size
    simp [World.setCell];omega
  · rw [Below.heap_setCell _ _ _ _ hkb,hgrow.block k (by omega) (fun e=>hkv e.symm),q5 k hkb]
theorem wV {w w':World} {v:Value} (h:Below w.heap.size w w'):SA w v w':=⟨h.os,h.tape,h.output,h.size,fun k hk _=>h.block k hk⟩
theorem Ir (w:World) {v:Value} {g:Nat} (hg:v.ownBlock=some g) (n:Nat):SA w v (w.drew.freeze ⟨g,0,none⟩ n):=by
 unfold World.freeze
 split
 ·exact ⟨rfl,rfl,rfl,Nat.le_refl _,fun _ _ _=>rfl⟩
 ·refine ⟨rfl,rfl,rfl,by simp,fun k hk hne=>?_⟩
  simp only [Array.getElem?_modify]
  rw [if_neg (fun e=>hne (hg.trans (congrArg some e)))]
  rfl
set_option maxHeartbeats 2000000 in
set_option maxRecDepth 100000 in
theorem Gs (L:Lays.n169 P ρ) (X:Builder.Extra P ρ) {w:World} {b:Nat} {v:Value} {l:List UInt8} (h:H7 (ρ.t 72) (ρ.t 5) w b v (Lib.byteCells l)):
    Calls P (ρ.f 169) #[.pointer (some ⟨b,0,none⟩)] w fun e w'=>e = .returned (.string ⟨l.toArray⟩)/\SA w v w':=by
  obtain ⟨p,hbk⟩:∃ p,w.heap[b]?=some (.cells #[p,v] (ρ.t 72) (0,0)):=by
    rcases h.cell with h1 | h1
    · exact ⟨_,h1⟩
    · exact ⟨_,h1⟩
  have hown:=h.own
  by_cases h0:l=[]
  · subst h0
    have hown:w.ownsRow 0 (ρ.t 5) 1 v 0 []:=hown
    rcases hown.2 with ⟨rfl,_⟩ | ⟨g,cap,cur,rfl,hbg,hg,_,_,_,_⟩
    · refine (Any.Builder_String_nil L X w.heap.size b p w hbk).mono ?_
      rintro e w' ⟨rfl,hb⟩
      exact ⟨rfl,wV hb⟩
    · by_cases hc0:cap=0
      · subst hc0
        refine (Any.Builder_String_noroom L X w.heap.size b g p cur w (Nat.le_refl _) hbk hg).mono ?_
        rintro e w' ⟨rfl,hb⟩
        exact ⟨rfl,wV hb⟩
      · refine (Any.Builder_String_room L X w.heap.size b g cap p w hc0 hbk).mono ?_
        rintro e w' ⟨rfl,hb⟩
        exact ⟨rfl,wV hb⟩
  · clear h
    have hl0:l.length≠0:=by simpa using h0
    rw [Lib.byteCells_length] at hown
    obtain ⟨g,cap,cur,rfl,hbg,hg,hnc,hcm,hcs,htake⟩:∃ g cap cur,v = .slice (some ⟨g,0,none⟩) l.length cap/\0<=g/\w.heap[g]?=some (.cells cur (ρ.t 5) (0,0))/\l.length<=cap/\cap<=maxLen/\cur.size=cap*1/\cur.toList.take (l.length*1)=Lib.byteCells l:=by
      rcases hown.2 with ⟨_,hz⟩ | ⟨g,cap,cur,hv,r⟩
      · exact absurd hz hl0
      · exact ⟨g,cap,cur,hv,r⟩
    have c1:w.drew.cell? ⟨b,1,none⟩=some (.slice (some ⟨g,0,none⟩) l.length cap):=by
      have:w.drew.heap[b]?=some (.cells #[p,.slice (some ⟨g,0,none⟩) l.length cap] (ρ.t 72) (0,0)):=hbk
      rw [Lib.cell_of_heap this];rfl
    have hSD:(Builtin.unsafeSliceData_ #[(ρ.t 37)] (ρ.t 127) #[.slice (some ⟨g,0,none⟩) l.length cap]).run P w.drew = .ok (.pointer (some ⟨g,0,none⟩)) w.drew:=
      Lib.run_unsafeSliceData_row _ _ _ _ _ _ (by omega)
    have hUS:(Builtin.unsafeString_ #[(ρ.t 127),(ρ.t 3)] (ρ.t 9) #[.pointer (some ⟨g,0,none⟩),.int .i64 l.length]).run P w.drew = .ok (.string ⟨l.toArray⟩) (w.drew.freeze ⟨g,0,none⟩ l.length):=by
      refine Lib.run_unsafeString_row w.drew (ρ.t 127) (ρ.t 3) (ρ.t 9) (ρ.t 5) L.t127 X.cellsByte g cur.size (by have hg':w.drew.heap[g]?=some (.cells cur (ρ.t 5) (0,0)):=hg;simp [World.shape?,hg']) l h0 (by omega) (by unfold maxLen at hcm;omega) ?_
      intro j x hx
      exact hown.cells (g:=g) rfl j (.int .u8 x.toNat) (by simp [Lib.byteCells,hx])
    have mixed:=L.mixed
    have t72:=L.t72;have a72:=L.a72;have z72:=L.z72;have v72:=L.v72;have u72:=run_underlying L.t72
    have t70:=L.t70;have a70:=L.a70;have z70:=L.z70;have v70:=L.v70;have u70:=run_underlying L.t70
    have t37:=L.t37;have a37:=L.a37;have z37:=L.z37;have v37:=L.v37;have u37:=run_underlying L.t37
    have t127:=L.t127;have a127:=L.a127;have z127:=L.z127;have v127:=L.v127;have u127:=run_underlying L.t127
    have t3:=L.t3;have a3:=L.a3;have z3:=L.z3;have v3:=L.v3;have u3:=run_underlying L.t3
    have t9:=L.t9;have a9:=L.a9;have z9:=L.z9;have v9:=L.v9;have u9:=run_underlying L.t9
    have t5:=X.t5;have a5:=X.a5;have z5:=X.z5;have v5:=X.v5;have u5:=run_underlying X.t5
    go_enter L.f169,Body.n169_ntmps ρ
    go_wp2
    go_region_o
    all_goals (go_wp2;go_ret;exact ⟨rfl,Ir w rfl _⟩)
end Go.Dv

namespace Go.Dv
open Go Go.RowKit Go.ChangeShapes Go.WideShapes Go.ChangeAt
theorem vn {H:Type} {enc:TypeId×Value->H} {a:Assume} {C:Checked} {os:Os} {f:FuncId} {fn:Func} {s:ChangeSpec} {conds:List PathCond} {apart fresh handsOn again:Bool} {X:World->Array Value->Prop}
  (hX:∀ (w w':World) (args:Array Value),w.heap=w'.heap->X w args->X w' args)
  (own:ownKnob C.prog.godebug=none) (started:os.Started) (noInit:C.prog.inits.idxOf? f=none) (hfn:C.prog.funcs[f]?=some fn)
  (witness:∃ (w:World) (tape:Tape) (i:Input),w.os=os/\(w.forCall tape i).Shaped C.prog/\i.vars=[]/\Input.okWide C.prog (w.forCall tape i) .any w.heap.size f i /\
   ((s.pre enc C.prog fn conds apart (w.forCall tape i).memory i.args/\X (w.forCall tape i).memory i.args)/\sizedMet enc C.prog fn (OpenSpec.ofChange s) apart (w.forCall tape i).memory i.args)/\a.holds C.prog (lone (Frame.enter C.prog f i.args .normal) [] (w.forCall tape i)))
  (contract:∀ (W:World) (base:Nat) (args:Array Value) (ds gs:List (DataW H)) (before:List MemPlace),
   (∀ (j:Nat) t v,fn.params[j]?=some t->args[j]?=some v->Value.okWide C.prog W .any base t v) ->
   DataW.Whole enc C.prog fn.params.toList s.vars apart W args.toList ds gs before->X W args->W.ShapedOpen C.prog ->
   Calls C.prog f args W fun e W'=>∃ v,e = .returned v/\s.post enc C.prog fn apart fresh handsOn again W args v W'):
  ReturnsInHanded a C os f .any (fun w args=>(s.pre enc C.prog fn conds apart w args/\X w args)/\sizedMet enc C.prog fn (OpenSpec.ofChange s) apart w args) (s.post enc C.prog fn apart fresh handsOn again):=by
 refine returnsInHanded_of_calls own started noInit witness ?_
 intro w tape i _ hsh _ hok hpre hholds
 obtain ⟨_,_,_,fn',hfn',_,_,_,_,hval⟩:=hok
 have e:fn'=fn:=Option.some.inj (hfn'.symm.trans hfn)
 subst e
 obtain ⟨⟨⟨ds,gs,before,hw,hc⟩,hx⟩,hz⟩:=hpre
 have hw':=DataW.Whole.of_heap (w':=w.forCall tape i) (by rfl) hw
 refine (contract (w.forCall tape i) w.heap.size i.args ds gs before hval hw' (hX _ _ _ (by rfl) hx) hsh).mono fun e W' ⟨v,he,hp⟩=>?_
 subst he
 exact ChangeSpec.post_blind hp
theorem Gt {P:Program} {w:World} {name:String} {k:IntKind} {zs:List Int} {g:Nat} (hn:P.globalNamed name=some g) (h:Lib.TabIs P w name k zs):
  g<w.heap.size/\¬ (fun _:Nat=>False) g/\∃ e z,w.heap[g]?=some (.cells (zs.map fun z=>Value.int k z).toArray e z):=by
 unfold Lib.TabIs World.var? at h
 rw [hn] at h
 simp only [Option.bind_some] at h
 split at h
 ·rename_i cs e z hc
  have h:=Option.some.inj h
  subst h
  exact ⟨(Array.getElem?_eq_some_iff.1 hc).1,fun h=>h,_,_,hc⟩
 ·cases h
theorem OP {w:World} {g:Nat} (h:∃ m,w.cell? ⟨g,0,none⟩=some (.int .i64 m)):ze w g 0/\∃ m,w.cell? ⟨g,0,none⟩=some (.int .i64 m):=by
 refine ⟨?_,h⟩
 obtain ⟨m,hm⟩:=h
 unfold World.cell? at hm
 cases hb:w.heap[g]? with
 | none=>simp [hb] at hm
 | some b=>exact (Array.getElem?_eq_some_iff.1 hb).1
end Go.Dv

namespace Go.Dv
open Go
theorem cD {G:Sig} {n:Int} (h:WfV G 1 (.int .i64 n)):-9223372036854775808<=n/\n<=9223372036854775807:=by
 have h:(Lit.int .i64 n).wf=true:=h
 simp only [Lit.wf,Bool.and_eq_true_iff,decide_eq_true_eq] at h
 exact h
theorem dW {G:Sig} {s:List UInt8} (h:WfV G 1 (.str s)):s.length<=9223372036854775807:=by
 have h:s.length<=maxLen:=h
 exact h
theorem cm {G:Sig} {t:Ty} {xs:List (t.den G.S)} (h:∀ k,WfV G k (.sl t xs)):xs.length<=9223372036854775807/\∀ x∈xs,∀ c∈Ty.cells G t x,∀ k,WfV G k c:=
 ⟨(h 1).1,fun x hx c hc k=>(h (k+1)).2 x hx c hc⟩
theorem Qq {G:Sig} {xs:List Int} (h:∀ k,WfV G k (.sl (.int .i64) xs)):xs.length<=9223372036854775807/\∀ y∈xs,-9223372036854775808<=y/\y<=9223372036854775807:=
 ⟨(h 1).1,fun y hy=>cD ((h 2).2 y hy (.int .i64 y) (by simp [Ty.cells,inj]))⟩
theorem iQ {G:Sig} {n:Nat} {x:G.S n} (h:∀ k,WfV G k (.st n x)):∀ c∈G.cells n x,∀ k,WfV G k c:=fun c hc k=>h (k+1) c hc
theorem J3 {G:Sig} {t:Ty} {ts:List Ty} {us:List (V G.S)} (h:gJ G (t:: ts) us):∃ (x:t.den G.S) (vs:List (V G.S)),us=inj G t x:: vs/\gJ G ts vs:=by
 cases h with
 | cons _ x _ vs h=>exact ⟨x,vs,rfl,h⟩
theorem PX {G:Sig} {us:List (V G.S)} (h:gJ G [] us):us=[]:=by
 cases h;rfl
theorem PY {a b:Nat} (h:Nat.ble a b=true):a<=b:=Nat.le_of_ble_eq_true h
theorem PZ {P:Program} {l:List TypeId} (h:(l.all fun t=>P.readableRec t&&Nat.blt t P.types.size)=true):∀ t∈l,P.readableRec t=true/\t<P.types.size:=by
 intro t ht
 have:=List.all_eq_true.1 h t ht
 rw [Bool.and_eq_true_iff] at this
 exact ⟨this.1,Nat.le_of_ble_eq_true this.2⟩
theorem QS {G:Sig} {n:Int} (h:WfV G 1 (.int .u8 n)):0<=n/\n<=255:=by
 have h:(Lit.int .u8 n).wf=true:=h
 simp only [Lit.wf,Bool.and_eq_true_iff,decide_eq_true_eq] at h
 exact h
def M6 (xs:List Int):Prop:=xs.length<=9223372036854775807/\∀ y∈xs,0<=y/\y<=255
theorem M6.of {G:Sig} {xs:List Int} (h:∀ k,WfV G k (inj G (.sl (.int .u8)) xs)):M6 xs:=
 ⟨(h 1).1,fun y hy=>QS ((h 2).2 y hy (.int .u8 y) (by simp [Ty.cells,inj]))⟩
def QT (n:Int):Prop:=-9223372036854775808<=n/\n<=9223372036854775807
theorem QT.of {G:Sig} {n:Int} (h:∀ k,WfV G k (inj G (.int .i64) n)):QT n:=cD (h 1)
end Go.Dv

namespace Go.Dv
open Go
theorem aT {n:Int} (h1:-9223372036854775808<=n) (h2:n<9223372036854775808):w64 n=n:=by
 unfold w64
 rw [IntKind.wrap_i64];omega
theorem aw {α:Type} (l:List α):len l=(l.length:Int):=by simp [len]
theorem ST {α:Type}:len ([]:List α)=0:=by simp [len]
theorem QU (b:UInt8):ib b=(b.toNat:Int):=by simp [ib]
theorem SU (b:UInt8):ib b<256:=by have:=b.toNat_lt;simp only [ib,Int.ofNat_eq_natCast];omega
theorem M7 (b:UInt8):0<=ib b:=by simp only [ib,Int.ofNat_eq_natCast];omega
theorem QV {a b:UInt8}:ib a=ib b↔a=b:=by
 simp only [ib,Int.ofNat_eq_natCast]
 constructor
 ·intro h;exact UInt8.toNat_inj.1 (by omega)
 ·intro h;rw [h]
theorem aZ {α:Type} (xs:List α) (i:Nat):idx xs (i:Int)=xs[i]?:=by
 have h:(0:Int)<=(i:Int):=by omega
 unfold idx
 rw [if_pos h]
 rfl
theorem mZ {α:Type} (xs:List α):idx xs 0=xs[0]?:=aZ xs 0
theorem wW {α:Type} (xs:List α):idx xs 1=xs[1]?:=aZ xs 1
theorem M8 {α:Type} {xs:List α} {i:Int} (h:0<=i):idx xs i=xs[i.toNat]?:=by unfold idx;rw [if_pos h]
theorem aH {α:Type} {xs ys:List α} (h:xs.length+ys.length<=68719476736):app xs ys=some (xs++ys):=by
 unfold app big;rw [if_pos h]
theorem SV {α:Type} {n:Nat} (z:α) (h:n<=68719476736):mk (n:Int) z=some (List.replicate n z):=by
 unfold mk big
 rw [if_pos (by omega)]
 rfl
theorem pZ {α β:Type} (l:List β) (z:α) (h:l.length<=68719476736):mk (len l) z=some (List.replicate l.length z):=SV z h
theorem Gu {α:Type} {xs:List α} {a b:Nat} (h:a<=b) (h2:b<=xs.length):cut xs (a:Int) (b:Int)=some ((xs.take b).drop a):=by
 unfold cut
 rw [if_pos (by omega)]
 rfl
theorem Gv {α:Type} (xs:List α) (i:Nat) (x:α):upd xs i x=xs.set i x:=rfl
theorem m0 {α:Type} {c:Prop} [Decidable c] (a b:α):(if c then some a else some b)=some (if c then a else b):=by split<;>rfl
theorem cB {α:Type} {xs:List α} (hx:xs.length<=9223372036854775807) {P:Nat->List α->Prop}
  (h0:P xs.length [])
  (h1:∀ (i:Nat) (y:α) (l:List α),xs.drop i=y:: l->i<xs.length->y∈xs->idx xs (i:Int)=some y->w64 ((i:Int)+1)=((i+1:Nat):Int)->P (i+1) l->P i (y:: l)):P 0 xs:=by
 have key:∀ (n i:Nat),i+n=xs.length->P i (xs.drop i):=by
  intro n
  induction n with
  | zero=>
   intro i hi
   have:i=xs.length:=by omega
   subst this
   rw [List.drop_length]
   exact h0
  | succ n ih=>
   intro i hi
   have hlt:i<xs.length:=by omega
   rw [List.drop_eq_getElem_cons hlt]
   refine h1 i xs[i] _ (List.drop_eq_getElem_cons hlt) hlt (List.getElem_mem hlt) ?_ ?_ (ih (i+1) (by omega))
   ·rw [aZ,List.getElem?_eq_getElem hlt]
   ·rw [aT (by omega) (by omega)];omega
 have:=key xs.length 0 (by omega)
 rwa [List.drop_zero] at this
def aR {α:Type} (m:α->Nat):List α->Nat
 | []=>0
 | y:: r=>m y+aR m r
theorem bh {α:Type} {m:α->Nat} {y:α}:∀ {l:List α},y∈l->m y<=aR m l
 | x:: l,h=>by
  simp only [aR]
  cases h with
  | head=>omega
  | tail _ h=>have:=bh (m:=m) h;omega
theorem M9 {α:Type} {m:α->Nat}:∀ (a b:List α),aR m (a++b)=aR m a+aR m b
 | [],b=>by simp [aR]
 | x:: a,b=>by simp only [List.cons_append,aR,M9 a b];omega
def aU (b:Int) (n:Nat):Int:=if (n:Int)<=b then b-n else -1
theorem aP {b:Int} {m n:Nat} (h:¬ aU b m<0):aU (aU b m) n=aU b (m+n):=by
 unfold aU at h ⊢
 by_cases h1:(m:Int)<=b
 ·rw [if_pos h1]
  by_cases h2:(n:Int)<=b-m
  ·rw [if_pos h2,if_pos (by omega)];omega
  ·rw [if_neg h2,if_neg (by omega)]
 ·rw [if_neg h1] at h;omega
theorem eh {b:Int} {m n:Nat} (h:aU b m<0):aU b (m+n) = -1:=by
 unfold aU at h ⊢
 rw [if_neg]
 intro h2
 rw [if_pos (by omega)] at h
 omega
theorem minus_neg' {b:Int} {m:Nat} (h:aU b m<0):aU b m = -1:=eh (n:=0) h
theorem aM {b:Int} {m n:Nat} (h:aU b m<0) (hle:m<=n):aU b n = -1:=by
 obtain ⟨k,rfl⟩:=Nat.exists_eq_add_of_le hle
 exact eh h
theorem DY {b:Int} (h:0<=b):aU b 0=b:=by unfold aU;rw [if_pos (by omega)];omega
theorem J4 {b:Int} {m:Nat} (h:¬ aU b m<0):(m:Int)<=b:=by
 unfold aU at h
 split at h
 ·assumption
 ·omega
theorem aO {b:Int} {m:Nat} (h:¬ aU b m<0):0<=aU b m:=by omega
theorem bz {b:Int} {m:Nat} {c:Int} (h0:0<=c) (h:b<c):aU b m<c:=by unfold aU;split<;>omega
theorem bZ {b:Int} {α:Type} {l:List α} (h0:0<=b) (h:b<4611686018427387904) (hl:l.length<=9223372036854775807):
  (w64 (b-len l)<0↔aU b l.length<0)/\(¬ aU b l.length<0->w64 (b-len l)=aU b l.length):=by
 have e:w64 (b-len l)=b-l.length:=aT (by simp only [aw];omega) (by simp only [aw];omega)
 rw [e]
 unfold aU
 by_cases h1:(l.length:Int)<=b
 ·rw [if_pos h1];exact ⟨Iff.rfl,fun _=>rfl⟩
 ·rw [if_neg h1];exact ⟨by omega,fun h=>absurd (by omega) h⟩
theorem o9 {α:Type} {xs:List α} (hx:xs.length<=9223372036854775807) {m:α->Nat} {F:α->Int->Option Int} {J:List α->Int->Int->Option Int}
  (hJ:∀ b i,J xs b i=if decide (i<len xs)=true then (idx xs i).bind fun y=>(F y b).bind fun r=>if decide (r<0)=true then some (-1) else J xs r (w64 (i+1)) else some b)
  (hF:∀ y∈xs,∀ b:Int,0<=b->b<4611686018427387904->F y b=some (aU b (m y))):
  ∀ b:Int,0<=b->b<4611686018427387904->J xs b 0=some (aU b (aR m xs)):=by
 refine cB hx (P:=fun i l=>∀ b:Int,0<=b->b<4611686018427387904->J xs b i=some (aU b (aR m l))) ?_ ?_
 ·intro b h0 h1
  rw [hJ]
  simp [aw,aR,DY h0]
 ·intro i y l _ hlt hy hi hw ih b h0 h1
  rw [hJ,hi,hw]
  have hc:decide ((i:Int)<len xs)=true:=by simp [aw,hlt]
  rw [if_pos hc]
  simp only [Option.bind_some,hF y hy b h0 h1]
  show _=some (aU b (m y+aR m l))
  by_cases hle:aU b (m y)<0
  ·rw [if_pos (by simpa using hle),eh hle]
  ·rw [if_neg (by simpa using hle),ih _ (aO hle) (bz (by omega) h1),aP hle]
theorem Is {xs:List (List UInt8)} (hx:xs.length<=9223372036854775807) {J:List (List UInt8)->Int->Int->Option Int}
  (hJ:∀ b i,J xs b i=if decide (i<len xs)=true then (idx xs i).bind fun y=>if decide (w64 (b-len y)<0)=true then some (-1) else J xs (w64 (b-len y)) (w64 (i+1)) else some b)
  (hF:∀ y∈xs,y.length<=9223372036854775807):
  ∀ b:Int,0<=b->b<4611686018427387904->J xs b 0=some (aU b (aR List.length xs)):=by
 refine cB hx (P:=fun i l=>∀ b:Int,0<=b->b<4611686018427387904->J xs b i=some (aU b (aR List.length l))) ?_ ?_
 ·intro b h0 h1
  rw [hJ]
  simp [aw,aR,DY h0]
 ·intro i y l _ hlt hy hi hw ih b h0 h1
  rw [hJ,hi,hw]
  have hc:decide ((i:Int)<len xs)=true:=by simp [aw,hlt]
  rw [if_pos hc]
  simp only [Option.bind_some]
  obtain ⟨e1,e2⟩:=bZ (l:=y) h0 h1 (hF y hy)
  show _=some (aU b (y.length+aR List.length l))
  by_cases c:aU b y.length<0
  ·rw [if_pos (by simpa using e1.2 c),eh c]
  ·rw [if_neg (by simpa using fun h=>c (e1.1 h)),e2 c,ih _ (aO c) (bz (by omega) h1),aP c]
theorem pa {α:Type} {xs:List α} (hx:xs.length<=9223372036854775807) {F:α->Option α} {J:List α->Int->List α->Option (List α)}
  (hJ:∀ i zs,J xs i zs=if decide (i<len xs)=true then (idx xs i).bind fun y=>(F y).bind fun r=>(idx zs i).bind fun _=>(zs[i.toNat]?).bind fun _=>J xs (w64 (i+1)) (upd zs i.toNat r) else some zs)
  (hF:∀ y∈xs,F y=some y):∀ zs,zs.length=xs.length->J xs 0 zs=some xs:=by
 have key:∀ zs,zs.length=xs.length->(∀ j:Nat,j<0->zs[j]?=xs[j]?)->J xs ((0:Nat):Int) zs=some xs:=by
  refine cB hx (P:=fun i l=>∀ zs,zs.length=xs.length->(∀ j,j<i->zs[j]?=xs[j]?)->J xs i zs=some xs) ?_ ?_
  ·intro zs hl hz
   rw [hJ]
   simp only [aw,Int.lt_irrefl,decide_false,Bool.false_eq_true,if_false]
   congr 1
   apply List.ext_getElem? 
   intro j
   by_cases hj:j<xs.length
   ·exact hz j hj
   ·rw [List.getElem?_eq_none (by omega),List.getElem?_eq_none (by omega)]
  ·intro i y l _ hlt hy hi hw ih zs hl hz
   rw [hJ,hi,hw]
   have hc:decide ((i:Int)<len xs)=true:=by simp [aw,hlt]
   rw [if_pos hc]
   have hzi:zs[i]?=some zs[i]:=List.getElem?_eq_getElem (by omega)
   have hxi:xs[i]?=some y:=by rw [<-aZ];exact hi
   simp only [Option.bind_some,hF y hy,aZ,Int.toNat_natCast,hzi,Gv]
   refine ih _ (by simp [hl]) fun j hj=>?_
   by_cases hji:j=i
   ·subst hji;rw [List.getElem?_set_self (by omega),hxi]
   ·rw [List.getElem?_set_ne (by omega)];exact hz j (by omega)
 intro zs hl
 exact key zs hl fun j hj=>absurd hj (Nat.not_lt_zero j)
theorem OQ {α:Type} {xs:List α} (hx:xs.length<=9223372036854775807) {J:List α->Int->List α->Option (List α)}
  (hJ:∀ i zs,J xs i zs=if decide (i<len xs)=true then (idx xs i).bind fun y=>(idx zs i).bind fun _=>(zs[i.toNat]?).bind fun _=>J xs (w64 (i+1)) (upd zs i.toNat y) else some zs):∀ zs,zs.length=xs.length->J xs 0 zs=some xs:=by
 have key:∀ zs,zs.length=xs.length->(∀ j:Nat,j<0->zs[j]?=xs[j]?)->J xs ((0:Nat):Int) zs=some xs:=by
  refine cB hx (P:=fun i l=>∀ zs,zs.length=xs.length->(∀ j,j<i->zs[j]?=xs[j]?)->J xs i zs=some xs) ?_ ?_
  ·intro zs hl hz
   rw [hJ]
   simp only [aw,Int.lt_irrefl,decide_false,Bool.false_eq_true,if_false]
   congr 1
   apply List.ext_getElem? 
   intro j
   by_cases hj:j<xs.length
   ·exact hz j hj
   ·rw [List.getElem?_eq_none (by omega),List.getElem?_eq_none (by omega)]
  ·intro i y l _ hlt hy hi hw ih zs hl hz
   rw [hJ,hi,hw]
   have hc:decide ((i:Int)<len xs)=true:=by simp [aw,hlt]
   rw [if_pos hc]
   have hzi:zs[i]?=some zs[i]:=List.getElem?_eq_getElem (by omega)
   have hxi:xs[i]?=some y:=by rw [<-aZ];exact hi
   simp only [Option.bind_some,aZ,Int.toNat_natCast,hzi,Gv]
   refine ih _ (by simp [hl]) fun j hj=>?_
   by_cases hji:j=i
   ·subst hji;rw [List.getElem?_set_self (by omega),hxi]
   ·rw [List.getElem?_set_ne (by omega)];exact hz j (by omega)
 intro zs hl
 exact key zs hl fun j hj=>absurd hj (Nat.not_lt_zero j)
theorem pb {α:Type} {xs:List α} (hx:xs.length<=9223372036854775807) {F:α->α->Option Bool} {J:List α->List α->Int->Option Bool}
  (hJ:∀ i,J xs xs i=if decide (i<len xs)=true then (idx xs i).bind fun y=>(idx xs i).bind fun z=>(F y z).bind fun r=>if (!r)=true then some false else J xs xs (w64 (i+1)) else some true)
  (hF:∀ y∈xs,F y y=some true):J xs xs 0=some true:=by
 refine cB hx (P:=fun i l=>J xs xs i=some true) ?_ ?_
 ·rw [hJ];simp [aw]
 ·intro i y l _ hlt hy hi hw ih
  rw [hJ,hi,hw]
  have hc:decide ((i:Int)<len xs)=true:=by simp [aw,hlt]
  rw [if_pos hc]
  simp only [Option.bind_some,hF y hy]
  exact ih
theorem OS {α:Type} {xs:List α} (hx:xs.length<=9223372036854775807) {p:α->α->Bool} {J:List α->List α->Int->Option Bool}
  (hJ:∀ i,J xs xs i=if decide (i<len xs)=true then (idx xs i).bind fun y=>(idx xs i).bind fun z=>if p y z=true then some false else J xs xs (w64 (i+1)) else some true)
  (hF:∀ y,p y y=false):J xs xs 0=some true:=by
 refine cB hx (P:=fun i l=>J xs xs i=some true) ?_ ?_
 ·rw [hJ];simp [aw]
 ·intro i y l _ hlt hy hi hw ih
  rw [hJ,hi,hw]
  have hc:decide ((i:Int)<len xs)=true:=by simp [aw,hlt]
  rw [if_pos hc]
  simp only [Option.bind_some,hF y]
  exact ih
theorem cP {α:Type} {xs:List α} (hx:xs.length<=9223372036854775807) {F:α->Option Bool} {p:α->Bool} {J:Int->Option Bool}
  (hJ:∀ i,J i=if decide (i<len xs)=true then (idx xs i).bind fun y=>(F y).bind fun r=>if (!r)=true then some false else J (w64 (i+1)) else some true)
  (hF:∀ y∈xs,F y=some (p y)):J 0=some (xs.all p):=by
 refine cB hx (P:=fun i l=>J i=some (l.all p)) ?_ ?_
 ·rw [hJ];simp [aw]
 ·intro i y l _ hlt hy hi hw ih
  rw [hJ,hi,hw]
  have hc:decide ((i:Int)<len xs)=true:=by simp [aw,hlt]
  rw [if_pos hc]
  simp only [Option.bind_some,hF y hy,List.all_cons]
  cases p y
  ·rfl
  ·exact ih
theorem OU {α:Type} {xs:List α} (hx:xs.length<=9223372036854775807) {p:α->Bool} {J:Int->Option Bool}
  (hJ:∀ i,J i=if decide (i<len xs)=true then (idx xs i).bind fun y=>if (p y)=true then some true else J (w64 (i+1)) else some false):J 0=some (xs.any p):=by
 refine cB hx (P:=fun i l=>J i=some (l.any p)) ?_ ?_
 ·rw [hJ];simp [aw]
 ·intro i y l _ hlt hy hi hw ih
  rw [hJ,hi,hw]
  have hc:decide ((i:Int)<len xs)=true:=by simp [aw,hlt]
  rw [if_pos hc]
  simp only [Option.bind_some,List.any_cons]
  cases p y
  ·exact ih
  ·rfl
end Go.Dv

namespace Go.Dv
open Go
theorem P0 (x y:List UInt8):Op.bytesLess x y=decide (x<y):=Go.Proofs.bytesLess_eq x y
theorem Na (x:List UInt8):Op.bytesLess x x=false:=by rw [P0];simp [List.lt_irrefl]
theorem J5 {x y z:List UInt8} (h:Op.bytesLess x y=true) (k:Op.bytesLess y z=true):Op.bytesLess x z=true:=by
 rw [P0,decide_eq_true_eq] at *;exact List.lt_trans h k
theorem P1 {x y:List UInt8} (h:Op.bytesLess x y=false) (k:Op.bytesLess y x=false):x=y:=by
 rw [P0,decide_eq_false_iff_not,List.not_lt] at *;exact List.le_antisymm k h
theorem SC {x y:List UInt8} (h:Op.bytesLess x y=true):Op.bytesLess y x=false:=by
 cases hq:Op.bytesLess y x with
 | false=>rfl
 | true=>have:=J5 h hq;rw [Na] at this;cases this
theorem KS (xs:List (List UInt8)):(Lib.compact (xs.mergeSort fun x y=>decide (x<=y))).length=xs.length↔xs.Nodup:=by
 have hp:(xs.mergeSort fun x y=>decide (x<=y)).Perm xs:=List.mergeSort_perm _ _
 have hs:List.Pairwise (fun a b=>(decide (a<=b))=true) (xs.mergeSort fun x y=>decide (x<=y)):=
  List.pairwise_mergeSort (fun a b c h k=>by simp only [decide_eq_true_eq] at *;exact List.le_trans h k) (fun a b=>by simp only [Bool.or_eq_true,decide_eq_true_eq];exact List.le_total a b) xs
 rw [<-hp.nodup_iff,<-hp.length_eq]
 generalize (xs.mergeSort fun x y=>decide (x<=y))=zs at hs
 have hlen:(Lib.compact zs).length=((List.range zs.length).filter (Lib.keeps zs.toArray)).length:=by simp [Lib.compact,Lib.compactUpTo]
 rw [hlen]
 have h1:((List.range zs.length).filter (Lib.keeps zs.toArray)).length=zs.length↔∀ j,j<zs.length->Lib.keeps zs.toArray j=true:=by
  constructor
  ·intro h j hj
   have:=List.length_filter_eq_length_iff.1 (h.trans List.length_range.symm) j (by simpa using hj)
   exact this
  ·intro h
   exact (List.length_filter_eq_length_iff.2 fun j hj=>h j (by simpa using hj)).trans List.length_range
 rw [h1,List.nodup_iff_pairwise_ne]
 rw [List.pairwise_iff_getElem] at hs ⊢
 constructor
 ·intro h i j hi hj hij he
  have hk:=h j hj
  simp only [Lib.keeps,decide_eq_true_eq] at hk
  rcases hk with h0 | hk
  ·omega
  ·apply hk
   have e1:zs.toArray[j]! = zs[j]:=by simp [getElem!_pos,hj]
   have e2:zs.toArray[j-1]! = zs[j-1]:=by simp [getElem!_pos,show j-1<zs.length by omega]
   rw [e1,e2]
   have a1:zs[j-1]<=zs[j]:=by simpa using hs (j-1) j (by omega) hj (by omega)
   have a2:zs[i]<=zs[j-1]:=by
    by_cases e:i=j-1
    ·subst e;exact List.le_refl _
    ·simpa using hs i (j-1) hi (by omega) (by omega)
   rw [he] at a2
   exact List.le_antisymm a2 a1
 ·intro h j hj
  simp only [Lib.keeps,decide_eq_true_eq]
  by_cases h0:j=0
  ·exact .inl h0
  ·right
   have e1:zs.toArray[j]! = zs[j]:=by simp [getElem!_pos,hj]
   have e2:zs.toArray[j-1]! = zs[j-1]:=by simp [getElem!_pos,show j-1<zs.length by omega]
   rw [e1,e2]
   exact fun e=>h (j-1) j (by omega) hj (by omega) e.symm
theorem Nb {α:Type} [BEq α] [LawfulBEq α] (xs:List α):xs.Nodup↔∀ (k:Nat) (h:k<xs.length),xs.idxOf xs[k]=k:=by
 rw [List.nodup_iff_pairwise_ne,List.pairwise_iff_getElem]
 constructor
 ·intro h k hk
  have hlt:xs.idxOf xs[k]<xs.length:=List.idxOf_lt_length_iff.2 (List.getElem_mem hk)
  have he:=List.getElem_idxOf hlt
  rcases Nat.lt_trichotomy (xs.idxOf xs[k]) k with q | q | q
  ·exact absurd he (h _ _ hlt hk q)
  ·exact q
  ·exact absurd he.symm (h _ _ hk hlt q)
 ·intro h i j hi hj hij he
  have h1:=h i hi
  have h2:=h j hj
  rw [<-he] at h2
  omega
def adj {α:Type} (nm:α->List UInt8):List α->Bool
 | x:: y:: r=>Op.bytesLess (nm x) (nm y)&&adj nm (y:: r)
 | _=>true
theorem Pm {α:Type} {nm:α->List UInt8}:∀ {xs:List α},adj nm xs=true->∀ (i j:Nat) (hi:i<xs.length) (hj:j<xs.length),i<j->Op.bytesLess (nm xs[i]) (nm xs[j])=true
 | [],_,i,j,hi,_,_=>by simp at hi
 | [x],_,i,j,hi,hj,hij=>by simp at hi hj;omega
 | x:: y:: r,h,i,j,hi,hj,hij=>by
  simp only [adj,Bool.and_eq_true_iff] at h
  cases i with
  | zero=>
   cases j with
   | zero=>omega
   | succ j=>
    cases j with
    | zero=>exact h.1
    | succ j=>exact J5 h.1 (Pm h.2 0 (j+1) (by simp) (by simpa using hj) (by omega))
  | succ i=>
   cases j with
   | zero=>omega
   | succ j=>exact Pm h.2 i j (by simpa using hi) (by simpa using hj) (by omega)
theorem Ag {α:Type} {xs:List α} (hx:xs.length<=9223372036854775807) {nm:α->List UInt8} {J:Int->Option Bool}
  (hJ:∀ i,J i=if decide (i<len xs)=true then (idx xs (w64 (i-1))).bind fun z=>(idx xs i).bind fun y=>if (!Op.bytesLess (nm z) (nm y))=true then some false else J (w64 (i+1)) else some true):J 1=some (adj nm xs):=by
 have key:∀ (n i:Nat),i+1+n=xs.length->J ((i:Int)+1)=some (adj nm (xs.drop i)):=by
  intro n
  induction n with
  | zero=>
   intro i hi
   have:xs.drop i=[xs[i]'(by omega)]:=by
    rw [List.drop_eq_getElem_cons (by omega),List.drop_eq_nil_of_le (by omega)]
   rw [this,hJ]
   have hc:¬ decide ((i:Int)+1<len xs)=true:=by simp only [aw,decide_eq_true_eq];omega
   rw [if_neg hc];rfl
  | succ n ih=>
   intro i hi
   have hc:decide ((i:Int)+1<len xs)=true:=by simp only [aw,decide_eq_true_eq];omega
   have e1:w64 ((i:Int)+1-1)=(i:Int):=by rw [aT (by omega) (by omega)];omega
   have e2:w64 ((i:Int)+1+1)=((i+1:Nat):Int)+1:=by rw [aT (by omega) (by omega)];omega
   have e3:((i:Int)+1)=((i+1:Nat):Int):=by omega
   rw [hJ,if_pos hc,e1,e2,ih (i+1) (by omega),aZ,e3,aZ,List.getElem?_eq_getElem (by omega),List.getElem?_eq_getElem (by omega),List.drop_eq_getElem_cons (by omega:i<xs.length),List.drop_eq_getElem_cons (by omega:i+1<xs.length)]
   simp only [Option.bind_some,adj]
   cases Op.bytesLess (nm xs[i]) (nm xs[i+1])<;>simp
 by_cases h0:xs.length=0
 ·have:xs=[]:=List.eq_nil_of_length_eq_zero h0
  subst this
  rw [hJ];simp [aw,adj]
 ·have:=key (xs.length-1) 0 (by omega)
  simpa using this
theorem Ah {α:Type} {xs:List α} (hx:xs.length<=9223372036854775807) {p:α->Bool} {nm:α->List UInt8} {E:Option Bool} {J:Int->Option Bool}
  (hJ:∀ i:Nat,i<=xs.length->J i=match xs[i]? with
   | some y=>if (p y&&(match i with | 0=>true | j+1=>(match xs[j]? with | some z=>Op.bytesLess (nm z) (nm y) | none=>true)))=true then J ((i+1:Nat):Int) else some false
   | none=>E):J 0=if (xs.all p&&adj nm xs)=true then E else some false:=by
 have key:∀ (n i:Nat),i+1+n=xs.length->J ((i+1:Nat):Int)=if ((xs.drop (i+1)).all p&&adj nm (xs.drop i))=true then E else some false:=by
  intro n
  induction n with
  | zero=>
   intro i hi
   have:xs.drop i=[xs[i]'(by omega)]:=by
    rw [List.drop_eq_getElem_cons (by omega),List.drop_eq_nil_of_le (by omega)]
   rw [this,hJ _ (by omega),List.getElem?_eq_none (by omega),List.drop_eq_nil_of_le (by omega)]
   simp [adj]
  | succ n ih=>
   intro i hi
   have hlt:i+1<xs.length:=by omega
   rw [hJ _ (by omega),List.getElem?_eq_getElem hlt]
   simp only [List.getElem?_eq_getElem (show i<xs.length by omega)]
   rw [ih (i+1) (by omega),List.drop_eq_getElem_cons (show i<xs.length by omega),List.drop_eq_getElem_cons hlt]
   simp only [List.all_cons,adj]
   by_cases h1:p xs[i+1]=true<;>by_cases h2:Op.bytesLess (nm xs[i]) (nm xs[i+1])=true<;>simp [h1,h2]
 have h0:=hJ 0 (Nat.zero_le _)
 simp only [Int.natCast_zero,Bool.and_true] at h0
 rw [h0]
 cases xs with
 | nil=>simp [adj]
 | cons y r=>
  simp only [List.getElem?_cons_zero]
  have:=key r.length 0 (by simp;omega)
  simp only [List.drop_succ_cons,List.drop_zero] at this
  rw [this]
  simp only [List.all_cons]
  by_cases h1:p y=true<;>simp [h1]
end Go.Dv
