/- Plain laws about these equations. -/
import Derived.Test.YtpjcbihleclioaaGreatDoorFnExactLibraryIndexPua
set_option linter.all false
set_option linter.unusedVariables false
set_option linter.unusedSimpArgs false
namespace Go.Dv.U
open Go Go.Dv Go.Proofs
theorem G1 (a b:Int):rI [a,b]=some (if a≠0 then a else b):=by
 have w1:w64 (0+1)=1:=aW (by omega) (by omega)
 have w2:w64 (1+1)=2:=aW (by omega) (by omega)
 have l2:len ([a,b]:List Int)=2:=rfl
 rw [uh,cK,l2,if_pos (by decide),jf]
 simp only [List.getElem?_cons_zero,Option.bind_some,w1]
 by_cases ha:a=0
 ·rw [if_neg (by simpa using ha),if_neg (by simpa using ha),cK,if_pos (by decide),rG]
  simp only [List.getElem?_cons_succ,List.getElem?_cons_zero,Option.bind_some,w2]
  by_cases hb:b=0
  ·rw [if_neg (by simpa using hb),cK,if_neg (by decide),hb]
  ·rw [if_pos (by simpa using hb)]
 ·rw [if_pos (by simpa using ha),if_pos ha]
def SB (s:ab):Prop:=s.fSubject.m<=72000/\s.fPattern.m<=72000/\s.fReplace.m<=72000
def SmT (ts:List ac):Prop:=ts.length<=120/\∀ t∈ts,t.fText.length<=200
theorem B0 : jH.m=0:=by unfold jH;rw [qJ];rfl
theorem qo {ts:List ac} (h:SmT ts) (n:Nat):(eO n ts).2.1.m<=72000/\SmT (eO n ts).2.2:=by
 unfold eO
 cases hp:pP (IC n ts) (.ex n) ts with
 | none=>exact ⟨by rw [B0];omega,h⟩
 | some p=>
  obtain ⟨x,r⟩:=p
  obtain ⟨h1,h2⟩:=Ki _ _ _ _ _ hp h.2
  have hl:=GV _ _ _ _ _ hp
  have:=h.1
  simp only [Md.mR,Md.m0] at h2
  simp only
  split
  ·exact ⟨by show x.m<=72000;omega,by show r.length<=120;omega,fun t ht=>h.2 t (h1 t ht)⟩
  ·exact ⟨by show jH.m<=72000;rw [B0];omega,h⟩
theorem IF {ts q:List ac} (h:SmT ts) (he:pY ts=some q):SmT q:=by
 cases ts with
 | nil=>cases he
 | cons t l=>
  simp only [pY] at he
  split at he
  ·cases he
   have:=h.1
   simp only [List.length_cons] at this
   exact ⟨by omega,fun u hu=>h.2 u (List.mem_cons_of_mem _ hu)⟩
  ·cases he
theorem G2 {s:ab} {ts:List ac} (hs:SB s) (h:SmT ts):SB (G0 s ts).2.1/\(G0 s ts).2.1.fLabel=s.fLabel:=by
 unfold G0
 cases he:pY ts with
 | none=>exact ⟨hs,rfl⟩
 | some q=>
  simp only
  split
  ·exact ⟨⟨hs.1,hs.2.1,by rw [qJ];simp [aS]⟩,rfl⟩
  ·exact ⟨⟨hs.1,hs.2.1,(qo (IF h he) 1).1⟩,rfl⟩
theorem IG {s:ab} {ts:List ac} (hs:SB s) (h:SmT ts):SB (lm s ts).2.1/\(lm s ts).2.1.fLabel=s.fLabel:=by
 obtain ⟨h1,h2⟩:=qo h 6
 have hs1:SB {s with fHasSubject:=true,fSubject:=(eO 6 ts).2.1}:=⟨h1,hs.2.1,hs.2.2⟩
 unfold lm
 split
 ·exact ⟨hs1,rfl⟩
 unfold My
 split
 ·exact G2 hs1 h2
 split
 ·exact ⟨hs1,rfl⟩
 obtain ⟨h3,h4⟩:=qo h2 1
 unfold Mx
 split
 ·exact ⟨⟨h1,h3,hs.2.2⟩,rfl⟩
 ·exact G2 (s:={s with fHasSubject:=true,fSubject:=(eO 6 ts).2.1,fHasPattern:=true,fPattern:=(eO 1 (eO 6 ts).2.2).2.1}) ⟨h1,h3,hs.2.2⟩ h4
theorem G3 {s:ab} {ts:List ac} (hs:SB s):SB (D2 s ts).2/\(D2 s ts).2.fLabel=s.fLabel:=by
 unfold D2
 split
 ·split
  ·exact ⟨hs,rfl⟩
  ·exact ⟨hs,rfl⟩
 ·exact ⟨hs,rfl⟩
theorem Jc {s:ab} {ts:List ac} (hs:SB s) (h:SmT ts):SB (pSt s ts).2/\(pSt s ts).2.fLabel=s.fLabel:=by
 unfold pSt
 split
 ·exact G3 hs
 obtain ⟨h1,h2⟩:=IG hs h
 split
 ·exact ⟨h1,h2⟩
 ·obtain ⟨h3,h4⟩:=G3 (ts:=(lm s ts).2.2) h1
  exact ⟨h3,h4.trans h2⟩
theorem sN (lab:List UInt8):SB (fu lab):=⟨by show jH.m<=_;rw [B0];omega,by show jH.m<=_;rw [B0];omega,by show jH.m<=_;rw [B0];omega⟩
def Km (lab rest:List UInt8):ab×Int:=
 let k:=fp rest
 if k.2.2≠0 then (fu [],k.2.2)
 else
  let p:=pSt (fu lab) k.1
  if p.1≠0 then (fu [],p.1) else if p.2.fLabel=[]/\p.2.fHasSubject=false/\jF p.2.fGoto=true then (fu [],2)
  else if fm p.2=true then (p.2,0) else (fu [],6)
def Kn (c:Int) (b:Bool) (s:ab):ab×Int:=if c≠0 then (fu [],c) else if b=false then (fu [],2) else if fm s=true then (s,0) else (fu [],6)
theorem Jd (c:Int) (b:Bool) (x2:List UInt8) (x3:Bool) (x4 x5:Int) (x6:List UInt8) (x7:List aa) (x8:Bool) (x9 x10:Int) (x11:List UInt8) (x12:List aa) (x13:Bool) (x14 x15:Int) (x16:List UInt8) (x17:List aa) (x18 x19 x20:List UInt8) (s:ab) (hs:c=0->SB s):
  aT c b x2 x3 x4 x5 x6 x7 x8 x9 x10 x11 x12 x13 x14 x15 x16 x17 x18 x19 x20 s.fLabel s.fHasSubject s.fSubject.fKind s.fSubject.fNum s.fSubject.fText s.fSubject.fKids s.fHasPattern s.fPattern.fKind s.fPattern.fNum s.fPattern.fText s.fPattern.fKids s.fHasReplace s.fReplace.fKind s.fReplace.fNum s.fReplace.fText s.fReplace.fKids s.fGoto.fAlways s.fGoto.fSuccess s.fGoto.fFailure =
   some (Kn c b s):=by
 unfold Kn
 have es:ab.mk s.fLabel s.fHasSubject (aa.mk s.fSubject.fKind s.fSubject.fNum s.fSubject.fText s.fSubject.fKids) s.fHasPattern (aa.mk s.fPattern.fKind s.fPattern.fNum s.fPattern.fText s.fPattern.fKids) s.fHasReplace (aa.mk s.fReplace.fKind s.fReplace.fNum s.fReplace.fText s.fReplace.fKids) (aw.mk s.fGoto.fAlways s.fGoto.fSuccess s.fGoto.fFailure)=s:=by
  simp only [aa.eta]
 have ez:∀ d:Int,(ab.mk [] false (aa.mk (Int.ofNat 0) (Int.ofNat 0) [] []) false (aa.mk (Int.ofNat 0) (Int.ofNat 0) [] []) false (aa.mk (Int.ofNat 0) (Int.ofNat 0) [] []) (aw.mk [] [] []),d)=(fu [],d):=fun d=>rfl
 rw [lr,gL,es]
 by_cases hc:c=0
 ·subst hc
  have hs:=hs rfl
  cases b with
  | false=>
   simp only [Bool.false_eq_true,if_false,Option.bind_some,G1,ez]
   rfl
  | true=>
   simp only [if_true,Option.bind_some,G1]
   rw [sJ (by have:=hs.1;omega) (by have:=hs.2.1;omega) (by have:=hs.2.2;omega)]
   simp only [Option.bind_some,ez]
   cases fm s<;>simp
 ·have:∀ d:Int,(if c≠0 then c else d)=c:=fun d=>if_pos hc
  have hb:(if b=true then some (0:Int) else some 2)=some (if b=true then 0 else 2):=by cases b<;>rfl
  rw [hb]
  simp only [Option.bind_some,G1,this,ez]
  rw [if_pos (by simpa using hc),if_pos hc]
theorem Na (s:ab) (c:Int):(if (!s.fLabel==[])=true then some (Kn c true s) else if s.fHasSubject=true then some (Kn c true s) else some (Kn c (!(s.fGoto.fAlways==[]&&(s.fGoto.fSuccess==[]&&(s.fGoto.fFailure==[]&&true)))) s)) =
  some (if c≠0 then (fu [],c) else if s.fLabel=[]/\s.fHasSubject=false/\jF s.fGoto=true then (fu [],2) else if fm s=true then (s,0) else (fu [],6)):=by
 have hg:(s.fGoto.fAlways==[]&&(s.fGoto.fSuccess==[]&&(s.fGoto.fFailure==[]&&true)))=jF s.fGoto:=by
  unfold jF;rw [Bool.and_true,Bool.and_assoc]
 rw [hg]
 unfold Kn
 by_cases hc:c=0
 ·by_cases h1:s.fLabel=[]
  ·cases h2:s.fHasSubject<;>cases h3:jF s.fGoto<;>simp [hc,h1]
  ·simp [hc,h1]
 ·simp only [hc,ne_eq,not_false_eq_true,if_true]
  split
  ·rfl
  ·split<;>rfl
theorem Lj {lab rest:List UInt8} (hr:rest.length<=4000) (x1:List UInt8) (x2:Bool) (x3 x4:Int) (x5:List UInt8) (x6:List aa) (x7:Bool) (x8 x9:Int) (x10:List UInt8) (x11:List aa) (x12:Bool) (x13 x14:Int) (x15:List UInt8) (x16:List aa) (x17 x18 x19:List UInt8):
  dB rest x1 x2 x3 x4 x5 x6 x7 x8 x9 x10 x11 x12 x13 x14 x15 x16 x17 x18 x19 lab false 0 0 [] [] false 0 0 [] [] false 0 0 [] [] [] [] []=some (Km lab rest):=by
 rw [mD,pR (by omega)]
 simp only [Option.bind_some]
 unfold Km
 by_cases hk:(fp rest).2.2=0
 ·obtain ⟨_,k2,k3⟩:=CY hk
  have hk2:((fp rest).2.2==0)=true:=by simpa using hk
  obtain ⟨b,s',e1,e2⟩:=BZ (T:=(fp rest).1) k3 k2 (fu lab)
  have e1:dL (fp rest).1 0 lab false 0 0 [] [] false 0 0 [] [] false 0 0 [] [] [] [] []=_:=e1
  have hsm:=Jc (sN lab) (ts:=(fp rest).1) ⟨k3,fun t ht=>xP (k2 t ht)⟩
  have hs':(pSt (fu lab) (fp rest).1).1=0->SB s':=fun h=>by rw [e2 h];exact hsm.1
  simp only [hk2,if_true,e1,Option.bind_some,bx2,vm,Jd _ _ _ _ _ _ _ _ _ _ _ _ _ _ _ _ _ _ _ _ _ s' hs',hk,ne_eq,not_true_eq_false,if_false]
  refine (Na s' _).trans ?_
  by_cases hc:(pSt (fu lab) (fp rest).1).1=0
  ·rw [e2 hc]
  ·simp only [hc,ne_eq,not_false_eq_true,if_true]
 ·have hk2:((fp rest).2.2==0)=false:=by simpa using hk
  have L:∀ b:Bool,aT (fp rest).2.2 b x1 x2 x3 x4 x5 x6 x7 x8 x9 x10 x11 x12 x13 x14 x15 x16 x17 x18 x19 lab false 0 0 [] [] false 0 0 [] [] false 0 0 [] [] [] [] []=some (fu [],(fp rest).2.2):=fun b=>by
   have:=Jd (fp rest).2.2 b x1 x2 x3 x4 x5 x6 x7 x8 x9 x10 x11 x12 x13 x14 x15 x16 x17 x18 x19 (fu lab) (fun h=>absurd h hk)
   unfold Kn at this
   rw [if_pos hk] at this
   exact this
  simp only [hk2,Bool.false_eq_true,if_false,L,hk,ne_eq,not_false_eq_true,if_true]
  split
  ·rfl
  ·rfl
theorem C0 (s:List UInt8):gV s=if 4000<s.length\/eV s=false then (fu [],1) else if mN s=false/\b6 (if mN s=true then [] else (Lib.cut s [32]).1)=false then (fu [],2) else Km (if mN s=true then [] else (Lib.cut s [32]).1) (s.drop (if mN s=true then [] else (Lib.cut s [32]).1).length):=rfl
theorem uM {s:List UInt8} (h:s.length<=1000000000):jI s=some (gV s):=by
 rw [rP,C0]
 by_cases hl:4000<s.length
 ·rw [if_pos (by simp [aj];omega),if_pos (.inl hl)];rfl
 rw [if_neg (by simp [aj];omega),gF (by omega)]
 simp only [Option.bind_some]
 cases hp:eV s with
 | false=>rw [if_pos (by rfl),if_pos (.inr rfl)];rfl
 | true=>
  have hf:dl s [32]=some (mN s):=by
   rw [ov];cases s<;>rfl
  rw [if_neg (by decide),if_neg (by simp;omega),hf]
  simp only [Option.bind_some]
  cases hs:mN s with
  | true=>
   simp only [Bool.not_true,Bool.false_eq_true,if_false,if_true,Bool.true_eq_false,false_and]
   exact Lj (by omega) _ _ _ _ _ _ _ _ _ _ _ _ _ _ _ _ _ _ _
  | false=>
   have hcl:(Lib.cut s [32]).1.length<=s.length:=by
    unfold Lib.cut
    split
    ·simp only [List.length_take];omega
    ·exact Nat.le_refl _
   simp only [Bool.not_false,if_true,Bool.false_eq_true,if_false,true_and]
   unfold Ih
   rw [if_pos (by omega)]
   simp only [Option.bind_some,Option.getD_none,aj]
   rw [iB hcl (Nat.le_refl _),pT]
   simp only [Option.bind_some,List.take_length]
   cases hn:b6 (Lib.cut s [32]).1 with
   | false=>rfl
   | true=>
    simp only [Bool.not_true,Bool.false_eq_true,if_false,Bool.true_eq_false]
    exact Lj (by rw [List.length_drop];omega) _ _ _ _ _ _ _ _ _ _ _ _ _ _ _ _ _ _ _
end Go.Dv.U

namespace Go.Dv.U
open Go Go.Dv Go.Proofs
def Lk (xs:List ab) (n:Nat):Prop:=xs.length<=n/\aS ab.m xs<=10000*xs.length
theorem Lk.prog {xs:List ab} (h:Lk xs 90):(aq.mk xs).m<=1000000:=by
 rw [aq.m_eq]
 have h1:=h.1
 have h2:=h.2
 show xs.length+aS ab.m xs<=_
 omega
end Go.Dv.U

namespace Go.Dv.U
open Go Go.Dv Go.Proofs
theorem Ko (t:List UInt8):SB (gV t).1:=by
 have hz:SB (fu []):=sN []
 rw [C0]
 split
 ·exact hz
 generalize (if mN t=true then [] else (Lib.cut t [32]).1)=lab
 split
 ·exact hz
 unfold Km
 simp only
 split
 ·exact hz
 rename_i hk
 have hk:(fp (t.drop lab.length)).2.2=0:=by simpa using hk
 obtain ⟨_,k2,k3⟩:=CY hk
 split
 ·exact hz
 split
 ·exact hz
 split
 ·exact (Jc (sN lab) ⟨k3,fun t ht=>xP (k2 t ht)⟩).1
 ·exact hz
end Go.Dv.U

namespace Go.Dv.U
open Go Go.Dv Go.Proofs
def q8 (acc:List ab) (l:List UInt8):Bool:=!(l==[])&&(GN l||decide (0<=ixP acc l))
def pLn : List aO->List ab->aq×Int×Int
 | [],acc=>if 4000<(vX acc).length then (⟨[]⟩,0,6) else (⟨acc⟩,0,0)
 | y:: r,acc=>
  if (gV y.fText).2≠0 then (⟨[]⟩,y.fNumber,(gV y.fText).2)
  else if q8 acc (gV y.fText).1.fLabel=true then (⟨[]⟩,y.fNumber,10)
  else if acc.length<80 then pLn r (acc++[(gV y.fText).1]) else (⟨[]⟩,y.fNumber,6)
def D3 (s:List UInt8):aq×Int×Int:=if (LL s).2.2≠0 then (⟨[]⟩,(LL s).2.1,(LL s).2.2) else pLn (LL s).1 []
theorem Ll (a b c:Int):rI [a,b,c]=some (if a≠0 then a else if b≠0 then b else c):=by
 have w1:w64 (0+1)=1:=aW (by omega) (by omega)
 have w2:w64 (1+1)=2:=aW (by omega) (by omega)
 have w3:w64 (2+1)=3:=aW (by omega) (by omega)
 have l3:len ([a,b,c]:List Int)=3:=rfl
 have i2:idx ([a,b,c]:List Int) 2=some c:=rfl
 rw [uh,cK,l3,if_pos (by decide),jf]
 simp only [List.getElem?_cons_zero,Option.bind_some,w1]
 by_cases ha:a=0
 ·rw [if_neg (by simpa using ha),if_neg (by simpa using ha),cK,if_pos (by decide),rG]
  simp only [List.getElem?_cons_succ,List.getElem?_cons_zero,Option.bind_some,w2]
  by_cases hb:b=0
  ·rw [if_neg (by simpa using hb),if_neg (by simpa using hb),cK,if_pos (by decide),i2]
   simp only [Option.bind_some,w3]
   by_cases hc:c=0
   ·rw [if_neg (by simpa using hc),cK,if_neg (by decide),hc]
   ·rw [if_pos (by simpa using hc)]
  ·rw [if_pos (by simpa using hb),if_pos hb]
 ·rw [if_pos (by simpa using ha),if_pos ha]
theorem Lm (x:ab):ab.mk x.fLabel x.fHasSubject (aa.mk x.fSubject.fKind x.fSubject.fNum x.fSubject.fText x.fSubject.fKids) x.fHasPattern (aa.mk x.fPattern.fKind x.fPattern.fNum x.fPattern.fText x.fPattern.fKids) x.fHasReplace (aa.mk x.fReplace.fKind x.fReplace.fNum x.fReplace.fText x.fReplace.fKids) (aw.mk x.fGoto.fAlways x.fGoto.fSuccess x.fGoto.fFailure)=x:=by
 simp only [aa.eta]
theorem Kp (c:Int) (b:Bool) (ls:List aO) (n:Int) (i:Nat) (z acc:List ab) (num:Int) (tx:List UInt8) (s:ab) (hi:i<=1000000000) (ha:acc.length<=100000):
  cO c b ls n i z acc num tx s.fLabel s.fHasSubject s.fSubject.fKind s.fSubject.fNum s.fSubject.fText s.fSubject.fKids s.fHasPattern s.fPattern.fKind s.fPattern.fNum s.fPattern.fText s.fPattern.fKids s.fHasReplace s.fReplace.fKind s.fReplace.fNum s.fReplace.fText s.fReplace.fKids s.fGoto.fAlways s.fGoto.fSuccess s.fGoto.fFailure =
   if c≠0 then some (⟨[]⟩,num,c) else if b=true then some (⟨[]⟩,num,10) else if acc.length<80 then dm ls n ((i+1:Nat):Int) z (acc++[s]) else some (⟨[]⟩,num,6):=by
 have w:w64 ((i:Int)+1)=((i+1:Nat):Int):=by rw [aW (by omega) (by omega)];omega
 have u1:g9 (!b) 10=some (if b=true then 10 else 0):=by rw [gL];cases b<;>rfl
 have u2:g9 (decide (len acc<80)) 6=some (if acc.length<80 then 0 else 6):=by
  rw [gL,aj]
  by_cases h:acc.length<80
  ·rw [if_pos (by simp;omega),if_pos h]
  ·rw [if_neg (by simp;omega),if_neg h]
 rw [py,u1,u2,av (by simp;omega),Lm,w]
 simp only [Option.bind_some,Ll]
 by_cases hc:c=0
 ·subst hc
  cases b with
  | true=>simp
  | false=>
   by_cases h:acc.length<80
   ·simp [h]
   ·simp [h]
 ·rw [if_pos hc,if_pos (by simpa using hc)]
  simp [hc]
theorem Ln {ls:List aO} (hl:ls.length<=1000000000) (ht:∀ y∈ls,y.fText.length<=1000000000) (z:List ab):∀ acc:List ab,acc.length<=80->(∀ y∈acc,fm y=true)->dm ls (len ls) 0 z acc=some (pLn ls acc):=by
 refine bz (xs:=ls) (by omega) (P:=fun i l=>∀ acc:List ab,acc.length<=80->(∀ y∈acc,fm y=true)->dm ls (len ls) (i:Int) z acc=some (pLn l acc)) ?_ ?_
 ·intro acc ha hv
  have hf:∀ y∈(aq.mk acc).fStatements,lM y=true:=fun y hy=>xK (hv y hy)
  rw [jY,if_neg (by simp [aj]),uH ha hf]
  simp only [Option.bind_some,pLn]
  by_cases h:4000<(vX acc).length
  ·rw [if_pos (by simp [aj];omega),if_pos h]
  ·rw [if_neg (by simp [aj];omega),if_neg h]
 ·intro i y l _ hlt hy hi hw ih acc ha hv
  rw [jY,if_pos (by simp [aj];omega),hi]
  simp only [Option.bind_some]
  rw [uM (ht y hy)]
  simp only [Option.bind_some]
  have fin:∀ b:Bool,b=q8 acc (gV y.fText).1.fLabel->cO (gV y.fText).2 b ls (len ls) i z acc y.fNumber y.fText (gV y.fText).1.fLabel (gV y.fText).1.fHasSubject (gV y.fText).1.fSubject.fKind (gV y.fText).1.fSubject.fNum (gV y.fText).1.fSubject.fText (gV y.fText).1.fSubject.fKids (gV y.fText).1.fHasPattern (gV y.fText).1.fPattern.fKind (gV y.fText).1.fPattern.fNum (gV y.fText).1.fPattern.fText (gV y.fText).1.fPattern.fKids (gV y.fText).1.fHasReplace (gV y.fText).1.fReplace.fKind (gV y.fText).1.fReplace.fNum (gV y.fText).1.fReplace.fText (gV y.fText).1.fReplace.fKids (gV y.fText).1.fGoto.fAlways (gV y.fText).1.fGoto.fSuccess (gV y.fText).1.fGoto.fFailure=some (pLn (y:: l) acc):=by
   intro b hb
   rw [Kp _ _ _ _ i _ _ _ _ (gV y.fText).1 (by omega) (by omega)]
   simp only [pLn]
   subst hb
   by_cases hc:(gV y.fText).2=0
   ·simp only [hc,ne_eq,not_true_eq_false,if_false]
    cases q8 acc (gV y.fText).1.fLabel with
    | true=>simp
    | false=>
     simp only [Bool.false_eq_true,if_false]
     by_cases h:acc.length<80
     ·rw [if_pos h,if_pos h]
      exact ih (acc++[(gV y.fText).1]) (by simp;omega) (fun z hz=>by
       rcases List.mem_append.1 hz with h1 | h1
       ·exact hv z h1
       ·have:z=(gV y.fText).1:=by simpa using h1
        rw [this];exact zt hc)
     ·rw [if_neg h,if_neg h]
   ·simp only [hc,ne_eq,not_false_eq_true,if_true]
  unfold q8 at fin
  cases hl0:((gV y.fText).1.fLabel==[]) with
  | true=>
   rw [hl0] at fin
   simp only [Bool.not_true,Bool.false_eq_true,if_false]
   exact fin false rfl
  | false=>
   rw [hl0] at fin
   simp only [Bool.not_false,if_true,xL,Option.bind_some]
   cases hr:GN (gV y.fText).1.fLabel with
   | true=>
    rw [hr] at fin
    simp only [if_true]
    exact fin true rfl
   | false=>
    rw [hr] at fin
    simp only [Bool.false_eq_true,if_false]
    rw [xM (p:=aq.mk acc) ha]
    simp only [Option.bind_some]
    exact fin _ (by simp)
theorem G4 (s:List UInt8):(LL s).1.length<=1000000000/\∀ y∈(LL s).1,y.fText.length<=1000000000:=by
 unfold LL
 split
 ·rename_i hv
  obtain ⟨h1,h2⟩:=Kf hv
  split
  ·exact ⟨by simp,fun y hy=>by cases hy⟩
  ·refine ⟨?_,fun y hy=>?_⟩
   ·have:=AF (f:=lgF) (B:=755001) (l:=(cmb (cv s) 0 []).1) fun y hy=>by have:=GS y;have:=h1.2 y hy;omega
    have:=h1.1
    show ((cmb (cv s) 0 []).1.flatMap lgF).length<=_
    omega
   ·obtain ⟨x,hx,hy⟩:=List.mem_flatMap.1 hy
    obtain ⟨p,hp,hq⟩:=List.mem_flatMap.1 hy
    have:=h2 x hx p hp
    split at hq
    ·cases hq
    ·have:y=⟨x.fNumber,p⟩:=by simpa using hq
     rw [this];show p.length<=_;omega
 ·exact ⟨by simp,fun y hy=>by cases hy⟩
theorem xS {s:List UInt8} (h:s.length<=1000000):mr s=some (D3 s):=by
 rw [tZ,uK h]
 simp only [Option.bind_some]
 unfold D3
 by_cases hk:(LL s).2.2=0
 ·rw [if_neg (by simpa using hk),if_neg (by simpa using hk)]
  obtain ⟨h1,h2⟩:=G4 s
  exact Ln h1 h2 [] [] (by simp) (fun y hy=>by cases hy)
 ·rw [if_pos (by simpa using hk),if_pos hk]
end Go.Dv.U

namespace Go.Dv.U
open Go Go.Dv Go.Proofs
theorem C1 {α:Type} (p:α->Bool):∀ (a b:List α) (i:Nat),(ixF p a i = -1/\ixF p (a++b) i=ixF p b (i+a.length))\/∃ k,k<a.length/\ixF p a i=((i+k:Nat):Int)/\ixF p (a++b) i=((i+k:Nat):Int)
 | [],b,i=>.inl ⟨rfl,by simp⟩
 | y:: r,b,i=>by
  simp only [ixF,List.cons_append]
  by_cases h:p y=true
  ·exact .inr ⟨0,by simp,by simp [h],by simp [h]⟩
  ·rw [if_neg h,if_neg h]
   rcases C1 p r b (i+1) with ⟨h1,h2⟩ | ⟨k,h1,h2,h3⟩
   ·exact .inl ⟨h1,by rw [h2];congr 1;simp;omega⟩
   ·exact .inr ⟨k+1,by simp;omega,by rw [h2];congr 1;omega,by rw [h3];congr 1;omega⟩
theorem G5 {acc:List ab} {s:ab} (h:q8 acc s.fLabel=false):Iu (acc++[s]) s acc.length=true:=by
 unfold q8 at h
 unfold Iu
 cases hl:(s.fLabel==[]) with
 | true=>rfl
 | false=>
  rw [hl] at h
  simp only [Bool.not_false,Bool.true_and,Bool.or_eq_false_iff,decide_eq_false_iff_not] at h
  obtain ⟨h1,h2⟩:=h
  rw [h1]
  unfold ixP at h2 ⊢
  rcases C1 (fun x:ab=>x.fLabel==s.fLabel) acc [s] 0 with ⟨_,h4⟩ | ⟨k,_,h3,_⟩
  ·rw [h4];simp [ixF]
  ·rw [h3] at h2;omega
theorem G6 {acc:List ab} {s y:ab} {j:Nat} (hy:acc[j]?=some y) (h:Iu acc y j=true):Iu (acc++[s]) y j=true:=by
 unfold Iu at h ⊢
 cases hl:(y.fLabel==[]) with
 | true=>rfl
 | false=>
  rw [hl] at h
  simp only [Bool.false_or,Bool.and_eq_true,Bool.not_eq_true',beq_iff_eq] at h ⊢
  obtain ⟨h1,h2⟩:=h
  refine ⟨h1,?_⟩
  unfold ixP at h2 ⊢
  rcases C1 (fun x:ab=>x.fLabel==y.fLabel) acc [s] 0 with ⟨h3,_⟩ | ⟨k,_,h3,h4⟩
  ·rw [h3] at h2;omega
  ·rw [h4,<-h3];exact h2
theorem vn {xs:List ab} {c:ab->Nat->Bool}:∀ {l:List ab} {i:Nat},B4 c l i=true->∀ (j:Nat) (y:ab),l[j]?=some y->c y (i+j)=true
 | [],i,_,j,y,h=>by simp at h
 | z:: r,i,hg,j,y,h=>by
  simp only [B4,Bool.and_eq_true] at hg
  cases j with
  | zero=>simp at h;subst h;exact hg.1
  | succ j=>
   have:=vn (xs:=xs) hg.2 j y (by simpa using h)
   rwa [show i+1+j=i+(j+1) by omega] at this
theorem xT {c:ab->Nat->Bool}:∀ {l:List ab} {i:Nat},(∀ (j:Nat) (y:ab),l[j]?=some y->c y (i+j)=true)->B4 c l i=true
 | [],i,_=>rfl
 | z:: r,i,h=>by
  simp only [B4,Bool.and_eq_true]
  exact ⟨by have:=h 0 z rfl;rwa [Nat.add_zero] at this,xT fun j y hy=>by have:=h (j+1) y (by simpa using hy);rwa [show i+(j+1)=i+1+j by omega] at this⟩
def Mz (acc:List ab):Prop:=acc.length<=80/\(∀ y∈acc,fm y=true/\SB y)/\B4 (Iu acc) acc 0=true
end Go.Dv.U

namespace Go.Dv.U
open Go Go.Dv Go.Proofs
def bq (T:List ac) (a:Int) (A:Bool) (c:Int):(List ac×Int×Bool×Int×Unit)×Unit:=((T,a,A,c,()),())
theorem B1 {t:ac} (h:tOk t):lZ t=some true:=by
  obtain ⟨⟨k1,k2⟩,h⟩:=h
  rw [xA]
  simp only [li,qk,om,Option.bind_some]
  rcases h with ⟨a,b,c⟩ | ⟨a,b,c,d⟩ | ⟨a,b,c⟩ | ⟨a,b,x,c,d⟩ | ⟨a,b,c⟩
  · simp [a,b,c]
  · simp [a,b,c,d]
  · simp [a,b,c]
  · have hop:pt t.fText=some true:=by
      rw [xB,c]
      have e:(len [x]==(1:Int))=true:=rfl
      have e2:idx [x] 0=some x:=rfl
      rw [if_pos e,e2]
      simp only [Option.bind_some,oD,d]
    simp [a,b,hop]
  · have e1:¬ t.fKind=1:=by omega
    have e2:¬ t.fKind=2:=by omega
    have e3:¬ t.fKind=3:=by omega
    have e4:¬ t.fKind=4:=by omega
    simp [e1,e2,e3,e4,b,c,a,k2]
theorem G7 {t:ac} (ht:tOk t):ti t=some (ox t):=by
 rw [BK,B1 ht]
 simp only [Option.bind_some,if_true,ox]
 cases t.fBefore<;>by_cases h:t.fKind=4<;>simp [h]
theorem G8 {t:ac}:nS t=some (t.fKind==4&&!t.fAfter&&nv t.fText):=by
 rw [yB]
 simp only [uD,tB]
 by_cases h:t.fKind=4
 ·cases hA:t.fAfter with
  | true=>simp [h]
  | false=>
   by_cases q1:t.fText=[45]
   ·simp [h,q1,nv]
   by_cases q2:t.fText=[42]
   ·simp [h,q2,nv]
   by_cases q3:t.fText=[36]
   ·simp [h,q3,nv]
   by_cases q4:t.fText=[46]
   ·simp [h,q4,nv]
   by_cases q5:t.fText=[64]
   ·simp [h,q5,nv]
   simp [h,q1,q2,q3,q4,q5,nv]
 ·simp [h]
theorem xU (T:List ac) (a:Int) (A:Bool):aZ T a A 0=some (jH,bq T a A 2):=by
 rw [le];rfl
theorem D4 (T:List ac) (a:Int) (A:Bool):aZ T a A 2=some (jH,bq T a A 2):=by
 rw [le];rfl
theorem D5 (k:Int) (T:List ac) (a:Int) (A:Bool):aQ k T a A 2=some (false,bq T a A 2):=by
 rw [lf,if_pos (by decide),iL];rfl
theorem sO (T:List ac) (a:Int) (A:Bool) (s:List UInt8):bD T a A 2 s=some false:=by
 rw [kn,if_neg (by decide)]
theorem G9 (T:List ac) (a:Int) (A:Bool):eJ T a A 2=some false:=by
 rw [iM,if_pos (by decide),gw]
theorem oy {T:List ac} {a:Nat} (hT:T.length<=1000) (h:a<=T.length) (k:Int) (A:Bool):
  (aX k (T.drop a)=some (T.drop (a+1))/\a<T.length/\aQ k T a A 0=some (true,bq T ((a+1:Nat):Int) A 0))\/(aX k (T.drop a)=none/\aQ k T a A 0=some (false,bq T a A 0)):=by
 rw [lf,if_neg (by decide)]
 simp only [iL,oU]
 rcases fT h with ⟨rfl,e⟩ | ⟨t,hlt,hi,e,_⟩
 ·rw [if_pos (by simp [aj]),e];exact .inr ⟨rfl,rfl⟩
 ·rw [if_neg (by simp [aj];omega),hi,e]
  simp only [Option.bind_some,aX]
  by_cases hk:t.fKind=k
  ·exact .inl ⟨by simp [hk],hlt,by simp [hk,yM hT hlt,bq]⟩
  ·exact .inr ⟨by simp [hk],by simp [hk,bq]⟩
theorem D6 {T:List ac} {a:Nat} (hT:T.length<=1000) (h:a<=T.length) (A:Bool):
    (∃ s,dR (T.drop a)=some (s,T.drop (a+1))/\a<T.length/\b8 T a A 0=some (s,bq T ((a+1:Nat):Int) A 0))\/(dR (T.drop a)=none/\b8 T a A 0=some ([],bq T a A 2)):=by
  rw [sA]
  rcases oy hT h 1 A with ⟨e1,hlt,e3⟩ | ⟨e1,e3⟩
  · rcases fT h with ⟨e,_⟩ | ⟨t,_,hi,e,_⟩
    · omega
    rw [e] at e1
    have hk:t.fKind=1:=by
      simp only [aX] at e1
      split at e1
      · assumption
      · cases e1
    refine .inl ⟨t.fText,by rw [e];simp [dR,hk],hlt,?_⟩
    rw [e3]
    have w:w64 (((a+1:Nat):Int)-1)=(a:Int):=by rw [aW (by omega) (by omega)];omega
    simp only [Option.bind_some,bq,Bool.not_true,Bool.false_eq_true,if_false,w,hi]
  · have hn:dR (T.drop a)=none:=by
      rcases fT h with ⟨_,e⟩ | ⟨t,_,_,e,_⟩
      · rw [e];rfl
      · rw [e] at e1 ⊢
        simp only [aX] at e1
        split at e1
        · cases e1
        · rename_i hk;simp [dR,hk]
    refine .inr ⟨hn,?_⟩
    rw [e3]
    simp only [Option.bind_some,bq,Bool.not_false,if_true,xU]
def hdT (T:List ac) (a:Nat) (p:ac->Bool):Bool:=match T.drop a with | []=>false | t:: _=>p t
theorem ln {T:List ac} (hok:∀ t∈T,tOk t) {a:Nat} (h:a<=T.length) (A:Bool) (s:List UInt8):
  bD T a A 0 s=some (hdT T a fun t=>ox t&&t.fText==s):=by
 rw [kn,if_pos (by decide)]
 unfold hdT
 rcases fT h with ⟨rfl,e⟩ | ⟨t,hlt,hi,e,hm⟩
 ·rw [if_neg (by simp [aj]),e]
 ·rw [if_pos (by simp [aj];omega),hi,e]
  simp only [Option.bind_some,G7 (hok t hm)]
  cases ox t<;>simp
theorem C2 {T:List ac} {a:Nat} (h:a<=T.length) (A:Bool):eJ T a A 0=some (hdT T a Kg):=by
 rw [iM,if_neg (by decide)]
 simp only [gw,mK]
 unfold hdT
 rcases fT h with ⟨rfl,e⟩ | ⟨t,hlt,hi,e,hm⟩
 ·rw [if_pos (by simp [aj]),e]
 ·rw [if_neg (by simp [aj];omega),hi,e]
  simp only [Option.bind_some,Kg,G8]
  cases hB:t.fBefore with
  | false=>simp
  | true=>
   by_cases k1:t.fKind=1
   ·simp [k1]
   by_cases k2:t.fKind=2
   ·simp [k2]
   by_cases k3:t.fKind=3
   ·simp [k3]
   by_cases k5:t.fKind=5
   ·simp [k5]
   simp [k1,k2,k3,k5]
abbrev SR := aa×((List ac×Int×Bool×Int×Unit)×Unit)
noncomputable def sEx : Nat->List ac->Int->Bool->Int->Option SR
 | 1=>bj
 | 2=>ie
 | 3=>ig
 | 4=>gC
 | 5=>gD
 | _=>cd
noncomputable def sLp : Nat->List ac->Int->Bool->Int->Int->Int->List UInt8->List aa->aa->Option SR
 | 1,T,a,A,c,d1,d2,d3,d4,l=>fi T a A c d1 d2 d3 d4 l.fKind l.fNum l.fText l.fKids
 | 2,T,a,A,c,d1,d2,d3,d4,l=>fj T a A c d1 d2 d3 d4 l.fKind l.fNum l.fText l.fKids
 | 3,T,a,A,c,d1,d2,d3,d4,l=>fk T a A c d1 d2 d3 d4 l.fKind l.fNum l.fText l.fKids
 | 4,T,a,A,c,d1,d2,d3,d4,l=>eK T a A c d1 d2 d3 d4 l.fKind l.fNum l.fText l.fKids
 | 5,T,a,A,c,d1,d2,d3,d4,l=>eL T a A c d1 d2 d3 d4 l.fKind l.fNum l.fText l.fKids
 | _,_,_,_,_,_,_,_,_,_=>none
theorem Lo {n:Nat} (h1:1<=n) (h5:n<=5) (T:List ac) (a:Int) (A:Bool) (c:Int):sEx n T a A c=(sEx (n+1) T a A c).bind fun r=>sLp n r.2.1.1 r.2.1.2.1 r.2.1.2.2.1 r.2.1.2.2.2.1 0 0 [] [] r.1:=by
 have:n=1\/n=2\/n=3\/n=4\/n=5:=by omega
 rcases this with rfl | rfl | rfl | rfl | rfl
 ·exact tz ..
 ·exact tA ..
 ·exact tC ..
 ·exact sC ..
 ·exact sD ..
theorem Nb {n:Nat} (h1:1<=n) (h5:n<=5) (T:List ac) (a:Int) (A:Bool) (d1 d2:Int) (d3:List UInt8) (d4:List aa) (l:aa):sLp n T a A 2 d1 d2 d3 d4 l=some (l,bq T a A 2):=by
 have:n=1\/n=2\/n=3\/n=4\/n=5:=by omega
 rcases this with rfl | rfl | rfl | rfl | rfl
 ·rw [sLp,jB,sO];simp only [Option.bind_some,Bool.false_eq_true,if_false,aa.eta,bq]
 ·rw [sLp,jC,G9];simp only [Option.bind_some,Bool.false_eq_true,if_false,aa.eta,bq]
 ·rw [sLp,jD,sO,sO];simp only [Option.bind_some,Bool.false_eq_true,if_false,aa.eta,bq]
 ·rw [sLp,iN,sO,sO];simp only [Option.bind_some,Bool.false_eq_true,if_false,aa.eta,bq]
 ·rw [sLp,iO,sO,sO];simp only [Option.bind_some,Bool.false_eq_true,if_false,aa.eta,bq]
theorem Lp {T:List ac} (hT:T.length<=1000) (hok:∀ t∈T,tOk t) {n:Nat} (h1:1<=n) (h5:n<=5) {a:Nat} (h:a<=T.length) (A:Bool) (d1 d2:Int) (d3:List UInt8) (d4:List aa) (l:aa):
  (inf n (T.drop a)=none/\sLp n T a A 0 d1 d2 d3 d4 l=some (l,bq T a A 0)) \/
  (∃ k a',inf n (T.drop a)=some (k,T.drop a')/\a'<=T.length/\sLp n T a A 0 d1 d2 d3 d4 l =
   if n=5 then (b8 T (a':Int) A 0).bind fun r=>sLp n r.2.1.1 r.2.1.2.1 r.2.1.2.2.1 r.2.1.2.2.2.1 d1 d2 d3 d4 ⟨k,0,[],[l,⟨3,0,r.1,[]⟩]⟩
   else (sEx (n+1) T (a':Int) A 0).bind fun r=>sLp n r.2.1.1 r.2.1.2.1 r.2.1.2.2.1 r.2.1.2.2.2.1 d1 d2 d3 d4 ⟨k,0,[],[l,r.1]⟩):=by
 have:n=1\/n=2\/n=3\/n=4\/n=5:=by omega
 rcases this with rfl | rfl | rfl | rfl | rfl
 ·rw [sLp,jB,ln hok h]
  unfold hdT
  rcases fT h with ⟨e0,e⟩ | ⟨t,hlt,hi,e,hm⟩
  ·rw [e];exact .inl ⟨rfl,by simp [aa.eta,bq]⟩
  ·rw [e]
   simp only [Option.bind_some,fF,yM hT hlt]
   by_cases hI:ox t=true
   ·by_cases q1:t.fText=[124]
    ·exact .inr ⟨6,a+1,by simp [inf,hI,q1,opK],by omega,by simp [hI,q1,aa.eta,sEx,sLp]⟩
    exact .inl ⟨by simp [inf,hI,opK,q1],by simp [hI,q1,aa.eta,bq]⟩
   ·exact .inl ⟨by simp [inf,hI],by simp [hI,aa.eta,bq]⟩
 ·rw [sLp,jC,C2 h]
  unfold hdT
  rcases fT h with ⟨e0,e⟩ | ⟨t,hlt,hi,e,hm⟩
  ·rw [e];exact .inl ⟨rfl,by simp [aa.eta,bq]⟩
  ·rw [e]
   simp only [Option.bind_some,fF]
   cases hb:Kg t with
   | true=>exact .inr ⟨7,a,by rw [e];simp [inf,hb],h,by simp [aa.eta,sEx,sLp]⟩
   | false=>exact .inl ⟨by simp [inf,hb],by simp [aa.eta,bq]⟩
 ·rw [sLp,jD,ln hok h,ln hok h]
  unfold hdT
  rcases fT h with ⟨e0,e⟩ | ⟨t,hlt,hi,e,hm⟩
  ·rw [e];exact .inl ⟨rfl,by simp [aa.eta,bq]⟩
  ·rw [e,hi]
   simp only [Option.bind_some,fF,yM hT hlt,pK]
   by_cases hI:ox t=true
   ·by_cases q1:t.fText=[43]
    ·exact .inr ⟨8,a+1,by simp [inf,hI,q1,opK],by omega,by simp [hI,q1,aa.eta,sEx,sLp]⟩
    by_cases q2:t.fText=[45]
    ·exact .inr ⟨9,a+1,by simp [inf,hI,q2,opK],by omega,by simp [hI,q2,aa.eta,sEx,sLp]⟩
    exact .inl ⟨by simp [inf,hI,opK,q1,q2],by simp [hI,q1,q2,aa.eta,bq]⟩
   ·exact .inl ⟨by simp [inf,hI],by simp [hI,aa.eta,bq]⟩
 ·rw [sLp,iN,ln hok h,ln hok h]
  unfold hdT
  rcases fT h with ⟨e0,e⟩ | ⟨t,hlt,hi,e,hm⟩
  ·rw [e];exact .inl ⟨rfl,by simp [aa.eta,bq]⟩
  ·rw [e,hi]
   simp only [Option.bind_some,fF,yM hT hlt,oW]
   by_cases hI:ox t=true
   ·by_cases q1:t.fText=[42]
    ·exact .inr ⟨10,a+1,by simp [inf,hI,q1,opK],by omega,by simp [hI,q1,aa.eta,sEx,sLp]⟩
    by_cases q2:t.fText=[47]
    ·exact .inr ⟨11,a+1,by simp [inf,hI,q2,opK],by omega,by simp [hI,q2,aa.eta,sEx,sLp]⟩
    exact .inl ⟨by simp [inf,hI,opK,q1,q2],by simp [hI,q1,q2,aa.eta,bq]⟩
   ·exact .inl ⟨by simp [inf,hI],by simp [hI,aa.eta,bq]⟩
 ·rw [sLp,iO,ln hok h,ln hok h]
  unfold hdT
  rcases fT h with ⟨e0,e⟩ | ⟨t,hlt,hi,e,hm⟩
  ·rw [e];exact .inl ⟨rfl,by simp [aa.eta,bq]⟩
  ·rw [e,hi]
   simp only [Option.bind_some,fF,yM hT hlt,oX]
   by_cases hI:ox t=true
   ·by_cases q1:t.fText=[46]
    ·exact .inr ⟨12,a+1,by simp [inf,hI,q1,opK],by omega,by simp [hI,q1,aa.eta,sLp]⟩
    by_cases q2:t.fText=[36]
    ·exact .inr ⟨13,a+1,by simp [inf,hI,q2,opK],by omega,by simp [hI,q2,aa.eta,sLp]⟩
    exact .inl ⟨by simp [inf,hI,opK,q1,q2],by simp [hI,q1,q2,aa.eta,bq]⟩
   ·exact .inl ⟨by simp [inf,hI],by simp [hI,aa.eta,bq]⟩
end Go.Dv.U

namespace Go.Dv.U
open Go Go.Dv Go.Proofs
def smN (y:aa):Bool:=decide (y.fKind≠4)||decide (y.fKids.length<=6)
def smE (x:aa):Bool:=x.all smN
theorem D7 (x:aa):smE x=(smN x&&x.fKids.all smE):=aa.all_eq _ _
theorem IH (k n:Int) (s:List UInt8):smE ⟨k,n,s,[]⟩=true:=by rw [D7];simp [smN]
theorem Ob (k n:Int) (s:List UInt8) (x:aa):smE ⟨k,n,s,[x]⟩=smE x:=by rw [D7];simp [smN]
theorem MA (k n:Int) (s:List UInt8) (l x:aa):smE ⟨k,n,s,[l,x]⟩=(smE l&&smE x):=by rw [D7];simp [smN]
theorem Nc (s:List UInt8) (ks:List aa):smE ⟨4,0,s,ks⟩=(decide (ks.length<=6)&&ks.all smE):=by rw [D7];simp [smN]
theorem fl2 (A:Bool) (k:Int) (l x:aa):((A||!smE l)||!smE x)=(A||!smE ⟨k,0,[],[l,x]⟩):=by
 rw [MA];cases A<;>cases smE l<;>cases smE x<;>rfl
theorem fl5 (A:Bool) (k:Int) (l:aa) (s:List UInt8):(A||!smE l)=(A||!smE ⟨k,0,[],[l,⟨3,0,s,[]⟩]⟩):=by
 rw [MA,IH];cases A<;>cases smE l<;>rfl
theorem flc (A:Bool) (s:List UInt8) (acc:List aa) (x:aa):(((A||!smE ⟨4,0,s,acc⟩)||!smE x)||decide (acc.length+1>6))=(A||!smE ⟨4,0,s,acc++[x]⟩):=by
 rw [Nc,Nc]
 simp only [List.length_append,List.length_singleton,List.all_append,List.all_cons,List.all_nil,Bool.and_true]
 by_cases h:acc.length+1<=6
 ·have h1:acc.length<=6:=by omega
  have h2:¬ acc.length+1>6:=by omega
  simp only [h,h1,h2,decide_true,decide_false,Bool.true_and,Bool.or_false]
  cases A<;>cases acc.all smE<;>cases smE x<;>rfl
 ·have h2:acc.length+1>6:=by omega
  simp [h,h2]
def Ha (o:Option SR) (T:List ac) (A:Bool) (g:aa->aa) (res:Option (aa×List ac)):Prop:=
 (∃ (x:aa) (a':Nat),res=some (x,T.drop a')/\a'<=T.length/\o=some (g x,bq T (a':Int) (A||!smE (g x)) 0))\/(res=none/\∃ (e:aa) (b:Int) (A':Bool),o=some (e,bq T b A' 2))
theorem II (T:List ac) (a:Int) (A:Bool) (c d1 d2:Int) (d3:List UInt8) (d4:List aa) (e1 e2:Int) (e3:List UInt8) (e4:List aa):bR T a A c d1 d2 d3 d4 e1 e2 e3 e4=aL T a A c d1 d2 d3 d4 e1 e2 e3 e4:=by
 rw [lH,cT]
 simp only [lI,eU,lJ,cU]
theorem Nd (T:List ac) (a:Int) (A:Bool) (d1 d2:Int) (d3:List UInt8) (d4:List aa) (e:aa):aL T a A 2 d1 d2 d3 d4 e.fKind e.fNum e.fText e.fKids=some (e,bq T a A 2):=by
 rw [cT,if_neg (by decide),cU,aa.eta];rfl
def Oh (T:List ac) (f:Nat):Md->Nat->Prop
 | .ex n,a=>1<=n->n<=6->∀ A,Ha (sEx n T a A 0) T A idE (pP f (.ex n) (T.drop a))
 | .lp n l,a=>1<=n->n<=5->∀ A d1 d2 d3 d4,Ha (sLp n T a (A||!smE l) 0 d1 d2 d3 d4 l) T A idE (pP f (.lp n l) (T.drop a))
 | .el,a=>∀ A,Ha (cd T a A 0) T A idE (pP f .el (T.drop a))
 | .pr,a=>a<T.length->∀ A,(∃ (x:aa) (a':Nat),pP f .pr (T.drop a)=some (x,T.drop a')/\a'<=T.length/\eH T a A 0=aL T a' (A||!smE x) 0 0 0 [] [] x.fKind x.fNum x.fText x.fKids)\/(pP f .pr (T.drop a)=none/\∃ (e:aa) (b:Int) (A':Bool),eH T a A 0=some (e,bq T b A' 2))
 | .ix e,a=>∀ A d1 d2 d3 d4,Ha (aL T a (A||!smE e) 0 d1 d2 d3 d4 e.fKind e.fNum e.fText e.fKids) T A idE (pP f (.ix e) (T.drop a))
 | .ar acc,a=>acc.length<=a->∀ A d1 d2 d3 d4 nm,Ha (cF T a (A||!smE ⟨4,0,nm,acc⟩) 0 d1 d2 d3 d4 4 0 nm acc) T A (fun x=>⟨4,0,nm,x.fKids⟩) (pP f (.ar acc) (T.drop a))
theorem Nf {T:List ac} (hT:T.length<=1000) (hok:∀ t∈T,tOk t):∀ (f:Nat) (md:Md) (a:Nat),a<=T.length->md.need (T.drop a)<=f->Oh T f md a:=by
  intro f
  induction f with
  | zero=>
    intro md a _ h
    exfalso
    have:0<md.rk:=by cases md<;>simp only [Md.rk]<;>omega
    unfold Md.need at h;omega
  | succ f ih =>
    intro md a ha hf
    have hda:=bm T ha
    have hlen:∀ (md:Md) (b:Nat) (x:aa) (a':Nat),b<=T.length->a'<=T.length->pP f md (T.drop b)=some (x,T.drop a')->b+md.w<=a':=fun md b x a' hb ha' h=>by
      have h1:=GV f md _ _ _ h
      have h2:=bm T hb
      have h3:=bm T ha'
      omega
    simp only [Md.need] at hf
    cases md with
    | ex n=>
      intro h1 h6 A
      rw [pP]
      by_cases e6:n=6
      · subst e6
        rw [if_pos (by omega)]
        exact ih .el a ha (by simp only [Md.need,Md.rk] at hf ⊢;omega) A
      · rw [if_neg (by omega),Lo h1 (by omega)]
        rcases ih (.ex (n+1)) a ha (by simp only [Md.need,Md.rk] at hf ⊢;omega) (by omega) (by omega) A with ⟨x,a',e1,h2,e2⟩ | ⟨e1,e,b,A',e2⟩
        · have hl:=hlen _ _ _ _ ha h2 e1
          have hda':=bm T h2
          rw [e1,e2]
          simp only [Option.bind_some,idE,bq]
          exact ih (.lp n x) a' h2 (by simp only [Md.need,Md.rk,Md.w] at hf hl ⊢;omega) h1 (by omega) A _ _ _ _
        · rw [e1,e2]
          simp only [Option.bind_some,bq]
          rw [Nb h1 (by omega)]
          exact .inr ⟨rfl,_,_,_,rfl⟩
    | lp n l=>
      intro h1 h5 A d1 d2 d3 d4
      rw [pP]
      rcases Lp hT hok h1 h5 ha (A||!smE l) d1 d2 d3 d4 l with ⟨e1,e2⟩ | ⟨k,a',e1,h2,e2⟩
      · rw [e1,e2]
        exact .inl ⟨l,a,rfl,ha,rfl⟩
      · rw [e1,e2]
        have hil:=AG e1
        have hda':=bm T h2
        simp only
        by_cases e5:n=5
        · subst e5
          rw [if_pos rfl,if_pos rfl]
          rcases D6 hT h2 (A||!smE l) with ⟨s,e3,hlt,e4⟩ | ⟨e3,e4⟩
          · rw [e3,e4]
            simp only [Option.bind_some,bq]
            have hda2:=bm T (a:=a'+1) (by omega)
            rw [fl5 A k l s]
            exact ih (.lp 5 ⟨k,0,[],[l,⟨3,0,s,[]⟩]⟩) (a'+1) (by omega) (by simp only [Md.need,Md.rk] at hf ⊢;omega) h1 h5 A _ _ _ _
          · rw [e3,e4]
            simp only [Option.bind_some,bq]
            rw [Nb h1 h5]
            exact .inr ⟨rfl,_,_,_,rfl⟩
        · rw [if_neg e5,if_neg e5]
          rcases ih (.ex (n+1)) a' h2 (by simp only [Md.need,Md.rk] at hf ⊢;omega) (by omega) (by omega) (A||!smE l) with ⟨x,a2,e3,h3,e4⟩ | ⟨e3,e,b,A',e4⟩
          · have hl:=hlen _ _ _ _ h2 h3 e3
            have hda2:=bm T h3
            rw [e3,e4]
            simp only [Option.bind_some,idE,bq]
            rw [fl2 A k l x]
            exact ih (.lp n ⟨k,0,[],[l,x]⟩) a2 h3 (by simp only [Md.need,Md.rk,Md.w] at hf hl ⊢;omega) h1 h5 A _ _ _ _
          · rw [e3,e4]
            simp only [Option.bind_some,bq]
            rw [Nb h1 h5]
            exact .inr ⟨rfl,_,_,_,rfl⟩
    | el=>
      intro A
      rw [qI,if_neg (by decide)]
      rcases fT ha with ⟨e0,e⟩ | ⟨t,hlt,hi,e,hm⟩
      · rw [e,if_pos (by simp [aj,e0]),xU]
        exact .inr ⟨rfl,_,_,_,rfl⟩
      · rw [if_neg (by simp [aj];omega),hi]
        simp only [Option.bind_some,G8,yM hT hlt]
        have hda1:=bm T (a:=a+1) (by omega)
        have fin:∀ {o:Option SR} {res:Option (aa×List ac)},Ha o T A idE res->Ha (o.bind fun r195=>some (((aa.mk (aa.fKind (Prod.fst r195)) (aa.fNum (Prod.fst r195)) (aa.fText (Prod.fst r195)) (aa.fKids (Prod.fst r195)))),(((Prod.fst (Prod.fst (Prod.snd r195))),(Prod.fst (Prod.snd (Prod.fst (Prod.snd r195)))),(Prod.fst (Prod.snd (Prod.snd (Prod.fst (Prod.snd r195))))),(Prod.fst (Prod.snd (Prod.snd (Prod.snd (Prod.fst (Prod.snd r195)))))),()),()))) T A idE res:=by
          intro o res h
          rcases h with ⟨x,a',e1,h2,e2⟩ | ⟨e1,e,b,A',e2⟩
          · rw [e2];exact .inl ⟨x,a',e1,h2,by simp only [Option.bind_some,aa.eta,bq,idE]⟩
          · rw [e2];exact .inr ⟨e1,e,b,A',by simp only [Option.bind_some,aa.eta,bq]⟩
        by_cases h4:t.fKind=4/\t.fAfter=false/\nv t.fText=true
        · obtain ⟨k4,hA,hp⟩:=h4
          rw [e,pP,if_pos k4,hA]
          simp only [k4,hA,hp,Bool.not_false,Bool.and_true,Bool.not_true,Bool.false_eq_true,if_false]
          rw [if_neg (by decide)]
          have elc:∀ (k:Int),Ha ((cd T ((a+1:Nat):Int) A 0).bind fun r194=>some (((aa.mk k (Int.ofNat 0) [] [Prod.fst r194])),(((Prod.fst (Prod.fst (Prod.snd r194))),(Prod.fst (Prod.snd (Prod.fst (Prod.snd r194)))),(Prod.fst (Prod.snd (Prod.snd (Prod.fst (Prod.snd r194))))),(Prod.fst (Prod.snd (Prod.snd (Prod.snd (Prod.fst (Prod.snd r194)))))),()),()))) T A idE ((pP f .el (T.drop (a+1))).map fun p=>(⟨k,0,[],[p.1]⟩,p.2)):=by
            intro k
            rcases ih .el (a+1) (by omega) (by simp only [Md.need,Md.rk] at hf ⊢;omega) A with ⟨x,a',e1,h2,e2⟩ | ⟨e1,e,b,A',e2⟩
            · rw [e1,e2];exact .inl ⟨_,a',rfl,h2,by simp only [Option.bind_some,bq,idE,Ob];rfl⟩
            · rw [e1,e2];exact .inr ⟨rfl,_,b,A',rfl⟩
          have nmc:∀ (k:Int),Ha ((b8 T ((a+1:Nat):Int) A 0).bind fun r192=>some (((aa.mk k (Int.ofNat 0) (Prod.fst r192) [])),(((Prod.fst (Prod.fst (Prod.snd r192))),(Prod.fst (Prod.snd (Prod.fst (Prod.snd r192)))),(Prod.fst (Prod.snd (Prod.snd (Prod.fst (Prod.snd r192))))),(Prod.fst (Prod.snd (Prod.snd (Prod.snd (Prod.fst (Prod.snd r192)))))),()),()))) T A idE ((dR (T.drop (a+1))).map fun p=>(⟨k,0,p.1,[]⟩,p.2)):=by
            intro k
            rcases D6 hT (a:=a+1) (by omega) A with ⟨s,e3,hlt2,e4⟩ | ⟨e3,e4⟩
            · rw [e3,e4];exact .inl ⟨_,a+1+1,rfl,by omega,by simp only [Option.bind_some,bq,idE,IH,Bool.not_true,Bool.or_false];rfl⟩
            · rw [e3,e4];exact .inr ⟨rfl,_,_,_,rfl⟩
          by_cases q1:t.fText=[45]
          · simp only [q1,if_true,beq_self_eq_true];exact elc 14
          by_cases q2:t.fText=[36]
          · have z1:(([36]:List UInt8)==[45])=false:=by decide
            have z2:¬ ([36]:List UInt8)=[45]:=by decide
            simp only [q2,z1,z2,Bool.false_eq_true,if_false,if_true,beq_self_eq_true];exact elc 15
          have y1:(t.fText==[45])=false:=by simpa using q1
          have y2:(t.fText==[36])=false:=by simpa using q2
          simp only [q1,q2,y1,y2,Bool.false_eq_true,if_false,hp,if_true]
          by_cases q3:t.fText=[46]
          · simp only [q3,beq_self_eq_true,if_true,Iw];exact nmc 16
          have y3:(t.fText==[46])=false:=by simpa using q3
          by_cases q4:t.fText=[42]
          · have z1:(([42]:List UInt8)==[46])=false:=by decide
            have z2:¬ ([42]:List UInt8)=[46]:=by decide
            simp only [q4,z1,z2,Bool.false_eq_true,if_false,beq_self_eq_true,if_true,Iw];exact nmc 17
          have y4:(t.fText==[42])=false:=by simpa using q4
          simp only [y3,y4,Bool.false_eq_true,if_false,Iw,q3,q4]
          exact nmc 18
        · have hpre:(t.fKind==4&&!t.fAfter&&nv t.fText)=false:=by
            rw [Bool.eq_false_iff]
            intro h
            simp only [Bool.and_eq_true,beq_iff_eq,Bool.not_eq_true'] at h
            exact h4 ⟨h.1.1,h.1.2,h.2⟩
          rw [hpre]
          simp only [Bool.not_false,if_true]
          refine fin ?_
          by_cases k4:t.fKind=4
          · have e1:pP (f+1) .el (T.drop a)=none:=by
              rw [e,pP,if_pos k4]
              cases hA:t.fAfter with
              | true=>rfl
              | false=>
                have hp:nv t.fText=false:=by
                  cases hp:nv t.fText with
                  | false=>rfl
                  | true=>exact absurd ⟨k4,hA,hp⟩ h4
                have q1:¬ t.fText=[45]:=fun h=>by rw [h] at hp;exact absurd hp (by decide)
                have q2:¬ t.fText=[36]:=fun h=>by rw [h] at hp;exact absurd hp (by decide)
                simp [hp,q1,q2]
            rw [e1,iK,hi]
            simp only [Option.bind_some,k4]
            rw [if_neg (by decide),if_neg (by decide),if_neg (by decide),if_neg (by decide),xU]
            exact .inr ⟨rfl,_,_,_,rfl⟩
          · have e1:pP (f+1) .el (T.drop a)=(pP f .pr (T.drop a)).bind fun p=>pP f (.ix p.1) p.2:=by rw [e,pP,if_neg k4]
            rw [e1]
            rcases ih .pr a ha (by simp only [Md.need,Md.rk] at hf ⊢;omega) hlt A with ⟨x,a',e1,h2,e2⟩ | ⟨e1,e,b,A',e2⟩
            · have hl:=hlen _ _ _ _ ha h2 e1
              have hda':=bm T h2
              rw [e1,e2]
              exact ih (.ix x) a' h2 (by simp only [Md.need,Md.rk,Md.w] at hf hl ⊢;omega) A _ _ _ _
            · rw [e1,e2]
              exact .inr ⟨rfl,e,b,A',rfl⟩
    | pr=>
      intro hlt A
      rcases fT ha with ⟨e0,e⟩ | ⟨t,hlt,hi,e,hm⟩
      · omega
      · rw [e,iK,hi,pP]
        have hda1:=bm T (a:=a+1) (by omega)
        simp only [Option.bind_some,yM hT hlt,II]
        by_cases k3:t.fKind=3
        · rw [if_pos k3,if_pos (show (t.fKind==3)=true by simp [k3])]
          exact .inl ⟨⟨1,0,t.fText,[]⟩,a+1,rfl,by omega,by simp only [IH,Bool.not_true,Bool.or_false]⟩
        rw [if_neg k3,if_neg (show ¬ (t.fKind==3)=true by simpa using k3)]
        by_cases k2:t.fKind=2
        · rw [if_pos k2,if_pos (show (t.fKind==2)=true by simp [k2])]
          exact .inl ⟨⟨2,t.fNum,[],[]⟩,a+1,rfl,by omega,by simp only [IH,Bool.not_true,Bool.or_false]⟩
        rw [if_neg k2,if_neg (show ¬ (t.fKind==2)=true by simpa using k2)]
        by_cases k1:t.fKind=1
        · rw [if_pos k1,if_pos (show (t.fKind==1)=true by simp [k1])]
          cases hA:t.fAfter with
          | true=>
            simp only [Bool.not_true,Bool.false_eq_true,if_false]
            exact .inl ⟨⟨3,0,t.fText,[]⟩,a+1,rfl,by omega,by simp only [IH,Bool.not_true,Bool.or_false]⟩
          | false =>
            simp only [Bool.not_false,if_true]
            rcases oy hT (a:=a+1) (by omega) 5 A with ⟨e1,hlt2,e2⟩ | ⟨e1,e2⟩
            · rw [e1,e2]
              simp only [Option.bind_some,if_true,bq]
              rw [sB]
              have hda2:=bm T (a:=a+1+1) (by omega)
              rcases oy hT (a:=a+1+1) (by omega) 6 A with ⟨e3,hlt3,e4⟩ | ⟨e3,e4⟩
              · rw [e3,e4]
                exact .inl ⟨⟨4,0,t.fText,[]⟩,a+1+1+1,rfl,by omega,by simp only [Option.bind_some,if_true,bq,IH,Bool.not_true,Bool.or_false];rfl⟩
              · rw [e3,e4]
                simp only [Option.bind_some,Bool.false_eq_true,if_false,bq]
                have hc:=ih (.ar []) (a+1+1) (by omega) (by simp only [Md.need,Md.rk] at hf ⊢;omega) (by simp) A 0 0 [] [] t.fText
                rw [IH,Bool.not_true,Bool.or_false] at hc
                rcases hc with ⟨x,a',e5,h5,e6⟩ | ⟨e5,ks,b,A',e6⟩
                · rw [e5,e6]
                  exact .inl ⟨⟨4,0,t.fText,x.fKids⟩,a',rfl,h5,rfl⟩
                · rw [e5,e6]
                  simp only [Option.bind_some,bq]
                  rw [Nd]
                  exact .inr ⟨rfl,_,_,_,rfl⟩
            · rw [e1,e2]
              simp only [Option.bind_some,Bool.false_eq_true,if_false,bq]
              exact .inl ⟨⟨3,0,t.fText,[]⟩,a+1,rfl,by omega,by simp only [IH,Bool.not_true,Bool.or_false]⟩
        rw [if_neg k1,if_neg (show ¬ (t.fKind==1)=true by simpa using k1)]
        by_cases k5:t.fKind=5
        · rw [if_pos k5,if_pos (show (t.fKind==5)=true by simp [k5])]
          rcases ih (.ex 1) (a+1) (by omega) (by simp only [Md.need,Md.rk] at hf ⊢;omega) (by omega) (by omega) A with ⟨x,a',e1,h2,e2⟩ | ⟨e1,e,b,A',e2⟩
          · have e2:bj T ((a+1:Nat):Int) A 0=_:=e2
            rw [e1,e2]
            simp only [Option.bind_some,bq,idE]
            rcases oy hT (a:=a') h2 6 (A||!smE x) with ⟨e3,hlt3,e4⟩ | ⟨e3,e4⟩
            · rw [e3,e4]
              exact .inl ⟨x,a'+1,rfl,by omega,rfl⟩
            · rw [e3,e4]
              simp only [Option.bind_some,bq,Bool.not_false,if_true,xU]
              exact .inr ⟨rfl,_,_,_,rfl⟩
          · have e2:bj T ((a+1:Nat):Int) A 0=_:=e2
            rw [e1,e2]
            simp only [Option.bind_some,bq,D5,Bool.not_false,if_true,D4]
            exact .inr ⟨rfl,_,_,_,rfl⟩
        · rw [if_neg k5,if_neg (show ¬ (t.fKind==5)=true by simpa using k5),xU]
          exact .inr ⟨rfl,_,_,_,rfl⟩
    | ix x0 =>
      intro A d1 d2 d3 d4
      rw [cT,if_pos (by decide)]
      simp only [cU,aa.eta]
      rcases fT ha with ⟨e0,e⟩ | ⟨t,hlt,hi,e,hm⟩
      · rw [e,if_neg (by simp [aj,e0])]
        exact .inl ⟨x0,a,by rw [e];rfl,ha,rfl⟩
      · rw [e,pP,if_pos (by simp [aj];omega),hi]
        simp only [Option.bind_some]
        have hstop:Ha (some (x0,(T,(a:Int),(A||!smE x0),0,()),())) T A idE (some (x0,t:: T.drop (a+1))):=.inl ⟨x0,a,by rw [e],ha,rfl⟩
        by_cases h7:t.fKind=7
        · rw [if_pos (by simp [h7])]
          cases hB:t.fBefore with
          | true=>
            simp only [Bool.not_true,Bool.false_eq_true,if_false,and_false]
            rw [if_neg (by simp)]
            exact hstop
          | false=>
            simp only [Bool.not_false,if_true,and_self,h7]
            have hda1:=bm T (a:=a+1) (by omega)
            rw [eU,yM hT hlt]
            rcases ih (.ex 1) (a+1) (by omega) (by simp only [Md.need,Md.rk] at hf ⊢;omega) (by omega) (by omega) (A||!smE x0) with ⟨x,a',e1,h2,e2⟩ | ⟨e1,e,b,A',e2⟩
            · have e2:bj T ((a+1:Nat):Int) (A||!smE x0) 0=_:=e2
              have hl:=hlen _ _ _ _ (by omega) h2 e1
              rw [e1,e2]
              simp only [Option.bind_some,bq,idE,fF,aa.eta]
              rcases oy hT (a:=a') h2 8 ((A||!smE x0)||!smE x) with ⟨e3,hlt3,e4⟩ | ⟨e3,e4⟩
              · rw [e3,e4]
                simp only [Option.bind_some,bq,Bool.not_true,Bool.false_eq_true,if_false]
                have hda2:=bm T (a:=a'+1) (by omega)
                rw [fl2 A 5 x0 x]
                exact ih (.ix ⟨5,0,[],[x0,x]⟩) (a'+1) (by omega) (by simp only [Md.need,Md.rk,Md.w] at hf hl ⊢;omega) A _ _ _ _
              · rw [e3,e4]
                simp only [Option.bind_some,bq,Bool.not_false,if_true,xU]
                exact .inr ⟨rfl,_,_,_,rfl⟩
            · have e2:bj T ((a+1:Nat):Int) (A||!smE x0) 0=_:=e2
              rw [e1,e2]
              simp only [Option.bind_some,bq,fF,D5,Bool.not_false,if_true,D4]
              exact .inr ⟨rfl,_,_,_,rfl⟩
        · rw [if_neg (by simpa using h7),if_neg (by simp [h7])]
          exact hstop
    | ar acc=>
      intro hacc A d1 d2 d3 d4 nm
      rw [oV,pP]
      rcases ih (.ex 1) a ha (by simp only [Md.need,Md.rk] at hf ⊢;omega) (by omega) (by omega) (A||!smE ⟨4,0,nm,acc⟩) with ⟨x,a',e1,h2,e2⟩ | ⟨e1,e,b,A',e2⟩
      · have e2 : bj T (a:Int) (A||!smE ⟨4,0,nm,acc⟩) 0=_:=e2
        have hl:=hlen _ _ _ _ ha h2 e1
        have hda':=bm T h2
        rw [e1,e2]
        simp only [Option.bind_some,bq,idE]
        rw [av (by simp;omega)]
        simp only [Option.bind_some]
        have key:∀ F:Bool,F=(A||!smE ⟨4,0,nm,acc++[x]⟩)->Ha ((aQ 6 T (a':Int) F 0).bind fun r197=>if (Prod.fst r197)=true then some (((aa.mk 4 0 nm (acc++[x]))),(((Prod.fst (Prod.fst (Prod.snd r197))),(Prod.fst (Prod.snd (Prod.fst (Prod.snd r197)))),(Prod.fst (Prod.snd (Prod.snd (Prod.fst (Prod.snd r197))))),(Prod.fst (Prod.snd (Prod.snd (Prod.snd (Prod.fst (Prod.snd r197)))))),()),())) else (aQ 9 (Prod.fst (Prod.fst (Prod.snd r197))) (Prod.fst (Prod.snd (Prod.fst (Prod.snd r197)))) (Prod.fst (Prod.snd (Prod.snd (Prod.fst (Prod.snd r197))))) (Prod.fst (Prod.snd (Prod.snd (Prod.snd (Prod.fst (Prod.snd r197))))))).bind fun r195=>if (!Prod.fst r195)=true then (aZ (Prod.fst (Prod.fst (Prod.snd r195))) (Prod.fst (Prod.snd (Prod.fst (Prod.snd r195)))) (Prod.fst (Prod.snd (Prod.snd (Prod.fst (Prod.snd r195))))) (Prod.fst (Prod.snd (Prod.snd (Prod.snd (Prod.fst (Prod.snd r195))))))).bind fun r193=>some (((aa.mk (aa.fKind (Prod.fst r193)) (aa.fNum (Prod.fst r193)) (aa.fText (Prod.fst r193)) (aa.fKids (Prod.fst r193)))),(((Prod.fst (Prod.fst (Prod.snd r193))),(Prod.fst (Prod.snd (Prod.fst (Prod.snd r193)))),(Prod.fst (Prod.snd (Prod.snd (Prod.fst (Prod.snd r193))))),(Prod.fst (Prod.snd (Prod.snd (Prod.snd (Prod.fst (Prod.snd r193)))))),()),())) else cF (Prod.fst (Prod.fst (Prod.snd r195))) (Prod.fst (Prod.snd (Prod.fst (Prod.snd r195)))) (Prod.fst (Prod.snd (Prod.snd (Prod.fst (Prod.snd r195))))) (Prod.fst (Prod.snd (Prod.snd (Prod.snd (Prod.fst (Prod.snd r195)))))) d1 d2 d3 d4 4 0 nm (acc++[x])) T A (fun x=>⟨4,0,nm,x.fKids⟩)
            (match aX 9 (T.drop a') with | some r=>pP f (.ar (acc++[x])) r | none=>(aX 6 (T.drop a')).map fun r=>(⟨0,0,[],acc++[x]⟩,r)):=by
          intro F hF
          rcases oy hT (a:=a') h2 6 F with ⟨e5,hlt5,e6⟩ | ⟨e5,e6⟩
          · have e9:aX 9 (T.drop a')=none:=by
              rcases fT h2 with ⟨_,e⟩ | ⟨t,_,_,e,_⟩
              · rw [e];rfl
              · rw [e] at e5 ⊢
                simp only [aX] at e5 ⊢
                split at e5
                · rename_i hk;rw [if_neg (by omega)]
                · cases e5
            rw [e9,e5,e6]
            exact .inl ⟨_,a'+1,rfl,by omega,by simp only [Option.bind_some,bq,if_true,hF]⟩
          · rw [e5,e6]
            simp only [Option.bind_some,bq,Bool.false_eq_true,if_false]
            rcases oy hT (a:=a') h2 9 F with ⟨e3,hlt3,e4⟩ | ⟨e3,e4⟩
            · rw [e3,e4]
              simp only [Option.bind_some,bq,Bool.not_true,Bool.false_eq_true,if_false]
              have hda2:=bm T (a:=a'+1) (by omega)
              rw [hF]
              exact ih (.ar (acc++[x])) (a'+1) (by omega) (by simp only [Md.need,Md.rk,Md.w] at hf hl ⊢;omega) (by simp only [Md.w,List.length_append,List.length_singleton] at hl ⊢;omega) A _ _ _ _ _
            · rw [e3,e4]
              simp only [Option.bind_some,bq,Bool.not_false,if_true,xU]
              exact .inr ⟨rfl,_,_,_,rfl⟩
        have hfl:=flc A nm acc x
        split
        · rename_i hF
          rw [hF] at hfl
          exact key true (by rw [<-hfl];simp)
        · rename_i hF
          have hF:(A||!smE ⟨4,0,nm,acc⟩||!smE x)=false:=by simpa using hF
          rw [hF] at hfl
          refine key _ ?_
          rw [<-hfl]
          simp [aj];omega
      · have e2:bj T (a:Int) (A||!smE ⟨4,0,nm,acc⟩) 0=_:=e2
        rw [e1,e2]
        simp only [Option.bind_some,bq]
        rw [av (by simp;omega)]
        simp only [Option.bind_some]
        split
        · simp only [D5,Option.bind_some,bq,Bool.false_eq_true,if_false,Bool.not_false,if_true,D4]
          exact .inr ⟨rfl,_,_,_,rfl⟩
        · simp only [D5,Option.bind_some,bq,Bool.false_eq_true,if_false,Bool.not_false,if_true,D4]
          exact .inr ⟨rfl,_,_,_,rfl⟩
end Go.Dv.U

namespace Go.Dv.U
open Go Go.Dv Go.Proofs
def gS (x:aa):Prop:=x.good=smE x
theorem Hb {k:Int} (hk:5<=k/\k<=11) {l x:aa} (hl:gS l) (hx:gS x):gS ⟨k,0,[],[l,x]⟩:=by
 have h1:¬ k=1:=by omega
 have h2:¬ k=2:=by omega
 have h3:¬ (k=3\/k=16\/k=17\/k=18):=by omega
 have h4:¬ k=4:=by omega
 have h5:¬ (k=12\/k=13):=by omega
 have h6:¬ (k=14\/k=15):=by omega
 unfold gS at hl hx ⊢
 rw [aa.good_eq,MA]
 simp [oo,h1,h2,h3,h4,h5,h6,hk,hl,hx]
theorem C3 {k n:Int} {s:List UInt8} (h:oo ⟨k,n,s,[]⟩=true):gS ⟨k,n,s,[]⟩:=by
 unfold gS;rw [aa.good_eq,IH,h];rfl
theorem C4 {k:Int} (hk:k=3\/k=16\/k=17\/k=18) {s:List UInt8} (hs:b6 s=true):gS ⟨k,0,s,[]⟩:=by
 refine C3 ?_
 rcases hk with rfl | rfl | rfl | rfl<;>simp [oo,hs]
theorem IJ {k:Int} (hk:k=12\/k=13) {l:aa} (hl:gS l) {s:List UInt8} (hs:b6 s=true):gS ⟨k,0,[],[l,⟨3,0,s,[]⟩]⟩:=by
 have hx:gS ⟨3,0,s,[]⟩:=C4 (.inl rfl) hs
 unfold gS at hl hx ⊢
 rw [aa.good_eq,MA]
 rcases hk with rfl | rfl<;>simp [oo,hl,hx]
theorem Lq {k:Int} (hk:k=14\/k=15) {x:aa} (hx:gS x):gS ⟨k,0,[],[x]⟩:=by
 unfold gS at hx ⊢
 rw [aa.good_eq,Ob]
 rcases hk with rfl | rfl<;>simp [oo,hx]
theorem Je : ∀ {ks:List aa},(∀ y∈ks,gS y)->ks.all aa.good=ks.all smE
 | [],_=>rfl
 | y:: r,h=>by rw [List.all_cons,List.all_cons,Je fun z hz=>h z (List.mem_cons_of_mem _ hz),(h y (List.mem_cons_self ..):y.good=smE y)]
theorem Hc {s:List UInt8} (hs:b6 s=true) {ks:List aa} (h:∀ y∈ks,gS y):gS ⟨4,0,s,ks⟩:=by
 unfold gS
 rw [aa.good_eq,Nc]
 show (oo ⟨4,0,s,ks⟩&&ks.all aa.good)=_
 rw [Je h]
 simp [oo,hs]
theorem D8 {t:ac} (h:tOk t) (k:t.fKind=1):b6 t.fText=true:=by
 rcases h.2 with h1 | h1 | h1 | h1 | h1
 ·exact h1.2.2
 all_goals omega
theorem Kq {t:ac} (h:tOk t) (k:t.fKind=2):0<=t.fNum/\t.fNum<=1000000000000:=by
 rcases h.2 with h1 | h1 | h1 | h1 | h1
 ·omega
 ·exact h1.2.2
 all_goals omega
theorem Kr {t:ac} (h:tOk t) (k:t.fKind=3):Ao t.fText=true:=by
 rcases h.2 with h1 | h1 | h1 | h1 | h1
 ·omega
 ·omega
 ·exact h1.2.2
 all_goals omega
theorem Ks {n:Nat} (h5:n≠5) (s:List UInt8):opK n s=0\/(5<=opK n s/\opK n s<=11):=by
 unfold opK
 simp only [h5,false_and,if_false]
 by_cases a1:n=1/\s=[124]
 ·rw [if_pos a1];omega
 rw [if_neg a1]
 by_cases a2:n=3/\s=[43]
 ·rw [if_pos a2];omega
 rw [if_neg a2]
 by_cases a3:n=3/\s=[45]
 ·rw [if_pos a3];omega
 rw [if_neg a3]
 by_cases a4:n=4/\s=[42]
 ·rw [if_pos a4];omega
 rw [if_neg a4]
 by_cases a5:n=4/\s=[47]
 ·rw [if_pos a5];omega
 rw [if_neg a5]
 exact .inl rfl
theorem IK {n:Nat} (h5:n≠5) {ts r:List ac} {k:Int} (h:inf n ts=some (k,r)):5<=k/\k<=11:=by
 cases ts with
 | nil=>cases h
 | cons t q=>
  simp only [inf] at h
  split at h
  ·split at h
   ·cases h;omega
   ·cases h
  ·split at h
   ·rename_i h2
    cases h
    rcases Ks h5 t.fText with h3 | h3
    ·exact absurd h3 h2.2
    ·exact h3
   ·cases h
theorem Hd {ts r:List ac} {k:Int} (h:inf 5 ts=some (k,r)):k=12\/k=13:=by
 cases ts with
 | nil=>cases h
 | cons t q=>
  simp only [inf,if_neg (show ¬ (5:Nat)=2 by decide)] at h
  split at h
  ·rename_i h2
   cases h
   have h3:=h2.2
   simp only [opK] at h3 ⊢
   by_cases q1:t.fText=[46]
   ·simp [q1]
   by_cases q2:t.fText=[36]
   ·simp [q2]
   simp [q1,q2] at h3
  ·cases h
theorem xV {ts r:List ac} {s:List UInt8} (hok:∀ t∈ts,tOk t) (h:dR ts=some (s,r)):b6 s=true:=by
 cases ts with
 | nil=>cases h
 | cons t q=>
  simp only [dR] at h
  split at h
  ·rename_i hk;cases h;exact D8 (hok t (List.mem_cons_self ..)) hk
  ·cases h
def Md.gI : Md->Prop
 | .lp _ l=>gS l
 | .ix e=>gS e
 | .ar acc=>∀ y∈acc,gS y
 | _=>True
def Md.gR : Md->aa->Prop
 | .ar _,x=>∀ y∈x.fKids,gS y
 | _,x=>gS x
theorem Kt : ∀ (f:Nat) (md:Md) (ts:List ac) (x:aa) (r:List ac),pP f md ts=some (x,r)->(∀ t∈ts,tOk t)->md.gI->(∀ t∈r,tOk t)/\md.gR x:=by
 intro f
 induction f with
 | zero=>intro md ts x r h;cases h
 | succ f ih=>
  intro md ts x r h ht hI
  have bnd:∀ {α:Type} {o:Option α} {g:α->Option (aa×List ac)},o.bind g=some (x,r)->∃ a,o=some a/\g a=some (x,r):=fun h=>Option.bind_eq_some_iff.1 h
  cases md with
  | ex n=>
   rw [pP] at h
   split at h
   ·exact ih .el ts x r h ht trivial
   ·obtain ⟨⟨l,q⟩,h1,h2⟩:=bnd h
    obtain ⟨a1,a2⟩:=ih _ _ _ _ h1 ht trivial
    have z:=ih _ _ _ _ h2 a1 a2;exact z
  | lp n l=>
   rw [pP] at h
   split at h
   ·cases h;exact ⟨ht,hI⟩
   ·rename_i k q hi
    have hm:=GZ hi
    split at h
    ·rename_i h5
     subst h5
     obtain ⟨⟨s,q2⟩,h1,h2⟩:=bnd h
     have hq:∀ t∈q,tOk t:=fun t h=>ht t (hm t h)
     have z:=ih _ _ _ _ h2 (fun t h=>hq t ((kL h1).1 t h)) (IJ (Hd hi) hI (xV hq h1));exact z
    ·rename_i h5
     obtain ⟨⟨y,q2⟩,h1,h2⟩:=bnd h
     obtain ⟨a1,a2⟩:=ih (.ex (n+1)) _ _ _ h1 (fun t hq=>ht t (hm t hq)) trivial
     have z:=ih _ _ _ _ h2 a1 (Hb (IK h5 hi) hI a2);exact z
  | el=>
   cases ts with
   | nil=>cases h
   | cons t q=>
    have htq:∀ t∈q,tOk t:=fun u hu=>ht u (by simp [hu])
    rw [pP] at h
    split at h
    ·split at h
     ·cases h
     split at h
     ·obtain ⟨⟨y,q2⟩,h1,h2⟩:=Option.map_eq_some_iff.1 h
      obtain ⟨a1,a2⟩:=ih .el _ _ _ h1 htq trivial
      cases h2
      exact ⟨a1,Lq (.inl rfl) a2⟩
     split at h
     ·obtain ⟨⟨y,q2⟩,h1,h2⟩:=Option.map_eq_some_iff.1 h
      obtain ⟨a1,a2⟩:=ih .el _ _ _ h1 htq trivial
      cases h2
      exact ⟨a1,Lq (.inr rfl) a2⟩
     split at h
     ·obtain ⟨⟨y,q2⟩,h1,h2⟩:=Option.map_eq_some_iff.1 h
      cases h2
      refine ⟨fun u hu=>htq u ((kL h1).1 u hu),C4 ?_ (xV htq h1)⟩
      unfold Iw
      split
      ·omega
      split
      ·omega
      ·omega
     ·cases h
    ·obtain ⟨⟨y,q2⟩,h1,h2⟩:=bnd h
     obtain ⟨a1,a2⟩:=ih .pr _ _ _ h1 ht trivial
     have z:=ih _ _ _ _ h2 a1 a2;exact z
  | pr =>
   cases ts with
   | nil=>cases h
   | cons t q=>
    have htq:∀ t∈q,tOk t:=fun u hu=>ht u (by simp [hu])
    have ht0:=ht t (by simp)
    rw [pP] at h
    split at h
    ·rename_i k3
     cases h
     exact ⟨htq,C3 (by simp [oo,Kr ht0 k3])⟩
    split at h
    ·rename_i k2
     cases h
     have:=Kq ht0 k2
     exact ⟨htq,C3 (by simp [oo,this])⟩
    split at h
    ·rename_i k1
     have hnm:=D8 ht0 k1
     split at h
     ·rename_i r2 _ h5
      have m5:=cQ h5
      have hr2:∀ t∈r2,tOk t:=fun u hu=>htq u (m5 u hu)
      split at h
      ·rename_i r3 h6
       have m6:=cQ h6
       cases h
       exact ⟨fun u hu=>hr2 u (m6 u hu),Hc hnm (by simp)⟩
      ·obtain ⟨⟨y,q2⟩,h1,h2⟩:=Option.map_eq_some_iff.1 h
       obtain ⟨a1,a2⟩:=ih (.ar []) _ _ _ h1 hr2 (by simp [Md.gI])
       cases h2
       exact ⟨a1,Hc hnm a2⟩
     ·cases h
      exact ⟨htq,C4 (.inl rfl) hnm⟩
    split at h
    ·obtain ⟨⟨y,q2⟩,h1,h2⟩:=bnd h
     obtain ⟨q3,h3,h4⟩:=Option.map_eq_some_iff.1 h2
     obtain ⟨a1,a2⟩:=ih (.ex 1) _ _ _ h1 htq trivial
     have m3:=cQ h3
     cases h4
     exact ⟨fun u hu=>a1 u (m3 u hu),a2⟩
    ·cases h
  | ix e=>
   cases ts with
   | nil=>cases h;exact ⟨ht,hI⟩
   | cons t q=>
    have htq:∀ t∈q,tOk t:=fun u hu=>ht u (by simp [hu])
    rw [pP] at h
    split at h
    ·obtain ⟨⟨y,q2⟩,h1,h2⟩:=bnd h
     obtain ⟨q3,h3,h4⟩:=bnd h2
     obtain ⟨a1,a2⟩:=ih (.ex 1) _ _ _ h1 htq trivial
     have m3:=cQ h3
     have z:=ih _ _ _ _ h4 (fun u hu=>a1 u (m3 u hu)) (Hb (k:=5) (by omega) hI a2);exact z
    ·cases h;exact ⟨ht,hI⟩
  | ar acc=>
   rw [pP] at h
   obtain ⟨⟨y,q2⟩,h1,h2⟩:=bnd h
   obtain ⟨a1,a2⟩:=ih (.ex 1) _ _ _ h1 ht trivial
   have hacc:∀ z∈acc++[y],gS z:=by
    intro z hz
    rcases List.mem_append.1 hz with hz | hz
    ·exact hI z hz
    ·rw [List.mem_singleton] at hz;subst hz;exact a2
   split at h2
   ·rename_i q3 h3
    have m3:=cQ h3
    have z:=ih _ _ _ _ h2 (fun u hu=>a1 u (m3 u hu)) hacc;exact z
   ·obtain ⟨q3,h3,h4⟩:=Option.map_eq_some_iff.1 h2
    have m3:=cQ h3
    cases h4
    exact ⟨fun u hu=>a1 u (m3 u hu),hacc⟩
theorem zu {T:List ac} (hT:T.length<=120) (hok:∀ t∈T,tOk t):nR T=some true:=by
 rw [yA,if_neg (by simp [aj];omega)]
 refine bz (xs:=T) (by omega) (P:=fun i _=>jh T (i:Int)=some true) ?_ ?_
 ·rw [nn,if_neg (by simp [aj])]
 ·intro i y l _ hlt hy hi hw ih
  rw [nn,if_pos (by simp [aj];omega),hi]
  simp only [Option.bind_some,B1 (hok y hy),Bool.not_true,Bool.false_eq_true,if_false,hw]
  exact ih
theorem B2 {T:List ac} (hT:T.length<=120) (hok:∀ t∈T,tOk t) {a:Nat} (ha:a<=T.length) (el:Bool):
    (∃ x a',eO (if el=true then 6 else 1) (T.drop a)=(0,x,T.drop a')/\a'<=T.length/\x.valid=true/\nf T a el=some (x,((a':Nat):Int),0))\/(∃ c b,c≠0/\eO (if el=true then 6 else 1) (T.drop a)=(c,jH,T.drop a)/\nf T a el=some (jH,b,c)):=by
  have key:∀ (n:Nat),1<=n->n<=6->∀ (o:Option SR),o=sEx n T a false 0 ->
      (∃ x a',eO n (T.drop a)=(0,x,T.drop a')/\a'<=T.length/\x.valid=true/\(o.bind fun r199=>if (Prod.fst (Prod.snd (Prod.snd (Prod.snd (Prod.fst (Prod.snd r199))))) !=0)=true then some ((aa.mk (Int.ofNat 0) (Int.ofNat 0) [] []),(Prod.fst (Prod.snd (Prod.fst (Prod.snd r199)))),(Prod.fst (Prod.snd (Prod.snd (Prod.snd (Prod.fst (Prod.snd r199))))))) else if (Prod.fst (Prod.snd (Prod.snd (Prod.fst (Prod.snd r199)))))=true then de a 0 0 [] ([]) else (jr (aa.fKind (Prod.fst r199)) (aa.fNum (Prod.fst r199)) (aa.fText (Prod.fst r199)) (aa.fKids (Prod.fst r199))).bind fun r196=>if (decide (r196>60))=true then de a 0 0 [] ([]) else gm 0 0 [] ([]) (Prod.fst (Prod.fst (Prod.snd r199))) (Prod.fst (Prod.snd (Prod.fst (Prod.snd r199)))) (Prod.fst (Prod.snd (Prod.snd (Prod.fst (Prod.snd r199))))) (Prod.fst (Prod.snd (Prod.snd (Prod.snd (Prod.fst (Prod.snd r199)))))) (aa.fKind (Prod.fst r199)) (aa.fNum (Prod.fst r199)) (aa.fText (Prod.fst r199)) (aa.fKids (Prod.fst r199)))=some (x,((a':Nat):Int),0))\/(∃ c b,c≠0/\eO n (T.drop a)=(c,jH,T.drop a)/\(o.bind fun r199=>if (Prod.fst (Prod.snd (Prod.snd (Prod.snd (Prod.fst (Prod.snd r199))))) !=0)=true then some ((aa.mk (Int.ofNat 0) (Int.ofNat 0) [] []),(Prod.fst (Prod.snd (Prod.fst (Prod.snd r199)))),(Prod.fst (Prod.snd (Prod.snd (Prod.snd (Prod.fst (Prod.snd r199))))))) else if (Prod.fst (Prod.snd (Prod.snd (Prod.fst (Prod.snd r199)))))=true then de a 0 0 [] ([]) else (jr (aa.fKind (Prod.fst r199)) (aa.fNum (Prod.fst r199)) (aa.fText (Prod.fst r199)) (aa.fKids (Prod.fst r199))).bind fun r196=>if (decide (r196>60))=true then de a 0 0 [] ([]) else gm 0 0 [] ([]) (Prod.fst (Prod.fst (Prod.snd r199))) (Prod.fst (Prod.snd (Prod.fst (Prod.snd r199)))) (Prod.fst (Prod.snd (Prod.snd (Prod.fst (Prod.snd r199))))) (Prod.fst (Prod.snd (Prod.snd (Prod.snd (Prod.fst (Prod.snd r199)))))) (aa.fKind (Prod.fst r199)) (aa.fNum (Prod.fst r199)) (aa.fText (Prod.fst r199)) (aa.fKids (Prod.fst r199)))=some (jH,b,c)):=by
    intro n h1 h6 o ho
    unfold eO
    rcases Nf (by omega) hok (IC n (T.drop a)) (.ex n) a ha (Nat.le_refl _) h1 h6 false with ⟨x,a',e1,h2,e2⟩ | ⟨e1,e,b,A',e2⟩
    · rw [e1,ho,e2]
      have hsz:=(Ki _ _ _ _ _ e1 fun t ht=>xP (hok t (List.mem_of_mem_drop ht))).2
      have hdl:=bm T ha
      simp only [Md.mR,Md.m0] at hsz
      have hg:x.good=smE x:=(Kt _ _ _ _ _ e1 (fun t ht=>hok t (List.mem_of_mem_drop ht)) trivial).2
      obtain ⟨v,hv,v1,v2,v3⟩:=ve x (by omega)
      simp only [Option.bind_some,bq,idE,hv,vT,uC,aa.eta,bne_self_eq_false,Bool.false_eq_true,if_false,Bool.false_or]
      cases hs:smE x with
      | false=>
        have hval:x.valid=false:=by unfold aa.valid;rw [hg,hs];rfl
        exact .inr ⟨6,a,by decide,by simp [hval],by simp [jH]⟩
      | true=>
        by_cases hn:v<=60
        · have hval:x.valid=true:=by unfold aa.valid;rw [hg,hs];have:=v3 hn;simp;omega
          refine .inl ⟨x,a',by simp [hval],h2,hval,?_⟩
          rw [if_neg (by simp),if_neg (by simp;omega)]
        · have hval:x.valid=false:=by
            unfold aa.valid;rw [hg,hs]
            have:¬ x.n<=60:=by omega
            simp [this]
          refine .inr ⟨6,a,by decide,by simp [hval],?_⟩
          rw [if_neg (by simp),if_pos (by simp;omega)];rfl
    · rw [e1,ho,e2]
      exact .inr ⟨2,b,by decide,rfl,by simp [jH,bq]⟩
  rw [Al]
  cases el with
  | true=>exact key 6 (by omega) (by omega) _ rfl
  | false=>exact key 1 (by omega) (by omega) _ rfl
theorem IL {T:List ac} (hT:T.length<=120) (hok:∀ t∈T,tOk t) {a:Nat} (ha:a<=T.length):
  (∃ x a',eO 1 (T.drop a)=(0,x,T.drop a')/\a'<=T.length/\x.valid=true/\nQ T a=some (x,((a':Nat):Int),0))\/(∃ c b,c≠0/\eO 1 (T.drop a)=(c,jH,T.drop a)/\nQ T a=some (jH,b,c)):=by
 rw [yz,zu hT hok]
 simp only [Option.bind_some,Bool.not_true,Bool.false_eq_true,if_false,qk]
 have hw:(decide (0<=(a:Int))&&decide ((a:Int)<=len T))=true:=by simp [aj];omega
 rw [hw]
 simp only [Bool.not_true,Bool.false_eq_true,if_false]
 rcases B2 hT hok ha false with ⟨x,a',e1,h2,h3,e2⟩ | ⟨c,b,h1,e1,e2⟩
 ·rw [e2];exact .inl ⟨x,a',e1,h2,h3,by simp only [Option.bind_some,aa.eta]⟩
 ·rw [e2];exact .inr ⟨c,b,h1,e1,by simp only [Option.bind_some,aa.eta]⟩
theorem IM {T:List ac} (hT:T.length<=120) (hok:∀ t∈T,tOk t) {a:Nat} (ha:a<=T.length):
  (∃ x a',eO 6 (T.drop a)=(0,x,T.drop a')/\a'<=T.length/\x.valid=true/\jg T a=some (x,((a':Nat):Int),0))\/(∃ c b,c≠0/\eO 6 (T.drop a)=(c,jH,T.drop a)/\jg T a=some (jH,b,c)):=by
 rw [uB,zu hT hok]
 simp only [Option.bind_some,Bool.not_true,Bool.false_eq_true,if_false,qk]
 have hw:(decide (0<=(a:Int))&&decide ((a:Int)<=len T))=true:=by simp [aj];omega
 rw [hw]
 simp only [Bool.not_true,Bool.false_eq_true,if_false]
 rcases B2 hT hok ha true with ⟨x,a',e1,h2,h3,e2⟩ | ⟨c,b,h1,e1,e2⟩
 ·rw [e2];exact .inl ⟨x,a',e1,h2,h3,by simp only [Option.bind_some,aa.eta]⟩
 ·rw [e2];exact .inr ⟨c,b,h1,e1,by simp only [Option.bind_some,aa.eta]⟩
end Go.Dv.U

namespace Go.Dv.U
open Go Go.Dv Go.Proofs
def bq3 (T:List ac) (a c:Int):(List ac×Int×Int×Unit)×Unit:=((T,a,c,()),())
theorem vo {T:List ac} {a:Nat} (h:a<=T.length):aB T a 0=some (!(T.drop a).isEmpty):=by
 rw [k9,if_pos (by decide)]
 have:=bm T h
 by_cases e:a=T.length
 ·have:T.drop a=[]:=List.eq_nil_of_length_eq_zero (by omega)
  rw [this];simp [aj,e]
 ·have h2:T.drop a≠[]:=fun h=>by rw [h] at this;simp at this;omega
  have h3:(T.drop a).isEmpty=false:=by simpa using h2
  rw [h3];simp [aj];omega
theorem D9 (T:List ac) (a:Int) {c:Int} (hc:c≠0):aB T a c=some false:=by
 rw [k9,if_neg (by simpa using hc)]
theorem Jf (T:List ac) (a k:Int) {c:Int} (hc:c≠0):aH T a c k=some false:=by
 rw [lc,D9 T a hc];rfl
theorem Ea {T:List ac} {a:Nat} (h:a<=T.length) (k:Int):aH T a 0 k=some (aX k (T.drop a)).isSome:=by
 rw [lc,vo h]
 rcases fT h with ⟨e0,e⟩ | ⟨t,hlt,hi,e,_⟩
 ·rw [e];rfl
 ·rw [e,hi]
  simp only [List.isEmpty_cons,Bool.not_false,Option.bind_some,if_true,aX]
  by_cases hk:t.fKind=k<;>simp [hk]
theorem He (k:Int) (T:List ac) (a:Int) {c:Int} (hc:c≠0):ct k T a c=some ([],bq3 T a c):=by
 rw [ld,Jf T a k hc]
 have:(c==0)=false:=by simpa using hc
 simp only [Option.bind_some,Bool.not_false,if_true,this,Bool.false_eq_true,if_false,bq3]
theorem Eb {T:List ac} {a:Nat} (hT:T.length<=1000) (h:a<=T.length) (k:Int):
  (∃ s,aX k (T.drop a)=some (T.drop (a+1))/\a<T.length/\(k=1->dR (T.drop a)=some (s,T.drop (a+1)))/\ct k T a 0=some (s,bq3 T ((a+1:Nat):Int) 0))\/(aX k (T.drop a)=none/\(k=1->dR (T.drop a)=none)/\ct k T a 0=some ([],bq3 T a 2)):=by
 rw [ld,Ea h]
 rcases fT h with ⟨e0,e⟩ | ⟨t,hlt,hi,e,_⟩
 ·rw [e];exact .inr ⟨rfl,fun _=>rfl,rfl⟩
 ·rw [e,yM hT hlt]
  have w:w64 (((a+1:Nat):Int)-1)=(a:Int):=by rw [aW (by omega) (by omega)];omega
  rw [w,hi]
  by_cases hk:t.fKind=k
  ·refine .inl ⟨t.fText,by simp [aX,hk],hlt,fun h1=>?_,by simp [aX,hk,bq3]⟩
   subst h1;simp [dR,hk]
  ·refine .inr ⟨by simp [aX,hk],fun h1=>?_,by simp [aX,hk,bq3]⟩
   subst h1;simp [dR,hk]
theorem xW {T:List ac} {a:Nat} (hT:T.length<=1000) (ha:a<=T.length):
  (∃ s a',jS (T.drop a)=some (s,T.drop a')/\a<a'/\a'<=T.length/\dr T a 0=some (s,bq3 T ((a':Nat):Int) 0))\/(jS (T.drop a)=none/\∃ (e:List UInt8) (b:Int),dr T a 0=some (e,bq3 T b 2)):=by
 have n2:(2:Int)≠0:=by decide
 rw [qG]
 unfold jS
 rcases Eb hT ha 5 with ⟨s0,e1,hlt,_,e2⟩ | ⟨e1,_,e2⟩
 ·rw [e1,e2]
  simp only [Option.bind_some,bq3]
  rcases Eb hT (a:=a+1) (by omega) 1 with ⟨s,e3,hlt2,e4,e5⟩ | ⟨e3,e4,e5⟩
  ·rw [e4 rfl,e5]
   simp only [Option.bind_some,bq3]
   rcases Eb hT (a:=a+1+1) (by omega) 6 with ⟨s1,e6,hlt3,_,e7⟩ | ⟨e6,_,e7⟩
   ·rw [e6,e7]
    exact .inl ⟨s,a+1+1+1,rfl,by omega,by omega,rfl⟩
   ·rw [e6,e7]
    exact .inr ⟨rfl,s,_,rfl⟩
  ·rw [e4 rfl,e5]
   simp only [Option.bind_some,bq3]
   rw [He 6 T _ n2]
   exact .inr ⟨rfl,[],_,rfl⟩
 ·rw [e1,e2]
  simp only [Option.bind_some,bq3]
  rw [He 1 T _ n2]
  simp only [Option.bind_some,bq3]
  rw [He 6 T _ n2]
  exact .inr ⟨rfl,[],_,rfl⟩
theorem qp {ts r:List ac} (hok:∀ t∈ts,tOk t) {s:List UInt8} (h:jS ts=some (s,r)):b6 s=true/\∀ t∈r,tOk t:=by
 unfold jS at h
 obtain ⟨q,h1,h2⟩:=Option.bind_eq_some_iff.1 h
 obtain ⟨⟨s',q2⟩,h3,h4⟩:=Option.bind_eq_some_iff.1 h2
 obtain ⟨q3,h5,h6⟩:=Option.map_eq_some_iff.1 h4
 cases h6
 have hq:∀ t∈q,tOk t:=fun t ht=>hok t (cQ h1 t ht)
 exact ⟨xV hq h3,fun t ht=>hq t ((kL h3).1 t (cQ h5 t ht))⟩
theorem Ec {s:List UInt8} (h:b6 s=true):nmB s=true:=by unfold nmB;rw [h];simp
theorem Lr : ∀ (f:Nat) (s x:List UInt8) (ok:Bool) (ts:List ac) (g:aw) (r:List ac),(∀ t∈ts,tOk t)->nmB s=true->nmB x=true->pTg f s x ok ts=some (g,r)->gOk g=true:=by
 intro f
 induction f with
 | zero=>intro s x ok ts g r _ _ _ h;cases h
 | succ f ih=>
  intro s x ok ts g r hok hs hx h
  rw [pTg] at h
  split at h
  ·split at h
   ·cases h
    show gOk ⟨[],s,x⟩=true
    simp [gOk,hs,hx,nmB]
    simp only [nmB,Bool.or_eq_true,beq_iff_eq] at hs hx
    exact ⟨hs,hx⟩
   ·cases h
  ·rename_i w q hn
   have hq:∀ t∈q,tOk t:=fun t ht=>hok t ((kL hn).1 t ht)
   split at h
   ·obtain ⟨⟨l,q2⟩,h1,h2⟩:=Option.bind_eq_some_iff.1 h
    obtain ⟨h3,h4⟩:=qp hq h1
    exact ih _ _ _ _ _ _ h4 (Ec h3) hx h2
   split at h
   ·obtain ⟨⟨l,q2⟩,h1,h2⟩:=Option.bind_eq_some_iff.1 h
    obtain ⟨h3,h4⟩:=qp hq h1
    exact ih _ _ _ _ _ _ h4 hs (Ec h3) h2
   ·cases h
theorem Ku {f:Nat} {ts r:List ac} {g:aw} (hok:∀ t∈ts,tOk t) (h:pGo f ts=some (g,r)):gOk g=true:=by
 unfold pGo at h
 split at h
 ·obtain ⟨⟨l,q2⟩,h1,h2⟩:=Option.map_eq_some_iff.1 h
  obtain ⟨h3,_⟩:=qp hok h1
  cases h2
  simp [gOk,nmB,h3]
 ·exact Lr _ _ _ _ _ _ _ hok rfl rfl h
def GA (o:Option (aw×((List ac×Int×Int×Unit)×Unit))) (T:List ac) (res:Option (aw×List ac)):Prop:=
 (∃ g,res=some (g,[])/\o=some (g,bq3 T (T.length:Int) 0))\/((∀ g,res≠some (g,[]))/\∃ (g:aw) (b:Int),o=some (g,bq3 T b 2)\/(∃ b':Nat,b=b'/\b'<T.length/\o=some (g,bq3 T b 0)))
theorem L6c (m:Int) (hm:m≠0) (T:List ac) (a:Int) (d1 d2 d3 A S F:List UInt8):bu m T a 2 d1 d2 d3 A S F=some (⟨A,S,F⟩,bq3 T a 2):=by
 rw [cP]
 have hm2:(m==0)=false:=by simpa using hm
 rw [D9 T a (by decide)]
 simp only [hm2,Bool.false_eq_true,if_false,Option.bind_some,dU]
 split<;>rfl
theorem Oi (T:List ac) (a c:Int) (d1 d2 d3 A S F:List UInt8):bu 2 T a c d1 d2 d3 A S F=some (⟨A,S,F⟩,bq3 T a c):=by
 rw [cP,if_neg (by decide),dU];rfl
theorem Ls {T:List ac} (hT:T.length<=1000) (hok:∀ t∈T,tOk t) {m:Nat} (hm:m<=1) {a:Nat} (ha:a<=T.length) (d1 d2 d3 s x:List UInt8):
    (∃ (s' x':List UInt8) (a':Nat),a<a'/\a'<=T.length/\((s=[]/\s'≠[]/\x'=x)\/(x=[]/\x'≠[]/\s'=s))/\(∀ f ok,pTg (f+1) s x ok (T.drop a)=pTg f s' x' true (T.drop a')) /\
      a7 m T a 0 d1 d2 d3 [] s x=bu ((m+1:Nat):Int) T ((a':Nat):Int) 0 d1 d2 d3 [] s' x') \/
    ((∀ f ok,pTg (f+1) s x ok (T.drop a)=none\/(ok=true/\pTg (f+1) s x ok (T.drop a)=some (⟨[],s,x⟩,T.drop a)))/\∃ g b,a7 m T a 0 d1 d2 d3 [] s x=some (g,bq3 T b 2)):=by
  have w:w64 ((m:Int)+1)=((m+1:Nat):Int):=by rw [aW (by omega) (by omega)];omega
  have hm1:((m+1:Nat):Int)≠0:=by omega
  have n2:((2:Int)==0)=false:=by decide
  rw [nq]
  rcases Eb hT ha 1 with ⟨wd,e1,hlt,e2,e3⟩ | ⟨e1,e2,e3⟩
  · have e2 := e2 rfl
    rw [e3]
    simp only [Option.bind_some,bq3,beq_self_eq_true,if_true]
    have bad:∀ y,cA (m:Int) T ((a+1:Nat):Int) 0 d1 d2 d3 [] s y=some (⟨[],s,y⟩,bq3 T ((a+1:Nat):Int) 2):=by
      intro y
      rw [gv,if_pos (by decide),bH,w,L6c _ hm1]
    have hne:∀ {l:List UInt8} {q:List ac},jS (T.drop (a+1))=some (l,q)->l≠[]:=fun h=>GW (qp (fun t ht=>hok t (List.mem_of_mem_drop ht)) h).1
    by_cases h1:wd=[83]/\s=[]
    · obtain ⟨rfl,rfl⟩:=h1
      rw [if_pos (by decide),if_pos (by decide),mI]
      rcases xW hT (a:=a+1) (by omega) with ⟨l,a',e4,h4,h5,e5⟩ | ⟨e4,e,b,e5⟩
      · rw [e5]
        simp only [Option.bind_some,bq3,bH,w]
        exact .inl ⟨l,x,a',by omega,h5,.inl ⟨trivial,hne e4,rfl⟩,fun f ok=>by rw [pTg,e2];simp [e4],rfl⟩
      · rw [e5]
        simp only [Option.bind_some,bq3,bH,w]
        rw [L6c _ hm1]
        exact .inr ⟨fun f ok=>.inl (by rw [pTg,e2];simp [e4]),_,_,rfl⟩
    · have g1:∀ {α:Type} {A B:α},(if (wd==[83])=true then (if (s==[])=true then A else B) else B)=B:=by
        intro α A B
        by_cases q1:wd=[83]
        · have q2:(s==[])=false:=by simpa using fun h=>h1 ⟨q1,h⟩
          simp [q2]
        · have q2:(wd==[83])=false:=by simpa using q1
          simp [q2]
      rw [g1,gu,if_pos (by decide)]
      by_cases h2:wd=[70]/\x=[]
      · obtain ⟨rfl,rfl⟩:=h2
        have hn:¬ (([70]:List UInt8)=[83]/\s=[]):=fun h=>absurd h.1 (by decide)
        rw [if_pos (by decide),if_pos (by decide),mJ]
        rcases xW hT (a:=a+1) (by omega) with ⟨l,a',e4,h4,h5,e5⟩ | ⟨e4,e,b,e5⟩
        · rw [e5]
          simp only [Option.bind_some,bq3,bH,w]
          exact .inl ⟨s,l,a',by omega,h5,.inr ⟨trivial,hne e4,rfl⟩,fun f ok=>by rw [pTg,e2];simp only [if_neg hn,and_self,if_true,e4,Option.bind_some],rfl⟩
        · rw [e5]
          simp only [Option.bind_some,bq3,bH,w]
          rw [L6c _ hm1]
          exact .inr ⟨fun f ok=>.inl (by rw [pTg,e2];simp only [if_neg hn,and_self,if_true,e4,Option.bind_none]),_,_,rfl⟩
      · have g2:∀ {α:Type} {A B:α},(if (wd==[70])=true then (if (x==[])=true then A else B) else B)=B:=by
          intro α A B
          by_cases q1:wd=[70]
          · have q2:(x==[])=false:=by simpa using fun h=>h2 ⟨q1,h⟩
            simp [q2]
          · have q2:(wd==[70])=false:=by simpa using q1
            simp [q2]
        rw [g2,bad]
        exact .inr ⟨fun f ok=>.inl (by rw [pTg,e2];simp only [if_neg h1,if_neg h2]),_,_,rfl⟩
  · have e2:=e2 rfl
    rw [e3]
    simp only [Option.bind_some,bq3,n2,Bool.false_eq_true,if_false]
    rw [gu,if_neg (by decide),gv,if_neg (by decide),bH,w,L6c _ hm1]
    refine .inr ⟨fun f ok=>?_,_,_,rfl⟩
    rw [pTg,e2]
    cases ok with
    | true=>exact .inr ⟨rfl,rfl⟩
    | false=>exact .inl rfl
theorem IN {f:Nat} {s x:List UInt8} (hs:s≠[]) (hx:x≠[]) (ts:List ac):pTg (f+1) s x true ts=none\/pTg (f+1) s x true ts=some (⟨[],s,x⟩,ts):=by
 rw [pTg]
 split
 ·exact .inr (by simp)
 ·left;simp [hs,hx]
theorem E0 {T:List ac} (hT:T.length<=1000) (hok:∀ t∈T,tOk t) {a:Nat} (ha:a<=T.length) (f:Nat):GA (bY T a 0) T (pGo (f+3) (T.drop a)):=by
 rw [pI,Ea ha]
 unfold pGo
 have hlen:∀ {b:Nat},b<=T.length->T.drop b=[]->b=T.length:=fun h e=>by have:=bm T h;rw [e] at this;simpa using this
 have endA:∀ {g:aw} {b:Nat},b<=T.length->GA (some (g,bq3 T (b:Int) 0)) T (some (g,T.drop b)):=by
  intro g b hb
  by_cases e:T.drop b=[]
  ·have:=hlen hb e
   subst this
   exact .inl ⟨g,by rw [e],rfl⟩
  ·refine .inr ⟨fun g' h=>e (by simp only [Option.some.injEq,Prod.mk.injEq] at h;exact h.2),g,b,.inr ⟨b,rfl,?_,rfl⟩⟩
   have:=bm T hb
   have h2:(T.drop b).length≠0:=fun h=>e (List.eq_nil_of_length_eq_zero h)
   omega
 cases he:aX 5 (T.drop a) with
 | some r=>
  simp only [Option.isSome_some,Option.bind_some,if_true]
  rcases xW hT ha with ⟨l,a',e3,h3,h4,e4⟩ | ⟨e3,e,b,e4⟩
  ·rw [e3,e4];exact endA h4
  ·rw [e3,e4];exact .inr ⟨fun g h=>(by cases h),_,b,.inl rfl⟩
 | none=>
  simp only [Option.isSome_none,Option.bind_some,Bool.false_eq_true,if_false]
  rw [cP,if_pos (by decide),if_pos (by decide)]
  have b0:=Ls hT hok (m:=0) (by omega) ha [] [] [] [] []
  rcases b0 with ⟨s1,x1,a1,h1,h2,h3,h4,h5⟩ | ⟨h4,g,b,h5⟩
  ·have h5:a7 0 T a 0 [] [] [] [] [] []=bu 1 T (a1:Int) 0 [] [] [] [] s1 x1:=h5
   rw [h5,h4,cP,if_pos (by decide),if_neg (by decide),vo h2]
   by_cases hE:T.drop a1=[]
   ·have hl:=hlen h2 hE
    rw [hE]
    simp only [List.isEmpty_nil,Bool.not_true,Option.bind_some,Bool.false_eq_true,if_false,dU]
    refine .inl ⟨⟨[],s1,x1⟩,?_,by rw [hl];rfl⟩
    rw [pTg];simp [dR]
   ·have hE2:(T.drop a1).isEmpty=false:=by simpa using hE
    rw [hE2]
    simp only [Bool.not_false,Option.bind_some,if_true]
    rcases Ls hT hok (m:=1) (by omega) h2 [] [] [] s1 x1 with ⟨s2,x2,a2,k1,k2,k3,k4,k5⟩ | ⟨k4,g,b,k5⟩
    ·have k5:a7 1 T (a1:Int) 0 [] [] [] [] s1 x1=bu 2 T (a2:Int) 0 [] [] [] [] s2 x2:=k5
     rw [k5,k4,Oi]
     have hs2:s2≠[]:=by
      rcases h3 with ⟨_,q1,_⟩ | ⟨_,q1,q2⟩
      ·rcases k3 with ⟨q3,_,_⟩ | ⟨_,_,q4⟩
       ·exact absurd q3 q1
       ·rw [q4];exact q1
      ·rcases k3 with ⟨_,q3,_⟩ | ⟨q3,_,_⟩
       ·exact q3
       ·exact absurd q3 q1
     have hx2:x2≠[]:=by
      rcases h3 with ⟨_,q1,q2⟩ | ⟨_,q1,q2⟩
      ·rcases k3 with ⟨q3,_,_⟩ | ⟨_,q3,_⟩
       ·exact absurd q3 q1
       ·exact q3
      ·rcases k3 with ⟨_,_,q3⟩ | ⟨q3,_,_⟩
       ·rw [q3];exact q1
       ·exact absurd q3 q1
     rcases IN (f:=f) hs2 hx2 (T.drop a2) with e | e
     ·rw [e]
      by_cases hb:a2<T.length
      ·exact .inr ⟨fun g h=>(by cases h),_,_,.inr ⟨a2,rfl,hb,rfl⟩⟩
      ·exfalso
       have:T.drop a2=[]:=List.drop_eq_nil_of_le (by omega)
       rw [this,pTg] at e
       simp [dR] at e
     ·rw [e];exact endA k2
    ·have k5:a7 1 T (a1:Int) 0 [] [] [] [] s1 x1=_:=k5
     rw [k5]
     refine .inr ⟨fun g' h=>?_,g,b,.inl rfl⟩
     rcases k4 (f+1) true with e | ⟨_,e⟩
     ·rw [e] at h;cases h
     ·rw [e] at h;exact hE (by simp only [Option.some.injEq,Prod.mk.injEq] at h;exact h.2)
  ·have h5:a7 0 T a 0 [] [] [] [] [] []=_:=h5
   rw [h5]
   refine .inr ⟨fun g' h=>?_,g,b,.inl rfl⟩
   rcases h4 (f+2) false with e | ⟨e,_⟩
   ·rw [e] at h;cases h
   ·cases e
end Go.Dv.U

namespace Go.Dv.U
open Go Go.Dv Go.Proofs
noncomputable def C5 (s:ab) (T:List ac) (a c:Int):Option (ab×Int):=
 (aH T a c 10).bind fun r200=>if r200=true then (bY T (w64 (a+1)) c).bind fun r198=>if (Prod.fst (Prod.snd (Prod.snd (Prod.fst (Prod.snd r198)))) !=0)=true then some (fu [],Prod.fst (Prod.snd (Prod.snd (Prod.fst (Prod.snd r198))))) else (aB (Prod.fst (Prod.fst (Prod.snd r198))) (Prod.fst (Prod.snd (Prod.fst (Prod.snd r198)))) (Prod.fst (Prod.snd (Prod.snd (Prod.fst (Prod.snd r198)))))).bind fun r196=>if r196=true then some (fu [],2) else (cW {s with fGoto:=Prod.fst r198}).bind fun r194=>if (!r194)=true then some (fu [],2) else (bB {s with fGoto:=Prod.fst r198}).bind fun r200=>if (!r200)=true then some (fu [],6) else some ({s with fGoto:=Prod.fst r198},0)
 else if (c !=0)=true then some (fu [],c) else (aB T a c).bind fun r197=>if r197=true then some (fu [],2) else (cW s).bind fun r195=>if (!r195)=true then some (fu [],2) else (bB s).bind fun r200=>if (!r200)=true then some (fu [],6) else some (s,0)
theorem Ng (x0:(List UInt8)) (x1:Bool) (x2:Int) (x3:Int) (x4:(List UInt8)) (x5:Bool) (x6:Int) (x7:Int) (x8:(List UInt8)) (x9:Bool) (x10:Int) (x11:Int) (x12:(List UInt8)) (x13:(List UInt8)) (x14:(List UInt8)) (x15:(List UInt8)) (x16:(List aa)) (x17:(List aa)) (x18:(List aa)) (s:ab) (T:List ac) (a c:Int):
  dW x0 x1 x2 x3 x4 x5 x6 x7 x8 x9 x10 x11 x12 x13 x14 x15 x16 x17 x18 s.fLabel s.fHasSubject s.fSubject.fKind s.fSubject.fNum s.fSubject.fText s.fHasPattern s.fPattern.fKind s.fPattern.fNum s.fPattern.fText s.fHasReplace s.fReplace.fKind s.fReplace.fNum s.fReplace.fText s.fGoto.fAlways s.fGoto.fSuccess s.fGoto.fFailure s.fSubject.fKids s.fPattern.fKids s.fReplace.fKids T a c=C5 s T a c:=by
 rw [oe]
 simp only [co,og,aa.eta]
 rfl
theorem Nh (x0:(List UInt8)) (x1:Bool) (x2:Int) (x3:Int) (x4:(List UInt8)) (x5:Bool) (x6:Int) (x7:Int) (x8:(List UInt8)) (x9:Bool) (x10:Int) (x11:Int) (x12:(List UInt8)) (x13:(List UInt8)) (x14:(List UInt8)) (x15:(List UInt8)) (x16:(List aa)) (x17:(List aa)) (x18:(List aa)) (s:ab) (T:List ac) (a c:Int):
  eB x0 x1 x2 x3 x4 x5 x6 x7 x8 x9 x10 x11 x12 x13 x14 x15 x16 x17 x18 s.fLabel s.fHasSubject s.fSubject.fKind s.fSubject.fNum s.fSubject.fText s.fSubject.fKids s.fHasPattern s.fPattern.fKind s.fPattern.fNum s.fPattern.fText s.fHasReplace s.fReplace.fKind s.fReplace.fNum s.fReplace.fText s.fReplace.fKids s.fGoto.fAlways s.fGoto.fSuccess s.fGoto.fFailure s.fPattern.fKids T a c=C5 s T a c:=by
 rw [lz]
 simp only [co,lD,aa.eta]
 rfl
theorem Lt (x0:(List UInt8)) (x1:Bool) (x2:Int) (x3:Int) (x4:(List UInt8)) (x5:Bool) (x6:Int) (x7:Int) (x8:(List UInt8)) (x9:Bool) (x10:Int) (x11:Int) (x12:(List UInt8)) (x13:(List UInt8)) (x14:(List UInt8)) (x15:(List UInt8)) (x16:(List aa)) (x17:(List aa)) (x18:(List aa)) (s:ab) (T:List ac) (a c:Int):
  ck x0 x1 x2 x3 x4 x5 x6 x7 x8 x9 x10 x11 x12 x13 x14 x15 x16 x17 x18 s.fLabel s.fHasSubject s.fSubject.fKind s.fSubject.fNum s.fSubject.fText s.fSubject.fKids s.fHasPattern s.fPattern.fKind s.fPattern.fNum s.fPattern.fText s.fHasReplace s.fReplace.fKind s.fReplace.fNum s.fReplace.fText s.fGoto.fAlways s.fGoto.fSuccess s.fGoto.fFailure s.fPattern.fKids s.fReplace.fKids T a c=C5 s T a c:=by
 rw [lA]
 simp only [co,lE,aa.eta]
 rfl
theorem Ni (x0:(List UInt8)) (x1:Bool) (x2:Int) (x3:Int) (x4:(List UInt8)) (x5:Bool) (x6:Int) (x7:Int) (x8:(List UInt8)) (x9:Bool) (x10:Int) (x11:Int) (x12:(List UInt8)) (x13:(List UInt8)) (x14:(List UInt8)) (x15:(List UInt8)) (x16:(List aa)) (x17:(List aa)) (x18:(List aa)) (s:ab) (T:List ac) (a c:Int):
  eC x0 x1 x2 x3 x4 x5 x6 x7 x8 x9 x10 x11 x12 x13 x14 x15 x16 x17 x18 s.fLabel s.fHasSubject s.fSubject.fKind s.fSubject.fNum s.fSubject.fText s.fSubject.fKids s.fHasPattern s.fPattern.fKind s.fPattern.fNum s.fPattern.fText s.fPattern.fKids s.fHasReplace s.fReplace.fKind s.fReplace.fNum s.fReplace.fText s.fReplace.fKids s.fGoto.fAlways s.fGoto.fSuccess s.fGoto.fFailure T a c=C5 s T a c:=by
 rw [lB]
 simp only [co,lF,aa.eta]
 rfl
theorem Lu (x0:(List UInt8)) (x1:Bool) (x2:Int) (x3:Int) (x4:(List UInt8)) (x5:Bool) (x6:Int) (x7:Int) (x8:(List UInt8)) (x9:Bool) (x10:Int) (x11:Int) (x12:(List UInt8)) (x13:(List UInt8)) (x14:(List UInt8)) (x15:(List UInt8)) (x16:(List aa)) (x17:(List aa)) (x18:(List aa)) (s:ab) (T:List ac) (a c:Int):
  cm x0 x1 x2 x3 x4 x5 x6 x7 x8 x9 x10 x11 x12 x13 x14 x15 x16 x17 x18 s.fLabel s.fHasSubject s.fSubject.fKind s.fSubject.fNum s.fSubject.fText s.fSubject.fKids s.fHasPattern s.fPattern.fKind s.fPattern.fNum s.fPattern.fText s.fPattern.fKids s.fHasReplace s.fReplace.fKind s.fReplace.fNum s.fReplace.fText s.fGoto.fAlways s.fGoto.fSuccess s.fGoto.fFailure s.fReplace.fKids T a c=C5 s T a c:=by
 rw [lC]
 simp only [co,lG,aa.eta]
 rfl
noncomputable def E6 (s:ab) (T:List ac) (a c:Int):Option (ab×Int):=
 (cc T a c).bind fun r200=>if r200=true then (aB T (w64 (a+1)) c).bind fun r198=>if r198=true then (aH T (w64 (a+1)) c 10).bind fun r196=>if (!r196)=true then (bO (false) T (w64 (a+1)) c).bind fun r194=>C5 {s with fHasReplace:=true,fReplace:=Prod.fst r194} (Prod.fst (Prod.fst (Prod.snd r194))) (Prod.fst (Prod.snd (Prod.fst (Prod.snd r194)))) (Prod.fst (Prod.snd (Prod.snd (Prod.fst (Prod.snd r194))))) else C5 {s with fHasReplace:=true,fReplace:=⟨1,0,[],[]⟩} T (w64 (a+1)) c else C5 {s with fHasReplace:=true,fReplace:=⟨1,0,[],[]⟩} T (w64 (a+1)) c else C5 s T a c
theorem Nj (x0:(List UInt8)) (x1:Bool) (x2:Int) (x3:Int) (x4:(List UInt8)) (x5:Bool) (x6:Int) (x7:Int) (x8:(List UInt8)) (x9:Bool) (x10:Int) (x11:Int) (x12:(List UInt8)) (x13:(List UInt8)) (x14:(List UInt8)) (x15:(List UInt8)) (x16:(List aa)) (x17:(List aa)) (x18:(List aa)) (s:ab) (T:List ac) (a c:Int):
  db x0 x1 x2 x3 x4 x5 x6 x7 x8 x9 x10 x11 x12 x13 x14 x15 x16 x17 x18 s.fLabel s.fHasSubject s.fSubject.fKind s.fSubject.fNum s.fSubject.fText s.fSubject.fKids s.fHasPattern s.fPattern.fKind s.fPattern.fNum s.fPattern.fText s.fHasReplace s.fReplace.fKind s.fReplace.fNum s.fReplace.fText s.fGoto.fAlways s.fGoto.fSuccess s.fGoto.fFailure s.fPattern.fKids s.fReplace.fKids T a c=E6 s T a c:=by
 have h1:=fun (r:aa) T a c=>Nh x0 x1 x2 x3 x4 x5 x6 x7 x8 x9 x10 x11 x12 x13 x14 x15 x16 x17 x18 {s with fHasReplace:=true,fReplace:=r} T a c
 have h2:=fun (r:aa) T a c=>Lt x0 x1 x2 x3 x4 x5 x6 x7 x8 x9 x10 x11 x12 x13 x14 x15 x16 x17 x18 {s with fHasReplace:=true,fReplace:=r} T a c
 have h3:=h2 ⟨1,0,[],[]⟩
 simp only at h1 h3
 rw [od,E6]
 simp only [h1,h3,Lt]
theorem Nk (x0:(List UInt8)) (x1:Bool) (x2:Int) (x3:Int) (x4:(List UInt8)) (x5:Bool) (x6:Int) (x7:Int) (x8:(List UInt8)) (x9:Bool) (x10:Int) (x11:Int) (x12:(List UInt8)) (x13:(List UInt8)) (x14:(List UInt8)) (x15:(List UInt8)) (x16:(List aa)) (x17:(List aa)) (x18:(List aa)) (s:ab) (T:List ac) (a c:Int):
  eA x0 x1 x2 x3 x4 x5 x6 x7 x8 x9 x10 x11 x12 x13 x14 x15 x16 x17 x18 s.fLabel s.fHasSubject s.fSubject.fKind s.fSubject.fNum s.fSubject.fText s.fSubject.fKids s.fHasPattern s.fPattern.fKind s.fPattern.fNum s.fPattern.fText s.fPattern.fKids s.fHasReplace s.fReplace.fKind s.fReplace.fNum s.fReplace.fText s.fGoto.fAlways s.fGoto.fSuccess s.fGoto.fFailure s.fReplace.fKids T a c=E6 s T a c:=by
 have h1:=fun (r:aa) T a c=>Ni x0 x1 x2 x3 x4 x5 x6 x7 x8 x9 x10 x11 x12 x13 x14 x15 x16 x17 x18 {s with fHasReplace:=true,fReplace:=r} T a c
 have h2:=fun (r:aa) T a c=>Lu x0 x1 x2 x3 x4 x5 x6 x7 x8 x9 x10 x11 x12 x13 x14 x15 x16 x17 x18 {s with fHasReplace:=true,fReplace:=r} T a c
 have h3:=h2 ⟨1,0,[],[]⟩
 simp only at h1 h3
 rw [ly,E6]
 simp only [h1,h3,Lu]
structure Fm (s:ab):Prop where
 lab:nmB s.fLabel=true
 ord:(s.fHasSubject||(!s.fHasPattern&&!s.fHasReplace))=true
 sub:gM s.fHasSubject s.fSubject=true
 pat:gM s.fHasPattern s.fPattern=true
 rep:gM s.fHasReplace s.fReplace=true
 go:jF s.fGoto=true
 sb:SB s
theorem Fm.form {s:ab} (h:Fm s) {g:aw} (hg:gOk g=true):lM {s with fGoto:=g}=!(s.fLabel==[]&&!s.fHasSubject&&jF g):=by
 unfold lM
 simp only [h.lab,h.ord,h.sub,h.pat,h.rep,hg,Bool.true_and,Bool.and_true]
def Hw (p:Int×ab):ab×Int:=
 if p.1≠0 then (fu [],p.1) else if p.2.fLabel=[]/\p.2.fHasSubject=false/\jF p.2.fGoto=true then (fu [],2)
  else if fm p.2=true then (p.2,0) else (fu [],6)
theorem Jg (s:ab) (T:List ac) (a:Int) {c:Int} (hc:c≠0):C5 s T a c=some (fu [],c):=by
 unfold C5
 rw [Jf T a 10 hc]
 simp only [Option.bind_some,Bool.false_eq_true,if_false]
 rw [if_pos (by simpa using hc)]
theorem Nl (T:List ac) (a:Int) {c:Int} (hc:c≠0):cc T a c=some false:=by
 rw [kj,D9 T a hc];rfl
theorem Jh (s:ab) (T:List ac) (a:Int) {c:Int} (hc:c≠0):E6 s T a c=some (fu [],c):=by
 unfold E6
 rw [Nl T a hc]
 simp only [Option.bind_some,Bool.false_eq_true,if_false]
 exact Jg s T a hc
theorem Ji {s:ab} (h:Fm s) {g:aw} (hg:gOk g=true) (v:Option (ab×Int))
  (hv:v=(cW {s with fGoto:=g}).bind fun r194=>if (!r194)=true then some (fu [],2) else (bB {s with fGoto:=g}).bind fun r200=>if (!r200)=true then some (fu [],6) else some ({s with fGoto:=g},0)):
  v=some (Hw (0,{s with fGoto:=g})):=by
 subst hv
 obtain ⟨b1,b2,b3⟩:=h.sb
 rw [vj (s:={s with fGoto:=g}) (by show s.fSubject.m<=_;omega) (by show s.fPattern.m<=_;omega) (by show s.fReplace.m<=_;omega),lj (s:={s with fGoto:=g}) (by show s.fSubject.m<=_;omega) (by show s.fPattern.m<=_;omega) (by show s.fReplace.m<=_;omega),h.form hg]
 simp only [Option.bind_some,Hw,ne_eq,not_true_eq_false,if_false]
 by_cases hz:s.fLabel=[]/\s.fHasSubject=false/\jF g=true
 ·rw [if_pos hz,if_pos (by simp [hz])]
 ·rw [if_neg hz]
  have:(s.fLabel==[]&&!s.fHasSubject&&jF g)=false:=by
   rw [Bool.eq_false_iff];intro h2
   simp only [Bool.and_eq_true,beq_iff_eq,Bool.not_eq_true'] at h2
   exact hz ⟨h2.1.1,h2.1.2,h2.2⟩
  rw [this]
  cases fm {s with fGoto:=g}<;>simp
theorem AJ {T:List ac} (hT:T.length<=120) (hok:∀ t∈T,tOk t) {a:Nat} (ha:a<=T.length) {s:ab} (h:Fm s):C5 s T a 0=some (Hw (D2 s (T.drop a))):=by
  unfold C5 D2
  rw [Ea ha]
  have hlen:∀ {b:Nat},b<=T.length->T.drop b=[]->b=T.length:=fun h e=>by have:=bm T h;rw [e] at this;simpa using this
  rcases fT ha with ⟨e0,e⟩ | ⟨t,hlt,hi,e,hm⟩
  · rw [e]
    simp only [aX,Option.isSome_none,Option.bind_some,Bool.false_eq_true,if_false,bne_self_eq_false,if_true]
    rw [vo ha,e]
    simp only [List.isEmpty_nil,Bool.not_true,Option.bind_some,Bool.false_eq_true,if_false]
    have hg:gOk s.fGoto=true:=by
      have:=h.go
      simp only [jF,Bool.and_eq_true,beq_iff_eq] at this
      simp [gOk,nmB,this]
    exact Ji h hg _ rfl
  · rw [e]
    by_cases h10:t.fKind=10
    · simp only [aX,h10,if_true,Option.isSome_some,Option.bind_some,yM (show T.length<=1000 by omega) hlt]
      have hg:=E0 (T:=T) (by omega) hok (a:=a+1) (by omega) ((T.drop (a+1)).length+1)
      rcases hg with ⟨g,e1,e2⟩ | ⟨e1,g,b,e2⟩
      · rw [e1,e2]
        simp only [Option.bind_some,bq3,bne_self_eq_false,Bool.false_eq_true,if_false,if_true]
        rw [vo (Nat.le_refl _),List.drop_length]
        simp only [List.isEmpty_nil,Bool.not_true,Option.bind_some,Bool.false_eq_true,if_false]
        exact Ji h (Ku (fun t ht=>hok t (List.mem_of_mem_drop ht)) e1) _ rfl
      · have hR:∀ o:Option (aw×List ac),(∀ g,o≠some (g,[]))->Hw (match o with | some (g,r2)=>(if r2=[] then 0 else 2,{s with fGoto:=g}) | none=>(2,s))=(fu [],2):=by
          intro o ho
          cases o with
          | none=>rfl
          | some p=>
            obtain ⟨g',r⟩:=p
            have:¬ r=[]:=fun h=>ho g' (by rw [h])
            simp only [this,if_false];rfl
        have hR1:=hR _ e1
        have ef:(T.drop (a+1)).length+1+3=(T.drop (a+1)).length+4:=by omega
        rw [ef] at hR1
        refine Eq.trans ?_ (congrArg some hR1.symm)
        rcases e2 with e2 | ⟨b',rfl,hb,e2⟩
        · rw [e2];rfl
        · rw [e2]
          simp only [Option.bind_some,bq3,bne_self_eq_false,Bool.false_eq_true,if_false]
          rw [vo (by omega)]
          have:(T.drop b').isEmpty=false:=by
            have h1:=bm T (a:=b') (by omega)
            cases hh:T.drop b' with
            | nil=>rw [hh] at h1;simp at h1;omega
            | cons _ _=>rfl
          rw [this];rfl
    · simp only [aX,h10,if_false,Option.isSome_none,Option.bind_some,Bool.false_eq_true,bne_self_eq_false]
      rw [vo ha,e]
      rfl
theorem uN {T:List ac} (hT:T.length<=120) (hok:∀ t∈T,tOk t) {a:Nat} (ha:a<=T.length) (el:Bool):
  ∃ x c a',eO (if el=true then 6 else 1) (T.drop a)=(c,x,T.drop a')/\a'<=T.length/\(c=0->x.valid=true)/\bO el T a 0=some (x,bq3 T ((a':Nat):Int) c):=by
 rw [r7]
 cases el with
 | true=>
  simp only [if_true]
  rcases IM hT hok ha with ⟨x,a',e1,h2,h3,e2⟩ | ⟨c,b,h1,e1,e2⟩
  ·rw [e2]
   exact ⟨x,0,a',e1,h2,fun _=>h3,by simp [aa.eta,bq3]⟩
  ·rw [e2]
   refine ⟨jH,c,a,e1,ha,fun h=>absurd h h1,?_⟩
   simp only [Option.bind_some]
   rw [if_pos (by simpa using h1)];rfl
 | false=>
  simp only [Bool.false_eq_true,if_false]
  rcases IL hT hok ha with ⟨x,a',e1,h2,h3,e2⟩ | ⟨c,b,h1,e1,e2⟩
  ·rw [e2]
   exact ⟨x,0,a',e1,h2,fun _=>h3,by simp [aa.eta,bq3]⟩
  ·rw [e2]
   refine ⟨jH,c,a,e1,ha,fun h=>absurd h h1,?_⟩
   simp only [Option.bind_some]
   rw [if_pos (by simpa using h1)];rfl
theorem Jj {T:List ac} (hok:∀ t∈T,tOk t) {a:Nat} (ha:a<=T.length):cc T a 0=some (pY (T.drop a)).isSome/\∀ q,pY (T.drop a)=some q->a<T.length/\q=T.drop (a+1):=by
 refine ⟨?_,?_⟩
 ·rw [kj,vo ha]
  rcases fT ha with ⟨e0,e⟩ | ⟨t,hlt,hi,e,hm⟩
  ·rw [e];rfl
  ·rw [e,hi]
   simp only [List.isEmpty_cons,Bool.not_false,Option.bind_some,if_true,G7 (hok t hm),pY]
   cases hI:ox t with
   | false=>simp
   | true=>by_cases h:t.fText=[61]<;>simp [h]
 ·intro q h
  rcases fT ha with ⟨e0,e⟩ | ⟨t,hlt,hi,e,hm⟩
  ·rw [e] at h;cases h
  ·rw [e] at h
   refine ⟨hlt,?_⟩
   simp only [pY] at h
   split at h
   ·cases h;rfl
   ·cases h
theorem AK {T:List ac} {a:Nat} (ha:a<=T.length) {α:Type} (A B:Option α):
  ((aB T a 0).bind fun r=>if r=true then (aH T a 0 10).bind fun r194=>if (!r194)=true then A else B else B)=if mh (T.drop a)=true then B else A:=by
 rw [vo ha,Ea ha]
 rcases fT ha with ⟨e0,e⟩ | ⟨t,hlt,hi,e,hm⟩
 ·rw [e];rfl
 ·rw [e]
  simp only [List.isEmpty_cons,Bool.not_false,Option.bind_some,if_true,aX,mh]
  by_cases h:t.fKind=10<;>simp [h]
def KI (b:Int×ab×List ac):ab×Int:=Hw (if b.1≠0 then (b.1,b.2.1) else D2 b.2.1 b.2.2)
theorem Ed {c:Int} (hc:c≠0) (s:ab) (r:List ac):KI (c,s,r)=(fu [],c):=by
 unfold KI Hw
 simp [hc]
theorem Hf (s:ab) (r:List ac):KI (0,s,r)=Hw (D2 s r):=by
 unfold KI
 simp
theorem AL {T:List ac} (hT:T.length<=120) (hok:∀ t∈T,tOk t) (a:Nat):SmT (T.drop a):=⟨by rw [List.length_drop];omega,fun t ht=>xP (hok t (List.mem_of_mem_drop ht))⟩
theorem Hg {T:List ac} (hT:T.length<=120) (hok:∀ t∈T,tOk t) {a:Nat} (ha:a<=T.length) {s:ab} (h:Fm s) (hp:s.fHasSubject=true):E6 s T a 0=some (KI (G0 s (T.drop a))):=by
 unfold E6 G0
 obtain ⟨h1,h2⟩:=Jj hok ha
 rw [h1]
 cases hq:pY (T.drop a) with
 | none=>
  simp only [Option.isSome_none,Option.bind_some,Bool.false_eq_true,if_false,Hf]
  exact AJ hT hok ha h
 | some q=>
  obtain ⟨hlt,rfl⟩:=h2 q hq
  simp only [Option.isSome_some,Option.bind_some,if_true,yM (show T.length<=1000 by omega) hlt]
  rw [AK (show a+1<=T.length by omega)]
  have hk:∀ x:aa,x.valid=true->x.m<=72000->Fm {s with fHasReplace:=true,fReplace:=x}:=fun x hx hm=>⟨h.lab,by simp [hp],h.sub,h.pat,by simp [gM,hx],h.go,h.sb.1,h.sb.2.1,hm⟩
  by_cases hE:mh (T.drop (a+1))=true
  ·rw [if_pos hE,if_pos hE,Hf]
   exact AJ hT hok (by omega) (hk _ (by decide) (by rw [qJ];simp [aS]))
  ·rw [if_neg hE,if_neg hE]
   obtain ⟨x,c,a',e1,h3,h4,e2⟩:=uN hT hok (a:=a+1) (by omega) false
   have e1:eO 1 (T.drop (a+1))=(c,x,T.drop a'):=e1
   have hsm:=(qo (AL hT hok (a+1)) 1).1
   rw [e2,e1]
   rw [e1] at hsm
   simp only [Option.bind_some,bq3]
   by_cases hc:c=0
   ·subst hc
    rw [Hf]
    exact AJ hT hok h3 (hk x (h4 rfl) hsm)
   ·rw [Ed hc,Jg _ _ _ hc]
end Go.Dv.U

namespace Go.Dv.U
open Go Go.Dv Go.Proofs
theorem Kv {lab:List UInt8} (h:nmB lab=true):Fm (fu lab):=⟨h,rfl,rfl,rfl,rfl,rfl,sN lab⟩
theorem Kw {lab rest:List UInt8}:Km lab rest=if (fp rest).2.2≠0 then (fu [],(fp rest).2.2) else Hw (pSt (fu lab) (fp rest).1):=rfl
theorem IP {T:List ac} (hT:T.length<=120) (hok:∀ t∈T,tOk t) {lab:List UInt8} (hl:nmB lab=true) (o:Option (ab×Int))
  (ho:o=(aB T 0 0).bind fun r196=>if r196=true then (aH T 0 0 10).bind fun r194=>if (!r194)=true then
   (bO true T 0 0).bind fun r192=>(aB (Prod.fst (Prod.fst (Prod.snd r192))) (Prod.fst (Prod.snd (Prod.fst (Prod.snd r192)))) (Prod.fst (Prod.snd (Prod.snd (Prod.fst (Prod.snd r192)))))).bind fun r191=>if r191=true then (aH (Prod.fst (Prod.fst (Prod.snd r192))) (Prod.fst (Prod.snd (Prod.fst (Prod.snd r192)))) (Prod.fst (Prod.snd (Prod.snd (Prod.fst (Prod.snd r192))))) 10).bind fun r189=>if (!r189)=true then (cc (Prod.fst (Prod.fst (Prod.snd r192))) (Prod.fst (Prod.snd (Prod.fst (Prod.snd r192)))) (Prod.fst (Prod.snd (Prod.snd (Prod.fst (Prod.snd r192)))))).bind fun r187=>if (!r187)=true then
    ((idx (Prod.fst (Prod.fst (Prod.snd r192))) (Prod.fst (Prod.snd (Prod.fst (Prod.snd r192))))):Option ac).bind fun y200=>if (!y200.fBefore)=true then some (fu [],2) else (bO (false) (Prod.fst (Prod.fst (Prod.snd r192))) (Prod.fst (Prod.snd (Prod.fst (Prod.snd r192)))) (Prod.fst (Prod.snd (Prod.snd (Prod.fst (Prod.snd r192)))))).bind fun r198=>E6 {fu lab with fHasSubject:=true,fSubject:=Prod.fst r192,fHasPattern:=true,fPattern:=Prod.fst r198} (Prod.fst (Prod.fst (Prod.snd r198))) (Prod.fst (Prod.snd (Prod.fst (Prod.snd r198)))) (Prod.fst (Prod.snd (Prod.snd (Prod.fst (Prod.snd r198)))))
    else E6 {fu lab with fHasSubject:=true,fSubject:=Prod.fst r192} (Prod.fst (Prod.fst (Prod.snd r192))) (Prod.fst (Prod.snd (Prod.fst (Prod.snd r192)))) (Prod.fst (Prod.snd (Prod.snd (Prod.fst (Prod.snd r192)))))
    else E6 {fu lab with fHasSubject:=true,fSubject:=Prod.fst r192} (Prod.fst (Prod.fst (Prod.snd r192))) (Prod.fst (Prod.snd (Prod.fst (Prod.snd r192)))) (Prod.fst (Prod.snd (Prod.snd (Prod.fst (Prod.snd r192)))))
    else E6 {fu lab with fHasSubject:=true,fSubject:=Prod.fst r192} (Prod.fst (Prod.fst (Prod.snd r192))) (Prod.fst (Prod.snd (Prod.fst (Prod.snd r192)))) (Prod.fst (Prod.snd (Prod.snd (Prod.fst (Prod.snd r192)))))
   else C5 (fu lab) T 0 0 else C5 (fu lab) T 0 0):o=some (Hw (pSt (fu lab) T)):=by
 subst ho
 have e0:((0:Nat):Int)=0:=rfl
 have h0:=AK (T:=T) (a:=0) (Nat.zero_le _) (α:=ab×Int)
 rw [List.drop_zero,e0] at h0
 rw [h0]
 unfold pSt
 by_cases hE:mh T=true
 ·rw [if_pos hE,if_pos hE]
  have:=AJ hT hok (a:=0) (Nat.zero_le _) (Kv hl)
  rw [List.drop_zero] at this
  exact this
 ·rw [if_neg hE,if_neg hE]
  obtain ⟨x,c,a1,e1,h1,h2,e2⟩:=uN hT hok (a:=0) (Nat.zero_le _) true
  have hsm:=(qo (AL hT hok 0) 6).1
  rw [List.drop_zero] at e1 hsm
  have e1:eO 6 T=(c,x,T.drop a1):=e1
  have e2:bO true T 0 0=_:=e2
  have hB:Hw (if (lm (fu lab) T).1≠0 then ((lm (fu lab) T).1,(lm (fu lab) T).2.1) else D2 (lm (fu lab) T).2.1 (lm (fu lab) T).2.2)=KI (lm (fu lab) T):=rfl
  rw [hB,e2]
  unfold lm
  rw [e1]
  rw [e1] at hsm
  simp only [Option.bind_some,bq3]
  by_cases hc:c=0
  ·subst hc
   have hx:=h2 rfl
   have hFm:Fm {fu lab with fHasSubject:=true,fSubject:=x}:=⟨hl,rfl,by simp [gM,hx],rfl,rfl,rfl,hsm,(sN lab).2.1,(sN lab).2.2⟩
   simp only [ne_eq,not_true_eq_false,if_false]
   rw [AK h1]
   unfold My
   have hrep:=Hg hT hok h1 hFm rfl
   by_cases hE1:mh (T.drop a1)=true
   ·rw [if_pos hE1,if_pos (.inl hE1)]
    exact hrep
   ·rw [if_neg hE1,(Jj hok h1).1]
    cases hA:(pY (T.drop a1)).isSome with
    | true=>
     simp only [Option.bind_some,Bool.not_true,Bool.false_eq_true,if_false,or_true,if_true]
     exact hrep
    | false=>
     simp only [Option.bind_some,Bool.not_false,if_true]
     rw [if_neg (by simp [hE1])]
     rcases fT h1 with ⟨e3,e⟩ | ⟨t,hlt,hi,e,hm⟩
     ·rw [e] at hE1;exact absurd rfl hE1
     ·have hbf:bfr (T.drop a1)=t.fBefore:=by rw [e];rfl
      rw [hi,hbf]
      simp only [Option.bind_some]
      cases hBf:t.fBefore with
      | false=>
       simp only [Bool.not_false,if_true]
       rw [Ed (by decide)]
      | true=>
       simp only [Bool.not_true,Bool.false_eq_true,if_false,Bool.true_eq_false]
       obtain ⟨y,d,a2,e4,h4,h5,e5⟩:=uN hT hok h1 false
       have e4:eO 1 (T.drop a1)=(d,y,T.drop a2):=e4
       have hsm2:=(qo (AL hT hok a1) 1).1
       unfold Mx
       rw [e4] at hsm2
       rw [e5,e4]
       simp only [Option.bind_some,bq3]
       by_cases hd:d=0
       ·subst hd
        have hy:=h5 rfl
        simp only [ne_eq,not_true_eq_false,if_false]
        exact Hg hT hok h4 (s:={fu lab with fHasSubject:=true,fSubject:=x,fHasPattern:=true,fPattern:=y}) ⟨hl,rfl,by simp [gM,hx],by simp [gM,hy],rfl,rfl,hsm,hsm2,(sN lab).2.2⟩ rfl
       ·rw [if_pos hd,Ed hd,Jh _ _ _ hd]
  ·rw [if_pos hc,Ed hc,D9 _ _ hc]
   simp only [Option.bind_some,Bool.false_eq_true,if_false]
   exact Jh _ _ _ hc
theorem Hh {s:List UInt8} (h:s.length<=4000) {k:Nat} (hk:k<=s.length) (hl:nmB (s.take k)=true) (x2:(List UInt8)) (x3:Bool) (x4:Int) (x5:Int) (x6:(List UInt8)) (x7:Bool) (x8:Int) (x9:Int) (x10:(List UInt8)) (x11:Bool) (x12:Int) (x13:Int) (x14:(List UInt8)) (x15:(List UInt8)) (x16:(List UInt8)) (x17:(List UInt8)) (x18:(List aa)) (x19:(List aa)) (x20:(List aa)):
  cq s k x2 x3 x4 x5 x6 x7 x8 x9 x10 x11 x12 x13 x14 x15 x16 x17 x18 x19 x20=some (Km (s.take k) (s.drop k)):=by
 rw [n7]
 simp only [Option.getD_none,Option.getD_some,aj]
 have c2:cut s 0 (k:Int)=some (s.take k):=(iB (Nat.zero_le _) hk).trans (by simp)
 rw [iB hk (Nat.le_refl _),c2]
 simp only [Option.bind_some,List.take_length]
 rw [pS (by rw [List.length_drop];omega),Kw]
 simp only [Option.bind_some]
 by_cases hz:(fp (s.drop k)).2.2=0
 ·obtain ⟨_,k2,k3⟩:=CY hz
  rw [if_neg (by simpa using hz),if_neg (by simpa using hz)]
  have hA:=fun (x:aa) T a c=>Nj x2 x3 x4 x5 x6 x7 x8 x9 x10 x11 x12 x13 x14 x15 x16 x17 x18 x19 x20 {fu (s.take k) with fHasSubject:=true,fSubject:=x} T a c
  have hB:=fun (x y:aa) T a c=>Nk x2 x3 x4 x5 x6 x7 x8 x9 x10 x11 x12 x13 x14 x15 x16 x17 x18 x19 x20 {fu (s.take k) with fHasSubject:=true,fSubject:=x,fHasPattern:=true,fPattern:=y} T a c
  have hC:=fun T a c=>Ng x2 x3 x4 x5 x6 x7 x8 x9 x10 x11 x12 x13 x14 x15 x16 x17 x18 x19 x20 (fu (s.take k)) T a c
  refine IP k3 k2 hl _ ?_
  simp only [oc]
  simp only [fu,jH] at hA hB hC
  simp only [hA,hB,hC]
  rfl
 ·rw [if_pos (by simpa using hz),if_pos hz];rfl
theorem Hi {s:List UInt8} (h:s.length<=1000000000):jM s=some (gV s):=by
  rw [rY,C0]
  by_cases hl:4000<s.length
  · rw [if_pos (by simp [aj];omega),if_pos (.inl hl)];rfl
  rw [if_neg (by simp [aj];omega)]
  have hmk:∀ d:Int,(ab.mk [] false (aa.mk (Int.ofNat 0) (Int.ofNat 0) [] []) false (aa.mk (Int.ofNat 0) (Int.ofNat 0) [] []) false (aa.mk (Int.ofNat 0) (Int.ofNat 0) [] []) (aw.mk [] [] []),d)=(fu [],d):=fun _=>rfl
  -- every byte is printable
  have l4:dx s 0 [] (false) 0 0 [] (false) 0 0 [] (false) 0 0 [] [] [] [] ([]) ([]) ([])=if eV s=true then cE s 0 [] (false) 0 0 [] (false) 0 0 [] (false) 0 0 [] [] [] [] ([]) ([]) ([]) else some (fu [],1):=by
    refine bz (xs:=s) (by omega) (P:=fun i l=>dx s (i:Int) [] (false) 0 0 [] (false) 0 0 [] (false) 0 0 [] [] [] [] ([]) ([]) ([])=if eV l=true then cE s 0 [] (false) 0 0 [] (false) 0 0 [] (false) 0 0 [] [] [] [] ([]) ([]) ([]) else some (fu [],1)) ?_ ?_
    · rw [iG,if_neg (by simp [aj])];rfl
    · intro i y l _ hlt hy hi hw ih
      rw [iG,if_pos (by simp [aj];omega),hi]
      simp only [Option.bind_some,hw,ih,hmk]
      have f:∀ b:UInt8,Io b=(!decide (ib b<32)&&!decide (ib b>126)):=jE (by decide +kernel)
      simp only [eV,List.all_cons,f y]
      cases h1:decide (ib y<32) with
      | true=>simp
      | false=>cases h2:decide (ib y>126)<;>simp
  rw [l4]
  cases hp:eV s with
  | false=>rw [if_neg (by decide),if_pos (.inr rfl)]
  | true=>
    rw [if_pos rfl,if_neg (by simp;omega)]
    -- the label's end
    have key:∀ (r a:List UInt8),s=a++r->hasB 32 a=false->cE s (a.length:Int) [] (false) 0 0 [] (false) 0 0 [] (false) 0 0 [] [] [] [] ([]) ([]) ([]) =
        some (if mN s=false/\b6 (if mN s=true then [] else (Lib.cut s [32]).1)=false then (fu [],2) else Km (if mN s=true then [] else (Lib.cut s [32]).1) (s.drop (if mN s=true then [] else (Lib.cut s [32]).1).length)):=by
      intro r
      induction r with
      | nil =>
        intro a hs ha
        have hs2:s=a:=by simpa using hs
        subst hs2
        rw [iH,if_neg (by simp [aj])]
        have hcut:Lib.cut s [32]=(s,[],false):=IE (c:=32) ha
        have hf:mN s=false:=by
          cases s with
          | nil=>rfl
          | cons b q=>
            cases hb:mN (b:: q) with
            | false=>rfl
            | true=>
              have hb:b=32:=by simpa [mN] using hb
              subst hb
              simp [hasB] at ha
              exact absurd (by decide) ha.1
        rw [hf,hcut]
        simp only [Bool.false_eq_true,if_false,true_and]
        have h13:=Hh (s:=s) (by omega) (k:=s.length) (Nat.le_refl _)
        rw [List.take_length] at h13
        have hc2:cut s 0 (Option.getD (Option.some (s.length:Int)) (len s))=some s:=(iB (xs:=s) (Nat.zero_le _) (Nat.le_refl _)).trans (by simp)
        by_cases hz:s=[]
        · subst hz
          have h13:=h13 rfl [] false 0 0 [] false 0 0 [] false 0 0 [] [] [] [] [] [] []
          rw [if_neg (by decide),h13]
          rfl
        · have hpos:0<s.length:=List.length_pos_iff.2 hz
          rw [if_pos (by simp;omega),hc2]
          simp only [Option.bind_some,li]
          cases hn:b6 s with
          | false=>simp only [Bool.not_false,if_true];rw [ir,hmk]
          | true=>
            simp only [Bool.not_true,Bool.false_eq_true,if_false,Bool.true_eq_false]
            exact h13 (Ec hn) _ _ _ _ _ _ _ _ _ _ _ _ _ _ _ _ _ _ _
      | cons b q ih=>
        intro a hs ha
        have hlen:s.length=a.length+(q.length+1):=by rw [hs];simp
        have hi:idx s (a.length:Int)=some b:=by rw [ce,hs];simp
        have w:w64 ((a.length:Int)+1)=((a.length+1:Nat):Int):=by rw [aW (by omega) (by omega)];omega
        rw [iH,if_pos (by simp [aj];omega),hi]
        simp only [Option.bind_some,w]
        by_cases hb:b=32
        · subst hb
          rw [if_neg (by decide)]
          have hcut:Lib.cut s [32]=(a,q,true):=by rw [hs];exact Kk (c:=32) ha
          have htk:s.take a.length=a:=by rw [hs];simp
          have h13:=Hh (s:=s) (by omega) (k:=a.length) (by omega)
          rw [htk] at h13
          have hc2:cut s 0 (Option.getD (Option.some (a.length:Int)) (len s))=some a:=(iB (xs:=s) (b:=a.length) (Nat.zero_le _) (by omega)).trans (by simp [htk])
          rw [hcut]
          by_cases hz:a=[]
          · subst hz
            have hf:mN s=true:=by rw [hs];rfl
            have h13:=h13 rfl [] false 0 0 [] false 0 0 [] false 0 0 [] [] [] [] [] [] []
            rw [hf,if_neg (by simp),h13]
            simp
          · have hpos:0<a.length:=List.length_pos_iff.2 hz
            have hf:mN s=false:=by
              rw [hs]
              cases a with
              | nil=>exact absurd rfl hz
              | cons b' q'=>
                cases hb:mN (b':: q'++32:: q) with
                | false=>rfl
                | true=>
                  have hb:b'=32:=by simpa [mN] using hb
                  subst hb
                  simp [hasB] at ha
                  exact absurd (by decide) ha.1
            rw [hf,if_pos (by simp;omega),hc2]
            simp only [Option.bind_some,li,Bool.false_eq_true,if_false,true_and]
            cases hn:b6 a with
            | false=>simp only [Bool.not_false,if_true];rw [ir,hmk]
            | true=>
              simp only [Bool.not_true,Bool.false_eq_true,if_false,Bool.true_eq_false]
              exact h13 (Ec hn) _ _ _ _ _ _ _ _ _ _ _ _ _ _ _ _ _ _ _
        · have hb2:(ib b !=32)=true:=by
            have f:∀ b:UInt8,(ib b !=32)=(b !=32):=jE (by decide +kernel)
            rw [f];simpa using hb
          rw [if_pos hb2]
          have:=ih (a++[b]) (by rw [hs];simp) (by
            have f:∀ b:UInt8,(ib b==32)=(b==32):=jE (by decide +kernel)
            simp only [hasB,List.any_append,List.any_cons,List.any_nil,Bool.or_false,f] at ha ⊢
            rw [ha];simpa using hb)
          rw [List.length_append,List.length_singleton] at this
          exact this
    exact key s [] (by simp) rfl
end Go.Dv.U

namespace Go.Dv.U
open Go Go.Dv Go.Proofs
theorem Hj {acc:List ab} (h:Mz acc) (hl:acc.length<80) {t:List UInt8} (hc:(gV t).2=0) (ht:q8 acc (gV t).1.fLabel=false):Mz (acc++[(gV t).1]):=by
  refine ⟨by simp;omega,fun z hz=>?_,?_⟩
  · rcases List.mem_append.1 hz with h1 | h1
    · exact h.2.1 z h1
    · have:z=(gV t).1:=by simpa using h1
      rw [this];exact ⟨zt hc,Ko _⟩
  · refine xT fun j z hz=>?_
    rw [Nat.zero_add]
    by_cases hj:j<acc.length
    · rw [List.getElem?_append_left hj] at hz
      refine G6 hz ?_
      have:=vn (xs:=acc) h.2.2 j z hz
      rwa [Nat.zero_add] at this
    · have hj2:j=acc.length:=by
        have:=(List.getElem?_eq_some_iff.1 hz).1
        simp at this;omega
      subst hj2
      simp at hz
      subst hz
      exact G5 ht
theorem Lv {ls:List aO} (hl:ls.length<=1000000000) (ht:∀ y∈ls,y.fText.length<=1000000000) (z:List ab):∀ acc:List ab,Mz acc->d8 ls 0 z acc=some (pLn ls acc):=by
 refine bz (xs:=ls) (by omega) (P:=fun i l=>∀ acc:List ab,Mz acc->d8 ls (i:Int) z acc=some (pLn l acc)) ?_ ?_
 ·intro acc hv
  have hpb:PB (aq.mk acc):=⟨by have:=hv.1;show acc.length<=_;omega,fun y hy=>by
   have:=(hv.2.1 y hy).2
   exact ⟨by have:=this.1;omega,by have:=this.2.1;omega,by have:=this.2.2;omega⟩⟩
  rw [kg,if_neg (by simp [aj]),tJ hpb]
  have hval:DV (aq.mk acc)=decide ((vX acc).length<=4000):=by
   unfold DV Lh
   have h1:acc.all fm=true:=List.all_eq_true.2 fun y hy=>(hv.2.1 y hy).1
   simp only [h1,hv.2.2,hv.1,decide_true,Bool.true_and]
  rw [hval]
  simp only [Option.bind_some,pLn]
  by_cases h:4000<(vX acc).length
  ·have h2:¬ (vX acc).length<=4000:=by omega
   rw [if_pos h,if_pos (by simp [h2])]
  ·have h2:(vX acc).length<=4000:=by omega
   rw [if_neg h,if_neg (by simp [h2])]
 ·intro i y l _ hlt hy hi hw ih acc hv
  rw [kg,if_pos (by simp [aj];omega),hi]
  simp only [Option.bind_some]
  rw [Hi (ht y hy)]
  simp only [Option.bind_some,pLn]
  by_cases hc:(gV y.fText).2=0
  ·rw [if_neg (show ¬ ((gV y.fText).2 !=0)=true by simpa using hc),if_neg (show ¬ (gV y.fText).2≠0 by simpa using hc),oE]
   have hix:kJ (aq.mk acc) (gV y.fText).1.fLabel=some (if (gV y.fText).1.fLabel=[] then -1 else ixP acc (gV y.fText).1.fLabel):=by
    by_cases hz:(gV y.fText).1.fLabel=[]
    ·rw [hz,if_pos rfl];exact yJ (p:=aq.mk acc) hv.1
    ·rw [if_neg hz];exact tI (p:=aq.mk acc) hv.1 (by simpa using hz)
   rw [hix]
   have htk:q8 acc (gV y.fText).1.fLabel=(GN (gV y.fText).1.fLabel||decide ((if (gV y.fText).1.fLabel=[] then -1 else ixP acc (gV y.fText).1.fLabel)>=0)):=by
    unfold q8
    by_cases hz:(gV y.fText).1.fLabel=[]
    ·rw [hz];rfl
    ·have:((gV y.fText).1.fLabel==[])=false:=by simpa using hz
     rw [this,if_neg hz];rfl
   simp only [Option.bind_some,aa.eta]
   cases hr:GN (gV y.fText).1.fLabel with
   | true=>
    rw [hr] at htk
    rw [if_pos (show q8 acc (gV y.fText).1.fLabel=true by rw [htk];rfl)]
    rfl
   | false=>
    rw [hr,Bool.false_or] at htk
    rw [if_neg (show ¬ (false=true) by decide),htk]
    by_cases hx:(decide ((if (gV y.fText).1.fLabel=[] then -1 else ixP acc (gV y.fText).1.fLabel)>=0))=true
    ·rw [if_pos hx,if_pos hx]
    ·rw [if_neg hx,if_neg hx]
     by_cases h80:acc.length=80
     ·rw [if_pos (show (len acc==80)=true by simp [aj,h80]),if_neg (show ¬ acc.length<80 by omega)]
     ·have hlt80:acc.length<80:=by have:=hv.1;omega
      rw [if_neg (show ¬ (len acc==80)=true by simp [aj];omega),if_pos hlt80,av (by simp;omega)]
      simp only [Option.bind_some,hw]
      refine ih _ (Hj hv hlt80 hc ?_)
      rw [htk];simpa using hx
  ·rw [if_pos (show ((gV y.fText).2 !=0)=true by simpa using hc),if_pos hc]
theorem C6 {s:List UInt8} (h:s.length<=1000000):mv s=some (D3 s):=by
 rw [uc,uL h]
 simp only [Option.bind_some]
 unfold D3
 by_cases hk:(LL s).2.2=0
 ·rw [if_neg (by simpa using hk),if_neg (by simpa using hk)]
  obtain ⟨h1,h2⟩:=G4 s
  exact Lv h1 h2 [] [] ⟨by simp,fun y hy=>(by cases hy),rfl⟩
 ·rw [if_pos (by simpa using hk),if_pos hk]
end Go.Dv.U

namespace Go.Dv.U
open Go Go.Dv Go.Proofs
def Lw (x3:List aD) (y199:List UInt8):Option (List aD):=
 (cut y199 1 (len y199)).bind fun y198=>(idx y199 0).bind fun y197=>
  if ib y197=124 then (x3[x3.length-1]?).bind fun s=>(app s.fSource [y198]).bind fun l=>some (x3.set (x3.length-1) (aD.mk s.fName l s.fInput s.fOutput))
  else if ib y197=60 then (x3[x3.length-1]?).bind fun s=>(app s.fInput [y198]).bind fun l=>some (x3.set (x3.length-1) (aD.mk s.fName s.fSource l s.fOutput))
  else if ib y197=62 then (x3[x3.length-1]?).bind fun s=>(app s.fOutput [y198]).bind fun l=>some (x3.set (x3.length-1) (aD.mk s.fName s.fSource s.fInput l))
  else app x3 [aD.mk y199 [] [] []]
def zw : List (List UInt8)->List aD->Option (List aD)
 | [],a=>some a
 | x:: r,a=>(Lw a x).bind (zw r)
theorem IQ {a b:List aD} {x:List UInt8} (h:Lw a x=some b):b.length<=a.length+1:=by
 unfold Lw at h
 cases h1:cut x 1 (len x) with
 | none=>simp [h1] at h
 | some y=>
  cases h2:idx x 0 with
  | none=>simp [h1,h2] at h
  | some z=>
   simp only [h1,h2,Option.bind_some] at h
   have key:∀ {f:aD->Option (List (List UInt8))} {g:aD->List (List UInt8)->aD},((a[a.length-1]?).bind fun s=>(f s).bind fun l=>some (a.set (a.length-1) (g s l)))=some b->b.length<=a.length+1:=by
    intro f g h
    cases h3:a[a.length-1]? with
    | none=>simp [h3] at h
    | some s=>
     simp only [h3,Option.bind_some] at h
     cases h4:f s with
     | none=>simp [h4] at h
     | some l=>simp only [h4,Option.bind_some,Option.some.injEq] at h;rw [<-h];simp
   split at h
   ·exact key h
   ·split at h
    ·exact key h
    ·split at h
     ·exact key h
     ·unfold app at h
      split at h
      ·cases h;simp
      ·cases h
theorem tK {xs:List (List UInt8)} (hx:xs.length<=4294967296) {ys:List aD} (h:zw xs []=some ys):dv xs (len xs) 0 []=some ((ys,()),()):=by
  have key := bz (xs:=xs) (by omega) (P:=fun i l=>∀ a:List aD,a.length<=i->zw l a=some ys->dv xs (len xs) (i:Int) a=some ((ys,()),())) (by
    intro a _ h
    rw [l8]
    simp only [aj,Int.lt_irrefl,decide_false,Bool.false_eq_true,if_false]
    simp only [zw,Option.some.injEq] at h
    rw [h]) (by
    intro i y l _ hlt hy hi hw ih a ha h
    rw [l8]
    have hc:decide ((i:Int)<len xs)=true:=by simp [aj,hlt]
    rw [if_pos hc,hi]
    simp only [Option.bind_some,Option.getD_none]
    simp only [zw] at h
    cases h5:Lw a y with
    | none=>simp [h5] at h
    | some b=>
      rw [h5] at h
      have hb:=IQ h5
      have h:=ih b (by omega) h
      unfold Lw at h5
      cases h1:cut y 1 (len y) with
      | none=>simp [h1] at h5
      | some y1 =>
        cases h2:idx y 0 with
        | none=>simp [h1,h2] at h5
        | some z=>
          simp only [h1,h2,Option.bind_some] at h5 ⊢
          simp only [rU,hw,beq_iff_eq]
          have ew:a=[]\/w64 (len a-1)=((a.length-1:Nat):Int):=by
            cases a with
            | nil=>exact .inl rfl
            | cons p q=>right;rw [aW]<;>simp only [aj,List.length_cons] at *<;>omega
          rcases ew with ew | ew
          · subst ew
            split at h5
            · simp at h5
            · split at h5
              · simp at h5
              · split at h5
                · simp at h5
                · rw [if_neg (by assumption),if_neg (by assumption),if_neg (by assumption),h5]
                  simpa using h
          · simp only [ew,ce,Int.toNat_natCast,zh]
            have fin:∀ {f:aD->List (List UInt8)} {g:aD->List (List UInt8)->aD},((a[a.length-1]?).bind fun s=>(app (f s) [y1]).bind fun l=>some (a.set (a.length-1) (g s l)))=some b ->
                ((a[a.length-1]?).bind fun _=>(a[a.length-1]?).bind fun _=>(a[a.length-1]?).bind fun y193=>(app (f y193) [y1]).bind fun y192=>(a[a.length-1]?).bind fun _=>(a[a.length-1]?).bind fun y190=>(if True then some () else none).bind fun _=>dv xs (len xs) ((i+1:Nat):Int) (a.set (a.length-1) (g y190 y192)))=some ((ys,()),()):=by
              intro f g h5
              cases h3:a[a.length-1]? with
              | none=>simp [h3] at h5
              | some s=>
                simp only [h3,Option.bind_some] at h5 ⊢
                cases h4:app (f s) [y1] with
                | none=>simp [h4] at h5
                | some l=>
                  simp only [h4,Option.bind_some,Option.some.injEq,if_true] at h5 ⊢
                  rw [h5]
                  exact h
            split at h5
            · rw [if_pos (by assumption)];exact fin (f:=fun s=>s.fSource) (g:=fun s l=>aD.mk s.fName l s.fInput s.fOutput) h5
            · rw [if_neg (by assumption)]
              split at h5
              · rw [if_pos (by assumption)];exact fin (f:=fun s=>s.fInput) (g:=fun s l=>aD.mk s.fName s.fSource l s.fOutput) h5
              · rw [if_neg (by assumption)]
                split at h5
                · rw [if_pos (by assumption)];exact fin (f:=fun s=>s.fOutput) (g:=fun s l=>aD.mk s.fName s.fSource s.fInput l) h5
                · rw [if_neg (by assumption),h5]
                  simpa using h) [] (by simp) h
  exact key
end Go.Dv.U

namespace Go.Dv.U
open Go Go.Dv Go.Proofs
theorem yN : ∀ (k u:Nat),u<10 ^ (k+1)->u<9223372036854775808->k<=100->iX u=some (Lib.decDigits u):=by
 intro k
 induction k with
 | zero=>
  intro u h h2 _
  have hu:u<10:=by simpa using h
  rw [mE,if_pos (by simp only [decide_eq_true_eq];omega)]
  simp only [List.map_cons,List.map_nil,kK (r:=(u:Int)) (by omega) (by omega),Int.toNat_natCast,Lib.decDigits_one hu]
 | succ k ih=>
  intro u h h2 hk
  by_cases hu:u<10
  ·rw [mE,if_pos (by simp only [decide_eq_true_eq];omega)]
   simp only [List.map_cons,List.map_nil,kK (r:=(u:Int)) (by omega) (by omega),Int.toNat_natCast,Lib.decDigits_one hu]
  ·have hq:u / 10<10 ^ (k+1):=by rw [Nat.div_lt_iff_lt_mul (by decide)];rw [Nat.pow_succ] at h;exact h
   have hl:(Lib.decDigits (u / 10)).length<=k+1:=by rw [Lib.decDigits_length];exact nt k _ hq
   rw [mE,if_neg (by simp only [decide_eq_true_eq];omega),GI,GJ h2]
   simp only [Option.bind_some]
   rw [ih (u / 10) hq (by omega) (by omega)]
   simp only [Option.bind_some,List.map_cons,List.map_nil,kK (r:=((u % 10:Nat):Int)) (by omega) (by omega),Int.toNat_natCast]
   rw [av (by simp;omega)]
   have hd:Lib.decDigits u=Lib.decDigits (u / 10)++[UInt8.ofNat (48+u % 10)]:=by
    rw [Lib.decDigits,dif_neg hu]
   rw [hd]
   rfl
end Go.Dv.U

namespace Go.Dv.U
open Go Go.Dv Go.Proofs
def jG (x:ak):aD:=⟨x.fName,x.fLines,x.fInput,x.fOutput⟩
def zx (x:ak):Bool:=Nat.ble x.fLines.length 100000&&Nat.ble x.fInput.length 100000&&Nat.ble x.fOutput.length 100000&&Nat.ble (x.fLines.flatMap (fun l=>l++[10])).length 100000&&Nat.ble x.fName.length 1000
theorem Kx : ∃ L s,tc=some L/\lR=(fC s).bind (fun r200=>dv r200 (len r200) 0 ([]))/\(s==[])=false/\(Nat.blt s.length 4294967281=true)/\zw (spl 10 (lk s)) []=some (L.map jG)/\Nat.ble (spl 10 (lk s)).length 100000=true/\Nat.ble L.length 100000=true/\L.all zx=true:=
 ⟨_,_,Bu,xc,rfl,by kernel_rfl,by kernel_rfl,by kernel_rfl,by kernel_rfl,by kernel_rfl⟩
theorem Lx : ∃ L,tc=some L/\lR=some ((L.map jG,()),())/\L.length<=100000/\∀ x∈L,zx x=true:=by
 obtain ⟨L,s,h1,h2,h3,h4,h5,h6,h7,h8⟩:=Kx
 refine ⟨L,h1,?_,Nat.le_of_ble_eq_true h7,List.all_eq_true.1 h8⟩
 have h6:=Nat.le_of_ble_eq_true h6
 rw [h2,pW (Nat.blt_eq▸h4),h3]
 simp only [Bool.false_eq_true,if_false,Option.bind_some]
 exact tK (by omega) h5
theorem uO : ∀ xs:List (List UInt8),((xs.flatMap (fun l=>l++[10])).map ib)=xs.flatMap (fun l=>(l++[10]).map ib)
 | []=>rfl
 | x:: r=>by simp only [List.flatMap_cons,List.map_append,uO r]
theorem yO {xs:List (List UInt8)} (h:xs.length<=100000) (h2:(xs.flatMap (fun l=>l++[10])).length<=68719476736):rH xs=some (xs.flatMap (fun l=>l++[10])):=by
 rw [yk]
 have:=qj (xs:=xs) (by omega) (f:=fun l=>l++[10]) (J:=fun i a=>dT xs a i) (B:=68719476736) (by
  intro i y a hlt hy hi hw hb
  show dT xs a i=dT xs _ _
  rw [nj]
  have hc:decide ((i:Int)<len xs)=true:=by simp [aj,hlt]
  rw [if_pos hc,hi]
  simp only [Option.bind_some]
  rw [av (by simp only [List.length_append] at hb;omega)]
  simp only [Option.bind_some]
  rw [av hb,hw]
  rfl) h2
 rw [show dT xs [] 0=_ from this,nj]
 simp [aj]
theorem oH {xs:List (List UInt8)} (h:xs.length<=100000) (h2:(xs.flatMap (fun l=>l++[10])).length<=68719476736):kv xs=some (xs.flatMap (fun l=>l++[10])):=by
 rw [vC]
 have e0:jK xs (len xs) 0 []=bL xs (len xs) 0 []:=by rw [rV,fg]
 have:=qj (xs:=xs) (by omega) (f:=fun l=>(l++[10]).map ib) (J:=fun i a=>bL xs (len xs) i a) (B:=68719476736) (by
  intro i y a hlt hy hi hw hb
  show bL xs (len xs) i a=bL xs _ _ _
  rw [fg]
  have hc:decide ((i:Int)<len xs)=true:=by simp [aj,hlt]
  rw [if_pos hc,hi]
  simp only [Option.bind_some]
  rw [av (by simp only [List.length_map,List.length_append] at hb ⊢;omega)]
  simp only [Option.bind_some]
  rw [show (fun b:UInt8=>ib b)=ib from rfl,av hb,hw]
  rfl) (by rw [<-uO,List.length_map];exact h2)
 rw [e0,show bL xs (len xs) 0 []=_ from this,fg,<-uO]
 simp [aj,zk]
end Go.Dv.U

namespace Go.Dv.U
open Go Go.Dv Go.Proofs
theorem Jk : ∀ (ls:List aO) (acc:List ab),acc.length<=80->(pLn ls acc).1.fStatements.length<=80
 | [],acc,h=>by
  simp only [pLn]
  split
  ·simp
  ·exact h
 | y:: r,acc,h=>by
  simp only [pLn]
  split
  ·simp
  split
  ·simp
  split
  ·exact Jk r _ (by simp;omega)
  ·simp
theorem C7 (s:List UInt8):(D3 s).1.fStatements.length<=80:=by
 unfold D3
 split
 ·simp
 ·exact Jk _ _ (by simp)
def B5 (x:ak):List UInt8:=x.fLines.flatMap fun l=>l++[10]
def lnX (x:ak) (i:Nat):List UInt8:=Lib.decDigits (i+1)++[32]++x.fName++[32]++Lib.decDigits (D3 (B5 x)).1.fStatements.length
def C8 : List ak->Nat->List (List UInt8)
 | [],_=>[]
 | x:: r,i=>lnX x i:: C8 r (i+1)
theorem Hk {x:ak} (hx:x.fName.length<=1000) {i:Nat} (hi:i<=100000):(lnX x i).length<=1100:=by
 have h1:=uE (u:=i+1) (by omega)
 have h2:=uE (u:=(D3 (B5 x)).1.fStatements.length) (by have:=C7 (B5 x);omega)
 unfold lnX
 simp only [List.length_append,List.length_singleton]
 omega
theorem Ee : ∀ (l:List ak) (i:Nat),(∀ x∈l,x.fName.length<=1000)->i+l.length<=100000->(C8 l i).length=l.length/\∀ y∈C8 l i,y.length<=1100
 | [],_,_,_=>⟨rfl,fun y hy=>by cases hy⟩
 | x:: r,i,h,hl=>by
  simp only [List.length_cons] at hl
  obtain ⟨h1,h2⟩:=Ee r (i+1) (fun z hz=>h z (by simp [hz])) (by omega)
  refine ⟨by simp only [C8,List.length_cons,h1],fun y hy=>?_⟩
  simp only [C8,List.mem_cons] at hy
  rcases hy with rfl | hy
  ·exact Hk (h x (by simp)) (by omega)
  ·exact h2 y hy
theorem Hl {x:ak} (h:zx x=true):x.fLines.length<=100000/\(B5 x).length<=100000/\x.fName.length<=1000:=by
 unfold zx at h
 simp only [Bool.and_eq_true] at h
 exact ⟨Nat.le_of_ble_eq_true h.1.1.1.1,Nat.le_of_ble_eq_true h.1.2,Nat.le_of_ble_eq_true h.2⟩
theorem Oc {u:Nat} (h:u<=1000000000000):iX (u:Int)=some (Lib.decDigits u):=yN 18 u (by omega) (by omega) (by decide)
theorem Od {u:Nat} (h:u<=1000000000000):mY (u:Int)=some (Lib.decDigits u):=by rw [vd (by omega) (by omega),Aq]
theorem Hm {L:List ak} (hL:L.length<=100000) (hs:∀ x∈L,zx x=true):d6 [] L 0=some ((C8 L 0).flatMap fun l=>l++[10]):=by
 have key:=bz (xs:=L) (by omega) (P:=fun i l=>∀ acc:List UInt8,acc.length<=1101*i->d6 acc L (i:Int)=some (acc++(C8 l i).flatMap fun l=>l++[10])) (by
  intro acc _
  rw [jZ,if_neg (by simp [aj])]
  simp [C8]) (by
  intro i y l _ hlt hy hi hw ih acc ha
  obtain ⟨g1,g2,g3⟩:=Hl (hs y hy)
  have hd1:=uE (u:=i+1) (by omega)
  have h80:=C7 (B5 y)
  have hd2:=uE (u:=(D3 (B5 y)).1.fStatements.length) (by omega)
  have hd1':=Oc (u:=i+1) (by omega)
  have hd2':=Oc (u:=(D3 (B5 y)).1.fStatements.length) (by omega)
  have hll:=Hk (x:=y) g3 (i:=i) (by omega)
  rw [jZ,if_pos (by simp [aj];omega),hi]
  simp only [Option.bind_some]
  rw [yO g1 (by have:=g2;unfold B5 at this;omega)]
  simp only [Option.bind_some]
  rw [show (List.flatMap (fun l=>l++[10]) y.fLines)=B5 y from rfl,C6 (by omega)]
  simp only [Option.bind_some,hw,hd1',aj,hd2']
  rw [av (by simp;omega)]
  simp only [Option.bind_some]
  rw [av (by simp;omega)]
  simp only [Option.bind_some]
  rw [av (by simp;omega)]
  simp only [Option.bind_some]
  rw [av (by simp;omega)]
  simp only [Option.bind_some]
  rw [av (by simp;omega)]
  simp only [Option.bind_some]
  rw [av (by simp;omega)]
  simp only [Option.bind_some]
  have e:Lib.decDigits (i+1)++[32]++y.fName++[32]++Lib.decDigits (D3 (B5 y)).1.fStatements.length=lnX y i:=rfl
  rw [e,ih _ (by simp only [List.length_append,List.length_singleton];omega)]
  simp only [C8,List.flatMap_cons,List.append_assoc]) [] (by simp)
 rw [List.nil_append] at key
 exact key
theorem Hn {xs:List (List UInt8)} (h:∀ y∈xs,y.length<=1100):(xs.flatMap fun l=>l++[10]).length<=xs.length*1101:=by
 induction xs with
 | nil=>simp
 | cons y r ih=>
  have h1:=h y (by simp)
  have h2:=ih fun z hz=>h z (by simp [hz])
  simp only [List.flatMap_cons,List.length_append,List.length_cons,List.length_nil]
  omega
theorem Ho {L:List ak} (hL:L.length<=100000) (hs:∀ x∈L,zx x=true):cX (len (L.map jG)) 0 [] (L.map jG)=some ((C8 L 0).flatMap fun l=>l++[10]):=by
 have key:=bz (xs:=L) (by omega) (P:=fun i l=>∀ acc:List (List UInt8),acc.length=i->acc++C8 l i=C8 L 0->cX (len (L.map jG)) (i:Int) acc (L.map jG)=some ((C8 L 0).flatMap fun l=>l++[10])) (by
  intro acc _ hacc
  simp only [C8,List.append_nil] at hacc
  rw [ij,if_neg (by simp [aj]),hacc]
  obtain ⟨h1,h2⟩:=Ee L 0 (fun x hx=>(Hl (hs x hx)).2.2) (by omega)
  have h3:=Hn h2
  rw [oH (by omega) (by omega)]
  rfl) (by
  intro i y l _ hlt hy hi hw ih acc ha hacc
  obtain ⟨g1,g2,g3⟩:=Hl (hs y hy)
  have hd1:=uE (u:=i+1) (by omega)
  have h80:=C7 (B5 y)
  have hd2:=uE (u:=(D3 (B5 y)).1.fStatements.length) (by omega)
  have hd1':=Od (u:=i+1) (by omega)
  have hd2':=Od (u:=(D3 (B5 y)).1.fStatements.length) (by omega)
  have hi2:L[i]?=some y:=by rw [<-ce];exact hi
  have hm:(L.map jG)[i]?=some (jG y):=by rw [List.getElem?_map,hi2];rfl
  have hu:upd (L.map jG) i (jG y)=L.map jG:=by
   rw [zh]
   have hlt2:i<(L.map jG).length:=by simpa using hlt
   have:(L.map jG)[i]=jG y:=by rw [List.getElem?_eq_getElem hlt2] at hm;exact Option.some.inj hm
   rw [<-this];exact List.set_getElem_self hlt2
  rw [ij,if_pos (by simp [aj];omega),ce,Int.toNat_natCast,hm]
  simp only [Option.bind_some]
  have hsrc:(jG y).fSource=y.fLines:=rfl
  rw [hsrc,oH g1 (by have:=g2;unfold B5 at this;omega)]
  simp only [Option.bind_some]
  rw [show (List.flatMap (fun l=>l++[10]) y.fLines)=B5 y from rfl,xS (by omega)]
  simp only [Option.bind_some,hw,hd1',aj,hd2']
  have hnm:(jG y).fName=y.fName:=rfl
  rw [hnm,av (by simp;omega)]
  simp only [Option.bind_some]
  rw [av (by simp;omega)]
  simp only [Option.bind_some]
  rw [av (by simp;omega)]
  simp only [Option.bind_some]
  rw [av (by simp;omega)]
  simp only [Option.bind_some]
  rw [av (by simp;omega)]
  simp only [Option.bind_some]
  have e:Lib.decDigits (i+1)++[32]++y.fName++[32]++Lib.decDigits (D3 (B5 y)).1.fStatements.length=lnX y i:=rfl
  have hu1:upd (L.map jG) i (aD.mk y.fName y.fLines (jG y).fInput (jG y).fOutput)=L.map jG:=hu
  rw [hu1,hm]
  simp only [Option.bind_some]
  have hu2:upd (L.map jG) i (aD.mk (jG y).fName (jG y).fSource (jG y).fInput (jG y).fOutput)=L.map jG:=hu
  rw [hu2,hm]
  simp only [Option.bind_some]
  rw [hu2,e]
  simp only [aj] at ih
  exact ih (acc++[lnX y i]) (by simp [ha]) (by rw [<-hacc];simp [C8])) [] rfl (by simp)
 exact key
theorem nw : fB=some true:=by
 obtain ⟨L,h1,h2,h3,h4⟩:=Lx
 rw [ng,t6,t7,h1,h2]
 simp only [Option.bind_some]
 rw [Hm h3 h4,Ho h3 h4]
 simp
end Go.Dv.U
