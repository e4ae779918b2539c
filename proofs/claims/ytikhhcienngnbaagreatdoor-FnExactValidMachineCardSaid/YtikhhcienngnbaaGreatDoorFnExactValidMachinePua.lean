/- Plain laws about these equations. -/
import Derived.Test.YtikhhcienngnbaaGreatDoorFnExactValidMachineEqb
set_option linter.all false
set_option linter.unusedVariables false
set_option linter.unusedSimpArgs false
namespace Go.Dv.U
open Go Go.Dv Go.Proofs
theorem ai.ind {P:ai->Prop} (h:∀ x,(∀ y∈x.fKids,P y)->P x):∀ x,P x:=by
 intro x
 exact ai.rec (motive_1:=P) (motive_2:=fun l=>∀ y∈l,P y) (fun a0 a1 a2 a3 ih=>h ⟨a0,a1,a2,a3⟩ ih) (fun y hy=>by cases hy)
  (fun a l ha hl y hy=>by
   cases hy with
   | head=>exact ha
   | tail _ hy=>exact hl y hy) x
inductive ai.Ok : ai->Prop
 | mk (x:ai) (h0:(-9223372036854775808<=x.fKind/\x.fKind<=9223372036854775807)/\(-9223372036854775808<=x.fNum/\x.fNum<=9223372036854775807)/\x.fText.length<=9223372036854775807/\x.fKids.length<=9223372036854775807) (h1:∀ y∈x.fKids,ai.Ok y):ai.Ok x
theorem ai.Ok.P_fText {x:ai} (h:x.Ok):x.fText.length<=9223372036854775807:=by cases h with | mk _ h0 h1=>exact h0.2.2.1
theorem ai.Ok.P_fKids_len {x:ai} (h:x.Ok):x.fKids.length<=9223372036854775807:=by cases h with | mk _ h0 h1=>exact h0.2.2.2
theorem ai.Ok.P_fKids {x:ai} (h:x.Ok):∀ y∈x.fKids,y.Ok:=by cases h with | mk _ h0 h1=>exact h1
theorem ai.ok_cells : ∀ x:ai,(∀ c∈GG.cells 96 x,∀ k,WfV GG k c)->x.Ok:=by
 intro x
 induction x using ai.ind with
 | h x ih=>
  intro h
  have h:∀ c∈([.int .i64 x.fKind,.int .i64 x.fNum,.str x.fText,.sl (.st 96) x.fKids]:List (V GG.S)),∀ k,WfV GG k c:=h
  exact .mk x ⟨cD (h (.int .i64 x.fKind) (by simp) 1),cD (h (.int .i64 x.fNum) (by simp) 1),dW (h (.str x.fText) (by simp) 1),(cm (h (.sl (.st 96) x.fKids) (by simp))).1⟩ fun y hy=>ih y hy ((cm (h (.sl (.st 96) x.fKids) (by simp))).2 y hy)
theorem ai.ok_of {x:ai} (h:∀ k,WfV GG k (inj GG (.st 96) x)):x.Ok:=ai.ok_cells x (iQ h)
mutual
def ai.m : ai->Nat
 | ⟨_,_,a2,a3⟩=>a2.length+(a3.length+ai.ms a3)
def ai.ms : List ai->Nat
 | []=>0
 | y:: r=>ai.m y+ai.ms r
end
theorem ai.ms_eq : ∀ l,ai.ms l=aR ai.m l
 | []=>rfl
 | y:: r=>by simp only [ai.ms,aR,ai.ms_eq r]
theorem ai.m_eq (x:ai):x.m=x.fText.length+(x.fKids.length+aR ai.m x.fKids):=by
 rw [<-ai.ms_eq];cases x;rfl
theorem ai.m_kid {x y:ai} (h:y∈x.fKids):y.m+x.fKids.length<=x.m:=by
 have:=bh (m:=ai.m) h
 rw [ai.m_eq x];omega
theorem K1 {xs:(List ai)} (hx:xs.length<=9223372036854775807)
  (hF:∀ y∈xs,∀ b:Int,0<=b->b<4611686018427387904->nc y b=some (aU b (ai.m y))) {b:Int} (h0:0<=b) (h1:b<4611686018427387904):
  A0 xs b=some (aU b (xs.length+aR ai.m xs)):=by
 rw [GQ]
 obtain ⟨e1,e2⟩:=bZ (l:=xs) h0 h1 hx
 by_cases c:aU b xs.length<0
 ·simp only [e1.2 c,decide_true,if_true,eh c]
 ·rw [if_neg (by simpa using fun h=>c (e1.1 h)),e2 c,o9 hx (J:=nk) (F:=nc) (m:=ai.m) (fun b i=>by rw [Bw];try simp only [ai.re_eq,aK.re_eq,aa.re_eq,aj.re_eq,ap.re_eq,am.re_eq,aJ.re_eq,ak.re_eq,ah.re_eq,ac.re_eq,aB.re_eq,aE.re_eq,au.re_eq,ay.re_eq,ae.re_eq,aq.re_eq]) hF _ (aO c) (bz (by omega) h1),aP c]
theorem K2 {xs:(List ai)} (hx:xs.length<=68719476736) (hF:∀ y∈xs,nf y=some y):A1 xs=some xs:=by
 rw [GR,pZ _ _ hx]
 simp only [Option.bind_some]
 exact pa (by omega) (J:=nq) (F:=nf) (fun i zs=>by rw [Bx];try simp only [ai.re_eq,aK.re_eq,aa.re_eq,aj.re_eq,ap.re_eq,am.re_eq,aJ.re_eq,ak.re_eq,ah.re_eq,ac.re_eq,aB.re_eq,aE.re_eq,au.re_eq,ay.re_eq,ae.re_eq,aq.re_eq]) hF _ (by simp)
theorem K3 {xs:(List ai)} (hx:xs.length<=9223372036854775807) (hF:∀ y∈xs,nh y y=some true):A3 xs xs=some true:=by
 rw [GZ]
 simp only [bne_self_eq_false,Bool.false_eq_true,if_false]
 exact pb (by omega) (J:=nt) (F:=nh) (fun i=>by rw [BF];try simp only [ai.re_eq,aK.re_eq,aa.re_eq,aj.re_eq,ap.re_eq,am.re_eq,aJ.re_eq,ak.re_eq,ah.re_eq,ac.re_eq,aB.re_eq,aE.re_eq,au.re_eq,ay.re_eq,ae.re_eq,aq.re_eq]) hF
theorem BY : ∀ x:ai,x.Ok->∀ b:Int,0<=b->b<4611686018427387904->nc x b=some (aU b x.m):=by
 intro x
 induction x using ai.ind with
 | h x ih=>
  intro hok b h0 h1
  rw [IE]
  try simp only [ai.re_eq,aK.re_eq,aa.re_eq,aj.re_eq,ap.re_eq,am.re_eq,aJ.re_eq,ak.re_eq,ah.re_eq,ac.re_eq,aB.re_eq,aE.re_eq,au.re_eq,ay.re_eq,ae.re_eq,aq.re_eq]
  -- fText
  obtain ⟨e1,e2⟩:=bZ (b:=b) (l:=x.fText) h0 h1 hok.P_fText
  by_cases c0:aU b (x.fText.length)<0
  ·simp only [e1.2 c0,decide_true,if_true]
   rw [aM c0 (by rw [ai.m_eq];omega)]
  have e3:=mt e1.1 c0
  simp only [e3,e2 c0,c0,decide_false,Bool.false_eq_true,if_false]
  -- fKids
  rw [K1 hok.P_fKids_len (fun y hy b h0 h1=>ih y hy (hok.P_fKids y hy) b h0 h1) (aO c0) (bz (by omega) h1)]
  simp only [Option.bind_some]
  simp only [aP c0]
  by_cases c1:aU b (x.fText.length+(x.fKids.length+aR ai.m x.fKids))<0
  ·simp only [c1,decide_true,if_true]
   rw [aM c1 (by rw [ai.m_eq];omega)]
  simp only [c1,decide_false,Bool.false_eq_true,if_false]
  try rw [ai.m_eq]
theorem BZ : ∀ x:ai,x.m<=1048576->nf x=some x:=by
 intro x
 induction x using ai.ind with
 | h x ih=>
  intro hm
  have hq:=x.m_eq
  rw [IG]
  try simp only [ai.re_eq,aK.re_eq,aa.re_eq,aj.re_eq,ap.re_eq,am.re_eq,aJ.re_eq,ak.re_eq,ah.re_eq,ac.re_eq,aB.re_eq,aE.re_eq,au.re_eq,ay.re_eq,ae.re_eq,aq.re_eq]
  rw [K2 (xs:=x.fKids) (by omega) fun y hy=>ih y hy (by have:=ai.m_kid hy;omega)]
  simp only [Option.bind_some]
  try simp only [ai.eta,ai.re_eq,aK.re_eq,aa.re_eq,aj.re_eq,ap.re_eq,am.re_eq,aJ.re_eq,ak.re_eq,ah.re_eq,ac.re_eq,aB.re_eq,aE.re_eq,au.re_eq,ay.re_eq,ae.re_eq,aq.re_eq]
theorem B0 : ∀ x:ai,x.m<=1048576->nh x x=some true:=by
 intro x
 induction x using ai.ind with
 | h x ih=>
  intro hm
  have hq:=x.m_eq
  rw [II]
  try simp only [ai.re_eq,aK.re_eq,aa.re_eq,aj.re_eq,ap.re_eq,am.re_eq,aJ.re_eq,ak.re_eq,ah.re_eq,ac.re_eq,aB.re_eq,aE.re_eq,au.re_eq,ay.re_eq,ae.re_eq,aq.re_eq]
  rw [K3 (xs:=x.fKids) (by omega) fun y hy=>ih y hy (by have:=ai.m_kid hy;omega)]
  simp
structure aK.Ok (x:aK):Prop where
 P_fAlways:x.fAlways.length<=9223372036854775807
 P_fSuccess:x.fSuccess.length<=9223372036854775807
 P_fFailure:x.fFailure.length<=9223372036854775807
theorem aK.ok_cells (x:aK) (h:∀ c∈GG.cells 98 x,∀ k,WfV GG k c):x.Ok:=by
 have h:∀ c∈([.str x.fAlways,.str x.fSuccess,.str x.fFailure]:List (V GG.S)),∀ k,WfV GG k c:=h
 exact ⟨dW (h (.str x.fAlways) (by simp) 1),dW (h (.str x.fSuccess) (by simp) 1),dW (h (.str x.fFailure) (by simp) 1)⟩
theorem aK.ok_of {x:aK} (h:∀ k,WfV GG k (inj GG (.st 98) x)):x.Ok:=aK.ok_cells x (iQ h)
def aK.m (x:aK):Nat:=x.fAlways.length+x.fSuccess.length+x.fFailure.length
theorem aK.m_eq (x:aK):x.m=x.fAlways.length+x.fSuccess.length+x.fFailure.length:=rfl
theorem Ng : ∀ x:aK,x.Ok->∀ b:Int,0<=b->b<4611686018427387904->ED x b=some (aU b x.m):=by
 intro x
 intro hok b h0 h1
 rw [IF]
 try simp only [ai.re_eq,aK.re_eq,aa.re_eq,aj.re_eq,ap.re_eq,am.re_eq,aJ.re_eq,ak.re_eq,ah.re_eq,ac.re_eq,aB.re_eq,aE.re_eq,au.re_eq,ay.re_eq,ae.re_eq,aq.re_eq]
 -- fAlways
 obtain ⟨e1,e2⟩:=bZ (b:=b) (l:=x.fAlways) h0 h1 hok.P_fAlways
 by_cases c0:aU b (x.fAlways.length)<0
 ·simp only [e1.2 c0,decide_true,if_true]
  rw [aM c0 (by rw [aK.m_eq];omega)]
 have e3:=mt e1.1 c0
 simp only [e3,e2 c0,c0,decide_false,Bool.false_eq_true,if_false]
 -- fSuccess
 obtain ⟨e1,e2⟩:=bZ (b:=(aU b (x.fAlways.length))) (l:=x.fSuccess) (aO c0) (bz (by omega) h1) hok.P_fSuccess
 rw [aP c0] at e1 e2
 by_cases c1:aU b (x.fAlways.length+x.fSuccess.length)<0
 ·simp only [e1.2 c1,decide_true,if_true]
  rw [aM c1 (by rw [aK.m_eq];omega)]
 have e3:=mt e1.1 c1
 simp only [e3,e2 c1,c1,decide_false,Bool.false_eq_true,if_false]
 -- fFailure
 obtain ⟨e1,e2⟩:=bZ (b:=(aU b (x.fAlways.length+x.fSuccess.length))) (l:=x.fFailure) (aO c1) (bz (by omega) h1) hok.P_fFailure
 rw [aP c1] at e1 e2
 by_cases c2:aU b (x.fAlways.length+x.fSuccess.length+x.fFailure.length)<0
 ·simp only [e1.2 c2,decide_true,if_true]
  rw [aM c2 (by rw [aK.m_eq];omega)]
 have e3:=mt e1.1 c2
 simp only [e3,e2 c2,c2,decide_false,Bool.false_eq_true,if_false]
 try rw [aK.m_eq]
theorem Nh : ∀ x:aK,x.m<=1048576->EE x=some x:=by
 intro x
 intro hm
 have hq:=x.m_eq
 rw [IH]
 try simp only [ai.re_eq,aK.re_eq,aa.re_eq,aj.re_eq,ap.re_eq,am.re_eq,aJ.re_eq,ak.re_eq,ah.re_eq,ac.re_eq,aB.re_eq,aE.re_eq,au.re_eq,ay.re_eq,ae.re_eq,aq.re_eq]
 try simp only [aK.eta,ai.re_eq,aK.re_eq,aa.re_eq,aj.re_eq,ap.re_eq,am.re_eq,aJ.re_eq,ak.re_eq,ah.re_eq,ac.re_eq,aB.re_eq,aE.re_eq,au.re_eq,ay.re_eq,ae.re_eq,aq.re_eq]
theorem Ni : ∀ x:aK,x.m<=1048576->EF x x=some true:=by
 intro x
 intro hm
 have hq:=x.m_eq
 rw [IJ]
 try simp only [ai.re_eq,aK.re_eq,aa.re_eq,aj.re_eq,ap.re_eq,am.re_eq,aJ.re_eq,ak.re_eq,ah.re_eq,ac.re_eq,aB.re_eq,aE.re_eq,au.re_eq,ay.re_eq,ae.re_eq,aq.re_eq]
 simp
structure aa.Ok (x:aa):Prop where
 P_fLabel:x.fLabel.length<=9223372036854775807
 P_fSubject:ai.Ok x.fSubject
 P_fPattern:ai.Ok x.fPattern
 P_fReplace:ai.Ok x.fReplace
 P_fGoto:aK.Ok x.fGoto
theorem aa.ok_cells (x:aa) (h:∀ c∈GG.cells 100 x,∀ k,WfV GG k c):x.Ok:=by
 have h:∀ c∈([.str x.fLabel,.bool x.fHasSubject,.int .i64 x.fSubject.fKind,.int .i64 x.fSubject.fNum,.str x.fSubject.fText,.sl (.st 96) x.fSubject.fKids,.bool x.fHasPattern,.int .i64 x.fPattern.fKind,.int .i64 x.fPattern.fNum,.str x.fPattern.fText,.sl (.st 96) x.fPattern.fKids,.bool x.fHasReplace,.int .i64 x.fReplace.fKind,.int .i64 x.fReplace.fNum,.str x.fReplace.fText,.sl (.st 96) x.fReplace.fKids,.str x.fGoto.fAlways,.str x.fGoto.fSuccess,.str x.fGoto.fFailure]:List (V GG.S)),∀ k,WfV GG k c:=h
 have h_fSubject:∀ c∈([.int .i64 x.fSubject.fKind,.int .i64 x.fSubject.fNum,.str x.fSubject.fText,.sl (.st 96) x.fSubject.fKids]:List (V GG.S)),∀ k,WfV GG k c:=fun c hc=>h c (by simp only [List.mem_cons,List.not_mem_nil,or_false] at hc ⊢;rcases hc with rfl | rfl | rfl | rfl<;>simp)
 have h_fPattern:∀ c∈([.int .i64 x.fPattern.fKind,.int .i64 x.fPattern.fNum,.str x.fPattern.fText,.sl (.st 96) x.fPattern.fKids]:List (V GG.S)),∀ k,WfV GG k c:=fun c hc=>h c (by simp only [List.mem_cons,List.not_mem_nil,or_false] at hc ⊢;rcases hc with rfl | rfl | rfl | rfl<;>simp)
 have h_fReplace:∀ c∈([.int .i64 x.fReplace.fKind,.int .i64 x.fReplace.fNum,.str x.fReplace.fText,.sl (.st 96) x.fReplace.fKids]:List (V GG.S)),∀ k,WfV GG k c:=fun c hc=>h c (by simp only [List.mem_cons,List.not_mem_nil,or_false] at hc ⊢;rcases hc with rfl | rfl | rfl | rfl<;>simp)
 have h_fGoto:∀ c∈([.str x.fGoto.fAlways,.str x.fGoto.fSuccess,.str x.fGoto.fFailure]:List (V GG.S)),∀ k,WfV GG k c:=fun c hc=>h c (by simp only [List.mem_cons,List.not_mem_nil,or_false] at hc ⊢;rcases hc with rfl | rfl | rfl<;>simp)
 exact ⟨dW (h (.str x.fLabel) (by simp) 1),ai.ok_cells _ h_fSubject,ai.ok_cells _ h_fPattern,ai.ok_cells _ h_fReplace,aK.ok_cells _ h_fGoto⟩
theorem aa.ok_of {x:aa} (h:∀ k,WfV GG k (inj GG (.st 100) x)):x.Ok:=aa.ok_cells x (iQ h)
def aa.m (x:aa):Nat:=x.fLabel.length+ai.m x.fSubject+ai.m x.fPattern+ai.m x.fReplace+aK.m x.fGoto
theorem aa.m_eq (x:aa):x.m=x.fLabel.length+ai.m x.fSubject+ai.m x.fPattern+ai.m x.fReplace+aK.m x.fGoto:=rfl
theorem Dj : ∀ x:aa,x.Ok->∀ b:Int,0<=b->b<4611686018427387904->iS x b=some (aU b x.m):=by
 intro x
 intro hok b h0 h1
 rw [zk]
 try simp only [ai.re_eq,aK.re_eq,aa.re_eq,aj.re_eq,ap.re_eq,am.re_eq,aJ.re_eq,ak.re_eq,ah.re_eq,ac.re_eq,aB.re_eq,aE.re_eq,au.re_eq,ay.re_eq,ae.re_eq,aq.re_eq]
 -- fLabel
 obtain ⟨e1,e2⟩:=bZ (b:=b) (l:=x.fLabel) h0 h1 hok.P_fLabel
 by_cases c0:aU b (x.fLabel.length)<0
 ·simp only [e1.2 c0,decide_true,if_true]
  rw [aM c0 (by rw [aa.m_eq];omega)]
 have e3:=mt e1.1 c0
 simp only [e3,e2 c0,c0,decide_false,Bool.false_eq_true,if_false]
 -- fSubject
 rw [BY x.fSubject hok.P_fSubject (aU b (x.fLabel.length)) (aO c0) (bz (by omega) h1)]
 simp only [Option.bind_some]
 simp only [aP c0]
 by_cases c1:aU b (x.fLabel.length+ai.m x.fSubject)<0
 ·simp only [c1,decide_true,if_true]
  rw [aM c1 (by rw [aa.m_eq];omega)]
 simp only [c1,decide_false,Bool.false_eq_true,if_false]
 -- fPattern
 rw [BY x.fPattern hok.P_fPattern (aU b (x.fLabel.length+ai.m x.fSubject)) (aO c1) (bz (by omega) h1)]
 simp only [Option.bind_some]
 simp only [aP c1]
 by_cases c2:aU b (x.fLabel.length+ai.m x.fSubject+ai.m x.fPattern)<0
 ·simp only [c2,decide_true,if_true]
  rw [aM c2 (by rw [aa.m_eq];omega)]
 simp only [c2,decide_false,Bool.false_eq_true,if_false]
 -- fReplace
 rw [BY x.fReplace hok.P_fReplace (aU b (x.fLabel.length+ai.m x.fSubject+ai.m x.fPattern)) (aO c2) (bz (by omega) h1)]
 simp only [Option.bind_some]
 simp only [aP c2]
 by_cases c3:aU b (x.fLabel.length+ai.m x.fSubject+ai.m x.fPattern+ai.m x.fReplace)<0
 ·simp only [c3,decide_true,if_true]
  rw [aM c3 (by rw [aa.m_eq];omega)]
 simp only [c3,decide_false,Bool.false_eq_true,if_false]
 -- fGoto
 rw [Ng x.fGoto hok.P_fGoto (aU b (x.fLabel.length+ai.m x.fSubject+ai.m x.fPattern+ai.m x.fReplace)) (aO c3) (bz (by omega) h1)]
 simp only [Option.bind_some]
 simp only [aP c3]
 by_cases c4:aU b (x.fLabel.length+ai.m x.fSubject+ai.m x.fPattern+ai.m x.fReplace+aK.m x.fGoto)<0
 ·simp only [c4,decide_true,if_true]
  rw [aM c4 (by rw [aa.m_eq];omega)]
 simp only [c4,decide_false,Bool.false_eq_true,if_false]
 try rw [aa.m_eq]
theorem Dk : ∀ x:aa,x.m<=1048576->iU x=some x:=by
 intro x
 intro hm
 have hq:=x.m_eq
 rw [zn]
 try simp only [ai.re_eq,aK.re_eq,aa.re_eq,aj.re_eq,ap.re_eq,am.re_eq,aJ.re_eq,ak.re_eq,ah.re_eq,ac.re_eq,aB.re_eq,aE.re_eq,au.re_eq,ay.re_eq,ae.re_eq,aq.re_eq]
 rw [BZ x.fSubject (by omega)]
 simp only [Option.bind_some]
 rw [BZ x.fPattern (by omega)]
 simp only [Option.bind_some]
 rw [BZ x.fReplace (by omega)]
 simp only [Option.bind_some]
 rw [Nh x.fGoto (by omega)]
 simp only [Option.bind_some]
 try simp only [aa.eta,ai.re_eq,aK.re_eq,aa.re_eq,aj.re_eq,ap.re_eq,am.re_eq,aJ.re_eq,ak.re_eq,ah.re_eq,ac.re_eq,aB.re_eq,aE.re_eq,au.re_eq,ay.re_eq,ae.re_eq,aq.re_eq]
theorem Dl : ∀ x:aa,x.m<=1048576->iX x x=some true:=by
 intro x
 intro hm
 have hq:=x.m_eq
 rw [zw]
 try simp only [ai.re_eq,aK.re_eq,aa.re_eq,aj.re_eq,ap.re_eq,am.re_eq,aJ.re_eq,ak.re_eq,ah.re_eq,ac.re_eq,aB.re_eq,aE.re_eq,au.re_eq,ay.re_eq,ae.re_eq,aq.re_eq]
 rw [B0 x.fSubject (by omega)]
 rw [B0 x.fPattern (by omega)]
 rw [B0 x.fReplace (by omega)]
 rw [Ni x.fGoto (by omega)]
 simp
structure aj.Ok (x:aj):Prop where
 P_fStatements:(x.fStatements.length<=9223372036854775807/\∀ y∈x.fStatements,aa.Ok y)
theorem aj.ok_cells (x:aj) (h:∀ c∈GG.cells 23 x,∀ k,WfV GG k c):x.Ok:=by
 have h:∀ c∈([.sl (.st 100) x.fStatements]:List (V GG.S)),∀ k,WfV GG k c:=h
 exact ⟨⟨(cm (h (.sl (.st 100) x.fStatements) (by simp))).1,fun y hy=>aa.ok_cells y ((cm (h (.sl (.st 100) x.fStatements) (by simp))).2 y hy)⟩⟩
theorem aj.ok_of {x:aj} (h:∀ k,WfV GG k (inj GG (.st 23) x)):x.Ok:=aj.ok_cells x (iQ h)
theorem B1 {xs:(List aa)} (hx:xs.length<=9223372036854775807)
  (hF:∀ y∈xs,∀ b:Int,0<=b->b<4611686018427387904->iS y b=some (aU b (aa.m y))) {b:Int} (h0:0<=b) (h1:b<4611686018427387904):
  nO xs b=some (aU b (xs.length+aR aa.m xs)):=by
 rw [xj]
 obtain ⟨e1,e2⟩:=bZ (l:=xs) h0 h1 hx
 by_cases c:aU b xs.length<0
 ·simp only [e1.2 c,decide_true,if_true,eh c]
 ·rw [if_neg (by simpa using fun h=>c (e1.1 h)),e2 c,o9 hx (J:=gj) (F:=iS) (m:=aa.m) (fun b i=>by rw [sO];try simp only [ai.re_eq,aK.re_eq,aa.re_eq,aj.re_eq,ap.re_eq,am.re_eq,aJ.re_eq,ak.re_eq,ah.re_eq,ac.re_eq,aB.re_eq,aE.re_eq,au.re_eq,ay.re_eq,ae.re_eq,aq.re_eq]) hF _ (aO c) (bz (by omega) h1),aP c]
theorem B2 {xs:(List aa)} (hx:xs.length<=68719476736) (hF:∀ y∈xs,iU y=some y):nQ xs=some xs:=by
 rw [xl,pZ _ _ hx]
 simp only [Option.bind_some]
 exact pa (by omega) (J:=gl) (F:=iU) (fun i zs=>by rw [sQ];try simp only [ai.re_eq,aK.re_eq,aa.re_eq,aj.re_eq,ap.re_eq,am.re_eq,aJ.re_eq,ak.re_eq,ah.re_eq,ac.re_eq,aB.re_eq,aE.re_eq,au.re_eq,ay.re_eq,ae.re_eq,aq.re_eq]) hF _ (by simp)
theorem B3 {xs:(List aa)} (hx:xs.length<=9223372036854775807) (hF:∀ y∈xs,iX y y=some true):nU xs xs=some true:=by
 rw [xq]
 simp only [bne_self_eq_false,Bool.false_eq_true,if_false]
 exact pb (by omega) (J:=gn) (F:=iX) (fun i=>by rw [sS];try simp only [ai.re_eq,aK.re_eq,aa.re_eq,aj.re_eq,ap.re_eq,am.re_eq,aJ.re_eq,ak.re_eq,ah.re_eq,ac.re_eq,aB.re_eq,aE.re_eq,au.re_eq,ay.re_eq,ae.re_eq,aq.re_eq]) hF
def aj.m (x:aj):Nat:=(x.fStatements.length+aR aa.m x.fStatements)
theorem aj.m_eq (x:aj):x.m=(x.fStatements.length+aR aa.m x.fStatements):=rfl
theorem Hf : ∀ x:aj,x.Ok->∀ b:Int,0<=b->b<4611686018427387904->tS x b=some (aU b x.m):=by
 intro x
 intro hok b h0 h1
 rw [CE]
 try simp only [ai.re_eq,aK.re_eq,aa.re_eq,aj.re_eq,ap.re_eq,am.re_eq,aJ.re_eq,ak.re_eq,ah.re_eq,ac.re_eq,aB.re_eq,aE.re_eq,au.re_eq,ay.re_eq,ae.re_eq,aq.re_eq]
 -- fStatements
 rw [B1 hok.P_fStatements.1 (fun y hy b h0 h1=>Dj y (hok.P_fStatements.2 y hy) b h0 h1) h0 h1]
 simp only [Option.bind_some]
 by_cases c0:aU b ((x.fStatements.length+aR aa.m x.fStatements))<0
 ·simp only [c0,decide_true,if_true]
  rw [aM c0 (by rw [aj.m_eq];omega)]
 simp only [c0,decide_false,Bool.false_eq_true,if_false]
 try rw [aj.m_eq]
theorem Hg : ∀ x:aj,x.m<=1048576->lZ x=some x:=by
 intro x
 intro hm
 have hq:=x.m_eq
 rw [CG]
 try simp only [ai.re_eq,aK.re_eq,aa.re_eq,aj.re_eq,ap.re_eq,am.re_eq,aJ.re_eq,ak.re_eq,ah.re_eq,ac.re_eq,aB.re_eq,aE.re_eq,au.re_eq,ay.re_eq,ae.re_eq,aq.re_eq]
 rw [B2 (xs:=x.fStatements) (by omega) fun y hy=>Dk y (by have:=bh (m:=aa.m) hy;omega)]
 simp only [Option.bind_some]
 try simp only [aj.eta,ai.re_eq,aK.re_eq,aa.re_eq,aj.re_eq,ap.re_eq,am.re_eq,aJ.re_eq,ak.re_eq,ah.re_eq,ac.re_eq,aB.re_eq,aE.re_eq,au.re_eq,ay.re_eq,ae.re_eq,aq.re_eq]
theorem Hh : ∀ x:aj,x.m<=1048576->tU x x=some true:=by
 intro x
 intro hm
 have hq:=x.m_eq
 rw [CI]
 try simp only [ai.re_eq,aK.re_eq,aa.re_eq,aj.re_eq,ap.re_eq,am.re_eq,aJ.re_eq,ak.re_eq,ah.re_eq,ac.re_eq,aB.re_eq,aE.re_eq,au.re_eq,ay.re_eq,ae.re_eq,aq.re_eq]
 rw [B3 (xs:=x.fStatements) (by omega) fun y hy=>Dl y (by have:=bh (m:=aa.m) hy;omega)]
 simp
structure ap.Ok (x:ap):Prop where
 P_fKind:(-9223372036854775808<=x.fKind/\x.fKind<=9223372036854775807)
 P_fNum:(-9223372036854775808<=x.fNum/\x.fNum<=9223372036854775807)
 P_fText:x.fText.length<=9223372036854775807
 P_fRef:(-9223372036854775808<=x.fRef/\x.fRef<=9223372036854775807)
theorem ap.ok_cells (x:ap) (h:∀ c∈GG.cells 106 x,∀ k,WfV GG k c):x.Ok:=by
 have h:∀ c∈([.int .i64 x.fKind,.int .i64 x.fNum,.str x.fText,.int .i64 x.fRef]:List (V GG.S)),∀ k,WfV GG k c:=h
 exact ⟨cD (h (.int .i64 x.fKind) (by simp) 1),cD (h (.int .i64 x.fNum) (by simp) 1),dW (h (.str x.fText) (by simp) 1),cD (h (.int .i64 x.fRef) (by simp) 1)⟩
theorem ap.ok_of {x:ap} (h:∀ k,WfV GG k (inj GG (.st 106) x)):x.Ok:=ap.ok_cells x (iQ h)
def ap.m (x:ap):Nat:=x.fText.length
theorem ap.m_eq (x:ap):x.m=x.fText.length:=rfl
theorem oT : ∀ x:ap,x.Ok->∀ b:Int,0<=b->b<4611686018427387904->l5 x b=some (aU b x.m):=by
 intro x
 intro hok b h0 h1
 rw [GF]
 try simp only [ai.re_eq,aK.re_eq,aa.re_eq,aj.re_eq,ap.re_eq,am.re_eq,aJ.re_eq,ak.re_eq,ah.re_eq,ac.re_eq,aB.re_eq,aE.re_eq,au.re_eq,ay.re_eq,ae.re_eq,aq.re_eq]
 -- fText
 obtain ⟨e1,e2⟩:=bZ (b:=b) (l:=x.fText) h0 h1 hok.P_fText
 by_cases c0:aU b (x.fText.length)<0
 ·simp only [e1.2 c0,decide_true,if_true]
  rw [aM c0 (by rw [ap.m_eq];omega)]
 have e3:=mt e1.1 c0
 simp only [e3,e2 c0,c0,decide_false,Bool.false_eq_true,if_false]
 try rw [ap.m_eq]
theorem oU : ∀ x:ap,x.m<=1048576->l9 x=some x:=by
 intro x
 intro hm
 have hq:=x.m_eq
 rw [GI]
 try simp only [ai.re_eq,aK.re_eq,aa.re_eq,aj.re_eq,ap.re_eq,am.re_eq,aJ.re_eq,ak.re_eq,ah.re_eq,ac.re_eq,aB.re_eq,aE.re_eq,au.re_eq,ay.re_eq,ae.re_eq,aq.re_eq]
 try simp only [ap.eta,ai.re_eq,aK.re_eq,aa.re_eq,aj.re_eq,ap.re_eq,am.re_eq,aJ.re_eq,ak.re_eq,ah.re_eq,ac.re_eq,aB.re_eq,aE.re_eq,au.re_eq,ay.re_eq,ae.re_eq,aq.re_eq]
theorem oV : ∀ x:ap,x.m<=1048576->mb x x=some true:=by
 intro x
 intro hm
 have hq:=x.m_eq
 rw [GL]
 try simp only [ai.re_eq,aK.re_eq,aa.re_eq,aj.re_eq,ap.re_eq,am.re_eq,aJ.re_eq,ak.re_eq,ah.re_eq,ac.re_eq,aB.re_eq,aE.re_eq,au.re_eq,ay.re_eq,ae.re_eq,aq.re_eq]
 simp
structure am.Ok (x:am):Prop where
 P_fId:(-9223372036854775808<=x.fId/\x.fId<=9223372036854775807)
 P_fKind:(-9223372036854775808<=x.fKind/\x.fKind<=9223372036854775807)
 P_fName:x.fName.length<=9223372036854775807
 P_fLow:(-9223372036854775808<=x.fLow/\x.fLow<=9223372036854775807)
 P_fKeys:(x.fKeys.length<=9223372036854775807/\∀ y∈x.fKeys,ap.Ok y)
 P_fVals:(x.fVals.length<=9223372036854775807/\∀ y∈x.fVals,ap.Ok y)
 P_fDefault:ap.Ok x.fDefault
theorem am.ok_cells (x:am) (h:∀ c∈GG.cells 203 x,∀ k,WfV GG k c):x.Ok:=by
 have h:∀ c∈([.int .i64 x.fId,.int .i64 x.fKind,.str x.fName,.int .i64 x.fLow,.sl (.st 106) x.fKeys,.sl (.st 106) x.fVals,.int .i64 x.fDefault.fKind,.int .i64 x.fDefault.fNum,.str x.fDefault.fText,.int .i64 x.fDefault.fRef]:List (V GG.S)),∀ k,WfV GG k c:=h
 have h_fDefault:∀ c∈([.int .i64 x.fDefault.fKind,.int .i64 x.fDefault.fNum,.str x.fDefault.fText,.int .i64 x.fDefault.fRef]:List (V GG.S)),∀ k,WfV GG k c:=fun c hc=>h c (by simp only [List.mem_cons,List.not_mem_nil,or_false] at hc ⊢;rcases hc with rfl | rfl | rfl | rfl<;>simp)
 exact ⟨cD (h (.int .i64 x.fId) (by simp) 1),cD (h (.int .i64 x.fKind) (by simp) 1),dW (h (.str x.fName) (by simp) 1),cD (h (.int .i64 x.fLow) (by simp) 1),⟨(cm (h (.sl (.st 106) x.fKeys) (by simp))).1,fun y hy=>ap.ok_cells y ((cm (h (.sl (.st 106) x.fKeys) (by simp))).2 y hy)⟩,⟨(cm (h (.sl (.st 106) x.fVals) (by simp))).1,fun y hy=>ap.ok_cells y ((cm (h (.sl (.st 106) x.fVals) (by simp))).2 y hy)⟩,ap.ok_cells _ h_fDefault⟩
theorem am.ok_of {x:am} (h:∀ k,WfV GG k (inj GG (.st 203) x)):x.Ok:=am.ok_cells x (iQ h)
theorem uO {xs:(List ap)} (hx:xs.length<=9223372036854775807)
  (hF:∀ y∈xs,∀ b:Int,0<=b->b<4611686018427387904->l5 y b=some (aU b (ap.m y))) {b:Int} (h0:0<=b) (h1:b<4611686018427387904):
  oy xs b=some (aU b (xs.length+aR ap.m xs)):=by
 rw [EN]
 obtain ⟨e1,e2⟩:=bZ (l:=xs) h0 h1 hx
 by_cases c:aU b xs.length<0
 ·simp only [e1.2 c,decide_true,if_true,eh c]
 ·rw [if_neg (by simpa using fun h=>c (e1.1 h)),e2 c,o9 hx (J:=ly) (F:=l5) (m:=ap.m) (fun b i=>by rw [zf];try simp only [ai.re_eq,aK.re_eq,aa.re_eq,aj.re_eq,ap.re_eq,am.re_eq,aJ.re_eq,ak.re_eq,ah.re_eq,ac.re_eq,aB.re_eq,aE.re_eq,au.re_eq,ay.re_eq,ae.re_eq,aq.re_eq]) hF _ (aO c) (bz (by omega) h1),aP c]
theorem uP {xs:(List ap)} (hx:xs.length<=68719476736) (hF:∀ y∈xs,l9 y=some y):oz xs=some xs:=by
 rw [EP,pZ _ _ hx]
 simp only [Option.bind_some]
 exact pa (by omega) (J:=lz) (F:=l9) (fun i zs=>by rw [zg];try simp only [ai.re_eq,aK.re_eq,aa.re_eq,aj.re_eq,ap.re_eq,am.re_eq,aJ.re_eq,ak.re_eq,ah.re_eq,ac.re_eq,aB.re_eq,aE.re_eq,au.re_eq,ay.re_eq,ae.re_eq,aq.re_eq]) hF _ (by simp)
theorem uQ {xs:(List ap)} (hx:xs.length<=9223372036854775807) (hF:∀ y∈xs,mb y y=some true):oA xs xs=some true:=by
 rw [ES]
 simp only [bne_self_eq_false,Bool.false_eq_true,if_false]
 exact pb (by omega) (J:=lA) (F:=mb) (fun i=>by rw [zj];try simp only [ai.re_eq,aK.re_eq,aa.re_eq,aj.re_eq,ap.re_eq,am.re_eq,aJ.re_eq,ak.re_eq,ah.re_eq,ac.re_eq,aB.re_eq,aE.re_eq,au.re_eq,ay.re_eq,ae.re_eq,aq.re_eq]) hF
def am.m (x:am):Nat:=x.fName.length+(x.fKeys.length+aR ap.m x.fKeys)+(x.fVals.length+aR ap.m x.fVals)+ap.m x.fDefault
theorem am.m_eq (x:am):x.m=x.fName.length+(x.fKeys.length+aR ap.m x.fKeys)+(x.fVals.length+aR ap.m x.fVals)+ap.m x.fDefault:=rfl
theorem IZ : ∀ x:am,x.Ok->∀ b:Int,0<=b->b<4611686018427387904->oC x b=some (aU b x.m):=by
 intro x
 intro hok b h0 h1
 rw [EV]
 try simp only [ai.re_eq,aK.re_eq,aa.re_eq,aj.re_eq,ap.re_eq,am.re_eq,aJ.re_eq,ak.re_eq,ah.re_eq,ac.re_eq,aB.re_eq,aE.re_eq,au.re_eq,ay.re_eq,ae.re_eq,aq.re_eq]
 -- fName
 obtain ⟨e1,e2⟩:=bZ (b:=b) (l:=x.fName) h0 h1 hok.P_fName
 by_cases c0:aU b (x.fName.length)<0
 ·simp only [e1.2 c0,decide_true,if_true]
  rw [aM c0 (by rw [am.m_eq];omega)]
 have e3:=mt e1.1 c0
 simp only [e3,e2 c0,c0,decide_false,Bool.false_eq_true,if_false]
 -- fKeys
 rw [uO hok.P_fKeys.1 (fun y hy b h0 h1=>oT y (hok.P_fKeys.2 y hy) b h0 h1) (aO c0) (bz (by omega) h1)]
 simp only [Option.bind_some]
 simp only [aP c0]
 by_cases c1:aU b (x.fName.length+(x.fKeys.length+aR ap.m x.fKeys))<0
 ·simp only [c1,decide_true,if_true]
  rw [aM c1 (by rw [am.m_eq];omega)]
 simp only [c1,decide_false,Bool.false_eq_true,if_false]
 -- fVals
 rw [uO hok.P_fVals.1 (fun y hy b h0 h1=>oT y (hok.P_fVals.2 y hy) b h0 h1) (aO c1) (bz (by omega) h1)]
 simp only [Option.bind_some]
 simp only [aP c1]
 by_cases c2:aU b (x.fName.length+(x.fKeys.length+aR ap.m x.fKeys)+(x.fVals.length+aR ap.m x.fVals))<0
 ·simp only [c2,decide_true,if_true]
  rw [aM c2 (by rw [am.m_eq];omega)]
 simp only [c2,decide_false,Bool.false_eq_true,if_false]
 -- fDefault
 rw [oT x.fDefault hok.P_fDefault (aU b (x.fName.length+(x.fKeys.length+aR ap.m x.fKeys)+(x.fVals.length+aR ap.m x.fVals))) (aO c2) (bz (by omega) h1)]
 simp only [Option.bind_some]
 simp only [aP c2]
 by_cases c3:aU b (x.fName.length+(x.fKeys.length+aR ap.m x.fKeys)+(x.fVals.length+aR ap.m x.fVals)+ap.m x.fDefault)<0
 ·simp only [c3,decide_true,if_true]
  rw [aM c3 (by rw [am.m_eq];omega)]
 simp only [c3,decide_false,Bool.false_eq_true,if_false]
 try rw [am.m_eq]
theorem I0 : ∀ x:am,x.m<=1048576->oD x=some x:=by
 intro x
 intro hm
 have hq:=x.m_eq
 rw [EW]
 try simp only [ai.re_eq,aK.re_eq,aa.re_eq,aj.re_eq,ap.re_eq,am.re_eq,aJ.re_eq,ak.re_eq,ah.re_eq,ac.re_eq,aB.re_eq,aE.re_eq,au.re_eq,ay.re_eq,ae.re_eq,aq.re_eq]
 rw [uP (xs:=x.fKeys) (by omega) fun y hy=>oU y (by have:=bh (m:=ap.m) hy;omega)]
 simp only [Option.bind_some]
 rw [uP (xs:=x.fVals) (by omega) fun y hy=>oU y (by have:=bh (m:=ap.m) hy;omega)]
 simp only [Option.bind_some]
 rw [oU x.fDefault (by omega)]
 simp only [Option.bind_some]
 try simp only [am.eta,ai.re_eq,aK.re_eq,aa.re_eq,aj.re_eq,ap.re_eq,am.re_eq,aJ.re_eq,ak.re_eq,ah.re_eq,ac.re_eq,aB.re_eq,aE.re_eq,au.re_eq,ay.re_eq,ae.re_eq,aq.re_eq]
theorem I1 : ∀ x:am,x.m<=1048576->oF x x=some true:=by
 intro x
 intro hm
 have hq:=x.m_eq
 rw [EY]
 try simp only [ai.re_eq,aK.re_eq,aa.re_eq,aj.re_eq,ap.re_eq,am.re_eq,aJ.re_eq,ak.re_eq,ah.re_eq,ac.re_eq,aB.re_eq,aE.re_eq,au.re_eq,ay.re_eq,ae.re_eq,aq.re_eq]
 rw [uQ (xs:=x.fKeys) (by omega) fun y hy=>oV y (by have:=bh (m:=ap.m) hy;omega)]
 rw [uQ (xs:=x.fVals) (by omega) fun y hy=>oV y (by have:=bh (m:=ap.m) hy;omega)]
 rw [oV x.fDefault (by omega)]
 simp
structure aJ.Ok (x:aJ):Prop where
 P_fNext:(-9223372036854775808<=x.fNext/\x.fNext<=9223372036854775807)
 P_fObjects:(x.fObjects.length<=9223372036854775807/\∀ y∈x.fObjects,am.Ok y)
theorem aJ.ok_cells (x:aJ) (h:∀ c∈GG.cells 26 x,∀ k,WfV GG k c):x.Ok:=by
 have h:∀ c∈([.int .i64 x.fNext,.sl (.st 203) x.fObjects]:List (V GG.S)),∀ k,WfV GG k c:=h
 exact ⟨cD (h (.int .i64 x.fNext) (by simp) 1),⟨(cm (h (.sl (.st 203) x.fObjects) (by simp))).1,fun y hy=>am.ok_cells y ((cm (h (.sl (.st 203) x.fObjects) (by simp))).2 y hy)⟩⟩
theorem aJ.ok_of {x:aJ} (h:∀ k,WfV GG k (inj GG (.st 26) x)):x.Ok:=aJ.ok_cells x (iQ h)
theorem Hi {xs:(List am)} (hx:xs.length<=9223372036854775807)
  (hF:∀ y∈xs,∀ b:Int,0<=b->b<4611686018427387904->oC y b=some (aU b (am.m y))) {b:Int} (h0:0<=b) (h1:b<4611686018427387904):
  tZ xs b=some (aU b (xs.length+aR am.m xs)):=by
 rw [CN]
 obtain ⟨e1,e2⟩:=bZ (l:=xs) h0 h1 hx
 by_cases c:aU b xs.length<0
 ·simp only [e1.2 c,decide_true,if_true,eh c]
 ·rw [if_neg (by simpa using fun h=>c (e1.1 h)),e2 c,o9 hx (J:=jX) (F:=oC) (m:=am.m) (fun b i=>by rw [xx];try simp only [ai.re_eq,aK.re_eq,aa.re_eq,aj.re_eq,ap.re_eq,am.re_eq,aJ.re_eq,ak.re_eq,ah.re_eq,ac.re_eq,aB.re_eq,aE.re_eq,au.re_eq,ay.re_eq,ae.re_eq,aq.re_eq]) hF _ (aO c) (bz (by omega) h1),aP c]
theorem Hj {xs:(List am)} (hx:xs.length<=68719476736) (hF:∀ y∈xs,oD y=some y):t6 xs=some xs:=by
 rw [CP,pZ _ _ hx]
 simp only [Option.bind_some]
 exact pa (by omega) (J:=jZ) (F:=oD) (fun i zs=>by rw [xz];try simp only [ai.re_eq,aK.re_eq,aa.re_eq,aj.re_eq,ap.re_eq,am.re_eq,aJ.re_eq,ak.re_eq,ah.re_eq,ac.re_eq,aB.re_eq,aE.re_eq,au.re_eq,ay.re_eq,ae.re_eq,aq.re_eq]) hF _ (by simp)
theorem Hk {xs:(List am)} (hx:xs.length<=9223372036854775807) (hF:∀ y∈xs,oF y y=some true):t7 xs xs=some true:=by
 rw [CR]
 simp only [bne_self_eq_false,Bool.false_eq_true,if_false]
 exact pb (by omega) (J:=ke) (F:=oF) (fun i=>by rw [xC];try simp only [ai.re_eq,aK.re_eq,aa.re_eq,aj.re_eq,ap.re_eq,am.re_eq,aJ.re_eq,ak.re_eq,ah.re_eq,ac.re_eq,aB.re_eq,aE.re_eq,au.re_eq,ay.re_eq,ae.re_eq,aq.re_eq]) hF
def aJ.m (x:aJ):Nat:=(x.fObjects.length+aR am.m x.fObjects)
theorem aJ.m_eq (x:aJ):x.m=(x.fObjects.length+aR am.m x.fObjects):=rfl
theorem Nj : ∀ x:aJ,x.Ok->∀ b:Int,0<=b->b<4611686018427387904->EA x b=some (aU b x.m):=by
 intro x
 intro hok b h0 h1
 rw [IA]
 try simp only [ai.re_eq,aK.re_eq,aa.re_eq,aj.re_eq,ap.re_eq,am.re_eq,aJ.re_eq,ak.re_eq,ah.re_eq,ac.re_eq,aB.re_eq,aE.re_eq,au.re_eq,ay.re_eq,ae.re_eq,aq.re_eq]
 -- fObjects
 rw [Hi hok.P_fObjects.1 (fun y hy b h0 h1=>IZ y (hok.P_fObjects.2 y hy) b h0 h1) h0 h1]
 simp only [Option.bind_some]
 by_cases c0:aU b ((x.fObjects.length+aR am.m x.fObjects))<0
 ·simp only [c0,decide_true,if_true]
  rw [aM c0 (by rw [aJ.m_eq];omega)]
 simp only [c0,decide_false,Bool.false_eq_true,if_false]
 try rw [aJ.m_eq]
theorem Nk : ∀ x:aJ,x.m<=1048576->EB x=some x:=by
 intro x
 intro hm
 have hq:=x.m_eq
 rw [IB]
 try simp only [ai.re_eq,aK.re_eq,aa.re_eq,aj.re_eq,ap.re_eq,am.re_eq,aJ.re_eq,ak.re_eq,ah.re_eq,ac.re_eq,aB.re_eq,aE.re_eq,au.re_eq,ay.re_eq,ae.re_eq,aq.re_eq]
 rw [Hj (xs:=x.fObjects) (by omega) fun y hy=>I0 y (by have:=bh (m:=am.m) hy;omega)]
 simp only [Option.bind_some]
 try simp only [aJ.eta,ai.re_eq,aK.re_eq,aa.re_eq,aj.re_eq,ap.re_eq,am.re_eq,aJ.re_eq,ak.re_eq,ah.re_eq,ac.re_eq,aB.re_eq,aE.re_eq,au.re_eq,ay.re_eq,ae.re_eq,aq.re_eq]
theorem Nl : ∀ x:aJ,x.m<=1048576->EC x x=some true:=by
 intro x
 intro hm
 have hq:=x.m_eq
 rw [ID]
 try simp only [ai.re_eq,aK.re_eq,aa.re_eq,aj.re_eq,ap.re_eq,am.re_eq,aJ.re_eq,ak.re_eq,ah.re_eq,ac.re_eq,aB.re_eq,aE.re_eq,au.re_eq,ay.re_eq,ae.re_eq,aq.re_eq]
 rw [Hk (xs:=x.fObjects) (by omega) fun y hy=>I1 y (by have:=bh (m:=am.m) hy;omega)]
 simp
structure ak.Ok (x:ak):Prop where
 P_fName:x.fName.length<=9223372036854775807
 P_fValue:ap.Ok x.fValue
theorem ak.ok_cells (x:ak) (h:∀ c∈GG.cells 207 x,∀ k,WfV GG k c):x.Ok:=by
 have h:∀ c∈([.str x.fName,.int .i64 x.fValue.fKind,.int .i64 x.fValue.fNum,.str x.fValue.fText,.int .i64 x.fValue.fRef]:List (V GG.S)),∀ k,WfV GG k c:=h
 have h_fValue:∀ c∈([.int .i64 x.fValue.fKind,.int .i64 x.fValue.fNum,.str x.fValue.fText,.int .i64 x.fValue.fRef]:List (V GG.S)),∀ k,WfV GG k c:=fun c hc=>h c (by simp only [List.mem_cons,List.not_mem_nil,or_false] at hc ⊢;rcases hc with rfl | rfl | rfl | rfl<;>simp)
 exact ⟨dW (h (.str x.fName) (by simp) 1),ap.ok_cells _ h_fValue⟩
theorem ak.ok_of {x:ak} (h:∀ k,WfV GG k (inj GG (.st 207) x)):x.Ok:=ak.ok_cells x (iQ h)
def ak.m (x:ak):Nat:=x.fName.length+ap.m x.fValue
theorem ak.m_eq (x:ak):x.m=x.fName.length+ap.m x.fValue:=rfl
theorem yY : ∀ x:ak,x.Ok->∀ b:Int,0<=b->b<4611686018427387904->mc x b=some (aU b x.m):=by
 intro x
 intro hok b h0 h1
 rw [CU]
 try simp only [ai.re_eq,aK.re_eq,aa.re_eq,aj.re_eq,ap.re_eq,am.re_eq,aJ.re_eq,ak.re_eq,ah.re_eq,ac.re_eq,aB.re_eq,aE.re_eq,au.re_eq,ay.re_eq,ae.re_eq,aq.re_eq]
 -- fName
 obtain ⟨e1,e2⟩:=bZ (b:=b) (l:=x.fName) h0 h1 hok.P_fName
 by_cases c0:aU b (x.fName.length)<0
 ·simp only [e1.2 c0,decide_true,if_true]
  rw [aM c0 (by rw [ak.m_eq];omega)]
 have e3:=mt e1.1 c0
 simp only [e3,e2 c0,c0,decide_false,Bool.false_eq_true,if_false]
 -- fValue
 rw [oT x.fValue hok.P_fValue (aU b (x.fName.length)) (aO c0) (bz (by omega) h1)]
 simp only [Option.bind_some]
 simp only [aP c0]
 by_cases c1:aU b (x.fName.length+ap.m x.fValue)<0
 ·simp only [c1,decide_true,if_true]
  rw [aM c1 (by rw [ak.m_eq];omega)]
 simp only [c1,decide_false,Bool.false_eq_true,if_false]
 try rw [ak.m_eq]
theorem yZ : ∀ x:ak,x.m<=1048576->md x=some x:=by
 intro x
 intro hm
 have hq:=x.m_eq
 rw [CV]
 try simp only [ai.re_eq,aK.re_eq,aa.re_eq,aj.re_eq,ap.re_eq,am.re_eq,aJ.re_eq,ak.re_eq,ah.re_eq,ac.re_eq,aB.re_eq,aE.re_eq,au.re_eq,ay.re_eq,ae.re_eq,aq.re_eq]
 rw [oU x.fValue (by omega)]
 simp only [Option.bind_some]
 try simp only [ak.eta,ai.re_eq,aK.re_eq,aa.re_eq,aj.re_eq,ap.re_eq,am.re_eq,aJ.re_eq,ak.re_eq,ah.re_eq,ac.re_eq,aB.re_eq,aE.re_eq,au.re_eq,ay.re_eq,ae.re_eq,aq.re_eq]
theorem y0 : ∀ x:ak,x.m<=1048576->mg x x=some true:=by
 intro x
 intro hm
 have hq:=x.m_eq
 rw [C0]
 try simp only [ai.re_eq,aK.re_eq,aa.re_eq,aj.re_eq,ap.re_eq,am.re_eq,aJ.re_eq,ak.re_eq,ah.re_eq,ac.re_eq,aB.re_eq,aE.re_eq,au.re_eq,ay.re_eq,ae.re_eq,aq.re_eq]
 rw [oV x.fValue (by omega)]
 simp
structure ah.Ok (x:ah):Prop where
 P_fName:x.fName.length<=9223372036854775807
 P_fParams:(x.fParams.length<=9223372036854775807/\∀ y∈x.fParams,y.length<=9223372036854775807)
 P_fLocals:(x.fLocals.length<=9223372036854775807/\∀ y∈x.fLocals,y.length<=9223372036854775807)
 P_fLabel:x.fLabel.length<=9223372036854775807
theorem ah.ok_cells (x:ah) (h:∀ c∈GG.cells 227 x,∀ k,WfV GG k c):x.Ok:=by
 have h:∀ c∈([.str x.fName,.sl .str x.fParams,.sl .str x.fLocals,.str x.fLabel]:List (V GG.S)),∀ k,WfV GG k c:=h
 exact ⟨dW (h (.str x.fName) (by simp) 1),⟨(cm (h (.sl .str x.fParams) (by simp))).1,fun y hy=>dW ((cm (h (.sl .str x.fParams) (by simp))).2 y hy (.str y) (by simp [Ty.cells,inj]) 1)⟩,⟨(cm (h (.sl .str x.fLocals) (by simp))).1,fun y hy=>dW ((cm (h (.sl .str x.fLocals) (by simp))).2 y hy (.str y) (by simp [Ty.cells,inj]) 1)⟩,dW (h (.str x.fLabel) (by simp) 1)⟩
theorem ah.ok_of {x:ah} (h:∀ k,WfV GG k (inj GG (.st 227) x)):x.Ok:=ah.ok_cells x (iQ h)
theorem gf {xs:(List (List UInt8))} (hx:xs.length<=9223372036854775807)
  (hF:∀ y∈xs,y.length<=9223372036854775807) {b:Int} (h0:0<=b) (h1:b<4611686018427387904):
  eZ xs b=some (aU b (xs.length+aR List.length xs)):=by
 rw [CO]
 obtain ⟨e1,e2⟩:=bZ (l:=xs) h0 h1 hx
 by_cases c:aU b xs.length<0
 ·simp only [e1.2 c,decide_true,if_true,eh c]
 ·rw [if_neg (by simpa using fun h=>c (e1.1 h)),e2 c,Is hx (J:=jY) (fun b i=>by rw [xy]) hF _ (aO c) (bz (by omega) h1),aP c]
theorem gg {xs:(List (List UInt8))} (hx:xs.length<=68719476736):e8 xs=some xs:=by
 rw [CQ,pZ _ _ hx]
 simp only [Option.bind_some]
 exact OQ (by omega) (J:=kc) (fun i zs=>by rw [xA]) _ (by simp)
theorem gh {xs:(List (List UInt8))} (hx:xs.length<=9223372036854775807):e9 xs xs=some true:=by
 rw [CS]
 simp only [bne_self_eq_false,Bool.false_eq_true,if_false]
 exact OS (by omega) (J:=kf) (fun i=>by rw [xD]) (fun y=>by simp)
def ah.m (x:ah):Nat:=x.fName.length+(x.fParams.length+aR List.length x.fParams)+(x.fLocals.length+aR List.length x.fLocals)+x.fLabel.length
theorem ah.m_eq (x:ah):x.m=x.fName.length+(x.fParams.length+aR List.length x.fParams)+(x.fLocals.length+aR List.length x.fLocals)+x.fLabel.length:=rfl
theorem Fv : ∀ x:ah,x.Ok->∀ b:Int,0<=b->b<4611686018427387904->kB x b=some (aU b x.m):=by
 intro x
 intro hok b h0 h1
 rw [Bo]
 try simp only [ai.re_eq,aK.re_eq,aa.re_eq,aj.re_eq,ap.re_eq,am.re_eq,aJ.re_eq,ak.re_eq,ah.re_eq,ac.re_eq,aB.re_eq,aE.re_eq,au.re_eq,ay.re_eq,ae.re_eq,aq.re_eq]
 -- fName
 obtain ⟨e1,e2⟩:=bZ (b:=b) (l:=x.fName) h0 h1 hok.P_fName
 by_cases c0:aU b (x.fName.length)<0
 ·simp only [e1.2 c0,decide_true,if_true]
  rw [aM c0 (by rw [ah.m_eq];omega)]
 have e3:=mt e1.1 c0
 simp only [e3,e2 c0,c0,decide_false,Bool.false_eq_true,if_false]
 -- fParams
 rw [gf hok.P_fParams.1 hok.P_fParams.2 (aO c0) (bz (by omega) h1)]
 simp only [Option.bind_some]
 simp only [aP c0]
 by_cases c1:aU b (x.fName.length+(x.fParams.length+aR List.length x.fParams))<0
 ·simp only [c1,decide_true,if_true]
  rw [aM c1 (by rw [ah.m_eq];omega)]
 simp only [c1,decide_false,Bool.false_eq_true,if_false]
 -- fLocals
 rw [gf hok.P_fLocals.1 hok.P_fLocals.2 (aO c1) (bz (by omega) h1)]
 simp only [Option.bind_some]
 simp only [aP c1]
 by_cases c2:aU b (x.fName.length+(x.fParams.length+aR List.length x.fParams)+(x.fLocals.length+aR List.length x.fLocals))<0
 ·simp only [c2,decide_true,if_true]
  rw [aM c2 (by rw [ah.m_eq];omega)]
 simp only [c2,decide_false,Bool.false_eq_true,if_false]
 -- fLabel
 obtain ⟨e1,e2⟩:=bZ (b:=(aU b (x.fName.length+(x.fParams.length+aR List.length x.fParams)+(x.fLocals.length+aR List.length x.fLocals)))) (l:=x.fLabel) (aO c2) (bz (by omega) h1) hok.P_fLabel
 rw [aP c2] at e1 e2
 by_cases c3:aU b (x.fName.length+(x.fParams.length+aR List.length x.fParams)+(x.fLocals.length+aR List.length x.fLocals)+x.fLabel.length)<0
 ·simp only [e1.2 c3,decide_true,if_true]
  rw [aM c3 (by rw [ah.m_eq];omega)]
 have e3:=mt e1.1 c3
 simp only [e3,e2 c3,c3,decide_false,Bool.false_eq_true,if_false]
 try rw [ah.m_eq]
theorem Fw : ∀ x:ah,x.m<=1048576->kC x=some x:=by
 intro x
 intro hm
 have hq:=x.m_eq
 rw [Bp]
 try simp only [ai.re_eq,aK.re_eq,aa.re_eq,aj.re_eq,ap.re_eq,am.re_eq,aJ.re_eq,ak.re_eq,ah.re_eq,ac.re_eq,aB.re_eq,aE.re_eq,au.re_eq,ay.re_eq,ae.re_eq,aq.re_eq]
 rw [gg (xs:=x.fParams) (by omega)]
 simp only [Option.bind_some]
 rw [gg (xs:=x.fLocals) (by omega)]
 simp only [Option.bind_some]
 try simp only [ah.eta,ai.re_eq,aK.re_eq,aa.re_eq,aj.re_eq,ap.re_eq,am.re_eq,aJ.re_eq,ak.re_eq,ah.re_eq,ac.re_eq,aB.re_eq,aE.re_eq,au.re_eq,ay.re_eq,ae.re_eq,aq.re_eq]
theorem Fy : ∀ x:ah,x.m<=1048576->kE x x=some true:=by
 intro x
 intro hm
 have hq:=x.m_eq
 rw [Bv]
 try simp only [ai.re_eq,aK.re_eq,aa.re_eq,aj.re_eq,ap.re_eq,am.re_eq,aJ.re_eq,ak.re_eq,ah.re_eq,ac.re_eq,aB.re_eq,aE.re_eq,au.re_eq,ay.re_eq,ae.re_eq,aq.re_eq]
 rw [gh (xs:=x.fParams) (by omega)]
 rw [gh (xs:=x.fLocals) (by omega)]
 simp
structure ac.Ok (x:ac):Prop where
 P_fName:x.fName.length<=9223372036854775807
 P_fFields:(x.fFields.length<=9223372036854775807/\∀ y∈x.fFields,y.length<=9223372036854775807)
theorem ac.ok_cells (x:ac) (h:∀ c∈GG.cells 230 x,∀ k,WfV GG k c):x.Ok:=by
 have h:∀ c∈([.str x.fName,.sl .str x.fFields]:List (V GG.S)),∀ k,WfV GG k c:=h
 exact ⟨dW (h (.str x.fName) (by simp) 1),⟨(cm (h (.sl .str x.fFields) (by simp))).1,fun y hy=>dW ((cm (h (.sl .str x.fFields) (by simp))).2 y hy (.str y) (by simp [Ty.cells,inj]) 1)⟩⟩
theorem ac.ok_of {x:ac} (h:∀ k,WfV GG k (inj GG (.st 230) x)):x.Ok:=ac.ok_cells x (iQ h)
def ac.m (x:ac):Nat:=x.fName.length+(x.fFields.length+aR List.length x.fFields)
theorem ac.m_eq (x:ac):x.m=x.fName.length+(x.fFields.length+aR List.length x.fFields):=rfl
theorem B4 : ∀ x:ac,x.Ok->∀ b:Int,0<=b->b<4611686018427387904->gY x b=some (aU b x.m):=by
 intro x
 intro hok b h0 h1
 rw [xE]
 try simp only [ai.re_eq,aK.re_eq,aa.re_eq,aj.re_eq,ap.re_eq,am.re_eq,aJ.re_eq,ak.re_eq,ah.re_eq,ac.re_eq,aB.re_eq,aE.re_eq,au.re_eq,ay.re_eq,ae.re_eq,aq.re_eq]
 -- fName
 obtain ⟨e1,e2⟩:=bZ (b:=b) (l:=x.fName) h0 h1 hok.P_fName
 by_cases c0:aU b (x.fName.length)<0
 ·simp only [e1.2 c0,decide_true,if_true]
  rw [aM c0 (by rw [ac.m_eq];omega)]
 have e3:=mt e1.1 c0
 simp only [e3,e2 c0,c0,decide_false,Bool.false_eq_true,if_false]
 -- fFields
 rw [gf hok.P_fFields.1 hok.P_fFields.2 (aO c0) (bz (by omega) h1)]
 simp only [Option.bind_some]
 simp only [aP c0]
 by_cases c1:aU b (x.fName.length+(x.fFields.length+aR List.length x.fFields))<0
 ·simp only [c1,decide_true,if_true]
  rw [aM c1 (by rw [ac.m_eq];omega)]
 simp only [c1,decide_false,Bool.false_eq_true,if_false]
 try rw [ac.m_eq]
theorem B5 : ∀ x:ac,x.m<=1048576->gZ x=some x:=by
 intro x
 intro hm
 have hq:=x.m_eq
 rw [xF]
 try simp only [ai.re_eq,aK.re_eq,aa.re_eq,aj.re_eq,ap.re_eq,am.re_eq,aJ.re_eq,ak.re_eq,ah.re_eq,ac.re_eq,aB.re_eq,aE.re_eq,au.re_eq,ay.re_eq,ae.re_eq,aq.re_eq]
 rw [gg (xs:=x.fFields) (by omega)]
 simp only [Option.bind_some]
 try simp only [ac.eta,ai.re_eq,aK.re_eq,aa.re_eq,aj.re_eq,ap.re_eq,am.re_eq,aJ.re_eq,ak.re_eq,ah.re_eq,ac.re_eq,aB.re_eq,aE.re_eq,au.re_eq,ay.re_eq,ae.re_eq,aq.re_eq]
theorem B6 : ∀ x:ac,x.m<=1048576->g9 x x=some true:=by
 intro x
 intro hm
 have hq:=x.m_eq
 rw [xL]
 try simp only [ai.re_eq,aK.re_eq,aa.re_eq,aj.re_eq,ap.re_eq,am.re_eq,aJ.re_eq,ak.re_eq,ah.re_eq,ac.re_eq,aB.re_eq,aE.re_eq,au.re_eq,ay.re_eq,ae.re_eq,aq.re_eq]
 rw [gh (xs:=x.fFields) (by omega)]
 simp
structure aB.Ok (x:aB):Prop where
 P_fVars:(x.fVars.length<=9223372036854775807/\∀ y∈x.fVars,ak.Ok y)
 P_fFunctions:(x.fFunctions.length<=9223372036854775807/\∀ y∈x.fFunctions,ah.Ok y)
 P_fTypes:(x.fTypes.length<=9223372036854775807/\∀ y∈x.fTypes,ac.Ok y)
theorem aB.ok_cells (x:aB) (h:∀ c∈GG.cells 31 x,∀ k,WfV GG k c):x.Ok:=by
 have h:∀ c∈([.sl (.st 207) x.fVars,.sl (.st 227) x.fFunctions,.sl (.st 230) x.fTypes]:List (V GG.S)),∀ k,WfV GG k c:=h
 exact ⟨⟨(cm (h (.sl (.st 207) x.fVars) (by simp))).1,fun y hy=>ak.ok_cells y ((cm (h (.sl (.st 207) x.fVars) (by simp))).2 y hy)⟩,⟨(cm (h (.sl (.st 227) x.fFunctions) (by simp))).1,fun y hy=>ah.ok_cells y ((cm (h (.sl (.st 227) x.fFunctions) (by simp))).2 y hy)⟩,⟨(cm (h (.sl (.st 230) x.fTypes) (by simp))).1,fun y hy=>ac.ok_cells y ((cm (h (.sl (.st 230) x.fTypes) (by simp))).2 y hy)⟩⟩
theorem aB.ok_of {x:aB} (h:∀ k,WfV GG k (inj GG (.st 31) x)):x.Ok:=aB.ok_cells x (iQ h)
theorem wu {xs:(List ak)} (hx:xs.length<=9223372036854775807)
  (hF:∀ y∈xs,∀ b:Int,0<=b->b<4611686018427387904->mc y b=some (aU b (ak.m y))) {b:Int} (h0:0<=b) (h1:b<4611686018427387904):
  m7 xs b=some (aU b (xs.length+aR ak.m xs)):=by
 rw [Be]
 obtain ⟨e1,e2⟩:=bZ (l:=xs) h0 h1 hx
 by_cases c:aU b xs.length<0
 ·simp only [e1.2 c,decide_true,if_true,eh c]
 ·rw [if_neg (by simpa using fun h=>c (e1.1 h)),e2 c,o9 hx (J:=iZ) (F:=mc) (m:=ak.m) (fun b i=>by rw [vL];try simp only [ai.re_eq,aK.re_eq,aa.re_eq,aj.re_eq,ap.re_eq,am.re_eq,aJ.re_eq,ak.re_eq,ah.re_eq,ac.re_eq,aB.re_eq,aE.re_eq,au.re_eq,ay.re_eq,ae.re_eq,aq.re_eq]) hF _ (aO c) (bz (by omega) h1),aP c]
theorem wv {xs:(List ak)} (hx:xs.length<=68719476736) (hF:∀ y∈xs,md y=some y):m8 xs=some xs:=by
 rw [Bg,pZ _ _ hx]
 simp only [Option.bind_some]
 exact pa (by omega) (J:=i7) (F:=md) (fun i zs=>by rw [vM];try simp only [ai.re_eq,aK.re_eq,aa.re_eq,aj.re_eq,ap.re_eq,am.re_eq,aJ.re_eq,ak.re_eq,ah.re_eq,ac.re_eq,aB.re_eq,aE.re_eq,au.re_eq,ay.re_eq,ae.re_eq,aq.re_eq]) hF _ (by simp)
theorem ww {xs:(List ak)} (hx:xs.length<=9223372036854775807) (hF:∀ y∈xs,mg y y=some true):m9 xs xs=some true:=by
 rw [Bi]
 simp only [bne_self_eq_false,Bool.false_eq_true,if_false]
 exact pb (by omega) (J:=i8) (F:=mg) (fun i=>by rw [vN];try simp only [ai.re_eq,aK.re_eq,aa.re_eq,aj.re_eq,ap.re_eq,am.re_eq,aJ.re_eq,ak.re_eq,ah.re_eq,ac.re_eq,aB.re_eq,aE.re_eq,au.re_eq,ay.re_eq,ae.re_eq,aq.re_eq]) hF
theorem Dm {xs:(List ah)} (hx:xs.length<=9223372036854775807)
  (hF:∀ y∈xs,∀ b:Int,0<=b->b<4611686018427387904->kB y b=some (aU b (ah.m y))) {b:Int} (h0:0<=b) (h1:b<4611686018427387904):
  pd xs b=some (aU b (xs.length+aR ah.m xs)):=by
 rw [zl]
 obtain ⟨e1,e2⟩:=bZ (l:=xs) h0 h1 hx
 by_cases c:aU b xs.length<0
 ·simp only [e1.2 c,decide_true,if_true,eh c]
 ·rw [if_neg (by simpa using fun h=>c (e1.1 h)),e2 c,o9 hx (J:=ij) (F:=kB) (m:=ah.m) (fun b i=>by rw [uj];try simp only [ai.re_eq,aK.re_eq,aa.re_eq,aj.re_eq,ap.re_eq,am.re_eq,aJ.re_eq,ak.re_eq,ah.re_eq,ac.re_eq,aB.re_eq,aE.re_eq,au.re_eq,ay.re_eq,ae.re_eq,aq.re_eq]) hF _ (aO c) (bz (by omega) h1),aP c]
theorem Dn {xs:(List ah)} (hx:xs.length<=68719476736) (hF:∀ y∈xs,kC y=some y):pf xs=some xs:=by
 rw [zo,pZ _ _ hx]
 simp only [Option.bind_some]
 exact pa (by omega) (J:=ik) (F:=kC) (fun i zs=>by rw [uk];try simp only [ai.re_eq,aK.re_eq,aa.re_eq,aj.re_eq,ap.re_eq,am.re_eq,aJ.re_eq,ak.re_eq,ah.re_eq,ac.re_eq,aB.re_eq,aE.re_eq,au.re_eq,ay.re_eq,ae.re_eq,aq.re_eq]) hF _ (by simp)
theorem Do {xs:(List ah)} (hx:xs.length<=9223372036854775807) (hF:∀ y∈xs,kE y y=some true):pk xs xs=some true:=by
 rw [zx]
 simp only [bne_self_eq_false,Bool.false_eq_true,if_false]
 exact pb (by omega) (J:=io) (F:=kE) (fun i=>by rw [up];try simp only [ai.re_eq,aK.re_eq,aa.re_eq,aj.re_eq,ap.re_eq,am.re_eq,aJ.re_eq,ak.re_eq,ah.re_eq,ac.re_eq,aB.re_eq,aE.re_eq,au.re_eq,ay.re_eq,ae.re_eq,aq.re_eq]) hF
theorem zU {xs:(List ac)} (hx:xs.length<=9223372036854775807)
  (hF:∀ y∈xs,∀ b:Int,0<=b->b<4611686018427387904->gY y b=some (aU b (ac.m y))) {b:Int} (h0:0<=b) (h1:b<4611686018427387904):
  l4 xs b=some (aU b (xs.length+aR ac.m xs)):=by
 rw [vI]
 obtain ⟨e1,e2⟩:=bZ (l:=xs) h0 h1 hx
 by_cases c:aU b xs.length<0
 ·simp only [e1.2 c,decide_true,if_true,eh c]
 ·rw [if_neg (by simpa using fun h=>c (e1.1 h)),e2 c,o9 hx (J:=fH) (F:=gY) (m:=ac.m) (fun b i=>by rw [qW];try simp only [ai.re_eq,aK.re_eq,aa.re_eq,aj.re_eq,ap.re_eq,am.re_eq,aJ.re_eq,ak.re_eq,ah.re_eq,ac.re_eq,aB.re_eq,aE.re_eq,au.re_eq,ay.re_eq,ae.re_eq,aq.re_eq]) hF _ (aO c) (bz (by omega) h1),aP c]
theorem zV {xs:(List ac)} (hx:xs.length<=68719476736) (hF:∀ y∈xs,gZ y=some y):l8 xs=some xs:=by
 rw [vJ,pZ _ _ hx]
 simp only [Option.bind_some]
 exact pa (by omega) (J:=fI) (F:=gZ) (fun i zs=>by rw [qX];try simp only [ai.re_eq,aK.re_eq,aa.re_eq,aj.re_eq,ap.re_eq,am.re_eq,aJ.re_eq,ak.re_eq,ah.re_eq,ac.re_eq,aB.re_eq,aE.re_eq,au.re_eq,ay.re_eq,ae.re_eq,aq.re_eq]) hF _ (by simp)
theorem zW {xs:(List ac)} (hx:xs.length<=9223372036854775807) (hF:∀ y∈xs,g9 y y=some true):ma xs xs=some true:=by
 rw [vK]
 simp only [bne_self_eq_false,Bool.false_eq_true,if_false]
 exact pb (by omega) (J:=fJ) (F:=g9) (fun i=>by rw [qZ];try simp only [ai.re_eq,aK.re_eq,aa.re_eq,aj.re_eq,ap.re_eq,am.re_eq,aJ.re_eq,ak.re_eq,ah.re_eq,ac.re_eq,aB.re_eq,aE.re_eq,au.re_eq,ay.re_eq,ae.re_eq,aq.re_eq]) hF
def aB.m (x:aB):Nat:=(x.fVars.length+aR ak.m x.fVars)+(x.fFunctions.length+aR ah.m x.fFunctions)+(x.fTypes.length+aR ac.m x.fTypes)
theorem aB.m_eq (x:aB):x.m=(x.fVars.length+aR ak.m x.fVars)+(x.fFunctions.length+aR ah.m x.fFunctions)+(x.fTypes.length+aR ac.m x.fTypes):=rfl
theorem K4 : ∀ x:aB,x.Ok->∀ b:Int,0<=b->b<4611686018427387904->AR x b=some (aU b x.m):=by
 intro x
 intro hok b h0 h1
 rw [GB]
 try simp only [ai.re_eq,aK.re_eq,aa.re_eq,aj.re_eq,ap.re_eq,am.re_eq,aJ.re_eq,ak.re_eq,ah.re_eq,ac.re_eq,aB.re_eq,aE.re_eq,au.re_eq,ay.re_eq,ae.re_eq,aq.re_eq]
 -- fVars
 rw [wu hok.P_fVars.1 (fun y hy b h0 h1=>yY y (hok.P_fVars.2 y hy) b h0 h1) h0 h1]
 simp only [Option.bind_some]
 by_cases c0:aU b ((x.fVars.length+aR ak.m x.fVars))<0
 ·simp only [c0,decide_true,if_true]
  rw [aM c0 (by rw [aB.m_eq];omega)]
 simp only [c0,decide_false,Bool.false_eq_true,if_false]
 -- fFunctions
 rw [Dm hok.P_fFunctions.1 (fun y hy b h0 h1=>Fv y (hok.P_fFunctions.2 y hy) b h0 h1) (aO c0) (bz (by omega) h1)]
 simp only [Option.bind_some]
 simp only [aP c0]
 by_cases c1:aU b ((x.fVars.length+aR ak.m x.fVars)+(x.fFunctions.length+aR ah.m x.fFunctions))<0
 ·simp only [c1,decide_true,if_true]
  rw [aM c1 (by rw [aB.m_eq];omega)]
 simp only [c1,decide_false,Bool.false_eq_true,if_false]
 -- fTypes
 rw [zU hok.P_fTypes.1 (fun y hy b h0 h1=>B4 y (hok.P_fTypes.2 y hy) b h0 h1) (aO c1) (bz (by omega) h1)]
 simp only [Option.bind_some]
 simp only [aP c1]
 by_cases c2:aU b ((x.fVars.length+aR ak.m x.fVars)+(x.fFunctions.length+aR ah.m x.fFunctions)+(x.fTypes.length+aR ac.m x.fTypes))<0
 ·simp only [c2,decide_true,if_true]
  rw [aM c2 (by rw [aB.m_eq];omega)]
 simp only [c2,decide_false,Bool.false_eq_true,if_false]
 try rw [aB.m_eq]
theorem K5 : ∀ x:aB,x.m<=1048576->AS x=some x:=by
 intro x
 intro hm
 have hq:=x.m_eq
 rw [GC]
 try simp only [ai.re_eq,aK.re_eq,aa.re_eq,aj.re_eq,ap.re_eq,am.re_eq,aJ.re_eq,ak.re_eq,ah.re_eq,ac.re_eq,aB.re_eq,aE.re_eq,au.re_eq,ay.re_eq,ae.re_eq,aq.re_eq]
 rw [wv (xs:=x.fVars) (by omega) fun y hy=>yZ y (by have:=bh (m:=ak.m) hy;omega)]
 simp only [Option.bind_some]
 rw [Dn (xs:=x.fFunctions) (by omega) fun y hy=>Fw y (by have:=bh (m:=ah.m) hy;omega)]
 simp only [Option.bind_some]
 rw [zV (xs:=x.fTypes) (by omega) fun y hy=>B5 y (by have:=bh (m:=ac.m) hy;omega)]
 simp only [Option.bind_some]
 try simp only [aB.eta,ai.re_eq,aK.re_eq,aa.re_eq,aj.re_eq,ap.re_eq,am.re_eq,aJ.re_eq,ak.re_eq,ah.re_eq,ac.re_eq,aB.re_eq,aE.re_eq,au.re_eq,ay.re_eq,ae.re_eq,aq.re_eq]
theorem K6 : ∀ x:aB,x.m<=1048576->AT x x=some true:=by
 intro x
 intro hm
 have hq:=x.m_eq
 rw [GD]
 try simp only [ai.re_eq,aK.re_eq,aa.re_eq,aj.re_eq,ap.re_eq,am.re_eq,aJ.re_eq,ak.re_eq,ah.re_eq,ac.re_eq,aB.re_eq,aE.re_eq,au.re_eq,ay.re_eq,ae.re_eq,aq.re_eq]
 rw [ww (xs:=x.fVars) (by omega) fun y hy=>y0 y (by have:=bh (m:=ak.m) hy;omega)]
 rw [Do (xs:=x.fFunctions) (by omega) fun y hy=>Fy y (by have:=bh (m:=ah.m) hy;omega)]
 rw [zW (xs:=x.fTypes) (by omega) fun y hy=>B6 y (by have:=bh (m:=ac.m) hy;omega)]
 simp
structure aE.Ok (x:aE):Prop where
 P_fName:x.fName.length<=9223372036854775807
 P_fLines:(x.fLines.length<=9223372036854775807/\∀ y∈x.fLines,y.length<=9223372036854775807)
 P_fMode:(-9223372036854775808<=x.fMode/\x.fMode<=9223372036854775807)
 P_fAt:(-9223372036854775808<=x.fAt/\x.fAt<=9223372036854775807)
theorem aE.ok_cells (x:aE) (h:∀ c∈GG.cells 233 x,∀ k,WfV GG k c):x.Ok:=by
 have h:∀ c∈([.str x.fName,.sl .str x.fLines,.int .i64 x.fMode,.int .i64 x.fAt]:List (V GG.S)),∀ k,WfV GG k c:=h
 exact ⟨dW (h (.str x.fName) (by simp) 1),⟨(cm (h (.sl .str x.fLines) (by simp))).1,fun y hy=>dW ((cm (h (.sl .str x.fLines) (by simp))).2 y hy (.str y) (by simp [Ty.cells,inj]) 1)⟩,cD (h (.int .i64 x.fMode) (by simp) 1),cD (h (.int .i64 x.fAt) (by simp) 1)⟩
theorem aE.ok_of {x:aE} (h:∀ k,WfV GG k (inj GG (.st 233) x)):x.Ok:=aE.ok_cells x (iQ h)
def aE.m (x:aE):Nat:=x.fName.length+(x.fLines.length+aR List.length x.fLines)
theorem aE.m_eq (x:aE):x.m=x.fName.length+(x.fLines.length+aR List.length x.fLines):=rfl
theorem Nm : ∀ x:aE,x.Ok->∀ b:Int,0<=b->b<4611686018427387904->vt x b=some (aU b x.m):=by
 intro x
 intro hok b h0 h1
 rw [IK]
 try simp only [ai.re_eq,aK.re_eq,aa.re_eq,aj.re_eq,ap.re_eq,am.re_eq,aJ.re_eq,ak.re_eq,ah.re_eq,ac.re_eq,aB.re_eq,aE.re_eq,au.re_eq,ay.re_eq,ae.re_eq,aq.re_eq]
 -- fName
 obtain ⟨e1,e2⟩:=bZ (b:=b) (l:=x.fName) h0 h1 hok.P_fName
 by_cases c0:aU b (x.fName.length)<0
 ·simp only [e1.2 c0,decide_true,if_true]
  rw [aM c0 (by rw [aE.m_eq];omega)]
 have e3:=mt e1.1 c0
 simp only [e3,e2 c0,c0,decide_false,Bool.false_eq_true,if_false]
 -- fLines
 rw [gf hok.P_fLines.1 hok.P_fLines.2 (aO c0) (bz (by omega) h1)]
 simp only [Option.bind_some]
 simp only [aP c0]
 by_cases c1:aU b (x.fName.length+(x.fLines.length+aR List.length x.fLines))<0
 ·simp only [c1,decide_true,if_true]
  rw [aM c1 (by rw [aE.m_eq];omega)]
 simp only [c1,decide_false,Bool.false_eq_true,if_false]
 try rw [aE.m_eq]
theorem Nn : ∀ x:aE,x.m<=1048576->vu x=some x:=by
 intro x
 intro hm
 have hq:=x.m_eq
 rw [IL]
 try simp only [ai.re_eq,aK.re_eq,aa.re_eq,aj.re_eq,ap.re_eq,am.re_eq,aJ.re_eq,ak.re_eq,ah.re_eq,ac.re_eq,aB.re_eq,aE.re_eq,au.re_eq,ay.re_eq,ae.re_eq,aq.re_eq]
 rw [gg (xs:=x.fLines) (by omega)]
 simp only [Option.bind_some]
 try simp only [aE.eta,ai.re_eq,aK.re_eq,aa.re_eq,aj.re_eq,ap.re_eq,am.re_eq,aJ.re_eq,ak.re_eq,ah.re_eq,ac.re_eq,aB.re_eq,aE.re_eq,au.re_eq,ay.re_eq,ae.re_eq,aq.re_eq]
theorem No : ∀ x:aE,x.m<=1048576->vw x x=some true:=by
 intro x
 intro hm
 have hq:=x.m_eq
 rw [IM]
 try simp only [ai.re_eq,aK.re_eq,aa.re_eq,aj.re_eq,ap.re_eq,am.re_eq,aJ.re_eq,ak.re_eq,ah.re_eq,ac.re_eq,aB.re_eq,aE.re_eq,au.re_eq,ay.re_eq,ae.re_eq,aq.re_eq]
 rw [gh (xs:=x.fLines) (by omega)]
 simp
structure au.Ok (x:au):Prop where
 P_fInput:(x.fInput.length<=9223372036854775807/\∀ y∈x.fInput,y.length<=9223372036854775807)
 P_fAt:(-9223372036854775808<=x.fAt/\x.fAt<=9223372036854775807)
 P_fOutput:(x.fOutput.length<=9223372036854775807/\∀ y∈x.fOutput,y.length<=9223372036854775807)
 P_fFiles:(x.fFiles.length<=9223372036854775807/\∀ y∈x.fFiles,aE.Ok y)
 P_fTrace:(x.fTrace.length<=9223372036854775807/\∀ y∈x.fTrace,y.length<=9223372036854775807)
theorem au.ok_cells (x:au) (h:∀ c∈GG.cells 35 x,∀ k,WfV GG k c):x.Ok:=by
 have h:∀ c∈([.sl .str x.fInput,.int .i64 x.fAt,.sl .str x.fOutput,.sl (.st 233) x.fFiles,.sl .str x.fTrace]:List (V GG.S)),∀ k,WfV GG k c:=h
 exact ⟨⟨(cm (h (.sl .str x.fInput) (by simp))).1,fun y hy=>dW ((cm (h (.sl .str x.fInput) (by simp))).2 y hy (.str y) (by simp [Ty.cells,inj]) 1)⟩,cD (h (.int .i64 x.fAt) (by simp) 1),⟨(cm (h (.sl .str x.fOutput) (by simp))).1,fun y hy=>dW ((cm (h (.sl .str x.fOutput) (by simp))).2 y hy (.str y) (by simp [Ty.cells,inj]) 1)⟩,⟨(cm (h (.sl (.st 233) x.fFiles) (by simp))).1,fun y hy=>aE.ok_cells y ((cm (h (.sl (.st 233) x.fFiles) (by simp))).2 y hy)⟩,⟨(cm (h (.sl .str x.fTrace) (by simp))).1,fun y hy=>dW ((cm (h (.sl .str x.fTrace) (by simp))).2 y hy (.str y) (by simp [Ty.cells,inj]) 1)⟩⟩
theorem au.ok_of {x:au} (h:∀ k,WfV GG k (inj GG (.st 35) x)):x.Ok:=au.ok_cells x (iQ h)
theorem K7 {xs:(List aE)} (hx:xs.length<=9223372036854775807)
  (hF:∀ y∈xs,∀ b:Int,0<=b->b<4611686018427387904->vt y b=some (aU b (aE.m y))) {b:Int} (h0:0<=b) (h1:b<4611686018427387904):
  AU xs b=some (aU b (xs.length+aR aE.m xs)):=by
 rw [GE]
 obtain ⟨e1,e2⟩:=bZ (l:=xs) h0 h1 hx
 by_cases c:aU b xs.length<0
 ·simp only [e1.2 c,decide_true,if_true,eh c]
 ·rw [if_neg (by simpa using fun h=>c (e1.1 h)),e2 c,o9 hx (J:=nd) (F:=vt) (m:=aE.m) (fun b i=>by rw [Bj];try simp only [ai.re_eq,aK.re_eq,aa.re_eq,aj.re_eq,ap.re_eq,am.re_eq,aJ.re_eq,ak.re_eq,ah.re_eq,ac.re_eq,aB.re_eq,aE.re_eq,au.re_eq,ay.re_eq,ae.re_eq,aq.re_eq]) hF _ (aO c) (bz (by omega) h1),aP c]
theorem K8 {xs:(List aE)} (hx:xs.length<=68719476736) (hF:∀ y∈xs,vu y=some y):AV xs=some xs:=by
 rw [GH,pZ _ _ hx]
 simp only [Option.bind_some]
 exact pa (by omega) (J:=ng) (F:=vu) (fun i zs=>by rw [Bk];try simp only [ai.re_eq,aK.re_eq,aa.re_eq,aj.re_eq,ap.re_eq,am.re_eq,aJ.re_eq,ak.re_eq,ah.re_eq,ac.re_eq,aB.re_eq,aE.re_eq,au.re_eq,ay.re_eq,ae.re_eq,aq.re_eq]) hF _ (by simp)
theorem K9 {xs:(List aE)} (hx:xs.length<=9223372036854775807) (hF:∀ y∈xs,vw y y=some true):AX xs xs=some true:=by
 rw [GK]
 simp only [bne_self_eq_false,Bool.false_eq_true,if_false]
 exact pb (by omega) (J:=ni) (F:=vw) (fun i=>by rw [Bn];try simp only [ai.re_eq,aK.re_eq,aa.re_eq,aj.re_eq,ap.re_eq,am.re_eq,aJ.re_eq,ak.re_eq,ah.re_eq,ac.re_eq,aB.re_eq,aE.re_eq,au.re_eq,ay.re_eq,ae.re_eq,aq.re_eq]) hF
def au.m (x:au):Nat:=(x.fInput.length+aR List.length x.fInput)+(x.fOutput.length+aR List.length x.fOutput)+(x.fFiles.length+aR aE.m x.fFiles)+(x.fTrace.length+aR List.length x.fTrace)
theorem au.m_eq (x:au):x.m=(x.fInput.length+aR List.length x.fInput)+(x.fOutput.length+aR List.length x.fOutput)+(x.fFiles.length+aR aE.m x.fFiles)+(x.fTrace.length+aR List.length x.fTrace):=rfl
theorem Hl : ∀ x:au,x.Ok->∀ b:Int,0<=b->b<4611686018427387904->tW x b=some (aU b x.m):=by
 intro x
 intro hok b h0 h1
 rw [CK]
 try simp only [ai.re_eq,aK.re_eq,aa.re_eq,aj.re_eq,ap.re_eq,am.re_eq,aJ.re_eq,ak.re_eq,ah.re_eq,ac.re_eq,aB.re_eq,aE.re_eq,au.re_eq,ay.re_eq,ae.re_eq,aq.re_eq]
 -- fInput
 rw [gf hok.P_fInput.1 hok.P_fInput.2 h0 h1]
 simp only [Option.bind_some]
 by_cases c0:aU b ((x.fInput.length+aR List.length x.fInput))<0
 ·simp only [c0,decide_true,if_true]
  rw [aM c0 (by rw [au.m_eq];omega)]
 simp only [c0,decide_false,Bool.false_eq_true,if_false]
 -- fOutput
 rw [gf hok.P_fOutput.1 hok.P_fOutput.2 (aO c0) (bz (by omega) h1)]
 simp only [Option.bind_some]
 simp only [aP c0]
 by_cases c1:aU b ((x.fInput.length+aR List.length x.fInput)+(x.fOutput.length+aR List.length x.fOutput))<0
 ·simp only [c1,decide_true,if_true]
  rw [aM c1 (by rw [au.m_eq];omega)]
 simp only [c1,decide_false,Bool.false_eq_true,if_false]
 -- fFiles
 rw [K7 hok.P_fFiles.1 (fun y hy b h0 h1=>Nm y (hok.P_fFiles.2 y hy) b h0 h1) (aO c1) (bz (by omega) h1)]
 simp only [Option.bind_some]
 simp only [aP c1]
 by_cases c2:aU b ((x.fInput.length+aR List.length x.fInput)+(x.fOutput.length+aR List.length x.fOutput)+(x.fFiles.length+aR aE.m x.fFiles))<0
 ·simp only [c2,decide_true,if_true]
  rw [aM c2 (by rw [au.m_eq];omega)]
 simp only [c2,decide_false,Bool.false_eq_true,if_false]
 -- fTrace
 rw [gf hok.P_fTrace.1 hok.P_fTrace.2 (aO c2) (bz (by omega) h1)]
 simp only [Option.bind_some]
 simp only [aP c2]
 by_cases c3:aU b ((x.fInput.length+aR List.length x.fInput)+(x.fOutput.length+aR List.length x.fOutput)+(x.fFiles.length+aR aE.m x.fFiles)+(x.fTrace.length+aR List.length x.fTrace))<0
 ·simp only [c3,decide_true,if_true]
  rw [aM c3 (by rw [au.m_eq];omega)]
 simp only [c3,decide_false,Bool.false_eq_true,if_false]
 try rw [au.m_eq]
theorem Hm : ∀ x:au,x.m<=1048576->tX x=some x:=by
 intro x
 intro hm
 have hq:=x.m_eq
 rw [CL]
 try simp only [ai.re_eq,aK.re_eq,aa.re_eq,aj.re_eq,ap.re_eq,am.re_eq,aJ.re_eq,ak.re_eq,ah.re_eq,ac.re_eq,aB.re_eq,aE.re_eq,au.re_eq,ay.re_eq,ae.re_eq,aq.re_eq]
 rw [gg (xs:=x.fInput) (by omega)]
 simp only [Option.bind_some]
 rw [gg (xs:=x.fOutput) (by omega)]
 simp only [Option.bind_some]
 rw [K8 (xs:=x.fFiles) (by omega) fun y hy=>Nn y (by have:=bh (m:=aE.m) hy;omega)]
 simp only [Option.bind_some]
 rw [gg (xs:=x.fTrace) (by omega)]
 simp only [Option.bind_some]
 try simp only [au.eta,ai.re_eq,aK.re_eq,aa.re_eq,aj.re_eq,ap.re_eq,am.re_eq,aJ.re_eq,ak.re_eq,ah.re_eq,ac.re_eq,aB.re_eq,aE.re_eq,au.re_eq,ay.re_eq,ae.re_eq,aq.re_eq]
theorem Hn : ∀ x:au,x.m<=1048576->tY x x=some true:=by
 intro x
 intro hm
 have hq:=x.m_eq
 rw [CM]
 try simp only [ai.re_eq,aK.re_eq,aa.re_eq,aj.re_eq,ap.re_eq,am.re_eq,aJ.re_eq,ak.re_eq,ah.re_eq,ac.re_eq,aB.re_eq,aE.re_eq,au.re_eq,ay.re_eq,ae.re_eq,aq.re_eq]
 rw [gh (xs:=x.fInput) (by omega)]
 rw [gh (xs:=x.fOutput) (by omega)]
 rw [K9 (xs:=x.fFiles) (by omega) fun y hy=>No y (by have:=bh (m:=aE.m) hy;omega)]
 rw [gh (xs:=x.fTrace) (by omega)]
 simp
structure ay.Ok (x:ay):Prop where
 P_fHeap:aJ.Ok x.fHeap
 P_fScope:aB.Ok x.fScope
 P_fConsole:au.Ok x.fConsole
theorem ay.ok_cells (x:ay) (h:∀ c∈GG.cells 37 x,∀ k,WfV GG k c):x.Ok:=by
 have h:∀ c∈([.int .i64 x.fHeap.fNext,.sl (.st 203) x.fHeap.fObjects,.sl (.st 207) x.fScope.fVars,.sl (.st 227) x.fScope.fFunctions,.sl (.st 230) x.fScope.fTypes,.sl .str x.fConsole.fInput,.int .i64 x.fConsole.fAt,.sl .str x.fConsole.fOutput,.sl (.st 233) x.fConsole.fFiles,.sl .str x.fConsole.fTrace]:List (V GG.S)),∀ k,WfV GG k c:=h
 have h_fHeap:∀ c∈([.int .i64 x.fHeap.fNext,.sl (.st 203) x.fHeap.fObjects]:List (V GG.S)),∀ k,WfV GG k c:=fun c hc=>h c (by simp only [List.mem_cons,List.not_mem_nil,or_false] at hc ⊢;rcases hc with rfl | rfl<;>simp)
 have h_fScope:∀ c∈([.sl (.st 207) x.fScope.fVars,.sl (.st 227) x.fScope.fFunctions,.sl (.st 230) x.fScope.fTypes]:List (V GG.S)),∀ k,WfV GG k c:=fun c hc=>h c (by simp only [List.mem_cons,List.not_mem_nil,or_false] at hc ⊢;rcases hc with rfl | rfl | rfl<;>simp)
 have h_fConsole:∀ c∈([.sl .str x.fConsole.fInput,.int .i64 x.fConsole.fAt,.sl .str x.fConsole.fOutput,.sl (.st 233) x.fConsole.fFiles,.sl .str x.fConsole.fTrace]:List (V GG.S)),∀ k,WfV GG k c:=fun c hc=>h c (by simp only [List.mem_cons,List.not_mem_nil,or_false] at hc ⊢;rcases hc with rfl | rfl | rfl | rfl | rfl<;>simp)
 exact ⟨aJ.ok_cells _ h_fHeap,aB.ok_cells _ h_fScope,au.ok_cells _ h_fConsole⟩
theorem ay.ok_of {x:ay} (h:∀ k,WfV GG k (inj GG (.st 37) x)):x.Ok:=ay.ok_cells x (iQ h)
def ay.m (x:ay):Nat:=aJ.m x.fHeap+aB.m x.fScope+au.m x.fConsole
theorem ay.m_eq (x:ay):x.m=aJ.m x.fHeap+aB.m x.fScope+au.m x.fConsole:=rfl
theorem I2 : ∀ x:ay,x.Ok->∀ b:Int,0<=b->b<4611686018427387904->wX x b=some (aU b x.m):=by
 intro x
 intro hok b h0 h1
 rw [EM]
 try simp only [ai.re_eq,aK.re_eq,aa.re_eq,aj.re_eq,ap.re_eq,am.re_eq,aJ.re_eq,ak.re_eq,ah.re_eq,ac.re_eq,aB.re_eq,aE.re_eq,au.re_eq,ay.re_eq,ae.re_eq,aq.re_eq]
 -- fHeap
 rw [Nj x.fHeap hok.P_fHeap b h0 h1]
 simp only [Option.bind_some]
 by_cases c0:aU b (aJ.m x.fHeap)<0
 ·simp only [c0,decide_true,if_true]
  rw [aM c0 (by rw [ay.m_eq];omega)]
 simp only [c0,decide_false,Bool.false_eq_true,if_false]
 -- fScope
 rw [K4 x.fScope hok.P_fScope (aU b (aJ.m x.fHeap)) (aO c0) (bz (by omega) h1)]
 simp only [Option.bind_some]
 simp only [aP c0]
 by_cases c1:aU b (aJ.m x.fHeap+aB.m x.fScope)<0
 ·simp only [c1,decide_true,if_true]
  rw [aM c1 (by rw [ay.m_eq];omega)]
 simp only [c1,decide_false,Bool.false_eq_true,if_false]
 -- fConsole
 rw [Hl x.fConsole hok.P_fConsole (aU b (aJ.m x.fHeap+aB.m x.fScope)) (aO c1) (bz (by omega) h1)]
 simp only [Option.bind_some]
 simp only [aP c1]
 by_cases c2:aU b (aJ.m x.fHeap+aB.m x.fScope+au.m x.fConsole)<0
 ·simp only [c2,decide_true,if_true]
  rw [aM c2 (by rw [ay.m_eq];omega)]
 simp only [c2,decide_false,Bool.false_eq_true,if_false]
 try rw [ay.m_eq]
theorem I3 : ∀ x:ay,x.m<=1048576->wY x=some x:=by
 intro x
 intro hm
 have hq:=x.m_eq
 rw [EO]
 try simp only [ai.re_eq,aK.re_eq,aa.re_eq,aj.re_eq,ap.re_eq,am.re_eq,aJ.re_eq,ak.re_eq,ah.re_eq,ac.re_eq,aB.re_eq,aE.re_eq,au.re_eq,ay.re_eq,ae.re_eq,aq.re_eq]
 rw [Nk x.fHeap (by omega)]
 simp only [Option.bind_some]
 rw [K5 x.fScope (by omega)]
 simp only [Option.bind_some]
 rw [Hm x.fConsole (by omega)]
 simp only [Option.bind_some]
 try simp only [ay.eta,ai.re_eq,aK.re_eq,aa.re_eq,aj.re_eq,ap.re_eq,am.re_eq,aJ.re_eq,ak.re_eq,ah.re_eq,ac.re_eq,aB.re_eq,aE.re_eq,au.re_eq,ay.re_eq,ae.re_eq,aq.re_eq]
theorem I4 : ∀ x:ay,x.m<=1048576->wZ x x=some true:=by
 intro x
 intro hm
 have hq:=x.m_eq
 rw [ER]
 try simp only [ai.re_eq,aK.re_eq,aa.re_eq,aj.re_eq,ap.re_eq,am.re_eq,aJ.re_eq,ak.re_eq,ah.re_eq,ac.re_eq,aB.re_eq,aE.re_eq,au.re_eq,ay.re_eq,ae.re_eq,aq.re_eq]
 rw [Nl x.fHeap (by omega)]
 rw [K6 x.fScope (by omega)]
 rw [Hn x.fConsole (by omega)]
 simp
structure ae.Ok (x:ae):Prop where
 P_fName:x.fName.length<=9223372036854775807
 P_fSaved:(x.fSaved.length<=9223372036854775807/\∀ y∈x.fSaved,ak.Ok y)
 P_fPC:(-9223372036854775808<=x.fPC/\x.fPC<=9223372036854775807)
 P_fBase:(-9223372036854775808<=x.fBase/\x.fBase<=9223372036854775807)
 P_fAt:(-9223372036854775808<=x.fAt/\x.fAt<=9223372036854775807)
theorem ae.ok_cells (x:ae) (h:∀ c∈GG.cells 109 x,∀ k,WfV GG k c):x.Ok:=by
 have h:∀ c∈([.str x.fName,.sl (.st 207) x.fSaved,.int .i64 x.fPC,.int .i64 x.fBase,.int .i64 x.fAt]:List (V GG.S)),∀ k,WfV GG k c:=h
 exact ⟨dW (h (.str x.fName) (by simp) 1),⟨(cm (h (.sl (.st 207) x.fSaved) (by simp))).1,fun y hy=>ak.ok_cells y ((cm (h (.sl (.st 207) x.fSaved) (by simp))).2 y hy)⟩,cD (h (.int .i64 x.fPC) (by simp) 1),cD (h (.int .i64 x.fBase) (by simp) 1),cD (h (.int .i64 x.fAt) (by simp) 1)⟩
theorem ae.ok_of {x:ae} (h:∀ k,WfV GG k (inj GG (.st 109) x)):x.Ok:=ae.ok_cells x (iQ h)
def ae.m (x:ae):Nat:=x.fName.length+(x.fSaved.length+aR ak.m x.fSaved)
theorem ae.m_eq (x:ae):x.m=x.fName.length+(x.fSaved.length+aR ak.m x.fSaved):=rfl
theorem Dp : ∀ x:ae,x.Ok->∀ b:Int,0<=b->b<4611686018427387904->iT x b=some (aU b x.m):=by
 intro x
 intro hok b h0 h1
 rw [zm]
 try simp only [ai.re_eq,aK.re_eq,aa.re_eq,aj.re_eq,ap.re_eq,am.re_eq,aJ.re_eq,ak.re_eq,ah.re_eq,ac.re_eq,aB.re_eq,aE.re_eq,au.re_eq,ay.re_eq,ae.re_eq,aq.re_eq]
 -- fName
 obtain ⟨e1,e2⟩:=bZ (b:=b) (l:=x.fName) h0 h1 hok.P_fName
 by_cases c0:aU b (x.fName.length)<0
 ·simp only [e1.2 c0,decide_true,if_true]
  rw [aM c0 (by rw [ae.m_eq];omega)]
 have e3:=mt e1.1 c0
 simp only [e3,e2 c0,c0,decide_false,Bool.false_eq_true,if_false]
 -- fSaved
 rw [wu hok.P_fSaved.1 (fun y hy b h0 h1=>yY y (hok.P_fSaved.2 y hy) b h0 h1) (aO c0) (bz (by omega) h1)]
 simp only [Option.bind_some]
 simp only [aP c0]
 by_cases c1:aU b (x.fName.length+(x.fSaved.length+aR ak.m x.fSaved))<0
 ·simp only [c1,decide_true,if_true]
  rw [aM c1 (by rw [ae.m_eq];omega)]
 simp only [c1,decide_false,Bool.false_eq_true,if_false]
 try rw [ae.m_eq]
theorem Dq : ∀ x:ae,x.m<=1048576->iV x=some x:=by
 intro x
 intro hm
 have hq:=x.m_eq
 rw [zp]
 try simp only [ai.re_eq,aK.re_eq,aa.re_eq,aj.re_eq,ap.re_eq,am.re_eq,aJ.re_eq,ak.re_eq,ah.re_eq,ac.re_eq,aB.re_eq,aE.re_eq,au.re_eq,ay.re_eq,ae.re_eq,aq.re_eq]
 rw [wv (xs:=x.fSaved) (by omega) fun y hy=>yZ y (by have:=bh (m:=ak.m) hy;omega)]
 simp only [Option.bind_some]
 try simp only [ae.eta,ai.re_eq,aK.re_eq,aa.re_eq,aj.re_eq,ap.re_eq,am.re_eq,aJ.re_eq,ak.re_eq,ah.re_eq,ac.re_eq,aB.re_eq,aE.re_eq,au.re_eq,ay.re_eq,ae.re_eq,aq.re_eq]
theorem Ds : ∀ x:ae,x.m<=1048576->iY x x=some true:=by
 intro x
 intro hm
 have hq:=x.m_eq
 rw [zy]
 try simp only [ai.re_eq,aK.re_eq,aa.re_eq,aj.re_eq,ap.re_eq,am.re_eq,aJ.re_eq,ak.re_eq,ah.re_eq,ac.re_eq,aB.re_eq,aE.re_eq,au.re_eq,ay.re_eq,ae.re_eq,aq.re_eq]
 rw [ww (xs:=x.fSaved) (by omega) fun y hy=>y0 y (by have:=bh (m:=ak.m) hy;omega)]
 simp
structure aq.Ok (x:aq):Prop where
 P_fStatus:(-9223372036854775808<=x.fStatus/\x.fStatus<=9223372036854775807)
 P_fCode:(-9223372036854775808<=x.fCode/\x.fCode<=9223372036854775807)
 P_fMemory:ay.Ok x.fMemory
 P_fStack:(x.fStack.length<=9223372036854775807/\∀ y∈x.fStack,ap.Ok y)
 P_fFrames:(x.fFrames.length<=9223372036854775807/\∀ y∈x.fFrames,ae.Ok y)
 P_fPC:(-9223372036854775808<=x.fPC/\x.fPC<=9223372036854775807)
 P_fBase:(-9223372036854775808<=x.fBase/\x.fBase<=9223372036854775807)
 P_fAt:(-9223372036854775808<=x.fAt/\x.fAt<=9223372036854775807)
 P_fSteps:(-9223372036854775808<=x.fSteps/\x.fSteps<=9223372036854775807)
 P_fFuel:(-9223372036854775808<=x.fFuel/\x.fFuel<=9223372036854775807)
theorem aq.ok_cells (x:aq) (h:∀ c∈GG.cells 41 x,∀ k,WfV GG k c):x.Ok:=by
 have h:∀ c∈([.int .i64 x.fStatus,.int .i64 x.fCode,.int .i64 x.fMemory.fHeap.fNext,.sl (.st 203) x.fMemory.fHeap.fObjects,.sl (.st 207) x.fMemory.fScope.fVars,.sl (.st 227) x.fMemory.fScope.fFunctions,.sl (.st 230) x.fMemory.fScope.fTypes,.sl .str x.fMemory.fConsole.fInput,.int .i64 x.fMemory.fConsole.fAt,.sl .str x.fMemory.fConsole.fOutput,.sl (.st 233) x.fMemory.fConsole.fFiles,.sl .str x.fMemory.fConsole.fTrace,.sl (.st 106) x.fStack,.sl (.st 109) x.fFrames,.int .i64 x.fPC,.int .i64 x.fBase,.int .i64 x.fAt,.int .i64 x.fSteps,.int .i64 x.fFuel]:List (V GG.S)),∀ k,WfV GG k c:=h
 have h_fMemory:∀ c∈([.int .i64 x.fMemory.fHeap.fNext,.sl (.st 203) x.fMemory.fHeap.fObjects,.sl (.st 207) x.fMemory.fScope.fVars,.sl (.st 227) x.fMemory.fScope.fFunctions,.sl (.st 230) x.fMemory.fScope.fTypes,.sl .str x.fMemory.fConsole.fInput,.int .i64 x.fMemory.fConsole.fAt,.sl .str x.fMemory.fConsole.fOutput,.sl (.st 233) x.fMemory.fConsole.fFiles,.sl .str x.fMemory.fConsole.fTrace]:List (V GG.S)),∀ k,WfV GG k c:=fun c hc=>h c (by simp only [List.mem_cons,List.not_mem_nil,or_false] at hc ⊢;rcases hc with rfl | rfl | rfl | rfl | rfl | rfl | rfl | rfl | rfl | rfl<;>simp)
 exact ⟨cD (h (.int .i64 x.fStatus) (by simp) 1),cD (h (.int .i64 x.fCode) (by simp) 1),ay.ok_cells _ h_fMemory,⟨(cm (h (.sl (.st 106) x.fStack) (by simp))).1,fun y hy=>ap.ok_cells y ((cm (h (.sl (.st 106) x.fStack) (by simp))).2 y hy)⟩,⟨(cm (h (.sl (.st 109) x.fFrames) (by simp))).1,fun y hy=>ae.ok_cells y ((cm (h (.sl (.st 109) x.fFrames) (by simp))).2 y hy)⟩,cD (h (.int .i64 x.fPC) (by simp) 1),cD (h (.int .i64 x.fBase) (by simp) 1),cD (h (.int .i64 x.fAt) (by simp) 1),cD (h (.int .i64 x.fSteps) (by simp) 1),cD (h (.int .i64 x.fFuel) (by simp) 1)⟩
theorem aq.ok_of {x:aq} (h:∀ k,WfV GG k (inj GG (.st 41) x)):x.Ok:=aq.ok_cells x (iQ h)
theorem B7 {xs:(List ae)} (hx:xs.length<=9223372036854775807)
  (hF:∀ y∈xs,∀ b:Int,0<=b->b<4611686018427387904->iT y b=some (aU b (ae.m y))) {b:Int} (h0:0<=b) (h1:b<4611686018427387904):
  nP xs b=some (aU b (xs.length+aR ae.m xs)):=by
 rw [xk]
 obtain ⟨e1,e2⟩:=bZ (l:=xs) h0 h1 hx
 by_cases c:aU b xs.length<0
 ·simp only [e1.2 c,decide_true,if_true,eh c]
 ·rw [if_neg (by simpa using fun h=>c (e1.1 h)),e2 c,o9 hx (J:=gk) (F:=iT) (m:=ae.m) (fun b i=>by rw [sP];try simp only [ai.re_eq,aK.re_eq,aa.re_eq,aj.re_eq,ap.re_eq,am.re_eq,aJ.re_eq,ak.re_eq,ah.re_eq,ac.re_eq,aB.re_eq,aE.re_eq,au.re_eq,ay.re_eq,ae.re_eq,aq.re_eq]) hF _ (aO c) (bz (by omega) h1),aP c]
theorem B8 {xs:(List ae)} (hx:xs.length<=68719476736) (hF:∀ y∈xs,iV y=some y):nR xs=some xs:=by
 rw [xm,pZ _ _ hx]
 simp only [Option.bind_some]
 exact pa (by omega) (J:=gm) (F:=iV) (fun i zs=>by rw [sR];try simp only [ai.re_eq,aK.re_eq,aa.re_eq,aj.re_eq,ap.re_eq,am.re_eq,aJ.re_eq,ak.re_eq,ah.re_eq,ac.re_eq,aB.re_eq,aE.re_eq,au.re_eq,ay.re_eq,ae.re_eq,aq.re_eq]) hF _ (by simp)
theorem B9 {xs:(List ae)} (hx:xs.length<=9223372036854775807) (hF:∀ y∈xs,iY y y=some true):nV xs xs=some true:=by
 rw [xr]
 simp only [bne_self_eq_false,Bool.false_eq_true,if_false]
 exact pb (by omega) (J:=gq) (F:=iY) (fun i=>by rw [sT];try simp only [ai.re_eq,aK.re_eq,aa.re_eq,aj.re_eq,ap.re_eq,am.re_eq,aJ.re_eq,ak.re_eq,ah.re_eq,ac.re_eq,aB.re_eq,aE.re_eq,au.re_eq,ay.re_eq,ae.re_eq,aq.re_eq]) hF
def aq.m (x:aq):Nat:=ay.m x.fMemory+(x.fStack.length+aR ap.m x.fStack)+(x.fFrames.length+aR ae.m x.fFrames)
theorem aq.m_eq (x:aq):x.m=ay.m x.fMemory+(x.fStack.length+aR ap.m x.fStack)+(x.fFrames.length+aR ae.m x.fFrames):=rfl
theorem Ho : ∀ x:aq,x.Ok->∀ b:Int,0<=b->b<4611686018427387904->tT x b=some (aU b x.m):=by
 intro x
 intro hok b h0 h1
 rw [CF]
 try simp only [ai.re_eq,aK.re_eq,aa.re_eq,aj.re_eq,ap.re_eq,am.re_eq,aJ.re_eq,ak.re_eq,ah.re_eq,ac.re_eq,aB.re_eq,aE.re_eq,au.re_eq,ay.re_eq,ae.re_eq,aq.re_eq]
 -- fMemory
 rw [I2 x.fMemory hok.P_fMemory b h0 h1]
 simp only [Option.bind_some]
 by_cases c0:aU b (ay.m x.fMemory)<0
 ·simp only [c0,decide_true,if_true]
  rw [aM c0 (by rw [aq.m_eq];omega)]
 simp only [c0,decide_false,Bool.false_eq_true,if_false]
 -- fStack
 rw [uO hok.P_fStack.1 (fun y hy b h0 h1=>oT y (hok.P_fStack.2 y hy) b h0 h1) (aO c0) (bz (by omega) h1)]
 simp only [Option.bind_some]
 simp only [aP c0]
 by_cases c1:aU b (ay.m x.fMemory+(x.fStack.length+aR ap.m x.fStack))<0
 ·simp only [c1,decide_true,if_true]
  rw [aM c1 (by rw [aq.m_eq];omega)]
 simp only [c1,decide_false,Bool.false_eq_true,if_false]
 -- fFrames
 rw [B7 hok.P_fFrames.1 (fun y hy b h0 h1=>Dp y (hok.P_fFrames.2 y hy) b h0 h1) (aO c1) (bz (by omega) h1)]
 simp only [Option.bind_some]
 simp only [aP c1]
 by_cases c2:aU b (ay.m x.fMemory+(x.fStack.length+aR ap.m x.fStack)+(x.fFrames.length+aR ae.m x.fFrames))<0
 ·simp only [c2,decide_true,if_true]
  rw [aM c2 (by rw [aq.m_eq];omega)]
 simp only [c2,decide_false,Bool.false_eq_true,if_false]
 try rw [aq.m_eq]
theorem Hp : ∀ x:aq,x.m<=1048576->l0 x=some x:=by
 intro x
 intro hm
 have hq:=x.m_eq
 rw [CH]
 try simp only [ai.re_eq,aK.re_eq,aa.re_eq,aj.re_eq,ap.re_eq,am.re_eq,aJ.re_eq,ak.re_eq,ah.re_eq,ac.re_eq,aB.re_eq,aE.re_eq,au.re_eq,ay.re_eq,ae.re_eq,aq.re_eq]
 rw [I3 x.fMemory (by omega)]
 simp only [Option.bind_some]
 rw [uP (xs:=x.fStack) (by omega) fun y hy=>oU y (by have:=bh (m:=ap.m) hy;omega)]
 simp only [Option.bind_some]
 rw [B8 (xs:=x.fFrames) (by omega) fun y hy=>Dq y (by have:=bh (m:=ae.m) hy;omega)]
 simp only [Option.bind_some]
 try simp only [aq.eta,ai.re_eq,aK.re_eq,aa.re_eq,aj.re_eq,ap.re_eq,am.re_eq,aJ.re_eq,ak.re_eq,ah.re_eq,ac.re_eq,aB.re_eq,aE.re_eq,au.re_eq,ay.re_eq,ae.re_eq,aq.re_eq]
theorem Hq : ∀ x:aq,x.m<=1048576->tV x x=some true:=by
 intro x
 intro hm
 have hq:=x.m_eq
 rw [CJ]
 try simp only [ai.re_eq,aK.re_eq,aa.re_eq,aj.re_eq,ap.re_eq,am.re_eq,aJ.re_eq,ak.re_eq,ah.re_eq,ac.re_eq,aB.re_eq,aE.re_eq,au.re_eq,ay.re_eq,ae.re_eq,aq.re_eq]
 rw [I4 x.fMemory (by omega)]
 rw [uQ (xs:=x.fStack) (by omega) fun y hy=>oV y (by have:=bh (m:=ap.m) hy;omega)]
 rw [B9 (xs:=x.fFrames) (by omega) fun y hy=>Ds y (by have:=bh (m:=ae.m) hy;omega)]
 simp
structure av.Ok (x:av):Prop where
 P_fOp:(-9223372036854775808<=x.fOp/\x.fOp<=9223372036854775807)
 P_fA:(-9223372036854775808<=x.fA/\x.fA<=9223372036854775807)
 P_fText:x.fText.length<=9223372036854775807
theorem av.ok_cells (x:av) (h:∀ c∈GG.cells 128 x,∀ k,WfV GG k c):x.Ok:=by
 have h:∀ c∈([.int .i64 x.fOp,.int .i64 x.fA,.str x.fText]:List (V GG.S)),∀ k,WfV GG k c:=h
 exact ⟨cD (h (.int .i64 x.fOp) (by simp) 1),cD (h (.int .i64 x.fA) (by simp) 1),dW (h (.str x.fText) (by simp) 1)⟩
theorem av.ok_of {x:av} (h:∀ k,WfV GG k (inj GG (.st 128) x)):x.Ok:=av.ok_cells x (iQ h)
structure b9.Ok (x:b9):Prop where
 P_fInstrs:(x.fInstrs.length<=9223372036854775807/\∀ y∈x.fInstrs,av.Ok y)
 P_fEntries:(x.fEntries.length<=9223372036854775807/\∀ y∈x.fEntries,(-9223372036854775808<=y/\y<=9223372036854775807))
 P_fFails:(x.fFails.length<=9223372036854775807/\∀ y∈x.fFails,(-9223372036854775808<=y/\y<=9223372036854775807))
theorem b9.ok_cells (x:b9) (h:∀ c∈GG.cells 79 x,∀ k,WfV GG k c):x.Ok:=by
 have h:∀ c∈([.sl (.st 128) x.fInstrs,.sl (.int .i64) x.fEntries,.sl (.int .i64) x.fFails]:List (V GG.S)),∀ k,WfV GG k c:=h
 exact ⟨⟨(cm (h (.sl (.st 128) x.fInstrs) (by simp))).1,fun y hy=>av.ok_cells y ((cm (h (.sl (.st 128) x.fInstrs) (by simp))).2 y hy)⟩,⟨(cm (h (.sl (.int .i64) x.fEntries) (by simp))).1,fun y hy=>cD ((cm (h (.sl (.int .i64) x.fEntries) (by simp))).2 y hy (.int .i64 y) (by simp [Ty.cells,inj]) 1)⟩,⟨(cm (h (.sl (.int .i64) x.fFails) (by simp))).1,fun y hy=>cD ((cm (h (.sl (.int .i64) x.fFails) (by simp))).2 y hy (.int .i64 y) (by simp [Ty.cells,inj]) 1)⟩⟩
theorem b9.ok_of {x:b9} (h:∀ k,WfV GG k (inj GG (.st 79) x)):x.Ok:=b9.ok_cells x (iQ h)
structure aN.Ok (x:aN):Prop where
 P_fKind:(-9223372036854775808<=x.fKind/\x.fKind<=9223372036854775807)
 P_fNum:(-9223372036854775808<=x.fNum/\x.fNum<=9223372036854775807)
 P_fText:x.fText.length<=9223372036854775807
theorem aN.ok_cells (x:aN) (h:∀ c∈GG.cells 267 x,∀ k,WfV GG k c):x.Ok:=by
 have h:∀ c∈([.int .i64 x.fKind,.int .i64 x.fNum,.str x.fText,.bool x.fBefore,.bool x.fAfter]:List (V GG.S)),∀ k,WfV GG k c:=h
 exact ⟨cD (h (.int .i64 x.fKind) (by simp) 1),cD (h (.int .i64 x.fNum) (by simp) 1),dW (h (.str x.fText) (by simp) 1)⟩
theorem aN.ok_of {x:aN} (h:∀ k,WfV GG k (inj GG (.st 267) x)):x.Ok:=aN.ok_cells x (iQ h)
end Go.Dv.U

namespace Go.Dv
open Go
def Fz {α:Type} (c:α->Nat->Bool):List α->Nat->Bool
 | [],_=>true
 | y:: r,i=>c y i&&Fz c r (i+1)
theorem J8 {α:Type} {p:α->Bool} {c:α->Nat->Bool}:∀ (l:List α) (i:Nat),Fz (fun y i=>p y&&c y i) l i=(l.all p&&Fz c l i)
 | [],_=>rfl
 | y:: r,i=>by
  simp only [Fz,List.all_cons,J8 r (i+1)]
  cases p y<;>cases c y i<;>cases r.all p<;>simp
theorem mE {α:Type} {xs:List α} (hx:xs.length<=9223372036854775807) {c:α->Nat->Bool} {J:Int->Option Bool}
  (hs:∀ (i:Nat) (y:α),i<xs.length->y∈xs->idx xs (i:Int)=some y->w64 ((i:Int)+1)=((i+1:Nat):Int)->J (i:Int)=if c y i=true then J ((i+1:Nat):Int) else some false):
  J 0=if Fz c xs 0=true then J (xs.length:Int) else some false:=by
 refine cB hx (P:=fun i l=>J (i:Int)=if Fz c l i=true then J (xs.length:Int) else some false) ?_ ?_
 ·simp [Fz]
 ·intro i y l _ hlt hy hi hw ih
  rw [hs i y hlt hy hi hw]
  have hg:Fz c (y:: l) i=(c y i&&Fz c l (i+1)):=rfl
  by_cases hc:c y i=true
  ·rw [if_pos hc,ih]
   by_cases h2:Fz c l (i+1)=true
   ·rw [if_pos h2,if_pos (by rw [hg,hc,h2];rfl)]
   ·rw [if_neg h2,if_neg (by rw [hg,hc];simpa using h2)]
  ·rw [if_neg hc,if_neg (by rw [hg];simp [hc])]
def ixF {α:Type} (p:α->Bool):List α->Nat->Int
 | [],_=>-1
 | y:: r,i=>if p y=true then (i:Int) else ixF p r (i+1)
theorem FA {α:Type} {xs:List α} (hx:xs.length<=9223372036854775807) {p:α->Bool} {J:Int->Option Int}
  (hs:∀ (i:Nat) (y:α),i<xs.length->y∈xs->idx xs (i:Int)=some y->w64 ((i:Int)+1)=((i+1:Nat):Int)->J (i:Int)=if p y=true then some (i:Int) else J ((i+1:Nat):Int))
  (he:J (xs.length:Int)=some (-1)):J 0=some (ixF p xs 0):=by
 refine cB hx (P:=fun i l=>J (i:Int)=some (ixF p l i)) ?_ ?_
 ·rw [he];rfl
 ·intro i y l _ hlt hy hi hw ih
  rw [hs i y hlt hy hi hw]
  by_cases hc:p y=true
  ·rw [if_pos hc];simp [ixF,hc]
  ·rw [if_neg hc,ih];simp [ixF,hc]
theorem sG {α β γ:Type} {xs:List α} (hx:xs.length<=9223372036854775807) {f:α->List β} {B:Nat} {J:Int->List β->Option γ}
  (hs:∀ (i:Nat) (y:α) (a:List β),i<xs.length->y∈xs->idx xs (i:Int)=some y->w64 ((i:Int)+1)=((i+1:Nat):Int)->a.length+(f y).length<=B->J (i:Int) a=J ((i+1:Nat):Int) (a++f y))
  (hb:(xs.flatMap f).length<=B):J 0 []=J (xs.length:Int) (xs.flatMap f):=by
 have key:=cB hx (P:=fun i l=>∀ a:List β,a.length+(l.flatMap f).length<=B->J (i:Int) a=J (xs.length:Int) (a++l.flatMap f)) (by
  intro a _
  simp) (by
  intro i y l _ hlt hy hi hw ih a ha
  simp only [List.flatMap_cons,List.length_append] at ha
  rw [hs i y a hlt hy hi hw (by omega),ih (a++f y) (by simp only [List.length_append];omega)]
  simp only [List.flatMap_cons,List.append_assoc]) [] (by simpa using hb)
 simpa using key
theorem La (s:List UInt8):qr (s.map ib)=some s:=by
 unfold qr
 have h:((s.map ib).all fun n=>decide (0<=n)&&decide (n<256))=true:=by
  simp only [List.all_map,List.all_eq_true]
  intro x _
  simp [SU x,M7 x]
 rw [if_pos h,List.map_map]
 congr 1
 conv=>rhs;rw [<-List.map_id s]
 apply List.map_congr_left
 intro x _
 simp only [Function.comp,id,ib,Int.ofNat_eq_natCast,Int.toNat_natCast]
 exact UInt8.ofNat_toNat
end Go.Dv

namespace Go.Dv.U
open Go Go.Dv Go.Proofs
theorem dw (a b c:Int):cY a b c=some (decide (b<=a)&&decide (a<=c)):=by
 rw [IC];grind
theorem ef (a b c:Int):dX a b c=some (decide (b<=a)&&decide (a<=c)):=by
 rw [KT];grind
end Go.Dv.U

namespace Go.Dv.U
open Go Go.Dv Go.Proofs
def uR (b:Int):Bool:=(decide (65<=b)&&decide (b<=90))||(decide (97<=b)&&decide (b<=122))
def eX (b:Int):Bool:=decide (48<=b)&&decide (b<=57)
def kR (b:Int):Bool:=uR b||eX b||b==95
theorem pP (b:Int):oJ b=some (uR b):=by
 rw [Fc];unfold uR;grind
theorem oj (b:Int):mo b=some (uR b):=by
 rw [C7];unfold uR;grind
theorem rK (b:Int):qR b=some (eX b):=by
 rw [Hc];unfold eX;grind
theorem pQ (b:Int):oL b=some (eX b):=by
 rw [Ff];unfold eX;grind
theorem rL (b:Int):kK b=some (kR b):=by
 rw [BT,pP,rK];unfold kR
 simp only [Option.bind_some];grind
def bg (s:List UInt8):Bool:=match s with
 | []=>false
 | b:: _=>decide (s.length<=12)&&uR (ib b)&&s.all fun c=>kR (ib c)
theorem FB {s:List UInt8} (h:s.length<=9223372036854775807):dT (s.map ib)=some (s.all fun c=>kR (ib c)):=by
 rw [kO]
 have:=cP (xs:=s.map ib) (by simpa using h) (F:=kK) (p:=kR) (J:=cn (s.map ib) (len (s.map ib))) (fun i=>by rw [jq]) (fun y _=>rL y)
 rw [this,List.all_map]
 rfl
theorem dx {s:List UInt8}:di s=some (bg s):=by
 rw [IP]
 cases s with
 | nil=>simp [bg,aw]
 | cons b r=>
  by_cases h:(b:: r).length<=12
  ·have h1:decide (len (b:: r)>=1)=true:=by simp only [aw,List.length_cons,decide_eq_true_eq];omega
   have h2:decide (len (b:: r)<=12)=true:=by simp only [aw,decide_eq_true_eq];omega
   rw [if_pos h1,if_pos h2,mZ]
   simp only [List.getElem?_cons_zero,Option.bind_some,pP]
   have:=FB (s:=b:: r) (by omega)
   simp only [List.map_cons] at this ⊢
   rw [this]
   simp only [bg,h,decide_true,Bool.true_and,Option.bind_some]
   cases uR (ib b)<;>simp
  ·have h2:¬ decide (len (b:: r)<=12)=true:=by simp only [aw,decide_eq_true_eq];omega
   rw [if_neg h2]
   simp only [bg,h,decide_false,Bool.false_and]
   split<;>rfl
def Dt : List UInt8->Nat
 | []=>0
 | b:: r=>if kR (ib b) then Dt r+1 else 0
theorem Hr : ∀ s,Dt s=s.length↔(s.all fun c=>kR (ib c))=true
 | []=>by simp [Dt]
 | b:: r=>by
  have:=Hr r
  simp only [Dt,List.length_cons,List.all_cons,Bool.and_eq_true]
  cases kR (ib b)
  ·simp
  ·simp [this]
theorem wx {s:List UInt8} (h:s.length<=9223372036854775807):∀ (n i:Nat),i+n=s.length->jk s i=some ((i+Dt (s.drop i):Nat):Int):=by
 intro n
 induction n with
 | zero=>
  intro i hi
  have:i=s.length:=by omega
  subst this
  rw [nE,nF,List.drop_length]
  simp [aw,Dt]
 | succ n ih=>
  intro i hi
  have hlt:i<s.length:=by omega
  have hc:decide ((i:Int)<len s)=true:=by simp [aw,hlt]
  rw [nE,if_pos hc,aZ,List.getElem?_eq_getElem hlt,List.drop_eq_getElem_cons hlt]
  simp only [Option.bind_some,oj,pQ,wc,nF,Dt]
  have hw:w64 ((i:Int)+1)=((i+1:Nat):Int):=by rw [aT (by omega) (by omega)];omega
  rw [hw,ih (i+1) (by omega)]
  unfold kR
  cases uR (ib s[i])<;>cases eX (ib s[i])<;>cases hb:(ib s[i]==95)<;>simp<;>omega
theorem rM {s:List UInt8} (h:s.length<=9223372036854775807) {i:Nat} (hi:i<=s.length):
  nu s i=some (match s.drop i with
   | []=>(i:Int)
   | b:: r=>if uR (ib b) then ((i+Dt (b:: r):Nat):Int) else i):=by
 rw [BG]
 by_cases hlt:i<s.length
 ·have hc:¬ decide ((i:Int)>=len s)=true:=by simp only [aw,decide_eq_true_eq];omega
  rw [if_neg hc,aZ,List.getElem?_eq_getElem hlt,List.drop_eq_getElem_cons hlt]
  simp only [Option.bind_some,oj]
  rw [wx h (s.length-i) i (by omega),List.drop_eq_getElem_cons hlt]
  cases uR (ib s[i])<;>simp
 ·have:i=s.length:=by omega
  subst this
  rw [List.drop_length]
  simp [aw]
theorem dy {s:List UInt8}:em s=some (bg s):=by
 rw [IN]
 cases s with
 | nil=>simp [bg]
 | cons b r=>
  have h0:(!(b:: r)==[])=true:=rfl
  rw [if_pos h0]
  by_cases h:(b:: r).length<=12
  ·have h2:decide (len (b:: r)<=12)=true:=by simp only [aw,decide_eq_true_eq];omega
   have:=rM (s:=b:: r) (by omega) (Nat.zero_le _)
   simp only [Int.natCast_zero,List.drop_zero,Nat.zero_add] at this
   rw [if_pos h2,this]
   simp only [bg,h,decide_true,Bool.true_and,Option.bind_some,aw]
   congr 1
   rw [Bool.eq_iff_iff,Bool.and_eq_true,<-Hr]
   cases hL:uR (ib b)
   ·simp;omega
   ·simp;omega
  ·have h2:¬ decide (len (b:: r)<=12)=true:=by simp only [aw,decide_eq_true_eq];omega
   rw [if_neg h2]
   simp only [bg,h,decide_false,Bool.false_and]
end Go.Dv.U

namespace Go.Dv.U
open Go Go.Dv Go.Proofs
def SW (b:UInt8):Bool:=decide (32<=ib b)&&decide (ib b<=126)
def FC (s:List UInt8):Bool:=s.all SW
def hasB (c:Int) (s:List UInt8):Bool:=s.any fun b=>ib b==c
theorem Hs (b:Int):vH b=some (decide (32<=b)&&decide (b<=126)):=by
 rw [He];grind
theorem qd {s:List UInt8} (h:s.length<=9223372036854775807):lL s=some (FC s):=by
 rw [zT,mC]
 have:=cP (xs:=s.map ib) (by simpa using h) (F:=vH) (p:=fun b=>decide (32<=b)&&decide (b<=126)) (J:=cR (s.map ib) (len (s.map ib))) (fun i=>by rw [kQ]) (fun y _=>Hs y)
 rw [this,List.all_map]
 rfl
def SD (x:Bool) (b:UInt8):Bool:=SW b||(x&&ib b==10)
theorem s_l01Printable_ok' {s:List UInt8} (h:s.length<=9223372036854775807) (x:Bool):g7 s x=some (s.all (SD x)):=by
 rw [xG]
 refine cB (xs:=s) h (P:=fun i l=>gA s x i=some (l.all (SD x))) ?_ ?_
 ·rw [lu];simp [aw]
 ·intro i y l _ hlt hy hi hw ih
  rw [lu,hi,if_pos (by simp [aw,hlt])]
  simp only [Option.bind_some,s0,s3,hw,ih,List.all_cons,SD,SW]
  by_cases h1:ib y<32
  ·have h3:¬ (32<=ib y):=by omega
   cases x<;>by_cases h2:ib y=10<;>simp [h1,h2,h3]
  ·have h3:32<=ib y:=by omega
   by_cases h2:ib y>126
   ·have h4:¬ (ib y<=126):=by omega
    have h5:¬ ib y=10:=by omega
    cases x<;>simp [h1,h2,h3,h4,h5]
   ·have h4:ib y<=126:=by omega
    cases x<;>simp [h1,h2,h3,h4]
theorem oW {s:List UInt8} (h:s.length<=9223372036854775807):g7 s false=some (FC s):=by
 rw [s_l01Printable_ok' h]
 congr 1
 unfold FC
 congr 1
 funext b
 simp [SD]
theorem pR {s:List UInt8} (h:s.length<=9223372036854775807) (c:Int):oH s c=some (hasB c s):=by
 rw [E4]
 exact OU h (p:=fun b=>ib b==c) (J:=lH s c) (fun i=>by rw [zO])
theorem Ht (c:UInt8):∀ s:List UInt8,decide (0<=Lib.index s [c])=hasB (ib c) s
 | []=>by simp [Lib.index,hasB]
 | b:: l=>by
  have ih:=Ht c l
  have hge:=Lib.index_ge l [c]
  unfold Lib.index
  have hp:[c].isPrefixOf (b:: l)=(ib b==ib c):=by
   rw [Bool.eq_iff_iff]
   simp only [List.isPrefixOf,Bool.and_true,beq_iff_eq,QV]
   exact eq_comm
  have hh:hasB (ib c) (b:: l)=(ib b==ib c||hasB (ib c) l):=rfl
  rw [hp,hh,<-ih]
  cases (ib b==ib c)
  ·simp only [Bool.false_eq_true,if_false,Bool.false_or]
   split
   ·rename_i h;rw [beq_iff_eq] at h;rw [h]
   ·rename_i h
    have h:¬ Lib.index l [c] = -1:=by simpa using h
    rw [Bool.eq_iff_iff,decide_eq_true_eq,decide_eq_true_eq];omega
  ·simp
theorem wy {s:List UInt8} (h:s.length<4294967281) (c:UInt8):iP s [c]=some (hasB (ib c) s):=by
 unfold iP
 rw [if_pos h,<-Ht]
 rfl
def Lb (s:List UInt8):Bool:=decide (s.length<=200)&&FC s&&!(hasB 39 s&&hasB 34 s)
def I5 (s:List UInt8):List UInt8:=if Lb s=true then (if hasB 39 s=true then 34:: s++[34] else 39:: s++[39]) else []
theorem c39 (s:List UInt8) (h:s.length<=200):iP s [39]=some (hasB 39 s):=wy (by omega) 39
theorem c34 (s:List UInt8) (h:s.length<=200):iP s [34]=some (hasB 34 s):=wy (by omega) 34
theorem wz (s:List UInt8):sD s=some (Lb s):=by
 rw [Fk]
 by_cases h:s.length<=200
 ·have h1:decide (len s<=200)=true:=by simp only [aw,decide_eq_true_eq];omega
  rw [if_pos h1,qd (by omega),c39 s h,c34 s h]
  simp only [Option.bind_some,Lb,h,decide_true,Bool.true_and]
  cases FC s<;>cases hasB 39 s<;>simp
 ·have h1:¬ decide (len s<=200)=true:=by simp only [aw,decide_eq_true_eq];omega
  rw [if_neg h1]
  simp [Lb,h]
theorem wA (s:List UInt8):r8 s=some (Lb s):=by
 rw [E3]
 by_cases h:s.length<=200
 ·have h1:decide (len s<=200)=true:=by simp only [aw,decide_eq_true_eq];omega
  rw [if_pos h1,oW (by omega),pR (by omega),pR (by omega)]
  simp only [Option.bind_some,Lb,h,decide_true,Bool.true_and]
  cases FC s<;>cases hasB 39 s<;>simp
 ·have h1:¬ decide (len s<=200)=true:=by simp only [aw,decide_eq_true_eq];omega
  rw [if_neg h1]
  simp [Lb,h]
theorem FD {s:List UInt8} (h:Lb s=true):s.length<=200:=by
 unfold Lb at h
 simp only [Bool.and_eq_true_iff,decide_eq_true_eq] at h
 exact h.1.1
theorem Np (s:List UInt8):(I5 s).length<=202:=by
 unfold I5
 split
 ·rename_i h
  have:=FD h
  split<;>simp<;>omega
 ·simp
theorem zX (s:List UInt8):py s=some (I5 s):=by
 rw [zM,wz]
 simp only [Option.bind_some,I5]
 cases h:Lb s
 ·rfl
 ·have hl:=FD h
  simp only [Bool.not_true,Bool.false_eq_true,if_false,if_true,c39 s hl,Option.bind_some]
  rw [aH (by simp;omega),aH (by simp;omega)]
  simp only [Option.bind_some]
  rw [aH (by simp;omega),aH (by simp;omega)]
  cases hasB 39 s<;>rfl
theorem zY (s:List UInt8):pq s=some (I5 s):=by
 rw [zF,wA]
 simp only [Option.bind_some,I5]
 cases h:Lb s
 ·rfl
 ·have hl:=FD h
  simp only [Bool.not_true,Bool.false_eq_true,if_false,if_true,pR (show s.length<=9223372036854775807 by omega),Option.bind_some]
  rw [aH (by simp;omega),aH (by simp;omega)]
  simp only [Option.bind_some]
  rw [aH (by simp;omega),aH (by simp;omega)]
  cases hasB 39 s<;>rfl
theorem D2 : ∀ (k u:Nat),u<10 ^ (k+1)->Lib.nDigits u<=k+1
 | 0,u,h=>by rw [Lib.nDigits_small (by simpa using h)];exact Nat.le_refl _
 | k+1,u,h=>by
  by_cases hu:u<10
  ·rw [Lib.nDigits_small hu];omega
  ·rw [Lib.nDigits_big hu]
   have:=D2 k (u / 10) (by rw [Nat.div_lt_iff_lt_mul (by decide)];rw [Nat.pow_succ] at h;exact h)
   omega
theorem yr {r:Int} (h0:0<=r) (h1:r<10):UInt8.ofNat (Int.toNat (IntKind.wrap .u8 (w64 (48+r))))=UInt8.ofNat (48+r.toNat):=by
 rw [aT (by omega) (by omega)]
 have e2:IntKind.u8.wrap (48+r)=48+r:=by unfold IntKind.wrap;simp [IntKind.bits,IntKind.signed];omega
 rw [e2]
 congr 1
 omega
theorem P2 (u:Nat):rem (u:Int) 10=some ((u % 10:Nat):Int):=by
 unfold rem
 rw [if_neg (by decide),Int.tmod_eq_emod_of_nonneg (by omega)]
 congr 1
theorem P3 {u:Nat} (h:u<9223372036854775808):quo .i64 (u:Int) 10=some ((u / 10:Nat):Int):=by
 unfold quo
 rw [if_neg (by decide),Int.tdiv_eq_ediv_of_nonneg (by omega)]
 congr 1
 have:IntKind.i64.wrap ((u:Int) / 10)=w64 ((u:Int) / 10):=rfl
 rw [this,aT (by omega) (by omega)]
 omega
theorem Du : ∀ (k u:Nat) (s:List UInt8),u<10 ^ (k+1)->u<9223372036854775808->s.length+k+1<=1000->pw u s=some (Lib.decDigits u++s):=by
 intro k
 induction k with
 | zero=>
  intro u s h h2 hl
  have hu:u<10:=by simpa using h
  rw [oh,if_neg (by simp only [decide_eq_true_eq];omega)]
  simp only [List.map_cons,List.map_nil,yr (r:=(u:Int)) (by omega) (by omega),Int.toNat_natCast]
  rw [aH (by simp;omega)]
  rw [Lib.decDigits_one hu]
  rfl
 | succ k ih=>
  intro u s h h2 hl
  by_cases hu:u<10
  ·rw [oh,if_neg (by simp only [decide_eq_true_eq];omega)]
   simp only [List.map_cons,List.map_nil,yr (r:=(u:Int)) (by omega) (by omega),Int.toNat_natCast]
   rw [aH (by simp;omega),Lib.decDigits_one hu]
   rfl
  ·rw [oh,if_pos (by simp only [decide_eq_true_eq];omega),P2,P3 h2]
   simp only [Option.bind_some,List.map_cons,List.map_nil,yr (r:=((u % 10:Nat):Int)) (by omega) (by omega),Int.toNat_natCast]
   rw [aH (by simp;omega)]
   simp only [Option.bind_some]
   rw [ih (u / 10) _ (by rw [Nat.div_lt_iff_lt_mul (by decide)];rw [Nat.pow_succ] at h;exact h) (by omega) (by simp;omega)]
   have hd:Lib.decDigits u=Lib.decDigits (u / 10)++[UInt8.ofNat (48+u % 10)]:=by
    rw [Lib.decDigits,dif_neg hu]
   rw [hd]
   simp
theorem J9 (u:Nat):Lib.itoa (u:Int)=Lib.decDigits u:=by
 unfold Lib.itoa
 rw [if_neg (by omega)]
 rfl
theorem I6 {n:Int} (h0:0<=n) (h1:n<9223372036854775808):Ai n=some (Lib.itoa n):=by
 obtain ⟨u,rfl⟩:∃ u:Nat,n=u:=⟨n.toNat,by omega⟩
 rw [IOz,if_neg (by simp),Du 18 u [] (by omega) (by omega) (by decide),J9]
 simp
theorem Hu {n:Int} (h0:-9223372036854775808<=n) (h1:n<=9223372036854775807):A7 n=some (Lib.itoa n):=by
 rw [G4]
 unfold OM
 rw [if_pos ⟨rfl,h0,h1⟩]
 rfl
theorem OV {n:Int} (h0:0<=n) (h1:n<=1000000000000):(Lib.itoa n).length<=13:=by
 obtain ⟨u,rfl⟩:∃ u:Nat,n=u:=⟨n.toNat,by omega⟩
 rw [J9,Lib.decDigits_length]
 exact D2 12 u (by omega)
end Go.Dv.U

namespace Go.Dv.U
open Go Go.Dv Go.Proofs
def P4 (c:List Int) (a B:Int):Prop:=(∀ y∈c,0<=y/\y<=255)/\c.length<=9223372036854775807/\0<=a/\a<=B
def Dr {α:Type} (o:Option (α×((List Int×Int×Int×Unit)×Unit))) (B:Int) (P:α->Prop):Prop:=∃ v c a s,o=some (v,((c,a,s,()),()))/\P4 c a B/\P v
theorem Dr.bind {α β:Type} {o:Option (α×((List Int×Int×Int×Unit)×Unit))} {B B':Int} {P:α->Prop} {Q:β->Prop} {k:α×((List Int×Int×Int×Unit)×Unit)->Option (β×((List Int×Int×Int×Unit)×Unit))}
  (h:Dr o B P) (hk:∀ v c a s,P4 c a B->P v->Dr (k (v,((c,a,s,()),()))) B' Q):Dr (o.bind k) B' Q:=by
 obtain ⟨v,c,a,s,rfl,h2,h3⟩:=h
 exact hk v c a s h2 h3
theorem Dr.some {α:Type} {v:α} {c:List Int} {a s B:Int} {P:α->Prop} (h:P4 c a B) (hp:P v):Dr (Option.some (v,((c,a,s,()),()))) B P:=⟨v,c,a,s,rfl,h,hp⟩
end Go.Dv.U

namespace Go.Dv.U
open Go Go.Dv Go.Proofs
theorem I7 (a b:Int):Iy [a,b]=some (if a≠0 then a else b):=by
 rw [KZ]
 have e2:len [a,b]=2:=rfl
 have w1:w64 (0+1)=1:=by decide
 have w2:w64 (1+1)=2:=by decide
 rw [e2,pN,if_pos (by decide),mZ]
 simp only [List.getElem?_cons_zero,Option.bind_some]
 by_cases ha:a=0
 ·subst ha
  rw [if_neg (by simp),w1,pN,if_pos (by decide),wW]
  simp only [List.getElem?_cons_succ,List.getElem?_cons_zero,Option.bind_some]
  by_cases hb:b=0
  ·subst hb
   rw [if_neg (by simp),w2,pN,if_neg (by decide)]
   simp
  ·rw [if_pos (by simpa using hb)];simp
 ·rw [if_pos (by simpa using ha),if_pos ha]
theorem I8 (b:Bool) (n:Int):Aj b n=some (if b=true then 0 else n):=by
 rw [IW,m0]
end Go.Dv.U

namespace Go.Dv.U
open Go Go.Dv Go.Proofs
def bM (p:Int->Bool):List UInt8->Nat
 | []=>0
 | b:: r=>if p (ib b)=true then bM p r+1 else 0
theorem lP (p:Int->Bool):∀ s,bM p s<=s.length
 | []=>Nat.le_refl _
 | b:: r=>by
  have:=lP p r
  simp only [bM,List.length_cons]
  split<;>omega
theorem Hv (p:Int->Bool):∀ s:List UInt8,(s.take (bM p s)).all (fun b=>p (ib b))=true
 | []=>rfl
 | b:: r=>by
  simp only [bM]
  split
  ·rename_i h
   rw [List.take_succ_cons,List.all_cons,Hv p r,h];rfl
  ·rfl
theorem Ka : ∀ s,bM kR s=Dt s
 | []=>rfl
 | b:: r=>by
  simp only [bM,Dt,Ka r]
def Hw (b:Int):Bool:=b==43||b==45||b==42||b==47||b==124||b==46||b==36||b==64||b==61
def wB (b:Int):Int:=if b=40 then 5 else if b=41 then 6 else if b=60 then 7 else if b=62 then 8 else if b=44 then 9 else if b=58 then 10 else 0
def I9 : List UInt8->Option (Int×Int×List UInt8×Nat)
 | []=>none
 | b:: r=>
  if uR (ib b)=true then (if bM kR (b:: r)<=12 then some (1,0,(b:: r).take (bM kR (b:: r)),bM kR (b:: r)) else none)
  else if eX (ib b)=true then (if bM eX (b:: r)<=13/\FV ((b:: r).take (bM eX (b:: r))) 0<=1000000000000 then some (2,((FV ((b:: r).take (bM eX (b:: r))) 0:Nat):Int),[],bM eX (b:: r)) else none)
  else if ib b=39\/ib b=34 then (if bM (fun c=>c !=ib b) r<r.length/\bM (fun c=>c !=ib b) r<=200 then some (3,0,r.take (bM (fun c=>c !=ib b) r),bM (fun c=>c !=ib b) r+2) else none)
  else if Hw (ib b)=true then some (4,0,[b],1)
  else if wB (ib b)≠0 then some (wB (ib b),0,[],1) else none
theorem yu (b:UInt8) (r:List UInt8):I9 (b:: r) =
  if uR (ib b)=true then (if bM kR (b:: r)<=12 then some (1,0,(b:: r).take (bM kR (b:: r)),bM kR (b:: r)) else none)
  else if eX (ib b)=true then (if bM eX (b:: r)<=13/\FV ((b:: r).take (bM eX (b:: r))) 0<=1000000000000 then some (2,((FV ((b:: r).take (bM eX (b:: r))) 0:Nat):Int),[],bM eX (b:: r)) else none)
  else if ib b=39\/ib b=34 then (if bM (fun c=>c !=ib b) r<r.length/\bM (fun c=>c !=ib b) r<=200 then some (3,0,r.take (bM (fun c=>c !=ib b) r),bM (fun c=>c !=ib b) r+2) else none)
  else if Hw (ib b)=true then some (4,0,[b],1)
  else if wB (ib b)≠0 then some (wB (ib b),0,[],1) else none:=rfl
theorem Hx {s:List UInt8} {k n:Int} {t:List UInt8} {m:Nat} (h:I9 s=some (k,n,t,m)):1<=m/\m<=s.length:=by
 cases s with
 | nil=>cases h
 | cons b r=>
  rw [yu] at h
  have l1:=lP kR (b:: r)
  have l2:=lP eX (b:: r)
  have l3:=lP (fun c=>c !=ib b) r
  simp only [List.length_cons] at l1 l2 ⊢
  split at h
  ·rename_i hl
   have:1<=bM kR (b:: r):=by
    have:kR (ib b)=true:=by unfold kR;rw [hl];rfl
    simp only [bM,this,if_true];omega
   split at h
   ·cases h;omega
   ·cases h
  split at h
  ·rename_i hl
   have:1<=bM eX (b:: r):=by simp only [bM,hl,if_true];omega
   split at h
   ·cases h;omega
   ·cases h
  split at h
  ·split at h
   ·rename_i hc;cases h;omega
   ·cases h
  split at h
  ·cases h;omega
  split at h
  ·cases h;omega
  ·cases h
def tI (s:List UInt8):Bool:=match s with | []=>true | b:: _=>ib b==32
def wC : Nat->List UInt8->Bool->List aN->Nat->List aN×Int×Int
 | _,[],_,out,_=>(out,0,0)
 | 0,_:: _,_,out,_=>(out,0,0)
 | n+1,b:: r,bl,out,at_=>if ib b=32 then wC n r true out (at_+1) else match I9 (b:: r) with
  | none=>([],at_,2)
  | some (k,m,t,w)=>if 120<=out.length then ([],at_,6) else wC n ((b:: r).drop w) false (out++[⟨k,m,t,bl,tI ((b:: r).drop w)⟩]) (at_+w)
theorem FE {x:List UInt8} (hx:x.length<=1000000) (p:Int->Bool) {J:Int->Option Int} (at_:Nat) (hJ:∀ i:Int,J i=if decide (i<len x)=true then (idx x i).bind fun y=>if p (ib y)=true then J (w64 (i+1)) else some (w64 (i-at_)) else some (w64 (i-at_))):
  ∀ (l:List UInt8) (j:Nat),x.drop j=l->at_<=j->j<=x.length->J (j:Int)=some ((j-at_+bM p l:Nat):Int):=by
 intro l
 induction l with
 | nil=>
  intro j hd ha hj
  have:x.length<=j:=by
   have:=congrArg List.length hd
   simp at this;omega
  rw [hJ,if_neg (by simp [aw];omega),aT (by omega) (by omega)]
  simp [bM];omega
 | cons b l ih=>
  intro j hd ha hj
  have hlt:j<x.length:=by
   have:=congrArg List.length hd
   simp at this;omega
  rw [List.drop_eq_getElem_cons hlt] at hd
  simp only [List.cons.injEq] at hd
  rw [hJ,if_pos (by simp [aw,hlt]),aZ,List.getElem?_eq_getElem hlt,hd.1]
  simp only [Option.bind_some,bM]
  cases hp:p (ib b)
  ·rw [if_neg (by simp),aT (by omega) (by omega)]
   simp;omega
  ·rw [if_pos rfl,aT (by omega) (by omega),show (j:Int)+1=((j+1:Nat):Int) by omega,ih (j+1) hd.2 (by omega) (by omega)]
   simp;omega
section
variable {x:List UInt8} (hx:x.length<=4000)

include hx
theorem P5 {j:Nat} (hj:j<=x.length):gP x (j:Int)=some (bM kR (x.drop j):Int):=by
 rw [pM]
 have:=FE (x:=x) (by omega) kR (J:=dI x (j:Int)) j (fun i=>by rw [mT];simp only [rL,Option.bind_some]) (x.drop j) j rfl (Nat.le_refl _) hj
 rw [this];simp
theorem P6 {j:Nat} (hj:j<=x.length):jS x (j:Int)=some (bM eX (x.drop j):Int):=by
 rw [tg]
 have:=FE (x:=x) (by omega) eX (J:=eJ x (j:Int)) j (fun i=>by rw [pO];simp only [rK,Option.bind_some]) (x.drop j) j rfl (Nat.le_refl _) hj
 rw [this];simp
theorem P7 (q:Int) {j:Nat} (hj:j<=x.length):da x (j:Int) q=some (bM (fun c=>c !=q) (x.drop j):Int):=by
 rw [oi]
 have:=FE (x:=x) (by omega) (fun c=>c !=q) (J:=dl x (j:Int) q) j (fun i=>by rw [lO];simp only [yq,Option.bind_some]) (x.drop j) j rfl (Nat.le_refl _) hj
 rw [this];simp
theorem P8 {j:Nat} (hj:j<=x.length):fg x (j:Int)=some (bM (fun c=>c==32) (x.drop j):Int):=by
 rw [mS]
 have:=FE (x:=x) (by omega) (fun c=>c==32) (J:=c8 x (j:Int)) j (fun i=>by rw [lh];simp only [wq,Option.bind_some]) (x.drop j) j rfl (Nat.le_refl _) hj
 rw [this];simp
end
theorem D3 {x:List UInt8} {j m:Nat} (h:j+m<=x.length):cut x (j:Int) (Option.getD (some ((j+m:Nat):Int)) (len x))=some ((x.drop j).take m):=by
 have:=Gu (xs:=x) (a:=j) (b:=j+m) (by omega) h
 rw [Option.getD_some,this,List.drop_take]
 congr 2;omega
theorem Nq (b:UInt8):jJ [43,45,42,47,124,46,36,64,61] (ib b)=some (Lib.indexByte [43,45,42,47,124,46,36,64,61] b):=by
 unfold jJ
 have:(ib b).toNat.toUInt8=b:=by simp [ib]
 rw [this]
theorem Ld (b:UInt8):jJ [40,41,60,62,44,58] (ib b)=some (Lib.indexByte [40,41,60,62,44,58] b):=by
 unfold jJ
 have:(ib b).toNat.toUInt8=b:=by simp [ib]
 rw [this]
theorem Ca {P:UInt8->Prop} (h:∀ n:Fin 256,P (UInt8.ofNat n)) (b:UInt8):P b:=by
 have:=h ⟨b.toNat,b.toNat_lt⟩
 simpa using this
theorem Pn : ∀ b:UInt8,decide (Lib.indexByte [43,45,42,47,124,46,36,64,61] b>=0)=Hw (ib b):=Ca (by decide +kernel)
theorem P9 : ∀ b:UInt8,(Lib.indexByte [40,41,60,62,44,58] b = -1/\wB (ib b)=0)\/(0<=Lib.indexByte [40,41,60,62,44,58] b/\wB (ib b)=5+Lib.indexByte [40,41,60,62,44,58] b/\Lib.indexByte [40,41,60,62,44,58] b<=5):=Ca (by decide +kernel)
theorem QW : ∀ b:UInt8,Hw (ib b)=true->chr (ib b)=some [b]:=Ca (by decide +kernel)
theorem Dw {x:List UInt8} (hx:x.length<=4000) {j:Nat} (hj:j<x.length):∃ (tk:aN) (n:Int) (ok:Bool),uf x (j:Int)=some (tk,n,ok) /\
    (match I9 (x.drop j) with | none=>ok=false | some (k,m,t,w)=>ok=true/\tk.fKind=k/\tk.fNum=m/\tk.fText=t/\n=(w:Int)):=by
  obtain ⟨b,r,hd⟩:∃ b r,x.drop j=b:: r:=⟨_,_,List.drop_eq_getElem_cons hj⟩
  have hget:idx x (j:Int)=some b:=by
    rw [aZ,List.getElem?_eq_getElem hj]
    rw [List.drop_eq_getElem_cons hj] at hd
    simp only [List.cons.injEq] at hd
    rw [hd.1]
  have hd1:x.drop (j+1)=r:=by
    rw [List.drop_eq_getElem_cons hj] at hd
    simp only [List.cons.injEq] at hd
    exact hd.2
  have hrl:(b:: r).length=x.length-j:=by rw [<-hd,List.length_drop]
  simp only [List.length_cons] at hrl
  rw [Dg,hget,hd,yu]
  simp only [Option.bind_some,pP,rK]
  by_cases h1:uR (ib b)=true
  · rw [if_pos h1,if_pos h1,P5 hx (by omega),hd]
    have hle:=lP kR (b:: r)
    simp only [List.length_cons] at hle
    generalize hn:bM kR (b:: r)=n at hle
    simp only [Option.bind_some]
    rw [aT (by omega) (by omega),show (j:Int)+(n:Int)=((j+n:Nat):Int) by omega,D3 (by omega),hd]
    simp only [Option.bind_some]
    refine ⟨_,_,_,rfl,?_⟩
    by_cases h12:n<=12
    · rw [if_pos h12]
      exact ⟨by simp;omega,rfl,rfl,rfl,rfl⟩
    · rw [if_neg h12]
      simp;omega
  rw [if_neg h1,if_neg h1]
  by_cases h2:eX (ib b)=true
  · rw [if_pos h2,if_pos h2,P6 hx (by omega),hd]
    have hle:=lP eX (b:: r)
    have hall:=Hv eX (b:: r)
    have hpos:1<=bM eX (b:: r):=by simp only [bM,h2,if_true];omega
    simp only [List.length_cons] at hle
    generalize hn:bM eX (b:: r)=n at hle hall hpos
    simp only [Option.bind_some]
    rw [aT (by omega) (by omega),show (j:Int)+(n:Int)=((j+n:Nat):Int) by omega,D3 (by omega),hd]
    simp only [Option.bind_some]
    have htl:((b:: r).take n).length=n:=by rw [List.length_take];simp;omega
    have hdg:((b:: r).take n).all N0=true:=by
      have:(fun c:UInt8=>eX (ib c))=N0:=by
        funext c
        unfold N0 eX
        rw [QU,Bool.eq_iff_iff]
        simp
        omega
      rw [<-this];exact hall
    unfold r0
    by_cases h13:13<n
    · rw [if_pos (by rw [htl];exact h13)]
      refine ⟨_,_,_,rfl,?_⟩
      rw [if_neg (by omega)]
    · rw [if_neg (by rw [htl];exact h13),if_pos ⟨by intro e;rw [e] at htl;simp at htl;omega,hdg⟩]
      refine ⟨_,_,_,rfl,?_⟩
      by_cases hb:FV ((b:: r).take n) 0<=1000000000000
      · rw [if_pos ⟨by omega,hb⟩]
        exact ⟨by simpa using hb,rfl,rfl,rfl,rfl⟩
      · rw [if_neg (by omega)]
        simpa using hb
  rw [if_neg h2,if_neg h2]
  have quo:ib b=39\/ib b=34->∀ z:Option (aN×Int×Bool),z=((da x (w64 ((j:Int)+1)) (ib b)).bind fun r194=>((cut x (w64 ((j:Int)+1)) (Option.getD (Option.some (w64 (w64 ((j:Int)+1)+r194))) (len x))):Option (List UInt8)).bind fun y193=>
      if decide (w64 (w64 ((j:Int)+1)+r194)<len x)=true then some (aN.mk (Int.ofNat 3) (Int.ofNat 0) y193 false false,w64 (r194+2),decide (r194<=200)) else some (aN.mk (Int.ofNat 3) (Int.ofNat 0) y193 false false,w64 (r194+2),false)) ->
      ∃ (tk:aN) (n:Int) (ok:Bool),z=some (tk,n,ok)/\(match (if bM (fun c=>c !=ib b) r<r.length/\bM (fun c=>c !=ib b) r<=200 then some ((3:Int),(0:Int),r.take (bM (fun c=>c !=ib b) r),bM (fun c=>c !=ib b) r+2) else none) with | none=>ok=false | some (k,m,t,w)=>ok=true/\tk.fKind=k/\tk.fNum=m/\tk.fText=t/\n=(w:Int)):=by
    intro _ z hz
    have hle:=lP (fun c=>c !=ib b) r
    rw [aT (by omega) (by omega),show (j:Int)+1=((j+1:Nat):Int) by omega,P7 hx (ib b) (by omega),hd1] at hz
    generalize hn:bM (fun c=>c !=ib b) r=n at hle hz
    simp only [Option.bind_some] at hz
    rw [aT (by omega) (by omega),show ((j+1:Nat):Int)+(n:Int)=((j+1+n:Nat):Int) by omega,D3 (by omega),hd1] at hz
    simp only [Option.bind_some] at hz
    rw [aT (by omega) (by omega),aw] at hz
    by_cases hq:n<r.length
    · rw [if_pos (by simp;omega)] at hz
      refine ⟨_,_,_,hz,?_⟩
      by_cases h200:n<=200
      · rw [if_pos ⟨hq,h200⟩]
        exact ⟨by simp;omega,rfl,rfl,rfl,by simp⟩
      · rw [if_neg (by omega)]
        simp;omega
    · rw [if_neg (by simp;omega)] at hz
      refine ⟨_,_,_,hz,?_⟩
      rw [if_neg (by omega)]
  by_cases h39:ib b=39
  · rw [if_pos (by simpa using h39),if_pos (.inl h39)]
    exact quo (.inl h39) _ rfl
  rw [if_neg (by simpa using h39)]
  by_cases h34:ib b=34
  · rw [if_pos (by simpa using h34),if_pos (.inr h34)]
    exact quo (.inr h34) _ rfl
  rw [if_neg (by simpa using h34),if_neg (by omega),Nq]
  simp only [Option.bind_some]
  by_cases h4:Hw (ib b)=true
  · rw [if_pos (by rw [Pn];exact h4),if_pos h4,QW b h4]
    simp only [Option.bind_some]
    exact ⟨_,_,_,rfl,rfl,rfl,rfl,rfl,rfl⟩
  · rw [if_neg (by rw [Pn];exact h4),if_neg h4,Ld]
    simp only [Option.bind_some]
    refine ⟨_,_,_,rfl,?_⟩
    rcases P9 b with ⟨e1,e2⟩ | ⟨e1,e2,e3⟩
    · rw [if_neg (by simpa using e2)]
      simp [e1]
    · rw [if_pos (by omega)]
      refine ⟨by simpa using e1,?_,rfl,rfl,rfl⟩
      show w64 _=_
      rw [aT (by omega) (by omega),e2]
end Go.Dv.U

namespace Go.Dv.U
open Go Go.Dv Go.Proofs
theorem sH {p:Int->Bool} {b:UInt8} {r:List UInt8} (h:p (ib b)=false):bM p (b:: r)=0:=by simp [bM,h]
theorem sI {p:Int->Bool} {b:UInt8} {r:List UInt8} (h:p (ib b)=true):bM p (b:: r)=bM p r+1:=by simp [bM,h]
theorem Le : ∀ (s:List UInt8) (n:Nat) (bl:Bool) (out:List aN) (at_:Nat),s.length<=n->wC n s bl out at_=wC (n-bM (fun c=>c==32) s) (s.drop (bM (fun c=>c==32) s)) (if bM (fun c=>c==32) s=0 then bl else true) out (at_+bM (fun c=>c==32) s):=by
 intro s
 induction s with
 | nil=>intro n bl out at_ _;simp [bM]
 | cons b r ih=>
  intro n bl out at_ h
  by_cases hb:ib b=32
  ·have hr:(fun c:Int=>c==32) (ib b)=true:=by simpa using hb
   rw [sI hr]
   cases n with
   | zero=>simp at h
   | succ n=>
    simp only [wC,hb,if_true]
    rw [ih n true out (at_+1) (by simpa using h)]
    simp only [List.drop_succ_cons,Nat.add_eq_zero_iff,Nat.one_ne_zero,and_false,if_false,ite_self]
    congr 1
    ·omega
    ·omega
  ·have hr:(fun c:Int=>c==32) (ib b)=false:=by simpa using hb
   rw [sH hr]
   simp
theorem Kb {p:Int->Bool}:∀ s:List UInt8,∀ b r,s.drop (bM p s)=b:: r->p (ib b)=false
 | [],b,r,h=>by simp [bM] at h
 | c:: s,b,r,h=>by
  cases hc:p (ib c)
  ·rw [sH hc] at h
   simp only [List.drop_zero,List.cons.injEq] at h
   rw [<-h.1];exact hc
  ·rw [sI hc] at h
   exact Kb s b r h
theorem Qa {x:List UInt8} (hx:x.length<=4000):∀ (N n j:Nat) (out:List aN),n<=N->j<=x.length->x.length-j<=n->out.length<=120->jn x (j:Int) out=some (wC n (x.drop j) (len out==0) out j):=by
 intro N
 induction N with
 | zero=>
  intro n j out hn hj hl ho
  have:x.drop j=[]:=List.drop_eq_nil_of_le (by omega)
  rw [js,if_neg (by simp [aw];omega),this]
  cases n<;>rfl
 | succ N ih=>
  intro n j out hn hj hl ho
  by_cases hlt:j<x.length
  ·rw [js,if_pos (by simpa [aw] using hlt),P8 hx hj]
   simp only [Option.bind_some]
   have hle:=lP (fun c=>c==32) (x.drop j)
   rw [List.length_drop] at hle
   rw [Le (x.drop j) n (len out==0) out j (by rw [List.length_drop];omega)]
   have hdr:=Kb (p:=fun c=>c==32) (x.drop j)
   generalize bM (fun c=>c==32) (x.drop j)=q at hle hdr ⊢
   rw [List.drop_drop] at hdr ⊢
   rw [aT (by omega) (by omega),show (j:Int)+(q:Int)=((j+q:Nat):Int) by omega]
   by_cases hend:j+q=x.length
   ·rw [if_pos (by simp [aw,hend])]
    have:x.drop (j+q)=[]:=List.drop_eq_nil_of_le (by omega)
    rw [this]
    cases (n-q)<;>rfl
   ·rw [if_neg (by simp [aw];omega)]
    have hlt2:j+q<x.length:=by omega
    obtain ⟨b,r,hd⟩:∃ b r,x.drop (j+q)=b:: r:=⟨_,_,List.drop_eq_getElem_cons hlt2⟩
    have hb:¬ ib b=32:=by simpa using hdr b r hd
    obtain ⟨m,hm⟩:∃ m,n-q=m+1:=⟨n-q-1,by omega⟩
    rw [hm,hd]
    simp only [wC,hb,if_false]
    obtain ⟨tk,w,ok,hs,hmt⟩:=Dw hx hlt2
    rw [hs]
    rw [hd] at hmt
    simp only [Option.bind_some,I8,I7]
    cases ht:I9 (b:: r) with
    | none=>
     rw [ht] at hmt
     simp only at hmt
     subst hmt
     simp
    | some z=>
     obtain ⟨k,mm,t,w'⟩:=z
     rw [ht] at hmt
     simp only at hmt
     obtain ⟨rfl,rfl,rfl,rfl,rfl⟩:=hmt
     have hw:=Hx ht
     rw [<-hd,List.length_drop] at hw
     simp only [if_true,ne_eq,not_true_eq_false,if_false]
     by_cases h120:120<=out.length
     ·have e:decide (len out<120)=false:=by simp [aw];omega
      rw [e,if_pos h120]
      simp
     ·have e:decide (len out<120)=true:=by simp [aw];omega
      rw [e,if_neg h120]
      simp only [if_true]
      rw [if_neg (by simp),aT (n:=((j+q:Nat):Int)+(w':Int)) (by omega) (by omega),show ((j+q:Nat):Int)+(w':Int)=((j+q+w':Nat):Int) by omega]
      have hrest:(b:: r).drop w'=x.drop (j+q+w'):=by rw [<-hd,List.drop_drop]
      rw [hrest]
      have go:∀ (bf af:Bool),af=tI (x.drop (j+q+w'))->bf=(if q=0 then (len out==0) else true)->ee x ((j+q+w':Nat):Int) out tk.fKind tk.fNum tk.fText bf af=some (wC m (x.drop (j+q+w')) false (out++[⟨tk.fKind,tk.fNum,tk.fText,if q=0 then (len out==0) else true,tI (x.drop (j+q+w'))⟩]) (j+q+w')):=by
       intro bf af h1 h2
       rw [uN,aH (by simp;omega)]
       simp only [Option.bind_some]
       rw [ih m (j+q+w') _ (by omega) (by omega) (by omega) (by simp;omega),h1,h2]
       have:(len (out++[(⟨tk.fKind,tk.fNum,tk.fText,if q=0 then (len out==0) else true,tI (x.drop (j+q+w'))⟩:aN)])==0)=false:=by
        simp [aw];omega
       rw [this]
      by_cases hq:q=0
      ·rw [if_neg (by simp [hq])]
       by_cases he:j+q+w'=x.length
       ·have hn2:x.drop (j+q+w')=[]:=List.drop_eq_nil_of_le (by omega)
        rw [if_pos (by simp [aw,he])]
        exact go _ _ (by rw [hn2];rfl) (by rw [if_pos hq])
       ·rw [if_neg (by simp [aw];omega),aZ,List.getElem?_eq_getElem (by omega)]
        simp only [Option.bind_some]
        exact go _ _ (by rw [List.drop_eq_getElem_cons (by omega)];rfl) (by rw [if_pos hq])
      ·rw [if_pos (by simp;omega)]
       by_cases he:j+q+w'=x.length
       ·have hn2:x.drop (j+q+w')=[]:=List.drop_eq_nil_of_le (by omega)
        rw [if_pos (by simp [aw,he])]
        exact go _ _ (by rw [hn2];rfl) (by rw [if_neg hq])
       ·rw [if_neg (by simp [aw];omega),aZ,List.getElem?_eq_getElem (by omega)]
        simp only [Option.bind_some]
        exact go _ _ (by rw [List.drop_eq_getElem_cons (by omega)];rfl) (by rw [if_neg hq])
  ·have:x.drop j=[]:=List.drop_eq_nil_of_le (by omega)
   rw [js,if_neg (by simp [aw];omega),this]
   cases n<;>rfl
def Nr (x:List UInt8):List aN×Int×Int:=if x.length<=4000/\FC x=true then wC x.length x true [] 0 else ([],0,1)
theorem Cb {x:List UInt8} (h:x.length<=9223372036854775807):qL x=some (Nr x):=by
 rw [BM]
 unfold Nr
 by_cases hl:x.length<=4000
 ·rw [if_neg (by simp [aw];omega),qd h]
  simp only [Option.bind_some]
  cases hp:FC x
  ·simp
  ·have:=Qa hl x.length x.length 0 [] (Nat.le_refl _) (by omega) (by omega) (by simp)
   simp only [Int.natCast_zero,List.drop_zero] at this
   simp only [Bool.not_true,Bool.false_eq_true,if_false,hl,and_self,if_true]
   rw [this]
   rfl
 ·rw [if_pos (by simp [aw];omega),if_neg (by omega)]
end Go.Dv.U

namespace Go.Dv.U
open Go Go.Dv Go.Proofs
theorem zZ (c:Int):pz c=some (Hw c):=by
 rw [zP,s7,s8]
 unfold Hw
 simp only [m0]
 congr 1
 cases c==43<;>cases c==45<;>cases c==42<;>cases c==47<;>cases c==124<;>cases c==46<;>cases c==36<;>cases c==64<;>cases c==61<;>rfl
def QX : aN:=⟨0,0,[],false,false⟩
theorem QY (j:Nat) (hj:j<=4000) (c:Int):f5 (j:Int) c [40,41,60,62,44,58] 0 0 0 [] false false=some (if wB c≠0 then ((⟨wB c,0,[],false,false⟩:aN),((j+1:Nat):Int)) else (QX,-1)):=by
 have hw:w64 ((j:Int)+1)=((j+1:Nat):Int):=by rw [aT (by omega) (by omega)];omega
 have step:∀ (k:Int) (y:UInt8),idx [40,41,60,62,44,58] k=some y->0<=k->k<6->f5 (j:Int) c [40,41,60,62,44,58] k 0 0 [] false false=if ib y=c then some ((⟨w64 (5+k),0,[],false,false⟩:aN),((j+1:Nat):Int)) else f5 (j:Int) c [40,41,60,62,44,58] (w64 (k+1)) 0 0 [] false false:=by
  intro k y h h0 h6
  rw [rD,if_pos (by simp [aw];omega),h]
  simp only [Option.bind_some,beq_iff_eq,hw]
  rfl
 have w1:w64 (0+1)=1:=by decide
 have w2:w64 (1+1)=2:=by decide
 have w3:w64 (2+1)=3:=by decide
 have w4:w64 (3+1)=4:=by decide
 have w5:w64 (4+1)=5:=by decide
 have w6:w64 (5+1)=6:=by decide
 have last:f5 (j:Int) c [40,41,60,62,44,58] 6 0 0 [] false false=some (QX,-1):=by
  rw [rD,if_neg (by simp [aw])];rfl
 rw [step 0 40 rfl (by decide) (by decide),w1,step 1 41 rfl (by decide) (by decide),w2,step 2 60 rfl (by decide) (by decide),w3,step 3 62 rfl (by decide) (by decide),w4,step 4 44 rfl (by decide) (by decide),w5,step 5 58 rfl (by decide) (by decide),w6,last]
 have i1:ib 40=40:=by decide
 have i2:ib 41=41:=by decide
 have i3:ib 60=60:=by decide
 have i4:ib 62=62:=by decide
 have i5:ib 44=44:=by decide
 have i6:ib 58=58:=by decide
 have v0:w64 (5+0)=5:=by decide
 have v1:w64 (5+1)=6:=by decide
 have v2:w64 (5+2)=7:=by decide
 have v3:w64 (5+3)=8:=by decide
 have v4:w64 (5+4)=9:=by decide
 have v5:w64 (5+5)=10:=by decide
 simp only [i1,i2,i3,i4,i5,i6,v0,v1,v2,v3,v4,v5]
 unfold wB
 by_cases h1:c=40
 ·subst h1;simp
 by_cases h2:c=41
 ·subst h2;simp
 by_cases h3:c=60
 ·subst h3;simp
 by_cases h4:c=62
 ·subst h4;simp
 by_cases h5:c=44
 ·subst h5;simp
 by_cases h6:c=58
 ·subst h6;simp
 have f:∀ n:Int,c≠n->¬ n=c:=fun n h e=>h e.symm
 simp [h1,h2,h3,h4,h5,h6,f _ h1,f _ h2,f _ h3,f _ h4,f _ h5,f _ h6]
section
variable {x:List UInt8} (hx:x.length<=4000)

include hx
theorem QZ {j:Nat}:∀ (l:List UInt8) (e acc:Nat),x.drop e=l->j<=e->e<=x.length->e-j<=14->acc<10 ^ (e-j) ->
  nv x (j:Int) (acc:Int) (e:Int) 0 0 [] false false=some (if (e-j)+bM eX l<=13/\FV (l.take (bM eX l)) acc<=1000000000000 then ((⟨2,(FV (l.take (bM eX l)) acc:Nat),[],false,false⟩:aN),((e+bM eX l:Nat):Int)) else (QX,-1)):=by
 have L13:∀ (e acc:Nat),j<=e->e<=x.length->kI (j:Int) (acc:Int) (e:Int) 0 0 [] false false=some (if e-j<=13/\acc<=1000000000000 then ((⟨2,(acc:Nat),[],false,false⟩:aN),(e:Int)) else (QX,-1)):=by
  intro e acc h1 h2
  rw [BR,aT (by omega) (by omega)]
  by_cases h13:e-j<=13
  ·rw [if_neg (by simp;omega)]
   by_cases hb:acc<=1000000000000
   ·rw [if_neg (by simp;omega),if_pos ⟨h13,hb⟩]
    rfl
   ·rw [if_pos (by simp;omega),if_neg (by omega)];rfl
  ·rw [if_pos (by simp;omega),if_neg (by omega)];rfl
 intro l
 induction l with
 | nil=>
  intro e acc hd h1 h2 h3 h4
  have:x.length<=e:=by
   have:=congrArg List.length hd
   simp at this;omega
  rw [rB,if_neg (by simp [aw];omega),L13 e acc h1 h2]
  simp [bM,FV]
 | cons b l ih=>
  intro e acc hd h1 h2 h3 h4
  have hlt:e<x.length:=by
   have:=congrArg List.length hd
   simp at this;omega
  rw [List.drop_eq_getElem_cons hlt] at hd
  simp only [List.cons.injEq] at hd
  rw [rB,if_pos (by simp [aw,hlt]),aZ,List.getElem?_eq_getElem hlt,hd.1]
  simp only [Option.bind_some,pQ]
  cases hg:eX (ib b)
  ·rw [if_neg (by simp),L13 e acc h1 h2,sH hg]
   simp [FV]
  ·rw [if_pos rfl,sI hg,aT (by omega) (by omega)]
   by_cases h14:e-j<14
   ·have hb:=QU b
    unfold eX at hg
    simp only [Bool.and_eq_true_iff,decide_eq_true_eq] at hg
    have hp:10 ^ (e-j)<=10 ^ 13:=Nat.pow_le_pow_right (by decide) (by omega)
    have hp2:10 ^ (e-j+1)=10 ^ (e-j)*10:=Nat.pow_succ _ _
    rw [if_pos (by simp;omega),BQ,aZ,List.getElem?_eq_getElem hlt,hd.1]
    simp only [Option.bind_some]
    have e1:Go.IntKind.wrap Go.IntKind.u8 (ib b-48)=ib b-48:=by unfold IntKind.wrap;simp [IntKind.bits,IntKind.signed];omega
    rw [e1,aT (n:=ib b-48) (by omega) (by omega),aT (n:=10*(acc:Int)) (by omega) (by omega),aT (n:=10*(acc:Int)+(ib b-48)) (by omega) (by omega),aT (n:=(e:Int)+1) (by omega) (by omega)]
    rw [show 10*(acc:Int)+(ib b-48)=((acc*10+(b.toNat-48):Nat):Int) by omega,show (e:Int)+1=((e+1:Nat):Int) by omega]
    rw [ih (e+1) (acc*10+(b.toNat-48)) hd.2 (by omega) (by omega) (by omega) (by rw [show e+1-j=e-j+1 by omega];omega)]
    have en:FV ((b:: l).take (bM eX l+1)) acc=FV (l.take (bM eX l)) (acc*10+(b.toNat-48)):=by
     rw [List.take_succ_cons];rfl
    rw [en,show e+1-j+bM eX l=e-j+(bM eX l+1) by omega,show e+1+bM eX l=e+(bM eX l+1) by omega]
   ·rw [if_neg (by simp;omega),L13 e acc h1 h2,if_neg (by omega),if_neg (by omega)]
theorem Q0 {j:Nat} (q:Int):∀ (l:List UInt8) (e:Nat),x.drop e=l->j+1<=e->e<=x.length ->
  iE x (j:Int) q (e:Int) 0 0 [] false false=some (if bM (fun c=>c !=q) l<l.length/\e+bM (fun c=>c !=q) l-j-1<=200 then ((⟨3,0,(x.drop (j+1)).take (e+bM (fun c=>c !=q) l-j-1),false,false⟩:aN),((e+bM (fun c=>c !=q) l+1:Nat):Int)) else (QX,-1)):=by
 intro l
 induction l with
 | nil=>
  intro e hd h1 h2
  have:e=x.length:=by
   have:=congrArg List.length hd
   simp at this;omega
  rw [rC,if_neg (by simp [aw];omega),if_pos (by simp [aw,this]),rF]
  rfl
 | cons b l ih=>
  intro e hd h1 h2
  have hlt:e<x.length:=by
   have:=congrArg List.length hd
   simp at this;omega
  rw [List.drop_eq_getElem_cons hlt] at hd
  simp only [List.cons.injEq] at hd
  rw [rC,if_pos (by simp [aw,hlt]),aZ,List.getElem?_eq_getElem hlt,hd.1]
  simp only [Option.bind_some]
  by_cases hb:ib b=q
  ·have hr:(fun c:Int=>c !=q) (ib b)=false:=by simpa using hb
   rw [if_neg (by simpa using hb),if_neg (by simp [aw];omega),sH hr]
   rw [aT (n:=(e:Int)-(j:Int)) (by omega) (by omega),aT (by omega) (by omega)]
   simp only [Nat.add_zero]
   by_cases h200:e-j-1<=200
   ·rw [if_neg (by simp;omega),if_pos ⟨by simp,h200⟩,BS,aT (n:=(j:Int)+1) (by omega) (by omega),aT (by omega) (by omega)]
    have:=D3 (x:=x) (j:=j+1) (m:=e-j-1) (by omega)
    rw [show j+1+(e-j-1)=e by omega] at this
    rw [show (j:Int)+1=((j+1:Nat):Int) by omega,this]
    rfl
   ·rw [if_pos (by simp;omega),if_neg (by omega),rF]
    rfl
  ·have hr:(fun c:Int=>c !=q) (ib b)=true:=by simpa using hb
   rw [if_pos (by simpa using hb),aT (by omega) (by omega),show (e:Int)+1=((e+1:Nat):Int) by omega,ih (e+1) hd.2 (by omega) (by omega),sI hr]
   have e1:e+1+bM (fun c=>c !=q) l=e+(bM (fun c=>c !=q) l+1):=by omega
   rw [e1]
   simp only [List.length_cons,Nat.add_lt_add_iff_right]
theorem Ja {j:Nat} (hj:j<x.length):∃ (tk:aN) (e:Int),EH x (j:Int)=some (tk,e) /\
  (match I9 (x.drop j) with | none=>e = -1 | some (k,m,t,w)=>tk.fKind=k/\tk.fNum=m/\tk.fText=t/\e=((j+w:Nat):Int)):=by
 obtain ⟨b,r,hd⟩:∃ b r,x.drop j=b:: r:=⟨_,_,List.drop_eq_getElem_cons hj⟩
 have hget:idx x (j:Int)=some b:=by
  rw [aZ,List.getElem?_eq_getElem hj]
  rw [List.drop_eq_getElem_cons hj] at hd
  simp only [List.cons.injEq] at hd
  rw [hd.1]
 have hd1:x.drop (j+1)=r:=by
  rw [List.drop_eq_getElem_cons hj] at hd
  simp only [List.cons.injEq] at hd
  exact hd.2
 have hrl:(b:: r).length=x.length-j:=by rw [<-hd,List.length_drop]
 simp only [List.length_cons] at hrl
 have hone:w64 ((j:Int)+1)=((j+1:Nat):Int):=by rw [aT (by omega) (by omega)];omega
 rw [IT,hget,hd,yu]
 simp only [Option.bind_some,oj,pQ]
 by_cases h1:uR (ib b)=true
 ·have hle:=lP kR (b:: r)
  simp only [List.length_cons] at hle
  rw [if_pos h1,if_pos h1,rM (by omega) (by omega),hd]
  simp only [h1,if_true,Option.bind_some,<-Ka]
  generalize bM kR (b:: r)=n at hle
  rw [aT (by omega) (by omega)]
  by_cases h12:n<=12
  ·rw [if_neg (by simp;omega),if_pos h12,D3 (by omega),hd]
   exact ⟨_,_,rfl,rfl,rfl,rfl,rfl⟩
  ·rw [if_pos (by simp;omega),if_neg h12]
   exact ⟨_,_,rfl,rfl⟩
 rw [if_neg h1,if_neg h1]
 by_cases h2:eX (ib b)=true
 ·rw [if_pos h2,if_pos h2]
  have:=QZ hx (j:=j) (b:: r) j 0 hd (Nat.le_refl _) (by omega) (by omega) (by simp)
  simp only [Int.natCast_zero,Nat.sub_self,Nat.zero_add] at this
  rw [this]
  split
  ·exact ⟨_,_,rfl,rfl,rfl,rfl,rfl⟩
  ·exact ⟨_,_,rfl,rfl⟩
 rw [if_neg h2,if_neg h2]
 have quo:∃ (tk:aN) (e:Int),iE x (j:Int) (ib b) ((j+1:Nat):Int) 0 0 [] false false=some (tk,e)/\(match (if bM (fun c=>c !=ib b) r<r.length/\bM (fun c=>c !=ib b) r<=200 then some ((3:Int),(0:Int),r.take (bM (fun c=>c !=ib b) r),bM (fun c=>c !=ib b) r+2) else none) with | none=>e = -1 | some (k,m,t,w)=>tk.fKind=k/\tk.fNum=m/\tk.fText=t/\e=((j+w:Nat):Int)):=by
  rw [Q0 hx (ib b) r (j+1) hd1 (Nat.le_refl _) (by omega),hd1]
  rw [show j+1+bM (fun c=>c !=ib b) r-j-1=bM (fun c=>c !=ib b) r by omega]
  split
  ·exact ⟨_,_,rfl,rfl,rfl,rfl,by omega⟩
  ·exact ⟨_,_,rfl,rfl⟩
 by_cases h39:ib b=39
 ·rw [if_pos (by simpa using h39),if_pos (.inl h39),hone]
  exact quo
 rw [if_neg (by simpa using h39)]
 by_cases h34:ib b=34
 ·rw [if_pos (by simpa using h34),if_pos (.inr h34),hone]
  exact quo
 rw [if_neg (by simpa using h34),if_neg (by omega),zZ]
 simp only [Option.bind_some]
 by_cases h4:Hw (ib b)=true
 ·rw [if_pos h4,if_pos h4,hone]
  have:=D3 (x:=x) (j:=j) (m:=1) (by omega)
  rw [this,hd]
  exact ⟨_,_,rfl,rfl,rfl,rfl,rfl⟩
 ·rw [if_neg h4,if_neg h4,QY j (by omega) (ib b)]
  split
  ·exact ⟨_,_,rfl,rfl,rfl,rfl,rfl⟩
  ·exact ⟨_,_,rfl,rfl⟩
theorem Qb : ∀ (N n j:Nat) (bl:Bool) (out:List aN),n<=N->j<=x.length->x.length-j<=n->out.length<=120 ->
    (∀ tk,out[out.length-1]?=some tk->tk.fAfter=true\/(bl=false/\tI (x.drop j)=false))->eY x (j:Int) bl out=some (wC n (x.drop j) bl out j):=by
  have fin:∀ (j:Nat) (bl:Bool) (out:List aN) (n:Nat),x.length<=j->j<=x.length->out.length<=120->(∀ tk,out[out.length-1]?=some tk->tk.fAfter=true\/(bl=false/\tI (x.drop j)=false))->eY x (j:Int) bl out=some (wC n (x.drop j) bl out j):=by
    intro j bl out n h1 h2 ho hi
    have hd:x.drop j=[]:=List.drop_eq_nil_of_le h1
    have hs:wC n (x.drop j) bl out j=(out,0,0):=by rw [hd];cases n<;>rfl
    rw [hs,q8,if_neg (by simp [aw];omega)]
    by_cases h0:out.length=0
    · rw [if_neg (by simp [aw,h0])]
    · rw [if_pos (by simp [aw];omega),aw,aT (by omega) (by omega),show (out.length:Int)-1=((out.length-1:Nat):Int) by omega,aZ,Int.toNat_natCast]
      have hlt:out.length-1<out.length:=by omega
      rw [List.getElem?_eq_getElem hlt]
      simp only [Option.bind_some]
      have ha:(out[out.length-1]).fAfter=true:=by
        rcases hi _ (List.getElem?_eq_getElem hlt) with h | ⟨_,h⟩
        · exact h
        · rw [hd] at h;cases h
      have:upd out (out.length-1) ⟨out[out.length-1].fKind,out[out.length-1].fNum,out[out.length-1].fText,out[out.length-1].fBefore,true⟩=out:=by
        rw [Gv,<-ha]
        exact List.set_getElem_self hlt
      rw [this]
  intro N
  induction N with
  | zero=>
    intro n j bl out hn hj hl ho hi
    exact fin j bl out n (by omega) hj ho hi
  | succ N ih =>
    intro n j bl out hn hj hl ho hi
    by_cases hlt:j<x.length
    · obtain ⟨b,r,hd⟩:∃ b r,x.drop j=b:: r:=⟨_,_,List.drop_eq_getElem_cons hlt⟩
      have hget:idx x (j:Int)=some b:=by
        rw [aZ,List.getElem?_eq_getElem hlt]
        rw [List.drop_eq_getElem_cons hlt] at hd
        simp only [List.cons.injEq] at hd
        rw [hd.1]
      have hd1:x.drop (j+1)=r:=by
        rw [List.drop_eq_getElem_cons hlt] at hd
        simp only [List.cons.injEq] at hd
        exact hd.2
      obtain ⟨m,rfl⟩:∃ m,n=m+1:=⟨n-1,by omega⟩
      rw [q8,if_pos (by simpa [aw] using hlt),hget,hd]
      simp only [Option.bind_some,wC]
      by_cases hb:ib b=32
      · rw [if_pos (by simpa using hb),if_pos hb,aT (by omega) (by omega),show (j:Int)+1=((j+1:Nat):Int) by omega,ih m (j+1) true out (by omega) (by omega) (by omega) ho (fun tk h=>by
          rcases hi tk h with h | ⟨_,h⟩
          · exact .inl h
          · rw [hd] at h
            simp [tI,hb] at h),hd1]
      · rw [if_neg (by simpa using hb),if_neg hb]
        obtain ⟨tk,e,hs,hmt⟩:=Ja hx hlt
        rw [hs]
        rw [hd] at hmt
        simp only [Option.bind_some]
        cases ht:I9 (b:: r) with
        | none=>
          rw [ht] at hmt
          simp only at hmt
          subst hmt
          rw [if_pos (by simp)]
        | some z=>
          obtain ⟨k,mm,t,w⟩:=z
          rw [ht] at hmt
          simp only at hmt
          obtain ⟨rfl,rfl,rfl,rfl⟩:=hmt
          have hw:=Hx ht
          rw [<-hd,List.length_drop] at hw
          rw [if_neg (by simp;omega)]
          simp only
          by_cases h120:out.length=120
          · rw [if_pos (show (len out==120)=true by simp [aw,h120]),if_pos (show 120<=out.length by omega)]
          · rw [if_neg (show ¬ (len out==120)=true by simp [aw];omega),if_neg (show ¬ 120<=out.length by omega)]
            have hrest:(b:: r).drop w=x.drop (j+w):=by rw [<-hd,List.drop_drop]
            rw [hrest]
            have go:∀ af:Bool,af=tI (x.drop (j+w))->((app out [(⟨tk.fKind,tk.fNum,tk.fText,bl,af⟩:aN)]).bind fun y=>eY x ((j+w:Nat):Int) false y)=some (wC m (x.drop (j+w)) false (out++[⟨tk.fKind,tk.fNum,tk.fText,bl,tI (x.drop (j+w))⟩]) (j+w)):=by
              intro af h
              rw [aH (by simp;omega)]
              simp only [Option.bind_some]
              rw [h]
              exact ih m (j+w) false _ (by omega) (by omega) (by omega) (by simp;omega) (fun tk' hk=>by
                simp only [List.length_append,List.length_cons,List.length_nil,Nat.zero_add,Nat.add_sub_cancel] at hk
                rw [List.getElem?_append_right (Nat.le_refl _)] at hk
                simp only [Nat.sub_self,List.getElem?_cons_zero,Option.some.injEq] at hk
                subst hk
                cases hnb:tI (x.drop (j+w))
                · exact .inr ⟨rfl,rfl⟩
                · exact .inl rfl)
            by_cases he:j+w=x.length
            · have hn2:x.drop (j+w)=[]:=List.drop_eq_nil_of_le (by omega)
              rw [if_pos (show (((j+w:Nat):Int)==len x)=true by simp [aw,he])]
              exact go true (by rw [hn2];rfl)
            · rw [if_neg (show ¬ (((j+w:Nat):Int)==len x)=true by simp [aw];omega),aZ,List.getElem?_eq_getElem (by omega)]
              simp only [Option.bind_some]
              exact go _ (by rw [List.drop_eq_getElem_cons (by omega)];rfl)
    · exact fin j bl out n (by omega) hj ho hi
end
theorem Cc {x:List UInt8} (h:x.length<=9223372036854775807):qz x=some (Nr x):=by
 rw [Bl]
 unfold Nr
 by_cases hl:x.length<=4000
 ·rw [if_neg (by simp [aw];omega),oW h]
  simp only [Option.bind_some]
  cases hp:FC x
  ·simp
  ·have:=Qb hl x.length x.length 0 true [] (Nat.le_refl _) (by omega) (by omega) (by simp) (fun tk h=>by simp at h)
   simp only [Int.natCast_zero,List.drop_zero] at this
   simp only [Bool.not_true,Bool.false_eq_true,if_false,hl,and_self,if_true,GV]
   rw [this]
   rfl
 ·rw [if_pos (by simp [aw];omega),if_neg (by omega)]
end Go.Dv.U

namespace Go.Dv.U
open Go Go.Dv Go.Proofs
mutual
def ai.n : ai->Nat
 | ⟨_,_,_,ks⟩=>1+ai.ns ks
def ai.ns : List ai->Nat
 | []=>0
 | y:: r=>ai.n y+ai.ns r
end
theorem ai.ns_eq : ∀ l,ai.ns l=aR ai.n l
 | []=>rfl
 | y:: r=>by simp only [ai.ns,aR,ai.ns_eq r]
theorem ai.n_eq (x:ai):x.n=1+aR ai.n x.fKids:=by
 rw [<-ai.ns_eq];cases x;rfl
mutual
def ai.all (p:ai->Bool):ai->Bool
 | ⟨a,b,c,ks⟩=>p ⟨a,b,c,ks⟩&&ai.alls p ks
def ai.alls (p:ai->Bool):List ai->Bool
 | []=>true
 | y:: r=>ai.all p y&&ai.alls p r
end
theorem ai.alls_eq (p:ai->Bool):∀ l,ai.alls p l=l.all (ai.all p)
 | []=>rfl
 | y:: r=>by simp only [ai.alls,List.all_cons,ai.alls_eq p r]
theorem ai.all_eq (p:ai->Bool) (x:ai):x.all p=(p x&&x.fKids.all (ai.all p)):=by
 rw [<-ai.alls_eq];cases x;rfl
def wD (x:ai):Bool:=
 if x.fKind=1 then x.fKids.length==0&&x.fNum==0&&Lb x.fText
 else if x.fKind=2 then x.fKids.length==0&&x.fText==[]&&(decide (0<=x.fNum)&&decide (x.fNum<=1000000000000))
 else if x.fKind=3\/x.fKind=16\/x.fKind=17\/x.fKind=18 then x.fKids.length==0&&x.fNum==0&&bg x.fText
 else if x.fKind=4 then decide (x.fKids.length<=6)&&x.fNum==0&&bg x.fText
 else x.fNum==0&&x.fText==[]&&(if x.fKind=12\/x.fKind=13 then (match x.fKids with | [_,y]=>y.fKind==3 | _=>false)
  else if x.fKind=14\/x.fKind=15 then x.fKids.length==1
  else if 5<=x.fKind/\x.fKind<=11 then x.fKids.length==2 else false)
def ai.good (x:ai):Bool:=x.all wD
def ai.valid (x:ai):Bool:=x.good&&decide (x.n<=60)
theorem ai.good_eq (x:ai):x.good=(wD x&&x.fKids.all ai.good):=ai.all_eq _ _
theorem FG (n:Int):xe n=some (decide (0<=n)&&decide (n<=1000000000000)):=by
 rw [Fs,dw];rfl
theorem y1 (k:Int):vC k=some (decide (16<=k)&&decide (k<=18)):=by
 rw [G5,dw];rfl
theorem FH (k:Int):xg k=some (decide (6<=k)&&decide (k<=13)):=by
 rw [Fu,dw];rfl
theorem Kc (k:Int):(k=1\/k=2\/k=3\/k=4\/k=5\/k=6\/k=7\/k=8\/k=9\/k=10\/k=11\/k=12\/k=13\/k=14\/k=15\/k=16\/k=17\/k=18)\/(∀ j:Int,1<=j->j<=18->¬ k=j):=by
 by_cases h:1<=k/\k<=18
 ·left;omega
 ·right;intro j h1 h2 e;omega
theorem uS (x:ai):k6 x=some (wD x):=by
  obtain ⟨k,n,t,ks⟩:=x
  rw [uG]
  simp only [wz,FG,y1,FH,dx,pG,pH,pK,pL,Option.bind_some,aw,wW,wD]
  rcases Kc k with hk | hk
  · rcases hk with rfl | rfl | rfl | rfl | rfl | rfl | rfl | rfl | rfl | rfl | rfl | rfl | rfl | rfl | rfl | rfl | rfl | rfl<;>rcases ks with _ | ⟨a,_ | ⟨b,_ | ⟨c,r⟩⟩⟩<;>simp<;>first | grind | (by_cases hn:n=0<;>by_cases hm:bg t=true<;>by_cases hr:r.length<=3<;>simp [hn,hm,hr]<;>omega)
  · have hr:(decide (16<=k)&&decide (k<=18))=false:=by
      by_cases h1:16<=k
      · have:=hk 16 (by omega) (by omega);have:=hk 17 (by omega) (by omega);have:=hk 18 (by omega) (by omega)
        have h2:¬ k<=18:=by omega
        simp [h2]
      · simp [h1]
    have hr2:(decide (6<=k)&&decide (k<=13))=false:=by
      by_cases h1:6<=k
      · have h2:¬ k<=13:=fun h2=>hk k (by omega) (by omega) rfl
        simp [h2]
      · simp [h1]
    have hr3:¬ (5<=k/\k<=11):=fun h=>hk k (by omega) (by omega) rfl
    simp only [hk,hr,hr2,hr3,beq_iff_eq,Int.reduceLE,or_self,if_false,Bool.false_eq_true,not_false_eq_true,Bool.and_false,ite_self]
theorem FI (x:ai):xb x.fKind x.fNum x.fText x.fKids=some (wD x):=by
 obtain ⟨k,n,t,ks⟩:=x
 rw [Fl]
 simp only [wA,ef,dy,yf,yg,yj,yk,yp,yi,Option.bind_some,aw,wW,wD]
 rcases Kc k with hk | hk
 ·rcases hk with rfl | rfl | rfl | rfl | rfl | rfl | rfl | rfl | rfl | rfl | rfl | rfl | rfl | rfl | rfl | rfl | rfl | rfl<;>rcases ks with _ | ⟨a,_ | ⟨b,_ | ⟨c,r⟩⟩⟩<;>simp<;>first | grind | (by_cases hn:n=0<;>by_cases hm:bg t=true<;>by_cases hr:r.length<=3<;>simp [hn,hm,hr]<;>omega)
 ·have hr3:¬ (5<=k/\k<=11):=fun h=>hk k (by omega) (by omega) rfl
  simp only [hk,hr3,beq_iff_eq,Int.reduceLE,or_self,if_false,Bool.false_eq_true,not_false_eq_true,Bool.and_false,ite_self]
theorem FJ {l:List ai}:l.length<=aR ai.n l:=by
 induction l with
 | nil=>simp [aR]
 | cons y r ih=>simp only [List.length_cons,aR];have:=y.n_eq;omega
theorem ai.n_le_m : ∀ x:ai,x.n<=x.m+1:=by
 intro x
 induction x using ai.ind with
 | h x ih=>
  rw [x.n_eq,x.m_eq]
  have:∀ l:List ai,(∀ y∈l,y.n<=y.m+1)->aR ai.n l<=l.length+aR ai.m l:=by
   intro l
   induction l with
   | nil=>intro _;simp [aR]
   | cons y r ihr=>
    intro h
    have h1:=h y (by simp)
    have h2:=ihr fun z hz=>h z (by simp [hz])
    simp only [aR,List.length_cons];omega
  have:=this x.fKids ih
  omega
theorem Cd : ∀ x:ai,x.m<=1048576->∀ c:Int,0<=c->c<=60->nw x c=some (if x.good=true/\c+x.n<=60 then c+x.n else 61):=by
 intro x
 induction x using ai.ind with
 | h x ih=>
  intro hm c h0 h1
  have hmq:=x.m_eq
  have hn:=x.n_eq
  have loop:∀ c:Int,0<=c->c<=60->f8 c x.fKids (len x.fKids) ((0:Nat):Int)=some (if x.fKids.all ai.good=true/\c+aR ai.n x.fKids<=60 then c+aR ai.n x.fKids else 61):=by
   refine cB (xs:=x.fKids) (by omega) (P:=fun i l=>∀ c:Int,0<=c->c<=60->f8 c x.fKids (len x.fKids) i=some (if l.all ai.good=true/\c+aR ai.n l<=60 then c+aR ai.n l else 61)) ?_ ?_
   ·intro c h0 h1
    rw [nG]
    simp [aw,aR,h1]
   ·intro i y l _ hlt hy hi hw ih2 c h0 h1
    rw [nG,hi,hw,if_pos (by simp [aw,hlt])]
    have hmy:=ai.m_kid hy
    simp only [Option.bind_some,ai.re_eq,ih y hy (by omega) c h0 h1]
    have e:aR ai.n (y:: l)=y.n+aR ai.n l:=rfl
    rw [e,List.all_cons]
    by_cases hc:y.good=true/\c+y.n<=60
    ·rw [if_pos hc,if_neg (by simp;omega),ih2 _ (by omega) hc.2]
     congr 1
     by_cases hd:l.all ai.good=true/\c+y.n+aR ai.n l<=60
     ·rw [if_pos hd,if_pos ⟨Bool.and_eq_true_iff.2 ⟨hc.1,hd.1⟩,by omega⟩];omega
     ·rw [if_neg hd,if_neg fun h=>hd ⟨(Bool.and_eq_true_iff.1 h.1).2,by omega⟩]
    ·rw [if_neg hc,if_pos (by simp),if_neg fun h=>hc ⟨(Bool.and_eq_true_iff.1 h.1).1,by omega⟩]
  have hg:=x.good_eq
  rw [BL,aT (by omega) (by omega)]
  by_cases c1:c+1>60
  ·rw [if_pos (by simpa using c1),if_neg (by omega)]
  rw [if_neg (by simpa using c1),ai.re_eq,uS]
  have:=loop (c+1) (by omega) (by omega)
  simp only [Int.natCast_zero] at this
  rw [this,hg]
  simp only [Option.bind_some]
  cases ha:wD x
  ·simp
  ·simp only [Bool.not_true,Bool.false_eq_true,if_false,Bool.true_and]
   congr 1
   by_cases hd:x.fKids.all ai.good=true/\c+1+aR ai.n x.fKids<=60
   ·rw [if_pos hd,if_pos ⟨hd.1,by omega⟩];omega
   ·rw [if_neg hd,if_neg fun h=>hd ⟨h.1,by omega⟩]
theorem Dx {x:ai} (hm:x.m<=1048576):ub x=some x.valid:=by
 rw [C4,ai.re_eq,Cd x hm 0 (by omega) (by omega)]
 simp only [Option.bind_some,ai.valid]
 congr 1
 by_cases h:x.good=true/\(0:Int)+x.n<=60
 ·rw [if_pos h,h.1];simp;omega
 ·rw [if_neg h]
  cases hg:x.good
  ·simp
  ·simp only [hg,true_and] at h;simp;omega
theorem Hy : ∀ x:ai,x.m<=1048576->∃ v:Int,vE x.fKind x.fNum x.fText x.fKids=some v/\1<=v/\v<=x.n/\(v<=60->v=x.n):=by
 intro x
 induction x using ai.ind with
 | h x ih=>
  intro hm
  have hmq:=x.m_eq
  have hn:=x.n_eq
  have hnm:=x.n_le_m
  have loop:∀ acc:Int,1<=acc->acc+aR ai.n x.fKids<=1048577->∃ v:Int,kH x.fKind x.fNum x.fText x.fKids acc ((0:Nat):Int)=some v/\acc<=v/\v<=acc+aR ai.n x.fKids/\(v<=60->v=acc+aR ai.n x.fKids):=by
   refine cB (xs:=x.fKids) (by omega) (P:=fun i l=>∀ acc:Int,1<=acc->acc+aR ai.n l<=1048577->∃ v:Int,kH x.fKind x.fNum x.fText x.fKids acc i=some v/\acc<=v/\v<=acc+aR ai.n l/\(v<=60->v=acc+aR ai.n l)) ?_ ?_
   ·intro acc h1 h2
    refine ⟨acc,?_,Int.le_refl _,by simp [aR],by simp [aR]⟩
    rw [mA]
    simp [aw]
   ·intro i y l _ hlt hy hi hw ih2 acc h1 h2
    have hmy:=ai.m_kid hy
    have hyn:=y.n_eq
    have e:aR ai.n (y:: l)=y.n+aR ai.n l:=rfl
    rw [e] at h2 ⊢
    by_cases hc:acc<=60
    ·obtain ⟨v,hv,v1,v2,v3⟩:=ih y hy (by omega)
     obtain ⟨u,hu,u1,u2,u3⟩:=ih2 (acc+v) (by omega) (by omega)
     refine ⟨u,?_,by omega,by omega,by omega⟩
     rw [mA,hi,hw,if_pos (by simp [aw,hlt]),if_pos (by simpa using hc)]
     simp only [Option.bind_some,hv]
     rw [aT (by omega) (by omega)]
     exact hu
    ·refine ⟨acc,?_,Int.le_refl _,by omega,by omega⟩
     rw [mA,if_pos (by simp [aw,hlt]),if_neg (by simpa using hc)]
  obtain ⟨v,hv,v1,v2,v3⟩:=loop 1 (Int.le_refl _) (by omega)
  refine ⟨v,?_,v1,by omega,by omega⟩
  rw [G6]
  exact hv
theorem FK : ∀ x:ai,x.m<=1048576->oK x.fKind x.fNum x.fText x.fKids=some x.good:=by
 intro x
 induction x using ai.ind with
 | h x ih=>
  intro hm
  have hmq:=x.m_eq
  rw [Fe,FI,x.good_eq]
  have:=cP (xs:=x.fKids) (by omega) (F:=fun y=>oK y.fKind y.fNum y.fText y.fKids) (p:=ai.good) (J:=lJ x.fKind x.fNum x.fText x.fKids) (fun i=>by rw [zQ]) (fun y hy=>ih y hy (by have:=ai.m_kid hy;omega))
  rw [this]
  simp only [Option.bind_some]
  cases wD x<;>simp
theorem Lf {x:ai} (hm:x.m<=1048576):Ix x.fKind x.fNum x.fText x.fKids=some x.valid:=by
 rw [KX]
 obtain ⟨v,hv,v1,v2,v3⟩:=Hy x hm
 rw [hv,FK x hm]
 simp only [Option.bind_some,ai.valid]
 by_cases h:v<=60
 ·have:=v3 h
  rw [if_pos (by simpa using h)]
  have h2:x.n<=60:=by omega
  simp [h2]
 ·rw [if_neg (by simpa using h)]
  have h2:¬ x.n<=60:=by omega
  simp [h2]
def b8 (k:Int):Int:=if k=6 then 1 else if k=7 then 2 else if k=8\/k=9 then 3 else if k=10\/k=11 then 4 else if k=12\/k=13 then 5 else if 14<=k/\k<=18 then 6 else 7
def OW (k:Int):List UInt8:=if k=6 then [124] else if k=8 then [43] else if k=9 then [45] else if k=10 then [42] else if k=11 then [47] else if k=12 then [46] else if k=13 then [36] else if k=14 then [45] else if k=15 then [36] else if k=16 then [46] else if k=17 then [42] else if k=18 then [64] else []
theorem D4 (k:Int):1<=b8 k/\b8 k<=7:=by unfold b8;grind (splits:=60)
theorem FL (k:Int):(OW k).length<=1:=by unfold OW;grind (splits:=60)
theorem D5 (k:Int):EI k=some (b8 k):=by
 rw [KY,Db,Dc,Dd,De];unfold b8;grind (splits:=60)
theorem wE (k n:Int) (t:List UInt8) (ks:List ai):r7 k n t ks=some (b8 k):=by
 rw [E0,xS,xT,xU,xV];unfold b8;grind (splits:=60)
theorem uT {k:Int} (h0:0<=k) (h1:k<=18):vD k=some (OW k):=by
 rw [IU,M8 h0]
 have:k=0\/k=1\/k=2\/k=3\/k=4\/k=5\/k=6\/k=7\/k=8\/k=9\/k=10\/k=11\/k=12\/k=13\/k=14\/k=15\/k=16\/k=17\/k=18:=by omega
 rcases this with rfl | rfl | rfl | rfl | rfl | rfl | rfl | rfl | rfl | rfl | rfl | rfl | rfl | rfl | rfl | rfl | rfl | rfl | rfl<;>rfl
theorem Hz {k:Int} (h0:6<=k) (h1:k<=13):A5 k=some (if k=7 then [32] else 32:: OW k++[32]):=by
 rw [G0]
 have:k=6\/k=7\/k=8\/k=9\/k=10\/k=11\/k=12\/k=13:=by omega
 rcases this with rfl | rfl | rfl | rfl | rfl | rfl | rfl | rfl<;>rfl
def HA (l:Int) (p:Int×List UInt8):List UInt8:=if p.1<l then 40:: (p.2++[41]) else p.2
theorem kt (l:Int) (p:Int×List UInt8):(HA l p).length<=p.2.length+2:=by
 unfold HA;split<;>simp
def mU (k n:Int) (t:List UInt8) (ps:List (Int×List UInt8)):List UInt8:=
 if k=1 then I5 t else if k=2 then Lib.itoa n else if k=3 then t
 else if k=4 then t++[40]++Lib.join (ps.map (·.2)) [44]++[41]
 else if k=16\/k=17\/k=18 then OW k++t
 else match ps with
  | [a]=>OW k++HA 6 a
  | [a,b]=>if k=5 then HA 7 a++[60]++b.2++[62] else if k=7 then HA 2 a++[32]++HA 3 b else HA (b8 k) a++[32]++OW k++[32]++HA (b8 k+1) b
  | _=>[]
mutual
def ai.text : ai->List UInt8
 | ⟨k,n,t,ks⟩=>mU k n t (ai.ptexts ks)
def ai.ptexts : List ai->List (Int×List UInt8)
 | []=>[]
 | y:: r=>(b8 y.fKind,ai.text y):: ai.ptexts r
end
theorem ai.ptexts_eq : ∀ l,ai.ptexts l=l.map fun y=>(b8 y.fKind,ai.text y)
 | []=>rfl
 | y:: r=>by simp only [ai.ptexts,List.map_cons,ai.ptexts_eq r]
theorem ai.text_eq (x:ai):x.text=mU x.fKind x.fNum x.fText (x.fKids.map fun y=>(b8 y.fKind,ai.text y)):=by
 rw [<-ai.ptexts_eq];cases x;rfl
theorem jV {s:List UInt8} (h:bg s=true):s.length<=12:=by
 cases s with
 | nil=>simp
 | cons b r=>
  simp only [bg,Bool.and_eq_true_iff,decide_eq_true_eq] at h
  exact h.1.1
theorem FM (l:List ai) (C:Nat) (h:∀ y∈l,y.text.length<=C*y.n):Lib.lens (l.map ai.text)<=C*aR ai.n l:=by
 induction l with
 | nil=>simp [Lib.lens,aR]
 | cons y r ih=>
  have h1:=h y (by simp)
  have h2:=ih fun z hz=>h z (by simp [hz])
  have:Lib.lens ((y:: r).map ai.text)=y.text.length+Lib.lens (r.map ai.text):=by simp [Lib.lens]
  rw [this]
  simp only [aR,Nat.mul_add];omega
theorem Ce (xs:List (List UInt8)):(Lib.join xs [44]).length<=xs.length+Lib.lens xs:=by
 cases xs with
 | nil=>simp [Lib.join_nil]
 | cons x r=>rw [Lib.join_length];simp
theorem cT {x:ai} (h:wD x=true):(x.fKind=1/\x.fKids=[]/\Lb x.fText=true)\/(x.fKind=2/\x.fKids=[]/\0<=x.fNum/\x.fNum<=1000000000000) \/
  ((x.fKind=3\/x.fKind=16\/x.fKind=17\/x.fKind=18)/\x.fKids=[]/\bg x.fText=true)\/(x.fKind=4/\x.fKids.length<=6/\bg x.fText=true) \/
  ((x.fKind=14\/x.fKind=15)/\∃ a,x.fKids=[a])\/((5<=x.fKind/\x.fKind<=13)/\∃ a b,x.fKids=[a,b]):=by
 obtain ⟨k,n,t,ks⟩:=x
 unfold wD at h
 rcases ks with _ | ⟨a,_ | ⟨b,_ | ⟨c,r⟩⟩⟩<;>grind (splits:=60)
theorem ai.text_len : ∀ x:ai,x.good=true->x.text.length<=250*x.n:=by
 intro x
 induction x using ai.ind with
 | h x ih=>
  intro hg
  have hn:=x.n_eq
  rw [x.good_eq,Bool.and_eq_true_iff] at hg
  obtain ⟨hnode,hk⟩:=hg
  rw [List.all_eq_true] at hk
  have ih:=fun y hy=>ih y hy (hk y hy)
  rw [x.text_eq,hn]
  have hs:=FL x.fKind
  have l1:∀ l a,(HA l a).length<=a.2.length+2:=kt
  rcases cT hnode with ⟨h1,h2,h3⟩ | ⟨h1,h2,h3,h4⟩ | ⟨h1,h2,h3⟩ | ⟨h1,h2,h3⟩ | ⟨h1,a,h2⟩ | ⟨h1,a,b,h2⟩
  ·have:=Np x.fText
   simp only [mU,h1,if_true];omega
  ·have:=OV h3 h4
   simp only [mU,h1,if_true];simp;omega
  ·have:=jV h3
   unfold mU
   rcases h1 with h1 | h1 | h1 | h1<;>rw [h1] at hs ⊢<;>simp<;>omega
  ·have:=jV h3
   have hj:=Ce (x.fKids.map ai.text)
   have hl:=FM x.fKids 250 ih
   rw [List.length_map] at hj
   have e:((x.fKids.map fun y=>(b8 y.fKind,ai.text y)).map (·.2))=x.fKids.map ai.text:=by rw [List.map_map];rfl
   simp only [mU,h1,e]
   simp only [List.length_append,List.length_cons,List.length_nil,show ¬ ((4:Int)=1) by decide,show ¬ ((4:Int)=2) by decide,show ¬ ((4:Int)=3) by decide,if_false,if_true]
   omega
  ·have ha:=ih a (by simp [h2])
   have hl:=l1 6 (b8 a.fKind,a.text)
   rw [h2]
   simp only [List.map_cons,List.map_nil,aR]
   unfold mU
   rcases h1 with h1 | h1<;>rw [h1] at hs ⊢<;>simp<;>simp at hl<;>omega
  ·have ha:=ih a (by simp [h2])
   have hb:=ih b (by simp [h2])
   have p1:=fun l=>l1 l (b8 a.fKind,a.text)
   have p2:=fun l=>l1 l (b8 b.fKind,b.text)
   have q1:=p1 7
   have q2:=p1 2
   have q3:=p2 3
   have q4:=p1 (b8 x.fKind)
   have q5:=p2 (b8 x.fKind+1)
   rw [h2]
   simp only [List.map_cons,List.map_nil,aR]
   unfold mU
   rw [if_neg (by omega),if_neg (by omega),if_neg (by omega),if_neg (by omega),if_neg (by omega)]
   simp only at q1 q2 q3 q4 q5 ⊢
   split
   ·simp only [List.length_append,List.length_cons,List.length_nil];omega
   ·split
    ·simp only [List.length_append,List.length_cons,List.length_nil];omega
    ·simp only [List.length_append,List.length_cons,List.length_nil];omega
theorem nI {y:ai} (l:Int) (h:du y=some y.text) (hl:y.text.length<=1000000000):je y l=some (HA l (b8 y.fKind,y.text)):=by
 rw [G1,D5,ai.re_eq,h]
 simp only [Option.bind_some,HA]
 rw [aH (by simp;omega)]
 simp only [Option.bind_some]
 rw [aH (by simp;omega)]
 by_cases hc:b8 y.fKind<l
 ·rw [if_pos (by simpa using hc),if_pos hc];simp
 ·rw [if_neg (by simpa using hc),if_neg hc]
theorem sJ {y:ai} (l:Int) (h:dM y.fKind y.fNum y.fText y.fKids=some y.text) (hl:y.text.length<=1000000000):qC y.fKind y.fNum y.fText y.fKids l=some (HA l (b8 y.fKind,y.text)):=by
 rw [KU,wE,h]
 simp only [Option.bind_some,HA]
 rw [aH (by simp;omega)]
 simp only [Option.bind_some]
 rw [aH (by simp;omega)]
 by_cases hc:b8 y.fKind<l
 ·rw [if_pos (by simpa using hc),if_pos hc];simp
 ·rw [if_neg (by simpa using hc),if_neg hc]
theorem Dy : ∀ x:ai,x.good=true->x.n<=1000000->du x=some x.text:=by
 intro x
 induction x using ai.ind with
 | h x ih=>
  intro hg hn60
  have hlen:=x.text_len hg
  have hn:=x.n_eq
  have hg':=hg
  rw [x.good_eq,Bool.and_eq_true_iff] at hg
  obtain ⟨hnode,hk⟩:=hg
  rw [List.all_eq_true] at hk
  have kid:∀ y∈x.fKids,du y=some y.text/\y.text.length<=250000000:=fun y hy=>by
   have h1:=bh (m:=ai.n) hy
   have h2:=y.text_len (hk y hy)
   exact ⟨ih y hy (hk y hy) (by omega),by omega⟩
  rw [C2,D5]
  simp only [Option.bind_some,y1]
  have hs:=FL x.fKind
  rw [x.text_eq]
  rcases cT hnode with ⟨h1,h2,h3⟩ | ⟨h1,h2,h3,h4⟩ | ⟨h1,h2,h3⟩ | ⟨h1,h2,h3⟩ | ⟨h1,a,h2⟩ | ⟨h1,a,b,h2⟩
  ·simp [h1,mU,zX]
  ·simp [h1,mU,Hu (show -9223372036854775808<=x.fNum by omega) (show x.fNum<=9223372036854775807 by omega)]
  ·have:=jV h3
   rcases h1 with h1 | h1 | h1 | h1
   ·simp [h1,mU]
   all_goals
    rw [h1] at hs ⊢
    simp [mU,uT]
    rw [aH (by omega)]
  ·have hnl:=jV h3
   have fin:∀ acc:List (List UInt8),acc.length<=6->Lib.lens acc<=250000000->eQ x.fKids (len x.fKids) (len x.fKids) x.fKind x.fNum x.fText x.fKids acc=some (x.fText++[40]++Lib.join acc [44]++[41]):=by
    intro acc h1 h2
    have hj:=Ce acc
    rw [nD,if_neg (by simp)]
    rw [aH (by simp;omega)]
    unfold KO
    rw [if_pos (by unfold big;omega)]
    simp only [Option.bind_some]
    rw [aH (by simp;omega)]
    simp only [Option.bind_some]
    rw [aH (by simp;omega)]
    rfl
   have loop:∀ acc:List (List UInt8),acc.length+x.fKids.length<=6->Lib.lens acc+Lib.lens (x.fKids.map ai.text)<=250000000->eQ x.fKids (len x.fKids) ((0:Nat):Int) x.fKind x.fNum x.fText x.fKids acc=some (x.fText++[40]++Lib.join (acc++x.fKids.map ai.text) [44]++[41]):=by
    refine cB (xs:=x.fKids) (by omega) (P:=fun i l=>∀ acc:List (List UInt8),acc.length+l.length<=6->Lib.lens acc+Lib.lens (l.map ai.text)<=250000000->eQ x.fKids (len x.fKids) i x.fKind x.fNum x.fText x.fKids acc=some (x.fText++[40]++Lib.join (acc++l.map ai.text) [44]++[41])) ?_ ?_
    ·intro acc h1 h2
     have:=fin acc (by simpa using h1) (by omega)
     rw [aw] at this ⊢
     simpa using this
    ·intro i y l _ hlt hy hi hw ih2 acc h1 h2
     rw [nD,hi,hw,if_pos (by simp [aw,hlt])]
     simp only [Option.bind_some,ai.re_eq,(kid y hy).1]
     simp only [List.length_cons] at h1
     rw [aH (by simp;omega)]
     simp only [Option.bind_some]
     have e1:Lib.lens (acc++[y.text])=Lib.lens acc+y.text.length:=by simp [Lib.lens]
     have e2:Lib.lens ((y:: l).map ai.text)=y.text.length+Lib.lens (l.map ai.text):=by simp [Lib.lens]
     rw [e2] at h2
     rw [ih2 (acc++[y.text]) (by simp;omega) (by rw [e1];omega)]
     simp
   have hl:=FM x.fKids 250 (fun y hy=>y.text_len (hk y hy))
   have:=loop [] (by simpa using h2) (by simp [Lib.lens] at hl ⊢;omega)
   have e:((x.fKids.map fun y=>(b8 y.fKind,ai.text y)).map (·.2))=x.fKids.map ai.text:=by rw [List.map_map];rfl
   simp only [Int.natCast_zero,List.nil_append] at this
   rw [h1] at this ⊢
   simp only [mU,e]
   simpa using this
  ·obtain ⟨ka,la⟩:=kid a (by simp [h2])
   have hl:=kt 6 (b8 a.fKind,a.text)
   simp only at hl
   rw [h2]
   simp only [mZ,List.getElem?_cons_zero,Option.bind_some,ai.re_eq]
   rw [nI 6 ka (by omega)]
   rcases h1 with h1 | h1
   all_goals
    rw [h1] at hs ⊢
    simp [mU,uT,show b8 14=6 by decide,show b8 15=6 by decide]
    rw [aH (by omega)]
  ·obtain ⟨ka,la⟩:=kid a (by simp [h2])
   obtain ⟨kb,lb⟩:=kid b (by simp [h2])
   have p1:=fun l=>kt l (b8 a.fKind,a.text)
   have p2:=fun l=>kt l (b8 b.fKind,b.text)
   simp only at p1 p2
   have hr:=D4 x.fKind
   rw [h2]
   simp only [mZ,wW,List.getElem?_cons_zero,List.getElem?_cons_succ,Option.bind_some,ai.re_eq]
   rw [aT (by omega) (by omega)]
   simp only [fun l=>nI l ka (by omega),fun l=>nI l kb (by omega),kb,Option.bind_some]
   have q1:=p1 7
   have q2:=p1 2
   have q3:=p2 3
   have q4:=p1 (b8 x.fKind)
   have q5:=p2 (b8 x.fKind+1)
   have hsy:=uT (k:=x.fKind) (by omega) (by omega)
   have n1:¬ x.fKind=1:=by omega
   have n2:¬ x.fKind=2:=by omega
   have n3:¬ x.fKind=3:=by omega
   have n4:¬ x.fKind=4:=by omega
   have n5:¬ (x.fKind=16\/x.fKind=17\/x.fKind=18):=by omega
   have n6:(decide (16<=x.fKind)&&decide (x.fKind<=18))=false:=by simp;omega
   simp only [List.map_cons,List.map_nil,mU,n1,n2,n3,n4,n5,n6,if_false,beq_iff_eq,hsy,Option.bind_some,Bool.false_eq_true]
   by_cases c5:x.fKind=5
   ·rw [if_pos c5,if_pos c5]
    rw [aH (by simp;omega)]
    simp only [Option.bind_some]
    rw [aH (by simp;omega)]
    simp only [Option.bind_some]
    rw [aH (by simp;omega)]
    rfl
   ·have l6:¬ b8 x.fKind=6:=by unfold b8;grind (splits:=60)
    rw [if_neg c5,if_neg c5,if_neg l6]
    by_cases c7:x.fKind=7
    ·have l7:b8 x.fKind=2:=by unfold b8;simp [c7]
     rw [if_pos c7,if_pos c7]
     rw [l7] at q4 q5 ⊢
     rw [aH (by simp;omega)]
     simp only [Option.bind_some]
     rw [aH (by simp;omega)]
     rfl
    ·rw [if_neg c7,if_neg c7]
     rw [aH (by simp;omega)]
     simp only [Option.bind_some]
     rw [aH (by simp;omega)]
     simp only [Option.bind_some]
     rw [aH (by simp;omega)]
     simp only [Option.bind_some]
     rw [aH (by simp;omega)]
     rfl
theorem FN : ∀ x:ai,x.good=true->x.n<=1000000->dM x.fKind x.fNum x.fText x.fKids=some x.text:=by
 intro x
 induction x using ai.ind with
 | h x ih=>
  intro hg hn60
  have hlen:=x.text_len hg
  have hn:=x.n_eq
  have hg':=hg
  rw [x.good_eq,Bool.and_eq_true_iff] at hg
  obtain ⟨hnode,hk⟩:=hg
  rw [List.all_eq_true] at hk
  have kid:∀ y∈x.fKids,dM y.fKind y.fNum y.fText y.fKids=some y.text/\y.text.length<=250000000:=fun y hy=>by
   have h1:=bh (m:=ai.n) hy
   have h2:=y.text_len (hk y hy)
   exact ⟨ih y hy (hk y hy) (by omega),by omega⟩
  rw [EX]
  have hs:=FL x.fKind
  rw [x.text_eq]
  rcases cT hnode with ⟨h1,h2,h3⟩ | ⟨h1,h2,h3,h4⟩ | ⟨h1,h2,h3⟩ | ⟨h1,h2,h3⟩ | ⟨h1,a,h2⟩ | ⟨h1,a,b,h2⟩
  ·simp [h1,mU,zY]
  ·simp [h1,mU,I6 (show 0<=x.fNum by omega) (show x.fNum<9223372036854775808 by omega)]
  ·have:=jV h3
   rcases h1 with h1 | h1 | h1 | h1
   ·simp [h1,mU]
   all_goals
    rw [h1] at hs ⊢
    simp [mU,OW]
    rw [aH (by simp;omega)]
    simp
  ·have hnl:=jV h3
   have loop:∀ acc:List UInt8,acc.length<=1000->(((0:Nat):Int)=0->True)->ey x.fKind x.fNum x.fText x.fKids acc ((0:Nat):Int)=some (acc++Lib.join (x.fKids.map ai.text) [44]++[41]):=by
    have key:∀ acc:List UInt8,acc.length+Lib.lens (x.fKids.map ai.text)+x.fKids.length<=1000000000->ey x.fKind x.fNum x.fText x.fKids acc ((0:Nat):Int)=some (acc++(if (0:Nat)=0 then Lib.join (x.fKids.map ai.text) [44] else Lib.joinTail [44] (x.fKids.map ai.text))++[41]):=by
     refine cB (xs:=x.fKids) (by omega) (P:=fun i l=>∀ acc:List UInt8,acc.length+Lib.lens (l.map ai.text)+l.length<=1000000000->ey x.fKind x.fNum x.fText x.fKids acc i=some (acc++(if i=0 then Lib.join (l.map ai.text) [44] else Lib.joinTail [44] (l.map ai.text))++[41])) ?_ ?_
     ·intro acc h1
      rw [oP,if_neg (by simp [aw])]
      simp only [List.length_nil,Lib.lens,List.map_nil,List.sum_nil] at h1
      rw [aH (by simp;omega)]
      have:Lib.joinTail [44] []=[]:=rfl
      simp [Lib.join_nil,this]
     ·intro i y l _ hlt hy hi hw ih2 acc h1
      have e2:Lib.lens ((y:: l).map ai.text)=y.text.length+Lib.lens (l.map ai.text):=by simp [Lib.lens]
      rw [e2,List.length_cons] at h1
      rw [oP,hi,hw,if_pos (by simp [aw,hlt])]
      simp only [Option.bind_some,(kid y hy).1]
      by_cases h0:i=0
      ·subst h0
       rw [if_neg (by simp),aH (by omega)]
       simp only [Option.bind_some]
       rw [ih2 _ (by simp;omega)]
       simp only [Nat.zero_add,Nat.one_ne_zero,if_false,if_true,List.map_cons,Lib.join_cons,List.append_assoc]
      ·rw [if_pos (by simp;omega),aH (by simp;omega)]
       simp only [Option.bind_some]
       rw [aH (by simp;omega)]
       simp only [Option.bind_some]
       rw [ih2 _ (by simp;omega)]
       have:Lib.joinTail [44] (y.text:: l.map ai.text)=[44]++y.text++Lib.joinTail [44] (l.map ai.text):=rfl
       simp only [h0,Nat.add_eq_zero_iff,Nat.one_ne_zero,and_false,if_false,List.map_cons,this,List.append_assoc]
    intro acc h1 _
    have hl:=FM x.fKids 250 (fun y hy=>y.text_len (hk y hy))
    have:=key acc (by omega)
    simpa using this
   have e:((x.fKids.map fun y=>(b8 y.fKind,ai.text y)).map (·.2))=x.fKids.map ai.text:=by rw [List.map_map];rfl
   have:=loop (x.fText++[40]) (by simp;omega) (fun _=>trivial)
   simp only [Int.natCast_zero] at this
   rw [h1] at this ⊢
   simp only [mU,e]
   simp
   rw [aH (by simp;omega)]
   simpa using this
  ·obtain ⟨ka,la⟩:=kid a (by simp [h2])
   have hl:=kt 6 (b8 a.fKind,a.text)
   simp only at hl
   rw [h2]
   simp only [mZ,List.getElem?_cons_zero,Option.bind_some]
   rw [sJ 6 ka (by omega)]
   rcases h1 with h1 | h1
   all_goals
    rw [h1] at hs ⊢
    simp [mU,OW]
    rw [aH (by simp;omega)]
    simp
  ·obtain ⟨ka,la⟩:=kid a (by simp [h2])
   obtain ⟨kb,lb⟩:=kid b (by simp [h2])
   have p1:=fun l=>kt l (b8 a.fKind,a.text)
   have p2:=fun l=>kt l (b8 b.fKind,b.text)
   simp only at p1 p2
   have hr:=D4 x.fKind
   rw [h2]
   simp only [mZ,wW,List.getElem?_cons_zero,List.getElem?_cons_succ,Option.bind_some,wE]
   rw [aT (by omega) (by omega)]
   simp only [fun l=>sJ l ka (by omega),fun l=>sJ l kb (by omega),kb,Option.bind_some]
   have q1:=p1 7
   have q2:=p1 2
   have q3:=p2 3
   have q4:=p1 (b8 x.fKind)
   have q5:=p2 (b8 x.fKind+1)
   have n1:¬ x.fKind=1:=by omega
   have n2:¬ x.fKind=2:=by omega
   have n3:¬ x.fKind=3:=by omega
   have n4:¬ x.fKind=4:=by omega
   have n5:¬ (x.fKind=16\/x.fKind=17\/x.fKind=18):=by omega
   have m1:¬ x.fKind=16:=by omega
   have m2:¬ x.fKind=17:=by omega
   have m3:¬ x.fKind=18:=by omega
   have m4:¬ x.fKind=14:=by omega
   have m5:¬ x.fKind=15:=by omega
   simp only [List.map_cons,List.map_nil,mU,n1,n2,n3,n4,n5,m1,m2,m3,m4,m5,if_false,beq_iff_eq]
   by_cases c5:x.fKind=5
   ·rw [if_pos c5,if_pos c5]
    rw [aH (by simp;omega)]
    simp only [Option.bind_some]
    rw [aH (by simp;omega)]
    simp only [Option.bind_some]
    rw [aH (by simp;omega)]
    rfl
   ·rw [if_neg c5,if_neg c5,Hz (by omega) (by omega)]
    by_cases c7:x.fKind=7
    ·have l7:b8 x.fKind=2:=by unfold b8;simp [c7]
     rw [if_pos c7,if_pos c7]
     rw [l7] at q4 q5 ⊢
     simp only [Option.bind_some]
     rw [aH (by simp;omega)]
     simp only [Option.bind_some]
     rw [aH (by simp;omega)]
     rfl
    ·rw [if_neg c7,if_neg c7]
     simp only [Option.bind_some]
     rw [aH (by simp;omega)]
     simp only [Option.bind_some]
     rw [aH (by simp;omega)]
     simp
end Go.Dv.U

namespace Go.Dv.U
open Go Go.Dv Go.Proofs
def nmB (s:List UInt8):Bool:=s==[]||bg s
def gOk (g:aK):Bool:=(g.fAlways==[]||(g.fSuccess==[]&&g.fFailure==[]))&&(nmB g.fAlways&&nmB g.fSuccess&&nmB g.fFailure)
def wF (g:aK):Bool:=g.fAlways==[]&&g.fSuccess==[]&&g.fFailure==[]
def zE (e:ai):Bool:=e.fKind==0&&e.fNum==0&&e.fText==[]&&decide (e.fKids.length=0)
def kS (b:Bool) (e:ai):Bool:=if b=true then e.valid else zE e
def fB (s:aa):Bool:=nmB s.fLabel&&gOk s.fGoto&&(s.fHasSubject||(!s.fHasPattern&&!s.fHasReplace))&&(kS s.fHasSubject s.fSubject&&kS s.fHasPattern s.fPattern&&kS s.fHasReplace s.fReplace)&&!(s.fLabel==[]&&!s.fHasSubject&&wF s.fGoto)
def pS (c:UInt8) (s:List UInt8):List UInt8:=if s=[] then [] else [c,40]++s++[41]
def jw (g:aK):List UInt8:=if g.fAlways≠[] then [58,40]++g.fAlways++[41] else if pS 83 g.fSuccess++pS 70 g.fFailure=[] then [] else 58:: (pS 83 g.fSuccess++pS 70 g.fFailure)
def Lg (s:aa):List UInt8:=(if s.fHasReplace=true then [32,61,32]++s.fReplace.text else [])++(if jw s.fGoto=[] then [] else [32]++jw s.fGoto)
def FO (s:aa):List UInt8:=(if s.fHasSubject=true then [32]++HA 6 (b8 s.fSubject.fKind,s.fSubject.text) else [])++(if s.fHasPattern=true then [32]++s.fPattern.text else [])++Lg s
def jx (s:aa):List UInt8:=s.fLabel++FO s
def mF (s:aa):Bool:=fB s&&(decide ((jx s).length<=4000)&&(Nr (FO s)).2.2==0)
theorem yv {s:List UInt8} (h:nmB s=true):s.length<=12:=by
 unfold nmB at h
 rw [Bool.or_eq_true_iff] at h
 rcases h with h | h
 ·have:s=[]:=by simpa using h
  rw [this];simp
 ·exact jV h
theorem Q1 (s:List UInt8):nmB s=if s=[] then true else bg s:=by
 unfold nmB
 by_cases h:s=[]
 ·simp [h]
 ·have:(s==[])=false:=by simpa using h
  simp [h]
theorem y2 (s:List UInt8):oE s=some (nmB s):=by
 rw [GS,dy,Q1]
 simp only [Option.bind_some,beq_iff_eq]
 split<;>rfl
theorem tJ (g:aK):pn g=some (gOk g):=by
 rw [CW,xM,xN]
 simp only [y2,Option.bind_some,m0]
 congr 1
 unfold gOk
 cases g.fAlways==[]<;>cases g.fSuccess==[]<;>cases g.fFailure==[]<;>cases nmB g.fAlways<;>cases nmB g.fSuccess<;>cases nmB g.fFailure<;>rfl
theorem y3 (s:List UInt8):qE s=some (bg s):=by
 rw [GY,dx];rfl
theorem Dz (g:aK):pp g=some (gOk g):=by
 have hlab:pr g=some ([g.fAlways,g.fSuccess,g.fFailure].filter fun s=>!(s==[])):=by
  rw [zG]
  generalize g.fAlways=A
  generalize g.fSuccess=B
  generalize g.fFailure=D
  have t3:len [A,B,D]=3:=rfl
  have w1:w64 (0+1)=1:=by decide
  have w2:w64 (1+1)=2:=by decide
  have w3:w64 (2+1)=3:=by decide
  have step:∀ (i:Int) (acc:List (List UInt8)) (y:List UInt8),idx [A,B,D] i=some y->([A,B,D]:List (List UInt8))[i.toNat]?=some y->i<3->acc.length<=10->d4 3 i acc [A,B,D]=d4 3 (w64 (i+1)) (acc++[y].filter fun s=>!(s==[])) [A,B,D]:=by
   intro i acc y h1 h2 h3 h4
   rw [mz,if_pos (by simpa using h3),h1,h2]
   simp only [Option.bind_some]
   by_cases hy:y=[]
   ·rw [if_neg (by simp [hy])];simp [hy]
   ·have:(y==[])=false:=by simpa using hy
    have hf:([y].filter fun s=>!(s==[]))=[y]:=by
     rw [List.filter_cons,if_pos (by rw [this];rfl)]
     rfl
    rw [if_pos (by simp [hy]),aH (by simp;omega),hf]
    rfl
  have fl:∀ y:List UInt8,([y].filter fun s=>!(s==[])).length<=1:=fun y=>by
   have:=List.length_filter_le (fun s:List UInt8=>!(s==[])) [y]
   simpa using this
  have f1:=fl A
  have f2:=fl B
  rw [t3,step 0 [] A rfl rfl (by decide) (by simp),w1,step 1 _ B rfl rfl (by decide) (by simp at f1 ⊢;omega),w2,step 2 _ D rfl rfl (by decide) (by simp at f1 f2 ⊢;omega),w3,mz,if_neg (by decide)]
  congr 1
  rw [show [A,B,D]=[A]++[B]++[D] from rfl,List.filter_append,List.filter_append]
  simp
 have hall:∀ l:List (List UInt8),l.length<=10->dY l=some (l.all bg):=by
  intro l hl
  rw [le]
  exact cP (xs:=l) (by omega) (F:=qE) (p:=bg) (J:=ct l (len l)) (fun i=>by rw [jB]) (fun y _=>y3 y)
 rw [CY]
 try simp only [aK.re_eq]
 rw [hlab]
 simp only [Option.bind_some]
 rw [hall _ (by
  have:=List.length_filter_le (fun s:List UInt8=>!(s==[])) [g.fAlways,g.fSuccess,g.fFailure]
  simp at this ⊢;omega)]
 simp only [Option.bind_some,m0]
 congr 1
 unfold gOk nmB
 have hf:∀ s:List UInt8,(s==[])=true\/(s==[])=false:=fun s=>by cases s==[]<;>simp
 rcases hf g.fAlways with h1 | h1<;>rcases hf g.fSuccess with h2 | h2<;>rcases hf g.fFailure with h3 | h3<;>simp only [List.filter_cons,List.filter_nil,h1,h2,h3,Bool.not_true,Bool.not_false,Bool.false_eq_true,if_false,if_true,List.all_nil,List.all_cons,Bool.and_true,Bool.true_or,Bool.false_or,Bool.true_and,Bool.and_self,Bool.and_false,Bool.false_and,ite_self]<;>(try split)<;>simp_all
theorem uU (b:Bool) {e:ai} (hm:e.m<=1048576):vz b e=some (kS b e):=by
 rw [IQ]
 unfold kS
 cases b
 ·simp only [Bool.false_eq_true,if_false]
  have z0:(Int.ofNat 0)=0:=rfl
  simp only [ai.re_eq,z0]
  rw [Fd]
  unfold zE
  have hk:ba e.fKids []=some (decide (e.fKids.length=0)):=by
   rw [cN]
   by_cases h:e.fKids.length=0
   ·rw [if_neg (by simp [aw,h]),cA,if_neg (by simp [aw,h])]
    simp [h]
   ·rw [if_pos (by simp [aw];intro e;exact h (by rw [e];rfl))]
    simp [h]
  rw [hk]
  simp only [Option.bind_some,m0]
  cases e.fKind==0<;>cases e.fNum==0<;>cases e.fText==[]<;>simp
 ·simp only [if_true,ai.re_eq,Dx hm,Option.bind_some]
theorem rN (b:Bool) {e:ai} (hm:e.m<=1048576):qB b e=some (kS b e):=by
 rw [GU]
 unfold kS
 cases b
 ·simp only [Bool.false_eq_true,if_false]
  have z0:(Int.ofNat 0)=0:=rfl
  simp only [ai.re_eq,z0]
  rw [EZ,G2,BI]
  unfold zE
  by_cases h1:e.fKind=0
  ·rw [if_neg (by simp [h1])]
   by_cases h2:e.fNum=0
   ·rw [if_neg (by simp [h2])]
    by_cases h3:e.fText=[]
    ·rw [if_neg (by simp [h3])]
     by_cases h4:e.fKids.length=0
     ·rw [if_neg (by simp [aw,h4]),BJ,BP,if_neg (by simp [aw,h4])]
      simp [h1,h2,h3,h4]
     ·rw [if_pos (by simp [aw];intro e;exact h4 (by rw [e];rfl))]
      simp [h4]
    ·rw [if_pos (by simp [h3])]
     simp [h3]
   ·rw [if_pos (by simp [h2])]
    simp [h2]
  ·rw [if_pos (by simp [h1])]
   simp [h1]
 ·simp only [if_true,ai.re_eq,C1,Lf hm,Option.bind_some]
theorem HB {s:aa} (h1:s.fSubject.m<=1048576) (h2:s.fPattern.m<=1048576) (h3:s.fReplace.m<=1048576):AY s=some (fB s):=by
 rw [GM,Bq,Br,By,Bz]
 simp only [ai.re_eq,aK.re_eq,y2,tJ,rN _ h1,rN _ h2,rN _ h3,Option.bind_some,m0]
 congr 1
 unfold fB wF
 cases nmB s.fLabel<;>cases gOk s.fGoto<;>cases kS s.fHasSubject s.fSubject<;>cases kS s.fHasPattern s.fPattern<;>cases kS s.fHasReplace s.fReplace<;>cases s.fHasSubject<;>cases s.fHasPattern<;>cases s.fHasReplace<;>cases (s.fLabel==[])<;>cases s.fGoto.fAlways==[]<;>cases s.fGoto.fSuccess==[]<;>cases s.fGoto.fFailure==[]<;>rfl
theorem Jb {g:aK} (h:gOk g=true):g.fAlways.length<=12/\g.fSuccess.length<=12/\g.fFailure.length<=12:=by
 unfold gOk at h
 simp only [Bool.and_eq_true_iff] at h
 exact ⟨yv h.2.1.1,yv h.2.1.2,yv h.2.2⟩
theorem pT {c:UInt8} {s:List UInt8} (h:s≠[]):pS c s=[c,40]++s++[41]:=by unfold pS;rw [if_neg h]
theorem rO (c:UInt8):pS c []=[]:=rfl
theorem wG (c:UInt8) (s:List UInt8):(pS c s).length<=s.length+3:=by unfold pS;split<;>simp
theorem DA {g:aK} (h:gOk g=true):mn g=some (jw g):=by
 obtain ⟨l1,l2,l3⟩:=Jb h
 have L8:∀ o:List UInt8,o.length<=100->fD o=some (if o=[] then [] else 58:: o):=by
  intro o ho
  rw [xW]
  by_cases h:o=[]
  ·rw [if_pos (by simp [h]),if_pos h]
  ·rw [if_neg (by simpa using h),if_neg h,aH (by simp;omega)]
   rfl
 rw [C5]
 have w1:=wG 83 g.fSuccess
 have w2:=wG 70 g.fFailure
 by_cases hA:g.fAlways=[]
 ·have hG:jw g=if pS 83 g.fSuccess++pS 70 g.fFailure=[] then [] else 58:: (pS 83 g.fSuccess++pS 70 g.fFailure):=by unfold jw;rw [if_neg (fun h=>h hA)]
  rw [if_neg (by simp [hA]),hG]
  by_cases hS:g.fSuccess=[]
  ·rw [if_neg (by simp [hS]),hS,rO,List.nil_append]
   by_cases hF:g.fFailure=[]
   ·rw [if_neg (by simp [hF]),hF,rO,L8 [] (by simp)]
   ·rw [if_pos (by simp [hF]),aH (by simp;omega)]
    simp only [Option.bind_some]
    rw [aH (by simp;omega)]
    simp only [Option.bind_some]
    rw [aH (by simp;omega)]
    simp only [Option.bind_some]
    rw [L8 _ (by simp;omega),pT hF]
    simp
  ·rw [if_pos (by simp [hS]),aH (by simp;omega)]
   simp only [Option.bind_some]
   rw [aH (by simp;omega)]
   simp only [Option.bind_some]
   rw [aH (by simp;omega)]
   simp only [Option.bind_some]
   by_cases hF:g.fFailure=[]
   ·rw [if_neg (by simp [hF]),hF,rO,L8 _ (by simp;omega),pT hS]
    simp
   ·rw [if_pos (by simp [hF]),aH (by simp;omega)]
    simp only [Option.bind_some]
    rw [aH (by simp;omega)]
    simp only [Option.bind_some]
    rw [aH (by simp;omega)]
    simp only [Option.bind_some]
    rw [L8 _ (by simp;omega),pT hF,pT hS]
    simp
 ·have hG:jw g=[58,40]++g.fAlways++[41]:=by unfold jw;rw [if_pos hA]
  rw [if_pos (by simp [hA]),hG,aH (by simp;omega)]
  simp only [Option.bind_some]
  rw [aH (by simp;omega)]
  rfl
theorem FP {g:aK} (h:gOk g=true):oG g=some (jw g):=by
 obtain ⟨l1,l2,l3⟩:=Jb h
 rw [E1]
 try simp only [aK.re_eq]
 rw [tJ,h]
 simp only [Option.bind_some,Bool.not_true,Bool.false_eq_true,if_false]
 have L8:∀ (o A B D:List UInt8),o.length<=100->D.length<=12->lD o A B D=some (o++pS 70 D):=by
  intro o A B D ho hD
  rw [zH]
  by_cases h:D=[]
  ·rw [if_neg (by simp [h]),h,rO];simp
  ·rw [if_pos (by simp [h]),aH (by simp;omega)]
   simp only [Option.bind_some]
   rw [aH (by simp;omega)]
   simp only [Option.bind_some]
   rw [aH (by simp;omega),pT h]
   simp
 by_cases hA:g.fAlways=[]
 ·have hG:jw g=if pS 83 g.fSuccess++pS 70 g.fFailure=[] then [] else 58:: (pS 83 g.fSuccess++pS 70 g.fFailure):=by unfold jw;rw [if_neg (fun h=>h hA)]
  rw [hG]
  by_cases hS:g.fSuccess=[]
  ·by_cases hF:g.fFailure=[]
   ·rw [if_pos (by simp [hA,hS,hF]),hS,hF]
    rfl
   ·rw [if_neg (by simp [hF]),if_neg (by simp [hA]),if_neg (by simp [hS]),L8 _ _ _ _ (by simp) l3,hS,rO,pT hF]
    simp
  ·rw [if_neg (by simp [hS]),if_neg (by simp [hA]),if_pos (by simp [hS]),aH (by simp;omega)]
   simp only [Option.bind_some]
   rw [aH (by simp;omega)]
   simp only [Option.bind_some]
   rw [aH (by simp;omega)]
   simp only [Option.bind_some]
   rw [L8 _ _ _ _ (by simp;omega) l3,pT hS]
   simp
 ·have hG:jw g=[58,40]++g.fAlways++[41]:=by unfold jw;rw [if_pos hA]
  rw [if_neg (by simp [hA]),if_pos (by simp [hA]),hG,aH (by simp;omega)]
  simp only [Option.bind_some]
  rw [aH (by simp;omega)]
  rfl
theorem Cf {g:aK} (h:gOk g=true):(jw g).length<=100:=by
 obtain ⟨l1,l2,l3⟩:=Jb h
 have w1:=wG 83 g.fSuccess
 have w2:=wG 70 g.fFailure
 unfold jw
 repeat' split
 all_goals simp<;>omega
theorem HC (g:aK):jw g=[]↔wF g=true:=by
 unfold jw wF pS
 by_cases hA:g.fAlways=[]<;>by_cases hS:g.fSuccess=[]<;>by_cases hF:g.fFailure=[]<;>simp [hA,hS,hF]
theorem gi {b:Bool} {e:ai} (h:kS b e=true) (hb:b=true):du e=some e.text/\dM e.fKind e.fNum e.fText e.fKids=some e.text/\e.text.length<=15000:=by
 unfold kS at h
 rw [if_pos hb] at h
 unfold ai.valid at h
 rw [Bool.and_eq_true_iff,decide_eq_true_eq] at h
 have:=e.text_len h.1
 exact ⟨Dy e h.1 (by omega),FN e h.1 (by omega),by omega⟩
theorem pU {s:aa} (h:fB s=true):nmB s.fLabel=true/\gOk s.fGoto=true/\kS s.fHasSubject s.fSubject=true/\kS s.fHasPattern s.fPattern=true/\kS s.fHasReplace s.fReplace=true:=by
 unfold fB at h
 simp only [Bool.and_eq_true_iff] at h
 obtain ⟨⟨⟨⟨h1,h2⟩,h3⟩,⟨h4,h5⟩,h6⟩,h7⟩:=h
 exact ⟨h1,h2,h4,h5,h6⟩
theorem iA {s:aa} (h:fB s=true):fp s=some (jx s):=by
 obtain ⟨hl,hg,hs,hp,hr⟩:=pU h
 have ll:=yv hl
 have lg:=Cf hg
 have hgt:mn (aK.mk s.fGoto.fAlways s.fGoto.fSuccess s.fGoto.fFailure)=some (jw s.fGoto):=DA hg
 have L6:∀ acc:List UInt8,acc.length<=100000->db acc s.fLabel s.fHasSubject s.fSubject.fKind s.fSubject.fNum s.fSubject.fText s.fSubject.fKids s.fHasPattern s.fPattern.fKind s.fPattern.fNum s.fPattern.fText s.fPattern.fKids s.fHasReplace s.fReplace.fKind s.fReplace.fNum s.fReplace.fText s.fReplace.fKids s.fGoto.fAlways s.fGoto.fSuccess s.fGoto.fFailure=some (acc++Lg s):=by
  intro acc ha
  rw [qm]
  simp only [pE,hgt,Option.bind_some]
  unfold Lg
  have er:ai.mk s.fReplace.fKind s.fReplace.fNum s.fReplace.fText s.fReplace.fKids=s.fReplace:=by cases s.fReplace;rfl
  rw [er]
  have fin:∀ o:List UInt8,o.length<=200000->(if (!jw s.fGoto==[])=true then (app [32] (jw s.fGoto)).bind fun y194=>(app o y194).bind fun y193=>some y193 else some o)=some (o++(if jw s.fGoto=[] then [] else [32]++jw s.fGoto)):=by
   intro o ho
   by_cases hz:jw s.fGoto=[]
   ·rw [if_neg (by simp [hz]),if_pos hz];simp
   ·rw [if_pos (by simp [hz]),if_neg hz,aH (by simp;omega)]
    simp only [Option.bind_some]
    rw [aH (by simp;omega)]
    rfl
  cases hR:s.fHasReplace
  ·simp only [Bool.false_eq_true,if_false,List.nil_append]
   exact fin acc (by omega)
  ·obtain ⟨t1,_,t3⟩:=gi hr hR
   simp only [if_true,t1,Option.bind_some]
   rw [aH (by simp;omega)]
   simp only [Option.bind_some]
   rw [aH (by simp;omega)]
   simp only [Option.bind_some]
   rw [fin _ (by simp;omega)]
   simp
 rw [uq]
 try simp only [ai.re_eq,aK.re_eq]
 unfold jx FO
 cases hS:s.fHasSubject
 ·cases hP:s.fHasPattern
  ·rw [hS,hP] at L6
   simp only [Bool.false_eq_true,if_false,List.nil_append]
   exact L6 s.fLabel (by omega)
  ·obtain ⟨t1,_,t3⟩:=gi hp hP
   rw [hS,hP] at L6
   simp only [Bool.false_eq_true,if_false,if_true,List.nil_append,t1,Option.bind_some]
   rw [aH (by simp;omega)]
   simp only [Option.bind_some]
   rw [aH (by simp;omega)]
   simp only [Option.bind_some]
   rw [L6 _ (by simp;omega)]
   simp
 ·obtain ⟨u1,_,u3⟩:=gi hs hS
  have lo:=kt 6 (b8 s.fSubject.fKind,s.fSubject.text)
  simp only at lo
  have uo:=nI 6 u1 (by omega)
  cases hP:s.fHasPattern
  ·rw [hS,hP] at L6
   simp only [Bool.false_eq_true,if_false,if_true,uo,Option.bind_some]
   rw [aH (by simp;omega)]
   simp only [Option.bind_some]
   rw [aH (by simp;omega)]
   simp only [Option.bind_some]
   rw [L6 _ (by simp;omega)]
   simp
  ·obtain ⟨t1,_,t3⟩:=gi hp hP
   rw [hS,hP] at L6
   simp only [if_true,uo,t1,Option.bind_some]
   rw [aH (xs:=[32]) (ys:=HA 6 (b8 s.fSubject.fKind,s.fSubject.text)) (by simp;omega)]
   simp only [Option.bind_some]
   rw [aH (xs:=s.fLabel) (by simp;omega)]
   simp only [Option.bind_some]
   rw [aH (xs:=[32]) (by simp;omega)]
   simp only [Option.bind_some]
   rw [aH (by simp;omega)]
   simp only [Option.bind_some]
   rw [L6 _ (by simp;omega)]
   simp
theorem wH {s:aa} (h:fB s=true):r6 s=some (jx s):=by
  obtain ⟨hl,hg,hs,hp,hr⟩:=pU h
  have ll:=yv hl
  have lg:=Cf hg
  have hgt:oG (aK.mk s.fGoto.fAlways s.fGoto.fSuccess s.fGoto.fFailure)=some (jw s.fGoto):=FP hg
  have hz2:(s.fGoto.fAlways==[]&&(s.fGoto.fSuccess==[]&&(s.fGoto.fFailure==[]&&true)))=wF s.fGoto:=by
    unfold wF;simp only [Bool.and_true,Bool.and_assoc]
  have L6 : ∀ acc:List UInt8,acc.length<=100000->gz acc s.fLabel s.fHasSubject s.fSubject.fKind s.fSubject.fNum s.fSubject.fText s.fSubject.fKids s.fHasPattern s.fPattern.fKind s.fPattern.fNum s.fPattern.fText s.fPattern.fKids s.fHasReplace s.fReplace.fKind s.fReplace.fNum s.fReplace.fText s.fReplace.fKids s.fGoto.fAlways s.fGoto.fSuccess s.fGoto.fFailure=some (acc++Lg s):=by
    intro acc ha
    rw [zC]
    simp only [xO,hgt,hz2,Option.bind_some]
    unfold Lg
    have fin:∀ o:List UInt8,o.length<=200000->(if (!wF s.fGoto)=true then (app [32] (jw s.fGoto)).bind fun y194=>(app o y194).bind fun y193=>some y193 else some o)=some (o++(if jw s.fGoto=[] then [] else [32]++jw s.fGoto)):=by
      intro o ho
      by_cases hz:jw s.fGoto=[]
      · rw [if_neg (by rw [(HC _).1 hz];simp),if_pos hz];simp
      · have hzf:wF s.fGoto=false:=by
          cases hq:wF s.fGoto
          · rfl
          · exact absurd ((HC _).2 hq) hz
        rw [if_pos (by rw [hzf];rfl),if_neg hz,aH (by simp;omega)]
        simp only [Option.bind_some]
        rw [aH (by simp;omega)]
        rfl
    cases hR:s.fHasReplace
    · simp only [Bool.false_eq_true,if_false,List.nil_append]
      exact fin acc (by omega)
    · obtain ⟨_,t1,t3⟩:=gi hr hR
      simp only [if_true,t1,Option.bind_some]
      rw [aH (by simp;omega)]
      simp only [Option.bind_some]
      rw [aH (by simp;omega)]
      simp only [Option.bind_some]
      rw [fin _ (by simp;omega)]
      simp
  rw [EU]
  try simp only [ai.re_eq,aK.re_eq]
  unfold jx FO
  cases hS:s.fHasSubject
  · cases hP:s.fHasPattern
    · rw [hS,hP] at L6
      simp only [Bool.false_eq_true,if_false,List.nil_append]
      exact L6 s.fLabel (by omega)
    · obtain ⟨_,t1,t3⟩:=gi hp hP
      rw [hS,hP] at L6
      simp only [Bool.false_eq_true,if_false,if_true,List.nil_append,t1,Option.bind_some]
      rw [aH (by simp;omega)]
      simp only [Option.bind_some]
      rw [aH (by simp;omega)]
      simp only [Option.bind_some]
      rw [L6 _ (by simp;omega)]
      simp
  · obtain ⟨_,u1,u3⟩:=gi hs hS
    have lo:=kt 6 (b8 s.fSubject.fKind,s.fSubject.text)
    simp only at lo
    have uo:=sJ 6 u1 (by omega)
    cases hP:s.fHasPattern
    · rw [hS,hP] at L6
      simp only [Bool.false_eq_true,if_false,if_true,uo,Option.bind_some]
      rw [aH (by simp;omega)]
      simp only [Option.bind_some]
      rw [aH (by simp;omega)]
      simp only [Option.bind_some]
      rw [L6 _ (by simp;omega)]
      simp
    · obtain ⟨_,t1,t3⟩:=gi hp hP
      rw [hS,hP] at L6
      simp only [if_true,uo,t1,Option.bind_some]
      rw [aH (xs:=[32]) (ys:=HA 6 (b8 s.fSubject.fKind,s.fSubject.text)) (by simp;omega)]
      simp only [Option.bind_some]
      rw [aH (xs:=s.fLabel) (by simp;omega)]
      simp only [Option.bind_some]
      rw [aH (xs:=[32]) (by simp;omega)]
      simp only [Option.bind_some]
      rw [aH (by simp;omega)]
      simp only [Option.bind_some]
      rw [L6 _ (by simp;omega)]
      simp
theorem Cg {s:aa} (h:fB s=true):(jx s).length<=100000:=by
 obtain ⟨hl,hg,hs,hp,hr⟩:=pU h
 have ll:=yv hl
 have lg:=Cf hg
 have lo:=kt 6 (b8 s.fSubject.fKind,s.fSubject.text)
 simp only at lo
 unfold jx FO Lg
 have a1:(if s.fHasSubject=true then [32]++HA 6 (b8 s.fSubject.fKind,s.fSubject.text) else []).length<=15003:=by
  split
  ·rename_i hS
   obtain ⟨_,_,u3⟩:=gi hs hS
   simp;omega
  ·simp
 have a2:(if s.fHasPattern=true then [32]++s.fPattern.text else []).length<=15003:=by
  split
  ·rename_i hS
   obtain ⟨_,_,u3⟩:=gi hp hS
   simp;omega
  ·simp
 have a3:(if s.fHasReplace=true then [32,61,32]++s.fReplace.text else []).length<=15003:=by
  split
  ·rename_i hS
   obtain ⟨_,_,u3⟩:=gi hr hS
   simp;omega
  ·simp
 have a4:(if jw s.fGoto=[] then [] else [32]++jw s.fGoto).length<=101:=by
  split
  ·simp
  ·simp;omega
 simp only [List.length_append]
 omega
theorem Qc {p r:List UInt8} (h:(p++r).length<=1000000):fK (p++r) p=some r:=by
 have hh:dq (p++r) p=some true:=by
  rw [ju,if_pos (by simp [aw];omega)]
  have:=Gu (xs:=p++r) (a:=0) (b:=p.length) (by omega) (by simp)
  rw [Option.getD_some,aw,show (0:Int)=((0:Nat):Int) from rfl,this]
  simp
 rw [rE,iK,hh]
 simp only [Option.bind_some,if_true]
 have:=Gu (xs:=p++r) (a:=p.length) (b:=(p++r).length) (by simp) (Nat.le_refl _)
 rw [Option.getD_none,aw,aw,this,List.take_length,List.drop_left]
 rfl
theorem uV {s:aa} (h1:s.fSubject.m<=1048576) (h2:s.fPattern.m<=1048576) (h3:s.fReplace.m<=1048576):kV s=some (mF s):=by
 have es:aa.mk s.fLabel s.fHasSubject s.fSubject s.fHasPattern s.fPattern s.fHasReplace s.fReplace s.fGoto=s:=rfl
 rw [ui]
 try simp only [aa.re_eq,ai.re_eq,aK.re_eq]
 rw [es,HB h1 h2 h3]
 simp only [Option.bind_some]
 unfold mF
 cases hf:fB s
 ·simp
 ·have hl:=Cg hf
  rw [wH hf]
  simp only [Option.bind_some,Bool.not_true,Bool.false_eq_true,if_false,Bool.true_and]
  by_cases h4:(jx s).length<=4000
  ·rw [if_neg (by simp [aw];omega)]
   have hc:cut (jx s) (len s.fLabel) (Option.getD none (len (jx s)))=some (FO s):=by
    have:=Gu (xs:=jx s) (a:=s.fLabel.length) (b:=(jx s).length) (by unfold jx;simp) (Nat.le_refl _)
    rw [Option.getD_none,aw,aw,this,List.take_length]
    unfold jx
    rw [List.drop_left]
   have hr:(FO s).length<=(jx s).length:=by unfold jx;simp
   rw [hc]
   simp only [Option.bind_some]
   rw [Cc (by omega)]
   simp only [Option.bind_some,h4,decide_true,Bool.true_and]
  ·rw [if_pos (by simp [aw];omega)]
   simp [h4]
theorem uW {s:aa} (h1:s.fSubject.m<=1048576) (h2:s.fPattern.m<=1048576) (h3:s.fReplace.m<=1048576):il s=some (mF s):=by
 have es:aa.mk s.fLabel s.fHasSubject s.fSubject s.fHasPattern s.fPattern s.fHasReplace s.fReplace s.fGoto=s:=rfl
 have ea:ai.mk s.fSubject.fKind s.fSubject.fNum s.fSubject.fText s.fSubject.fKids=s.fSubject:=by cases s.fSubject;rfl
 have eb:ai.mk s.fPattern.fKind s.fPattern.fNum s.fPattern.fText s.fPattern.fKids=s.fPattern:=by cases s.fPattern;rfl
 have ec:ai.mk s.fReplace.fKind s.fReplace.fNum s.fReplace.fText s.fReplace.fKids=s.fReplace:=by cases s.fReplace;rfl
 have eg:aK.mk s.fGoto.fAlways s.fGoto.fSuccess s.fGoto.fFailure=s.fGoto:=rfl
 have L7:fB s=true->dc s.fLabel s.fHasSubject s.fSubject.fKind s.fSubject.fNum s.fSubject.fText s.fSubject.fKids s.fHasPattern s.fPattern.fKind s.fPattern.fNum s.fPattern.fText s.fPattern.fKids s.fHasReplace s.fReplace.fKind s.fReplace.fNum s.fReplace.fText s.fReplace.fKids s.fGoto.fAlways s.fGoto.fSuccess s.fGoto.fFailure=some (mF s):=by
  intro hf
  have hl:=Cg hf
  have hr:(FO s).length<=(jx s).length:=by unfold jx;simp
  rw [qo,ea,eb,ec,eg,es,iA hf]
  simp only [Option.bind_some]
  have ht:fK (jx s) s.fLabel=some (FO s):=Qc (by unfold jx at hl;omega)
  rw [ht]
  simp only [Option.bind_some]
  rw [Cb (by omega)]
  simp only [Option.bind_some]
  unfold mF
  rw [hf]
  by_cases h4:(jx s).length<=4000
  ·rw [if_pos (by simp [aw];omega)]
   simp [h4]
  ·rw [if_neg (by simp [aw];omega)]
   simp [h4]
 have bad:fB s=false->mF s=false:=fun h=>by unfold mF;rw [h];rfl
 have hz2:(s.fGoto.fAlways==[]&&(s.fGoto.fSuccess==[]&&(s.fGoto.fFailure==[]&&true)))=wF s.fGoto:=by
  unfold wF;simp only [Bool.and_true,Bool.and_assoc]
 have hform:fB s=(nmB s.fLabel&&gOk s.fGoto&&(s.fHasSubject||(!s.fHasPattern&&!s.fHasReplace))&&(kS s.fHasSubject s.fSubject&&kS s.fHasPattern s.fPattern&&kS s.fHasReplace s.fReplace)&&!(s.fLabel==[]&&!s.fHasSubject&&wF s.fGoto)):=rfl
 have hnm:nmB s.fLabel=(s.fLabel==[]||bg s.fLabel):=rfl
 rw [ul]
 try simp only [aa.re_eq,ai.re_eq,aK.re_eq]
 rw [y3,Dz]
 simp only [qi,qj,qk,ql,qn,ea,eb,ec,uU _ h1,uU _ h2,uU _ h3,Option.bind_some,hz2]
 generalize dc s.fLabel s.fHasSubject s.fSubject.fKind s.fSubject.fNum s.fSubject.fText s.fSubject.fKids s.fHasPattern s.fPattern.fKind s.fPattern.fNum s.fPattern.fText s.fPattern.fKids s.fHasReplace s.fReplace.fKind s.fReplace.fNum s.fReplace.fText s.fReplace.fKids s.fGoto.fAlways s.fGoto.fSuccess s.fGoto.fFailure=Z at L7
 cases hF:fB s
 ·rw [bad hF]
  rw [hform,hnm] at hF
  revert hF
  cases (s.fLabel==[])<;>cases bg s.fLabel<;>cases gOk s.fGoto<;>cases kS s.fHasSubject s.fSubject<;>cases kS s.fHasPattern s.fPattern<;>cases kS s.fHasReplace s.fReplace<;>cases s.fHasSubject<;>cases s.fHasPattern<;>cases s.fHasReplace<;>cases wF s.fGoto<;>intro hF<;>first | rfl | (cases hF)
 ·have hZ:=L7 hF
  rw [<-hZ]
  rw [hform,hnm] at hF
  revert hF
  cases (s.fLabel==[])<;>cases bg s.fLabel<;>cases gOk s.fGoto<;>cases kS s.fHasSubject s.fSubject<;>cases kS s.fHasPattern s.fPattern<;>cases kS s.fHasReplace s.fReplace<;>cases s.fHasSubject<;>cases s.fHasPattern<;>cases s.fHasReplace<;>cases wF s.fGoto<;>intro hF<;>first | rfl | (cases hF)
theorem uX {s:aa} (h:mF s=true):fB s=true:=by
 unfold mF at h
 exact (Bool.and_eq_true_iff.1 h).1
end Go.Dv.U

namespace Go.Dv.U
open Go Go.Dv Go.Proofs
def Po (l:List UInt8):Bool:=l==[82,69,84,85,82,78]||l==[70,82,69,84,85,82,78]
def ixP (xs:List aa) (l:List UInt8):Int:=ixF (fun s:aa=>s.fLabel==l) xs 0
def Qr (xs:List aa) (s:aa) (i:Nat):Bool:=s.fLabel==[]||(!(Po s.fLabel)&&ixP xs s.fLabel==(i:Int))
def Lh (xs:List aa):List UInt8:=xs.flatMap fun s=>jx s++[10]
def Qs (xs:List aa):Bool:=xs.all mF&&Fz (Qr xs) xs 0
def tK (p:aj):Bool:=decide (p.fStatements.length<=80)&&Qs p.fStatements&&decide ((Lh p.fStatements).length<=4000)
theorem sMk (s:aa):aa.mk s.fLabel s.fHasSubject s.fSubject s.fHasPattern s.fPattern s.fHasReplace s.fReplace s.fGoto=s:=rfl
theorem sM {y:aa} (hy:y.m<=1048576):y.fSubject.m<=1048576/\y.fPattern.m<=1048576/\y.fReplace.m<=1048576:=by
 have he:=y.m_eq
 omega
theorem z1 (l:List UInt8):pg l=some (Po l):=by
 rw [zq];unfold Po
 cases l==[82,69,84,85,82,78]<;>simp
theorem Ci (l:List UInt8):qy l=some (Po l):=by
 rw [Bh];unfold Po
 cases l==[82,69,84,85,82,78]<;>simp
theorem wI {p:aj} (hp:p.fStatements.length<=80) {l:List UInt8} (hl:(l==[])=false):r5 p l=some (ixP p.fStatements l):=by
 rw [ET]
 refine FA (xs:=p.fStatements) (by omega) (J:=fun i=>fa l i p.fStatements) ?_ ?_
 ·intro i y hlt hy hi hw
  show fa l (i:Int) p.fStatements=_
  rw [p8,if_pos (by simpa [aw] using hlt),if_pos (by simp [hl]),hi]
  simp only [Option.bind_some,hw]
 ·show fa l _ p.fStatements=_
  rw [p8,if_neg (by simp [aw])]
theorem rP {p:aj} (hp:p.fStatements.length<=80) (l:List UInt8):eG p l=some (ixP p.fStatements l):=by
 rw [pD,cj]
 have:=FA (xs:=p.fStatements) (by omega) (p:=fun s:aa=>s.fLabel==l) (J:=fun i=>aG p.fStatements l (len p.fStatements) i) (by
  intro i y hlt hy hi hw
  show aG p.fStatements l (len p.fStatements) (i:Int)=_
  rw [bi,if_pos (by simpa [aw] using hlt),hi]
  simp only [Option.bind_some,mP,hw]) (by
  show aG p.fStatements l (len p.fStatements) _=_
  rw [bi,if_neg (by simp [aw])])
 try simp only at this
 rw [this];rfl
theorem Kd {α β:Type} {f:α->List β} {B:Nat}:∀ {l:List α},(∀ y∈l,(f y).length<=B)->(l.flatMap f).length<=l.length*B
 | [],_=>by simp
 | y:: r,h=>by
  have h1:=h y (by simp)
  have h2:=Kd (l:=r) fun z hz=>h z (by simp [hz])
  simp only [List.flatMap_cons,List.length_append,List.length_cons,Nat.add_mul]
  omega
theorem HD {xs:List aa} (hp:xs.length<=80) (hv:∀ y∈xs,fB y=true):(Lh xs).length<=8000080:=by
 have:=Kd (f:=fun s:aa=>jx s++[10]) (B:=100001) (l:=xs) fun y hy=>by
  have:=Cg (hv y hy)
  simp;omega
 have h2:xs.length*100001<=80*100001:=Nat.mul_le_mul_right _ hp
 unfold Lh
 omega
theorem HE {p:aj} (hp:p.fStatements.length<=80) (hv:∀ y∈p.fStatements,fB y=true):AW p=some (Lh p.fStatements):=by
 rw [GJ]
 have hl:=HD hp hv
 have:=sG (xs:=p.fStatements) (by omega) (f:=fun s:aa=>jx s++[10]) (B:=8000080) (J:=fun i a=>kA a i p.fStatements) (by
  intro i y a hlt hy hi hw hb
  show kA a (i:Int) p.fStatements=_
  simp only [List.length_append,List.length_cons,List.length_nil] at hb
  rw [qY,if_pos (by simpa [aw] using hlt),hi]
  simp only [Option.bind_some]
  try simp only [aa.re_eq,ai.re_eq,aK.re_eq]
  rw [sMk,wH (hv y hy)]
  simp only [Option.bind_some]
  rw [aH (by simp;omega)]
  simp only [Option.bind_some]
  rw [aH (by simp;omega)]
  simp only [Option.bind_some,hw]) hl
 try simp only at this
 rw [this,qY,if_neg (by simp [aw])]
 rfl
theorem HF {p:aj} (hv:∀ y∈p.fStatements,fB y=true) (xs:List aa) (hxs:xs=p.fStatements):
  ∀ (i:Nat) (y:aa) (a:List UInt8),i<xs.length->y∈xs->idx xs (i:Int)=some y->w64 ((i:Int)+1)=((i+1:Nat):Int)->a.length+(jx y++[10]).length<=8000080 ->
   (bN xs (len xs) (i:Int) (a.map ib)=bN xs (len xs) ((i+1:Nat):Int) ((a++(jx y++[10])).map ib))/\(gw xs (len xs) (i:Int) (a.map ib)=bN xs (len xs) ((i+1:Nat):Int) ((a++(jx y++[10])).map ib)):=by
 intro i y a hlt hy hi hw hb
 subst hxs
 simp only [List.length_append,List.length_cons,List.length_nil] at hb
 have hc:decide ((i:Int)<len p.fStatements)=true:=by simpa [aw] using hlt
 constructor
 ·rw [fh,if_pos hc,hi]
  simp only [Option.bind_some]
  try simp only [aa.re_eq,ai.re_eq,aK.re_eq]
  rw [sMk,iA (hv y hy)]
  simp only [Option.bind_some]
  rw [aH (by simp;omega)]
  simp only [Option.bind_some]
  rw [aH (by simp;omega)]
  simp only [Option.bind_some,hw,List.map_append]
 ·rw [ls,if_pos hc,hi]
  simp only [Option.bind_some]
  try simp only [aa.re_eq,ai.re_eq,aK.re_eq]
  rw [sMk,iA (hv y hy)]
  simp only [Option.bind_some]
  rw [aH (by simp;omega)]
  simp only [Option.bind_some]
  rw [aH (by simp;omega)]
  simp only [Option.bind_some,hw,List.map_append]
theorem yw {p:aj} (hp:p.fStatements.length<=80) (hv:∀ y∈p.fStatements,fB y=true):nY p=some (Lh p.fStatements):=by
 rw [xw]
 have hl:=HD hp hv
 have st:=HF hv p.fStatements rfl
 have key:=sG (xs:=p.fStatements) (by omega) (f:=fun s:aa=>jx s++[10]) (B:=8000080) (J:=fun i a=>bN p.fStatements (len p.fStatements) i (a.map ib)) (fun i y a h1 h2 h3 h4 h5=>(st i y a h1 h2 h3 h4 h5).1) hl
 simp only [List.map_nil] at key
 have fin:bN p.fStatements (len p.fStatements) (p.fStatements.length:Int) ((p.fStatements.flatMap fun s=>jx s++[10]).map ib)=some (Lh p.fStatements):=by
  rw [fh,if_neg (by simp [aw]),La]
  rfl
 have same:gw p.fStatements (len p.fStatements) 0 []=bN p.fStatements (len p.fStatements) 0 []:=by
  rw [ls,fh]
 rw [same,key,fin]
theorem yx {p:aj} (hm:p.m<=1048576):nS p=some (tK p):=by
  have hq:=p.m_eq
  rw [xn]
  unfold tK
  by_cases hp:p.fStatements.length<=80
  · rw [if_neg (by simp [aw];omega)]
    have hkey:=mE (xs:=p.fStatements) (by omega) (c:=fun y i=>mF y&&Qr p.fStatements y i) (J:=fun i=>eM i p.fStatements) (by
      intro i y hlt hy hi hw
      show eM (i:Int) p.fStatements=_
      have hym:y.m<=1048576:=by have:=bh (m:=aa.m) hy;omega
      obtain ⟨h1,h2,h3⟩:=sM hym
      rw [ln,if_pos (by simpa [aw] using hlt),hi]
      simp only [Option.bind_some,sU,sV,hw]
      try simp only [aa.re_eq,ai.re_eq,aK.re_eq]
      rw [sMk,uV h1 h2 h3]
      simp only [Option.bind_some,z1]
      cases hsv:mF y
      · simp
      · unfold Qr
        cases hlab:(y.fLabel==[])
        · rw [wI (p:=aj.mk p.fStatements) hp hlab]
          cases Po y.fLabel<;>by_cases hix:ixP p.fStatements y.fLabel=(i:Int)<;>simp [hix]
        · have:y.fLabel=[]:=by simpa using hlab
          have hr:Po y.fLabel=false:=by rw [this];rfl
          simp [hr])
    try simp only at hkey
    rw [hkey,J8]
    show (if Qs p.fStatements=true then _ else _)=_
    cases hc:Qs p.fStatements
    · simp
    · have hv:∀ y∈p.fStatements,fB y=true:=fun y hy=>by
        unfold Qs at hc
        rw [Bool.and_eq_true] at hc
        exact uX (List.all_eq_true.mp hc.1 y hy)
      have ht:=HE (p:=aj.mk p.fStatements) hp hv
      simp only [if_true]
      rw [ln,if_neg (by simp [aw]),ht]
      simp [aw,hp]
      try omega
  · rw [if_pos (by simp [aw];omega)]
    simp [hp]
theorem yy {p:aj} (hm:p.m<=1048576):nT p=some (tK p):=by
 have hq:=p.m_eq
 rw [xp]
 unfold tK
 by_cases hp:p.fStatements.length<=80
 ·rw [if_neg (by simp [aw];omega)]
  have hall:bX p.fStatements=some (p.fStatements.all mF):=by
   rw [eW]
   refine cP (xs:=p.fStatements) (by omega) (F:=il) (p:=mF) (J:=bp p.fStatements (len p.fStatements)) (fun i=>by rw [eB];try simp only [aa.re_eq,ai.re_eq,aK.re_eq,sMk]) (fun y hy=>?_)
   have hym:y.m<=1048576:=by have:=bh (m:=aa.m) hy;omega
   obtain ⟨h1,h2,h3⟩:=sM hym
   exact uW h1 h2 h3
  rw [hall]
  simp only [Option.bind_some]
  unfold Qs
  cases hv:p.fStatements.all mF
  ·simp
  have hkey:=mE (xs:=p.fStatements) (by omega) (c:=Qr p.fStatements) (J:=fun i=>eN p.fStatements (len p.fStatements) i p.fStatements) (by
   intro i y hlt hy hi hw
   show eN p.fStatements (len p.fStatements) (i:Int) p.fStatements=_
   rw [lp,if_pos (by simpa [aw] using hlt),hi]
   simp only [Option.bind_some,sW,sX,hw,Ci]
   unfold Qr
   cases hlab:(y.fLabel==[])
   ·rw [rP (p:=aj.mk p.fStatements) hp]
    cases Po y.fLabel<;>by_cases hix:ixP p.fStatements y.fLabel=(i:Int)<;>simp [hix]
   ·simp)
  try simp only at hkey
  simp only [Bool.not_true,Bool.false_eq_true,if_false,Bool.true_and]
  rw [hkey]
  cases hc:Fz (Qr p.fStatements) p.fStatements 0
  ·simp
  ·have hvf:∀ y∈p.fStatements,fB y=true:=fun y hy=>uX (List.all_eq_true.mp hv y hy)
   have ht:=yw (p:=aj.mk p.fStatements) hp hvf
   simp only [if_true]
   rw [lp,if_neg (by simp [aw]),ht]
   simp [aw,hp]
   try omega
 ·rw [if_pos (by simp [aw];omega)]
  simp [hp]
theorem y4 {p:aj} (h:tK p=true):p.fStatements.length<=80/\∀ y∈p.fStatements,fB y=true:=by
 unfold tK Qs at h
 simp only [Bool.and_eq_true,decide_eq_true_eq] at h
 exact ⟨h.1.1,fun y hy=>uX (List.all_eq_true.mp h.1.2.1 y hy)⟩
end Go.Dv.U

namespace Go.Dv.U
open Go Go.Dv Go.Proofs
theorem Qd {p:aj} (hp:p.fStatements.length<=80) (g:aK) (b:Bool) {at_:Int} (h0:0<=at_) (h1:at_<p.fStatements.length):∃ v:Int×Int,A2 p g b at_=some v/\oc p g b at_=some v:=by
 have place:∀ i:Int,0<=i->∃ v:Int,r9 p i=some v/\jl p i=some v:=by
  intro i hi
  rw [E5,v7,oR,kM]
  by_cases c:i>=len p.fStatements
  ·refine ⟨-1,by simp [c],?_⟩
   have c1:decide (i>=0)=true:=by simpa using hi
   have c2:decide (i<len p.fStatements)=false:=by simp;omega
   simp [c1,c2]
  ·have c1:decide (i>=0)=true:=by simpa using hi
   have c2:decide (i<len p.fStatements)=true:=by simp;omega
   have c3:decide (i>=len p.fStatements)=false:=by simpa using c
   simp only [c1,c2,c3,if_true,Bool.false_eq_true,if_false,Option.bind_some,Bool.not_true]
   rw [aw] at c
   rw [M8 hi,List.getElem?_eq_getElem (by omega)]
   simp only [Option.bind_some]
   by_cases e:((p.fStatements[i.toNat]'(by omega)).fLabel==[69,78,68])=true
   ·exact ⟨-1,by rw [if_pos e],by rw [if_pos e]⟩
   ·exact ⟨i,by rw [if_neg e],by rw [if_neg e]⟩
 have w1:w64 (at_+1)=at_+1:=aT (by omega) (by omega)
 have six:∀ l:List UInt8,∃ v:Int×Int,iD at_ l p.fStatements=some v/\eR at_ l p.fStatements=some v:=by
  intro l
  rw [BA,s5,xY]
  by_cases c:l=[]
  ·have e:(l==[])=true:=by simpa using c
   obtain ⟨v,e1,e2⟩:=place (at_+1) (by omega)
   refine ⟨(v,0),?_,?_⟩
   ·rw [if_pos e,w1,show aj.mk p.fStatements=p from rfl,e1];rfl
   ·rw [if_pos e,w1,show aj.mk p.fStatements=p from rfl,e2];rfl
  ·have e:(l==[])=false:=by simpa using c
   simp only [e,Bool.false_eq_true,if_false]
   have hix:=wI (p:=aj.mk p.fStatements) hp e
   have hii:=rP (p:=aj.mk p.fStatements) hp l
   rw [hix,hii]
   by_cases d1:l=[69,78,68]
   ·subst d1;exact ⟨(-1,0),rfl,rfl⟩
   by_cases d2:l=[82,69,84,85,82,78]
   ·subst d2;exact ⟨(-2,0),rfl,rfl⟩
   by_cases d3:l=[70,82,69,84,85,82,78]
   ·subst d3;exact ⟨(-3,0),rfl,rfl⟩
   have f1:(l==[69,78,68])=false:=by simpa using d1
   have f2:(l==[82,69,84,85,82,78])=false:=by simpa using d2
   have f3:(l==[70,82,69,84,85,82,78])=false:=by simpa using d3
   simp only [f1,f2,f3,Bool.false_eq_true,if_false,Option.bind_some]
   by_cases c2:ixP p.fStatements l<0
   ·exact ⟨(0,5),by rw [if_pos (by simpa using c2)],by rw [if_pos (by simpa using c2)];rfl⟩
   ·obtain ⟨v,e1,e2⟩:=place (ixP p.fStatements l) (by omega)
    refine ⟨(v,0),?_,?_⟩
    ·rw [if_neg (by simpa using c2),show aj.mk p.fStatements=p from rfl,e1];rfl
    ·rw [if_neg (by simpa using c2),show aj.mk p.fStatements=p from rfl,e2];rfl
 rw [GX,xR]
 by_cases c:g.fAlways=[]
 ·have e:(g.fAlways==[])=true:=by simpa using c
  simp only [e,Bool.not_true,Bool.false_eq_true,if_false,if_true]
  cases b
  ·exact six _
  ·exact six _
 ·have e:(g.fAlways==[])=false:=by simpa using c
  simp only [e,Bool.not_false,if_true,Bool.false_eq_true,if_false,ite_self]
  exact six _
end Go.Dv.U

namespace Go.Dv.U
open Go Go.Dv Go.Proofs
def mV (x:ai):av:=
 if x.fKind=1 then ⟨2,0,x.fText⟩
 else if x.fKind=2 then ⟨3,x.fNum,[]⟩
 else if x.fKind=3 then ⟨4,0,x.fText⟩
 else if x.fKind=16\/x.fKind=17\/x.fKind=18 then ⟨x.fKind-11,0,x.fText⟩
 else if x.fKind=4 then ⟨13,x.fKids.length,x.fText⟩
 else if x.fKind=5 then ⟨12,0,[]⟩
 else if x.fKind=14\/x.fKind=15 then ⟨x.fKind-5,0,[]⟩
 else if x.fKind=12\/x.fKind=13 then ⟨11,x.fKind+9,(x.fKids.getD 1 x).fText⟩
 else ⟨8,x.fKind,[]⟩
mutual
def ai.code : ai->List av
 | ⟨k,n,t,ks⟩=>(if k=12\/k=13 then ai.code1 ks else ai.codes ks)++[mV ⟨k,n,t,ks⟩]
def ai.codes : List ai->List av
 | []=>[]
 | y:: r=>ai.code y++ai.codes r
def ai.code1 : List ai->List av
 | []=>[]
 | y:: _=>ai.code y
end
theorem ai.code_eq (x:ai):x.code=(if x.fKind=12\/x.fKind=13 then ai.code1 x.fKids else ai.codes x.fKids)++[mV x]:=by
 obtain ⟨k,n,t,ks⟩:=x;simp only [ai.code]
theorem ai.codes_eq : ∀ l:List ai,ai.codes l=l.flatMap ai.code
 | []=>rfl
 | y:: r=>by simp only [ai.codes,List.flatMap_cons,ai.codes_eq r]
theorem ai.codes_len : ∀ l:List ai,(∀ y∈l,y.code.length<=y.n)->(ai.codes l).length<=aR ai.n l
 | [],_=>by simp [ai.codes,aR]
 | y:: r,h=>by
  have h1:=h y (by simp)
  have h2:=ai.codes_len r fun z hz=>h z (by simp [hz])
  simp only [ai.codes,aR,List.length_append];omega
theorem ai.code_len : ∀ x:ai,x.code.length<=x.n:=by
 refine ai.ind fun x ih=>?_
 have h1:=ai.codes_len x.fKids ih
 have h2:(ai.code1 x.fKids).length<=aR ai.n x.fKids:=by
  cases hk:x.fKids with
  | nil=>simp [ai.code1]
  | cons y r=>
   have:=ih y (by rw [hk];simp)
   simp only [ai.code1,aR];omega
 rw [ai.code_eq,ai.n_eq,List.length_append]
 split<;>simp<;>omega
theorem ai.codes_len' (l:List ai):(ai.codes l).length<=aR ai.n l:=ai.codes_len l fun y _=>ai.code_len y
theorem w2 {a b c:Int} (h1:-1000<=a) (h2:a<=1000) (h3:-1000<=b) (h4:b<=1000) (h5:-1000<=c) (h6:c<=1000):w64 (w64 (a-b)+c)=a-b+c:=by
 rw [aT (n:=a-b) (by omega) (by omega),aT (by omega) (by omega)]
theorem w3 {a b c:Int} (h1:-1000<=a) (h2:a<=1000) (h3:-1000<=b) (h4:b<=1000) (h5:-1000<=c) (h6:c<=1000):w64 (w64 (c+a)-b)=c+a-b:=by
 rw [aT (n:=c+a) (by omega) (by omega),aT (by omega) (by omega)]
theorem Ns {x:ai} (h:wD x=true):1<=x.fKind/\x.fKind<=18:=by
 rcases cT h with h | h | h | h | h | h<;>omega
theorem DB {x:ai} (h:wD x=true):k7 x=some (mV x):=by
 obtain ⟨k,n,t,ks⟩:=x
 have hk:1<=k/\k<=18:=Ns h
 rw [uH]
 simp only [pI,pJ,mV]
 by_cases h1:k=1
 ·subst h1;rfl
 by_cases h2:k=2
 ·subst h2;rfl
 by_cases h3:k=3
 ·subst h3;rfl
 by_cases h16:k=16
 ·subst h16;rfl
 by_cases h17:k=17
 ·subst h17;rfl
 by_cases h18:k=18
 ·subst h18;rfl
 by_cases h4:k=4
 ·subst h4;simp [aw]
 by_cases h5:k=5
 ·subst h5;rfl
 by_cases h14:k=14
 ·subst h14;rfl
 by_cases h15:k=15
 ·subst h15;rfl
 by_cases h12:k=12
 ·subst h12
  rcases cT h with h | h | h | h | h | ⟨_,a,b,rfl⟩
  all_goals first | (simp at h;done) | rfl
 by_cases h13:k=13
 ·subst h13
  rcases cT h with h | h | h | h | h | ⟨_,a,b,rfl⟩
  all_goals first | (simp at h;done) | rfl
 simp [h1,h2,h3,h4,h5,h12,h13,h14,h15,h16,h17,h18]
theorem pV {l:List ai} (hl:l.length<=1000000) (h:∀ y∈l,f0 y=some ((y.code,()),())) (hn:(ai.codes l).length<=68719476736):lC l=some ((ai.codes l,()),()):=by
 rw [IR]
 have:=sG (xs:=l) (by omega) (f:=ai.code) (J:=fun i a=>iy l (len l) i a) (B:=68719476736) (by
  intro i y a hlt hy hi hw hb
  show iy _ _ _ _=iy _ _ _ _
  rw [tH]
  have hc:decide ((i:Int)<len l)=true:=by simp [aw,hlt]
  rw [if_pos hc,hi]
  simp only [Option.bind_some,ai.re_eq,h y hy]
  rw [aH hb,hw]
  rfl) (by rw [<-ai.codes_eq];exact hn)
 rw [show iy l (len l) 0 []=_ from this,tH,ai.codes_eq]
 simp [aw]
theorem oX {x:ai} (h:x.good=true):wD x=true/\∀ y∈x.fKids,y.good=true:=by
 rw [ai.good_eq,Bool.and_eq_true,List.all_eq_true] at h
 exact h
theorem OX {x y:ai} (h:y∈x.fKids):y.n<=x.n:=by
 have:=bh (m:=ai.n) h
 rw [ai.n_eq x];omega
theorem fE : ∀ x:ai,x.good=true->x.n<=1000000->f0 x=some ((x.code,()),()):=by
 refine ai.ind fun x ih=>?_
 intro hg hn
 obtain ⟨he,hk⟩:=oX hg
 have ih':∀ y∈x.fKids,f0 y=some ((y.code,()),()):=fun y hy=>ih y hy (hk y hy) (Nat.le_trans (OX hy) hn)
 have hne:=x.n_eq
 have hlen:=FJ (l:=x.fKids)
 have hL:=DB he
 have hcl:=ai.code_len x
 rw [ai.code_eq,List.length_append,List.length_singleton] at hcl
 rw [C6,ai.code_eq]
 have fin:∀ l:List ai,l.length<=1000000->(∀ y∈l,y∈x.fKids)->(ai.codes l).length<=1000000->hT l x.fKind x.fNum x.fText x.fKids=some ((ai.codes l++[mV x],()),()):=by
  intro l h1 h2 h3
  rw [xX,pV h1 (fun y hy=>ih' y (h2 y hy)) (by omega)]
  simp only [Option.bind_some]
  have e:ai.mk x.fKind x.fNum x.fText x.fKids=x:=by cases x;rfl
  rw [e,hL]
  simp only [Option.bind_some]
  rw [aH (by (try simp);omega)]
  rfl
 by_cases h12:x.fKind=12\/x.fKind=13
 ·rw [if_pos h12] at hcl ⊢
  rcases cT he with h | h | h | h | h | ⟨_,a,b,hab⟩
  any_goals omega
  have hc:cut x.fKids 0 (Option.getD (some 1) (len x.fKids))=some [a]:=by rw [hab];rfl
  have h1:ai.code1 x.fKids=ai.codes [a]:=by rw [hab];simp [ai.code1,ai.codes]
  rw [h1] at hcl ⊢
  have:=fin [a] (by simp) (by rw [hab];simp) (by omega)
  rcases h12 with h12 | h12
  ·rw [if_pos (by simpa using h12),hc];exact this
  ·rw [if_neg (by simp [h12]),if_pos (by simpa using h12),hc];exact this
 ·rw [if_neg h12] at hcl ⊢
  rw [if_neg (by simp;omega),if_neg (by simp;omega)]
  exact fin x.fKids (by omega) (fun y h=>h) (by omega)
theorem kT : ∀ x:ai,x.good=true->x.n<=1000000->dA x.fKind x.fNum x.fText x.fKids=some ((x.code,()),()):=by
 refine ai.ind fun x ih=>?_
 intro hg hn
 obtain ⟨he,hk⟩:=oX hg
 have ih':∀ y∈x.fKids,dA y.fKind y.fNum y.fText y.fKids=some ((y.code,()),()):=fun y hy=>ih y hy (hk y hy) (Nat.le_trans (OX hy) hn)
 have hne:=x.n_eq
 have hlen:=FJ (l:=x.fKids)
 have hcl:=ai.code_len x
 rw [ai.code_eq,List.length_append,List.length_singleton] at hcl
 have hkr:=Ns he
 rw [GW,ai.code_eq]
 by_cases h12:x.fKind=12\/x.fKind=13
 ·rw [if_pos h12] at hcl ⊢
  rcases cT he with h | h | h | h | h | ⟨_,a,b,hab⟩
  any_goals omega
  have h1:ai.code1 x.fKids=a.code:=by rw [hab];simp [ai.code1]
  have hi0:idx x.fKids 0=some a:=by rw [hab];rfl
  have hi1:idx x.fKids 1=some b:=by rw [hab];rfl
  rw [h1] at hcl ⊢
  have ha:=ih' a (by rw [hab];simp)
  have hw:w64 (w64 (21+x.fKind)-12)=x.fKind+9:=by rw [w3 (by omega) (by omega) (by omega) (by omega) (by omega) (by omega)];omega
  have hl:mV x=⟨11,x.fKind+9,b.fText⟩:=by
   unfold mV
   rcases h12 with h | h<;>simp [h,hab]
  simp only [hi0,hi1,Option.bind_some,ha,hw,hl]
  rw [aH (by (try simp);omega)]
  simp only [Option.bind_some,List.nil_append]
  rw [aH (by (try simp);omega)]
  rcases h12 with h | h
  ·rw [if_pos (by simpa using h)];rfl
  ·rw [if_neg (by simp [h]),if_pos (by simpa using h)];rfl
 ·rw [if_neg h12] at hcl ⊢
  rw [if_neg (by simp;omega),if_neg (by simp;omega)]
  have:=sG (xs:=x.fKids) (by omega) (f:=ai.code) (J:=fun i a=>fW x.fKind x.fNum x.fText x.fKids i a) (B:=68719476736) (by
   intro i y a hlt hy hi hw hb
   show fW _ _ _ _ _ _=fW _ _ _ _ _ _
   rw [q9]
   have hc:decide ((i:Int)<len x.fKids)=true:=by simp [aw,hlt]
   rw [if_pos hc,hi]
   simp only [Option.bind_some,ih' y hy]
   rw [aH hb,hw]
   rfl) (by rw [<-ai.codes_eq];omega)
  rw [show fW x.fKind x.fNum x.fText x.fKids 0 []=_ from this,<-ai.codes_eq]
  generalize ai.codes x.fKids=cs at hcl
  rw [q9]
  have hc:decide ((x.fKids.length:Int)<len x.fKids)=false:=by simp [aw]
  have ha:∀ i:av,app cs [i]=some (cs++[i]):=fun i=>aH (by (try simp);omega)
  simp only [hc,Bool.false_eq_true,if_false,zI,zJ,ha,Option.bind_some]
  clear ih ih' this hg hk hne hlen hc ha
  obtain ⟨k,n,t,ks⟩:=x
  simp only at *
  unfold mV
  simp only
  by_cases h1:k=1
  ·subst h1;rfl
  by_cases h2:k=2
  ·subst h2;rfl
  by_cases h3:k=3
  ·subst h3;rfl
  by_cases h16:k=16
  ·subst h16;rfl
  by_cases h17:k=17
  ·subst h17;rfl
  by_cases h18:k=18
  ·subst h18;rfl
  by_cases h4:k=4
  ·subst h4;simp [aw]
  by_cases h5:k=5
  ·subst h5;rfl
  by_cases h14:k=14
  ·subst h14;rfl
  by_cases h15:k=15
  ·subst h15;rfl
  have h12':k≠12:=fun e=>h12 (.inl e)
  have h13':k≠13:=fun e=>h12 (.inr e)
  simp [h1,h2,h3,h4,h5,h12',h13',h14,h15,h16,h17,h18]
def tgt (x:ai):Option (List av×av×av):=
 if x.fKind=3 then some ([],⟨4,0,x.fText⟩,⟨17,0,x.fText⟩)
 else if x.fKind=15 then some (ai.codes x.fKids++[⟨15,0,[]⟩],⟨21,0,[]⟩,⟨18,0,[]⟩)
 else if x.fKind=5 then some (ai.codes x.fKids,⟨22,0,[]⟩,⟨19,0,[]⟩)
 else if x.fKind=4/\x.fKids.length=1 then some (⟨16,0,x.fText⟩:: ai.codes x.fKids,⟨23,0,x.fText⟩,⟨20,0,x.fText⟩)
 else none
theorem Li {x:ai} (hg:x.good=true) (hn:x.n<=1000000):lC x.fKids=some ((ai.codes x.fKids,()),()):=by
 obtain ⟨he,hk⟩:=oX hg
 have hne:=x.n_eq
 have hlen:=FJ (l:=x.fKids)
 have hcl:=ai.codes_len' x.fKids
 exact pV (by omega) (fun y hy=>fE y (hk y hy) (Nat.le_trans (OX hy) hn)) (by omega)
theorem Jc {x:ai} (hg:x.good=true) (hn:x.n<=1000000):jN x=some (match tgt x with
  | some (p,k,s)=>((p,k.fOp,k.fA,k.fText,s.fOp,s.fA,s.fText,()),(true,()),())
  | none=>(([],0,0,[],0,0,[],()),(false,()),())):=by
 have hcl:=ai.codes_len' x.fKids
 have hne:=x.n_eq
 rw [s4,Li hg hn]
 simp only [Option.bind_some]
 have a1:∀ i:av,app (ai.codes x.fKids) [i]=some (ai.codes x.fKids++[i]):=fun i=>aH (by (try simp);omega)
 have a2:∀ i:av,app [i] (ai.codes x.fKids)=some (i:: ai.codes x.fKids):=fun i=>aH (by (try simp);omega)
 simp only [a1,a2,Option.bind_some]
 unfold tgt
 by_cases h3:x.fKind=3
 ·simp [h3]
 by_cases h15:x.fKind=15
 ·simp [h15]
 by_cases h5:x.fKind=5
 ·simp [h5]
 by_cases h4:x.fKind=4
 ·by_cases hl:x.fKids.length=1
  ·simp [h4,hl,aw]
  ·have:¬ (len x.fKids==1)=true:=by simp [aw];omega
   simp [h4,hl,this]
 ·simp [h3,h15,h5,h4]
theorem Jd {x:ai} (hg:x.good=true) (hn:x.n<=1000000):ua x.fKind x.fNum x.fText x.fKids=some (match tgt x with
  | some (p,k,s)=>((p,()),(k.fOp,k.fA,k.fText,()),(s.fOp,s.fA,s.fText,()),(true,()),())
  | none=>(([],()),(0,0,[],()),(0,0,[],()),(false,()),())):=by
 have hcl:=ai.codes_len' x.fKids
 have hne:=x.n_eq
 obtain ⟨he,hk⟩:=oX hg
 have hs:∀ y∈x.fKids,dA y.fKind y.fNum y.fText y.fKids=some ((y.code,()),()):=fun y hy=>kT y (hk y hy) (Nat.le_trans (OX hy) hn)
 rw [CX]
 unfold tgt
 by_cases h3:x.fKind=3
 ·simp [h3]
 by_cases h15:x.fKind=15
 ·rcases cT he with h | h | h | h | ⟨_,a,ha⟩ | ⟨h,_⟩
  any_goals omega
  have e:ai.codes x.fKids=a.code:=by rw [ha];simp [ai.codes]
  have hi:idx x.fKids 0=some a:=by rw [ha];rfl
  rw [e] at hcl
  have a1:∀ i:av,app a.code [i]=some (a.code++[i]):=fun i=>aH (by (try simp);omega)
  simp [h15,hi,e,hs a (by rw [ha];simp),a1]
 by_cases h5:x.fKind=5
 ·rcases cT he with h | h | h | h | h | ⟨_,a,b,ha⟩
  any_goals omega
  have e:ai.codes x.fKids=a.code++b.code:=by rw [ha];simp [ai.codes]
  have hi:idx x.fKids 0=some a:=by rw [ha];rfl
  have hi1:idx x.fKids 1=some b:=by rw [ha];rfl
  rw [e,List.length_append] at hcl
  have a1:app a.code b.code=some (a.code++b.code):=aH (by omega)
  simp [h5,hi,hi1,e,hs a (by rw [ha];simp),hs b (by rw [ha];simp),a1]
 by_cases h4:x.fKind=4
 ·by_cases hl:x.fKids.length=1
  ·obtain ⟨a,ha⟩:=List.length_eq_one_iff.1 hl
   have e:ai.codes x.fKids=a.code:=by rw [ha];simp [ai.codes]
   have hi:idx x.fKids 0=some a:=by rw [ha];rfl
   rw [e] at hcl
   have hq:(len x.fKids==1)=true:=by simp [aw,hl]
   have a2:∀ i:av,app [i] a.code=some (i:: a.code):=fun i=>aH (by (try simp);omega)
   simp [h4,hi,e,hq,hs a (by rw [ha];simp),a2,hl]
  ·have:¬ (len x.fKids==1)=true:=by simp [aw];omega
   simp [h4,hl,this]
 ·simp [h3,h15,h5,h4]
theorem Je (x:ai) {p:List av} {k s:av} (h:tgt x=some (p,k,s)):p.length<=x.n:=by
 have hcl:=ai.codes_len' x.fKids
 have hne:=x.n_eq
 unfold tgt at h
 split at h
 ·cases h;simp
 split at h
 ·cases h;simp;omega
 split at h
 ·cases h;omega
 split at h
 ·cases h;simp;omega
 ·cases h
def yz (s:aa):List av:=
 if s.fHasSubject=true then
  if s.fHasReplace=true then (match tgt s.fSubject with
   | some (p,k,t)=>p++(if s.fHasPattern=true then k:: s.fPattern.code++[⟨25,0,[]⟩] else [])++s.fReplace.code++(if s.fHasPattern=true then [⟨26,0,[]⟩] else [])++[t]
   | none=>[⟨31,4,[]⟩])
  else if s.fHasPattern=true then s.fSubject.code++s.fPattern.code++[⟨24,0,[]⟩] else s.fSubject.code++[⟨14,0,[]⟩]
 else []
theorem wJ {s:aa} (h:fB s=true):(s.fHasSubject=true->s.fSubject.good=true/\s.fSubject.n<=60)/\(s.fHasPattern=true->s.fHasSubject=true/\s.fPattern.good=true/\s.fPattern.n<=60)/\(s.fHasReplace=true->s.fHasSubject=true/\s.fReplace.good=true/\s.fReplace.n<=60):=by
 obtain ⟨_,_,h1,h2,h3⟩:=pU h
 unfold fB at h
 simp only [Bool.and_eq_true,Bool.or_eq_true,Bool.not_eq_true'] at h
 have h4:=h.1.1.2
 have val:∀ {b:Bool} {e:ai},kS b e=true->b=true->e.good=true/\e.n<=60:=fun {b e} hp hb=>by
  unfold kS at hp
  rw [if_pos hb] at hp
  unfold ai.valid at hp
  simpa using hp
 refine ⟨val h1,fun hb=>⟨?_,val h2 hb⟩,fun hb=>⟨?_,val h3 hb⟩⟩
 ·rcases h4 with h4 | h4
  ·exact h4
  ·rw [hb] at h4;simp at h4
 ·rcases h4 with h4 | h4
  ·exact h4
  ·rw [hb] at h4;simp at h4
theorem Qe {a b:List av} (ha:a.length<=1000000) (hb:b.length<=1000000):cX [a,b]=some ((a++b,()),()):=by
 have l2:len [a,b]=2:=rfl
 have i0:idx [a,b] 0=some a:=rfl
 have i1:idx [a,b] 1=some b:=rfl
 have w1:w64 ((0:Int)+1)=1:=rfl
 have w2':w64 ((1:Int)+1)=2:=rfl
 have wa:w64 (0+len a)=a.length:=by rw [aw,aT (by omega) (by omega)];omega
 have wb:w64 ((a.length:Int)+len b)=(a.length+b.length:Nat):=by rw [aw,aT (by omega) (by omega)];omega
 have ca:decide ((a.length:Int)<0)=false:=by simp
 have cb:decide ((((a.length+b.length:Nat):Int))<0)=false:=by simp;omega
 have hg:F0 ((a.length+b.length:Nat):Int)=some ():=by
  unfold F0 big
  rw [if_pos (by omega)]
 have u:∀ s i,bS [a,b] s [a,b] 2 i=_:=fun s i=>gH [a,b] s [a,b] 2 i
 have v:∀ i z,bQ [a,b] 2 i z=_:=fun i z=>gd [a,b] 2 i z
 rw [iz,l2,u]
 simp only [i0,w1,wa,ca,Option.bind_some,show decide ((0:Int)<2)=true from rfl,if_true,Bool.false_eq_true,if_false]
 rw [u]
 simp only [i1,w2',wb,cb,Option.bind_some,show decide ((1:Int)<2)=true from rfl,if_true,Bool.false_eq_true,if_false]
 rw [u]
 simp only [hg,l2,Option.bind_some,show decide ((2:Int)<2)=false from rfl,Bool.false_eq_true,if_false]
 rw [v]
 simp only [i0,w1,Option.bind_some,show decide ((0:Int)<2)=true from rfl,if_true]
 rw [aH (by (try simp);omega)]
 simp only [Option.bind_some,List.nil_append]
 rw [v]
 simp only [i1,w2',Option.bind_some,show decide ((1:Int)<2)=true from rfl,if_true]
 rw [aH (by omega)]
 simp only [Option.bind_some]
 rw [v]
 simp only [show decide ((2:Int)<2)=false from rfl,Bool.false_eq_true,if_false]
theorem HG {s:aa} (h:fB s=true):(yz s).length<=1000:=by
 obtain ⟨h1,h2,h3⟩:=wJ h
 have c1:=ai.code_len s.fSubject
 have c2:=ai.code_len s.fPattern
 have c3:=ai.code_len s.fReplace
 unfold yz
 split
 ·rename_i hs
  have:=h1 hs
  split
  ·rename_i hr
   have:=h3 hr
   split
   ·rename_i p k t ht
    have:=Je _ ht
    split
    ·rename_i hp;have:=h2 hp;simp;omega
    ·simp;omega
   ·simp
  ·split
   ·rename_i hp;have:=h2 hp;simp;omega
   ·simp;omega
 ·simp
theorem Nt {s:aa} (h:fB s=true):kX s=some ((yz s,()),()):=by
 obtain ⟨h1,h2,h3⟩:=wJ h
 have c1:=ai.code_len s.fSubject
 have c2:=ai.code_len s.fPattern
 have c3:=ai.code_len s.fReplace
 have re:∀ x:ai,ai.mk x.fKind x.fNum x.fText x.fKids=x:=fun x=>by cases x;rfl
 rw [ur]
 simp only [re]
 by_cases hr:s.fHasReplace=true
 ·obtain ⟨hs,gr,nr⟩:=h3 hr
  obtain ⟨gs,ns⟩:=h1 hs
  rw [if_pos hr,mQ]
  simp only [aa.re,ai.re_eq]
  rw [Jc gs (by omega),fE _ gr (by omega)]
  simp only [Option.bind_some]
  unfold yz
  rw [if_pos hs,if_pos hr]
  cases ht:tgt s.fSubject with
  | none=>rfl
  | some q=>
   obtain ⟨p,k,t⟩:=q
   have hp:=Je _ ht
   simp only [Bool.not_true,Bool.false_eq_true,if_false]
   by_cases hh:s.fHasPattern=true
   ·obtain ⟨_,gp,np⟩:=h2 hh
    rw [fE _ gp (by omega)]
    have hcl:F1 p=some p:=by unfold F1 big;rw [if_pos (by omega)]
    simp only [hh,hcl,Option.bind_some,Bool.not_true,Bool.false_eq_true,if_false,if_true]
    rw [aH (by (try simp);omega)]
    simp only [Option.bind_some]
    rw [aH (by (try simp);omega)]
    simp only [Option.bind_some]
    rw [aH (by (try simp);omega)]
    simp only [Option.bind_some]
    rw [aH (by (try simp);omega)]
    simp only [Option.bind_some]
    rw [aH (by (try simp);omega)]
    simp
   ·simp only [hh,Bool.not_false,if_true]
    rw [Qe (by omega) (by omega)]
    simp only [Option.bind_some]
    rw [aH (by (try simp);omega)]
    simp
 ·rw [if_neg hr]
  unfold yz
  by_cases hp:s.fHasPattern=true
  ·obtain ⟨hs,gp,np⟩:=h2 hp
   obtain ⟨gs,ns⟩:=h1 hs
   have e:ai.codes [s.fSubject,s.fPattern]=s.fSubject.code++s.fPattern.code:=by simp [ai.codes]
   rw [if_pos hp,pV (by simp) (fun y hy=>by
    simp only [List.mem_cons,List.mem_nil_iff,or_false] at hy
    rcases hy with rfl | rfl
    ·exact fE _ gs (by omega)
    ·exact fE _ gp (by omega)) (by rw [e,List.length_append];omega),e]
   simp only [Option.bind_some]
   rw [aH (by (try simp);omega),if_pos hs,if_neg hr,if_pos hp]
   rfl
  ·rw [if_neg hp]
   by_cases hs:s.fHasSubject=true
   ·obtain ⟨gs,ns⟩:=h1 hs
    have e:ai.codes [s.fSubject]=s.fSubject.code:=by simp [ai.codes]
    rw [if_pos hs,if_pos hs,if_neg hr,if_neg hp,pV (by simp) (fun y hy=>by
     simp only [List.mem_cons,List.mem_nil_iff,or_false] at hy
     subst hy
     exact fE _ gs (by omega)) (by rw [e];omega),e]
    simp only [Option.bind_some]
    rw [aH (by (try simp);omega)]
    rfl
   ·rw [if_neg hs,if_neg hs]
theorem Nu {s:aa} (h:fB s=true):AZ s.fLabel s.fHasSubject s.fSubject.fKind s.fSubject.fNum s.fSubject.fText s.fSubject.fKids s.fHasPattern s.fPattern.fKind s.fPattern.fNum s.fPattern.fText s.fPattern.fKids s.fHasReplace s.fReplace.fKind s.fReplace.fNum s.fReplace.fText s.fReplace.fKids s.fGoto.fAlways s.fGoto.fSuccess s.fGoto.fFailure=some ((yz s,()),()):=by
 obtain ⟨h1,h2,h3⟩:=wJ h
 have c1:=ai.code_len s.fSubject
 have c2:=ai.code_len s.fPattern
 have c3:=ai.code_len s.fReplace
 rw [GN]
 unfold yz
 by_cases hs:s.fHasSubject=true
 ·obtain ⟨gs,ns⟩:=h1 hs
  rw [kT _ gs (by omega),Jd gs (by omega)]
  simp only [hs,Bool.not_true,Bool.false_eq_true,if_false,if_true,Option.bind_some,zD]
  by_cases hr:s.fHasReplace=true
  ·obtain ⟨_,gr,nr⟩:=h3 hr
   rw [kT _ gr (by omega)]
   simp only [hr,Bool.not_true,Bool.false_eq_true,if_false,if_true]
   cases ht:tgt s.fSubject with
   | none=>rfl
   | some q=>
    obtain ⟨p,k,t⟩:=q
    have hp:=Je _ ht
    simp only [Bool.not_true,Bool.false_eq_true,if_false]
    rw [aH (by (try simp);omega)]
    simp only [Option.bind_some,List.nil_append]
    by_cases hh:s.fHasPattern=true
    ·obtain ⟨_,gp,np⟩:=h2 hh
     rw [kT _ gp (by omega)]
     simp only [hh,if_true]
     rw [aH (by (try simp);omega)]
     simp only [Option.bind_some]
     rw [aH (by (try simp);omega)]
     simp only [Option.bind_some]
     rw [aH (by (try simp);omega)]
     simp only [Option.bind_some]
     rw [aH (by (try simp);omega)]
     simp only [Option.bind_some]
     rw [aH (by (try simp);omega)]
     simp only [Option.bind_some]
     rw [aH (by (try simp);omega)]
     simp
    ·simp only [hh,Bool.false_eq_true,if_false,Option.bind_some]
     rw [aH (by (try simp);omega)]
     simp only [Option.bind_some]
     rw [aH (by (try simp);omega)]
     simp
  ·simp only [hr,Bool.not_false,if_true,Bool.false_eq_true,if_false]
   rw [aH (by (try simp);omega)]
   simp only [Option.bind_some,List.nil_append]
   by_cases hp:s.fHasPattern=true
   ·obtain ⟨_,gp,np⟩:=h2 hp
    rw [kT _ gp (by omega)]
    simp only [hp,Bool.not_true,Bool.false_eq_true,if_false,if_true,Option.bind_some]
    rw [aH (by omega)]
    simp only [Option.bind_some]
    rw [aH (by (try simp);omega)]
    rfl
   ·simp only [hp,Bool.not_false,if_true,Bool.false_eq_true,if_false]
    rw [aH (by (try simp);omega)]
    rfl
 ·simp [hs]
def jmp (v:Int×Int):av:=if v.2≠0 then ⟨31,v.2,[]⟩ else if v.1 = -1 then ⟨28,0,[]⟩ else if v.1 = -2 then ⟨29,0,[]⟩ else if v.1 = -3 then ⟨30,0,[]⟩ else ⟨27,v.1,[]⟩
theorem Qf {p:aj} (hp:p.fStatements.length<=80) (b:Bool) {at_:Int} (h0:0<=at_) (h1:at_<p.fStatements.length):∃ v:Int×Int,oB p at_ b=some (jmp v)/\ej p at_ b=some (jmp v):=by
 have hi:idx p.fStatements at_=some (p.fStatements[at_.toNat]'(by omega)):=by rw [M8 h0,List.getElem?_eq_getElem]
 obtain ⟨v,e1,e2⟩:=Qd hp (p.fStatements[at_.toNat]'(by omega)).fGoto b h0 h1
 refine ⟨v,?_,?_⟩
 ·rw [GO,hi]
  try simp only [aK.re_eq]
  simp only [Option.bind_some,e1]
  unfold jmp
  by_cases c:v.2=0<;>by_cases c1:v.1 = -1<;>by_cases c2:v.1 = -2<;>by_cases c3:v.1 = -3<;>simp [c,c1,c2,c3]
 ·rw [q7,hi]
  try simp only [aK.re_eq]
  simp only [Option.bind_some,e2]
  unfold jmp
  by_cases c:v.2=0<;>by_cases c1:v.1 = -1<;>by_cases c2:v.1 = -2<;>by_cases c3:v.1 = -3<;>simp [c,c1,c2,c3]
noncomputable def N1 (p:aj) (at_:Int) (b:Bool):av:=(oB p at_ b).getD ⟨0,0,[]⟩
noncomputable def stC (p:aj) (at_:Int) (s:aa):List av:=⟨1,at_,[]⟩:: (yz s++[N1 p at_ true,N1 p at_ false])
theorem FQ {p:aj} (hp:p.fStatements.length<=80) (b:Bool) {at_:Int} (h0:0<=at_) (h1:at_<p.fStatements.length):oB p at_ b=some (N1 p at_ b)/\ej p at_ b=some (N1 p at_ b)/\∃ v,N1 p at_ b=jmp v:=by
 obtain ⟨v,e1,e2⟩:=Qf hp b h0 h1
 unfold N1
 rw [e1,e2]
 exact ⟨rfl,rfl,v,rfl⟩
theorem Pp {p:aj} (hp:p.fStatements.length<=80) {i:Nat} {s:aa} (hi:p.fStatements[i]?=some s) (hf:fB s=true):nX p (i:Int)=some ((stC p i s,()),())/\fb p (i:Int)=some ((stC p i s,()),()):=by
 have hlt:=(List.getElem?_eq_some_iff.1 hi).1
 obtain ⟨t1,t2,_⟩:=FQ hp true (at_:=(i:Int)) (by omega) (by omega)
 obtain ⟨f1,f2,_⟩:=FQ hp false (at_:=(i:Int)) (by omega) (by omega)
 have hb:=HG hf
 have hix:idx p.fStatements (i:Int)=some s:=by rw [aZ];exact hi
 refine ⟨?_,?_⟩
 ·rw [xv,hix]
  try simp only [aj.re_eq]
  simp only [Option.bind_some,Nu hf,t1,f1]
  rw [aH (by (try simp);omega)]
  simp only [Option.bind_some]
  rw [aH (by (try simp);omega)]
  simp only [Option.bind_some]
  rw [aH (by (try simp);omega)]
  simp [stC]
 ·rw [mN,hix]
  try simp only [aj.re_eq]
  simp only [Option.bind_some]
  try simp only [ai.re_eq]
  rw [show aa.mk s.fLabel s.fHasSubject s.fSubject s.fHasPattern s.fPattern s.fHasReplace s.fReplace s.fGoto=s from rfl,Nt hf]
  simp only [Option.bind_some,t2,f2]
  rw [aH (by (try simp);omega)]
  simp only [Option.bind_some]
  rw [aH (by (try simp);omega)]
  simp [stC]
theorem Cj {p:aj} {i:Int} {s:aa} (hf:fB s=true):(stC p i s).length<=1003:=by
 have:=HG hf
 simp [stC];omega
end Go.Dv.U

namespace Go.Dv.U
open Go Go.Dv Go.Proofs
noncomputable def mG (p:aj):Nat->List aa->List av
 | _,[]=>[]
 | i,s:: r=>stC p i s++mG p (i+1) r
noncomputable def jD (p:aj):Nat->Nat->List aa->List Int
 | _,_,[]=>[]
 | i,o,s:: r=>(o:Int):: jD p (i+1) (o+(stC p i s).length) r
noncomputable def jy (p:aj):Nat->Nat->List aa->List Int
 | _,_,[]=>[]
 | i,o,s:: r=>(((o+(stC p i s).length:Nat):Int)-1):: jy p (i+1) (o+(stC p i s).length) r
theorem wK {p:aj}:∀ (l:List aa) (i:Nat),(∀ s∈l,fB s=true)->(mG p i l).length<=1003*l.length
 | [],_,_=>by simp [mG]
 | s:: r,i,h=>by
  have h1:=Cj (p:=p) (i:=(i:Int)) (h s (by simp))
  have h2:=wK (p:=p) r (i+1) fun s hs=>h s (by simp [hs])
  simp only [mG,List.length_append,List.length_cons];omega
theorem Ak {p:aj}:∀ (l:List aa) (i o:Nat),(jD p i o l).length=l.length
 | [],_,_=>rfl
 | s:: r,i,o=>by simp [jD,Ak r]
theorem HH {p:aj}:∀ (l:List aa) (i o:Nat),(jy p i o l).length=l.length
 | [],_,_=>rfl
 | s:: r,i,o=>by simp [jy,HH r]
theorem Ck (p:aj) (i:Int) (s:aa):3<=(stC p i s).length:=by simp [stC]
theorem Nv {p:aj} (hp:p.fStatements.length<=80) (hf:∀ s∈p.fStatements,fB s=true):
    AP p=some ((mG p 0 p.fStatements,jD p 0 0 p.fStatements,jy p 0 0 p.fStatements,()),()):=by
  rw [Gz]
  have re:aj.mk p.fStatements=p:=rfl
  have key:=cB (xs:=p.fStatements) (by omega) (P:=fun i l=>(∀ t,l[t]?=p.fStatements[i+t]?)->∀ (a:List av) (b c:List Int),a.length+1003*l.length<=1000000->b.length+l.length<=1000000->c.length+l.length<=1000000 ->
      m6 (i:Int) p.fStatements [] [] [] a b c=some ((a++mG p i l,b++jD p i a.length l,c++jy p i a.length l,()),())) (by
    intro _ a b c _ _ _
    rw [qV]
    simp [aw,mG,jD,jy]) (by
    intro i y l _ hlt hy hi hw ih ht a b c h1 h2 h3
    have hiy:p.fStatements[i]?=some y:=by rw [<-aZ];exact hi
    have hfy:=hf y hy
    have hl:=Cj (p:=p) (i:=(i:Int)) hfy
    have hpos:=Ck p i y
    have e1:=(Pp hp hiy hfy).1
    simp only [List.length_cons] at h1 h2 h3
    rw [qV]
    have hc:decide ((i:Int)<len p.fStatements)=true:=by simp [aw,hlt]
    rw [if_pos hc,aH (by simp;omega)]
    simp only [Option.bind_some,re,e1]
    rw [aH (by omega)]
    simp only [Option.bind_some]
    rw [aH (by simp;omega)]
    simp only [Option.bind_some,hw]
    have w:w64 (len (a++stC p i y)-1)=((a.length+(stC p i y).length:Nat):Int)-1:=by rw [aw,List.length_append,aT (by omega) (by omega)]
    rw [w,ih (fun t=>by have:=ht (t+1);simp only [List.getElem?_cons_succ] at this;rw [this];congr 1;omega) _ _ _ (by rw [List.length_append];omega) (by simp;omega) (by simp;omega)]
    simp [mG,jD,jy,aw,List.append_assoc])
  have:=key (fun t=>by simp) [] [] [] (by simp;omega) (by simp;omega) (by simp;omega)
  simpa using this
theorem Nw {p:aj} (hp:p.fStatements.length<=80) (hf:∀ s∈p.fStatements,fB s=true):
    nW p=some ((mG p 0 p.fStatements,jD p 0 0 p.fStatements,jy p 0 0 p.fStatements,()),()):=by
  rw [xt]
  have re:aj.mk p.fStatements=p:=rfl
  have key:=cB (xs:=p.fStatements) (by omega) (P:=fun i l=>(∀ t,l[t]?=p.fStatements[i+t]?)->∀ (a:List av) (b c:List Int),a.length+1003*l.length<=1000000->b.length+l.length<=1000000->c.length+l.length<=1000000 ->
      gv (len p.fStatements) (i:Int) p.fStatements [] [] [] a b c=some ((a++mG p i l,b++jD p i a.length l,c++jy p i a.length l,()),())) (by
    intro _ a b c _ _ _
    rw [lq]
    simp [aw,mG,jD,jy]) (by
    intro i y l _ hlt hy hi hw ih ht a b c h1 h2 h3
    have hiy:p.fStatements[i]?=some y:=by rw [<-aZ];exact hi
    have hfy:=hf y hy
    have hl:=Cj (p:=p) (i:=(i:Int)) hfy
    have hpos:=Ck p i y
    have e1:=(Pp hp hiy hfy).2
    simp only [List.length_cons] at h1 h2 h3
    rw [lq]
    have hc:decide ((i:Int)<len p.fStatements)=true:=by simp [aw,hlt]
    rw [if_pos hc,aH (by simp;omega)]
    simp only [Option.bind_some,re,e1]
    rw [aH (by omega)]
    simp only [Option.bind_some]
    rw [aH (by simp;omega)]
    simp only [Option.bind_some,hw]
    have w:w64 (len (a++stC p i y)-1)=((a.length+(stC p i y).length:Nat):Int)-1:=by rw [aw,List.length_append,aT (by omega) (by omega)]
    rw [w,ih (fun t=>by have:=ht (t+1);simp only [List.getElem?_cons_succ] at this;rw [this];congr 1;omega) _ _ _ (by rw [List.length_append];omega) (by simp;omega) (by simp;omega)]
    simp [mG,jD,jy,aw,List.append_assoc])
  have:=key (fun t=>by simp) [] [] [] (by simp;omega) (by simp;omega) (by simp;omega)
  simpa using this
end Go.Dv.U
