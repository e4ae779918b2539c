/- The law FnExactLibraryIndex: it answers true at every input that can be read, and its arguments read as before; nothing else is asked. -/
import Derived.Test.YtpjcbihleclioaaGreatDoorFnExactLibraryIndexPub
import Derived.Test.YtpjcbihleclioaaGreatDoorCards
import Derived.Test.YtpjcbihleclioaaGreatDoorTie
import Derived.SevenTiedAt
import Derived.ProofKit
import Derived.Lay
import Derived.LaidMore
import Derived.LaidHandle
import Derived.OpenShut
import Derived.Stop.Joined
set_option linter.all false
set_option linter.unusedVariables false
set_option linter.unusedSimpArgs false
namespace Go.Dv.U

open Go Go.Dv Go.Proofs

theorem pure_law (us:List (V GG.S)) (h:fU GG [] us) (hw:∀ k,∀ u∈us,WfV GG k u):Fn CC 5 [.bool] us=some true:=by
  cases JX h
  have e:Fn CC 5 [.bool] []=fB  := by kernel_rfl
  rw [e]
  exact nw 

end Go.Dv.U

namespace Go.Proofs.YtpjcbihleclioaaGreatDoor

open Go.ChangeShapes Go.WideShapes Go.ChangeAt Go.RowKit Go.Dv Go.Dv.U

theorem law_own : ownKnob Tryz.prog.godebug=none:=by kernel_rfl

theorem law_laidOut : laidOutB Tryz.prog=true:=by kernel_rfl

theorem door_met (os:Os) (args:Array Value):laidMetH Tryz.prog Rows.fnExactLibraryIndexRow.laid ((World.laidAll Tryz.prog os Rows.fnExactLibraryIndexRow.laid).forCall (fun _ _=>0) ⟨#[],args,[]⟩).memory:=by
  rw [MakeChecks.laidMetH_plain _ _ _ (by kernel_rfl)]
  exact laidMet_laidAll _ (by kernel_rfl) (by kernel_rfl)

theorem glob_of {W:World} (h:laidMetH Tryz.prog Rows.fnExactLibraryIndexRow.laid W) (hs:W.ShapedOpen Tryz.prog):AW CC W (vu W):=by
  rw [MakeChecks.laidMetH_plain _ _ _ (by kernel_rfl)] at h
  refine ⟨⟨fun g cs h=>(by cases h),fun g hg=>?_,fun g hg=>?_⟩,fun g cs hg=>?_⟩
  · obtain rfl:g=0:=by simpa [CC] using hg
    exact Ik (cell_of_shapedOpen_int hs (of_decide_eq_true (by kernel_rfl)) (t:=3) (zero:=#[.int .i64 0]) (by kernel_rfl) rfl (by kernel_rfl) (by kernel_rfl) (by kernel_rfl))
  · cases hg
  · simp only [CC] at hg
    split at hg
    · have hg:=Option.some.inj hg
      subst hg
      exact Bp (name:= "internal/strconv.uint64pow10") (by kernel_rfl) (Lib.tabIs_of_head (g:=1) (t:=205) (e:=92) (n:=20) (by kernel_rfl) (by kernel_rfl) (by kernel_rfl) (by kernel_rfl) (by kernel_rfl) (by kernel_rfl) (laidMet.tail (laidMet.tail h)))
    · cases hg

set_option maxRecDepth 100000 in
theorem law_lifted (os:Os) (started:os.Started) (H:Type) (enc:TypeId×Value->H):
    ReturnsInHanded {} Tryz.checked os 5 .any (fun w args=>(Rows.fnExactLibraryIndexSpec.pre enc Tryz.prog Tryz.f5 Rows.fnExactLibraryIndexRow.domain false w args/\laidMetH Tryz.prog Rows.fnExactLibraryIndexRow.laid w)/\sizedMet enc Tryz.prog Tryz.f5 (OpenSpec.ofChange Rows.fnExactLibraryIndexSpec) false w args)
      (Rows.fnExactLibraryIndexSpec.post enc Tryz.prog Tryz.f5 false true false false):=by
  refine s8 (C:=Tryz.checked) (X:=fun w _=>laidMetH Tryz.prog Rows.fnExactLibraryIndexRow.laid w) (fun _ _ _ hh h=>h.of_heap hh) law_own started (by kernel_rfl) Tryz.func5
    (ChangeSpec.witness_shaped (enc:=enc) (C:=Tryz.checked) (os:=os) (X:=fun w _=>laidMetH Tryz.prog Rows.fnExactLibraryIndexRow.laid w) false (World.laidAll Tryz.prog os Rows.fnExactLibraryIndexRow.laid) #[] 12 (World.laidAll_os _ _ _) (World.shaped_of_ZipB (by kernel_rfl) (by kernel_rfl)) (by kernel_rfl) (by kernel_rfl) (by kernel_rfl) (door_met os _)) ?_
  intro W base args ds gs before hval hW hL hsh
  exact Gq (C:=CC) GG.ok CC.ext OO.ok rfl (fn:=Tryz.f5) Tryz.func5 rfl (tys:=[]) (by kernel_rfl) (JY (by kernel_rfl)) (tb:=_) rfl (by kernel_rfl) law_laidOut (JZ (by kernel_rfl)) rfl
    (fun H ds hd=>by
      match ds,hd with
      | [],_=>rfl) pure_law W base args ds gs before (glob_of hL hsh) hval hW

theorem and_t {a b:Bool} (h:a=true) (k:b=true):(a&&b)=true:=by rw [h,k];rfl

theorem j0 : (Rows.fnExactLibraryIndexRow.wf (OpenSpec.ofChange Rows.fnExactLibraryIndexSpec))=true:=by kernel_rfl

theorem j1 : (laidOutB Tryz.prog)=true:=by kernel_rfl

theorem j2 : (mapsRowed Tryz.prog)=true:=by kernel_rfl

theorem j3 : (Tryz.f5.params.all (Tryz.prog.readableRec ·))=true:=by kernel_rfl

theorem j4 : (namedTie Tryz.prog Rows.fnExactLibraryIndexRow.named Rows.fnExactLibraryIndexSpec.vars)=true:=by kernel_rfl

theorem j5 : (Rows.fnExactLibraryIndexRow.stops==[])=true:=by kernel_rfl

theorem j6 : (Tryz.prog.stops==[])=true:=by kernel_rfl

theorem j7 : (Rows.fnExactLibraryIndexRow.knobs==[])=true:=by kernel_rfl

theorem j8 : (Tryz.prog.stopKnobs==[])=true:=by kernel_rfl

theorem j9 : (Rows.fnExactLibraryIndexRow.inPlace==Tryz.prog.inPlace 5)=true:=by kernel_rfl

theorem j10 : (Rows.fnExactLibraryIndexRow.unfollowed==Tryz.prog.unfollowed 5)=true:=by kernel_rfl

theorem j11 : (Rows.fnExactLibraryIndexRow.recurses==Tryz.prog.recurses 5)=true:=by kernel_rfl

theorem j12 : (Rows.fnExactLibraryIndexRow.named==Tryz.prog.varsNamed 5)=true:=by kernel_rfl

theorem j13 : (Rows.fnExactLibraryIndexRow.maps==(Tryz.f5.params.toList++Rows.fnExactLibraryIndexSpec.plain.varTypes Tryz.prog).any (Tryz.prog.mapsRec ·))=true:=by kernel_rfl

theorem j14 : (Rows.fnExactLibraryIndexRow.ifaces==(Tryz.f5.params.toList++Rows.fnExactLibraryIndexSpec.plain.varTypes Tryz.prog).any (Tryz.prog.ifacesRec ·))=true:=by kernel_rfl

theorem j15 : (Rows.fnExactLibraryIndexRow.mapsOut==Tryz.prog.mapsAmong Tryz.f5.resultTypes.toList)=true:=by kernel_rfl

theorem j16 : (Rows.fnExactLibraryIndexRow.loops==(Tryz.f5.params.toList++Rows.fnExactLibraryIndexSpec.plain.varTypes Tryz.prog).any (Tryz.prog.loopsFrom ·))=true:=by kernel_rfl

theorem j17 : (Rows.fnExactLibraryIndexRow.wideKeys==(Tryz.f5.params.toList++Rows.fnExactLibraryIndexSpec.plain.varTypes Tryz.prog++Tryz.f5.resultTypes.toList).any (Tryz.prog.wideKeysFrom ·))=true:=by kernel_rfl

theorem j18 : (Rows.fnExactLibraryIndexSpec.vars.all (Tryz.prog.varReadable ·))=true:=by kernel_rfl

theorem j19 : (Tryz.f5.resultTypes.all (fun t=>Tryz.prog.readableRec t&&decide (t<Tryz.prog.types.size)))=true:=by kernel_rfl

theorem j20 : (Rows.fnExactLibraryIndexRow.ifacesOut==Tryz.f5.resultTypes.toList.any (Tryz.prog.ifacesRec ·))=true:=by kernel_rfl

theorem j21 : (Rows.fnExactLibraryIndexRow.loopsOut==Tryz.f5.resultTypes.toList.any (Tryz.prog.loopsFrom ·))=true:=by kernel_rfl

theorem j22 : (Rows.fnExactLibraryIndexRow.plainKeys==Tryz.prog.plainKeys)=true:=by kernel_rfl

theorem j23 : (Rows.fnExactLibraryIndexRow.shortTexts.isNone)=true:=by kernel_rfl

theorem j24 : (Tryz.prog.stopsHeard)=true:=by kernel_rfl

theorem j25 : (Tryz.prog.mayEnter)=true:=by kernel_rfl

theorem j26 : (Rows.fnExactLibraryIndexRow.lifted==Tryz.prog.liftsFinal)=true:=by kernel_rfl

theorem j27 : (Tryz.prog.make==some Rows.fnExactLibraryIndexRow.make)=true:=by kernel_rfl

theorem j28 : (Rows.fnExactLibraryIndexRow.kinds==(if Rows.fnExactLibraryIndexRow.domain.isEmpty then [] else Tryz.f5.params.toList.map fun t=>match Tryz.prog.underlying t with | some (.int k)=>some k | _=>none))=true:=by kernel_rfl

theorem j29 : (Rows.fnExactLibraryIndexRow.pinned==Rows.fnExactLibraryIndexRow.pinnedBy)=true:=by kernel_rfl

theorem j30 : (Rows.fnExactLibraryIndexRow.veiled==(Tryz.f5.params.toList++Rows.fnExactLibraryIndexSpec.plain.varTypes Tryz.prog++Tryz.f5.resultTypes.toList).any (Tryz.prog.veiledRec ·))=true:=by kernel_rfl

theorem j31 : (Rows.fnExactLibraryIndexRow.veiledFits Tryz.prog Tryz.f5.params.toList (Tryz.f5.params.toList++Rows.fnExactLibraryIndexSpec.plain.varTypes Tryz.prog++Tryz.f5.resultTypes.toList))=true:=by kernel_rfl

set_option maxRecDepth 100000 in
theorem law_joined : joinedFacts Tryz.prog 5 Tryz.f5 Rows.fnExactLibraryIndexSpec Rows.fnExactLibraryIndexRow=true:=
  and_t (and_t (and_t (and_t (and_t (and_t (and_t (and_t (and_t (and_t (and_t (and_t (and_t (and_t (and_t (and_t (and_t (and_t (and_t (and_t (and_t (and_t (and_t (and_t (and_t (and_t (and_t (and_t (and_t (and_t (and_t j0 j1) j2) j3) j4) j5) j6) j7) j8) j9) j10) j11) j12) j13) j14) j15) j16) j17) j18) j19) j20) j21) j22) j23) j24) j25) j26) j27) j28) j29) j30) j31

theorem law_named : Tryz.prog.funcNamed Rows.fnExactLibraryIndexRow.func=some 5:=by kernel_rfl

theorem law_origin : Tryz.f5.isInstance Tryz.prog Rows.fnExactLibraryIndexRow.origin Rows.fnExactLibraryIndexRow.targs:=of_decide_eq_true (by kernel_rfl)

theorem law_wrapper : Tryz.f5.isWrapper Tryz.prog Rows.fnExactLibraryIndexRow.wrapper Rows.fnExactLibraryIndexRow.mainSum:=by unfold Func.isWrapper;first | (rw [if_pos (by decide +kernel)];kernel_rfl) | (rw [if_neg (by decide +kernel)];exact ⟨rfl,rfl⟩)

theorem FnExactLibraryIndex_holds : Rows.FnExactLibraryIndexSaid:=
  OpenClaim.holds_of_wide 5 Tryz.f5 rfl rfl rfl rfl rfl rfl rfl ⟨rfl,rfl,rfl,rfl,rfl⟩ rfl rfl rfl rfl rfl law_named Tryz.func5 law_joined
    law_origin law_wrapper
    (fun os started H enc _=>law_lifted os started H enc)

theorem law_text : Rows.fnExactLibraryIndexRow.wfByText (OpenSpec.ofChange Rows.fnExactLibraryIndexSpec)=true:=by kernel_rfl

theorem law_main : Tryz.prog.mainIs=some (true, "1fc332962915b3d160f440d6443c7fcaa1f85d3032dc3f2055047e69c44e5a4c".toList):=by kernel_rfl

theorem law_looks : true=Tryz.prog.looks []:=by kernel_rfl

theorem law_stand : (Tryz.f5.params.toList.all fun u=>!Tryz.prog.wantsStandIn u)=true:=by kernel_rfl

theorem law_goes : false=Rows.fnExactLibraryIndexRow.goesBy Tryz.prog:=by kernel_rfl

theorem FnExactLibraryIndexCard_holds : Rows.FnExactLibraryIndexCardSaid:=
  Claim7.holds_tied_plain_at .later [] [.data,.data,.data,.data,.sentinel,.sentinel,.pinned] true (true, "1fc332962915b3d160f440d6443c7fcaa1f85d3032dc3f2055047e69c44e5a4c") true
    FnExactLibraryIndex_holds (fun _ h=>by cases h) law_text (fun _ h=>by cases h) fnExactLibraryIndex_row_tie rfl ⟨rfl,rfl⟩ law_main rfl
    (fun f fn hf hfn=>by
      obtain rfl:f=5:=Option.some.inj (law_named.symm.trans hf) |>.symm
      obtain rfl:fn=Tryz.f5:=(Option.some.inj (Tryz.func5.symm.trans hfn)).symm
      exact ⟨law_looks,fun j t ht=>by
        have hm:t∈Tryz.f5.params.toList:=by simpa using Array.mem_of_getElem? ht
        exact (show Tryz.prog.wantsStandIn t=false by simpa using List.all_eq_true.1 law_stand t hm)⟩)
    law_goes

end Go.Proofs.YtpjcbihleclioaaGreatDoor
