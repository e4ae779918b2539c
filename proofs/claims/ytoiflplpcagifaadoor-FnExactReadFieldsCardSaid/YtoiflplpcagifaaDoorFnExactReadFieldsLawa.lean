/- The law FnExactReadFields: it answers true at every input that can be read, and its arguments read as before; nothing else is asked. -/
import Derived.Test.YtoiflplpcagifaaDoorFnExactReadFieldsPua
import Derived.Test.YtoiflplpcagifaaDoorCards
import Derived.Test.YtoiflplpcagifaaDoorTie
import Derived.SevenTiedAt
import Derived.ProofKit
import Derived.Lay
import Derived.LaidMore
import Derived.LaidHandle
import Derived.OpenShut
import Derived.Stop.Joined
set_option linter.all false
set_option linter.unusedVariables false
set_option linter.unusedSimpArgs false
namespace Go.Dv.U

open Go Go.Dv Go.Proofs

theorem pure_law (us : List (V GG.S)) (h : Leaves GG [.str] us) (hw : ∀ k, ∀ u ∈ us, WfV GG k u) : Fn CC 5 [.bool] us = some true := by
  obtain ⟨x0, us, rfl, h0⟩ := lvs_cons h
  cases lvs_nil h0
  have e : Fn CC 5 [.bool] [inj GG .str x0] = l_FnExactReadFields x0 := by kernel_rfl
  rw [e]
  exact l_FnExactReadFields_ok 

end Go.Dv.U

namespace Go.Proofs.YtoiflplpcagifaaDoor

open Go.ChangeShapes Go.WideShapes Go.ChangeAt Go.RowKit Go.Dv Go.Dv.U

theorem law_own : ownKnob Tryd.prog.godebug = none := by kernel_rfl

theorem law_laidOut : laidOutB Tryd.prog = true := by kernel_rfl

theorem door_met (os : Os) (args : Array Value) : laidMetH Tryd.prog Rows.fnExactReadFieldsRow.laid ((World.laidAll Tryd.prog os Rows.fnExactReadFieldsRow.laid).forCall (fun _ _ => 0) ⟨#[], args, []⟩).memory := by
  rw [MakeChecks.laidMetH_plain _ _ _ (by kernel_rfl)]
  exact laidMet_laidAll _ (by kernel_rfl) (by kernel_rfl)

theorem star_err : "*" ++ "errors.errorString" = "*errors.errorString" := by decide

theorem glob_of {W : World} (h : laidMetH Tryd.prog Rows.fnExactReadFieldsRow.laid W) (hs : W.ShapedOpen Tryd.prog) : GlobX CC W (okOld W) := by
  rw [MakeChecks.laidMetH_plain _ _ _ (by kernel_rfl)] at h
  refine ⟨⟨fun g cs h => (by cases h), fun g hg => ?_, fun g hg => ?_⟩, fun g cs hg => ?_⟩
  · obtain rfl : g = 0 := by simpa [CC] using hg
    exact int_cell (cell_of_shapedOpen_int hs (of_decide_eq_true (by kernel_rfl)) (t := 3) (zero := #[.int .i64 0]) (by kernel_rfl) rfl (by kernel_rfl) (by kernel_rfl) (by kernel_rfl))
  · have hg : g = 1 ∨ g = 2 := by simpa [CC] using hg
    rcases hg with rfl | rfl
    · obtain ⟨a, s, h1, _⟩ := laid_sentinel (laidMet.tail (laidMet.tail (laidMet.tail (laidMet.tail (laidMet.tail h))))) (g := 1) (tp := 163) (te := 165) (ts := 9) (ti := 94) (f := (Go.Field.mk "s" 9 0 Bool.false "" "errors" 0)) (ms := (List.toArray (List.cons (Prod.mk "Error" 55) []))) (by kernel_rfl) (by kernel_rfl) (by kernel_rfl) (fun u hu => typeName_ptr_named (nm := "errors.errorString") (by rw [star_err]; kernel_rfl) (by kernel_rfl) (by decide) u (by rw [star_err]; exact hu)) (by kernel_rfl) (by kernel_rfl) rfl rfl (by kernel_rfl) (by kernel_rfl) (by kernel_rfl)
      exact iface_cell (World.var?_cell (by kernel_rfl) h1 0)
    · obtain ⟨a, s, h1, _⟩ := laid_sentinel (laidMet.tail (laidMet.tail (laidMet.tail (laidMet.tail h)))) (g := 2) (tp := 163) (te := 165) (ts := 9) (ti := 94) (f := (Go.Field.mk "s" 9 0 Bool.false "" "errors" 0)) (ms := (List.toArray (List.cons (Prod.mk "Error" 55) []))) (by kernel_rfl) (by kernel_rfl) (by kernel_rfl) (fun u hu => typeName_ptr_named (nm := "errors.errorString") (by rw [star_err]; kernel_rfl) (by kernel_rfl) (by decide) u (by rw [star_err]; exact hu)) (by kernel_rfl) (by kernel_rfl) rfl rfl (by kernel_rfl) (by kernel_rfl) (by kernel_rfl)
      exact iface_cell (World.var?_cell (by kernel_rfl) h1 0)
  · simp only [CC] at hg
    split at hg
    · have hg := Option.some.inj hg
      subst hg
      exact block_of_tab (name := "internal/strconv.uint64pow10") (by kernel_rfl) (Lib.tabIs_of_head (g := 3) (t := 151) (e := 106) (n := 20) (by kernel_rfl) (by kernel_rfl) (by kernel_rfl) (by kernel_rfl) (by kernel_rfl) (by kernel_rfl) (laidMet.tail (laidMet.tail h)))
    · cases hg

set_option maxRecDepth 100000 in
theorem law_lifted (os : Os) (started : os.Started) (H : Type) (enc : TypeId × Value → H) :
    ReturnsInHanded {} Tryd.checked os 5 .any (fun w args => (Rows.fnExactReadFieldsSpec.pre enc Tryd.prog Tryd.f5 Rows.fnExactReadFieldsRow.domain false w args ∧ laidMetH Tryd.prog Rows.fnExactReadFieldsRow.laid w) ∧ sizedMet enc Tryd.prog Tryd.f5 (OpenSpec.ofChange Rows.fnExactReadFieldsSpec) false w args)
      (Rows.fnExactReadFieldsSpec.post enc Tryd.prog Tryd.f5 false true false false) := by
  refine returns_and_shaped (C := Tryd.checked) (X := fun w _ => laidMetH Tryd.prog Rows.fnExactReadFieldsRow.laid w) (fun _ _ _ hh h => h.of_heap hh) law_own started (by kernel_rfl) Tryd.func5
    (ChangeSpec.witness_shaped (enc := enc) (C := Tryd.checked) (os := os) (X := fun w _ => laidMetH Tryd.prog Rows.fnExactReadFieldsRow.laid w) false (World.laidAll Tryd.prog os Rows.fnExactReadFieldsRow.laid) #[.string ⟨#[]⟩] 12 (World.laidAll_os _ _ _) (World.shaped_of_ZipB (by kernel_rfl) (by kernel_rfl)) (by kernel_rfl) (by kernel_rfl) (by kernel_rfl) (door_met os _)) ?_
  intro W base args ds gs before hval hW hL hsh
  exact row_calls (C := CC) GG.ok CC.ext OO.ok rfl (fn := Tryd.f5) Tryd.func5 rfl (tys := [.str]) (by kernel_rfl) (le_of_b (by kernel_rfl)) (tb := _) rfl (by kernel_rfl) law_laidOut (rd_of_b (by kernel_rfl)) rfl
    (fun H ds hd => by
      match ds, hd with
      | [d0], _ => rfl) pure_law W base args ds gs before (glob_of hL hsh) hval hW

theorem and_t {a b : Bool} (h : a = true) (k : b = true) : (a && b) = true := by rw [h, k]; rfl

theorem j0 : (Rows.fnExactReadFieldsRow.wf (OpenSpec.ofChange Rows.fnExactReadFieldsSpec)) = true := by kernel_rfl

theorem j1 : (laidOutB Tryd.prog) = true := by kernel_rfl

theorem j2 : (mapsRowed Tryd.prog) = true := by kernel_rfl

theorem j3 : (Tryd.f5.params.all (Tryd.prog.readableRec ·)) = true := by kernel_rfl

theorem j4 : (namedTie Tryd.prog Rows.fnExactReadFieldsRow.named Rows.fnExactReadFieldsSpec.vars) = true := by kernel_rfl

theorem j5 : (Rows.fnExactReadFieldsRow.stops == []) = true := by kernel_rfl

theorem j6 : (Tryd.prog.stops == []) = true := by kernel_rfl

theorem j7 : (Rows.fnExactReadFieldsRow.knobs == []) = true := by kernel_rfl

theorem j8 : (Tryd.prog.stopKnobs == []) = true := by kernel_rfl

theorem j9 : (Rows.fnExactReadFieldsRow.inPlace == Tryd.prog.inPlace 5) = true := by kernel_rfl

theorem j10 : (Rows.fnExactReadFieldsRow.unfollowed == Tryd.prog.unfollowed 5) = true := by kernel_rfl

theorem j11 : (Rows.fnExactReadFieldsRow.recurses == Tryd.prog.recurses 5) = true := by kernel_rfl

theorem j12 : (Rows.fnExactReadFieldsRow.named == Tryd.prog.varsNamed 5) = true := by kernel_rfl

theorem j13 : (Rows.fnExactReadFieldsRow.maps == (Tryd.f5.params.toList ++ Rows.fnExactReadFieldsSpec.plain.varTypes Tryd.prog).any (Tryd.prog.mapsRec ·)) = true := by kernel_rfl

theorem j14 : (Rows.fnExactReadFieldsRow.ifaces == (Tryd.f5.params.toList ++ Rows.fnExactReadFieldsSpec.plain.varTypes Tryd.prog).any (Tryd.prog.ifacesRec ·)) = true := by kernel_rfl

theorem j15 : (Rows.fnExactReadFieldsRow.mapsOut == Tryd.prog.mapsAmong Tryd.f5.resultTypes.toList) = true := by kernel_rfl

theorem j16 : (Rows.fnExactReadFieldsRow.loops == (Tryd.f5.params.toList ++ Rows.fnExactReadFieldsSpec.plain.varTypes Tryd.prog).any (Tryd.prog.loopsFrom ·)) = true := by kernel_rfl

theorem j17 : (Rows.fnExactReadFieldsRow.wideKeys == (Tryd.f5.params.toList ++ Rows.fnExactReadFieldsSpec.plain.varTypes Tryd.prog ++ Tryd.f5.resultTypes.toList).any (Tryd.prog.wideKeysFrom ·)) = true := by kernel_rfl

theorem j18 : (Rows.fnExactReadFieldsSpec.vars.all (Tryd.prog.varReadable ·)) = true := by kernel_rfl

theorem j19 : (Tryd.f5.resultTypes.all (fun t => Tryd.prog.readableRec t && decide (t < Tryd.prog.types.size))) = true := by kernel_rfl

theorem j20 : (Rows.fnExactReadFieldsRow.ifacesOut == Tryd.f5.resultTypes.toList.any (Tryd.prog.ifacesRec ·)) = true := by kernel_rfl

theorem j21 : (Rows.fnExactReadFieldsRow.loopsOut == Tryd.f5.resultTypes.toList.any (Tryd.prog.loopsFrom ·)) = true := by kernel_rfl

theorem j22 : (Rows.fnExactReadFieldsRow.plainKeys == Tryd.prog.plainKeys) = true := by kernel_rfl

theorem j23 : (Rows.fnExactReadFieldsRow.shortTexts.isNone) = true := by kernel_rfl

theorem j24 : (Tryd.prog.stopsHeard) = true := by kernel_rfl

theorem j25 : (Tryd.prog.mayEnter) = true := by kernel_rfl

theorem j26 : (Rows.fnExactReadFieldsRow.lifted == Tryd.prog.liftsFinal) = true := by kernel_rfl

theorem j27 : (Tryd.prog.make == some Rows.fnExactReadFieldsRow.make) = true := by kernel_rfl

theorem j28 : (Rows.fnExactReadFieldsRow.kinds == (if Rows.fnExactReadFieldsRow.domain.isEmpty then [] else Tryd.f5.params.toList.map fun t => match Tryd.prog.underlying t with | some (.int k) => some k | _ => none)) = true := by kernel_rfl

theorem j29 : (Rows.fnExactReadFieldsRow.pinned == Rows.fnExactReadFieldsRow.pinnedBy) = true := by kernel_rfl

theorem j30 : (Rows.fnExactReadFieldsRow.veiled == (Tryd.f5.params.toList ++ Rows.fnExactReadFieldsSpec.plain.varTypes Tryd.prog ++ Tryd.f5.resultTypes.toList).any (Tryd.prog.veiledRec ·)) = true := by kernel_rfl

theorem j31 : (Rows.fnExactReadFieldsRow.veiledFits Tryd.prog Tryd.f5.params.toList (Tryd.f5.params.toList ++ Rows.fnExactReadFieldsSpec.plain.varTypes Tryd.prog ++ Tryd.f5.resultTypes.toList)) = true := by kernel_rfl

set_option maxRecDepth 100000 in
theorem law_joined : joinedFacts Tryd.prog 5 Tryd.f5 Rows.fnExactReadFieldsSpec Rows.fnExactReadFieldsRow = true :=
  and_t (and_t (and_t (and_t (and_t (and_t (and_t (and_t (and_t (and_t (and_t (and_t (and_t (and_t (and_t (and_t (and_t (and_t (and_t (and_t (and_t (and_t (and_t (and_t (and_t (and_t (and_t (and_t (and_t (and_t (and_t j0 j1) j2) j3) j4) j5) j6) j7) j8) j9) j10) j11) j12) j13) j14) j15) j16) j17) j18) j19) j20) j21) j22) j23) j24) j25) j26) j27) j28) j29) j30) j31

theorem law_named : Tryd.prog.funcNamed Rows.fnExactReadFieldsRow.func = some 5 := by kernel_rfl

theorem law_origin : Tryd.f5.isInstance Tryd.prog Rows.fnExactReadFieldsRow.origin Rows.fnExactReadFieldsRow.targs := of_decide_eq_true (by kernel_rfl)

theorem law_wrapper : Tryd.f5.isWrapper Tryd.prog Rows.fnExactReadFieldsRow.wrapper Rows.fnExactReadFieldsRow.mainSum := by unfold Func.isWrapper; first | (rw [if_pos (by decide +kernel)]; kernel_rfl) | (rw [if_neg (by decide +kernel)]; exact ⟨rfl, rfl⟩)

theorem FnExactReadFields_holds : Rows.FnExactReadFieldsSaid :=
  OpenClaim.holds_of_wide 5 Tryd.f5 rfl rfl rfl rfl rfl rfl rfl ⟨rfl, rfl, rfl, rfl, rfl⟩ rfl rfl rfl rfl rfl law_named Tryd.func5 law_joined
    law_origin law_wrapper
    (fun os started H enc _ => law_lifted os started H enc)

theorem law_text : Rows.fnExactReadFieldsRow.wfByText (OpenSpec.ofChange Rows.fnExactReadFieldsSpec) = true := by kernel_rfl

theorem law_main : Tryd.prog.mainIs = some (true, "ac56f391cf7e8b037537efc4d7a620a50f157e4c52a2ee037e81903a4130d4c3".toList) := by kernel_rfl

theorem law_looks : true = Tryd.prog.looks [] := by kernel_rfl

theorem law_stand : (Tryd.f5.params.toList.all fun u => !Tryd.prog.wantsStandIn u) = true := by kernel_rfl

theorem law_goes : false = Rows.fnExactReadFieldsRow.goesBy Tryd.prog := by kernel_rfl

theorem FnExactReadFieldsCard_holds : Rows.FnExactReadFieldsCardSaid :=
  Claim7.holds_tied_plain_at .later [] [.data, .data, .data, .data, .sentinel, .sentinel, .pinned] true (true, "ac56f391cf7e8b037537efc4d7a620a50f157e4c52a2ee037e81903a4130d4c3") true
    FnExactReadFields_holds (fun _ h => by cases h) law_text (fun _ h => by cases h) fnExactReadFields_row_tie rfl ⟨rfl, rfl⟩ law_main rfl
    (fun f fn hf hfn => by
      obtain rfl : f = 5 := Option.some.inj (law_named.symm.trans hf) |>.symm
      obtain rfl : fn = Tryd.f5 := (Option.some.inj (Tryd.func5.symm.trans hfn)).symm
      exact ⟨law_looks, fun j t ht => by
        have hm : t ∈ Tryd.f5.params.toList := by simpa using Array.mem_of_getElem? ht
        exact (show Tryd.prog.wantsStandIn t = false by simpa using List.all_eq_true.1 law_stand t hm)⟩)
    law_goes

end Go.Proofs.YtoiflplpcagifaaDoor
