/- The law FnFields: it answers true at every input that can be read, and its arguments read as before; nothing else is asked. -/
import Derived.Test.YtoiflplpcagifaaDoorFnFieldsPua
import Derived.Test.YtoiflplpcagifaaDoorCards
import Derived.Test.YtoiflplpcagifaaDoorTie
import Derived.SevenTiedAt
import Derived.ProofKit
import Derived.Lay
import Derived.LaidMore
import Derived.LaidHandle
import Derived.OpenShut
import Derived.Stop.Joined
set_option linter.all false
set_option linter.unusedVariables false
set_option linter.unusedSimpArgs false
namespace Go.Dv.U

open Go Go.Dv Go.Proofs

theorem pure_law (us : List (V GG.S)) (h : Leaves GG [(.sl (.int .u8)), (.sl (.int .u8))] us) (hw : ∀ k, ∀ u ∈ us, WfV GG k u) : Fn CC 6 [.bool] us = some true := by
  obtain ⟨x0, us, rfl, h0⟩ := lvs_cons h
  obtain ⟨x1, us, rfl, h1⟩ := lvs_cons h0
  cases lvs_nil h1
  have e : Fn CC 6 [.bool] [inj GG (.sl (.int .u8)) x0, inj GG (.sl (.int .u8)) x1] = l_FnFields x0 x1 := by kernel_rfl
  rw [e]
  exact l_FnFields_ok (BytesOk.of fun k => hw k _ (by simp)) (BytesOk.of fun k => hw k _ (by simp))

end Go.Dv.U

namespace Go.Proofs.YtoiflplpcagifaaDoor

open Go.ChangeShapes Go.WideShapes Go.ChangeAt Go.RowKit Go.Dv Go.Dv.U

theorem law_own : ownKnob Tryd.prog.godebug = none := by kernel_rfl

theorem law_laidOut : laidOutB Tryd.prog = true := by kernel_rfl

theorem door_met (os : Os) (args : Array Value) : laidMetH Tryd.prog Rows.fnFieldsRow.laid ((World.laidAll Tryd.prog os Rows.fnFieldsRow.laid).forCall (fun _ _ => 0) ⟨#[], args, []⟩).memory := by
  rw [MakeChecks.laidMetH_plain _ _ _ (by kernel_rfl)]
  exact laidMet_laidAll _ (by kernel_rfl) (by kernel_rfl)

theorem star_err : "*" ++ "errors.errorString" = "*errors.errorString" := by decide

theorem glob_of {W : World} (h : laidMetH Tryd.prog Rows.fnFieldsRow.laid W) (hs : W.ShapedOpen Tryd.prog) : GlobX CC W (okOld W) := by
  rw [MakeChecks.laidMetH_plain _ _ _ (by kernel_rfl)] at h
  refine ⟨⟨fun g cs h => (by cases h), fun g hg => ?_, fun g hg => ?_⟩, fun g cs hg => ?_⟩
  · obtain rfl : g = 0 := by simpa [CC] using hg
    exact int_cell (cell_of_shapedOpen_int hs (of_decide_eq_true (by kernel_rfl)) (t := 3) (zero := #[.int .i64 0]) (by kernel_rfl) rfl (by kernel_rfl) (by kernel_rfl) (by kernel_rfl))
  · have hg : g = 1 ∨ g = 2 := by simpa [CC] using hg
    rcases hg with rfl | rfl
    · obtain ⟨a, s, h1, _⟩ := laid_sentinel (laidMet.tail (laidMet.tail (laidMet.tail (laidMet.tail (laidMet.tail h))))) (g := 1) (tp := 163) (te := 165) (ts := 9) (ti := 94) (f := (Go.Field.mk "s" 9 0 Bool.false "" "errors" 0)) (ms := (List.toArray (List.cons (Prod.mk "Error" 55) []))) (by kernel_rfl) (by kernel_rfl) (by kernel_rfl) (fun u hu => typeName_ptr_named (nm := "errors.errorString") (by rw [star_err]; kernel_rfl) (by kernel_rfl) (by decide) u (by rw [star_err]; exact hu)) (by kernel_rfl) (by kernel_rfl) rfl rfl (by kernel_rfl) (by kernel_rfl) (by kernel_rfl)
      exact iface_cell (World.var?_cell (by kernel_rfl) h1 0)
    · obtain ⟨a, s, h1, _⟩ := laid_sentinel (laidMet.tail (laidMet.tail (laidMet.tail (laidMet.tail h)))) (g := 2) (tp := 163) (te := 165) (ts := 9) (ti := 94) (f := (Go.Field.mk "s" 9 0 Bool.false "" "errors" 0)) (ms := (List.toArray (List.cons (Prod.mk "Error" 55) []))) (by kernel_rfl) (by kernel_rfl) (by kernel_rfl) (fun u hu => typeName_ptr_named (nm := "errors.errorString") (by rw [star_err]; kernel_rfl) (by kernel_rfl) (by decide) u (by rw [star_err]; exact hu)) (by kernel_rfl) (by kernel_rfl) rfl rfl (by kernel_rfl) (by kernel_rfl) (by kernel_rfl)
      exact iface_cell (World.var?_cell (by kernel_rfl) h1 0)
  · simp only [CC] at hg
    split at hg
    · have hg := Option.some.inj hg
      subst hg
      exact block_of_tab (name := "internal/strconv.uint64pow10") (by kernel_rfl) (Lib.tabIs_of_head (g := 3) (t := 151) (e := 106) (n := 20) (by kernel_rfl) (by kernel_rfl) (by kernel_rfl) (by kernel_rfl) (by kernel_rfl) (by kernel_rfl) (laidMet.tail (laidMet.tail h)))
    · cases hg

set_option maxRecDepth 100000 in
theorem law_lifted (os : Os) (started : os.Started) (H : Type) (enc : TypeId × Value → H) :
    ReturnsInHanded {} Tryd.checked os 6 .any (fun w args => (Rows.fnFieldsSpec.pre enc Tryd.prog Tryd.f6 Rows.fnFieldsRow.domain false w args ∧ laidMetH Tryd.prog Rows.fnFieldsRow.laid w) ∧ sizedMet enc Tryd.prog Tryd.f6 (OpenSpec.ofChange Rows.fnFieldsSpec) false w args)
      (Rows.fnFieldsSpec.post enc Tryd.prog Tryd.f6 false true false false) := by
  refine returns_and_shaped (C := Tryd.checked) (X := fun w _ => laidMetH Tryd.prog Rows.fnFieldsRow.laid w) (fun _ _ _ hh h => h.of_heap hh) law_own started (by kernel_rfl) Tryd.func6
    (ChangeSpec.witness_shaped (enc := enc) (C := Tryd.checked) (os := os) (X := fun w _ => laidMetH Tryd.prog Rows.fnFieldsRow.laid w) false (World.laidAll Tryd.prog os Rows.fnFieldsRow.laid) #[.slice none 0 0, .slice none 0 0] 12 (World.laidAll_os _ _ _) (World.shaped_of_ZipB (by kernel_rfl) (by kernel_rfl)) (by kernel_rfl) (by kernel_rfl) (by kernel_rfl) (door_met os _)) ?_
  intro W base args ds gs before hval hW hL hsh
  exact row_calls (C := CC) GG.ok CC.ext OO.ok rfl (fn := Tryd.f6) Tryd.func6 rfl (tys := [(.sl (.int .u8)), (.sl (.int .u8))]) (by kernel_rfl) (le_of_b (by kernel_rfl)) (tb := _) rfl (by kernel_rfl) law_laidOut (rd_of_b (by kernel_rfl)) rfl
    (fun H ds hd => by
      match ds, hd with
      | [d0, d1], _ => rfl) pure_law W base args ds gs before (glob_of hL hsh) hval hW

theorem and_t {a b : Bool} (h : a = true) (k : b = true) : (a && b) = true := by rw [h, k]; rfl

theorem j0 : (Rows.fnFieldsRow.wf (OpenSpec.ofChange Rows.fnFieldsSpec)) = true := by kernel_rfl

theorem j1 : (laidOutB Tryd.prog) = true := by kernel_rfl

theorem j2 : (mapsRowed Tryd.prog) = true := by kernel_rfl

theorem j3 : (Tryd.f6.params.all (Tryd.prog.readableRec ·)) = true := by kernel_rfl

theorem j4 : (namedTie Tryd.prog Rows.fnFieldsRow.named Rows.fnFieldsSpec.vars) = true := by kernel_rfl

theorem j5 : (Rows.fnFieldsRow.stops == []) = true := by kernel_rfl

theorem j6 : (Tryd.prog.stops == []) = true := by kernel_rfl

theorem j7 : (Rows.fnFieldsRow.knobs == []) = true := by kernel_rfl

theorem j8 : (Tryd.prog.stopKnobs == []) = true := by kernel_rfl

theorem j9 : (Rows.fnFieldsRow.inPlace == Tryd.prog.inPlace 6) = true := by kernel_rfl

theorem j10 : (Rows.fnFieldsRow.unfollowed == Tryd.prog.unfollowed 6) = true := by kernel_rfl

theorem j11 : (Rows.fnFieldsRow.recurses == Tryd.prog.recurses 6) = true := by kernel_rfl

theorem j12 : (Rows.fnFieldsRow.named == Tryd.prog.varsNamed 6) = true := by kernel_rfl

theorem j13 : (Rows.fnFieldsRow.maps == (Tryd.f6.params.toList ++ Rows.fnFieldsSpec.plain.varTypes Tryd.prog).any (Tryd.prog.mapsRec ·)) = true := by kernel_rfl

theorem j14 : (Rows.fnFieldsRow.ifaces == (Tryd.f6.params.toList ++ Rows.fnFieldsSpec.plain.varTypes Tryd.prog).any (Tryd.prog.ifacesRec ·)) = true := by kernel_rfl

theorem j15 : (Rows.fnFieldsRow.mapsOut == Tryd.prog.mapsAmong Tryd.f6.resultTypes.toList) = true := by kernel_rfl

theorem j16 : (Rows.fnFieldsRow.loops == (Tryd.f6.params.toList ++ Rows.fnFieldsSpec.plain.varTypes Tryd.prog).any (Tryd.prog.loopsFrom ·)) = true := by kernel_rfl

theorem j17 : (Rows.fnFieldsRow.wideKeys == (Tryd.f6.params.toList ++ Rows.fnFieldsSpec.plain.varTypes Tryd.prog ++ Tryd.f6.resultTypes.toList).any (Tryd.prog.wideKeysFrom ·)) = true := by kernel_rfl

theorem j18 : (Rows.fnFieldsSpec.vars.all (Tryd.prog.varReadable ·)) = true := by kernel_rfl

theorem j19 : (Tryd.f6.resultTypes.all (fun t => Tryd.prog.readableRec t && decide (t < Tryd.prog.types.size))) = true := by kernel_rfl

theorem j20 : (Rows.fnFieldsRow.ifacesOut == Tryd.f6.resultTypes.toList.any (Tryd.prog.ifacesRec ·)) = true := by kernel_rfl

theorem j21 : (Rows.fnFieldsRow.loopsOut == Tryd.f6.resultTypes.toList.any (Tryd.prog.loopsFrom ·)) = true := by kernel_rfl

theorem j22 : (Rows.fnFieldsRow.plainKeys == Tryd.prog.plainKeys) = true := by kernel_rfl

theorem j23 : (Rows.fnFieldsRow.shortTexts.isNone) = true := by kernel_rfl

theorem j24 : (Tryd.prog.stopsHeard) = true := by kernel_rfl

theorem j25 : (Tryd.prog.mayEnter) = true := by kernel_rfl

theorem j26 : (Rows.fnFieldsRow.lifted == Tryd.prog.liftsFinal) = true := by kernel_rfl

theorem j27 : (Tryd.prog.make == some Rows.fnFieldsRow.make) = true := by kernel_rfl

theorem j28 : (Rows.fnFieldsRow.kinds == (if Rows.fnFieldsRow.domain.isEmpty then [] else Tryd.f6.params.toList.map fun t => match Tryd.prog.underlying t with | some (.int k) => some k | _ => none)) = true := by kernel_rfl

theorem j29 : (Rows.fnFieldsRow.pinned == Rows.fnFieldsRow.pinnedBy) = true := by kernel_rfl

theorem j30 : (Rows.fnFieldsRow.veiled == (Tryd.f6.params.toList ++ Rows.fnFieldsSpec.plain.varTypes Tryd.prog ++ Tryd.f6.resultTypes.toList).any (Tryd.prog.veiledRec ·)) = true := by kernel_rfl

theorem j31 : (Rows.fnFieldsRow.veiledFits Tryd.prog Tryd.f6.params.toList (Tryd.f6.params.toList ++ Rows.fnFieldsSpec.plain.varTypes Tryd.prog ++ Tryd.f6.resultTypes.toList)) = true := by kernel_rfl

set_option maxRecDepth 100000 in
theorem law_joined : joinedFacts Tryd.prog 6 Tryd.f6 Rows.fnFieldsSpec Rows.fnFieldsRow = true :=
  and_t (and_t (and_t (and_t (and_t (and_t (and_t (and_t (and_t (and_t (and_t (and_t (and_t (and_t (and_t (and_t (and_t (and_t (and_t (and_t (and_t (and_t (and_t (and_t (and_t (and_t (and_t (and_t (and_t (and_t (and_t j0 j1) j2) j3) j4) j5) j6) j7) j8) j9) j10) j11) j12) j13) j14) j15) j16) j17) j18) j19) j20) j21) j22) j23) j24) j25) j26) j27) j28) j29) j30) j31

theorem law_named : Tryd.prog.funcNamed Rows.fnFieldsRow.func = some 6 := by kernel_rfl

theorem law_origin : Tryd.f6.isInstance Tryd.prog Rows.fnFieldsRow.origin Rows.fnFieldsRow.targs := of_decide_eq_true (by kernel_rfl)

theorem law_wrapper : Tryd.f6.isWrapper Tryd.prog Rows.fnFieldsRow.wrapper Rows.fnFieldsRow.mainSum := by unfold Func.isWrapper; first | (rw [if_pos (by decide +kernel)]; kernel_rfl) | (rw [if_neg (by decide +kernel)]; exact ⟨rfl, rfl⟩)

theorem FnFields_holds : Rows.FnFieldsSaid :=
  OpenClaim.holds_of_wide 6 Tryd.f6 rfl rfl rfl rfl rfl rfl rfl ⟨rfl, rfl, rfl, rfl, rfl⟩ rfl rfl rfl rfl rfl law_named Tryd.func6 law_joined
    law_origin law_wrapper
    (fun os started H enc _ => law_lifted os started H enc)

theorem law_text : Rows.fnFieldsRow.wfByText (OpenSpec.ofChange Rows.fnFieldsSpec) = true := by kernel_rfl

theorem law_main : Tryd.prog.mainIs = some (true, "ac56f391cf7e8b037537efc4d7a620a50f157e4c52a2ee037e81903a4130d4c3".toList) := by kernel_rfl

theorem law_looks : true = Tryd.prog.looks [] := by kernel_rfl

theorem law_stand : (Tryd.f6.params.toList.all fun u => !Tryd.prog.wantsStandIn u) = true := by kernel_rfl

theorem law_goes : false = Rows.fnFieldsRow.goesBy Tryd.prog := by kernel_rfl

theorem FnFieldsCard_holds : Rows.FnFieldsCardSaid :=
  Claim7.holds_tied_plain_at .later [] [.data, .data, .data, .data, .sentinel, .sentinel, .pinned] true (true, "ac56f391cf7e8b037537efc4d7a620a50f157e4c52a2ee037e81903a4130d4c3") true
    FnFields_holds (fun _ h => by cases h) law_text (fun _ h => by cases h) fnFields_row_tie rfl ⟨rfl, rfl⟩ law_main rfl
    (fun f fn hf hfn => by
      obtain rfl : f = 6 := Option.some.inj (law_named.symm.trans hf) |>.symm
      obtain rfl : fn = Tryd.f6 := (Option.some.inj (Tryd.func6.symm.trans hfn)).symm
      exact ⟨law_looks, fun j t ht => by
        have hm : t ∈ Tryd.f6.params.toList := by simpa using Array.mem_of_getElem? ht
        exact (show Tryd.prog.wantsStandIn t = false by simpa using List.all_eq_true.1 law_stand t hm)⟩)
    law_goes

end Go.Proofs.YtoiflplpcagifaaDoor
