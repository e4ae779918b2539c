/- The law FnExprRound: it answers true at every input that can be read, and its arguments read as before; nothing else is asked. -/
import Derived.Test.YtohlmmpchllelaaGreatDoorFnExprRoundPua
import Derived.Test.YtohlmmpchllelaaGreatDoorCards
import Derived.Test.YtohlmmpchllelaaGreatDoorTie
import Derived.SevenTiedAt
import Derived.ProofKit
import Derived.Lay
import Derived.LaidMore
import Derived.LaidHandle
import Derived.OpenShut
import Derived.Stop.Joined
set_option linter.all false
set_option linter.unusedVariables false
set_option linter.unusedSimpArgs false
namespace Go.Dv.U

open Go Go.Dv Go.Proofs

theorem pure_law (us : List (V GG.S)) (h : Leaves GG [(.sl (.int .u8))] us) (hw : ∀ k, ∀ u ∈ us, WfV GG k u) : Fn CC 3 [.bool] us = some true := by
  obtain ⟨x0, us, rfl, h0⟩ := lvs_cons h
  cases lvs_nil h0
  have e : Fn CC 3 [.bool] [inj GG (.sl (.int .u8)) x0] = l_FnExprRound x0 := by kernel_rfl
  rw [e]
  exact l_FnExprRound_ok (BytesOk.of fun k => hw k _ (by simp))

end Go.Dv.U

namespace Go.Proofs.YtohlmmpchllelaaGreatDoor

open Go.ChangeShapes Go.WideShapes Go.ChangeAt Go.RowKit Go.Dv Go.Dv.U

theorem law_own : ownKnob Tryz.prog.godebug = none := by kernel_rfl

theorem law_laidOut : laidOutB Tryz.prog = true := by kernel_rfl

theorem door_met (os : Os) (args : Array Value) : laidMetH Tryz.prog Rows.fnExprRoundRow.laid ((World.laidAll Tryz.prog os Rows.fnExprRoundRow.laid).forCall (fun _ _ => 0) ⟨#[], args, []⟩).memory := by
  rw [MakeChecks.laidMetH_plain _ _ _ (by kernel_rfl)]
  exact laidMet_laidAll _ (by kernel_rfl) (by kernel_rfl)

theorem glob_of {W : World} (h : laidMetH Tryz.prog Rows.fnExprRoundRow.laid W) (hs : W.ShapedOpen Tryz.prog) : GlobX CC W (okOld W) := by
  rw [MakeChecks.laidMetH_plain _ _ _ (by kernel_rfl)] at h
  refine ⟨⟨fun g cs h => (by cases h), fun g hg => ?_, fun g hg => ?_⟩, fun g cs hg => ?_⟩
  · obtain rfl : g = 0 := by simpa [CC] using hg
    exact int_cell (cell_of_shapedOpen_int hs (of_decide_eq_true (by kernel_rfl)) (t := 3) (zero := #[.int .i64 0]) (by kernel_rfl) rfl (by kernel_rfl) (by kernel_rfl) (by kernel_rfl))
  · cases hg
  · simp only [CC] at hg
    split at hg
    · have hg := Option.some.inj hg
      subst hg
      exact block_of_tab (name := "internal/strconv.uint64pow10") (by kernel_rfl) (Lib.tabIs_of_head (g := 1) (t := 123) (e := 46) (n := 20) (by kernel_rfl) (by kernel_rfl) (by kernel_rfl) (by kernel_rfl) (by kernel_rfl) (by kernel_rfl) (laidMet.tail (laidMet.tail h)))
    · cases hg

set_option maxRecDepth 100000 in
theorem law_lifted (os : Os) (started : os.Started) (H : Type) (enc : TypeId × Value → H) :
    ReturnsInHanded {} Tryz.checked os 3 .any (fun w args => (Rows.fnExprRoundSpec.pre enc Tryz.prog Tryz.f3 Rows.fnExprRoundRow.domain false w args ∧ laidMetH Tryz.prog Rows.fnExprRoundRow.laid w) ∧ sizedMet enc Tryz.prog Tryz.f3 (OpenSpec.ofChange Rows.fnExprRoundSpec) false w args)
      (Rows.fnExprRoundSpec.post enc Tryz.prog Tryz.f3 false true false false) := by
  refine returns_and_shaped (C := Tryz.checked) (X := fun w _ => laidMetH Tryz.prog Rows.fnExprRoundRow.laid w) (fun _ _ _ hh h => h.of_heap hh) law_own started (by kernel_rfl) Tryz.func3
    (ChangeSpec.witness_shaped (enc := enc) (C := Tryz.checked) (os := os) (X := fun w _ => laidMetH Tryz.prog Rows.fnExprRoundRow.laid w) false (World.laidAll Tryz.prog os Rows.fnExprRoundRow.laid) #[.slice none 0 0] 12 (World.laidAll_os _ _ _) (World.shaped_of_ZipB (by kernel_rfl) (by kernel_rfl)) (by kernel_rfl) (by kernel_rfl) (by kernel_rfl) (door_met os _)) ?_
  intro W base args ds gs before hval hW hL hsh
  exact row_calls (C := CC) GG.ok CC.ext OO.ok rfl (fn := Tryz.f3) Tryz.func3 rfl (tys := [(.sl (.int .u8))]) (by kernel_rfl) (le_of_b (by kernel_rfl)) (tb := _) rfl (by kernel_rfl) law_laidOut (rd_of_b (by kernel_rfl)) rfl
    (fun H ds hd => by
      match ds, hd with
      | [d0], _ => rfl) pure_law W base args ds gs before (glob_of hL hsh) hval hW

theorem and_t {a b : Bool} (h : a = true) (k : b = true) : (a && b) = true := by rw [h, k]; rfl

theorem j0 : (Rows.fnExprRoundRow.wf (OpenSpec.ofChange Rows.fnExprRoundSpec)) = true := by kernel_rfl

theorem j1 : (laidOutB Tryz.prog) = true := by kernel_rfl

theorem j2 : (mapsRowed Tryz.prog) = true := by kernel_rfl

theorem j3 : (Tryz.f3.params.all (Tryz.prog.readableRec ·)) = true := by kernel_rfl

theorem j4 : (namedTie Tryz.prog Rows.fnExprRoundRow.named Rows.fnExprRoundSpec.vars) = true := by kernel_rfl

theorem j5 : (Rows.fnExprRoundRow.stops == []) = true := by kernel_rfl

theorem j6 : (Tryz.prog.stops == []) = true := by kernel_rfl

theorem j7 : (Rows.fnExprRoundRow.knobs == []) = true := by kernel_rfl

theorem j8 : (Tryz.prog.stopKnobs == []) = true := by kernel_rfl

theorem j9 : (Rows.fnExprRoundRow.inPlace == Tryz.prog.inPlace 3) = true := by kernel_rfl

theorem j10 : (Rows.fnExprRoundRow.unfollowed == Tryz.prog.unfollowed 3) = true := by kernel_rfl

theorem j11 : (Rows.fnExprRoundRow.recurses == Tryz.prog.recurses 3) = true := by kernel_rfl

theorem j12 : (Rows.fnExprRoundRow.named == Tryz.prog.varsNamed 3) = true := by kernel_rfl

theorem j13 : (Rows.fnExprRoundRow.maps == (Tryz.f3.params.toList ++ Rows.fnExprRoundSpec.plain.varTypes Tryz.prog).any (Tryz.prog.mapsRec ·)) = true := by kernel_rfl

theorem j14 : (Rows.fnExprRoundRow.ifaces == (Tryz.f3.params.toList ++ Rows.fnExprRoundSpec.plain.varTypes Tryz.prog).any (Tryz.prog.ifacesRec ·)) = true := by kernel_rfl

theorem j15 : (Rows.fnExprRoundRow.mapsOut == Tryz.prog.mapsAmong Tryz.f3.resultTypes.toList) = true := by kernel_rfl

theorem j16 : (Rows.fnExprRoundRow.loops == (Tryz.f3.params.toList ++ Rows.fnExprRoundSpec.plain.varTypes Tryz.prog).any (Tryz.prog.loopsFrom ·)) = true := by kernel_rfl

theorem j17 : (Rows.fnExprRoundRow.wideKeys == (Tryz.f3.params.toList ++ Rows.fnExprRoundSpec.plain.varTypes Tryz.prog ++ Tryz.f3.resultTypes.toList).any (Tryz.prog.wideKeysFrom ·)) = true := by kernel_rfl

theorem j18 : (Rows.fnExprRoundSpec.vars.all (Tryz.prog.varReadable ·)) = true := by kernel_rfl

theorem j19 : (Tryz.f3.resultTypes.all (fun t => Tryz.prog.readableRec t && decide (t < Tryz.prog.types.size))) = true := by kernel_rfl

theorem j20 : (Rows.fnExprRoundRow.ifacesOut == Tryz.f3.resultTypes.toList.any (Tryz.prog.ifacesRec ·)) = true := by kernel_rfl

theorem j21 : (Rows.fnExprRoundRow.loopsOut == Tryz.f3.resultTypes.toList.any (Tryz.prog.loopsFrom ·)) = true := by kernel_rfl

theorem j22 : (Rows.fnExprRoundRow.plainKeys == Tryz.prog.plainKeys) = true := by kernel_rfl

theorem j23 : (Rows.fnExprRoundRow.shortTexts.isNone) = true := by kernel_rfl

theorem j24 : (Tryz.prog.stopsHeard) = true := by kernel_rfl

theorem j25 : (Tryz.prog.mayEnter) = true := by kernel_rfl

theorem j26 : (Rows.fnExprRoundRow.lifted == Tryz.prog.liftsFinal) = true := by kernel_rfl

theorem j27 : (Tryz.prog.make == some Rows.fnExprRoundRow.make) = true := by kernel_rfl

theorem j28 : (Rows.fnExprRoundRow.kinds == (if Rows.fnExprRoundRow.domain.isEmpty then [] else Tryz.f3.params.toList.map fun t => match Tryz.prog.underlying t with | some (.int k) => some k | _ => none)) = true := by kernel_rfl

theorem j29 : (Rows.fnExprRoundRow.pinned == Rows.fnExprRoundRow.pinnedBy) = true := by kernel_rfl

theorem j30 : (Rows.fnExprRoundRow.veiled == (Tryz.f3.params.toList ++ Rows.fnExprRoundSpec.plain.varTypes Tryz.prog ++ Tryz.f3.resultTypes.toList).any (Tryz.prog.veiledRec ·)) = true := by kernel_rfl

theorem j31 : (Rows.fnExprRoundRow.veiledFits Tryz.prog Tryz.f3.params.toList (Tryz.f3.params.toList ++ Rows.fnExprRoundSpec.plain.varTypes Tryz.prog ++ Tryz.f3.resultTypes.toList)) = true := by kernel_rfl

set_option maxRecDepth 100000 in
theorem law_joined : joinedFacts Tryz.prog 3 Tryz.f3 Rows.fnExprRoundSpec Rows.fnExprRoundRow = true :=
  and_t (and_t (and_t (and_t (and_t (and_t (and_t (and_t (and_t (and_t (and_t (and_t (and_t (and_t (and_t (and_t (and_t (and_t (and_t (and_t (and_t (and_t (and_t (and_t (and_t (and_t (and_t (and_t (and_t (and_t (and_t j0 j1) j2) j3) j4) j5) j6) j7) j8) j9) j10) j11) j12) j13) j14) j15) j16) j17) j18) j19) j20) j21) j22) j23) j24) j25) j26) j27) j28) j29) j30) j31

theorem law_named : Tryz.prog.funcNamed Rows.fnExprRoundRow.func = some 3 := by kernel_rfl

theorem law_origin : Tryz.f3.isInstance Tryz.prog Rows.fnExprRoundRow.origin Rows.fnExprRoundRow.targs := of_decide_eq_true (by kernel_rfl)

theorem law_wrapper : Tryz.f3.isWrapper Tryz.prog Rows.fnExprRoundRow.wrapper Rows.fnExprRoundRow.mainSum := by unfold Func.isWrapper; first | (rw [if_pos (by decide +kernel)]; kernel_rfl) | (rw [if_neg (by decide +kernel)]; exact ⟨rfl, rfl⟩)

theorem FnExprRound_holds : Rows.FnExprRoundSaid :=
  OpenClaim.holds_of_wide 3 Tryz.f3 rfl rfl rfl rfl rfl rfl rfl ⟨rfl, rfl, rfl, rfl, rfl⟩ rfl rfl rfl rfl rfl law_named Tryz.func3 law_joined
    law_origin law_wrapper
    (fun os started H enc _ => law_lifted os started H enc)

theorem law_text : Rows.fnExprRoundRow.wfByText (OpenSpec.ofChange Rows.fnExprRoundSpec) = true := by kernel_rfl

theorem law_main : Tryz.prog.mainIs = some (true, "8603e53765cac34bdbdaf093baa8b209e6d9847ab507950a98bf16c4fd885dab".toList) := by kernel_rfl

theorem law_looks : true = Tryz.prog.looks [] := by kernel_rfl

theorem law_stand : (Tryz.f3.params.toList.all fun u => !Tryz.prog.wantsStandIn u) = true := by kernel_rfl

theorem law_goes : false = Rows.fnExprRoundRow.goesBy Tryz.prog := by kernel_rfl

theorem FnExprRoundCard_holds : Rows.FnExprRoundCardSaid :=
  Claim7.holds_tied_plain_at .later [] [.data, .data, .data, .sentinel, .sentinel] true (true, "8603e53765cac34bdbdaf093baa8b209e6d9847ab507950a98bf16c4fd885dab") true
    FnExprRound_holds (fun _ h => by cases h) law_text (fun _ h => by cases h) fnExprRound_row_tie rfl ⟨rfl, rfl⟩ law_main rfl
    (fun f fn hf hfn => by
      obtain rfl : f = 3 := Option.some.inj (law_named.symm.trans hf) |>.symm
      obtain rfl : fn = Tryz.f3 := (Option.some.inj (Tryz.func3.symm.trans hfn)).symm
      exact ⟨law_looks, fun j t ht => by
        have hm : t ∈ Tryz.f3.params.toList := by simpa using Array.mem_of_getElem? ht
        exact (show Tryz.prog.wantsStandIn t = false by simpa using List.all_eq_true.1 law_stand t hm)⟩)
    law_goes

end Go.Proofs.YtohlmmpchllelaaGreatDoor
