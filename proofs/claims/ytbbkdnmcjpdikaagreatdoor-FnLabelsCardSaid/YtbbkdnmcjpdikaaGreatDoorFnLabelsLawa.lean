/- The law FnLabels: it answers true at every input that can be read, and its arguments read as before; nothing else is asked. -/
import Derived.Test.YtbbkdnmcjpdikaaGreatDoorFnLabelsPua
import Derived.Test.YtbbkdnmcjpdikaaGreatDoorCards
import Derived.Test.YtbbkdnmcjpdikaaGreatDoorTie
import Derived.SevenTiedAt
import Derived.ProofKit
import Derived.Lay
import Derived.LaidMore
import Derived.LaidHandle
import Derived.OpenShut
import Derived.Stop.Joined
set_option linter.all false
set_option linter.unusedVariables false
set_option linter.unusedSimpArgs false
namespace Go.Dv.U

open Go Go.Dv Go.Proofs

theorem pure_law (us : List (V GG.S)) (h : Leaves GG [(.sl (.int .u8))] us) (hw : ∀ k, ∀ u ∈ us, WfV GG k u) : Fn CC 8 [.bool] us = some true := by
  obtain ⟨x0, us, rfl, h0⟩ := lvs_cons h
  cases lvs_nil h0
  have e : Fn CC 8 [.bool] [inj GG (.sl (.int .u8)) x0] = l_FnLabels x0 := by kernel_rfl
  rw [e]
  exact l_FnLabels_ok (BytesOk.of fun k => hw k _ (by simp))

end Go.Dv.U

namespace Go.Proofs.YtbbkdnmcjpdikaaGreatDoor

open Go.ChangeShapes Go.WideShapes Go.ChangeAt Go.RowKit Go.Dv Go.Dv.U

theorem law_own : ownKnob Tryz.prog.godebug = none := by kernel_rfl

theorem law_laidOut : laidOutB Tryz.prog = true := by kernel_rfl

theorem door_met (os : Os) (args : Array Value) : laidMetH Tryz.prog Rows.fnLabelsRow.laid ((World.laidAll Tryz.prog os Rows.fnLabelsRow.laid).forCall (fun _ _ => 0) ⟨#[], args, []⟩).memory := by
  rw [MakeChecks.laidMetH_plain _ _ _ (by kernel_rfl)]
  exact laidMet_laidAll _ (by kernel_rfl) (by kernel_rfl)

theorem glob_of {W : World} (h : laidMetH Tryz.prog Rows.fnLabelsRow.laid W) (hs : W.ShapedOpen Tryz.prog) : GlobX CC W (okOld W) := by
  rw [MakeChecks.laidMetH_plain _ _ _ (by kernel_rfl)] at h
  refine ⟨⟨fun g cs h => (by cases h), fun g hg => ?_, fun g hg => ?_⟩, fun g cs hg => ?_⟩
  · obtain rfl : g = 0 := by simpa [CC] using hg
    exact int_cell (cell_of_shapedOpen_int hs (of_decide_eq_true (by kernel_rfl)) (t := 3) (zero := #[.int .i64 0]) (by kernel_rfl) rfl (by kernel_rfl) (by kernel_rfl) (by kernel_rfl))
  · cases hg
  · simp only [CC] at hg
    split at hg
    · have hg := Option.some.inj hg
      subst hg
      exact block_of_tab (name := "internal/strconv.uint64pow10") (by kernel_rfl) (Lib.tabIs_of_head (g := 1) (t := 234) (e := 108) (n := 20) (by kernel_rfl) (by kernel_rfl) (by kernel_rfl) (by kernel_rfl) (by kernel_rfl) (by kernel_rfl) (laidMet.tail (laidMet.tail h)))
    · cases hg

set_option maxRecDepth 100000 in
theorem law_lifted (os : Os) (started : os.Started) (H : Type) (enc : TypeId × Value → H) :
    ReturnsInHanded {} Tryz.checked os 8 .any (fun w args => (Rows.fnLabelsSpec.pre enc Tryz.prog Tryz.f8 Rows.fnLabelsRow.domain false w args ∧ laidMetH Tryz.prog Rows.fnLabelsRow.laid w) ∧ sizedMet enc Tryz.prog Tryz.f8 (OpenSpec.ofChange Rows.fnLabelsSpec) false w args)
      (Rows.fnLabelsSpec.post enc Tryz.prog Tryz.f8 false true false false) := by
  refine returns_and_shaped (C := Tryz.checked) (X := fun w _ => laidMetH Tryz.prog Rows.fnLabelsRow.laid w) (fun _ _ _ hh h => h.of_heap hh) law_own started (by kernel_rfl) Tryz.func8
    (ChangeSpec.witness_shaped (enc := enc) (C := Tryz.checked) (os := os) (X := fun w _ => laidMetH Tryz.prog Rows.fnLabelsRow.laid w) false (World.laidAll Tryz.prog os Rows.fnLabelsRow.laid) #[.slice none 0 0] 12 (World.laidAll_os _ _ _) (World.shaped_of_ZipB (by kernel_rfl) (by kernel_rfl)) (by kernel_rfl) (by kernel_rfl) (by kernel_rfl) (door_met os _)) ?_
  intro W base args ds gs before hval hW hL hsh
  exact row_calls (C := CC) GG.ok CC.ext OO.ok rfl (fn := Tryz.f8) Tryz.func8 rfl (tys := [(.sl (.int .u8))]) (by kernel_rfl) (le_of_b (by kernel_rfl)) (tb := _) rfl (by kernel_rfl) law_laidOut (rd_of_b (by kernel_rfl)) rfl
    (fun H ds hd => by
      match ds, hd with
      | [d0], _ => rfl) pure_law W base args ds gs before (glob_of hL hsh) hval hW

theorem and_t {a b : Bool} (h : a = true) (k : b = true) : (a && b) = true := by rw [h, k]; rfl

theorem j0 : (Rows.fnLabelsRow.wf (OpenSpec.ofChange Rows.fnLabelsSpec)) = true := by kernel_rfl

theorem j1 : (laidOutB Tryz.prog) = true := by kernel_rfl

theorem j2 : (mapsRowed Tryz.prog) = true := by kernel_rfl

theorem j3 : (Tryz.f8.params.all (Tryz.prog.readableRec ·)) = true := by kernel_rfl

theorem j4 : (namedTie Tryz.prog Rows.fnLabelsRow.named Rows.fnLabelsSpec.vars) = true := by kernel_rfl

theorem j5 : (Rows.fnLabelsRow.stops == []) = true := by kernel_rfl

theorem j6 : (Tryz.prog.stops == []) = true := by kernel_rfl

theorem j7 : (Rows.fnLabelsRow.knobs == []) = true := by kernel_rfl

theorem j8 : (Tryz.prog.stopKnobs == []) = true := by kernel_rfl

theorem j9 : (Rows.fnLabelsRow.inPlace == Tryz.prog.inPlace 8) = true := by kernel_rfl

theorem j10 : (Rows.fnLabelsRow.unfollowed == Tryz.prog.unfollowed 8) = true := by kernel_rfl

theorem j11 : (Rows.fnLabelsRow.recurses == Tryz.prog.recurses 8) = true := by kernel_rfl

theorem j12 : (Rows.fnLabelsRow.named == Tryz.prog.varsNamed 8) = true := by kernel_rfl

theorem j13 : (Rows.fnLabelsRow.maps == (Tryz.f8.params.toList ++ Rows.fnLabelsSpec.plain.varTypes Tryz.prog).any (Tryz.prog.mapsRec ·)) = true := by kernel_rfl

theorem j14 : (Rows.fnLabelsRow.ifaces == (Tryz.f8.params.toList ++ Rows.fnLabelsSpec.plain.varTypes Tryz.prog).any (Tryz.prog.ifacesRec ·)) = true := by kernel_rfl

theorem j15 : (Rows.fnLabelsRow.mapsOut == Tryz.prog.mapsAmong Tryz.f8.resultTypes.toList) = true := by kernel_rfl

theorem j16 : (Rows.fnLabelsRow.loops == (Tryz.f8.params.toList ++ Rows.fnLabelsSpec.plain.varTypes Tryz.prog).any (Tryz.prog.loopsFrom ·)) = true := by kernel_rfl

theorem j17 : (Rows.fnLabelsRow.wideKeys == (Tryz.f8.params.toList ++ Rows.fnLabelsSpec.plain.varTypes Tryz.prog ++ Tryz.f8.resultTypes.toList).any (Tryz.prog.wideKeysFrom ·)) = true := by kernel_rfl

theorem j18 : (Rows.fnLabelsSpec.vars.all (Tryz.prog.varReadable ·)) = true := by kernel_rfl

theorem j19 : (Tryz.f8.resultTypes.all (fun t => Tryz.prog.readableRec t && decide (t < Tryz.prog.types.size))) = true := by kernel_rfl

theorem j20 : (Rows.fnLabelsRow.ifacesOut == Tryz.f8.resultTypes.toList.any (Tryz.prog.ifacesRec ·)) = true := by kernel_rfl

theorem j21 : (Rows.fnLabelsRow.loopsOut == Tryz.f8.resultTypes.toList.any (Tryz.prog.loopsFrom ·)) = true := by kernel_rfl

theorem j22 : (Rows.fnLabelsRow.plainKeys == Tryz.prog.plainKeys) = true := by kernel_rfl

theorem j23 : (Rows.fnLabelsRow.shortTexts.isNone) = true := by kernel_rfl

theorem j24 : (Tryz.prog.stopsHeard) = true := by kernel_rfl

theorem j25 : (Tryz.prog.mayEnter) = true := by kernel_rfl

theorem j26 : (Rows.fnLabelsRow.lifted == Tryz.prog.liftsFinal) = true := by kernel_rfl

theorem j27 : (Tryz.prog.make == some Rows.fnLabelsRow.make) = true := by kernel_rfl

theorem j28 : (Rows.fnLabelsRow.kinds == (if Rows.fnLabelsRow.domain.isEmpty then [] else Tryz.f8.params.toList.map fun t => match Tryz.prog.underlying t with | some (.int k) => some k | _ => none)) = true := by kernel_rfl

theorem j29 : (Rows.fnLabelsRow.pinned == Rows.fnLabelsRow.pinnedBy) = true := by kernel_rfl

theorem j30 : (Rows.fnLabelsRow.veiled == (Tryz.f8.params.toList ++ Rows.fnLabelsSpec.plain.varTypes Tryz.prog ++ Tryz.f8.resultTypes.toList).any (Tryz.prog.veiledRec ·)) = true := by kernel_rfl

theorem j31 : (Rows.fnLabelsRow.veiledFits Tryz.prog Tryz.f8.params.toList (Tryz.f8.params.toList ++ Rows.fnLabelsSpec.plain.varTypes Tryz.prog ++ Tryz.f8.resultTypes.toList)) = true := by kernel_rfl

set_option maxRecDepth 100000 in
theorem law_joined : joinedFacts Tryz.prog 8 Tryz.f8 Rows.fnLabelsSpec Rows.fnLabelsRow = true :=
  and_t (and_t (and_t (and_t (and_t (and_t (and_t (and_t (and_t (and_t (and_t (and_t (and_t (and_t (and_t (and_t (and_t (and_t (and_t (and_t (and_t (and_t (and_t (and_t (and_t (and_t (and_t (and_t (and_t (and_t (and_t j0 j1) j2) j3) j4) j5) j6) j7) j8) j9) j10) j11) j12) j13) j14) j15) j16) j17) j18) j19) j20) j21) j22) j23) j24) j25) j26) j27) j28) j29) j30) j31

theorem law_named : Tryz.prog.funcNamed Rows.fnLabelsRow.func = some 8 := by kernel_rfl

theorem law_origin : Tryz.f8.isInstance Tryz.prog Rows.fnLabelsRow.origin Rows.fnLabelsRow.targs := of_decide_eq_true (by kernel_rfl)

theorem law_wrapper : Tryz.f8.isWrapper Tryz.prog Rows.fnLabelsRow.wrapper Rows.fnLabelsRow.mainSum := by unfold Func.isWrapper; first | (rw [if_pos (by decide +kernel)]; kernel_rfl) | (rw [if_neg (by decide +kernel)]; exact ⟨rfl, rfl⟩)

theorem FnLabels_holds : Rows.FnLabelsSaid :=
  OpenClaim.holds_of_wide 8 Tryz.f8 rfl rfl rfl rfl rfl rfl rfl ⟨rfl, rfl, rfl, rfl, rfl⟩ rfl rfl rfl rfl rfl law_named Tryz.func8 law_joined
    law_origin law_wrapper
    (fun os started H enc _ => law_lifted os started H enc)

theorem law_text : Rows.fnLabelsRow.wfByText (OpenSpec.ofChange Rows.fnLabelsSpec) = true := by kernel_rfl

theorem law_main : Tryz.prog.mainIs = some (true, "339c3f55fa67c72c1f68b342c7e30cf9efd981c94e49dec28f4e2bf69fa84ecf".toList) := by kernel_rfl

theorem law_looks : true = Tryz.prog.looks [] := by kernel_rfl

theorem law_stand : (Tryz.f8.params.toList.all fun u => !Tryz.prog.wantsStandIn u) = true := by kernel_rfl

theorem law_goes : false = Rows.fnLabelsRow.goesBy Tryz.prog := by kernel_rfl

theorem FnLabelsCard_holds : Rows.FnLabelsCardSaid :=
  Claim7.holds_tied_plain_at .later [] [.data, .data, .data, .sentinel, .sentinel] true (true, "339c3f55fa67c72c1f68b342c7e30cf9efd981c94e49dec28f4e2bf69fa84ecf") true
    FnLabels_holds (fun _ h => by cases h) law_text (fun _ h => by cases h) fnLabels_row_tie rfl ⟨rfl, rfl⟩ law_main rfl
    (fun f fn hf hfn => by
      obtain rfl : f = 8 := Option.some.inj (law_named.symm.trans hf) |>.symm
      obtain rfl : fn = Tryz.f8 := (Option.some.inj (Tryz.func8.symm.trans hfn)).symm
      exact ⟨law_looks, fun j t ht => by
        have hm : t ∈ Tryz.f8.params.toList := by simpa using Array.mem_of_getElem? ht
        exact (show Tryz.prog.wantsStandIn t = false by simpa using List.all_eq_true.1 law_stand t hm)⟩)
    law_goes

end Go.Proofs.YtbbkdnmcjpdikaaGreatDoor
