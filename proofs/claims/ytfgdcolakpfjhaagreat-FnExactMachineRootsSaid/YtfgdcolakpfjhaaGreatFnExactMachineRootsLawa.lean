/- The law FnExactMachineRoots: it answers true at every input that can be read, and its arguments read as before; nothing else is asked. -/
import Derived.Test.YtfgdcolakpfjhaaGreatFnExactMachineRootsPua
import Derived.Test.YtfgdcolakpfjhaaGreatRows
set_option linter.all false
set_option linter.unusedVariables false
set_option linter.unusedSimpArgs false
namespace Go.Dv.U

open Go Go.Dv Go.Proofs

theorem pure_law (us : List (V GG.S)) (h : Leaves GG [(.st 95)] us) (hw : ∀ k, ∀ u ∈ us, WfV GG k u) : Fn CC 7 [.bool] us = some true := by
  obtain ⟨x0, us, rfl, h0⟩ := lvs_cons h
  cases lvs_nil h0
  have e : Fn CC 7 [.bool] [inj GG (.st 95) x0] = l_FnExactMachineRoots x0 := by kernel_rfl
  rw [e]
  exact l_FnExactMachineRoots_ok (TMachine.ok_of fun k => hw k _ (by simp))

end Go.Dv.U

namespace Go.Proofs.YtfgdcolakpfjhaaGreat

open Go.ChangeShapes Go.WideShapes Go.ChangeAt Go.RowKit Go.Dv Go.Dv.U

theorem law_own : ownKnob Tryz.prog.godebug = none := by kernel_rfl

theorem law_laidOut : laidOutB Tryz.prog = true := by kernel_rfl

set_option maxRecDepth 100000 in
theorem law_lifted (os : Os) (started : os.Started) (H : Type) (enc : TypeId × Value → H) :
    ReturnsInHanded {} Tryz.checked os 7 .any (Rows.fnExactMachineRootsSpec.pre6 enc Tryz.prog Tryz.f7 Rows.fnExactMachineRootsRow.domain false) (Rows.fnExactMachineRootsSpec.post enc Tryz.prog Tryz.f7 false true false false) := by
  refine returnsInHanded_of_change (C := Tryz.checked) law_own started (by kernel_rfl) Tryz.func7
    (ChangeSpec.witness6 (enc := enc) (C := Tryz.checked) false ⟨#[], #[.agg #[.int .i64 0, .int .i64 0, .int .i64 0, .slice none 0 0, .slice none 0 0, .slice none 0 0, .slice none 0 0, .slice none 0 0, .int .i64 0, .slice none 0 0, .slice none 0 0, .slice none 0 0, .slice none 0 0, .slice none 0 0, .int .i64 0, .int .i64 0, .int .i64 0, .int .i64 0, .int .i64 0]], []⟩ 12 (by kernel_rfl) (by kernel_rfl) (by kernel_rfl) (by kernel_rfl)) ?_
  intro W base args ds gs before hval hW _ _
  exact row_calls (C := CC) GG.ok CC.ext OO.ok rfl (fn := Tryz.f7) Tryz.func7 rfl (tys := [(.st 95)]) (by kernel_rfl) (le_of_b (by kernel_rfl)) (tb := _) rfl (by kernel_rfl) law_laidOut (rd_of_b (by kernel_rfl)) rfl
    (fun H ds hd => by
      match ds, hd with
      | [d0], _ => rfl) pure_law W base args ds gs before ⟨⟨fun g cs h => (by cases h), fun g h => (by cases h), fun g h => (by cases h)⟩, fun g cs h => (by cases h)⟩ hval hW

theorem and_t {a b : Bool} (h : a = true) (k : b = true) : (a && b) = true := by rw [h, k]; rfl

theorem j0 : (Rows.fnExactMachineRootsRow.wf (OpenSpec.ofChange Rows.fnExactMachineRootsSpec)) = true := by kernel_rfl

theorem j1 : (laidOutB Tryz.prog) = true := by kernel_rfl

theorem j2 : (mapsRowed Tryz.prog) = true := by kernel_rfl

theorem j3 : (Tryz.f7.params.all (Tryz.prog.readableRec ·)) = true := by kernel_rfl

theorem j4 : (namedTie Tryz.prog Rows.fnExactMachineRootsRow.named Rows.fnExactMachineRootsSpec.vars) = true := by kernel_rfl

theorem j5 : (Rows.fnExactMachineRootsRow.stops == []) = true := by kernel_rfl

theorem j6 : (Tryz.prog.stops == []) = true := by kernel_rfl

theorem j7 : (Rows.fnExactMachineRootsRow.knobs == []) = true := by kernel_rfl

theorem j8 : (Tryz.prog.stopKnobs == []) = true := by kernel_rfl

theorem j9 : (Rows.fnExactMachineRootsRow.inPlace == Tryz.prog.inPlace 7) = true := by kernel_rfl

theorem j10 : (Rows.fnExactMachineRootsRow.unfollowed == Tryz.prog.unfollowed 7) = true := by kernel_rfl

theorem j11 : (Rows.fnExactMachineRootsRow.recurses == Tryz.prog.recurses 7) = true := by kernel_rfl

theorem j12 : (Rows.fnExactMachineRootsRow.named == Tryz.prog.varsNamed 7) = true := by kernel_rfl

theorem j13 : (Rows.fnExactMachineRootsRow.maps == (Tryz.f7.params.toList ++ Rows.fnExactMachineRootsSpec.plain.varTypes Tryz.prog).any (Tryz.prog.mapsRec ·)) = true := by kernel_rfl

theorem j14 : (Rows.fnExactMachineRootsRow.ifaces == (Tryz.f7.params.toList ++ Rows.fnExactMachineRootsSpec.plain.varTypes Tryz.prog).any (Tryz.prog.ifacesRec ·)) = true := by kernel_rfl

theorem j15 : (Rows.fnExactMachineRootsRow.mapsOut == Tryz.prog.mapsAmong Tryz.f7.resultTypes.toList) = true := by kernel_rfl

theorem j16 : (Rows.fnExactMachineRootsRow.loops == (Tryz.f7.params.toList ++ Rows.fnExactMachineRootsSpec.plain.varTypes Tryz.prog).any (Tryz.prog.loopsFrom ·)) = true := by kernel_rfl

theorem j17 : (Rows.fnExactMachineRootsRow.wideKeys == (Tryz.f7.params.toList ++ Rows.fnExactMachineRootsSpec.plain.varTypes Tryz.prog ++ Tryz.f7.resultTypes.toList).any (Tryz.prog.wideKeysFrom ·)) = true := by kernel_rfl

theorem j18 : (Rows.fnExactMachineRootsSpec.vars.all (Tryz.prog.varReadable ·)) = true := by kernel_rfl

theorem j19 : (Tryz.f7.resultTypes.all (fun t => Tryz.prog.readableRec t && decide (t < Tryz.prog.types.size))) = true := by kernel_rfl

theorem j20 : (Rows.fnExactMachineRootsRow.ifacesOut == Tryz.f7.resultTypes.toList.any (Tryz.prog.ifacesRec ·)) = true := by kernel_rfl

theorem j21 : (Rows.fnExactMachineRootsRow.loopsOut == Tryz.f7.resultTypes.toList.any (Tryz.prog.loopsFrom ·)) = true := by kernel_rfl

theorem j22 : (Rows.fnExactMachineRootsRow.plainKeys == Tryz.prog.plainKeys) = true := by kernel_rfl

theorem j23 : (Rows.fnExactMachineRootsRow.shortTexts.isNone) = true := by kernel_rfl

theorem j24 : (Tryz.prog.stopsHeard) = true := by kernel_rfl

theorem j25 : (Tryz.prog.mayEnter) = true := by kernel_rfl

theorem j26 : (Rows.fnExactMachineRootsRow.lifted == Tryz.prog.liftsFinal) = true := by kernel_rfl

theorem j27 : (Tryz.prog.make == some Rows.fnExactMachineRootsRow.make) = true := by kernel_rfl

theorem j28 : (Rows.fnExactMachineRootsRow.kinds == (if Rows.fnExactMachineRootsRow.domain.isEmpty then [] else Tryz.f7.params.toList.map fun t => match Tryz.prog.underlying t with | some (.int k) => some k | _ => none)) = true := by kernel_rfl

theorem j29 : (Rows.fnExactMachineRootsRow.pinned == Rows.fnExactMachineRootsRow.pinnedBy) = true := by kernel_rfl

theorem j30 : (Rows.fnExactMachineRootsRow.veiled == (Tryz.f7.params.toList ++ Rows.fnExactMachineRootsSpec.plain.varTypes Tryz.prog ++ Tryz.f7.resultTypes.toList).any (Tryz.prog.veiledRec ·)) = true := by kernel_rfl

theorem j31 : (Rows.fnExactMachineRootsRow.veiledFits Tryz.prog Tryz.f7.params.toList (Tryz.f7.params.toList ++ Rows.fnExactMachineRootsSpec.plain.varTypes Tryz.prog ++ Tryz.f7.resultTypes.toList)) = true := by kernel_rfl

set_option maxRecDepth 100000 in
theorem law_joined : joinedFacts Tryz.prog 7 Tryz.f7 Rows.fnExactMachineRootsSpec Rows.fnExactMachineRootsRow = true :=
  and_t (and_t (and_t (and_t (and_t (and_t (and_t (and_t (and_t (and_t (and_t (and_t (and_t (and_t (and_t (and_t (and_t (and_t (and_t (and_t (and_t (and_t (and_t (and_t (and_t (and_t (and_t (and_t (and_t (and_t (and_t j0 j1) j2) j3) j4) j5) j6) j7) j8) j9) j10) j11) j12) j13) j14) j15) j16) j17) j18) j19) j20) j21) j22) j23) j24) j25) j26) j27) j28) j29) j30) j31

theorem law_named : Tryz.prog.funcNamed Rows.fnExactMachineRootsRow.func = some 7 := by kernel_rfl

theorem law_origin : Tryz.f7.isInstance Tryz.prog Rows.fnExactMachineRootsRow.origin Rows.fnExactMachineRootsRow.targs := of_decide_eq_true (by kernel_rfl)

theorem law_wrapper : Tryz.f7.isWrapper Tryz.prog Rows.fnExactMachineRootsRow.wrapper Rows.fnExactMachineRootsRow.mainSum := by unfold Func.isWrapper; first | (rw [if_pos (by decide +kernel)]; kernel_rfl) | (rw [if_neg (by decide +kernel)]; exact ⟨rfl, rfl⟩)

theorem FnExactMachineRoots_holds : Rows.FnExactMachineRootsSaid :=
  OpenClaim.holds_of_wide 7 Tryz.f7 rfl rfl rfl rfl rfl rfl rfl ⟨rfl, rfl, rfl, rfl, rfl⟩ rfl rfl rfl rfl rfl law_named Tryz.func7 law_joined
    law_origin law_wrapper
    (fun os started H enc _ => law_lifted os started H enc)

end Go.Proofs.YtfgdcolakpfjhaaGreat
