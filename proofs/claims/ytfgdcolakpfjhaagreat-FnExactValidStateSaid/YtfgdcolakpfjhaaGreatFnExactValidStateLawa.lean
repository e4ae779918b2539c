/- The law FnExactValidState: it answers true at every input that can be read, and its arguments read as before; nothing else is asked. -/
import Derived.Test.YtfgdcolakpfjhaaGreatFnExactValidStatePua
import Derived.Test.YtfgdcolakpfjhaaGreatRows
set_option linter.all false
set_option linter.unusedVariables false
set_option linter.unusedSimpArgs false
namespace Go.Dv.U

open Go Go.Dv Go.Proofs

theorem pure_law (us : List (V GG.S)) (h : Leaves GG [(.st 27), (.st 32), (.st 36)] us) (hw : ∀ k, ∀ u ∈ us, WfV GG k u) : Fn CC 3 [.bool] us = some true := by
  obtain ⟨x0, us, rfl, h0⟩ := lvs_cons h
  obtain ⟨x1, us, rfl, h1⟩ := lvs_cons h0
  obtain ⟨x2, us, rfl, h2⟩ := lvs_cons h1
  cases lvs_nil h2
  have e : Fn CC 3 [.bool] [inj GG (.st 27) x0, inj GG (.st 32) x1, inj GG (.st 36) x2] = l_FnExactValidState x0 x1 x2 := by kernel_rfl
  rw [e]
  exact l_FnExactValidState_ok (TGenScope.ok_of fun k => hw k _ (by simp)) (TGen.ok_of fun k => hw k _ (by simp)) (TCursor.ok_of fun k => hw k _ (by simp))

end Go.Dv.U

namespace Go.Proofs.YtfgdcolakpfjhaaGreat

open Go.ChangeShapes Go.WideShapes Go.ChangeAt Go.RowKit Go.Dv Go.Dv.U

theorem law_own : ownKnob Tryz.prog.godebug = none := by kernel_rfl

theorem law_laidOut : laidOutB Tryz.prog = true := by kernel_rfl

set_option maxRecDepth 100000 in
theorem law_lifted (os : Os) (started : os.Started) (H : Type) (enc : TypeId × Value → H) :
    ReturnsInHanded {} Tryz.checked os 3 .any (Rows.fnExactValidStateSpec.pre6 enc Tryz.prog Tryz.f3 Rows.fnExactValidStateRow.domain false) (Rows.fnExactValidStateSpec.post enc Tryz.prog Tryz.f3 false true false false) := by
  refine returnsInHanded_of_change (C := Tryz.checked) law_own started (by kernel_rfl) Tryz.func3
    (ChangeSpec.witness6 (enc := enc) (C := Tryz.checked) false ⟨#[], #[.agg #[.slice none 0 0, .int .i64 0, .slice none 0 0, .slice none 0 0, .int .i64 0], .agg #[.int .i64 0, .int .i64 0, .string ⟨#[]⟩, .int .i64 0, .int .i64 0, .string ⟨#[]⟩, .int .i64 0, .slice none 0 0], .agg #[.int .i64 0, .int .i64 0, .slice none 0 0, .slice none 0 0]], []⟩ 12 (by kernel_rfl) (by kernel_rfl) (by kernel_rfl) (by kernel_rfl)) ?_
  intro W base args ds gs before hval hW _ _
  exact row_calls (C := CC) GG.ok CC.ext OO.ok rfl (fn := Tryz.f3) Tryz.func3 rfl (tys := [(.st 27), (.st 32), (.st 36)]) (by kernel_rfl) (le_of_b (by kernel_rfl)) (tb := _) rfl (by kernel_rfl) law_laidOut (rd_of_b (by kernel_rfl)) rfl
    (fun H ds hd => by
      match ds, hd with
      | [d0, d1, d2], _ => rfl) pure_law W base args ds gs before ⟨⟨fun g cs h => (by cases h), fun g h => (by cases h), fun g h => (by cases h)⟩, fun g cs h => (by cases h)⟩ hval hW

theorem and_t {a b : Bool} (h : a = true) (k : b = true) : (a && b) = true := by rw [h, k]; rfl

theorem j0 : (Rows.fnExactValidStateRow.wf (OpenSpec.ofChange Rows.fnExactValidStateSpec)) = true := by kernel_rfl

theorem j1 : (laidOutB Tryz.prog) = true := by kernel_rfl

theorem j2 : (mapsRowed Tryz.prog) = true := by kernel_rfl

theorem j3 : (Tryz.f3.params.all (Tryz.prog.readableRec ·)) = true := by kernel_rfl

theorem j4 : (namedTie Tryz.prog Rows.fnExactValidStateRow.named Rows.fnExactValidStateSpec.vars) = true := by kernel_rfl

theorem j5 : (Rows.fnExactValidStateRow.stops == []) = true := by kernel_rfl

theorem j6 : (Tryz.prog.stops == []) = true := by kernel_rfl

theorem j7 : (Rows.fnExactValidStateRow.knobs == []) = true := by kernel_rfl

theorem j8 : (Tryz.prog.stopKnobs == []) = true := by kernel_rfl

theorem j9 : (Rows.fnExactValidStateRow.inPlace == Tryz.prog.inPlace 3) = true := by kernel_rfl

theorem j10 : (Rows.fnExactValidStateRow.unfollowed == Tryz.prog.unfollowed 3) = true := by kernel_rfl

theorem j11 : (Rows.fnExactValidStateRow.recurses == Tryz.prog.recurses 3) = true := by kernel_rfl

theorem j12 : (Rows.fnExactValidStateRow.named == Tryz.prog.varsNamed 3) = true := by kernel_rfl

theorem j13 : (Rows.fnExactValidStateRow.maps == (Tryz.f3.params.toList ++ Rows.fnExactValidStateSpec.plain.varTypes Tryz.prog).any (Tryz.prog.mapsRec ·)) = true := by kernel_rfl

theorem j14 : (Rows.fnExactValidStateRow.ifaces == (Tryz.f3.params.toList ++ Rows.fnExactValidStateSpec.plain.varTypes Tryz.prog).any (Tryz.prog.ifacesRec ·)) = true := by kernel_rfl

theorem j15 : (Rows.fnExactValidStateRow.mapsOut == Tryz.prog.mapsAmong Tryz.f3.resultTypes.toList) = true := by kernel_rfl

theorem j16 : (Rows.fnExactValidStateRow.loops == (Tryz.f3.params.toList ++ Rows.fnExactValidStateSpec.plain.varTypes Tryz.prog).any (Tryz.prog.loopsFrom ·)) = true := by kernel_rfl

theorem j17 : (Rows.fnExactValidStateRow.wideKeys == (Tryz.f3.params.toList ++ Rows.fnExactValidStateSpec.plain.varTypes Tryz.prog ++ Tryz.f3.resultTypes.toList).any (Tryz.prog.wideKeysFrom ·)) = true := by kernel_rfl

theorem j18 : (Rows.fnExactValidStateSpec.vars.all (Tryz.prog.varReadable ·)) = true := by kernel_rfl

theorem j19 : (Tryz.f3.resultTypes.all (fun t => Tryz.prog.readableRec t && decide (t < Tryz.prog.types.size))) = true := by kernel_rfl

theorem j20 : (Rows.fnExactValidStateRow.ifacesOut == Tryz.f3.resultTypes.toList.any (Tryz.prog.ifacesRec ·)) = true := by kernel_rfl

theorem j21 : (Rows.fnExactValidStateRow.loopsOut == Tryz.f3.resultTypes.toList.any (Tryz.prog.loopsFrom ·)) = true := by kernel_rfl

theorem j22 : (Rows.fnExactValidStateRow.plainKeys == Tryz.prog.plainKeys) = true := by kernel_rfl

theorem j23 : (Rows.fnExactValidStateRow.shortTexts.isNone) = true := by kernel_rfl

theorem j24 : (Tryz.prog.stopsHeard) = true := by kernel_rfl

theorem j25 : (Tryz.prog.mayEnter) = true := by kernel_rfl

theorem j26 : (Rows.fnExactValidStateRow.lifted == Tryz.prog.liftsFinal) = true := by kernel_rfl

theorem j27 : (Tryz.prog.make == some Rows.fnExactValidStateRow.make) = true := by kernel_rfl

theorem j28 : (Rows.fnExactValidStateRow.kinds == (if Rows.fnExactValidStateRow.domain.isEmpty then [] else Tryz.f3.params.toList.map fun t => match Tryz.prog.underlying t with | some (.int k) => some k | _ => none)) = true := by kernel_rfl

theorem j29 : (Rows.fnExactValidStateRow.pinned == Rows.fnExactValidStateRow.pinnedBy) = true := by kernel_rfl

theorem j30 : (Rows.fnExactValidStateRow.veiled == (Tryz.f3.params.toList ++ Rows.fnExactValidStateSpec.plain.varTypes Tryz.prog ++ Tryz.f3.resultTypes.toList).any (Tryz.prog.veiledRec ·)) = true := by kernel_rfl

theorem j31 : (Rows.fnExactValidStateRow.veiledFits Tryz.prog Tryz.f3.params.toList (Tryz.f3.params.toList ++ Rows.fnExactValidStateSpec.plain.varTypes Tryz.prog ++ Tryz.f3.resultTypes.toList)) = true := by kernel_rfl

set_option maxRecDepth 100000 in
theorem law_joined : joinedFacts Tryz.prog 3 Tryz.f3 Rows.fnExactValidStateSpec Rows.fnExactValidStateRow = true :=
  and_t (and_t (and_t (and_t (and_t (and_t (and_t (and_t (and_t (and_t (and_t (and_t (and_t (and_t (and_t (and_t (and_t (and_t (and_t (and_t (and_t (and_t (and_t (and_t (and_t (and_t (and_t (and_t (and_t (and_t (and_t j0 j1) j2) j3) j4) j5) j6) j7) j8) j9) j10) j11) j12) j13) j14) j15) j16) j17) j18) j19) j20) j21) j22) j23) j24) j25) j26) j27) j28) j29) j30) j31

theorem law_named : Tryz.prog.funcNamed Rows.fnExactValidStateRow.func = some 3 := by kernel_rfl

theorem law_origin : Tryz.f3.isInstance Tryz.prog Rows.fnExactValidStateRow.origin Rows.fnExactValidStateRow.targs := of_decide_eq_true (by kernel_rfl)

theorem law_wrapper : Tryz.f3.isWrapper Tryz.prog Rows.fnExactValidStateRow.wrapper Rows.fnExactValidStateRow.mainSum := by unfold Func.isWrapper; first | (rw [if_pos (by decide +kernel)]; kernel_rfl) | (rw [if_neg (by decide +kernel)]; exact ⟨rfl, rfl⟩)

theorem FnExactValidState_holds : Rows.FnExactValidStateSaid :=
  OpenClaim.holds_of_wide 3 Tryz.f3 rfl rfl rfl rfl rfl rfl rfl ⟨rfl, rfl, rfl, rfl, rfl⟩ rfl rfl rfl rfl rfl law_named Tryz.func3 law_joined
    law_origin law_wrapper
    (fun os started H enc _ => law_lifted os started H enc)

end Go.Proofs.YtfgdcolakpfjhaaGreat
