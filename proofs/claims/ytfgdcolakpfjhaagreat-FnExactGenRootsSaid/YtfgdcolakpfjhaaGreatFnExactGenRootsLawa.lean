/- The law FnExactGenRoots: it answers true at every input that can be read, and its arguments read as before; nothing else is asked. -/
import Derived.Test.YtfgdcolakpfjhaaGreatFnExactGenRootsPua
import Derived.Test.YtfgdcolakpfjhaaGreatRows
set_option linter.all false
set_option linter.unusedVariables false
set_option linter.unusedSimpArgs false
namespace Go.Dv.U

open Go Go.Dv Go.Proofs

theorem pure_law (us : List (V GG.S)) (h : Leaves GG [(.st 27)] us) (hw : ∀ k, ∀ u ∈ us, WfV GG k u) : Fn CC 6 [.bool] us = some true := by
  obtain ⟨x0, us, rfl, h0⟩ := lvs_cons h
  cases lvs_nil h0
  have e : Fn CC 6 [.bool] [inj GG (.st 27) x0] = l_FnExactGenRoots x0 := by kernel_rfl
  rw [e]
  exact l_FnExactGenRoots_ok (TGenScope.ok_of fun k => hw k _ (by simp))

end Go.Dv.U

namespace Go.Proofs.YtfgdcolakpfjhaaGreat

open Go.ChangeShapes Go.WideShapes Go.ChangeAt Go.RowKit Go.Dv Go.Dv.U

theorem law_own : ownKnob Tryz.prog.godebug = none := by kernel_rfl

theorem law_laidOut : laidOutB Tryz.prog = true := by kernel_rfl

set_option maxRecDepth 100000 in
theorem law_lifted (os : Os) (started : os.Started) (H : Type) (enc : TypeId × Value → H) :
    ReturnsInHanded {} Tryz.checked os 6 .any (Rows.fnExactGenRootsSpec.pre6 enc Tryz.prog Tryz.f6 Rows.fnExactGenRootsRow.domain false) (Rows.fnExactGenRootsSpec.post enc Tryz.prog Tryz.f6 false true false false) := by
  refine returnsInHanded_of_change (C := Tryz.checked) law_own started (by kernel_rfl) Tryz.func6
    (ChangeSpec.witness6 (enc := enc) (C := Tryz.checked) false ⟨#[], #[.agg #[.slice none 0 0, .int .i64 0, .slice none 0 0, .slice none 0 0, .int .i64 0]], []⟩ 12 (by kernel_rfl) (by kernel_rfl) (by kernel_rfl) (by kernel_rfl)) ?_
  intro W base args ds gs before hval hW _ _
  exact row_calls (C := CC) GG.ok CC.ext OO.ok rfl (fn := Tryz.f6) Tryz.func6 rfl (tys := [(.st 27)]) (by kernel_rfl) (le_of_b (by kernel_rfl)) (tb := _) rfl (by kernel_rfl) law_laidOut (rd_of_b (by kernel_rfl)) rfl
    (fun H ds hd => by
      match ds, hd with
      | [d0], _ => rfl) pure_law W base args ds gs before ⟨⟨fun g cs h => (by cases h), fun g h => (by cases h), fun g h => (by cases h)⟩, fun g cs h => (by cases h)⟩ hval hW

theorem FnExactGenRoots_holds : Rows.FnExactGenRootsSaid :=
  OpenClaim.holds_of_wide 6 Tryz.f6 rfl rfl rfl rfl rfl rfl rfl ⟨rfl, rfl, rfl, rfl, rfl⟩ rfl rfl rfl rfl rfl (by kernel_rfl) Tryz.func6 (by kernel_rfl)
    (of_decide_eq_true (by kernel_rfl)) (by unfold Func.isWrapper; first | (rw [if_pos (by decide +kernel)]; kernel_rfl) | (rw [if_neg (by decide +kernel)]; exact ⟨rfl, rfl⟩))
    (fun os started H enc _ => law_lifted os started H enc)

end Go.Proofs.YtfgdcolakpfjhaaGreat
