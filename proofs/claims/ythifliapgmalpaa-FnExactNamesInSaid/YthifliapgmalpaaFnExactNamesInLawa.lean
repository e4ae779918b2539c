/- The law FnExactNamesIn: it answers true at every input that can be read, and its arguments read as before; nothing else is asked. -/
import Derived.Test.YthifliapgmalpaaFnExactNamesInPua
import Derived.HandedShaped
import Derived.Shelf.Vars
import Derived.Test.YthifliapgmalpaaRows
set_option linter.all false
set_option linter.unusedVariables false
set_option linter.unusedSimpArgs false
namespace Go.Dv.U

open Go Go.Dv Go.Proofs

theorem pure_law (us : List (V GG.S)) (h : Leaves GG [(.st 23)] us) (hw : ∀ k, ∀ u ∈ us, WfV GG k u) : Fn CC 4 [.bool] us = some true := by
  obtain ⟨x0, us, rfl, h0⟩ := lvs_cons h
  cases lvs_nil h0
  have e : Fn CC 4 [.bool] [inj GG (.st 23) x0] = l_FnExactNamesIn x0 := by kernel_rfl
  rw [e]
  exact l_FnExactNamesIn_ok (TExpr.ok_of fun k => hw k _ (by simp))

end Go.Dv.U

namespace Go.Proofs.Ythifliapgmalpaa

open Go.ChangeShapes Go.WideShapes Go.ChangeAt Go.RowKit Go.Dv Go.Dv.U

theorem law_own : ownKnob Try.prog.godebug = none := by kernel_rfl

theorem law_laidOut : laidOutB Try.prog = true := by kernel_rfl

theorem glob_of {W : World} (hs : W.ShapedOpen Try.prog) : GlobX CC W (okOld W) := by
  refine ⟨⟨fun g cs h => (by cases h), fun g hg => ?_⟩, fun g cs hg => (by cases hg)⟩
  obtain rfl : g = 0 := by simpa [CC] using hg
  exact int_cell (cell_of_shapedOpen_int hs (of_decide_eq_true (by kernel_rfl)) (t := 3) (zero := #[.int .i64 0]) (by kernel_rfl) rfl (by kernel_rfl) (by kernel_rfl) (by kernel_rfl))

set_option maxRecDepth 100000 in
theorem law_lifted (os : Os) (started : os.Started) (H : Type) (enc : TypeId × Value → H) :
    ReturnsInHanded {} Try.checked os 4 .any (Rows.fnExactNamesInSpec.pre6 enc Try.prog Try.f4 Rows.fnExactNamesInRow.domain false) (Rows.fnExactNamesInSpec.post enc Try.prog Try.f4 false true false false) := by
  refine returnsInHanded_of_change_shaped (C := Try.checked) law_own started (by kernel_rfl) Try.func4
    (ChangeSpec.witness6 (enc := enc) (C := Try.checked) false ⟨#[], #[.agg #[.int .i64 0, .int .i64 0, .string ⟨#[]⟩, .slice none 0 0]], []⟩ 12 (by kernel_rfl) (by kernel_rfl) (by kernel_rfl) (by kernel_rfl)) ?_
  intro W base args ds gs before hval hW _ _ hs _
  exact row_calls (C := CC) GG.ok CC.ext OO.ok rfl (fn := Try.f4) Try.func4 rfl (tys := [(.st 23)]) (by kernel_rfl) (le_of_b (by kernel_rfl)) (tb := _) rfl (by kernel_rfl) law_laidOut (rd_of_b (by kernel_rfl)) rfl
    (fun H ds hd => by
      match ds, hd with
      | [d0], _ => rfl) pure_law W base args ds gs before (glob_of hs) hval hW

theorem FnExactNamesIn_holds : Rows.FnExactNamesInSaid :=
  OpenClaim.holds_of_wide 4 Try.f4 rfl rfl rfl rfl rfl rfl rfl ⟨rfl, rfl, rfl, rfl, rfl⟩ rfl rfl rfl rfl rfl (by kernel_rfl) Try.func4 (by kernel_rfl)
    (of_decide_eq_true (by kernel_rfl)) (by unfold Func.isWrapper; first | (rw [if_pos (by decide +kernel)]; kernel_rfl) | (rw [if_neg (by decide +kernel)]; exact ⟨rfl, rfl⟩))
    (fun os started H enc _ => law_lifted os started H enc)

end Go.Proofs.Ythifliapgmalpaa
