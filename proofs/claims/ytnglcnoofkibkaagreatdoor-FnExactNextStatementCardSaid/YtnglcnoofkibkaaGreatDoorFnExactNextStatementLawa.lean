/- The law FnExactNextStatement: it answers true at every input that can be read, and its arguments read as before; nothing else is asked. -/
import Derived.Test.YtnglcnoofkibkaaGreatDoorFnExactNextStatementPua
import Derived.Test.YtnglcnoofkibkaaGreatDoorCards
import Derived.Test.YtnglcnoofkibkaaGreatDoorTie
import Derived.SevenTiedAt
import Derived.ProofKit
import Derived.Lay
import Derived.LaidMore
import Derived.LaidHandle
import Derived.OpenShut
import Derived.Stop.Joined
set_option linter.all false
set_option linter.unusedVariables false
set_option linter.unusedSimpArgs false
namespace Go.Dv.U

open Go Go.Dv Go.Proofs

theorem pure_law (us : List (V GG.S)) (h : Leaves GG [(.st 23), (.st 37), .bool, (.int .i64)] us) (hw : ∀ k, ∀ u ∈ us, WfV GG k u) : Fn CC 6 [.bool] us = some true := by
  obtain ⟨x0, us, rfl, h0⟩ := lvs_cons h
  obtain ⟨x1, us, rfl, h1⟩ := lvs_cons h0
  obtain ⟨x2, us, rfl, h2⟩ := lvs_cons h1
  obtain ⟨x3, us, rfl, h3⟩ := lvs_cons h2
  cases lvs_nil h3
  have e : Fn CC 6 [.bool] [inj GG (.st 23) x0, inj GG (.st 37) x1, inj GG .bool x2, inj GG (.int .i64) x3] = l_FnExactNextStatement x0 x1 x2 x3 := by kernel_rfl
  rw [e]
  exact l_FnExactNextStatement_ok (TProgram.ok_of fun k => hw k _ (by simp)) (TGoto.ok_of fun k => hw k _ (by simp))

end Go.Dv.U

namespace Go.Proofs.YtnglcnoofkibkaaGreatDoor

open Go.ChangeShapes Go.WideShapes Go.ChangeAt Go.RowKit Go.Dv Go.Dv.U

theorem law_own : ownKnob Tryz.prog.godebug = none := by kernel_rfl

theorem law_laidOut : laidOutB Tryz.prog = true := by kernel_rfl

theorem door_met (os : Os) (args : Array Value) : laidMetH Tryz.prog Rows.fnExactNextStatementRow.laid ((World.laidAll Tryz.prog os Rows.fnExactNextStatementRow.laid).forCall (fun _ _ => 0) ⟨#[], args, []⟩).memory := by
  rw [MakeChecks.laidMetH_plain _ _ _ (by kernel_rfl)]
  exact laidMet_laidAll _ (by kernel_rfl) (by kernel_rfl)

theorem glob_of {W : World} (h : laidMetH Tryz.prog Rows.fnExactNextStatementRow.laid W) (hs : W.ShapedOpen Tryz.prog) : GlobX CC W (okOld W) := by
  rw [MakeChecks.laidMetH_plain _ _ _ (by kernel_rfl)] at h
  refine ⟨⟨fun g cs h => (by cases h), fun g hg => ?_⟩, fun g cs hg => ?_⟩
  · obtain rfl : g = 0 := by simpa [CC] using hg
    exact int_cell (cell_of_shapedOpen_int hs (of_decide_eq_true (by kernel_rfl)) (t := 3) (zero := #[.int .i64 0]) (by kernel_rfl) rfl (by kernel_rfl) (by kernel_rfl) (by kernel_rfl))
  · simp only [CC] at hg
    split at hg
    · have hg := Option.some.inj hg
      subst hg
      exact block_of_tab (name := "internal/strconv.uint64pow10") (by kernel_rfl) (Lib.tabIs_of_head (g := 1) (t := 214) (e := 107) (n := 20) (by kernel_rfl) (by kernel_rfl) (by kernel_rfl) (by kernel_rfl) (by kernel_rfl) (by kernel_rfl) (laidMet.tail (laidMet.tail h)))
    · cases hg

set_option maxRecDepth 100000 in
theorem law_lifted (os : Os) (started : os.Started) (H : Type) (enc : TypeId × Value → H) :
    ReturnsInHanded {} Tryz.checked os 6 .any (fun w args => (Rows.fnExactNextStatementSpec.pre enc Tryz.prog Tryz.f6 Rows.fnExactNextStatementRow.domain false w args ∧ laidMetH Tryz.prog Rows.fnExactNextStatementRow.laid w) ∧ sizedMet enc Tryz.prog Tryz.f6 (OpenSpec.ofChange Rows.fnExactNextStatementSpec) false w args)
      (Rows.fnExactNextStatementSpec.post enc Tryz.prog Tryz.f6 false true false false) := by
  refine returns_and_shaped (C := Tryz.checked) (X := fun w _ => laidMetH Tryz.prog Rows.fnExactNextStatementRow.laid w) (fun _ _ _ hh h => h.of_heap hh) law_own started (by kernel_rfl) Tryz.func6
    (ChangeSpec.witness_shaped (enc := enc) (C := Tryz.checked) (os := os) (X := fun w _ => laidMetH Tryz.prog Rows.fnExactNextStatementRow.laid w) false (World.laidAll Tryz.prog os Rows.fnExactNextStatementRow.laid) #[.agg #[.slice none 0 0], .agg #[.string ⟨#[]⟩, .string ⟨#[]⟩, .string ⟨#[]⟩], .bool false, .int .i64 0] 12 (World.laidAll_os _ _ _) (World.shaped_of_ZipB (by kernel_rfl) (by kernel_rfl)) (by kernel_rfl) (by kernel_rfl) (by kernel_rfl) (door_met os _)) ?_
  intro W base args ds gs before hval hW hL hsh
  exact row_calls (C := CC) GG.ok CC.ext OO.ok rfl (fn := Tryz.f6) Tryz.func6 rfl (tys := [(.st 23), (.st 37), .bool, (.int .i64)]) (by kernel_rfl) (le_of_b (by kernel_rfl)) (tb := _) rfl (by kernel_rfl) law_laidOut (rd_of_b (by kernel_rfl)) rfl
    (fun H ds hd => by
      match ds, hd with
      | [d0, d1, d2, d3], _ => rfl) pure_law W base args ds gs before (glob_of hL hsh) hval hW

theorem FnExactNextStatement_holds : Rows.FnExactNextStatementSaid :=
  OpenClaim.holds_of_wide 6 Tryz.f6 rfl rfl rfl rfl rfl rfl rfl ⟨rfl, rfl, rfl, rfl, rfl⟩ rfl rfl rfl rfl rfl (by kernel_rfl) Tryz.func6 (by kernel_rfl)
    (of_decide_eq_true (by kernel_rfl)) (by unfold Func.isWrapper; first | (rw [if_pos (by decide +kernel)]; kernel_rfl) | (rw [if_neg (by decide +kernel)]; exact ⟨rfl, rfl⟩))
    (fun os started H enc _ => law_lifted os started H enc)

theorem FnExactNextStatementCard_holds : Rows.FnExactNextStatementCardSaid :=
  Claim7.holds_tied_plain_at .later [] [.data, .data, .data, .sentinel, .sentinel] true (true, "eecab512a523f7cc4bcd52755c4da4cd57f741208b5a8e4dc163634630e915f8") true
    FnExactNextStatement_holds (fun _ h => by cases h) (by kernel_rfl) (fun _ h => by cases h) fnExactNextStatement_row_tie rfl ⟨rfl, rfl⟩ (by kernel_rfl) rfl
    (fun f fn hf hfn => by
      obtain rfl : f = 6 := Option.some.inj ((show Tryz.prog.funcNamed "loop.example/g00873/laws.FnExactNextStatement" = some 6 by kernel_rfl).symm.trans hf) |>.symm
      obtain rfl : fn = Tryz.f6 := (Option.some.inj (Tryz.func6.symm.trans hfn)).symm
      exact ⟨by kernel_rfl, fun j t ht => by
        have hm : t ∈ Tryz.f6.params.toList := by simpa using Array.mem_of_getElem? ht
        have hall : (Tryz.f6.params.toList.all fun u => !Tryz.prog.wantsStandIn u) = true := by kernel_rfl
        exact (show Tryz.prog.wantsStandIn t = false by simpa using List.all_eq_true.1 hall t hm)⟩)
    (by kernel_rfl)

end Go.Proofs.YtnglcnoofkibkaaGreatDoor
