/-
  NARROWER THAN 'FOR EVERY INPUT', by the rows' own cells (each row's printed sentence says how): FnExactIsBounded: loops · FnExactIsUniform: loops · FnExactStepsBound: loops · FnExactMatchBound: loops.
  DERIVED. THE GIVEN ROWS OF THIS SEAT. 4 by the template 'for every input the law returns true; each argument reads behind the call as it read before'; 0 by the template 'total and deterministic' (their statements: YtnopaciceeakdaaTotals.lean).
  GIVEN WITH THE SEED: the statements are not yours to turn. If you find one false, say at which input.
  Laid BY PROGRAM, IN A SANDBOX (cutbox-rows.mjs): the forced cells as the released guide's own fill.sh prints them over the translation 499ea9eb1b42320b… (all of the seat's roots in one cut). By AI agents, Wed Nov 11 2026. No macro, syntax, notation, axiom, sorry.
-/
import Derived.Test.YtnopaciceeakdaaChecked
import GoSem.Claim
import GoSem.ClaimJoined
import GoSem.ClaimMapViews
import Derived.JoinedTies
import Derived.KernelRfl
namespace Go.Proofs.Ytnopaciceeakdaa
/- THE CELL 'sum', in the pinned program and in every row, IS THE sha256 OF THE DUMP (.gsa) THAT YtnopaciceeakdaaProg.lean LOADS. Nothing in Lean hashes anything: it is a label: what it is worth is what the hold of that sum in a sandbox is worth. -/
noncomputable def Try.pinned : Pinned := { name := "ytnopaciceeakdaa", sum := "499ea9eb1b42320b1578de807eb490e298a0044a7dde11a7d1e30126a3225f0b", checked := Try.checked }
namespace Rows
def none {H : Type} : Left H := { results := [], args := [] }

/-- 'laws.FnExactIsBounded': WHATEVER THE INPUT: true; the input reads as it did. -/
def fnExactIsBoundedSpec : ChangeSpec := { name := "fnExactIsBounded", fn := fun _ => fun
  | [d] => { results := [.lit (.bool true)], args := [d] }
  | _ => none }
def fnExactIsBoundedRow : OpenClaim := { program := "ytnopaciceeakdaa", sum := "499ea9eb1b42320b1578de807eb490e298a0044a7dde11a7d1e30126a3225f0b", func := "loop.example/g00873/laws.FnExactIsBounded", spec := "fnExactIsBounded", unfollowed := true, recurses := true, loops := true, apart := false }
def FnExactIsBoundedSaid : Prop := fnExactIsBoundedRow.holds Try.pinned (OpenSpec.ofChange fnExactIsBoundedSpec)

/-- ITS FALSE NEIGHBOUR: 'it returns false'. Refute it at one input. -/
def fnExactIsBoundedWrong : ChangeSpec := { name := "fnExactIsBounded", fn := fun _ => fun
  | [d] => { results := [.lit (.bool false)], args := [d] }
  | _ => none }
def FnExactIsBoundedWrongFalsely : Prop := fnExactIsBoundedRow.holds Try.pinned (OpenSpec.ofChange fnExactIsBoundedWrong)

/-- 'laws.FnExactIsUniform': WHATEVER THE INPUT: true; the input reads as it did. -/
def fnExactIsUniformSpec : ChangeSpec := { name := "fnExactIsUniform", fn := fun _ => fun
  | [d] => { results := [.lit (.bool true)], args := [d] }
  | _ => none }
def fnExactIsUniformRow : OpenClaim := { program := "ytnopaciceeakdaa", sum := "499ea9eb1b42320b1578de807eb490e298a0044a7dde11a7d1e30126a3225f0b", func := "loop.example/g00873/laws.FnExactIsUniform", spec := "fnExactIsUniform", unfollowed := true, recurses := true, loops := true, apart := false }
def FnExactIsUniformSaid : Prop := fnExactIsUniformRow.holds Try.pinned (OpenSpec.ofChange fnExactIsUniformSpec)

/-- ITS FALSE NEIGHBOUR: 'it returns false'. Refute it at one input. -/
def fnExactIsUniformWrong : ChangeSpec := { name := "fnExactIsUniform", fn := fun _ => fun
  | [d] => { results := [.lit (.bool false)], args := [d] }
  | _ => none }
def FnExactIsUniformWrongFalsely : Prop := fnExactIsUniformRow.holds Try.pinned (OpenSpec.ofChange fnExactIsUniformWrong)

/-- 'laws.FnExactStepsBound': WHATEVER THE INPUT: true; the input reads as it did. -/
def fnExactStepsBoundSpec : ChangeSpec := { name := "fnExactStepsBound", fn := fun _ => fun
  | [d1, d2] => { results := [.lit (.bool true)], args := [d1, d2] }
  | _ => none }
def fnExactStepsBoundRow : OpenClaim := { program := "ytnopaciceeakdaa", sum := "499ea9eb1b42320b1578de807eb490e298a0044a7dde11a7d1e30126a3225f0b", func := "loop.example/g00873/laws.FnExactStepsBound", spec := "fnExactStepsBound", unfollowed := true, recurses := true, loops := true, apart := false }
def FnExactStepsBoundSaid : Prop := fnExactStepsBoundRow.holds Try.pinned (OpenSpec.ofChange fnExactStepsBoundSpec)

/-- ITS FALSE NEIGHBOUR: 'it returns false'. Refute it at one input. -/
def fnExactStepsBoundWrong : ChangeSpec := { name := "fnExactStepsBound", fn := fun _ => fun
  | [d1, d2] => { results := [.lit (.bool false)], args := [d1, d2] }
  | _ => none }
def FnExactStepsBoundWrongFalsely : Prop := fnExactStepsBoundRow.holds Try.pinned (OpenSpec.ofChange fnExactStepsBoundWrong)

/-- 'laws.FnExactMatchBound': WHATEVER THE INPUT: true; the input reads as it did. -/
def fnExactMatchBoundSpec : ChangeSpec := { name := "fnExactMatchBound", fn := fun _ => fun
  | [d1, d2, d3] => { results := [.lit (.bool true)], args := [d1, d2, d3] }
  | _ => none }
def fnExactMatchBoundRow : OpenClaim := { program := "ytnopaciceeakdaa", sum := "499ea9eb1b42320b1578de807eb490e298a0044a7dde11a7d1e30126a3225f0b", func := "loop.example/g00873/laws.FnExactMatchBound", spec := "fnExactMatchBound", unfollowed := true, recurses := true, loops := true, apart := false }
def FnExactMatchBoundSaid : Prop := fnExactMatchBoundRow.holds Try.pinned (OpenSpec.ofChange fnExactMatchBoundSpec)

/-- ITS FALSE NEIGHBOUR: 'it returns false'. Refute it at one input. -/
def fnExactMatchBoundWrong : ChangeSpec := { name := "fnExactMatchBound", fn := fun _ => fun
  | [d1, d2, d3] => { results := [.lit (.bool false)], args := [d1, d2, d3] }
  | _ => none }
def FnExactMatchBoundWrongFalsely : Prop := fnExactMatchBoundRow.holds Try.pinned (OpenSpec.ofChange fnExactMatchBoundWrong)

/- THE SECOND FORM. 'bulk': how many values and letters a reading holds, each counted each time it is reached (what is shared counts as often as it is met; a slice's spare places count too). A statement '..UptoSaid' is the law's where the arguments, and the package variables that the reading takes, are together of bulk at most 1048576: NARROWER than '..Said'. Prove '..Said' where nothing that the law and all that it calls make is longer than what came in: it says more and counts as full. Else prove '..UptoSaid'. A law counts once. -/
mutual
def uptoBulk {H : Type} : DataW H → Nat
  | .lit (.string bytes) => bytes.length + 1
  | .lit _ => 1
  | .nil => 1
  | .ptr d => uptoBulk d + 1
  | .slice elems spare => uptoBulkAll elems + uptoBulkAll spare + 1
  | .agg parts => uptoBulkAll parts + 1
  | .iface _ d => uptoBulk d + 1
  | .map entries => uptoBulkEntries entries + 1
  | .held _ => 1
def uptoBulkAll {H : Type} : List (DataW H) → Nat
  | [] => 0
  | d :: r => uptoBulk d + uptoBulkAll r
def uptoBulkEntries {H : Type} : List (Lit × DataW H) → Nat
  | [] => 0
  | x :: r => uptoBulkEntry x + uptoBulkEntries r
def uptoBulkEntry {H : Type} : Lit × DataW H → Nat
  | (.string bytes, d) => bytes.length + uptoBulk d + 1
  | (_, d) => uptoBulk d + 1
 end
def uptoSmall : (H : Type) → List (DataW H) → Bool := fun _ ds => decide (uptoBulkAll ds ≤ 1048576)
def OpenSpec.upto (s : _root_.Go.ChangeSpec) : _root_.Go.OpenSpec := { _root_.Go.OpenSpec.ofChange s with cond := some uptoSmall }

/-- 'laws.FnExactIsBounded', WHERE WHAT IT READS IS OF BULK AT MOST 1048576: true; the input reads as it did. -/
def fnExactIsBoundedUptoRow : OpenClaim := { program := "ytnopaciceeakdaa", sum := "499ea9eb1b42320b1578de807eb490e298a0044a7dde11a7d1e30126a3225f0b", func := "loop.example/g00873/laws.FnExactIsBounded", spec := "fnExactIsBounded", unfollowed := true, recurses := true, loops := true, apart := false, narrowed := true }
def FnExactIsBoundedUptoSaid : Prop := fnExactIsBoundedUptoRow.holds Try.pinned (OpenSpec.upto fnExactIsBoundedSpec)

/-- 'laws.FnExactIsUniform', WHERE WHAT IT READS IS OF BULK AT MOST 1048576: true; the input reads as it did. -/
def fnExactIsUniformUptoRow : OpenClaim := { program := "ytnopaciceeakdaa", sum := "499ea9eb1b42320b1578de807eb490e298a0044a7dde11a7d1e30126a3225f0b", func := "loop.example/g00873/laws.FnExactIsUniform", spec := "fnExactIsUniform", unfollowed := true, recurses := true, loops := true, apart := false, narrowed := true }
def FnExactIsUniformUptoSaid : Prop := fnExactIsUniformUptoRow.holds Try.pinned (OpenSpec.upto fnExactIsUniformSpec)

/-- 'laws.FnExactStepsBound', WHERE WHAT IT READS IS OF BULK AT MOST 1048576: true; the input reads as it did. -/
def fnExactStepsBoundUptoRow : OpenClaim := { program := "ytnopaciceeakdaa", sum := "499ea9eb1b42320b1578de807eb490e298a0044a7dde11a7d1e30126a3225f0b", func := "loop.example/g00873/laws.FnExactStepsBound", spec := "fnExactStepsBound", unfollowed := true, recurses := true, loops := true, apart := false, narrowed := true }
def FnExactStepsBoundUptoSaid : Prop := fnExactStepsBoundUptoRow.holds Try.pinned (OpenSpec.upto fnExactStepsBoundSpec)

/-- 'laws.FnExactMatchBound', WHERE WHAT IT READS IS OF BULK AT MOST 1048576: true; the input reads as it did. -/
def fnExactMatchBoundUptoRow : OpenClaim := { program := "ytnopaciceeakdaa", sum := "499ea9eb1b42320b1578de807eb490e298a0044a7dde11a7d1e30126a3225f0b", func := "loop.example/g00873/laws.FnExactMatchBound", spec := "fnExactMatchBound", unfollowed := true, recurses := true, loops := true, apart := false, narrowed := true }
def FnExactMatchBoundUptoSaid : Prop := fnExactMatchBoundUptoRow.holds Try.pinned (OpenSpec.upto fnExactMatchBoundSpec)

end Rows
end Go.Proofs.Ytnopaciceeakdaa
