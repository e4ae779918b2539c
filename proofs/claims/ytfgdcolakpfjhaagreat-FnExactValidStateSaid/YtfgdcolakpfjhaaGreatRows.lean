/-
  NARROWER THAN 'FOR EVERY INPUT', by the rows' own cells (each row's printed sentence says how): FnExactValidState: loops · FnExactValidGenScope: loops · FnExactGenRoots: loops.
  DERIVED. THE GIVEN ROWS OF THIS SEAT. 5 by the template 'for every input the law returns true; each argument reads behind the call as it read before'; 0 by the template 'total and deterministic' (their statements: YtfgdcolakpfjhaaGreatTotals.lean).
  GIVEN WITH THE SEED: the statements are not yours to turn. If you find one false, say at which input.
  Laid BY PROGRAM, IN A SANDBOX (cutbox-rows.mjs): the forced cells as the released guide's own fill.sh prints them over the translation 6d0875ee80bc5e62… (all of the seat's roots in one cut). By AI agents, Wed Nov 11 2026. No macro, syntax, notation, axiom, sorry.
-/
import Derived.Test.YtfgdcolakpfjhaaGreatChecked
import GoSem.Claim
import GoSem.ClaimJoined
import GoSem.ClaimMapViews
import Derived.JoinedTies
import Derived.KernelRfl
namespace Go.Proofs.YtfgdcolakpfjhaaGreat
/- THE CELL 'sum', in the pinned program and in every row, IS THE sha256 OF THE DUMP (.gsa) THAT YtfgdcolakpfjhaaGreatProg.lean LOADS. Nothing in Lean hashes anything: it is a label: what it is worth is what the hold of that sum in a sandbox is worth. -/
noncomputable def Tryz.pinned : Pinned := { name := "ytfgdcolakpfjhaagreat", sum := "6d0875ee80bc5e62f0927c0d99b3acf37039674520090e02b5e8fba8f64428d9", checked := Tryz.checked }
namespace Rows
def none {H : Type} : Left H := { results := [], args := [] }

/-- 'laws.FnExactValidState': WHATEVER THE INPUT: true; the input reads as it did. -/
def fnExactValidStateSpec : ChangeSpec := { name := "fnExactValidState", fn := fun _ => fun
  | [d1, d2, d3] => { results := [.lit (.bool true)], args := [d1, d2, d3] }
  | _ => none }
def fnExactValidStateRow : OpenClaim := { program := "ytfgdcolakpfjhaagreat", sum := "6d0875ee80bc5e62f0927c0d99b3acf37039674520090e02b5e8fba8f64428d9", func := "loop.example/g00873/laws.FnExactValidState", spec := "fnExactValidState", unfollowed := true, recurses := true, loops := true, apart := false }
def FnExactValidStateSaid : Prop := fnExactValidStateRow.holds Tryz.pinned (OpenSpec.ofChange fnExactValidStateSpec)

/-- ITS FALSE NEIGHBOUR: 'it returns false'. Refute it at one input. -/
def fnExactValidStateWrong : ChangeSpec := { name := "fnExactValidState", fn := fun _ => fun
  | [d1, d2, d3] => { results := [.lit (.bool false)], args := [d1, d2, d3] }
  | _ => none }
def FnExactValidStateWrongFalsely : Prop := fnExactValidStateRow.holds Tryz.pinned (OpenSpec.ofChange fnExactValidStateWrong)

/-- 'laws.FnExactValidGenScope': WHATEVER THE INPUT: true; the input reads as it did. -/
def fnExactValidGenScopeSpec : ChangeSpec := { name := "fnExactValidGenScope", fn := fun _ => fun
  | [d] => { results := [.lit (.bool true)], args := [d] }
  | _ => none }
def fnExactValidGenScopeRow : OpenClaim := { program := "ytfgdcolakpfjhaagreat", sum := "6d0875ee80bc5e62f0927c0d99b3acf37039674520090e02b5e8fba8f64428d9", func := "loop.example/g00873/laws.FnExactValidGenScope", spec := "fnExactValidGenScope", unfollowed := true, recurses := true, loops := true, apart := false }
def FnExactValidGenScopeSaid : Prop := fnExactValidGenScopeRow.holds Tryz.pinned (OpenSpec.ofChange fnExactValidGenScopeSpec)

/-- ITS FALSE NEIGHBOUR: 'it returns false'. Refute it at one input. -/
def fnExactValidGenScopeWrong : ChangeSpec := { name := "fnExactValidGenScope", fn := fun _ => fun
  | [d] => { results := [.lit (.bool false)], args := [d] }
  | _ => none }
def FnExactValidGenScopeWrongFalsely : Prop := fnExactValidGenScopeRow.holds Tryz.pinned (OpenSpec.ofChange fnExactValidGenScopeWrong)

/-- 'laws.FnExactValidMemory': WHATEVER THE INPUT: true; the input reads as it did. -/
def fnExactValidMemorySpec : ChangeSpec := { name := "fnExactValidMemory", fn := fun _ => fun
  | [d] => { results := [.lit (.bool true)], args := [d] }
  | _ => none }
def fnExactValidMemoryRow : OpenClaim := { program := "ytfgdcolakpfjhaagreat", sum := "6d0875ee80bc5e62f0927c0d99b3acf37039674520090e02b5e8fba8f64428d9", func := "loop.example/g00873/laws.FnExactValidMemory", spec := "fnExactValidMemory", unfollowed := true, recurses := true, apart := false }
def FnExactValidMemorySaid : Prop := fnExactValidMemoryRow.holds Tryz.pinned (OpenSpec.ofChange fnExactValidMemorySpec)

/-- ITS FALSE NEIGHBOUR: 'it returns false'. Refute it at one input. -/
def fnExactValidMemoryWrong : ChangeSpec := { name := "fnExactValidMemory", fn := fun _ => fun
  | [d] => { results := [.lit (.bool false)], args := [d] }
  | _ => none }
def FnExactValidMemoryWrongFalsely : Prop := fnExactValidMemoryRow.holds Tryz.pinned (OpenSpec.ofChange fnExactValidMemoryWrong)

/-- 'laws.FnExactGenRoots': WHATEVER THE INPUT: true; the input reads as it did. -/
def fnExactGenRootsSpec : ChangeSpec := { name := "fnExactGenRoots", fn := fun _ => fun
  | [d] => { results := [.lit (.bool true)], args := [d] }
  | _ => none }
def fnExactGenRootsRow : OpenClaim := { program := "ytfgdcolakpfjhaagreat", sum := "6d0875ee80bc5e62f0927c0d99b3acf37039674520090e02b5e8fba8f64428d9", func := "loop.example/g00873/laws.FnExactGenRoots", spec := "fnExactGenRoots", unfollowed := true, recurses := true, loops := true, apart := false }
def FnExactGenRootsSaid : Prop := fnExactGenRootsRow.holds Tryz.pinned (OpenSpec.ofChange fnExactGenRootsSpec)

/-- ITS FALSE NEIGHBOUR: 'it returns false'. Refute it at one input. -/
def fnExactGenRootsWrong : ChangeSpec := { name := "fnExactGenRoots", fn := fun _ => fun
  | [d] => { results := [.lit (.bool false)], args := [d] }
  | _ => none }
def FnExactGenRootsWrongFalsely : Prop := fnExactGenRootsRow.holds Tryz.pinned (OpenSpec.ofChange fnExactGenRootsWrong)

/-- 'laws.FnExactMachineRoots': WHATEVER THE INPUT: true; the input reads as it did. -/
def fnExactMachineRootsSpec : ChangeSpec := { name := "fnExactMachineRoots", fn := fun _ => fun
  | [d] => { results := [.lit (.bool true)], args := [d] }
  | _ => none }
def fnExactMachineRootsRow : OpenClaim := { program := "ytfgdcolakpfjhaagreat", sum := "6d0875ee80bc5e62f0927c0d99b3acf37039674520090e02b5e8fba8f64428d9", func := "loop.example/g00873/laws.FnExactMachineRoots", spec := "fnExactMachineRoots", unfollowed := true, recurses := true, apart := false }
def FnExactMachineRootsSaid : Prop := fnExactMachineRootsRow.holds Tryz.pinned (OpenSpec.ofChange fnExactMachineRootsSpec)

/-- ITS FALSE NEIGHBOUR: 'it returns false'. Refute it at one input. -/
def fnExactMachineRootsWrong : ChangeSpec := { name := "fnExactMachineRoots", fn := fun _ => fun
  | [d] => { results := [.lit (.bool false)], args := [d] }
  | _ => none }
def FnExactMachineRootsWrongFalsely : Prop := fnExactMachineRootsRow.holds Tryz.pinned (OpenSpec.ofChange fnExactMachineRootsWrong)

/- THE SECOND FORM. 'bulk': how many values and letters a reading holds, each counted each time it is reached (what is shared counts as often as it is met; a slice's spare places count too). A statement '..UptoSaid' is the law's where the arguments, and the package variables that the reading takes, are together of bulk at most 1048576: NARROWER than '..Said'. Prove '..Said' where nothing that the law and all that it calls make is longer than what came in: it says more and counts as full. Else prove '..UptoSaid'. A law counts once. -/
mutual
def uptoBulk {H : Type} : DataW H → Nat
  | .lit (.string bytes) => bytes.length + 1
  | .lit _ => 1
  | .nil => 1
  | .ptr d => uptoBulk d + 1
  | .slice elems spare => uptoBulkAll elems + uptoBulkAll spare + 1
  | .agg parts => uptoBulkAll parts + 1
  | .iface _ d => uptoBulk d + 1
  | .map entries => uptoBulkEntries entries + 1
  | .held _ => 1
def uptoBulkAll {H : Type} : List (DataW H) → Nat
  | [] => 0
  | d :: r => uptoBulk d + uptoBulkAll r
def uptoBulkEntries {H : Type} : List (Lit × DataW H) → Nat
  | [] => 0
  | x :: r => uptoBulkEntry x + uptoBulkEntries r
def uptoBulkEntry {H : Type} : Lit × DataW H → Nat
  | (.string bytes, d) => bytes.length + uptoBulk d + 1
  | (_, d) => uptoBulk d + 1
 end
def uptoSmall : (H : Type) → List (DataW H) → Bool := fun _ ds => decide (uptoBulkAll ds ≤ 1048576)
def OpenSpec.upto (s : _root_.Go.ChangeSpec) : _root_.Go.OpenSpec := { _root_.Go.OpenSpec.ofChange s with cond := some uptoSmall }

/-- 'laws.FnExactValidState', WHERE WHAT IT READS IS OF BULK AT MOST 1048576: true; the input reads as it did. -/
def fnExactValidStateUptoRow : OpenClaim := { program := "ytfgdcolakpfjhaagreat", sum := "6d0875ee80bc5e62f0927c0d99b3acf37039674520090e02b5e8fba8f64428d9", func := "loop.example/g00873/laws.FnExactValidState", spec := "fnExactValidState", unfollowed := true, recurses := true, loops := true, apart := false, narrowed := true }
def FnExactValidStateUptoSaid : Prop := fnExactValidStateUptoRow.holds Tryz.pinned (OpenSpec.upto fnExactValidStateSpec)

/-- 'laws.FnExactValidGenScope', WHERE WHAT IT READS IS OF BULK AT MOST 1048576: true; the input reads as it did. -/
def fnExactValidGenScopeUptoRow : OpenClaim := { program := "ytfgdcolakpfjhaagreat", sum := "6d0875ee80bc5e62f0927c0d99b3acf37039674520090e02b5e8fba8f64428d9", func := "loop.example/g00873/laws.FnExactValidGenScope", spec := "fnExactValidGenScope", unfollowed := true, recurses := true, loops := true, apart := false, narrowed := true }
def FnExactValidGenScopeUptoSaid : Prop := fnExactValidGenScopeUptoRow.holds Tryz.pinned (OpenSpec.upto fnExactValidGenScopeSpec)

/-- 'laws.FnExactValidMemory', WHERE WHAT IT READS IS OF BULK AT MOST 1048576: true; the input reads as it did. -/
def fnExactValidMemoryUptoRow : OpenClaim := { program := "ytfgdcolakpfjhaagreat", sum := "6d0875ee80bc5e62f0927c0d99b3acf37039674520090e02b5e8fba8f64428d9", func := "loop.example/g00873/laws.FnExactValidMemory", spec := "fnExactValidMemory", unfollowed := true, recurses := true, apart := false, narrowed := true }
def FnExactValidMemoryUptoSaid : Prop := fnExactValidMemoryUptoRow.holds Tryz.pinned (OpenSpec.upto fnExactValidMemorySpec)

/-- 'laws.FnExactGenRoots', WHERE WHAT IT READS IS OF BULK AT MOST 1048576: true; the input reads as it did. -/
def fnExactGenRootsUptoRow : OpenClaim := { program := "ytfgdcolakpfjhaagreat", sum := "6d0875ee80bc5e62f0927c0d99b3acf37039674520090e02b5e8fba8f64428d9", func := "loop.example/g00873/laws.FnExactGenRoots", spec := "fnExactGenRoots", unfollowed := true, recurses := true, loops := true, apart := false, narrowed := true }
def FnExactGenRootsUptoSaid : Prop := fnExactGenRootsUptoRow.holds Tryz.pinned (OpenSpec.upto fnExactGenRootsSpec)

/-- 'laws.FnExactMachineRoots', WHERE WHAT IT READS IS OF BULK AT MOST 1048576: true; the input reads as it did. -/
def fnExactMachineRootsUptoRow : OpenClaim := { program := "ytfgdcolakpfjhaagreat", sum := "6d0875ee80bc5e62f0927c0d99b3acf37039674520090e02b5e8fba8f64428d9", func := "loop.example/g00873/laws.FnExactMachineRoots", spec := "fnExactMachineRoots", unfollowed := true, recurses := true, apart := false, narrowed := true }
def FnExactMachineRootsUptoSaid : Prop := fnExactMachineRootsUptoRow.holds Tryz.pinned (OpenSpec.upto fnExactMachineRootsSpec)

end Rows
end Go.Proofs.YtfgdcolakpfjhaaGreat
