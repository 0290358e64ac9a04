/-
  No cell of these rows narrows 'for every input' (looked for: loops, veiled, ifaces, maps, wideKeys, modest, calm, conditions, laid).
  DERIVED. THE GIVEN ROWS OF THIS SEAT. 9 by the template 'for every input the law returns true; each argument reads behind the call as it read before'; 0 by the template 'total and deterministic' (their statements: YtkophaoifmofdaaGreatTotals.lean).
  GIVEN WITH THE SEED: the statements are not yours to turn. If you find one false, say at which input.
  Laid BY PROGRAM, IN A SANDBOX (cutbox-rows.mjs): the forced cells as the released guide's own fill.sh prints them over the translation 6b5d3c6211f0f655… (all of the seat's roots in one cut). By AI agents, Wed Nov 11 2026. No macro, syntax, notation, axiom, sorry.
-/
import Derived.Test.YtkophaoifmofdaaGreatChecked
import GoSem.Claim
import GoSem.ClaimJoined
import GoSem.ClaimMapViews
import Derived.JoinedTies
import Derived.KernelRfl
namespace Go.Proofs.YtkophaoifmofdaaGreat
/- THE CELL 'sum', in the pinned program and in every row, IS THE sha256 OF THE DUMP (.gsa) THAT YtkophaoifmofdaaGreatProg.lean LOADS. Nothing in Lean hashes anything: it is a label: what it is worth is what the hold of that sum in a sandbox is worth. -/
noncomputable def Tryz.pinned : Pinned := { name := "ytkophaoifmofdaagreat", sum := "6b5d3c6211f0f655bc5b428ee0c0cff0564496bf65f57efc9dd17ca929407095", checked := Tryz.checked }
namespace Rows
def none {H : Type} : Left H := { results := [], args := [] }

/-- 'laws.FnBranchingStates': WHATEVER THE INPUT: true; the input reads as it did. -/
def fnBranchingStatesSpec : ChangeSpec := { name := "fnBranchingStates", fn := fun _ => fun
  | [d] => { results := [.lit (.bool true)], args := [d] }
  | _ => none }
def fnBranchingStatesRow : OpenClaim := { program := "ytkophaoifmofdaagreat", sum := "6b5d3c6211f0f655bc5b428ee0c0cff0564496bf65f57efc9dd17ca929407095", func := "loop.example/ltlcheck/laws.FnBranchingStates", spec := "fnBranchingStates", unfollowed := true, recurses := true, apart := false }
def FnBranchingStatesSaid : Prop := fnBranchingStatesRow.holds Tryz.pinned (OpenSpec.ofChange fnBranchingStatesSpec)

/-- ITS FALSE NEIGHBOUR: 'it returns false'. Refute it at one input. -/
def fnBranchingStatesWrong : ChangeSpec := { name := "fnBranchingStates", fn := fun _ => fun
  | [d] => { results := [.lit (.bool false)], args := [d] }
  | _ => none }
def FnBranchingStatesWrongFalsely : Prop := fnBranchingStatesRow.holds Tryz.pinned (OpenSpec.ofChange fnBranchingStatesWrong)

/-- 'laws.FnBranchingDual': WHATEVER THE INPUT: true; the input reads as it did. -/
def fnBranchingDualSpec : ChangeSpec := { name := "fnBranchingDual", fn := fun _ => fun
  | [d] => { results := [.lit (.bool true)], args := [d] }
  | _ => none }
def fnBranchingDualRow : OpenClaim := { program := "ytkophaoifmofdaagreat", sum := "6b5d3c6211f0f655bc5b428ee0c0cff0564496bf65f57efc9dd17ca929407095", func := "loop.example/ltlcheck/laws.FnBranchingDual", spec := "fnBranchingDual", unfollowed := true, recurses := true, apart := false }
def FnBranchingDualSaid : Prop := fnBranchingDualRow.holds Tryz.pinned (OpenSpec.ofChange fnBranchingDualSpec)

/-- ITS FALSE NEIGHBOUR: 'it returns false'. Refute it at one input. -/
def fnBranchingDualWrong : ChangeSpec := { name := "fnBranchingDual", fn := fun _ => fun
  | [d] => { results := [.lit (.bool false)], args := [d] }
  | _ => none }
def FnBranchingDualWrongFalsely : Prop := fnBranchingDualRow.holds Tryz.pinned (OpenSpec.ofChange fnBranchingDualWrong)

/-- 'laws.FnBranchingEventually': WHATEVER THE INPUT: true; the input reads as it did. -/
def fnBranchingEventuallySpec : ChangeSpec := { name := "fnBranchingEventually", fn := fun _ => fun
  | [d] => { results := [.lit (.bool true)], args := [d] }
  | _ => none }
def fnBranchingEventuallyRow : OpenClaim := { program := "ytkophaoifmofdaagreat", sum := "6b5d3c6211f0f655bc5b428ee0c0cff0564496bf65f57efc9dd17ca929407095", func := "loop.example/ltlcheck/laws.FnBranchingEventually", spec := "fnBranchingEventually", unfollowed := true, recurses := true, apart := false }
def FnBranchingEventuallySaid : Prop := fnBranchingEventuallyRow.holds Tryz.pinned (OpenSpec.ofChange fnBranchingEventuallySpec)

/-- ITS FALSE NEIGHBOUR: 'it returns false'. Refute it at one input. -/
def fnBranchingEventuallyWrong : ChangeSpec := { name := "fnBranchingEventually", fn := fun _ => fun
  | [d] => { results := [.lit (.bool false)], args := [d] }
  | _ => none }
def FnBranchingEventuallyWrongFalsely : Prop := fnBranchingEventuallyRow.holds Tryz.pinned (OpenSpec.ofChange fnBranchingEventuallyWrong)

/-- 'laws.FnBranchingMonotone': WHATEVER THE INPUT: true; the input reads as it did. -/
def fnBranchingMonotoneSpec : ChangeSpec := { name := "fnBranchingMonotone", fn := fun _ => fun
  | [d1, d2] => { results := [.lit (.bool true)], args := [d1, d2] }
  | _ => none }
def fnBranchingMonotoneRow : OpenClaim := { program := "ytkophaoifmofdaagreat", sum := "6b5d3c6211f0f655bc5b428ee0c0cff0564496bf65f57efc9dd17ca929407095", func := "loop.example/ltlcheck/laws.FnBranchingMonotone", spec := "fnBranchingMonotone", unfollowed := true, recurses := true, apart := false }
def FnBranchingMonotoneSaid : Prop := fnBranchingMonotoneRow.holds Tryz.pinned (OpenSpec.ofChange fnBranchingMonotoneSpec)

/-- ITS FALSE NEIGHBOUR: 'it returns false'. Refute it at one input. -/
def fnBranchingMonotoneWrong : ChangeSpec := { name := "fnBranchingMonotone", fn := fun _ => fun
  | [d1, d2] => { results := [.lit (.bool false)], args := [d1, d2] }
  | _ => none }
def FnBranchingMonotoneWrongFalsely : Prop := fnBranchingMonotoneRow.holds Tryz.pinned (OpenSpec.ofChange fnBranchingMonotoneWrong)

/-- 'laws.FnCheckBranching': WHATEVER THE INPUT: true; the input reads as it did. -/
def fnCheckBranchingSpec : ChangeSpec := { name := "fnCheckBranching", fn := fun _ => fun
  | [d] => { results := [.lit (.bool true)], args := [d] }
  | _ => none }
def fnCheckBranchingRow : OpenClaim := { program := "ytkophaoifmofdaagreat", sum := "6b5d3c6211f0f655bc5b428ee0c0cff0564496bf65f57efc9dd17ca929407095", func := "loop.example/ltlcheck/laws.FnCheckBranching", spec := "fnCheckBranching", unfollowed := true, recurses := true, apart := false }
def FnCheckBranchingSaid : Prop := fnCheckBranchingRow.holds Tryz.pinned (OpenSpec.ofChange fnCheckBranchingSpec)

/-- ITS FALSE NEIGHBOUR: 'it returns false'. Refute it at one input. -/
def fnCheckBranchingWrong : ChangeSpec := { name := "fnCheckBranching", fn := fun _ => fun
  | [d] => { results := [.lit (.bool false)], args := [d] }
  | _ => none }
def FnCheckBranchingWrongFalsely : Prop := fnCheckBranchingRow.holds Tryz.pinned (OpenSpec.ofChange fnCheckBranchingWrong)

/-- 'laws.FnWitnessAlwaysExists': WHATEVER THE INPUT: true; the input reads as it did. -/
def fnWitnessAlwaysExistsSpec : ChangeSpec := { name := "fnWitnessAlwaysExists", fn := fun _ => fun
  | [d] => { results := [.lit (.bool true)], args := [d] }
  | _ => none }
def fnWitnessAlwaysExistsRow : OpenClaim := { program := "ytkophaoifmofdaagreat", sum := "6b5d3c6211f0f655bc5b428ee0c0cff0564496bf65f57efc9dd17ca929407095", func := "loop.example/ltlcheck/laws.FnWitnessAlwaysExists", spec := "fnWitnessAlwaysExists", unfollowed := true, recurses := true, apart := false }
def FnWitnessAlwaysExistsSaid : Prop := fnWitnessAlwaysExistsRow.holds Tryz.pinned (OpenSpec.ofChange fnWitnessAlwaysExistsSpec)

/-- ITS FALSE NEIGHBOUR: 'it returns false'. Refute it at one input. -/
def fnWitnessAlwaysExistsWrong : ChangeSpec := { name := "fnWitnessAlwaysExists", fn := fun _ => fun
  | [d] => { results := [.lit (.bool false)], args := [d] }
  | _ => none }
def FnWitnessAlwaysExistsWrongFalsely : Prop := fnWitnessAlwaysExistsRow.holds Tryz.pinned (OpenSpec.ofChange fnWitnessAlwaysExistsWrong)

/-- 'laws.FnWitnessUntilExists': WHATEVER THE INPUT: true; the input reads as it did. -/
def fnWitnessUntilExistsSpec : ChangeSpec := { name := "fnWitnessUntilExists", fn := fun _ => fun
  | [d1, d2] => { results := [.lit (.bool true)], args := [d1, d2] }
  | _ => none }
def fnWitnessUntilExistsRow : OpenClaim := { program := "ytkophaoifmofdaagreat", sum := "6b5d3c6211f0f655bc5b428ee0c0cff0564496bf65f57efc9dd17ca929407095", func := "loop.example/ltlcheck/laws.FnWitnessUntilExists", spec := "fnWitnessUntilExists", unfollowed := true, recurses := true, apart := false }
def FnWitnessUntilExistsSaid : Prop := fnWitnessUntilExistsRow.holds Tryz.pinned (OpenSpec.ofChange fnWitnessUntilExistsSpec)

/-- ITS FALSE NEIGHBOUR: 'it returns false'. Refute it at one input. -/
def fnWitnessUntilExistsWrong : ChangeSpec := { name := "fnWitnessUntilExists", fn := fun _ => fun
  | [d1, d2] => { results := [.lit (.bool false)], args := [d1, d2] }
  | _ => none }
def FnWitnessUntilExistsWrongFalsely : Prop := fnWitnessUntilExistsRow.holds Tryz.pinned (OpenSpec.ofChange fnWitnessUntilExistsWrong)

/-- 'laws.FnBlocksStable': WHATEVER THE INPUT: true; the input reads as it did. -/
def fnBlocksStableSpec : ChangeSpec := { name := "fnBlocksStable", fn := fun _ => fun
  | [d] => { results := [.lit (.bool true)], args := [d] }
  | _ => none }
def fnBlocksStableRow : OpenClaim := { program := "ytkophaoifmofdaagreat", sum := "6b5d3c6211f0f655bc5b428ee0c0cff0564496bf65f57efc9dd17ca929407095", func := "loop.example/ltlcheck/laws.FnBlocksStable", spec := "fnBlocksStable", unfollowed := true, recurses := true, apart := false }
def FnBlocksStableSaid : Prop := fnBlocksStableRow.holds Tryz.pinned (OpenSpec.ofChange fnBlocksStableSpec)

/-- ITS FALSE NEIGHBOUR: 'it returns false'. Refute it at one input. -/
def fnBlocksStableWrong : ChangeSpec := { name := "fnBlocksStable", fn := fun _ => fun
  | [d] => { results := [.lit (.bool false)], args := [d] }
  | _ => none }
def FnBlocksStableWrongFalsely : Prop := fnBlocksStableRow.holds Tryz.pinned (OpenSpec.ofChange fnBlocksStableWrong)

/-- 'laws.FnBisimilarStep': WHATEVER THE INPUT: true; the input reads as it did. -/
def fnBisimilarStepSpec : ChangeSpec := { name := "fnBisimilarStep", fn := fun _ => fun
  | [d] => { results := [.lit (.bool true)], args := [d] }
  | _ => none }
def fnBisimilarStepRow : OpenClaim := { program := "ytkophaoifmofdaagreat", sum := "6b5d3c6211f0f655bc5b428ee0c0cff0564496bf65f57efc9dd17ca929407095", func := "loop.example/ltlcheck/laws.FnBisimilarStep", spec := "fnBisimilarStep", unfollowed := true, recurses := true, apart := false }
def FnBisimilarStepSaid : Prop := fnBisimilarStepRow.holds Tryz.pinned (OpenSpec.ofChange fnBisimilarStepSpec)

/-- ITS FALSE NEIGHBOUR: 'it returns false'. Refute it at one input. -/
def fnBisimilarStepWrong : ChangeSpec := { name := "fnBisimilarStep", fn := fun _ => fun
  | [d] => { results := [.lit (.bool false)], args := [d] }
  | _ => none }
def FnBisimilarStepWrongFalsely : Prop := fnBisimilarStepRow.holds Tryz.pinned (OpenSpec.ofChange fnBisimilarStepWrong)

/- THE SECOND FORM. 'bulk': how many values and letters a reading holds, each counted each time it is reached (what is shared counts as often as it is met; a slice's spare places count too). A statement '..UptoSaid' is the law's where the arguments, and the package variables that the reading takes, are together of bulk at most 1048576: NARROWER than '..Said'. Prove '..Said' where nothing that the law and all that it calls make is longer than what came in: it says more and counts as full. Else prove '..UptoSaid'. A law counts once. -/
mutual
def uptoBulk {H : Type} : DataW H → Nat
  | .lit (.string bytes) => bytes.length + 1
  | .lit _ => 1
  | .nil => 1
  | .ptr d => uptoBulk d + 1
  | .slice elems spare => uptoBulkAll elems + uptoBulkAll spare + 1
  | .agg parts => uptoBulkAll parts + 1
  | .iface _ d => uptoBulk d + 1
  | .map entries => uptoBulkEntries entries + 1
  | .held _ => 1
def uptoBulkAll {H : Type} : List (DataW H) → Nat
  | [] => 0
  | d :: r => uptoBulk d + uptoBulkAll r
def uptoBulkEntries {H : Type} : List (Lit × DataW H) → Nat
  | [] => 0
  | x :: r => uptoBulkEntry x + uptoBulkEntries r
def uptoBulkEntry {H : Type} : Lit × DataW H → Nat
  | (.string bytes, d) => bytes.length + uptoBulk d + 1
  | (_, d) => uptoBulk d + 1
 end
def uptoSmall : (H : Type) → List (DataW H) → Bool := fun _ ds => decide (uptoBulkAll ds ≤ 1048576)
def OpenSpec.upto (s : _root_.Go.ChangeSpec) : _root_.Go.OpenSpec := { _root_.Go.OpenSpec.ofChange s with cond := some uptoSmall }

/-- 'laws.FnBranchingStates', WHERE WHAT IT READS IS OF BULK AT MOST 1048576: true; the input reads as it did. -/
def fnBranchingStatesUptoRow : OpenClaim := { program := "ytkophaoifmofdaagreat", sum := "6b5d3c6211f0f655bc5b428ee0c0cff0564496bf65f57efc9dd17ca929407095", func := "loop.example/ltlcheck/laws.FnBranchingStates", spec := "fnBranchingStates", unfollowed := true, recurses := true, apart := false, narrowed := true }
def FnBranchingStatesUptoSaid : Prop := fnBranchingStatesUptoRow.holds Tryz.pinned (OpenSpec.upto fnBranchingStatesSpec)

/-- 'laws.FnBranchingDual', WHERE WHAT IT READS IS OF BULK AT MOST 1048576: true; the input reads as it did. -/
def fnBranchingDualUptoRow : OpenClaim := { program := "ytkophaoifmofdaagreat", sum := "6b5d3c6211f0f655bc5b428ee0c0cff0564496bf65f57efc9dd17ca929407095", func := "loop.example/ltlcheck/laws.FnBranchingDual", spec := "fnBranchingDual", unfollowed := true, recurses := true, apart := false, narrowed := true }
def FnBranchingDualUptoSaid : Prop := fnBranchingDualUptoRow.holds Tryz.pinned (OpenSpec.upto fnBranchingDualSpec)

/-- 'laws.FnBranchingEventually', WHERE WHAT IT READS IS OF BULK AT MOST 1048576: true; the input reads as it did. -/
def fnBranchingEventuallyUptoRow : OpenClaim := { program := "ytkophaoifmofdaagreat", sum := "6b5d3c6211f0f655bc5b428ee0c0cff0564496bf65f57efc9dd17ca929407095", func := "loop.example/ltlcheck/laws.FnBranchingEventually", spec := "fnBranchingEventually", unfollowed := true, recurses := true, apart := false, narrowed := true }
def FnBranchingEventuallyUptoSaid : Prop := fnBranchingEventuallyUptoRow.holds Tryz.pinned (OpenSpec.upto fnBranchingEventuallySpec)

/-- 'laws.FnBranchingMonotone', WHERE WHAT IT READS IS OF BULK AT MOST 1048576: true; the input reads as it did. -/
def fnBranchingMonotoneUptoRow : OpenClaim := { program := "ytkophaoifmofdaagreat", sum := "6b5d3c6211f0f655bc5b428ee0c0cff0564496bf65f57efc9dd17ca929407095", func := "loop.example/ltlcheck/laws.FnBranchingMonotone", spec := "fnBranchingMonotone", unfollowed := true, recurses := true, apart := false, narrowed := true }
def FnBranchingMonotoneUptoSaid : Prop := fnBranchingMonotoneUptoRow.holds Tryz.pinned (OpenSpec.upto fnBranchingMonotoneSpec)

/-- 'laws.FnCheckBranching', WHERE WHAT IT READS IS OF BULK AT MOST 1048576: true; the input reads as it did. -/
def fnCheckBranchingUptoRow : OpenClaim := { program := "ytkophaoifmofdaagreat", sum := "6b5d3c6211f0f655bc5b428ee0c0cff0564496bf65f57efc9dd17ca929407095", func := "loop.example/ltlcheck/laws.FnCheckBranching", spec := "fnCheckBranching", unfollowed := true, recurses := true, apart := false, narrowed := true }
def FnCheckBranchingUptoSaid : Prop := fnCheckBranchingUptoRow.holds Tryz.pinned (OpenSpec.upto fnCheckBranchingSpec)

/-- 'laws.FnWitnessAlwaysExists', WHERE WHAT IT READS IS OF BULK AT MOST 1048576: true; the input reads as it did. -/
def fnWitnessAlwaysExistsUptoRow : OpenClaim := { program := "ytkophaoifmofdaagreat", sum := "6b5d3c6211f0f655bc5b428ee0c0cff0564496bf65f57efc9dd17ca929407095", func := "loop.example/ltlcheck/laws.FnWitnessAlwaysExists", spec := "fnWitnessAlwaysExists", unfollowed := true, recurses := true, apart := false, narrowed := true }
def FnWitnessAlwaysExistsUptoSaid : Prop := fnWitnessAlwaysExistsUptoRow.holds Tryz.pinned (OpenSpec.upto fnWitnessAlwaysExistsSpec)

/-- 'laws.FnWitnessUntilExists', WHERE WHAT IT READS IS OF BULK AT MOST 1048576: true; the input reads as it did. -/
def fnWitnessUntilExistsUptoRow : OpenClaim := { program := "ytkophaoifmofdaagreat", sum := "6b5d3c6211f0f655bc5b428ee0c0cff0564496bf65f57efc9dd17ca929407095", func := "loop.example/ltlcheck/laws.FnWitnessUntilExists", spec := "fnWitnessUntilExists", unfollowed := true, recurses := true, apart := false, narrowed := true }
def FnWitnessUntilExistsUptoSaid : Prop := fnWitnessUntilExistsUptoRow.holds Tryz.pinned (OpenSpec.upto fnWitnessUntilExistsSpec)

/-- 'laws.FnBlocksStable', WHERE WHAT IT READS IS OF BULK AT MOST 1048576: true; the input reads as it did. -/
def fnBlocksStableUptoRow : OpenClaim := { program := "ytkophaoifmofdaagreat", sum := "6b5d3c6211f0f655bc5b428ee0c0cff0564496bf65f57efc9dd17ca929407095", func := "loop.example/ltlcheck/laws.FnBlocksStable", spec := "fnBlocksStable", unfollowed := true, recurses := true, apart := false, narrowed := true }
def FnBlocksStableUptoSaid : Prop := fnBlocksStableUptoRow.holds Tryz.pinned (OpenSpec.upto fnBlocksStableSpec)

/-- 'laws.FnBisimilarStep', WHERE WHAT IT READS IS OF BULK AT MOST 1048576: true; the input reads as it did. -/
def fnBisimilarStepUptoRow : OpenClaim := { program := "ytkophaoifmofdaagreat", sum := "6b5d3c6211f0f655bc5b428ee0c0cff0564496bf65f57efc9dd17ca929407095", func := "loop.example/ltlcheck/laws.FnBisimilarStep", spec := "fnBisimilarStep", unfollowed := true, recurses := true, apart := false, narrowed := true }
def FnBisimilarStepUptoSaid : Prop := fnBisimilarStepUptoRow.holds Tryz.pinned (OpenSpec.upto fnBisimilarStepSpec)

end Rows
end Go.Proofs.YtkophaoifmofdaaGreat
