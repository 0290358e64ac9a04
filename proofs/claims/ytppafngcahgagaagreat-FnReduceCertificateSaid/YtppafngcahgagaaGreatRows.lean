/-
  No cell of these rows narrows 'for every input' (looked for: loops, veiled, ifaces, maps, wideKeys, modest, calm, conditions, laid).
  DERIVED. THE GIVEN ROWS OF THIS SEAT. 12 by the template 'for every input the law returns true; each argument reads behind the call as it read before'; 0 by the template 'total and deterministic' (their statements: YtppafngcahgagaaGreatTotals.lean).
  GIVEN WITH THE SEED: the statements are not yours to turn. If you find one false, say at which input.
  Laid BY PROGRAM, IN A SANDBOX (cutbox-rows.mjs): the forced cells as the released guide's own fill.sh prints them over the translation 435f55931b85a5a6… (all of the seat's roots in one cut). By AI agents, Wed Nov 11 2026. No macro, syntax, notation, axiom, sorry.
-/
import Derived.Test.YtppafngcahgagaaGreatChecked
import GoSem.Claim
import GoSem.ClaimJoined
import GoSem.ClaimMapViews
import Derived.JoinedTies
import Derived.KernelRfl
namespace Go.Proofs.YtppafngcahgagaaGreat
/- THE CELL 'sum', in the pinned program and in every row, IS THE sha256 OF THE DUMP (.gsa) THAT YtppafngcahgagaaGreatProg.lean LOADS. Nothing in Lean hashes anything: it is a label: what it is worth is what the hold of that sum in a sandbox is worth. -/
noncomputable def Tryz.pinned : Pinned := { name := "ytppafngcahgagaagreat", sum := "435f55931b85a5a67355d6d9c9ec573849a24464eac11b9d439c235b2eaf969b", checked := Tryz.checked }
namespace Rows
def none {H : Type} : Left H := { results := [], args := [] }

/-- 'laws.FnWitnessAlwaysExists': WHATEVER THE INPUT: true; the input reads as it did. -/
def fnWitnessAlwaysExistsSpec : ChangeSpec := { name := "fnWitnessAlwaysExists", fn := fun _ => fun
  | [d] => { results := [.lit (.bool true)], args := [d] }
  | _ => none }
def fnWitnessAlwaysExistsRow : OpenClaim := { program := "ytppafngcahgagaagreat", sum := "435f55931b85a5a67355d6d9c9ec573849a24464eac11b9d439c235b2eaf969b", func := "loop.example/ltlcheck/laws.FnWitnessAlwaysExists", spec := "fnWitnessAlwaysExists", unfollowed := true, recurses := true, apart := false }
def FnWitnessAlwaysExistsSaid : Prop := fnWitnessAlwaysExistsRow.holds Tryz.pinned (OpenSpec.ofChange fnWitnessAlwaysExistsSpec)

/-- ITS FALSE NEIGHBOUR: 'it returns false'. Refute it at one input. -/
def fnWitnessAlwaysExistsWrong : ChangeSpec := { name := "fnWitnessAlwaysExists", fn := fun _ => fun
  | [d] => { results := [.lit (.bool false)], args := [d] }
  | _ => none }
def FnWitnessAlwaysExistsWrongFalsely : Prop := fnWitnessAlwaysExistsRow.holds Tryz.pinned (OpenSpec.ofChange fnWitnessAlwaysExistsWrong)

/-- 'laws.FnWitnessUntilExists': WHATEVER THE INPUT: true; the input reads as it did. -/
def fnWitnessUntilExistsSpec : ChangeSpec := { name := "fnWitnessUntilExists", fn := fun _ => fun
  | [d1, d2] => { results := [.lit (.bool true)], args := [d1, d2] }
  | _ => none }
def fnWitnessUntilExistsRow : OpenClaim := { program := "ytppafngcahgagaagreat", sum := "435f55931b85a5a67355d6d9c9ec573849a24464eac11b9d439c235b2eaf969b", func := "loop.example/ltlcheck/laws.FnWitnessUntilExists", spec := "fnWitnessUntilExists", unfollowed := true, recurses := true, apart := false }
def FnWitnessUntilExistsSaid : Prop := fnWitnessUntilExistsRow.holds Tryz.pinned (OpenSpec.ofChange fnWitnessUntilExistsSpec)

/-- ITS FALSE NEIGHBOUR: 'it returns false'. Refute it at one input. -/
def fnWitnessUntilExistsWrong : ChangeSpec := { name := "fnWitnessUntilExists", fn := fun _ => fun
  | [d1, d2] => { results := [.lit (.bool false)], args := [d1, d2] }
  | _ => none }
def FnWitnessUntilExistsWrongFalsely : Prop := fnWitnessUntilExistsRow.holds Tryz.pinned (OpenSpec.ofChange fnWitnessUntilExistsWrong)

/-- 'laws.FnBlocksStable': WHATEVER THE INPUT: true; the input reads as it did. -/
def fnBlocksStableSpec : ChangeSpec := { name := "fnBlocksStable", fn := fun _ => fun
  | [d] => { results := [.lit (.bool true)], args := [d] }
  | _ => none }
def fnBlocksStableRow : OpenClaim := { program := "ytppafngcahgagaagreat", sum := "435f55931b85a5a67355d6d9c9ec573849a24464eac11b9d439c235b2eaf969b", func := "loop.example/ltlcheck/laws.FnBlocksStable", spec := "fnBlocksStable", unfollowed := true, recurses := true, apart := false }
def FnBlocksStableSaid : Prop := fnBlocksStableRow.holds Tryz.pinned (OpenSpec.ofChange fnBlocksStableSpec)

/-- ITS FALSE NEIGHBOUR: 'it returns false'. Refute it at one input. -/
def fnBlocksStableWrong : ChangeSpec := { name := "fnBlocksStable", fn := fun _ => fun
  | [d] => { results := [.lit (.bool false)], args := [d] }
  | _ => none }
def FnBlocksStableWrongFalsely : Prop := fnBlocksStableRow.holds Tryz.pinned (OpenSpec.ofChange fnBlocksStableWrong)

/-- 'laws.FnBisimilarStep': WHATEVER THE INPUT: true; the input reads as it did. -/
def fnBisimilarStepSpec : ChangeSpec := { name := "fnBisimilarStep", fn := fun _ => fun
  | [d] => { results := [.lit (.bool true)], args := [d] }
  | _ => none }
def fnBisimilarStepRow : OpenClaim := { program := "ytppafngcahgagaagreat", sum := "435f55931b85a5a67355d6d9c9ec573849a24464eac11b9d439c235b2eaf969b", func := "loop.example/ltlcheck/laws.FnBisimilarStep", spec := "fnBisimilarStep", unfollowed := true, recurses := true, apart := false }
def FnBisimilarStepSaid : Prop := fnBisimilarStepRow.holds Tryz.pinned (OpenSpec.ofChange fnBisimilarStepSpec)

/-- ITS FALSE NEIGHBOUR: 'it returns false'. Refute it at one input. -/
def fnBisimilarStepWrong : ChangeSpec := { name := "fnBisimilarStep", fn := fun _ => fun
  | [d] => { results := [.lit (.bool false)], args := [d] }
  | _ => none }
def FnBisimilarStepWrongFalsely : Prop := fnBisimilarStepRow.holds Tryz.pinned (OpenSpec.ofChange fnBisimilarStepWrong)

/-- 'laws.FnBisimilar': WHATEVER THE INPUT: true; the input reads as it did. -/
def fnBisimilarSpec : ChangeSpec := { name := "fnBisimilar", fn := fun _ => fun
  | [d1, d2] => { results := [.lit (.bool true)], args := [d1, d2] }
  | _ => none }
def fnBisimilarRow : OpenClaim := { program := "ytppafngcahgagaagreat", sum := "435f55931b85a5a67355d6d9c9ec573849a24464eac11b9d439c235b2eaf969b", func := "loop.example/ltlcheck/laws.FnBisimilar", spec := "fnBisimilar", unfollowed := true, recurses := true, apart := false }
def FnBisimilarSaid : Prop := fnBisimilarRow.holds Tryz.pinned (OpenSpec.ofChange fnBisimilarSpec)

/-- ITS FALSE NEIGHBOUR: 'it returns false'. Refute it at one input. -/
def fnBisimilarWrong : ChangeSpec := { name := "fnBisimilar", fn := fun _ => fun
  | [d1, d2] => { results := [.lit (.bool false)], args := [d1, d2] }
  | _ => none }
def FnBisimilarWrongFalsely : Prop := fnBisimilarRow.holds Tryz.pinned (OpenSpec.ofChange fnBisimilarWrong)

/-- 'laws.FnBisimulationFiner': WHATEVER THE INPUT: true; the input reads as it did. -/
def fnBisimulationFinerSpec : ChangeSpec := { name := "fnBisimulationFiner", fn := fun _ => fun
  | [d1, d2] => { results := [.lit (.bool true)], args := [d1, d2] }
  | _ => none }
def fnBisimulationFinerRow : OpenClaim := { program := "ytppafngcahgagaagreat", sum := "435f55931b85a5a67355d6d9c9ec573849a24464eac11b9d439c235b2eaf969b", func := "loop.example/ltlcheck/laws.FnBisimulationFiner", spec := "fnBisimulationFiner", unfollowed := true, recurses := true, apart := false }
def FnBisimulationFinerSaid : Prop := fnBisimulationFinerRow.holds Tryz.pinned (OpenSpec.ofChange fnBisimulationFinerSpec)

/-- ITS FALSE NEIGHBOUR: 'it returns false'. Refute it at one input. -/
def fnBisimulationFinerWrong : ChangeSpec := { name := "fnBisimulationFiner", fn := fun _ => fun
  | [d1, d2] => { results := [.lit (.bool false)], args := [d1, d2] }
  | _ => none }
def FnBisimulationFinerWrongFalsely : Prop := fnBisimulationFinerRow.holds Tryz.pinned (OpenSpec.ofChange fnBisimulationFinerWrong)

/-- 'laws.FnQuotientTwice': WHATEVER THE INPUT: true; the input reads as it did. -/
def fnQuotientTwiceSpec : ChangeSpec := { name := "fnQuotientTwice", fn := fun _ => fun
  | [d] => { results := [.lit (.bool true)], args := [d] }
  | _ => none }
def fnQuotientTwiceRow : OpenClaim := { program := "ytppafngcahgagaagreat", sum := "435f55931b85a5a67355d6d9c9ec573849a24464eac11b9d439c235b2eaf969b", func := "loop.example/ltlcheck/laws.FnQuotientTwice", spec := "fnQuotientTwice", unfollowed := true, recurses := true, apart := false }
def FnQuotientTwiceSaid : Prop := fnQuotientTwiceRow.holds Tryz.pinned (OpenSpec.ofChange fnQuotientTwiceSpec)

/-- ITS FALSE NEIGHBOUR: 'it returns false'. Refute it at one input. -/
def fnQuotientTwiceWrong : ChangeSpec := { name := "fnQuotientTwice", fn := fun _ => fun
  | [d] => { results := [.lit (.bool false)], args := [d] }
  | _ => none }
def FnQuotientTwiceWrongFalsely : Prop := fnQuotientTwiceRow.holds Tryz.pinned (OpenSpec.ofChange fnQuotientTwiceWrong)

/-- 'laws.FnBisimulation': WHATEVER THE INPUT: true; the input reads as it did. -/
def fnBisimulationSpec : ChangeSpec := { name := "fnBisimulation", fn := fun _ => fun
  | [d1, d2] => { results := [.lit (.bool true)], args := [d1, d2] }
  | _ => none }
def fnBisimulationRow : OpenClaim := { program := "ytppafngcahgagaagreat", sum := "435f55931b85a5a67355d6d9c9ec573849a24464eac11b9d439c235b2eaf969b", func := "loop.example/ltlcheck/laws.FnBisimulation", spec := "fnBisimulation", unfollowed := true, recurses := true, apart := false }
def FnBisimulationSaid : Prop := fnBisimulationRow.holds Tryz.pinned (OpenSpec.ofChange fnBisimulationSpec)

/-- ITS FALSE NEIGHBOUR: 'it returns false'. Refute it at one input. -/
def fnBisimulationWrong : ChangeSpec := { name := "fnBisimulation", fn := fun _ => fun
  | [d1, d2] => { results := [.lit (.bool false)], args := [d1, d2] }
  | _ => none }
def FnBisimulationWrongFalsely : Prop := fnBisimulationRow.holds Tryz.pinned (OpenSpec.ofChange fnBisimulationWrong)

/-- 'laws.FnQuotientSingle': WHATEVER THE INPUT: true; the input reads as it did. -/
def fnQuotientSingleSpec : ChangeSpec := { name := "fnQuotientSingle", fn := fun _ => fun
  | [d] => { results := [.lit (.bool true)], args := [d] }
  | _ => none }
def fnQuotientSingleRow : OpenClaim := { program := "ytppafngcahgagaagreat", sum := "435f55931b85a5a67355d6d9c9ec573849a24464eac11b9d439c235b2eaf969b", func := "loop.example/ltlcheck/laws.FnQuotientSingle", spec := "fnQuotientSingle", unfollowed := true, recurses := true, apart := false }
def FnQuotientSingleSaid : Prop := fnQuotientSingleRow.holds Tryz.pinned (OpenSpec.ofChange fnQuotientSingleSpec)

/-- ITS FALSE NEIGHBOUR: 'it returns false'. Refute it at one input. -/
def fnQuotientSingleWrong : ChangeSpec := { name := "fnQuotientSingle", fn := fun _ => fun
  | [d] => { results := [.lit (.bool false)], args := [d] }
  | _ => none }
def FnQuotientSingleWrongFalsely : Prop := fnQuotientSingleRow.holds Tryz.pinned (OpenSpec.ofChange fnQuotientSingleWrong)

/-- 'laws.FnBranchingBisimilar': WHATEVER THE INPUT: true; the input reads as it did. -/
def fnBranchingBisimilarSpec : ChangeSpec := { name := "fnBranchingBisimilar", fn := fun _ => fun
  | [d] => { results := [.lit (.bool true)], args := [d] }
  | _ => none }
def fnBranchingBisimilarRow : OpenClaim := { program := "ytppafngcahgagaagreat", sum := "435f55931b85a5a67355d6d9c9ec573849a24464eac11b9d439c235b2eaf969b", func := "loop.example/ltlcheck/laws.FnBranchingBisimilar", spec := "fnBranchingBisimilar", unfollowed := true, recurses := true, apart := false }
def FnBranchingBisimilarSaid : Prop := fnBranchingBisimilarRow.holds Tryz.pinned (OpenSpec.ofChange fnBranchingBisimilarSpec)

/-- ITS FALSE NEIGHBOUR: 'it returns false'. Refute it at one input. -/
def fnBranchingBisimilarWrong : ChangeSpec := { name := "fnBranchingBisimilar", fn := fun _ => fun
  | [d] => { results := [.lit (.bool false)], args := [d] }
  | _ => none }
def FnBranchingBisimilarWrongFalsely : Prop := fnBranchingBisimilarRow.holds Tryz.pinned (OpenSpec.ofChange fnBranchingBisimilarWrong)

/-- 'laws.FnProductReach': WHATEVER THE INPUT: true; the input reads as it did. -/
def fnProductReachSpec : ChangeSpec := { name := "fnProductReach", fn := fun _ => fun
  | [d] => { results := [.lit (.bool true)], args := [d] }
  | _ => none }
def fnProductReachRow : OpenClaim := { program := "ytppafngcahgagaagreat", sum := "435f55931b85a5a67355d6d9c9ec573849a24464eac11b9d439c235b2eaf969b", func := "loop.example/ltlcheck/laws.FnProductReach", spec := "fnProductReach", unfollowed := true, recurses := true, apart := false }
def FnProductReachSaid : Prop := fnProductReachRow.holds Tryz.pinned (OpenSpec.ofChange fnProductReachSpec)

/-- ITS FALSE NEIGHBOUR: 'it returns false'. Refute it at one input. -/
def fnProductReachWrong : ChangeSpec := { name := "fnProductReach", fn := fun _ => fun
  | [d] => { results := [.lit (.bool false)], args := [d] }
  | _ => none }
def FnProductReachWrongFalsely : Prop := fnProductReachRow.holds Tryz.pinned (OpenSpec.ofChange fnProductReachWrong)

/-- 'laws.FnReduceCertificate': WHATEVER THE INPUT: true; the input reads as it did. -/
def fnReduceCertificateSpec : ChangeSpec := { name := "fnReduceCertificate", fn := fun _ => fun
  | [d] => { results := [.lit (.bool true)], args := [d] }
  | _ => none }
def fnReduceCertificateRow : OpenClaim := { program := "ytppafngcahgagaagreat", sum := "435f55931b85a5a67355d6d9c9ec573849a24464eac11b9d439c235b2eaf969b", func := "loop.example/ltlcheck/laws.FnReduceCertificate", spec := "fnReduceCertificate", unfollowed := true, recurses := true, apart := false }
def FnReduceCertificateSaid : Prop := fnReduceCertificateRow.holds Tryz.pinned (OpenSpec.ofChange fnReduceCertificateSpec)

/-- ITS FALSE NEIGHBOUR: 'it returns false'. Refute it at one input. -/
def fnReduceCertificateWrong : ChangeSpec := { name := "fnReduceCertificate", fn := fun _ => fun
  | [d] => { results := [.lit (.bool false)], args := [d] }
  | _ => none }
def FnReduceCertificateWrongFalsely : Prop := fnReduceCertificateRow.holds Tryz.pinned (OpenSpec.ofChange fnReduceCertificateWrong)

/- THE SECOND FORM. 'bulk': how many values and letters a reading holds, each counted each time it is reached (what is shared counts as often as it is met; a slice's spare places count too). A statement '..UptoSaid' is the law's where the arguments, and the package variables that the reading takes, are together of bulk at most 1048576: NARROWER than '..Said'. Prove '..Said' where nothing that the law and all that it calls make is longer than what came in: it says more and counts as full. Else prove '..UptoSaid'. A law counts once. -/
mutual
def uptoBulk {H : Type} : DataW H → Nat
  | .lit (.string bytes) => bytes.length + 1
  | .lit _ => 1
  | .nil => 1
  | .ptr d => uptoBulk d + 1
  | .slice elems spare => uptoBulkAll elems + uptoBulkAll spare + 1
  | .agg parts => uptoBulkAll parts + 1
  | .iface _ d => uptoBulk d + 1
  | .map entries => uptoBulkEntries entries + 1
  | .held _ => 1
def uptoBulkAll {H : Type} : List (DataW H) → Nat
  | [] => 0
  | d :: r => uptoBulk d + uptoBulkAll r
def uptoBulkEntries {H : Type} : List (Lit × DataW H) → Nat
  | [] => 0
  | x :: r => uptoBulkEntry x + uptoBulkEntries r
def uptoBulkEntry {H : Type} : Lit × DataW H → Nat
  | (.string bytes, d) => bytes.length + uptoBulk d + 1
  | (_, d) => uptoBulk d + 1
 end
def uptoSmall : (H : Type) → List (DataW H) → Bool := fun _ ds => decide (uptoBulkAll ds ≤ 1048576)
def OpenSpec.upto (s : _root_.Go.ChangeSpec) : _root_.Go.OpenSpec := { _root_.Go.OpenSpec.ofChange s with cond := some uptoSmall }

/-- 'laws.FnWitnessAlwaysExists', WHERE WHAT IT READS IS OF BULK AT MOST 1048576: true; the input reads as it did. -/
def fnWitnessAlwaysExistsUptoRow : OpenClaim := { program := "ytppafngcahgagaagreat", sum := "435f55931b85a5a67355d6d9c9ec573849a24464eac11b9d439c235b2eaf969b", func := "loop.example/ltlcheck/laws.FnWitnessAlwaysExists", spec := "fnWitnessAlwaysExists", unfollowed := true, recurses := true, apart := false, narrowed := true }
def FnWitnessAlwaysExistsUptoSaid : Prop := fnWitnessAlwaysExistsUptoRow.holds Tryz.pinned (OpenSpec.upto fnWitnessAlwaysExistsSpec)

/-- 'laws.FnWitnessUntilExists', WHERE WHAT IT READS IS OF BULK AT MOST 1048576: true; the input reads as it did. -/
def fnWitnessUntilExistsUptoRow : OpenClaim := { program := "ytppafngcahgagaagreat", sum := "435f55931b85a5a67355d6d9c9ec573849a24464eac11b9d439c235b2eaf969b", func := "loop.example/ltlcheck/laws.FnWitnessUntilExists", spec := "fnWitnessUntilExists", unfollowed := true, recurses := true, apart := false, narrowed := true }
def FnWitnessUntilExistsUptoSaid : Prop := fnWitnessUntilExistsUptoRow.holds Tryz.pinned (OpenSpec.upto fnWitnessUntilExistsSpec)

/-- 'laws.FnBlocksStable', WHERE WHAT IT READS IS OF BULK AT MOST 1048576: true; the input reads as it did. -/
def fnBlocksStableUptoRow : OpenClaim := { program := "ytppafngcahgagaagreat", sum := "435f55931b85a5a67355d6d9c9ec573849a24464eac11b9d439c235b2eaf969b", func := "loop.example/ltlcheck/laws.FnBlocksStable", spec := "fnBlocksStable", unfollowed := true, recurses := true, apart := false, narrowed := true }
def FnBlocksStableUptoSaid : Prop := fnBlocksStableUptoRow.holds Tryz.pinned (OpenSpec.upto fnBlocksStableSpec)

/-- 'laws.FnBisimilarStep', WHERE WHAT IT READS IS OF BULK AT MOST 1048576: true; the input reads as it did. -/
def fnBisimilarStepUptoRow : OpenClaim := { program := "ytppafngcahgagaagreat", sum := "435f55931b85a5a67355d6d9c9ec573849a24464eac11b9d439c235b2eaf969b", func := "loop.example/ltlcheck/laws.FnBisimilarStep", spec := "fnBisimilarStep", unfollowed := true, recurses := true, apart := false, narrowed := true }
def FnBisimilarStepUptoSaid : Prop := fnBisimilarStepUptoRow.holds Tryz.pinned (OpenSpec.upto fnBisimilarStepSpec)

/-- 'laws.FnBisimilar', WHERE WHAT IT READS IS OF BULK AT MOST 1048576: true; the input reads as it did. -/
def fnBisimilarUptoRow : OpenClaim := { program := "ytppafngcahgagaagreat", sum := "435f55931b85a5a67355d6d9c9ec573849a24464eac11b9d439c235b2eaf969b", func := "loop.example/ltlcheck/laws.FnBisimilar", spec := "fnBisimilar", unfollowed := true, recurses := true, apart := false, narrowed := true }
def FnBisimilarUptoSaid : Prop := fnBisimilarUptoRow.holds Tryz.pinned (OpenSpec.upto fnBisimilarSpec)

/-- 'laws.FnBisimulationFiner', WHERE WHAT IT READS IS OF BULK AT MOST 1048576: true; the input reads as it did. -/
def fnBisimulationFinerUptoRow : OpenClaim := { program := "ytppafngcahgagaagreat", sum := "435f55931b85a5a67355d6d9c9ec573849a24464eac11b9d439c235b2eaf969b", func := "loop.example/ltlcheck/laws.FnBisimulationFiner", spec := "fnBisimulationFiner", unfollowed := true, recurses := true, apart := false, narrowed := true }
def FnBisimulationFinerUptoSaid : Prop := fnBisimulationFinerUptoRow.holds Tryz.pinned (OpenSpec.upto fnBisimulationFinerSpec)

/-- 'laws.FnQuotientTwice', WHERE WHAT IT READS IS OF BULK AT MOST 1048576: true; the input reads as it did. -/
def fnQuotientTwiceUptoRow : OpenClaim := { program := "ytppafngcahgagaagreat", sum := "435f55931b85a5a67355d6d9c9ec573849a24464eac11b9d439c235b2eaf969b", func := "loop.example/ltlcheck/laws.FnQuotientTwice", spec := "fnQuotientTwice", unfollowed := true, recurses := true, apart := false, narrowed := true }
def FnQuotientTwiceUptoSaid : Prop := fnQuotientTwiceUptoRow.holds Tryz.pinned (OpenSpec.upto fnQuotientTwiceSpec)

/-- 'laws.FnBisimulation', WHERE WHAT IT READS IS OF BULK AT MOST 1048576: true; the input reads as it did. -/
def fnBisimulationUptoRow : OpenClaim := { program := "ytppafngcahgagaagreat", sum := "435f55931b85a5a67355d6d9c9ec573849a24464eac11b9d439c235b2eaf969b", func := "loop.example/ltlcheck/laws.FnBisimulation", spec := "fnBisimulation", unfollowed := true, recurses := true, apart := false, narrowed := true }
def FnBisimulationUptoSaid : Prop := fnBisimulationUptoRow.holds Tryz.pinned (OpenSpec.upto fnBisimulationSpec)

/-- 'laws.FnQuotientSingle', WHERE WHAT IT READS IS OF BULK AT MOST 1048576: true; the input reads as it did. -/
def fnQuotientSingleUptoRow : OpenClaim := { program := "ytppafngcahgagaagreat", sum := "435f55931b85a5a67355d6d9c9ec573849a24464eac11b9d439c235b2eaf969b", func := "loop.example/ltlcheck/laws.FnQuotientSingle", spec := "fnQuotientSingle", unfollowed := true, recurses := true, apart := false, narrowed := true }
def FnQuotientSingleUptoSaid : Prop := fnQuotientSingleUptoRow.holds Tryz.pinned (OpenSpec.upto fnQuotientSingleSpec)

/-- 'laws.FnBranchingBisimilar', WHERE WHAT IT READS IS OF BULK AT MOST 1048576: true; the input reads as it did. -/
def fnBranchingBisimilarUptoRow : OpenClaim := { program := "ytppafngcahgagaagreat", sum := "435f55931b85a5a67355d6d9c9ec573849a24464eac11b9d439c235b2eaf969b", func := "loop.example/ltlcheck/laws.FnBranchingBisimilar", spec := "fnBranchingBisimilar", unfollowed := true, recurses := true, apart := false, narrowed := true }
def FnBranchingBisimilarUptoSaid : Prop := fnBranchingBisimilarUptoRow.holds Tryz.pinned (OpenSpec.upto fnBranchingBisimilarSpec)

/-- 'laws.FnProductReach', WHERE WHAT IT READS IS OF BULK AT MOST 1048576: true; the input reads as it did. -/
def fnProductReachUptoRow : OpenClaim := { program := "ytppafngcahgagaagreat", sum := "435f55931b85a5a67355d6d9c9ec573849a24464eac11b9d439c235b2eaf969b", func := "loop.example/ltlcheck/laws.FnProductReach", spec := "fnProductReach", unfollowed := true, recurses := true, apart := false, narrowed := true }
def FnProductReachUptoSaid : Prop := fnProductReachUptoRow.holds Tryz.pinned (OpenSpec.upto fnProductReachSpec)

/-- 'laws.FnReduceCertificate', WHERE WHAT IT READS IS OF BULK AT MOST 1048576: true; the input reads as it did. -/
def fnReduceCertificateUptoRow : OpenClaim := { program := "ytppafngcahgagaagreat", sum := "435f55931b85a5a67355d6d9c9ec573849a24464eac11b9d439c235b2eaf969b", func := "loop.example/ltlcheck/laws.FnReduceCertificate", spec := "fnReduceCertificate", unfollowed := true, recurses := true, apart := false, narrowed := true }
def FnReduceCertificateUptoSaid : Prop := fnReduceCertificateUptoRow.holds Tryz.pinned (OpenSpec.upto fnReduceCertificateSpec)

end Rows
end Go.Proofs.YtppafngcahgagaaGreat
