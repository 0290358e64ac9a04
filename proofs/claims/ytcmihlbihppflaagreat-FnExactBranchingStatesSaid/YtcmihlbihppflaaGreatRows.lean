/-
  NARROWER THAN 'FOR EVERY INPUT', by the rows' own cells (each row's printed sentence says how): FnExactProductReach: loops · FnExactReduceCertificate: loops · FnExactBranchingStates: loops · FnExactFindTrace: loops · FnExactMakeCertificate: loops · FnExactBisimilar: loops · FnExactBlocksStable: loops · FnExactBisimulation: loops · FnExactVerifyFormula: loops.
  DERIVED. THE GIVEN ROWS OF THIS SEAT. 9 by the template 'for every input the law returns true; each argument reads behind the call as it read before'; 0 by the template 'total and deterministic' (their statements: YtcmihlbihppflaaGreatTotals.lean).
  GIVEN WITH THE SEED: the statements are not yours to turn. If you find one false, say at which input.
  Laid BY PROGRAM, IN A SANDBOX (cutbox-rows.mjs): the forced cells as the released guide's own fill.sh prints them over the translation 21e657a4fed3d0d3… (all of the seat's roots in one cut). By AI agents, Wed Nov 11 2026. No macro, syntax, notation, axiom, sorry.
-/
import Derived.Test.YtcmihlbihppflaaGreatChecked
import GoSem.Claim
import GoSem.ClaimJoined
import GoSem.ClaimMapViews
import Derived.JoinedTies
import Derived.KernelRfl
namespace Go.Proofs.YtcmihlbihppflaaGreat
/- THE CELL 'sum', in the pinned program and in every row, IS THE sha256 OF THE DUMP (.gsa) THAT YtcmihlbihppflaaGreatProg.lean LOADS. Nothing in Lean hashes anything: it is a label: what it is worth is what the hold of that sum in a sandbox is worth. -/
noncomputable def Tryz.pinned : Pinned := { name := "ytcmihlbihppflaagreat", sum := "21e657a4fed3d0d35b6b474a8180cb5f28792767981cf8c68dd024de82f18957", checked := Tryz.checked }
namespace Rows
def none {H : Type} : Left H := { results := [], args := [] }

/-- 'laws.FnExactProductReach': WHATEVER THE INPUT: true; the input reads as it did. -/
def fnExactProductReachSpec : ChangeSpec := { name := "fnExactProductReach", fn := fun _ => fun
  | [d1, d2, d3] => { results := [.lit (.bool true)], args := [d1, d2, d3] }
  | _ => none }
def fnExactProductReachRow : OpenClaim := { program := "ytcmihlbihppflaagreat", sum := "21e657a4fed3d0d35b6b474a8180cb5f28792767981cf8c68dd024de82f18957", func := "loop.example/ltlcheck/laws.FnExactProductReach", spec := "fnExactProductReach", unfollowed := true, recurses := true, loops := true, plainKeys := false, apart := false }
def FnExactProductReachSaid : Prop := fnExactProductReachRow.holds Tryz.pinned (OpenSpec.ofChange fnExactProductReachSpec)

/-- ITS FALSE NEIGHBOUR: 'it returns false'. Refute it at one input. -/
def fnExactProductReachWrong : ChangeSpec := { name := "fnExactProductReach", fn := fun _ => fun
  | [d1, d2, d3] => { results := [.lit (.bool false)], args := [d1, d2, d3] }
  | _ => none }
def FnExactProductReachWrongFalsely : Prop := fnExactProductReachRow.holds Tryz.pinned (OpenSpec.ofChange fnExactProductReachWrong)

/-- 'laws.FnExactReduceCertificate': WHATEVER THE INPUT: true; the input reads as it did. -/
def fnExactReduceCertificateSpec : ChangeSpec := { name := "fnExactReduceCertificate", fn := fun _ => fun
  | [d1, d2, d3, d4] => { results := [.lit (.bool true)], args := [d1, d2, d3, d4] }
  | _ => none }
def fnExactReduceCertificateRow : OpenClaim := { program := "ytcmihlbihppflaagreat", sum := "21e657a4fed3d0d35b6b474a8180cb5f28792767981cf8c68dd024de82f18957", func := "loop.example/ltlcheck/laws.FnExactReduceCertificate", spec := "fnExactReduceCertificate", unfollowed := true, recurses := true, loops := true, plainKeys := false, apart := false }
def FnExactReduceCertificateSaid : Prop := fnExactReduceCertificateRow.holds Tryz.pinned (OpenSpec.ofChange fnExactReduceCertificateSpec)

/-- ITS FALSE NEIGHBOUR: 'it returns false'. Refute it at one input. -/
def fnExactReduceCertificateWrong : ChangeSpec := { name := "fnExactReduceCertificate", fn := fun _ => fun
  | [d1, d2, d3, d4] => { results := [.lit (.bool false)], args := [d1, d2, d3, d4] }
  | _ => none }
def FnExactReduceCertificateWrongFalsely : Prop := fnExactReduceCertificateRow.holds Tryz.pinned (OpenSpec.ofChange fnExactReduceCertificateWrong)

/-- 'laws.FnExactBranchingStates': WHATEVER THE INPUT: true; the input reads as it did. -/
def fnExactBranchingStatesSpec : ChangeSpec := { name := "fnExactBranchingStates", fn := fun _ => fun
  | [d1, d2, d3] => { results := [.lit (.bool true)], args := [d1, d2, d3] }
  | _ => none }
def fnExactBranchingStatesRow : OpenClaim := { program := "ytcmihlbihppflaagreat", sum := "21e657a4fed3d0d35b6b474a8180cb5f28792767981cf8c68dd024de82f18957", func := "loop.example/ltlcheck/laws.FnExactBranchingStates", spec := "fnExactBranchingStates", unfollowed := true, recurses := true, loops := true, plainKeys := false, apart := false }
def FnExactBranchingStatesSaid : Prop := fnExactBranchingStatesRow.holds Tryz.pinned (OpenSpec.ofChange fnExactBranchingStatesSpec)

/-- ITS FALSE NEIGHBOUR: 'it returns false'. Refute it at one input. -/
def fnExactBranchingStatesWrong : ChangeSpec := { name := "fnExactBranchingStates", fn := fun _ => fun
  | [d1, d2, d3] => { results := [.lit (.bool false)], args := [d1, d2, d3] }
  | _ => none }
def FnExactBranchingStatesWrongFalsely : Prop := fnExactBranchingStatesRow.holds Tryz.pinned (OpenSpec.ofChange fnExactBranchingStatesWrong)

/-- 'laws.FnExactFindTrace': WHATEVER THE INPUT: true; the input reads as it did. -/
def fnExactFindTraceSpec : ChangeSpec := { name := "fnExactFindTrace", fn := fun _ => fun
  | [d1, d2, d3] => { results := [.lit (.bool true)], args := [d1, d2, d3] }
  | _ => none }
def fnExactFindTraceRow : OpenClaim := { program := "ytcmihlbihppflaagreat", sum := "21e657a4fed3d0d35b6b474a8180cb5f28792767981cf8c68dd024de82f18957", func := "loop.example/ltlcheck/laws.FnExactFindTrace", spec := "fnExactFindTrace", unfollowed := true, recurses := true, loops := true, plainKeys := false, apart := false }
def FnExactFindTraceSaid : Prop := fnExactFindTraceRow.holds Tryz.pinned (OpenSpec.ofChange fnExactFindTraceSpec)

/-- ITS FALSE NEIGHBOUR: 'it returns false'. Refute it at one input. -/
def fnExactFindTraceWrong : ChangeSpec := { name := "fnExactFindTrace", fn := fun _ => fun
  | [d1, d2, d3] => { results := [.lit (.bool false)], args := [d1, d2, d3] }
  | _ => none }
def FnExactFindTraceWrongFalsely : Prop := fnExactFindTraceRow.holds Tryz.pinned (OpenSpec.ofChange fnExactFindTraceWrong)

/-- 'laws.FnExactMakeCertificate': WHATEVER THE INPUT: true; the input reads as it did. -/
def fnExactMakeCertificateSpec : ChangeSpec := { name := "fnExactMakeCertificate", fn := fun _ => fun
  | [d1, d2, d3] => { results := [.lit (.bool true)], args := [d1, d2, d3] }
  | _ => none }
def fnExactMakeCertificateRow : OpenClaim := { program := "ytcmihlbihppflaagreat", sum := "21e657a4fed3d0d35b6b474a8180cb5f28792767981cf8c68dd024de82f18957", func := "loop.example/ltlcheck/laws.FnExactMakeCertificate", spec := "fnExactMakeCertificate", unfollowed := true, recurses := true, loops := true, plainKeys := false, apart := false }
def FnExactMakeCertificateSaid : Prop := fnExactMakeCertificateRow.holds Tryz.pinned (OpenSpec.ofChange fnExactMakeCertificateSpec)

/-- ITS FALSE NEIGHBOUR: 'it returns false'. Refute it at one input. -/
def fnExactMakeCertificateWrong : ChangeSpec := { name := "fnExactMakeCertificate", fn := fun _ => fun
  | [d1, d2, d3] => { results := [.lit (.bool false)], args := [d1, d2, d3] }
  | _ => none }
def FnExactMakeCertificateWrongFalsely : Prop := fnExactMakeCertificateRow.holds Tryz.pinned (OpenSpec.ofChange fnExactMakeCertificateWrong)

/-- 'laws.FnExactBisimilar': WHATEVER THE INPUT: true; the input reads as it did. -/
def fnExactBisimilarSpec : ChangeSpec := { name := "fnExactBisimilar", fn := fun _ => fun
  | [d1, d2, d3, d4] => { results := [.lit (.bool true)], args := [d1, d2, d3, d4] }
  | _ => none }
def fnExactBisimilarRow : OpenClaim := { program := "ytcmihlbihppflaagreat", sum := "21e657a4fed3d0d35b6b474a8180cb5f28792767981cf8c68dd024de82f18957", func := "loop.example/ltlcheck/laws.FnExactBisimilar", spec := "fnExactBisimilar", unfollowed := true, recurses := true, loops := true, plainKeys := false, apart := false }
def FnExactBisimilarSaid : Prop := fnExactBisimilarRow.holds Tryz.pinned (OpenSpec.ofChange fnExactBisimilarSpec)

/-- ITS FALSE NEIGHBOUR: 'it returns false'. Refute it at one input. -/
def fnExactBisimilarWrong : ChangeSpec := { name := "fnExactBisimilar", fn := fun _ => fun
  | [d1, d2, d3, d4] => { results := [.lit (.bool false)], args := [d1, d2, d3, d4] }
  | _ => none }
def FnExactBisimilarWrongFalsely : Prop := fnExactBisimilarRow.holds Tryz.pinned (OpenSpec.ofChange fnExactBisimilarWrong)

/-- 'laws.FnExactBlocksStable': WHATEVER THE INPUT: true; the input reads as it did. -/
def fnExactBlocksStableSpec : ChangeSpec := { name := "fnExactBlocksStable", fn := fun _ => fun
  | [d1, d2, d3] => { results := [.lit (.bool true)], args := [d1, d2, d3] }
  | _ => none }
def fnExactBlocksStableRow : OpenClaim := { program := "ytcmihlbihppflaagreat", sum := "21e657a4fed3d0d35b6b474a8180cb5f28792767981cf8c68dd024de82f18957", func := "loop.example/ltlcheck/laws.FnExactBlocksStable", spec := "fnExactBlocksStable", unfollowed := true, recurses := true, loops := true, plainKeys := false, apart := false }
def FnExactBlocksStableSaid : Prop := fnExactBlocksStableRow.holds Tryz.pinned (OpenSpec.ofChange fnExactBlocksStableSpec)

/-- ITS FALSE NEIGHBOUR: 'it returns false'. Refute it at one input. -/
def fnExactBlocksStableWrong : ChangeSpec := { name := "fnExactBlocksStable", fn := fun _ => fun
  | [d1, d2, d3] => { results := [.lit (.bool false)], args := [d1, d2, d3] }
  | _ => none }
def FnExactBlocksStableWrongFalsely : Prop := fnExactBlocksStableRow.holds Tryz.pinned (OpenSpec.ofChange fnExactBlocksStableWrong)

/-- 'laws.FnExactBisimulation': WHATEVER THE INPUT: true; the input reads as it did. -/
def fnExactBisimulationSpec : ChangeSpec := { name := "fnExactBisimulation", fn := fun _ => fun
  | [d1, d2] => { results := [.lit (.bool true)], args := [d1, d2] }
  | _ => none }
def fnExactBisimulationRow : OpenClaim := { program := "ytcmihlbihppflaagreat", sum := "21e657a4fed3d0d35b6b474a8180cb5f28792767981cf8c68dd024de82f18957", func := "loop.example/ltlcheck/laws.FnExactBisimulation", spec := "fnExactBisimulation", unfollowed := true, recurses := true, loops := true, plainKeys := false, apart := false }
def FnExactBisimulationSaid : Prop := fnExactBisimulationRow.holds Tryz.pinned (OpenSpec.ofChange fnExactBisimulationSpec)

/-- ITS FALSE NEIGHBOUR: 'it returns false'. Refute it at one input. -/
def fnExactBisimulationWrong : ChangeSpec := { name := "fnExactBisimulation", fn := fun _ => fun
  | [d1, d2] => { results := [.lit (.bool false)], args := [d1, d2] }
  | _ => none }
def FnExactBisimulationWrongFalsely : Prop := fnExactBisimulationRow.holds Tryz.pinned (OpenSpec.ofChange fnExactBisimulationWrong)

/-- 'laws.FnExactVerifyFormula': WHATEVER THE INPUT: true; the input reads as it did. -/
def fnExactVerifyFormulaSpec : ChangeSpec := { name := "fnExactVerifyFormula", fn := fun _ => fun
  | [d1, d2, d3, d4] => { results := [.lit (.bool true)], args := [d1, d2, d3, d4] }
  | _ => none }
def fnExactVerifyFormulaRow : OpenClaim := { program := "ytcmihlbihppflaagreat", sum := "21e657a4fed3d0d35b6b474a8180cb5f28792767981cf8c68dd024de82f18957", func := "loop.example/ltlcheck/laws.FnExactVerifyFormula", spec := "fnExactVerifyFormula", unfollowed := true, recurses := true, loops := true, plainKeys := false, apart := false }
def FnExactVerifyFormulaSaid : Prop := fnExactVerifyFormulaRow.holds Tryz.pinned (OpenSpec.ofChange fnExactVerifyFormulaSpec)

/-- ITS FALSE NEIGHBOUR: 'it returns false'. Refute it at one input. -/
def fnExactVerifyFormulaWrong : ChangeSpec := { name := "fnExactVerifyFormula", fn := fun _ => fun
  | [d1, d2, d3, d4] => { results := [.lit (.bool false)], args := [d1, d2, d3, d4] }
  | _ => none }
def FnExactVerifyFormulaWrongFalsely : Prop := fnExactVerifyFormulaRow.holds Tryz.pinned (OpenSpec.ofChange fnExactVerifyFormulaWrong)

/- THE SECOND FORM. 'bulk': how many values and letters a reading holds, each counted each time it is reached (what is shared counts as often as it is met; a slice's spare places count too). A statement '..UptoSaid' is the law's where the arguments, and the package variables that the reading takes, are together of bulk at most 1048576: NARROWER than '..Said'. Prove '..Said' where nothing that the law and all that it calls make is longer than what came in: it says more and counts as full. Else prove '..UptoSaid'. A law counts once. -/
mutual
def uptoBulk {H : Type} : DataW H → Nat
  | .lit (.string bytes) => bytes.length + 1
  | .lit _ => 1
  | .nil => 1
  | .ptr d => uptoBulk d + 1
  | .slice elems spare => uptoBulkAll elems + uptoBulkAll spare + 1
  | .agg parts => uptoBulkAll parts + 1
  | .iface _ d => uptoBulk d + 1
  | .map entries => uptoBulkEntries entries + 1
  | .held _ => 1
def uptoBulkAll {H : Type} : List (DataW H) → Nat
  | [] => 0
  | d :: r => uptoBulk d + uptoBulkAll r
def uptoBulkEntries {H : Type} : List (Lit × DataW H) → Nat
  | [] => 0
  | x :: r => uptoBulkEntry x + uptoBulkEntries r
def uptoBulkEntry {H : Type} : Lit × DataW H → Nat
  | (.string bytes, d) => bytes.length + uptoBulk d + 1
  | (_, d) => uptoBulk d + 1
 end
def uptoSmall : (H : Type) → List (DataW H) → Bool := fun _ ds => decide (uptoBulkAll ds ≤ 1048576)
def OpenSpec.upto (s : _root_.Go.ChangeSpec) : _root_.Go.OpenSpec := { _root_.Go.OpenSpec.ofChange s with cond := some uptoSmall }

/-- 'laws.FnExactProductReach', WHERE WHAT IT READS IS OF BULK AT MOST 1048576: true; the input reads as it did. -/
def fnExactProductReachUptoRow : OpenClaim := { program := "ytcmihlbihppflaagreat", sum := "21e657a4fed3d0d35b6b474a8180cb5f28792767981cf8c68dd024de82f18957", func := "loop.example/ltlcheck/laws.FnExactProductReach", spec := "fnExactProductReach", unfollowed := true, recurses := true, loops := true, plainKeys := false, apart := false, narrowed := true }
def FnExactProductReachUptoSaid : Prop := fnExactProductReachUptoRow.holds Tryz.pinned (OpenSpec.upto fnExactProductReachSpec)

/-- 'laws.FnExactReduceCertificate', WHERE WHAT IT READS IS OF BULK AT MOST 1048576: true; the input reads as it did. -/
def fnExactReduceCertificateUptoRow : OpenClaim := { program := "ytcmihlbihppflaagreat", sum := "21e657a4fed3d0d35b6b474a8180cb5f28792767981cf8c68dd024de82f18957", func := "loop.example/ltlcheck/laws.FnExactReduceCertificate", spec := "fnExactReduceCertificate", unfollowed := true, recurses := true, loops := true, plainKeys := false, apart := false, narrowed := true }
def FnExactReduceCertificateUptoSaid : Prop := fnExactReduceCertificateUptoRow.holds Tryz.pinned (OpenSpec.upto fnExactReduceCertificateSpec)

/-- 'laws.FnExactBranchingStates', WHERE WHAT IT READS IS OF BULK AT MOST 1048576: true; the input reads as it did. -/
def fnExactBranchingStatesUptoRow : OpenClaim := { program := "ytcmihlbihppflaagreat", sum := "21e657a4fed3d0d35b6b474a8180cb5f28792767981cf8c68dd024de82f18957", func := "loop.example/ltlcheck/laws.FnExactBranchingStates", spec := "fnExactBranchingStates", unfollowed := true, recurses := true, loops := true, plainKeys := false, apart := false, narrowed := true }
def FnExactBranchingStatesUptoSaid : Prop := fnExactBranchingStatesUptoRow.holds Tryz.pinned (OpenSpec.upto fnExactBranchingStatesSpec)

/-- 'laws.FnExactFindTrace', WHERE WHAT IT READS IS OF BULK AT MOST 1048576: true; the input reads as it did. -/
def fnExactFindTraceUptoRow : OpenClaim := { program := "ytcmihlbihppflaagreat", sum := "21e657a4fed3d0d35b6b474a8180cb5f28792767981cf8c68dd024de82f18957", func := "loop.example/ltlcheck/laws.FnExactFindTrace", spec := "fnExactFindTrace", unfollowed := true, recurses := true, loops := true, plainKeys := false, apart := false, narrowed := true }
def FnExactFindTraceUptoSaid : Prop := fnExactFindTraceUptoRow.holds Tryz.pinned (OpenSpec.upto fnExactFindTraceSpec)

/-- 'laws.FnExactMakeCertificate', WHERE WHAT IT READS IS OF BULK AT MOST 1048576: true; the input reads as it did. -/
def fnExactMakeCertificateUptoRow : OpenClaim := { program := "ytcmihlbihppflaagreat", sum := "21e657a4fed3d0d35b6b474a8180cb5f28792767981cf8c68dd024de82f18957", func := "loop.example/ltlcheck/laws.FnExactMakeCertificate", spec := "fnExactMakeCertificate", unfollowed := true, recurses := true, loops := true, plainKeys := false, apart := false, narrowed := true }
def FnExactMakeCertificateUptoSaid : Prop := fnExactMakeCertificateUptoRow.holds Tryz.pinned (OpenSpec.upto fnExactMakeCertificateSpec)

/-- 'laws.FnExactBisimilar', WHERE WHAT IT READS IS OF BULK AT MOST 1048576: true; the input reads as it did. -/
def fnExactBisimilarUptoRow : OpenClaim := { program := "ytcmihlbihppflaagreat", sum := "21e657a4fed3d0d35b6b474a8180cb5f28792767981cf8c68dd024de82f18957", func := "loop.example/ltlcheck/laws.FnExactBisimilar", spec := "fnExactBisimilar", unfollowed := true, recurses := true, loops := true, plainKeys := false, apart := false, narrowed := true }
def FnExactBisimilarUptoSaid : Prop := fnExactBisimilarUptoRow.holds Tryz.pinned (OpenSpec.upto fnExactBisimilarSpec)

/-- 'laws.FnExactBlocksStable', WHERE WHAT IT READS IS OF BULK AT MOST 1048576: true; the input reads as it did. -/
def fnExactBlocksStableUptoRow : OpenClaim := { program := "ytcmihlbihppflaagreat", sum := "21e657a4fed3d0d35b6b474a8180cb5f28792767981cf8c68dd024de82f18957", func := "loop.example/ltlcheck/laws.FnExactBlocksStable", spec := "fnExactBlocksStable", unfollowed := true, recurses := true, loops := true, plainKeys := false, apart := false, narrowed := true }
def FnExactBlocksStableUptoSaid : Prop := fnExactBlocksStableUptoRow.holds Tryz.pinned (OpenSpec.upto fnExactBlocksStableSpec)

/-- 'laws.FnExactBisimulation', WHERE WHAT IT READS IS OF BULK AT MOST 1048576: true; the input reads as it did. -/
def fnExactBisimulationUptoRow : OpenClaim := { program := "ytcmihlbihppflaagreat", sum := "21e657a4fed3d0d35b6b474a8180cb5f28792767981cf8c68dd024de82f18957", func := "loop.example/ltlcheck/laws.FnExactBisimulation", spec := "fnExactBisimulation", unfollowed := true, recurses := true, loops := true, plainKeys := false, apart := false, narrowed := true }
def FnExactBisimulationUptoSaid : Prop := fnExactBisimulationUptoRow.holds Tryz.pinned (OpenSpec.upto fnExactBisimulationSpec)

/-- 'laws.FnExactVerifyFormula', WHERE WHAT IT READS IS OF BULK AT MOST 1048576: true; the input reads as it did. -/
def fnExactVerifyFormulaUptoRow : OpenClaim := { program := "ytcmihlbihppflaagreat", sum := "21e657a4fed3d0d35b6b474a8180cb5f28792767981cf8c68dd024de82f18957", func := "loop.example/ltlcheck/laws.FnExactVerifyFormula", spec := "fnExactVerifyFormula", unfollowed := true, recurses := true, loops := true, plainKeys := false, apart := false, narrowed := true }
def FnExactVerifyFormulaUptoSaid : Prop := fnExactVerifyFormulaUptoRow.holds Tryz.pinned (OpenSpec.upto fnExactVerifyFormulaSpec)

end Rows
end Go.Proofs.YtcmihlbihppflaaGreat
