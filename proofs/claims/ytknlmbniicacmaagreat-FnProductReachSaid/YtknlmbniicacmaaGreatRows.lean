/-
  NARROWER THAN 'FOR EVERY INPUT', by the rows' own cells (each row's printed sentence says how): FnExactFindTrace: loops · FnExactMakeCertificate: loops · FnExactVerifyFormula: loops · FnExactCertifyFormula: loops.
  DERIVED. THE GIVEN ROWS OF THIS SEAT. 12 by the template 'for every input the law returns true; each argument reads behind the call as it read before'; 0 by the template 'total and deterministic' (their statements: YtknlmbniicacmaaGreatTotals.lean).
  GIVEN WITH THE SEED: the statements are not yours to turn. If you find one false, say at which input.
  Laid BY PROGRAM, IN A SANDBOX (cutbox-rows.mjs): the forced cells as the released guide's own fill.sh prints them over the translation e877ebab6ebfc455… (all of the seat's roots in one cut). By AI agents, Wed Nov 11 2026. No macro, syntax, notation, axiom, sorry.
-/
import Derived.Test.YtknlmbniicacmaaGreatChecked
import GoSem.Claim
import GoSem.ClaimJoined
import GoSem.ClaimMapViews
import Derived.JoinedTies
import Derived.KernelRfl
namespace Go.Proofs.YtknlmbniicacmaaGreat
/- THE CELL 'sum', in the pinned program and in every row, IS THE sha256 OF THE DUMP (.gsa) THAT YtknlmbniicacmaaGreatProg.lean LOADS. Nothing in Lean hashes anything: it is a label: what it is worth is what the hold of that sum in a sandbox is worth. -/
noncomputable def Tryz.pinned : Pinned := { name := "ytknlmbniicacmaagreat", sum := "e877ebab6ebfc455bf2cf09059f2eed1d65b36b394ed8470825ba764812b9596", checked := Tryz.checked }
namespace Rows
def none {H : Type} : Left H := { results := [], args := [] }

/-- 'laws.FnCertificateShift': WHATEVER THE INPUT: true; the input reads as it did. -/
def fnCertificateShiftSpec : ChangeSpec := { name := "fnCertificateShift", fn := fun _ => fun
  | [d1, d2] => { results := [.lit (.bool true)], args := [d1, d2] }
  | _ => none }
def fnCertificateShiftRow : OpenClaim := { program := "ytknlmbniicacmaagreat", sum := "e877ebab6ebfc455bf2cf09059f2eed1d65b36b394ed8470825ba764812b9596", func := "loop.example/ltlcheck/laws.FnCertificateShift", spec := "fnCertificateShift", unfollowed := true, recurses := true, plainKeys := false, apart := false }
def FnCertificateShiftSaid : Prop := fnCertificateShiftRow.holds Tryz.pinned (OpenSpec.ofChange fnCertificateShiftSpec)

/-- ITS FALSE NEIGHBOUR: 'it returns false'. Refute it at one input. -/
def fnCertificateShiftWrong : ChangeSpec := { name := "fnCertificateShift", fn := fun _ => fun
  | [d1, d2] => { results := [.lit (.bool false)], args := [d1, d2] }
  | _ => none }
def FnCertificateShiftWrongFalsely : Prop := fnCertificateShiftRow.holds Tryz.pinned (OpenSpec.ofChange fnCertificateShiftWrong)

/-- 'laws.FnQuotientTrace': WHATEVER THE INPUT: true; the input reads as it did. -/
def fnQuotientTraceSpec : ChangeSpec := { name := "fnQuotientTrace", fn := fun _ => fun
  | [d1, d2] => { results := [.lit (.bool true)], args := [d1, d2] }
  | _ => none }
def fnQuotientTraceRow : OpenClaim := { program := "ytknlmbniicacmaagreat", sum := "e877ebab6ebfc455bf2cf09059f2eed1d65b36b394ed8470825ba764812b9596", func := "loop.example/ltlcheck/laws.FnQuotientTrace", spec := "fnQuotientTrace", unfollowed := true, recurses := true, plainKeys := false, apart := false }
def FnQuotientTraceSaid : Prop := fnQuotientTraceRow.holds Tryz.pinned (OpenSpec.ofChange fnQuotientTraceSpec)

/-- ITS FALSE NEIGHBOUR: 'it returns false'. Refute it at one input. -/
def fnQuotientTraceWrong : ChangeSpec := { name := "fnQuotientTrace", fn := fun _ => fun
  | [d1, d2] => { results := [.lit (.bool false)], args := [d1, d2] }
  | _ => none }
def FnQuotientTraceWrongFalsely : Prop := fnQuotientTraceRow.holds Tryz.pinned (OpenSpec.ofChange fnQuotientTraceWrong)

/-- 'laws.FnProductReach': WHATEVER THE INPUT: true; the input reads as it did. -/
def fnProductReachSpec : ChangeSpec := { name := "fnProductReach", fn := fun _ => fun
  | [d] => { results := [.lit (.bool true)], args := [d] }
  | _ => none }
def fnProductReachRow : OpenClaim := { program := "ytknlmbniicacmaagreat", sum := "e877ebab6ebfc455bf2cf09059f2eed1d65b36b394ed8470825ba764812b9596", func := "loop.example/ltlcheck/laws.FnProductReach", spec := "fnProductReach", unfollowed := true, recurses := true, plainKeys := false, apart := false }
def FnProductReachSaid : Prop := fnProductReachRow.holds Tryz.pinned (OpenSpec.ofChange fnProductReachSpec)

/-- ITS FALSE NEIGHBOUR: 'it returns false'. Refute it at one input. -/
def fnProductReachWrong : ChangeSpec := { name := "fnProductReach", fn := fun _ => fun
  | [d] => { results := [.lit (.bool false)], args := [d] }
  | _ => none }
def FnProductReachWrongFalsely : Prop := fnProductReachRow.holds Tryz.pinned (OpenSpec.ofChange fnProductReachWrong)

/-- 'laws.FnExactFindTrace': WHATEVER THE INPUT: true; the input reads as it did. -/
def fnExactFindTraceSpec : ChangeSpec := { name := "fnExactFindTrace", fn := fun _ => fun
  | [d1, d2, d3] => { results := [.lit (.bool true)], args := [d1, d2, d3] }
  | _ => none }
def fnExactFindTraceRow : OpenClaim := { program := "ytknlmbniicacmaagreat", sum := "e877ebab6ebfc455bf2cf09059f2eed1d65b36b394ed8470825ba764812b9596", func := "loop.example/ltlcheck/laws.FnExactFindTrace", spec := "fnExactFindTrace", unfollowed := true, recurses := true, loops := true, plainKeys := false, apart := false }
def FnExactFindTraceSaid : Prop := fnExactFindTraceRow.holds Tryz.pinned (OpenSpec.ofChange fnExactFindTraceSpec)

/-- ITS FALSE NEIGHBOUR: 'it returns false'. Refute it at one input. -/
def fnExactFindTraceWrong : ChangeSpec := { name := "fnExactFindTrace", fn := fun _ => fun
  | [d1, d2, d3] => { results := [.lit (.bool false)], args := [d1, d2, d3] }
  | _ => none }
def FnExactFindTraceWrongFalsely : Prop := fnExactFindTraceRow.holds Tryz.pinned (OpenSpec.ofChange fnExactFindTraceWrong)

/-- 'laws.FnExactMakeCertificate': WHATEVER THE INPUT: true; the input reads as it did. -/
def fnExactMakeCertificateSpec : ChangeSpec := { name := "fnExactMakeCertificate", fn := fun _ => fun
  | [d1, d2, d3] => { results := [.lit (.bool true)], args := [d1, d2, d3] }
  | _ => none }
def fnExactMakeCertificateRow : OpenClaim := { program := "ytknlmbniicacmaagreat", sum := "e877ebab6ebfc455bf2cf09059f2eed1d65b36b394ed8470825ba764812b9596", func := "loop.example/ltlcheck/laws.FnExactMakeCertificate", spec := "fnExactMakeCertificate", unfollowed := true, recurses := true, loops := true, plainKeys := false, apart := false }
def FnExactMakeCertificateSaid : Prop := fnExactMakeCertificateRow.holds Tryz.pinned (OpenSpec.ofChange fnExactMakeCertificateSpec)

/-- ITS FALSE NEIGHBOUR: 'it returns false'. Refute it at one input. -/
def fnExactMakeCertificateWrong : ChangeSpec := { name := "fnExactMakeCertificate", fn := fun _ => fun
  | [d1, d2, d3] => { results := [.lit (.bool false)], args := [d1, d2, d3] }
  | _ => none }
def FnExactMakeCertificateWrongFalsely : Prop := fnExactMakeCertificateRow.holds Tryz.pinned (OpenSpec.ofChange fnExactMakeCertificateWrong)

/-- 'laws.FnExactVerifyFormula': WHATEVER THE INPUT: true; the input reads as it did. -/
def fnExactVerifyFormulaSpec : ChangeSpec := { name := "fnExactVerifyFormula", fn := fun _ => fun
  | [d1, d2, d3, d4] => { results := [.lit (.bool true)], args := [d1, d2, d3, d4] }
  | _ => none }
def fnExactVerifyFormulaRow : OpenClaim := { program := "ytknlmbniicacmaagreat", sum := "e877ebab6ebfc455bf2cf09059f2eed1d65b36b394ed8470825ba764812b9596", func := "loop.example/ltlcheck/laws.FnExactVerifyFormula", spec := "fnExactVerifyFormula", unfollowed := true, recurses := true, loops := true, plainKeys := false, apart := false }
def FnExactVerifyFormulaSaid : Prop := fnExactVerifyFormulaRow.holds Tryz.pinned (OpenSpec.ofChange fnExactVerifyFormulaSpec)

/-- ITS FALSE NEIGHBOUR: 'it returns false'. Refute it at one input. -/
def fnExactVerifyFormulaWrong : ChangeSpec := { name := "fnExactVerifyFormula", fn := fun _ => fun
  | [d1, d2, d3, d4] => { results := [.lit (.bool false)], args := [d1, d2, d3, d4] }
  | _ => none }
def FnExactVerifyFormulaWrongFalsely : Prop := fnExactVerifyFormulaRow.holds Tryz.pinned (OpenSpec.ofChange fnExactVerifyFormulaWrong)

/-- 'laws.FnExactCertifyFormula': WHATEVER THE INPUT: true; the input reads as it did. -/
def fnExactCertifyFormulaSpec : ChangeSpec := { name := "fnExactCertifyFormula", fn := fun _ => fun
  | [d1, d2, d3] => { results := [.lit (.bool true)], args := [d1, d2, d3] }
  | _ => none }
def fnExactCertifyFormulaRow : OpenClaim := { program := "ytknlmbniicacmaagreat", sum := "e877ebab6ebfc455bf2cf09059f2eed1d65b36b394ed8470825ba764812b9596", func := "loop.example/ltlcheck/laws.FnExactCertifyFormula", spec := "fnExactCertifyFormula", unfollowed := true, recurses := true, loops := true, plainKeys := false, apart := false }
def FnExactCertifyFormulaSaid : Prop := fnExactCertifyFormulaRow.holds Tryz.pinned (OpenSpec.ofChange fnExactCertifyFormulaSpec)

/-- ITS FALSE NEIGHBOUR: 'it returns false'. Refute it at one input. -/
def fnExactCertifyFormulaWrong : ChangeSpec := { name := "fnExactCertifyFormula", fn := fun _ => fun
  | [d1, d2, d3] => { results := [.lit (.bool false)], args := [d1, d2, d3] }
  | _ => none }
def FnExactCertifyFormulaWrongFalsely : Prop := fnExactCertifyFormulaRow.holds Tryz.pinned (OpenSpec.ofChange fnExactCertifyFormulaWrong)

/-- 'laws.FnFindTrace': WHATEVER THE INPUT: true; the input reads as it did. -/
def fnFindTraceSpec : ChangeSpec := { name := "fnFindTrace", fn := fun _ => fun
  | [d1, d2] => { results := [.lit (.bool true)], args := [d1, d2] }
  | _ => none }
def fnFindTraceRow : OpenClaim := { program := "ytknlmbniicacmaagreat", sum := "e877ebab6ebfc455bf2cf09059f2eed1d65b36b394ed8470825ba764812b9596", func := "loop.example/ltlcheck/laws.FnFindTrace", spec := "fnFindTrace", unfollowed := true, recurses := true, plainKeys := false, apart := false }
def FnFindTraceSaid : Prop := fnFindTraceRow.holds Tryz.pinned (OpenSpec.ofChange fnFindTraceSpec)

/-- ITS FALSE NEIGHBOUR: 'it returns false'. Refute it at one input. -/
def fnFindTraceWrong : ChangeSpec := { name := "fnFindTrace", fn := fun _ => fun
  | [d1, d2] => { results := [.lit (.bool false)], args := [d1, d2] }
  | _ => none }
def FnFindTraceWrongFalsely : Prop := fnFindTraceRow.holds Tryz.pinned (OpenSpec.ofChange fnFindTraceWrong)

/-- 'laws.FnMakeCertificate': WHATEVER THE INPUT: true; the input reads as it did. -/
def fnMakeCertificateSpec : ChangeSpec := { name := "fnMakeCertificate", fn := fun _ => fun
  | [d] => { results := [.lit (.bool true)], args := [d] }
  | _ => none }
def fnMakeCertificateRow : OpenClaim := { program := "ytknlmbniicacmaagreat", sum := "e877ebab6ebfc455bf2cf09059f2eed1d65b36b394ed8470825ba764812b9596", func := "loop.example/ltlcheck/laws.FnMakeCertificate", spec := "fnMakeCertificate", unfollowed := true, recurses := true, plainKeys := false, apart := false }
def FnMakeCertificateSaid : Prop := fnMakeCertificateRow.holds Tryz.pinned (OpenSpec.ofChange fnMakeCertificateSpec)

/-- ITS FALSE NEIGHBOUR: 'it returns false'. Refute it at one input. -/
def fnMakeCertificateWrong : ChangeSpec := { name := "fnMakeCertificate", fn := fun _ => fun
  | [d] => { results := [.lit (.bool false)], args := [d] }
  | _ => none }
def FnMakeCertificateWrongFalsely : Prop := fnMakeCertificateRow.holds Tryz.pinned (OpenSpec.ofChange fnMakeCertificateWrong)

/-- 'laws.FnCheckCertificate': WHATEVER THE INPUT: true; the input reads as it did. -/
def fnCheckCertificateSpec : ChangeSpec := { name := "fnCheckCertificate", fn := fun _ => fun
  | [d1, d2] => { results := [.lit (.bool true)], args := [d1, d2] }
  | _ => none }
def fnCheckCertificateRow : OpenClaim := { program := "ytknlmbniicacmaagreat", sum := "e877ebab6ebfc455bf2cf09059f2eed1d65b36b394ed8470825ba764812b9596", func := "loop.example/ltlcheck/laws.FnCheckCertificate", spec := "fnCheckCertificate", unfollowed := true, recurses := true, plainKeys := false, apart := false }
def FnCheckCertificateSaid : Prop := fnCheckCertificateRow.holds Tryz.pinned (OpenSpec.ofChange fnCheckCertificateSpec)

/-- ITS FALSE NEIGHBOUR: 'it returns false'. Refute it at one input. -/
def fnCheckCertificateWrong : ChangeSpec := { name := "fnCheckCertificate", fn := fun _ => fun
  | [d1, d2] => { results := [.lit (.bool false)], args := [d1, d2] }
  | _ => none }
def FnCheckCertificateWrongFalsely : Prop := fnCheckCertificateRow.holds Tryz.pinned (OpenSpec.ofChange fnCheckCertificateWrong)

/-- 'laws.FnCertificateRank': WHATEVER THE INPUT: true; the input reads as it did. -/
def fnCertificateRankSpec : ChangeSpec := { name := "fnCertificateRank", fn := fun _ => fun
  | [d] => { results := [.lit (.bool true)], args := [d] }
  | _ => none }
def fnCertificateRankRow : OpenClaim := { program := "ytknlmbniicacmaagreat", sum := "e877ebab6ebfc455bf2cf09059f2eed1d65b36b394ed8470825ba764812b9596", func := "loop.example/ltlcheck/laws.FnCertificateRank", spec := "fnCertificateRank", unfollowed := true, recurses := true, plainKeys := false, apart := false }
def FnCertificateRankSaid : Prop := fnCertificateRankRow.holds Tryz.pinned (OpenSpec.ofChange fnCertificateRankSpec)

/-- ITS FALSE NEIGHBOUR: 'it returns false'. Refute it at one input. -/
def fnCertificateRankWrong : ChangeSpec := { name := "fnCertificateRank", fn := fun _ => fun
  | [d] => { results := [.lit (.bool false)], args := [d] }
  | _ => none }
def FnCertificateRankWrongFalsely : Prop := fnCertificateRankRow.holds Tryz.pinned (OpenSpec.ofChange fnCertificateRankWrong)

/-- 'laws.FnCertificateLeast': WHATEVER THE INPUT: true; the input reads as it did. -/
def fnCertificateLeastSpec : ChangeSpec := { name := "fnCertificateLeast", fn := fun _ => fun
  | [d] => { results := [.lit (.bool true)], args := [d] }
  | _ => none }
def fnCertificateLeastRow : OpenClaim := { program := "ytknlmbniicacmaagreat", sum := "e877ebab6ebfc455bf2cf09059f2eed1d65b36b394ed8470825ba764812b9596", func := "loop.example/ltlcheck/laws.FnCertificateLeast", spec := "fnCertificateLeast", unfollowed := true, recurses := true, plainKeys := false, apart := false }
def FnCertificateLeastSaid : Prop := fnCertificateLeastRow.holds Tryz.pinned (OpenSpec.ofChange fnCertificateLeastSpec)

/-- ITS FALSE NEIGHBOUR: 'it returns false'. Refute it at one input. -/
def fnCertificateLeastWrong : ChangeSpec := { name := "fnCertificateLeast", fn := fun _ => fun
  | [d] => { results := [.lit (.bool false)], args := [d] }
  | _ => none }
def FnCertificateLeastWrongFalsely : Prop := fnCertificateLeastRow.holds Tryz.pinned (OpenSpec.ofChange fnCertificateLeastWrong)

/- THE SECOND FORM. 'bulk': how many values and letters a reading holds, each counted each time it is reached (what is shared counts as often as it is met; a slice's spare places count too). A statement '..UptoSaid' is the law's where the arguments, and the package variables that the reading takes, are together of bulk at most 1048576: NARROWER than '..Said'. Prove '..Said' where nothing that the law and all that it calls make is longer than what came in: it says more and counts as full. Else prove '..UptoSaid'. A law counts once. -/
mutual
def uptoBulk {H : Type} : DataW H → Nat
  | .lit (.string bytes) => bytes.length + 1
  | .lit _ => 1
  | .nil => 1
  | .ptr d => uptoBulk d + 1
  | .slice elems spare => uptoBulkAll elems + uptoBulkAll spare + 1
  | .agg parts => uptoBulkAll parts + 1
  | .iface _ d => uptoBulk d + 1
  | .map entries => uptoBulkEntries entries + 1
  | .held _ => 1
def uptoBulkAll {H : Type} : List (DataW H) → Nat
  | [] => 0
  | d :: r => uptoBulk d + uptoBulkAll r
def uptoBulkEntries {H : Type} : List (Lit × DataW H) → Nat
  | [] => 0
  | x :: r => uptoBulkEntry x + uptoBulkEntries r
def uptoBulkEntry {H : Type} : Lit × DataW H → Nat
  | (.string bytes, d) => bytes.length + uptoBulk d + 1
  | (_, d) => uptoBulk d + 1
 end
def uptoSmall : (H : Type) → List (DataW H) → Bool := fun _ ds => decide (uptoBulkAll ds ≤ 1048576)
def OpenSpec.upto (s : _root_.Go.ChangeSpec) : _root_.Go.OpenSpec := { _root_.Go.OpenSpec.ofChange s with cond := some uptoSmall }

/-- 'laws.FnCertificateShift', WHERE WHAT IT READS IS OF BULK AT MOST 1048576: true; the input reads as it did. -/
def fnCertificateShiftUptoRow : OpenClaim := { program := "ytknlmbniicacmaagreat", sum := "e877ebab6ebfc455bf2cf09059f2eed1d65b36b394ed8470825ba764812b9596", func := "loop.example/ltlcheck/laws.FnCertificateShift", spec := "fnCertificateShift", unfollowed := true, recurses := true, plainKeys := false, apart := false, narrowed := true }
def FnCertificateShiftUptoSaid : Prop := fnCertificateShiftUptoRow.holds Tryz.pinned (OpenSpec.upto fnCertificateShiftSpec)

/-- 'laws.FnQuotientTrace', WHERE WHAT IT READS IS OF BULK AT MOST 1048576: true; the input reads as it did. -/
def fnQuotientTraceUptoRow : OpenClaim := { program := "ytknlmbniicacmaagreat", sum := "e877ebab6ebfc455bf2cf09059f2eed1d65b36b394ed8470825ba764812b9596", func := "loop.example/ltlcheck/laws.FnQuotientTrace", spec := "fnQuotientTrace", unfollowed := true, recurses := true, plainKeys := false, apart := false, narrowed := true }
def FnQuotientTraceUptoSaid : Prop := fnQuotientTraceUptoRow.holds Tryz.pinned (OpenSpec.upto fnQuotientTraceSpec)

/-- 'laws.FnProductReach', WHERE WHAT IT READS IS OF BULK AT MOST 1048576: true; the input reads as it did. -/
def fnProductReachUptoRow : OpenClaim := { program := "ytknlmbniicacmaagreat", sum := "e877ebab6ebfc455bf2cf09059f2eed1d65b36b394ed8470825ba764812b9596", func := "loop.example/ltlcheck/laws.FnProductReach", spec := "fnProductReach", unfollowed := true, recurses := true, plainKeys := false, apart := false, narrowed := true }
def FnProductReachUptoSaid : Prop := fnProductReachUptoRow.holds Tryz.pinned (OpenSpec.upto fnProductReachSpec)

/-- 'laws.FnExactFindTrace', WHERE WHAT IT READS IS OF BULK AT MOST 1048576: true; the input reads as it did. -/
def fnExactFindTraceUptoRow : OpenClaim := { program := "ytknlmbniicacmaagreat", sum := "e877ebab6ebfc455bf2cf09059f2eed1d65b36b394ed8470825ba764812b9596", func := "loop.example/ltlcheck/laws.FnExactFindTrace", spec := "fnExactFindTrace", unfollowed := true, recurses := true, loops := true, plainKeys := false, apart := false, narrowed := true }
def FnExactFindTraceUptoSaid : Prop := fnExactFindTraceUptoRow.holds Tryz.pinned (OpenSpec.upto fnExactFindTraceSpec)

/-- 'laws.FnExactMakeCertificate', WHERE WHAT IT READS IS OF BULK AT MOST 1048576: true; the input reads as it did. -/
def fnExactMakeCertificateUptoRow : OpenClaim := { program := "ytknlmbniicacmaagreat", sum := "e877ebab6ebfc455bf2cf09059f2eed1d65b36b394ed8470825ba764812b9596", func := "loop.example/ltlcheck/laws.FnExactMakeCertificate", spec := "fnExactMakeCertificate", unfollowed := true, recurses := true, loops := true, plainKeys := false, apart := false, narrowed := true }
def FnExactMakeCertificateUptoSaid : Prop := fnExactMakeCertificateUptoRow.holds Tryz.pinned (OpenSpec.upto fnExactMakeCertificateSpec)

/-- 'laws.FnExactVerifyFormula', WHERE WHAT IT READS IS OF BULK AT MOST 1048576: true; the input reads as it did. -/
def fnExactVerifyFormulaUptoRow : OpenClaim := { program := "ytknlmbniicacmaagreat", sum := "e877ebab6ebfc455bf2cf09059f2eed1d65b36b394ed8470825ba764812b9596", func := "loop.example/ltlcheck/laws.FnExactVerifyFormula", spec := "fnExactVerifyFormula", unfollowed := true, recurses := true, loops := true, plainKeys := false, apart := false, narrowed := true }
def FnExactVerifyFormulaUptoSaid : Prop := fnExactVerifyFormulaUptoRow.holds Tryz.pinned (OpenSpec.upto fnExactVerifyFormulaSpec)

/-- 'laws.FnExactCertifyFormula', WHERE WHAT IT READS IS OF BULK AT MOST 1048576: true; the input reads as it did. -/
def fnExactCertifyFormulaUptoRow : OpenClaim := { program := "ytknlmbniicacmaagreat", sum := "e877ebab6ebfc455bf2cf09059f2eed1d65b36b394ed8470825ba764812b9596", func := "loop.example/ltlcheck/laws.FnExactCertifyFormula", spec := "fnExactCertifyFormula", unfollowed := true, recurses := true, loops := true, plainKeys := false, apart := false, narrowed := true }
def FnExactCertifyFormulaUptoSaid : Prop := fnExactCertifyFormulaUptoRow.holds Tryz.pinned (OpenSpec.upto fnExactCertifyFormulaSpec)

/-- 'laws.FnFindTrace', WHERE WHAT IT READS IS OF BULK AT MOST 1048576: true; the input reads as it did. -/
def fnFindTraceUptoRow : OpenClaim := { program := "ytknlmbniicacmaagreat", sum := "e877ebab6ebfc455bf2cf09059f2eed1d65b36b394ed8470825ba764812b9596", func := "loop.example/ltlcheck/laws.FnFindTrace", spec := "fnFindTrace", unfollowed := true, recurses := true, plainKeys := false, apart := false, narrowed := true }
def FnFindTraceUptoSaid : Prop := fnFindTraceUptoRow.holds Tryz.pinned (OpenSpec.upto fnFindTraceSpec)

/-- 'laws.FnMakeCertificate', WHERE WHAT IT READS IS OF BULK AT MOST 1048576: true; the input reads as it did. -/
def fnMakeCertificateUptoRow : OpenClaim := { program := "ytknlmbniicacmaagreat", sum := "e877ebab6ebfc455bf2cf09059f2eed1d65b36b394ed8470825ba764812b9596", func := "loop.example/ltlcheck/laws.FnMakeCertificate", spec := "fnMakeCertificate", unfollowed := true, recurses := true, plainKeys := false, apart := false, narrowed := true }
def FnMakeCertificateUptoSaid : Prop := fnMakeCertificateUptoRow.holds Tryz.pinned (OpenSpec.upto fnMakeCertificateSpec)

/-- 'laws.FnCheckCertificate', WHERE WHAT IT READS IS OF BULK AT MOST 1048576: true; the input reads as it did. -/
def fnCheckCertificateUptoRow : OpenClaim := { program := "ytknlmbniicacmaagreat", sum := "e877ebab6ebfc455bf2cf09059f2eed1d65b36b394ed8470825ba764812b9596", func := "loop.example/ltlcheck/laws.FnCheckCertificate", spec := "fnCheckCertificate", unfollowed := true, recurses := true, plainKeys := false, apart := false, narrowed := true }
def FnCheckCertificateUptoSaid : Prop := fnCheckCertificateUptoRow.holds Tryz.pinned (OpenSpec.upto fnCheckCertificateSpec)

/-- 'laws.FnCertificateRank', WHERE WHAT IT READS IS OF BULK AT MOST 1048576: true; the input reads as it did. -/
def fnCertificateRankUptoRow : OpenClaim := { program := "ytknlmbniicacmaagreat", sum := "e877ebab6ebfc455bf2cf09059f2eed1d65b36b394ed8470825ba764812b9596", func := "loop.example/ltlcheck/laws.FnCertificateRank", spec := "fnCertificateRank", unfollowed := true, recurses := true, plainKeys := false, apart := false, narrowed := true }
def FnCertificateRankUptoSaid : Prop := fnCertificateRankUptoRow.holds Tryz.pinned (OpenSpec.upto fnCertificateRankSpec)

/-- 'laws.FnCertificateLeast', WHERE WHAT IT READS IS OF BULK AT MOST 1048576: true; the input reads as it did. -/
def fnCertificateLeastUptoRow : OpenClaim := { program := "ytknlmbniicacmaagreat", sum := "e877ebab6ebfc455bf2cf09059f2eed1d65b36b394ed8470825ba764812b9596", func := "loop.example/ltlcheck/laws.FnCertificateLeast", spec := "fnCertificateLeast", unfollowed := true, recurses := true, plainKeys := false, apart := false, narrowed := true }
def FnCertificateLeastUptoSaid : Prop := fnCertificateLeastUptoRow.holds Tryz.pinned (OpenSpec.upto fnCertificateLeastSpec)

end Rows
end Go.Proofs.YtknlmbniicacmaaGreat
