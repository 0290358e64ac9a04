/-
  No cell of these rows narrows 'for every input' (looked for: loops, veiled, ifaces, maps, wideKeys, modest, calm, conditions, laid).
  DERIVED. THE GIVEN ROWS OF THIS SEAT. 7 by the template 'for every input the law returns true; each argument reads behind the call as it read before'; 0 by the template 'total and deterministic' (their statements: YtjhgpfaodkchjaaGreatTotals.lean).
  GIVEN WITH THE SEED: the statements are not yours to turn. If you find one false, say at which input.
  Laid BY PROGRAM, IN A SANDBOX (cutbox-rows.mjs): the forced cells as the released guide's own fill.sh prints them over the translation 1cf0640efee81116… (all of the seat's roots in one cut). By AI agents, Wed Nov 11 2026. No macro, syntax, notation, axiom, sorry.
-/
import Derived.Test.YtjhgpfaodkchjaaGreatChecked
import GoSem.Claim
import GoSem.ClaimJoined
import GoSem.ClaimMapViews
import Derived.JoinedTies
import Derived.KernelRfl
namespace Go.Proofs.YtjhgpfaodkchjaaGreat
/- THE CELL 'sum', in the pinned program and in every row, IS THE sha256 OF THE DUMP (.gsa) THAT YtjhgpfaodkchjaaGreatProg.lean LOADS. Nothing in Lean hashes anything: it is a label: what it is worth is what the hold of that sum in a sandbox is worth. -/
noncomputable def Tryz.pinned : Pinned := { name := "ytjhgpfaodkchjaagreat", sum := "1cf0640efee81116afd70bdd499844558ef5ed943bd9310650cbbb3357c095dd", checked := Tryz.checked }
namespace Rows
def none {H : Type} : Left H := { results := [], args := [] }

/-- 'laws.FnCertifyFormula': WHATEVER THE INPUT: true; the input reads as it did. -/
def fnCertifyFormulaSpec : ChangeSpec := { name := "fnCertifyFormula", fn := fun _ => fun
  | [d] => { results := [.lit (.bool true)], args := [d] }
  | _ => none }
def fnCertifyFormulaRow : OpenClaim := { program := "ytjhgpfaodkchjaagreat", sum := "1cf0640efee81116afd70bdd499844558ef5ed943bd9310650cbbb3357c095dd", func := "loop.example/ltlcheck/laws.FnCertifyFormula", spec := "fnCertifyFormula", unfollowed := true, recurses := true, plainKeys := false, apart := false }
def FnCertifyFormulaSaid : Prop := fnCertifyFormulaRow.holds Tryz.pinned (OpenSpec.ofChange fnCertifyFormulaSpec)

/-- ITS FALSE NEIGHBOUR: 'it returns false'. Refute it at one input. -/
def fnCertifyFormulaWrong : ChangeSpec := { name := "fnCertifyFormula", fn := fun _ => fun
  | [d] => { results := [.lit (.bool false)], args := [d] }
  | _ => none }
def FnCertifyFormulaWrongFalsely : Prop := fnCertifyFormulaRow.holds Tryz.pinned (OpenSpec.ofChange fnCertifyFormulaWrong)

/-- 'laws.FnVerifyFormula': WHATEVER THE INPUT: true; the input reads as it did. -/
def fnVerifyFormulaSpec : ChangeSpec := { name := "fnVerifyFormula", fn := fun _ => fun
  | [d1, d2] => { results := [.lit (.bool true)], args := [d1, d2] }
  | _ => none }
def fnVerifyFormulaRow : OpenClaim := { program := "ytjhgpfaodkchjaagreat", sum := "1cf0640efee81116afd70bdd499844558ef5ed943bd9310650cbbb3357c095dd", func := "loop.example/ltlcheck/laws.FnVerifyFormula", spec := "fnVerifyFormula", unfollowed := true, recurses := true, plainKeys := false, apart := false }
def FnVerifyFormulaSaid : Prop := fnVerifyFormulaRow.holds Tryz.pinned (OpenSpec.ofChange fnVerifyFormulaSpec)

/-- ITS FALSE NEIGHBOUR: 'it returns false'. Refute it at one input. -/
def fnVerifyFormulaWrong : ChangeSpec := { name := "fnVerifyFormula", fn := fun _ => fun
  | [d1, d2] => { results := [.lit (.bool false)], args := [d1, d2] }
  | _ => none }
def FnVerifyFormulaWrongFalsely : Prop := fnVerifyFormulaRow.holds Tryz.pinned (OpenSpec.ofChange fnVerifyFormulaWrong)

/-- 'laws.FnCheckFormula': WHATEVER THE INPUT: true; the input reads as it did. -/
def fnCheckFormulaSpec : ChangeSpec := { name := "fnCheckFormula", fn := fun _ => fun
  | [d1, d2] => { results := [.lit (.bool true)], args := [d1, d2] }
  | _ => none }
def fnCheckFormulaRow : OpenClaim := { program := "ytjhgpfaodkchjaagreat", sum := "1cf0640efee81116afd70bdd499844558ef5ed943bd9310650cbbb3357c095dd", func := "loop.example/ltlcheck/laws.FnCheckFormula", spec := "fnCheckFormula", unfollowed := true, recurses := true, plainKeys := false, apart := false }
def FnCheckFormulaSaid : Prop := fnCheckFormulaRow.holds Tryz.pinned (OpenSpec.ofChange fnCheckFormulaSpec)

/-- ITS FALSE NEIGHBOUR: 'it returns false'. Refute it at one input. -/
def fnCheckFormulaWrong : ChangeSpec := { name := "fnCheckFormula", fn := fun _ => fun
  | [d1, d2] => { results := [.lit (.bool false)], args := [d1, d2] }
  | _ => none }
def FnCheckFormulaWrongFalsely : Prop := fnCheckFormulaRow.holds Tryz.pinned (OpenSpec.ofChange fnCheckFormulaWrong)

/-- 'laws.FnCheckTrue': WHATEVER THE INPUT: true; the input reads as it did. -/
def fnCheckTrueSpec : ChangeSpec := { name := "fnCheckTrue", fn := fun _ => fun
  | [d] => { results := [.lit (.bool true)], args := [d] }
  | _ => none }
def fnCheckTrueRow : OpenClaim := { program := "ytjhgpfaodkchjaagreat", sum := "1cf0640efee81116afd70bdd499844558ef5ed943bd9310650cbbb3357c095dd", func := "loop.example/ltlcheck/laws.FnCheckTrue", spec := "fnCheckTrue", unfollowed := true, recurses := true, plainKeys := false, apart := false }
def FnCheckTrueSaid : Prop := fnCheckTrueRow.holds Tryz.pinned (OpenSpec.ofChange fnCheckTrueSpec)

/-- ITS FALSE NEIGHBOUR: 'it returns false'. Refute it at one input. -/
def fnCheckTrueWrong : ChangeSpec := { name := "fnCheckTrue", fn := fun _ => fun
  | [d] => { results := [.lit (.bool false)], args := [d] }
  | _ => none }
def FnCheckTrueWrongFalsely : Prop := fnCheckTrueRow.holds Tryz.pinned (OpenSpec.ofChange fnCheckTrueWrong)

/-- 'laws.FnCertificateQuotient': WHATEVER THE INPUT: true; the input reads as it did. -/
def fnCertificateQuotientSpec : ChangeSpec := { name := "fnCertificateQuotient", fn := fun _ => fun
  | [d1, d2] => { results := [.lit (.bool true)], args := [d1, d2] }
  | _ => none }
def fnCertificateQuotientRow : OpenClaim := { program := "ytjhgpfaodkchjaagreat", sum := "1cf0640efee81116afd70bdd499844558ef5ed943bd9310650cbbb3357c095dd", func := "loop.example/ltlcheck/laws.FnCertificateQuotient", spec := "fnCertificateQuotient", unfollowed := true, recurses := true, plainKeys := false, apart := false }
def FnCertificateQuotientSaid : Prop := fnCertificateQuotientRow.holds Tryz.pinned (OpenSpec.ofChange fnCertificateQuotientSpec)

/-- ITS FALSE NEIGHBOUR: 'it returns false'. Refute it at one input. -/
def fnCertificateQuotientWrong : ChangeSpec := { name := "fnCertificateQuotient", fn := fun _ => fun
  | [d1, d2] => { results := [.lit (.bool false)], args := [d1, d2] }
  | _ => none }
def FnCertificateQuotientWrongFalsely : Prop := fnCertificateQuotientRow.holds Tryz.pinned (OpenSpec.ofChange fnCertificateQuotientWrong)

/-- 'laws.FnBranchingLinear': WHATEVER THE INPUT: true; the input reads as it did. -/
def fnBranchingLinearSpec : ChangeSpec := { name := "fnBranchingLinear", fn := fun _ => fun
  | [d1, d2] => { results := [.lit (.bool true)], args := [d1, d2] }
  | _ => none }
def fnBranchingLinearRow : OpenClaim := { program := "ytjhgpfaodkchjaagreat", sum := "1cf0640efee81116afd70bdd499844558ef5ed943bd9310650cbbb3357c095dd", func := "loop.example/ltlcheck/laws.FnBranchingLinear", spec := "fnBranchingLinear", unfollowed := true, recurses := true, plainKeys := false, apart := false }
def FnBranchingLinearSaid : Prop := fnBranchingLinearRow.holds Tryz.pinned (OpenSpec.ofChange fnBranchingLinearSpec)

/-- ITS FALSE NEIGHBOUR: 'it returns false'. Refute it at one input. -/
def fnBranchingLinearWrong : ChangeSpec := { name := "fnBranchingLinear", fn := fun _ => fun
  | [d1, d2] => { results := [.lit (.bool false)], args := [d1, d2] }
  | _ => none }
def FnBranchingLinearWrongFalsely : Prop := fnBranchingLinearRow.holds Tryz.pinned (OpenSpec.ofChange fnBranchingLinearWrong)

/-- 'laws.FnBranchingUntilLinear': WHATEVER THE INPUT: true; the input reads as it did. -/
def fnBranchingUntilLinearSpec : ChangeSpec := { name := "fnBranchingUntilLinear", fn := fun _ => fun
  | [d1, d2] => { results := [.lit (.bool true)], args := [d1, d2] }
  | _ => none }
def fnBranchingUntilLinearRow : OpenClaim := { program := "ytjhgpfaodkchjaagreat", sum := "1cf0640efee81116afd70bdd499844558ef5ed943bd9310650cbbb3357c095dd", func := "loop.example/ltlcheck/laws.FnBranchingUntilLinear", spec := "fnBranchingUntilLinear", unfollowed := true, recurses := true, plainKeys := false, apart := false }
def FnBranchingUntilLinearSaid : Prop := fnBranchingUntilLinearRow.holds Tryz.pinned (OpenSpec.ofChange fnBranchingUntilLinearSpec)

/-- ITS FALSE NEIGHBOUR: 'it returns false'. Refute it at one input. -/
def fnBranchingUntilLinearWrong : ChangeSpec := { name := "fnBranchingUntilLinear", fn := fun _ => fun
  | [d1, d2] => { results := [.lit (.bool false)], args := [d1, d2] }
  | _ => none }
def FnBranchingUntilLinearWrongFalsely : Prop := fnBranchingUntilLinearRow.holds Tryz.pinned (OpenSpec.ofChange fnBranchingUntilLinearWrong)

/- THE SECOND FORM. 'bulk': how many values and letters a reading holds, each counted each time it is reached (what is shared counts as often as it is met; a slice's spare places count too). A statement '..UptoSaid' is the law's where the arguments, and the package variables that the reading takes, are together of bulk at most 1048576: NARROWER than '..Said'. Prove '..Said' where nothing that the law and all that it calls make is longer than what came in: it says more and counts as full. Else prove '..UptoSaid'. A law counts once. -/
mutual
def uptoBulk {H : Type} : DataW H → Nat
  | .lit (.string bytes) => bytes.length + 1
  | .lit _ => 1
  | .nil => 1
  | .ptr d => uptoBulk d + 1
  | .slice elems spare => uptoBulkAll elems + uptoBulkAll spare + 1
  | .agg parts => uptoBulkAll parts + 1
  | .iface _ d => uptoBulk d + 1
  | .map entries => uptoBulkEntries entries + 1
  | .held _ => 1
def uptoBulkAll {H : Type} : List (DataW H) → Nat
  | [] => 0
  | d :: r => uptoBulk d + uptoBulkAll r
def uptoBulkEntries {H : Type} : List (Lit × DataW H) → Nat
  | [] => 0
  | x :: r => uptoBulkEntry x + uptoBulkEntries r
def uptoBulkEntry {H : Type} : Lit × DataW H → Nat
  | (.string bytes, d) => bytes.length + uptoBulk d + 1
  | (_, d) => uptoBulk d + 1
 end
def uptoSmall : (H : Type) → List (DataW H) → Bool := fun _ ds => decide (uptoBulkAll ds ≤ 1048576)
def OpenSpec.upto (s : _root_.Go.ChangeSpec) : _root_.Go.OpenSpec := { _root_.Go.OpenSpec.ofChange s with cond := some uptoSmall }

/-- 'laws.FnCertifyFormula', WHERE WHAT IT READS IS OF BULK AT MOST 1048576: true; the input reads as it did. -/
def fnCertifyFormulaUptoRow : OpenClaim := { program := "ytjhgpfaodkchjaagreat", sum := "1cf0640efee81116afd70bdd499844558ef5ed943bd9310650cbbb3357c095dd", func := "loop.example/ltlcheck/laws.FnCertifyFormula", spec := "fnCertifyFormula", unfollowed := true, recurses := true, plainKeys := false, apart := false, narrowed := true }
def FnCertifyFormulaUptoSaid : Prop := fnCertifyFormulaUptoRow.holds Tryz.pinned (OpenSpec.upto fnCertifyFormulaSpec)

/-- 'laws.FnVerifyFormula', WHERE WHAT IT READS IS OF BULK AT MOST 1048576: true; the input reads as it did. -/
def fnVerifyFormulaUptoRow : OpenClaim := { program := "ytjhgpfaodkchjaagreat", sum := "1cf0640efee81116afd70bdd499844558ef5ed943bd9310650cbbb3357c095dd", func := "loop.example/ltlcheck/laws.FnVerifyFormula", spec := "fnVerifyFormula", unfollowed := true, recurses := true, plainKeys := false, apart := false, narrowed := true }
def FnVerifyFormulaUptoSaid : Prop := fnVerifyFormulaUptoRow.holds Tryz.pinned (OpenSpec.upto fnVerifyFormulaSpec)

/-- 'laws.FnCheckFormula', WHERE WHAT IT READS IS OF BULK AT MOST 1048576: true; the input reads as it did. -/
def fnCheckFormulaUptoRow : OpenClaim := { program := "ytjhgpfaodkchjaagreat", sum := "1cf0640efee81116afd70bdd499844558ef5ed943bd9310650cbbb3357c095dd", func := "loop.example/ltlcheck/laws.FnCheckFormula", spec := "fnCheckFormula", unfollowed := true, recurses := true, plainKeys := false, apart := false, narrowed := true }
def FnCheckFormulaUptoSaid : Prop := fnCheckFormulaUptoRow.holds Tryz.pinned (OpenSpec.upto fnCheckFormulaSpec)

/-- 'laws.FnCheckTrue', WHERE WHAT IT READS IS OF BULK AT MOST 1048576: true; the input reads as it did. -/
def fnCheckTrueUptoRow : OpenClaim := { program := "ytjhgpfaodkchjaagreat", sum := "1cf0640efee81116afd70bdd499844558ef5ed943bd9310650cbbb3357c095dd", func := "loop.example/ltlcheck/laws.FnCheckTrue", spec := "fnCheckTrue", unfollowed := true, recurses := true, plainKeys := false, apart := false, narrowed := true }
def FnCheckTrueUptoSaid : Prop := fnCheckTrueUptoRow.holds Tryz.pinned (OpenSpec.upto fnCheckTrueSpec)

/-- 'laws.FnCertificateQuotient', WHERE WHAT IT READS IS OF BULK AT MOST 1048576: true; the input reads as it did. -/
def fnCertificateQuotientUptoRow : OpenClaim := { program := "ytjhgpfaodkchjaagreat", sum := "1cf0640efee81116afd70bdd499844558ef5ed943bd9310650cbbb3357c095dd", func := "loop.example/ltlcheck/laws.FnCertificateQuotient", spec := "fnCertificateQuotient", unfollowed := true, recurses := true, plainKeys := false, apart := false, narrowed := true }
def FnCertificateQuotientUptoSaid : Prop := fnCertificateQuotientUptoRow.holds Tryz.pinned (OpenSpec.upto fnCertificateQuotientSpec)

/-- 'laws.FnBranchingLinear', WHERE WHAT IT READS IS OF BULK AT MOST 1048576: true; the input reads as it did. -/
def fnBranchingLinearUptoRow : OpenClaim := { program := "ytjhgpfaodkchjaagreat", sum := "1cf0640efee81116afd70bdd499844558ef5ed943bd9310650cbbb3357c095dd", func := "loop.example/ltlcheck/laws.FnBranchingLinear", spec := "fnBranchingLinear", unfollowed := true, recurses := true, plainKeys := false, apart := false, narrowed := true }
def FnBranchingLinearUptoSaid : Prop := fnBranchingLinearUptoRow.holds Tryz.pinned (OpenSpec.upto fnBranchingLinearSpec)

/-- 'laws.FnBranchingUntilLinear', WHERE WHAT IT READS IS OF BULK AT MOST 1048576: true; the input reads as it did. -/
def fnBranchingUntilLinearUptoRow : OpenClaim := { program := "ytjhgpfaodkchjaagreat", sum := "1cf0640efee81116afd70bdd499844558ef5ed943bd9310650cbbb3357c095dd", func := "loop.example/ltlcheck/laws.FnBranchingUntilLinear", spec := "fnBranchingUntilLinear", unfollowed := true, recurses := true, plainKeys := false, apart := false, narrowed := true }
def FnBranchingUntilLinearUptoSaid : Prop := fnBranchingUntilLinearUptoRow.holds Tryz.pinned (OpenSpec.upto fnBranchingUntilLinearSpec)

end Rows
end Go.Proofs.YtjhgpfaodkchjaaGreat
