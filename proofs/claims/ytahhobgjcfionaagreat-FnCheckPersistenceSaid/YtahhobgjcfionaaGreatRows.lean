/-
  NARROWER THAN 'FOR EVERY INPUT', by the rows' own cells (each row's printed sentence says how): FnExactVerifyFormula: loops · FnExactCheckFormula: loops · FnExactCertifyFormula: loops.
  DERIVED. THE GIVEN ROWS OF THIS SEAT. 12 by the template 'for every input the law returns true; each argument reads behind the call as it read before'; 0 by the template 'total and deterministic' (their statements: YtahhobgjcfionaaGreatTotals.lean).
  GIVEN WITH THE SEED: the statements are not yours to turn. If you find one false, say at which input.
  Laid BY PROGRAM, IN A SANDBOX (cutbox-rows.mjs): the forced cells as the released guide's own fill.sh prints them over the translation bf277ce74e56b4ff… (all of the seat's roots in one cut). By AI agents, Wed Nov 11 2026. No macro, syntax, notation, axiom, sorry.
-/
import Derived.Test.YtahhobgjcfionaaGreatChecked
import GoSem.Claim
import GoSem.ClaimJoined
import GoSem.ClaimMapViews
import Derived.JoinedTies
import Derived.KernelRfl
namespace Go.Proofs.YtahhobgjcfionaaGreat
/- THE CELL 'sum', in the pinned program and in every row, IS THE sha256 OF THE DUMP (.gsa) THAT YtahhobgjcfionaaGreatProg.lean LOADS. Nothing in Lean hashes anything: it is a label: what it is worth is what the hold of that sum in a sandbox is worth. -/
noncomputable def Tryz.pinned : Pinned := { name := "ytahhobgjcfionaagreat", sum := "bf277ce74e56b4ff8284a687a82cab8d39598b1861d881b1a8a815cced7a8082", checked := Tryz.checked }
namespace Rows
def none {H : Type} : Left H := { results := [], args := [] }

/-- 'laws.FnFindTrace': WHATEVER THE INPUT: true; the input reads as it did. -/
def fnFindTraceSpec : ChangeSpec := { name := "fnFindTrace", fn := fun _ => fun
  | [d1, d2] => { results := [.lit (.bool true)], args := [d1, d2] }
  | _ => none }
def fnFindTraceRow : OpenClaim := { program := "ytahhobgjcfionaagreat", sum := "bf277ce74e56b4ff8284a687a82cab8d39598b1861d881b1a8a815cced7a8082", func := "loop.example/ltlcheck/laws.FnFindTrace", spec := "fnFindTrace", unfollowed := true, recurses := true, plainKeys := false, apart := false }
def FnFindTraceSaid : Prop := fnFindTraceRow.holds Tryz.pinned (OpenSpec.ofChange fnFindTraceSpec)

/-- ITS FALSE NEIGHBOUR: 'it returns false'. Refute it at one input. -/
def fnFindTraceWrong : ChangeSpec := { name := "fnFindTrace", fn := fun _ => fun
  | [d1, d2] => { results := [.lit (.bool false)], args := [d1, d2] }
  | _ => none }
def FnFindTraceWrongFalsely : Prop := fnFindTraceRow.holds Tryz.pinned (OpenSpec.ofChange fnFindTraceWrong)

/-- 'laws.FnCheckCertificate': WHATEVER THE INPUT: true; the input reads as it did. -/
def fnCheckCertificateSpec : ChangeSpec := { name := "fnCheckCertificate", fn := fun _ => fun
  | [d1, d2] => { results := [.lit (.bool true)], args := [d1, d2] }
  | _ => none }
def fnCheckCertificateRow : OpenClaim := { program := "ytahhobgjcfionaagreat", sum := "bf277ce74e56b4ff8284a687a82cab8d39598b1861d881b1a8a815cced7a8082", func := "loop.example/ltlcheck/laws.FnCheckCertificate", spec := "fnCheckCertificate", unfollowed := true, recurses := true, plainKeys := false, apart := false }
def FnCheckCertificateSaid : Prop := fnCheckCertificateRow.holds Tryz.pinned (OpenSpec.ofChange fnCheckCertificateSpec)

/-- ITS FALSE NEIGHBOUR: 'it returns false'. Refute it at one input. -/
def fnCheckCertificateWrong : ChangeSpec := { name := "fnCheckCertificate", fn := fun _ => fun
  | [d1, d2] => { results := [.lit (.bool false)], args := [d1, d2] }
  | _ => none }
def FnCheckCertificateWrongFalsely : Prop := fnCheckCertificateRow.holds Tryz.pinned (OpenSpec.ofChange fnCheckCertificateWrong)

/-- 'laws.FnCertificateLeast': WHATEVER THE INPUT: true; the input reads as it did. -/
def fnCertificateLeastSpec : ChangeSpec := { name := "fnCertificateLeast", fn := fun _ => fun
  | [d] => { results := [.lit (.bool true)], args := [d] }
  | _ => none }
def fnCertificateLeastRow : OpenClaim := { program := "ytahhobgjcfionaagreat", sum := "bf277ce74e56b4ff8284a687a82cab8d39598b1861d881b1a8a815cced7a8082", func := "loop.example/ltlcheck/laws.FnCertificateLeast", spec := "fnCertificateLeast", unfollowed := true, recurses := true, plainKeys := false, apart := false }
def FnCertificateLeastSaid : Prop := fnCertificateLeastRow.holds Tryz.pinned (OpenSpec.ofChange fnCertificateLeastSpec)

/-- ITS FALSE NEIGHBOUR: 'it returns false'. Refute it at one input. -/
def fnCertificateLeastWrong : ChangeSpec := { name := "fnCertificateLeast", fn := fun _ => fun
  | [d] => { results := [.lit (.bool false)], args := [d] }
  | _ => none }
def FnCertificateLeastWrongFalsely : Prop := fnCertificateLeastRow.holds Tryz.pinned (OpenSpec.ofChange fnCertificateLeastWrong)

/-- 'laws.FnCertificateUnion': WHATEVER THE INPUT: true; the input reads as it did. -/
def fnCertificateUnionSpec : ChangeSpec := { name := "fnCertificateUnion", fn := fun _ => fun
  | [d1, d2] => { results := [.lit (.bool true)], args := [d1, d2] }
  | _ => none }
def fnCertificateUnionRow : OpenClaim := { program := "ytahhobgjcfionaagreat", sum := "bf277ce74e56b4ff8284a687a82cab8d39598b1861d881b1a8a815cced7a8082", func := "loop.example/ltlcheck/laws.FnCertificateUnion", spec := "fnCertificateUnion", unfollowed := true, recurses := true, plainKeys := false, apart := false }
def FnCertificateUnionSaid : Prop := fnCertificateUnionRow.holds Tryz.pinned (OpenSpec.ofChange fnCertificateUnionSpec)

/-- ITS FALSE NEIGHBOUR: 'it returns false'. Refute it at one input. -/
def fnCertificateUnionWrong : ChangeSpec := { name := "fnCertificateUnion", fn := fun _ => fun
  | [d1, d2] => { results := [.lit (.bool false)], args := [d1, d2] }
  | _ => none }
def FnCertificateUnionWrongFalsely : Prop := fnCertificateUnionRow.holds Tryz.pinned (OpenSpec.ofChange fnCertificateUnionWrong)

/-- 'laws.FnExactVerifyFormula': WHATEVER THE INPUT: true; the input reads as it did. -/
def fnExactVerifyFormulaSpec : ChangeSpec := { name := "fnExactVerifyFormula", fn := fun _ => fun
  | [d1, d2, d3, d4] => { results := [.lit (.bool true)], args := [d1, d2, d3, d4] }
  | _ => none }
def fnExactVerifyFormulaRow : OpenClaim := { program := "ytahhobgjcfionaagreat", sum := "bf277ce74e56b4ff8284a687a82cab8d39598b1861d881b1a8a815cced7a8082", func := "loop.example/ltlcheck/laws.FnExactVerifyFormula", spec := "fnExactVerifyFormula", unfollowed := true, recurses := true, loops := true, plainKeys := false, apart := false }
def FnExactVerifyFormulaSaid : Prop := fnExactVerifyFormulaRow.holds Tryz.pinned (OpenSpec.ofChange fnExactVerifyFormulaSpec)

/-- ITS FALSE NEIGHBOUR: 'it returns false'. Refute it at one input. -/
def fnExactVerifyFormulaWrong : ChangeSpec := { name := "fnExactVerifyFormula", fn := fun _ => fun
  | [d1, d2, d3, d4] => { results := [.lit (.bool false)], args := [d1, d2, d3, d4] }
  | _ => none }
def FnExactVerifyFormulaWrongFalsely : Prop := fnExactVerifyFormulaRow.holds Tryz.pinned (OpenSpec.ofChange fnExactVerifyFormulaWrong)

/-- 'laws.FnExactCheckFormula': WHATEVER THE INPUT: true; the input reads as it did. -/
def fnExactCheckFormulaSpec : ChangeSpec := { name := "fnExactCheckFormula", fn := fun _ => fun
  | [d1, d2, d3] => { results := [.lit (.bool true)], args := [d1, d2, d3] }
  | _ => none }
def fnExactCheckFormulaRow : OpenClaim := { program := "ytahhobgjcfionaagreat", sum := "bf277ce74e56b4ff8284a687a82cab8d39598b1861d881b1a8a815cced7a8082", func := "loop.example/ltlcheck/laws.FnExactCheckFormula", spec := "fnExactCheckFormula", unfollowed := true, recurses := true, loops := true, plainKeys := false, apart := false }
def FnExactCheckFormulaSaid : Prop := fnExactCheckFormulaRow.holds Tryz.pinned (OpenSpec.ofChange fnExactCheckFormulaSpec)

/-- ITS FALSE NEIGHBOUR: 'it returns false'. Refute it at one input. -/
def fnExactCheckFormulaWrong : ChangeSpec := { name := "fnExactCheckFormula", fn := fun _ => fun
  | [d1, d2, d3] => { results := [.lit (.bool false)], args := [d1, d2, d3] }
  | _ => none }
def FnExactCheckFormulaWrongFalsely : Prop := fnExactCheckFormulaRow.holds Tryz.pinned (OpenSpec.ofChange fnExactCheckFormulaWrong)

/-- 'laws.FnExactCertifyFormula': WHATEVER THE INPUT: true; the input reads as it did. -/
def fnExactCertifyFormulaSpec : ChangeSpec := { name := "fnExactCertifyFormula", fn := fun _ => fun
  | [d1, d2, d3] => { results := [.lit (.bool true)], args := [d1, d2, d3] }
  | _ => none }
def fnExactCertifyFormulaRow : OpenClaim := { program := "ytahhobgjcfionaagreat", sum := "bf277ce74e56b4ff8284a687a82cab8d39598b1861d881b1a8a815cced7a8082", func := "loop.example/ltlcheck/laws.FnExactCertifyFormula", spec := "fnExactCertifyFormula", unfollowed := true, recurses := true, loops := true, plainKeys := false, apart := false }
def FnExactCertifyFormulaSaid : Prop := fnExactCertifyFormulaRow.holds Tryz.pinned (OpenSpec.ofChange fnExactCertifyFormulaSpec)

/-- ITS FALSE NEIGHBOUR: 'it returns false'. Refute it at one input. -/
def fnExactCertifyFormulaWrong : ChangeSpec := { name := "fnExactCertifyFormula", fn := fun _ => fun
  | [d1, d2, d3] => { results := [.lit (.bool false)], args := [d1, d2, d3] }
  | _ => none }
def FnExactCertifyFormulaWrongFalsely : Prop := fnExactCertifyFormulaRow.holds Tryz.pinned (OpenSpec.ofChange fnExactCertifyFormulaWrong)

/-- 'laws.FnCheckAnd': WHATEVER THE INPUT: true; the input reads as it did. -/
def fnCheckAndSpec : ChangeSpec := { name := "fnCheckAnd", fn := fun _ => fun
  | [d1, d2] => { results := [.lit (.bool true)], args := [d1, d2] }
  | _ => none }
def fnCheckAndRow : OpenClaim := { program := "ytahhobgjcfionaagreat", sum := "bf277ce74e56b4ff8284a687a82cab8d39598b1861d881b1a8a815cced7a8082", func := "loop.example/ltlcheck/laws.FnCheckAnd", spec := "fnCheckAnd", unfollowed := true, recurses := true, plainKeys := false, apart := false }
def FnCheckAndSaid : Prop := fnCheckAndRow.holds Tryz.pinned (OpenSpec.ofChange fnCheckAndSpec)

/-- ITS FALSE NEIGHBOUR: 'it returns false'. Refute it at one input. -/
def fnCheckAndWrong : ChangeSpec := { name := "fnCheckAnd", fn := fun _ => fun
  | [d1, d2] => { results := [.lit (.bool false)], args := [d1, d2] }
  | _ => none }
def FnCheckAndWrongFalsely : Prop := fnCheckAndRow.holds Tryz.pinned (OpenSpec.ofChange fnCheckAndWrong)

/-- 'laws.FnCheckNegation': WHATEVER THE INPUT: true; the input reads as it did. -/
def fnCheckNegationSpec : ChangeSpec := { name := "fnCheckNegation", fn := fun _ => fun
  | [d] => { results := [.lit (.bool true)], args := [d] }
  | _ => none }
def fnCheckNegationRow : OpenClaim := { program := "ytahhobgjcfionaagreat", sum := "bf277ce74e56b4ff8284a687a82cab8d39598b1861d881b1a8a815cced7a8082", func := "loop.example/ltlcheck/laws.FnCheckNegation", spec := "fnCheckNegation", unfollowed := true, recurses := true, plainKeys := false, apart := false }
def FnCheckNegationSaid : Prop := fnCheckNegationRow.holds Tryz.pinned (OpenSpec.ofChange fnCheckNegationSpec)

/-- ITS FALSE NEIGHBOUR: 'it returns false'. Refute it at one input. -/
def fnCheckNegationWrong : ChangeSpec := { name := "fnCheckNegation", fn := fun _ => fun
  | [d] => { results := [.lit (.bool false)], args := [d] }
  | _ => none }
def FnCheckNegationWrongFalsely : Prop := fnCheckNegationRow.holds Tryz.pinned (OpenSpec.ofChange fnCheckNegationWrong)

/-- 'laws.FnCheckPersistence': WHATEVER THE INPUT: true; the input reads as it did. -/
def fnCheckPersistenceSpec : ChangeSpec := { name := "fnCheckPersistence", fn := fun _ => fun
  | [d1, d2] => { results := [.lit (.bool true)], args := [d1, d2] }
  | _ => none }
def fnCheckPersistenceRow : OpenClaim := { program := "ytahhobgjcfionaagreat", sum := "bf277ce74e56b4ff8284a687a82cab8d39598b1861d881b1a8a815cced7a8082", func := "loop.example/ltlcheck/laws.FnCheckPersistence", spec := "fnCheckPersistence", unfollowed := true, recurses := true, plainKeys := false, apart := false }
def FnCheckPersistenceSaid : Prop := fnCheckPersistenceRow.holds Tryz.pinned (OpenSpec.ofChange fnCheckPersistenceSpec)

/-- ITS FALSE NEIGHBOUR: 'it returns false'. Refute it at one input. -/
def fnCheckPersistenceWrong : ChangeSpec := { name := "fnCheckPersistence", fn := fun _ => fun
  | [d1, d2] => { results := [.lit (.bool false)], args := [d1, d2] }
  | _ => none }
def FnCheckPersistenceWrongFalsely : Prop := fnCheckPersistenceRow.holds Tryz.pinned (OpenSpec.ofChange fnCheckPersistenceWrong)

/-- 'laws.FnCheckWeaker': WHATEVER THE INPUT: true; the input reads as it did. -/
def fnCheckWeakerSpec : ChangeSpec := { name := "fnCheckWeaker", fn := fun _ => fun
  | [d1, d2] => { results := [.lit (.bool true)], args := [d1, d2] }
  | _ => none }
def fnCheckWeakerRow : OpenClaim := { program := "ytahhobgjcfionaagreat", sum := "bf277ce74e56b4ff8284a687a82cab8d39598b1861d881b1a8a815cced7a8082", func := "loop.example/ltlcheck/laws.FnCheckWeaker", spec := "fnCheckWeaker", unfollowed := true, recurses := true, plainKeys := false, apart := false }
def FnCheckWeakerSaid : Prop := fnCheckWeakerRow.holds Tryz.pinned (OpenSpec.ofChange fnCheckWeakerSpec)

/-- ITS FALSE NEIGHBOUR: 'it returns false'. Refute it at one input. -/
def fnCheckWeakerWrong : ChangeSpec := { name := "fnCheckWeaker", fn := fun _ => fun
  | [d1, d2] => { results := [.lit (.bool false)], args := [d1, d2] }
  | _ => none }
def FnCheckWeakerWrongFalsely : Prop := fnCheckWeakerRow.holds Tryz.pinned (OpenSpec.ofChange fnCheckWeakerWrong)

/-- 'laws.FnCheckNext': WHATEVER THE INPUT: true; the input reads as it did. -/
def fnCheckNextSpec : ChangeSpec := { name := "fnCheckNext", fn := fun _ => fun
  | [d1, d2] => { results := [.lit (.bool true)], args := [d1, d2] }
  | _ => none }
def fnCheckNextRow : OpenClaim := { program := "ytahhobgjcfionaagreat", sum := "bf277ce74e56b4ff8284a687a82cab8d39598b1861d881b1a8a815cced7a8082", func := "loop.example/ltlcheck/laws.FnCheckNext", spec := "fnCheckNext", unfollowed := true, recurses := true, plainKeys := false, apart := false }
def FnCheckNextSaid : Prop := fnCheckNextRow.holds Tryz.pinned (OpenSpec.ofChange fnCheckNextSpec)

/-- ITS FALSE NEIGHBOUR: 'it returns false'. Refute it at one input. -/
def fnCheckNextWrong : ChangeSpec := { name := "fnCheckNext", fn := fun _ => fun
  | [d1, d2] => { results := [.lit (.bool false)], args := [d1, d2] }
  | _ => none }
def FnCheckNextWrongFalsely : Prop := fnCheckNextRow.holds Tryz.pinned (OpenSpec.ofChange fnCheckNextWrong)

/- THE SECOND FORM. 'bulk': how many values and letters a reading holds, each counted each time it is reached (what is shared counts as often as it is met; a slice's spare places count too). A statement '..UptoSaid' is the law's where the arguments, and the package variables that the reading takes, are together of bulk at most 1048576: NARROWER than '..Said'. Prove '..Said' where nothing that the law and all that it calls make is longer than what came in: it says more and counts as full. Else prove '..UptoSaid'. A law counts once. -/
mutual
def uptoBulk {H : Type} : DataW H → Nat
  | .lit (.string bytes) => bytes.length + 1
  | .lit _ => 1
  | .nil => 1
  | .ptr d => uptoBulk d + 1
  | .slice elems spare => uptoBulkAll elems + uptoBulkAll spare + 1
  | .agg parts => uptoBulkAll parts + 1
  | .iface _ d => uptoBulk d + 1
  | .map entries => uptoBulkEntries entries + 1
  | .held _ => 1
def uptoBulkAll {H : Type} : List (DataW H) → Nat
  | [] => 0
  | d :: r => uptoBulk d + uptoBulkAll r
def uptoBulkEntries {H : Type} : List (Lit × DataW H) → Nat
  | [] => 0
  | x :: r => uptoBulkEntry x + uptoBulkEntries r
def uptoBulkEntry {H : Type} : Lit × DataW H → Nat
  | (.string bytes, d) => bytes.length + uptoBulk d + 1
  | (_, d) => uptoBulk d + 1
 end
def uptoSmall : (H : Type) → List (DataW H) → Bool := fun _ ds => decide (uptoBulkAll ds ≤ 1048576)
def OpenSpec.upto (s : _root_.Go.ChangeSpec) : _root_.Go.OpenSpec := { _root_.Go.OpenSpec.ofChange s with cond := some uptoSmall }

/-- 'laws.FnFindTrace', WHERE WHAT IT READS IS OF BULK AT MOST 1048576: true; the input reads as it did. -/
def fnFindTraceUptoRow : OpenClaim := { program := "ytahhobgjcfionaagreat", sum := "bf277ce74e56b4ff8284a687a82cab8d39598b1861d881b1a8a815cced7a8082", func := "loop.example/ltlcheck/laws.FnFindTrace", spec := "fnFindTrace", unfollowed := true, recurses := true, plainKeys := false, apart := false, narrowed := true }
def FnFindTraceUptoSaid : Prop := fnFindTraceUptoRow.holds Tryz.pinned (OpenSpec.upto fnFindTraceSpec)

/-- 'laws.FnCheckCertificate', WHERE WHAT IT READS IS OF BULK AT MOST 1048576: true; the input reads as it did. -/
def fnCheckCertificateUptoRow : OpenClaim := { program := "ytahhobgjcfionaagreat", sum := "bf277ce74e56b4ff8284a687a82cab8d39598b1861d881b1a8a815cced7a8082", func := "loop.example/ltlcheck/laws.FnCheckCertificate", spec := "fnCheckCertificate", unfollowed := true, recurses := true, plainKeys := false, apart := false, narrowed := true }
def FnCheckCertificateUptoSaid : Prop := fnCheckCertificateUptoRow.holds Tryz.pinned (OpenSpec.upto fnCheckCertificateSpec)

/-- 'laws.FnCertificateLeast', WHERE WHAT IT READS IS OF BULK AT MOST 1048576: true; the input reads as it did. -/
def fnCertificateLeastUptoRow : OpenClaim := { program := "ytahhobgjcfionaagreat", sum := "bf277ce74e56b4ff8284a687a82cab8d39598b1861d881b1a8a815cced7a8082", func := "loop.example/ltlcheck/laws.FnCertificateLeast", spec := "fnCertificateLeast", unfollowed := true, recurses := true, plainKeys := false, apart := false, narrowed := true }
def FnCertificateLeastUptoSaid : Prop := fnCertificateLeastUptoRow.holds Tryz.pinned (OpenSpec.upto fnCertificateLeastSpec)

/-- 'laws.FnCertificateUnion', WHERE WHAT IT READS IS OF BULK AT MOST 1048576: true; the input reads as it did. -/
def fnCertificateUnionUptoRow : OpenClaim := { program := "ytahhobgjcfionaagreat", sum := "bf277ce74e56b4ff8284a687a82cab8d39598b1861d881b1a8a815cced7a8082", func := "loop.example/ltlcheck/laws.FnCertificateUnion", spec := "fnCertificateUnion", unfollowed := true, recurses := true, plainKeys := false, apart := false, narrowed := true }
def FnCertificateUnionUptoSaid : Prop := fnCertificateUnionUptoRow.holds Tryz.pinned (OpenSpec.upto fnCertificateUnionSpec)

/-- 'laws.FnExactVerifyFormula', WHERE WHAT IT READS IS OF BULK AT MOST 1048576: true; the input reads as it did. -/
def fnExactVerifyFormulaUptoRow : OpenClaim := { program := "ytahhobgjcfionaagreat", sum := "bf277ce74e56b4ff8284a687a82cab8d39598b1861d881b1a8a815cced7a8082", func := "loop.example/ltlcheck/laws.FnExactVerifyFormula", spec := "fnExactVerifyFormula", unfollowed := true, recurses := true, loops := true, plainKeys := false, apart := false, narrowed := true }
def FnExactVerifyFormulaUptoSaid : Prop := fnExactVerifyFormulaUptoRow.holds Tryz.pinned (OpenSpec.upto fnExactVerifyFormulaSpec)

/-- 'laws.FnExactCheckFormula', WHERE WHAT IT READS IS OF BULK AT MOST 1048576: true; the input reads as it did. -/
def fnExactCheckFormulaUptoRow : OpenClaim := { program := "ytahhobgjcfionaagreat", sum := "bf277ce74e56b4ff8284a687a82cab8d39598b1861d881b1a8a815cced7a8082", func := "loop.example/ltlcheck/laws.FnExactCheckFormula", spec := "fnExactCheckFormula", unfollowed := true, recurses := true, loops := true, plainKeys := false, apart := false, narrowed := true }
def FnExactCheckFormulaUptoSaid : Prop := fnExactCheckFormulaUptoRow.holds Tryz.pinned (OpenSpec.upto fnExactCheckFormulaSpec)

/-- 'laws.FnExactCertifyFormula', WHERE WHAT IT READS IS OF BULK AT MOST 1048576: true; the input reads as it did. -/
def fnExactCertifyFormulaUptoRow : OpenClaim := { program := "ytahhobgjcfionaagreat", sum := "bf277ce74e56b4ff8284a687a82cab8d39598b1861d881b1a8a815cced7a8082", func := "loop.example/ltlcheck/laws.FnExactCertifyFormula", spec := "fnExactCertifyFormula", unfollowed := true, recurses := true, loops := true, plainKeys := false, apart := false, narrowed := true }
def FnExactCertifyFormulaUptoSaid : Prop := fnExactCertifyFormulaUptoRow.holds Tryz.pinned (OpenSpec.upto fnExactCertifyFormulaSpec)

/-- 'laws.FnCheckAnd', WHERE WHAT IT READS IS OF BULK AT MOST 1048576: true; the input reads as it did. -/
def fnCheckAndUptoRow : OpenClaim := { program := "ytahhobgjcfionaagreat", sum := "bf277ce74e56b4ff8284a687a82cab8d39598b1861d881b1a8a815cced7a8082", func := "loop.example/ltlcheck/laws.FnCheckAnd", spec := "fnCheckAnd", unfollowed := true, recurses := true, plainKeys := false, apart := false, narrowed := true }
def FnCheckAndUptoSaid : Prop := fnCheckAndUptoRow.holds Tryz.pinned (OpenSpec.upto fnCheckAndSpec)

/-- 'laws.FnCheckNegation', WHERE WHAT IT READS IS OF BULK AT MOST 1048576: true; the input reads as it did. -/
def fnCheckNegationUptoRow : OpenClaim := { program := "ytahhobgjcfionaagreat", sum := "bf277ce74e56b4ff8284a687a82cab8d39598b1861d881b1a8a815cced7a8082", func := "loop.example/ltlcheck/laws.FnCheckNegation", spec := "fnCheckNegation", unfollowed := true, recurses := true, plainKeys := false, apart := false, narrowed := true }
def FnCheckNegationUptoSaid : Prop := fnCheckNegationUptoRow.holds Tryz.pinned (OpenSpec.upto fnCheckNegationSpec)

/-- 'laws.FnCheckPersistence', WHERE WHAT IT READS IS OF BULK AT MOST 1048576: true; the input reads as it did. -/
def fnCheckPersistenceUptoRow : OpenClaim := { program := "ytahhobgjcfionaagreat", sum := "bf277ce74e56b4ff8284a687a82cab8d39598b1861d881b1a8a815cced7a8082", func := "loop.example/ltlcheck/laws.FnCheckPersistence", spec := "fnCheckPersistence", unfollowed := true, recurses := true, plainKeys := false, apart := false, narrowed := true }
def FnCheckPersistenceUptoSaid : Prop := fnCheckPersistenceUptoRow.holds Tryz.pinned (OpenSpec.upto fnCheckPersistenceSpec)

/-- 'laws.FnCheckWeaker', WHERE WHAT IT READS IS OF BULK AT MOST 1048576: true; the input reads as it did. -/
def fnCheckWeakerUptoRow : OpenClaim := { program := "ytahhobgjcfionaagreat", sum := "bf277ce74e56b4ff8284a687a82cab8d39598b1861d881b1a8a815cced7a8082", func := "loop.example/ltlcheck/laws.FnCheckWeaker", spec := "fnCheckWeaker", unfollowed := true, recurses := true, plainKeys := false, apart := false, narrowed := true }
def FnCheckWeakerUptoSaid : Prop := fnCheckWeakerUptoRow.holds Tryz.pinned (OpenSpec.upto fnCheckWeakerSpec)

/-- 'laws.FnCheckNext', WHERE WHAT IT READS IS OF BULK AT MOST 1048576: true; the input reads as it did. -/
def fnCheckNextUptoRow : OpenClaim := { program := "ytahhobgjcfionaagreat", sum := "bf277ce74e56b4ff8284a687a82cab8d39598b1861d881b1a8a815cced7a8082", func := "loop.example/ltlcheck/laws.FnCheckNext", spec := "fnCheckNext", unfollowed := true, recurses := true, plainKeys := false, apart := false, narrowed := true }
def FnCheckNextUptoSaid : Prop := fnCheckNextUptoRow.holds Tryz.pinned (OpenSpec.upto fnCheckNextSpec)

end Rows
end Go.Proofs.YtahhobgjcfionaaGreat
