/-
  NARROWER THAN 'FOR EVERY INPUT', by the rows' own cells (each row's printed sentence says how): FnExactLabelBlocks: loops · FnExactTraceWord: loops · FnExactCheckCertificate: loops.
  DERIVED. THE GIVEN ROWS OF THIS SEAT. 6 by the template 'for every input the law returns true; each argument reads behind the call as it read before'; 0 by the template 'total and deterministic' (their statements: YtcannajfdnipkaaTotals.lean).
  GIVEN WITH THE SEED: the statements are not yours to turn. If you find one false, say at which input.
  Laid BY PROGRAM, IN A SANDBOX (cutbox-rows.mjs): the forced cells as the released guide's own fill.sh prints them over the translation f75ec1585f3aa15c… (all of the seat's roots in one cut). By AI agents, Wed Nov 11 2026. No macro, syntax, notation, axiom, sorry.
-/
import Derived.Test.YtcannajfdnipkaaChecked
import GoSem.Claim
import GoSem.ClaimJoined
import GoSem.ClaimMapViews
import Derived.JoinedTies
import Derived.KernelRfl
namespace Go.Proofs.Ytcannajfdnipkaa
/- THE CELL 'sum', in the pinned program and in every row, IS THE sha256 OF THE DUMP (.gsa) THAT YtcannajfdnipkaaProg.lean LOADS. Nothing in Lean hashes anything: it is a label: what it is worth is what the hold of that sum in a sandbox is worth. -/
noncomputable def Try.pinned : Pinned := { name := "ytcannajfdnipkaa", sum := "f75ec1585f3aa15c637f623f1b45c8c838b1c3082cd4bf1591fe1e49fb5968bc", checked := Try.checked }
namespace Rows
def none {H : Type} : Left H := { results := [], args := [] }

/-- 'laws.FnExactLabelBlocks': WHATEVER THE INPUT: true; the input reads as it did. -/
def fnExactLabelBlocksSpec : ChangeSpec := { name := "fnExactLabelBlocks", fn := fun _ => fun
  | [d1, d2] => { results := [.lit (.bool true)], args := [d1, d2] }
  | _ => none }
def fnExactLabelBlocksRow : OpenClaim := { program := "ytcannajfdnipkaa", sum := "f75ec1585f3aa15c637f623f1b45c8c838b1c3082cd4bf1591fe1e49fb5968bc", func := "loop.example/ltlcheck/laws.FnExactLabelBlocks", spec := "fnExactLabelBlocks", unfollowed := true, recurses := true, loops := true, apart := false }
def FnExactLabelBlocksSaid : Prop := fnExactLabelBlocksRow.holds Try.pinned (OpenSpec.ofChange fnExactLabelBlocksSpec)

/-- ITS FALSE NEIGHBOUR: 'it returns false'. Refute it at one input. -/
def fnExactLabelBlocksWrong : ChangeSpec := { name := "fnExactLabelBlocks", fn := fun _ => fun
  | [d1, d2] => { results := [.lit (.bool false)], args := [d1, d2] }
  | _ => none }
def FnExactLabelBlocksWrongFalsely : Prop := fnExactLabelBlocksRow.holds Try.pinned (OpenSpec.ofChange fnExactLabelBlocksWrong)

/-- 'laws.FnLabelGraph': WHATEVER THE INPUT: true; the input reads as it did. -/
def fnLabelGraphSpec : ChangeSpec := { name := "fnLabelGraph", fn := fun _ => fun
  | [d] => { results := [.lit (.bool true)], args := [d] }
  | _ => none }
def fnLabelGraphRow : OpenClaim := { program := "ytcannajfdnipkaa", sum := "f75ec1585f3aa15c637f623f1b45c8c838b1c3082cd4bf1591fe1e49fb5968bc", func := "loop.example/ltlcheck/laws.FnLabelGraph", spec := "fnLabelGraph", unfollowed := true, recurses := true, apart := false }
def FnLabelGraphSaid : Prop := fnLabelGraphRow.holds Try.pinned (OpenSpec.ofChange fnLabelGraphSpec)

/-- ITS FALSE NEIGHBOUR: 'it returns false'. Refute it at one input. -/
def fnLabelGraphWrong : ChangeSpec := { name := "fnLabelGraph", fn := fun _ => fun
  | [d] => { results := [.lit (.bool false)], args := [d] }
  | _ => none }
def FnLabelGraphWrongFalsely : Prop := fnLabelGraphRow.holds Try.pinned (OpenSpec.ofChange fnLabelGraphWrong)

/-- 'laws.FnExactTraceWord': WHATEVER THE INPUT: true; the input reads as it did. -/
def fnExactTraceWordSpec : ChangeSpec := { name := "fnExactTraceWord", fn := fun _ => fun
  | [d1, d2, d3] => { results := [.lit (.bool true)], args := [d1, d2, d3] }
  | _ => none }
def fnExactTraceWordRow : OpenClaim := { program := "ytcannajfdnipkaa", sum := "f75ec1585f3aa15c637f623f1b45c8c838b1c3082cd4bf1591fe1e49fb5968bc", func := "loop.example/ltlcheck/laws.FnExactTraceWord", spec := "fnExactTraceWord", unfollowed := true, recurses := true, loops := true, apart := false }
def FnExactTraceWordSaid : Prop := fnExactTraceWordRow.holds Try.pinned (OpenSpec.ofChange fnExactTraceWordSpec)

/-- ITS FALSE NEIGHBOUR: 'it returns false'. Refute it at one input. -/
def fnExactTraceWordWrong : ChangeSpec := { name := "fnExactTraceWord", fn := fun _ => fun
  | [d1, d2, d3] => { results := [.lit (.bool false)], args := [d1, d2, d3] }
  | _ => none }
def FnExactTraceWordWrongFalsely : Prop := fnExactTraceWordRow.holds Try.pinned (OpenSpec.ofChange fnExactTraceWordWrong)

/-- 'laws.FnLabelBlocks': WHATEVER THE INPUT: true; the input reads as it did. -/
def fnLabelBlocksSpec : ChangeSpec := { name := "fnLabelBlocks", fn := fun _ => fun
  | [d] => { results := [.lit (.bool true)], args := [d] }
  | _ => none }
def fnLabelBlocksRow : OpenClaim := { program := "ytcannajfdnipkaa", sum := "f75ec1585f3aa15c637f623f1b45c8c838b1c3082cd4bf1591fe1e49fb5968bc", func := "loop.example/ltlcheck/laws.FnLabelBlocks", spec := "fnLabelBlocks", unfollowed := true, recurses := true, apart := false }
def FnLabelBlocksSaid : Prop := fnLabelBlocksRow.holds Try.pinned (OpenSpec.ofChange fnLabelBlocksSpec)

/-- ITS FALSE NEIGHBOUR: 'it returns false'. Refute it at one input. -/
def fnLabelBlocksWrong : ChangeSpec := { name := "fnLabelBlocks", fn := fun _ => fun
  | [d] => { results := [.lit (.bool false)], args := [d] }
  | _ => none }
def FnLabelBlocksWrongFalsely : Prop := fnLabelBlocksRow.holds Try.pinned (OpenSpec.ofChange fnLabelBlocksWrong)

/-- 'laws.FnExactCheckCertificate': WHATEVER THE INPUT: true; the input reads as it did. -/
def fnExactCheckCertificateSpec : ChangeSpec := { name := "fnExactCheckCertificate", fn := fun _ => fun
  | [d1, d2, d3, d4] => { results := [.lit (.bool true)], args := [d1, d2, d3, d4] }
  | _ => none }
def fnExactCheckCertificateRow : OpenClaim := { program := "ytcannajfdnipkaa", sum := "f75ec1585f3aa15c637f623f1b45c8c838b1c3082cd4bf1591fe1e49fb5968bc", func := "loop.example/ltlcheck/laws.FnExactCheckCertificate", spec := "fnExactCheckCertificate", unfollowed := true, recurses := true, loops := true, apart := false }
def FnExactCheckCertificateSaid : Prop := fnExactCheckCertificateRow.holds Try.pinned (OpenSpec.ofChange fnExactCheckCertificateSpec)

/-- ITS FALSE NEIGHBOUR: 'it returns false'. Refute it at one input. -/
def fnExactCheckCertificateWrong : ChangeSpec := { name := "fnExactCheckCertificate", fn := fun _ => fun
  | [d1, d2, d3, d4] => { results := [.lit (.bool false)], args := [d1, d2, d3, d4] }
  | _ => none }
def FnExactCheckCertificateWrongFalsely : Prop := fnExactCheckCertificateRow.holds Try.pinned (OpenSpec.ofChange fnExactCheckCertificateWrong)

/-- 'laws.FnTraceWord': WHATEVER THE INPUT: true; the input reads as it did. -/
def fnTraceWordSpec : ChangeSpec := { name := "fnTraceWord", fn := fun _ => fun
  | [d] => { results := [.lit (.bool true)], args := [d] }
  | _ => none }
def fnTraceWordRow : OpenClaim := { program := "ytcannajfdnipkaa", sum := "f75ec1585f3aa15c637f623f1b45c8c838b1c3082cd4bf1591fe1e49fb5968bc", func := "loop.example/ltlcheck/laws.FnTraceWord", spec := "fnTraceWord", unfollowed := true, recurses := true, apart := false }
def FnTraceWordSaid : Prop := fnTraceWordRow.holds Try.pinned (OpenSpec.ofChange fnTraceWordSpec)

/-- ITS FALSE NEIGHBOUR: 'it returns false'. Refute it at one input. -/
def fnTraceWordWrong : ChangeSpec := { name := "fnTraceWord", fn := fun _ => fun
  | [d] => { results := [.lit (.bool false)], args := [d] }
  | _ => none }
def FnTraceWordWrongFalsely : Prop := fnTraceWordRow.holds Try.pinned (OpenSpec.ofChange fnTraceWordWrong)

/- THE SECOND FORM. 'bulk': how many values and letters a reading holds, each counted each time it is reached (what is shared counts as often as it is met; a slice's spare places count too). A statement '..UptoSaid' is the law's where the arguments, and the package variables that the reading takes, are together of bulk at most 1048576: NARROWER than '..Said'. Prove '..Said' where nothing that the law and all that it calls make is longer than what came in: it says more and counts as full. Else prove '..UptoSaid'. A law counts once. -/
mutual
def uptoBulk {H : Type} : DataW H → Nat
  | .lit (.string bytes) => bytes.length + 1
  | .lit _ => 1
  | .nil => 1
  | .ptr d => uptoBulk d + 1
  | .slice elems spare => uptoBulkAll elems + uptoBulkAll spare + 1
  | .agg parts => uptoBulkAll parts + 1
  | .iface _ d => uptoBulk d + 1
  | .map entries => uptoBulkEntries entries + 1
  | .held _ => 1
def uptoBulkAll {H : Type} : List (DataW H) → Nat
  | [] => 0
  | d :: r => uptoBulk d + uptoBulkAll r
def uptoBulkEntries {H : Type} : List (Lit × DataW H) → Nat
  | [] => 0
  | x :: r => uptoBulkEntry x + uptoBulkEntries r
def uptoBulkEntry {H : Type} : Lit × DataW H → Nat
  | (.string bytes, d) => bytes.length + uptoBulk d + 1
  | (_, d) => uptoBulk d + 1
 end
def uptoSmall : (H : Type) → List (DataW H) → Bool := fun _ ds => decide (uptoBulkAll ds ≤ 1048576)
def OpenSpec.upto (s : _root_.Go.ChangeSpec) : _root_.Go.OpenSpec := { _root_.Go.OpenSpec.ofChange s with cond := some uptoSmall }

/-- 'laws.FnExactLabelBlocks', WHERE WHAT IT READS IS OF BULK AT MOST 1048576: true; the input reads as it did. -/
def fnExactLabelBlocksUptoRow : OpenClaim := { program := "ytcannajfdnipkaa", sum := "f75ec1585f3aa15c637f623f1b45c8c838b1c3082cd4bf1591fe1e49fb5968bc", func := "loop.example/ltlcheck/laws.FnExactLabelBlocks", spec := "fnExactLabelBlocks", unfollowed := true, recurses := true, loops := true, apart := false, narrowed := true }
def FnExactLabelBlocksUptoSaid : Prop := fnExactLabelBlocksUptoRow.holds Try.pinned (OpenSpec.upto fnExactLabelBlocksSpec)

/-- 'laws.FnLabelGraph', WHERE WHAT IT READS IS OF BULK AT MOST 1048576: true; the input reads as it did. -/
def fnLabelGraphUptoRow : OpenClaim := { program := "ytcannajfdnipkaa", sum := "f75ec1585f3aa15c637f623f1b45c8c838b1c3082cd4bf1591fe1e49fb5968bc", func := "loop.example/ltlcheck/laws.FnLabelGraph", spec := "fnLabelGraph", unfollowed := true, recurses := true, apart := false, narrowed := true }
def FnLabelGraphUptoSaid : Prop := fnLabelGraphUptoRow.holds Try.pinned (OpenSpec.upto fnLabelGraphSpec)

/-- 'laws.FnExactTraceWord', WHERE WHAT IT READS IS OF BULK AT MOST 1048576: true; the input reads as it did. -/
def fnExactTraceWordUptoRow : OpenClaim := { program := "ytcannajfdnipkaa", sum := "f75ec1585f3aa15c637f623f1b45c8c838b1c3082cd4bf1591fe1e49fb5968bc", func := "loop.example/ltlcheck/laws.FnExactTraceWord", spec := "fnExactTraceWord", unfollowed := true, recurses := true, loops := true, apart := false, narrowed := true }
def FnExactTraceWordUptoSaid : Prop := fnExactTraceWordUptoRow.holds Try.pinned (OpenSpec.upto fnExactTraceWordSpec)

/-- 'laws.FnLabelBlocks', WHERE WHAT IT READS IS OF BULK AT MOST 1048576: true; the input reads as it did. -/
def fnLabelBlocksUptoRow : OpenClaim := { program := "ytcannajfdnipkaa", sum := "f75ec1585f3aa15c637f623f1b45c8c838b1c3082cd4bf1591fe1e49fb5968bc", func := "loop.example/ltlcheck/laws.FnLabelBlocks", spec := "fnLabelBlocks", unfollowed := true, recurses := true, apart := false, narrowed := true }
def FnLabelBlocksUptoSaid : Prop := fnLabelBlocksUptoRow.holds Try.pinned (OpenSpec.upto fnLabelBlocksSpec)

/-- 'laws.FnExactCheckCertificate', WHERE WHAT IT READS IS OF BULK AT MOST 1048576: true; the input reads as it did. -/
def fnExactCheckCertificateUptoRow : OpenClaim := { program := "ytcannajfdnipkaa", sum := "f75ec1585f3aa15c637f623f1b45c8c838b1c3082cd4bf1591fe1e49fb5968bc", func := "loop.example/ltlcheck/laws.FnExactCheckCertificate", spec := "fnExactCheckCertificate", unfollowed := true, recurses := true, loops := true, apart := false, narrowed := true }
def FnExactCheckCertificateUptoSaid : Prop := fnExactCheckCertificateUptoRow.holds Try.pinned (OpenSpec.upto fnExactCheckCertificateSpec)

/-- 'laws.FnTraceWord', WHERE WHAT IT READS IS OF BULK AT MOST 1048576: true; the input reads as it did. -/
def fnTraceWordUptoRow : OpenClaim := { program := "ytcannajfdnipkaa", sum := "f75ec1585f3aa15c637f623f1b45c8c838b1c3082cd4bf1591fe1e49fb5968bc", func := "loop.example/ltlcheck/laws.FnTraceWord", spec := "fnTraceWord", unfollowed := true, recurses := true, apart := false, narrowed := true }
def FnTraceWordUptoSaid : Prop := fnTraceWordUptoRow.holds Try.pinned (OpenSpec.upto fnTraceWordSpec)

end Rows
end Go.Proofs.Ytcannajfdnipkaa
