/-
  No cell of these rows narrows 'for every input' (looked for: loops, veiled, ifaces, maps, wideKeys, modest, calm, conditions, laid).
  DERIVED. THE GIVEN ROWS OF THIS SEAT. 3 by the template 'for every input the law returns true; each argument reads behind the call as it read before'; 0 by the template 'total and deterministic' (their statements: YtkophaoifmofdaaTotals.lean).
  GIVEN WITH THE SEED: the statements are not yours to turn. If you find one false, say at which input.
  Laid BY PROGRAM, IN A SANDBOX (cutbox-rows.mjs): the forced cells as the released guide's own fill.sh prints them over the translation fce010008b0a2a97… (all of the seat's roots in one cut). By AI agents, Wed Nov 11 2026. No macro, syntax, notation, axiom, sorry.
-/
import Derived.Test.YtkophaoifmofdaaChecked
import GoSem.Claim
import GoSem.ClaimJoined
import GoSem.ClaimMapViews
import Derived.JoinedTies
import Derived.KernelRfl
namespace Go.Proofs.Ytkophaoifmofdaa
/- THE CELL 'sum', in the pinned program and in every row, IS THE sha256 OF THE DUMP (.gsa) THAT YtkophaoifmofdaaProg.lean LOADS. Nothing in Lean hashes anything: it is a label: what it is worth is what the hold of that sum in a sandbox is worth. -/
noncomputable def Try.pinned : Pinned := { name := "ytkophaoifmofdaa", sum := "fce010008b0a2a9747a065da7fce0a6b1ef0996f486ccd0d6fd49c773a575ea2", checked := Try.checked }
namespace Rows
def none {H : Type} : Left H := { results := [], args := [] }

/-- 'laws.FnLabelGraph': WHATEVER THE INPUT: true; the input reads as it did. -/
def fnLabelGraphSpec : ChangeSpec := { name := "fnLabelGraph", fn := fun _ => fun
  | [d] => { results := [.lit (.bool true)], args := [d] }
  | _ => none }
def fnLabelGraphRow : OpenClaim := { program := "ytkophaoifmofdaa", sum := "fce010008b0a2a9747a065da7fce0a6b1ef0996f486ccd0d6fd49c773a575ea2", func := "loop.example/ltlcheck/laws.FnLabelGraph", spec := "fnLabelGraph", unfollowed := true, recurses := true, apart := false }
def FnLabelGraphSaid : Prop := fnLabelGraphRow.holds Try.pinned (OpenSpec.ofChange fnLabelGraphSpec)

/-- ITS FALSE NEIGHBOUR: 'it returns false'. Refute it at one input. -/
def fnLabelGraphWrong : ChangeSpec := { name := "fnLabelGraph", fn := fun _ => fun
  | [d] => { results := [.lit (.bool false)], args := [d] }
  | _ => none }
def FnLabelGraphWrongFalsely : Prop := fnLabelGraphRow.holds Try.pinned (OpenSpec.ofChange fnLabelGraphWrong)

/-- 'laws.FnTraceWord': WHATEVER THE INPUT: true; the input reads as it did. -/
def fnTraceWordSpec : ChangeSpec := { name := "fnTraceWord", fn := fun _ => fun
  | [d] => { results := [.lit (.bool true)], args := [d] }
  | _ => none }
def fnTraceWordRow : OpenClaim := { program := "ytkophaoifmofdaa", sum := "fce010008b0a2a9747a065da7fce0a6b1ef0996f486ccd0d6fd49c773a575ea2", func := "loop.example/ltlcheck/laws.FnTraceWord", spec := "fnTraceWord", unfollowed := true, recurses := true, apart := false }
def FnTraceWordSaid : Prop := fnTraceWordRow.holds Try.pinned (OpenSpec.ofChange fnTraceWordSpec)

/-- ITS FALSE NEIGHBOUR: 'it returns false'. Refute it at one input. -/
def fnTraceWordWrong : ChangeSpec := { name := "fnTraceWord", fn := fun _ => fun
  | [d] => { results := [.lit (.bool false)], args := [d] }
  | _ => none }
def FnTraceWordWrongFalsely : Prop := fnTraceWordRow.holds Try.pinned (OpenSpec.ofChange fnTraceWordWrong)

/-- 'laws.FnLabelBlocks': WHATEVER THE INPUT: true; the input reads as it did. -/
def fnLabelBlocksSpec : ChangeSpec := { name := "fnLabelBlocks", fn := fun _ => fun
  | [d] => { results := [.lit (.bool true)], args := [d] }
  | _ => none }
def fnLabelBlocksRow : OpenClaim := { program := "ytkophaoifmofdaa", sum := "fce010008b0a2a9747a065da7fce0a6b1ef0996f486ccd0d6fd49c773a575ea2", func := "loop.example/ltlcheck/laws.FnLabelBlocks", spec := "fnLabelBlocks", unfollowed := true, recurses := true, apart := false }
def FnLabelBlocksSaid : Prop := fnLabelBlocksRow.holds Try.pinned (OpenSpec.ofChange fnLabelBlocksSpec)

/-- ITS FALSE NEIGHBOUR: 'it returns false'. Refute it at one input. -/
def fnLabelBlocksWrong : ChangeSpec := { name := "fnLabelBlocks", fn := fun _ => fun
  | [d] => { results := [.lit (.bool false)], args := [d] }
  | _ => none }
def FnLabelBlocksWrongFalsely : Prop := fnLabelBlocksRow.holds Try.pinned (OpenSpec.ofChange fnLabelBlocksWrong)

/- THE SECOND FORM. 'bulk': how many values and letters a reading holds, each counted each time it is reached (what is shared counts as often as it is met; a slice's spare places count too). A statement '..UptoSaid' is the law's where the arguments, and the package variables that the reading takes, are together of bulk at most 1048576: NARROWER than '..Said'. Prove '..Said' where nothing that the law and all that it calls make is longer than what came in: it says more and counts as full. Else prove '..UptoSaid'. A law counts once. -/
mutual
def uptoBulk {H : Type} : DataW H → Nat
  | .lit (.string bytes) => bytes.length + 1
  | .lit _ => 1
  | .nil => 1
  | .ptr d => uptoBulk d + 1
  | .slice elems spare => uptoBulkAll elems + uptoBulkAll spare + 1
  | .agg parts => uptoBulkAll parts + 1
  | .iface _ d => uptoBulk d + 1
  | .map entries => uptoBulkEntries entries + 1
  | .held _ => 1
def uptoBulkAll {H : Type} : List (DataW H) → Nat
  | [] => 0
  | d :: r => uptoBulk d + uptoBulkAll r
def uptoBulkEntries {H : Type} : List (Lit × DataW H) → Nat
  | [] => 0
  | x :: r => uptoBulkEntry x + uptoBulkEntries r
def uptoBulkEntry {H : Type} : Lit × DataW H → Nat
  | (.string bytes, d) => bytes.length + uptoBulk d + 1
  | (_, d) => uptoBulk d + 1
 end
def uptoSmall : (H : Type) → List (DataW H) → Bool := fun _ ds => decide (uptoBulkAll ds ≤ 1048576)
def OpenSpec.upto (s : _root_.Go.ChangeSpec) : _root_.Go.OpenSpec := { _root_.Go.OpenSpec.ofChange s with cond := some uptoSmall }

/-- 'laws.FnLabelGraph', WHERE WHAT IT READS IS OF BULK AT MOST 1048576: true; the input reads as it did. -/
def fnLabelGraphUptoRow : OpenClaim := { program := "ytkophaoifmofdaa", sum := "fce010008b0a2a9747a065da7fce0a6b1ef0996f486ccd0d6fd49c773a575ea2", func := "loop.example/ltlcheck/laws.FnLabelGraph", spec := "fnLabelGraph", unfollowed := true, recurses := true, apart := false, narrowed := true }
def FnLabelGraphUptoSaid : Prop := fnLabelGraphUptoRow.holds Try.pinned (OpenSpec.upto fnLabelGraphSpec)

/-- 'laws.FnTraceWord', WHERE WHAT IT READS IS OF BULK AT MOST 1048576: true; the input reads as it did. -/
def fnTraceWordUptoRow : OpenClaim := { program := "ytkophaoifmofdaa", sum := "fce010008b0a2a9747a065da7fce0a6b1ef0996f486ccd0d6fd49c773a575ea2", func := "loop.example/ltlcheck/laws.FnTraceWord", spec := "fnTraceWord", unfollowed := true, recurses := true, apart := false, narrowed := true }
def FnTraceWordUptoSaid : Prop := fnTraceWordUptoRow.holds Try.pinned (OpenSpec.upto fnTraceWordSpec)

/-- 'laws.FnLabelBlocks', WHERE WHAT IT READS IS OF BULK AT MOST 1048576: true; the input reads as it did. -/
def fnLabelBlocksUptoRow : OpenClaim := { program := "ytkophaoifmofdaa", sum := "fce010008b0a2a9747a065da7fce0a6b1ef0996f486ccd0d6fd49c773a575ea2", func := "loop.example/ltlcheck/laws.FnLabelBlocks", spec := "fnLabelBlocks", unfollowed := true, recurses := true, apart := false, narrowed := true }
def FnLabelBlocksUptoSaid : Prop := fnLabelBlocksUptoRow.holds Try.pinned (OpenSpec.upto fnLabelBlocksSpec)

end Rows
end Go.Proofs.Ytkophaoifmofdaa
