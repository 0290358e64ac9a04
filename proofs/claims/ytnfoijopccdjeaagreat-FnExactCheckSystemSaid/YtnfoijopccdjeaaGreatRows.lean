/-
  NARROWER THAN 'FOR EVERY INPUT', by the rows' own cells (each row's printed sentence says how): FnExactCheckSystem: loops.
  DERIVED. THE GIVEN ROWS OF THIS SEAT. 4 by the template 'for every input the law returns true; each argument reads behind the call as it read before'; 0 by the template 'total and deterministic' (their statements: YtnfoijopccdjeaaGreatTotals.lean).
  GIVEN WITH THE SEED: the statements are not yours to turn. If you find one false, say at which input.
  Laid BY PROGRAM, IN A SANDBOX (cutbox-rows.mjs): the forced cells as the released guide's own fill.sh prints them over the translation ddbbda657beeaecd… (all of the seat's roots in one cut). By AI agents, Wed Nov 11 2026. No macro, syntax, notation, axiom, sorry.
-/
import Derived.Test.YtnfoijopccdjeaaGreatChecked
import GoSem.Claim
import GoSem.ClaimJoined
import GoSem.ClaimMapViews
import Derived.JoinedTies
import Derived.KernelRfl
namespace Go.Proofs.YtnfoijopccdjeaaGreat
/- THE CELL 'sum', in the pinned program and in every row, IS THE sha256 OF THE DUMP (.gsa) THAT YtnfoijopccdjeaaGreatProg.lean LOADS. Nothing in Lean hashes anything: it is a label: what it is worth is what the hold of that sum in a sandbox is worth. -/
noncomputable def Tryz.pinned : Pinned := { name := "ytnfoijopccdjeaagreat", sum := "ddbbda657beeaecd7888789987a098e0b97b9c0b0a7476c36f28d104ae22ee08", checked := Tryz.checked }
namespace Rows
def none {H : Type} : Left H := { results := [], args := [] }

/-- 'laws.FnCheckSystem': WHATEVER THE INPUT: true; the input reads as it did. -/
def fnCheckSystemSpec : ChangeSpec := { name := "fnCheckSystem", fn := fun _ => fun
  | [d] => { results := [.lit (.bool true)], args := [d] }
  | _ => none }
def fnCheckSystemRow : OpenClaim := { program := "ytnfoijopccdjeaagreat", sum := "ddbbda657beeaecd7888789987a098e0b97b9c0b0a7476c36f28d104ae22ee08", func := "loop.example/ltlcheck/laws.FnCheckSystem", spec := "fnCheckSystem", unfollowed := true, recurses := true, plainKeys := false, apart := false }
def FnCheckSystemSaid : Prop := fnCheckSystemRow.holds Tryz.pinned (OpenSpec.ofChange fnCheckSystemSpec)

/-- ITS FALSE NEIGHBOUR: 'it returns false'. Refute it at one input. -/
def fnCheckSystemWrong : ChangeSpec := { name := "fnCheckSystem", fn := fun _ => fun
  | [d] => { results := [.lit (.bool false)], args := [d] }
  | _ => none }
def FnCheckSystemWrongFalsely : Prop := fnCheckSystemRow.holds Tryz.pinned (OpenSpec.ofChange fnCheckSystemWrong)

/-- 'laws.FnExactCheckSystem': WHATEVER THE INPUT: true; the input reads as it did. -/
def fnExactCheckSystemSpec : ChangeSpec := { name := "fnExactCheckSystem", fn := fun _ => fun
  | [d1, d2, d3] => { results := [.lit (.bool true)], args := [d1, d2, d3] }
  | _ => none }
def fnExactCheckSystemRow : OpenClaim := { program := "ytnfoijopccdjeaagreat", sum := "ddbbda657beeaecd7888789987a098e0b97b9c0b0a7476c36f28d104ae22ee08", func := "loop.example/ltlcheck/laws.FnExactCheckSystem", spec := "fnExactCheckSystem", unfollowed := true, recurses := true, loops := true, plainKeys := false, apart := false }
def FnExactCheckSystemSaid : Prop := fnExactCheckSystemRow.holds Tryz.pinned (OpenSpec.ofChange fnExactCheckSystemSpec)

/-- ITS FALSE NEIGHBOUR: 'it returns false'. Refute it at one input. -/
def fnExactCheckSystemWrong : ChangeSpec := { name := "fnExactCheckSystem", fn := fun _ => fun
  | [d1, d2, d3] => { results := [.lit (.bool false)], args := [d1, d2, d3] }
  | _ => none }
def FnExactCheckSystemWrongFalsely : Prop := fnExactCheckSystemRow.holds Tryz.pinned (OpenSpec.ofChange fnExactCheckSystemWrong)

/-- 'laws.FnCheckAlways': WHATEVER THE INPUT: true; the input reads as it did. -/
def fnCheckAlwaysSpec : ChangeSpec := { name := "fnCheckAlways", fn := fun _ => fun
  | [d] => { results := [.lit (.bool true)], args := [d] }
  | _ => none }
def fnCheckAlwaysRow : OpenClaim := { program := "ytnfoijopccdjeaagreat", sum := "ddbbda657beeaecd7888789987a098e0b97b9c0b0a7476c36f28d104ae22ee08", func := "loop.example/ltlcheck/laws.FnCheckAlways", spec := "fnCheckAlways", unfollowed := true, recurses := true, plainKeys := false, apart := false }
def FnCheckAlwaysSaid : Prop := fnCheckAlwaysRow.holds Tryz.pinned (OpenSpec.ofChange fnCheckAlwaysSpec)

/-- ITS FALSE NEIGHBOUR: 'it returns false'. Refute it at one input. -/
def fnCheckAlwaysWrong : ChangeSpec := { name := "fnCheckAlways", fn := fun _ => fun
  | [d] => { results := [.lit (.bool false)], args := [d] }
  | _ => none }
def FnCheckAlwaysWrongFalsely : Prop := fnCheckAlwaysRow.holds Tryz.pinned (OpenSpec.ofChange fnCheckAlwaysWrong)

/-- 'laws.FnSliceCheck': WHATEVER THE INPUT: true; the input reads as it did. -/
def fnSliceCheckSpec : ChangeSpec := { name := "fnSliceCheck", fn := fun _ => fun
  | [d1, d2] => { results := [.lit (.bool true)], args := [d1, d2] }
  | _ => none }
def fnSliceCheckRow : OpenClaim := { program := "ytnfoijopccdjeaagreat", sum := "ddbbda657beeaecd7888789987a098e0b97b9c0b0a7476c36f28d104ae22ee08", func := "loop.example/ltlcheck/laws.FnSliceCheck", spec := "fnSliceCheck", unfollowed := true, recurses := true, plainKeys := false, apart := false }
def FnSliceCheckSaid : Prop := fnSliceCheckRow.holds Tryz.pinned (OpenSpec.ofChange fnSliceCheckSpec)

/-- ITS FALSE NEIGHBOUR: 'it returns false'. Refute it at one input. -/
def fnSliceCheckWrong : ChangeSpec := { name := "fnSliceCheck", fn := fun _ => fun
  | [d1, d2] => { results := [.lit (.bool false)], args := [d1, d2] }
  | _ => none }
def FnSliceCheckWrongFalsely : Prop := fnSliceCheckRow.holds Tryz.pinned (OpenSpec.ofChange fnSliceCheckWrong)

/- THE SECOND FORM. 'bulk': how many values and letters a reading holds, each counted each time it is reached (what is shared counts as often as it is met; a slice's spare places count too). A statement '..UptoSaid' is the law's where the arguments, and the package variables that the reading takes, are together of bulk at most 1048576: NARROWER than '..Said'. Prove '..Said' where nothing that the law and all that it calls make is longer than what came in: it says more and counts as full. Else prove '..UptoSaid'. A law counts once. -/
mutual
def uptoBulk {H : Type} : DataW H → Nat
  | .lit (.string bytes) => bytes.length + 1
  | .lit _ => 1
  | .nil => 1
  | .ptr d => uptoBulk d + 1
  | .slice elems spare => uptoBulkAll elems + uptoBulkAll spare + 1
  | .agg parts => uptoBulkAll parts + 1
  | .iface _ d => uptoBulk d + 1
  | .map entries => uptoBulkEntries entries + 1
  | .held _ => 1
def uptoBulkAll {H : Type} : List (DataW H) → Nat
  | [] => 0
  | d :: r => uptoBulk d + uptoBulkAll r
def uptoBulkEntries {H : Type} : List (Lit × DataW H) → Nat
  | [] => 0
  | x :: r => uptoBulkEntry x + uptoBulkEntries r
def uptoBulkEntry {H : Type} : Lit × DataW H → Nat
  | (.string bytes, d) => bytes.length + uptoBulk d + 1
  | (_, d) => uptoBulk d + 1
 end
def uptoSmall : (H : Type) → List (DataW H) → Bool := fun _ ds => decide (uptoBulkAll ds ≤ 1048576)
def OpenSpec.upto (s : _root_.Go.ChangeSpec) : _root_.Go.OpenSpec := { _root_.Go.OpenSpec.ofChange s with cond := some uptoSmall }

/-- 'laws.FnCheckSystem', WHERE WHAT IT READS IS OF BULK AT MOST 1048576: true; the input reads as it did. -/
def fnCheckSystemUptoRow : OpenClaim := { program := "ytnfoijopccdjeaagreat", sum := "ddbbda657beeaecd7888789987a098e0b97b9c0b0a7476c36f28d104ae22ee08", func := "loop.example/ltlcheck/laws.FnCheckSystem", spec := "fnCheckSystem", unfollowed := true, recurses := true, plainKeys := false, apart := false, narrowed := true }
def FnCheckSystemUptoSaid : Prop := fnCheckSystemUptoRow.holds Tryz.pinned (OpenSpec.upto fnCheckSystemSpec)

/-- 'laws.FnExactCheckSystem', WHERE WHAT IT READS IS OF BULK AT MOST 1048576: true; the input reads as it did. -/
def fnExactCheckSystemUptoRow : OpenClaim := { program := "ytnfoijopccdjeaagreat", sum := "ddbbda657beeaecd7888789987a098e0b97b9c0b0a7476c36f28d104ae22ee08", func := "loop.example/ltlcheck/laws.FnExactCheckSystem", spec := "fnExactCheckSystem", unfollowed := true, recurses := true, loops := true, plainKeys := false, apart := false, narrowed := true }
def FnExactCheckSystemUptoSaid : Prop := fnExactCheckSystemUptoRow.holds Tryz.pinned (OpenSpec.upto fnExactCheckSystemSpec)

/-- 'laws.FnCheckAlways', WHERE WHAT IT READS IS OF BULK AT MOST 1048576: true; the input reads as it did. -/
def fnCheckAlwaysUptoRow : OpenClaim := { program := "ytnfoijopccdjeaagreat", sum := "ddbbda657beeaecd7888789987a098e0b97b9c0b0a7476c36f28d104ae22ee08", func := "loop.example/ltlcheck/laws.FnCheckAlways", spec := "fnCheckAlways", unfollowed := true, recurses := true, plainKeys := false, apart := false, narrowed := true }
def FnCheckAlwaysUptoSaid : Prop := fnCheckAlwaysUptoRow.holds Tryz.pinned (OpenSpec.upto fnCheckAlwaysSpec)

/-- 'laws.FnSliceCheck', WHERE WHAT IT READS IS OF BULK AT MOST 1048576: true; the input reads as it did. -/
def fnSliceCheckUptoRow : OpenClaim := { program := "ytnfoijopccdjeaagreat", sum := "ddbbda657beeaecd7888789987a098e0b97b9c0b0a7476c36f28d104ae22ee08", func := "loop.example/ltlcheck/laws.FnSliceCheck", spec := "fnSliceCheck", unfollowed := true, recurses := true, plainKeys := false, apart := false, narrowed := true }
def FnSliceCheckUptoSaid : Prop := fnSliceCheckUptoRow.holds Tryz.pinned (OpenSpec.upto fnSliceCheckSpec)

end Rows
end Go.Proofs.YtnfoijopccdjeaaGreat
