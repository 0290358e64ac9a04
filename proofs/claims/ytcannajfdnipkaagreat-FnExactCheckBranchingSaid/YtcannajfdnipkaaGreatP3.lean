/- A part of the proofs over this program: T29. -/
import Derived.Test.YtcannajfdnipkaaGreatG0
import Derived.Test.YtcannajfdnipkaaGreatG1
import Derived.Test.YtcannajfdnipkaaGreatG2
import Derived.Test.YtcannajfdnipkaaGreatP0
import Derived.Test.YtcannajfdnipkaaGreatP1
import Derived.Test.YtcannajfdnipkaaGreatP2
import Derived.Test.YtcannajfdnipkaaGreatRows
import Derived.WalkKit
import Derived.ProofKit
import Derived.Deep.DeepHandedRow
import Derived.Lib.LaidTab
set_option linter.all false
namespace Go.Proofs.YtcannajfdnipkaaGreat
open Go.Gl
attribute [local irreducible] vcCall AWP RetOk Again ordOk

theorem wf_inI {n : Int} (h : (Lit.int .i64 n).wf = true) : inI n := by
  have h1 : IntKind.min .i64 = -9223372036854775808 := by decide
  have h2 : IntKind.max .i64 = 9223372036854775807 := by decide
  simpa [Lit.wf, inI, h1, h2] using h

theorem tree_ok {P : Program} {tE tS tI : TypeId} {n1 n2 n3 : Field} (ht : P.underlying tE = some (.struct #[n1, n2, n3])) (e1 : n1.type = tI) (e2 : n2.type = tI) (e3 : n3.type = tS) (hI : P.underlying tI = some (.int .i64)) (hS : P.underlying tS = some (.slice tE))
    (cI : P.cellsOf tI = 1) (cS : P.cellsOf tS = 1) (cE : P.cellsOf tE = 3) (o1 : n1.offset = 0) (o2 : n2.offset = 1) (o3 : n3.offset = 2) : OpensD P tE Tree.cs' Tree.mx := by
  intro k
  induction k using Nat.strongRecOn with
  | _ k ih =>
    match k with
    | 0 => exact opens_zero
    | k + 1 =>
      refine (od_struct3 (e1 := fun n : Int => [.int n]) (ok1 := fun n => (Lit.int .i64 n).wf = true) (e2 := fun n : Int => [.int n]) (ok2 := fun n => (Lit.int .i64 n).wf = true) (e3 := fun l : List Tree => [lst 3 Tree.cs' l]) (ok3 := fun l => l.length ≤ maxLen ∧ ∀ a ∈ l, a.mx) (enc := Tree.cs') Tree.mk ht o1 (by rw [o2, e1, cI]) (by rw [o3, e1, e2, cI]) (by rw [e1, e2, e3, cI, cS, cE]) ?_ ?_ ?_ ?_).imp ?_
      · rw [e1]; exact od_int hI (fun _ => rfl) k
      · rw [e2]; exact od_int hI (fun _ => rfl) k
      · rw [e3]
        match k with
        | 0 => exact opens_zero
        | k + 1 => exact opens_list hS cE (by decide) (ih k (by omega))
      · intro a b c
        show [AC.int a, AC.int b, AC.list 3 c.length (c.map Tree.cs)] = _
        rw [Tree.lst_eq]; rfl
      · rintro xs ⟨x, rfl, a, b, c, rfl, _, _, h⟩
        exact ⟨_, rfl, (Tree.mx_iff _).2 h⟩

theorem od_intS : OpensD Tryz.prog 68 encL (fun l => l.length ≤ maxLen ∧ ∀ n ∈ l, (Lit.int .i64 n).wf = true) := od_list 1 Tryz.underlying68 (by kernel_rfl) (by decide) (od_int (enc := enI) Tryz.underlying3 (fun _ => rfl)) (fun _ => rfl)
theorem od_intSS : OpensD Tryz.prog 23 (fun l => [lst 1 encL l]) (fun l => l.length ≤ maxLen ∧ ∀ r ∈ l, r.length ≤ maxLen) := (od_list 1 (encL := fun l => [lst 1 encL l]) Tryz.underlying23 (by kernel_rfl) (by decide) od_intS (fun _ => rfl)).imp fun l h => ⟨l, rfl, h.1, fun r hr => (h.2 r hr).1⟩
theorem od_state : OpensD Tryz.prog 70 State.cs State.mx :=
  (od_struct2 (enc := State.cs) State.mk Tryz.underlying70 rfl (by kernel_rfl) (by kernel_rfl) od_intS od_intS (fun _ _ => rfl)).imp fun s ⟨a, b, e, h1, h2⟩ => ⟨s, rfl, by subst e; exact ⟨h1.1, h2.1⟩⟩
theorem od_stateS : OpensD Tryz.prog 22 (fun l => [lst 2 State.cs l]) State.mxs := (od_list 2 (encL := fun l => [lst 2 State.cs l]) Tryz.underlying22 (by kernel_rfl) (by decide) od_state (fun _ => rfl)).imp fun l h => ⟨l, rfl, h⟩
theorem od_graph : OpensD Tryz.prog 25 Graph.cs Graph.mx :=
  (od_struct2 (enc := Graph.cs) Graph.mk Tryz.underlying25 rfl (by kernel_rfl) (by kernel_rfl) od_stateS od_intSS (fun _ _ => rfl)).imp fun s ⟨a, b, e, h1, h2⟩ => ⟨s, rfl, by subst e; exact ⟨h1, h2.1, h2.2⟩⟩
theorem od_expr : OpensD Tryz.prog 52 Tree.cs' Tree.mx :=
  tree_ok (tI := 3) (tS := 26) Tryz.underlying52 rfl rfl rfl Tryz.underlying3 Tryz.underlying26 (by kernel_rfl) (by kernel_rfl) (by kernel_rfl) rfl rfl rfl
theorem ad_graph : ArgD Tryz.prog 25 (fun g : Graph => .agg g.cs) Graph.mx := argD_struct Tryz.underlying25 od_graph
theorem ad_exprS : ArgD Tryz.prog 26 (lst 3 Tree.cs') Lmx :=
  (argD_list (enc1 := lst 3 Tree.cs') Tryz.underlying26 (od_list 3 (encL := fun l => [lst 3 Tree.cs' l]) Tryz.underlying26 (by kernel_rfl) (by decide) od_expr (fun _ => rfl)) (fun _ => rfl)).imp fun l h => ⟨l, rfl, h⟩
section
open Go.ChangeShapes Go.WideShapes Go.ChangeAt Go.RowKit
theorem and_mk {a b : Bool} (h : a = true) (k : b = true) : (a && b) = true := by rw [h, k]; rfl
theorem own : ownKnob Tryz.prog.godebug = none := by kernel_rfl
theorem laidOut_ok : laidOutB Tryz.prog = true := by kernel_rfl
end
end Go.Proofs.YtcannajfdnipkaaGreat

