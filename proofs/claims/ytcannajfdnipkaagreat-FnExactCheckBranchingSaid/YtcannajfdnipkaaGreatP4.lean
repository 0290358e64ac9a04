/- A part of the proofs over this program: T35A. -/
import Derived.Test.YtcannajfdnipkaaGreatG0
import Derived.Test.YtcannajfdnipkaaGreatG1
import Derived.Test.YtcannajfdnipkaaGreatG2
import Derived.Test.YtcannajfdnipkaaGreatP0
import Derived.Test.YtcannajfdnipkaaGreatP1
import Derived.Test.YtcannajfdnipkaaGreatP2
import Derived.Test.YtcannajfdnipkaaGreatP3
set_option linter.all false
namespace Go.Proofs.YtcannajfdnipkaaGreat
open Go.Gl
attribute [local irreducible] vcCall AWP RetOk Again ordOk

/-- an input within the law's bounds -/
structure Graph.ok (g : Graph) : Prop where
  mx : g.mx
  st : g.st.length ≤ 1048576
  nx : g.nx.length ≤ 1048576
  states : ∀ s ∈ g.st, s.small
  rows : ∀ r ∈ g.nx, r.length ≤ 1048576
  sumS : (g.st.map State.sz).sum ≤ 1048576
  sumN : (g.nx.map List.length).sum ≤ 1048576
theorem Graph.ok_of {g : Graph} (hg : g.mx) (h1 : g.s1 ≤ 1048576) (h2 : g.s2 ≤ 1048576) : g.ok := by
  unfold Graph.s1 tot at h1
  unfold Graph.s2 tot at h2
  refine ⟨hg, by omega, by omega, fun s hs => ?_, fun r hr => ?_, by omega, by omega⟩
  · have := le_sum State.sz hs
    unfold State.sz at this h1
    exact ⟨by omega, by omega⟩
  · have := le_sum List.length hr; omega
structure LabOk (l : List Tree) : Prop where
  mx : Lmx l
  len : l.length ≤ 1048576
  el : ∀ t ∈ l, t.sz ≤ 1048576
  sum : (l.map Tree.sz).sum ≤ 1048576
theorem LabOk.of {l : List Tree} (hl : Lmx l) (h : tot Tree.sz l ≤ 1048576) : LabOk l := by
  unfold tot at h
  exact ⟨hl, by omega, fun t ht => by have := le_sum Tree.sz ht; omega, by omega⟩

theorem toGraphS {g : Graph} (h : g.ok) : CallsA Tryz.prog 8 [.agg g.cs] [] (.agg g.cs) [] := toGraph_of g (toStateS_ok g.st h.st h.states) (toIntSS_of g.nx h.nx (fun s hs => toIntS_ok s (h.rows s hs)))
theorem toExprSS {l : List Tree} (h : LabOk l) : CallsA Tryz.prog 9 [lst 3 Tree.cs' l] [] (lst 3 Tree.cs' l) [] := toExprS_of l h.len (fun t ht => toExpr_ok t (h.el t ht))
theorem eqGraphT {g : Graph} (h : g.ok) : CallsA Tryz.prog 12 [.agg g.cs, .agg g.cs] [] (.bool true) [] := by
  have := eqGraph_of g g (eqStateS_ok g.st g.st h.mx.1 h.mx.1) (eqIntSS_of g.nx g.nx h.mx.2.1 h.mx.2.1 (fun s hs t ht => eqIntS_ok s t (h.mx.2.2 s hs) (h.mx.2.2 t ht)))
  rwa [decide_eq_true rfl] at this
theorem eqExprST {l : List Tree} (h : LabOk l) : CallsA Tryz.prog 13 [lst 3 Tree.cs' l, lst 3 Tree.cs' l] [] (.bool true) [] := by
  have := eqExprS_of l l h.mx.1 h.mx.1 (fun s hs t ht => eqExpr_ok s (h.mx.2 s hs) t (h.mx.2 t ht))
  rwa [decide_eq_true rfl] at this
theorem eqIntST (l : List Int) (h : l.length ≤ maxLen) : CallsA Tryz.prog 42 [ints l, ints l] [] (.bool true) [] := by
  have := eqIntS_ok l l h h
  rwa [decide_eq_true rfl] at this
theorem szGraphT (g : Graph) (hg : g.mx) (n : Int) (h0 : 0 ≤ n) (h1 : n ≤ 1048576) : CallsA Tryz.prog 4 [.agg g.cs, .int n] [] (.int (bud n (g.s1 + g.s2))) [] := szGraph_of g n (fun n h0 h1 => szStateS_ok g.st n hg.1 h0 h1) (fun n h0 h1 => szIntSS_of g.nx n hg.2.1 (fun s hs n h0 h1 => szIntS_ok s n (hg.2.2 s hs) h0 h1) h0 h1) h0 h1
theorem szExprST (l : List Tree) (hl : Lmx l) (n : Int) (h0 : 0 ≤ n) (h1 : n ≤ 1048576) : CallsA Tryz.prog 5 [lst 3 Tree.cs' l, .int n] [] (.int (bud n (tot Tree.sz l))) [] := szExprS_ok l n hl.1 hl.2 h0 h1
end Go.Proofs.YtcannajfdnipkaaGreat

