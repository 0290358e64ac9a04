/- A part of the proofs over this program: T35A, T33I, T31, T32, T33, T29. -/
import Derived.Test.YtppafngcahgagaaGreatG0
import Derived.Test.YtppafngcahgagaaGreatG1
import Derived.Test.YtppafngcahgagaaGreatG2
import Derived.Test.YtppafngcahgagaaGreatP0
import Derived.Test.YtppafngcahgagaaGreatP1
import Derived.Test.YtppafngcahgagaaGreatP2
import Derived.Test.YtppafngcahgagaaGreatRows
import Derived.WalkKit
import Derived.ProofKit
import Derived.Deep.DeepHandedRow
import Derived.Lib.LaidTab
set_option linter.all false
namespace Go.Proofs.YtppafngcahgagaaGreat
open Go.Gl
attribute [local irreducible] z85 AWP z100 z108 z104
structure Graph.ok (g : Graph) : Prop where
  mx : g.mx
  st : g.st.length ≤ 1048576
  nx : g.nx.length ≤ 1048576
  states : ∀ s ∈ g.st, s.small
  rows : ∀ r ∈ g.nx, r.length ≤ 1048576
  sumS : (g.st.map State.sz).sum ≤ 1048576
  sumN : (g.nx.map List.length).sum ≤ 1048576
theorem Graph.ok_of {g : Graph} (hg : g.mx) (h1 : g.s1 ≤ 1048576) (h2 : g.s2 ≤ 1048576) : g.ok := by
  unfold Graph.s1 tot at h1
  unfold Graph.s2 tot at h2
  refine ⟨hg, by omega, by omega, fun s hs => ?_, fun r hr => ?_, by omega, by omega⟩
  · have := z404 State.sz hs
    unfold State.sz at this h1
    exact ⟨by omega, by omega⟩
  · have := z404 List.length hr;omega
structure LabOk (l : List Tree) : Prop where
  mx : Lmx l
  len : l.length ≤ 1048576
  el : ∀ t ∈ l, t.sz ≤ 1048576
  sum : (l.map Tree.sz).sum ≤ 1048576
theorem LabOk.of {l : List Tree} (hl : Lmx l) (h : tot Tree.sz l ≤ 1048576) : LabOk l := by
  unfold tot at h
  exact ⟨hl, by omega, fun t ht => by have := z404 Tree.sz ht;omega, by omega⟩
end Go.Proofs.YtppafngcahgagaaGreat

namespace Go.Proofs.YtppafngcahgagaaGreat
open Go.Gl
attribute [local irreducible] z85 AWP z100 z108 z104
theorem z152 {objs : Nat → AObj} {π Bn : List Nat} {o : Nat} {l : List Int} (ho : objs o = .cells 1 (l.map enI)) (h1 : idx π o = none) (h2 : inB Bn o = true) : bor objs π Bn (.sref o 0 l.length) = ints l :=
  z445 ho h1 h2 (by simp) (z170 _ _)
end Go.Proofs.YtppafngcahgagaaGreat

namespace Go.Proofs.YtppafngcahgagaaGreat
open Go.Gl
attribute [local irreducible] z85 AWP z100 z108 z104
def State.co (s : State) : List AC := [.own 1 (s.a.map enI), .own 1 (s.b.map enI)]
end Go.Proofs.YtppafngcahgagaaGreat

namespace Go.Proofs.YtppafngcahgagaaGreat
open Go.Gl
attribute [local irreducible] z85 AWP z100 z108 z104
end Go.Proofs.YtppafngcahgagaaGreat

namespace Go.Proofs.YtppafngcahgagaaGreat
open Go.Gl
section
attribute [local irreducible] z85
theorem z491 (a b : List Int) (ha : a.length ≤ maxLen) (hb : b.length ≤ maxLen) : CallsA Tryz.prog 76 [lst 1 enI a, lst 1 enI b] [] (.bool (decide (a = b))) [] := by
  unfold maxLen at ha hb
  refine z58 z82 Tryz.func76 rfl rfl 26 Tryz.ntmps76 (by simp) ?_
  repeat (first|refine AWP.go ok _ _ _ _ _ rfl ?_|refine z35 (by kernel_rfl) ?_|refine And.intro (by first|omega|(unfold inI;omega)|(dsimp only;omega)) ?_)
  refine z11 (fun h => ?_) (fun h => ?_)
  · repeat (first|refine AWP.go ok _ _ _ _ _ rfl ?_|refine z35 (by kernel_rfl) ?_|refine And.intro (by first|omega|(unfold inI;omega)|(dsimp only;omega)) ?_)
    have hne : a ≠ b := by rintro rfl;exact h rfl
    rw [decide_eq_false hne]
    exact ⟨[], by decide, rfl, rfl, ACle.of_eq rfl, trivial⟩
  · have hl : a.length = b.length := by omega
    repeat (first|refine AWP.go ok _ _ _ _ _ rfl ?_|refine z35 (by kernel_rfl) ?_|refine And.intro (by first|omega|(unfold inI;omega)|(dsimp only;omega)) ?_)
    refine z447 (fun k : Nat => ([(0, lst 1 enI a), (1, lst 1 enI b), (5, .int k)], [])) (fun k => k ≤ a.length ∧ a.take k = b.take k) (fun k => a.length - k) 0 (by simp)
      ⟨[], rfl, by decide, rfl, ⟨⟨rfl, rfl⟩, ⟨rfl, rfl⟩, ⟨rfl, rfl⟩, trivial⟩, trivial⟩ ?_
    intro k hk
    repeat (first|refine AWP.go ok _ _ _ _ _ rfl ?_|refine z35 (by kernel_rfl) ?_|refine And.intro (by first|omega|(unfold inI;omega)|(dsimp only;omega)) ?_)
    refine z16 (fun h => ?_) (fun h => ?_)
    · have hka : k < a.length := by omega
      repeat (first|refine AWP.go ok _ _ _ _ _ rfl ?_|refine z35 (by kernel_rfl) ?_|refine And.intro (by first|omega|(unfold inI;omega)|(dsimp only;omega)) ?_)
      refine ⟨_, z263 _ _ _ (by omega), ?_⟩
      repeat (first|refine AWP.go ok _ _ _ _ _ rfl ?_|refine z35 (by kernel_rfl) ?_|refine And.intro (by first|omega|(unfold inI;omega)|(dsimp only;omega)) ?_)
      refine ⟨_, z263 _ _ _ (by omega), ?_⟩
      repeat (first|refine AWP.go ok _ _ _ _ _ rfl ?_|refine z35 (by kernel_rfl) ?_|refine And.intro (by first|omega|(unfold inI;omega)|(dsimp only;omega)) ?_)
      refine z11 (fun h => ?_) (fun h => ?_)
      · repeat (first|refine AWP.go ok _ _ _ _ _ rfl ?_|refine z35 (by kernel_rfl) ?_|refine And.intro (by first|omega|(unfold inI;omega)|(dsimp only;omega)) ?_)
        have hne : a ≠ b := by rintro rfl;exact h rfl
        rw [decide_eq_false hne]
        exact ⟨[], by decide, rfl, rfl, ACle.of_eq rfl, trivial⟩
      · repeat (first|refine AWP.go ok _ _ _ _ _ rfl ?_|refine z35 (by kernel_rfl) ?_|refine And.intro (by first|omega|(unfold inI;omega)|(dsimp only;omega)) ?_)
        refine ⟨k + 1, [], ⟨by omega, ?_⟩, by omega, rfl, by decide, rfl, ⟨⟨rfl, rfl⟩, ⟨rfl, rfl⟩, ⟨rfl, rfl⟩, trivial⟩, trivial⟩
        have h' : a[k] = b[k] := h
        rw [List.take_succ_eq_append_getElem hka, List.take_succ_eq_append_getElem (by omega), hk.2, h']
    · repeat (first|refine AWP.go ok _ _ _ _ _ rfl ?_|refine z35 (by kernel_rfl) ?_|refine And.intro (by first|omega|(unfold inI;omega)|(dsimp only;omega)) ?_)
      have he : a = b := by
        have := hk.2
        rwa [List.take_of_length_le (by omega), List.take_of_length_le (by omega)] at this
      rw [decide_eq_true he]
      exact ⟨[], by decide, rfl, rfl, ACle.of_eq rfl, trivial⟩
end
attribute [local irreducible] z85 AWP z100 z108 z104
end Go.Proofs.YtppafngcahgagaaGreat

namespace Go.Proofs.YtppafngcahgagaaGreat
open Go.Gl
attribute [local irreducible] z85 AWP z100 z108 z104
section
open Go.ChangeShapes Go.WideShapes Go.ChangeAt Go.RowKit
theorem and_mk {a b : Bool} (h : a = true) (k : b = true) : (a && b) = true := by rw [h, k];rfl
theorem own : ownKnob Tryz.prog.godebug = none := by kernel_rfl
theorem z629 : laidOutB Tryz.prog = true := by kernel_rfl
end
end Go.Proofs.YtppafngcahgagaaGreat

