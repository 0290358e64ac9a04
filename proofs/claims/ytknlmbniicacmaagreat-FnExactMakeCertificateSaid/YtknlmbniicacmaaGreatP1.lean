/- A part of the proofs over this program: T9, T10, T11, T12, T13, T15, T16, T17, T18, T19, T20, T21. -/
import Derived.Test.YtknlmbniicacmaaGreatG0
import Derived.Test.YtknlmbniicacmaaGreatG1
import Derived.Test.YtknlmbniicacmaaGreatG2
import Derived.Test.YtknlmbniicacmaaGreatG3
import Derived.Test.YtknlmbniicacmaaGreatP0
set_option linter.all false
namespace Go.Proofs.YtknlmbniicacmaaGreat
open Go.Gl
attribute [local irreducible] z22

def enB (b : Bool) : List AC := [.bool b]
theorem enB_unown (b : Bool) : ∀ x ∈ enB b, x.unown = x := fun x hx => by
  simp only [enB, List.mem_cons, List.not_mem_nil, or_false] at hx
  subst hx; rfl
theorem szBoolS_ok (l : List Bool) (n : Int) (hl : l.length ≤ maxLen) (h0 : 0 ≤ n) (h1 : n ≤ 1048576) : CallsA Tryz.prog 116 [lst 1 enB l, .int n] [] (.int (bud n l.length)) [] := by
  unfold maxLen at hl
  refine z7 z28 Tryz.func116 rfl rfl 12 Tryz.ntmps116 (by simp) ?_
  repeat (first | refine AWP.go ok _ _ _ _ _ rfl ?_ | refine z5 (by kernel_rfl) ?_ | refine And.intro (by first | omega | (unfold inI; omega) | (dsimp only; omega)) ?_)
  refine z2 (fun h => ?_) (fun h => ?_)
  · repeat (first | refine AWP.go ok _ _ _ _ _ rfl ?_ | refine z5 (by kernel_rfl) ?_ | refine And.intro (by first | omega | (unfold inI; omega) | (dsimp only; omega)) ?_)
    have : bud n l.length = -1 := by unfold bud; rw [if_pos h]
    rw [this]
    exact ⟨[], by decide, rfl, rfl, ACle.of_eq rfl, trivial⟩
  · repeat (first | refine AWP.go ok _ _ _ _ _ rfl ?_ | refine z5 (by kernel_rfl) ?_ | refine And.intro (by first | omega | (unfold inI; omega) | (dsimp only; omega)) ?_)
    have : bud n l.length = n - l.length := by unfold bud; rw [if_neg h]
    rw [this]
    exact ⟨[], by decide, rfl, rfl, ACle.of_eq rfl, trivial⟩
theorem toBoolS_ok (l : List Bool) (hl : l.length ≤ 1048576) : CallsA Tryz.prog 123 [lst 1 enB l] [] (lst 1 enB l) [] := by
  refine z7 z28 Tryz.func123 rfl rfl 22 Tryz.ntmps123 (by simp) ?_
  repeat (first | refine AWP.go ok _ _ _ _ _ rfl ?_ | refine z5 (by kernel_rfl) ?_ | refine And.intro (by first | omega | (unfold inI; omega) | (dsimp only; omega)) ?_)
  refine z93 (fun k : Nat => ([(0, lst 1 enB l), (3, .sref 0 0 l.length), (4, .int k)], [.cells 1 ((l.take k).map enB ++ List.replicate (l.length - k) ((enB false)))])) (fun k => k ≤ l.length) (fun k => l.length - k) 0 (by omega)
    ⟨[0], rfl, by decide, rfl, ⟨⟨rfl, rfl⟩, ⟨rfl, rfl⟩, ⟨rfl, rfl⟩, trivial⟩, ⟨z10 (by rfl) (z9 (z0 fun _ => rfl) (z1 rfl)), trivial⟩⟩ ?_
  · intro k hk
    repeat (first | refine AWP.go ok _ _ _ _ _ rfl ?_ | refine z5 (by kernel_rfl) ?_ | refine And.intro (by first | omega | (unfold inI; omega) | (dsimp only; omega)) ?_)
    refine z2 (fun h => ?_) (fun h => ?_)
    · repeat (first | refine AWP.go ok _ _ _ _ _ rfl ?_ | refine z5 (by kernel_rfl) ?_ | refine And.intro (by first | omega | (unfold inI; omega) | (dsimp only; omega)) ?_)
      refine ⟨_, z86 _ _ _ (by omega), ?_⟩
      repeat (first | refine AWP.go ok _ _ _ _ _ rfl ?_ | refine z5 (by kernel_rfl) ?_ | refine And.intro (by first | omega | (unfold inI; omega) | (dsimp only; omega)) ?_)
      refine ⟨(enB false), fill_get _ _ _ _ (by omega), ?_⟩
      repeat (first | refine AWP.go ok _ _ _ _ _ rfl ?_ | refine z5 (by kernel_rfl) ?_ | refine And.intro (by first | omega | (unfold inI; omega) | (dsimp only; omega)) ?_)
      exact ⟨k + 1, [0], by omega, by omega, rfl, by decide, rfl, ⟨⟨rfl, rfl⟩, ⟨rfl, rfl⟩, ⟨rfl, rfl⟩, trivial⟩, ⟨z10 (z16 (fill_set _ _ _ _ (by omega))) (z9 (z0 fun _ => rfl) (z1 rfl)), trivial⟩⟩
    · refine AWP.go ok _ _ _ _ _ rfl ?_
      obtain rfl : k = l.length := by omega
      refine AWP.reach (SealL.reach (π := []) (Bn := [0]) (env := [(3, lst 1 enB l)]) (objs := []) ⟨rfl, rfl, by simp, rfl, by simp, ⟨?_, trivial⟩, rfl⟩) ?_
      · exact bor_seal rfl rfl rfl (by simp) (z98 enB_unown l) (by simp)
      repeat (first | refine AWP.go ok _ _ _ _ _ rfl ?_ | refine z5 (by kernel_rfl) ?_ | refine And.intro (by first | omega | (unfold inI; omega) | (dsimp only; omega)) ?_)
      exact ⟨[], by decide, rfl, rfl, ACle.of_eq rfl, trivial⟩
theorem eqBoolS_ok (a b : List Bool) (ha : a.length ≤ maxLen) (hb : b.length ≤ maxLen) : CallsA Tryz.prog 132 [lst 1 enB a, lst 1 enB b] [] (.bool (decide (a = b))) [] := by
  unfold maxLen at ha hb
  refine z7 z28 Tryz.func132 rfl rfl 26 Tryz.ntmps132 (by simp) ?_
  repeat (first | refine AWP.go ok _ _ _ _ _ rfl ?_ | refine z5 (by kernel_rfl) ?_ | refine And.intro (by first | omega | (unfold inI; omega) | (dsimp only; omega)) ?_)
  refine z8 (fun h => ?_) (fun h => ?_)
  · repeat (first | refine AWP.go ok _ _ _ _ _ rfl ?_ | refine z5 (by kernel_rfl) ?_ | refine And.intro (by first | omega | (unfold inI; omega) | (dsimp only; omega)) ?_)
    have hne : a ≠ b := by rintro rfl; exact h rfl
    rw [decide_eq_false hne]
    exact ⟨[], by decide, rfl, rfl, ACle.of_eq rfl, trivial⟩
  · have hl : a.length = b.length := by omega
    repeat (first | refine AWP.go ok _ _ _ _ _ rfl ?_ | refine z5 (by kernel_rfl) ?_ | refine And.intro (by first | omega | (unfold inI; omega) | (dsimp only; omega)) ?_)
    refine z93 (fun k : Nat => ([(0, lst 1 enB a), (1, lst 1 enB b), (5, .int k)], [])) (fun k => k ≤ a.length ∧ a.take k = b.take k) (fun k => a.length - k) 0 (by simp)
      ⟨[], rfl, by decide, rfl, ⟨⟨rfl, rfl⟩, ⟨rfl, rfl⟩, ⟨rfl, rfl⟩, trivial⟩, trivial⟩ ?_
    intro k hk
    repeat (first | refine AWP.go ok _ _ _ _ _ rfl ?_ | refine z5 (by kernel_rfl) ?_ | refine And.intro (by first | omega | (unfold inI; omega) | (dsimp only; omega)) ?_)
    refine z2 (fun h => ?_) (fun h => ?_)
    · have hka : k < a.length := by omega
      repeat (first | refine AWP.go ok _ _ _ _ _ rfl ?_ | refine z5 (by kernel_rfl) ?_ | refine And.intro (by first | omega | (unfold inI; omega) | (dsimp only; omega)) ?_)
      refine ⟨_, z86 _ _ _ (by omega), ?_⟩
      repeat (first | refine AWP.go ok _ _ _ _ _ rfl ?_ | refine z5 (by kernel_rfl) ?_ | refine And.intro (by first | omega | (unfold inI; omega) | (dsimp only; omega)) ?_)
      refine ⟨_, z86 _ _ _ (by omega), ?_⟩
      repeat (first | refine AWP.go ok _ _ _ _ _ rfl ?_ | refine z5 (by kernel_rfl) ?_ | refine And.intro (by first | omega | (unfold inI; omega) | (dsimp only; omega)) ?_)
      refine z8 (fun h => ?_) (fun h => ?_)
      · repeat (first | refine AWP.go ok _ _ _ _ _ rfl ?_ | refine z5 (by kernel_rfl) ?_ | refine And.intro (by first | omega | (unfold inI; omega) | (dsimp only; omega)) ?_)
        have hne : a ≠ b := by rintro rfl; exact h rfl
        rw [decide_eq_false hne]
        exact ⟨[], by decide, rfl, rfl, ACle.of_eq rfl, trivial⟩
      · repeat (first | refine AWP.go ok _ _ _ _ _ rfl ?_ | refine z5 (by kernel_rfl) ?_ | refine And.intro (by first | omega | (unfold inI; omega) | (dsimp only; omega)) ?_)
        refine ⟨k + 1, [], ⟨by omega, ?_⟩, by omega, rfl, by decide, rfl, ⟨⟨rfl, rfl⟩, ⟨rfl, rfl⟩, ⟨rfl, rfl⟩, trivial⟩, trivial⟩
        have h' : a[k] = b[k] := h
        rw [List.take_succ_eq_append_getElem hka, List.take_succ_eq_append_getElem (by omega), hk.2, h']
    · repeat (first | refine AWP.go ok _ _ _ _ _ rfl ?_ | refine z5 (by kernel_rfl) ?_ | refine And.intro (by first | omega | (unfold inI; omega) | (dsimp only; omega)) ?_)
      have he : a = b := by
        have := hk.2
        rwa [List.take_of_length_le (by omega), List.take_of_length_le (by omega)] at this
      rw [decide_eq_true he]
      exact ⟨[], by decide, rfl, rfl, ACle.of_eq rfl, trivial⟩

structure Trans where
  src : Int
  care : Int
  val : Int
  dst : Int
  deriving DecidableEq
def Trans.cs (t : Trans) : List AC := [.int t.src, .int t.care, .int t.val, .int t.dst]
theorem Trans.unown (t : Trans) : ∀ x ∈ t.cs, x.unown = x := fun x hx => by
  simp only [Trans.cs, List.mem_cons, List.not_mem_nil, or_false] at hx
  rcases hx with rfl | rfl | rfl | rfl <;> rfl
theorem szTransitionS_ok (l : List Trans) (n : Int) (hl : l.length ≤ maxLen) (h0 : 0 ≤ n) (h1 : n ≤ 1048576) : CallsA Tryz.prog 117 [lst 4 Trans.cs l, .int n] [] (.int (bud n l.length)) [] := by
  unfold maxLen at hl
  refine z7 z28 Tryz.func117 rfl rfl 12 Tryz.ntmps117 (by simp) ?_
  repeat (first | refine AWP.go ok _ _ _ _ _ rfl ?_ | refine z5 (by kernel_rfl) ?_ | refine And.intro (by first | omega | (unfold inI; omega) | (dsimp only; omega)) ?_)
  refine z2 (fun h => ?_) (fun h => ?_)
  · repeat (first | refine AWP.go ok _ _ _ _ _ rfl ?_ | refine z5 (by kernel_rfl) ?_ | refine And.intro (by first | omega | (unfold inI; omega) | (dsimp only; omega)) ?_)
    have : bud n l.length = -1 := by unfold bud; rw [if_pos h]
    rw [this]
    exact ⟨[], by decide, rfl, rfl, ACle.of_eq rfl, trivial⟩
  · repeat (first | refine AWP.go ok _ _ _ _ _ rfl ?_ | refine z5 (by kernel_rfl) ?_ | refine And.intro (by first | omega | (unfold inI; omega) | (dsimp only; omega)) ?_)
    have : bud n l.length = n - l.length := by unfold bud; rw [if_neg h]
    rw [this]
    exact ⟨[], by decide, rfl, rfl, ACle.of_eq rfl, trivial⟩
theorem toTransition_ok (t : Trans) : CallsA Tryz.prog 193 [z70 Trans.cs t] [] (z70 Trans.cs t) [] := by
  refine z7 z28 Tryz.func193 rfl rfl 17 Tryz.ntmps193 (by simp) ?_
  repeat (first | refine AWP.go ok _ _ _ _ _ rfl ?_ | refine z5 (by kernel_rfl) ?_ | refine And.intro (by first | omega | (unfold inI; omega) | (dsimp only; omega)) ?_)
  exact ⟨[], by decide, rfl, rfl, ACle.of_eq rfl, trivial⟩
theorem toTransitionS_of (l : List Trans) (hl : l.length ≤ 1048576) (hel : ∀ s ∈ l, CallsA Tryz.prog 193 [z70 Trans.cs s] [] (z70 Trans.cs s) []) : CallsA Tryz.prog 124 [lst 4 Trans.cs l] [] (lst 4 Trans.cs l) [] := by
  refine z7 z28 Tryz.func124 rfl rfl 23 Tryz.ntmps124 (by simp) ?_
  repeat (first | refine AWP.go ok _ _ _ _ _ rfl ?_ | refine z5 (by kernel_rfl) ?_ | refine And.intro (by first | omega | (unfold inI; omega) | (dsimp only; omega)) ?_)
  refine z93 (fun k : Nat => ([(0, lst 4 Trans.cs l), (3, .sref 0 0 l.length), (4, .int k)], [.cells 4 ((l.take k).map Trans.cs ++ List.replicate (l.length - k) [.int 0, .int 0, .int 0, .int 0])])) (fun k => k ≤ l.length) (fun k => l.length - k) 0 (by omega)
    ⟨[0], rfl, by decide, rfl, ⟨⟨rfl, rfl⟩, ⟨rfl, rfl⟩, ⟨rfl, rfl⟩, trivial⟩, ⟨z10 (by rfl) (z9 (z0 fun _ => rfl) (z1 rfl)), trivial⟩⟩ ?_
  · intro k hk
    repeat (first | refine AWP.go ok _ _ _ _ _ rfl ?_ | refine z5 (by kernel_rfl) ?_ | refine And.intro (by first | omega | (unfold inI; omega) | (dsimp only; omega)) ?_)
    refine z2 (fun h => ?_) (fun h => ?_)
    · repeat (first | refine AWP.go ok _ _ _ _ _ rfl ?_ | refine z5 (by kernel_rfl) ?_ | refine And.intro (by first | omega | (unfold inI; omega) | (dsimp only; omega)) ?_)
      refine ⟨_, z86 _ _ _ (by omega), ?_⟩
      repeat (first | refine AWP.go ok _ _ _ _ _ rfl ?_ | refine z5 (by kernel_rfl) ?_ | refine And.intro (by first | omega | (unfold inI; omega) | (dsimp only; omega)) ?_)
      refine z4 (hel l[k] (List.getElem_mem _)) ?_ ?_ ?_
      · rfl
      · rfl
      repeat (first | refine AWP.go ok _ _ _ _ _ rfl ?_ | refine z5 (by kernel_rfl) ?_ | refine And.intro (by first | omega | (unfold inI; omega) | (dsimp only; omega)) ?_)
      refine ⟨[.int 0, .int 0, .int 0, .int 0], fill_get _ _ _ _ (by omega), ?_⟩
      repeat (first | refine AWP.go ok _ _ _ _ _ rfl ?_ | refine z5 (by kernel_rfl) ?_ | refine And.intro (by first | omega | (unfold inI; omega) | (dsimp only; omega)) ?_)
      exact ⟨k + 1, [0], by omega, by omega, rfl, by decide, rfl, ⟨⟨rfl, rfl⟩, ⟨rfl, rfl⟩, ⟨rfl, rfl⟩, trivial⟩, ⟨z10 (z16 (fill_set _ _ _ _ (by omega))) (z9 (z0 fun _ => rfl) (z1 rfl)), trivial⟩⟩
    · refine AWP.go ok _ _ _ _ _ rfl ?_
      obtain rfl : k = l.length := by omega
      refine AWP.reach (SealL.reach (π := []) (Bn := [0]) (env := [(3, lst 4 Trans.cs l)]) (objs := []) ⟨rfl, rfl, by simp, rfl, by simp, ⟨?_, trivial⟩, rfl⟩) ?_
      · exact bor_seal rfl rfl rfl (by simp) (z98 Trans.unown l) (by simp)
      repeat (first | refine AWP.go ok _ _ _ _ _ rfl ?_ | refine z5 (by kernel_rfl) ?_ | refine And.intro (by first | omega | (unfold inI; omega) | (dsimp only; omega)) ?_)
      exact ⟨[], by decide, rfl, rfl, ACle.of_eq rfl, trivial⟩
theorem eqTransition_ok (s t : Trans) : CallsA Tryz.prog 199 [z70 Trans.cs s, z70 Trans.cs t] [] (.bool (decide (s = t))) [] := by
  refine z7 z28 Tryz.func199 rfl rfl 25 Tryz.ntmps199 (by simp) ?_
  repeat (first | refine AWP.go ok _ _ _ _ _ rfl ?_ | refine z5 (by kernel_rfl) ?_ | refine And.intro (by first | omega | (unfold inI; omega) | (dsimp only; omega)) ?_)
  refine z8 (fun h => ?_) (fun h1 => ?_)
  · repeat (first | refine AWP.go ok _ _ _ _ _ rfl ?_ | refine z5 (by kernel_rfl) ?_ | refine And.intro (by first | omega | (unfold inI; omega) | (dsimp only; omega)) ?_)
    have hne : s ≠ t := by rintro rfl; exact h rfl
    rw [decide_eq_false hne]
    exact ⟨[], by decide, rfl, rfl, ACle.of_eq rfl, trivial⟩
  repeat (first | refine AWP.go ok _ _ _ _ _ rfl ?_ | refine z5 (by kernel_rfl) ?_ | refine And.intro (by first | omega | (unfold inI; omega) | (dsimp only; omega)) ?_)
  refine z8 (fun h => ?_) (fun h2 => ?_)
  · repeat (first | refine AWP.go ok _ _ _ _ _ rfl ?_ | refine z5 (by kernel_rfl) ?_ | refine And.intro (by first | omega | (unfold inI; omega) | (dsimp only; omega)) ?_)
    have hne : s ≠ t := by rintro rfl; exact h rfl
    rw [decide_eq_false hne]
    exact ⟨[], by decide, rfl, rfl, ACle.of_eq rfl, trivial⟩
  repeat (first | refine AWP.go ok _ _ _ _ _ rfl ?_ | refine z5 (by kernel_rfl) ?_ | refine And.intro (by first | omega | (unfold inI; omega) | (dsimp only; omega)) ?_)
  refine z8 (fun h => ?_) (fun h3 => ?_)
  · repeat (first | refine AWP.go ok _ _ _ _ _ rfl ?_ | refine z5 (by kernel_rfl) ?_ | refine And.intro (by first | omega | (unfold inI; omega) | (dsimp only; omega)) ?_)
    have hne : s ≠ t := by rintro rfl; exact h rfl
    rw [decide_eq_false hne]
    exact ⟨[], by decide, rfl, rfl, ACle.of_eq rfl, trivial⟩
  repeat (first | refine AWP.go ok _ _ _ _ _ rfl ?_ | refine z5 (by kernel_rfl) ?_ | refine And.intro (by first | omega | (unfold inI; omega) | (dsimp only; omega)) ?_)
  refine z8 (fun h => ?_) (fun h4 => ?_)
  · repeat (first | refine AWP.go ok _ _ _ _ _ rfl ?_ | refine z5 (by kernel_rfl) ?_ | refine And.intro (by first | omega | (unfold inI; omega) | (dsimp only; omega)) ?_)
    have hne : s ≠ t := by rintro rfl; exact h rfl
    rw [decide_eq_false hne]
    exact ⟨[], by decide, rfl, rfl, ACle.of_eq rfl, trivial⟩
  repeat (first | refine AWP.go ok _ _ _ _ _ rfl ?_ | refine z5 (by kernel_rfl) ?_ | refine And.intro (by first | omega | (unfold inI; omega) | (dsimp only; omega)) ?_)
  have he : s = t := by cases s; cases t; simp_all
  rw [decide_eq_true he]
  exact ⟨[], by decide, rfl, rfl, ACle.of_eq rfl, trivial⟩
theorem eqTransitionS_of (a b : List Trans) (ha : a.length ≤ maxLen) (hb : b.length ≤ maxLen) (hel : ∀ s ∈ a, ∀ t ∈ b, CallsA Tryz.prog 199 [z70 Trans.cs s, z70 Trans.cs t] [] (.bool (decide (s = t))) []) : CallsA Tryz.prog 133 [lst 4 Trans.cs a, lst 4 Trans.cs b] [] (.bool (decide (a = b))) [] := by
  unfold maxLen at ha hb
  refine z7 z28 Tryz.func133 rfl rfl 27 Tryz.ntmps133 (by simp) ?_
  repeat (first | refine AWP.go ok _ _ _ _ _ rfl ?_ | refine z5 (by kernel_rfl) ?_ | refine And.intro (by first | omega | (unfold inI; omega) | (dsimp only; omega)) ?_)
  refine z8 (fun h => ?_) (fun h => ?_)
  · repeat (first | refine AWP.go ok _ _ _ _ _ rfl ?_ | refine z5 (by kernel_rfl) ?_ | refine And.intro (by first | omega | (unfold inI; omega) | (dsimp only; omega)) ?_)
    have hne : a ≠ b := by rintro rfl; exact h rfl
    rw [decide_eq_false hne]
    exact ⟨[], by decide, rfl, rfl, ACle.of_eq rfl, trivial⟩
  · have hl : a.length = b.length := by omega
    repeat (first | refine AWP.go ok _ _ _ _ _ rfl ?_ | refine z5 (by kernel_rfl) ?_ | refine And.intro (by first | omega | (unfold inI; omega) | (dsimp only; omega)) ?_)
    refine z93 (fun k : Nat => ([(0, lst 4 Trans.cs a), (1, lst 4 Trans.cs b), (5, .int k)], [])) (fun k => k ≤ a.length ∧ a.take k = b.take k) (fun k => a.length - k) 0 (by simp)
      ⟨[], rfl, by decide, rfl, ⟨⟨rfl, rfl⟩, ⟨rfl, rfl⟩, ⟨rfl, rfl⟩, trivial⟩, trivial⟩ ?_
    intro k hk
    repeat (first | refine AWP.go ok _ _ _ _ _ rfl ?_ | refine z5 (by kernel_rfl) ?_ | refine And.intro (by first | omega | (unfold inI; omega) | (dsimp only; omega)) ?_)
    refine z2 (fun h => ?_) (fun h => ?_)
    · have hka : k < a.length := by omega
      repeat (first | refine AWP.go ok _ _ _ _ _ rfl ?_ | refine z5 (by kernel_rfl) ?_ | refine And.intro (by first | omega | (unfold inI; omega) | (dsimp only; omega)) ?_)
      refine ⟨_, z86 _ _ _ (by omega), ?_⟩
      repeat (first | refine AWP.go ok _ _ _ _ _ rfl ?_ | refine z5 (by kernel_rfl) ?_ | refine And.intro (by first | omega | (unfold inI; omega) | (dsimp only; omega)) ?_)
      refine ⟨_, z86 _ _ _ (by omega), ?_⟩
      repeat (first | refine AWP.go ok _ _ _ _ _ rfl ?_ | refine z5 (by kernel_rfl) ?_ | refine And.intro (by first | omega | (unfold inI; omega) | (dsimp only; omega)) ?_)
      refine z4 (hel a[k] (List.getElem_mem _) b[k] (List.getElem_mem _)) ?_ ?_ ?_
      · rfl
      · rfl
      repeat (first | refine AWP.go ok _ _ _ _ _ rfl ?_ | refine z5 (by kernel_rfl) ?_ | refine And.intro (by first | omega | (unfold inI; omega) | (dsimp only; omega)) ?_)
      refine z8 (fun h => ?_) (fun h => ?_)
      · repeat (first | refine AWP.go ok _ _ _ _ _ rfl ?_ | refine z5 (by kernel_rfl) ?_ | refine And.intro (by first | omega | (unfold inI; omega) | (dsimp only; omega)) ?_)
        have hne : a ≠ b := by rintro rfl; exact h rfl
        rw [decide_eq_false hne]
        exact ⟨[], by decide, rfl, rfl, ACle.of_eq rfl, trivial⟩
      · repeat (first | refine AWP.go ok _ _ _ _ _ rfl ?_ | refine z5 (by kernel_rfl) ?_ | refine And.intro (by first | omega | (unfold inI; omega) | (dsimp only; omega)) ?_)
        refine ⟨k + 1, [], ⟨by omega, ?_⟩, by omega, rfl, by decide, rfl, ⟨⟨rfl, rfl⟩, ⟨rfl, rfl⟩, ⟨rfl, rfl⟩, trivial⟩, trivial⟩
        have h' : a[k] = b[k] := h
        rw [List.take_succ_eq_append_getElem hka, List.take_succ_eq_append_getElem (by omega), hk.2, h']
    · repeat (first | refine AWP.go ok _ _ _ _ _ rfl ?_ | refine z5 (by kernel_rfl) ?_ | refine And.intro (by first | omega | (unfold inI; omega) | (dsimp only; omega)) ?_)
      have he : a = b := by
        have := hk.2
        rwa [List.take_of_length_le (by omega), List.take_of_length_le (by omega)] at this
      rw [decide_eq_true he]
      exact ⟨[], by decide, rfl, rfl, ACle.of_eq rfl, trivial⟩

structure Aut where
  ini : List Int
  acc : List Bool
  ed : List Trans
  deriving DecidableEq
def Aut.a1 (a : Aut) : AC := lst 1 enI a.ini
def Aut.a2 (a : Aut) : AC := lst 1 enB a.acc
def Aut.a3 (a : Aut) : AC := lst 4 Trans.cs a.ed
def Aut.cs (a : Aut) : List AC := [lst 1 enI a.ini, lst 1 enB a.acc, lst 4 Trans.cs a.ed]
def Aut.s1 (a : Aut) : Nat := a.ini.length
def Aut.s2 (a : Aut) : Nat := a.acc.length
def Aut.s3 (a : Aut) : Nat := a.ed.length
theorem szAutomaton_of (s : Aut) (n : Int) (c0 : ∀ n : Int, 0 ≤ n → n ≤ 1048576 → CallsA Tryz.prog 115 [Aut.a1 s, .int n] [] (.int (bud n (Aut.s1 s))) []) (c1 : ∀ n : Int, 0 ≤ n → n ≤ 1048576 → CallsA Tryz.prog 116 [Aut.a2 s, .int n] [] (.int (bud n (Aut.s2 s))) []) (c2 : ∀ n : Int, 0 ≤ n → n ≤ 1048576 → CallsA Tryz.prog 117 [Aut.a3 s, .int n] [] (.int (bud n (Aut.s3 s))) []) (h0 : 0 ≤ n) (h1 : n ≤ 1048576) : CallsA Tryz.prog 35 [.agg (Aut.cs s), .int n] [] (.int (bud n (Aut.s1 s + Aut.s2 s + Aut.s3 s))) [] := by
  refine z7 z28 Tryz.func35 rfl rfl 24 Tryz.ntmps35 (by simp) ?_
  repeat (first | refine AWP.go ok _ _ _ _ _ rfl ?_ | refine z5 (by kernel_rfl) ?_ | refine And.intro (by first | omega | (unfold inI; omega) | (dsimp only; omega)) ?_)
  refine z4 (c0 (n) (by omega) (by omega)) ?_ ?_ ?_
  · rfl
  · rfl
  repeat (first | refine AWP.go ok _ _ _ _ _ rfl ?_ | refine z5 (by kernel_rfl) ?_ | refine And.intro (by first | omega | (unfold inI; omega) | (dsimp only; omega)) ?_)
  refine z2 (fun g0 => ?_) (fun g0 => ?_)
  · repeat (first | refine AWP.go ok _ _ _ _ _ rfl ?_ | refine z5 (by kernel_rfl) ?_ | refine And.intro (by first | omega | (unfold inI; omega) | (dsimp only; omega)) ?_)
    have e : bud n (Aut.s1 s + Aut.s2 s + Aut.s3 s) = -1 := by unfold bud at g0 ⊢; split at g0 <;> rw [if_pos (by omega)] <;> omega
    rw [e]
    exact ⟨[], by decide, rfl, rfl, ACle.of_eq rfl, trivial⟩
  have e0 : bud (n) (Aut.s1 s) = n - (Aut.s1 s : Int) := by unfold bud at g0 ⊢; split at g0 <;> rename_i hh <;> (first | rw [if_pos hh] | rw [if_neg hh]) <;> omega
  rw [e0] at g0 ⊢
  repeat (first | refine AWP.go ok _ _ _ _ _ rfl ?_ | refine z5 (by kernel_rfl) ?_ | refine And.intro (by first | omega | (unfold inI; omega) | (dsimp only; omega)) ?_)
  refine z4 (c1 (n - (Aut.s1 s : Int)) (by omega) (by omega)) ?_ ?_ ?_
  · rfl
  · rfl
  repeat (first | refine AWP.go ok _ _ _ _ _ rfl ?_ | refine z5 (by kernel_rfl) ?_ | refine And.intro (by first | omega | (unfold inI; omega) | (dsimp only; omega)) ?_)
  refine z2 (fun g1 => ?_) (fun g1 => ?_)
  · repeat (first | refine AWP.go ok _ _ _ _ _ rfl ?_ | refine z5 (by kernel_rfl) ?_ | refine And.intro (by first | omega | (unfold inI; omega) | (dsimp only; omega)) ?_)
    have e : bud n (Aut.s1 s + Aut.s2 s + Aut.s3 s) = -1 := by unfold bud at g1 ⊢; split at g1 <;> rw [if_pos (by omega)] <;> omega
    rw [e]
    exact ⟨[], by decide, rfl, rfl, ACle.of_eq rfl, trivial⟩
  have e1 : bud (n - (Aut.s1 s : Int)) (Aut.s2 s) = n - (Aut.s1 s : Int) - (Aut.s2 s : Int) := by unfold bud at g1 ⊢; split at g1 <;> rename_i hh <;> (first | rw [if_pos hh] | rw [if_neg hh]) <;> omega
  rw [e1] at g1 ⊢
  repeat (first | refine AWP.go ok _ _ _ _ _ rfl ?_ | refine z5 (by kernel_rfl) ?_ | refine And.intro (by first | omega | (unfold inI; omega) | (dsimp only; omega)) ?_)
  refine z4 (c2 (n - (Aut.s1 s : Int) - (Aut.s2 s : Int)) (by omega) (by omega)) ?_ ?_ ?_
  · rfl
  · rfl
  repeat (first | refine AWP.go ok _ _ _ _ _ rfl ?_ | refine z5 (by kernel_rfl) ?_ | refine And.intro (by first | omega | (unfold inI; omega) | (dsimp only; omega)) ?_)
  refine z2 (fun g2 => ?_) (fun g2 => ?_)
  · repeat (first | refine AWP.go ok _ _ _ _ _ rfl ?_ | refine z5 (by kernel_rfl) ?_ | refine And.intro (by first | omega | (unfold inI; omega) | (dsimp only; omega)) ?_)
    have e : bud n (Aut.s1 s + Aut.s2 s + Aut.s3 s) = -1 := by unfold bud at g2 ⊢; split at g2 <;> rw [if_pos (by omega)] <;> omega
    rw [e]
    exact ⟨[], by decide, rfl, rfl, ACle.of_eq rfl, trivial⟩
  have e2 : bud (n - (Aut.s1 s : Int) - (Aut.s2 s : Int)) (Aut.s3 s) = n - (Aut.s1 s : Int) - (Aut.s2 s : Int) - (Aut.s3 s : Int) := by unfold bud at g2 ⊢; split at g2 <;> rename_i hh <;> (first | rw [if_pos hh] | rw [if_neg hh]) <;> omega
  rw [e2] at g2 ⊢
  repeat (first | refine AWP.go ok _ _ _ _ _ rfl ?_ | refine z5 (by kernel_rfl) ?_ | refine And.intro (by first | omega | (unfold inI; omega) | (dsimp only; omega)) ?_)
  have e : bud n (Aut.s1 s + Aut.s2 s + Aut.s3 s) = n - (Aut.s1 s : Int) - (Aut.s2 s : Int) - (Aut.s3 s : Int) := by unfold bud; rw [if_neg (by omega)] <;> omega
  try rw [e]
  exact ⟨[], by decide, rfl, rfl, ACle.of_eq rfl, trivial⟩
theorem toAutomaton_of (s : Aut) (c0 : CallsA Tryz.prog 122 [Aut.a1 s] [] (Aut.a1 s) []) (c1 : CallsA Tryz.prog 123 [Aut.a2 s] [] (Aut.a2 s) []) (c2 : CallsA Tryz.prog 124 [Aut.a3 s] [] (Aut.a3 s) []) : CallsA Tryz.prog 39 [.agg (Aut.cs s)] [] (.agg (Aut.cs s)) [] := by
  refine z7 z28 Tryz.func39 rfl rfl 17 Tryz.ntmps39 (by simp) ?_
  repeat (first | refine AWP.go ok _ _ _ _ _ rfl ?_ | refine z5 (by kernel_rfl) ?_ | refine And.intro (by first | omega | (unfold inI; omega) | (dsimp only; omega)) ?_)
  refine z4 c0 ?_ ?_ ?_
  · rfl
  · rfl
  repeat (first | refine AWP.go ok _ _ _ _ _ rfl ?_ | refine z5 (by kernel_rfl) ?_ | refine And.intro (by first | omega | (unfold inI; omega) | (dsimp only; omega)) ?_)
  refine z4 c1 ?_ ?_ ?_
  · rfl
  · rfl
  repeat (first | refine AWP.go ok _ _ _ _ _ rfl ?_ | refine z5 (by kernel_rfl) ?_ | refine And.intro (by first | omega | (unfold inI; omega) | (dsimp only; omega)) ?_)
  refine z4 c2 ?_ ?_ ?_
  · rfl
  · rfl
  repeat (first | refine AWP.go ok _ _ _ _ _ rfl ?_ | refine z5 (by kernel_rfl) ?_ | refine And.intro (by first | omega | (unfold inI; omega) | (dsimp only; omega)) ?_)
  exact ⟨[], by decide, rfl, rfl, ACle.of_eq rfl, trivial⟩
theorem eqAutomaton_of (s t : Aut) (c0 : CallsA Tryz.prog 128 [Aut.a1 s, Aut.a1 t] [] (.bool (decide (Aut.ini s = Aut.ini t))) []) (c1 : CallsA Tryz.prog 132 [Aut.a2 s, Aut.a2 t] [] (.bool (decide (Aut.acc s = Aut.acc t))) []) (c2 : CallsA Tryz.prog 133 [Aut.a3 s, Aut.a3 t] [] (.bool (decide (Aut.ed s = Aut.ed t))) []) : CallsA Tryz.prog 44 [.agg (Aut.cs s), .agg (Aut.cs t)] [] (.bool (decide (s = t))) [] := by
  refine z7 z28 Tryz.func44 rfl rfl 23 Tryz.ntmps44 (by simp) ?_
  repeat (first | refine AWP.go ok _ _ _ _ _ rfl ?_ | refine z5 (by kernel_rfl) ?_ | refine And.intro (by first | omega | (unfold inI; omega) | (dsimp only; omega)) ?_)
  refine z4 c0 ?_ ?_ ?_
  · rfl
  · rfl
  repeat (first | refine AWP.go ok _ _ _ _ _ rfl ?_ | refine z5 (by kernel_rfl) ?_ | refine And.intro (by first | omega | (unfold inI; omega) | (dsimp only; omega)) ?_)
  refine z8 (fun h => ?_) (fun g0 => ?_)
  · repeat (first | refine AWP.go ok _ _ _ _ _ rfl ?_ | refine z5 (by kernel_rfl) ?_ | refine And.intro (by first | omega | (unfold inI; omega) | (dsimp only; omega)) ?_)
    have hne : s ≠ t := by rintro rfl; exact h rfl
    rw [decide_eq_false hne]
    exact ⟨[], by decide, rfl, rfl, ACle.of_eq rfl, trivial⟩
  repeat (first | refine AWP.go ok _ _ _ _ _ rfl ?_ | refine z5 (by kernel_rfl) ?_ | refine And.intro (by first | omega | (unfold inI; omega) | (dsimp only; omega)) ?_)
  refine z4 c1 ?_ ?_ ?_
  · rfl
  · rfl
  repeat (first | refine AWP.go ok _ _ _ _ _ rfl ?_ | refine z5 (by kernel_rfl) ?_ | refine And.intro (by first | omega | (unfold inI; omega) | (dsimp only; omega)) ?_)
  refine z8 (fun h => ?_) (fun g1 => ?_)
  · repeat (first | refine AWP.go ok _ _ _ _ _ rfl ?_ | refine z5 (by kernel_rfl) ?_ | refine And.intro (by first | omega | (unfold inI; omega) | (dsimp only; omega)) ?_)
    have hne : s ≠ t := by rintro rfl; exact h rfl
    rw [decide_eq_false hne]
    exact ⟨[], by decide, rfl, rfl, ACle.of_eq rfl, trivial⟩
  repeat (first | refine AWP.go ok _ _ _ _ _ rfl ?_ | refine z5 (by kernel_rfl) ?_ | refine And.intro (by first | omega | (unfold inI; omega) | (dsimp only; omega)) ?_)
  refine z4 c2 ?_ ?_ ?_
  · rfl
  · rfl
  repeat (first | refine AWP.go ok _ _ _ _ _ rfl ?_ | refine z5 (by kernel_rfl) ?_ | refine And.intro (by first | omega | (unfold inI; omega) | (dsimp only; omega)) ?_)
  refine z8 (fun h => ?_) (fun g2 => ?_)
  · repeat (first | refine AWP.go ok _ _ _ _ _ rfl ?_ | refine z5 (by kernel_rfl) ?_ | refine And.intro (by first | omega | (unfold inI; omega) | (dsimp only; omega)) ?_)
    have hne : s ≠ t := by rintro rfl; exact h rfl
    rw [decide_eq_false hne]
    exact ⟨[], by decide, rfl, rfl, ACle.of_eq rfl, trivial⟩
  repeat (first | refine AWP.go ok _ _ _ _ _ rfl ?_ | refine z5 (by kernel_rfl) ?_ | refine And.intro (by first | omega | (unfold inI; omega) | (dsimp only; omega)) ?_)
  have he : s = t := by cases s; cases t; simp_all
  rw [decide_eq_true he]
  exact ⟨[], by decide, rfl, rfl, ACle.of_eq rfl, trivial⟩

structure Cert where
  ranks : List Int
  deriving DecidableEq
def Cert.a1 (a : Cert) : AC := lst 1 enI a.ranks
def Cert.cs (a : Cert) : List AC := [lst 1 enI a.ranks]
def Cert.s1 (a : Cert) : Nat := a.ranks.length
theorem eqCertificate_of (s t : Cert) (c0 : CallsA Tryz.prog 128 [Cert.a1 s, Cert.a1 t] [] (.bool (decide (Cert.ranks s = Cert.ranks t))) []) : CallsA Tryz.prog 51 [.agg (Cert.cs s), .agg (Cert.cs t)] [] (.bool (decide (s = t))) [] := by
  refine z7 z28 Tryz.func51 rfl rfl 11 Tryz.ntmps51 (by simp) ?_
  repeat (first | refine AWP.go ok _ _ _ _ _ rfl ?_ | refine z5 (by kernel_rfl) ?_ | refine And.intro (by first | omega | (unfold inI; omega) | (dsimp only; omega)) ?_)
  refine z4 c0 ?_ ?_ ?_
  · rfl
  · rfl
  repeat (first | refine AWP.go ok _ _ _ _ _ rfl ?_ | refine z5 (by kernel_rfl) ?_ | refine And.intro (by first | omega | (unfold inI; omega) | (dsimp only; omega)) ?_)
  refine z8 (fun h => ?_) (fun g0 => ?_)
  · repeat (first | refine AWP.go ok _ _ _ _ _ rfl ?_ | refine z5 (by kernel_rfl) ?_ | refine And.intro (by first | omega | (unfold inI; omega) | (dsimp only; omega)) ?_)
    have hne : s ≠ t := by rintro rfl; exact h rfl
    rw [decide_eq_false hne]
    exact ⟨[], by decide, rfl, rfl, ACle.of_eq rfl, trivial⟩
  repeat (first | refine AWP.go ok _ _ _ _ _ rfl ?_ | refine z5 (by kernel_rfl) ?_ | refine And.intro (by first | omega | (unfold inI; omega) | (dsimp only; omega)) ?_)
  have he : s = t := by cases s; cases t; simp_all
  rw [decide_eq_true he]
  exact ⟨[], by decide, rfl, rfl, ACle.of_eq rfl, trivial⟩
end Go.Proofs.YtknlmbniicacmaaGreat

namespace Go.Proofs.YtknlmbniicacmaaGreat
open Go.Gl
attribute [local irreducible] z22 AWP z46 z54 z51

def btw (n lo hi : Int) : Bool := decide (lo ≤ n) && decide (n ≤ hi)
theorem z38 {n lo hi : Int} : btw n lo hi = true ↔ lo ≤ n ∧ n ≤ hi := by simp [btw]
theorem btw_no {n lo hi : Int} : btw n lo hi = false ↔ ¬(lo ≤ n ∧ n ≤ hi) := by rw [← z38]; simp

theorem in_ok (n lo hi : Int) : CallsA Tryz.prog 78 [.int n, .int lo, .int hi] [] (.bool (btw n lo hi)) [] := by
  refine z7 z28 Tryz.func78 rfl rfl 15 Tryz.ntmps78 (by simp) ?_
  repeat' (first | (apply AWP.go ok; rfl; conv => whnf) | (apply z2 <;> intro _ <;> conv => whnf))
  all_goals (refine z32 rfl ?_; (unfold btw; simp [*]; done))
end Go.Proofs.YtknlmbniicacmaaGreat

namespace Go.Proofs.YtknlmbniicacmaaGreat
open Go.Gl
attribute [local irreducible] z22 AWP z46 z54 z51

def idxF {α : Type} (p : α → Bool) (l : List α) : Int := match l.findIdx? p with
  | some i => i
  | none => -1

theorem idxF_some {α : Type} {p : α → Bool} {l : List α} {i : Nat} (hi : i < l.length) (h : p l[i] = true) (hn : ∀ j (hj : j < l.length), j < i → p l[j] = false) : idxF p l = i := by
  have : l.findIdx? p = some i := List.findIdx?_eq_some_iff_getElem.2 ⟨hi, h, fun j hj => by simp [hn j (by omega) hj]⟩
  simp [idxF, this]
theorem idxF_none {α : Type} {p : α → Bool} {l : List α} (hn : ∀ j (hj : j < l.length), p l[j] = false) : idxF p l = -1 := by
  have : l.findIdx? p = none := List.findIdx?_eq_none_iff.2 fun x hx => by
    obtain ⟨i, hi, rfl⟩ := List.mem_iff_getElem.1 hx
    exact hn i hi
  simp [idxF, this]

theorem idxF_any {α : Type} (p : α → Bool) (l : List α) : decide (0 ≤ idxF p l) = l.any p := by
  unfold idxF
  split
  · rename_i i e
    obtain ⟨h, hp, _⟩ := List.findIdx?_eq_some_iff_getElem.1 e
    have : l.any p = true := List.any_eq_true.2 ⟨_, List.getElem_mem h, hp⟩
    rw [this]
    simp
  · rename_i e
    have := List.findIdx?_eq_none_iff.1 e
    have : l.any p = false := List.any_eq_false.2 fun x hx => by simp [this x hx]
    rw [this]
    simp

theorem indexFunc_int (l : List Int) (hl : l.length ≤ maxLen) (p : Int → Bool) (f : FuncId) (hf : ∀ x ∈ l, CallsA Tryz.prog f [.int x] [] (.bool (p x)) []) : CallsA Tryz.prog 159 [lst 1 enI l, .fn (.func f) [] []] [] (.int (idxF p l)) [] := by
  unfold maxLen at hl
  refine z7 z28 Tryz.func159 rfl rfl 19 Tryz.ntmps159 (by simp) ?_
  repeat' ((apply AWP.go ok; rfl; conv => whnf))
  refine z85 (fun k : Nat => ([(0, lst 1 enI l), (1, .fn (.func f) [] []), (7, .int l.length), (8, .int k)], [])) (fun k => k ≤ l.length ∧ ∀ j (hj : j < l.length), j < k → p l[j] = false) (fun k => l.length - k) 0 (by simp)
    ⟨[], rfl, by decide, rfl, ⟨⟨rfl, rfl⟩, ⟨rfl, rfl⟩, ⟨rfl, rfl⟩, ⟨rfl, rfl⟩, trivial⟩, trivial⟩ ?_
  intro k hk
  repeat' (first | (apply AWP.go ok; rfl; conv => whnf) | (apply And.intro; (first | omega | (unfold inI; omega)); conv => whnf) | (with_reducible apply z3; omega; intro _; conv => whnf) | (apply z2 <;> intro _ <;> conv => whnf) | (apply z34 <;> intro _ <;> conv => whnf) | (apply z4 (hf l[k] (List.getElem_mem _)); rfl; rfl; conv => whnf))
  · rename_i h h1
    exact z56 rfl rfl (by rw [idxF_some (by omega) h1 hk.2]; rfl)
  · rename_i h h1
    refine z75 (k + 1) [] ⟨by omega, fun j hj hjk => ?_⟩ (by omega) ⟨rfl, by decide, rfl, ⟨⟨rfl, rfl⟩, ⟨rfl, rfl⟩, ⟨rfl, rfl⟩, ⟨rfl, rfl⟩, trivial⟩, trivial⟩
    rcases Nat.lt_or_ge j k with h2 | h2
    · exact hk.2 j hj h2
    · obtain rfl : j = k := by omega
      exact h1
  · exact z56 rfl rfl (by rw [idxF_none fun j hj => hk.2 j hj (by omega)]; rfl)
theorem containsFunc_int (l : List Int) (hl : l.length ≤ maxLen) (p : Int → Bool) (f : FuncId) (hf : ∀ x ∈ l, CallsA Tryz.prog f [.int x] [] (.bool (p x)) []) : CallsA Tryz.prog 76 [lst 1 enI l, .fn (.func f) [] []] [] (.bool (l.any p)) [] := by
  refine z7 z28 Tryz.func76 rfl rfl 9 Tryz.ntmps76 (by simp) ?_
  repeat' (first | (apply AWP.go ok; rfl; conv => whnf) | (apply z4 (indexFunc_int l hl p f hf); rfl; rfl; conv => whnf))
  exact z32 rfl (by rw [← idxF_any])
end Go.Proofs.YtknlmbniicacmaaGreat

namespace Go.Proofs.YtknlmbniicacmaaGreat
open Go.Gl
attribute [local irreducible] z22 AWP z46 z54 z51

theorem valsOk1_ok (n : Int) : CallsA Tryz.prog 213 [.int n] [] (.bool (!btw n 0 3)) [] := by
  refine z7 z28 Tryz.func213 rfl rfl 6 Tryz.ntmps213 (by simp) ?_
  repeat' (first | (apply AWP.go ok; rfl; conv => whnf) | (apply z4 (in_ok n 0 3); rfl; rfl; conv => whnf))
  exact z32 rfl rfl

/-- a state's values are three, each from 0 to 3 -/
def valsB (l : List Int) : Bool := decide ((l.length : Int) = 3) && !(l.any fun n => !btw n 0 3)

theorem valsOk_ok (l : List Int) (hl : l.length ≤ maxLen) : CallsA Tryz.prog 154 [ints l] [] (.bool (valsB l)) [] := by
  have hl' := hl
  unfold maxLen at hl'
  have hk := containsFunc_int l hl (fun n => !btw n 0 3) 213 (fun x _ => valsOk1_ok x)
  refine z7 z28 Tryz.func154 rfl rfl 11 Tryz.ntmps154 (by simp) ?_
  repeat' (first | (apply AWP.go ok; rfl; conv => whnf) | (apply z2 <;> intro _ <;> conv => whnf) | (apply z4 (hk); rfl; rfl; conv => whnf))
  all_goals (refine z32 rfl ?_; (unfold valsB; simp [*]; done))
end Go.Proofs.YtknlmbniicacmaaGreat

namespace Go.Proofs.YtknlmbniicacmaaGreat
open Go.Gl
attribute [local irreducible] z22 vcPick vcGuard

theorem indexFunc_state (l : List State) (hl : l.length ≤ maxLen) (p : State → Bool) (f : FuncId) (hf : ∀ x ∈ l, CallsA Tryz.prog f [z70 State.cs x] [] (.bool (p x)) []) : CallsA Tryz.prog 212 [lst 2 State.cs l, .fn (.func f) [] []] [] (.int (idxF p l)) [] := by
  unfold maxLen at hl
  refine z7 z28 Tryz.func212 rfl rfl 19 Tryz.ntmps212 (by simp) ?_
  repeat' (((apply AWP.go ok; rfl)) <;> conv => whnf)
  refine z85 (fun k : Nat => ([(0, lst 2 State.cs l), (1, .fn (.func f) [] []), (7, .int l.length), (8, .int k)], [])) (fun k => k ≤ l.length ∧ ∀ j (hj : j < l.length), j < k → p l[j] = false) (fun k => l.length - k) 0 (by simp)
    ⟨[], rfl, by decide, rfl, ⟨⟨rfl, rfl⟩, ⟨rfl, rfl⟩, ⟨rfl, rfl⟩, ⟨rfl, rfl⟩, trivial⟩, trivial⟩ ?_
  intro k hk
  repeat' ((first | (apply AWP.go ok; rfl) | (apply And.intro; first | omega | (unfold inI; omega)) | (((with_reducible apply z3; omega)); intro _) | ((first | apply z2 | apply z34) <;> intro _) | (apply z4 (hf l[k] (List.getElem_mem _)); rfl; rfl)) <;> conv => whnf)
  · rename_i h h1
    exact z56 rfl rfl (by rw [idxF_some (by omega) h1 hk.2]; rfl)
  · rename_i h h1
    refine z75 (k + 1) [] ⟨by omega, fun j hj hjk => ?_⟩ (by omega) ⟨rfl, by decide, rfl, ⟨⟨rfl, rfl⟩, ⟨rfl, rfl⟩, ⟨rfl, rfl⟩, ⟨rfl, rfl⟩, trivial⟩, trivial⟩
    rcases Nat.lt_or_ge j k with h2 | h2
    · exact hk.2 j hj h2
    · obtain rfl : j = k := by omega
      exact h1
  · exact z56 rfl rfl (by rw [idxF_none fun j hj => hk.2 j hj (by omega)]; rfl)
theorem containsFunc_state (l : List State) (hl : l.length ≤ maxLen) (p : State → Bool) (f : FuncId) (hf : ∀ x ∈ l, CallsA Tryz.prog f [z70 State.cs x] [] (.bool (p x)) []) : CallsA Tryz.prog 152 [lst 2 State.cs l, .fn (.func f) [] []] [] (.bool (l.any p)) [] := by
  refine z7 z28 Tryz.func152 rfl rfl 9 Tryz.ntmps152 (by simp) ?_
  repeat' ((first | (apply AWP.go ok; rfl) | (apply z4 (indexFunc_state l hl p f hf); rfl; rfl)) <;> conv => whnf)
  exact z32 rfl (by rw [← idxF_any])
theorem indexFunc_expr (l : List Tree) (hl : l.length ≤ maxLen) (p : Tree → Bool) (f : FuncId) (hf : ∀ x ∈ l, CallsA Tryz.prog f [z70 Tree.cs' x] [] (.bool (p x)) []) : CallsA Tryz.prog 228 [lst 3 Tree.cs' l, .fn (.func f) [] []] [] (.int (idxF p l)) [] := by
  unfold maxLen at hl
  refine z7 z28 Tryz.func228 rfl rfl 19 Tryz.ntmps228 (by simp) ?_
  repeat' (((apply AWP.go ok; rfl)) <;> conv => whnf)
  refine z85 (fun k : Nat => ([(0, lst 3 Tree.cs' l), (1, .fn (.func f) [] []), (7, .int l.length), (8, .int k)], [])) (fun k => k ≤ l.length ∧ ∀ j (hj : j < l.length), j < k → p l[j] = false) (fun k => l.length - k) 0 (by simp)
    ⟨[], rfl, by decide, rfl, ⟨⟨rfl, rfl⟩, ⟨rfl, rfl⟩, ⟨rfl, rfl⟩, ⟨rfl, rfl⟩, trivial⟩, trivial⟩ ?_
  intro k hk
  repeat' ((first | (apply AWP.go ok; rfl) | (apply And.intro; first | omega | (unfold inI; omega)) | (((with_reducible apply z3; omega)); intro _) | ((first | apply z2 | apply z34) <;> intro _) | (apply z4 (hf l[k] (List.getElem_mem _)); rfl; rfl)) <;> conv => whnf)
  · rename_i h h1
    exact z56 rfl rfl (by rw [idxF_some (by omega) h1 hk.2]; rfl)
  · rename_i h h1
    refine z75 (k + 1) [] ⟨by omega, fun j hj hjk => ?_⟩ (by omega) ⟨rfl, by decide, rfl, ⟨⟨rfl, rfl⟩, ⟨rfl, rfl⟩, ⟨rfl, rfl⟩, ⟨rfl, rfl⟩, trivial⟩, trivial⟩
    rcases Nat.lt_or_ge j k with h2 | h2
    · exact hk.2 j hj h2
    · obtain rfl : j = k := by omega
      exact h1
  · exact z56 rfl rfl (by rw [idxF_none fun j hj => hk.2 j hj (by omega)]; rfl)
theorem containsFunc_expr (l : List Tree) (hl : l.length ≤ maxLen) (p : Tree → Bool) (f : FuncId) (hf : ∀ x ∈ l, CallsA Tryz.prog f [z70 Tree.cs' x] [] (.bool (p x)) []) : CallsA Tryz.prog 177 [lst 3 Tree.cs' l, .fn (.func f) [] []] [] (.bool (l.any p)) [] := by
  refine z7 z28 Tryz.func177 rfl rfl 9 Tryz.ntmps177 (by simp) ?_
  repeat' ((first | (apply AWP.go ok; rfl) | (apply z4 (indexFunc_expr l hl p f hf); rfl; rfl)) <;> conv => whnf)
  exact z32 rfl (by rw [← idxF_any])
theorem indexFunc_ints1 (c : Int) (l : List (List Int)) (hl : l.length ≤ maxLen) (p : (List Int) → Bool) (f : FuncId) (hf : ∀ x ∈ l, CallsA Tryz.prog f [ints x, .pt [.int c]] [] (.bool (p x)) []) : CallsA Tryz.prog 214 [lst 1 encL l, .fn (.func f) [] [.pt [.int c]]] [] (.int (idxF p l)) [] := by
  unfold maxLen at hl
  refine z7 z28 Tryz.func214 rfl rfl 19 Tryz.ntmps214 (by simp) ?_
  repeat' (((apply AWP.go ok; rfl)) <;> conv => whnf)
  refine z85 (fun k : Nat => ([(0, lst 1 encL l), (1, .fn (.func f) [] [.pt [.int c]]), (7, .int l.length), (8, .int k)], [])) (fun k => k ≤ l.length ∧ ∀ j (hj : j < l.length), j < k → p l[j] = false) (fun k => l.length - k) 0 (by simp)
    ⟨[], rfl, by decide, rfl, ⟨⟨rfl, rfl⟩, ⟨rfl, rfl⟩, ⟨rfl, rfl⟩, ⟨rfl, rfl⟩, trivial⟩, trivial⟩ ?_
  intro k hk
  repeat' ((first | (apply AWP.go ok; rfl) | (apply And.intro; first | omega | (unfold inI; omega)) | (((with_reducible apply z3; omega)); intro _) | ((first | apply z2 | apply z34) <;> intro _) | (apply z4 (hf l[k] (List.getElem_mem _)); rfl; rfl)) <;> conv => whnf)
  · rename_i h h1
    exact z56 rfl rfl (by rw [idxF_some (by omega) h1 hk.2]; rfl)
  · rename_i h h1
    refine z75 (k + 1) [] ⟨by omega, fun j hj hjk => ?_⟩ (by omega) ⟨rfl, by decide, rfl, ⟨⟨rfl, rfl⟩, ⟨rfl, rfl⟩, ⟨rfl, rfl⟩, ⟨rfl, rfl⟩, trivial⟩, trivial⟩
    rcases Nat.lt_or_ge j k with h2 | h2
    · exact hk.2 j hj h2
    · obtain rfl : j = k := by omega
      exact h1
  · exact z56 rfl rfl (by rw [idxF_none fun j hj => hk.2 j hj (by omega)]; rfl)
theorem containsFunc_ints1 (c : Int) (l : List (List Int)) (hl : l.length ≤ maxLen) (p : (List Int) → Bool) (f : FuncId) (hf : ∀ x ∈ l, CallsA Tryz.prog f [ints x, .pt [.int c]] [] (.bool (p x)) []) : CallsA Tryz.prog 155 [lst 1 encL l, .fn (.func f) [] [.pt [.int c]]] [] (.bool (l.any p)) [] := by
  refine z7 z28 Tryz.func155 rfl rfl 9 Tryz.ntmps155 (by simp) ?_
  repeat' ((first | (apply AWP.go ok; rfl) | (apply z4 (indexFunc_ints1 c l hl p f hf); rfl; rfl)) <;> conv => whnf)
  exact z32 rfl (by rw [← idxF_any])
end Go.Proofs.YtknlmbniicacmaaGreat

namespace Go.Proofs.YtknlmbniicacmaaGreat
open Go.Gl
attribute [local irreducible] z22 AWP z46 z54 z51

theorem indexInt_ok (l : List Int) (hl : l.length ≤ maxLen) (v : Int) : CallsA Tryz.prog 97 [ints l, .int v] [] (.int (idxF (fun x => decide (v = x)) l)) [] := by
  unfold maxLen at hl
  refine z7 z28 Tryz.func97 rfl rfl 19 Tryz.ntmps97 (by simp) ?_
  repeat' (((apply AWP.go ok; rfl)) <;> conv => whnf)
  refine z85 (fun k : Nat => ([(0, ints l), (1, .int v), (7, .int l.length), (8, .int k)], [])) (fun k => k ≤ l.length ∧ ∀ j (hj : j < l.length), j < k → decide (v = l[j]) = false) (fun k => l.length - k) 0 (by simp)
    ⟨[], rfl, by decide, rfl, ⟨⟨rfl, rfl⟩, ⟨rfl, rfl⟩, ⟨rfl, rfl⟩, ⟨rfl, rfl⟩, trivial⟩, trivial⟩ ?_
  intro k hk
  repeat' ((first | (apply AWP.go ok; rfl) | (apply And.intro; first | omega | (unfold inI; omega)) | (((with_reducible apply z3; omega)); intro _) | ((apply z2) <;> intro _)) <;> conv => whnf)
  · rename_i h h1
    exact z56 rfl rfl (by rw [idxF_some (p := fun x => decide (v = x)) (by omega) (decide_eq_true h1) hk.2]; rfl)
  · rename_i h h1
    refine z75 (k + 1) [] ⟨by omega, fun j hj hjk => ?_⟩ (by omega) ⟨rfl, by decide, rfl, ⟨⟨rfl, rfl⟩, ⟨rfl, rfl⟩, ⟨rfl, rfl⟩, ⟨rfl, rfl⟩, trivial⟩, trivial⟩
    rcases Nat.lt_or_ge j k with h2 | h2
    · exact hk.2 j hj h2
    · obtain rfl : j = k := by omega
      exact decide_eq_false h1
  · exact z56 rfl rfl (by rw [idxF_none (p := fun x => decide (v = x)) fun j hj => hk.2 j hj (by omega)]; rfl)

theorem containsInt_ok (l : List Int) (hl : l.length ≤ maxLen) (v : Int) : CallsA Tryz.prog 98 [ints l, .int v] [] (.bool (decide (v ∈ l))) [] := by
  refine z7 z28 Tryz.func98 rfl rfl 9 Tryz.ntmps98 (by simp) ?_
  repeat' ((first | (apply AWP.go ok; rfl) | (apply z4 (indexInt_ok l hl v); rfl; rfl)) <;> conv => whnf)
  have e : decide (v ∈ l) = l.any (fun x => decide (v = x)) := by
    rw [Bool.eq_iff_iff]; simp
  exact z32 rfl (by rw [e, ← idxF_any])

theorem slice_take {α : Type} (w : Nat) (e : α → List AC) (l : List α) (k : Nat) (hk : k ≤ l.length) : AC.list w ((k : Int).toNat - (0 : Int).toNat) (((l.map e).drop (0 : Int).toNat).take ((k : Int).toNat - (0 : Int).toNat)) = lst w e (l.take k) := by
  unfold lst
  rw [List.length_take, List.map_take]
  simp only [Int.toNat_natCast, Int.toNat_zero, Nat.sub_zero, List.drop_zero]
  rw [Nat.min_eq_left hk]

/-- different numbers, each from 0 to n - 1 -/
def Distinct (l : List Int) (n : Int) (k : Nat) : Prop := ∀ i (h : i < l.length), i < k → (0 ≤ l[i] ∧ l[i] ≤ n - 1) ∧ l[i] ∉ l.take i
noncomputable instance {l : List Int} {n : Int} {k : Nat} : Decidable (Distinct l n k) := Classical.propDecidable _
theorem distinct_ok (l : List Int) (hl : l.length ≤ maxLen) (n : Int) (h0 : 0 ≤ n) (h1 : n ≤ maxLen) : CallsA Tryz.prog 157 [ints l, .int n] [] (.bool (decide (Distinct l n l.length))) [] := by
  have hl' := hl
  unfold maxLen at hl' h1
  refine z7 z28 Tryz.func157 rfl rfl 27 Tryz.ntmps157 (by simp) ?_
  repeat' (((apply AWP.go ok; rfl)) <;> conv => whnf)
  refine z85 (fun k : Nat => ([(0, ints l), (1, .int n), (7, ints l), (8, .int l.length), (9, .int k)], [])) (fun k => k ≤ l.length ∧ Distinct l n k) (fun k => l.length - k) 0 ⟨by omega, fun i h hi => by omega⟩
    ⟨[], rfl, by decide, rfl, ⟨⟨rfl, rfl⟩, ⟨rfl, rfl⟩, ⟨rfl, rfl⟩, ⟨rfl, rfl⟩, ⟨rfl, rfl⟩, trivial⟩, trivial⟩ ?_
  intro k hk
  repeat' ((first | (apply AWP.go ok; rfl) | (apply And.intro; first | omega | (unfold inI; omega)) | (((with_reducible apply z3; omega)); intro _) | ((first | apply z2 | apply z24) <;> intro _) | (apply z4 (in_ok l[k] 0 (n - 1)); rfl; rfl)) <;> conv => whnf)
  · rename_i hb
    refine z32 rfl (decide_eq_false fun hd => ?_)
    have := (hd k ‹_› ‹_›).1
    rw [btw_no] at hb
    exact hb this
  · rename_i hb
    apply z4 (containsInt_ok (l.take k) (by rw [List.length_take]; omega) l[k])
    · show _ = [AC.list 1 _ _, _]
      rw [show AC.list 1 (l.take k).length ((l.take k).map enI) = _ from (slice_take 1 enI l k hk.1).symm]
      rfl
    · rfl
    conv => whnf
    repeat' ((first | (apply AWP.go ok; rfl) | (apply And.intro; (unfold inI; omega)) | ((apply z2) <;> intro _)) <;> conv => whnf)
    · rename_i h2
      exact z32 rfl (decide_eq_false fun hd => (hd k ‹_› ‹_›).2 h2)
    · rename_i h2
      refine z75 (k + 1) [] ⟨by omega, fun i hi hik => ?_⟩ (by omega) ⟨rfl, by decide, rfl, ⟨⟨rfl, rfl⟩, ⟨rfl, rfl⟩, ⟨rfl, rfl⟩, ⟨rfl, rfl⟩, ⟨rfl, rfl⟩, trivial⟩, trivial⟩
      rcases Nat.lt_or_ge i k with h3 | h3
      · exact hk.2 i hi h3
      · obtain rfl : i = k := by omega
        exact ⟨z38.1 hb, h2⟩
  · exact z32 rfl (decide_eq_true fun i h hi => hk.2 i h (by omega))
end Go.Proofs.YtknlmbniicacmaaGreat

namespace Go.Proofs.YtknlmbniicacmaaGreat
open Go.Gl
attribute [local irreducible] z22 AWP z46 z54 z51

theorem graphValid1_ok (s : State) (hs : s.mx) : CallsA Tryz.prog 153 [z70 State.cs s] [] (.bool (!valsB s.b)) [] := by
  refine z7 z28 Tryz.func153 rfl rfl 7 Tryz.ntmps153 (by simp) ?_
  repeat' (first | (apply AWP.go ok; rfl; conv => whnf) | (apply z4 (valsOk_ok s.b hs.2); rfl; rfl; conv => whnf))
  exact z32 rfl rfl

/-- a list of successors -/
noncomputable def succB (n : Int) (l : List Int) : Bool := !decide ((l.length : Int) = 0) && decide (Distinct l n l.length)

theorem graphValid2_ok (c : Int) (h0 : 0 ≤ c) (h1 : c ≤ maxLen) (l : List Int) (hl : l.length ≤ maxLen) : CallsA Tryz.prog 156 [ints l, .pt [.int c]] [] (.bool (!succB c l)) [] := by
  have hl' := hl
  unfold maxLen at hl'
  refine z7 z28 Tryz.func156 rfl rfl 13 Tryz.ntmps156 (by simp) ?_
  repeat' (first | (apply AWP.go ok; rfl; conv => whnf) | (apply z2 <;> intro _ <;> conv => whnf) | (apply z4 (distinct_ok l hl c h0 h1); rfl; rfl; conv => whnf))
  all_goals (refine z32 rfl ?_; first | (unfold succB; simp [*]; done) | (unfold succB; simp_all; done))
end Go.Proofs.YtknlmbniicacmaaGreat

namespace Go.Proofs.YtknlmbniicacmaaGreat
open Go.Gl
attribute [local irreducible] z22 AWP z46 z54 z51

def Graph.mx (g : Graph) : Prop := State.mxs g.st ∧ g.nx.length ≤ maxLen ∧ ∀ l ∈ g.nx, l.length ≤ maxLen
noncomputable def graphB (g : Graph) : Bool := btw g.st.length 1 60 && (decide ((g.nx.length : Int) = g.st.length) && (!(g.st.any fun s => !valsB s.b) && !(g.nx.any fun l => !succB g.st.length l)))

theorem graphValid_ok (g : Graph) (hg : g.mx) : CallsA Tryz.prog 66 [.agg g.cs] [] (.bool (graphB g)) [] := by
  obtain ⟨hs, hn, hm⟩ := hg
  have hl1 := hs.1
  unfold maxLen at hl1
  have k1 := containsFunc_state g.st hs.1 (fun s => !valsB s.b) 153 (fun s hx => graphValid1_ok s (hs.2 s hx))
  have k2 := containsFunc_ints1 (g.st.length : Int) g.nx hn (fun l => !succB g.st.length l) 156 (fun l hx => graphValid2_ok _ (by omega) (by unfold maxLen; omega) l (hm l hx))
  refine z7 z28 Tryz.func66 rfl rfl 29 Tryz.ntmps66 (by simp) ?_
  repeat' (first | (apply AWP.go ok; rfl; conv => whnf) | (apply z2 <;> intro _ <;> conv => whnf) | (apply z24 <;> intro _ <;> conv => whnf) | (apply z34 <;> intro _ <;> conv => whnf) | (apply z4 (in_ok (g.st.length : Int) 1 60); rfl; rfl; conv => whnf) | (apply z4 (k1); rfl; rfl; conv => whnf) | (apply call_bor [1] (k2); rfl; rfl; rfl; rfl; conv => whnf))
  all_goals (refine z32 rfl ?_; (unfold graphB; simp [*]; done))
end Go.Proofs.YtknlmbniicacmaaGreat

namespace Go.Proofs.YtknlmbniicacmaaGreat
open Go.Gl
attribute [local irreducible] z22 AWP z46 z54 z51

theorem containsS_expr_idx {d : Int} (l : List Tree) (hl : l.length ≤ maxLen) (p : Tree → Int → Bool) (nx : Tree → Int → Int) (okS : Int → Prop) (hok : ∀ x s, okS s → p x s = false → okS (nx x s)) (f : FuncId) (s : Int) (h0 : okS s)
    (hf : ∀ x ∈ l, ∀ s, okS s → CallsA Tryz.prog f [z70 Tree.cs' x, .pt [.int d], .ptr 1 none 0] [.cells 1 [[.int s]], .cells 1 [[.ptr 0 none 0]]] (.bool (p x s)) [.cells 1 [[.int (nx x s)]], .cells 1 [[.ptr 0 none 0]]]) :
    CallsA Tryz.prog 228 [lst 3 Tree.cs' l, .fn (.func f) [] [.pt [.int d], .ptr 1 none 0]] [.cells 1 [[.int s]], .cells 1 [[.ptr 0 none 0]]] (.int (idxS p nx l s 0).1) [.cells 1 [[.int (idxS p nx l s 0).2]], .cells 1 [[.ptr 0 none 0]]] := by
  unfold maxLen at hl
  refine z7 z28 Tryz.func228 rfl rfl 19 Tryz.ntmps228 (by simp) ?_
  repeat' (((apply AWP.go ok; rfl)) <;> conv => whnf)
  refine z85 (fun x : Nat × Int => ([(0, lst 3 Tree.cs' l), (1, .fn (.func f) [] [.pt [.int d], .ptr 1 none 0]), (7, .int l.length), (8, .int x.1)], [.cells 1 [[.int x.2]], .cells 1 [[.ptr 0 none 0]]])) (fun x => x.1 ≤ l.length ∧ okS x.2 ∧ idxS p nx l s 0 = idxS p nx (l.drop x.1) x.2 x.1) (fun x => l.length - x.1) (0, s) ⟨by omega, h0, rfl⟩
    ⟨[0, 1], rfl, by decide, rfl, ⟨⟨rfl, rfl⟩, ⟨rfl, rfl⟩, ⟨rfl, rfl⟩, ⟨rfl, rfl⟩, trivial⟩, ⟨z31 rfl rfl, z31 rfl rfl, trivial⟩⟩ ?_
  rintro ⟨k, t⟩ ⟨hk1, hk2, hk3⟩
  dsimp only at hk1 hk2 hk3
  repeat' ((first | (apply AWP.go ok; rfl) | (apply And.intro; first | omega | (unfold inI; omega)) | (((with_reducible apply z3; omega)); intro _) | ((first | apply z2 | apply z34) <;> intro _) | (((apply z21 [0, 1] [] [] (hf l[k] (List.getElem_mem _) t hk2); rfl; (focus ((repeat' first | exact z11 | apply z29) <;> rfl)))); rfl; rfl; rfl; rfl; rfl; (focus ((repeat' first | exact z27 | apply z26) <;> exact z74 rfl rfl)); (exact .inl rfl))) <;> conv => whnf)
  · rename_i h hkl h1
    rw [List.drop_eq_getElem_cons hkl, idxS, if_pos h1] at hk3
    rw [hk3]
    exact z84 [0, 1] (by decide) rfl rfl rfl ⟨z31 rfl rfl, z31 rfl rfl, trivial⟩
  · rename_i h hkl h1
    rw [List.drop_eq_getElem_cons hkl, idxS, if_neg (by rw [h1]; simp)] at hk3
    exact z75 (k + 1, nx l[k] t) [0, 1] ⟨by dsimp only; omega, hok _ _ hk2 h1, hk3⟩ (by dsimp only; omega) ⟨rfl, by decide, rfl, ⟨⟨rfl, rfl⟩, ⟨rfl, rfl⟩, ⟨rfl, rfl⟩, ⟨rfl, rfl⟩, trivial⟩, ⟨z31 rfl rfl, z31 rfl rfl, trivial⟩⟩
  · rw [List.drop_eq_nil_of_le (by omega), idxS] at hk3
    rw [hk3]
    exact z84 [0, 1] (by decide) rfl rfl rfl ⟨z31 rfl rfl, z31 rfl rfl, trivial⟩
theorem containsS_expr {d : Int} (l : List Tree) (hl : l.length ≤ maxLen) (p : Tree → Int → Bool) (nx : Tree → Int → Int) (okS : Int → Prop) (hok : ∀ x s, okS s → p x s = false → okS (nx x s)) (f : FuncId) (s : Int) (h0 : okS s)
    (hf : ∀ x ∈ l, ∀ s, okS s → CallsA Tryz.prog f [z70 Tree.cs' x, .pt [.int d], .ptr 1 none 0] [.cells 1 [[.int s]], .cells 1 [[.ptr 0 none 0]]] (.bool (p x s)) [.cells 1 [[.int (nx x s)]], .cells 1 [[.ptr 0 none 0]]]) :
    CallsA Tryz.prog 177 [lst 3 Tree.cs' l, .fn (.func f) [] [.pt [.int d], .ptr 1 none 0]] [.cells 1 [[.int s]], .cells 1 [[.ptr 0 none 0]]] (.bool (decide (0 ≤ (idxS p nx l s 0).1))) [.cells 1 [[.int (idxS p nx l s 0).2]], .cells 1 [[.ptr 0 none 0]]] := by
  refine z7 z28 Tryz.func177 rfl rfl 9 Tryz.ntmps177 (by simp) ?_
  repeat' ((first | (apply AWP.go ok; rfl) | (((apply z21 [0, 1] [] [] (containsS_expr_idx (d := d) l hl p nx okS hok f s h0 hf); rfl; (focus ((repeat' first | exact z11 | apply z29) <;> rfl)))); rfl; rfl; rfl; rfl; rfl; (focus ((repeat' first | exact z27 | apply z26) <;> exact z74 rfl rfl)); (exact .inl rfl))) <;> conv => whnf)
  exact z84 [0, 1] (by decide) rfl rfl rfl ⟨z31 rfl rfl, z31 rfl rfl, trivial⟩

theorem walk_ok (t : Tree) : t.mx → ∀ d n : Int, 0 ≤ d → d ≤ 100 → 0 ≤ n → n ≤ 15 → CallsA Tryz.prog 273 [z70 Tree.cs' t, .int d, .ptr 0 none 0] [.cells 1 [[.int n]]] (.bool (t.walkE d n).2) [.cells 1 [[.int (t.walkE d n).1]]] := by
  induction t using Tree.ind with | h t ih => ?_
  intro hm d n hd0 hd1 h0 h1
  rw [Tree.mx_iff] at hm
  have hs := Tree.walkE_spec.1
  have hk : d ≤ 6 → n + 1 ≤ 15 → CallsA Tryz.prog 177 [lst 3 Tree.cs' t.kids, .fn (.func 303) [] [.pt [.int d], .ptr 1 none 0]] [.cells 1 [[.int (n + 1)]], .cells 1 [[.ptr 0 none 0]]] (.bool (!(Tree.walkEs t.kids (d + 1) (n + 1)).2)) [.cells 1 [[.int (Tree.walkEs t.kids (d + 1) (n + 1)).1]], .cells 1 [[.ptr 0 none 0]]] := by
    intro hd hn
    have h := containsS_expr (d := d) t.kids hm.1 (fun x s => !(x.walkE (d + 1) s).2) (fun x s => (x.walkE (d + 1) s).1) (fun s => 0 ≤ s ∧ s ≤ 15) (fun x s h1 h2 => by
      obtain ⟨a1, a2, a3, a4⟩ := hs x (d + 1) s h1.1 h1.2
      have h3 : (x.walkE (d + 1) s).2 = true := by simpa using h2
      have := (a1.1 h3).2
      rw [← a2 h3] at this
      exact ⟨by omega, this⟩) 303 (n + 1) ⟨by omega, by omega⟩ (fun x hx s h => by
        have hc := ih x hx (hm.2 x hx) (d + 1) s (by omega) (by omega) h.1 h.2
        refine z7 z28 Tryz.func303 rfl rfl 11 Tryz.ntmps303 (by simp) ?_
        repeat' ((first | (apply AWP.go ok; rfl) | (apply And.intro; (unfold inI; omega)) | (((apply z21 [0] [] [] (hc); rfl; (focus ((repeat' first | exact z11 | apply z29) <;> rfl)))); rfl; rfl; rfl; rfl; rfl; (focus ((repeat' first | exact z27 | apply z26) <;> exact z74 rfl rfl)); (exact .inl rfl))) <;> conv => whnf)
        exact z84 [0, 1] (by decide) rfl rfl rfl ⟨z31 rfl rfl, z31 rfl rfl, trivial⟩)
    rw [Tree.walkEs_idx (d + 1) t.kids (n + 1) 0, Bool.not_not]
    exact h
  have hk2 := fun h1 h2 => by
    have := hk h1 h2
    unfold lst at this
    rw [← Tree.cs_eq] at this
    exact this
  refine z7 z28 Tryz.func273 rfl rfl 55 Tryz.ntmps273 (by simp) ?_
  repeat' ((first | (apply AWP.go ok; rfl) | (apply And.intro; (unfold inI; omega)) | ((first | apply z2 | apply z8 | apply z24) <;> intro _) | (apply z4 (in_ok _ 1 9); rfl; rfl) | (apply z4 (in_ok _ 0 3); rfl; rfl) | (apply z4 (in_ok _ 0 2); rfl; rfl) | (apply z4 (in_ok _ 0 0); rfl; rfl) | (((apply z21 [0, 3] [2] [] (hk2 (by omega) (by omega)); rfl; (focus ((repeat' first | exact z11 | apply z29) <;> rfl)))); rfl; rfl; rfl; rfl; rfl; (focus ((repeat' first | exact z27 | apply z26) <;> exact z74 rfl rfl)); ((refine .inr ⟨rfl, ?_⟩; repeat' first | exact True.intro | apply And.intro | exact rfl)))) <;> conv => whnf)
  all_goals first
    | (have e : t.walkE d n = (n + 1, false) := by
        rw [Tree.walkE_eq, if_neg]
        clear hk hk2 hs ih
        rintro ⟨c1, c2, c3, c4, c5⟩
        try simp only [btw_no, z38] at *
        unfold mostV at c4
        unfold arity at c5
        grind
       rw [e]
       exact z84 [0] (by decide) rfl rfl rfl ⟨z31 rfl rfl, trivial⟩)
    | (have e : t.walkE d n = Tree.walkEs t.kids (d + 1) (n + 1) := by
        rw [Tree.walkE_eq, if_pos]
        clear hk hk2 hs ih
        try simp only [btw_no, z38] at *
        unfold mostV arity
        grind
       rw [e]
       refine z84 [0] (by decide) rfl rfl ?_ ⟨z31 rfl rfl, trivial⟩
       show AC.raw (.bool (!!_)) = _
       rw [Bool.not_not]; rfl)
end Go.Proofs.YtknlmbniicacmaaGreat

namespace Go.Proofs.YtknlmbniicacmaaGreat
open Go.Gl
attribute [local irreducible] z22 AWP z46 z54 z51

theorem Tree.arg_eq (t : Tree) : z70 Tree.cs' t = .agg [.int t.kind, .int t.val, lst 3 Tree.cs' t.kids] := by
  simp only [z70, Tree.cs', lst, Tree.lst_eq]

theorem exprNodes_ok (t : Tree) (hm : t.mx) : CallsA Tryz.prog 229 [z70 Tree.cs' t] [] (.int (if t.exprB then t.count 6 else 0)) [] := by
  have hk := walk_ok t hm 1 0 (by omega) (by omega) (by omega) (by omega)
  obtain ⟨_, h2, _, _⟩ := Tree.walkE_spec.1 t 1 0 (by omega) (by omega)
  refine z7 z28 Tryz.func229 rfl rfl 8 Tryz.ntmps229 (by simp) ?_
  repeat' ((first | (apply AWP.go ok; rfl) | ((apply z24) <;> intro _) | (((apply z21 [1] [] [] (hk); rfl; (focus ((repeat' first | exact z11 | apply z29) <;> rfl)))); rfl; rfl; rfl; rfl; rfl; (focus ((repeat' first | exact z27 | apply z26) <;> exact z74 rfl rfl)); (exact .inl rfl))) <;> conv => whnf)
  · rename_i h
    exact z56 rfl rfl (by rw [if_neg (by unfold Tree.exprB; rw [h]; simp)]; rfl)
  · rename_i h
    have e := h2 h
    rw [Int.zero_add] at e
    exact z56 rfl rfl (by rw [if_pos (show t.exprB = true from h), show t.count 6 = (t.walkE 1 0).1 from e.symm]; rfl)

theorem exprValid_ok (t : Tree) (hm : t.mx) : CallsA Tryz.prog 179 [z70 Tree.cs' t] [] (.bool t.exprB) [] := by
  refine z7 z28 Tryz.func179 rfl rfl 6 Tryz.ntmps179 (by simp) ?_
  repeat' ((first | (apply AWP.go ok; rfl) | (apply z4 (exprNodes_ok t hm); rfl; rfl)) <;> conv => whnf)
  refine z32 rfl ?_
  have := Tree.count_pos.1 t 6
  cases t.exprB
  · simp
  · simp; omega

theorem labelsValid1_ok (t : Tree) (hm : t.mx) : CallsA Tryz.prog 178 [z70 Tree.cs' t] [] (.bool (!t.exprB)) [] := by
  refine z7 z28 Tryz.func178 rfl rfl 6 Tryz.ntmps178 (by simp) ?_
  repeat' ((first | (apply AWP.go ok; rfl) | (apply z4 (exprValid_ok t hm); rfl; rfl)) <;> conv => whnf)
  exact z32 rfl rfl

/-- labels: three expressions -/
def labelsB (l : List Tree) : Bool := decide ((l.length : Int) = 3) && l.all Tree.exprB
theorem labelsValid_ok (l : List Tree) (hl : l.length ≤ maxLen) (hm : ∀ t ∈ l, t.mx) : CallsA Tryz.prog 95 [lst 3 Tree.cs' l] [] (.bool (labelsB l)) [] := by
  have hk := containsFunc_expr l hl (fun t => !t.exprB) 178 (fun t ht => labelsValid1_ok t (hm t ht))
  refine z7 z28 Tryz.func95 rfl rfl 11 Tryz.ntmps95 (by simp) ?_
  repeat' ((first | (apply AWP.go ok; rfl) | ((apply z2) <;> intro _) | (apply z4 (hk); rfl; rfl)) <;> conv => whnf)
  · refine z32 rfl ?_
    rename_i h
    unfold labelsB
    rw [decide_eq_true h, List.all_eq_not_any_not]; rfl
  · refine z32 rfl ?_
    rename_i h
    unfold labelsB
    rw [decide_eq_false h]; rfl

theorem l1Arity_ok (k : Int) : CallsA Tryz.prog 298 [.int k] [] (.int (arity k)) [] := by
  refine z7 z28 Tryz.func298 rfl rfl 15 Tryz.ntmps298 (by simp) ?_
  repeat' ((first | (apply AWP.go ok; rfl) | ((apply z2) <;> intro _)) <;> conv => whnf)
  all_goals (refine z56 rfl rfl ?_; unfold arity; first | (rw [if_pos (by omega)]; rfl) | (rw [if_neg (by omega), if_pos (by omega)]; rfl) | (rw [if_neg (by omega), if_neg (by omega), if_pos (by omega)]; rfl) | (rw [if_neg (by omega), if_neg (by omega), if_neg (by omega)]; rfl))

theorem shapes_all (l : List Tree) (d : Int) : Tree.shapes l d = l.all (fun t => t.shape d) := by
  induction l with
  | nil => rfl
  | cons t l ih => simp [Tree.shapes, ih]
theorem shape_eq (t : Tree) (d : Int) : t.shape d = (decide (1 ≤ d ∧ (t.kids.length : Int) = arity t.kind ∧ 0 ≤ t.val ∧ t.val ≤ mostV t.kind) && t.kids.all fun t => t.shape (d - 1)) := by
  cases t; simp only [Tree.shape, Tree.kids, Tree.kind, Tree.val, shapes_all]; rfl

theorem l1Shape_ok (t : Tree) : t.mx → ∀ d : Int, -100 ≤ d → d ≤ 100 → CallsA Tryz.prog 263 [z70 Tree.cs' t, .int d] [] (.bool (t.shape d)) [] := by
  induction t using Tree.ind with | h t ih => ?_
  intro hm d h0 h1
  rw [Tree.mx_iff] at hm
  have hl := hm.1
  unfold maxLen at hl
  rw [Tree.arg_eq, shape_eq]
  refine z7 z28 Tryz.func263 rfl rfl 49 Tryz.ntmps263 (by simp) ?_
  repeat' ((first | (apply AWP.go ok; rfl) | (apply z5; kernel_rfl) | ((first | apply z2 | apply z8) <;> intro _) | (apply z4 (l1Arity_ok _); rfl; rfl)) <;> conv => whnf)
  all_goals first
    | (refine z32 rfl ?_
       rw [decide_eq_false]
       · rfl
       · clear ih
         rintro ⟨c1, c2, c3, c4⟩
         unfold mostV at c4
         grind)
    | (have hg : decide (1 ≤ d ∧ (t.kids.length : Int) = arity t.kind ∧ 0 ≤ t.val ∧ t.val ≤ mostV t.kind) = true := by
         clear ih
         refine decide_eq_true ?_
         unfold mostV
         grind
       rw [hg, Bool.true_and]
       refine z85 (fun k : Nat => ([(1, .int d), (2, .ptr 0 none 0), (6, .int k)], [.cells 3 [[.int t.kind, .int t.val, lst 3 Tree.cs' t.kids]]])) (fun k => k ≤ t.kids.length ∧ (t.kids.all fun t => t.shape (d - 1)) = (t.kids.drop k).all fun t => t.shape (d - 1)) (fun k => t.kids.length - k) 0 ⟨by omega, rfl⟩ ⟨[0], rfl, by decide, rfl, by repeat' (first | exact True.intro | exact ⟨rfl, rfl⟩ | apply And.intro), by repeat' (first | exact True.intro | exact z31 rfl rfl | apply And.intro)⟩ ?_
       intro k hk
       repeat' ((first | (apply AWP.go ok; rfl) | (apply And.intro; first | omega | (unfold inI; omega)) | (((with_reducible apply z3; omega)); intro _) | ((first | apply z2 | apply z24) <;> intro _) | (apply z4 (ih t.kids[k] (List.getElem_mem _) (hm.2 _ (List.getElem_mem _)) (d - 1) (by omega) (by omega)); rfl; rfl)) <;> conv => whnf)
       · rename_i h1
         exact z32 rfl (by rw [hk.2, drop_all _ _ _ (by assumption)]; simp [h1])
       · rename_i h1
         exact z75 (k + 1) [0] ⟨by omega, by rw [hk.2, drop_all _ _ _ (by assumption)]; simp [h1]⟩ (by omega) ⟨rfl, by decide, rfl, by repeat' (first | exact True.intro | exact ⟨rfl, rfl⟩ | apply And.intro), by repeat' (first | exact True.intro | exact z31 rfl rfl | apply And.intro)⟩
       · exact z32 rfl (by rw [hk.2, drop_all_end _ _ _ (by omega)]))

theorem count_eq (t : Tree) (d : Int) : t.count d = if 0 < d then 1 + (t.kids.map fun t => t.count (d - 1)).sum else 1 := by
  have : ∀ (l : List Tree) d, Tree.counts l d = (l.map fun t => t.count d).sum := by
    intro l d
    induction l with
    | nil => rfl
    | cons t l ih => simp [Tree.counts, ih]
  cases t; simp only [Tree.count, Tree.kids, this]

/-- below a shape of depth d lie at most 2^d - 1 nodes -/
theorem count_le (t : Tree) : ∀ d n : Nat, t.shape d = true → t.count n ≤ 2 ^ d - 1 := by
  induction t using Tree.ind with | h t ih => ?_
  intro d n h
  rw [shape_eq, Bool.and_eq_true, decide_eq_true_eq] at h
  obtain ⟨⟨h1, h2, _, _⟩, h3⟩ := h
  rw [List.all_eq_true] at h3
  obtain ⟨d, rfl⟩ : ∃ e, d = e + 1 := ⟨d - 1, by omega⟩
  have e : ((d + 1 : Nat) : Int) - 1 = (d : Nat) := by omega
  rw [e] at h3
  rw [count_eq]
  have hp : (1 : Int) ≤ 2 ^ d := by exact_mod_cast Nat.one_le_two_pow
  have hq : ((2 : Int) ^ (d + 1)) = 2 * 2 ^ d := by rw [Int.pow_succ]; omega
  split
  · rename_i hn
    obtain ⟨n, rfl⟩ : ∃ e, n = e + 1 := ⟨n - 1, by omega⟩
    have e : ((n + 1 : Nat) : Int) - 1 = (n : Nat) := by omega
    rw [e]
    have hl : (t.kids.length : Int) ≤ 2 := by rw [h2]; unfold arity; grind
    have hk : ∀ u ∈ t.kids, u.count n ≤ 2 ^ d - 1 := fun u hu => ih u hu d n (h3 u hu)
    match hkk : t.kids with
    | [] => simp only [List.map_nil, List.sum_nil]; omega
    | [a] =>
      have := hk a (by simp [hkk])
      simp only [List.map_cons, List.map_nil, List.sum_cons, List.sum_nil]; omega
    | [a, b] =>
      have := hk a (by simp [hkk])
      have := hk b (by simp [hkk])
      simp only [List.map_cons, List.map_nil, List.sum_cons, List.sum_nil]; omega
    | a :: b :: c :: r => rw [hkk] at hl; simp only [List.length_cons] at hl; omega
  · omega

theorem sum_step (f : Tree → Int) (l : List Tree) (k : Nat) (hk : k < l.length) : ((l.take (k + 1)).map f).sum = ((l.take k).map f).sum + f l[k] := by
  rw [List.take_succ_eq_append_getElem hk, List.map_append, List.sum_append]; simp

theorem count_bound (t : Tree) (e d : Int) (he : e ≤ 50) (hd : 0 ≤ d) (h : t.shape e = true) : t.count d ≤ 2 ^ 50 := by
  have h1 : 1 ≤ e := by
    rw [shape_eq, Bool.and_eq_true, decide_eq_true_eq] at h; exact h.1.1
  obtain ⟨n, rfl⟩ := Int.eq_ofNat_of_zero_le (show 0 ≤ e by omega)
  obtain ⟨m, rfl⟩ := Int.eq_ofNat_of_zero_le hd
  have h2 := count_le t n m h
  have h4 : (2 : Int) ^ n ≤ 2 ^ 50 := by exact_mod_cast Nat.pow_le_pow_right (by omega) (by omega)
  omega

theorem l1Count_ok (t : Tree) : t.mx → ∀ e d : Int, e ≤ 50 → 0 ≤ d → d ≤ 50 → t.shape e = true → CallsA Tryz.prog 264 [z70 Tree.cs' t, .int d] [] (.int (t.count d)) [] := by
  induction t using Tree.ind with | h t ih => ?_
  intro hm e d h0 h1 h2 hs
  rw [Tree.mx_iff] at hm
  rw [shape_eq, Bool.and_eq_true, decide_eq_true_eq, List.all_eq_true] at hs
  obtain ⟨⟨hs1, hs2, _, _⟩, hs3⟩ := hs
  have hl : (t.kids.length : Int) ≤ 2 := by rw [hs2]; unfold arity; grind
  rw [Tree.arg_eq, count_eq]
  have hb : 0 < d → ∀ k, k ≤ t.kids.length → 0 ≤ ((t.kids.take k).map fun t => t.count (d - 1)).sum ∧ ((t.kids.take k).map fun t => t.count (d - 1)).sum ≤ k * 2 ^ 50 := by
    intro hd k
    induction k with
    | zero => intro _; simp
    | succ k ihk =>
      intro hk
      have h1 := ihk (by omega)
      rw [sum_step _ _ _ (by omega)]
      have h2 := count_bound t.kids[k] (e - 1) (d - 1) (by omega) (by omega) (hs3 _ (List.getElem_mem _))
      have h3 := Tree.count_pos.1 t.kids[k] (d - 1)
      omega
  refine z7 z28 Tryz.func264 rfl rfl 29 Tryz.ntmps264 (by simp) ?_
  repeat' (((apply AWP.go ok; rfl)) <;> conv => whnf)
  by_cases hd : 0 < d
  · rw [if_pos hd]
    refine z85 (fun k : Nat => ([(1, .int d), (2, .ptr 0 none 0), (5, .int (1 + ((t.kids.take k).map fun t => t.count (d - 1)).sum)), (6, .int k)], [.cells 3 [[.int t.kind, .int t.val, lst 3 Tree.cs' t.kids]]])) (fun k => k ≤ t.kids.length) (fun k => t.kids.length - k) 0 (by omega) ⟨[0], rfl, by decide, rfl, by repeat' (first | exact True.intro | exact ⟨rfl, rfl⟩ | apply And.intro), by repeat' (first | exact True.intro | exact z31 rfl rfl | apply And.intro)⟩ ?_
    intro k hk
    have hbk := hb hd k hk
    have hbk1 := fun h => hb hd (k + 1) h
    have hss := fun h => sum_step (fun t => t.count (d - 1)) t.kids k h
    repeat' ((first | (apply AWP.go ok; rfl) | (apply And.intro; first | omega | (unfold inI; omega)) | (((with_reducible apply z3; omega)); intro _) | ((apply z2) <;> intro _) | (apply z4 (ih t.kids[k] (List.getElem_mem _) (hm.2 _ (List.getElem_mem _)) (e - 1) (d - 1) (by omega) (by omega) (by omega) (hs3 _ (List.getElem_mem _))); rfl; rfl)) <;> conv => whnf)
    · have e1 := hss ‹_›
      have e2 := hbk1 (by omega)
      refine And.intro (by unfold inI; omega) ?_
      conv => whnf
      repeat' ((first | (apply AWP.go ok; rfl) | (apply And.intro; (unfold inI; omega))) <;> conv => whnf)
      exact z75 (k + 1) [0] (by omega) (by omega) ⟨rfl, by decide, rfl, ⟨⟨rfl, rfl⟩, ⟨rfl, rfl⟩, ⟨rfl, by rw [e1, ← Int.add_assoc]; rfl⟩, ⟨rfl, rfl⟩, trivial⟩, ⟨z31 rfl rfl, trivial⟩⟩
    · omega
    · obtain rfl : k = t.kids.length := by omega
      exact z56 rfl rfl (by rw [List.take_length]; rfl)
  · rw [if_neg hd]
    refine z85 (fun k : Nat => ([(1, .int d), (2, .ptr 0 none 0), (5, .int 1), (6, .int k)], [.cells 3 [[.int t.kind, .int t.val, lst 3 Tree.cs' t.kids]]])) (fun k => k ≤ t.kids.length) (fun k => t.kids.length - k) 0 (by omega) ⟨[0], rfl, by decide, rfl, by repeat' (first | exact True.intro | exact ⟨rfl, rfl⟩ | apply And.intro), by repeat' (first | exact True.intro | exact z31 rfl rfl | apply And.intro)⟩ ?_
    intro k hk
    repeat' ((first | (apply AWP.go ok; rfl) | (apply And.intro; omega) | (((with_reducible apply z3; omega)); intro _) | ((apply z2) <;> intro _)) <;> conv => whnf)
    · omega
    · exact z56 rfl rfl rfl
    · exact z56 rfl rfl rfl

theorem specExprValid_ok (t : Tree) (hm : t.mx) : CallsA Tryz.prog 217 [z70 Tree.cs' t] [] (.bool t.exprB) [] := by
  rw [Tree.exprB_eq]
  refine z7 z28 Tryz.func217 rfl rfl 10 Tryz.ntmps217 (by simp) ?_
  repeat' ((first | (apply AWP.go ok; rfl) | ((apply z34) <;> intro _) | (apply z4 (l1Shape_ok t hm 6 (by omega) (by omega)); rfl; rfl) | (apply z4 (l1Count_ok t hm 6 6 (by omega) (by omega) (by omega) (by assumption)); rfl; rfl)) <;> conv => whnf)
  all_goals (refine z32 rfl ?_; (simp [*]; done))

theorem specLabelsValid_ok (l : List Tree) (hl : l.length ≤ maxLen) (hm : ∀ t ∈ l, t.mx) : CallsA Tryz.prog 163 [lst 3 Tree.cs' l] [] (.bool (labelsB l)) [] := by
  unfold maxLen at hl
  unfold labelsB
  refine z7 z28 Tryz.func163 rfl rfl 19 Tryz.ntmps163 (by simp) ?_
  repeat' (((apply AWP.go ok; rfl)) <;> conv => whnf)
  refine z85 (fun k : Nat => ([(0, lst 3 Tree.cs' l), (3, .int k)], [])) (fun k => k ≤ l.length ∧ l.all Tree.exprB = (l.drop k).all Tree.exprB) (fun k => l.length - k) 0 ⟨by omega, rfl⟩ ⟨[], rfl, by decide, rfl, by repeat' (first | exact True.intro | exact ⟨rfl, rfl⟩ | apply And.intro), by repeat' (exact True.intro)⟩ ?_
  intro k hk
  repeat' ((first | (apply AWP.go ok; rfl) | (apply And.intro; first | omega | (unfold inI; omega)) | (((with_reducible apply z3; omega)); intro _) | ((first | apply z2 | apply z24) <;> intro _) | (apply z4 (specExprValid_ok l[k] (hm _ (List.getElem_mem _))); rfl; rfl)) <;> conv => whnf)
  · rename_i h1
    exact z32 rfl (by rw [hk.2, drop_all _ _ _ (by assumption)]; simp [h1])
  · rename_i h1
    exact z75 (k + 1) [] ⟨by omega, by rw [hk.2, drop_all _ _ _ (by assumption)]; simp [h1]⟩ (by omega) ⟨rfl, by decide, rfl, by repeat' (first | exact True.intro | exact ⟨rfl, rfl⟩ | apply And.intro), by repeat' (exact True.intro)⟩
  · exact z32 rfl (by rw [hk.2, drop_all_end _ _ _ (by omega), Bool.and_true])

theorem truth_ok (b : Bool) : CallsA Tryz.prog 276 [.bool b] [] (.int (b2i b)) [] := by
  refine z7 z28 Tryz.func276 rfl rfl 4 Tryz.ntmps276 (by simp) ?_
  repeat' ((first | (apply AWP.go ok; rfl) | ((apply z34) <;> intro _)) <;> conv => whnf)
  all_goals (refine z56 rfl rfl ?_; simp only [*]; rfl)
theorem l1Bool_ok (b : Bool) : CallsA Tryz.prog 299 [.bool b] [] (.int (b2i b)) [] := by
  refine z7 z28 Tryz.func299 rfl rfl 4 Tryz.ntmps299 (by simp) ?_
  repeat' ((first | (apply AWP.go ok; rfl) | ((apply z34) <;> intro _)) <;> conv => whnf)
  all_goals (refine z56 rfl rfl ?_; simp only [*]; rfl)

theorem good_cases {t : Tree} (hg : t.good) : (∃ x, t = .mk 1 x [] ∧ 0 ≤ x ∧ x ≤ 3) ∨ (∃ x, t = .mk 2 x [] ∧ 0 ≤ x ∧ x ≤ 2) ∨ (∃ x a, t = .mk 3 x [a] ∧ a.good) ∨ (∃ k x a b, t = .mk k x [a, b] ∧ 4 ≤ k ∧ k ≤ 9 ∧ a.good ∧ b.good) := by
  obtain ⟨g1, g2, g3, g4⟩ := Tree.good_iff hg
  obtain ⟨k, x, l⟩ := t
  simp only [Tree.kind, Tree.val, Tree.kids] at *
  unfold arity at g1
  unfold mostV at g3
  match l, g1, g4 with
  | [], g1, _ =>
    simp only [List.length_nil] at g1
    have : k = 1 ∨ k = 2 := by grind
    rcases this with rfl | rfl
    · exact .inl ⟨x, rfl, g2, by grind⟩
    · exact .inr (.inl ⟨x, rfl, g2, by grind⟩)
  | [a], g1, g4 =>
    simp only [List.length_cons, List.length_nil] at g1
    have : k = 3 := by grind
    subst this
    exact .inr (.inr (.inl ⟨x, a, rfl, g4 a (by simp)⟩))
  | [a, b], g1, g4 =>
    simp only [List.length_cons, List.length_nil] at g1
    exact .inr (.inr (.inr ⟨k, x, a, b, rfl, by grind, by grind, g4 a (by simp), g4 b (by simp)⟩))
  | a :: b :: c :: r, g1, _ => simp only [List.length_cons] at g1; grind

theorem eval_ok (v : List Int) (hv : ValsOk v) (t : Tree) : t.good → CallsA Tryz.prog 235 [z70 Tree.cs' t, ints v] [] (.int (t.ev v)) [] := by
  induction t using Tree.ind with | h t ih => ?_
  intro hg
  have hl := hv.1
  rw [Tree.arg_eq]
  rcases good_cases hg with ⟨x, rfl, h1, h2⟩ | ⟨x, rfl, h1, h2⟩ | ⟨x, a, rfl, h1⟩ | ⟨k, x, a, b, rfl, h1, h2, h3, h4⟩ <;> simp only [Tree.kind, Tree.val, Tree.kids] at *
  · refine z7 z28 Tryz.func235 rfl rfl 82 Tryz.ntmps235 (by simp) ?_
    repeat' (((apply AWP.go ok; rfl)) <;> conv => whnf)
    all_goals (exact z56 rfl rfl (by rw [Tree.ev, if_pos rfl]; rfl))
  · refine z7 z28 Tryz.func235 rfl rfl 82 Tryz.ntmps235 (by simp) ?_
    repeat' ((first | (apply AWP.go ok; rfl) | (apply And.intro; omega) | (apply z49; omega; intro _)) <;> conv => whnf)
    all_goals skip
    refine z56 rfl rfl ?_
    rw [Tree.ev, if_neg (by omega), if_pos rfl, List.getD_eq_getElem?_getD, List.getElem?_eq_getElem (by omega)]; rfl
  · have ha := Tree.ev_range hv a h1
    refine z7 z28 Tryz.func235 rfl rfl 82 Tryz.ntmps235 (by simp) ?_
    repeat' ((first | (apply AWP.go ok; rfl) | (apply And.intro; omega) | apply z45 | (apply z4 (ih a (by simp) h1); rfl; rfl) | (apply z4 (truth_ok _); rfl; rfl)) <;> conv => whnf)
    all_goals skip
    all_goals (refine z56 rfl rfl ?_; rw [Tree.ev, if_neg (by omega), if_neg (by omega)]; simp only [Tree.evs]; rfl)
  · have ha := Tree.ev_range hv a h3
    have hb := Tree.ev_range hv b h4
    refine z7 z28 Tryz.func235 rfl rfl 82 Tryz.ntmps235 (by simp) ?_
    repeat' ((first | (apply AWP.go ok; rfl) | (apply And.intro; first | omega | (unfold inI; omega)) | (((apply z3; omega)); intro _) | apply z45 | ((first | apply z2 | apply z8) <;> intro _) | (apply z4 (ih a (by simp) h3); rfl; rfl) | (apply z4 (ih b (by simp) h4); rfl; rfl) | (apply z4 (truth_ok _); rfl; rfl)) <;> conv => whnf)
    all_goals first | (exfalso; omega) | skip
    all_goals (refine ret_int rfl ?_; clear ih; simp only [Tree.ev, Tree.evs, b2i]; grind)

theorem l1Eval_ok (v : List Int) (hv : ValsOk v) (t : Tree) : t.good → CallsA Tryz.prog 265 [z70 Tree.cs' t, ints v] [] (.int (t.ev v)) [] := by
  induction t using Tree.ind with | h t ih => ?_
  intro hg
  have hl := hv.1
  rw [Tree.arg_eq]
  rcases good_cases hg with ⟨x, rfl, h1, h2⟩ | ⟨x, rfl, h1, h2⟩ | ⟨x, a, rfl, h1⟩ | ⟨k, x, a, b, rfl, h1, h2, h3, h4⟩ <;> simp only [Tree.kind, Tree.val, Tree.kids] at *
  · refine z7 z28 Tryz.func265 rfl rfl 86 Tryz.ntmps265 (by simp) ?_
    repeat' (((apply AWP.go ok; rfl)) <;> conv => whnf)
    all_goals (exact z56 rfl rfl (by rw [Tree.ev, if_pos rfl]; rfl))
  · refine z7 z28 Tryz.func265 rfl rfl 86 Tryz.ntmps265 (by simp) ?_
    repeat' ((first | (apply AWP.go ok; rfl) | (apply And.intro; omega) | (apply z49; omega; intro _)) <;> conv => whnf)
    all_goals skip
    refine z56 rfl rfl ?_
    rw [Tree.ev, if_neg (by omega), if_pos rfl, List.getD_eq_getElem?_getD, List.getElem?_eq_getElem (by omega)]; rfl
  · have ha := Tree.ev_range hv a h1
    refine z7 z28 Tryz.func265 rfl rfl 86 Tryz.ntmps265 (by simp) ?_
    repeat' ((first | (apply AWP.go ok; rfl) | (apply And.intro; omega) | apply z45 | (apply z4 (ih a (by simp) h1); rfl; rfl) | (apply z4 (l1Bool_ok _); rfl; rfl)) <;> conv => whnf)
    all_goals skip
    all_goals (refine z56 rfl rfl ?_; rw [Tree.ev, if_neg (by omega), if_neg (by omega)]; simp only [Tree.evs]; rfl)
  · have ha := Tree.ev_range hv a h3
    have hb := Tree.ev_range hv b h4
    refine z7 z28 Tryz.func265 rfl rfl 86 Tryz.ntmps265 (by simp) ?_
    repeat' ((first | (apply AWP.go ok; rfl) | (apply And.intro; first | omega | (unfold inI; omega)) | (((apply z3; omega)); intro _) | apply z45 | ((first | apply z2 | apply z8) <;> intro _) | (apply z4 (ih a (by simp) h3); rfl; rfl) | (apply z4 (ih b (by simp) h4); rfl; rfl) | (apply z4 (l1Bool_ok _); rfl; rfl)) <;> conv => whnf)
    all_goals first | (exfalso; omega) | skip
    all_goals (refine ret_int rfl ?_; clear ih; simp only [Tree.ev, Tree.evs, b2i]; grind)
end Go.Proofs.YtknlmbniicacmaaGreat

namespace Go.Proofs.YtknlmbniicacmaaGreat
open Go.Gl
attribute [local irreducible] z22 AWP z46 z54 z51

/-- the letter of values, from the k-th label on -/
def ltr (v : List Int) (l : List Tree) (k n : Nat) : Nat := match l with
  | [] => n
  | t :: r => ltr v r (k + 1) (if t.ev v = 0 then n else n ||| 2 ^ k)
theorem ltr_cons (v : List Int) (l : List Tree) (k n : Nat) (h : k < l.length) : ltr v (l.drop k) k n = ltr v (l.drop (k + 1)) (k + 1) (if l[k].ev v = 0 then n else n ||| 2 ^ k) := by
  rw [List.drop_eq_getElem_cons h, ltr]
theorem ltr_end (v : List Int) (l : List Tree) (k n : Nat) (h : l.length ≤ k) : ltr v (l.drop k) k n = n := by
  rw [List.drop_eq_nil_of_le h, ltr]
def z48 (labels : List Tree) (s : State) : Int := ltr s.b labels 0 0
theorem or_lt {n k : Nat} (h : n < 2 ^ k) : n ||| 2 ^ k < 2 ^ (k + 1) :=
  Nat.or_lt_two_pow (by rw [Nat.pow_succ]; omega) (by rw [Nat.pow_succ]; have := Nat.two_pow_pos k; omega)

def LabelsOk (l : List Tree) : Prop := l.length = 3 ∧ ∀ t ∈ l, t.good
theorem LabelsOk.of {l : List Tree} (h : labelsB l = true) : LabelsOk l := by
  simp only [labelsB, Bool.and_eq_true, decide_eq_true_eq, List.all_eq_true] at h
  exact ⟨by omega, fun t ht => Tree.good_of (h.2 t ht)⟩

theorem shl_eq (k : Nat) (hk : k < 3) : (1 : Int) * 2 ^ ((k : Int).toNat) = ((2 ^ k : Nat) : Int) := by simp
theorem pow_bound {k : Nat} (hk : k < 3) : 2 ^ k ≤ 8 ∧ 2 ^ (k + 1) ≤ 8 ∧ 0 < 2 ^ k := by
  have : k = 0 ∨ k = 1 ∨ k = 2 := by omega
  rcases this with rfl | rfl | rfl <;> simp

theorem letter_ok (s : State) (hv : ValsOk s.b) (l : List Tree) (hl : LabelsOk l) : CallsA Tryz.prog 182 [ints s.b, lst 3 Tree.cs' l] [] (.int (z48 l s)) [] := by
  have h3 := hl.1
  refine z7 z28 Tryz.func182 rfl rfl 25 Tryz.ntmps182 (by simp) ?_
  repeat' (((apply AWP.go ok; rfl)) <;> conv => whnf)
  refine z85 (fun x : Nat × Nat => ([(0, ints s.b), (5, .int x.2), (8, lst 3 Tree.cs' l), (9, .int l.length), (10, .int x.1)], [])) (fun x => x.1 ≤ l.length ∧ x.2 < 2 ^ x.1 ∧ ltr s.b l 0 0 = ltr s.b (l.drop x.1) x.1 x.2) (fun x => l.length - x.1) (0, 0) ⟨by omega, by decide, rfl⟩ ⟨[], rfl, by decide, rfl, by repeat' (first | exact True.intro | exact ⟨rfl, rfl⟩ | apply And.intro), by repeat' (exact True.intro)⟩ ?_
  rintro ⟨k, n⟩ ⟨hk1, hk2, hk3⟩
  dsimp only at hk1 hk2 hk3
  repeat' ((first | (apply AWP.go ok; rfl) | (apply And.intro; first | omega | (unfold inI; omega)) | (((with_reducible apply z3; omega)); intro _) | ((first | apply z2 | apply z8) <;> intro _) | (apply z4 (eval_ok s.b hv l[k] (hl.2 _ (List.getElem_mem _))); rfl; rfl)) <;> conv => whnf)
  · rename_i hkl h
    have hp := pow_bound (show k < 3 by omega)
    have e := shl_eq k (by omega)
    refine And.intro ⟨by omega, by omega, by rw [e]; unfold inI; omega⟩ ?_
    conv => whnf
    refine And.intro (by rw [e]; unfold z25; omega) ?_
    conv => whnf
    repeat' ((first | (apply AWP.go ok; rfl) | (apply And.intro; (unfold inI; omega))) <;> conv => whnf)
    rw [ltr_cons _ _ _ _ hkl, if_neg h] at hk3
    refine z75 (k + 1, n ||| 2 ^ k) [] ⟨by dsimp only; omega, or_lt hk2, hk3⟩ (by dsimp only; omega) ⟨rfl, by decide, rfl, ⟨⟨rfl, rfl⟩, ⟨rfl, ?_⟩, ⟨rfl, rfl⟩, ⟨rfl, rfl⟩, ⟨rfl, rfl⟩, trivial⟩, trivial⟩
    show AC.raw (.int .i64 (((n : Int).toNat ||| ((1 : Int) * 2 ^ ((k : Int).toNat)).toNat : Nat) : Int)) = _
    rw [e]; rfl
  · rename_i hkl h
    rw [ltr_cons _ _ _ _ hkl, if_pos h] at hk3
    have : 2 ^ k ≤ 2 ^ (k + 1) := by rw [Nat.pow_succ]; omega
    exact z75 (k + 1, n) [] ⟨by dsimp only; omega, by dsimp only; omega, hk3⟩ (by dsimp only; omega) ⟨rfl, by decide, rfl, by repeat' (first | exact True.intro | exact ⟨rfl, rfl⟩ | apply And.intro), by repeat' (exact True.intro)⟩
  · rw [ltr_end _ _ _ _ (by omega)] at hk3
    exact z56 rfl rfl (by unfold z48; rw [hk3]; rfl)

theorem l8Letter_ok (s : State) (hv : ValsOk s.b) (l : List Tree) (hl : LabelsOk l) : CallsA Tryz.prog 218 [z70 State.cs s, lst 3 Tree.cs' l] [] (.int (z48 l s)) [] := by
  have h3 := hl.1
  refine z7 z28 Tryz.func218 rfl rfl 27 Tryz.ntmps218 (by simp) ?_
  repeat' (((apply AWP.go ok; rfl)) <;> conv => whnf)
  refine z85 (fun x : Nat × Nat => ([(1, lst 3 Tree.cs' l), (2, .ptr 0 none 0), (5, .int x.2), (6, .int x.1)], [.cells 2 [[ints s.a, ints s.b]]])) (fun x => x.1 ≤ l.length ∧ x.2 < 2 ^ x.1 ∧ ltr s.b l 0 0 = ltr s.b (l.drop x.1) x.1 x.2) (fun x => l.length - x.1) (0, 0) ⟨by omega, by decide, rfl⟩ ⟨[0], rfl, by decide, rfl, by repeat' (first | exact True.intro | exact ⟨rfl, rfl⟩ | apply And.intro), by repeat' (first | exact True.intro | exact z31 rfl rfl | apply And.intro)⟩ ?_
  rintro ⟨k, n⟩ ⟨hk1, hk2, hk3⟩
  dsimp only at hk1 hk2 hk3
  repeat' ((first | (apply AWP.go ok; rfl) | (apply z5; kernel_rfl) | (apply And.intro; first | omega | (unfold inI; omega)) | (((with_reducible apply z3; omega)); intro _) | ((first | apply z2 | apply z8) <;> intro _) | (apply z4 (l1Eval_ok s.b hv l[k] (hl.2 _ (List.getElem_mem _))); rfl; rfl)) <;> conv => whnf)
  · rename_i hkl h
    have hp := pow_bound (show k < 3 by omega)
    have e := shl_eq k (by omega)
    refine And.intro ?_ ?_
    · show IntKind.u64.wrap k = k
      have : k = 0 ∨ k = 1 ∨ k = 2 := by dsimp only at hkl; omega
      rcases this with rfl | rfl | rfl <;> rfl
    conv => whnf
    refine And.intro ⟨by omega, by omega, by rw [e]; unfold inI; omega⟩ ?_
    conv => whnf
    refine And.intro (by rw [e]; unfold z25; omega) ?_
    conv => whnf
    repeat' ((first | (apply AWP.go ok; rfl) | (apply And.intro; (unfold inI; omega))) <;> conv => whnf)
    rw [ltr_cons _ _ _ _ hkl, if_neg h] at hk3
    refine z75 (k + 1, n ||| 2 ^ k) [0] ⟨by dsimp only; omega, or_lt hk2, hk3⟩ (by dsimp only; omega) ⟨rfl, by decide, rfl, ⟨⟨rfl, rfl⟩, ⟨rfl, rfl⟩, ⟨rfl, ?_⟩, ⟨rfl, rfl⟩, trivial⟩, ⟨z31 rfl rfl, trivial⟩⟩
    show AC.raw (.int .i64 (((n : Int).toNat ||| ((1 : Int) * 2 ^ ((k : Int).toNat)).toNat : Nat) : Int)) = _
    rw [e]; rfl
  · rename_i hkl h
    rw [ltr_cons _ _ _ _ hkl, if_pos h] at hk3
    have : 2 ^ k ≤ 2 ^ (k + 1) := by rw [Nat.pow_succ]; omega
    exact z75 (k + 1, n) [0] ⟨by dsimp only; omega, by dsimp only; omega, hk3⟩ (by dsimp only; omega) ⟨rfl, by decide, rfl, by repeat' (first | exact True.intro | exact ⟨rfl, rfl⟩ | apply And.intro), by repeat' (first | exact True.intro | exact z31 rfl rfl | apply And.intro)⟩
  · rw [ltr_end _ _ _ _ (by omega)] at hk3
    exact z56 rfl rfl (by unfold z48; rw [hk3]; rfl)

theorem label_new (g : Graph) (hg : ∀ s ∈ g.st, ValsOk s.b) (hn : g.st.length ≤ 60) (l : List Tree) (hl : LabelsOk l) : CallsA Tryz.prog 103 [.agg g.cs, lst 3 Tree.cs' l] [] (.sref 0 0 g.st.length) [.cells 1 (g.st.map fun s => enI (z48 l s))] := by
  refine z7 z28 Tryz.func103 rfl rfl 29 Tryz.ntmps103 (by simp) ?_
  repeat' ((first | (apply AWP.go ok; rfl) | (apply And.intro; (dsimp only; omega))) <;> conv => whnf)
  refine z85 (fun k : Nat => ([(1, lst 3 Tree.cs' l), (5, .sref 0 0 g.st.length), (13, lst 2 State.cs g.st), (14, .int g.st.length), (15, .int k)], [.cells 1 ((g.st.take k).map (fun s => enI (z48 l s)) ++ List.replicate (g.st.length - k) (enI 0))])) (fun k => k ≤ g.st.length) (fun k => g.st.length - k) 0 (by omega) ⟨[1], rfl, by decide, rfl, by repeat' (first | exact True.intro | exact ⟨rfl, rfl⟩ | apply And.intro), by repeat' (first | exact True.intro | exact z10 (by rfl) (by (first | exact z17 | exact z1 rfl)) | apply And.intro)⟩ ?_
  intro k hk
  repeat' ((first | (apply AWP.go ok; rfl) | (apply And.intro; first | omega | (unfold inI; omega)) | (((with_reducible apply z3; omega)); intro _) | (apply z35; omega) | ((apply z2) <;> intro _) | (apply z4 (letter_ok g.st[k] (hg _ (List.getElem_mem _)) l hl); rfl; rfl)) <;> conv => whnf)
  · rename_i h hkl
    exact z75 (k + 1) [0] (by omega) (by omega) ⟨rfl, by decide, rfl, ⟨⟨rfl, rfl⟩, ⟨rfl, rfl⟩, ⟨rfl, rfl⟩, ⟨rfl, rfl⟩, ⟨rfl, rfl⟩, trivial⟩, ⟨obj_fill hkl rfl rfl rfl (fun _ => rfl) rfl, trivial⟩⟩
  · exact ret_new rfl (z0 fun _ => rfl) rfl (fill_end _ _ _ _ (by omega))

theorem label_ok (g : Graph) (hg : ∀ s ∈ g.st, ValsOk s.b) (hn : g.st.length ≤ 60) (l : List Tree) (hl : LabelsOk l) : CallsA Tryz.prog 103 [.agg g.cs, lst 3 Tree.cs' l] [] (ints (g.st.map (z48 l))) [] := by
  have h := (label_new g hg hn l hl).keep (z126 _ _) (by simp)
  unfold ints
  rw [List.length_map, List.map_map]
  exact h

theorem l8Letters_new (g : Graph) (hg : ∀ s ∈ g.st, ValsOk s.b) (hn : g.st.length ≤ 60) (l : List Tree) (hl : LabelsOk l) : CallsA Tryz.prog 164 [.agg g.cs, lst 3 Tree.cs' l] [] (.sref 0 0 g.st.length) [.cells 1 (g.st.map fun s => enI (z48 l s))] := by
  refine z7 z28 Tryz.func164 rfl rfl 26 Tryz.ntmps164 (by simp) ?_
  repeat' (((apply AWP.go ok; rfl)) <;> conv => whnf)
  refine z85 (fun k : Nat => ([(1, lst 3 Tree.cs' l), (2, .ptr 0 none 0), (5, .sref 1 0 k), (6, .int k)], [.cells 2 [[lst 2 State.cs g.st, lst 1 encL g.nx]], .cells 1 ((g.st.take k).map fun s => enI (z48 l s))])) (fun k => k ≤ g.st.length) (fun k => g.st.length - k) 0 (by omega) ⟨[0, 1], rfl, by decide, rfl, by repeat' (first | exact True.intro | exact ⟨rfl, rfl⟩ | apply And.intro), by repeat' (first | exact True.intro | exact z31 rfl rfl | exact z10 (by rfl) (by (exact z17)) | apply And.intro)⟩ ?_
  intro k hk
  repeat' ((first | (apply AWP.go ok; rfl) | (apply And.intro; first | omega | (unfold inI; omega) | ((try dsimp only); simp only [List.length_map, List.length_take, List.length_append, List.length_replicate, List.length_cons, List.length_nil]; omega) | exact ⟨rfl, z12 rfl z20⟩) | (((with_reducible apply z3; omega)); intro _) | ((apply z2) <;> intro _) | (apply z4 (l8Letter_ok g.st[k] (hg _ (List.getElem_mem _)) l hl); rfl; rfl)) <;> conv => whnf)
  · rename_i h hkl
    exact z75 (k + 1) [0, 3] (by omega) (by omega) ⟨rfl, by decide, rfl, ⟨⟨rfl, rfl⟩, ⟨rfl, rfl⟩, ⟨rfl, rfl⟩, ⟨rfl, rfl⟩, trivial⟩, ⟨z31 rfl rfl, obj_app hkl _ rfl rfl rfl (fun _ => rfl), trivial⟩⟩
  · obtain rfl : k = g.st.length := by omega
    exact ret_new rfl (z0 fun _ => rfl) rfl (by rw [List.take_length])
theorem l8Letters_ok (g : Graph) (hg : ∀ s ∈ g.st, ValsOk s.b) (hn : g.st.length ≤ 60) (l : List Tree) (hl : LabelsOk l) : CallsA Tryz.prog 164 [.agg g.cs, lst 3 Tree.cs' l] [] (ints (g.st.map (z48 l))) [] := by
  have h := (l8Letters_new g hg hn l hl).keep (z126 _ _) (by simp)
  unfold ints
  rw [List.length_map, List.map_map]
  exact h
end Go.Proofs.YtknlmbniicacmaaGreat

namespace Go.Proofs.YtknlmbniicacmaaGreat
open Go.Gl
attribute [local irreducible] z22 AWP z46 z54 z51

theorem l1Vals_ok (l : List Int) (hl : l.length ≤ maxLen) : CallsA Tryz.prog 216 [ints l] [] (.bool (valsB l)) [] := by
  unfold maxLen at hl
  have e : valsB l = (l.all (fun n => btw n 0 3) && decide ((l.length : Int) = 3)) := by
    unfold valsB; rw [Bool.and_comm, List.all_eq_not_any_not]
  rw [e]
  refine z7 z28 Tryz.func216 rfl rfl 25 Tryz.ntmps216 (by simp) ?_
  repeat' (((apply AWP.go ok; rfl)) <;> conv => whnf)
  refine z85 (fun k : Nat => ([(0, ints l), (3, .int k)], [])) (fun k => k ≤ l.length ∧ l.all (fun n => btw n 0 3) = (l.drop k).all (fun n => btw n 0 3)) (fun k => l.length - k) 0 ⟨by omega, rfl⟩ ⟨[], rfl, by decide, rfl, by repeat' (first | exact True.intro | exact ⟨rfl, rfl⟩ | apply And.intro), by repeat' (exact True.intro)⟩ ?_
  intro k hk
  repeat' ((first | (apply AWP.go ok; rfl) | (apply And.intro; first | omega | (unfold inI; omega)) | (((with_reducible apply z3; omega)); intro _) | ((apply z2) <;> intro _)) <;> conv => whnf)
  · refine z32 rfl ?_
    have : btw l[k] 0 3 = false := btw_no.2 (by omega)
    rw [hk.2, drop_all _ _ _ (by assumption), this]; rfl
  · refine z32 rfl ?_
    have : btw l[k] 0 3 = false := btw_no.2 (by omega)
    rw [hk.2, drop_all _ _ _ (by assumption), this]; rfl
  · have : btw l[k] 0 3 = true := z38.2 (by omega)
    exact z75 (k + 1) [] ⟨by omega, by rw [hk.2, drop_all _ _ _ (by assumption), this]; rfl⟩ (by omega) ⟨rfl, by decide, rfl, by repeat' (first | exact True.intro | exact ⟨rfl, rfl⟩ | apply And.intro), by repeat' (exact True.intro)⟩
  · exact z32 rfl (by rw [hk.2, drop_all_end _ _ _ (by omega), Bool.true_and])

theorem l4In_ok (l : List Int) (hl : l.length ≤ maxLen) (v : Int) : CallsA Tryz.prog 176 [ints l, .int v] [] (.bool (decide (v ∈ l))) [] := by
  unfold maxLen at hl
  have e : decide (v ∈ l) = l.any (fun x => decide (x = v)) := by
    rw [Bool.eq_iff_iff]; simp
  rw [e]
  refine z7 z28 Tryz.func176 rfl rfl 18 Tryz.ntmps176 (by simp) ?_
  repeat' (((apply AWP.go ok; rfl)) <;> conv => whnf)
  refine z85 (fun k : Nat => ([(0, ints l), (1, .int v), (5, .int k)], [])) (fun k => k ≤ l.length ∧ l.any (fun x => decide (x = v)) = (l.drop k).any (fun x => decide (x = v))) (fun k => l.length - k) 0 ⟨by omega, rfl⟩ ⟨[], rfl, by decide, rfl, by repeat' (first | exact True.intro | exact ⟨rfl, rfl⟩ | apply And.intro), by repeat' (exact True.intro)⟩ ?_
  intro k hk
  repeat' ((first | (apply AWP.go ok; rfl) | (apply And.intro; first | omega | (unfold inI; omega)) | (((with_reducible apply z3; omega)); intro _) | ((apply z2) <;> intro _)) <;> conv => whnf)
  · rename_i h
    exact z32 rfl (by rw [hk.2, drop_any _ _ _ (by assumption), decide_eq_true h]; rfl)
  · rename_i h
    exact z75 (k + 1) [] ⟨by omega, by rw [hk.2, drop_any _ _ _ (by assumption), decide_eq_false h]; rfl⟩ (by omega) ⟨rfl, by decide, rfl, by repeat' (first | exact True.intro | exact ⟨rfl, rfl⟩ | apply And.intro), by repeat' (exact True.intro)⟩
  · exact z32 rfl (by rw [hk.2, drop_any_end _ _ _ (by omega)])

/-- numbers that differ, each below n, are at most n -/
theorem Distinct.le {l : List Int} {n : Int} (h : Distinct l n l.length) (h0 : 0 ≤ n) : (l.length : Int) ≤ n := by
  have hnd : (l.map Int.toNat).Nodup := by
    rw [List.nodup_iff_pairwise_ne, List.pairwise_map, List.pairwise_iff_getElem]
    intro i j hi hj hij he
    have h1 := h i hi hi
    have h2 := h j hj hj
    refine h2.2 ?_
    have : l[j] = l[i] := by omega
    rw [this, List.mem_take_iff_getElem]
    exact ⟨i, by omega, rfl⟩
  have hsub : (l.map Int.toNat) ⊆ List.range n.toNat := by
    intro x hx
    obtain ⟨y, hy, rfl⟩ := List.mem_map.1 hx
    obtain ⟨i, hi, rfl⟩ := List.mem_iff_getElem.1 hy
    have := (h i hi hi).1
    rw [List.mem_range]; omega
  have := hnd.length_le_of_subset hsub
  simp at this
  omega

def RowOk (g : Graph) (i : Nat) : Prop := ∀ (h : i < g.nx.length) (h' : i < g.st.length), 1 ≤ g.nx[i].length ∧ g.nx[i].length ≤ g.st.length ∧ valsB g.st[i].b = true ∧ Distinct g.nx[i] g.st.length g.nx[i].length
def GB (g : Graph) : Prop := (1 ≤ g.st.length ∧ g.st.length ≤ 60) ∧ g.nx.length = g.st.length ∧ ∀ i, i < g.nx.length → RowOk g i

theorem succB_iff {n : Int} {l : List Int} : succB n l = true ↔ 1 ≤ l.length ∧ Distinct l n l.length := by
  unfold succB
  rw [Bool.and_eq_true, decide_eq_true_eq, Bool.not_eq_true', decide_eq_false_iff_not]
  exact and_congr (by omega) Iff.rfl

theorem graphB_iff (g : Graph) : graphB g = true ↔ GB g := by
  unfold graphB GB
  simp only [Bool.and_eq_true, z38, decide_eq_true_eq, Bool.not_eq_true', List.any_eq_false]
  constructor
  · rintro ⟨h1, h2, h3, h4⟩
    refine ⟨by omega, by omega, fun i hi h h' => ?_⟩
    have h5 := succB_iff.1 (by simpa using h4 _ (List.getElem_mem h))
    have h6 := h5.2.le (by omega)
    exact ⟨h5.1, by omega, by simpa using h3 _ (List.getElem_mem h'), h5.2⟩
  · rintro ⟨h1, h2, h3⟩
    refine ⟨by omega, by omega, fun s hs => ?_, fun l hl => ?_⟩
    · obtain ⟨i, hi, rfl⟩ := List.mem_iff_getElem.1 hs
      simpa using (h3 i (by omega) (by omega) hi).2.2.1
    · obtain ⟨i, hi, rfl⟩ := List.mem_iff_getElem.1 hl
      have := h3 i hi hi (by omega)
      simpa using succB_iff.2 ⟨this.1, this.2.2.2⟩

set_option maxHeartbeats 800000 in
theorem specGraphValid_ok (g : Graph) (hg : g.mx) : CallsA Tryz.prog 162 [.agg g.cs] [] (.bool (graphB g)) [] := by
  obtain ⟨hs, hn, hm⟩ := hg
  have hl1 := hs.1
  unfold maxLen at hl1 hn
  have hiff := graphB_iff g
  refine z7 z28 Tryz.func162 rfl rfl 111 Tryz.ntmps162 (by simp) ?_
  repeat' ((first | (apply AWP.go ok; rfl) | ((first | apply z2 | apply z8) <;> intro _)) <;> conv => whnf)
  · exact z32 rfl (by rw [← Bool.not_eq_true, hiff]; rintro ⟨h1, h2, _⟩; omega)
  · exact z32 rfl (by rw [← Bool.not_eq_true, hiff]; rintro ⟨h1, h2, _⟩; omega)
  · exact z32 rfl (by rw [← Bool.not_eq_true, hiff]; rintro ⟨h1, h2, _⟩; omega)
  rename_i b1 b2 b3
  have hne : g.nx.length = g.st.length := by omega
  refine z85 (fun k : Nat => ([(1, .ptr 0 none 0), (3, .int k)], [.cells 2 [[lst 2 State.cs g.st, lst 1 encL g.nx]]])) (fun k => k ≤ g.nx.length ∧ ∀ i, i < k → RowOk g i) (fun k => g.nx.length - k) 0 ⟨by omega, fun i h => by omega⟩ ⟨[0], rfl, by decide, rfl, by repeat' (first | exact True.intro | exact ⟨rfl, rfl⟩ | apply And.intro), by repeat' (first | exact True.intro | exact z31 rfl rfl | apply And.intro)⟩ ?_
  intro k hk
  have bad : k < g.nx.length → ¬ RowOk g k → graphB g = false := fun h1 h2 => by
    rw [← Bool.not_eq_true, hiff]; rintro ⟨_, _, h3⟩; exact h2 (h3 k h1)
  repeat' ((first | (apply AWP.go ok; rfl) | (apply z5; kernel_rfl) | (apply And.intro; omega) | (((with_reducible apply z3; omega)); intro _) | ((first | apply z2 | apply z24) <;> intro _) | (apply z4 (l1Vals_ok _ (hs.2 _ (List.getElem_mem _)).2); rfl; rfl)) <;> conv => whnf)
  · refine z32 rfl (bad (by assumption) fun h => ?_)
    have := h (by assumption) (by omega); omega
  · refine z32 rfl (bad (by assumption) fun h => ?_)
    have := h (by assumption) (by omega); omega
  · rename_i hv
    refine z32 rfl (bad (by assumption) fun h => ?_)
    have := h (by assumption) (by omega)
    rw [hv] at this; simp at this
  · rename_i hv
    have hkn : k < g.nx.length := by assumption
    have hks : k < g.st.length := by omega
    refine z85 (fun j : Nat => ([(1, .ptr 0 none 0), (3, .int k), (4, .int j)], [.cells 2 [[lst 2 State.cs g.st, lst 1 encL g.nx]]])) (fun j => j ≤ g.nx[k].length ∧ Distinct g.nx[k] g.st.length j) (fun j => g.nx[k].length - j) 0 ⟨by omega, fun i h hi => by omega⟩ ⟨[0], rfl, by decide, rfl, by repeat' (first | exact True.intro | exact ⟨rfl, rfl⟩ | apply And.intro), by repeat' (first | exact True.intro | exact z31 rfl rfl | apply And.intro)⟩ ?_
    intro j hj
    repeat' ((first | (apply AWP.go ok; rfl) | (apply z5; kernel_rfl) | (apply And.intro; first | omega | (unfold inI; omega)) | (((with_reducible apply z3; omega)); intro _) | ((apply z2) <;> intro _)) <;> conv => whnf)
    · refine z32 rfl (bad hkn fun h => ?_)
      have := ((h hkn hks).2.2.2 j (by assumption) (by assumption)).1; omega
    · refine z32 rfl (bad hkn fun h => ?_)
      have := ((h hkn hks).2.2.2 j (by assumption) (by assumption)).1; omega
    · apply z4 (l4In_ok (g.nx[k].take j) (by rw [List.length_take]; unfold maxLen; omega) g.nx[k][j])
      · show _ = [AC.list 1 _ _, _]
        rw [show AC.list 1 (g.nx[k].take j).length ((g.nx[k].take j).map enI) = _ from (slice_take 1 enI g.nx[k] j hj.1).symm]
        rfl
      · rfl
      conv => whnf
      repeat' ((first | (apply AWP.go ok; rfl) | (apply z5; kernel_rfl) | (apply And.intro; (unfold inI; omega)) | ((apply z2) <;> intro _)) <;> conv => whnf)
      · rename_i h2
        exact z32 rfl (bad hkn fun h => ((h hkn hks).2.2.2 j (by assumption) (by assumption)).2 h2)
      · rename_i h2
        refine z75 (j + 1) [0] ⟨by omega, fun i hi hik => ?_⟩ (by omega) ⟨rfl, by decide, rfl, by repeat' (first | exact True.intro | exact ⟨rfl, rfl⟩ | apply And.intro), by repeat' (first | exact True.intro | exact z31 rfl rfl | apply And.intro)⟩
        rcases Nat.lt_or_ge i j with h3 | h3
        · exact hj.2 i hi h3
        · obtain rfl : i = j := by omega
          exact ⟨by omega, h2⟩
    · refine z75 (k + 1) [0] ⟨by omega, fun i hi => ?_⟩ (by omega) ⟨rfl, by decide, rfl, by repeat' (first | exact True.intro | exact ⟨rfl, rfl⟩ | apply And.intro), by repeat' (first | exact True.intro | exact z31 rfl rfl | apply And.intro)⟩
      rcases Nat.lt_or_ge i k with h3 | h3
      · exact hk.2 i h3
      · obtain rfl : i = k := by omega
        intro _ _
        obtain rfl : j = g.nx[i].length := by omega
        exact ⟨by omega, by omega, hv, hj.2⟩
  · exact z32 rfl (by rw [hiff]; exact ⟨by omega, hne, fun i hi => hk.2 i (by omega)⟩)
end Go.Proofs.YtknlmbniicacmaaGreat

