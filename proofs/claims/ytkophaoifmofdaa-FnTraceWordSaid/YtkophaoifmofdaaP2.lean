/- A part of the proofs over this program: T23, T23R, T23S. -/
import Derived.Test.YtkophaoifmofdaaG0
import Derived.Test.YtkophaoifmofdaaG1
import Derived.Test.YtkophaoifmofdaaG2
import Derived.Test.YtkophaoifmofdaaP0
import Derived.Test.YtkophaoifmofdaaP1
set_option linter.all false
namespace Go.Proofs.Ytkophaoifmofdaa
open Go.Gl
attribute [local irreducible] z83 AWP z96 z107 z99

theorem nils_le {w : Nat} : ACle .nils (.list w 0 []) := fun G h v hv => by
  simp only [V] at hv ⊢
  exact ⟨none, 0, hv, Nat.le_refl _, rfl, .inl trivial⟩

theorem sref_le {o off w : Nat} : ACle (.sref o off 0) (.list w 0 []) := fun G h v hv => by
  simp only [V] at hv ⊢
  obtain ⟨cap, _, ⟨rfl, a, rfl⟩ | ⟨b, size, w', _, _, rfl⟩⟩ := hv
  · exact ⟨_, _, rfl, Nat.le_refl _, rfl, .inl trivial⟩
  · exact ⟨_, _, rfl, Nat.zero_le _, rfl, .inl trivial⟩
theorem tup_le2 {x x' y : AC} (h : ACle x x') : ACle (.tup [x, y]) (.tup [x', y]) := fun G hh v hv => by
  simp only [V, VL] at hv ⊢
  obtain ⟨c, rfl, hc, ⟨v1, h1, h2⟩, h3, _⟩ := hv
  exact ⟨c, rfl, hc, ⟨v1, h1, h _ _ _ h2⟩, h3, trivial⟩
/-- are the graph and the labels valid? -/
noncomputable def glB (g : Graph) (l : List Tree) : Bool := z142 g && labelsB l
theorem valsOk_of {l : List Int} (h : valsB l = true) : ValsOk l := by
  unfold valsB at h
  rw [Bool.and_eq_true, decide_eq_true_eq, Bool.not_eq_true', List.any_eq_false] at h
  exact ⟨by omega, fun x hx => by simpa [z58] using h.2 x hx⟩
theorem GB.vals {g : Graph} (h : GB g) : ∀ s ∈ g.st, ValsOk s.b := fun s hs => by
  obtain ⟨i, hi, rfl⟩ := List.mem_iff_getElem.1 hs
  exact valsOk_of (h.2.2 i (by have := h.2.1; omega) (by have := h.2.1; omega) hi).2.2.1

def Lmx (l : List Tree) : Prop := l.length ≤ maxLen ∧ ∀ t ∈ l, t.mx
theorem specLabelGraph_ok (g : Graph) (hg : g.mx) (l : List Tree) (hl : Lmx l) : CallsA Try.prog 8 [.agg g.cs, lst 3 Tree.cs' l] [] (.tup [ints (if glB g l then g.st.map (z102 l) else []), .bool (glB g l)]) [] := by
  refine z62 z79 Try.func8 rfl rfl 18 Try.ntmps8 (by simp) ?_
  have k1 := specGraphValid_ok g hg
  have k2 := specLabelsValid_ok l hl.1 hl.2
  have k3 := fun (h1 : z142 g = true) (h2 : labelsB l = true) => l8Letters_ok g ((z119 g).1 h1).vals ((z119 g).1 h1).1.2 l (LabelsOk.of h2)
  repeat' (first | (apply AWP.go ok; rfl; conv => whnf) | (apply z37; kernel_rfl; conv => whnf) | (apply And.intro; (first | omega | (unfold inI; omega) | (dsimp only; omega) | (unfold z47; omega) | ((try dsimp only); simp only [List.length_map, List.length_take, List.length_append, List.length_replicate, List.length_cons, List.length_nil]; omega) | (simp only [z58] at *; first | omega | (unfold inI; omega) | (unfold z47; omega)) | exact z6 (fun _ => rfl) | exact ⟨rfl, z14 rfl z20⟩ | exact ⟨rfl, z6 (fun _ => rfl) _⟩ | exact ⟨⟨rfl, by omega⟩, z6 (fun _ => rfl) _⟩); conv => whnf) | (with_reducible apply z9; omega; intro _; conv => whnf) | (with_reducible apply z21; omega; intro _; conv => whnf) | (apply z9; omega; intro _; conv => whnf) | (apply z22; omega; conv => whnf) | (apply z32; conv => whnf) | (apply z31; omega; intro _; conv => whnf) | (apply z30 <;> intro _ <;> conv => whnf) | (apply z19 <;> intro _ <;> conv => whnf) | (apply z29 <;> intro _ <;> conv => whnf) | (apply z45 <;> intro _ <;> conv => whnf) | (apply z17 <;> intro _ <;> conv => whnf) | (apply z13 <;> intro _ <;> conv => whnf) | (apply z18 <;> intro _ <;> conv => whnf) | (apply z28 <;> intro _ <;> conv => whnf) | (apply z34 (k1); rfl; rfl; conv => whnf) | (apply z34 (k2); rfl; rfl; conv => whnf) | (apply z34 (k3 (by assumption) (by assumption)); rfl; rfl; conv => whnf))
  · rename_i h
    have e : glB g l = false := by unfold glB; rw [h]; rfl
    rw [e]
    exact ret_le rfl rfl (tup_le2 sref_le)
  · rename_i h1 h2
    have e : glB g l = false := by unfold glB; rw [h1, h2]; rfl
    rw [e]
    exact ret_le rfl rfl (tup_le2 sref_le)
  · rename_i h1 h2
    have e : glB g l = true := by unfold glB; rw [h1, h2]; rfl
    rw [e]
    exact z85 rfl rfl rfl

end Go.Proofs.Ytkophaoifmofdaa

namespace Go.Proofs.Ytkophaoifmofdaa
open Go.Gl
attribute [local irreducible] z83 AWP z96 z107 z99

theorem z33 (l : List (List Int)) : z89 (l.map ownRow) = l.map encL := by
  rw [unownLL_eq, List.map_map]
  refine List.map_congr_left fun r _ => ?_
  show [AC.list 1 _ (z89 _)] = _
  rw [enc_unown1]
  simp [encL, ints, enI]
end Go.Proofs.Ytkophaoifmofdaa

namespace Go.Proofs.Ytkophaoifmofdaa
open Go.Gl
attribute [local irreducible] z83 AWP z96 z107 z99

theorem enB_unown1 (l : List Bool) : z89 (l.map enB) = l.map enB := enc_unown1 (fun b => Value.bool b) l
theorem bor_boolsN {objs : Nat → AObj} {π Bn : List Nat} {o n : Nat} {l : List Bool} (ho : objs o = .cells 1 (l.map enB)) (h1 : idx π o = none) (h2 : inB Bn o = true) (hl : l.length = n) : bor objs π Bn (.sref o 0 n) = lst 1 enB l := by
  subst hl; exact bor_list ho h1 h2 (by simp) (enB_unown1 _)
theorem bor_bools {objs : Nat → AObj} {π Bn : List Nat} {o : Nat} {l : List Bool} (ho : objs o = .cells 1 (l.map enB)) (h1 : idx π o = none) (h2 : inB Bn o = true) : bor objs π Bn (.sref o 0 l.length) = lst 1 enB l :=
  bor_boolsN ho h1 h2 rfl
end Go.Proofs.Ytkophaoifmofdaa

