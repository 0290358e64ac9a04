/- A part of the proofs over this program: T23, T23R, T23S. -/
import Derived.Test.YtkophaoifmofdaaGreatG0
import Derived.Test.YtkophaoifmofdaaGreatG1
import Derived.Test.YtkophaoifmofdaaGreatG2
import Derived.Test.YtkophaoifmofdaaGreatP0
import Derived.Test.YtkophaoifmofdaaGreatP1
set_option linter.all false
namespace Go.Proofs.YtkophaoifmofdaaGreat
open Go.Gl
attribute [local irreducible] z84 AWP z97 z107 z101
theorem z528 {o off w : Nat} : ACle (.sref o off 0) (.list w 0 []) := fun G h v hv => by
  simp only [V] at hv ⊢
  obtain ⟨cap, _, ⟨rfl, a, rfl⟩ | ⟨b, size, w', _, _, rfl⟩⟩ := hv
  · exact ⟨_, _, rfl, Nat.le_refl _, rfl, .inl trivial⟩
  · exact ⟨_, _, rfl, Nat.zero_le _, rfl, .inl trivial⟩
theorem z525 {x x' y : AC} (h : ACle x x') : ACle (.tup [x, y]) (.tup [x', y]) := fun G hh v hv => by
  simp only [V, VL] at hv ⊢
  obtain ⟨c, rfl, hc, ⟨v1, h1, h2⟩, h3, _⟩ := hv
  exact ⟨c, rfl, hc, ⟨v1, h1, h _ _ _ h2⟩, h3, trivial⟩
noncomputable def glB (g : Graph) (l : List Tree) : Bool := z229 g && z181 l
theorem z452 {l : List Int} (h : z259 l = true) : ValsOk l := by
  unfold z259 at h
  rw [Bool.and_eq_true, decide_eq_true_eq, Bool.not_eq_true', List.any_eq_false] at h
  exact ⟨by omega, fun x hx => by simpa [z47] using h.2 x hx⟩
theorem GB.vals {g : Graph} (h : GB g) : ∀ s ∈ g.st, ValsOk s.b := fun s hs => by
  obtain ⟨i, hi, rfl⟩ := List.mem_iff_getElem.1 hs
  exact z452 (h.2.2 i (by have := h.2.1; omega) (by have := h.2.1; omega) hi).2.2.1
def Lmx (l : List Tree) : Prop := l.length ≤ maxLen ∧ ∀ t ∈ l, t.mx
theorem z285 (g : Graph) (hg : g.mx) (l : List Tree) (hl : Lmx l) : CallsA Tryz.prog 44 [.agg g.cs, lst 3 Tree.cs' l] [] (.tup [ints (if glB g l then g.st.map (z116 l) else []), .bool (glB g l)]) [] := by
  refine z58 z81 Tryz.func44 rfl rfl 18 Tryz.ntmps44 (by simp) ?_
  have k1 := z286 g hg
  have k2 := z267 l hl.1 hl.2
  have k3 := fun (h1 : z229 g = true) (h2 : z181 l = true) => z481 g ((z140 g).1 h1).vals ((z140 g).1 h1).1.2 l (LabelsOk.of h2)
  repeat' (first | (apply AWP.go ok; rfl; conv => whnf) | (apply z34; kernel_rfl; conv => whnf) | (apply And.intro; (first | omega | (unfold inI; omega) | (dsimp only; omega) | (unfold z29; omega) | ((try dsimp only); simp only [List.length_map, List.length_take, List.length_append, List.length_replicate, List.length_cons, List.length_nil]; omega) | (simp only [z47] at *; first | omega | (unfold inI; omega) | (unfold z29; omega)) | exact z6 (fun _ => rfl) | exact ⟨rfl, z12 rfl z18⟩ | exact ⟨rfl, z6 (fun _ => rfl) _⟩ | exact ⟨⟨rfl, by omega⟩, z6 (fun _ => rfl) _⟩); conv => whnf) | (with_reducible apply z8; omega; intro _; conv => whnf) | (with_reducible apply z19; omega; intro _; conv => whnf) | (apply z8; omega; intro _; conv => whnf) | (apply z20; omega; conv => whnf) | (apply z27; conv => whnf) | (apply z26; omega; intro _; conv => whnf) | (apply z25 <;> intro _ <;> conv => whnf) | (apply z17 <;> intro _ <;> conv => whnf) | (apply z24 <;> intro _ <;> conv => whnf) | (apply z35 <;> intro _ <;> conv => whnf) | (apply z15 <;> intro _ <;> conv => whnf) | (apply z10 <;> intro _ <;> conv => whnf) | (apply z16 <;> intro _ <;> conv => whnf) | (apply z23 <;> intro _ <;> conv => whnf) | (apply z48 (k1); rfl; rfl; conv => whnf) | (apply z48 (k2); rfl; rfl; conv => whnf) | (apply z48 (k3 (by assumption) (by assumption)); rfl; rfl; conv => whnf))
  · rename_i h
    have e : glB g l = false := by unfold glB; rw [h]; rfl
    rw [e]
    exact z677 rfl rfl (z525 z528)
  · rename_i h1 h2
    have e : glB g l = false := by unfold glB; rw [h1, h2]; rfl
    rw [e]
    exact z677 rfl rfl (z525 z528)
  · rename_i h1 h2
    have e : glB g l = true := by unfold glB; rw [h1, h2]; rfl
    rw [e]
    exact z86 rfl rfl rfl
end Go.Proofs.YtkophaoifmofdaaGreat

namespace Go.Proofs.YtkophaoifmofdaaGreat
open Go.Gl
attribute [local irreducible] z84 AWP z97 z107 z101
theorem z36 (l : List (List Int)) : z92 (l.map z168) = l.map encL := by
  rw [z185, List.map_map]
  refine List.map_congr_left fun r _ => ?_
  show [AC.list 1 _ (z92 _)] = _
  rw [z198]
  simp [encL, ints, enI]
end Go.Proofs.YtkophaoifmofdaaGreat

namespace Go.Proofs.YtkophaoifmofdaaGreat
open Go.Gl
attribute [local irreducible] z84 AWP z97 z107 z101
theorem z403 (l : List Bool) : z92 (l.map enB) = l.map enB := z198 (fun b => Value.bool b) l
theorem z201 {objs : Nat → AObj} {π Bn : List Nat} {o n : Nat} {l : List Bool} (ho : objs o = .cells 1 (l.map enB)) (h1 : idx π o = none) (h2 : inB Bn o = true) (hl : l.length = n) : bor objs π Bn (.sref o 0 n) = lst 1 enB l := by
  subst hl; exact z440 ho h1 h2 (by simp) (z403 _)
theorem z234 {objs : Nat → AObj} {π Bn : List Nat} {o : Nat} {l : List Bool} (ho : objs o = .cells 1 (l.map enB)) (h1 : idx π o = none) (h2 : inB Bn o = true) : bor objs π Bn (.sref o 0 l.length) = lst 1 enB l :=
  z201 ho h1 h2 rfl
theorem tup_sref {x x' y : AC} (h : ACle x x') : ACle (.tup [x, y]) (.tup [x', y]) := fun G hh v hv => by
  simp only [V, VL] at hv ⊢
  obtain ⟨c, rfl, hs, ⟨u, h1, h2⟩, h3, _⟩ := hv
  exact ⟨c, rfl, hs, ⟨u, h1, h _ _ _ h2⟩, h3, trivial⟩
end Go.Proofs.YtkophaoifmofdaaGreat

