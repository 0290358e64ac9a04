/- A part of the proofs over this program: T23, T23R, T23S. -/
import Derived.Test.YtppafngcahgagaaGreatG0
import Derived.Test.YtppafngcahgagaaGreatG1
import Derived.Test.YtppafngcahgagaaGreatG2
import Derived.Test.YtppafngcahgagaaGreatP0
import Derived.Test.YtppafngcahgagaaGreatP1
set_option linter.all false
namespace Go.Proofs.YtppafngcahgagaaGreat
open Go.Gl
attribute [local irreducible] z85 AWP z100 z108 z104
theorem z571 {P : Program} {f : FuncId} {w : Nat} {res : AC} {objs' : List AObj} (hf : z606 P f) (h : ∀ a cap, CallsA P f [.raw (.slice a 0 cap)] [] res objs') : CallsA P f [.list w 0 []] [] res objs' := by
  refine ⟨hf, fun G W vs hW hs hv => ?_⟩
  simp only [VL] at hv
  obtain ⟨⟨v, hv1, hv2⟩, _⟩ := hv
  simp only [V] at hv2
  obtain ⟨a, cap, rfl, _⟩ := hv2
  exact (h a cap).2 G W vs hW hs (by simp only [VL];exact ⟨⟨_, hv1, by simp [V]⟩, trivial⟩)
theorem nils_le {w : Nat} : ACle .nils (.list w 0 []) := fun G h v hv => by
  simp only [V] at hv ⊢
  exact ⟨none, 0, hv, Nat.le_refl _, rfl, .inl trivial⟩
theorem z421 {o off w : Nat} : ACle (.sref o off 0) (.list w 0 []) := fun G h v hv => by
  simp only [V] at hv ⊢
  obtain ⟨cap, _, ⟨rfl, a, rfl⟩|⟨b, size, w', _, _, rfl⟩⟩ := hv
  · exact ⟨_, _, rfl, Nat.le_refl _, rfl, .inl trivial⟩
  · exact ⟨_, _, rfl, Nat.zero_le _, rfl, .inl trivial⟩
theorem z698 {P : Program} {f : FuncId} {fn : Func} {c : Code} (hf : P.funcs[f]? = some fn) (hb : fn.body = some c) (hn : (fn.name == "runtime.NumGoroutine") = false) : z606 P f := ⟨fn, c, hf, hn, hb⟩
theorem z643 (l : List Int) (hl : l.length ≤ 1048576) (hp : 0 < l.length) : CallsA Tryz.prog 149 [ints l] [] (.sref 0 0 l.length) [.cells 1 (l.map enI)] := by
  refine z58 z82 Tryz.func149 rfl rfl 8 Tryz.ntmps149 (by simp) ?_
  repeat' (first|(apply AWP.go ok;rfl;conv => whnf)|(apply z35;kernel_rfl;conv => whnf)|(apply And.intro;(first|omega|(unfold inI;omega)|(dsimp only;omega)|(unfold z30;omega)|((try dsimp only);simp only [List.length_map, List.length_take, List.length_append, List.length_replicate, List.length_cons, List.length_nil];omega)|(simp only [z49] at *;first|omega|(unfold inI;omega)|(unfold z30;omega))|exact z6 (fun _ => rfl)|exact ⟨rfl, z13 rfl z19⟩|exact ⟨rfl, z6 (fun _ => rfl) _⟩|exact ⟨⟨rfl, by omega⟩, z6 (fun _ => rfl) _⟩);conv => whnf)|(with_reducible apply z9;omega;intro _;conv => whnf)|(with_reducible apply z20;omega;intro _;conv => whnf)|(apply z9;omega;intro _;conv => whnf)|(apply z21;omega;conv => whnf)|(apply z28;conv => whnf)|(apply z27;omega;intro _;conv => whnf)|(apply z26 <;> intro _ <;> conv => whnf)|(apply z18 <;> intro _ <;> conv => whnf)|(apply z25 <;> intro _ <;> conv => whnf)|(apply z36 <;> intro _ <;> conv => whnf)|(apply z16 <;> intro _ <;> conv => whnf)|(apply z11 <;> intro _ <;> conv => whnf)|(apply z17 <;> intro _ <;> conv => whnf)|(apply z24 <;> intro _ <;> conv => whnf))
  exact z128 rfl (z4 fun _ => rfl) (Nat.zero_add _) rfl rfl
theorem z568 (l : List Int) (hl : l.length ≤ 1048576) : CallsA Tryz.prog 149 [ints l] [] (ints l) [] := by
  by_cases hp : 0 < l.length
  · have h := (z643 l hl hp).keep (z170 _ _) (by simp)
    exact h
  · obtain rfl : l = [] := List.eq_nil_of_length_eq_zero (by omega)
    refine z571 (z698 Tryz.func149 rfl (by rfl)) fun ad cap => ?_
    refine z58 z82 Tryz.func149 rfl rfl 8 Tryz.ntmps149 (by simp) ?_
    repeat' (first|(apply AWP.go ok;rfl;conv => whnf)|(apply z35;kernel_rfl;conv => whnf)|(apply And.intro;(first|omega|(unfold inI;omega)|(dsimp only;omega)|(unfold z30;omega)|((try dsimp only);simp only [List.length_map, List.length_take, List.length_append, List.length_replicate, List.length_cons, List.length_nil];omega)|(simp only [z49] at *;first|omega|(unfold inI;omega)|(unfold z30;omega))|exact z6 (fun _ => rfl)|exact ⟨rfl, z13 rfl z19⟩|exact ⟨rfl, z6 (fun _ => rfl) _⟩|exact ⟨⟨rfl, by omega⟩, z6 (fun _ => rfl) _⟩);conv => whnf)|(with_reducible apply z9;omega;intro _;conv => whnf)|(with_reducible apply z20;omega;intro _;conv => whnf)|(apply z9;omega;intro _;conv => whnf)|(apply z21;omega;conv => whnf)|(apply z28;conv => whnf)|(apply z27;omega;intro _;conv => whnf)|(apply z26 <;> intro _ <;> conv => whnf)|(apply z18 <;> intro _ <;> conv => whnf)|(apply z25 <;> intro _ <;> conv => whnf)|(apply z36 <;> intro _ <;> conv => whnf)|(apply z16 <;> intro _ <;> conv => whnf)|(apply z11 <;> intro _ <;> conv => whnf)|(apply z17 <;> intro _ <;> conv => whnf)|(apply z24 <;> intro _ <;> conv => whnf))
    · exact z477 rfl rfl nils_le
    · exact z477 rfl rfl z421
theorem z644 (l : List Int) (hl : l.length ≤ 1048576) : CallsA Tryz.prog 86 [ints l] [] (ints l) [] := by
  refine z58 z82 Tryz.func86 rfl rfl 9 Tryz.ntmps86 (by simp) ?_
  repeat' (first|(apply AWP.go ok;rfl;conv => whnf)|(apply z35;kernel_rfl;conv => whnf)|(apply And.intro;(first|omega|(unfold inI;omega)|(dsimp only;omega)|(unfold z30;omega)|((try dsimp only);simp only [List.length_map, List.length_take, List.length_append, List.length_replicate, List.length_cons, List.length_nil];omega)|(simp only [z49] at *;first|omega|(unfold inI;omega)|(unfold z30;omega))|exact z6 (fun _ => rfl)|exact ⟨rfl, z13 rfl z19⟩|exact ⟨rfl, z6 (fun _ => rfl) _⟩|exact ⟨⟨rfl, by omega⟩, z6 (fun _ => rfl) _⟩);conv => whnf)|(with_reducible apply z9;omega;intro _;conv => whnf)|(with_reducible apply z20;omega;intro _;conv => whnf)|(apply z9;omega;intro _;conv => whnf)|(apply z21;omega;conv => whnf)|(apply z28;conv => whnf)|(apply z27;omega;intro _;conv => whnf)|(apply z26 <;> intro _ <;> conv => whnf)|(apply z18 <;> intro _ <;> conv => whnf)|(apply z25 <;> intro _ <;> conv => whnf)|(apply z36 <;> intro _ <;> conv => whnf)|(apply z16 <;> intro _ <;> conv => whnf)|(apply z11 <;> intro _ <;> conv => whnf)|(apply z17 <;> intro _ <;> conv => whnf)|(apply z24 <;> intro _ <;> conv => whnf))
  refine z87 rfl rfl ?_
  show AC.list 1 _ _ = ints l
  rw [show AC.list 1 ((l.length : Int).toNat - (0 : Int).toNat) (((l.map enI).drop (0 : Int).toNat).take ((l.length : Int).toNat - (0 : Int).toNat)) = _ from z241 1 enI l l.length (Nat.le_refl _), List.take_length]
  rfl
theorem z309 (l : List Int) (hl : l.length ≤ 1048576) : CallsA Tryz.prog 67 [ints l] [] (ints l) [] := by
  refine z58 z82 Tryz.func67 rfl rfl 6 Tryz.ntmps67 (by simp) ?_
  repeat' (first|(apply AWP.go ok;rfl;conv => whnf)|(apply z35;kernel_rfl;conv => whnf)|(apply And.intro;(first|omega|(unfold inI;omega)|(dsimp only;omega)|(unfold z30;omega)|((try dsimp only);simp only [List.length_map, List.length_take, List.length_append, List.length_replicate, List.length_cons, List.length_nil];omega)|(simp only [z49] at *;first|omega|(unfold inI;omega)|(unfold z30;omega))|exact z6 (fun _ => rfl)|exact ⟨rfl, z13 rfl z19⟩|exact ⟨rfl, z6 (fun _ => rfl) _⟩|exact ⟨⟨rfl, by omega⟩, z6 (fun _ => rfl) _⟩);conv => whnf)|(with_reducible apply z9;omega;intro _;conv => whnf)|(with_reducible apply z20;omega;intro _;conv => whnf)|(apply z9;omega;intro _;conv => whnf)|(apply z21;omega;conv => whnf)|(apply z28;conv => whnf)|(apply z27;omega;intro _;conv => whnf)|(apply z26 <;> intro _ <;> conv => whnf)|(apply z18 <;> intro _ <;> conv => whnf)|(apply z25 <;> intro _ <;> conv => whnf)|(apply z36 <;> intro _ <;> conv => whnf)|(apply z16 <;> intro _ <;> conv => whnf)|(apply z11 <;> intro _ <;> conv => whnf)|(apply z17 <;> intro _ <;> conv => whnf)|(apply z24 <;> intro _ <;> conv => whnf)|(apply z48 (z568 l hl);rfl;rfl;conv => whnf)|(apply z48 (z644 l hl);rfl;rfl;conv => whnf))
  exact z87 rfl rfl rfl
theorem z529 {x x' y : AC} (h : ACle x x') : ACle (.tup [x, y]) (.tup [x', y]) := fun G hh v hv => by
  simp only [V, VL] at hv ⊢
  obtain ⟨c, rfl, hc, ⟨v1, h1, h2⟩, h3, _⟩ := hv
  exact ⟨c, rfl, hc, ⟨v1, h1, h _ _ _ h2⟩, h3, trivial⟩
noncomputable def glB (g : Graph) (l : List Tree) : Bool := z232 g && z186 l
theorem z457 {l : List Int} (h : z262 l = true) : ValsOk l := by
  unfold z262 at h
  rw [Bool.and_eq_true, decide_eq_true_eq, Bool.not_eq_true', List.any_eq_false] at h
  exact ⟨by omega, fun x hx => by simpa [z49] using h.2 x hx⟩
theorem GB.vals {g : Graph} (h : GB g) : ∀ s ∈ g.st, ValsOk s.b := fun s hs => by
  obtain ⟨i, hi, rfl⟩ := List.mem_iff_getElem.1 hs
  exact z457 (h.2.2 i (by have := h.2.1;omega) (by have := h.2.1;omega) hi).2.2.1
def Lmx (l : List Tree) : Prop := l.length ≤ maxLen ∧ ∀ t ∈ l, t.mx
theorem z290 (g : Graph) (hg : g.mx) (l : List Tree) (hl : Lmx l) : CallsA Tryz.prog 59 [.agg g.cs, lst 3 Tree.cs' l] [] (.tup [ints (if glB g l then g.st.map (z117 l) else []), .bool (glB g l)]) [] := by
  refine z58 z82 Tryz.func59 rfl rfl 18 Tryz.ntmps59 (by simp) ?_
  have k1 := z291 g hg
  have k2 := z271 l hl.1 hl.2
  have k3 := fun (h1 : z232 g = true) (h2 : z186 l = true) => z486 g ((z129 g).1 h1).vals ((z129 g).1 h1).1.2 l (LabelsOk.of h2)
  repeat' (first|(apply AWP.go ok;rfl;conv => whnf)|(apply z35;kernel_rfl;conv => whnf)|(apply And.intro;(first|omega|(unfold inI;omega)|(dsimp only;omega)|(unfold z30;omega)|((try dsimp only);simp only [List.length_map, List.length_take, List.length_append, List.length_replicate, List.length_cons, List.length_nil];omega)|(simp only [z49] at *;first|omega|(unfold inI;omega)|(unfold z30;omega))|exact z6 (fun _ => rfl)|exact ⟨rfl, z13 rfl z19⟩|exact ⟨rfl, z6 (fun _ => rfl) _⟩|exact ⟨⟨rfl, by omega⟩, z6 (fun _ => rfl) _⟩);conv => whnf)|(with_reducible apply z9;omega;intro _;conv => whnf)|(with_reducible apply z20;omega;intro _;conv => whnf)|(apply z9;omega;intro _;conv => whnf)|(apply z21;omega;conv => whnf)|(apply z28;conv => whnf)|(apply z27;omega;intro _;conv => whnf)|(apply z26 <;> intro _ <;> conv => whnf)|(apply z18 <;> intro _ <;> conv => whnf)|(apply z25 <;> intro _ <;> conv => whnf)|(apply z36 <;> intro _ <;> conv => whnf)|(apply z16 <;> intro _ <;> conv => whnf)|(apply z11 <;> intro _ <;> conv => whnf)|(apply z17 <;> intro _ <;> conv => whnf)|(apply z24 <;> intro _ <;> conv => whnf)|(apply z48 (k1);rfl;rfl;conv => whnf)|(apply z48 (k2);rfl;rfl;conv => whnf)|(apply z48 (k3 (by assumption) (by assumption));rfl;rfl;conv => whnf))
  · rename_i h
    have e : glB g l = false := by unfold glB;rw [h];rfl
    rw [e]
    exact z477 rfl rfl (z529 z421)
  · rename_i h1 h2
    have e : glB g l = false := by unfold glB;rw [h1, h2];rfl
    rw [e]
    exact z477 rfl rfl (z529 z421)
  · rename_i h1 h2
    have e : glB g l = true := by unfold glB;rw [h1, h2];rfl
    rw [e]
    exact z87 rfl rfl rfl
end Go.Proofs.YtppafngcahgagaaGreat

namespace Go.Proofs.YtppafngcahgagaaGreat
open Go.Gl
attribute [local irreducible] z85 AWP z100 z108 z104
theorem z37 (l : List (List Int)) : z95 (l.map z174) = l.map encL := by
  rw [z190, List.map_map]
  refine List.map_congr_left fun r _ => ?_
  show [AC.list 1 _ (z95 _)] = _
  rw [z170]
  simp [encL, ints, enI]
end Go.Proofs.YtppafngcahgagaaGreat

namespace Go.Proofs.YtppafngcahgagaaGreat
open Go.Gl
attribute [local irreducible] z85 AWP z100 z108 z104
theorem z410 (l : List Bool) : z95 (l.map enB) = l.map enB := z170 (fun b => Value.bool b) l
theorem z206 {objs : Nat → AObj} {π Bn : List Nat} {o n : Nat} {l : List Bool} (ho : objs o = .cells 1 (l.map enB)) (h1 : idx π o = none) (h2 : inB Bn o = true) (hl : l.length = n) : bor objs π Bn (.sref o 0 n) = lst 1 enB l := by
  subst hl;exact z445 ho h1 h2 (by simp) (z410 _)
theorem z157 {objs : Nat → AObj} {π Bn : List Nat} {o : Nat} {l : List Bool} (ho : objs o = .cells 1 (l.map enB)) (h1 : idx π o = none) (h2 : inB Bn o = true) : bor objs π Bn (.sref o 0 l.length) = lst 1 enB l :=
  z206 ho h1 h2 rfl
theorem tup_sref {x x' y : AC} (h : ACle x x') : ACle (.tup [x, y]) (.tup [x', y]) := fun G hh v hv => by
  simp only [V, VL] at hv ⊢
  obtain ⟨c, rfl, hs, ⟨u, h1, h2⟩, h3, _⟩ := hv
  exact ⟨c, rfl, hs, ⟨u, h1, h _ _ _ h2⟩, h3, trivial⟩
end Go.Proofs.YtppafngcahgagaaGreat

