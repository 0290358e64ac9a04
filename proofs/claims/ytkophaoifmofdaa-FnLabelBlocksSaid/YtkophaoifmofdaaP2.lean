/- A part of the proofs over this program: T23, T23R, T23S. -/
import Derived.Test.YtkophaoifmofdaaG0
import Derived.Test.YtkophaoifmofdaaG1
import Derived.Test.YtkophaoifmofdaaG2
import Derived.Test.YtkophaoifmofdaaP0
import Derived.Test.YtkophaoifmofdaaP1
set_option linter.all false
namespace Go.Proofs.Ytkophaoifmofdaa
open Go.Gl
attribute [local irreducible] vcCall AWP RetOk Again ordOk

/-- an empty slice that is data, is a slice of no elements, nil or not -/
theorem calls_empty {P : Program} {f : FuncId} {w : Nat} {res : AC} {objs' : List AObj} (hf : IsFunc P f) (h : ∀ a cap, CallsA P f [.raw (.slice a 0 cap)] [] res objs') : CallsA P f [.list w 0 []] [] res objs' := by
  refine ⟨hf, fun G W vs hW hs hv => ?_⟩
  simp only [VL] at hv
  obtain ⟨⟨v, hv1, hv2⟩, _⟩ := hv
  simp only [V] at hv2
  obtain ⟨a, cap, rfl, _⟩ := hv2
  exact (h a cap).2 G W vs hW hs (by simp only [VL]; exact ⟨⟨_, hv1, by simp [V]⟩, trivial⟩)

theorem nils_le {w : Nat} : ACle .nils (.list w 0 []) := fun G h v hv => by
  simp only [V] at hv ⊢
  exact ⟨none, 0, hv, Nat.le_refl _, rfl, .inl trivial⟩

theorem sref_le {o off w : Nat} : ACle (.sref o off 0) (.list w 0 []) := fun G h v hv => by
  simp only [V] at hv ⊢
  obtain ⟨cap, _, ⟨rfl, a, rfl⟩ | ⟨b, size, w', _, _, rfl⟩⟩ := hv
  · exact ⟨_, _, rfl, Nat.le_refl _, rfl, .inl trivial⟩
  · exact ⟨_, _, rfl, Nat.zero_le _, rfl, .inl trivial⟩
theorem isFunc_of {P : Program} {f : FuncId} {fn : Func} {c : Code} (hf : P.funcs[f]? = some fn) (hb : fn.body = some c) (hn : (fn.name == "runtime.NumGoroutine") = false) : IsFunc P f := ⟨fn, c, hf, hn, hb⟩

theorem tup_le2 {x x' y : AC} (h : ACle x x') : ACle (.tup [x, y]) (.tup [x', y]) := fun G hh v hv => by
  simp only [V, VL] at hv ⊢
  obtain ⟨c, rfl, hc, ⟨v1, h1, h2⟩, h3, _⟩ := hv
  exact ⟨c, rfl, hc, ⟨v1, h1, h _ _ _ h2⟩, h3, trivial⟩
/-- are the graph and the labels valid? -/
noncomputable def glB (g : Graph) (l : List Tree) : Bool := graphB g && labelsB l
theorem valsOk_of {l : List Int} (h : valsB l = true) : ValsOk l := by
  unfold valsB at h
  rw [Bool.and_eq_true, decide_eq_true_eq, Bool.not_eq_true', List.any_eq_false] at h
  exact ⟨by omega, fun x hx => by simpa [btw_iff] using h.2 x hx⟩
theorem GB.vals {g : Graph} (h : GB g) : ∀ s ∈ g.st, ValsOk s.b := fun s hs => by
  obtain ⟨i, hi, rfl⟩ := List.mem_iff_getElem.1 hs
  exact valsOk_of (h.2.2 i (by have := h.2.1; omega) (by have := h.2.1; omega) hi).2.2.1

def Lmx (l : List Tree) : Prop := l.length ≤ maxLen ∧ ∀ t ∈ l, t.mx
theorem specLabelGraph_ok (g : Graph) (hg : g.mx) (l : List Tree) (hl : Lmx l) : CallsA Try.prog 8 [.agg g.cs, lst 3 Tree.cs' l] [] (.tup [ints (if glB g l then g.st.map (letterZ l) else []), .bool (glB g l)]) [] := by
  refine callsA_of tabOk Try.func8 rfl rfl 18 Try.ntmps8 (by simp) ?_
  have k1 := specGraphValid_ok g hg
  have k2 := specLabelsValid_ok l hl.1 hl.2
  have k3 := fun (h1 : graphB g = true) (h2 : labelsB l = true) => l8Letters_ok g ((graphB_iff g).1 h1).vals ((graphB_iff g).1 h1).1.2 l (LabelsOk.of h2)
  repeat' (first | (apply AWP.go ok; rfl; conv => whnf) | (apply ord_mk; kernel_rfl; conv => whnf) | (apply And.intro; (first | omega | (unfold inI; omega) | (dsimp only; omega) | (unfold bitsOk; omega) | ((try dsimp only); simp only [List.length_map, List.length_take, List.length_append, List.length_replicate, List.length_cons, List.length_nil]; omega) | (simp only [btw_iff] at *; first | omega | (unfold inI; omega) | (unfold bitsOk; omega)) | exact stor_map (fun _ => rfl) | exact ⟨rfl, stor_cons rfl stor_nil⟩ | exact ⟨rfl, stor_map (fun _ => rfl) _⟩ | exact ⟨⟨rfl, by omega⟩, stor_map (fun _ => rfl) _⟩); conv => whnf) | (with_reducible apply get_mapN; omega; intro _; conv => whnf) | (with_reducible apply get_mapI; omega; intro _; conv => whnf) | (apply get_mapN; omega; intro _; conv => whnf) | (apply get_fill; omega; conv => whnf) | (apply ex_some; conv => whnf) | (apply get_map; omega; intro _; conv => whnf) | (apply vcG_dec <;> intro _ <;> conv => whnf) | (apply vcG_ndec <;> intro _ <;> conv => whnf) | (apply vcG_not <;> intro _ <;> conv => whnf) | (apply vcG_mk <;> intro _ <;> conv => whnf) | (apply vcIf_dec <;> intro _ <;> conv => whnf) | (apply vcIf_ndec <;> intro _ <;> conv => whnf) | (apply vcIf_not <;> intro _ <;> conv => whnf) | (apply vcIf_mk <;> intro _ <;> conv => whnf) | (apply call_data (k1); rfl; rfl; conv => whnf) | (apply call_data (k2); rfl; rfl; conv => whnf) | (apply call_data (k3 (by assumption) (by assumption)); rfl; rfl; conv => whnf))
  · rename_i h
    have e : glB g l = false := by unfold glB; rw [h]; rfl
    rw [e]
    exact ret_le rfl rfl (tup_le2 sref_le)
  · rename_i h1 h2
    have e : glB g l = false := by unfold glB; rw [h1, h2]; rfl
    rw [e]
    exact ret_le rfl rfl (tup_le2 sref_le)
  · rename_i h1 h2
    have e : glB g l = true := by unfold glB; rw [h1, h2]; rfl
    rw [e]
    exact ret_data rfl rfl rfl

end Go.Proofs.Ytkophaoifmofdaa

namespace Go.Proofs.Ytkophaoifmofdaa
open Go.Gl
attribute [local irreducible] vcCall AWP RetOk Again ordOk

theorem rows_unown (l : List (List Int)) : unownLL (l.map ownRow) = l.map encL := by
  rw [unownLL_eq, List.map_map]
  refine List.map_congr_left fun r _ => ?_
  show [AC.list 1 _ (unownLL _)] = _
  rw [enc_unown1]
  simp [encL, ints, enI]
theorem bud_pos {n : Int} {s : Nat} (h : ¬ bud n s < 0) : bud n s = n - s ∧ (s : Int) ≤ n := by
  unfold bud at h ⊢
  split at h
  · omega
  · rename_i h2; rw [if_neg h2]; omega

end Go.Proofs.Ytkophaoifmofdaa

namespace Go.Proofs.Ytkophaoifmofdaa
open Go.Gl
attribute [local irreducible] vcCall AWP RetOk Again ordOk

theorem enB_unown1 (l : List Bool) : unownLL (l.map enB) = l.map enB := enc_unown1 (fun b => Value.bool b) l
theorem bor_boolsN {objs : Nat → AObj} {π Bn : List Nat} {o n : Nat} {l : List Bool} (ho : objs o = .cells 1 (l.map enB)) (h1 : idx π o = none) (h2 : inB Bn o = true) (hl : l.length = n) : bor objs π Bn (.sref o 0 n) = lst 1 enB l := by
  subst hl; exact bor_list ho h1 h2 (by simp) (enB_unown1 _)
theorem bor_bools {objs : Nat → AObj} {π Bn : List Nat} {o : Nat} {l : List Bool} (ho : objs o = .cells 1 (l.map enB)) (h1 : idx π o = none) (h2 : inB Bn o = true) : bor objs π Bn (.sref o 0 l.length) = lst 1 enB l :=
  bor_boolsN ho h1 h2 rfl
theorem tup_sref {x x' y : AC} (h : ACle x x') : ACle (.tup [x, y]) (.tup [x', y]) := fun G hh v hv => by
  simp only [V, VL] at hv ⊢
  obtain ⟨c, rfl, hs, ⟨u, h1, h2⟩, h3, _⟩ := hv
  exact ⟨c, rfl, hs, ⟨u, h1, h _ _ _ h2⟩, h3, trivial⟩

theorem keepB {f : FuncId} {args : List AC} {n : Nat} {l : List Bool} {y : AC} (h : CallsA Try.prog f args [] (.tup [.sref 0 0 n, y]) [.cells 1 (l.map enB)]) (hl : l.length = n) (hy : bor (objsFn [.cells 1 (l.map enB)]) [] [0] y = y) : CallsA Try.prog f args [] (.tup [lst 1 enB l, y]) [] := by
  subst hl
  have := h.keepT (enB_unown1 l) (by simp) hy
  exact this
end Go.Proofs.Ytkophaoifmofdaa

