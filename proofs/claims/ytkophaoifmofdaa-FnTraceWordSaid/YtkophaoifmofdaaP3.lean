/- A part of the proofs over this program: T35A, T33I, T31, T32, T33, T33P, T29. -/
import Derived.Test.YtkophaoifmofdaaG0
import Derived.Test.YtkophaoifmofdaaG1
import Derived.Test.YtkophaoifmofdaaG2
import Derived.Test.YtkophaoifmofdaaP0
import Derived.Test.YtkophaoifmofdaaP1
import Derived.Test.YtkophaoifmofdaaP2
import Derived.Test.YtkophaoifmofdaaRows
import Derived.WalkKit
import Derived.ProofKit
import Derived.Deep.DeepHandedRow
import Derived.Lib.LaidTab
set_option linter.all false
namespace Go.Proofs.Ytkophaoifmofdaa
open Go.Gl
attribute [local irreducible] z83 AWP z96 z107 z99

/-- an input within the law's bounds -/
structure Graph.ok (g : Graph) : Prop where
  mx : g.mx
  st : g.st.length ≤ 1048576
  nx : g.nx.length ≤ 1048576
  states : ∀ s ∈ g.st, s.small
  rows : ∀ r ∈ g.nx, r.length ≤ 1048576
  sumS : (g.st.map State.sz).sum ≤ 1048576
  sumN : (g.nx.map List.length).sum ≤ 1048576
theorem Graph.ok_of {g : Graph} (hg : g.mx) (h1 : g.s1 ≤ 1048576) (h2 : g.s2 ≤ 1048576) : g.ok := by
  unfold Graph.s1 tot at h1
  unfold Graph.s2 tot at h2
  refine ⟨hg, by omega, by omega, fun s hs => ?_, fun r hr => ?_, by omega, by omega⟩
  · have := le_sum State.sz hs
    unfold State.sz at this h1
    exact ⟨by omega, by omega⟩
  · have := le_sum List.length hr; omega
structure LabOk (l : List Tree) : Prop where
  mx : Lmx l
  len : l.length ≤ 1048576
  el : ∀ t ∈ l, t.sz ≤ 1048576
  sum : (l.map Tree.sz).sum ≤ 1048576
theorem LabOk.of {l : List Tree} (hl : Lmx l) (h : tot Tree.sz l ≤ 1048576) : LabOk l := by
  unfold tot at h
  exact ⟨hl, by omega, fun t ht => by have := le_sum Tree.sz ht; omega, by omega⟩

end Go.Proofs.Ytkophaoifmofdaa

namespace Go.Proofs.Ytkophaoifmofdaa
open Go.Gl
attribute [local irreducible] z83 AWP z96 z107 z99

theorem keepI {f : FuncId} {args : List AC} {n : Nat} {l : List Int} (h : CallsA Try.prog f args [] (.sref 0 0 n) [.cells 1 (l.map enI)]) (hl : l.length = n) : CallsA Try.prog f args [] (ints l) [] := by
  subst hl
  exact h.keep (enc_unown1 _ _) (by simp)
theorem bor_ints {objs : Nat → AObj} {π Bn : List Nat} {o : Nat} {l : List Int} (ho : objs o = .cells 1 (l.map enI)) (h1 : idx π o = none) (h2 : inB Bn o = true) : bor objs π Bn (.sref o 0 l.length) = ints l :=
  bor_list ho h1 h2 (by simp) (enc_unown1 _ _)
theorem bor_intsN {objs : Nat → AObj} {π Bn : List Nat} {o n : Nat} {l : List Int} (ho : objs o = .cells 1 (l.map enI)) (h1 : idx π o = none) (h2 : inB Bn o = true) (hl : l.length = n) : bor objs π Bn (.sref o 0 n) = ints l := by
  subst hl; exact bor_ints ho h1 h2
end Go.Proofs.Ytkophaoifmofdaa

namespace Go.Proofs.Ytkophaoifmofdaa
open Go.Gl
attribute [local irreducible] z83 AWP z96 z107 z99

def State.co (s : State) : List AC := [.own 1 (s.a.map enI), .own 1 (s.b.map enI)]

end Go.Proofs.Ytkophaoifmofdaa

namespace Go.Proofs.Ytkophaoifmofdaa
open Go.Gl
attribute [local irreducible] z83 AWP z96 z107 z99

end Go.Proofs.Ytkophaoifmofdaa

namespace Go.Proofs.Ytkophaoifmofdaa
open Go.Gl
section
attribute [local irreducible] z83
theorem l2Ints_ok (a b : List Int) (ha : a.length ≤ maxLen) (hb : b.length ≤ maxLen) : CallsA Try.prog 77 [lst 1 enI a, lst 1 enI b] [] (.bool (decide (a = b))) [] := by
  unfold maxLen at ha hb
  refine z62 z79 Try.func77 rfl rfl 26 Try.ntmps77 (by simp) ?_
  repeat (first | refine AWP.go ok _ _ _ _ _ rfl ?_ | refine z37 (by kernel_rfl) ?_ | refine And.intro (by first | omega | (unfold inI; omega) | (dsimp only; omega)) ?_)
  refine z13 (fun h => ?_) (fun h => ?_)
  · repeat (first | refine AWP.go ok _ _ _ _ _ rfl ?_ | refine z37 (by kernel_rfl) ?_ | refine And.intro (by first | omega | (unfold inI; omega) | (dsimp only; omega)) ?_)
    have hne : a ≠ b := by rintro rfl; exact h rfl
    rw [decide_eq_false hne]
    exact ⟨[], by decide, rfl, rfl, ACle.of_eq rfl, trivial⟩
  · have hl : a.length = b.length := by omega
    repeat (first | refine AWP.go ok _ _ _ _ _ rfl ?_ | refine z37 (by kernel_rfl) ?_ | refine And.intro (by first | omega | (unfold inI; omega) | (dsimp only; omega)) ?_)
    refine awp_loop (fun k : Nat => ([(0, lst 1 enI a), (1, lst 1 enI b), (5, .int k)], [])) (fun k => k ≤ a.length ∧ a.take k = b.take k) (fun k => a.length - k) 0 (by simp)
      ⟨[], rfl, by decide, rfl, ⟨⟨rfl, rfl⟩, ⟨rfl, rfl⟩, ⟨rfl, rfl⟩, trivial⟩, trivial⟩ ?_
    intro k hk
    repeat (first | refine AWP.go ok _ _ _ _ _ rfl ?_ | refine z37 (by kernel_rfl) ?_ | refine And.intro (by first | omega | (unfold inI; omega) | (dsimp only; omega)) ?_)
    refine z17 (fun h => ?_) (fun h => ?_)
    · have hka : k < a.length := by omega
      repeat (first | refine AWP.go ok _ _ _ _ _ rfl ?_ | refine z37 (by kernel_rfl) ?_ | refine And.intro (by first | omega | (unfold inI; omega) | (dsimp only; omega)) ?_)
      refine ⟨_, map_get _ _ _ (by omega), ?_⟩
      repeat (first | refine AWP.go ok _ _ _ _ _ rfl ?_ | refine z37 (by kernel_rfl) ?_ | refine And.intro (by first | omega | (unfold inI; omega) | (dsimp only; omega)) ?_)
      refine ⟨_, map_get _ _ _ (by omega), ?_⟩
      repeat (first | refine AWP.go ok _ _ _ _ _ rfl ?_ | refine z37 (by kernel_rfl) ?_ | refine And.intro (by first | omega | (unfold inI; omega) | (dsimp only; omega)) ?_)
      refine z13 (fun h => ?_) (fun h => ?_)
      · repeat (first | refine AWP.go ok _ _ _ _ _ rfl ?_ | refine z37 (by kernel_rfl) ?_ | refine And.intro (by first | omega | (unfold inI; omega) | (dsimp only; omega)) ?_)
        have hne : a ≠ b := by rintro rfl; exact h rfl
        rw [decide_eq_false hne]
        exact ⟨[], by decide, rfl, rfl, ACle.of_eq rfl, trivial⟩
      · repeat (first | refine AWP.go ok _ _ _ _ _ rfl ?_ | refine z37 (by kernel_rfl) ?_ | refine And.intro (by first | omega | (unfold inI; omega) | (dsimp only; omega)) ?_)
        refine ⟨k + 1, [], ⟨by omega, ?_⟩, by omega, rfl, by decide, rfl, ⟨⟨rfl, rfl⟩, ⟨rfl, rfl⟩, ⟨rfl, rfl⟩, trivial⟩, trivial⟩
        have h' : a[k] = b[k] := h
        rw [List.take_succ_eq_append_getElem hka, List.take_succ_eq_append_getElem (by omega), hk.2, h']
    · repeat (first | refine AWP.go ok _ _ _ _ _ rfl ?_ | refine z37 (by kernel_rfl) ?_ | refine And.intro (by first | omega | (unfold inI; omega) | (dsimp only; omega)) ?_)
      have he : a = b := by
        have := hk.2
        rwa [List.take_of_length_le (by omega), List.take_of_length_le (by omega)] at this
      rw [decide_eq_true he]
      exact ⟨[], by decide, rfl, rfl, ACle.of_eq rfl, trivial⟩
end
attribute [local irreducible] z83 AWP z96 z107 z99

end Go.Proofs.Ytkophaoifmofdaa

namespace Go.Proofs.Ytkophaoifmofdaa
open Go.Gl
attribute [local irreducible] z83 AWP z96 z107 z99

def pick (bl : List Int) (p : Int) : Int := bl.getD p.toNat 0
theorem picked_new (bl places : List Int) (hl : places.length ≤ 1048576) (hp : InN bl.length places) (hb : bl.length ≤ 1048576) : CallsA Try.prog 33 [ints bl, ints places] [] (.sref 0 0 places.length) [.cells 1 ((places.map (pick bl)).map enI)] := by
  refine z62 z79 Try.func33 rfl rfl 27 Try.ntmps33 (by simp) ?_
  repeat' (first | (apply AWP.go ok; rfl; conv => whnf) | (apply z37; kernel_rfl; conv => whnf) | (apply And.intro; (first | omega | (unfold inI; omega) | (dsimp only; omega) | (unfold z47; omega) | ((try dsimp only); simp only [List.length_map, List.length_take, List.length_append, List.length_replicate, List.length_cons, List.length_nil]; omega) | (simp only [z58] at *; first | omega | (unfold inI; omega) | (unfold z47; omega)) | exact z6 (fun _ => rfl) | exact ⟨rfl, z14 rfl z20⟩ | exact ⟨rfl, z6 (fun _ => rfl) _⟩ | exact ⟨⟨rfl, by omega⟩, z6 (fun _ => rfl) _⟩); conv => whnf) | (with_reducible apply z9; omega; intro _; conv => whnf) | (with_reducible apply z21; omega; intro _; conv => whnf) | (apply z9; omega; intro _; conv => whnf) | (apply z22; omega; conv => whnf) | (apply z32; conv => whnf) | (apply z31; omega; intro _; conv => whnf) | (apply z30 <;> intro _ <;> conv => whnf) | (apply z19 <;> intro _ <;> conv => whnf) | (apply z29 <;> intro _ <;> conv => whnf) | (apply z45 <;> intro _ <;> conv => whnf) | (apply z17 <;> intro _ <;> conv => whnf) | (apply z13 <;> intro _ <;> conv => whnf) | (apply z18 <;> intro _ <;> conv => whnf) | (apply z28 <;> intro _ <;> conv => whnf))
  refine z138 (fun k : Nat => ([(0, ints bl), (5, .sref 0 0 places.length), (11, ints places), (12, .int places.length), (13, .int k)], [.cells 1 ((places.take k).map (fun p => enI (pick bl p)) ++ List.replicate (places.length - k) [.int 0])])) (fun k => k ≤ places.length) (fun k => places.length - k) 0 (by omega) ⟨[0], rfl, by decide, rfl, ⟨⟨rfl, rfl⟩, ⟨rfl, rfl⟩, ⟨rfl, rfl⟩, ⟨rfl, rfl⟩, ⟨rfl, rfl⟩, trivial⟩, ⟨z82 (by rfl) (z7 (z5 fun _ => rfl) (z4 rfl)), trivial⟩⟩ ?_
  intro k hk
  by_cases hkl : k < places.length
  · have hx := hp places[k] (List.getElem_mem _)
    have hxb : places[k].toNat < bl.length := by omega
    repeat' (first | (apply AWP.go ok; rfl; conv => whnf) | (apply z37; kernel_rfl; conv => whnf) | (apply And.intro; (first | omega | (unfold inI; omega) | (dsimp only; omega) | (unfold z47; omega) | ((try dsimp only); simp only [List.length_map, List.length_take, List.length_append, List.length_replicate, List.length_cons, List.length_nil]; omega) | (simp only [z58] at *; first | omega | (unfold inI; omega) | (unfold z47; omega)) | exact z6 (fun _ => rfl) | exact ⟨rfl, z14 rfl z20⟩ | exact ⟨rfl, z6 (fun _ => rfl) _⟩ | exact ⟨⟨rfl, by omega⟩, z6 (fun _ => rfl) _⟩); conv => whnf) | (with_reducible apply z9; omega; intro _; conv => whnf) | (with_reducible apply z21; omega; intro _; conv => whnf) | (apply z9; omega; intro _; conv => whnf) | (apply z22; omega; conv => whnf) | (apply z32; conv => whnf) | (apply z31; omega; intro _; conv => whnf) | (apply z30 <;> intro _ <;> conv => whnf) | (apply z19 <;> intro _ <;> conv => whnf) | (apply z29 <;> intro _ <;> conv => whnf) | (apply z45 <;> intro _ <;> conv => whnf) | (apply z17 <;> intro _ <;> conv => whnf) | (apply z13 <;> intro _ <;> conv => whnf) | (apply z18 <;> intro _ <;> conv => whnf) | (apply z28 <;> intro _ <;> conv => whnf))
    all_goals first | (exfalso; omega) | skip
    exact z117 (k + 1) [0] (by omega) (by omega) ⟨rfl, by decide, rfl, ⟨⟨rfl, rfl⟩, ⟨rfl, rfl⟩, ⟨rfl, rfl⟩, ⟨rfl, rfl⟩, ⟨rfl, rfl⟩, trivial⟩, ⟨obj_fill hkl rfl (Int.toNat_natCast k) (by unfold pick; rw [z106 hxb]; rfl) (fun _ => rfl) rfl, trivial⟩⟩
  · repeat' (first | (apply AWP.go ok; rfl; conv => whnf) | (apply z37; kernel_rfl; conv => whnf) | (apply And.intro; (first | omega | (unfold inI; omega) | (dsimp only; omega) | (unfold z47; omega) | ((try dsimp only); simp only [List.length_map, List.length_take, List.length_append, List.length_replicate, List.length_cons, List.length_nil]; omega) | (simp only [z58] at *; first | omega | (unfold inI; omega) | (unfold z47; omega)) | exact z6 (fun _ => rfl) | exact ⟨rfl, z14 rfl z20⟩ | exact ⟨rfl, z6 (fun _ => rfl) _⟩ | exact ⟨⟨rfl, by omega⟩, z6 (fun _ => rfl) _⟩); conv => whnf) | (with_reducible apply z9; omega; intro _; conv => whnf) | (with_reducible apply z21; omega; intro _; conv => whnf) | (apply z9; omega; intro _; conv => whnf) | (apply z22; omega; conv => whnf) | (apply z32; conv => whnf) | (apply z31; omega; intro _; conv => whnf) | (apply z30 <;> intro _ <;> conv => whnf) | (apply z19 <;> intro _ <;> conv => whnf) | (apply z29 <;> intro _ <;> conv => whnf) | (apply z45 <;> intro _ <;> conv => whnf) | (apply z17 <;> intro _ <;> conv => whnf) | (apply z13 <;> intro _ <;> conv => whnf) | (apply z18 <;> intro _ <;> conv => whnf) | (apply z28 <;> intro _ <;> conv => whnf))
    all_goals first | (exfalso; omega) | skip
    obtain rfl : k = places.length := by omega
    exact ret_new rfl (z5 fun _ => rfl) rfl (by rw [fill_end _ _ _ _ rfl, List.map_map]; rfl)

end Go.Proofs.Ytkophaoifmofdaa

namespace Go.Proofs.Ytkophaoifmofdaa
open Go.Gl
attribute [local irreducible] z83 AWP z96 z107 z99

section
open Go.ChangeShapes Go.WideShapes Go.ChangeAt Go.RowKit
theorem and_mk {a b : Bool} (h : a = true) (k : b = true) : (a && b) = true := by rw [h, k]; rfl
theorem own : ownKnob Try.prog.godebug = none := by kernel_rfl
theorem laidOut_ok : laidOutB Try.prog = true := by kernel_rfl
end
end Go.Proofs.Ytkophaoifmofdaa

