/- Expansion laws hold. The law FnBranchingStates returns true at every input and leaves its input as it was. No condition. -/
import Derived.Test.YtkophaoifmofdaaGreatG0
import Derived.Test.YtkophaoifmofdaaGreatG1
import Derived.Test.YtkophaoifmofdaaGreatG2
import Derived.Test.YtkophaoifmofdaaGreatP0
import Derived.Test.YtkophaoifmofdaaGreatP1
import Derived.Test.YtkophaoifmofdaaGreatP2
import Derived.Test.YtkophaoifmofdaaGreatP3
import Derived.Test.YtkophaoifmofdaaGreatP8
import Derived.Test.YtkophaoifmofdaaGreatP9
import Derived.Test.YtkophaoifmofdaaGreatP10
import Derived.Test.YtkophaoifmofdaaGreatP11
import Derived.Test.YtkophaoifmofdaaGreatP12
import Derived.Test.YtkophaoifmofdaaGreatP13
set_option linter.all false
namespace Go.Proofs.YtkophaoifmofdaaGreat
open Go.Gl
attribute [local irreducible] z84 AWP z97 z107 z101 RetS z117
theorem shape_up : (∀ (t : Tree) d, t.shapeB d = true → t.shapeB (d + 1) = true ∧ t.count (d + 1) = t.count d) ∧ ∀ (l : List Tree) d, Tree.shapeBBs l d = true → Tree.shapeBBs l (d + 1) = true ∧ Tree.counts l (d + 1) = Tree.counts l d := by
  refine Tree.rec2 (p := fun t => ∀ d, t.shapeB d = true → t.shapeB (d + 1) = true ∧ t.count (d + 1) = t.count d) (q := fun l => ∀ d, Tree.shapeBBs l d = true → Tree.shapeBBs l (d + 1) = true ∧ Tree.counts l (d + 1) = Tree.counts l d) ?_ ?_ ?_
  · intro k v l ih d h
    simp only [Tree.shapeB, Bool.and_eq_true, decide_eq_true_eq, Tree.count] at h ⊢
    obtain ⟨h1, h2⟩ := ih (d - 1) h.2
    rw [show d - 1 + 1 = d by omega] at h1 h2
    rw [show d + 1 - 1 = d by omega, if_pos (by omega), if_pos (by omega), h2]
    exact ⟨⟨⟨by omega, h.1.2⟩, h1⟩, rfl⟩
  · intro d _; exact ⟨rfl, rfl⟩
  · intro t r h1 h2 d h
    simp only [Tree.shapeBBs, Bool.and_eq_true, Tree.counts] at h ⊢
    obtain ⟨a1, a2⟩ := h1 d h.1
    obtain ⟨b1, b2⟩ := h2 d h.2
    exact ⟨⟨a1, b1⟩, by rw [a2, b2]⟩
theorem z616 {l : List Tree} {d : Int} (h : Tree.shapeBBs l d = true) : ∀ u ∈ l, u.shapeB d = true ∧ u.count d ≤ Tree.counts l d := by
  induction l with
  | nil => intro u hu; cases hu
  | cons t l ih =>
    simp only [Tree.shapeBBs, Bool.and_eq_true, Tree.counts] at h ⊢
    have hp := Tree.count_pos.2 l d
    have ht := Tree.count_pos.1 t d
    intro u hu
    rcases List.mem_cons.1 hu with rfl | hu
    · exact ⟨h.1, by omega⟩
    · have := ih h.2 u hu
      exact ⟨this.1, by omega⟩
theorem z491 {k v : Int} {l : List Tree} (h : (Tree.mk k v l).brB = true) : (l.length : Int) = z121 k ∧ ∀ u ∈ l, u.brB = true := by
  rw [Tree.brB_eq, Bool.and_eq_true, decide_eq_true_eq] at h
  simp only [Tree.shapeB, Bool.and_eq_true, decide_eq_true_eq, Tree.count] at h
  refine ⟨h.1.1.2.1, fun u hu => ?_⟩
  have hm := z616 h.1.2 u hu
  have hu := shape_up.1 u _ hm.1
  rw [show (6 : Int) - 1 + 1 = 6 by omega] at hu
  rw [Tree.brB_eq, Bool.and_eq_true, decide_eq_true_eq]
  refine ⟨hu.1, ?_⟩
  rw [hu.2]
  have := h.2
  rw [if_pos (by omega)] at this
  omega
noncomputable def kidL (g : Graph) (l : List Tree) (f : Tree) : List (List Bool) := f.kids.map (brL g l) ++ List.replicate (2 - f.kids.length) (brL g l f)
theorem z696 {g : Graph} {l : List Tree} {f : Tree} (h : okB g l f = true) : f.kids.length ≤ 2 ∧ (kidL g l f).length = 2 ∧ (∀ X ∈ kidL g l f, X.length = g.st.length) ∧ ∀ i (hi : i < f.kids.length) (h2 : i < (kidL g l f).length), (kidL g l f)[i] = brL g l f.kids[i] := by
  have hb : f.brB = true := (Bool.and_eq_true_iff.1 (show (glB g l && f.brB) = true from h)).2
  have hg : glB g l = true := (Bool.and_eq_true_iff.1 (show (glB g l && f.brB) = true from h)).1
  obtain ⟨k, v, ks⟩ := f
  obtain ⟨h1, h2⟩ := z491 hb
  have ha : z121 k ≤ 2 := by unfold z121; split <;> (try split) <;> (try split) <;> omega
  have hk : ks.length ≤ 2 := by omega
  refine ⟨hk, by unfold kidL; simp only [Tree.kids, List.length_append, List.length_map, List.length_replicate]; omega, fun X hX => ?_, fun i hi h3 => ?_⟩
  · unfold kidL at hX
    rcases List.mem_append.1 hX with hX | hX
    · obtain ⟨u, hu, rfl⟩ := List.mem_map.1 hX
      exact z573 (show (glB g l && u.brB) = true by rw [hg, h2 u hu]; rfl)
    · rw [List.eq_of_mem_replicate hX]; exact z573 h
  · have e : (kidL g l (.mk k v ks))[i]? = some (brL g l (Tree.mk k v ks).kids[i]) := by
      unfold kidL
      rw [List.getElem?_append_left (by simpa using hi), List.getElem?_map, List.getElem?_eq_getElem hi]; rfl
    rw [List.getElem?_eq_getElem h3] at e
    exact Option.some.inj e
structure ExpF (k : Int) (y k0 k1 s e : Bool) : Prop where
  h7 : k = 7 → y = (k1 || (k0 && s))
  h10 : k = 10 → y = (k1 || (k0 && e))
  h8 : k = 8 → y = (k0 && s)
  h11 : k = 11 → y = (k0 && e)
  h4 : k = 4 → y = (k0 && k1)
  h5 : k = 5 → y = (k0 || k1)
  h3 : k = 3 → y = !k0
theorem expF {g : Graph} {l : List Tree} {f : Tree} (h : okB g l f = true) {i : Nat} (hi : i < g.st.length) : ExpF f.kind (gB (brL g l f) i) (gB ((kidL g l f).getD 0 []) i) (gB ((kidL g l f).getD 1 []) i) (nxB g.nx false i (brL g l f)) (nxB g.nx true i (brL g l f)) := by
  have hb : f.brB = true := (Bool.and_eq_true_iff.1 (show (glB g l && f.brB) = true from h)).2
  have hg : glB g l = true := (Bool.and_eq_true_iff.1 (show (glB g l && f.brB) = true from h)).1
  have hr := z681 h
  obtain ⟨k, v, ks⟩ := f
  obtain ⟨h1, h2⟩ := z491 hb
  have hk : ∀ u ∈ ks, brL g l u = u.satB g.nx g.st.length (g.st.map (z116 l)) := fun u hu => z572 (show (glB g l && u.brB) = true by rw [hg, h2 u hu]; rfl)
  have two : ks.length = 2 → ∃ a b, ks = [a, b] := fun h => by
    match ks, h with
    | [a, b], _ => exact ⟨a, b, rfl⟩
  have one : ks.length = 1 → ∃ a, ks = [a] := fun h => by
    match ks, h with
    | [a], _ => exact ⟨a, rfl⟩
  rw [z572 h]
  constructor
  · rintro rfl
    obtain ⟨a, b, rfl⟩ := two (by have : z121 7 = 2 := by decide
                                  omega)
    show _ = (gB (brL g l b) i || (gB (brL g l a) i && _))
    rw [hk a (by simp), hk b (by simp)]
    exact z708 _ hr a b v hi
  · rintro rfl
    obtain ⟨a, b, rfl⟩ := two (by have : z121 10 = 2 := by decide
                                  omega)
    show _ = (gB (brL g l b) i || (gB (brL g l a) i && _))
    rw [hk a (by simp), hk b (by simp)]
    exact z639 _ hr a b v hi
  · rintro rfl
    obtain ⟨a, rfl⟩ := one (by have : z121 8 = 1 := by decide
                               omega)
    show _ = (gB (brL g l a) i && _)
    rw [hk a (by simp)]
    exact z640 _ hr a v hi
  · rintro rfl
    obtain ⟨a, rfl⟩ := one (by have : z121 11 = 1 := by decide
                               omega)
    show _ = (gB (brL g l a) i && _)
    rw [hk a (by simp)]
    exact z564 _ hr a v hi
  · rintro rfl
    obtain ⟨a, b, rfl⟩ := two (by have : z121 4 = 2 := by decide
                                  omega)
    show _ = (gB (brL g l a) i && gB (brL g l b) i)
    rw [hk a (by simp), hk b (by simp)]
    exact sat_and _ a b v i hi
  · rintro rfl
    obtain ⟨a, b, rfl⟩ := two (by have : z121 5 = 2 := by decide
                                  omega)
    show _ = (gB (brL g l a) i || gB (brL g l b) i)
    rw [hk a (by simp), hk b (by simp)]
    exact sat_or _ a b v i hi
  · rintro rfl
    obtain ⟨a, rfl⟩ := one (by have : z121 3 = 1 := by decide
                               omega)
    show _ = !gB (brL g l a) i
    rw [hk a (by simp), sat_not, gB_not _ hi]
theorem any_take {α : Type} (p : α → Bool) (l : List α) (k : Nat) (h : k < l.length) : (l.take (k + 1)).any p = ((l.take k).any p || p l[k]) := by
  rw [List.take_succ_eq_append_getElem h, List.any_append]; simp
theorem all_take {α : Type} (p : α → Bool) (l : List α) (k : Nat) (h : k < l.length) : (l.take (k + 1)).all p = ((l.take k).all p && p l[k]) := by
  rw [List.take_succ_eq_append_getElem h, List.all_append]; simp
theorem z650 (g : Graph) (hg : g.d) (S : List Bool) (hS : S.length = g.st.length) (hr : ∀ r ∈ g.nx, InN g.st.length r) (i : Nat) (hi : i < g.nx.length) : CallsA Tryz.prog 16 [.agg g.cs, lst 1 enB S, .int i] [] (.tup [.bool (nxB g.nx false i S), .bool (nxB g.nx true i S)]) [] := by
  have hst := hg.st
  have hrow := hg.row g.nx[i] (List.getElem_mem _)
  have hin := hr g.nx[i] (List.getElem_mem _)
  have e1 : nxB g.nx false i S = g.nx[i].any fun t => gB S t.toNat := by unfold nxB; rw [z103 hi]; rfl
  have e2 : nxB g.nx true i S = g.nx[i].all fun t => gB S t.toNat := by unfold nxB; rw [z103 hi]; rfl
  have g0 : (g.nx.map encL)[i]? = some (encL g.nx[i]) := by rw [List.getElem?_map, List.getElem?_eq_getElem hi]; rfl
  rw [e1, e2]
  generalize g.nx[i] = row at *
  refine z69 z81 Tryz.func16 rfl rfl 51 Tryz.ntmps16 (by simp) ?_
  repeat' ((first | (apply AWP.go ok; rfl) | (apply z34; kernel_rfl) | (apply And.intro; first | omega | (unfold inI; omega) | (dsimp only; omega) | ((try dsimp only); simp only [List.length_map, List.length_take, List.length_append, List.length_replicate, List.length_cons, List.length_nil]; omega) | exact z6 (fun _ => rfl) | exact ⟨rfl, z12 rfl z18⟩ | exact ⟨rfl, z6 (fun _ => rfl) _⟩ | exact ⟨⟨rfl, by omega⟩, z6 (fun _ => rfl) _⟩) | ((first | (with_reducible apply z8; omega) | (with_reducible apply z19; omega) | (apply z8; omega)); intro _) | (apply z20; omega) | apply z27 | (apply z26; omega; intro _) | ((first | apply z25 | apply z17 | apply z24 | apply z35 | apply z15 | apply z10 | apply z16 | apply z23) <;> intro _)) <;> conv => whnf)
  refine z155 (fun k : Nat => ([(1, lst 1 enB S), (2, .int i), (3, .ptr 0 none 0), (8, .bool ((row.take k).any fun t => gB S t.toNat)), (9, .bool ((row.take k).all fun t => gB S t.toNat)), (10, .int k)], [.cells 2 [g.cs]])) (fun k => k ≤ row.length) (fun k => row.length - k) 0 (by omega) (by refine SealW.reach [0] [] rfl rfl rfl rfl ?_ ?_ <;> (repeat' (first | exact LocLe.refl _ | exact z37 | (refine z61 ?_; assumption) | exact z44 | exact F2.nil | apply F2.cons | exact z57 _ | exact z49 _ | exact z77 | exact f22_cs' | (refine z72 ?_; omega) | (refine z75 ?_; omega) | (refine z32 ?_; omega) | (refine z76 ?_; omega) | (refine z54 ?_; (first | omega | (simp; done) | (simp; omega))) | apply ObjLe.box | ((first | refine z42 rfl ?_ ?_ | refine z43 rfl rfl ?_ ?_ | refine z51 rfl ?_ ?_ | refine z33 rfl ?_ ?_); (focus ((repeat' (first | exact z9 | exact z5 rfl | exact z4 (fun _ => rfl) | exact z4 Tree.co_flat | exact z39 rfl z9 | apply z7 | apply z13 | (refine z45 ?_ _ rfl) | assumption)); done))) | (refine z33 rfl ?_ ?_; (focus (refine z22 ?_ ?_ rfl <;> first | (simp; omega) | (apply z13; exact z4 fun _ => rfl)))) | (refine z30 ?_ ?_; (focus (simp; omega))) | (refine z78 (by omega) (by omega) ?_) | (refine z74 (by omega) ?_) | (refine z60 (by omega) ?_) | (refine z62 ?_; (first | omega | (simp; done))) | (refine z59 ?_ ?_; (focus (first | omega | (simp; done)))) | (refine z64 ?_ ?_; (focus (simp; done))) | (refine z63 ?_) | ((first | apply z50 rfl rfl rfl | apply z41 rfl rfl rfl); (focus ((repeat (first | exact z38 (fun _ => rfl) _ | exact z36 _ | apply z40 | apply z52 | apply z53 | rfl)); done)); (focus ((first | rfl | (simp; omega) | (simp; done)); done))) | apply z73 | apply z70 | (apply z31; rfl) | (refine z31 ?_ ?_; (focus (simp; done))) | apply ObjLe.mk | exact True.intro | apply And.intro))) ?_
  intro k hk
  by_cases hkl : k < row.length
  · have h1 := any_take (fun t => gB S t.toNat) row k hkl
    have h2 := all_take (fun t => gB S t.toNat) row k hkl
    have hx := hin row[k] (List.getElem_mem _)
    have g1 : (row.map enI)[k]? = some (enI row[k]) := by rw [List.getElem?_map, List.getElem?_eq_getElem hkl]; rfl
    generalize row[k] = x at *
    have g2 := z120 (S := S) (i := x.toNat) (by omega)
    generalize gB S x.toNat = z at *
    generalize (row.take k).any (fun t => gB S t.toNat) = p at *
    generalize (row.take k).all (fun t => gB S t.toNat) = q at *
    cases p <;> cases q
    all_goals
      repeat' ((first | (apply AWP.go ok; rfl) | (apply z34; kernel_rfl) | (refine z71 (i := i) rfl g0 ?_) | (refine z71 (i := k) rfl g1 ?_) | (refine z71 (i := x.toNat) rfl g2 ?_) | (apply And.intro; first | omega | (unfold inI; omega) | (dsimp only; omega) | ((try dsimp only); simp only [List.length_map, List.length_take, List.length_append, List.length_replicate, List.length_cons, List.length_nil]; omega) | exact z6 (fun _ => rfl) | exact ⟨rfl, z12 rfl z18⟩ | exact ⟨rfl, z6 (fun _ => rfl) _⟩ | exact ⟨⟨rfl, by omega⟩, z6 (fun _ => rfl) _⟩) | ((first | (with_reducible apply z8; omega) | (with_reducible apply z19; omega) | (apply z8; omega)); intro _) | (apply z20; omega) | apply z27 | (apply z26; omega; intro _) | ((first | apply z25 | apply z17 | apply z24 | apply z35 | apply z15 | apply z10 | apply z16 | apply z23) <;> intro _)) <;> conv => whnf)
      all_goals first | (exfalso; omega) | skip
      all_goals refine z111 (k + 1) (by omega) (by omega) (by refine SealW.reach [0] [] rfl rfl rfl rfl ?_ ?_ <;> (repeat' (first | exact LocLe.refl _ | exact z37 | (refine z61 ?_; assumption) | exact z44 | exact F2.nil | apply F2.cons | exact z57 _ | exact z49 _ | exact z77 | exact f22_cs' | (refine z72 ?_; omega) | (refine z75 ?_; omega) | (refine z32 ?_; omega) | (refine z76 ?_; omega) | (refine z54 ?_; (first | omega | (simp; done) | (simp; omega))) | apply ObjLe.box | ((first | refine z42 rfl ?_ ?_ | refine z43 rfl rfl ?_ ?_ | refine z51 rfl ?_ ?_ | refine z33 rfl ?_ ?_); (focus ((repeat' (first | exact z9 | exact z5 rfl | exact z4 (fun _ => rfl) | exact z4 Tree.co_flat | exact z39 rfl z9 | apply z7 | apply z13 | (refine z45 ?_ _ rfl) | assumption)); done))) | (refine z33 rfl ?_ ?_; (focus (refine z22 ?_ ?_ rfl <;> first | (simp; omega) | (apply z13; exact z4 fun _ => rfl)))) | (refine z30 ?_ ?_; (focus (simp; omega))) | (refine z78 (by omega) (by omega) ?_) | (refine z74 (by omega) ?_) | (refine z60 (by omega) ?_) | (refine z62 ?_; (first | omega | (simp; done))) | (refine z59 ?_ ?_; (focus (first | omega | (simp; done)))) | (refine z64 ?_ ?_; (focus (simp; done))) | (refine z63 ?_) | ((first | apply z50 rfl rfl rfl | apply z41 rfl rfl rfl); (focus ((repeat (first | exact z38 (fun _ => rfl) _ | exact z36 _ | apply z40 | apply z52 | apply z53 | rfl)); done)); (focus ((first | rfl | (simp; omega) | (simp; done)); done))) | apply z73 | apply z70 | (apply z31; rfl) | (refine z31 ?_ ?_; (focus (simp; done))) | apply ObjLe.mk | exact True.intro | apply And.intro)) <;> ((refine z717 ?_; first | rw [h1] | rw [h2]); rfl))
  · have e : k = row.length := by omega
    subst e
    rw [List.take_length]
    repeat' ((first | (apply AWP.go ok; rfl) | (apply z34; kernel_rfl) | (refine z71 (i := i) rfl g0 ?_) | (apply And.intro; first | omega | (unfold inI; omega) | (dsimp only; omega) | ((try dsimp only); simp only [List.length_map, List.length_take, List.length_append, List.length_replicate, List.length_cons, List.length_nil]; omega) | exact z6 (fun _ => rfl) | exact ⟨rfl, z12 rfl z18⟩ | exact ⟨rfl, z6 (fun _ => rfl) _⟩ | exact ⟨⟨rfl, by omega⟩, z6 (fun _ => rfl) _⟩) | ((first | (with_reducible apply z8; omega) | (with_reducible apply z19; omega) | (apply z8; omega)); intro _) | (apply z20; omega) | apply z27 | (apply z26; omega; intro _) | ((first | apply z25 | apply z17 | apply z24 | apply z35 | apply z15 | apply z10 | apply z16 | apply z23) <;> intro _)) <;> conv => whnf)
    all_goals first | (exfalso; omega) | skip
    all_goals (refine RetS.lay [] [] rfl rfl rfl ?_; refine RetS.done ?_ ?_ <;> (repeat' (first | exact LocLe.refl _ | exact z37 | (refine z61 ?_; assumption) | exact z44 | exact F2.nil | apply F2.cons | exact z57 _ | exact z49 _ | exact z77 | exact f22_cs' | (refine z72 ?_; omega) | (refine z75 ?_; omega) | (refine z32 ?_; omega) | (refine z76 ?_; omega) | (refine z54 ?_; (first | omega | (simp; done) | (simp; omega))) | apply ObjLe.box | ((first | refine z42 rfl ?_ ?_ | refine z43 rfl rfl ?_ ?_ | refine z51 rfl ?_ ?_ | refine z33 rfl ?_ ?_); (focus ((repeat' (first | exact z9 | exact z5 rfl | exact z4 (fun _ => rfl) | exact z4 Tree.co_flat | exact z39 rfl z9 | apply z7 | apply z13 | (refine z45 ?_ _ rfl) | assumption)); done))) | (refine z33 rfl ?_ ?_; (focus (refine z22 ?_ ?_ rfl <;> first | (simp; omega) | (apply z13; exact z4 fun _ => rfl)))) | (refine z30 ?_ ?_; (focus (simp; omega))) | (refine z78 (by omega) (by omega) ?_) | (refine z74 (by omega) ?_) | (refine z60 (by omega) ?_) | (refine z62 ?_; (first | omega | (simp; done))) | (refine z59 ?_ ?_; (focus (first | omega | (simp; done)))) | (refine z64 ?_ ?_; (focus (simp; done))) | (refine z63 ?_) | ((first | apply z50 rfl rfl rfl | apply z41 rfl rfl rfl); (focus ((repeat (first | exact z38 (fun _ => rfl) _ | exact z36 _ | apply z40 | apply z52 | apply z53 | rfl)); done)); (focus ((first | rfl | (simp; omega) | (simp; done)); done))) | apply z73 | apply z70 | (apply z31; rfl) | (refine z31 ?_ ?_; (focus (simp; done))) | apply ObjLe.mk | exact True.intro | apply And.intro)))
end Go.Proofs.YtkophaoifmofdaaGreat

namespace Go.Proofs.YtkophaoifmofdaaGreat
open Go.Gl
attribute [local irreducible] z84 AWP z97 z107 z101 RetS z117
def enK (X : List Bool) : List AC := [lst 1 enB X]
set_option maxHeartbeats 12800000 in
theorem z248 (c : List Int) (hc : CodeOk c) : CallsA Tryz.prog 3 [lst 1 enU c] [] (.bool true) [] := by
  obtain ⟨g, l, f, ⟨hg, hl, hf⟩, cd⟩ := z710 c hc
  have hst := hg.st
  have hlen := hc.len
  unfold maxLen at hlen
  have k1 := br_ok g hg l hl f (by omega)
  have k2 := brS_ok g hg l hl f (by omega)
  have k3 := z604 (brL g l f) (brL g l f) (by have := z716 (g := g) (l := l) f; unfold maxLen; omega) (by have := z716 (g := g) (l := l) f; unfold maxLen; omega)
  rw [decide_eq_true rfl] at k3
  rw [Tree.arg_eq] at k1 k2 cd
  by_cases h0 : okB g l f = true
  · have hS := z573 h0
    obtain ⟨hk2, hN2, hNl, hNi⟩ := z696 h0
    have hex : ∀ i, i < g.st.length → ExpF f.kind (gB (brL g l f) i) (gB ((kidL g l f).getD 0 []) i) (gB ((kidL g l f).getD 1 []) i) (nxB g.nx false i (brL g l f)) (nxB g.nx true i (brL g l f)) := fun i hi => expF h0 hi
    have hr := z681 h0
    have hgl := (Bool.and_eq_true_iff.1 (show (glB g l && f.brB) = true from h0)).1
    have hG := (z140 g).1 (by unfold glB at hgl; exact (Bool.and_eq_true_iff.1 hgl).1)
    have hnx : g.nx.length = g.st.length := by have := hG.2.1; omega
    have hsz : ∀ u ∈ f.kids, u.sz ≤ 1000 := fun u hu => by
      have := z351 Tree.sz hu
      rw [Tree.sz_eq] at hf; omega
    have hkc : ∀ i (hi : i < f.kids.length), ∃ b, CallsA Tryz.prog 13 [.agg g.cs, lst 3 Tree.cs' l, z87 Tree.cs' f.kids[i]] [] (.tup [lst 1 enB (brL g l f.kids[i]), .bool b]) [] := fun i hi => ⟨_, br_ok g hg l hl _ (hsz _ (List.getElem_mem _))⟩
    have hsu := fun i hi => z650 g hg (brL g l f) hS hr i hi
    rw [h0] at k1 k2
    have hM2 : (List.replicate 2 (brL g l f)).length = 2 := by simp
    have hNe : ∀ j, f.kids.length ≤ j → j < 2 → (kidL g l f)[j]? = some (brL g l f) := fun j h1 h2 => by
      unfold kidL
      rw [List.getElem?_append_right (by simpa using h1), List.getElem?_replicate, if_pos (by simp; omega)]
    have hend : (kidL g l f).take f.kids.length ++ (List.replicate 2 (brL g l f)).drop f.kids.length = kidL g l f := by
      unfold kidL
      rw [List.take_append_of_le_length (by simp), List.take_of_length_le (by simp), List.drop_replicate]
    generalize kidL g l f = N at *
    generalize brL g l f = S at *
    refine z69 z81 Tryz.func3 rfl rfl 242 Tryz.ntmps3 (by simp) ?_
    repeat' ((first | (apply AWP.go ok; rfl) | (apply z34; kernel_rfl) | (apply And.intro; first | omega | (unfold inI; omega) | (dsimp only; omega) | ((try dsimp only); simp only [List.length_map, List.length_take, List.length_append, List.length_replicate, List.length_cons, List.length_nil]; omega) | exact z6 (fun _ => rfl) | exact ⟨rfl, z12 rfl z18⟩ | exact ⟨rfl, z6 (fun _ => rfl) _⟩ | exact ⟨⟨rfl, by omega⟩, z6 (fun _ => rfl) _⟩) | ((first | (with_reducible apply z8; omega) | (with_reducible apply z19; omega) | (apply z8; omega)); intro _) | (apply z20; omega) | apply z27 | (apply z26; omega; intro _) | ((first | apply z25 | apply z17 | apply z24 | apply z35 | apply z15 | apply z10 | apply z16 | apply z23) <;> intro _) | (apply z48 (cd); rfl; rfl) | (apply z48 (k1); rfl; rfl) | (apply z48 (k2); rfl; rfl) | (apply z48 (k3); rfl; rfl)) <;> conv => whnf)
    all_goals first | (exfalso; omega) | (exfalso; contradiction) | (refine RetS.lay [] [] rfl rfl rfl ?_; refine RetS.done ?_ ?_ <;> (repeat' (first | exact LocLe.refl _ | exact z37 | (refine z61 ?_; assumption) | exact z44 | exact F2.nil | apply F2.cons | exact z57 _ | exact z49 _ | exact z77 | exact f22_cs' | (refine z72 ?_; omega) | (refine z75 ?_; omega) | (refine z32 ?_; omega) | (refine z76 ?_; omega) | (refine z54 ?_; (first | omega | (simp; done) | (simp; omega))) | apply ObjLe.box | ((first | refine z42 rfl ?_ ?_ | refine z43 rfl rfl ?_ ?_ | refine z51 rfl ?_ ?_ | refine z33 rfl ?_ ?_); (focus ((repeat' (first | exact z9 | exact z5 rfl | exact z4 (fun _ => rfl) | exact z4 Tree.co_flat | exact z39 rfl z9 | apply z7 | apply z13 | (refine z45 ?_ _ rfl) | assumption)); done))) | (refine z33 rfl ?_ ?_; (focus (refine z22 ?_ ?_ rfl <;> first | (simp; omega) | (apply z13; exact z4 fun _ => rfl)))) | (refine z30 ?_ ?_; (focus (simp; omega))) | (refine z78 (by omega) (by omega) ?_) | (refine z74 (by omega) ?_) | (refine z60 (by omega) ?_) | (refine z62 ?_; (first | omega | (simp; done))) | (refine z59 ?_ ?_; (focus (first | omega | (simp; done)))) | (refine z64 ?_ ?_; (focus (simp; done))) | (refine z63 ?_) | ((first | apply z50 rfl rfl rfl | apply z41 rfl rfl rfl); (focus ((repeat (first | exact z38 (fun _ => rfl) _ | exact z36 _ | apply z40 | apply z52 | apply z53 | rfl)); done)); (focus ((first | rfl | (simp; omega) | (simp; done)); done))) | apply z73 | apply z70 | (apply z31; rfl) | (refine z31 ?_ ?_; (focus (simp; done))) | apply ObjLe.mk | exact True.intro | apply And.intro))) | skip
    refine z155 (fun i : Nat => ([(3, .ptr 0 none 0), (4, lst 3 Tree.cs' l), (5, .ptr 1 none 0), (6, lst 1 enB S), (10, .sref 2 0 2), (11, .int i)], [.cells 2 [g.cs], .cells 3 [[.int f.kind, .int f.val, lst 3 Tree.cs' f.kids]], .cells 1 ((N.take i ++ (List.replicate 2 S).drop i).map enK)])) (fun i => i ≤ f.kids.length) (fun i => f.kids.length - i) 0 (by omega) (by refine SealW.reach [0, 1, 2] [] rfl rfl rfl rfl ?_ ?_ <;> (repeat' (first | exact LocLe.refl _ | exact z37 | (refine z61 ?_; assumption) | exact z44 | exact F2.nil | apply F2.cons | exact z57 _ | exact z49 _ | exact z77 | exact f22_cs' | (refine z72 ?_; omega) | (refine z75 ?_; omega) | (refine z32 ?_; omega) | (refine z76 ?_; omega) | (refine z54 ?_; (first | omega | (simp; done) | (simp; omega))) | apply ObjLe.box | ((first | refine z42 rfl ?_ ?_ | refine z43 rfl rfl ?_ ?_ | refine z51 rfl ?_ ?_ | refine z33 rfl ?_ ?_); (focus ((repeat' (first | exact z9 | exact z5 rfl | exact z4 (fun _ => rfl) | exact z4 Tree.co_flat | exact z39 rfl z9 | apply z7 | apply z13 | (refine z45 ?_ _ rfl) | assumption)); done))) | (refine z33 rfl ?_ ?_; (focus (refine z22 ?_ ?_ rfl <;> first | (simp; omega) | (apply z13; exact z4 fun _ => rfl)))) | (refine z30 ?_ ?_; (focus (simp; omega))) | (refine z78 (by omega) (by omega) ?_) | (refine z74 (by omega) ?_) | (refine z60 (by omega) ?_) | (refine z62 ?_; (first | omega | (simp; done))) | (refine z59 ?_ ?_; (focus (first | omega | (simp; done)))) | (refine z64 ?_ ?_; (focus (simp; done))) | (refine z63 ?_) | ((first | apply z50 rfl rfl rfl | apply z41 rfl rfl rfl); (focus ((repeat (first | exact z38 (fun _ => rfl) _ | exact z36 _ | apply z40 | apply z52 | apply z53 | rfl)); done)); (focus ((first | rfl | (simp; omega) | (simp; done)); done))) | apply z73 | apply z70 | (apply z31; rfl) | (refine z31 ?_ ?_; (focus (simp; done))) | apply ObjLe.mk | exact True.intro | apply And.intro))) ?_
    intro i hi
    by_cases hik : i < f.kids.length
    · obtain ⟨b, cb⟩ := hkc i hik
      have gk : (f.kids.map Tree.cs')[i]? = some (Tree.cs' f.kids[i]) := by rw [List.getElem?_map, List.getElem?_eq_getElem hik]; rfl
      have eN := hNi i hik (by omega)
      have hl3 : (N.take i ++ (List.replicate 2 S).drop i).length = 2 := by simp; omega
      have hiM : i < (List.replicate 2 S).length := by simp; omega
      generalize f.kids[i] = u at *
      repeat' ((first | (apply AWP.go ok; rfl) | (apply z34; kernel_rfl) | (refine z71 (i := i) rfl gk ?_) | (apply And.intro; first | omega | (unfold inI; omega) | (dsimp only; omega) | ((try dsimp only); simp only [List.length_map, List.length_take, List.length_append, List.length_replicate, List.length_cons, List.length_nil]; omega) | exact z6 (fun _ => rfl) | exact ⟨rfl, z12 rfl z18⟩ | exact ⟨rfl, z6 (fun _ => rfl) _⟩ | exact ⟨⟨rfl, by omega⟩, z6 (fun _ => rfl) _⟩) | ((first | (with_reducible apply z8; omega) | (with_reducible apply z19; omega) | (apply z8; omega)); intro _) | (apply z20; omega) | apply z27 | (apply z26; omega; intro _) | ((first | apply z25 | apply z17 | apply z24 | apply z35 | apply z15 | apply z10 | apply z16 | apply z23) <;> intro _) | (apply z48 (cb); rfl; rfl)) <;> conv => whnf)
      all_goals first | (exfalso; omega) | kernel_rfl | skip
      all_goals refine z111 (i + 1) (by omega) (by omega) (by refine SealW.reach [0, 1, 2] [] rfl rfl rfl rfl ?_ ?_ <;> (repeat' (first | exact LocLe.refl _ | exact z37 | (refine z61 ?_; assumption) | exact z44 | exact F2.nil | apply F2.cons | exact z57 _ | exact z49 _ | exact z77 | exact f22_cs' | (refine z72 ?_; omega) | (refine z75 ?_; omega) | (refine z32 ?_; omega) | (refine z76 ?_; omega) | (refine z54 ?_; (first | omega | (simp; done) | (simp; omega))) | apply ObjLe.box | ((first | refine z42 rfl ?_ ?_ | refine z43 rfl rfl ?_ ?_ | refine z51 rfl ?_ ?_ | refine z33 rfl ?_ ?_); (focus ((repeat' (first | exact z9 | exact z5 rfl | exact z4 (fun _ => rfl) | exact z4 Tree.co_flat | exact z39 rfl z9 | apply z7 | apply z13 | (refine z45 ?_ _ rfl) | assumption)); done))) | (refine z33 rfl ?_ ?_; (focus (refine z22 ?_ ?_ rfl <;> first | (simp; omega) | (apply z13; exact z4 fun _ => rfl)))) | (refine z30 ?_ ?_; (focus (simp; omega))) | (refine z78 (by omega) (by omega) ?_) | (refine z74 (by omega) ?_) | (refine z60 (by omega) ?_) | (refine z62 ?_; (first | omega | (simp; done))) | (refine z59 ?_ ?_; (focus (first | omega | (simp; done)))) | (refine z64 ?_ ?_; (focus (simp; done))) | (refine z63 ?_) | ((first | apply z50 rfl rfl rfl | apply z41 rfl rfl rfl); (focus ((repeat (first | exact z38 (fun _ => rfl) _ | exact z36 _ | apply z40 | apply z52 | apply z53 | rfl)); done)); (focus ((first | rfl | (simp; omega) | (simp; done)); done))) | apply z73 | apply z70 | (apply z31; rfl) | (refine z31 ?_ ?_; (focus (simp; done))) | apply ObjLe.mk | exact True.intro | apply And.intro)) <;> first | exact mix_le (by omega) hiM (by rw [hN2, hM2]) (by rw [eN]; exact z57 _) | skip)
    · have e : i = f.kids.length := by omega
      subst e
      rw [hend]
      have hN0 : 0 < N.length := by omega
      have hN1 : 1 < N.length := by omega
      have gN0 : (N.map enK)[0]? = some (enK (N.getD 0 [])) := by rw [List.getElem?_map, List.getElem?_eq_getElem hN0, z103 hN0]; rfl
      have gN1 : (N.map enK)[1]? = some (enK (N.getD 1 [])) := by rw [List.getElem?_map, List.getElem?_eq_getElem hN1, z103 hN1]; rfl
      have hl0 : (N.getD 0 []).length = g.st.length := by rw [z103 hN0]; exact hNl _ (List.getElem_mem _)
      have hl1 : (N.getD 1 []).length = g.st.length := by rw [z103 hN1]; exact hNl _ (List.getElem_mem _)
      generalize N.getD 0 [] = K0 at *
      generalize N.getD 1 [] = K1 at *
      repeat' ((first | (apply AWP.go ok; rfl) | (apply z34; kernel_rfl) | (apply And.intro; first | omega | (unfold inI; omega) | (dsimp only; omega) | ((try dsimp only); simp only [List.length_map, List.length_take, List.length_append, List.length_replicate, List.length_cons, List.length_nil]; omega) | exact z6 (fun _ => rfl) | exact ⟨rfl, z12 rfl z18⟩ | exact ⟨rfl, z6 (fun _ => rfl) _⟩ | exact ⟨⟨rfl, by omega⟩, z6 (fun _ => rfl) _⟩) | ((first | (with_reducible apply z8; omega) | (with_reducible apply z19; omega) | (apply z8; omega)); intro _) | (apply z20; omega) | apply z27 | (apply z26; omega; intro _) | ((first | apply z25 | apply z17 | apply z24 | apply z35 | apply z15 | apply z10 | apply z16 | apply z23) <;> intro _)) <;> conv => whnf)
      all_goals first | (exfalso; omega) | skip
      refine z155 (fun i : Nat => ([(3, .ptr 0 none 0), (5, .ptr 1 none 0), (6, lst 1 enB S), (10, .sref 2 0 2), (12, .int i)], [.cells 2 [g.cs], .cells 3 [[.int f.kind, .int f.val, lst 3 Tree.cs' f.kids]], .cells 1 (N.map enK)])) (fun i => i ≤ S.length) (fun i => S.length - i) 0 (by omega) (by refine SealW.reach [0, 1, 2] [] rfl rfl rfl rfl ?_ ?_ <;> (repeat' (first | exact LocLe.refl _ | exact z37 | (refine z61 ?_; assumption) | exact z44 | exact F2.nil | apply F2.cons | exact z57 _ | exact z49 _ | exact z77 | exact f22_cs' | (refine z72 ?_; omega) | (refine z75 ?_; omega) | (refine z32 ?_; omega) | (refine z76 ?_; omega) | (refine z54 ?_; (first | omega | (simp; done) | (simp; omega))) | apply ObjLe.box | ((first | refine z42 rfl ?_ ?_ | refine z43 rfl rfl ?_ ?_ | refine z51 rfl ?_ ?_ | refine z33 rfl ?_ ?_); (focus ((repeat' (first | exact z9 | exact z5 rfl | exact z4 (fun _ => rfl) | exact z4 Tree.co_flat | exact z39 rfl z9 | apply z7 | apply z13 | (refine z45 ?_ _ rfl) | assumption)); done))) | (refine z33 rfl ?_ ?_; (focus (refine z22 ?_ ?_ rfl <;> first | (simp; omega) | (apply z13; exact z4 fun _ => rfl)))) | (refine z30 ?_ ?_; (focus (simp; omega))) | (refine z78 (by omega) (by omega) ?_) | (refine z74 (by omega) ?_) | (refine z60 (by omega) ?_) | (refine z62 ?_; (first | omega | (simp; done))) | (refine z59 ?_ ?_; (focus (first | omega | (simp; done)))) | (refine z64 ?_ ?_; (focus (simp; done))) | (refine z63 ?_) | ((first | apply z50 rfl rfl rfl | apply z41 rfl rfl rfl); (focus ((repeat (first | exact z38 (fun _ => rfl) _ | exact z36 _ | apply z40 | apply z52 | apply z53 | rfl)); done)); (focus ((first | rfl | (simp; omega) | (simp; done)); done))) | apply z73 | apply z70 | (apply z31; rfl) | (refine z31 ?_ ?_; (focus (simp; done))) | apply ObjLe.mk | exact True.intro | apply And.intro))) ?_
      intro i hi
      by_cases hil : i < S.length
      · have cs := hsu i (by omega)
        obtain ⟨h7, h10, h8, h11, h4, h5, h3⟩ := hex i (by omega)
        have gs := z120 (S := S) (i := i) hil
        have g0 := z120 (S := K0) (i := i) (by omega)
        have g1 := z120 (S := K1) (i := i) (by omega)
        generalize gB S i = y at *
        generalize gB K0 i = y0 at *
        generalize gB K1 i = y1 at *
        generalize nxB g.nx false i S = s at *
        generalize nxB g.nx true i S = e at *
        clear hex hNe hNi hkc hsu hend hNl
        generalize f.kind = kd at *
        cases y <;> cases y0 <;> cases y1 <;> cases s <;> cases e
        all_goals
          repeat' ((first | (apply AWP.go ok; rfl) | (apply z34; kernel_rfl) | (refine z71 (i := i) rfl gs ?_) | (refine z71 (i := i) rfl g0 ?_) | (refine z71 (i := i) rfl g1 ?_) | (refine z71 (i := 0) rfl gN0 ?_) | (refine z71 (i := 1) rfl gN1 ?_) | (apply And.intro; first | omega | (unfold inI; omega) | (dsimp only; omega) | ((try dsimp only); simp only [List.length_map, List.length_take, List.length_append, List.length_replicate, List.length_cons, List.length_nil]; omega) | exact z6 (fun _ => rfl) | exact ⟨rfl, z12 rfl z18⟩ | exact ⟨rfl, z6 (fun _ => rfl) _⟩ | exact ⟨⟨rfl, by omega⟩, z6 (fun _ => rfl) _⟩) | ((first | (with_reducible apply z8; omega) | (with_reducible apply z19; omega) | (apply z8; omega)); intro _) | (apply z20; omega) | apply z27 | (apply z26; omega; intro _) | ((first | apply z25 | apply z17 | apply z24 | apply z35 | apply z15 | apply z10 | apply z16 | apply z23) <;> intro _) | (apply z48 (cs); rfl; rfl)) <;> conv => whnf)
          all_goals first | (exfalso; omega) | kernel_rfl | (exfalso; contradiction) | (exfalso; first | exact absurd (h7 (by assumption)) (by decide) | exact absurd (h10 (by assumption)) (by decide) | exact absurd (h8 (by assumption)) (by decide) | exact absurd (h11 (by assumption)) (by decide) | exact absurd (h4 (by assumption)) (by decide) | exact absurd (h5 (by assumption)) (by decide) | exact absurd (h3 (by assumption)) (by decide)) | skip
          all_goals refine z111 (i + 1) (by omega) (by omega) (by refine SealW.reach [0, 1, 2] [] rfl rfl rfl rfl ?_ ?_ <;> (repeat' (first | exact LocLe.refl _ | exact z37 | (refine z61 ?_; assumption) | exact z44 | exact F2.nil | apply F2.cons | exact z57 _ | exact z49 _ | exact z77 | exact f22_cs' | (refine z72 ?_; omega) | (refine z75 ?_; omega) | (refine z32 ?_; omega) | (refine z76 ?_; omega) | (refine z54 ?_; (first | omega | (simp; done) | (simp; omega))) | apply ObjLe.box | ((first | refine z42 rfl ?_ ?_ | refine z43 rfl rfl ?_ ?_ | refine z51 rfl ?_ ?_ | refine z33 rfl ?_ ?_); (focus ((repeat' (first | exact z9 | exact z5 rfl | exact z4 (fun _ => rfl) | exact z4 Tree.co_flat | exact z39 rfl z9 | apply z7 | apply z13 | (refine z45 ?_ _ rfl) | assumption)); done))) | (refine z33 rfl ?_ ?_; (focus (refine z22 ?_ ?_ rfl <;> first | (simp; omega) | (apply z13; exact z4 fun _ => rfl)))) | (refine z30 ?_ ?_; (focus (simp; omega))) | (refine z78 (by omega) (by omega) ?_) | (refine z74 (by omega) ?_) | (refine z60 (by omega) ?_) | (refine z62 ?_; (first | omega | (simp; done))) | (refine z59 ?_ ?_; (focus (first | omega | (simp; done)))) | (refine z64 ?_ ?_; (focus (simp; done))) | (refine z63 ?_) | ((first | apply z50 rfl rfl rfl | apply z41 rfl rfl rfl); (focus ((repeat (first | exact z38 (fun _ => rfl) _ | exact z36 _ | apply z40 | apply z52 | apply z53 | rfl)); done)); (focus ((first | rfl | (simp; omega) | (simp; done)); done))) | apply z73 | apply z70 | (apply z31; rfl) | (refine z31 ?_ ?_; (focus (simp; done))) | apply ObjLe.mk | exact True.intro | apply And.intro)))
      · repeat' ((first | (apply AWP.go ok; rfl) | (apply z34; kernel_rfl) | (apply And.intro; first | omega | (unfold inI; omega) | (dsimp only; omega) | ((try dsimp only); simp only [List.length_map, List.length_take, List.length_append, List.length_replicate, List.length_cons, List.length_nil]; omega) | exact z6 (fun _ => rfl) | exact ⟨rfl, z12 rfl z18⟩ | exact ⟨rfl, z6 (fun _ => rfl) _⟩ | exact ⟨⟨rfl, by omega⟩, z6 (fun _ => rfl) _⟩) | ((first | (with_reducible apply z8; omega) | (with_reducible apply z19; omega) | (apply z8; omega)); intro _) | (apply z20; omega) | apply z27 | (apply z26; omega; intro _) | ((first | apply z25 | apply z17 | apply z24 | apply z35 | apply z15 | apply z10 | apply z16 | apply z23) <;> intro _)) <;> conv => whnf)
        all_goals first | (exfalso; omega) | skip
        all_goals refine RetS.lay [] [] rfl rfl rfl ?_
        all_goals exact RetS.done (z717 (by rw [decide_eq_true]; omega)) .nil
  · rw [(Bool.not_eq_true _).mp h0] at k1 k2
    generalize brL g l f = S at *
    refine z69 z81 Tryz.func3 rfl rfl 242 Tryz.ntmps3 (by simp) ?_
    repeat' ((first | (apply AWP.go ok; rfl) | (apply z34; kernel_rfl) | (apply And.intro; first | omega | (unfold inI; omega) | (dsimp only; omega) | ((try dsimp only); simp only [List.length_map, List.length_take, List.length_append, List.length_replicate, List.length_cons, List.length_nil]; omega) | exact z6 (fun _ => rfl) | exact ⟨rfl, z12 rfl z18⟩ | exact ⟨rfl, z6 (fun _ => rfl) _⟩ | exact ⟨⟨rfl, by omega⟩, z6 (fun _ => rfl) _⟩) | ((first | (with_reducible apply z8; omega) | (with_reducible apply z19; omega) | (apply z8; omega)); intro _) | (apply z20; omega) | apply z27 | (apply z26; omega; intro _) | ((first | apply z25 | apply z17 | apply z24 | apply z35 | apply z15 | apply z10 | apply z16 | apply z23) <;> intro _) | (apply z48 (cd); rfl; rfl) | (apply z48 (k1); rfl; rfl) | (apply z48 (k2); rfl; rfl) | (apply z48 (k3); rfl; rfl)) <;> conv => whnf)
    all_goals first | (exfalso; omega) | (exfalso; contradiction) | (refine RetS.lay [] [] rfl rfl rfl ?_; refine RetS.done ?_ ?_ <;> (repeat' (first | exact LocLe.refl _ | exact z37 | (refine z61 ?_; assumption) | exact z44 | exact F2.nil | apply F2.cons | exact z57 _ | exact z49 _ | exact z77 | exact f22_cs' | (refine z72 ?_; omega) | (refine z75 ?_; omega) | (refine z32 ?_; omega) | (refine z76 ?_; omega) | (refine z54 ?_; (first | omega | (simp; done) | (simp; omega))) | apply ObjLe.box | ((first | refine z42 rfl ?_ ?_ | refine z43 rfl rfl ?_ ?_ | refine z51 rfl ?_ ?_ | refine z33 rfl ?_ ?_); (focus ((repeat' (first | exact z9 | exact z5 rfl | exact z4 (fun _ => rfl) | exact z4 Tree.co_flat | exact z39 rfl z9 | apply z7 | apply z13 | (refine z45 ?_ _ rfl) | assumption)); done))) | (refine z33 rfl ?_ ?_; (focus (refine z22 ?_ ?_ rfl <;> first | (simp; omega) | (apply z13; exact z4 fun _ => rfl)))) | (refine z30 ?_ ?_; (focus (simp; omega))) | (refine z78 (by omega) (by omega) ?_) | (refine z74 (by omega) ?_) | (refine z60 (by omega) ?_) | (refine z62 ?_; (first | omega | (simp; done))) | (refine z59 ?_ ?_; (focus (first | omega | (simp; done)))) | (refine z64 ?_ ?_; (focus (simp; done))) | (refine z63 ?_) | ((first | apply z50 rfl rfl rfl | apply z41 rfl rfl rfl); (focus ((repeat (first | exact z38 (fun _ => rfl) _ | exact z36 _ | apply z40 | apply z52 | apply z53 | rfl)); done)); (focus ((first | rfl | (simp; omega) | (simp; done)); done))) | apply z73 | apply z70 | (apply z31; rfl) | (refine z31 ?_ ?_; (focus (simp; done))) | apply ObjLe.mk | exact True.intro | apply And.intro))) | skip
end Go.Proofs.YtkophaoifmofdaaGreat

namespace Go.Proofs.YtkophaoifmofdaaGreat
open Go.Gl
open Go.ChangeShapes Go.WideShapes Go.ChangeAt Go.RowKit
attribute [local irreducible] z84 AWP z97 z107 z101
namespace FnBranchingStates
theorem args_ok : ArgsOk Tryz.prog Tryz.f3.params.toList (fun xs _ => ∃ (c : List Int), xs = [lst 1 enU c] ∧ CodeOk c) := by
  rw [Tryz.params3]
  refine ArgsOk.imp (z724 ad_code (args_nil)) ?_
  rintro xs m ⟨c, _, rfl, hc, rfl⟩
  exact ⟨c, rfl, hc⟩
set_option maxRecDepth 100000 in
theorem contract (H : Type) (enc : TypeId × Value → H) (W : World) (base : Nat) (args : Array Value) (ds gs : List (DataW H)) (before : List MemPlace)
    (hval : ∀ (j : Nat) t v, Tryz.f3.params[j]? = some t → args[j]? = some v → Value.okWide Tryz.prog W .any base t v)
    (hW : DataW.Whole enc Tryz.prog Tryz.f3.params.toList Rows.fnBranchingStatesSpec.vars false W args.toList ds gs before) :
    Calls Tryz.prog 3 args W fun e W' => ∃ v, e = .returned v ∧ Rows.fnBranchingStatesSpec.post enc Tryz.prog Tryz.f3 false true false false W args v W' := by
  refine law_post z570 z628 (by rw [Tryz.params3]; decide +kernel) rfl (fun ds h => ?_) (by kernel_rfl) Tryz.underlying4 args_ok (fun xs m h _ => ?_) hval hW
  · rw [Tryz.params3] at h
    match ds, h with
    | [_], _ => rfl
  · obtain ⟨c, rfl, hc⟩ := h
    exact z248 c hc
noncomputable def w0 (os : Os) : World := World.holding Tryz.prog os ⟨#[], #[], []⟩
def zeros : Array Value := #[.slice none 0 0]
theorem reads (os : Os) {H : Type} (enc : TypeId × Value → H) : ∃ places, DataW.whole enc Tryz.prog ((w0 os).forCall (fun _ _ => 0) ⟨#[], zeros, []⟩).memory Tryz.f3.params.toList Rows.fnBranchingStatesSpec.vars false zeros.toList 8 = some ([.nil], [], places) :=
  ⟨[], by kernel_rfl⟩
set_option maxRecDepth 100000 in
theorem lifted (os : Os) (started : os.Started) (H : Type) (enc : TypeId × Value → H) (F : Stop.Interp) :
    ReturnsInHanded {} Tryz.checked os 3 .any ((OpenSpec.ofChange Rows.fnBranchingStatesSpec).preRow enc Tryz.prog Tryz.f3 Rows.fnBranchingStatesRow.domain false Rows.fnBranchingStatesRow.laid) (((OpenSpec.ofChange Rows.fnBranchingStatesSpec).at F).post enc Tryz.prog Tryz.f3 false true false false) := by
  obtain ⟨places, hx⟩ := reads os enc
  refine returnsInHanded_of_row (C := Tryz.checked) (s := OpenSpec.ofChange Rows.fnBranchingStatesSpec) own started (by kernel_rfl) Tryz.func3
    (witness_row_at (enc := enc) (C := Tryz.checked) false (w0 os) zeros rfl (by kernel_rfl) (by kernel_rfl) (by kernel_rfl)
      (OpenSpec.preRow_of_cond 8 hx (by kernel_rfl) (fun k hk => by cases hk) (by kernel_rfl) (laidMetH_nil _ _))) ?_
  intro W base args ds gs before hval hW _ _ _ _ _ _
  exact contract H enc W base args ds gs before hval hW
set_option maxHeartbeats 40000000 in
set_option maxRecDepth 100000 in
theorem closed : joinedFacts Tryz.prog 3 Tryz.f3 (OpenSpec.ofChange Rows.fnBranchingStatesSpec).bare Rows.fnBranchingStatesRow = true := by
  unfold joinedFacts
  repeat' (with_reducible apply and_mk)
  all_goals (as_aux_lemma => kernel_rfl)
theorem proved : Rows.FnBranchingStatesSaid :=
  OpenClaim.holds_of_cond 3 Tryz.f3 rfl rfl rfl rfl rfl rfl rfl ⟨rfl, rfl, rfl, rfl, rfl⟩ rfl rfl rfl rfl rfl (by kernel_rfl) Tryz.func3 closed
    (of_decide_eq_true (by kernel_rfl)) (by unfold Func.isWrapper; first | (rw [if_pos (by decide +kernel)]; kernel_rfl) | (rw [if_neg (by decide +kernel)]; exact ⟨rfl, rfl⟩))
    (fun os started H enc _ F => by rw [OpenClaim.pre_eq_preRow]; exact lifted os started H enc F)
end FnBranchingStates
end Go.Proofs.YtkophaoifmofdaaGreat

