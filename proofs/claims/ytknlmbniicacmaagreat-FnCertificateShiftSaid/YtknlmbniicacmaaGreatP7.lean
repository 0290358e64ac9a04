/- A part of the proofs over this program: T155, T156, T157, T158, T159, T160, T94W, T29, T94K, T161, T162, T163. -/
import Derived.Test.YtknlmbniicacmaaGreatG0
import Derived.Test.YtknlmbniicacmaaGreatG1
import Derived.Test.YtknlmbniicacmaaGreatG2
import Derived.Test.YtknlmbniicacmaaGreatG3
import Derived.Test.YtknlmbniicacmaaGreatP0
import Derived.Test.YtknlmbniicacmaaGreatP1
import Derived.Test.YtknlmbniicacmaaGreatP2
import Derived.Test.YtknlmbniicacmaaGreatP3
import Derived.Test.YtknlmbniicacmaaGreatP4
import Derived.Test.YtknlmbniicacmaaGreatP5
import Derived.Test.YtknlmbniicacmaaGreatP6
import Derived.Test.YtknlmbniicacmaaGreatRows
import Derived.WalkKit
import Derived.ProofKit
import Derived.Deep.DeepHandedRow
import Derived.Lib.LaidTab
set_option linter.all false
namespace Go.Proofs.YtknlmbniicacmaaGreat
open Go.Gl
attribute [local irreducible] z48 AWP z76 z84 z81 RetS z103

def Aut.sm (a : Aut) : Prop := a.ini.length ≤ 40 ∧ a.acc.length ≤ 20 ∧ a.ed.length ≤ 2100 ∧ ∀ t ∈ a.ed, t.mx
set_option maxHeartbeats 6400000 in
theorem l7Mutate_ok (bs : List Int) (hb : BytesOk bs) (p : Int) (hp : few p) (a : Aut) (ha : a.ini.length ≤ 32 ∧ a.acc.length ≤ 16 ∧ a.ed.length ≤ 2080 ∧ ∀ t ∈ a.ed, t.mx) : ∃ (a' : Aut) (p' : Int), (a'.sm ∧ p ≤ p' ∧ p' ≤ p + 2) ∧
    CallsA Tryz.prog 148 [.ptr 0 none 0, .agg a.cs] [rdO bs p] (.agg [.sref 1 0 a'.ini.length, .sref 2 0 a'.acc.length, .sref 3 0 a'.ed.length]) [rdO bs p', .cells 1 (a'.ini.map enI), .cells 1 (a'.acc.map enB), .cells 4 (a'.ed.map Trans.cs)] := by
  obtain ⟨h1, h2, h3, h4⟩ := ha
  obtain ⟨v, ⟨v0, v1⟩, cv⟩ := z74 bs hb p 40 (by omega) (by omega) (by omega)
  by_cases e0 : v = 0
  · subst e0
    obtain ⟨x, mx, cx⟩ := z117 bs hb (p + 1) (by omega) (by omega) [0, -1, 64, 3] (by decide) (by decide)
    refine ⟨⟨a.ini ++ [x], a.acc, a.ed⟩, p + 1 + 1, ⟨⟨by simp; omega, by show a.acc.length ≤ 20; omega, by show a.ed.length ≤ 2100; omega, h4⟩, by omega, by omega⟩, ?_⟩
    refine z14 z29 Tryz.func148 rfl rfl 78 Tryz.ntmps148 (by simp) ?_
    repeat' ((first | (apply AWP.go ok; rfl) | (apply z38; kernel_rfl) | (apply And.intro; first | (dsimp only; omega) | ((try dsimp only); simp only [List.length_map, List.length_take, List.length_append, List.length_replicate, List.length_cons, List.length_nil]; omega) | exact z18 (fun _ => rfl) | exact ⟨rfl, z21 rfl z26⟩) | ((first | (apply z7 [0] [] [] (cv); rfl; (focus ((repeat' first | exact z6 | apply z5) <;> rfl))) | (apply z7 [0, 10] [] [] (cx); rfl; (focus ((repeat' first | exact z6 | apply z5) <;> rfl)))); rfl; rfl; rfl; rfl; rfl; (focus ((repeat' first | exact z19 | apply z16) <;> first | exact z25 rfl rfl | (refine z34 ?_; ((exact z4 fun _ => rfl))))); (exact .inl rfl))) <;> conv => whnf)
    all_goals skip
    all_goals (refine RetS.lay [0, 12, 6, 8] [] rfl rfl rfl ?_; refine RetS.done ?_ ?_ <;> (repeat' (first | exact LocLe.refl _ | exact F2.nil | apply F2.cons | exact z20 _ | (refine z37 ?_; ((simp; done))) | apply ObjLe.box | ((first | refine z24 rfl ?_ ?_ | refine z17 rfl ?_ ?_); (focus ((repeat' (first | exact z4 (fun _ => rfl) | apply z15)); done))) | (refine z64 ?_ ?_; (focus (omega))) | apply z42)))
  by_cases e3 : v = 3
  · subst e3
    refine ⟨⟨[], [], []⟩, p + 1, ⟨⟨Nat.zero_le _, Nat.zero_le _, Nat.zero_le _, fun t ht => by cases ht⟩, by omega, by omega⟩, ?_⟩
    refine z14 z29 Tryz.func148 rfl rfl 78 Tryz.ntmps148 (by simp) ?_
    repeat' ((first | (apply AWP.go ok; rfl) | (apply z38; kernel_rfl) | (apply And.intro; first | (dsimp only; omega) | exact z18 (fun _ => rfl)) | (((apply z7 [0] [] [] (cv); rfl; (focus ((repeat' first | exact z6 | apply z5) <;> rfl)))); rfl; rfl; rfl; rfl; rfl; (focus ((repeat' first | exact z19 | apply z16) <;> exact z25 rfl rfl)); (exact .inl rfl))) <;> conv => whnf)
    all_goals skip
    all_goals (refine RetS.empty 1 ?_; refine RetS.empty 1 ?_; refine RetS.empty 4 ?_; refine RetS.lay [0, 10, 11, 12] [] rfl rfl rfl ?_; refine RetS.done ?_ ?_ <;> (repeat' (first | exact LocLe.refl _ | exact z40 | exact F2.nil | apply F2.cons | apply ObjLe.box | ((refine z17 rfl ?_ ?_); (focus ((repeat' (exact z12)); done))) | apply z42)))
  by_cases e1 : v = 1
  · subst e1
    by_cases he : 0 < a.ed.length
    · obtain ⟨x, mx, cx⟩ := z117 bs hb (p + 1) (by omega) (by omega) [8, -1, 7] (by decide) (by decide)
      have hi : 0 < a.ed.length := by omega
      have g0 : (a.ed.map Trans.cs)[0]? = some (Trans.cs a.ed[0]) := by rw [List.getElem?_map, List.getElem?_eq_getElem hi]; rfl
      refine ⟨⟨a.ini, a.acc, a.ed.set 0 ⟨a.ed[0].src, a.ed[0].care, x, a.ed[0].dst⟩⟩, p + 1 + 1, ⟨⟨by show a.ini.length ≤ 40; omega, by show a.acc.length ≤ 20; omega, by simp; omega, fun t ht => by
        rcases List.mem_or_eq_of_mem_set ht with h | rfl
        · exact h4 t h
        · have := h4 _ (List.getElem_mem hi)
          unfold Trans.mx inI at *
          simp only [List.mem_cons, List.not_mem_nil, or_false] at mx
          dsimp only
          omega⟩, by omega, by omega⟩, ?_⟩
      generalize a.ed[0] = e at *
      refine z14 z29 Tryz.func148 rfl rfl 78 Tryz.ntmps148 (by simp) ?_
      repeat' ((first | (apply AWP.go ok; rfl) | (apply z38; kernel_rfl) | (refine z43 (i := 0) (by simp; try omega) g0 ?_) | (apply And.intro; first | omega | (dsimp only; omega) | exact z18 (fun _ => rfl)) | ((apply z8) <;> intro _) | ((first | (apply z7 [0] [] [] (cv); rfl; (focus ((repeat' first | exact z6 | apply z5) <;> rfl))) | (apply z7 [0, 10] [] [] (cx); rfl; (focus ((repeat' first | exact z6 | apply z5) <;> rfl)))); rfl; rfl; rfl; rfl; rfl; (focus ((repeat' first | exact z19 | apply z16) <;> first | exact z25 rfl rfl | (refine z34 ?_; ((exact z4 fun _ => rfl))))); (exact .inl rfl))) <;> conv => whnf)
      all_goals first | (exfalso; omega) | skip
      all_goals (refine RetS.lay [0, 4, 6, 8] [] rfl rfl rfl ?_; refine RetS.done ?_ ?_ <;> (repeat' (first | exact LocLe.refl _ | exact F2.nil | apply F2.cons | exact z20 _ | (refine z37 ?_; ((simp; done))) | apply ObjLe.box | ((first | refine z51 rfl ?_ ?_ | refine z17 rfl ?_ ?_); (focus ((repeat' ((exact z4 (fun _ => rfl)))); done))) | (refine z95 (by omega) ?_) | apply z42)))
      all_goals trace_state
    · refine ⟨a, p + 1, ⟨⟨by omega, by omega, by omega, h4⟩, by omega, by omega⟩, ?_⟩
      refine z14 z29 Tryz.func148 rfl rfl 78 Tryz.ntmps148 (by simp) ?_
      repeat' ((first | (apply AWP.go ok; rfl) | (apply z38; kernel_rfl) | (apply And.intro; first | (dsimp only; omega) | exact z18 (fun _ => rfl)) | ((apply z8) <;> intro _) | (((apply z7 [0] [] [] (cv); rfl; (focus ((repeat' first | exact z6 | apply z5) <;> rfl)))); rfl; rfl; rfl; rfl; rfl; (focus ((repeat' first | exact z19 | apply z16) <;> exact z25 rfl rfl)); (exact .inl rfl))) <;> conv => whnf)
      all_goals first | (exfalso; omega) | skip
      all_goals (refine RetS.lay [0, 4, 6, 8] [] rfl rfl rfl ?_; refine RetS.done ?_ ?_ <;> (repeat' (first | exact LocLe.refl _ | exact F2.nil | apply F2.cons | exact z20 _ | (refine z37 ?_; (omega)) | apply ObjLe.box | ((refine z17 rfl ?_ ?_); (focus ((repeat' ((exact z4 (fun _ => rfl)))); done))) | apply z42)))
  by_cases e2 : v = 2
  · subst e2
    by_cases he : 0 < a.ed.length
    · obtain ⟨x, mx, cx⟩ := z117 bs hb (p + 1) (by omega) (by omega) [-1, 0, 64, 9223372036854775807] (by decide) (by decide)
      have hi : 0 < a.ed.length := by omega
      have g0 : (a.ed.map Trans.cs)[0]? = some (Trans.cs a.ed[0]) := by rw [List.getElem?_map, List.getElem?_eq_getElem hi]; rfl
      refine ⟨⟨a.ini, a.acc, a.ed.set 0 ⟨a.ed[0].src, a.ed[0].care, a.ed[0].val, x⟩⟩, p + 1 + 1, ⟨⟨by show a.ini.length ≤ 40; omega, by show a.acc.length ≤ 20; omega, by simp; omega, fun t ht => by
        rcases List.mem_or_eq_of_mem_set ht with h | rfl
        · exact h4 t h
        · have := h4 _ (List.getElem_mem hi)
          unfold Trans.mx inI at *
          simp only [List.mem_cons, List.not_mem_nil, or_false] at mx
          dsimp only
          omega⟩, by omega, by omega⟩, ?_⟩
      generalize a.ed[0] = e at *
      refine z14 z29 Tryz.func148 rfl rfl 78 Tryz.ntmps148 (by simp) ?_
      repeat' ((first | (apply AWP.go ok; rfl) | (apply z38; kernel_rfl) | (refine z43 (i := 0) (by simp; try omega) g0 ?_) | (apply And.intro; first | omega | (dsimp only; omega) | exact z18 (fun _ => rfl)) | ((apply z8) <;> intro _) | ((first | (apply z7 [0] [] [] (cv); rfl; (focus ((repeat' first | exact z6 | apply z5) <;> rfl))) | (apply z7 [0, 10] [] [] (cx); rfl; (focus ((repeat' first | exact z6 | apply z5) <;> rfl)))); rfl; rfl; rfl; rfl; rfl; (focus ((repeat' first | exact z19 | apply z16) <;> first | exact z25 rfl rfl | (refine z34 ?_; ((exact z4 fun _ => rfl))))); (exact .inl rfl))) <;> conv => whnf)
      all_goals first | (exfalso; omega) | skip
      all_goals (refine RetS.lay [0, 4, 6, 8] [] rfl rfl rfl ?_; refine RetS.done ?_ ?_ <;> (repeat' (first | exact LocLe.refl _ | exact F2.nil | apply F2.cons | exact z20 _ | (refine z37 ?_; ((simp; done))) | apply ObjLe.box | ((first | refine z51 rfl ?_ ?_ | refine z17 rfl ?_ ?_); (focus ((repeat' ((exact z4 (fun _ => rfl)))); done))) | (refine z95 (by omega) ?_) | apply z42)))
      all_goals trace_state
    · refine ⟨a, p + 1, ⟨⟨by omega, by omega, by omega, h4⟩, by omega, by omega⟩, ?_⟩
      refine z14 z29 Tryz.func148 rfl rfl 78 Tryz.ntmps148 (by simp) ?_
      repeat' ((first | (apply AWP.go ok; rfl) | (apply z38; kernel_rfl) | (apply And.intro; first | (dsimp only; omega) | exact z18 (fun _ => rfl)) | ((apply z8) <;> intro _) | (((apply z7 [0] [] [] (cv); rfl; (focus ((repeat' first | exact z6 | apply z5) <;> rfl)))); rfl; rfl; rfl; rfl; rfl; (focus ((repeat' first | exact z19 | apply z16) <;> exact z25 rfl rfl)); (exact .inl rfl))) <;> conv => whnf)
      all_goals first | (exfalso; omega) | skip
      all_goals (refine RetS.lay [0, 4, 6, 8] [] rfl rfl rfl ?_; refine RetS.done ?_ ?_ <;> (repeat' (first | exact LocLe.refl _ | exact F2.nil | apply F2.cons | exact z20 _ | (refine z37 ?_; (omega)) | apply ObjLe.box | ((refine z17 rfl ?_ ?_); (focus ((repeat' ((exact z4 (fun _ => rfl)))); done))) | apply z42)))
  by_cases e4 : v = 4
  · subst e4
    by_cases he : 0 < a.ed.length
    · obtain ⟨x, mx, cx⟩ := z117 bs hb (p + 1) (by omega) (by omega) [8, -1, 0] (by decide) (by decide)
      have hi : (a.ed.length - 1) < a.ed.length := by omega
      have g0 : (a.ed.map Trans.cs)[(a.ed.length - 1)]? = some (Trans.cs a.ed[(a.ed.length - 1)]) := by rw [List.getElem?_map, List.getElem?_eq_getElem hi]; rfl
      refine ⟨⟨a.ini, a.acc, a.ed.set (a.ed.length - 1) ⟨a.ed[(a.ed.length - 1)].src, x, a.ed[(a.ed.length - 1)].val, a.ed[(a.ed.length - 1)].dst⟩⟩, p + 1 + 1, ⟨⟨by show a.ini.length ≤ 40; omega, by show a.acc.length ≤ 20; omega, by simp; omega, fun t ht => by
        rcases List.mem_or_eq_of_mem_set ht with h | rfl
        · exact h4 t h
        · have := h4 _ (List.getElem_mem hi)
          unfold Trans.mx inI at *
          simp only [List.mem_cons, List.not_mem_nil, or_false] at mx
          dsimp only
          omega⟩, by omega, by omega⟩, ?_⟩
      generalize a.ed[(a.ed.length - 1)] = e at *
      refine z14 z29 Tryz.func148 rfl rfl 78 Tryz.ntmps148 (by simp) ?_
      repeat' ((first | (apply AWP.go ok; rfl) | (apply z38; kernel_rfl) | (refine z43 (i := (a.ed.length - 1)) (by simp; try omega) g0 ?_) | (apply And.intro; first | omega | (unfold inI; omega) | (dsimp only; omega) | exact z18 (fun _ => rfl)) | ((apply z8) <;> intro _) | ((first | (apply z7 [0] [] [] (cv); rfl; (focus ((repeat' first | exact z6 | apply z5) <;> rfl))) | (apply z7 [0, 10] [] [] (cx); rfl; (focus ((repeat' first | exact z6 | apply z5) <;> rfl)))); rfl; rfl; rfl; rfl; rfl; (focus ((repeat' first | exact z19 | apply z16) <;> first | exact z25 rfl rfl | (refine z34 ?_; ((exact z4 fun _ => rfl))))); (exact .inl rfl))) <;> conv => whnf)
      all_goals first | (exfalso; omega) | skip
      all_goals (refine RetS.lay [0, 4, 6, 8] [] rfl rfl rfl ?_; refine RetS.done ?_ ?_ <;> (repeat' (first | exact LocLe.refl _ | exact F2.nil | apply F2.cons | exact z20 _ | (refine z37 ?_; ((simp; done))) | apply ObjLe.box | ((first | refine z51 rfl ?_ ?_ | refine z17 rfl ?_ ?_); (focus ((repeat' ((exact z4 (fun _ => rfl)))); done))) | (refine z95 (by omega) ?_) | apply z42)))
      all_goals trace_state
    · refine ⟨a, p + 1, ⟨⟨by omega, by omega, by omega, h4⟩, by omega, by omega⟩, ?_⟩
      refine z14 z29 Tryz.func148 rfl rfl 78 Tryz.ntmps148 (by simp) ?_
      repeat' ((first | (apply AWP.go ok; rfl) | (apply z38; kernel_rfl) | (apply And.intro; first | omega | (dsimp only; omega) | exact z18 (fun _ => rfl)) | ((apply z8) <;> intro _) | (((apply z7 [0] [] [] (cv); rfl; (focus ((repeat' first | exact z6 | apply z5) <;> rfl)))); rfl; rfl; rfl; rfl; rfl; (focus ((repeat' first | exact z19 | apply z16) <;> exact z25 rfl rfl)); (exact .inl rfl))) <;> conv => whnf)
      all_goals first | (exfalso; omega) | skip
      all_goals (refine RetS.lay [0, 4, 6, 8] [] rfl rfl rfl ?_; refine RetS.done ?_ ?_ <;> (repeat' (first | exact LocLe.refl _ | exact F2.nil | apply F2.cons | exact z20 _ | (refine z37 ?_; (omega)) | apply ObjLe.box | ((refine z17 rfl ?_ ?_); (focus ((repeat' ((exact z4 (fun _ => rfl)))); done))) | apply z42)))
  refine ⟨a, p + 1, ⟨⟨by omega, by omega, by omega, h4⟩, by omega, by omega⟩, ?_⟩
  refine z14 z29 Tryz.func148 rfl rfl 78 Tryz.ntmps148 (by simp) ?_
  repeat' ((first | (apply AWP.go ok; rfl) | (apply z38; kernel_rfl) | (apply And.intro; first | omega | (dsimp only; omega) | exact z18 (fun _ => rfl)) | ((apply z8) <;> intro _) | (((apply z7 [0] [] [] (cv); rfl; (focus ((repeat' first | exact z6 | apply z5) <;> rfl)))); rfl; rfl; rfl; rfl; rfl; (focus ((repeat' first | exact z19 | apply z16) <;> exact z25 rfl rfl)); (exact .inl rfl))) <;> conv => whnf)
  all_goals first | (exfalso; omega) | skip
  all_goals (refine RetS.lay [0, 4, 6, 8] [] rfl rfl rfl ?_; refine RetS.done ?_ ?_ <;> (repeat' (first | exact LocLe.refl _ | exact F2.nil | apply F2.cons | exact z20 _ | (refine z37 ?_; (omega)) | apply ObjLe.box | ((refine z17 rfl ?_ ?_); (focus ((repeat' ((exact z4 (fun _ => rfl)))); done))) | apply z42)))
end Go.Proofs.YtknlmbniicacmaaGreat

namespace Go.Proofs.YtknlmbniicacmaaGreat
open Go.Gl
attribute [local irreducible] z48 AWP z76 z84 z81 RetS z103

def mixB (z a : List Bool) (k : Nat) : List Bool := z.take k ++ a.drop k
theorem mixB_len {z a : List Bool} {k : Nat} (h : z.length = a.length) (hk : k ≤ a.length) : (mixB z a k).length = a.length := by unfold mixB; simp; omega
theorem mixB_set {z a : List Bool} {k : Nat} (h : k < z.length) (ha : k < a.length) {x : Bool} (hx : z[k] = x) : (mixB z a k).set k x = mixB z a (k + 1) := by
  subst hx
  unfold mixB
  rw [List.drop_eq_getElem_cons ha, List.set_append_right _ _ (by simp; omega)]
  simp only [List.length_take]
  rw [show k - min k z.length = 0 by omega, List.set_cons_zero, List.take_succ_eq_append_getElem h, List.append_assoc, List.singleton_append]
theorem mixB_get {z a : List Bool} {k : Nat} (h : k ≤ z.length) (ha : k < a.length) : ((mixB z a k).map enB)[k]? = some (enB a[k]) := by
  unfold mixB
  rw [List.map_append, List.getElem?_append_right (by simp; omega)]
  simp only [List.length_map, List.length_take]
  rw [show k - min k z.length = 0 by omega]
  simp [ha]
def isAc (bs : List Int) (b : Bool) (q : Int) (z : Bool) (q' : Int) : Prop := (b = false ∧ z = false ∧ q' = q) ∨ (b = true ∧ ∃ c : Int, CallsA Tryz.prog 73 [.ptr 0 none 0, .int 3] [rdO bs q] (.int c) [rdO bs (q + 1)] ∧ z = decide (c = 0) ∧ q' = q + 1)
theorem isAc_ex (bs : List Int) (hb : BytesOk bs) (b : Bool) (q : Int) (hq : 0 ≤ q ∧ q ≤ 999999000) : ∃ z q', isAc bs b q z q' ∧ q ≤ q' ∧ q' ≤ q + 1 := by
  cases b
  · exact ⟨false, q, .inl ⟨rfl, rfl, rfl⟩, by omega, by omega⟩
  · obtain ⟨c, _, cc⟩ := z74 bs hb q 3 (by omega) (by omega) (by omega)
    exact ⟨decide (c = 0), q + 1, .inr ⟨rfl, c, cc, rfl, rfl⟩, by omega, by omega⟩
set_option maxHeartbeats 6400000 in
theorem l9Small_ok (bs : List Int) (hb : BytesOk bs) (p : Int) (hp : 0 ≤ p ∧ p ≤ 990000000) : ∃ (g : Graph) (l : List Tree) (a : Aut) (p' : Int), (g.d ∧ Lab.d l ∧ a.sm ∧ p ≤ p' ∧ p' ≤ p + 20000) ∧
    CallsA Tryz.prog 72 [.ptr 0 none 0] [rdO bs p] (.tup [.agg g.cs, lst 3 Tree.cs' l, .agg a.cs]) [rdO bs p'] := by
  obtain ⟨l, p1, ⟨l1, l2, l3, l4⟩, c1⟩ := l8Labels_ok bs hb p ⟨by omega, by omega⟩
  obtain ⟨a0, p2, ⟨a1, a2, a3, a4, a5, a6⟩, c2⟩ := l7Automaton_ok bs hb p1 ⟨by omega, by omega⟩
  obtain ⟨w, ⟨w0, w1⟩, cw⟩ := z74 bs hb p2 2 (by omega) (by omega) (by omega)
  by_cases hw : w = 0
  · subst hw
    obtain ⟨zs, pf, h1, h2, h3, h4⟩ := seq_ex (fun k r z r' => isAc bs (a0.acc.getD k false) r z r') (p2 + 1) 1 a0.acc.length (fun k r hk b1 b2 => isAc_ex bs hb _ r ⟨by omega, by omega⟩)
    have h5 := h4 _ (Nat.le_refl _)
    obtain ⟨g0, g, p3, p4, cg0, cg, hg, q1, q2⟩ := mutG_ok bs hb (pf a0.acc.length) ⟨by omega, by omega⟩
    obtain ⟨a', p5, ⟨b1, b2, b3⟩, cm⟩ := l7Mutate_ok bs hb p4 ⟨by omega, by omega⟩ ⟨a0.ini, zs, a0.ed⟩ ⟨a1, by show zs.length ≤ 16; omega, a3, a6⟩
    refine ⟨g, l, a', p5, ⟨hg, ⟨l1, l2⟩, b1, by omega, by omega⟩, ?_⟩
    refine z14 z29 Tryz.func72 rfl rfl 44 Tryz.ntmps72 (by simp) ?_
    rw [← h2] at cw
    repeat' ((first | (apply AWP.go ok; rfl) | ((first | (apply z7 [0] [] [] (c1); rfl; (focus ((repeat' first | exact z6 | apply z5) <;> rfl))) | (apply z7 [0] [] [3, 4, 5] (c2); rfl; (focus ((repeat' first | exact z6 | apply z5) <;> rfl))) | (apply z7 [0] [] [] (cw); rfl; (focus ((repeat' first | exact z6 | apply z5) <;> rfl)))); rfl; rfl; rfl; rfl; rfl; (focus ((repeat' first | exact z19 | apply z16) <;> first | exact z25 rfl rfl | (refine z34 ?_; ((exact z4 fun _ => rfl))))); (exact .inl rfl))) <;> conv => whnf)
    all_goals skip
    all_goals
      refine z115 (fun x : Nat × List Bool => ([(0, .ptr 0 none 0), (2, .ptr 1 none 0), (4, .ptr 2 none 0), (5, lst 3 Tree.cs' l), (6, .ptr 3 none 0), (7, .int x.1)], [rdO bs (pf x.1), .cells 2 [[.nils, .nils]], .cells 3 [[.nils, .nils, .nils]], .cells 3 [[.sref 4 0 a0.ini.length, .sref 5 0 x.2.length, .sref 6 0 a0.ed.length]], .cells 1 (a0.ini.map enI), .cells 1 (x.2.map enB), .cells 4 (a0.ed.map Trans.cs)])) (fun x => x.1 ≤ a0.acc.length ∧ x.2 = mixB zs a0.acc x.1) (fun x => a0.acc.length - x.1) (0, a0.acc) ⟨by show 0 ≤ a0.acc.length; omega, by show a0.acc = mixB zs a0.acc 0; simp [mixB]⟩ (by refine SealW.reach [0, 1, 2, 6, 3, 4, 5] [] rfl rfl rfl rfl ?_ ?_ <;> (repeat' (first | exact LocLe.refl _ | exact F2.nil | apply F2.cons | exact z20 _ | apply ObjLe.box | ((refine z17 rfl ?_ ?_); (focus ((repeat' ((exact z4 (fun _ => rfl)))); done))) | exact True.intro | apply And.intro))) ?_
      rintro ⟨k, A⟩ ⟨hk, hA⟩
      dsimp only at hk hA ⊢
      have hAl : A.length = a0.acc.length := by rw [hA]; exact mixB_len (by omega) hk
      by_cases hkn : k < a0.acc.length
      · have hkz : k < zs.length := by omega
        have hget := mixB_get (z := zs) (a := a0.acc) (k := k) (by omega) hkn
        have hA2l : (mixB zs a0.acc (k + 1)).length = a0.acc.length := mixB_len (by omega) (by omega)
        have H := h3 k hkz
        rw [z50 hkn] at H
        have hset := fun x h => mixB_set (a := a0.acc) hkz hkn (x := x) h
        rw [← hA] at hget hset
        have hset2 : ∀ x, zs[k] = x → (A.map enB).set k (enB x) = (mixB zs a0.acc (k + 1)).map enB := fun x h => by rw [← hset x h, List.map_set]
        generalize a0.acc[k] = b at *
        generalize zs[k] = z at *
        rcases H with ⟨rfl, rfl, eq⟩ | ⟨rfl, c, cc, rfl, eq⟩
        · rw [← eq]
          repeat' ((first | (apply AWP.go ok; rfl) | (apply z38; kernel_rfl) | (refine z43 (i := k) rfl hget ?_) | (apply And.intro; first | omega | (unfold inI; omega)) | ((apply z8) <;> intro _)) <;> conv => whnf)
          all_goals first | (exfalso; omega) | skip
          all_goals refine z49 (k + 1, mixB zs a0.acc (k + 1)) ⟨by show k + 1 ≤ a0.acc.length; omega, rfl⟩ (by show a0.acc.length - (k + 1) < a0.acc.length - k; omega) (by refine SealW.reach [0, 1, 2, 3, 4, 5, 6] [] rfl rfl rfl rfl ?_ ?_ <;> (repeat' (first | exact LocLe.refl _ | exact F2.nil | apply F2.cons | exact z20 _ | (refine z37 ?_; ((simp; omega))) | apply ObjLe.box | ((first | refine z51 rfl ?_ ?_ | refine z17 rfl ?_ ?_); (focus ((repeat' ((exact z4 (fun _ => rfl)))); done))) | exact True.intro | apply And.intro)) <;> (exact z82 (hset2 _ rfl)))
        · rw [← eq] at cc
          repeat' ((first | (apply AWP.go ok; rfl) | (apply z38; kernel_rfl) | (refine z43 (i := k) rfl hget ?_) | (apply And.intro; first | omega | (unfold inI; omega)) | ((apply z8) <;> intro _) | (((apply z7 [0] [] [] (cc); rfl; (focus ((repeat' first | exact z6 | apply z5) <;> rfl)))); rfl; rfl; rfl; rfl; rfl; (focus ((repeat' first | exact z19 | apply z16) <;> exact z25 rfl rfl)); (exact .inl rfl))) <;> conv => whnf)
          all_goals first | (exfalso; omega) | skip
          all_goals refine z49 (k + 1, mixB zs a0.acc (k + 1)) ⟨by show k + 1 ≤ a0.acc.length; omega, rfl⟩ (by show a0.acc.length - (k + 1) < a0.acc.length - k; omega) (by refine SealW.reach [0, 1, 2, 3, 4, 5, 6] [] rfl rfl rfl rfl ?_ ?_ <;> (repeat' (first | exact LocLe.refl _ | exact F2.nil | apply F2.cons | exact z20 _ | (refine z37 ?_; ((simp; omega))) | apply ObjLe.box | ((first | refine z51 rfl ?_ ?_ | refine z17 rfl ?_ ?_); (focus ((repeat' ((exact z4 (fun _ => rfl)))); done))) | exact True.intro | apply And.intro)) <;> (exact z82 (hset2 _ rfl)))
      · have e : a0.acc.length = k := by omega
        have hA2 : zs = A := by rw [hA]; unfold mixB; rw [List.take_of_length_le (by omega), List.drop_eq_nil_of_le (by omega), List.append_nil]
        rw [e] at cg0
        rw [hA2] at cm
        repeat' ((first | ((fail_if_success apply stopAt 8); (fail_if_success apply z147 8); apply AWP.go ok; rfl) | (apply z38; kernel_rfl) | (apply And.intro; omega) | (((apply z13; omega)); intro _) | ((first | apply z8 | apply z56) <;> intro _)) <;> conv => whnf)
        all_goals first | (exfalso; omega) | skip
        all_goals
          refine AWP.reach (SealW.reach (env := [(0, .ptr 0 none 0), (2, .ptr 1 none 0), (4, .ptr 2 none 0), (5, lst 3 Tree.cs' l), (6, .ptr 3 none 0)]) (objs := [rdO bs (pf k), .cells 2 [[.nils, .nils]], .cells 3 [[.nils, .nils, .nils]], .cells 3 [(Aut.mk a0.ini A a0.ed).cs]]) [0, 1, 2, 3] [4, 5, 6] rfl rfl rfl rfl ?_ ?_) ?_
          · (repeat' (first | exact LocLe.refl _ | exact True.intro | apply And.intro))
          · (repeat' (first | exact LocLe.refl _ | exact F2.nil | apply F2.cons | apply ObjLe.box | ((apply z27 rfl rfl rfl); (focus ((repeat ((exact z23 (fun _ => rfl) _))); done)); (focus (((simp; done)); done)))))
          conv => whnf
          repeat' ((first | (apply AWP.go ok; rfl) | (apply z38; kernel_rfl) | ((first | (apply z7 [0] [] [] (cg0); rfl; (focus ((repeat' first | exact z6 | apply z5) <;> rfl))) | (apply z7 [0] [] [] (cg); rfl; (focus ((repeat' first | exact z6 | apply z5) <;> rfl))) | (apply z7 [0] [] [4, 5, 6] (cm); rfl; (focus ((repeat' first | exact z6 | apply z5) <;> rfl)))); rfl; rfl; rfl; rfl; rfl; (focus ((repeat' first | exact z19 | apply z16) <;> first | exact z25 rfl rfl | (refine z34 ?_; ((exact z4 fun _ => rfl))))); (exact .inl rfl))) <;> conv => whnf)
          all_goals skip
          all_goals (refine RetS.lay [0] [4, 5, 6] rfl rfl rfl ?_; refine RetS.done ?_ ?_ <;> (repeat' (first | exact LocLe.refl _ | exact F2.nil | apply F2.cons | apply ObjLe.box | ((apply z27 rfl rfl rfl); (focus ((repeat ((exact z23 (fun _ => rfl) _))); done)); (focus (((simp; done)); done))) | apply z42 | apply z85)))
  · obtain ⟨g0, g, p3, p4, cg0, cg, hg, q1, q2⟩ := mutG_ok bs hb (p2 + 1) ⟨by omega, by omega⟩
    obtain ⟨a', p5, ⟨b1, b2, b3⟩, cm⟩ := l7Mutate_ok bs hb p4 ⟨by omega, by omega⟩ a0 ⟨a1, a2, a3, a6⟩
    refine ⟨g, l, a', p5, ⟨hg, ⟨l1, l2⟩, b1, by omega, by omega⟩, ?_⟩
    refine z14 z29 Tryz.func72 rfl rfl 44 Tryz.ntmps72 (by simp) ?_
    repeat' ((first | ((fail_if_success apply stopAt 8); (fail_if_success apply z147 8); apply AWP.go ok; rfl) | ((apply z8) <;> intro _) | ((first | (apply z7 [0] [] [] (c1); rfl; (focus ((repeat' first | exact z6 | apply z5) <;> rfl))) | (apply z7 [0] [] [3, 4, 5] (c2); rfl; (focus ((repeat' first | exact z6 | apply z5) <;> rfl))) | (apply z7 [0] [] [] (cw); rfl; (focus ((repeat' first | exact z6 | apply z5) <;> rfl)))); rfl; rfl; rfl; rfl; rfl; (focus ((repeat' first | exact z19 | apply z16) <;> first | exact z25 rfl rfl | (refine z34 ?_; ((exact z4 fun _ => rfl))))); (exact .inl rfl))) <;> conv => whnf)
    all_goals first | (exfalso; omega) | skip
    all_goals
      refine AWP.reach (SealW.reach (env := [(0, .ptr 0 none 0), (2, .ptr 1 none 0), (4, .ptr 2 none 0), (5, lst 3 Tree.cs' l), (6, .ptr 3 none 0)]) (objs := [rdO bs (p2 + 1), .cells 2 [[.nils, .nils]], .cells 3 [[.nils, .nils, .nils]], .cells 3 [a0.cs]]) [0, 1, 2, 6] [3, 4, 5] rfl rfl rfl rfl ?_ ?_) ?_
      · (repeat' (first | exact LocLe.refl _ | exact True.intro | apply And.intro))
      · (repeat' (first | exact LocLe.refl _ | exact F2.nil | apply F2.cons | apply ObjLe.box | ((apply z27 rfl rfl rfl); (focus ((repeat ((exact z23 (fun _ => rfl) _))); done)); (focus (((simp; done)); done)))))
      conv => whnf
      repeat' ((first | (apply AWP.go ok; rfl) | (apply z38; kernel_rfl) | ((first | (apply z7 [0] [] [] (cg0); rfl; (focus ((repeat' first | exact z6 | apply z5) <;> rfl))) | (apply z7 [0] [] [] (cg); rfl; (focus ((repeat' first | exact z6 | apply z5) <;> rfl))) | (apply z7 [0] [] [4, 5, 6] (cm); rfl; (focus ((repeat' first | exact z6 | apply z5) <;> rfl)))); rfl; rfl; rfl; rfl; rfl; (focus ((repeat' first | exact z19 | apply z16) <;> first | exact z25 rfl rfl | (refine z34 ?_; ((exact z4 fun _ => rfl))))); (exact .inl rfl))) <;> conv => whnf)
      all_goals skip
      all_goals (refine RetS.lay [0] [4, 5, 6] rfl rfl rfl ?_; refine RetS.done ?_ ?_ <;> (repeat' (first | exact LocLe.refl _ | exact F2.nil | apply F2.cons | apply ObjLe.box | ((apply z27 rfl rfl rfl); (focus ((repeat ((exact z23 (fun _ => rfl) _))); done)); (focus (((simp; done)); done))) | apply z42 | apply z85)))
end Go.Proofs.YtknlmbniicacmaaGreat

namespace Go.Proofs.YtknlmbniicacmaaGreat
open Go.Gl
attribute [local irreducible] z48 AWP z76 z84 z81 RetS z103

set_option maxHeartbeats 3200000 in
theorem l8Back_ok (P : List Int) (hP : P.length ≤ 100000) (f : Nat) (to : Int) (h : BackOk P f to) (hf : f ≤ 100000) : CallsA Tryz.prog 190 [ints P, .int to] [] (ints (bkw P f to [])) [] := by
  generalize hR : bkw P f to [] = R
  have hto := h
  refine z14 z29 Tryz.func190 rfl rfl 25 Tryz.ntmps190 (by simp) ?_
  repeat' (((apply AWP.go ok; rfl)) <;> conv => whnf)
  refine z115 (fun x : Nat × Int × List Int => ([(0, ints P), (5, .sref 0 0 (x.2.2.length + 1))], [.cells 1 ((x.2.1 :: x.2.2).map enI)])) (fun x => BackOk P x.1 x.2.1 ∧ bkw P x.1 x.2.1 x.2.2 = R ∧ x.1 + x.2.2.length ≤ 100000) (fun x => x.1) (f, to, []) ⟨hto, hR, by show f + 0 ≤ 100000; omega⟩ (by refine SealW.reach [0] [] rfl rfl rfl rfl ?_ ?_ <;> (repeat' (first | exact LocLe.refl _ | exact F2.nil | apply F2.cons | apply ObjLe.box | exact True.intro | apply And.intro))) ?_
  rintro ⟨g, v, tl⟩ ⟨hB, hE, hl⟩
  dsimp only at hB hE hl ⊢
  have hv : 0 ≤ v ∧ v < P.length := by cases g <;> exact hB.1
  have hg : (P.map enI)[v.toNat]? = some (enI (P.getD v.toNat 0)) := by rw [List.getElem?_map, List.getElem?_eq_getElem (by omega), z50 (by omega)]; rfl
  by_cases h0 : 0 ≤ P.getD v.toNat 0
  · cases g with
    | zero => exact absurd hB.2 (by omega)
    | succ g =>
      rw [bkw, if_pos h0] at hE
      have hB2 : BackOk P g (P.getD v.toNat 0) := by
        rcases hB.2 with h | h
        · omega
        · exact h
      generalize P.getD v.toNat 0 = y at *
      have hst : (List.map enI (v :: tl)).length = tl.length + 1 ∧ Stor (List.map enI (v :: tl)) := ⟨by simp, z18 (fun _ => rfl)⟩
      repeat' ((first | (apply AWP.go ok; rfl) | (refine z43 (i := v.toNat) (by simp) hg ?_) | (refine And.intro hst ?_) | (apply And.intro; first | omega | ((try dsimp only); simp only [List.length_map, List.length_take, List.length_append, List.length_replicate, List.length_cons, List.length_nil]; omega)) | apply z66 | ((apply z8) <;> intro _)) <;> conv => whnf)
      all_goals first | (exfalso; omega) | skip
      all_goals refine z49 (g, y, v :: tl) ⟨hB2, hE, by show g + (v :: tl).length ≤ 100000; rw [List.length_cons]; omega⟩ (by show g < g + 1; omega) (by refine SealW.reach [2] [0, 1] rfl rfl rfl rfl ?_ ?_ <;> (repeat' (first | exact LocLe.refl _ | exact F2.nil | apply F2.cons | exact z20 _ | (refine z37 ?_; ((simp; omega))) | ((refine z17 rfl ?_ ?_); (focus ((repeat' (first | exact z4 (fun _ => rfl) | exact z54 rfl z12 | apply z11)); done))) | exact True.intro | apply And.intro)))
  · have hE2 : v :: tl = R := by
      cases g with
      | zero => exact hE
      | succ g => rw [bkw, if_neg h0] at hE; exact hE
    subst hE2
    generalize P.getD v.toNat 0 = y at *
    repeat' ((first | (apply AWP.go ok; rfl) | (refine z43 (i := v.toNat) (by simp) hg ?_) | (apply And.intro; omega) | (((apply z13; omega)); intro _) | apply z66 | ((apply z8) <;> intro _)) <;> conv => whnf)
    all_goals first | (exfalso; omega) | skip
    all_goals (refine RetS.lay [] [0] rfl rfl rfl ?_; refine RetS.done ?_ ?_ <;> (repeat' (first | exact LocLe.refl _ | exact F2.nil | ((apply z27 rfl rfl rfl); (focus ((repeat ((exact z23 (fun _ => rfl) _))); done)); (focus (((simp; done)); done))))))

def fillN (k : Nat) : List Int := List.replicate k (-1)
theorem fillN_succ (k : Nat) : fillN (k + 1) = fillN k ++ [-1] := by unfold fillN; rw [List.replicate_succ']
theorem mem_take_succ {l : List Int} {k : Nat} (h : k < l.length) (x : Int) : x ∈ l.take (k + 1) ↔ x ∈ l.take k ∨ x = l[k] := by
  rw [List.take_succ_eq_append_getElem h, List.mem_append, List.mem_singleton]
set_option maxHeartbeats 12800000 in
theorem l8Search_new (rows : List (List Int)) (ini : List Int) (hr : ∀ r ∈ rows, InN rows.length r) (hi : InN rows.length ini) (hn : ini.Nodup) (hN : rows.length ≤ 100000) (hrl : ∀ r ∈ rows, r.length ≤ 1000000000) : CallsA Tryz.prog 188 [lst 1 encL rows, ints ini] [] (.tup [.sref 0 0 (srP rows ini).length, .sref 1 0 (srQ rows ini).length]) [.cells 1 ((srP rows ini).map enI), .cells 1 ((srQ rows ini).map enI)] := by
  have hil : ini.length ≤ rows.length := pigeon _ _ hn hi
  refine z14 z29 Tryz.func188 rfl rfl 91 Tryz.ntmps188 (by simp) ?_
  repeat' ((first | (apply AWP.go ok; rfl) | (apply And.intro; (dsimp only; omega))) <;> conv => whnf)
  refine z115 (fun x : Nat × List Int => ([(0, lst 1 encL rows), (1, ints ini), (6, .sref 0 0 x.2.length), (7, .sref 1 0 rows.length), (8, .int x.1)], [.cells 1 (x.2.map enI), .cells 1 ((mkB rows.length []).map enB)])) (fun x => x.1 ≤ rows.length ∧ x.2.length = x.1 ∧ x.2 = fillN x.1) (fun x => rows.length - x.1) (0, []) ⟨by show 0 ≤ rows.length; omega, rfl, rfl⟩ (by refine SealW.reach [0, 1] [] rfl rfl rfl rfl ?_ ?_ <;> (repeat' (first | exact LocLe.refl _ | exact F2.nil | apply F2.cons | ((refine z17 rfl ?_ ?_); (focus ((repeat' (first | exact z12 | exact z9 rfl)); done))) | exact True.intro | apply And.intro)) <;> ((refine z82 ?_; rw [mkB_nil, List.map_replicate]; rfl))) ?_
  rintro ⟨i, F⟩ ⟨hF1, hFl, hF2⟩
  dsimp only at hF1 hFl hF2 ⊢
  by_cases hi2 : i < rows.length
  · repeat' ((first | (apply AWP.go ok; rfl) | (apply And.intro; first | omega | (unfold inI; omega) | ((try dsimp only); simp only [List.length_map, List.length_take, List.length_append, List.length_replicate, List.length_cons, List.length_nil]; omega) | exact ⟨rfl, z21 rfl z26⟩) | ((apply z8) <;> intro _)) <;> conv => whnf)
    all_goals first | (exfalso; omega) | skip
    all_goals refine z49 (i + 1, F ++ [-1]) ⟨hi2, by rw [List.length_append, hFl]; rfl, by show _ = fillN (i + 1); rw [fillN_succ, ← hF2]⟩ (by show rows.length - (i + 1) < _; omega) (by refine SealW.reach [3, 1] [] rfl rfl rfl rfl ?_ ?_ <;> (repeat' (first | exact LocLe.refl _ | exact F2.nil | apply F2.cons | exact z20 _ | (refine z37 ?_; ((simp; done))) | ((first | refine z24 rfl ?_ ?_ | refine z17 rfl ?_ ?_); (focus ((repeat' (first | exact z4 (fun _ => rfl) | apply z15)); done))) | (refine z64 ?_ ?_; (focus (omega))) | exact True.intro | apply And.intro)))
  · have e : rows.length = i := by omega
    have hs0 : srS rows ini 0 = (ini, F) := by rw [hF2, ← e]; rfl
    rw [← e] at hFl
    subst e
    clear hF1 hF2 hi2
    repeat' ((first | (apply AWP.go ok; rfl) | (apply And.intro; first | omega | (dsimp only; omega) | exact z18 (fun _ => rfl)) | ((apply z8) <;> intro _)) <;> conv => whnf)
    all_goals first | (exfalso; omega) | skip
    all_goals
      refine z115 (fun i : Nat => ([(0, lst 1 encL rows), (1, ints ini), (6, .sref 0 0 rows.length), (7, .sref 1 0 rows.length), (9, .sref 2 0 ini.length), (10, .int i)], [.cells 1 (F.map enI), .cells 1 ((mkB rows.length (ini.take i)).map enB), .cells 1 (ini.map enI)])) (fun i => i ≤ ini.length) (fun i => ini.length - i) 0 (by omega) (by refine SealW.reach [0, 1, 3] [] rfl rfl rfl rfl ?_ ?_ <;> (repeat' (first | exact LocLe.refl _ | exact F2.nil | apply F2.cons | exact z20 _ | (refine z37 ?_; (omega)) | ((refine z17 rfl ?_ ?_); (focus ((repeat' ((exact z4 (fun _ => rfl)))); done))) | exact True.intro | apply And.intro))) ?_
      intro i hi1
      by_cases hi2 : i < ini.length
      · have hx := hi ini[i] (List.getElem_mem _)
        have hset := set_mkB (enc := enB) rfl hx.1 hx.2 (mem_take_succ hi2)
        have hml := mkB_len rows.length (ini.take i)
        repeat' ((first | (apply AWP.go ok; rfl) | (apply And.intro; first | omega | (unfold inI; omega)) | ((first | (with_reducible apply z13; omega) | (apply z13; omega)); intro _) | ((apply z8) <;> intro _)) <;> conv => whnf)
        all_goals first | (exfalso; omega) | skip
        all_goals refine z49 (i + 1) (by omega) (by omega) (by refine SealW.reach [0, 1, 2] [] rfl rfl rfl rfl ?_ ?_ <;> (repeat' (first | exact LocLe.refl _ | exact F2.nil | apply F2.cons | exact z20 _ | ((first | refine z51 rfl ?_ ?_ | refine z17 rfl ?_ ?_); (focus ((repeat' ((exact z4 (fun _ => rfl)))); done))) | exact True.intro | apply And.intro)) <;> (exact z82 hset))
      · have e : ini.length = i := by omega
        subst e
        rw [List.take_length]
        repeat' ((first | (apply AWP.go ok; rfl) | (apply And.intro; omega) | ((first | (with_reducible apply z13; omega) | (apply z13; omega)); intro _) | ((apply z8) <;> intro _)) <;> conv => whnf)
        all_goals first | (exfalso; omega) | skip
        refine z115 (fun x : Nat × List Int × List Int => ([(0, lst 1 encL rows), (6, .sref 0 0 rows.length), (7, .sref 1 0 rows.length), (9, .sref 2 0 x.2.1.length), (11, .int x.1)], [.cells 1 (x.2.2.map enI), .cells 1 ((mkB rows.length x.2.1).map enB), .cells 1 (x.2.1.map enI)])) (fun x => srS rows ini x.1 = (x.2.1, x.2.2) ∧ x.1 ≤ x.2.1.length) (fun x => rows.length - x.1) (0, ini, F) ⟨hs0, Nat.zero_le _⟩ (by refine SealW.reach [0, 1, 2] [] rfl rfl rfl rfl ?_ ?_ <;> (repeat' (first | exact LocLe.refl _ | exact F2.nil | apply F2.cons | exact z20 _ | ((refine z17 rfl ?_ ?_); (focus ((repeat' ((exact z4 (fun _ => rfl)))); done))) | exact True.intro | apply And.intro))) ?_
        clear hs0 hFl F
        rintro ⟨i, Q, P⟩ ⟨hS, hiQ⟩
        dsimp only at hS hiQ ⊢
        have hJ := srS_PJ hr hi hn i
        rw [hS] at hJ
        have hQl := pigeon _ _ hJ.nd hJ.inn
        have hPl := hJ.len
        dsimp only at hQl hPl
        by_cases hi2 : i < Q.length
        · have hq := hJ.inn _ (List.getElem_mem hi2)
          have hS1 : srS rows ini (i + 1) = visPs Q[i] (Q, P) (rows.getD Q[i].toNat []) := by rw [srS, dif_pos (by rw [hS]; exact hi2)]; simp only [hS]
          have hqr : Q[i].toNat < rows.length := by omega
          have hrow : rows.getD Q[i].toNat [] = rows[Q[i].toNat] := z50 hqr
          have hrin : InN rows.length rows[Q[i].toNat] := hr _ (List.getElem_mem _)
          have hrl2 := hrl rows[Q[i].toNat] (List.getElem_mem _)
          rw [hrow] at hS1
          repeat' ((first | (apply AWP.go ok; rfl) | ((apply z8) <;> intro _)) <;> conv => whnf)
          all_goals first | (exfalso; omega) | skip
          refine z115 (fun y : Nat × List Int × List Int => ([(0, lst 1 encL rows), (6, .sref 0 0 rows.length), (7, .sref 1 0 rows.length), (9, .sref 2 0 y.2.1.length), (11, .int i), (12, .int y.1)], [.cells 1 (y.2.2.map enI), .cells 1 ((mkB rows.length y.2.1).map enB), .cells 1 (y.2.1.map enI)])) (fun y => visPs Q[i] (Q, P) (rows[Q[i].toNat].take y.1) = (y.2.1, y.2.2) ∧ y.1 ≤ rows[Q[i].toNat].length) (fun y => rows[Q[i].toNat].length - y.1) (0, Q, P) ⟨rfl, Nat.zero_le _⟩ (by refine SealW.reach [0, 1, 2] [] rfl rfl rfl rfl ?_ ?_ <;> (repeat' (first | exact LocLe.refl _ | exact F2.nil | apply F2.cons | exact z20 _ | ((refine z17 rfl ?_ ?_); (focus ((repeat' ((exact z4 (fun _ => rfl)))); done))) | exact True.intro | apply And.intro))) ?_
          rintro ⟨k, Q', P'⟩ ⟨hV, hk⟩
          dsimp only at hV hk ⊢
          obtain ⟨hJ', hi', hu⟩ := PJ.visPs (rows[Q[i].toNat].take k) hJ hi2 rfl (fun x hx => hrin x (List.mem_of_mem_take hx))
          simp only [hV] at hJ' hi' hu
          have hQl' := pigeon _ _ hJ'.nd hJ'.inn
          have hPl' := hJ'.len
          dsimp only at hQl' hPl'
          have hg : (Q'.map enI)[i]? = some (enI Q[i]) := by rw [List.getElem?_map, List.getElem?_eq_getElem hi', hu]; rfl
          by_cases hk2 : k < rows[Q[i].toNat].length
          · have hx := hrin rows[Q[i].toNat][k] (List.getElem_mem _)
            have hv := visPs_take (u := Q[i]) (x := (Q, P)) hk2
            rw [hV] at hv
            have hkk : (rows[Q[i].toNat].map enI)[k]? = some (enI rows[Q[i].toNat][k]) := by rw [List.getElem?_map, List.getElem?_eq_getElem hk2]; rfl
            generalize Q[i] = u at *
            generalize rows[u.toNat][k] = v at *
            by_cases hn2 : v ∈ Q'
            · rw [visP_old hn2] at hv
              repeat' ((first | (apply AWP.go ok; rfl) | (refine z43 (i := i) rfl hg ?_) | (refine z43 (i := k) rfl hkk ?_) | (refine get_mkB (enc := enB) (v := v) (by rfl) hx.1 hx.2 ?_) | (apply And.intro; first | omega | (unfold inI; omega) | ((try dsimp only); simp only [List.length_map, List.length_take, List.length_append, List.length_replicate, List.length_cons, List.length_nil]; omega) | exact ⟨rfl, z21 rfl z26⟩) | ((first | (with_reducible apply z45; omega) | (apply z13; omega)); intro _) | ((first | apply z8 | apply z30) <;> intro _)) <;> conv => whnf)
              all_goals first | (exfalso; omega) | (exfalso; contradiction) | skip
              all_goals refine z49 (k + 1, Q', P') ⟨hv, hk2⟩ (by show rows[u.toNat].length - (k + 1) < rows[u.toNat].length - k; omega) (by refine SealW.reach [0, 1, 2] [] rfl rfl rfl rfl ?_ ?_ <;> (repeat' (first | exact LocLe.refl _ | exact F2.nil | apply F2.cons | exact z20 _ | ((refine z17 rfl ?_ ?_); (focus ((repeat' ((exact z4 (fun _ => rfl)))); done))) | exact True.intro | apply And.intro)))
            · rw [visP_new hn2] at hv
              have hset := set_mkB (enc := enB) (S := Q') (S' := Q' ++ [v]) rfl hx.1 hx.2 (fun x => by simp)
              repeat' ((first | (apply AWP.go ok; rfl) | (refine z43 (i := i) rfl hg ?_) | (refine z43 (i := k) rfl hkk ?_) | (refine get_mkB (enc := enB) (v := v) (by rfl) hx.1 hx.2 ?_) | (apply And.intro; first | omega | (unfold inI; omega) | ((try dsimp only); simp only [List.length_map, List.length_take, List.length_append, List.length_replicate, List.length_cons, List.length_nil]; omega) | exact ⟨rfl, z21 rfl z26⟩) | ((first | (with_reducible apply z45; omega) | (apply z13; omega)); intro _) | ((first | apply z8 | apply z30) <;> intro _)) <;> conv => whnf)
              all_goals first | (exfalso; omega) | (exfalso; contradiction) | skip
              all_goals refine z49 (k + 1, Q' ++ [v], P'.set v.toNat u) ⟨hv, hk2⟩ (by show rows[u.toNat].length - (k + 1) < rows[u.toNat].length - k; omega) (by refine SealW.reach [0, 1, 4] [] rfl rfl rfl rfl ?_ ?_ <;> (repeat' (first | exact LocLe.refl _ | exact F2.nil | apply F2.cons | (refine z37 ?_; ((simp; done))) | ((first | refine z24 rfl ?_ ?_ | refine z51 rfl ?_ ?_); (focus ((repeat' (first | exact z4 (fun _ => rfl) | apply z15)); done))) | (refine z95 (by omega) ?_) | (refine z64 ?_ ?_; (focus (omega))) | exact True.intro | apply And.intro)) <;> (exact z82 hset))
          · rw [List.take_of_length_le (by omega)] at hV
            rw [hV] at hS1
            repeat' ((first | (apply AWP.go ok; rfl) | (refine z43 (i := i) rfl hg ?_) | (apply And.intro; first | omega | (unfold inI; omega)) | ((first | (with_reducible apply z13; omega) | (with_reducible apply z45; omega) | (apply z13; omega)); intro _) | ((first | apply z8 | apply z53) <;> intro _)) <;> conv => whnf)
            all_goals first | (exfalso; omega) | skip
            all_goals refine z49 (i + 1, Q', P') ⟨hS1, hi'⟩ (by show rows.length - (i + 1) < rows.length - i; omega) (by refine SealW.reach [0, 1, 2] [] rfl rfl rfl rfl ?_ ?_ <;> (repeat' (first | exact LocLe.refl _ | exact F2.nil | apply F2.cons | exact z20 _ | ((refine z17 rfl ?_ ?_); (focus ((repeat' ((exact z4 (fun _ => rfl)))); done))) | exact True.intro | apply And.intro)))
        · have hE := srS_end (rows := rows) (ini := ini) (i := i) (by rw [hS]; show Q.length ≤ i; omega) (by omega)
          rw [hS] at hE
          obtain ⟨e1, e2⟩ := Prod.mk.inj hE
          rw [← e1, ← e2]
          repeat' ((first | (apply AWP.go ok; rfl) | ((apply z8) <;> intro _)) <;> conv => whnf)
          all_goals first | (exfalso; omega) | skip
          all_goals (refine RetS.lay [0, 2] [] rfl rfl rfl ?_; refine RetS.done ?_ ?_ <;> (repeat' (first | exact LocLe.refl _ | exact F2.nil | apply F2.cons | exact z20 _ | (refine z37 ?_; (omega)) | ((refine z17 rfl ?_ ?_); (focus ((repeat' ((exact z4 (fun _ => rfl)))); done))) | apply z85)))
theorem l8Search_ok (rows : List (List Int)) (ini : List Int) (hr : ∀ r ∈ rows, InN rows.length r) (hi : InN rows.length ini) (hn : ini.Nodup) (hN : rows.length ≤ 100000) (hrl : ∀ r ∈ rows, r.length ≤ 1000000000) : CallsA Tryz.prog 188 [lst 1 encL rows, ints ini] [] (.tup [ints (srP rows ini), ints (srQ rows ini)]) [] :=
  (l8Search_new rows ini hr hi hn hN hrl).lend [] [0, 1] rfl rfl rfl (bor_tup (z105 (z162 rfl rfl rfl) (z105 (z162 rfl rfl rfl) z130))) z6
end Go.Proofs.YtknlmbniicacmaaGreat

namespace Go.Proofs.YtknlmbniicacmaaGreat
open Go.Gl
attribute [local irreducible] z48 AWP z76 z84 z81 RetS z103

theorem rowAt {rows : List (List Int)} {v : Int} (hv : 0 ≤ v ∧ v < rows.length) : (rows.map encL)[v.toNat]? = some (encL (rows.getD v.toNat [])) := by
  rw [List.getElem?_map, List.getElem?_eq_getElem (by omega), z50 (by omega)]; rfl
theorem rowLen {rows : List (List Int)} {M : Nat} (hrl : ∀ r ∈ rows, r.length ≤ M) (v : Int) : (rows.getD v.toNat []).length ≤ M := by
  by_cases h : v.toNat < rows.length
  · rw [z50 h]; exact hrl _ (List.getElem_mem _)
  · rw [List.getD_eq_getElem?_getD, List.getElem?_eq_none (by omega)]; exact Nat.zero_le _
set_option maxHeartbeats 3200000 in
theorem l8Cycle_ok (rows : List (List Int)) (v : Int) (hr : ∀ r ∈ rows, InN rows.length r) (hv : 0 ≤ v ∧ v < rows.length) (hN : rows.length ≤ 100000) (hrl : ∀ r ∈ rows, r.length ≤ 1000000000) : CallsA Tryz.prog 189 [lst 1 encL rows, .int v] [] (ints (cycL rows v)) [] := by
  have hg := rowAt hv
  have hl := fun w => rowLen hrl w
  have c1 := l4In_ok (rows.getD v.toNat []) (by have := hl v; unfold maxLen; omega) v
  have hlv := hl v
  have c2 := l8Search_new rows [v] hr (one_in hv) (by simp) hN hrl
  have hQ := srQ_in hr (one_in hv) (by simp)
  have hB := srQ_back hr (one_in hv) (by simp)
  have hPl := srP_len hr (one_in hv) (by simp)
  have hQl := srQ_len hr (one_in hv) (by simp)
  have c3 := fun k hk => l8Back_ok (srP rows [v]) (by omega) rows.length _ (hB k hk) (by omega)
  unfold cycL
  by_cases h : v ∈ rows.getD v.toNat []
  · rw [if_pos h]
    rw [decide_eq_true h] at c1
    generalize rows.getD v.toNat [] = r0 at *
    refine z14 z29 Tryz.func189 rfl rfl 45 Tryz.ntmps189 (by simp) ?_
    repeat' ((first | (apply AWP.go ok; rfl) | (refine z43 (i := v.toNat) (by simp) hg ?_) | (apply And.intro; omega) | (apply z10 (c1); rfl; rfl)) <;> conv => whnf)
    all_goals skip
    all_goals (refine RetS.lay [] [0] rfl rfl rfl ?_; refine RetS.done ?_ ?_ <;> (repeat' (first | exact LocLe.refl _ | exact F2.nil)))
  · rw [if_neg h]
    rw [decide_eq_false h] at c1
    generalize hr0 : rows.getD v.toNat [] = r0 at hg c1 hlv
    generalize srQ rows [v] = Q at *
    generalize srP rows [v] = P at *
    generalize hR : cycT rows P v Q = R
    refine z14 z29 Tryz.func189 rfl rfl 45 Tryz.ntmps189 (by simp) ?_
    repeat' ((first | (apply AWP.go ok; rfl) | (refine z43 (i := v.toNat) (by simp) hg ?_) | (apply And.intro; omega) | (apply z10 (c1); rfl; rfl) | (((apply z7 [] [0] [1, 2] (c2); (focus ((repeat' first | exact z130 | apply z105) <;> rfl)); (focus ((repeat' exact z6) <;> fail)))); rfl; rfl; rfl; rfl; rfl; (focus ((repeat' first | exact z19 | apply z16) <;> (refine z34 ?_; ((exact z4 fun _ => rfl))))); ((refine .inr ⟨rfl, ?_⟩; repeat' first | exact True.intro | apply And.intro | exact z67 (fun _ => rfl) _)))) <;> conv => whnf)
    all_goals skip
    refine z115 (fun i : Nat => ([(0, lst 1 encL rows), (1, .int v), (5, ints P), (6, ints Q), (7, .int i)], [])) (fun i => i ≤ Q.length ∧ cycT rows P v (Q.drop i) = R) (fun i => Q.length - i) 0 ⟨Nat.zero_le _, hR⟩ (by refine SealW.reach [] [1, 2] rfl rfl rfl rfl ?_ ?_ <;> (repeat' (first | exact LocLe.refl _ | exact F2.nil | ((apply z27 rfl rfl rfl); (focus ((repeat ((exact z23 (fun _ => rfl) _))); done)); (focus (((simp; done)); done))) | exact True.intro | apply And.intro))) ?_
    rintro i ⟨hi1, hi2⟩
    by_cases hi3 : i < Q.length
    · have hq := hQ _ (List.getElem_mem hi3)
      have hgq := rowAt hq
      have c4 := l4In_ok (rows.getD Q[i].toNat []) (by have := hl Q[i]; unfold maxLen; omega) v
      have hlq := hl Q[i]
      have c5 := c3 i hi3
      rw [List.drop_eq_getElem_cons hi3, cycT] at hi2
      have hgi : (Q.map enI)[i]? = some (enI Q[i]) := by rw [List.getElem?_map, List.getElem?_eq_getElem hi3]; rfl
      generalize Q[i] = u at *
      by_cases hm : v ∈ rows.getD u.toNat []
      · rw [if_pos hm] at hi2
        rw [decide_eq_true hm] at c4
        subst hi2
        generalize rows.getD u.toNat [] = r1 at *
        repeat' ((first | (apply AWP.go ok; rfl) | (refine z43 (i := u.toNat) (by simp) hgq ?_) | (refine z43 (i := i) (by simp) hgi ?_) | (apply And.intro; omega) | ((apply z8) <;> intro _) | (apply z10 (c4); rfl; rfl) | (apply z10 (c5); rfl; rfl)) <;> conv => whnf)
        all_goals first | (exfalso; omega) | skip
        all_goals (refine RetS.lay [] [] rfl rfl rfl ?_; refine RetS.done ?_ ?_ <;> (repeat' (first | exact LocLe.refl _ | exact F2.nil)))
      · rw [if_neg hm] at hi2
        rw [decide_eq_false hm] at c4
        generalize rows.getD u.toNat [] = r1 at *
        repeat' ((first | (apply AWP.go ok; rfl) | (refine z43 (i := u.toNat) (by simp) hgq ?_) | (refine z43 (i := i) (by simp) hgi ?_) | (apply And.intro; first | omega | (unfold inI; omega)) | ((apply z8) <;> intro _) | (apply z10 (c4); rfl; rfl)) <;> conv => whnf)
        all_goals first | (exfalso; omega) | skip
        all_goals refine z49 (i + 1) ⟨hi3, hi2⟩ (by omega) (by refine SealW.reach [] [] rfl rfl rfl rfl ?_ ?_ <;> (repeat' (first | exact LocLe.refl _ | exact F2.nil | exact True.intro | apply And.intro)))
    · have e : Q.length = i := by omega
      subst e
      rw [List.drop_length, cycT] at hi2
      subst hi2
      repeat' ((first | (apply AWP.go ok; rfl) | (apply And.intro; omega) | ((first | (with_reducible apply z13; omega) | (with_reducible apply z45; omega)); intro _) | ((apply z8) <;> intro _)) <;> conv => whnf)
      all_goals first | (exfalso; omega) | skip
      all_goals (refine RetS.lay [] [0] rfl rfl rfl ?_; refine RetS.done ?_ ?_ <;> (repeat' (first | exact LocLe.refl _ | exact F2.nil)))

theorem l8States_ok (l : List Int) (n : Nat) (hl : l.length ≤ 1000000) (hn : 1 ≤ n) (h0 : ∀ x ∈ l, 0 ≤ x) (h1 : ∀ x ∈ l, x ≤ 1000000000) : CallsA Tryz.prog 191 [ints l, .int n] [] (.sref 0 0 l.length) [.cells 1 ((stL l n).map enI)] := by
  refine z14 z29 Tryz.func191 rfl rfl 24 Tryz.ntmps191 (by simp) ?_
  repeat' (((apply AWP.go ok; rfl)) <;> conv => whnf)
  refine z115 (fun x : Nat × List Int => ([(0, ints l), (1, .int n), (5, .sref 0 0 x.2.length), (6, .int x.1)], [.cells 1 (x.2.map enI)])) (fun x => x.1 ≤ l.length ∧ x.2.length = x.1 ∧ x.2 = stL (l.take x.1) n) (fun x => l.length - x.1) (0, []) ⟨Nat.zero_le _, rfl, rfl⟩ (by refine SealW.reach [0] [] rfl rfl rfl rfl ?_ ?_ <;> (repeat' (first | exact LocLe.refl _ | exact F2.nil | apply F2.cons | ((refine z17 rfl ?_ ?_); (focus ((repeat' (exact z12)); done))) | exact True.intro | apply And.intro))) ?_
  rintro ⟨i, F⟩ ⟨hi1, hF1, hF2⟩
  dsimp only at hi1 hF1 hF2 ⊢
  by_cases hi2 : i < l.length
  · have a0 := h0 _ (List.getElem_mem hi2)
    have a1 := h1 _ (List.getElem_mem hi2)
    have a2 : 0 ≤ l[i] / (n : Int) := Int.ediv_nonneg a0 (by omega)
    have a3 : l[i] / (n : Int) ≤ l[i] := Int.ediv_le_self _ a0
    have hF3 : stL (l.take (i + 1)) n = F ++ [l[i] / n] := by rw [hF2, stL, List.take_succ_eq_append_getElem hi2, List.map_append]; rfl
    repeat' ((first | (apply AWP.go ok; rfl) | (apply And.intro; first | omega | (unfold inI; omega) | ((try dsimp only); simp only [List.length_map, List.length_take, List.length_append, List.length_replicate, List.length_cons, List.length_nil]; omega) | exact ⟨rfl, z21 rfl z26⟩) | (((with_reducible apply z13; omega)); intro _) | ((apply z8) <;> intro _)) <;> conv => whnf)
    all_goals first | (exfalso; omega) | skip
    all_goals refine z49 (i + 1, F ++ [l[i] / n]) ⟨hi2, by rw [List.length_append, hF1]; rfl, hF3.symm⟩ (by show l.length - (i + 1) < l.length - i; omega) (by refine SealW.reach [2] [] rfl rfl rfl rfl ?_ ?_ <;> (repeat' (first | exact LocLe.refl _ | exact F2.nil | apply F2.cons | (refine z37 ?_; ((simp; done))) | ((refine z24 rfl ?_ ?_); (focus ((repeat' (first | exact z4 (fun _ => rfl) | apply z15)); done))) | (refine z64 ?_ ?_; (focus (omega))) | exact True.intro | apply And.intro)))
  · have e : l.length = i := by omega
    subst e
    rw [List.take_length] at hF2
    subst hF2
    repeat' ((first | (apply AWP.go ok; rfl) | (apply And.intro; omega) | (((with_reducible apply z13; omega)); intro _) | ((apply z8) <;> intro _)) <;> conv => whnf)
    all_goals first | (exfalso; omega) | skip
    all_goals (refine RetS.lay [0] [] rfl rfl rfl ?_; refine RetS.done ?_ ?_ <;> (repeat' (first | exact F2.nil | apply F2.cons | exact z20 _ | (refine z37 ?_; (omega)) | ((refine z17 rfl ?_ ?_); (focus ((repeat' ((exact z4 (fun _ => rfl)))); done))))))
end Go.Proofs.YtknlmbniicacmaaGreat

namespace Go.Proofs.YtknlmbniicacmaaGreat
open Go.Gl
attribute [local irreducible] z48 AWP z76 z84 z81 RetS z103

theorem IniP.nd {l : List Int} {n : Int} (h : IniP l n l.length) : l.Nodup := by
  have hs : ∀ d i (hi : i + d + 1 < l.length), l[i] < l[i + d + 1] := by
    intro d
    induction d with
    | zero => intro i hi; exact (h (i + 1) hi hi).2 i rfl
    | succ d ih =>
      intro i hi
      have h1 := ih i (by omega)
      have h2 := (h (i + (d + 1) + 1) hi hi).2 (i + d + 1) (by omega)
      omega
  rw [List.nodup_iff_pairwise_ne, List.pairwise_iff_getElem]
  intro i j hi hj hij
  have := hs (j - i - 1) i (by omega)
  have e : i + (j - i - 1) + 1 = j := by omega
  simp only [e] at this
  omega
noncomputable def trcO (g : Graph) (ls : List Int) (a : Aut) : Option (List Int × List Int) := (finS (z62 g ls a) a.ini a.acc).map fun x => (stL (x.1.take (x.1.length - 1)) a.acc.length, stL x.2 a.acc.length)
noncomputable def trcL (g : Graph) (ls : List Int) (a : Aut) : List Int × List Int := (trcO g ls a).getD ([], [])
set_option maxHeartbeats 6400000 in
theorem l8Find_ok (g : Graph) (hG : GB g) (ls : List Int) (hls : ls.length = g.st.length) (hlr : ∀ x ∈ ls, 0 ≤ x ∧ x ≤ 7) (a : Aut) (hA : AutP a) : CallsA Tryz.prog 118 [.agg g.cs, ints ls, .agg a.cs] [] (.tup [.agg [ints (trcL g ls a).1, ints (trcL g ls a).2], .bool (trcO g ls a).isSome]) [] := by
  have k2 := l8Product_ok g hG ls hls hlr a hA
  obtain ⟨f1, f2, f3, f4, f5⟩ := prod_facts hG hA ls
  have hlen : (z62 g ls a).length = g.st.length * a.acc.length := by unfold z62; rw [z119, Nat.mul_comm]
  have hnd := hA.2.2.1.nd
  have hac := hA.1
  unfold trcL trcO finS
  generalize z62 g ls a = rows at *
  have k3 := l8Search_ok rows a.ini f1 f2 hnd (by omega) f4
  have hQ := srQ_in f1 f2 hnd
  have hB := srQ_back f1 f2 hnd
  have hPl := srP_len f1 f2 hnd
  have hQl := srQ_len f1 f2 hnd
  have hPle := srS_le f1 f2 hnd rows.length
  have k4 := fun v hv => l8Cycle_ok rows v f1 hv (by omega) f4
  have k5 := fun k hk => l8Back_ok (srP rows a.ini) (by omega) rows.length _ (hB k hk) (by omega)
  have n4 := fun v hv => cycL_nn f1 (v := v) hv
  have m4 := fun v hv => cycL_le f1 (v := v) hv
  change ∀ y ∈ srP rows a.ini, y ≤ (rows.length : Int) at hPle
  generalize srQ rows a.ini = Q at *
  generalize srP rows a.ini = P at *
  generalize hR : finT rows a.acc P Q = R
  refine z14 z29 Tryz.func118 rfl rfl 72 Tryz.ntmps118 (by simp) ?_
  repeat' ((first | (apply AWP.go ok; rfl) | (apply z10 (k2); rfl; rfl) | (apply z10 (k3); rfl; rfl)) <;> conv => whnf)
  all_goals skip
  refine z115 (fun i : Nat => ([(5, .ptr 0 none 0), (6, .ptr 1 none 0), (8, .int a.acc.length), (9, lst 1 encL rows), (10, ints P), (11, ints Q), (12, .int i)], [.cells 3 [a.cs], .cells 2 [[.nils, .nils]]])) (fun i => i ≤ Q.length ∧ finT rows a.acc P (Q.drop i) = R) (fun i => Q.length - i) 0 ⟨Nat.zero_le _, hR⟩ (by refine SealW.reach [1, 2] [] rfl rfl rfl rfl ?_ ?_ <;> (repeat' (first | exact LocLe.refl _ | exact F2.nil | apply F2.cons | apply ObjLe.box | exact True.intro | apply And.intro))) ?_
  rintro i ⟨hi1, hi2⟩
  by_cases hi3 : i < Q.length
  · have hq := hQ _ (List.getElem_mem hi3)
    have c5 := k5 i hi3
    rw [List.drop_eq_getElem_cons hi3, finT] at hi2
    have hgi : (Q.map enI)[i]? = some (enI Q[i]) := by rw [List.getElem?_map, List.getElem?_eq_getElem hi3]; rfl
    generalize Q[i] = u at *
    have hm0 : 0 ≤ u % (a.acc.length : Int) := Int.emod_nonneg _ (by omega)
    have hm1 : u % (a.acc.length : Int) < a.acc.length := Int.emod_lt_of_pos _ (by omega)
    have hga : (a.acc.map enB)[(u % (a.acc.length : Int)).toNat]? = some (enB (a.acc.getD (u % (a.acc.length : Int)).toNat false)) := by
      rw [List.getElem?_map, List.getElem?_eq_getElem (by omega), z50 (by omega)]; rfl
    have c4 := k4 u hq
    have l4 := cycL_len rows u
    have b1 := bkw_len P rows.length u []
    simp only [List.length_nil, Nat.add_zero] at b1
    have b2 := bkw_pos P rows.length u []
    have b3 := bkw_nn (P := P) rows.length u [] hq.1 (fun x hx => by cases hx)
    have b4 := bkw_le hPle rows.length u [] (by omega) (by omega) (fun x hx => by cases hx)
    have n5 := n4 u hq
    have m5 := m4 u hq
    generalize bkw P rows.length u [] = b at *
    generalize cycL rows u = c at *
    have c6 := l8States_ok (b.take (b.length - 1)) a.acc.length (by rw [List.length_take]; omega) (by omega) (fun x hx => b3 x (List.mem_of_mem_take hx)) (fun x hx => by have := b4 x (List.mem_of_mem_take hx); omega)
    rw [show (b.take (b.length - 1)).length = b.length - 1 by rw [List.length_take]; omega] at c6
    have eL : AC.list 1 (((b.length : Int) - 1).toNat - Int.toNat 0) (List.take (((b.length : Int) - 1).toNat - Int.toNat 0) (List.drop (Int.toNat 0) (List.map enI b))) = ints (b.take (b.length - 1)) := by
      rw [show ((b.length : Int) - 1).toNat - Int.toNat 0 = b.length - 1 by rw [show Int.toNat 0 = 0 from rfl]; omega]
      show _ = AC.list 1 (b.take (b.length - 1)).length ((b.take (b.length - 1)).map enI)
      rw [show (b.take (b.length - 1)).length = b.length - 1 by rw [List.length_take]; omega, List.map_take]; rfl
    rw [← eL] at c6
    have hs1 : (stL (b.take (b.length - 1)) a.acc.length).length = b.length - 1 := by rw [stL, List.length_map, List.length_take]; omega
    have hs2 : (stL c a.acc.length).length = c.length := by rw [stL, List.length_map]
    have c7 := l8States_ok c a.acc.length (by omega) (by omega) n5 (fun x hx => by have := m5 x hx; omega)
    generalize a.acc.getD (u % (a.acc.length : Int)).toNat false = z at *
    cases z
    · rw [if_neg (by simp)] at hi2
      repeat' ((first | (apply AWP.go ok; rfl) | (apply z38; kernel_rfl) | (refine z43 (i := i) (by simp) hgi ?_) | (refine z43 (i := (u % (a.acc.length : Int)).toNat) (by simp) hga ?_) | (apply And.intro; first | omega | (unfold inI; omega)) | ((apply z8) <;> intro _)) <;> conv => whnf)
      all_goals first | (exfalso; omega) | skip
      all_goals refine z49 (i + 1) ⟨hi3, hi2⟩ (by omega) (by refine SealW.reach [0, 1] [] rfl rfl rfl rfl ?_ ?_ <;> (repeat' (first | exact LocLe.refl _ | exact F2.nil | apply F2.cons | apply ObjLe.box | exact True.intro | apply And.intro)))
    · rw [if_pos rfl] at hi2
      by_cases hc : 0 < c.length
      · rw [if_pos hc] at hi2
        subst hi2
        repeat' ((first | (apply AWP.go ok; rfl) | (apply z38; kernel_rfl) | (refine z43 (i := i) (by simp) hgi ?_) | (refine z43 (i := (u % (a.acc.length : Int)).toNat) (by simp) hga ?_) | (apply And.intro; first | omega | (unfold inI; omega)) | ((apply z8) <;> intro _) | (apply z10 (c4); rfl; rfl) | (apply z10 (c5); rfl; rfl) | ((first | (apply z7 [] [] [2] (c6); rfl; (focus ((repeat' exact z6) <;> fail))) | (apply z7 [] [] [3] (c7); rfl; (focus ((repeat' exact z6) <;> fail)))); rfl; rfl; rfl; rfl; rfl; (focus ((repeat' first | exact z19 | apply z16) <;> (refine z34 ?_; ((exact z4 fun _ => rfl))))); (exact .inl rfl))) <;> conv => whnf)
        all_goals first | (exfalso; omega) | skip
        all_goals (refine RetS.lay [] [2, 3] rfl rfl rfl ?_; refine RetS.done ?_ ?_ <;> (repeat' (first | exact LocLe.refl _ | exact F2.nil | apply F2.cons | (refine z96 ?_; omega) | ((apply z27 rfl rfl rfl); (focus ((repeat ((exact z23 (fun _ => rfl) _))); done)); (focus (((simp; omega)); done))) | apply z42 | apply z85)))
      · rw [if_neg hc] at hi2
        repeat' ((first | (apply AWP.go ok; rfl) | (apply z38; kernel_rfl) | (refine z43 (i := i) (by simp) hgi ?_) | (refine z43 (i := (u % (a.acc.length : Int)).toNat) (by simp) hga ?_) | (apply And.intro; first | omega | (unfold inI; omega)) | ((apply z8) <;> intro _) | (apply z10 (c4); rfl; rfl) | (apply z10 (c5); rfl; rfl)) <;> conv => whnf)
        all_goals first | (exfalso; omega) | skip
        all_goals refine z49 (i + 1) ⟨hi3, hi2⟩ (by omega) (by refine SealW.reach [0, 1] [] rfl rfl rfl rfl ?_ ?_ <;> (repeat' (first | exact LocLe.refl _ | exact F2.nil | apply F2.cons | apply ObjLe.box | exact True.intro | apply And.intro)))
  · have e : Q.length = i := by omega
    subst e
    rw [List.drop_length, finT] at hi2
    subst hi2
    repeat' ((first | (apply AWP.go ok; rfl) | (apply z38; kernel_rfl) | (apply And.intro; omega) | ((first | (with_reducible apply z13; omega) | (with_reducible apply z45; omega)); intro _) | ((first | apply z8 | apply z56) <;> intro _)) <;> conv => whnf)
    all_goals first | (exfalso; omega) | skip
    all_goals (refine RetS.lay [] [] rfl rfl rfl ?_; refine RetS.done ?_ ?_ <;> (repeat' (first | exact LocLe.refl _ | exact z31 | exact F2.nil | apply F2.cons | apply z42 | apply z85)))
end Go.Proofs.YtknlmbniicacmaaGreat

namespace Go.Proofs.YtknlmbniicacmaaGreat
open Go.Gl
attribute [local irreducible] z48 AWP z76 z84 z81 RetS z103

set_option maxHeartbeats 3200000 in
theorem l9Rank_ok (R row : List Int) (z : Bool) {M : Int} (hB : Bd M R) (hM : 0 ≤ M) (hM2 : M ≤ 1000000000) (hr : InN R.length row) (hRl : R.length ≤ 100000) (hrl : row.length ≤ 1000000000) : CallsA Tryz.prog 200 [ints row, ints R, .bool z] [] (.int (rkOf R z row)) [] := by
  refine z14 z29 Tryz.func200 rfl rfl 31 Tryz.ntmps200 (by simp) ?_
  repeat' (((apply AWP.go ok; rfl)) <;> conv => whnf)
  refine z115 (fun i : Nat => ([(0, ints row), (1, ints R), (2, .bool z), (7, .int ((row.take i).foldl (rkStep R z) 0)), (8, .int i)], [])) (fun i => i ≤ row.length) (fun i => row.length - i) 0 (Nat.zero_le _) (by refine SealW.reach [] [] rfl rfl rfl rfl ?_ ?_ <;> (repeat' (first | exact LocLe.refl _ | exact F2.nil | exact True.intro | apply And.intro))) ?_
  intro i hi
  by_cases hi2 : i < row.length
  · have hx := hr _ (List.getElem_mem hi2)
    have hb := hB.getD hM row[i].toNat
    have ho := rkFold_le hB hM (z := z) (row.take i) 0 ⟨by omega, by omega⟩
    have hs : (row.take (i + 1)).foldl (rkStep R z) 0 = rkStep R z ((row.take i).foldl (rkStep R z) 0) row[i] := by rw [List.take_succ_eq_append_getElem hi2, List.foldl_append]; rfl
    have hg : (row.map enI)[i]? = some (enI row[i]) := by rw [List.getElem?_map, List.getElem?_eq_getElem hi2]; rfl
    have hg2 : (R.map enI)[row[i].toNat]? = some (enI (R.getD row[i].toNat 0)) := by rw [List.getElem?_map, List.getElem?_eq_getElem (by omega), z50 (by omega)]; rfl
    generalize (row.take i).foldl (rkStep R z) 0 = o at *
    generalize row[i] = v at *
    rw [show rkStep R z o v = (if o < R.getD v.toNat 0 + (if z = true then 1 else 0) then R.getD v.toNat 0 + (if z = true then 1 else 0) else o) from rfl] at hs
    generalize R.getD v.toNat 0 = r at *
    cases z
    · simp only [if_neg (show ¬ false = true by simp), Int.add_zero] at hs
      by_cases hlt : o < r
      · rw [if_pos hlt] at hs
        repeat' ((first | (apply AWP.go ok; rfl) | (refine z43 (i := i) (by simp) hg ?_) | (refine z43 (i := v.toNat) (by simp) hg2 ?_) | (apply And.intro; first | omega | (unfold inI; omega)) | ((apply z8) <;> intro _)) <;> conv => whnf)
        all_goals first | (exfalso; omega) | skip
        all_goals refine z49 (i + 1) hi2 (by omega) (by refine SealW.reach [] [] rfl rfl rfl rfl ?_ ?_ <;> (repeat' (first | exact LocLe.refl _ | exact F2.nil | (refine z78 ?_; omega) | exact True.intro | apply And.intro)) <;> ((rw [hs]; exact LocLe.refl _)))
      · rw [if_neg hlt] at hs
        repeat' ((first | (apply AWP.go ok; rfl) | (refine z43 (i := i) (by simp) hg ?_) | (refine z43 (i := v.toNat) (by simp) hg2 ?_) | (apply And.intro; first | omega | (unfold inI; omega)) | ((apply z8) <;> intro _)) <;> conv => whnf)
        all_goals first | (exfalso; omega) | skip
        all_goals refine z49 (i + 1) hi2 (by omega) (by refine SealW.reach [] [] rfl rfl rfl rfl ?_ ?_ <;> (repeat' (first | exact LocLe.refl _ | exact F2.nil | (refine z78 ?_; omega) | exact True.intro | apply And.intro)) <;> ((rw [hs]; exact LocLe.refl _)))
    · simp only [if_pos] at hs
      by_cases hlt : o < r + 1
      · rw [if_pos hlt] at hs
        repeat' ((first | (apply AWP.go ok; rfl) | (refine z43 (i := i) (by simp) hg ?_) | (refine z43 (i := v.toNat) (by simp) hg2 ?_) | (apply And.intro; first | omega | (unfold inI; omega)) | ((apply z8) <;> intro _)) <;> conv => whnf)
        all_goals first | (exfalso; omega) | skip
        all_goals refine z49 (i + 1) hi2 (by omega) (by refine SealW.reach [] [] rfl rfl rfl rfl ?_ ?_ <;> (repeat' (first | exact LocLe.refl _ | exact F2.nil | (refine z78 ?_; omega) | exact True.intro | apply And.intro)) <;> ((rw [hs]; exact LocLe.refl _)))
      · rw [if_neg hlt] at hs
        repeat' ((first | (apply AWP.go ok; rfl) | (refine z43 (i := i) (by simp) hg ?_) | (refine z43 (i := v.toNat) (by simp) hg2 ?_) | (apply And.intro; first | omega | (unfold inI; omega)) | ((apply z8) <;> intro _)) <;> conv => whnf)
        all_goals first | (exfalso; omega) | skip
        all_goals refine z49 (i + 1) hi2 (by omega) (by refine SealW.reach [] [] rfl rfl rfl rfl ?_ ?_ <;> (repeat' (first | exact LocLe.refl _ | exact F2.nil | (refine z78 ?_; omega) | exact True.intro | apply And.intro)) <;> ((rw [hs]; exact LocLe.refl _)))
  · have e : row.length = i := by omega
    subst e
    rw [List.take_length]
    repeat' ((first | (apply AWP.go ok; rfl) | (apply And.intro; omega) | ((first | (with_reducible apply z13; omega) | (with_reducible apply z45; omega)); intro _) | ((first | apply z8 | apply z56) <;> intro _)) <;> conv => whnf)
    all_goals first | (exfalso; omega) | skip
    all_goals (refine RetS.lay [] [] rfl rfl rfl ?_; refine RetS.done ?_ ?_ <;> (repeat' (first | exact LocLe.refl _ | exact F2.nil)))

set_option maxHeartbeats 12800000 in
theorem l9Make_new (rows : List (List Int)) (a : Aut) (hr : ∀ r ∈ rows, InN rows.length r) (hi : InN rows.length a.ini) (hac : 1 ≤ a.acc.length ∧ a.acc.length ≤ 64) (hN : rows.length ≤ 3840) (hrl : ∀ r ∈ rows, r.length ≤ 1000000000) (hil : a.ini.length ≤ 1048576) : CallsA Tryz.prog 140 [lst 1 encL rows, .agg a.cs] [] (.sref 0 0 rows.length) [.cells 1 ((makeR rows a.ini a.acc).map enI)] := by
  have c1 := l7Reach_ok rows a.ini hr hi (by omega) hrl hil
  have hQn := bfs_len hr hi rows.length
  have hQi := bfs_in hr hi rows.length
  change (bfsL rows a.ini).length ≤ rows.length at hQn
  change InN rows.length (bfsL rows a.ini) at hQi
  have hml := makeR_len rows a.ini a.acc
  unfold makeR at *
  generalize bfsL rows a.ini = nodes at *
  refine z14 z29 Tryz.func140 rfl rfl 89 Tryz.ntmps140 (by simp) ?_
  repeat' ((first | (apply AWP.go ok; rfl) | (apply z10 (c1); rfl; rfl)) <;> conv => whnf)
  all_goals skip
  refine z115 (fun x : Nat × List Int => ([(0, lst 1 encL rows), (3, .ptr 0 none 0), (5, .int a.acc.length), (6, ints nodes), (7, .sref 1 0 x.2.length), (8, .int x.1)], [.cells 3 [a.cs], .cells 1 (x.2.map enI)])) (fun x => x.1 ≤ rows.length ∧ x.2.length = x.1 ∧ x.2 = fillN x.1) (fun x => rows.length - x.1) (0, []) ⟨Nat.zero_le _, rfl, rfl⟩ (by refine SealW.reach [0, 1] [] rfl rfl rfl rfl ?_ ?_ <;> (repeat' (first | exact LocLe.refl _ | exact F2.nil | apply F2.cons | apply ObjLe.box | ((refine z17 rfl ?_ ?_); (focus ((repeat' (exact z12)); done))) | exact True.intro | apply And.intro))) ?_
  rintro ⟨i, F⟩ ⟨hF1, hFl, hF2⟩
  dsimp only at hF1 hFl hF2 ⊢
  by_cases hi2 : i < rows.length
  · repeat' ((first | (apply AWP.go ok; rfl) | (apply And.intro; first | (unfold inI; omega) | ((try dsimp only); simp only [List.length_map, List.length_take, List.length_append, List.length_replicate, List.length_cons, List.length_nil]; omega) | exact ⟨rfl, z21 rfl z26⟩) | ((apply z8) <;> intro _)) <;> conv => whnf)
    all_goals first | (exfalso; omega) | skip
    all_goals refine z49 (i + 1, F ++ [-1]) ⟨hi2, by rw [List.length_append, hFl]; rfl, by show _ = fillN (i + 1); rw [fillN_succ, ← hF2]⟩ (by show rows.length - (i + 1) < _; omega) (by refine SealW.reach [0, 3] [] rfl rfl rfl rfl ?_ ?_ <;> (repeat' (first | exact LocLe.refl _ | exact F2.nil | apply F2.cons | (refine z37 ?_; ((simp; done))) | apply ObjLe.box | ((refine z24 rfl ?_ ?_); (focus ((repeat' (first | exact z4 (fun _ => rfl) | apply z15)); done))) | (refine z64 ?_ ?_; (focus (omega))) | exact True.intro | apply And.intro)))
  have e : rows.length = i := by omega
  have hz0 : zeroR rows.length (nodes.take 0) = F := by rw [hF2, ← e]; rfl
  subst e
  clear hF1 hF2 hi2
  repeat' ((first | (apply AWP.go ok; rfl) | (apply And.intro; omega) | ((apply z8) <;> intro _)) <;> conv => whnf)
  all_goals first | (exfalso; omega) | skip
  refine z115 (fun x : Nat × List Int => ([(0, lst 1 encL rows), (3, .ptr 0 none 0), (5, .int a.acc.length), (6, ints nodes), (7, .sref 1 0 x.2.length), (9, .int x.1)], [.cells 3 [a.cs], .cells 1 (x.2.map enI)])) (fun x => x.1 ≤ nodes.length ∧ zeroR rows.length (nodes.take x.1) = x.2) (fun x => nodes.length - x.1) (0, F) ⟨Nat.zero_le _, hz0⟩ (by refine SealW.reach [0, 1] [] rfl rfl rfl rfl ?_ ?_ <;> (repeat' (first | exact LocLe.refl _ | exact F2.nil | apply F2.cons | exact z20 _ | apply ObjLe.box | ((refine z17 rfl ?_ ?_); (focus ((repeat' ((exact z4 (fun _ => rfl)))); done))) | exact True.intro | apply And.intro))) ?_
  clear hz0 hFl F
  rintro ⟨i, R⟩ ⟨hi1, hR⟩
  dsimp only at hi1 hR ⊢
  have hRl := zeroR_len rows.length (nodes.take i)
  rw [hR] at hRl
  by_cases hi2 : i < nodes.length
  · have hx := hQi _ (List.getElem_mem hi2)
    have hs := zeroR_take (N := rows.length) hi2
    rw [hR] at hs
    repeat' ((first | (apply AWP.go ok; rfl) | (apply And.intro; first | omega | (unfold inI; omega)) | ((first | (with_reducible apply z13; omega) | (apply z13; omega)); intro _) | ((apply z8) <;> intro _)) <;> conv => whnf)
    all_goals first | (exfalso; omega) | skip
    all_goals refine z49 (i + 1, R.set nodes[i].toNat 0) ⟨hi2, hs⟩ (by show nodes.length - (i + 1) < _; omega) (by refine SealW.reach [0, 1] [] rfl rfl rfl rfl ?_ ?_ <;> (repeat' (first | exact LocLe.refl _ | exact F2.nil | apply F2.cons | (refine z37 ?_; ((simp; done))) | apply ObjLe.box | ((refine z51 rfl ?_ ?_); (focus ((repeat' ((exact z4 (fun _ => rfl)))); done))) | (refine z95 (by omega) ?_) | exact True.intro | apply And.intro)))
  have e : nodes.length = i := by omega
  subst e
  rw [List.take_length] at hR
  have hbd := zeroR_bd rows.length nodes
  rw [hR] at hbd hml ⊢
  clear hi2 hi1 hR
  generalize hRR : roundsR rows a.acc nodes (nodes.length + 2) R true = RR at *
  have hrevl : nodes.reverse.length = nodes.length := List.length_reverse
  repeat' ((first | (apply AWP.go ok; rfl) | (apply And.intro; omega) | ((first | (with_reducible apply z13; omega) | (apply z13; omega)); intro _) | ((apply z8) <;> intro _)) <;> conv => whnf)
  all_goals first | (exfalso; omega) | skip
  refine z115 (fun x : Nat × List Int × Bool => ([(0, lst 1 encL rows), (3, .ptr 0 none 0), (5, .int a.acc.length), (6, ints nodes), (7, .sref 1 0 x.2.1.length), (10, .bool x.2.2), (11, .int x.1)], [.cells 3 [a.cs], .cells 1 (x.2.1.map enI)])) (fun x => x.1 ≤ nodes.length + 2 ∧ x.2.1.length = rows.length ∧ Bd (4000 * x.1) x.2.1 ∧ roundsR rows a.acc nodes (nodes.length + 2 - x.1) x.2.1 x.2.2 = RR) (fun x => nodes.length + 2 - x.1) (0, R, true) ⟨Nat.zero_le _, hRl, hbd, hRR⟩ (by refine SealW.reach [0, 1] [] rfl rfl rfl rfl ?_ ?_ <;> (repeat' (first | exact LocLe.refl _ | exact F2.nil | apply F2.cons | exact z20 _ | apply ObjLe.box | ((refine z17 rfl ?_ ?_); (focus ((repeat' ((exact z4 (fun _ => rfl)))); done))) | exact True.intro | apply And.intro))) ?_
  clear hRR hbd hRl R
  rintro ⟨r, R, ch⟩ ⟨hr1, hRl, hbd, hRR⟩
  dsimp only at hr1 hRl hbd hRR ⊢
  have hend : ∀ f, roundsR rows a.acc nodes f R false = R := fun f => by cases f <;> rfl
  cases ch
  · rw [hend] at hRR
    subst hRR
    repeat' (((apply AWP.go ok; rfl)) <;> conv => whnf)
    all_goals skip
    all_goals (refine RetS.lay [1] [] rfl rfl rfl ?_; refine RetS.done ?_ ?_ <;> (repeat' (first | exact F2.nil | apply F2.cons | exact z20 _ | (refine z37 ?_; (omega)) | ((refine z17 rfl ?_ ?_); (focus ((repeat' ((exact z4 (fun _ => rfl)))); done))))))
  by_cases hr2 : r ≤ nodes.length + 1
  · rw [show nodes.length + 2 - r = (nodes.length + 1 - r) + 1 by omega, roundsR, if_pos rfl] at hRR
    repeat' ((first | (apply AWP.go ok; rfl) | (apply And.intro; (unfold inI; omega)) | ((apply z8) <;> intro _)) <;> conv => whnf)
    all_goals first | (exfalso; omega) | skip
    refine z115 (fun y : Nat × List Int × Bool => ([(0, lst 1 encL rows), (3, .ptr 0 none 0), (5, .int a.acc.length), (6, ints nodes), (7, .sref 1 0 y.2.1.length), (10, .bool y.2.2), (11, .int r), (12, .int ((nodes.length : Int) - 1 - y.1))], [.cells 3 [a.cs], .cells 1 (y.2.1.map enI)])) (fun y => y.1 ≤ nodes.length ∧ (nodes.reverse.take y.1).foldl (relax rows a.acc) (R, false) = (y.2.1, y.2.2)) (fun y => nodes.length - y.1) (0, R, false) ⟨Nat.zero_le _, rfl⟩ (by refine SealW.reach [0, 1] [] rfl rfl rfl rfl ?_ ?_ <;> (repeat' (first | exact LocLe.refl _ | exact F2.nil | apply F2.cons | exact z20 _ | (refine z78 ?_; omega) | apply ObjLe.box | ((refine z17 rfl ?_ ?_); (focus ((repeat' ((exact z4 (fun _ => rfl)))); done))) | exact True.intro | apply And.intro))) ?_
    rintro ⟨k, R', c'⟩ ⟨hk, hV⟩
    dsimp only at hk hV ⊢
    have hb' := pass_bd (rows := rows) (acc := a.acc) (nodes.reverse.take k) (R, false) hbd (by omega)
    have hl' := pass_len (rows := rows) (acc := a.acc) (nodes.reverse.take k) (R, false)
    rw [hV] at hb' hl'
    rw [show (nodes.reverse.take k).length = k by rw [List.length_take]; omega] at hb'
    dsimp only at hb' hl'
    rw [hRl] at hl'
    by_cases hk2 : k < nodes.length
    · have hkr : k < nodes.reverse.length := by omega
      have hn2 : nodes.length - 1 - k < nodes.length := by omega
      have hrev : nodes.reverse[k] = nodes[nodes.length - 1 - k] := by rw [List.getElem_reverse]
      have hs : (nodes.reverse.take (k + 1)).foldl (relax rows a.acc) (R, false) = relax rows a.acc (R', c') nodes[nodes.length - 1 - k] := by
        rw [List.take_succ_eq_append_getElem hkr, List.foldl_append, hV, hrev]; rfl
      have hu := hQi _ (List.getElem_mem hn2)
      have hgn : (nodes.map enI)[nodes.length - 1 - k]? = some (enI nodes[nodes.length - 1 - k]) := by rw [List.getElem?_map, List.getElem?_eq_getElem hn2]; rfl
      generalize nodes[nodes.length - 1 - k] = u at *
      have hgr := rowAt hu
      have hm0 : 0 ≤ u % (a.acc.length : Int) := Int.emod_nonneg _ (by omega)
      have hm1 : u % (a.acc.length : Int) < a.acc.length := Int.emod_lt_of_pos _ (by omega)
      have hga : (a.acc.map enB)[(u % (a.acc.length : Int)).toNat]? = some (enB (a.acc.getD (u % (a.acc.length : Int)).toNat false)) := by
        rw [List.getElem?_map, List.getElem?_eq_getElem (by omega), z50 (by omega)]; rfl
      have hgR : (R'.map enI)[u.toNat]? = some (enI (R'.getD u.toNat 0)) := by rw [List.getElem?_map, List.getElem?_eq_getElem (by omega), z50 (by omega)]; rfl
      have hrow : InN R'.length (rows.getD u.toNat []) := by rw [hl']; exact row_in hr u
      have hrowl := rowLen hrl u
      have hbg := hb'.getD (by omega) u.toNat
      have c5 := l9Rank_ok R' (rows.getD u.toNat []) (a.acc.getD (u % (a.acc.length : Int)).toNat false) hb' (by omega) (by omega) hrow (by omega) hrowl
      have hrk := rkOf_le hb' (by omega) (a.acc.getD (u % (a.acc.length : Int)).toNat false) (rows.getD u.toNat [])
      rw [show relax rows a.acc (R', c') u = (if R'.getD u.toNat 0 < rkOf R' (a.acc.getD (u % (a.acc.length : Int)).toNat false) (rows.getD u.toNat []) then (R'.set u.toNat (rkOf R' (a.acc.getD (u % (a.acc.length : Int)).toNat false) (rows.getD u.toNat [])), true) else (R', c')) from rfl] at hs
      generalize rkOf R' (a.acc.getD (u % (a.acc.length : Int)).toNat false) (rows.getD u.toNat []) = w at *
      generalize a.acc.getD (u % (a.acc.length : Int)).toNat false = z at *
      generalize rows.getD u.toNat [] = row at *
      by_cases hlt : R'.getD u.toNat 0 < w
      · rw [if_pos hlt] at hs
        generalize R'.getD u.toNat 0 = y at *
        repeat' ((first | (apply AWP.go ok; rfl) | (refine z43 (i := nodes.length - 1 - k) (by omega) hgn ?_) | (refine z43 (i := u.toNat) (by simp) hgr ?_) | (refine z43 (i := u.toNat) (by simp) hgR ?_) | (refine z43 (i := (u % (a.acc.length : Int)).toNat) (by simp) hga ?_) | (apply And.intro; first | omega | (unfold inI; omega)) | ((apply z8) <;> intro _) | (((apply z7 [] [1] [] (c5); (focus ((repeat' first | exact z130 | apply z105) <;> first | exact z162 rfl rfl rfl | rfl)); (focus ((repeat' exact z6) <;> fail)))); rfl; rfl; rfl; rfl; rfl; (focus ((repeat' exact z19) <;> fail)); ((refine .inr ⟨rfl, ?_⟩; repeat' first | exact True.intro | apply And.intro)))) <;> conv => whnf)
        all_goals first | (exfalso; omega) | kernel_rfl | skip
        all_goals refine z49 (k + 1, R'.set u.toNat w, true) ⟨hk2, hs⟩ (by show nodes.length - (k + 1) < _; omega) (by refine SealW.reach [0, 1] [] rfl rfl rfl rfl ?_ ?_ <;> (repeat' (first | exact LocLe.refl _ | exact F2.nil | apply F2.cons | (refine z78 ?_; omega) | (refine z37 ?_; ((simp; done))) | apply ObjLe.box | ((refine z51 rfl ?_ ?_); (focus ((repeat' ((exact z4 (fun _ => rfl)))); done))) | (refine z95 (by omega) ?_) | exact True.intro | apply And.intro)))
      · rw [if_neg hlt] at hs
        generalize R'.getD u.toNat 0 = y at *
        repeat' ((first | (apply AWP.go ok; rfl) | (refine z43 (i := nodes.length - 1 - k) (by omega) hgn ?_) | (refine z43 (i := u.toNat) (by simp) hgr ?_) | (refine z43 (i := u.toNat) (by simp) hgR ?_) | (refine z43 (i := (u % (a.acc.length : Int)).toNat) (by simp) hga ?_) | (apply And.intro; first | omega | (unfold inI; omega)) | ((apply z8) <;> intro _) | (((apply z7 [] [1] [] (c5); (focus ((repeat' first | exact z130 | apply z105) <;> first | exact z162 rfl rfl rfl | rfl)); (focus ((repeat' exact z6) <;> fail)))); rfl; rfl; rfl; rfl; rfl; (focus ((repeat' exact z19) <;> fail)); ((refine .inr ⟨rfl, ?_⟩; repeat' first | exact True.intro | apply And.intro)))) <;> conv => whnf)
        all_goals first | (exfalso; omega) | kernel_rfl | skip
        all_goals refine z49 (k + 1, R', c') ⟨hk2, hs⟩ (by show nodes.length - (k + 1) < _; omega) (by refine SealW.reach [0, 1] [] rfl rfl rfl rfl ?_ ?_ <;> (repeat' (first | exact LocLe.refl _ | exact F2.nil | apply F2.cons | exact z20 _ | (refine z78 ?_; omega) | apply ObjLe.box | ((refine z17 rfl ?_ ?_); (focus ((repeat' ((exact z4 (fun _ => rfl)))); done))) | exact True.intro | apply And.intro)))
    · have e : nodes.length = k := by omega
      rw [List.take_of_length_le (by omega)] at hV
      rw [show passR rows a.acc nodes R = (R', c') from hV] at hRR
      repeat' ((first | (apply AWP.go ok; rfl) | (apply And.intro; first | omega | (unfold inI; omega)) | (((with_reducible apply z45; omega)); intro _) | ((apply z8) <;> intro _)) <;> conv => whnf)
      all_goals first | (exfalso; omega) | skip
      all_goals refine z49 (r + 1, R', c') ⟨by show r + 1 ≤ nodes.length + 2; omega, hl', hb'.mono (by show 4000 * (r : Int) + k ≤ 4000 * ((r + 1 : Nat) : Int); omega), by rw [show nodes.length + 2 - (r + 1) = nodes.length + 1 - r by omega]; exact hRR⟩ (by show nodes.length + 2 - (r + 1) < _; omega) (by refine SealW.reach [0, 1] [] rfl rfl rfl rfl ?_ ?_ <;> (repeat' (first | exact LocLe.refl _ | exact F2.nil | apply F2.cons | exact z20 _ | apply ObjLe.box | ((refine z17 rfl ?_ ?_); (focus ((repeat' ((exact z4 (fun _ => rfl)))); done))) | exact True.intro | apply And.intro)))
  · rw [show nodes.length + 2 - r = 0 by omega, roundsR] at hRR
    subst hRR
    repeat' ((first | (apply AWP.go ok; rfl) | (apply And.intro; first | omega | (unfold inI; omega)) | ((apply z8) <;> intro _)) <;> conv => whnf)
    all_goals first | (exfalso; omega) | skip
    all_goals (refine RetS.lay [1] [] rfl rfl rfl ?_; refine RetS.done ?_ ?_ <;> (repeat' (first | exact F2.nil | apply F2.cons | exact z20 _ | (refine z37 ?_; (omega)) | ((refine z17 rfl ?_ ?_); (focus ((repeat' ((exact z4 (fun _ => rfl)))); done))))))
end Go.Proofs.YtknlmbniicacmaaGreat

namespace Go.Proofs.YtknlmbniicacmaaGreat
open Go.Gl
attribute [local irreducible] z48

end Go.Proofs.YtknlmbniicacmaaGreat

namespace Go.Proofs.YtknlmbniicacmaaGreat
open Go.Gl
attribute [local irreducible] z48 AWP z76 z84 z81

section
open Go.ChangeShapes Go.WideShapes Go.ChangeAt Go.RowKit
theorem and_mk {a b : Bool} (h : a = true) (k : b = true) : (a && b) = true := by rw [h, k]; rfl
theorem own : ownKnob Tryz.prog.godebug = none := by kernel_rfl
theorem laidOut_ok : laidOutB Tryz.prog = true := by kernel_rfl
end
end Go.Proofs.YtknlmbniicacmaaGreat

namespace Go.Proofs.YtknlmbniicacmaaGreat
open Go.Gl
attribute [local irreducible] z48 AWP z76 z84 z81

theorem ad_code : ArgD Tryz.prog 22 (lst 1 enU) CodeOk :=
  (argD_list (enc1 := lst 1 enU) Tryz.underlying22 (od_list 1 (encL := fun l => [lst 1 enU l]) Tryz.underlying22 (by kernel_rfl) (by decide) (od_byte (enc := enU) Tryz.underlying5 (fun _ => rfl)) (fun _ => rfl)) (fun _ => rfl)).imp fun l h => ⟨l, rfl, h.1, fun x hx => by
    have := h.2 x hx
    have h1 : IntKind.min .u8 = 0 := by decide
    have h2 : IntKind.max .u8 = 255 := by decide
    simpa [Lit.wf, h1, h2] using this⟩
end Go.Proofs.YtknlmbniicacmaaGreat

namespace Go.Proofs.YtknlmbniicacmaaGreat
open Go.Gl
attribute [local irreducible] z48 AWP z76 z84 z81 RetS z103

noncomputable def mkOk (g : Graph) (l : List Tree) (a : Aut) : Bool := (glB g l && autB a) && !(trcO g (g.st.map (z68 l)) a).isSome
noncomputable def mkR (g : Graph) (l : List Tree) (a : Aut) : List Int := if mkOk g l a = true then makeR (z62 g (g.st.map (z68 l)) a) a.ini a.acc else []
theorem mkR_facts {g : Graph} {l : List Tree} {a : Aut} : (mkOk g l a = true → (mkR g l a).length = (prB g l a).length) ∧ (mkR g l a).length ≤ 3840 ∧ Bd 16000000 (mkR g l a) := by
  unfold mkR prB
  by_cases h : mkOk g l a = true
  · have h1 : (glB g l && autB a) = true := by unfold mkOk at h; exact (Bool.and_eq_true_iff.1 h).1
    obtain ⟨h2, h3⟩ := Bool.and_eq_true_iff.1 h1
    obtain ⟨f1, f2, f3, f4, f5⟩ := prod_facts ((z150 g).1 (by unfold glB at h2; exact (Bool.and_eq_true_iff.1 h2).1)) (autB_iff.1 h3) (g.st.map (z68 l))
    rw [if_pos h, if_pos h1, makeR_len, reachB_len]
    refine ⟨fun _ => rfl, f3, ?_⟩
    have hQn := bfs_len f1 f2 (z62 g (g.st.map (z68 l)) a).length
    have hb := rounds_bd (rows := z62 g (g.st.map (z68 l)) a) (acc := a.acc) (nodes := bfsL (z62 g (g.st.map (z68 l)) a) a.ini) ((bfsL (z62 g (g.st.map (z68 l)) a) a.ini).length + 2) _ true (zeroR_bd (z62 g (g.st.map (z68 l)) a).length (bfsL (z62 g (g.st.map (z68 l)) a) a.ini)) (by omega) (by unfold bfsL; omega)
    exact hb.mono (by unfold bfsL; omega)
  · rw [if_neg h]
    exact ⟨fun h' => absurd h' h, Nat.zero_le _, fun x hx => by cases hx⟩
set_option maxHeartbeats 3200000 in
theorem specMake_new (g : Graph) (hg : g.mx) (l : List Tree) (hl : Lmx l) (a : Aut) (ha : a.mx) : CallsA Tryz.prog 50 [.agg g.cs, lst 3 Tree.cs' l, .agg a.cs] [] (.tup [.agg [.sref 0 0 (mkR g l a).length], .bool (mkOk g l a)]) [.cells 1 ((mkR g l a).map enI)] := by
  have k0 := specLabelGraph_ok g hg l hl
  have k1 := z135 a ha
  by_cases hgl : (glB g l && autB a) = true
  · obtain ⟨h1, hab⟩ := Bool.and_eq_true_iff.1 hgl
    have hG := (z150 g).1 (by unfold glB at h1; exact (Bool.and_eq_true_iff.1 h1).1)
    have hL := LabelsOk.of (by unfold glB at h1; exact (Bool.and_eq_true_iff.1 h1).2)
    have hA := autB_iff.1 hab
    have k2 := l8Product_ok g hG (g.st.map (z68 l)) (by simp) (fun x hx => by
      obtain ⟨s, _, rfl⟩ := List.mem_map.1 hx
      exact letter_range hL s) a hA
    have k3 := l8Find_ok g hG (g.st.map (z68 l)) (by simp) (fun x hx => by
      obtain ⟨s, _, rfl⟩ := List.mem_map.1 hx
      exact letter_range hL s) a hA
    obtain ⟨f1, f2, f3, f4, f5⟩ := prod_facts hG hA (g.st.map (z68 l))
    have k4 := l9Make_new (z62 g (g.st.map (z68 l)) a) a f1 f2 hA.1 f3 f4 f5
    have hml := makeR_len (z62 g (g.st.map (z68 l)) a) a.ini a.acc
    rw [if_pos h1, h1] at k0
    rw [hab] at k1
    unfold mkR mkOk
    rw [hgl, Bool.true_and]
    generalize g.st.map (z68 l) = ls at *
    generalize (trcO g ls a).isSome = tb at *
    generalize trcL g ls a = tl at *
    generalize makeR (z62 g ls a) a.ini a.acc = RR at *
    generalize z62 g ls a = rows at *
    cases tb
    · show CallsA _ _ _ _ (.tup [.agg [.sref 0 0 RR.length], .bool true]) [.cells 1 (RR.map enI)]
      rw [hml]
      refine z14 z29 Tryz.func50 rfl rfl 42 Tryz.ntmps50 (by simp) ?_
      repeat' ((first | (apply AWP.go ok; rfl) | (apply z38; kernel_rfl) | (apply z10 (k0); rfl; rfl) | (apply z10 (k1); rfl; rfl) | (apply z10 (k2); rfl; rfl) | (apply z10 (k3); rfl; rfl) | (((apply z7 [] [] [4] (k4); rfl; (focus ((repeat' exact z6) <;> fail)))); rfl; rfl; rfl; rfl; rfl; (focus ((repeat' first | exact z19 | apply z16) <;> (refine z34 ?_; ((exact z4 fun _ => rfl))))); (exact .inl rfl))) <;> conv => whnf)
      all_goals skip
      all_goals (refine RetS.lay [4] [] rfl rfl rfl ?_; refine RetS.done ?_ ?_ <;> (repeat' (first | exact LocLe.refl _ | exact F2.nil | apply F2.cons | exact z20 _ | ((refine z17 rfl ?_ ?_); (focus ((repeat' ((exact z4 (fun _ => rfl)))); done))))))
    · show CallsA _ _ _ _ (.tup [.agg [.sref 0 0 0], .bool false]) [.cells 1 []]
      refine z14 z29 Tryz.func50 rfl rfl 42 Tryz.ntmps50 (by simp) ?_
      repeat' ((first | (apply AWP.go ok; rfl) | (apply z10 (k0); rfl; rfl) | (apply z10 (k1); rfl; rfl) | (apply z10 (k3); rfl; rfl)) <;> conv => whnf)
      all_goals skip
      all_goals (refine RetS.empty 1 ?_; refine RetS.lay [4] [] rfl rfl rfl ?_; refine RetS.done ?_ ?_ <;> (repeat' (first | exact LocLe.refl _ | exact z40 | exact F2.nil | apply F2.cons | ((refine z17 rfl ?_ ?_); (focus ((repeat' (exact z12)); done))) | apply z42 | apply z85)))
  · have e : mkOk g l a = false := by unfold mkOk; rw [(Bool.not_eq_true _).mp hgl]; rfl
    have e2 : mkR g l a = [] := by unfold mkR; rw [e]; rfl
    rw [e, e2]
    show CallsA _ _ _ _ (.tup [.agg [.sref 0 0 0], .bool false]) [.cells 1 []]
    generalize (if glB g l = true then g.st.map (z68 l) else []) = ls at *
    refine z14 z29 Tryz.func50 rfl rfl 42 Tryz.ntmps50 (by simp) ?_
    cases hb1 : glB g l
    · rw [hb1] at k0
      repeat' ((first | (apply AWP.go ok; rfl) | (apply z10 (k0); rfl; rfl)) <;> conv => whnf)
      all_goals skip
      all_goals (refine RetS.empty 1 ?_; refine RetS.lay [3] [] rfl rfl rfl ?_; refine RetS.done ?_ ?_ <;> (repeat' (first | exact LocLe.refl _ | exact z40 | exact F2.nil | apply F2.cons | ((refine z17 rfl ?_ ?_); (focus ((repeat' (exact z12)); done))) | apply z42 | apply z85)))
    · rw [hb1] at k0 hgl
      have hb2 : autB a = false := by simpa using hgl
      rw [hb2] at k1
      repeat' ((first | (apply AWP.go ok; rfl) | (apply z10 (k0); rfl; rfl) | (apply z10 (k1); rfl; rfl)) <;> conv => whnf)
      all_goals skip
      all_goals (refine RetS.empty 1 ?_; refine RetS.lay [3] [] rfl rfl rfl ?_; refine RetS.done ?_ ?_ <;> (repeat' (first | exact LocLe.refl _ | exact z40 | exact F2.nil | apply F2.cons | ((refine z17 rfl ?_ ?_); (focus ((repeat' (exact z12)); done))) | apply z42 | apply z85)))
end Go.Proofs.YtknlmbniicacmaaGreat

namespace Go.Proofs.YtknlmbniicacmaaGreat
open Go.Gl
attribute [local irreducible] z48 AWP z76 z84 z81 RetS z103

theorem bor_pre {objs : Nat → AObj} {π Bn : List Nat} {o n : Nat} {R : List Int} (ho : objs o = .cells 1 (R.map enI)) (h1 : idx π o = none) (h2 : inB Bn o = true) (hl : n ≤ R.length) : bor objs π Bn (.sref o 0 n) = ints (R.take n) := by
  simp only [bor, h1, h2, ho]
  rw [if_pos (by simp; omega), List.drop_zero, unownLL_flat (fun e he x hx => by
    obtain ⟨y, _, rfl⟩ := List.mem_map.1 he
    rw [List.mem_singleton.1 hx]; rfl), ← List.map_take]
  show _ = AC.list 1 (R.take n).length ((R.take n).map enI)
  rw [List.length_take, Nat.min_eq_left hl]
theorem pre_le {objs : Nat → AObj} {π Bn : List Nat} {o a n m : Nat} {R : List Int} (ho : objs o = .cells 1 (R.map enI)) (h1 : idx π o = none) (h2 : inB Bn o = true) (ha : a = 0) (hn : n = m) (hl : m ≤ R.length) : LocLe (bor objs π Bn (.sref o a n)) (ints (R.take m)) := by
  subst ha hn
  rw [bor_pre ho h1 h2 hl]; exact LocLe.refl _
def dblL (R : List Int) (k : Nat) : List Int := (R.take k).map (fun x => if 0 ≤ x then x * 2 + 1 else x) ++ R.drop k
theorem dblL_len (R : List Int) (k : Nat) : (dblL R k).length = R.length := by unfold dblL; simp; omega
theorem dblL_get {R : List Int} {k : Nat} (h : k < R.length) : ((dblL R k).map enI)[k]? = some (enI R[k]) := by
  unfold dblL
  rw [List.map_append, List.getElem?_append_right (by simp; omega)]
  simp only [List.length_map, List.length_take]
  rw [show k - min k R.length = 0 by omega]
  simp [h]
theorem dblL_succ {R : List Int} {k : Nat} (h : k < R.length) : dblL R (k + 1) = if 0 ≤ R[k] then (dblL R k).set k (R[k] * 2 + 1) else dblL R k := by
  unfold dblL
  rw [List.take_succ_eq_append_getElem h, List.map_append, List.drop_eq_getElem_cons h, List.set_append_right _ _ (by simp; omega)]
  simp only [List.length_map, List.length_take]
  rw [show k - min k R.length = 0 by omega, List.set_cons_zero, List.append_assoc]
  split
  · rename_i h0; simp [h0]
  · rename_i h0; simp [h0]
set_option maxHeartbeats 6400000 in
theorem l9Bend_ok (bs : List Int) (hb : BytesOk bs) (p : Int) (hp : few3 p) (R : List Int) (hR : R.length ≤ 3840) (hB : Bd 16000000 R) : ∃ (R' : List Int) (p' : Int), (R'.length ≤ 3840 ∧ p ≤ p' ∧ p' ≤ p + 3) ∧ CallsA Tryz.prog 74 [.ptr 0 none 0, .agg [ints R]] [rdO bs p] (.agg [ints R']) [rdO bs p'] := by
  by_cases h0 : R.length = 0
  · refine ⟨R, p, ⟨hR, by omega, by omega⟩, ?_⟩
    refine z14 z29 Tryz.func74 rfl rfl 65 Tryz.ntmps74 (by simp) ?_
    repeat' ((first | (apply AWP.go ok; rfl) | (apply And.intro; first | (dsimp only; omega) | exact z18 (fun _ => rfl)) | ((apply z8) <;> intro _)) <;> conv => whnf)
    all_goals first | (exfalso; omega) | skip
    all_goals (refine RetS.lay [0] [4] rfl rfl rfl ?_; refine RetS.done ?_ ?_ <;> (repeat' (first | exact LocLe.refl _ | exact F2.nil | apply F2.cons | (refine z96 ?_; omega) | apply ObjLe.box | ((apply z27 rfl rfl rfl); (focus ((repeat ((exact z23 (fun _ => rfl) _))); done)); (focus (((simp; done)); done))) | apply z42)))
  obtain ⟨v, ⟨v0, v1⟩, cv⟩ := z74 bs hb p 6 (by omega) (by omega) (by omega)
  by_cases e0 : v = 0
  · subst e0
    obtain ⟨i, ⟨i0, i1⟩, ci⟩ := z74 bs hb (p + 1) ((0 + R.length : Nat) : Int) (by omega) (by omega) (by omega)
    obtain ⟨x, mx, cx⟩ := z117 bs hb (p + 1 + 1) (by omega) (by omega) [-1, 0, 1, 2, -2, 4001, 9223372036854775807] (by decide) (by decide)
    refine ⟨R.set i.toNat x, p + 1 + 1 + 1, ⟨by simp; omega, by omega, by omega⟩, ?_⟩
    refine z14 z29 Tryz.func74 rfl rfl 65 Tryz.ntmps74 (by simp) ?_
    repeat' ((first | (apply AWP.go ok; rfl) | (apply z38; kernel_rfl) | (apply And.intro; first | omega | (dsimp only; omega) | exact z18 (fun _ => rfl)) | (((apply z13; omega)); intro _) | ((apply z8) <;> intro _) | ((first | (apply z7 [0] [] [] (cv); rfl; (focus ((repeat' first | exact z6 | apply z5) <;> rfl))) | (apply z7 [0] [] [] (ci); rfl; (focus ((repeat' first | exact z6 | apply z5) <;> rfl))) | (apply z7 [0, 6] [] [] (cx); rfl; (focus ((repeat' first | exact z6 | apply z5) <;> rfl)))); rfl; rfl; rfl; rfl; rfl; (focus ((repeat' first | exact z19 | apply z16) <;> first | exact z25 rfl rfl | (refine z34 ?_; ((exact z4 fun _ => rfl))))); (exact .inl rfl))) <;> conv => whnf)
    all_goals first | (exfalso; omega) | skip
    all_goals (refine RetS.lay [0] [4] rfl rfl rfl ?_; refine RetS.done ?_ ?_ <;> (repeat' (first | exact LocLe.refl _ | exact F2.nil | apply F2.cons | apply ObjLe.box | (refine z95 (by omega) ?_) | ((apply z27 rfl rfl rfl); (focus ((repeat (first | exact z23 (fun _ => rfl) _ | apply z69)); done)); (focus (((simp; done)); done))) | apply z42 | (refine z32 ?_ ?_; (focus (simp; done))))))
  by_cases e1 : v = 1
  · subst e1
    refine ⟨R.take (R.length - 1), p + 1, ⟨by simp; omega, by omega, by omega⟩, ?_⟩
    refine z14 z29 Tryz.func74 rfl rfl 65 Tryz.ntmps74 (by simp) ?_
    repeat' ((first | (apply AWP.go ok; rfl) | (apply And.intro; first | omega | (unfold inI; omega) | (dsimp only; omega) | exact z18 (fun _ => rfl)) | ((apply z8) <;> intro _) | (((apply z7 [0] [] [] (cv); rfl; (focus ((repeat' first | exact z6 | apply z5) <;> rfl)))); rfl; rfl; rfl; rfl; rfl; (focus ((repeat' first | exact z19 | apply z16) <;> exact z25 rfl rfl)); (exact .inl rfl))) <;> conv => whnf)
    all_goals first | (exfalso; omega) | skip
    all_goals (refine RetS.lay [0] [4] rfl rfl rfl ?_; refine RetS.done ?_ ?_ <;> (repeat' (first | exact LocLe.refl _ | exact F2.nil | apply F2.cons | apply ObjLe.box | apply z42)))
    all_goals exact pre_le rfl rfl rfl rfl (by omega) (by omega)
  by_cases e2 : v = 2
  · subst e2
    refine ⟨dblL R R.length, p + 1, ⟨by rw [dblL_len]; omega, by omega, by omega⟩, ?_⟩
    refine z14 z29 Tryz.func74 rfl rfl 65 Tryz.ntmps74 (by simp) ?_
    repeat' ((first | (apply AWP.go ok; rfl) | (apply And.intro; first | (dsimp only; omega) | exact z18 (fun _ => rfl)) | ((apply z8) <;> intro _) | (((apply z7 [0] [] [] (cv); rfl; (focus ((repeat' first | exact z6 | apply z5) <;> rfl)))); rfl; rfl; rfl; rfl; rfl; (focus ((repeat' first | exact z19 | apply z16) <;> exact z25 rfl rfl)); (exact .inl rfl))) <;> conv => whnf)
    all_goals first | (exfalso; omega) | skip
    all_goals
      refine z115 (fun x : Nat × List Int => ([(4, .ptr 1 none 0), (5, .ptr 2 none 0), (6, .int R.length), (7, .int x.1)], [rdO bs (p + 1), .cells 1 [[.nils]], .cells 1 [[.sref 3 0 x.2.length]], .cells 1 (x.2.map enI)])) (fun x => x.1 ≤ R.length ∧ x.2 = dblL R x.1) (fun x => R.length - x.1) (0, R) ⟨Nat.zero_le _, by show R = dblL R 0; simp [dblL]⟩ (by refine SealW.reach [0, 2, 5, 4] [] rfl rfl rfl rfl ?_ ?_ <;> (repeat' (first | exact LocLe.refl _ | exact F2.nil | apply F2.cons | exact z20 _ | (refine z78 ?_; omega) | (refine z37 ?_; ((simp; done))) | apply ObjLe.box | ((refine z17 rfl ?_ ?_); (focus ((repeat' ((exact z4 (fun _ => rfl)))); done))) | exact True.intro | apply And.intro))) ?_
      rintro ⟨k, D⟩ ⟨hk, hD⟩
      dsimp only at hk hD ⊢
      have hDl := dblL_len R k
      rw [← hD] at hDl
      by_cases hk2 : k < R.length
      · have hg := dblL_get hk2
        have hs := dblL_succ hk2
        have hx := hB _ (List.getElem_mem hk2)
        rw [← hD] at hg hs
        generalize R[k] = y at *
        by_cases hy : 0 ≤ y
        · rw [if_pos hy] at hs
          repeat' ((first | (apply AWP.go ok; rfl) | (apply z38; kernel_rfl) | (refine z43 (i := k) (by simp) hg ?_) | (apply And.intro; first | omega | (unfold inI; omega)) | ((apply z8) <;> intro _)) <;> conv => whnf)
          all_goals first | (exfalso; omega) | skip
          all_goals refine z49 (k + 1, D.set k (y * 2 + 1)) ⟨hk2, hs.symm⟩ (by show R.length - (k + 1) < R.length - k; omega) (by refine SealW.reach [0, 1, 2, 3] [] rfl rfl rfl rfl ?_ ?_ <;> (repeat' (first | exact LocLe.refl _ | exact F2.nil | apply F2.cons | (refine z37 ?_; ((simp; done))) | apply ObjLe.box | ((refine z51 rfl ?_ ?_); (focus ((repeat' ((exact z4 (fun _ => rfl)))); done))) | (refine z95 (by omega) ?_) | exact True.intro | apply And.intro)))
        · rw [if_neg hy] at hs
          repeat' ((first | (apply AWP.go ok; rfl) | (apply z38; kernel_rfl) | (refine z43 (i := k) (by simp) hg ?_) | (apply And.intro; first | omega | (unfold inI; omega)) | ((apply z8) <;> intro _)) <;> conv => whnf)
          all_goals first | (exfalso; omega) | skip
          all_goals refine z49 (k + 1, D) ⟨hk2, hs.symm⟩ (by show R.length - (k + 1) < R.length - k; omega) (by refine SealW.reach [0, 1, 2, 3] [] rfl rfl rfl rfl ?_ ?_ <;> (repeat' (first | exact LocLe.refl _ | exact F2.nil | apply F2.cons | exact z20 _ | apply ObjLe.box | ((refine z17 rfl ?_ ?_); (focus ((repeat' ((exact z4 (fun _ => rfl)))); done))) | exact True.intro | apply And.intro)))
      · have e : R.length = k := by omega
        have hk3 := hk
        rw [e]
        rw [← hD]
        repeat' ((first | (apply AWP.go ok; rfl) | (apply z38; kernel_rfl) | (apply And.intro; omega) | (((apply z13; omega)); intro _) | ((apply z8) <;> intro _)) <;> conv => whnf)
        all_goals first | (exfalso; omega) | skip
        all_goals (refine RetS.lay [0] [3] rfl rfl rfl ?_; refine RetS.done ?_ ?_ <;> (repeat' (first | exact LocLe.refl _ | exact F2.nil | apply F2.cons | apply ObjLe.box | ((apply z27 rfl rfl rfl); (focus ((repeat ((exact z23 (fun _ => rfl) _))); done)); (focus (((simp; done)); done))) | apply z42)))
  refine ⟨R, p + 1, ⟨hR, by omega, by omega⟩, ?_⟩
  refine z14 z29 Tryz.func74 rfl rfl 65 Tryz.ntmps74 (by simp) ?_
  repeat' ((first | (apply AWP.go ok; rfl) | (apply And.intro; first | omega | (dsimp only; omega) | exact z18 (fun _ => rfl)) | ((apply z8) <;> intro _) | (((apply z7 [0] [] [] (cv); rfl; (focus ((repeat' first | exact z6 | apply z5) <;> rfl)))); rfl; rfl; rfl; rfl; rfl; (focus ((repeat' first | exact z19 | apply z16) <;> exact z25 rfl rfl)); (exact .inl rfl))) <;> conv => whnf)
  all_goals first | (exfalso; omega) | skip
  all_goals (refine RetS.lay [0] [4] rfl rfl rfl ?_; refine RetS.done ?_ ?_ <;> (repeat' (first | exact LocLe.refl _ | exact F2.nil | apply F2.cons | (refine z96 ?_; omega) | apply ObjLe.box | ((apply z27 rfl rfl rfl); (focus ((repeat ((exact z23 (fun _ => rfl) _))); done)); (focus (((simp; done)); done))) | apply z42)))
end Go.Proofs.YtknlmbniicacmaaGreat

namespace Go.Proofs.YtknlmbniicacmaaGreat
open Go.Gl
attribute [local irreducible] z48 AWP z76 z84 z81 RetS z103

end Go.Proofs.YtknlmbniicacmaaGreat

