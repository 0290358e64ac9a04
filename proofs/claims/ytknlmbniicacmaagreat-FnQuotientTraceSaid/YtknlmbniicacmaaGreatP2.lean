/- A part of the proofs over this program: T84, T85, T86, T87, T33I, T88, T89, T31, T32, T33, T90, T91. -/
import Derived.Test.YtknlmbniicacmaaGreatG0
import Derived.Test.YtknlmbniicacmaaGreatG1
import Derived.Test.YtknlmbniicacmaaGreatG2
import Derived.Test.YtknlmbniicacmaaGreatG3
import Derived.Test.YtknlmbniicacmaaGreatP0
import Derived.Test.YtknlmbniicacmaaGreatP1
set_option linter.all false
namespace Go.Proofs.YtknlmbniicacmaaGreat
open Go.Gl
attribute [local irreducible] z35 AWP z65 z78 z74 RetS z97

/-! systems as data -/
structure Edge where
  fr : Int
  to : Int
  gd : Tree
  var : Int
  val : Tree
  sync : Int
def Edge.cs (e : Edge) : List AC := [.int e.fr, .int e.to, .int e.gd.kind, .int e.gd.val, lst 3 Tree.cs' e.gd.kids, .int e.var, .int e.val.kind, .int e.val.val, lst 3 Tree.cs' e.val.kids, .int e.sync]
structure Proc where
  loc : Int
  es : List Edge
def Proc.cs (p : Proc) : List AC := [.int p.loc, lst 10 Edge.cs p.es]
structure Sys where
  init : List Int
  ps : List Proc
def Sys.cs (s : Sys) : List AC := [ints s.init, lst 2 Proc.cs s.ps]
structure Edge.sm (e : Edge) : Prop where
  gd : e.gd.sz ≤ 100
  val : e.val.sz ≤ 100
  var : -1 ≤ e.var ∧ e.var ≤ 2
  sync : -2 ≤ e.sync ∧ e.sync ≤ 2
structure Proc.sm (p : Proc) : Prop where
  loc : 0 ≤ p.loc ∧ p.loc ≤ 100
  len : p.es.length ≤ 10
  el : ∀ e ∈ p.es, e.sm
structure Sys.sm (s : Sys) : Prop where
  init : s.init.length ≤ 10
  len : s.ps.length ≤ 10
  el : ∀ p ∈ s.ps, p.sm

set_option maxHeartbeats 6400000 in
theorem l2DrawEdge_ok (bs : List Int) (hb : BytesOk bs) (p : Int) (hp : few1 p) (n : Int) (hn : 0 ≤ n ∧ n ≤ 100) : ∃ (e : Edge) (p' : Int), (e.sm ∧ p ≤ p' ∧ p' ≤ p + 200) ∧ CallsA Tryz.prog 224 [.ptr 0 none 0, .int n] [rdO bs p] (.agg e.cs) [rdO bs p'] := by
  obtain ⟨a, ⟨la, ua⟩, ca⟩ := z69 bs hb p n (by omega) (by omega) (by omega)
  obtain ⟨b, ⟨lb, ub⟩, cb⟩ := z69 bs hb (p + 1) n (by omega) (by omega) (by omega)
  obtain ⟨gd, q, ⟨g1, g2, g3⟩, cg⟩ := l2Guard_ok bs hb (p + 1 + 1) ⟨by omega, by omega⟩
  obtain ⟨w, ⟨lw, uw⟩, cw⟩ := z69 bs hb q 3 (by omega) (by omega) (by omega)
  rw [Tree.arg_eq] at cg
  by_cases hw : w = 0
  · subst hw
    obtain ⟨y, ⟨ly, uy⟩, cy⟩ := z69 bs hb (q + 1) 4 (by omega) (by omega) (by omega)
    by_cases hy : y = 0
    · subst hy
      obtain ⟨s, ms, cs⟩ := z113 bs hb (q + 1 + 1) (by omega) (by omega) [1, -1, 1, -1, 2, -2] (by decide) (by decide)
      refine ⟨⟨a, b, gd, -1, leaf 0 0, s⟩, q + 1 + 1 + 1, ⟨⟨by show gd.sz ≤ 100; omega, by (rw [z103]; omega), by show -1 ≤ (-1 : Int) ∧ (-1 : Int) ≤ 2; omega, by simp at ms; show -2 ≤ s ∧ s ≤ 2; omega⟩, by omega, by omega⟩, ?_⟩
      refine z19 z26 Tryz.func224 rfl rfl 61 Tryz.ntmps224 (by simp) ?_
      repeat' ((first | (apply AWP.go ok; rfl) | ((first | (apply z8 [0] [] [] (ca); rfl; (focus ((repeat' first | exact z6 | apply z7) <;> rfl))) | (apply z8 [0] [] [] (cb); rfl; (focus ((repeat' first | exact z6 | apply z7) <;> rfl))) | (apply z8 [0] [] [] (cg); rfl; (focus ((repeat' first | exact z6 | apply z7) <;> rfl))) | (apply z8 [0] [] [] (cw); rfl; (focus ((repeat' first | exact z6 | apply z7) <;> rfl))) | (apply z8 [0] [] [] (cy); rfl; (focus ((repeat' first | exact z6 | apply z7) <;> rfl))) | (apply z8 [0, 3] [] [] (cs); rfl; (focus ((repeat' first | exact z6 | apply z7) <;> rfl)))); rfl; rfl; rfl; rfl; rfl; (focus ((repeat' first | exact z17 | apply z15) <;> first | exact z25 rfl rfl | (refine z29 ?_; ((exact z12 fun _ => rfl))))); (exact .inl rfl))) <;> conv => whnf)
      all_goals skip
      all_goals (refine RetS.lay [0] [] rfl rfl rfl ?_; refine RetS.done ?_ ?_ <;> (repeat' (first | exact LocLe.refl _ | exact z61 | exact F2.nil | apply F2.cons | apply ObjLe.box | apply z75)))
    · refine ⟨⟨a, b, gd, -1, leaf 0 0, 0⟩, q + 1 + 1, ⟨⟨by show gd.sz ≤ 100; omega, by (rw [z103]; omega), by show -1 ≤ (-1 : Int) ∧ (-1 : Int) ≤ 2; omega, by show -2 ≤ (0 : Int) ∧ (0 : Int) ≤ 2; omega⟩, by omega, by omega⟩, ?_⟩
      refine z19 z26 Tryz.func224 rfl rfl 61 Tryz.ntmps224 (by simp) ?_
      repeat' ((first | (apply AWP.go ok; rfl) | ((apply z10) <;> intro _) | ((first | (apply z8 [0] [] [] (ca); rfl; (focus ((repeat' first | exact z6 | apply z7) <;> rfl))) | (apply z8 [0] [] [] (cb); rfl; (focus ((repeat' first | exact z6 | apply z7) <;> rfl))) | (apply z8 [0] [] [] (cg); rfl; (focus ((repeat' first | exact z6 | apply z7) <;> rfl))) | (apply z8 [0] [] [] (cw); rfl; (focus ((repeat' first | exact z6 | apply z7) <;> rfl))) | (apply z8 [0] [] [] (cy); rfl; (focus ((repeat' first | exact z6 | apply z7) <;> rfl)))); rfl; rfl; rfl; rfl; rfl; (focus ((repeat' first | exact z17 | apply z15) <;> exact z25 rfl rfl)); (exact .inl rfl))) <;> conv => whnf)
      all_goals first | (exfalso; omega) | skip
      all_goals (refine RetS.lay [0] [] rfl rfl rfl ?_; refine RetS.done ?_ ?_ <;> (repeat' (first | exact LocLe.refl _ | exact z61 | exact F2.nil | apply F2.cons | apply ObjLe.box | apply z75)))
  obtain ⟨x, mx, cx⟩ := z113 bs hb (q + 1) (by omega) (by omega) [0, 1, 0, 2] (by decide) (by decide)
  obtain ⟨z, ⟨lz, uz⟩, cz⟩ := z69 bs hb (q + 1 + 1) 4 (by omega) (by omega) (by omega)
  by_cases h0 : z = 0
  · subst h0
    obtain ⟨k, ⟨lk, uk⟩, ck⟩ := z69 bs hb (q + 1 + 1 + 1) 3 (by omega) (by omega) (by omega)
    obtain ⟨y, ⟨ly, uy⟩, cy⟩ := z69 bs hb (q + 1 + 1 + 1 + 1) 4 (by omega) (by omega) (by omega)
    by_cases hy : y = 0
    · subst hy
      obtain ⟨s, ms, cs⟩ := z113 bs hb (q + 1 + 1 + 1 + 1 + 1) (by omega) (by omega) [1, -1, 1, -1, 2, -2] (by decide) (by decide)
      refine ⟨⟨a, b, gd, x, leaf 1 k, s⟩, q + 1 + 1 + 1 + 1 + 1 + 1, ⟨⟨by show gd.sz ≤ 100; omega, by (rw [z103]; omega), by simp at mx; show -1 ≤ x ∧ x ≤ 2; omega, by simp at ms; show -2 ≤ s ∧ s ≤ 2; omega⟩, by omega, by omega⟩, ?_⟩
      refine z19 z26 Tryz.func224 rfl rfl 61 Tryz.ntmps224 (by simp) ?_
      repeat' ((first | (apply AWP.go ok; rfl) | ((apply z10) <;> intro _) | ((first | (apply z8 [0] [] [] (ca); rfl; (focus ((repeat' first | exact z6 | apply z7) <;> rfl))) | (apply z8 [0] [] [] (cb); rfl; (focus ((repeat' first | exact z6 | apply z7) <;> rfl))) | (apply z8 [0] [] [] (cg); rfl; (focus ((repeat' first | exact z6 | apply z7) <;> rfl))) | (apply z8 [0] [] [] (cw); rfl; (focus ((repeat' first | exact z6 | apply z7) <;> rfl))) | (apply z8 [0, 3] [] [] (cx); rfl; (focus ((repeat' first | exact z6 | apply z7) <;> rfl))) | (apply z8 [0] [] [] (cz); rfl; (focus ((repeat' first | exact z6 | apply z7) <;> rfl))) | (apply z8 [0] [] [] (ck); rfl; (focus ((repeat' first | exact z6 | apply z7) <;> rfl))) | (apply z8 [0] [] [] (cy); rfl; (focus ((repeat' first | exact z6 | apply z7) <;> rfl))) | (apply z8 [0, 6] [] [] (cs); rfl; (focus ((repeat' first | exact z6 | apply z7) <;> rfl)))); rfl; rfl; rfl; rfl; rfl; (focus ((repeat' first | exact z17 | apply z15) <;> first | exact z25 rfl rfl | (refine z29 ?_; ((exact z12 fun _ => rfl))))); (exact .inl rfl))) <;> conv => whnf)
      all_goals first | (exfalso; omega) | skip
      all_goals (refine RetS.lay [0] [] rfl rfl rfl ?_; refine RetS.done ?_ ?_ <;> (repeat' (first | exact LocLe.refl _ | exact z61 | exact F2.nil | apply F2.cons | apply ObjLe.box | apply z75)))
    · refine ⟨⟨a, b, gd, x, leaf 1 k, 0⟩, q + 1 + 1 + 1 + 1 + 1, ⟨⟨by show gd.sz ≤ 100; omega, by (rw [z103]; omega), by simp at mx; show -1 ≤ x ∧ x ≤ 2; omega, by show -2 ≤ (0 : Int) ∧ (0 : Int) ≤ 2; omega⟩, by omega, by omega⟩, ?_⟩
      refine z19 z26 Tryz.func224 rfl rfl 61 Tryz.ntmps224 (by simp) ?_
      repeat' ((first | (apply AWP.go ok; rfl) | ((apply z10) <;> intro _) | ((first | (apply z8 [0] [] [] (ca); rfl; (focus ((repeat' first | exact z6 | apply z7) <;> rfl))) | (apply z8 [0] [] [] (cb); rfl; (focus ((repeat' first | exact z6 | apply z7) <;> rfl))) | (apply z8 [0] [] [] (cg); rfl; (focus ((repeat' first | exact z6 | apply z7) <;> rfl))) | (apply z8 [0] [] [] (cw); rfl; (focus ((repeat' first | exact z6 | apply z7) <;> rfl))) | (apply z8 [0, 3] [] [] (cx); rfl; (focus ((repeat' first | exact z6 | apply z7) <;> rfl))) | (apply z8 [0] [] [] (cz); rfl; (focus ((repeat' first | exact z6 | apply z7) <;> rfl))) | (apply z8 [0] [] [] (ck); rfl; (focus ((repeat' first | exact z6 | apply z7) <;> rfl))) | (apply z8 [0] [] [] (cy); rfl; (focus ((repeat' first | exact z6 | apply z7) <;> rfl)))); rfl; rfl; rfl; rfl; rfl; (focus ((repeat' first | exact z17 | apply z15) <;> first | exact z25 rfl rfl | (refine z29 ?_; ((exact z12 fun _ => rfl))))); (exact .inl rfl))) <;> conv => whnf)
      all_goals first | (exfalso; omega) | skip
      all_goals (refine RetS.lay [0] [] rfl rfl rfl ?_; refine RetS.done ?_ ?_ <;> (repeat' (first | exact LocLe.refl _ | exact z61 | exact F2.nil | apply F2.cons | apply ObjLe.box | apply z75)))
  by_cases h1 : z = 1
  · subst h1
    obtain ⟨y, ⟨ly, uy⟩, cy⟩ := z69 bs hb (q + 1 + 1 + 1) 4 (by omega) (by omega) (by omega)
    by_cases hy : y = 0
    · subst hy
      obtain ⟨s, ms, cs⟩ := z113 bs hb (q + 1 + 1 + 1 + 1) (by omega) (by omega) [1, -1, 1, -1, 2, -2] (by decide) (by decide)
      refine ⟨⟨a, b, gd, x, .mk 8 0 [leaf 2 x, leaf 1 1], s⟩, q + 1 + 1 + 1 + 1 + 1, ⟨⟨by show gd.sz ≤ 100; omega, by (show Tree.sz _ ≤ 100; rw [mk_sz]; simp [z103]), by simp at mx; show -1 ≤ x ∧ x ≤ 2; omega, by simp at ms; show -2 ≤ s ∧ s ≤ 2; omega⟩, by omega, by omega⟩, ?_⟩
      refine z19 z26 Tryz.func224 rfl rfl 61 Tryz.ntmps224 (by simp) ?_
      repeat' ((first | (apply AWP.go ok; rfl) | ((apply z10) <;> intro _) | ((first | (apply z8 [0] [] [] (ca); rfl; (focus ((repeat' first | exact z6 | apply z7) <;> rfl))) | (apply z8 [0] [] [] (cb); rfl; (focus ((repeat' first | exact z6 | apply z7) <;> rfl))) | (apply z8 [0] [] [] (cg); rfl; (focus ((repeat' first | exact z6 | apply z7) <;> rfl))) | (apply z8 [0] [] [] (cw); rfl; (focus ((repeat' first | exact z6 | apply z7) <;> rfl))) | (apply z8 [0, 3] [] [] (cx); rfl; (focus ((repeat' first | exact z6 | apply z7) <;> rfl))) | (apply z8 [0] [] [] (cz); rfl; (focus ((repeat' first | exact z6 | apply z7) <;> rfl))) | (apply z8 [0] [] [] (cy); rfl; (focus ((repeat' first | exact z6 | apply z7) <;> rfl))) | (apply z8 [0, 7] [] [] (cs); rfl; (focus ((repeat' first | exact z6 | apply z7) <;> rfl)))); rfl; rfl; rfl; rfl; rfl; (focus ((repeat' first | exact z17 | apply z15) <;> first | exact z25 rfl rfl | (refine z29 ?_; ((exact z12 fun _ => rfl))))); (exact .inl rfl))) <;> conv => whnf)
      all_goals first | (exfalso; omega) | skip
      all_goals (refine RetS.lay [0] [6] rfl rfl rfl ?_; refine RetS.done ?_ ?_ <;> (repeat' (first | exact LocLe.refl _ | exact z61 | exact F2.nil | apply F2.cons | apply ObjLe.box | ((apply z47 rfl rfl rfl); (focus ((repeat (rfl)); done)); (focus ((rfl); done))) | apply z75 | (apply z83; rfl))))
    · refine ⟨⟨a, b, gd, x, .mk 8 0 [leaf 2 x, leaf 1 1], 0⟩, q + 1 + 1 + 1 + 1, ⟨⟨by show gd.sz ≤ 100; omega, by (show Tree.sz _ ≤ 100; rw [mk_sz]; simp [z103]), by simp at mx; show -1 ≤ x ∧ x ≤ 2; omega, by show -2 ≤ (0 : Int) ∧ (0 : Int) ≤ 2; omega⟩, by omega, by omega⟩, ?_⟩
      refine z19 z26 Tryz.func224 rfl rfl 61 Tryz.ntmps224 (by simp) ?_
      repeat' ((first | (apply AWP.go ok; rfl) | ((apply z10) <;> intro _) | ((first | (apply z8 [0] [] [] (ca); rfl; (focus ((repeat' first | exact z6 | apply z7) <;> rfl))) | (apply z8 [0] [] [] (cb); rfl; (focus ((repeat' first | exact z6 | apply z7) <;> rfl))) | (apply z8 [0] [] [] (cg); rfl; (focus ((repeat' first | exact z6 | apply z7) <;> rfl))) | (apply z8 [0] [] [] (cw); rfl; (focus ((repeat' first | exact z6 | apply z7) <;> rfl))) | (apply z8 [0, 3] [] [] (cx); rfl; (focus ((repeat' first | exact z6 | apply z7) <;> rfl))) | (apply z8 [0] [] [] (cz); rfl; (focus ((repeat' first | exact z6 | apply z7) <;> rfl))) | (apply z8 [0] [] [] (cy); rfl; (focus ((repeat' first | exact z6 | apply z7) <;> rfl)))); rfl; rfl; rfl; rfl; rfl; (focus ((repeat' first | exact z17 | apply z15) <;> first | exact z25 rfl rfl | (refine z29 ?_; ((exact z12 fun _ => rfl))))); (exact .inl rfl))) <;> conv => whnf)
      all_goals first | (exfalso; omega) | skip
      all_goals (refine RetS.lay [0] [6] rfl rfl rfl ?_; refine RetS.done ?_ ?_ <;> (repeat' (first | exact LocLe.refl _ | exact z61 | exact F2.nil | apply F2.cons | apply ObjLe.box | ((apply z47 rfl rfl rfl); (focus ((repeat (rfl)); done)); (focus ((rfl); done))) | apply z75 | (apply z83; rfl))))
  by_cases h2 : z = 2
  · subst h2
    obtain ⟨y, ⟨ly, uy⟩, cy⟩ := z69 bs hb (q + 1 + 1 + 1) 4 (by omega) (by omega) (by omega)
    by_cases hy : y = 0
    · subst hy
      obtain ⟨s, ms, cs⟩ := z113 bs hb (q + 1 + 1 + 1 + 1) (by omega) (by omega) [1, -1, 1, -1, 2, -2] (by decide) (by decide)
      refine ⟨⟨a, b, gd, x, .mk 9 0 [leaf 1 1, leaf 2 x], s⟩, q + 1 + 1 + 1 + 1 + 1, ⟨⟨by show gd.sz ≤ 100; omega, by (show Tree.sz _ ≤ 100; rw [mk_sz]; simp [z103]), by simp at mx; show -1 ≤ x ∧ x ≤ 2; omega, by simp at ms; show -2 ≤ s ∧ s ≤ 2; omega⟩, by omega, by omega⟩, ?_⟩
      refine z19 z26 Tryz.func224 rfl rfl 61 Tryz.ntmps224 (by simp) ?_
      repeat' ((first | (apply AWP.go ok; rfl) | ((apply z10) <;> intro _) | ((first | (apply z8 [0] [] [] (ca); rfl; (focus ((repeat' first | exact z6 | apply z7) <;> rfl))) | (apply z8 [0] [] [] (cb); rfl; (focus ((repeat' first | exact z6 | apply z7) <;> rfl))) | (apply z8 [0] [] [] (cg); rfl; (focus ((repeat' first | exact z6 | apply z7) <;> rfl))) | (apply z8 [0] [] [] (cw); rfl; (focus ((repeat' first | exact z6 | apply z7) <;> rfl))) | (apply z8 [0, 3] [] [] (cx); rfl; (focus ((repeat' first | exact z6 | apply z7) <;> rfl))) | (apply z8 [0] [] [] (cz); rfl; (focus ((repeat' first | exact z6 | apply z7) <;> rfl))) | (apply z8 [0] [] [] (cy); rfl; (focus ((repeat' first | exact z6 | apply z7) <;> rfl))) | (apply z8 [0, 7] [] [] (cs); rfl; (focus ((repeat' first | exact z6 | apply z7) <;> rfl)))); rfl; rfl; rfl; rfl; rfl; (focus ((repeat' first | exact z17 | apply z15) <;> first | exact z25 rfl rfl | (refine z29 ?_; ((exact z12 fun _ => rfl))))); (exact .inl rfl))) <;> conv => whnf)
      all_goals first | (exfalso; omega) | skip
      all_goals (refine RetS.lay [0] [6] rfl rfl rfl ?_; refine RetS.done ?_ ?_ <;> (repeat' (first | exact LocLe.refl _ | exact z61 | exact F2.nil | apply F2.cons | apply ObjLe.box | ((apply z47 rfl rfl rfl); (focus ((repeat (rfl)); done)); (focus ((rfl); done))) | apply z75 | (apply z83; rfl))))
    · refine ⟨⟨a, b, gd, x, .mk 9 0 [leaf 1 1, leaf 2 x], 0⟩, q + 1 + 1 + 1 + 1, ⟨⟨by show gd.sz ≤ 100; omega, by (show Tree.sz _ ≤ 100; rw [mk_sz]; simp [z103]), by simp at mx; show -1 ≤ x ∧ x ≤ 2; omega, by show -2 ≤ (0 : Int) ∧ (0 : Int) ≤ 2; omega⟩, by omega, by omega⟩, ?_⟩
      refine z19 z26 Tryz.func224 rfl rfl 61 Tryz.ntmps224 (by simp) ?_
      repeat' ((first | (apply AWP.go ok; rfl) | ((apply z10) <;> intro _) | ((first | (apply z8 [0] [] [] (ca); rfl; (focus ((repeat' first | exact z6 | apply z7) <;> rfl))) | (apply z8 [0] [] [] (cb); rfl; (focus ((repeat' first | exact z6 | apply z7) <;> rfl))) | (apply z8 [0] [] [] (cg); rfl; (focus ((repeat' first | exact z6 | apply z7) <;> rfl))) | (apply z8 [0] [] [] (cw); rfl; (focus ((repeat' first | exact z6 | apply z7) <;> rfl))) | (apply z8 [0, 3] [] [] (cx); rfl; (focus ((repeat' first | exact z6 | apply z7) <;> rfl))) | (apply z8 [0] [] [] (cz); rfl; (focus ((repeat' first | exact z6 | apply z7) <;> rfl))) | (apply z8 [0] [] [] (cy); rfl; (focus ((repeat' first | exact z6 | apply z7) <;> rfl)))); rfl; rfl; rfl; rfl; rfl; (focus ((repeat' first | exact z17 | apply z15) <;> first | exact z25 rfl rfl | (refine z29 ?_; ((exact z12 fun _ => rfl))))); (exact .inl rfl))) <;> conv => whnf)
      all_goals first | (exfalso; omega) | skip
      all_goals (refine RetS.lay [0] [6] rfl rfl rfl ?_; refine RetS.done ?_ ?_ <;> (repeat' (first | exact LocLe.refl _ | exact z61 | exact F2.nil | apply F2.cons | apply ObjLe.box | ((apply z47 rfl rfl rfl); (focus ((repeat (rfl)); done)); (focus ((rfl); done))) | apply z75 | (apply z83; rfl))))
  obtain ⟨t, q2, ⟨t1, t2, t3⟩, ct⟩ := l1Expr_ok bs hb (q + 1 + 1 + 1) ⟨by omega, by omega⟩
  rw [Tree.arg_eq] at ct
  obtain ⟨y, ⟨ly, uy⟩, cy⟩ := z69 bs hb (q2) 4 (by omega) (by omega) (by omega)
  by_cases hy : y = 0
  · subst hy
    obtain ⟨s, ms, cs⟩ := z113 bs hb (q2 + 1) (by omega) (by omega) [1, -1, 1, -1, 2, -2] (by decide) (by decide)
    refine ⟨⟨a, b, gd, x, t, s⟩, q2 + 1 + 1, ⟨⟨by show gd.sz ≤ 100; omega, by show t.sz ≤ 100; omega, by simp at mx; show -1 ≤ x ∧ x ≤ 2; omega, by simp at ms; show -2 ≤ s ∧ s ≤ 2; omega⟩, by omega, by omega⟩, ?_⟩
    refine z19 z26 Tryz.func224 rfl rfl 61 Tryz.ntmps224 (by simp) ?_
    repeat' ((first | (apply AWP.go ok; rfl) | ((apply z10) <;> intro _) | ((first | (apply z8 [0] [] [] (ca); rfl; (focus ((repeat' first | exact z6 | apply z7) <;> rfl))) | (apply z8 [0] [] [] (cb); rfl; (focus ((repeat' first | exact z6 | apply z7) <;> rfl))) | (apply z8 [0] [] [] (cg); rfl; (focus ((repeat' first | exact z6 | apply z7) <;> rfl))) | (apply z8 [0] [] [] (cw); rfl; (focus ((repeat' first | exact z6 | apply z7) <;> rfl))) | (apply z8 [0, 3] [] [] (cx); rfl; (focus ((repeat' first | exact z6 | apply z7) <;> rfl))) | (apply z8 [0] [] [] (cz); rfl; (focus ((repeat' first | exact z6 | apply z7) <;> rfl))) | (apply z8 [0] [] [] (ct); rfl; (focus ((repeat' first | exact z6 | apply z7) <;> rfl))) | (apply z8 [0] [] [] (cy); rfl; (focus ((repeat' first | exact z6 | apply z7) <;> rfl))) | (apply z8 [0, 6] [] [] (cs); rfl; (focus ((repeat' first | exact z6 | apply z7) <;> rfl)))); rfl; rfl; rfl; rfl; rfl; (focus ((repeat' first | exact z17 | apply z15) <;> first | exact z25 rfl rfl | (refine z29 ?_; ((exact z12 fun _ => rfl))))); (exact .inl rfl))) <;> conv => whnf)
    all_goals first | (exfalso; omega) | skip
    all_goals (refine RetS.lay [0] [] rfl rfl rfl ?_; refine RetS.done ?_ ?_ <;> (repeat' (first | exact LocLe.refl _ | exact F2.nil | apply F2.cons | apply ObjLe.box)))
  · refine ⟨⟨a, b, gd, x, t, 0⟩, q2 + 1, ⟨⟨by show gd.sz ≤ 100; omega, by show t.sz ≤ 100; omega, by simp at mx; show -1 ≤ x ∧ x ≤ 2; omega, by show -2 ≤ (0 : Int) ∧ (0 : Int) ≤ 2; omega⟩, by omega, by omega⟩, ?_⟩
    refine z19 z26 Tryz.func224 rfl rfl 61 Tryz.ntmps224 (by simp) ?_
    repeat' ((first | (apply AWP.go ok; rfl) | ((apply z10) <;> intro _) | ((first | (apply z8 [0] [] [] (ca); rfl; (focus ((repeat' first | exact z6 | apply z7) <;> rfl))) | (apply z8 [0] [] [] (cb); rfl; (focus ((repeat' first | exact z6 | apply z7) <;> rfl))) | (apply z8 [0] [] [] (cg); rfl; (focus ((repeat' first | exact z6 | apply z7) <;> rfl))) | (apply z8 [0] [] [] (cw); rfl; (focus ((repeat' first | exact z6 | apply z7) <;> rfl))) | (apply z8 [0, 3] [] [] (cx); rfl; (focus ((repeat' first | exact z6 | apply z7) <;> rfl))) | (apply z8 [0] [] [] (cz); rfl; (focus ((repeat' first | exact z6 | apply z7) <;> rfl))) | (apply z8 [0] [] [] (ct); rfl; (focus ((repeat' first | exact z6 | apply z7) <;> rfl))) | (apply z8 [0] [] [] (cy); rfl; (focus ((repeat' first | exact z6 | apply z7) <;> rfl)))); rfl; rfl; rfl; rfl; rfl; (focus ((repeat' first | exact z17 | apply z15) <;> first | exact z25 rfl rfl | (refine z29 ?_; ((exact z12 fun _ => rfl))))); (exact .inl rfl))) <;> conv => whnf)
    all_goals first | (exfalso; omega) | skip
    all_goals (refine RetS.lay [0] [] rfl rfl rfl ?_; refine RetS.done ?_ ?_ <;> (repeat' (first | exact LocLe.refl _ | exact F2.nil | apply F2.cons | apply ObjLe.box)))
end Go.Proofs.YtknlmbniicacmaaGreat

namespace Go.Proofs.YtknlmbniicacmaaGreat
open Go.Gl
attribute [local irreducible] z35 AWP z65 z78 z74 RetS z97

def isProc (bs : List Int) (q : Int) (pr : Proc) (q' : Int) : Prop := pr.sm ∧ ∃ (m : Nat) (pf : Nat → Int),
  CallsA Tryz.prog 158 [.ptr 0 none 0, .sref 1 0 4] [rdO bs q, .cells 1 ([2, 3, 1, 2].map enI)] (.int pr.loc) [rdO bs (q + 1), .cells 1 ([2, 3, 1, 2].map enI)] ∧
  CallsA Tryz.prog 158 [.ptr 0 none 0, .sref 1 0 5] [rdO bs (q + 1), .cells 1 ([3, 4, 2, 5, 1].map enI)] (.int m) [rdO bs (q + 1 + 1), .cells 1 ([3, 4, 2, 5, 1].map enI)] ∧
  m ≤ 5 ∧ pr.es.length = m ∧ pf 0 = q + 1 + 1 ∧ pf m = q' ∧ ∀ k (h : k < pr.es.length), CallsA Tryz.prog 224 [.ptr 0 none 0, .int pr.loc] [rdO bs (pf k)] (.agg pr.es[k].cs) [rdO bs (pf (k + 1))]
theorem proc_ex (bs : List Int) (hb : BytesOk bs) (q : Int) (hq : 0 ≤ q ∧ q ≤ 999980000) : ∃ pr q', isProc bs q pr q' ∧ q ≤ q' ∧ q' ≤ q + 1010 := by
  obtain ⟨v, mv, cv⟩ := z113 bs hb q (by omega) (by omega) [2, 3, 1, 2] (by decide) (by decide)
  obtain ⟨w, mw, cw⟩ := z113 bs hb (q + 1) (by omega) (by omega) [3, 4, 2, 5, 1] (by decide) (by decide)
  simp only [List.mem_cons, List.not_mem_nil, or_false] at mv mw
  obtain ⟨m, rfl⟩ : ∃ m : Nat, w = m := ⟨w.toNat, by omega⟩
  obtain ⟨es, pf, h1, h2, h3, h4⟩ := seq_ex (fun _ r (e : Edge) r' => e.sm ∧ CallsA Tryz.prog 224 [.ptr 0 none 0, .int v] [rdO bs r] (.agg e.cs) [rdO bs r']) (q + 1 + 1) 200 m (fun k r hk a1 a2 => by
    obtain ⟨e, r', ⟨b1, b2, b3⟩, c⟩ := l2DrawEdge_ok bs hb r ⟨by omega, by omega⟩ v (by omega)
    exact ⟨e, r', ⟨b1, c⟩, b2, b3⟩)
  have h5 := h4 m (Nat.le_refl _)
  refine ⟨⟨v, es⟩, pf m, ⟨⟨by show 0 ≤ v ∧ v ≤ 100; omega, by show es.length ≤ 10; omega, fun e he => ?_⟩, m, pf, cv, cw, by omega, h1, h2, rfl, fun k h => (h3 k h).2⟩, by omega, by omega⟩
  obtain ⟨i, hi, rfl⟩ := List.mem_iff_getElem.1 he
  exact (h3 i hi).1

set_option maxHeartbeats 6400000 in
theorem l2System_ok (bs : List Int) (hb : BytesOk bs) (p : Int) (hp : few2 p) : ∃ (s : Sys) (p' : Int), (s.sm ∧ p ≤ p' ∧ p' ≤ p + 4000) ∧ CallsA Tryz.prog 169 [.ptr 0 none 0] [rdO bs p] (.agg s.cs) [rdO bs p'] := by
  obtain ⟨a, ⟨la, ua⟩, ca⟩ := z69 bs hb p 2 (by omega) (by omega) (by omega)
  obtain ⟨b, mb, cb⟩ := z113 bs hb (p + 1) (by omega) (by omega) [0, 0, 1, 3] (by decide) (by decide)
  obtain ⟨w, mw, cw⟩ := z113 bs hb (p + 1 + 1) (by omega) (by omega) [2, 1, 2, 3] (by decide) (by decide)
  simp only [List.mem_cons, List.not_mem_nil, or_false] at mw
  obtain ⟨m, rfl⟩ : ∃ m : Nat, w = m := ⟨w.toNat, by omega⟩
  obtain ⟨ps, pf, h1, h2, h3, h4⟩ := seq_ex (fun _ q pr q' => isProc bs q pr q') (p + 1 + 1 + 1) 1010 m (fun k r hk a1 a2 => proc_ex bs hb r (by omega))
  have h5 := h4 m (Nat.le_refl _)
  refine ⟨⟨[a, b, 0], ps⟩, pf m, ⟨⟨by simp, by show ps.length ≤ 10; omega, fun e he => ?_⟩, by omega, by omega⟩, ?_⟩
  · obtain ⟨i, hi, rfl⟩ := List.mem_iff_getElem.1 he
    exact (h3 i hi).1
  rw [← h2] at cw
  refine z19 z26 Tryz.func169 rfl rfl 48 Tryz.ntmps169 (by simp) ?_
  repeat' ((first | (apply AWP.go ok; rfl) | ((first | (apply z8 [0] [] [] (ca); rfl; (focus ((repeat' first | exact z6 | apply z7) <;> rfl))) | (apply z8 [0, 2] [] [] (cb); rfl; (focus ((repeat' first | exact z6 | apply z7) <;> rfl))) | (apply z8 [0, 5] [] [] (cw); rfl; (focus ((repeat' first | exact z6 | apply z7) <;> rfl)))); rfl; rfl; rfl; rfl; rfl; (focus ((repeat' first | exact z17 | apply z15) <;> first | exact z25 rfl rfl | (refine z29 ?_; ((exact z12 fun _ => rfl))))); (exact .inl rfl))) <;> conv => whnf)
  all_goals skip
  refine AWP.reach (Reach.empty 2 rfl) ?_
  refine loopR (fun i : Nat => ([(0, .ptr 0 none 0), (2, .ptr 1 none 0), (3, .ptr 2 none 0), (4, .int (m - i))], [rdO bs (pf i), .cells 2 [[.nils, .nils]], .cells 2 [[ints [a, b, 0], .sref 3 0 i]], .cells 2 ((ps.take i).map Proc.cs)])) (fun i => i ≤ m) (fun i => m - i) 0 (by omega) (by refine SealW.reach [0, 1, 4, 6] [3] rfl rfl rfl rfl ?_ ?_ <;> (repeat' (first | exact LocLe.refl _ | exact z99 | exact F2.nil | apply F2.cons | apply ObjLe.box | ((refine z33 rfl ?_ ?_); (focus ((repeat' (exact z49)); done))) | exact True.intro | apply And.intro))) ?_
  intro i hi
  by_cases him : i < m
  · have hil : i < ps.length := by omega
    obtain ⟨g1, m2, pf2, c1, c2, g2, g3, g4, g5, g6⟩ := h3 i hil
    rw [← g4] at c2
    have hpi : (ps.take (i + 1)).map Proc.cs = (ps.take i).map Proc.cs ++ [Proc.cs ps[i]] := by rw [List.take_succ_eq_append_getElem hil, List.map_append]; rfl
    repeat' ((first | (apply AWP.go ok; rfl) | ((apply z10) <;> intro _) | ((first | (apply z8 [0, 4] [] [] (c1); rfl; (focus ((repeat' first | exact z6 | apply z7) <;> rfl))) | (apply z8 [0, 6] [] [] (c2); rfl; (focus ((repeat' first | exact z6 | apply z7) <;> rfl)))); rfl; rfl; rfl; rfl; rfl; (focus ((repeat' first | exact z17 | apply z15) <;> first | exact z25 rfl rfl | (refine z29 ?_; ((exact z12 fun _ => rfl))))); (exact .inl rfl))) <;> conv => whnf)
    all_goals first | (exfalso; omega) | skip
    refine AWP.reach (Reach.empty 10 rfl) ?_
    refine loopR (fun k : Nat => ([(0, .ptr 0 none 0), (2, .ptr 1 none 0), (3, .ptr 2 none 0), (4, .int (m - i)), (5, .ptr 4 none 0), (6, .int (m2 - k))], [rdO bs (pf2 k), .cells 2 [[.nils, .nils]], .cells 2 [[ints [a, b, 0], .sref 3 0 i]], .cells 2 ((ps.take i).map Proc.cs), .cells 2 [[.int ps[i].loc, .sref 5 0 k]], .cells 10 ((ps[i].es.take k).map Edge.cs)])) (fun k => k ≤ m2) (fun k => m2 - k) 0 (by omega) (by refine SealW.reach [0, 1, 2, 3, 5, 7] [] rfl rfl rfl rfl ?_ ?_ <;> (repeat' (first | exact LocLe.refl _ | exact z99 | exact F2.nil | apply F2.cons | exact z34 _ | apply ObjLe.box | ((refine z33 rfl ?_ ?_); (focus ((repeat' (first | exact z49 | exact z12 (fun _ => rfl))); done))) | exact True.intro | apply And.intro))) ?_
    intro k hk
    by_cases hkm : k < m2
    · have hke : k < ps[i].es.length := by omega
      have ce := g6 k hke
      repeat' ((first | (apply AWP.go ok; rfl) | (apply z30; kernel_rfl) | (apply And.intro; first | omega | (unfold inI; omega) | ((try dsimp only); simp only [List.length_map, List.length_take, List.length_append, List.length_replicate, List.length_cons, List.length_nil]; omega) | exact ⟨rfl, z18 rfl z23⟩) | ((apply z10) <;> intro _) | (((apply z8 [0] [] [] (ce); rfl; (focus ((repeat' first | exact z6 | apply z7) <;> rfl)))); rfl; rfl; rfl; rfl; rfl; (focus ((repeat' first | exact z17 | apply z15) <;> exact z25 rfl rfl)); (exact .inl rfl))) <;> conv => whnf)
      all_goals first | (exfalso; omega) | skip
      all_goals refine z79 (k + 1) (by omega) (by omega) (by refine SealW.reach [0, 1, 2, 3, 4, 7] [] rfl rfl rfl rfl ?_ ?_ <;> (repeat' (first | exact LocLe.refl _ | exact F2.nil | apply F2.cons | exact z34 _ | (refine int_le ?_; omega) | apply ObjLe.box | ((first | refine z56 rfl ?_ ?_ | refine z33 rfl ?_ ?_); (focus ((repeat' (first | exact z12 (fun _ => rfl) | apply z37)); done))) | (refine z126 (by omega) (by omega) ?_) | exact True.intro | apply And.intro)))
    · have ek : k = m2 := by omega
      subst ek
      rw [List.take_of_length_le (show ps[i].es.length ≤ k by omega)]
      repeat' ((first | (apply AWP.go ok; rfl) | (apply And.intro; first | (unfold inI; omega) | ((try dsimp only); simp only [List.length_map, List.length_take, List.length_append, List.length_replicate, List.length_cons, List.length_nil]; omega) | exact ⟨rfl, z18 rfl z23⟩) | ((apply z10) <;> intro _)) <;> conv => whnf)
      all_goals first | (exfalso; omega) | skip
      all_goals refine z79 (i + 1) (by omega) (by omega) (by refine SealW.reach [0, 1, 2, 7] [5] rfl rfl rfl rfl ?_ ?_ <;> (repeat' (first | exact LocLe.refl _ | exact F2.nil | apply F2.cons | (refine lst_le ?_; omega) | (refine int_le ?_; omega) | apply ObjLe.box | ((refine z56 rfl ?_ ?_); (focus ((repeat' (first | exact z12 (fun _ => rfl) | apply z37)); done))) | (refine z126 (by omega) (by omega) ?_) | ((apply z92 rfl rfl rfl); (focus ((repeat ((exact z36 (fun _ => rfl) _))); done)); (focus (((simp; omega)); done))) | exact True.intro | apply And.intro)))
  · have e : i = m := by omega
    subst e
    rw [List.take_of_length_le (show ps.length ≤ i by omega)]
    repeat' ((first | (apply AWP.go ok; rfl) | ((apply z10) <;> intro _)) <;> conv => whnf)
    all_goals first | (exfalso; omega) | skip
    all_goals (refine RetS.lay [0] [3] rfl rfl rfl ?_; refine RetS.done ?_ ?_ <;> (repeat' (first | exact LocLe.refl _ | exact F2.nil | apply F2.cons | (refine lst_le ?_; omega) | apply ObjLe.box | ((apply z47 rfl rfl rfl); (focus ((repeat ((exact z36 (fun _ => rfl) _))); done)); (focus (((simp; omega)); done))) | apply z75)))
end Go.Proofs.YtknlmbniicacmaaGreat

namespace Go.Proofs.YtknlmbniicacmaaGreat
open Go.Gl
attribute [local irreducible] z35 AWP z65 z78 z74 RetS z97

theorem unown_rep (n : Nat) (e : List AC) : z67 (List.replicate n e) = List.replicate n (unownL e) := by
  induction n with
  | zero => rfl
  | succ n ih => simp only [List.replicate_succ, z67, ih]
noncomputable def noneB (t : Tree) : Bool := decide (t.kind = 0 ∧ t.val = 0 ∧ t.kids.length = 0)
theorem l2None_ok (t : Tree) : CallsA Tryz.prog 345 [z93 Tree.cs' t] [] (.bool (noneB t)) [] := by
  refine z14 z26 Tryz.func345 rfl rfl 17 Tryz.ntmps345 (by simp) ?_
  repeat' ((first | (apply AWP.go ok; rfl) | ((apply z10) <;> intro _)) <;> conv => whnf)
  all_goals refine z24 rfl ?_
  all_goals unfold noneB
  all_goals first | (rw [decide_eq_decide]; omega) | (rw [decide_eq_false_iff_not]; omega)

noncomputable def edgOk (e : Edge) (n : Int) : Bool := decide (0 ≤ e.fr ∧ e.fr < n ∧ 0 ≤ e.to ∧ e.to < n ∧ n ≤ 4) && (e.gd.exprB && (decide (-2 ≤ e.sync ∧ e.sync ≤ 2 ∧ -1 ≤ e.var ∧ e.var < 3) && (if e.var < 0 then noneB e.val else e.val.exprB)))
set_option maxHeartbeats 1600000 in
theorem edgeValid_ok (e : Edge) (he : e.sm) (n : Int) : CallsA Tryz.prog 328 [.agg e.cs, .int n] [] (.bool (edgOk e n)) [] := by
  have h1 := he.gd
  have h2 := he.val
  have c1 := z127 e.gd (mx_of_sz _ (by unfold maxLen; omega))
  have c2 := z127 e.val (mx_of_sz _ (by unfold maxLen; omega))
  have c3 := l2None_ok e.val
  rw [Tree.arg_eq] at c1 c2 c3
  unfold edgOk
  generalize e.gd.exprB = b1 at *
  generalize e.val.exprB = b2 at *
  generalize noneB e.val = b3 at *
  by_cases ha : 0 ≤ e.fr ∧ e.fr < n ∧ 0 ≤ e.to ∧ e.to < n ∧ n ≤ 4
  · rw [decide_eq_true ha]
    by_cases hb : -2 ≤ e.sync ∧ e.sync ≤ 2 ∧ -1 ≤ e.var ∧ e.var < 3
    · rw [decide_eq_true hb]
      by_cases hv : e.var < 0
      · rw [if_pos hv]
        refine z14 z26 Tryz.func328 rfl rfl 71 Tryz.ntmps328 (by simp) ?_
        cases b1 <;> cases b3
        all_goals
          repeat' ((first | (apply AWP.go ok; rfl) | ((apply z10) <;> intro _) | (apply z11 (c1); rfl; rfl) | (apply z11 (c3); rfl; rfl)) <;> conv => whnf)
          all_goals first | (exfalso; omega) | exact z24 rfl rfl
      · rw [if_neg hv]
        refine z14 z26 Tryz.func328 rfl rfl 71 Tryz.ntmps328 (by simp) ?_
        cases b1 <;> cases b2
        all_goals
          repeat' ((first | (apply AWP.go ok; rfl) | ((apply z10) <;> intro _) | (apply z11 (c1); rfl; rfl) | (apply z11 (c2); rfl; rfl)) <;> conv => whnf)
          all_goals first | (exfalso; omega) | exact z24 rfl rfl
    · rw [decide_eq_false hb]
      refine z14 z26 Tryz.func328 rfl rfl 71 Tryz.ntmps328 (by simp) ?_
      cases b1
      all_goals
        repeat' ((first | (apply AWP.go ok; rfl) | ((apply z10) <;> intro _) | (apply z11 (c1); rfl; rfl)) <;> conv => whnf)
        all_goals first | (exfalso; omega) | exact z24 rfl rfl
  · rw [decide_eq_false ha]
    refine z14 z26 Tryz.func328 rfl rfl 71 Tryz.ntmps328 (by simp) ?_
    repeat' ((first | (apply AWP.go ok; rfl) | ((first | apply z10 | apply z39) <;> intro _) | (apply z11 (c1); rfl; rfl)) <;> conv => whnf)
    all_goals first | (exfalso; omega) | exact z24 rfl rfl

noncomputable def procB (p : Proc) : Bool := p.es.all (fun e => edgOk e p.loc) && decide (1 ≤ p.loc ∧ p.loc ≤ 4 ∧ p.es.length ≤ 6)
theorem l2Process_ok (p : Proc) (hp : p.sm) : CallsA Tryz.prog 300 [.agg p.cs] [] (.bool (procB p)) [] := by
  have hl := hp.len
  unfold procB
  refine z14 z26 Tryz.func300 rfl rfl 34 Tryz.ntmps300 (by simp) ?_
  repeat' (((apply AWP.go ok; rfl)) <;> conv => whnf)
  refine z100 (fun k : Nat => ([(1, .ptr 0 none 0), (3, .int k)], [.cells 2 [p.cs]])) (fun k => k ≤ p.es.length ∧ p.es.all (fun e => edgOk e p.loc) = (p.es.drop k).all (fun e => edgOk e p.loc)) (fun k => p.es.length - k) 0 ⟨by omega, rfl⟩ ⟨[0], rfl, by decide, rfl, by repeat' (first | exact True.intro | exact ⟨rfl, rfl⟩ | apply And.intro), by repeat' (first | exact True.intro | exact z42 rfl rfl | apply And.intro)⟩ ?_
  intro k hk
  by_cases hkl : k < p.es.length
  · have ce := edgeValid_ok p.es[k] (hp.el _ (List.getElem_mem _)) p.loc
    have e := drop_all (fun e => edgOk e p.loc) p.es k hkl
    rw [e] at hk
    have g0 : (p.es.map Edge.cs)[k]? = some (Edge.cs p.es[k]) := by rw [List.getElem?_map, List.getElem?_eq_getElem hkl]; rfl
    generalize edgOk p.es[k] p.loc = b at *
    cases b
    all_goals
      repeat' ((first | (apply AWP.go ok; rfl) | (apply z30; kernel_rfl) | (refine z32 (i := k) rfl g0 ?_) | (apply And.intro; first | omega | (unfold inI; omega)) | ((apply z10) <;> intro _) | (apply z11 (ce); rfl; rfl)) <;> conv => whnf)
      all_goals first | (exfalso; omega) | skip
    · exact z24 rfl (by rw [hk.2]; rfl)
    · exact z84 (k + 1) [0] ⟨by omega, by rw [hk.2, Bool.true_and]⟩ (by omega) ⟨rfl, by decide, rfl, by repeat' (first | exact True.intro | exact ⟨rfl, rfl⟩ | apply And.intro), by repeat' (first | exact True.intro | exact z42 rfl rfl | apply And.intro)⟩
  · have e := drop_all_end (fun e => edgOk e p.loc) p.es k (by omega)
    rw [e] at hk
    repeat' ((first | (apply AWP.go ok; rfl) | (apply And.intro; omega) | (((with_reducible apply z13; omega)); intro _) | ((apply z10) <;> intro _)) <;> conv => whnf)
    all_goals first | (exfalso; omega) | (refine z24 rfl ?_; rw [hk.2]; simp only [Bool.true_and, Bool.false_and]; first | (rw [decide_eq_decide]; omega) | (rw [decide_eq_false_iff_not]; omega))

noncomputable def sysB (s : Sys) : Bool := s.ps.all procB && (valsB s.init && decide (1 ≤ s.ps.length ∧ s.ps.length ≤ 3))
theorem systemValid_ok (s : Sys) (hs : s.sm) : CallsA Tryz.prog 266 [.agg s.cs] [] (.bool (sysB s)) [] := by
  have hl := hs.len
  have hi := hs.init
  have cv := l1Vals_ok s.init (by unfold maxLen; omega)
  unfold sysB
  generalize valsB s.init = vb at *
  refine z14 z26 Tryz.func266 rfl rfl 33 Tryz.ntmps266 (by simp) ?_
  repeat' (((apply AWP.go ok; rfl)) <;> conv => whnf)
  refine z100 (fun k : Nat => ([(1, .ptr 0 none 0), (3, .int k)], [.cells 2 [s.cs]])) (fun k => k ≤ s.ps.length ∧ s.ps.all procB = (s.ps.drop k).all procB) (fun k => s.ps.length - k) 0 ⟨by omega, rfl⟩ ⟨[0], rfl, by decide, rfl, by repeat' (first | exact True.intro | exact ⟨rfl, rfl⟩ | apply And.intro), by repeat' (first | exact True.intro | exact z42 rfl rfl | apply And.intro)⟩ ?_
  intro k hk
  by_cases hkl : k < s.ps.length
  · have ce := l2Process_ok s.ps[k] (hs.el _ (List.getElem_mem _))
    have e := drop_all procB s.ps k hkl
    rw [e] at hk
    have g0 : (s.ps.map Proc.cs)[k]? = some (Proc.cs s.ps[k]) := by rw [List.getElem?_map, List.getElem?_eq_getElem hkl]; rfl
    generalize procB s.ps[k] = b at *
    cases b
    all_goals
      repeat' ((first | (apply AWP.go ok; rfl) | (refine z32 (i := k) rfl g0 ?_) | (apply And.intro; first | omega | (unfold inI; omega)) | ((apply z10) <;> intro _) | (apply z11 (ce); rfl; rfl)) <;> conv => whnf)
      all_goals first | (exfalso; omega) | skip
    · exact z24 rfl (by rw [hk.2]; rfl)
    · exact z84 (k + 1) [0] ⟨by omega, by rw [hk.2, Bool.true_and]⟩ (by omega) ⟨rfl, by decide, rfl, by repeat' (first | exact True.intro | exact ⟨rfl, rfl⟩ | apply And.intro), by repeat' (first | exact True.intro | exact z42 rfl rfl | apply And.intro)⟩
  · have e := drop_all_end procB s.ps k (by omega)
    rw [e] at hk
    cases vb
    all_goals
      repeat' ((first | (apply AWP.go ok; rfl) | (apply And.intro; omega) | (((with_reducible apply z13; omega)); intro _) | ((apply z10) <;> intro _) | (apply z11 (cv); rfl; rfl)) <;> conv => whnf)
      all_goals first | (exfalso; omega) | (refine z24 rfl ?_; rw [hk.2]; simp only [Bool.true_and, Bool.false_and]; first | done | (rw [decide_eq_decide]; omega) | (rw [decide_eq_false_iff_not]; omega))

theorem initState_ok (s : Sys) (hs : s.sm) : CallsA Tryz.prog 220 [.agg s.cs] [] (.tup [.agg (if sysB s then (⟨List.replicate s.ps.length 0, s.init⟩ : State) else ⟨[], []⟩).cs, .bool (sysB s)]) [] := by
  have hl := hs.len
  have hi := hs.init
  have c := systemValid_ok s hs
  generalize sysB s = b at *
  refine z19 z26 Tryz.func220 rfl rfl 17 Tryz.ntmps220 (by simp) ?_
  cases b
  all_goals
    repeat' ((first | (apply AWP.go ok; rfl) | (apply z30; kernel_rfl) | (apply And.intro; first | (dsimp only; omega) | exact z16 (fun _ => rfl)) | (apply z11 (c); rfl; rfl)) <;> conv => whnf)
    all_goals skip
  · (refine RetS.lay [] [] rfl rfl rfl ?_; refine RetS.done ?_ ?_ <;> (repeat' (first | exact LocLe.refl _ | exact z61 | exact F2.nil | apply F2.cons | apply z75 | apply tup_le)))
  · (refine RetS.lay [] [2, 4] rfl rfl rfl ?_; refine RetS.done ?_ ?_ <;> (repeat' (first | exact LocLe.refl _ | exact F2.nil | apply F2.cons | (refine lst_le ?_; omega) | ((apply z47 rfl rfl rfl); (focus ((repeat (first | exact z36 (fun _ => rfl) _ | rfl)); done)); (focus (((simp; done)); done))) | apply z75 | apply tup_le | (refine z83 ?_ ?_; (focus (simp; done))))))
    exact f22_of_eq (by rw [unown_rep, if_pos rfl]; simp only [List.map_replicate, Int.toNat_natCast]; rfl)
end Go.Proofs.YtknlmbniicacmaaGreat

namespace Go.Proofs.YtknlmbniicacmaaGreat
open Go.Gl
attribute [local irreducible] z35 AWP z65 z78 z74 RetS z97

def Sys.pr (s : Sys) (i : Nat) : Proc := s.ps.getD i ⟨0, []⟩
def Proc.eg (p : Proc) (k : Nat) : Edge := p.es.getD k ⟨0, 0, leaf 0 0, 0, leaf 0 0, 0⟩
theorem Sys.pr_at {s : Sys} {i : Nat} (h : i < s.ps.length) : (s.ps.map Proc.cs)[i]? = some (s.pr i).cs := by
  unfold Sys.pr; rw [z20 h, List.getElem?_map, List.getElem?_eq_getElem h]; rfl
theorem Proc.eg_at {p : Proc} {k : Nat} (h : k < p.es.length) : (p.es.map Edge.cs)[k]? = some (p.eg k).cs := by
  unfold Proc.eg; rw [z20 h, List.getElem?_map, List.getElem?_eq_getElem h]; rfl
/-- what a valid system keeps -/
structure Edge.ok (e : Edge) (n : Int) : Prop where
  to : 0 ≤ e.to ∧ e.to < n
  gd : e.gd.good
  var : -1 ≤ e.var ∧ e.var ≤ 2
  val : 0 ≤ e.var → e.val.good
  sync : -2 ≤ e.sync ∧ e.sync ≤ 2
structure Sys.ok (s : Sys) : Prop where
  n1 : 1 ≤ s.ps.length
  n3 : s.ps.length ≤ 3
  ne : ∀ i, i < s.ps.length → (s.pr i).es.length ≤ 6
  loc : ∀ i, i < s.ps.length → (s.pr i).loc ≤ 4
  eg : ∀ i k, i < s.ps.length → k < (s.pr i).es.length → ((s.pr i).eg k).ok (s.pr i).loc
  init : ValsOk s.init
theorem Sys.ok_of {s : Sys} (h : sysB s = true) : s.ok := by
  unfold sysB at h
  rw [Bool.and_eq_true, Bool.and_eq_true, decide_eq_true_iff, List.all_eq_true] at h
  obtain ⟨h1, h2, h3⟩ := h
  have hp : ∀ i, i < s.ps.length → procB (s.pr i) = true := fun i hi => by unfold Sys.pr; rw [z20 hi]; exact h1 _ (List.getElem_mem _)
  have hq : ∀ i, i < s.ps.length → (∀ e ∈ (s.pr i).es, edgOk e (s.pr i).loc = true) ∧ 1 ≤ (s.pr i).loc ∧ (s.pr i).loc ≤ 4 ∧ (s.pr i).es.length ≤ 6 := fun i hi => by
    have := hp i hi
    unfold procB at this
    rw [Bool.and_eq_true, decide_eq_true_iff, List.all_eq_true] at this
    exact this
  refine ⟨h3.1, h3.2, fun i hi => (hq i hi).2.2.2, fun i hi => (hq i hi).2.2.1, fun i k hi hk => ?_, valsOk_of h2⟩
  have he := (hq i hi).1 ((s.pr i).eg k) (by unfold Proc.eg; rw [z20 hk]; exact List.getElem_mem _)
  unfold edgOk at he
  simp only [Bool.and_eq_true, decide_eq_true_iff] at he
  obtain ⟨a1, a2, a3, a4⟩ := he
  refine ⟨⟨a1.2.2.1, a1.2.2.2.1⟩, Tree.good_of a2, ⟨a3.2.2.1, by omega⟩, fun hv => ?_, ⟨a3.1, a3.2.1⟩⟩
  rw [if_neg (by omega)] at a4
  exact Tree.good_of a4

noncomputable def rdyE (e : Edge) (st : State) (i : Nat) : Bool := decide (e.fr = st.a.getD i 0) && decide (e.gd.ev st.b ≠ 0)
structure State.ok (st : State) (s : Sys) : Prop where
  a : st.a.length = s.ps.length
  b : ValsOk st.b
theorem l3Ready_ok (s : Sys) (hs : s.ok) (st : State) (h : st.ok s) (i k : Nat) (hi : i < s.ps.length) (hk : k < (s.pr i).es.length) : CallsA Tryz.prog 267 [.agg s.cs, .agg st.cs, .int i, .int k] [] (.bool (rdyE ((s.pr i).eg k) st i)) [] := by
  have gp := Sys.pr_at hi
  have ge := Proc.eg_at hk
  have hE := hs.eg i k hi hk
  have h3 := hs.n3
  have ha := h.a
  have h6 := hs.ne i hi
  generalize (s.pr i).eg k = e at *
  have hb := h.b.1
  have ga : (st.a.map enI)[i]? = some (enI (st.a.getD i 0)) := by rw [List.getElem?_map, z20 (show i < st.a.length by omega), List.getElem?_eq_getElem (by omega)]; rfl
  have ce := l1Eval_ok st.b h.b e.gd hE.gd
  rw [Tree.arg_eq] at ce
  unfold rdyE
  generalize st.a.getD i 0 = x at *
  generalize s.pr i = p at *
  refine z14 z26 Tryz.func267 rfl rfl 35 Tryz.ntmps267 (by simp) ?_
  repeat' ((first | (apply AWP.go ok; rfl) | (apply z30; kernel_rfl) | (refine z32 (i := i) rfl gp ?_) | (refine z32 (i := k) rfl ge ?_) | (refine z32 (i := i) rfl ga ?_) | (apply And.intro; omega) | ((apply z10) <;> intro _) | (apply z11 (ce); rfl; rfl)) <;> conv => whnf)
  all_goals skip
  all_goals exact z24 rfl (by simp [*])

structure Stp where
  p : Int
  e : Int
  q : Int
  f : Int
def Stp.cs (x : Stp) : List AC := [.int x.p, .int x.e, .int x.q, .int x.f]
structure Stp.ok (x : Stp) (s : Sys) : Prop where
  p : 0 ≤ x.p ∧ x.p < s.ps.length
  e : 0 ≤ x.e ∧ x.e < (s.pr x.p.toNat).es.length
  q : -1 ≤ x.q ∧ x.q < s.ps.length
  f : 0 ≤ x.q → 0 ≤ x.f ∧ x.f < (s.pr x.q.toNat).es.length
open Classical in
noncomputable def partR (s : Sys) (st : State) (i k : Nat) (j m : Nat) : List Stp := if j ≠ i ∧ ((s.pr j).eg m).sync = -((s.pr i).eg k).sync ∧ rdyE ((s.pr j).eg m) st j = true then [⟨i, k, j, m⟩] else []
noncomputable def partL (s : Sys) (st : State) (i k : Nat) : List Stp := cat s.ps.length fun j => cat (s.pr j).es.length (partR s st i k j)
theorem partL_ok {s : Sys} {st : State} {i k : Nat} (hi : i < s.ps.length) (hk : k < (s.pr i).es.length) : ∀ x ∈ partL s st i k, x.ok s := fun x hx => by
  obtain ⟨j, hj, hx⟩ := mem_cat hx
  obtain ⟨m, hm, hx⟩ := mem_cat hx
  unfold partR at hx
  split at hx
  · rw [List.mem_singleton.1 hx]
    exact ⟨⟨by show 0 ≤ (i : Int); omega, by show (i : Int) < _; omega⟩, ⟨by show 0 ≤ (k : Int); omega, by show (k : Int) < _; simpa using hk⟩, ⟨by show -1 ≤ (j : Int); omega, by show (j : Int) < _; omega⟩, fun _ => ⟨by show 0 ≤ (m : Int); omega, by show (m : Int) < _; simpa using hm⟩⟩
  · cases hx
theorem partL_len {s : Sys} (hs : s.ok) {st : State} {i k : Nat} : (partL s st i k).length ≤ 18 := by
  have h3 := hs.n3
  have := cat_len (n := s.ps.length) (c := 6) (f := fun j => cat (s.pr j).es.length (partR s st i k j)) (fun j hj => by
    have h6 := hs.ne j hj
    have := cat_len (n := (s.pr j).es.length) (c := 1) (f := partR s st i k j) (fun m _ => by unfold partR; split <;> simp)
    omega)
  unfold partL
  omega

set_option maxHeartbeats 1600000 in
theorem l3Partners_ok (s : Sys) (hs : s.ok) (st : State) (h : st.ok s) (i k : Nat) (hi : i < s.ps.length) (hk : k < (s.pr i).es.length) : CallsA Tryz.prog 268 [.agg s.cs, .agg st.cs, .int i, .int k] [] (lst 4 Stp.cs (partL s st i k)) [] := by
  have gp := Sys.pr_at hi
  have ge := Proc.eg_at hk
  have h3 := hs.n3
  have h6 := hs.ne i hi
  have hE := hs.eg i k hi hk
  have hsy := hE.sync
  have hfin : partL s st i k = cat s.ps.length (fun j => cat (s.pr j).es.length (partR s st i k j)) := rfl
  have hR1 : ∀ j m, (j ≠ i ∧ ((s.pr j).eg m).sync = -((s.pr i).eg k).sync ∧ rdyE ((s.pr j).eg m) st j = true) → partR s st i k j m = [⟨i, k, j, m⟩] := fun _ _ h => if_pos h
  have hR0 : ∀ j m, ¬(j ≠ i ∧ ((s.pr j).eg m).sync = -((s.pr i).eg k).sync ∧ rdyE ((s.pr j).eg m) st j = true) → partR s st i k j m = [] := fun _ _ h => if_neg h
  generalize partL s st i k = FIN at *
  generalize partR s st i k = R at *
  generalize (s.pr i).eg k = e at *
  generalize hp : s.pr i = p at *
  refine z19 z26 Tryz.func268 rfl rfl 76 Tryz.ntmps268 (by simp) ?_
  repeat' ((first | (apply AWP.go ok; rfl) | (refine z32 (i := i) rfl gp ?_) | (refine z32 (i := k) rfl ge ?_) | (apply And.intro; omega)) <;> conv => whnf)
  all_goals skip
  refine loopR (fun x : Nat × List Stp => ([(2, .int i), (3, .int k), (4, .ptr 0 none 0), (5, .ptr 1 none 0), (9, .sref 2 0 x.2.length), (10, .int e.sync), (11, .int x.1)], [.cells 2 [s.cs], .cells 2 [st.cs], .cells 4 (x.2.map Stp.cs)])) (fun x => x.1 ≤ s.ps.length ∧ x.2.length ≤ 6 * x.1 ∧ x.2 = cat x.1 fun j => cat (s.pr j).es.length (R j)) (fun x => s.ps.length - x.1) (0, []) ⟨by omega, by simp, rfl⟩ (by refine SealW.reach [0, 1, 2] [] rfl rfl rfl rfl ?_ ?_ <;> (repeat' (first | exact LocLe.refl _ | exact F2.nil | apply F2.cons | apply ObjLe.box | ((refine z33 rfl ?_ ?_); (focus ((repeat' (exact z49)); done))) | exact True.intro | apply And.intro))) ?_
  rintro ⟨j, L⟩ ⟨hj, hLl, hL⟩
  simp only at hj hL hLl
  by_cases hjl : j < s.ps.length
  · have gj := Sys.pr_at hjl
    have hj6 := hs.ne j hjl
    repeat' ((first | (apply AWP.go ok; rfl) | ((apply z10) <;> intro _)) <;> conv => whnf)
    all_goals first | (exfalso; omega) | skip
    refine loopR (fun x : Nat × List Stp => ([(2, .int i), (3, .int k), (4, .ptr 0 none 0), (5, .ptr 1 none 0), (9, .sref 2 0 x.2.length), (10, .int e.sync), (11, .int j), (12, .int x.1)], [.cells 2 [s.cs], .cells 2 [st.cs], .cells 4 (x.2.map Stp.cs)])) (fun x => x.1 ≤ (s.pr j).es.length ∧ x.2.length ≤ 6 * j + x.1 ∧ x.2 = L ++ cat x.1 (R j)) (fun x => (s.pr j).es.length - x.1) (0, L) ⟨by omega, by simpa using hLl, by rw [cat_zero, List.append_nil]⟩ (by refine SealW.reach [0, 1, 2] [] rfl rfl rfl rfl ?_ ?_ <;> (repeat' (first | exact LocLe.refl _ | exact F2.nil | apply F2.cons | exact z34 _ | apply ObjLe.box | ((refine z33 rfl ?_ ?_); (focus ((repeat' ((exact z12 (fun _ => rfl)))); done))) | exact True.intro | apply And.intro))) ?_
    rintro ⟨m, M⟩ ⟨hm, hMl, hM⟩
    simp only at hm hM hMl
    by_cases hml : m < (s.pr j).es.length
    · have gm := Proc.eg_at hml
      have hl := l3Ready_ok s hs st h j m hjl hml
      have hR1m := hR1 j m
      have hR0m := hR0 j m
      have hcs := cat_succ m (R j)
      have hE2 := (hs.eg j m hjl hml).sync
      generalize (s.pr j).eg m = e2 at *
      generalize rdyE e2 st j = rd at *
      generalize hpj : s.pr j = pj at *
      cases rd
      all_goals
        repeat' ((first | (apply AWP.go ok; rfl) | (refine z32 (i := j) rfl gj ?_) | (refine z32 (i := m) rfl gm ?_) | (apply And.intro; first | omega | (unfold inI; omega) | ((try dsimp only); simp only [List.length_map, List.length_take, List.length_append, List.length_replicate, List.length_cons, List.length_nil]; omega) | exact ⟨rfl, z18 rfl z23⟩) | ((first | apply z10 | apply z21) <;> intro _) | (apply z11 (hl); rfl; rfl)) <;> conv => whnf)
        all_goals first | (exfalso; omega) | skip
      all_goals first
        | (have hz := hR1m ⟨by omega, by omega, rfl⟩
           refine z79 (m + 1, M ++ [⟨i, k, j, m⟩]) ⟨by omega, by simp; omega, by rw [hM, hcs, hz, List.append_assoc]⟩ (by show pj.es.length - (m + 1) < pj.es.length - m; omega) (by refine SealW.reach [0, 1, 4] [] rfl rfl rfl rfl ?_ ?_ <;> (repeat' (first | exact LocLe.refl _ | exact F2.nil | apply F2.cons | (refine z120 ?_; ((simp; done))) | apply ObjLe.box | ((refine z56 rfl ?_ ?_); (focus ((repeat' (first | exact z12 (fun _ => rfl) | apply z37)); done))) | (refine z114 ?_ ?_; (focus (omega))) | exact True.intro | apply And.intro))))
        | (have hz := hR0m (by rintro ⟨z1, z2, z3⟩; first | exact absurd z3 (by decide) | omega)
           refine z79 (m + 1, M) ⟨by omega, by simp; omega, by rw [hM, hcs, hz, List.append_nil]⟩ (by show pj.es.length - (m + 1) < pj.es.length - m; omega) (by refine SealW.reach [0, 1, 2] [] rfl rfl rfl rfl ?_ ?_ <;> (repeat' (first | exact LocLe.refl _ | exact F2.nil | apply F2.cons | exact z34 _ | apply ObjLe.box | ((refine z33 rfl ?_ ?_); (focus ((repeat' ((exact z12 (fun _ => rfl)))); done))) | exact True.intro | apply And.intro))))
    · repeat' ((first | (apply AWP.go ok; rfl) | (refine z32 (i := j) rfl gj ?_) | (apply And.intro; first | omega | (unfold inI; omega)) | (((with_reducible apply z13; omega)); intro _) | ((first | apply z10 | apply z21) <;> intro _)) <;> conv => whnf)
      all_goals first | (exfalso; omega) | skip
      have e : m = (s.pr j).es.length := by omega
      all_goals refine z79 (j + 1, M) ⟨by omega, by simp; omega, by rw [hM, hL, e]; exact (cat_succ j fun j => cat (s.pr j).es.length (R j)).symm⟩ (by show s.ps.length - (j + 1) < s.ps.length - j; omega) (by refine SealW.reach [0, 1, 2] [] rfl rfl rfl rfl ?_ ?_ <;> (repeat' (first | exact LocLe.refl _ | exact F2.nil | apply F2.cons | exact z34 _ | apply ObjLe.box | ((refine z33 rfl ?_ ?_); (focus ((repeat' ((exact z12 (fun _ => rfl)))); done))) | exact True.intro | apply And.intro)))
  · have e : j = s.ps.length := by omega
    have eL : L = FIN := by rw [hfin, hL, e]
    subst eL
    repeat' ((first | (apply AWP.go ok; rfl) | ((apply z10) <;> intro _)) <;> conv => whnf)
    all_goals first | (exfalso; omega) | skip
    all_goals (refine RetS.lay [] [2] rfl rfl rfl ?_; refine RetS.done ?_ ?_ <;> (repeat' (first | exact LocLe.refl _ | exact F2.nil | ((apply z47 rfl rfl rfl); (focus ((repeat ((exact z36 (fun _ => rfl) _))); done)); (focus (((simp; done)); done))))))
end Go.Proofs.YtknlmbniicacmaaGreat

namespace Go.Proofs.YtknlmbniicacmaaGreat
open Go.Gl
attribute [local irreducible] z35 AWP z65 z78 z74

theorem keepI {f : FuncId} {args : List AC} {n : Nat} {l : List Int} (h : CallsA Tryz.prog f args [] (.sref 0 0 n) [.cells 1 (l.map enI)]) (hl : l.length = n) : CallsA Tryz.prog f args [] (ints l) [] := by
  subst hl
  exact h.keep (z136 _ _) (by simp)
theorem z129 {objs : Nat → AObj} {π Bn : List Nat} {o : Nat} {l : List Int} (ho : objs o = .cells 1 (l.map enI)) (h1 : idx π o = none) (h2 : inB Bn o = true) : bor objs π Bn (.sref o 0 l.length) = ints l :=
  bor_list ho h1 h2 (by simp) (z136 _ _)
theorem bor_intsN {objs : Nat → AObj} {π Bn : List Nat} {o n : Nat} {l : List Int} (ho : objs o = .cells 1 (l.map enI)) (h1 : idx π o = none) (h2 : inB Bn o = true) (hl : l.length = n) : bor objs π Bn (.sref o 0 n) = ints l := by
  subst hl; exact z129 ho h1 h2
end Go.Proofs.YtknlmbniicacmaaGreat

namespace Go.Proofs.YtknlmbniicacmaaGreat
open Go.Gl
attribute [local irreducible] z35 AWP z65 z78 z74 RetS z97

noncomputable def stepR (s : Sys) (st : State) (j m : Nat) : List Stp := if ((s.pr j).eg m).sync < 0 ∨ rdyE ((s.pr j).eg m) st j = false then [] else if ((s.pr j).eg m).sync = 0 then [⟨j, m, -1, -1⟩] else partL s st j m
noncomputable def stepL (s : Sys) (st : State) : List Stp := cat s.ps.length fun j => cat (s.pr j).es.length (stepR s st j)
theorem stepL_ok {s : Sys} {st : State} : ∀ x ∈ stepL s st, x.ok s := fun x hx => by
  obtain ⟨j, hj, hx⟩ := mem_cat hx
  obtain ⟨m, hm, hx⟩ := mem_cat hx
  unfold stepR at hx
  split at hx
  · cases hx
  split at hx
  · rw [List.mem_singleton.1 hx]
    exact ⟨⟨by show 0 ≤ (j : Int); omega, by show (j : Int) < _; omega⟩, ⟨by show 0 ≤ (m : Int); omega, by show (m : Int) < _; simpa using hm⟩, ⟨by show -1 ≤ (-1 : Int); omega, by show (-1 : Int) < _; omega⟩, fun h => absurd (show (0 : Int) ≤ -1 from h) (by decide)⟩
  · exact partL_ok hj hm x hx

set_option maxHeartbeats 1600000 in
theorem l3Steps_ok (s : Sys) (hs : s.ok) (st : State) (h : st.ok s) : CallsA Tryz.prog 221 [.agg s.cs, .agg st.cs] [] (lst 4 Stp.cs (stepL s st)) [] := by
  have h3 := hs.n3
  have hfin : stepL s st = cat s.ps.length (fun j => cat (s.pr j).es.length (stepR s st j)) := rfl
  have hR0 : ∀ j m, (((s.pr j).eg m).sync < 0 ∨ rdyE ((s.pr j).eg m) st j = false) → stepR s st j m = [] := fun _ _ h => if_pos h
  have hR1 : ∀ j m, ¬(((s.pr j).eg m).sync < 0 ∨ rdyE ((s.pr j).eg m) st j = false) → ((s.pr j).eg m).sync = 0 → stepR s st j m = [⟨j, m, -1, -1⟩] := fun _ _ h k => by unfold stepR; rw [if_neg h, if_pos k]
  have hR2 : ∀ j m, ¬(((s.pr j).eg m).sync < 0 ∨ rdyE ((s.pr j).eg m) st j = false) → ((s.pr j).eg m).sync ≠ 0 → stepR s st j m = partL s st j m := fun _ _ h k => by unfold stepR; rw [if_neg h, if_neg k]
  generalize stepL s st = FIN at *
  generalize stepR s st = R at *
  refine z19 z26 Tryz.func221 rfl rfl 64 Tryz.ntmps221 (by simp) ?_
  repeat' (((apply AWP.go ok; rfl)) <;> conv => whnf)
  all_goals skip
  refine loopR (fun x : Nat × List Stp => ([(2, .ptr 0 none 0), (3, .ptr 1 none 0), (5, .sref 2 0 x.2.length), (6, .int x.1)], [.cells 2 [s.cs], .cells 2 [st.cs], .cells 4 (x.2.map Stp.cs)])) (fun x => x.1 ≤ s.ps.length ∧ x.2.length ≤ 108 * x.1 ∧ x.2 = cat x.1 fun j => cat (s.pr j).es.length (R j)) (fun x => s.ps.length - x.1) (0, []) ⟨by omega, by simp, rfl⟩ (by refine SealW.reach [0, 1, 2] [] rfl rfl rfl rfl ?_ ?_ <;> (repeat' (first | exact LocLe.refl _ | exact F2.nil | apply F2.cons | apply ObjLe.box | ((refine z33 rfl ?_ ?_); (focus ((repeat' (exact z49)); done))) | exact True.intro | apply And.intro))) ?_
  rintro ⟨j, L⟩ ⟨hj, hLl, hL⟩
  simp only at hj hL hLl
  by_cases hjl : j < s.ps.length
  · have gj := Sys.pr_at hjl
    have hj6 := hs.ne j hjl
    repeat' ((first | (apply AWP.go ok; rfl) | ((apply z10) <;> intro _)) <;> conv => whnf)
    all_goals first | (exfalso; omega) | skip
    refine loopR (fun x : Nat × List Stp => ([(2, .ptr 0 none 0), (3, .ptr 1 none 0), (5, .sref 2 0 x.2.length), (6, .int j), (7, .int x.1)], [.cells 2 [s.cs], .cells 2 [st.cs], .cells 4 (x.2.map Stp.cs)])) (fun x => x.1 ≤ (s.pr j).es.length ∧ x.2.length ≤ 108 * j + 18 * x.1 ∧ x.2 = L ++ cat x.1 (R j)) (fun x => (s.pr j).es.length - x.1) (0, L) ⟨by omega, by simpa using hLl, by rw [cat_zero, List.append_nil]⟩ (by refine SealW.reach [0, 1, 2] [] rfl rfl rfl rfl ?_ ?_ <;> (repeat' (first | exact LocLe.refl _ | exact F2.nil | apply F2.cons | exact z34 _ | apply ObjLe.box | ((refine z33 rfl ?_ ?_); (focus ((repeat' ((exact z12 (fun _ => rfl)))); done))) | exact True.intro | apply And.intro))) ?_
    rintro ⟨m, M⟩ ⟨hm, hMl, hM⟩
    simp only at hm hM hMl
    by_cases hml : m < (s.pr j).es.length
    · have gm := Proc.eg_at hml
      have hl := l3Ready_ok s hs st h j m hjl hml
      have hP := l3Partners_ok s hs st h j m hjl hml
      have hPl := partL_len hs (st := st) (i := j) (k := m)
      have hR0m := hR0 j m
      have hR1m := hR1 j m
      have hR2m := hR2 j m
      have hcs := cat_succ m (R j)
      have hE2 := (hs.eg j m hjl hml).sync
      generalize (s.pr j).eg m = e2 at *
      generalize rdyE e2 st j = rd at *
      generalize partL s st j m = PL at *
      generalize hpj : s.pr j = pj at *
      cases rd
      all_goals
        repeat' ((first | (apply AWP.go ok; rfl) | (refine z32 (i := j) rfl gj ?_) | (refine z32 (i := m) rfl gm ?_) | (apply And.intro; first | omega | (unfold inI; omega) | ((try dsimp only); simp only [List.length_map, List.length_take, List.length_append, List.length_replicate, List.length_cons, List.length_nil]; omega) | exact z16 (fun _ => rfl) | exact ⟨rfl, z18 rfl z23⟩) | ((apply z10) <;> intro _) | (apply z11 (hl); rfl; rfl) | (apply z11 (hP); rfl; rfl)) <;> conv => whnf)
        all_goals first | (exfalso; omega) | skip
      all_goals first
        | (have hz := hR2m (by rintro (z1 | z1) <;> first | omega | exact absurd z1 (by decide)) (by omega)
           refine z79 (m + 1, M ++ PL) ⟨by omega, by simp; omega, by rw [hM, hcs, hz, List.append_assoc]⟩ (by show pj.es.length - (m + 1) < pj.es.length - m; omega) (by refine SealW.reach [0, 1, 3] [] rfl rfl rfl rfl ?_ ?_ <;> (repeat' (first | exact LocLe.refl _ | exact F2.nil | apply F2.cons | (refine z120 ?_; ((simp; done))) | apply ObjLe.box | ((refine z33 rfl ?_ ?_); (focus ((repeat' (first | exact z12 (fun _ => rfl) | apply z58 | apply z37)); done))) | (refine appL_le ?_; (omega)) | exact True.intro | apply And.intro))))
        | (have hz := hR1m (by rintro (z1 | z1) <;> first | omega | exact absurd z1 (by decide)) (by omega)
           refine z79 (m + 1, M ++ [⟨j, m, -1, -1⟩]) ⟨by omega, by simp; omega, by rw [hM, hcs, hz, List.append_assoc]⟩ (by show pj.es.length - (m + 1) < pj.es.length - m; omega) (by refine SealW.reach [0, 1, 4] [] rfl rfl rfl rfl ?_ ?_ <;> (repeat' (first | exact LocLe.refl _ | exact F2.nil | apply F2.cons | (refine z120 ?_; ((simp; done))) | apply ObjLe.box | ((refine z56 rfl ?_ ?_); (focus ((repeat' (first | exact z12 (fun _ => rfl) | apply z37)); done))) | (refine z114 ?_ ?_; (focus (omega))) | exact True.intro | apply And.intro))))
        | (have hz := hR0m (by first | exact .inr rfl | exact .inl (by omega))
           refine z79 (m + 1, M) ⟨by omega, by simp; omega, by rw [hM, hcs, hz, List.append_nil]⟩ (by show pj.es.length - (m + 1) < pj.es.length - m; omega) (by refine SealW.reach [0, 1, 2] [] rfl rfl rfl rfl ?_ ?_ <;> (repeat' (first | exact LocLe.refl _ | exact F2.nil | apply F2.cons | exact z34 _ | apply ObjLe.box | ((refine z33 rfl ?_ ?_); (focus ((repeat' ((exact z12 (fun _ => rfl)))); done))) | exact True.intro | apply And.intro))))
    · repeat' ((first | (apply AWP.go ok; rfl) | (refine z32 (i := j) rfl gj ?_) | (apply And.intro; first | omega | (unfold inI; omega)) | (((with_reducible apply z13; omega)); intro _) | ((apply z10) <;> intro _)) <;> conv => whnf)
      all_goals first | (exfalso; omega) | skip
      have e : m = (s.pr j).es.length := by omega
      all_goals refine z79 (j + 1, M) ⟨by omega, by simp; omega, by rw [hM, hL, e]; exact (cat_succ j fun j => cat (s.pr j).es.length (R j)).symm⟩ (by show s.ps.length - (j + 1) < s.ps.length - j; omega) (by refine SealW.reach [0, 1, 2] [] rfl rfl rfl rfl ?_ ?_ <;> (repeat' (first | exact LocLe.refl _ | exact F2.nil | apply F2.cons | exact z34 _ | apply ObjLe.box | ((refine z33 rfl ?_ ?_); (focus ((repeat' ((exact z12 (fun _ => rfl)))); done))) | exact True.intro | apply And.intro)))
  · have e : j = s.ps.length := by omega
    have eL : L = FIN := by rw [hfin, hL, e]
    subst eL
    repeat' ((first | (apply AWP.go ok; rfl) | ((apply z10) <;> intro _)) <;> conv => whnf)
    all_goals first | (exfalso; omega) | skip
    all_goals (refine RetS.lay [] [2] rfl rfl rfl ?_; refine RetS.done ?_ ?_ <;> (repeat' (first | exact LocLe.refl _ | exact F2.nil | ((apply z47 rfl rfl rfl); (focus ((repeat ((exact z36 (fun _ => rfl) _))); done)); (focus (((simp; done)); done))))))

/-! an edge is taken -/
noncomputable def takeS (st : State) (i : Nat) (e : Edge) : State := ⟨st.a.set i e.to, if 0 ≤ e.var then st.b.set e.var.toNat (e.val.ev st.b) else st.b⟩
theorem takeS_ok {s : Sys} {st : State} (h : st.ok s) {i : Nat} {e : Edge} {n : Int} (he : e.ok n) : (takeS st i e).ok s := by
  refine ⟨by simp [takeS, h.a], ?_⟩
  unfold takeS
  dsimp only
  split
  · refine ⟨by simp [h.b.1], fun x hx => ?_⟩
    rcases List.mem_or_eq_of_mem_set hx with hx | rfl
    · exact h.b.2 x hx
    · exact Tree.ev_range h.b _ (he.val (by assumption))
  · exact h.b
theorem l3Take_ok (st : State) (e : Edge) (n : Int) (he : e.ok n) (i : Nat) (hi : i < st.a.length) (hl : st.a.length ≤ 10) (hv : ValsOk st.b) : CallsA Tryz.prog 269 [.agg [.sref 0 0 st.a.length, .sref 1 0 st.b.length], .int i, .agg e.cs] [.cells 1 (st.a.map enI), .cells 1 (st.b.map enI)] (.agg [.sref 0 0 st.a.length, .sref 1 0 st.b.length]) [.cells 1 ((takeS st i e).a.map enI), .cells 1 ((takeS st i e).b.map enI)] := by
  have hb := hv.1
  have hvar := he.var
  by_cases h0 : 0 ≤ e.var
  · have c := l1Eval_ok st.b hv e.val (he.val h0)
    rw [Tree.arg_eq] at c
    have hr := Tree.ev_range hv e.val (he.val h0)
    have e1 : takeS st i e = ⟨st.a.set i e.to, st.b.set e.var.toNat (e.val.ev st.b)⟩ := by unfold takeS; rw [if_pos h0]
    rw [e1]
    generalize e.val.ev st.b = x at *
    refine z19 z26 Tryz.func269 rfl rfl 27 Tryz.ntmps269 (by simp) ?_
    repeat' ((first | (apply AWP.go ok; rfl) | (apply z30; kernel_rfl) | (apply And.intro; omega) | (((apply z13; omega)); intro _) | ((apply z10) <;> intro _) | (((apply z8 [] [1] [] (c); (focus ((repeat' first | exact z94 | apply z54) <;> first | exact z129 rfl rfl rfl | rfl)); (focus ((repeat' exact z6) <;> fail)))); rfl; rfl; rfl; rfl; rfl; (focus ((repeat' exact z17) <;> fail)); ((refine .inr ⟨rfl, ?_⟩; repeat' first | exact True.intro | apply And.intro)))) <;> conv => whnf)
    all_goals first | (exfalso; omega) | exact h0 | (show e.var.toNat < st.b.length; omega) | skip
    all_goals (refine RetS.lay [0, 1] [] rfl rfl rfl ?_; refine RetS.done ?_ ?_ <;> (repeat' (first | exact LocLe.refl _ | exact F2.nil | apply F2.cons | ((refine pass_set rfl ?_ ?_); (focus ((repeat' ((exact z12 (fun _ => rfl)))); done))) | (refine put_le (by omega) ?_))))
  · have e1 : takeS st i e = ⟨st.a.set i e.to, st.b⟩ := by unfold takeS; rw [if_neg h0]
    rw [e1]
    refine z19 z26 Tryz.func269 rfl rfl 27 Tryz.ntmps269 (by simp) ?_
    repeat' ((first | (apply AWP.go ok; rfl) | (apply And.intro; omega) | (((apply z13; omega)); intro _) | ((apply z10) <;> intro _)) <;> conv => whnf)
    all_goals first | (exfalso; omega) | skip
    all_goals (refine RetS.lay [0, 1] [] rfl rfl rfl ?_; refine RetS.done ?_ ?_ <;> (repeat' (first | exact LocLe.refl _ | exact F2.nil | apply F2.cons | exact z34 _ | ((first | refine pass_set rfl ?_ ?_ | refine z33 rfl ?_ ?_); (focus ((repeat' ((exact z12 (fun _ => rfl)))); done))) | (refine put_le (by omega) ?_))))
end Go.Proofs.YtknlmbniicacmaaGreat

namespace Go.Proofs.YtknlmbniicacmaaGreat
open Go.Gl
attribute [local irreducible] z35 AWP z65 z78 z74 RetS z97

noncomputable def applyS (s : Sys) (st : State) (x : Stp) : State := if 0 ≤ x.q then takeS (takeS st x.p.toNat ((s.pr x.p.toNat).eg x.e.toNat)) x.q.toNat ((s.pr x.q.toNat).eg x.f.toNat) else takeS st x.p.toNat ((s.pr x.p.toNat).eg x.e.toNat)
theorem nat_of {a : Int} {n : Nat} (h : 0 ≤ a) (h2 : a < n) : ∃ m : Nat, a = m ∧ m < n := ⟨a.toNat, by omega, by omega⟩
theorem applyS_ok {s : Sys} (hs : s.ok) {st : State} (h : st.ok s) {x : Stp} (hx : x.ok s) : (applyS s st x).ok s := by
  have hp := hx.p
  have he := hx.e
  have hq := hx.q
  unfold applyS
  have h1 := takeS_ok (i := x.p.toNat) h (hs.eg x.p.toNat x.e.toNat (by omega) (by omega))
  split
  · rename_i hq0
    have hf := hx.f hq0
    exact takeS_ok h1 (hs.eg x.q.toNat x.f.toNat (by omega) (by omega))
  · exact h1
theorem takeS_len (st : State) (i : Nat) (e : Edge) : (takeS st i e).a.length = st.a.length ∧ (takeS st i e).b.length = st.b.length := by
  unfold takeS
  constructor
  · simp
  · dsimp only; split <;> simp

set_option maxHeartbeats 3200000 in
theorem l3Apply_ok (s : Sys) (hs : s.ok) (st : State) (h : st.ok s) (x : Stp) (hx : x.ok s) : CallsA Tryz.prog 222 [.agg s.cs, .agg st.cs, .agg x.cs] [] (.agg (applyS s st x).cs) [] := by
  have hn3 := hs.n3
  have ha := h.a
  have hb := h.b.1
  obtain ⟨p, e, q, f⟩ := x
  obtain ⟨hp, he, hq, hf⟩ := hx
  simp only at hp he hq hf
  obtain ⟨pi, rfl, hpi⟩ := nat_of hp.1 hp.2
  simp only [Int.toNat_natCast] at he
  obtain ⟨ei, rfl, hei⟩ := nat_of he.1 he.2
  have gp := Sys.pr_at hpi
  have ge := Proc.eg_at hei
  have hE := hs.eg pi ei hpi hei
  have hP6 := hs.ne pi hpi
  have c1 := l3Take_ok st ((s.pr pi).eg ei) _ hE pi (by omega) (by omega) h.b
  have h1 := takeS_ok (i := pi) h hE
  have hl1 := takeS_len st pi ((s.pr pi).eg ei)
  rw [show st.a.length = 0 + st.a.length by omega, show st.b.length = 0 + st.b.length by omega] at c1
  by_cases hq0 : 0 ≤ q
  · have hf := hf hq0
    obtain ⟨qi, rfl, hqi⟩ := nat_of hq0 hq.2
    simp only [Int.toNat_natCast] at hf
    obtain ⟨fi, rfl, hfi⟩ := nat_of hf.1 hf.2
    have gq := Sys.pr_at hqi
    have gf := Proc.eg_at hfi
    have hF := hs.eg qi fi hqi hfi
    have hQ6 := hs.ne qi hqi
    have e0 : applyS s st ⟨pi, ei, qi, fi⟩ = takeS (takeS st pi ((s.pr pi).eg ei)) qi ((s.pr qi).eg fi) := by unfold applyS; rw [if_pos hq0]; rfl
    have c2 := l3Take_ok (takeS st pi ((s.pr pi).eg ei)) ((s.pr qi).eg fi) _ hF qi (by omega) (by omega) h1.b
    have hl2 := takeS_len (takeS st pi ((s.pr pi).eg ei)) qi ((s.pr qi).eg fi)
    rw [hl1.1, hl1.2, show st.a.length = 0 + st.a.length by omega, show st.b.length = 0 + st.b.length by omega] at c2
    rw [e0]
    generalize takeS (takeS st pi ((s.pr pi).eg ei)) qi ((s.pr qi).eg fi) = s2 at *
    generalize takeS st pi ((s.pr pi).eg ei) = s1 at *
    generalize (s.pr pi).eg ei = ed at *
    generalize (s.pr qi).eg fi = fd at *
    generalize s.pr pi = pp at *
    generalize s.pr qi = qq at *
    refine z19 z26 Tryz.func222 rfl rfl 51 Tryz.ntmps222 (by simp) ?_
    repeat' ((first | (apply AWP.go ok; rfl) | (apply z30; kernel_rfl) | (refine z32 (i := pi) rfl gp ?_) | (refine z32 (i := ei) rfl ge ?_) | (refine z32 (i := qi) rfl gq ?_) | (refine z32 (i := fi) rfl gf ?_) | (apply And.intro; first | omega | (dsimp only; omega) | exact z16 (fun _ => rfl)) | ((first | (apply z8 [5, 7] [] [] (c1); rfl; (focus ((repeat' first | exact z6 | apply z7) <;> (refine z95 rfl ?_; ((exact z12 fun _ => rfl)))))) | (apply z8 [5, 7] [] [] (c2); rfl; (focus ((repeat' first | exact z6 | apply z7) <;> (refine z95 rfl ?_; ((exact z12 fun _ => rfl))))))); rfl; rfl; rfl; rfl; rfl; (focus ((repeat' first | exact z17 | apply z15) <;> (refine z29 ?_; ((exact z12 fun _ => rfl))))); (exact .inl rfl))) <;> conv => whnf)
    all_goals skip
    all_goals (refine RetS.lay [] [5, 7] rfl rfl rfl ?_; refine RetS.done ?_ ?_ <;> (repeat' (first | exact F2.nil | apply F2.cons | (refine lst_le ?_; omega) | ((apply z47 rfl rfl rfl); (focus ((repeat ((exact z36 (fun _ => rfl) _))); done)); (focus (((simp; omega)); done))) | apply z75)))
  · have e0 : applyS s st ⟨pi, ei, q, f⟩ = takeS st pi ((s.pr pi).eg ei) := by unfold applyS; rw [if_neg hq0]; rfl
    rw [e0]
    generalize takeS st pi ((s.pr pi).eg ei) = s1 at *
    generalize (s.pr pi).eg ei = ed at *
    generalize s.pr pi = pp at *
    refine z19 z26 Tryz.func222 rfl rfl 51 Tryz.ntmps222 (by simp) ?_
    repeat' ((first | (apply AWP.go ok; rfl) | (apply z30; kernel_rfl) | (refine z32 (i := pi) rfl gp ?_) | (refine z32 (i := ei) rfl ge ?_) | (apply And.intro; first | omega | (dsimp only; omega) | exact z16 (fun _ => rfl)) | ((apply z10) <;> intro _) | (((apply z8 [5, 7] [] [] (c1); rfl; (focus ((repeat' first | exact z6 | apply z7) <;> (refine z95 rfl ?_; ((exact z12 fun _ => rfl))))))); rfl; rfl; rfl; rfl; rfl; (focus ((repeat' first | exact z17 | apply z15) <;> (refine z29 ?_; ((exact z12 fun _ => rfl))))); (exact .inl rfl))) <;> conv => whnf)
    all_goals first | (exfalso; apply hq0; assumption) | skip
    all_goals (refine RetS.lay [] [5, 7] rfl rfl rfl ?_; refine RetS.done ?_ ?_ <;> (repeat' (first | exact F2.nil | apply F2.cons | (refine lst_le ?_; omega) | ((apply z47 rfl rfl rfl); (focus ((repeat ((exact z36 (fun _ => rfl) _))); done)); (focus (((simp; omega)); done))) | apply z75)))
end Go.Proofs.YtknlmbniicacmaaGreat

namespace Go.Proofs.YtknlmbniicacmaaGreat
open Go.Gl
attribute [local irreducible] z35 AWP z65 z78 z74

def State.co (s : State) : List AC := [.own 1 (s.a.map enI), .own 1 (s.b.map enI)]

end Go.Proofs.YtknlmbniicacmaaGreat

namespace Go.Proofs.YtknlmbniicacmaaGreat
open Go.Gl
attribute [local irreducible] z35 AWP z65 z78 z74

end Go.Proofs.YtknlmbniicacmaaGreat

namespace Go.Proofs.YtknlmbniicacmaaGreat
open Go.Gl
section
attribute [local irreducible] z35
theorem l2Ints_ok (a b : List Int) (ha : a.length ≤ maxLen) (hb : b.length ≤ maxLen) : CallsA Tryz.prog 227 [lst 1 enI a, lst 1 enI b] [] (.bool (decide (a = b))) [] := by
  unfold maxLen at ha hb
  refine z14 z26 Tryz.func227 rfl rfl 26 Tryz.ntmps227 (by simp) ?_
  repeat (refine AWP.go ok _ _ _ _ _ rfl ?_)
  refine z21 (fun h => ?_) (fun h => ?_)
  · repeat (refine AWP.go ok _ _ _ _ _ rfl ?_)
    have hne : a ≠ b := by rintro rfl; exact h rfl
    rw [decide_eq_false hne]
    exact ⟨[], by decide, rfl, rfl, ACle.of_eq rfl, trivial⟩
  · have hl : a.length = b.length := by omega
    repeat (refine AWP.go ok _ _ _ _ _ rfl ?_)
    refine awp_loop (fun k : Nat => ([(0, lst 1 enI a), (1, lst 1 enI b), (5, .int k)], [])) (fun k => k ≤ a.length ∧ a.take k = b.take k) (fun k => a.length - k) 0 (by simp)
      ⟨[], rfl, by decide, rfl, ⟨⟨rfl, rfl⟩, ⟨rfl, rfl⟩, ⟨rfl, rfl⟩, trivial⟩, trivial⟩ ?_
    intro k hk
    repeat (refine AWP.go ok _ _ _ _ _ rfl ?_)
    refine z10 (fun h => ?_) (fun h => ?_)
    · have hka : k < a.length := by omega
      repeat (first | refine AWP.go ok _ _ _ _ _ rfl ?_ | refine And.intro (by omega) ?_)
      refine ⟨_, map_get _ _ _ (by omega), ?_⟩
      repeat ((refine And.intro (by omega) ?_))
      refine ⟨_, map_get _ _ _ (by omega), ?_⟩
      repeat (first | refine AWP.go ok _ _ _ _ _ rfl ?_ | refine z30 (by kernel_rfl) ?_)
      refine z21 (fun h => ?_) (fun h => ?_)
      · repeat (refine AWP.go ok _ _ _ _ _ rfl ?_)
        have hne : a ≠ b := by rintro rfl; exact h rfl
        rw [decide_eq_false hne]
        exact ⟨[], by decide, rfl, rfl, ACle.of_eq rfl, trivial⟩
      · repeat (first | refine AWP.go ok _ _ _ _ _ rfl ?_ | refine And.intro (by first | omega | (unfold inI; omega)) ?_)
        refine ⟨k + 1, [], ⟨by omega, ?_⟩, by omega, rfl, by decide, rfl, ⟨⟨rfl, rfl⟩, ⟨rfl, rfl⟩, ⟨rfl, rfl⟩, trivial⟩, trivial⟩
        have h' : a[k] = b[k] := h
        rw [List.take_succ_eq_append_getElem hka, List.take_succ_eq_append_getElem (by omega), hk.2, h']
    · repeat (refine AWP.go ok _ _ _ _ _ rfl ?_)
      have he : a = b := by
        have := hk.2
        rwa [List.take_of_length_le (by omega), List.take_of_length_le (by omega)] at this
      rw [decide_eq_true he]
      exact ⟨[], by decide, rfl, rfl, ACle.of_eq rfl, trivial⟩
end
attribute [local irreducible] z35 AWP z65 z78 z74

theorem grouped1_ok (c : List Int) (n : Nat) (hn : n ≤ 1048576) (same : Nat → Nat → Bool) (f : FuncId) (hf : ∀ i k : Nat, k < i → i < n → CallsA Tryz.prog f [.int i, .int k, .pt [ints c]] [] (.bool (same i k)) []) : CallsA Tryz.prog 230 [.int n, .fn (.func f) [] [.pt [ints c]]] [] (.sref 0 0 n) [.cells 1 ((numF same n).1.map enI)] := by
  have hlen := z77 same n
  have hfl : ∀ i, Flat (((numF same n).1.take i).map enI ++ List.replicate ((numF same n).1.length - i) [AC.int 0]) := fun i => z58 (z12 fun _ => rfl) (z31 rfl)
  refine z14 z26 Tryz.func230 rfl rfl 46 Tryz.ntmps230 (by simp) ?_
  repeat' (first | (apply AWP.go ok; rfl; conv => whnf) | (apply And.intro; ((dsimp only; omega)); conv => whnf))
  refine z100 (fun i : Nat => ([(1, .fn (.func f) [] [.pt [ints c]]), (5, .sref 0 0 n), (6, .int ((numF same i).2 : Int)), (12, .int n), (13, .int i)], [.cells 1 (((numF same n).1.take i).map enI ++ List.replicate ((numF same n).1.length - i) [AC.int 0])])) (fun i => i ≤ n) (fun i => n - i) 0 (by omega) ⟨[0], rfl, by decide, rfl, ⟨⟨rfl, rfl⟩, ⟨rfl, rfl⟩, ⟨rfl, rfl⟩, ⟨rfl, rfl⟩, ⟨rfl, rfl⟩, trivial⟩, ⟨z41 (z64 (by rw [hlen]; rfl)) (hfl 0), trivial⟩⟩ ?_
  intro i hi
  by_cases hin : i < n
  · have hc := (numF_lt same i).2
    have hF : i < (((numF same n).1.take i).map enI ++ List.replicate ((numF same n).1.length - i) [AC.int 0]).length := by rw [fill_len (by omega)]; omega
    repeat' (first | (apply AWP.go ok; rfl; conv => whnf) | (apply And.intro; (omega); conv => whnf) | (apply z48; omega; conv => whnf) | (apply z10 <;> intro _ <;> conv => whnf))
    all_goals first | (exfalso; omega) | skip
    refine z100 (fun k : Nat => ([(1, .fn (.func f) [] [.pt [ints c]]), (5, .sref 0 0 n), (6, .int ((numF same i).2 : Int)), (12, .int n), (13, .int i), (7, .int i), (20, .int i), (21, .int k)], [.cells 1 ((((numF same n).1.take i).map enI ++ List.replicate ((numF same n).1.length - i) [AC.int 0]).set i [AC.int ((numF same i).2 : Int)])])) (fun k => k ≤ i ∧ ∀ j, j < k → same i j = false) (fun k => i - k) 0 ⟨by omega, fun j hj => by omega⟩ ⟨[0], rfl, by decide, rfl, ⟨⟨rfl, rfl⟩, ⟨rfl, rfl⟩, ⟨rfl, rfl⟩, ⟨rfl, rfl⟩, ⟨rfl, rfl⟩, ⟨rfl, rfl⟩, ⟨rfl, rfl⟩, ⟨rfl, rfl⟩, trivial⟩, ⟨z41 rfl (flat_set (hfl i) rfl), trivial⟩⟩ ?_
    rintro k ⟨hk1, hk2⟩
    generalize hFF : (((numF same n).1.take i).map enI ++ List.replicate ((numF same n).1.length - i) [AC.int 0]) = F at hF
    by_cases hki : k < i
    · have hg : (F.set i [AC.int ((numF same i).2 : Int)])[k]? = some (enI ((numF same n).1[k]'(by omega))) := by rw [← hFF]; exact fill_got hki (by omega)
      have hlt := numF_lt' (same := same) (n := n) hi hki
      repeat' (first | (apply AWP.go ok; rfl; conv => whnf) | (apply get_set; (exact Int.toNat_natCast i); (first | exact hF | (rw [List.length_set]; exact hF)); conv => whnf) | (apply z32; (exact Int.toNat_natCast k); exact hg; conv => whnf) | (apply And.intro; (first | omega | (unfold inI; omega)); conv => whnf) | (apply z10 <;> intro _ <;> conv => whnf) | (apply z55 <;> intro _ <;> conv => whnf) | (apply z11 (hf i k hki hin); rfl; rfl; conv => whnf))
      all_goals first | (exfalso; omega) | skip
      · rename_i hs
        obtain ⟨h3, h4⟩ := z109 hin hki (by assumption) hk2
        exact z84 (i + 1) [0] (by omega) (by omega) ⟨rfl, by decide, rfl, ⟨⟨rfl, rfl⟩, ⟨rfl, rfl⟩, ⟨rfl, env_int (by rw [h4])⟩, ⟨rfl, rfl⟩, ⟨rfl, rfl⟩, trivial⟩, ⟨z41 (z64 (by rw [← hFF]; exact fill_set2 (by omega) rfl (by rw [h3]; rfl))) (hfl _), trivial⟩⟩
      · refine z84 (k + 1) [0] ⟨by omega, fun j hj => ?_⟩ (by omega) ⟨rfl, by decide, rfl, ⟨⟨rfl, rfl⟩, ⟨rfl, rfl⟩, ⟨rfl, rfl⟩, ⟨rfl, rfl⟩, ⟨rfl, rfl⟩, ⟨rfl, rfl⟩, ⟨rfl, rfl⟩, ⟨rfl, rfl⟩, trivial⟩, ⟨z41 rfl (flat_set (hFF ▸ hfl i) rfl), trivial⟩⟩
        rcases Nat.lt_or_ge j k with h3 | h3
        · exact hk2 j h3
        · obtain rfl : j = k := by omega
          assumption
    · obtain rfl : k = i := by omega
      obtain ⟨h3, h4⟩ := z116 hin hk2
      repeat' (first | (apply AWP.go ok; rfl; conv => whnf) | (apply get_set; (exact Int.toNat_natCast k); exact hF; conv => whnf) | (apply And.intro; (first | omega | (unfold inI; omega)); conv => whnf) | (apply z10 <;> intro _ <;> conv => whnf))
      all_goals first | (exfalso; omega) | skip
      exact z84 (k + 1) [0] (by omega) (by omega) ⟨rfl, by decide, rfl, ⟨⟨rfl, rfl⟩, ⟨rfl, rfl⟩, ⟨rfl, env_int (by rw [h4]; simp)⟩, ⟨rfl, rfl⟩, ⟨rfl, rfl⟩, trivial⟩, ⟨z41 (z64 (by rw [← hFF, ← fill_set (f := enI) _ _ _ (by omega), h3]; rfl)) (hfl _), trivial⟩⟩
  · repeat' (first | (apply AWP.go ok; rfl; conv => whnf) | (apply And.intro; (omega); conv => whnf) | (apply z48; omega; conv => whnf) | (apply z10 <;> intro _ <;> conv => whnf))
    all_goals first | (exfalso; omega) | skip
    obtain rfl : i = n := by omega
    exact ret_new rfl (z12 fun _ => rfl) rfl (by rw [List.take_of_length_le (by omega), hlen, Nat.sub_self]; simp)

def sameL (l : List Int) (i k : Nat) : Bool := decide (l.getD i 0 = l.getD k 0)
theorem labelBlocks1_ok (l : List Int) (i k : Nat) (hk : k < i) (hi : i < l.length) : CallsA Tryz.prog 231 [.int i, .int k, .pt [ints l]] [] (.bool (sameL l i k)) [] := by
  refine z14 z26 Tryz.func231 rfl rfl 15 Tryz.ntmps231 (by simp) ?_
  repeat' (first | (apply AWP.go ok; rfl; conv => whnf) | (apply z30; kernel_rfl; conv => whnf) | (apply And.intro; (omega); conv => whnf) | (with_reducible apply z13; omega; intro _; conv => whnf))
  exact z24 rfl (by unfold sameL; rw [z20 hi, z20 (by omega)])

theorem labelBlocks_new (g : Graph) (hg : ∀ s ∈ g.st, ValsOk s.b) (hn : g.st.length ≤ 60) (l : List Tree) (hl : LabelsOk l) : CallsA Tryz.prog 180 [.agg g.cs, lst 3 Tree.cs' l] [] (.sref 0 0 g.st.length) [.cells 1 ((numF (sameL (g.st.map (z63 l))) g.st.length).1.map enI)] := by
  have c1 := grouped1_ok (g.st.map (z63 l)) g.st.length (by omega) (sameL (g.st.map (z63 l))) 231 (fun i k hk hi => labelBlocks1_ok _ i k hk (by simpa using hi))
  have c0 := label_ok g hg hn l hl
  have e : ints (g.st.map (z63 l)) = .list 1 g.st.length ((g.st.map (z63 l)).map enI) := by unfold ints; rw [List.length_map]
  rw [e] at c0 c1
  refine z14 z26 Tryz.func180 rfl rfl 13 Tryz.ntmps180 (by simp) ?_
  repeat' (first | (apply AWP.go ok; rfl; conv => whnf) | (apply z11 (c0); rfl; rfl; conv => whnf) | (apply z8 [] [1] [2] (c1); rfl; (focus ((repeat' (exact z6)) <;> (fail))); rfl; rfl; rfl; rfl; rfl; (focus ((repeat' (first | exact z17 | apply z15)) <;> ((refine z29 ?_; ((exact z12 (fun _ => rfl))))))); ((refine .inr ⟨rfl, ?_⟩; repeat' (first | exact True.intro | apply And.intro | exact z98 (fun _ => rfl) _))); conv => whnf))
  exact ret_new rfl (z12 fun _ => rfl) rfl rfl
end Go.Proofs.YtknlmbniicacmaaGreat

namespace Go.Proofs.YtknlmbniicacmaaGreat
open Go.Gl
attribute [local irreducible] z35 AWP z65 z78 z74 RetS z97

theorem stateSame_ok (a b : State) (ha : a.sm) (hb : b.sm) : CallsA Tryz.prog 270 [.agg a.cs, .agg b.cs] [] (.bool (decide (a = b))) [] := by
  have h1 := ha.a
  have h2 := ha.b
  have h3 := hb.a
  have h4 := hb.b
  have c1 := l2Ints_ok a.a b.a (by unfold maxLen; omega) (by unfold maxLen; omega)
  have c2 := l2Ints_ok a.b b.b (by unfold maxLen; omega) (by unfold maxLen; omega)
  obtain ⟨a1, a2⟩ := a
  obtain ⟨b1, b2⟩ := b
  simp only at *
  have e : decide ((⟨a1, a2⟩ : State) = ⟨b1, b2⟩) = (decide (a1 = b1) && decide (a2 = b2)) := by
    by_cases h : a1 = b1 <;> by_cases k : a2 = b2 <;> simp [h, k]
  rw [e]
  generalize decide (a1 = b1) = p at *
  generalize decide (a2 = b2) = q at *
  refine z14 z26 Tryz.func270 rfl rfl 17 Tryz.ntmps270 (by simp) ?_
  cases p
  all_goals
    repeat' ((first | (apply AWP.go ok; rfl) | (apply z11 (c1); rfl; rfl) | (apply z11 (c2); rfl; rfl)) <;> conv => whnf)
    all_goals exact z24 rfl rfl

def findZ (t : State) : List State → Int → Int
  | [], _ => -1
  | x :: r, k => if x = t then k else findZ t r (k + 1)
theorem findZ_range (t : State) : ∀ (l : List State) (k : Int), 0 ≤ k → -1 ≤ findZ t l k ∧ findZ t l k < k + l.length := by
  intro l
  induction l with
  | nil => intro k h; simp only [findZ, List.length_nil]; omega
  | cons x l ih =>
    intro k h
    simp only [findZ, List.length_cons]
    split
    · omega
    · have := ih (k + 1) (by omega); omega
theorem findZ_cons (t : State) (l : List State) (k : Nat) (h : k < l.length) : findZ t (l.drop k) k = if l[k] = t then (k : Int) else findZ t (l.drop (k + 1)) ((k + 1 : Nat) : Int) := by
  rw [List.drop_eq_getElem_cons h, findZ]; rfl
theorem l4Find_ok (l : List State) (t : State) (hl : l.length ≤ 1000) (hs : ∀ s ∈ l, s.sm) (ht : t.sm) : CallsA Tryz.prog 223 [lst 2 State.cs l, .agg t.cs] [] (.int (findZ t l 0)) [] := by
  refine z14 z26 Tryz.func223 rfl rfl 19 Tryz.ntmps223 (by simp) ?_
  repeat' (((apply AWP.go ok; rfl)) <;> conv => whnf)
  refine z100 (fun k : Nat => ([(0, lst 2 State.cs l), (3, .ptr 0 none 0), (5, .int k)], [.cells 2 [t.cs]])) (fun k => k ≤ l.length ∧ findZ t l 0 = findZ t (l.drop k) k) (fun k => l.length - k) 0 ⟨by omega, rfl⟩ ⟨[0], rfl, by decide, rfl, by repeat' (first | exact True.intro | exact ⟨rfl, rfl⟩ | apply And.intro), by repeat' (first | exact True.intro | exact z42 rfl rfl | apply And.intro)⟩ ?_
  intro k hk
  by_cases hkl : k < l.length
  · have c := stateSame_ok l[k] t (hs _ (List.getElem_mem _)) ht
    have e := findZ_cons t l k hkl
    rw [e] at hk
    have g0 : (l.map State.cs)[k]? = some (State.cs l[k]) := by rw [List.getElem?_map, List.getElem?_eq_getElem hkl]; rfl
    by_cases hx : l[k] = t
    · rw [if_pos hx] at hk
      rw [decide_eq_true hx] at c
      generalize l[k] = x at *
      repeat' ((first | (apply AWP.go ok; rfl) | (apply z30; kernel_rfl) | (refine z32 (i := k) rfl g0 ?_) | (apply And.intro; omega) | ((apply z10) <;> intro _) | (apply z11 (c); rfl; rfl)) <;> conv => whnf)
      all_goals first | (exfalso; omega) | exact ret_int rfl hk.2
    · rw [if_neg hx] at hk
      rw [decide_eq_false hx] at c
      generalize l[k] = x at *
      repeat' ((first | (apply AWP.go ok; rfl) | (apply z30; kernel_rfl) | (refine z32 (i := k) rfl g0 ?_) | (apply And.intro; first | omega | (unfold inI; omega)) | ((apply z10) <;> intro _) | (apply z11 (c); rfl; rfl)) <;> conv => whnf)
      all_goals first | (exfalso; omega) | skip
      exact z84 (k + 1) [0] ⟨by omega, hk.2⟩ (by omega) ⟨rfl, by decide, rfl, by repeat' (first | exact True.intro | exact ⟨rfl, rfl⟩ | apply And.intro), by repeat' (first | exact True.intro | exact z42 rfl rfl | apply And.intro)⟩
  · have e : l.drop k = [] := List.drop_eq_nil_of_le (by omega)
    rw [e] at hk
    repeat' ((first | (apply AWP.go ok; rfl) | (apply And.intro; omega) | (((with_reducible apply z13; omega)); intro _) | ((apply z10) <;> intro _)) <;> conv => whnf)
    all_goals first | (exfalso; omega) | exact ret_int rfl hk.2
end Go.Proofs.YtknlmbniicacmaaGreat

namespace Go.Proofs.YtknlmbniicacmaaGreat
open Go.Gl
attribute [local irreducible] z35 AWP z65 z78 z74 RetS z97

/-! the graph of a system -/
open Classical in
noncomputable def inn (s : Sys) (st0 : State) : List Stp → List State → List Int → Option (List State × List Int)
  | [], S, N => some (S, N)
  | x :: r, S, N =>
    if findZ (applyS s st0 x) S 0 < 0 then
      (if 60 ≤ (S.length : Int) then none else inn s st0 r (S ++ [applyS s st0 x]) (if (S.length : Int) ∈ N then N else N ++ [(S.length : Int)]))
    else
      (if 60 ≤ findZ (applyS s st0 x) S 0 then none else inn s st0 r S (if findZ (applyS s st0 x) S 0 ∈ N then N else N ++ [findZ (applyS s st0 x) S 0]))
open Classical in
noncomputable def rowOf (L : List Stp) (N : List Int) (i : Nat) : List Int := if L = [] then N ++ [(i : Int)] else N
noncomputable def grow (s : Sys) : Nat → List State → List (List Int) → Nat → Option Graph
  | 0, _, _, _ => none
  | f + 1, S, G, i => match S[i]? with
    | none => some ⟨S, G⟩
    | some st0 => match inn s st0 (stepL s st0) S [] with
      | none => none
      | some (S', N) => grow s f S' (G ++ [rowOf (stepL s st0) N i]) (i + 1)
theorem State.ok.sm {s : Sys} (hs : s.ok) {st : State} (h : st.ok s) : st.sm := ⟨by have := h.a; have := hs.n3; omega, by have := h.b.1; omega⟩
theorem stepL_len {s : Sys} (hs : s.ok) {st : State} : (stepL s st).length ≤ 324 := by
  have h3 := hs.n3
  have := cat_len (n := s.ps.length) (c := 108) (f := fun j => cat (s.pr j).es.length (stepR s st j)) (fun j hj => by
    have h6 := hs.ne j hj
    have := cat_len (n := (s.pr j).es.length) (c := 18) (f := stepR s st j) (fun m _ => by
      unfold stepR
      split
      · simp
      split
      · simp
      · exact partL_len hs)
    omega)
  unfold stepL
  omega
structure GInv (s : Sys) (S : List State) (G : List (List Int)) (i : Nat) : Prop where
  le : i ≤ S.length
  n : S.length ≤ 60
  one : 1 ≤ S.length
  g : G.length = i
  st : ∀ t ∈ S, t.ok s
  row : ∀ r ∈ G, r.length ≤ 400
theorem inn_inv {s : Sys} (hs : s.ok) {st0 : State} (h0 : st0.ok s) : ∀ (L : List Stp), (∀ x ∈ L, x.ok s) → ∀ (S : List State) (N : List Int) (S' : List State) (N' : List Int), S.length ≤ 60 → (∀ t ∈ S, t.ok s) → inn s st0 L S N = some (S', N') → S'.length ≤ 60 ∧ S.length ≤ S'.length ∧ (∀ t ∈ S', t.ok s) ∧ N'.length ≤ N.length + L.length ∧ ∀ i, i < S.length → S'[i]? = S[i]? := by
  intro L
  induction L with
  | nil =>
    intro _ S N S' N' h1 h2 h3
    simp only [inn, Option.some.injEq, Prod.mk.injEq] at h3
    obtain ⟨rfl, rfl⟩ := h3
    exact ⟨h1, Nat.le_refl _, h2, by simp, fun _ _ => rfl⟩
  | cons x L ih =>
    intro hx S N S' N' h1 h2 h3
    have hxo := applyS_ok hs h0 (hx x (by simp))
    have ih := ih fun y hy => hx y (by simp [hy])
    simp only [inn] at h3
    split at h3
    · split at h3
      · cases h3
      · obtain ⟨a1, a2, a3, a4, a5⟩ := ih _ _ S' N' (by simp; omega) (fun t ht => by
          rcases List.mem_append.1 ht with h | h
          · exact h2 t h
          · rw [List.mem_singleton.1 h]; exact hxo) h3
        refine ⟨a1, by simp at a2; omega, a3, ?_, fun i hi => by rw [a5 i (by simp; omega), List.getElem?_append_left hi]⟩
        simp only [List.length_cons]
        split at a4 <;> (try simp at a4) <;> omega
    · split at h3
      · cases h3
      · obtain ⟨a1, a2, a3, a4, a5⟩ := ih _ _ S' N' h1 h2 h3
        refine ⟨a1, a2, a3, ?_, a5⟩
        simp only [List.length_cons]
        split at a4 <;> (try simp at a4) <;> omega
theorem grow_inv {s : Sys} (hs : s.ok) : ∀ (f : Nat) (S : List State) (G : List (List Int)) (i : Nat) (g : Graph), GInv s S G i → grow s f S G i = some g → GInv s g.st g.nx g.st.length := by
  intro f
  induction f with
  | zero => intro S G i g _ h; simp [grow] at h
  | succ f ih =>
    intro S G i g hI h
    simp only [grow] at h
    split at h
    · rename_i hn
      simp only [Option.some.injEq] at h
      subst h
      have : S.length ≤ i := List.getElem?_eq_none_iff.1 hn
      have e : i = S.length := by have := hI.le; omega
      subst e
      exact hI
    · rename_i st0 hst
      have hil := (List.getElem?_eq_some_iff.1 hst).1
      have h0 := hI.st st0 (List.mem_of_getElem? hst)
      split at h
      · cases h
      · rename_i S' N hin
        obtain ⟨a1, a2, a3, a4, a5⟩ := inn_inv hs h0 _ (fun x hx => stepL_ok x hx) _ _ _ _ hI.n hI.st hin
        have hl := stepL_len hs (st := st0)
        refine ih _ _ _ _ ⟨by omega, a1, by have := hI.one; omega, by simp [hI.g], a3, fun r hr => ?_⟩ h
        rcases List.mem_append.1 hr with h | h
        · exact hI.row r h
        · rw [List.mem_singleton.1 h]
          unfold rowOf
          simp only [List.length_nil] at a4
          split <;> (try simp) <;> omega
end Go.Proofs.YtknlmbniicacmaaGreat

