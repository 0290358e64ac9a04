/- A part of the proofs over this program: T84, T85, T86, T87, T33I, T88, T89, T31, T32, T33, T90, T91, T92. -/
import Derived.Test.YtknlmbniicacmaaGreatG0
import Derived.Test.YtknlmbniicacmaaGreatG1
import Derived.Test.YtknlmbniicacmaaGreatG2
import Derived.Test.YtknlmbniicacmaaGreatG3
import Derived.Test.YtknlmbniicacmaaGreatP0
import Derived.Test.YtknlmbniicacmaaGreatP1
set_option linter.all false
namespace Go.Proofs.YtknlmbniicacmaaGreat
open Go.Gl
attribute [local irreducible] z48 AWP z76 z84 z81 RetS z103

/-! systems as data -/
structure Edge where
  fr : Int
  to : Int
  gd : Tree
  var : Int
  val : Tree
  sync : Int
def Edge.cs (e : Edge) : List AC := [.int e.fr, .int e.to, .int e.gd.kind, .int e.gd.val, lst 3 Tree.cs' e.gd.kids, .int e.var, .int e.val.kind, .int e.val.val, lst 3 Tree.cs' e.val.kids, .int e.sync]
structure Proc where
  loc : Int
  es : List Edge
def Proc.cs (p : Proc) : List AC := [.int p.loc, lst 10 Edge.cs p.es]
structure Sys where
  init : List Int
  ps : List Proc
def Sys.cs (s : Sys) : List AC := [ints s.init, lst 2 Proc.cs s.ps]
structure Edge.sm (e : Edge) : Prop where
  gd : e.gd.sz ≤ 100
  val : e.val.sz ≤ 100
  var : -1 ≤ e.var ∧ e.var ≤ 2
  sync : -2 ≤ e.sync ∧ e.sync ≤ 2
structure Proc.sm (p : Proc) : Prop where
  loc : 0 ≤ p.loc ∧ p.loc ≤ 100
  len : p.es.length ≤ 10
  el : ∀ e ∈ p.es, e.sm
structure Sys.sm (s : Sys) : Prop where
  init : s.init.length ≤ 10
  len : s.ps.length ≤ 10
  el : ∀ p ∈ s.ps, p.sm

set_option maxHeartbeats 6400000 in
theorem l2DrawEdge_ok (bs : List Int) (hb : BytesOk bs) (p : Int) (hp : few1 p) (n : Int) (hn : 0 ≤ n ∧ n ≤ 100) : ∃ (e : Edge) (p' : Int), (e.sm ∧ p ≤ p' ∧ p' ≤ p + 200) ∧ CallsA Tryz.prog 224 [.ptr 0 none 0, .int n] [rdO bs p] (.agg e.cs) [rdO bs p'] := by
  obtain ⟨a, ⟨la, ua⟩, ca⟩ := z74 bs hb p n (by omega) (by omega) (by omega)
  obtain ⟨b, ⟨lb, ub⟩, cb⟩ := z74 bs hb (p + 1) n (by omega) (by omega) (by omega)
  obtain ⟨gd, q, ⟨g1, g2, g3⟩, cg⟩ := l2Guard_ok bs hb (p + 1 + 1) ⟨by omega, by omega⟩
  obtain ⟨w, ⟨lw, uw⟩, cw⟩ := z74 bs hb q 3 (by omega) (by omega) (by omega)
  rw [Tree.arg_eq] at cg
  by_cases hw : w = 0
  · subst hw
    obtain ⟨y, ⟨ly, uy⟩, cy⟩ := z74 bs hb (q + 1) 4 (by omega) (by omega) (by omega)
    by_cases hy : y = 0
    · subst hy
      obtain ⟨s, ms, cs⟩ := z117 bs hb (q + 1 + 1) (by omega) (by omega) [1, -1, 1, -1, 2, -2] (by decide) (by decide)
      refine ⟨⟨a, b, gd, -1, leaf 0 0, s⟩, q + 1 + 1 + 1, ⟨⟨by show gd.sz ≤ 100; omega, by (rw [z118]; omega), by show -1 ≤ (-1 : Int) ∧ (-1 : Int) ≤ 2; omega, by simp at ms; show -2 ≤ s ∧ s ≤ 2; omega⟩, by omega, by omega⟩, ?_⟩
      refine z14 z29 Tryz.func224 rfl rfl 61 Tryz.ntmps224 (by simp) ?_
      repeat' ((first | (apply AWP.go ok; rfl) | ((first | (apply z7 [0] [] [] (ca); rfl; (focus ((repeat' first | exact z6 | apply z5) <;> rfl))) | (apply z7 [0] [] [] (cb); rfl; (focus ((repeat' first | exact z6 | apply z5) <;> rfl))) | (apply z7 [0] [] [] (cg); rfl; (focus ((repeat' first | exact z6 | apply z5) <;> rfl))) | (apply z7 [0] [] [] (cw); rfl; (focus ((repeat' first | exact z6 | apply z5) <;> rfl))) | (apply z7 [0] [] [] (cy); rfl; (focus ((repeat' first | exact z6 | apply z5) <;> rfl))) | (apply z7 [0, 3] [] [] (cs); rfl; (focus ((repeat' first | exact z6 | apply z5) <;> rfl)))); rfl; rfl; rfl; rfl; rfl; (focus ((repeat' first | exact z19 | apply z16) <;> first | exact z25 rfl rfl | (refine z34 ?_; ((exact z4 fun _ => rfl))))); (exact .inl rfl))) <;> conv => whnf)
      all_goals skip
      all_goals (refine RetS.lay [0] [] rfl rfl rfl ?_; refine RetS.done ?_ ?_ <;> (repeat' (first | exact LocLe.refl _ | exact z31 | exact F2.nil | apply F2.cons | apply ObjLe.box | apply z42)))
    · refine ⟨⟨a, b, gd, -1, leaf 0 0, 0⟩, q + 1 + 1, ⟨⟨by show gd.sz ≤ 100; omega, by (rw [z118]; omega), by show -1 ≤ (-1 : Int) ∧ (-1 : Int) ≤ 2; omega, by show -2 ≤ (0 : Int) ∧ (0 : Int) ≤ 2; omega⟩, by omega, by omega⟩, ?_⟩
      refine z14 z29 Tryz.func224 rfl rfl 61 Tryz.ntmps224 (by simp) ?_
      repeat' ((first | (apply AWP.go ok; rfl) | ((apply z8) <;> intro _) | ((first | (apply z7 [0] [] [] (ca); rfl; (focus ((repeat' first | exact z6 | apply z5) <;> rfl))) | (apply z7 [0] [] [] (cb); rfl; (focus ((repeat' first | exact z6 | apply z5) <;> rfl))) | (apply z7 [0] [] [] (cg); rfl; (focus ((repeat' first | exact z6 | apply z5) <;> rfl))) | (apply z7 [0] [] [] (cw); rfl; (focus ((repeat' first | exact z6 | apply z5) <;> rfl))) | (apply z7 [0] [] [] (cy); rfl; (focus ((repeat' first | exact z6 | apply z5) <;> rfl)))); rfl; rfl; rfl; rfl; rfl; (focus ((repeat' first | exact z19 | apply z16) <;> exact z25 rfl rfl)); (exact .inl rfl))) <;> conv => whnf)
      all_goals first | (exfalso; omega) | skip
      all_goals (refine RetS.lay [0] [] rfl rfl rfl ?_; refine RetS.done ?_ ?_ <;> (repeat' (first | exact LocLe.refl _ | exact z31 | exact F2.nil | apply F2.cons | apply ObjLe.box | apply z42)))
  obtain ⟨x, mx, cx⟩ := z117 bs hb (q + 1) (by omega) (by omega) [0, 1, 0, 2] (by decide) (by decide)
  obtain ⟨z, ⟨lz, uz⟩, cz⟩ := z74 bs hb (q + 1 + 1) 4 (by omega) (by omega) (by omega)
  by_cases h0 : z = 0
  · subst h0
    obtain ⟨k, ⟨lk, uk⟩, ck⟩ := z74 bs hb (q + 1 + 1 + 1) 3 (by omega) (by omega) (by omega)
    obtain ⟨y, ⟨ly, uy⟩, cy⟩ := z74 bs hb (q + 1 + 1 + 1 + 1) 4 (by omega) (by omega) (by omega)
    by_cases hy : y = 0
    · subst hy
      obtain ⟨s, ms, cs⟩ := z117 bs hb (q + 1 + 1 + 1 + 1 + 1) (by omega) (by omega) [1, -1, 1, -1, 2, -2] (by decide) (by decide)
      refine ⟨⟨a, b, gd, x, leaf 1 k, s⟩, q + 1 + 1 + 1 + 1 + 1 + 1, ⟨⟨by show gd.sz ≤ 100; omega, by (rw [z118]; omega), by simp at mx; show -1 ≤ x ∧ x ≤ 2; omega, by simp at ms; show -2 ≤ s ∧ s ≤ 2; omega⟩, by omega, by omega⟩, ?_⟩
      refine z14 z29 Tryz.func224 rfl rfl 61 Tryz.ntmps224 (by simp) ?_
      repeat' ((first | (apply AWP.go ok; rfl) | ((apply z8) <;> intro _) | ((first | (apply z7 [0] [] [] (ca); rfl; (focus ((repeat' first | exact z6 | apply z5) <;> rfl))) | (apply z7 [0] [] [] (cb); rfl; (focus ((repeat' first | exact z6 | apply z5) <;> rfl))) | (apply z7 [0] [] [] (cg); rfl; (focus ((repeat' first | exact z6 | apply z5) <;> rfl))) | (apply z7 [0] [] [] (cw); rfl; (focus ((repeat' first | exact z6 | apply z5) <;> rfl))) | (apply z7 [0, 3] [] [] (cx); rfl; (focus ((repeat' first | exact z6 | apply z5) <;> rfl))) | (apply z7 [0] [] [] (cz); rfl; (focus ((repeat' first | exact z6 | apply z5) <;> rfl))) | (apply z7 [0] [] [] (ck); rfl; (focus ((repeat' first | exact z6 | apply z5) <;> rfl))) | (apply z7 [0] [] [] (cy); rfl; (focus ((repeat' first | exact z6 | apply z5) <;> rfl))) | (apply z7 [0, 6] [] [] (cs); rfl; (focus ((repeat' first | exact z6 | apply z5) <;> rfl)))); rfl; rfl; rfl; rfl; rfl; (focus ((repeat' first | exact z19 | apply z16) <;> first | exact z25 rfl rfl | (refine z34 ?_; ((exact z4 fun _ => rfl))))); (exact .inl rfl))) <;> conv => whnf)
      all_goals first | (exfalso; omega) | skip
      all_goals (refine RetS.lay [0] [] rfl rfl rfl ?_; refine RetS.done ?_ ?_ <;> (repeat' (first | exact LocLe.refl _ | exact z31 | exact F2.nil | apply F2.cons | apply ObjLe.box | apply z42)))
    · refine ⟨⟨a, b, gd, x, leaf 1 k, 0⟩, q + 1 + 1 + 1 + 1 + 1, ⟨⟨by show gd.sz ≤ 100; omega, by (rw [z118]; omega), by simp at mx; show -1 ≤ x ∧ x ≤ 2; omega, by show -2 ≤ (0 : Int) ∧ (0 : Int) ≤ 2; omega⟩, by omega, by omega⟩, ?_⟩
      refine z14 z29 Tryz.func224 rfl rfl 61 Tryz.ntmps224 (by simp) ?_
      repeat' ((first | (apply AWP.go ok; rfl) | ((apply z8) <;> intro _) | ((first | (apply z7 [0] [] [] (ca); rfl; (focus ((repeat' first | exact z6 | apply z5) <;> rfl))) | (apply z7 [0] [] [] (cb); rfl; (focus ((repeat' first | exact z6 | apply z5) <;> rfl))) | (apply z7 [0] [] [] (cg); rfl; (focus ((repeat' first | exact z6 | apply z5) <;> rfl))) | (apply z7 [0] [] [] (cw); rfl; (focus ((repeat' first | exact z6 | apply z5) <;> rfl))) | (apply z7 [0, 3] [] [] (cx); rfl; (focus ((repeat' first | exact z6 | apply z5) <;> rfl))) | (apply z7 [0] [] [] (cz); rfl; (focus ((repeat' first | exact z6 | apply z5) <;> rfl))) | (apply z7 [0] [] [] (ck); rfl; (focus ((repeat' first | exact z6 | apply z5) <;> rfl))) | (apply z7 [0] [] [] (cy); rfl; (focus ((repeat' first | exact z6 | apply z5) <;> rfl)))); rfl; rfl; rfl; rfl; rfl; (focus ((repeat' first | exact z19 | apply z16) <;> first | exact z25 rfl rfl | (refine z34 ?_; ((exact z4 fun _ => rfl))))); (exact .inl rfl))) <;> conv => whnf)
      all_goals first | (exfalso; omega) | skip
      all_goals (refine RetS.lay [0] [] rfl rfl rfl ?_; refine RetS.done ?_ ?_ <;> (repeat' (first | exact LocLe.refl _ | exact z31 | exact F2.nil | apply F2.cons | apply ObjLe.box | apply z42)))
  by_cases h1 : z = 1
  · subst h1
    obtain ⟨y, ⟨ly, uy⟩, cy⟩ := z74 bs hb (q + 1 + 1 + 1) 4 (by omega) (by omega) (by omega)
    by_cases hy : y = 0
    · subst hy
      obtain ⟨s, ms, cs⟩ := z117 bs hb (q + 1 + 1 + 1 + 1) (by omega) (by omega) [1, -1, 1, -1, 2, -2] (by decide) (by decide)
      refine ⟨⟨a, b, gd, x, .mk 8 0 [leaf 2 x, leaf 1 1], s⟩, q + 1 + 1 + 1 + 1 + 1, ⟨⟨by show gd.sz ≤ 100; omega, by (show Tree.sz _ ≤ 100; rw [mk_sz]; simp [z118]), by simp at mx; show -1 ≤ x ∧ x ≤ 2; omega, by simp at ms; show -2 ≤ s ∧ s ≤ 2; omega⟩, by omega, by omega⟩, ?_⟩
      refine z14 z29 Tryz.func224 rfl rfl 61 Tryz.ntmps224 (by simp) ?_
      repeat' ((first | (apply AWP.go ok; rfl) | ((apply z8) <;> intro _) | ((first | (apply z7 [0] [] [] (ca); rfl; (focus ((repeat' first | exact z6 | apply z5) <;> rfl))) | (apply z7 [0] [] [] (cb); rfl; (focus ((repeat' first | exact z6 | apply z5) <;> rfl))) | (apply z7 [0] [] [] (cg); rfl; (focus ((repeat' first | exact z6 | apply z5) <;> rfl))) | (apply z7 [0] [] [] (cw); rfl; (focus ((repeat' first | exact z6 | apply z5) <;> rfl))) | (apply z7 [0, 3] [] [] (cx); rfl; (focus ((repeat' first | exact z6 | apply z5) <;> rfl))) | (apply z7 [0] [] [] (cz); rfl; (focus ((repeat' first | exact z6 | apply z5) <;> rfl))) | (apply z7 [0] [] [] (cy); rfl; (focus ((repeat' first | exact z6 | apply z5) <;> rfl))) | (apply z7 [0, 7] [] [] (cs); rfl; (focus ((repeat' first | exact z6 | apply z5) <;> rfl)))); rfl; rfl; rfl; rfl; rfl; (focus ((repeat' first | exact z19 | apply z16) <;> first | exact z25 rfl rfl | (refine z34 ?_; ((exact z4 fun _ => rfl))))); (exact .inl rfl))) <;> conv => whnf)
      all_goals first | (exfalso; omega) | skip
      all_goals (refine RetS.lay [0] [6] rfl rfl rfl ?_; refine RetS.done ?_ ?_ <;> (repeat' (first | exact LocLe.refl _ | exact z31 | exact F2.nil | apply F2.cons | apply ObjLe.box | ((apply z27 rfl rfl rfl); (focus ((repeat (rfl)); done)); (focus ((rfl); done))) | apply z42 | (apply z32; rfl))))
    · refine ⟨⟨a, b, gd, x, .mk 8 0 [leaf 2 x, leaf 1 1], 0⟩, q + 1 + 1 + 1 + 1, ⟨⟨by show gd.sz ≤ 100; omega, by (show Tree.sz _ ≤ 100; rw [mk_sz]; simp [z118]), by simp at mx; show -1 ≤ x ∧ x ≤ 2; omega, by show -2 ≤ (0 : Int) ∧ (0 : Int) ≤ 2; omega⟩, by omega, by omega⟩, ?_⟩
      refine z14 z29 Tryz.func224 rfl rfl 61 Tryz.ntmps224 (by simp) ?_
      repeat' ((first | (apply AWP.go ok; rfl) | ((apply z8) <;> intro _) | ((first | (apply z7 [0] [] [] (ca); rfl; (focus ((repeat' first | exact z6 | apply z5) <;> rfl))) | (apply z7 [0] [] [] (cb); rfl; (focus ((repeat' first | exact z6 | apply z5) <;> rfl))) | (apply z7 [0] [] [] (cg); rfl; (focus ((repeat' first | exact z6 | apply z5) <;> rfl))) | (apply z7 [0] [] [] (cw); rfl; (focus ((repeat' first | exact z6 | apply z5) <;> rfl))) | (apply z7 [0, 3] [] [] (cx); rfl; (focus ((repeat' first | exact z6 | apply z5) <;> rfl))) | (apply z7 [0] [] [] (cz); rfl; (focus ((repeat' first | exact z6 | apply z5) <;> rfl))) | (apply z7 [0] [] [] (cy); rfl; (focus ((repeat' first | exact z6 | apply z5) <;> rfl)))); rfl; rfl; rfl; rfl; rfl; (focus ((repeat' first | exact z19 | apply z16) <;> first | exact z25 rfl rfl | (refine z34 ?_; ((exact z4 fun _ => rfl))))); (exact .inl rfl))) <;> conv => whnf)
      all_goals first | (exfalso; omega) | skip
      all_goals (refine RetS.lay [0] [6] rfl rfl rfl ?_; refine RetS.done ?_ ?_ <;> (repeat' (first | exact LocLe.refl _ | exact z31 | exact F2.nil | apply F2.cons | apply ObjLe.box | ((apply z27 rfl rfl rfl); (focus ((repeat (rfl)); done)); (focus ((rfl); done))) | apply z42 | (apply z32; rfl))))
  by_cases h2 : z = 2
  · subst h2
    obtain ⟨y, ⟨ly, uy⟩, cy⟩ := z74 bs hb (q + 1 + 1 + 1) 4 (by omega) (by omega) (by omega)
    by_cases hy : y = 0
    · subst hy
      obtain ⟨s, ms, cs⟩ := z117 bs hb (q + 1 + 1 + 1 + 1) (by omega) (by omega) [1, -1, 1, -1, 2, -2] (by decide) (by decide)
      refine ⟨⟨a, b, gd, x, .mk 9 0 [leaf 1 1, leaf 2 x], s⟩, q + 1 + 1 + 1 + 1 + 1, ⟨⟨by show gd.sz ≤ 100; omega, by (show Tree.sz _ ≤ 100; rw [mk_sz]; simp [z118]), by simp at mx; show -1 ≤ x ∧ x ≤ 2; omega, by simp at ms; show -2 ≤ s ∧ s ≤ 2; omega⟩, by omega, by omega⟩, ?_⟩
      refine z14 z29 Tryz.func224 rfl rfl 61 Tryz.ntmps224 (by simp) ?_
      repeat' ((first | (apply AWP.go ok; rfl) | ((apply z8) <;> intro _) | ((first | (apply z7 [0] [] [] (ca); rfl; (focus ((repeat' first | exact z6 | apply z5) <;> rfl))) | (apply z7 [0] [] [] (cb); rfl; (focus ((repeat' first | exact z6 | apply z5) <;> rfl))) | (apply z7 [0] [] [] (cg); rfl; (focus ((repeat' first | exact z6 | apply z5) <;> rfl))) | (apply z7 [0] [] [] (cw); rfl; (focus ((repeat' first | exact z6 | apply z5) <;> rfl))) | (apply z7 [0, 3] [] [] (cx); rfl; (focus ((repeat' first | exact z6 | apply z5) <;> rfl))) | (apply z7 [0] [] [] (cz); rfl; (focus ((repeat' first | exact z6 | apply z5) <;> rfl))) | (apply z7 [0] [] [] (cy); rfl; (focus ((repeat' first | exact z6 | apply z5) <;> rfl))) | (apply z7 [0, 7] [] [] (cs); rfl; (focus ((repeat' first | exact z6 | apply z5) <;> rfl)))); rfl; rfl; rfl; rfl; rfl; (focus ((repeat' first | exact z19 | apply z16) <;> first | exact z25 rfl rfl | (refine z34 ?_; ((exact z4 fun _ => rfl))))); (exact .inl rfl))) <;> conv => whnf)
      all_goals first | (exfalso; omega) | skip
      all_goals (refine RetS.lay [0] [6] rfl rfl rfl ?_; refine RetS.done ?_ ?_ <;> (repeat' (first | exact LocLe.refl _ | exact z31 | exact F2.nil | apply F2.cons | apply ObjLe.box | ((apply z27 rfl rfl rfl); (focus ((repeat (rfl)); done)); (focus ((rfl); done))) | apply z42 | (apply z32; rfl))))
    · refine ⟨⟨a, b, gd, x, .mk 9 0 [leaf 1 1, leaf 2 x], 0⟩, q + 1 + 1 + 1 + 1, ⟨⟨by show gd.sz ≤ 100; omega, by (show Tree.sz _ ≤ 100; rw [mk_sz]; simp [z118]), by simp at mx; show -1 ≤ x ∧ x ≤ 2; omega, by show -2 ≤ (0 : Int) ∧ (0 : Int) ≤ 2; omega⟩, by omega, by omega⟩, ?_⟩
      refine z14 z29 Tryz.func224 rfl rfl 61 Tryz.ntmps224 (by simp) ?_
      repeat' ((first | (apply AWP.go ok; rfl) | ((apply z8) <;> intro _) | ((first | (apply z7 [0] [] [] (ca); rfl; (focus ((repeat' first | exact z6 | apply z5) <;> rfl))) | (apply z7 [0] [] [] (cb); rfl; (focus ((repeat' first | exact z6 | apply z5) <;> rfl))) | (apply z7 [0] [] [] (cg); rfl; (focus ((repeat' first | exact z6 | apply z5) <;> rfl))) | (apply z7 [0] [] [] (cw); rfl; (focus ((repeat' first | exact z6 | apply z5) <;> rfl))) | (apply z7 [0, 3] [] [] (cx); rfl; (focus ((repeat' first | exact z6 | apply z5) <;> rfl))) | (apply z7 [0] [] [] (cz); rfl; (focus ((repeat' first | exact z6 | apply z5) <;> rfl))) | (apply z7 [0] [] [] (cy); rfl; (focus ((repeat' first | exact z6 | apply z5) <;> rfl)))); rfl; rfl; rfl; rfl; rfl; (focus ((repeat' first | exact z19 | apply z16) <;> first | exact z25 rfl rfl | (refine z34 ?_; ((exact z4 fun _ => rfl))))); (exact .inl rfl))) <;> conv => whnf)
      all_goals first | (exfalso; omega) | skip
      all_goals (refine RetS.lay [0] [6] rfl rfl rfl ?_; refine RetS.done ?_ ?_ <;> (repeat' (first | exact LocLe.refl _ | exact z31 | exact F2.nil | apply F2.cons | apply ObjLe.box | ((apply z27 rfl rfl rfl); (focus ((repeat (rfl)); done)); (focus ((rfl); done))) | apply z42 | (apply z32; rfl))))
  obtain ⟨t, q2, ⟨t1, t2, t3⟩, ct⟩ := l1Expr_ok bs hb (q + 1 + 1 + 1) ⟨by omega, by omega⟩
  rw [Tree.arg_eq] at ct
  obtain ⟨y, ⟨ly, uy⟩, cy⟩ := z74 bs hb (q2) 4 (by omega) (by omega) (by omega)
  by_cases hy : y = 0
  · subst hy
    obtain ⟨s, ms, cs⟩ := z117 bs hb (q2 + 1) (by omega) (by omega) [1, -1, 1, -1, 2, -2] (by decide) (by decide)
    refine ⟨⟨a, b, gd, x, t, s⟩, q2 + 1 + 1, ⟨⟨by show gd.sz ≤ 100; omega, by show t.sz ≤ 100; omega, by simp at mx; show -1 ≤ x ∧ x ≤ 2; omega, by simp at ms; show -2 ≤ s ∧ s ≤ 2; omega⟩, by omega, by omega⟩, ?_⟩
    refine z14 z29 Tryz.func224 rfl rfl 61 Tryz.ntmps224 (by simp) ?_
    repeat' ((first | (apply AWP.go ok; rfl) | ((apply z8) <;> intro _) | ((first | (apply z7 [0] [] [] (ca); rfl; (focus ((repeat' first | exact z6 | apply z5) <;> rfl))) | (apply z7 [0] [] [] (cb); rfl; (focus ((repeat' first | exact z6 | apply z5) <;> rfl))) | (apply z7 [0] [] [] (cg); rfl; (focus ((repeat' first | exact z6 | apply z5) <;> rfl))) | (apply z7 [0] [] [] (cw); rfl; (focus ((repeat' first | exact z6 | apply z5) <;> rfl))) | (apply z7 [0, 3] [] [] (cx); rfl; (focus ((repeat' first | exact z6 | apply z5) <;> rfl))) | (apply z7 [0] [] [] (cz); rfl; (focus ((repeat' first | exact z6 | apply z5) <;> rfl))) | (apply z7 [0] [] [] (ct); rfl; (focus ((repeat' first | exact z6 | apply z5) <;> rfl))) | (apply z7 [0] [] [] (cy); rfl; (focus ((repeat' first | exact z6 | apply z5) <;> rfl))) | (apply z7 [0, 6] [] [] (cs); rfl; (focus ((repeat' first | exact z6 | apply z5) <;> rfl)))); rfl; rfl; rfl; rfl; rfl; (focus ((repeat' first | exact z19 | apply z16) <;> first | exact z25 rfl rfl | (refine z34 ?_; ((exact z4 fun _ => rfl))))); (exact .inl rfl))) <;> conv => whnf)
    all_goals first | (exfalso; omega) | skip
    all_goals (refine RetS.lay [0] [] rfl rfl rfl ?_; refine RetS.done ?_ ?_ <;> (repeat' (first | exact LocLe.refl _ | exact F2.nil | apply F2.cons | apply ObjLe.box)))
  · refine ⟨⟨a, b, gd, x, t, 0⟩, q2 + 1, ⟨⟨by show gd.sz ≤ 100; omega, by show t.sz ≤ 100; omega, by simp at mx; show -1 ≤ x ∧ x ≤ 2; omega, by show -2 ≤ (0 : Int) ∧ (0 : Int) ≤ 2; omega⟩, by omega, by omega⟩, ?_⟩
    refine z14 z29 Tryz.func224 rfl rfl 61 Tryz.ntmps224 (by simp) ?_
    repeat' ((first | (apply AWP.go ok; rfl) | ((apply z8) <;> intro _) | ((first | (apply z7 [0] [] [] (ca); rfl; (focus ((repeat' first | exact z6 | apply z5) <;> rfl))) | (apply z7 [0] [] [] (cb); rfl; (focus ((repeat' first | exact z6 | apply z5) <;> rfl))) | (apply z7 [0] [] [] (cg); rfl; (focus ((repeat' first | exact z6 | apply z5) <;> rfl))) | (apply z7 [0] [] [] (cw); rfl; (focus ((repeat' first | exact z6 | apply z5) <;> rfl))) | (apply z7 [0, 3] [] [] (cx); rfl; (focus ((repeat' first | exact z6 | apply z5) <;> rfl))) | (apply z7 [0] [] [] (cz); rfl; (focus ((repeat' first | exact z6 | apply z5) <;> rfl))) | (apply z7 [0] [] [] (ct); rfl; (focus ((repeat' first | exact z6 | apply z5) <;> rfl))) | (apply z7 [0] [] [] (cy); rfl; (focus ((repeat' first | exact z6 | apply z5) <;> rfl)))); rfl; rfl; rfl; rfl; rfl; (focus ((repeat' first | exact z19 | apply z16) <;> first | exact z25 rfl rfl | (refine z34 ?_; ((exact z4 fun _ => rfl))))); (exact .inl rfl))) <;> conv => whnf)
    all_goals first | (exfalso; omega) | skip
    all_goals (refine RetS.lay [0] [] rfl rfl rfl ?_; refine RetS.done ?_ ?_ <;> (repeat' (first | exact LocLe.refl _ | exact F2.nil | apply F2.cons | apply ObjLe.box)))
end Go.Proofs.YtknlmbniicacmaaGreat

namespace Go.Proofs.YtknlmbniicacmaaGreat
open Go.Gl
attribute [local irreducible] z48 AWP z76 z84 z81 RetS z103

def isProc (bs : List Int) (q : Int) (pr : Proc) (q' : Int) : Prop := pr.sm ∧ ∃ (m : Nat) (pf : Nat → Int),
  CallsA Tryz.prog 158 [.ptr 0 none 0, .sref 1 0 4] [rdO bs q, .cells 1 ([2, 3, 1, 2].map enI)] (.int pr.loc) [rdO bs (q + 1), .cells 1 ([2, 3, 1, 2].map enI)] ∧
  CallsA Tryz.prog 158 [.ptr 0 none 0, .sref 1 0 5] [rdO bs (q + 1), .cells 1 ([3, 4, 2, 5, 1].map enI)] (.int m) [rdO bs (q + 1 + 1), .cells 1 ([3, 4, 2, 5, 1].map enI)] ∧
  m ≤ 5 ∧ pr.es.length = m ∧ pf 0 = q + 1 + 1 ∧ pf m = q' ∧ ∀ k (h : k < pr.es.length), CallsA Tryz.prog 224 [.ptr 0 none 0, .int pr.loc] [rdO bs (pf k)] (.agg pr.es[k].cs) [rdO bs (pf (k + 1))]
theorem proc_ex (bs : List Int) (hb : BytesOk bs) (q : Int) (hq : 0 ≤ q ∧ q ≤ 999980000) : ∃ pr q', isProc bs q pr q' ∧ q ≤ q' ∧ q' ≤ q + 1010 := by
  obtain ⟨v, mv, cv⟩ := z117 bs hb q (by omega) (by omega) [2, 3, 1, 2] (by decide) (by decide)
  obtain ⟨w, mw, cw⟩ := z117 bs hb (q + 1) (by omega) (by omega) [3, 4, 2, 5, 1] (by decide) (by decide)
  simp only [List.mem_cons, List.not_mem_nil, or_false] at mv mw
  obtain ⟨m, rfl⟩ : ∃ m : Nat, w = m := ⟨w.toNat, by omega⟩
  obtain ⟨es, pf, h1, h2, h3, h4⟩ := seq_ex (fun _ r (e : Edge) r' => e.sm ∧ CallsA Tryz.prog 224 [.ptr 0 none 0, .int v] [rdO bs r] (.agg e.cs) [rdO bs r']) (q + 1 + 1) 200 m (fun k r hk a1 a2 => by
    obtain ⟨e, r', ⟨b1, b2, b3⟩, c⟩ := l2DrawEdge_ok bs hb r ⟨by omega, by omega⟩ v (by omega)
    exact ⟨e, r', ⟨b1, c⟩, b2, b3⟩)
  have h5 := h4 m (Nat.le_refl _)
  refine ⟨⟨v, es⟩, pf m, ⟨⟨by show 0 ≤ v ∧ v ≤ 100; omega, by show es.length ≤ 10; omega, fun e he => ?_⟩, m, pf, cv, cw, by omega, h1, h2, rfl, fun k h => (h3 k h).2⟩, by omega, by omega⟩
  obtain ⟨i, hi, rfl⟩ := List.mem_iff_getElem.1 he
  exact (h3 i hi).1

set_option maxHeartbeats 6400000 in
theorem l2System_ok (bs : List Int) (hb : BytesOk bs) (p : Int) (hp : few2 p) : ∃ (s : Sys) (p' : Int), (s.sm ∧ p ≤ p' ∧ p' ≤ p + 4000) ∧ CallsA Tryz.prog 169 [.ptr 0 none 0] [rdO bs p] (.agg s.cs) [rdO bs p'] := by
  obtain ⟨a, ⟨la, ua⟩, ca⟩ := z74 bs hb p 2 (by omega) (by omega) (by omega)
  obtain ⟨b, mb, cb⟩ := z117 bs hb (p + 1) (by omega) (by omega) [0, 0, 1, 3] (by decide) (by decide)
  obtain ⟨w, mw, cw⟩ := z117 bs hb (p + 1 + 1) (by omega) (by omega) [2, 1, 2, 3] (by decide) (by decide)
  simp only [List.mem_cons, List.not_mem_nil, or_false] at mw
  obtain ⟨m, rfl⟩ : ∃ m : Nat, w = m := ⟨w.toNat, by omega⟩
  obtain ⟨ps, pf, h1, h2, h3, h4⟩ := seq_ex (fun _ q pr q' => isProc bs q pr q') (p + 1 + 1 + 1) 1010 m (fun k r hk a1 a2 => proc_ex bs hb r (by omega))
  have h5 := h4 m (Nat.le_refl _)
  refine ⟨⟨[a, b, 0], ps⟩, pf m, ⟨⟨by simp, by show ps.length ≤ 10; omega, fun e he => ?_⟩, by omega, by omega⟩, ?_⟩
  · obtain ⟨i, hi, rfl⟩ := List.mem_iff_getElem.1 he
    exact (h3 i hi).1
  rw [← h2] at cw
  refine z14 z29 Tryz.func169 rfl rfl 48 Tryz.ntmps169 (by simp) ?_
  repeat' ((first | (apply AWP.go ok; rfl) | ((first | (apply z7 [0] [] [] (ca); rfl; (focus ((repeat' first | exact z6 | apply z5) <;> rfl))) | (apply z7 [0, 2] [] [] (cb); rfl; (focus ((repeat' first | exact z6 | apply z5) <;> rfl))) | (apply z7 [0, 5] [] [] (cw); rfl; (focus ((repeat' first | exact z6 | apply z5) <;> rfl)))); rfl; rfl; rfl; rfl; rfl; (focus ((repeat' first | exact z19 | apply z16) <;> first | exact z25 rfl rfl | (refine z34 ?_; ((exact z4 fun _ => rfl))))); (exact .inl rfl))) <;> conv => whnf)
  all_goals skip
  refine AWP.reach (Reach.empty 2 rfl) ?_
  refine z115 (fun i : Nat => ([(0, .ptr 0 none 0), (2, .ptr 1 none 0), (3, .ptr 2 none 0), (4, .int (m - i))], [rdO bs (pf i), .cells 2 [[.nils, .nils]], .cells 2 [[ints [a, b, 0], .sref 3 0 i]], .cells 2 ((ps.take i).map Proc.cs)])) (fun i => i ≤ m) (fun i => m - i) 0 (by omega) (by refine SealW.reach [0, 1, 4, 6] [3] rfl rfl rfl rfl ?_ ?_ <;> (repeat' (first | exact LocLe.refl _ | exact z40 | exact F2.nil | apply F2.cons | apply ObjLe.box | ((refine z17 rfl ?_ ?_); (focus ((repeat' (exact z12)); done))) | exact True.intro | apply And.intro))) ?_
  intro i hi
  by_cases him : i < m
  · have hil : i < ps.length := by omega
    obtain ⟨g1, m2, pf2, c1, c2, g2, g3, g4, g5, g6⟩ := h3 i hil
    rw [← g4] at c2
    have hpi : (ps.take (i + 1)).map Proc.cs = (ps.take i).map Proc.cs ++ [Proc.cs ps[i]] := by rw [List.take_succ_eq_append_getElem hil, List.map_append]; rfl
    repeat' ((first | (apply AWP.go ok; rfl) | ((apply z8) <;> intro _) | ((first | (apply z7 [0, 4] [] [] (c1); rfl; (focus ((repeat' first | exact z6 | apply z5) <;> rfl))) | (apply z7 [0, 6] [] [] (c2); rfl; (focus ((repeat' first | exact z6 | apply z5) <;> rfl)))); rfl; rfl; rfl; rfl; rfl; (focus ((repeat' first | exact z19 | apply z16) <;> first | exact z25 rfl rfl | (refine z34 ?_; ((exact z4 fun _ => rfl))))); (exact .inl rfl))) <;> conv => whnf)
    all_goals first | (exfalso; omega) | skip
    refine AWP.reach (Reach.empty 10 rfl) ?_
    refine z115 (fun k : Nat => ([(0, .ptr 0 none 0), (2, .ptr 1 none 0), (3, .ptr 2 none 0), (4, .int (m - i)), (5, .ptr 4 none 0), (6, .int (m2 - k))], [rdO bs (pf2 k), .cells 2 [[.nils, .nils]], .cells 2 [[ints [a, b, 0], .sref 3 0 i]], .cells 2 ((ps.take i).map Proc.cs), .cells 2 [[.int ps[i].loc, .sref 5 0 k]], .cells 10 ((ps[i].es.take k).map Edge.cs)])) (fun k => k ≤ m2) (fun k => m2 - k) 0 (by omega) (by refine SealW.reach [0, 1, 2, 3, 5, 7] [] rfl rfl rfl rfl ?_ ?_ <;> (repeat' (first | exact LocLe.refl _ | exact z40 | exact F2.nil | apply F2.cons | exact z20 _ | apply ObjLe.box | ((refine z17 rfl ?_ ?_); (focus ((repeat' (first | exact z12 | exact z4 (fun _ => rfl))); done))) | exact True.intro | apply And.intro))) ?_
    intro k hk
    by_cases hkm : k < m2
    · have hke : k < ps[i].es.length := by omega
      have ce := g6 k hke
      repeat' ((first | (apply AWP.go ok; rfl) | (apply z38; kernel_rfl) | (apply And.intro; first | omega | (unfold inI; omega) | ((try dsimp only); simp only [List.length_map, List.length_take, List.length_append, List.length_replicate, List.length_cons, List.length_nil]; omega) | exact ⟨rfl, z21 rfl z26⟩) | ((apply z8) <;> intro _) | (((apply z7 [0] [] [] (ce); rfl; (focus ((repeat' first | exact z6 | apply z5) <;> rfl)))); rfl; rfl; rfl; rfl; rfl; (focus ((repeat' first | exact z19 | apply z16) <;> exact z25 rfl rfl)); (exact .inl rfl))) <;> conv => whnf)
      all_goals first | (exfalso; omega) | skip
      all_goals refine z49 (k + 1) (by omega) (by omega) (by refine SealW.reach [0, 1, 2, 3, 4, 7] [] rfl rfl rfl rfl ?_ ?_ <;> (repeat' (first | exact LocLe.refl _ | exact F2.nil | apply F2.cons | exact z20 _ | (refine z78 ?_; omega) | apply ObjLe.box | ((first | refine z24 rfl ?_ ?_ | refine z17 rfl ?_ ?_); (focus ((repeat' (first | exact z4 (fun _ => rfl) | apply z15)); done))) | (refine z73 (by omega) (by omega) ?_) | exact True.intro | apply And.intro)))
    · have ek : k = m2 := by omega
      subst ek
      rw [List.take_of_length_le (show ps[i].es.length ≤ k by omega)]
      repeat' ((first | (apply AWP.go ok; rfl) | (apply And.intro; first | (unfold inI; omega) | ((try dsimp only); simp only [List.length_map, List.length_take, List.length_append, List.length_replicate, List.length_cons, List.length_nil]; omega) | exact ⟨rfl, z21 rfl z26⟩) | ((apply z8) <;> intro _)) <;> conv => whnf)
      all_goals first | (exfalso; omega) | skip
      all_goals refine z49 (i + 1) (by omega) (by omega) (by refine SealW.reach [0, 1, 2, 7] [5] rfl rfl rfl rfl ?_ ?_ <;> (repeat' (first | exact LocLe.refl _ | exact F2.nil | apply F2.cons | (refine z96 ?_; omega) | (refine z78 ?_; omega) | apply ObjLe.box | ((refine z24 rfl ?_ ?_); (focus ((repeat' (first | exact z4 (fun _ => rfl) | apply z15)); done))) | (refine z73 (by omega) (by omega) ?_) | ((apply z41 rfl rfl rfl); (focus ((repeat ((exact z23 (fun _ => rfl) _))); done)); (focus (((simp; omega)); done))) | exact True.intro | apply And.intro)))
  · have e : i = m := by omega
    subst e
    rw [List.take_of_length_le (show ps.length ≤ i by omega)]
    repeat' ((first | (apply AWP.go ok; rfl) | ((apply z8) <;> intro _)) <;> conv => whnf)
    all_goals first | (exfalso; omega) | skip
    all_goals (refine RetS.lay [0] [3] rfl rfl rfl ?_; refine RetS.done ?_ ?_ <;> (repeat' (first | exact LocLe.refl _ | exact F2.nil | apply F2.cons | (refine z96 ?_; omega) | apply ObjLe.box | ((apply z27 rfl rfl rfl); (focus ((repeat ((exact z23 (fun _ => rfl) _))); done)); (focus (((simp; omega)); done))) | apply z42)))
end Go.Proofs.YtknlmbniicacmaaGreat

namespace Go.Proofs.YtknlmbniicacmaaGreat
open Go.Gl
attribute [local irreducible] z48 AWP z76 z84 z81 RetS z103

theorem unown_rep (n : Nat) (e : List AC) : z101 (List.replicate n e) = List.replicate n (unownL e) := by
  induction n with
  | zero => rfl
  | succ n ih => simp only [List.replicate_succ, z101, ih]
noncomputable def noneB (t : Tree) : Bool := decide (t.kind = 0 ∧ t.val = 0 ∧ t.kids.length = 0)
theorem l2None_ok (t : Tree) : CallsA Tryz.prog 345 [z65 Tree.cs' t] [] (.bool (noneB t)) [] := by
  refine z22 z29 Tryz.func345 rfl rfl 17 Tryz.ntmps345 (by simp) ?_
  repeat' ((first | (apply AWP.go ok; rfl) | ((apply z8) <;> intro _)) <;> conv => whnf)
  all_goals refine z28 rfl ?_
  all_goals unfold noneB
  all_goals first | (rw [decide_eq_decide]; omega) | (rw [decide_eq_false_iff_not]; omega)

noncomputable def edgOk (e : Edge) (n : Int) : Bool := decide (0 ≤ e.fr ∧ e.fr < n ∧ 0 ≤ e.to ∧ e.to < n ∧ n ≤ 4) && (e.gd.exprB && (decide (-2 ≤ e.sync ∧ e.sync ≤ 2 ∧ -1 ≤ e.var ∧ e.var < 3) && (if e.var < 0 then noneB e.val else e.val.exprB)))
set_option maxHeartbeats 1600000 in
theorem edgeValid_ok (e : Edge) (he : e.sm) (n : Int) : CallsA Tryz.prog 328 [.agg e.cs, .int n] [] (.bool (edgOk e n)) [] := by
  have h1 := he.gd
  have h2 := he.val
  have c1 := z145 e.gd (mx_of_sz _ (by unfold maxLen; omega))
  have c2 := z145 e.val (mx_of_sz _ (by unfold maxLen; omega))
  have c3 := l2None_ok e.val
  rw [Tree.arg_eq] at c1 c2 c3
  unfold edgOk
  generalize e.gd.exprB = b1 at *
  generalize e.val.exprB = b2 at *
  generalize noneB e.val = b3 at *
  by_cases ha : 0 ≤ e.fr ∧ e.fr < n ∧ 0 ≤ e.to ∧ e.to < n ∧ n ≤ 4
  · rw [decide_eq_true ha]
    by_cases hb : -2 ≤ e.sync ∧ e.sync ≤ 2 ∧ -1 ≤ e.var ∧ e.var < 3
    · rw [decide_eq_true hb]
      by_cases hv : e.var < 0
      · rw [if_pos hv]
        refine z22 z29 Tryz.func328 rfl rfl 71 Tryz.ntmps328 (by simp) ?_
        cases b1 <;> cases b3
        all_goals
          repeat' ((first | (apply AWP.go ok; rfl) | ((apply z8) <;> intro _) | (apply z10 (c1); rfl; rfl) | (apply z10 (c3); rfl; rfl)) <;> conv => whnf)
          all_goals first | (exfalso; omega) | exact z28 rfl rfl
      · rw [if_neg hv]
        refine z22 z29 Tryz.func328 rfl rfl 71 Tryz.ntmps328 (by simp) ?_
        cases b1 <;> cases b2
        all_goals
          repeat' ((first | (apply AWP.go ok; rfl) | ((apply z8) <;> intro _) | (apply z10 (c1); rfl; rfl) | (apply z10 (c2); rfl; rfl)) <;> conv => whnf)
          all_goals first | (exfalso; omega) | exact z28 rfl rfl
    · rw [decide_eq_false hb]
      refine z22 z29 Tryz.func328 rfl rfl 71 Tryz.ntmps328 (by simp) ?_
      cases b1
      all_goals
        repeat' ((first | (apply AWP.go ok; rfl) | ((apply z8) <;> intro _) | (apply z10 (c1); rfl; rfl)) <;> conv => whnf)
        all_goals first | (exfalso; omega) | exact z28 rfl rfl
  · rw [decide_eq_false ha]
    refine z22 z29 Tryz.func328 rfl rfl 71 Tryz.ntmps328 (by simp) ?_
    repeat' ((first | (apply AWP.go ok; rfl) | ((first | apply z8 | apply z53) <;> intro _) | (apply z10 (c1); rfl; rfl)) <;> conv => whnf)
    all_goals first | (exfalso; omega) | exact z28 rfl rfl

noncomputable def procB (p : Proc) : Bool := p.es.all (fun e => edgOk e p.loc) && decide (1 ≤ p.loc ∧ p.loc ≤ 4 ∧ p.es.length ≤ 6)
theorem l2Process_ok (p : Proc) (hp : p.sm) : CallsA Tryz.prog 300 [.agg p.cs] [] (.bool (procB p)) [] := by
  have hl := hp.len
  unfold procB
  refine z22 z29 Tryz.func300 rfl rfl 34 Tryz.ntmps300 (by simp) ?_
  repeat' (((apply AWP.go ok; rfl)) <;> conv => whnf)
  refine z120 (fun k : Nat => ([(1, .ptr 0 none 0), (3, .int k)], [.cells 2 [p.cs]])) (fun k => k ≤ p.es.length ∧ p.es.all (fun e => edgOk e p.loc) = (p.es.drop k).all (fun e => edgOk e p.loc)) (fun k => p.es.length - k) 0 ⟨by omega, rfl⟩ ⟨[0], rfl, by decide, rfl, by repeat' (first | exact True.intro | exact ⟨rfl, rfl⟩ | apply And.intro), by repeat' (first | exact True.intro | exact z35 rfl rfl | apply And.intro)⟩ ?_
  intro k hk
  by_cases hkl : k < p.es.length
  · have ce := edgeValid_ok p.es[k] (hp.el _ (List.getElem_mem _)) p.loc
    have e := z159 (fun e => edgOk e p.loc) p.es k hkl
    rw [e] at hk
    have g0 : (p.es.map Edge.cs)[k]? = some (Edge.cs p.es[k]) := by rw [List.getElem?_map, List.getElem?_eq_getElem hkl]; rfl
    generalize edgOk p.es[k] p.loc = b at *
    cases b
    all_goals
      repeat' ((first | (apply AWP.go ok; rfl) | (apply z38; kernel_rfl) | (refine z43 (i := k) rfl g0 ?_) | (apply And.intro; first | omega | (unfold inI; omega)) | ((apply z8) <;> intro _) | (apply z10 (ce); rfl; rfl)) <;> conv => whnf)
      all_goals first | (exfalso; omega) | skip
    · exact z28 rfl (by rw [hk.2]; rfl)
    · exact z116 (k + 1) [0] ⟨by omega, by rw [hk.2, Bool.true_and]⟩ (by omega) ⟨rfl, by decide, rfl, by repeat' (first | exact True.intro | exact ⟨rfl, rfl⟩ | apply And.intro), by repeat' (first | exact True.intro | exact z35 rfl rfl | apply And.intro)⟩
  · have e := z152 (fun e => edgOk e p.loc) p.es k (by omega)
    rw [e] at hk
    repeat' ((first | (apply AWP.go ok; rfl) | (apply And.intro; omega) | (((with_reducible apply z13; omega)); intro _) | ((apply z8) <;> intro _)) <;> conv => whnf)
    all_goals first | (exfalso; omega) | (refine z28 rfl ?_; rw [hk.2]; simp only [Bool.true_and, Bool.false_and]; first | (rw [decide_eq_decide]; omega) | (rw [decide_eq_false_iff_not]; omega))

noncomputable def sysB (s : Sys) : Bool := s.ps.all procB && (valsB s.init && decide (1 ≤ s.ps.length ∧ s.ps.length ≤ 3))
theorem systemValid_ok (s : Sys) (hs : s.sm) : CallsA Tryz.prog 266 [.agg s.cs] [] (.bool (sysB s)) [] := by
  have hl := hs.len
  have hi := hs.init
  have cv := l1Vals_ok s.init (by unfold maxLen; omega)
  unfold sysB
  generalize valsB s.init = vb at *
  refine z22 z29 Tryz.func266 rfl rfl 33 Tryz.ntmps266 (by simp) ?_
  repeat' (((apply AWP.go ok; rfl)) <;> conv => whnf)
  refine z120 (fun k : Nat => ([(1, .ptr 0 none 0), (3, .int k)], [.cells 2 [s.cs]])) (fun k => k ≤ s.ps.length ∧ s.ps.all procB = (s.ps.drop k).all procB) (fun k => s.ps.length - k) 0 ⟨by omega, rfl⟩ ⟨[0], rfl, by decide, rfl, by repeat' (first | exact True.intro | exact ⟨rfl, rfl⟩ | apply And.intro), by repeat' (first | exact True.intro | exact z35 rfl rfl | apply And.intro)⟩ ?_
  intro k hk
  by_cases hkl : k < s.ps.length
  · have ce := l2Process_ok s.ps[k] (hs.el _ (List.getElem_mem _))
    have e := z159 procB s.ps k hkl
    rw [e] at hk
    have g0 : (s.ps.map Proc.cs)[k]? = some (Proc.cs s.ps[k]) := by rw [List.getElem?_map, List.getElem?_eq_getElem hkl]; rfl
    generalize procB s.ps[k] = b at *
    cases b
    all_goals
      repeat' ((first | (apply AWP.go ok; rfl) | (refine z43 (i := k) rfl g0 ?_) | (apply And.intro; first | omega | (unfold inI; omega)) | ((apply z8) <;> intro _) | (apply z10 (ce); rfl; rfl)) <;> conv => whnf)
      all_goals first | (exfalso; omega) | skip
    · exact z28 rfl (by rw [hk.2]; rfl)
    · exact z116 (k + 1) [0] ⟨by omega, by rw [hk.2, Bool.true_and]⟩ (by omega) ⟨rfl, by decide, rfl, by repeat' (first | exact True.intro | exact ⟨rfl, rfl⟩ | apply And.intro), by repeat' (first | exact True.intro | exact z35 rfl rfl | apply And.intro)⟩
  · have e := z152 procB s.ps k (by omega)
    rw [e] at hk
    cases vb
    all_goals
      repeat' ((first | (apply AWP.go ok; rfl) | (apply And.intro; omega) | (((with_reducible apply z13; omega)); intro _) | ((apply z8) <;> intro _) | (apply z10 (cv); rfl; rfl)) <;> conv => whnf)
      all_goals first | (exfalso; omega) | (refine z28 rfl ?_; rw [hk.2]; simp only [Bool.true_and, Bool.false_and]; first | done | (rw [decide_eq_decide]; omega) | (rw [decide_eq_false_iff_not]; omega))

theorem initState_ok (s : Sys) (hs : s.sm) : CallsA Tryz.prog 220 [.agg s.cs] [] (.tup [.agg (if sysB s then (⟨List.replicate s.ps.length 0, s.init⟩ : State) else ⟨[], []⟩).cs, .bool (sysB s)]) [] := by
  have hl := hs.len
  have hi := hs.init
  have c := systemValid_ok s hs
  generalize sysB s = b at *
  refine z14 z29 Tryz.func220 rfl rfl 17 Tryz.ntmps220 (by simp) ?_
  cases b
  all_goals
    repeat' ((first | (apply AWP.go ok; rfl) | (apply z38; kernel_rfl) | (apply And.intro; first | (dsimp only; omega) | exact z18 (fun _ => rfl)) | (apply z10 (c); rfl; rfl)) <;> conv => whnf)
    all_goals skip
  · (refine RetS.lay [] [] rfl rfl rfl ?_; refine RetS.done ?_ ?_ <;> (repeat' (first | exact LocLe.refl _ | exact z31 | exact F2.nil | apply F2.cons | apply z42 | apply z85)))
  · (refine RetS.lay [] [2, 4] rfl rfl rfl ?_; refine RetS.done ?_ ?_ <;> (repeat' (first | exact LocLe.refl _ | exact F2.nil | apply F2.cons | (refine z96 ?_; omega) | ((apply z27 rfl rfl rfl); (focus ((repeat (first | exact z23 (fun _ => rfl) _ | rfl)); done)); (focus (((simp; done)); done))) | apply z42 | apply z85 | (refine z32 ?_ ?_; (focus (simp; done))))))
    exact z82 (by rw [unown_rep, if_pos rfl]; simp only [List.map_replicate, Int.toNat_natCast]; rfl)
end Go.Proofs.YtknlmbniicacmaaGreat

namespace Go.Proofs.YtknlmbniicacmaaGreat
open Go.Gl
attribute [local irreducible] z48 AWP z76 z84 z81 RetS z103

def Sys.pr (s : Sys) (i : Nat) : Proc := s.ps.getD i ⟨0, []⟩
def Proc.eg (p : Proc) (k : Nat) : Edge := p.es.getD k ⟨0, 0, leaf 0 0, 0, leaf 0 0, 0⟩
theorem Sys.pr_at {s : Sys} {i : Nat} (h : i < s.ps.length) : (s.ps.map Proc.cs)[i]? = some (s.pr i).cs := by
  unfold Sys.pr; rw [z50 h, List.getElem?_map, List.getElem?_eq_getElem h]; rfl
theorem Proc.eg_at {p : Proc} {k : Nat} (h : k < p.es.length) : (p.es.map Edge.cs)[k]? = some (p.eg k).cs := by
  unfold Proc.eg; rw [z50 h, List.getElem?_map, List.getElem?_eq_getElem h]; rfl
/-- what a valid system keeps -/
structure Edge.ok (e : Edge) (n : Int) : Prop where
  to : 0 ≤ e.to ∧ e.to < n
  gd : e.gd.good
  var : -1 ≤ e.var ∧ e.var ≤ 2
  val : 0 ≤ e.var → e.val.good
  sync : -2 ≤ e.sync ∧ e.sync ≤ 2
structure Sys.ok (s : Sys) : Prop where
  n1 : 1 ≤ s.ps.length
  n3 : s.ps.length ≤ 3
  ne : ∀ i, i < s.ps.length → (s.pr i).es.length ≤ 6
  loc : ∀ i, i < s.ps.length → (s.pr i).loc ≤ 4
  eg : ∀ i k, i < s.ps.length → k < (s.pr i).es.length → ((s.pr i).eg k).ok (s.pr i).loc
  init : ValsOk s.init
theorem Sys.ok_of {s : Sys} (h : sysB s = true) : s.ok := by
  unfold sysB at h
  rw [Bool.and_eq_true, Bool.and_eq_true, decide_eq_true_iff, List.all_eq_true] at h
  obtain ⟨h1, h2, h3⟩ := h
  have hp : ∀ i, i < s.ps.length → procB (s.pr i) = true := fun i hi => by unfold Sys.pr; rw [z50 hi]; exact h1 _ (List.getElem_mem _)
  have hq : ∀ i, i < s.ps.length → (∀ e ∈ (s.pr i).es, edgOk e (s.pr i).loc = true) ∧ 1 ≤ (s.pr i).loc ∧ (s.pr i).loc ≤ 4 ∧ (s.pr i).es.length ≤ 6 := fun i hi => by
    have := hp i hi
    unfold procB at this
    rw [Bool.and_eq_true, decide_eq_true_iff, List.all_eq_true] at this
    exact this
  refine ⟨h3.1, h3.2, fun i hi => (hq i hi).2.2.2, fun i hi => (hq i hi).2.2.1, fun i k hi hk => ?_, valsOk_of h2⟩
  have he := (hq i hi).1 ((s.pr i).eg k) (by unfold Proc.eg; rw [z50 hk]; exact List.getElem_mem _)
  unfold edgOk at he
  simp only [Bool.and_eq_true, decide_eq_true_iff] at he
  obtain ⟨a1, a2, a3, a4⟩ := he
  refine ⟨⟨a1.2.2.1, a1.2.2.2.1⟩, Tree.good_of a2, ⟨a3.2.2.1, by omega⟩, fun hv => ?_, ⟨a3.1, a3.2.1⟩⟩
  rw [if_neg (by omega)] at a4
  exact Tree.good_of a4

noncomputable def rdyE (e : Edge) (st : State) (i : Nat) : Bool := decide (e.fr = st.a.getD i 0) && decide (e.gd.ev st.b ≠ 0)
structure State.ok (st : State) (s : Sys) : Prop where
  a : st.a.length = s.ps.length
  b : ValsOk st.b
theorem l3Ready_ok (s : Sys) (hs : s.ok) (st : State) (h : st.ok s) (i k : Nat) (hi : i < s.ps.length) (hk : k < (s.pr i).es.length) : CallsA Tryz.prog 267 [.agg s.cs, .agg st.cs, .int i, .int k] [] (.bool (rdyE ((s.pr i).eg k) st i)) [] := by
  have gp := Sys.pr_at hi
  have ge := Proc.eg_at hk
  have hE := hs.eg i k hi hk
  have h3 := hs.n3
  have ha := h.a
  have h6 := hs.ne i hi
  generalize (s.pr i).eg k = e at *
  have hb := h.b.1
  have ga : (st.a.map enI)[i]? = some (enI (st.a.getD i 0)) := by rw [List.getElem?_map, z50 (show i < st.a.length by omega), List.getElem?_eq_getElem (by omega)]; rfl
  have ce := l1Eval_ok st.b h.b e.gd hE.gd
  rw [Tree.arg_eq] at ce
  unfold rdyE
  generalize st.a.getD i 0 = x at *
  generalize s.pr i = p at *
  refine z22 z29 Tryz.func267 rfl rfl 35 Tryz.ntmps267 (by simp) ?_
  repeat' ((first | (apply AWP.go ok; rfl) | (apply z38; kernel_rfl) | (refine z43 (i := i) rfl gp ?_) | (refine z43 (i := k) rfl ge ?_) | (refine z43 (i := i) rfl ga ?_) | (apply And.intro; omega) | ((apply z8) <;> intro _) | (apply z10 (ce); rfl; rfl)) <;> conv => whnf)
  all_goals skip
  all_goals exact z28 rfl (by simp [*])

structure Stp where
  p : Int
  e : Int
  q : Int
  f : Int
def Stp.cs (x : Stp) : List AC := [.int x.p, .int x.e, .int x.q, .int x.f]
structure Stp.ok (x : Stp) (s : Sys) : Prop where
  p : 0 ≤ x.p ∧ x.p < s.ps.length
  e : 0 ≤ x.e ∧ x.e < (s.pr x.p.toNat).es.length
  q : -1 ≤ x.q ∧ x.q < s.ps.length
  f : 0 ≤ x.q → 0 ≤ x.f ∧ x.f < (s.pr x.q.toNat).es.length
open Classical in
noncomputable def partR (s : Sys) (st : State) (i k : Nat) (j m : Nat) : List Stp := if j ≠ i ∧ ((s.pr j).eg m).sync = -((s.pr i).eg k).sync ∧ rdyE ((s.pr j).eg m) st j = true then [⟨i, k, j, m⟩] else []
noncomputable def partL (s : Sys) (st : State) (i k : Nat) : List Stp := cat s.ps.length fun j => cat (s.pr j).es.length (partR s st i k j)
theorem partL_ok {s : Sys} {st : State} {i k : Nat} (hi : i < s.ps.length) (hk : k < (s.pr i).es.length) : ∀ x ∈ partL s st i k, x.ok s := fun x hx => by
  obtain ⟨j, hj, hx⟩ := mem_cat hx
  obtain ⟨m, hm, hx⟩ := mem_cat hx
  unfold partR at hx
  split at hx
  · rw [List.mem_singleton.1 hx]
    exact ⟨⟨by show 0 ≤ (i : Int); omega, by show (i : Int) < _; omega⟩, ⟨by show 0 ≤ (k : Int); omega, by show (k : Int) < _; simpa using hk⟩, ⟨by show -1 ≤ (j : Int); omega, by show (j : Int) < _; omega⟩, fun _ => ⟨by show 0 ≤ (m : Int); omega, by show (m : Int) < _; simpa using hm⟩⟩
  · cases hx
theorem partL_len {s : Sys} (hs : s.ok) {st : State} {i k : Nat} : (partL s st i k).length ≤ 18 := by
  have h3 := hs.n3
  have := cat_len (n := s.ps.length) (c := 6) (f := fun j => cat (s.pr j).es.length (partR s st i k j)) (fun j hj => by
    have h6 := hs.ne j hj
    have := cat_len (n := (s.pr j).es.length) (c := 1) (f := partR s st i k j) (fun m _ => by unfold partR; split <;> simp)
    omega)
  unfold partL
  omega

set_option maxHeartbeats 1600000 in
theorem l3Partners_ok (s : Sys) (hs : s.ok) (st : State) (h : st.ok s) (i k : Nat) (hi : i < s.ps.length) (hk : k < (s.pr i).es.length) : CallsA Tryz.prog 268 [.agg s.cs, .agg st.cs, .int i, .int k] [] (lst 4 Stp.cs (partL s st i k)) [] := by
  have gp := Sys.pr_at hi
  have ge := Proc.eg_at hk
  have h3 := hs.n3
  have h6 := hs.ne i hi
  have hE := hs.eg i k hi hk
  have hsy := hE.sync
  have hfin : partL s st i k = cat s.ps.length (fun j => cat (s.pr j).es.length (partR s st i k j)) := rfl
  have hR1 : ∀ j m, (j ≠ i ∧ ((s.pr j).eg m).sync = -((s.pr i).eg k).sync ∧ rdyE ((s.pr j).eg m) st j = true) → partR s st i k j m = [⟨i, k, j, m⟩] := fun _ _ h => if_pos h
  have hR0 : ∀ j m, ¬(j ≠ i ∧ ((s.pr j).eg m).sync = -((s.pr i).eg k).sync ∧ rdyE ((s.pr j).eg m) st j = true) → partR s st i k j m = [] := fun _ _ h => if_neg h
  generalize partL s st i k = FIN at *
  generalize partR s st i k = R at *
  generalize (s.pr i).eg k = e at *
  generalize hp : s.pr i = p at *
  refine z14 z29 Tryz.func268 rfl rfl 76 Tryz.ntmps268 (by simp) ?_
  repeat' ((first | (apply AWP.go ok; rfl) | (refine z43 (i := i) rfl gp ?_) | (refine z43 (i := k) rfl ge ?_) | (apply And.intro; omega)) <;> conv => whnf)
  all_goals skip
  refine z115 (fun x : Nat × List Stp => ([(2, .int i), (3, .int k), (4, .ptr 0 none 0), (5, .ptr 1 none 0), (9, .sref 2 0 x.2.length), (10, .int e.sync), (11, .int x.1)], [.cells 2 [s.cs], .cells 2 [st.cs], .cells 4 (x.2.map Stp.cs)])) (fun x => x.1 ≤ s.ps.length ∧ x.2.length ≤ 6 * x.1 ∧ x.2 = cat x.1 fun j => cat (s.pr j).es.length (R j)) (fun x => s.ps.length - x.1) (0, []) ⟨by omega, by simp, rfl⟩ (by refine SealW.reach [0, 1, 2] [] rfl rfl rfl rfl ?_ ?_ <;> (repeat' (first | exact LocLe.refl _ | exact F2.nil | apply F2.cons | apply ObjLe.box | ((refine z17 rfl ?_ ?_); (focus ((repeat' (exact z12)); done))) | exact True.intro | apply And.intro))) ?_
  rintro ⟨j, L⟩ ⟨hj, hLl, hL⟩
  simp only at hj hL hLl
  by_cases hjl : j < s.ps.length
  · have gj := Sys.pr_at hjl
    have hj6 := hs.ne j hjl
    repeat' ((first | (apply AWP.go ok; rfl) | ((apply z8) <;> intro _)) <;> conv => whnf)
    all_goals first | (exfalso; omega) | skip
    refine z115 (fun x : Nat × List Stp => ([(2, .int i), (3, .int k), (4, .ptr 0 none 0), (5, .ptr 1 none 0), (9, .sref 2 0 x.2.length), (10, .int e.sync), (11, .int j), (12, .int x.1)], [.cells 2 [s.cs], .cells 2 [st.cs], .cells 4 (x.2.map Stp.cs)])) (fun x => x.1 ≤ (s.pr j).es.length ∧ x.2.length ≤ 6 * j + x.1 ∧ x.2 = L ++ cat x.1 (R j)) (fun x => (s.pr j).es.length - x.1) (0, L) ⟨by omega, by simpa using hLl, by rw [cat_zero, List.append_nil]⟩ (by refine SealW.reach [0, 1, 2] [] rfl rfl rfl rfl ?_ ?_ <;> (repeat' (first | exact LocLe.refl _ | exact F2.nil | apply F2.cons | exact z20 _ | apply ObjLe.box | ((refine z17 rfl ?_ ?_); (focus ((repeat' ((exact z4 (fun _ => rfl)))); done))) | exact True.intro | apply And.intro))) ?_
    rintro ⟨m, M⟩ ⟨hm, hMl, hM⟩
    simp only at hm hM hMl
    by_cases hml : m < (s.pr j).es.length
    · have gm := Proc.eg_at hml
      have hl := l3Ready_ok s hs st h j m hjl hml
      have hR1m := hR1 j m
      have hR0m := hR0 j m
      have hcs := cat_succ m (R j)
      have hE2 := (hs.eg j m hjl hml).sync
      generalize (s.pr j).eg m = e2 at *
      generalize rdyE e2 st j = rd at *
      generalize hpj : s.pr j = pj at *
      cases rd
      all_goals
        repeat' ((first | (apply AWP.go ok; rfl) | (refine z43 (i := j) rfl gj ?_) | (refine z43 (i := m) rfl gm ?_) | (apply And.intro; first | omega | (unfold inI; omega) | ((try dsimp only); simp only [List.length_map, List.length_take, List.length_append, List.length_replicate, List.length_cons, List.length_nil]; omega) | exact ⟨rfl, z21 rfl z26⟩) | ((first | apply z8 | apply z30) <;> intro _) | (apply z10 (hl); rfl; rfl)) <;> conv => whnf)
        all_goals first | (exfalso; omega) | skip
      all_goals first
        | (have hz := hR1m ⟨by omega, by omega, rfl⟩
           refine z49 (m + 1, M ++ [⟨i, k, j, m⟩]) ⟨by omega, by simp; omega, by rw [hM, hcs, hz, List.append_assoc]⟩ (by show pj.es.length - (m + 1) < pj.es.length - m; omega) (by refine SealW.reach [0, 1, 4] [] rfl rfl rfl rfl ?_ ?_ <;> (repeat' (first | exact LocLe.refl _ | exact F2.nil | apply F2.cons | (refine z37 ?_; ((simp; done))) | apply ObjLe.box | ((refine z24 rfl ?_ ?_); (focus ((repeat' (first | exact z4 (fun _ => rfl) | apply z15)); done))) | (refine z64 ?_ ?_; (focus (omega))) | exact True.intro | apply And.intro))))
        | (have hz := hR0m (by rintro ⟨z1, z2, z3⟩; first | exact absurd z3 (by decide) | omega)
           refine z49 (m + 1, M) ⟨by omega, by simp; omega, by rw [hM, hcs, hz, List.append_nil]⟩ (by show pj.es.length - (m + 1) < pj.es.length - m; omega) (by refine SealW.reach [0, 1, 2] [] rfl rfl rfl rfl ?_ ?_ <;> (repeat' (first | exact LocLe.refl _ | exact F2.nil | apply F2.cons | exact z20 _ | apply ObjLe.box | ((refine z17 rfl ?_ ?_); (focus ((repeat' ((exact z4 (fun _ => rfl)))); done))) | exact True.intro | apply And.intro))))
    · repeat' ((first | (apply AWP.go ok; rfl) | (refine z43 (i := j) rfl gj ?_) | (apply And.intro; first | omega | (unfold inI; omega)) | (((with_reducible apply z13; omega)); intro _) | ((first | apply z8 | apply z30) <;> intro _)) <;> conv => whnf)
      all_goals first | (exfalso; omega) | skip
      have e : m = (s.pr j).es.length := by omega
      all_goals refine z49 (j + 1, M) ⟨by omega, by simp; omega, by rw [hM, hL, e]; exact (cat_succ j fun j => cat (s.pr j).es.length (R j)).symm⟩ (by show s.ps.length - (j + 1) < s.ps.length - j; omega) (by refine SealW.reach [0, 1, 2] [] rfl rfl rfl rfl ?_ ?_ <;> (repeat' (first | exact LocLe.refl _ | exact F2.nil | apply F2.cons | exact z20 _ | apply ObjLe.box | ((refine z17 rfl ?_ ?_); (focus ((repeat' ((exact z4 (fun _ => rfl)))); done))) | exact True.intro | apply And.intro)))
  · have e : j = s.ps.length := by omega
    have eL : L = FIN := by rw [hfin, hL, e]
    subst eL
    repeat' ((first | (apply AWP.go ok; rfl) | ((apply z8) <;> intro _)) <;> conv => whnf)
    all_goals first | (exfalso; omega) | skip
    all_goals (refine RetS.lay [] [2] rfl rfl rfl ?_; refine RetS.done ?_ ?_ <;> (repeat' (first | exact LocLe.refl _ | exact F2.nil | ((apply z27 rfl rfl rfl); (focus ((repeat ((exact z23 (fun _ => rfl) _))); done)); (focus (((simp; done)); done))))))
end Go.Proofs.YtknlmbniicacmaaGreat

namespace Go.Proofs.YtknlmbniicacmaaGreat
open Go.Gl
attribute [local irreducible] z48 AWP z76 z84 z81

theorem keepI {f : FuncId} {args : List AC} {n : Nat} {l : List Int} (h : CallsA Tryz.prog f args [] (.sref 0 0 n) [.cells 1 (l.map enI)]) (hl : l.length = n) : CallsA Tryz.prog f args [] (ints l) [] := by
  subst hl
  exact h.keep (enc_unown1 _ _) (by simp)
theorem z162 {objs : Nat → AObj} {π Bn : List Nat} {o : Nat} {l : List Int} (ho : objs o = .cells 1 (l.map enI)) (h1 : idx π o = none) (h2 : inB Bn o = true) : bor objs π Bn (.sref o 0 l.length) = ints l :=
  bor_list ho h1 h2 (by simp) (enc_unown1 _ _)
end Go.Proofs.YtknlmbniicacmaaGreat

namespace Go.Proofs.YtknlmbniicacmaaGreat
open Go.Gl
attribute [local irreducible] z48 AWP z76 z84 z81 RetS z103

noncomputable def stepR (s : Sys) (st : State) (j m : Nat) : List Stp := if ((s.pr j).eg m).sync < 0 ∨ rdyE ((s.pr j).eg m) st j = false then [] else if ((s.pr j).eg m).sync = 0 then [⟨j, m, -1, -1⟩] else partL s st j m
noncomputable def stepL (s : Sys) (st : State) : List Stp := cat s.ps.length fun j => cat (s.pr j).es.length (stepR s st j)
theorem stepL_ok {s : Sys} {st : State} : ∀ x ∈ stepL s st, x.ok s := fun x hx => by
  obtain ⟨j, hj, hx⟩ := mem_cat hx
  obtain ⟨m, hm, hx⟩ := mem_cat hx
  unfold stepR at hx
  split at hx
  · cases hx
  split at hx
  · rw [List.mem_singleton.1 hx]
    exact ⟨⟨by show 0 ≤ (j : Int); omega, by show (j : Int) < _; omega⟩, ⟨by show 0 ≤ (m : Int); omega, by show (m : Int) < _; simpa using hm⟩, ⟨by show -1 ≤ (-1 : Int); omega, by show (-1 : Int) < _; omega⟩, fun h => absurd (show (0 : Int) ≤ -1 from h) (by decide)⟩
  · exact partL_ok hj hm x hx

set_option maxHeartbeats 1600000 in
theorem l3Steps_ok (s : Sys) (hs : s.ok) (st : State) (h : st.ok s) : CallsA Tryz.prog 221 [.agg s.cs, .agg st.cs] [] (lst 4 Stp.cs (stepL s st)) [] := by
  have h3 := hs.n3
  have hfin : stepL s st = cat s.ps.length (fun j => cat (s.pr j).es.length (stepR s st j)) := rfl
  have hR0 : ∀ j m, (((s.pr j).eg m).sync < 0 ∨ rdyE ((s.pr j).eg m) st j = false) → stepR s st j m = [] := fun _ _ h => if_pos h
  have hR1 : ∀ j m, ¬(((s.pr j).eg m).sync < 0 ∨ rdyE ((s.pr j).eg m) st j = false) → ((s.pr j).eg m).sync = 0 → stepR s st j m = [⟨j, m, -1, -1⟩] := fun _ _ h k => by unfold stepR; rw [if_neg h, if_pos k]
  have hR2 : ∀ j m, ¬(((s.pr j).eg m).sync < 0 ∨ rdyE ((s.pr j).eg m) st j = false) → ((s.pr j).eg m).sync ≠ 0 → stepR s st j m = partL s st j m := fun _ _ h k => by unfold stepR; rw [if_neg h, if_neg k]
  generalize stepL s st = FIN at *
  generalize stepR s st = R at *
  refine z14 z29 Tryz.func221 rfl rfl 64 Tryz.ntmps221 (by simp) ?_
  repeat' (((apply AWP.go ok; rfl)) <;> conv => whnf)
  all_goals skip
  refine z115 (fun x : Nat × List Stp => ([(2, .ptr 0 none 0), (3, .ptr 1 none 0), (5, .sref 2 0 x.2.length), (6, .int x.1)], [.cells 2 [s.cs], .cells 2 [st.cs], .cells 4 (x.2.map Stp.cs)])) (fun x => x.1 ≤ s.ps.length ∧ x.2.length ≤ 108 * x.1 ∧ x.2 = cat x.1 fun j => cat (s.pr j).es.length (R j)) (fun x => s.ps.length - x.1) (0, []) ⟨by omega, by simp, rfl⟩ (by refine SealW.reach [0, 1, 2] [] rfl rfl rfl rfl ?_ ?_ <;> (repeat' (first | exact LocLe.refl _ | exact F2.nil | apply F2.cons | apply ObjLe.box | ((refine z17 rfl ?_ ?_); (focus ((repeat' (exact z12)); done))) | exact True.intro | apply And.intro))) ?_
  rintro ⟨j, L⟩ ⟨hj, hLl, hL⟩
  simp only at hj hL hLl
  by_cases hjl : j < s.ps.length
  · have gj := Sys.pr_at hjl
    have hj6 := hs.ne j hjl
    repeat' ((first | (apply AWP.go ok; rfl) | ((apply z8) <;> intro _)) <;> conv => whnf)
    all_goals first | (exfalso; omega) | skip
    refine z115 (fun x : Nat × List Stp => ([(2, .ptr 0 none 0), (3, .ptr 1 none 0), (5, .sref 2 0 x.2.length), (6, .int j), (7, .int x.1)], [.cells 2 [s.cs], .cells 2 [st.cs], .cells 4 (x.2.map Stp.cs)])) (fun x => x.1 ≤ (s.pr j).es.length ∧ x.2.length ≤ 108 * j + 18 * x.1 ∧ x.2 = L ++ cat x.1 (R j)) (fun x => (s.pr j).es.length - x.1) (0, L) ⟨by omega, by simpa using hLl, by rw [cat_zero, List.append_nil]⟩ (by refine SealW.reach [0, 1, 2] [] rfl rfl rfl rfl ?_ ?_ <;> (repeat' (first | exact LocLe.refl _ | exact F2.nil | apply F2.cons | exact z20 _ | apply ObjLe.box | ((refine z17 rfl ?_ ?_); (focus ((repeat' ((exact z4 (fun _ => rfl)))); done))) | exact True.intro | apply And.intro))) ?_
    rintro ⟨m, M⟩ ⟨hm, hMl, hM⟩
    simp only at hm hM hMl
    by_cases hml : m < (s.pr j).es.length
    · have gm := Proc.eg_at hml
      have hl := l3Ready_ok s hs st h j m hjl hml
      have hP := l3Partners_ok s hs st h j m hjl hml
      have hPl := partL_len hs (st := st) (i := j) (k := m)
      have hR0m := hR0 j m
      have hR1m := hR1 j m
      have hR2m := hR2 j m
      have hcs := cat_succ m (R j)
      have hE2 := (hs.eg j m hjl hml).sync
      generalize (s.pr j).eg m = e2 at *
      generalize rdyE e2 st j = rd at *
      generalize partL s st j m = PL at *
      generalize hpj : s.pr j = pj at *
      cases rd
      all_goals
        repeat' ((first | (apply AWP.go ok; rfl) | (refine z43 (i := j) rfl gj ?_) | (refine z43 (i := m) rfl gm ?_) | (apply And.intro; first | omega | (unfold inI; omega) | ((try dsimp only); simp only [List.length_map, List.length_take, List.length_append, List.length_replicate, List.length_cons, List.length_nil]; omega) | exact z18 (fun _ => rfl) | exact ⟨rfl, z21 rfl z26⟩) | ((apply z8) <;> intro _) | (apply z10 (hl); rfl; rfl) | (apply z10 (hP); rfl; rfl)) <;> conv => whnf)
        all_goals first | (exfalso; omega) | skip
      all_goals first
        | (have hz := hR2m (by rintro (z1 | z1) <;> first | omega | exact absurd z1 (by decide)) (by omega)
           refine z49 (m + 1, M ++ PL) ⟨by omega, by simp; omega, by rw [hM, hcs, hz, List.append_assoc]⟩ (by show pj.es.length - (m + 1) < pj.es.length - m; omega) (by refine SealW.reach [0, 1, 3] [] rfl rfl rfl rfl ?_ ?_ <;> (repeat' (first | exact LocLe.refl _ | exact F2.nil | apply F2.cons | (refine z37 ?_; ((simp; done))) | apply ObjLe.box | ((refine z17 rfl ?_ ?_); (focus ((repeat' (first | exact z4 (fun _ => rfl) | apply z11 | apply z15)); done))) | (refine z88 ?_; (omega)) | exact True.intro | apply And.intro))))
        | (have hz := hR1m (by rintro (z1 | z1) <;> first | omega | exact absurd z1 (by decide)) (by omega)
           refine z49 (m + 1, M ++ [⟨j, m, -1, -1⟩]) ⟨by omega, by simp; omega, by rw [hM, hcs, hz, List.append_assoc]⟩ (by show pj.es.length - (m + 1) < pj.es.length - m; omega) (by refine SealW.reach [0, 1, 4] [] rfl rfl rfl rfl ?_ ?_ <;> (repeat' (first | exact LocLe.refl _ | exact F2.nil | apply F2.cons | (refine z37 ?_; ((simp; done))) | apply ObjLe.box | ((refine z24 rfl ?_ ?_); (focus ((repeat' (first | exact z4 (fun _ => rfl) | apply z15)); done))) | (refine z64 ?_ ?_; (focus (omega))) | exact True.intro | apply And.intro))))
        | (have hz := hR0m (by first | exact .inr rfl | exact .inl (by omega))
           refine z49 (m + 1, M) ⟨by omega, by simp; omega, by rw [hM, hcs, hz, List.append_nil]⟩ (by show pj.es.length - (m + 1) < pj.es.length - m; omega) (by refine SealW.reach [0, 1, 2] [] rfl rfl rfl rfl ?_ ?_ <;> (repeat' (first | exact LocLe.refl _ | exact F2.nil | apply F2.cons | exact z20 _ | apply ObjLe.box | ((refine z17 rfl ?_ ?_); (focus ((repeat' ((exact z4 (fun _ => rfl)))); done))) | exact True.intro | apply And.intro))))
    · repeat' ((first | (apply AWP.go ok; rfl) | (refine z43 (i := j) rfl gj ?_) | (apply And.intro; first | omega | (unfold inI; omega)) | (((with_reducible apply z13; omega)); intro _) | ((apply z8) <;> intro _)) <;> conv => whnf)
      all_goals first | (exfalso; omega) | skip
      have e : m = (s.pr j).es.length := by omega
      all_goals refine z49 (j + 1, M) ⟨by omega, by simp; omega, by rw [hM, hL, e]; exact (cat_succ j fun j => cat (s.pr j).es.length (R j)).symm⟩ (by show s.ps.length - (j + 1) < s.ps.length - j; omega) (by refine SealW.reach [0, 1, 2] [] rfl rfl rfl rfl ?_ ?_ <;> (repeat' (first | exact LocLe.refl _ | exact F2.nil | apply F2.cons | exact z20 _ | apply ObjLe.box | ((refine z17 rfl ?_ ?_); (focus ((repeat' ((exact z4 (fun _ => rfl)))); done))) | exact True.intro | apply And.intro)))
  · have e : j = s.ps.length := by omega
    have eL : L = FIN := by rw [hfin, hL, e]
    subst eL
    repeat' ((first | (apply AWP.go ok; rfl) | ((apply z8) <;> intro _)) <;> conv => whnf)
    all_goals first | (exfalso; omega) | skip
    all_goals (refine RetS.lay [] [2] rfl rfl rfl ?_; refine RetS.done ?_ ?_ <;> (repeat' (first | exact LocLe.refl _ | exact F2.nil | ((apply z27 rfl rfl rfl); (focus ((repeat ((exact z23 (fun _ => rfl) _))); done)); (focus (((simp; done)); done))))))

/-! an edge is taken -/
noncomputable def takeS (st : State) (i : Nat) (e : Edge) : State := ⟨st.a.set i e.to, if 0 ≤ e.var then st.b.set e.var.toNat (e.val.ev st.b) else st.b⟩
theorem takeS_ok {s : Sys} {st : State} (h : st.ok s) {i : Nat} {e : Edge} {n : Int} (he : e.ok n) : (takeS st i e).ok s := by
  refine ⟨by simp [takeS, h.a], ?_⟩
  unfold takeS
  dsimp only
  split
  · refine ⟨by simp [h.b.1], fun x hx => ?_⟩
    rcases List.mem_or_eq_of_mem_set hx with hx | rfl
    · exact h.b.2 x hx
    · exact Tree.ev_range h.b _ (he.val (by assumption))
  · exact h.b
theorem l3Take_ok (st : State) (e : Edge) (n : Int) (he : e.ok n) (i : Nat) (hi : i < st.a.length) (hl : st.a.length ≤ 10) (hv : ValsOk st.b) : CallsA Tryz.prog 269 [.agg [.sref 0 0 st.a.length, .sref 1 0 st.b.length], .int i, .agg e.cs] [.cells 1 (st.a.map enI), .cells 1 (st.b.map enI)] (.agg [.sref 0 0 st.a.length, .sref 1 0 st.b.length]) [.cells 1 ((takeS st i e).a.map enI), .cells 1 ((takeS st i e).b.map enI)] := by
  have hb := hv.1
  have hvar := he.var
  by_cases h0 : 0 ≤ e.var
  · have c := l1Eval_ok st.b hv e.val (he.val h0)
    rw [Tree.arg_eq] at c
    have hr := Tree.ev_range hv e.val (he.val h0)
    have e1 : takeS st i e = ⟨st.a.set i e.to, st.b.set e.var.toNat (e.val.ev st.b)⟩ := by unfold takeS; rw [if_pos h0]
    rw [e1]
    generalize e.val.ev st.b = x at *
    refine z14 z29 Tryz.func269 rfl rfl 27 Tryz.ntmps269 (by simp) ?_
    repeat' ((first | (apply AWP.go ok; rfl) | (apply z38; kernel_rfl) | (apply And.intro; omega) | (((apply z13; omega)); intro _) | ((apply z8) <;> intro _) | (((apply z7 [] [1] [] (c); (focus ((repeat' first | exact z130 | apply z105) <;> first | exact z162 rfl rfl rfl | rfl)); (focus ((repeat' exact z6) <;> fail)))); rfl; rfl; rfl; rfl; rfl; (focus ((repeat' exact z19) <;> fail)); ((refine .inr ⟨rfl, ?_⟩; repeat' first | exact True.intro | apply And.intro)))) <;> conv => whnf)
    all_goals first | (exfalso; omega) | exact h0 | (show e.var.toNat < st.b.length; omega) | skip
    all_goals (refine RetS.lay [0, 1] [] rfl rfl rfl ?_; refine RetS.done ?_ ?_ <;> (repeat' (first | exact LocLe.refl _ | exact F2.nil | apply F2.cons | ((refine z51 rfl ?_ ?_); (focus ((repeat' ((exact z4 (fun _ => rfl)))); done))) | (refine z95 (by omega) ?_))))
  · have e1 : takeS st i e = ⟨st.a.set i e.to, st.b⟩ := by unfold takeS; rw [if_neg h0]
    rw [e1]
    refine z14 z29 Tryz.func269 rfl rfl 27 Tryz.ntmps269 (by simp) ?_
    repeat' ((first | (apply AWP.go ok; rfl) | (apply And.intro; omega) | (((apply z13; omega)); intro _) | ((apply z8) <;> intro _)) <;> conv => whnf)
    all_goals first | (exfalso; omega) | skip
    all_goals (refine RetS.lay [0, 1] [] rfl rfl rfl ?_; refine RetS.done ?_ ?_ <;> (repeat' (first | exact LocLe.refl _ | exact F2.nil | apply F2.cons | exact z20 _ | ((first | refine z51 rfl ?_ ?_ | refine z17 rfl ?_ ?_); (focus ((repeat' ((exact z4 (fun _ => rfl)))); done))) | (refine z95 (by omega) ?_))))
end Go.Proofs.YtknlmbniicacmaaGreat

namespace Go.Proofs.YtknlmbniicacmaaGreat
open Go.Gl
attribute [local irreducible] z48 AWP z76 z84 z81 RetS z103

noncomputable def applyS (s : Sys) (st : State) (x : Stp) : State := if 0 ≤ x.q then takeS (takeS st x.p.toNat ((s.pr x.p.toNat).eg x.e.toNat)) x.q.toNat ((s.pr x.q.toNat).eg x.f.toNat) else takeS st x.p.toNat ((s.pr x.p.toNat).eg x.e.toNat)
theorem nat_of {a : Int} {n : Nat} (h : 0 ≤ a) (h2 : a < n) : ∃ m : Nat, a = m ∧ m < n := ⟨a.toNat, by omega, by omega⟩
theorem applyS_ok {s : Sys} (hs : s.ok) {st : State} (h : st.ok s) {x : Stp} (hx : x.ok s) : (applyS s st x).ok s := by
  have hp := hx.p
  have he := hx.e
  have hq := hx.q
  unfold applyS
  have h1 := takeS_ok (i := x.p.toNat) h (hs.eg x.p.toNat x.e.toNat (by omega) (by omega))
  split
  · rename_i hq0
    have hf := hx.f hq0
    exact takeS_ok h1 (hs.eg x.q.toNat x.f.toNat (by omega) (by omega))
  · exact h1
theorem takeS_len (st : State) (i : Nat) (e : Edge) : (takeS st i e).a.length = st.a.length ∧ (takeS st i e).b.length = st.b.length := by
  unfold takeS
  constructor
  · simp
  · dsimp only; split <;> simp

set_option maxHeartbeats 3200000 in
theorem l3Apply_ok (s : Sys) (hs : s.ok) (st : State) (h : st.ok s) (x : Stp) (hx : x.ok s) : CallsA Tryz.prog 222 [.agg s.cs, .agg st.cs, .agg x.cs] [] (.agg (applyS s st x).cs) [] := by
  have hn3 := hs.n3
  have ha := h.a
  have hb := h.b.1
  obtain ⟨p, e, q, f⟩ := x
  obtain ⟨hp, he, hq, hf⟩ := hx
  simp only at hp he hq hf
  obtain ⟨pi, rfl, hpi⟩ := nat_of hp.1 hp.2
  simp only [Int.toNat_natCast] at he
  obtain ⟨ei, rfl, hei⟩ := nat_of he.1 he.2
  have gp := Sys.pr_at hpi
  have ge := Proc.eg_at hei
  have hE := hs.eg pi ei hpi hei
  have hP6 := hs.ne pi hpi
  have c1 := l3Take_ok st ((s.pr pi).eg ei) _ hE pi (by omega) (by omega) h.b
  have h1 := takeS_ok (i := pi) h hE
  have hl1 := takeS_len st pi ((s.pr pi).eg ei)
  rw [show st.a.length = 0 + st.a.length by omega, show st.b.length = 0 + st.b.length by omega] at c1
  by_cases hq0 : 0 ≤ q
  · have hf := hf hq0
    obtain ⟨qi, rfl, hqi⟩ := nat_of hq0 hq.2
    simp only [Int.toNat_natCast] at hf
    obtain ⟨fi, rfl, hfi⟩ := nat_of hf.1 hf.2
    have gq := Sys.pr_at hqi
    have gf := Proc.eg_at hfi
    have hF := hs.eg qi fi hqi hfi
    have hQ6 := hs.ne qi hqi
    have e0 : applyS s st ⟨pi, ei, qi, fi⟩ = takeS (takeS st pi ((s.pr pi).eg ei)) qi ((s.pr qi).eg fi) := by unfold applyS; rw [if_pos hq0]; rfl
    have c2 := l3Take_ok (takeS st pi ((s.pr pi).eg ei)) ((s.pr qi).eg fi) _ hF qi (by omega) (by omega) h1.b
    have hl2 := takeS_len (takeS st pi ((s.pr pi).eg ei)) qi ((s.pr qi).eg fi)
    rw [hl1.1, hl1.2, show st.a.length = 0 + st.a.length by omega, show st.b.length = 0 + st.b.length by omega] at c2
    rw [e0]
    generalize takeS (takeS st pi ((s.pr pi).eg ei)) qi ((s.pr qi).eg fi) = s2 at *
    generalize takeS st pi ((s.pr pi).eg ei) = s1 at *
    generalize (s.pr pi).eg ei = ed at *
    generalize (s.pr qi).eg fi = fd at *
    generalize s.pr pi = pp at *
    generalize s.pr qi = qq at *
    refine z14 z29 Tryz.func222 rfl rfl 51 Tryz.ntmps222 (by simp) ?_
    repeat' ((first | (apply AWP.go ok; rfl) | (apply z38; kernel_rfl) | (refine z43 (i := pi) rfl gp ?_) | (refine z43 (i := ei) rfl ge ?_) | (refine z43 (i := qi) rfl gq ?_) | (refine z43 (i := fi) rfl gf ?_) | (apply And.intro; first | omega | (dsimp only; omega) | exact z18 (fun _ => rfl)) | ((first | (apply z7 [5, 7] [] [] (c1); rfl; (focus ((repeat' first | exact z6 | apply z5) <;> (refine z33 rfl ?_; ((exact z4 fun _ => rfl)))))) | (apply z7 [5, 7] [] [] (c2); rfl; (focus ((repeat' first | exact z6 | apply z5) <;> (refine z33 rfl ?_; ((exact z4 fun _ => rfl))))))); rfl; rfl; rfl; rfl; rfl; (focus ((repeat' first | exact z19 | apply z16) <;> (refine z34 ?_; ((exact z4 fun _ => rfl))))); (exact .inl rfl))) <;> conv => whnf)
    all_goals skip
    all_goals (refine RetS.lay [] [5, 7] rfl rfl rfl ?_; refine RetS.done ?_ ?_ <;> (repeat' (first | exact F2.nil | apply F2.cons | (refine z96 ?_; omega) | ((apply z27 rfl rfl rfl); (focus ((repeat ((exact z23 (fun _ => rfl) _))); done)); (focus (((simp; omega)); done))) | apply z42)))
  · have e0 : applyS s st ⟨pi, ei, q, f⟩ = takeS st pi ((s.pr pi).eg ei) := by unfold applyS; rw [if_neg hq0]; rfl
    rw [e0]
    generalize takeS st pi ((s.pr pi).eg ei) = s1 at *
    generalize (s.pr pi).eg ei = ed at *
    generalize s.pr pi = pp at *
    refine z14 z29 Tryz.func222 rfl rfl 51 Tryz.ntmps222 (by simp) ?_
    repeat' ((first | (apply AWP.go ok; rfl) | (apply z38; kernel_rfl) | (refine z43 (i := pi) rfl gp ?_) | (refine z43 (i := ei) rfl ge ?_) | (apply And.intro; first | omega | (dsimp only; omega) | exact z18 (fun _ => rfl)) | ((apply z8) <;> intro _) | (((apply z7 [5, 7] [] [] (c1); rfl; (focus ((repeat' first | exact z6 | apply z5) <;> (refine z33 rfl ?_; ((exact z4 fun _ => rfl))))))); rfl; rfl; rfl; rfl; rfl; (focus ((repeat' first | exact z19 | apply z16) <;> (refine z34 ?_; ((exact z4 fun _ => rfl))))); (exact .inl rfl))) <;> conv => whnf)
    all_goals first | (exfalso; apply hq0; assumption) | skip
    all_goals (refine RetS.lay [] [5, 7] rfl rfl rfl ?_; refine RetS.done ?_ ?_ <;> (repeat' (first | exact F2.nil | apply F2.cons | (refine z96 ?_; omega) | ((apply z27 rfl rfl rfl); (focus ((repeat ((exact z23 (fun _ => rfl) _))); done)); (focus (((simp; omega)); done))) | apply z42)))
end Go.Proofs.YtknlmbniicacmaaGreat

namespace Go.Proofs.YtknlmbniicacmaaGreat
open Go.Gl
attribute [local irreducible] z48 AWP z76 z84 z81

def State.co (s : State) : List AC := [.own 1 (s.a.map enI), .own 1 (s.b.map enI)]

end Go.Proofs.YtknlmbniicacmaaGreat

namespace Go.Proofs.YtknlmbniicacmaaGreat
open Go.Gl
attribute [local irreducible] z48 AWP z76 z84 z81

end Go.Proofs.YtknlmbniicacmaaGreat

namespace Go.Proofs.YtknlmbniicacmaaGreat
open Go.Gl
section
attribute [local irreducible] z48
theorem l2Ints_ok (a b : List Int) (ha : a.length ≤ maxLen) (hb : b.length ≤ maxLen) : CallsA Tryz.prog 227 [lst 1 enI a, lst 1 enI b] [] (.bool (decide (a = b))) [] := by
  unfold maxLen at ha hb
  refine z22 z29 Tryz.func227 rfl rfl 26 Tryz.ntmps227 (by simp) ?_
  repeat (refine AWP.go ok _ _ _ _ _ rfl ?_)
  refine z30 (fun h => ?_) (fun h => ?_)
  · repeat (refine AWP.go ok _ _ _ _ _ rfl ?_)
    have hne : a ≠ b := by rintro rfl; exact h rfl
    rw [decide_eq_false hne]
    exact ⟨[], by decide, rfl, rfl, ACle.of_eq rfl, trivial⟩
  · have hl : a.length = b.length := by omega
    repeat (refine AWP.go ok _ _ _ _ _ rfl ?_)
    refine awp_loop (fun k : Nat => ([(0, lst 1 enI a), (1, lst 1 enI b), (5, .int k)], [])) (fun k => k ≤ a.length ∧ a.take k = b.take k) (fun k => a.length - k) 0 (by simp)
      ⟨[], rfl, by decide, rfl, ⟨⟨rfl, rfl⟩, ⟨rfl, rfl⟩, ⟨rfl, rfl⟩, trivial⟩, trivial⟩ ?_
    intro k hk
    repeat (refine AWP.go ok _ _ _ _ _ rfl ?_)
    refine z8 (fun h => ?_) (fun h => ?_)
    · have hka : k < a.length := by omega
      repeat (first | refine AWP.go ok _ _ _ _ _ rfl ?_ | refine And.intro (by omega) ?_)
      refine ⟨_, map_get _ _ _ (by omega), ?_⟩
      repeat ((refine And.intro (by omega) ?_))
      refine ⟨_, map_get _ _ _ (by omega), ?_⟩
      repeat (first | refine AWP.go ok _ _ _ _ _ rfl ?_ | refine z38 (by kernel_rfl) ?_)
      refine z30 (fun h => ?_) (fun h => ?_)
      · repeat (refine AWP.go ok _ _ _ _ _ rfl ?_)
        have hne : a ≠ b := by rintro rfl; exact h rfl
        rw [decide_eq_false hne]
        exact ⟨[], by decide, rfl, rfl, ACle.of_eq rfl, trivial⟩
      · repeat (first | refine AWP.go ok _ _ _ _ _ rfl ?_ | refine And.intro (by first | omega | (unfold inI; omega)) ?_)
        refine ⟨k + 1, [], ⟨by omega, ?_⟩, by omega, rfl, by decide, rfl, ⟨⟨rfl, rfl⟩, ⟨rfl, rfl⟩, ⟨rfl, rfl⟩, trivial⟩, trivial⟩
        have h' : a[k] = b[k] := h
        rw [List.take_succ_eq_append_getElem hka, List.take_succ_eq_append_getElem (by omega), hk.2, h']
    · repeat (refine AWP.go ok _ _ _ _ _ rfl ?_)
      have he : a = b := by
        have := hk.2
        rwa [List.take_of_length_le (by omega), List.take_of_length_le (by omega)] at this
      rw [decide_eq_true he]
      exact ⟨[], by decide, rfl, rfl, ACle.of_eq rfl, trivial⟩
end
attribute [local irreducible] z48 AWP z76 z84 z81

end Go.Proofs.YtknlmbniicacmaaGreat

namespace Go.Proofs.YtknlmbniicacmaaGreat
open Go.Gl
attribute [local irreducible] z48 AWP z76 z84 z81 RetS z103

theorem stateSame_ok (a b : State) (ha : a.sm) (hb : b.sm) : CallsA Tryz.prog 270 [.agg a.cs, .agg b.cs] [] (.bool (decide (a = b))) [] := by
  have h1 := ha.a
  have h2 := ha.b
  have h3 := hb.a
  have h4 := hb.b
  have c1 := l2Ints_ok a.a b.a (by unfold maxLen; omega) (by unfold maxLen; omega)
  have c2 := l2Ints_ok a.b b.b (by unfold maxLen; omega) (by unfold maxLen; omega)
  obtain ⟨a1, a2⟩ := a
  obtain ⟨b1, b2⟩ := b
  simp only at *
  have e : decide ((⟨a1, a2⟩ : State) = ⟨b1, b2⟩) = (decide (a1 = b1) && decide (a2 = b2)) := by
    by_cases h : a1 = b1 <;> by_cases k : a2 = b2 <;> simp [h, k]
  rw [e]
  generalize decide (a1 = b1) = p at *
  generalize decide (a2 = b2) = q at *
  refine z22 z29 Tryz.func270 rfl rfl 17 Tryz.ntmps270 (by simp) ?_
  cases p
  all_goals
    repeat' ((first | (apply AWP.go ok; rfl) | (apply z10 (c1); rfl; rfl) | (apply z10 (c2); rfl; rfl)) <;> conv => whnf)
    all_goals exact z28 rfl rfl

def findZ (t : State) : List State → Int → Int
  | [], _ => -1
  | x :: r, k => if x = t then k else findZ t r (k + 1)
theorem findZ_range (t : State) : ∀ (l : List State) (k : Int), 0 ≤ k → -1 ≤ findZ t l k ∧ findZ t l k < k + l.length := by
  intro l
  induction l with
  | nil => intro k h; simp only [findZ, List.length_nil]; omega
  | cons x l ih =>
    intro k h
    simp only [findZ, List.length_cons]
    split
    · omega
    · have := ih (k + 1) (by omega); omega
theorem findZ_cons (t : State) (l : List State) (k : Nat) (h : k < l.length) : findZ t (l.drop k) k = if l[k] = t then (k : Int) else findZ t (l.drop (k + 1)) ((k + 1 : Nat) : Int) := by
  rw [List.drop_eq_getElem_cons h, findZ]; rfl
theorem l4Find_ok (l : List State) (t : State) (hl : l.length ≤ 1000) (hs : ∀ s ∈ l, s.sm) (ht : t.sm) : CallsA Tryz.prog 223 [lst 2 State.cs l, .agg t.cs] [] (.int (findZ t l 0)) [] := by
  refine z22 z29 Tryz.func223 rfl rfl 19 Tryz.ntmps223 (by simp) ?_
  repeat' (((apply AWP.go ok; rfl)) <;> conv => whnf)
  refine z120 (fun k : Nat => ([(0, lst 2 State.cs l), (3, .ptr 0 none 0), (5, .int k)], [.cells 2 [t.cs]])) (fun k => k ≤ l.length ∧ findZ t l 0 = findZ t (l.drop k) k) (fun k => l.length - k) 0 ⟨by omega, rfl⟩ ⟨[0], rfl, by decide, rfl, by repeat' (first | exact True.intro | exact ⟨rfl, rfl⟩ | apply And.intro), by repeat' (first | exact True.intro | exact z35 rfl rfl | apply And.intro)⟩ ?_
  intro k hk
  by_cases hkl : k < l.length
  · have c := stateSame_ok l[k] t (hs _ (List.getElem_mem _)) ht
    have e := findZ_cons t l k hkl
    rw [e] at hk
    have g0 : (l.map State.cs)[k]? = some (State.cs l[k]) := by rw [List.getElem?_map, List.getElem?_eq_getElem hkl]; rfl
    by_cases hx : l[k] = t
    · rw [if_pos hx] at hk
      rw [decide_eq_true hx] at c
      generalize l[k] = x at *
      repeat' ((first | (apply AWP.go ok; rfl) | (apply z38; kernel_rfl) | (refine z43 (i := k) rfl g0 ?_) | (apply And.intro; omega) | ((apply z8) <;> intro _) | (apply z10 (c); rfl; rfl)) <;> conv => whnf)
      all_goals first | (exfalso; omega) | exact ret_int rfl hk.2
    · rw [if_neg hx] at hk
      rw [decide_eq_false hx] at c
      generalize l[k] = x at *
      repeat' ((first | (apply AWP.go ok; rfl) | (apply z38; kernel_rfl) | (refine z43 (i := k) rfl g0 ?_) | (apply And.intro; first | omega | (unfold inI; omega)) | ((apply z8) <;> intro _) | (apply z10 (c); rfl; rfl)) <;> conv => whnf)
      all_goals first | (exfalso; omega) | skip
      exact z116 (k + 1) [0] ⟨by omega, hk.2⟩ (by omega) ⟨rfl, by decide, rfl, by repeat' (first | exact True.intro | exact ⟨rfl, rfl⟩ | apply And.intro), by repeat' (first | exact True.intro | exact z35 rfl rfl | apply And.intro)⟩
  · have e : l.drop k = [] := List.drop_eq_nil_of_le (by omega)
    rw [e] at hk
    repeat' ((first | (apply AWP.go ok; rfl) | (apply And.intro; omega) | (((with_reducible apply z13; omega)); intro _) | ((apply z8) <;> intro _)) <;> conv => whnf)
    all_goals first | (exfalso; omega) | exact ret_int rfl hk.2
end Go.Proofs.YtknlmbniicacmaaGreat

namespace Go.Proofs.YtknlmbniicacmaaGreat
open Go.Gl
attribute [local irreducible] z48 AWP z76 z84 z81 RetS z103

/-! the graph of a system -/
open Classical in
noncomputable def inn (s : Sys) (st0 : State) : List Stp → List State → List Int → Option (List State × List Int)
  | [], S, N => some (S, N)
  | x :: r, S, N =>
    if findZ (applyS s st0 x) S 0 < 0 then
      (if 60 ≤ (S.length : Int) then none else inn s st0 r (S ++ [applyS s st0 x]) (if (S.length : Int) ∈ N then N else N ++ [(S.length : Int)]))
    else
      (if 60 ≤ findZ (applyS s st0 x) S 0 then none else inn s st0 r S (if findZ (applyS s st0 x) S 0 ∈ N then N else N ++ [findZ (applyS s st0 x) S 0]))
open Classical in
noncomputable def rowOf (L : List Stp) (N : List Int) (i : Nat) : List Int := if L = [] then N ++ [(i : Int)] else N
noncomputable def grow (s : Sys) : Nat → List State → List (List Int) → Nat → Option Graph
  | 0, _, _, _ => none
  | f + 1, S, G, i => match S[i]? with
    | none => some ⟨S, G⟩
    | some st0 => match inn s st0 (stepL s st0) S [] with
      | none => none
      | some (S', N) => grow s f S' (G ++ [rowOf (stepL s st0) N i]) (i + 1)
theorem State.ok.sm {s : Sys} (hs : s.ok) {st : State} (h : st.ok s) : st.sm := ⟨by have := h.a; have := hs.n3; omega, by have := h.b.1; omega⟩
theorem stepL_len {s : Sys} (hs : s.ok) {st : State} : (stepL s st).length ≤ 324 := by
  have h3 := hs.n3
  have := cat_len (n := s.ps.length) (c := 108) (f := fun j => cat (s.pr j).es.length (stepR s st j)) (fun j hj => by
    have h6 := hs.ne j hj
    have := cat_len (n := (s.pr j).es.length) (c := 18) (f := stepR s st j) (fun m _ => by
      unfold stepR
      split
      · simp
      split
      · simp
      · exact partL_len hs)
    omega)
  unfold stepL
  omega
structure GInv (s : Sys) (S : List State) (G : List (List Int)) (i : Nat) : Prop where
  le : i ≤ S.length
  n : S.length ≤ 60
  one : 1 ≤ S.length
  g : G.length = i
  st : ∀ t ∈ S, t.ok s
  row : ∀ r ∈ G, r.length ≤ 400
theorem inn_inv {s : Sys} (hs : s.ok) {st0 : State} (h0 : st0.ok s) : ∀ (L : List Stp), (∀ x ∈ L, x.ok s) → ∀ (S : List State) (N : List Int) (S' : List State) (N' : List Int), S.length ≤ 60 → (∀ t ∈ S, t.ok s) → inn s st0 L S N = some (S', N') → S'.length ≤ 60 ∧ S.length ≤ S'.length ∧ (∀ t ∈ S', t.ok s) ∧ N'.length ≤ N.length + L.length ∧ ∀ i, i < S.length → S'[i]? = S[i]? := by
  intro L
  induction L with
  | nil =>
    intro _ S N S' N' h1 h2 h3
    simp only [inn, Option.some.injEq, Prod.mk.injEq] at h3
    obtain ⟨rfl, rfl⟩ := h3
    exact ⟨h1, Nat.le_refl _, h2, by simp, fun _ _ => rfl⟩
  | cons x L ih =>
    intro hx S N S' N' h1 h2 h3
    have hxo := applyS_ok hs h0 (hx x (by simp))
    have ih := ih fun y hy => hx y (by simp [hy])
    simp only [inn] at h3
    split at h3
    · split at h3
      · cases h3
      · obtain ⟨a1, a2, a3, a4, a5⟩ := ih _ _ S' N' (by simp; omega) (fun t ht => by
          rcases List.mem_append.1 ht with h | h
          · exact h2 t h
          · rw [List.mem_singleton.1 h]; exact hxo) h3
        refine ⟨a1, by simp at a2; omega, a3, ?_, fun i hi => by rw [a5 i (by simp; omega), List.getElem?_append_left hi]⟩
        simp only [List.length_cons]
        split at a4 <;> (try simp at a4) <;> omega
    · split at h3
      · cases h3
      · obtain ⟨a1, a2, a3, a4, a5⟩ := ih _ _ S' N' h1 h2 h3
        refine ⟨a1, a2, a3, ?_, a5⟩
        simp only [List.length_cons]
        split at a4 <;> (try simp at a4) <;> omega
theorem grow_inv {s : Sys} (hs : s.ok) : ∀ (f : Nat) (S : List State) (G : List (List Int)) (i : Nat) (g : Graph), GInv s S G i → grow s f S G i = some g → GInv s g.st g.nx g.st.length := by
  intro f
  induction f with
  | zero => intro S G i g _ h; simp [grow] at h
  | succ f ih =>
    intro S G i g hI h
    simp only [grow] at h
    split at h
    · rename_i hn
      simp only [Option.some.injEq] at h
      subst h
      have : S.length ≤ i := List.getElem?_eq_none_iff.1 hn
      have e : i = S.length := by have := hI.le; omega
      subst e
      exact hI
    · rename_i st0 hst
      have hil := (List.getElem?_eq_some_iff.1 hst).1
      have h0 := hI.st st0 (List.mem_of_getElem? hst)
      split at h
      · cases h
      · rename_i S' N hin
        obtain ⟨a1, a2, a3, a4, a5⟩ := inn_inv hs h0 _ (fun x hx => stepL_ok x hx) _ _ _ _ hI.n hI.st hin
        have hl := stepL_len hs (st := st0)
        refine ih _ _ _ _ ⟨by omega, a1, by have := hI.one; omega, by simp [hI.g], a3, fun r hr => ?_⟩ h
        rcases List.mem_append.1 hr with h | h
        · exact hI.row r h
        · rw [List.mem_singleton.1 h]
          unfold rowOf
          simp only [List.length_nil] at a4
          split <;> (try simp) <;> omega
end Go.Proofs.YtknlmbniicacmaaGreat

namespace Go.Proofs.YtknlmbniicacmaaGreat
open Go.Gl
attribute [local irreducible] z48 AWP z76 z84 z81 RetS z103

noncomputable def buildB (s : Sys) : Option Graph := if sysB s = true then grow s 61 [⟨List.replicate s.ps.length 0, s.init⟩] [] 0 else none
theorem zeroG_le {q : Bool} : LocLe (.tup [.agg [.nils, .nils], .bool q]) (.tup [.agg (⟨[], []⟩ : Graph).cs, .bool q]) := z85 (.cons (z42 (.cons z31 (.cons z31 .nil))) (.cons (LocLe.refl _) .nil))
theorem bor_stt {objs : Nat → AObj} {π Bn : List Nat} {o : Nat} {l : List State} (ho : objs o = .cells 2 (l.map State.cs)) (h1 : idx π o = none) (h2 : inB Bn o = true) : bor objs π Bn (.sref o 0 l.length) = lst 2 State.cs l :=
  bor_list ho h1 h2 (by simp) (z23 (fun _ => rfl) _)

set_option maxHeartbeats 6400000 in
theorem buildGraph_ok (s : Sys) (hsm : s.sm) : CallsA Tryz.prog 168 [.agg s.cs] [] (.tup [.agg ((buildB s).getD ⟨[], []⟩).cs, .bool (buildB s).isSome]) [] := by
  have c0 := initState_ok s hsm
  by_cases hv : sysB s = true
  · have hs := Sys.ok_of hv
    have hn3 := hs.n3
    have eb : buildB s = grow s 61 [⟨List.replicate s.ps.length 0, s.init⟩] [] 0 := by unfold buildB; rw [if_pos hv]
    rw [if_pos hv, hv] at c0
    have hI0 : GInv s [⟨List.replicate s.ps.length 0, s.init⟩] [] 0 := ⟨by simp, by simp, by simp, rfl, fun t ht => by
      rw [List.mem_singleton.1 ht]
      exact ⟨by simp, hs.init⟩, by simp⟩
    rw [eb]
    generalize (⟨List.replicate s.ps.length 0, s.init⟩ : State) = st1 at *
    generalize hR : grow s 61 [st1] [] 0 = R at *
    refine z14 z29 Tryz.func168 rfl rfl 96 Tryz.ntmps168 (by simp) ?_
    repeat' ((first | (apply AWP.go ok; rfl) | (apply z10 (c0); rfl; rfl)) <;> conv => whnf)
    all_goals skip
    refine AWP.reach (Reach.empty 1 rfl) ?_
    refine z115 (fun x : Nat × List State × List (List Int) => ([(1, .ptr 0 none 0), (2, .ptr 1 none 0), (6, .ptr 2 none 0), (7, .int x.1)], [.cells 2 [s.cs], .cells 2 [[.nils, .nils]], .cells 2 [[.sref 3 0 x.2.1.length, .sref 4 0 x.2.2.length]], .cells 2 (x.2.1.map State.cs), .cells 1 (x.2.2.map encL)])) (fun x => GInv s x.2.1 x.2.2 x.1 ∧ grow s (61 - x.1) x.2.1 x.2.2 x.1 = R) (fun x => 61 - x.1) (0, [st1], []) ⟨hI0, hR⟩ (by refine SealW.reach [0, 1, 4, 3, 5] [] rfl rfl rfl rfl ?_ ?_ <;> (repeat' (first | exact LocLe.refl _ | exact z40 | exact F2.nil | apply F2.cons | apply ObjLe.box | ((refine z17 rfl ?_ ?_); (focus ((repeat' (exact z12)); done))) | exact True.intro | apply And.intro))) ?_
    rintro ⟨i, S, G⟩ ⟨hI, hg⟩
    simp only at hI hg
    have hS60 := hI.n
    have hGi := hI.g
    have hile := hI.le
    by_cases hil : i < S.length
    · obtain ⟨st0, hst⟩ : ∃ st0, S[i]? = some st0 := ⟨S[i], List.getElem?_eq_getElem hil⟩
      have h0 := hI.st st0 (List.mem_of_getElem? hst)
      rw [show 61 - i = (60 - i) + 1 by omega, grow, hst] at hg
      dsimp only at hg
      have cS := l3Steps_ok s hs st0 h0
      have hLl := stepL_len hs (st := st0)
      have hLo : ∀ x ∈ stepL s st0, x.ok s := fun x hx => stepL_ok x hx
      have gS : (S.map State.cs)[i]? = some (State.cs st0) := by rw [List.getElem?_map, hst]; rfl
      generalize stepL s st0 = LST at *
      generalize hRIN : inn s st0 LST S [] = RIN at *
      repeat' ((first | (apply AWP.go ok; rfl) | (apply z38; kernel_rfl) | (refine z43 (i := i) rfl gS ?_) | (apply And.intro; omega) | ((apply z8) <;> intro _) | (apply z10 (cS); rfl; rfl)) <;> conv => whnf)
      all_goals first | (exfalso; dsimp only at *; omega) | skip
      refine z115 (fun x : Nat × List State × List Int => ([(1, .ptr 0 none 0), (2, .ptr 1 none 0), (6, .ptr 2 none 0), (7, .int i), (8, lst 4 Stp.cs LST), (9, .sref 5 0 x.2.2.length), (10, .int x.1)], [.cells 2 [s.cs], .cells 2 [[.nils, .nils]], .cells 2 [[.sref 3 0 x.2.1.length, .sref 4 0 G.length]], .cells 2 (x.2.1.map State.cs), .cells 1 (G.map encL), .cells 1 (x.2.2.map enI)])) (fun x => x.1 ≤ LST.length ∧ x.2.1.length ≤ 60 ∧ (∀ t ∈ x.2.1, t.ok s) ∧ x.2.1[i]? = some st0 ∧ x.2.2.length ≤ x.1 ∧ inn s st0 (LST.drop x.1) x.2.1 x.2.2 = RIN) (fun x => LST.length - x.1) (0, S, []) ⟨by simp, hS60, hI.st, hst, by simp, hRIN⟩ (by refine SealW.reach [0, 1, 2, 3, 4, 5] [] rfl rfl rfl rfl ?_ ?_ <;> (repeat' (first | exact LocLe.refl _ | exact F2.nil | apply F2.cons | exact z20 _ | apply ObjLe.box | ((refine z17 rfl ?_ ?_); (focus ((repeat' (first | exact z12 | exact z4 (fun _ => rfl))); done))) | exact True.intro | apply And.intro))) ?_
      rintro ⟨k, S', N⟩ ⟨hk, hS', hSo, hSi, hN, hin⟩
      simp only at hk hS' hSo hSi hN hin
      by_cases hkl : k < LST.length
      · rw [List.drop_eq_getElem_cons hkl, inn] at hin
        have hx := hLo LST[k] (List.getElem_mem _)
        have g1 : (LST.map Stp.cs)[k]? = some (Stp.cs LST[k]) := by rw [List.getElem?_map, List.getElem?_eq_getElem hkl]; rfl
        have c83 := l3Apply_ok s hs st0 h0 LST[k] hx
        have hto := applyS_ok hs h0 hx
        have g0 : (S'.map State.cs)[i]? = some (State.cs st0) := by rw [List.getElem?_map, hSi]; rfl
        have hiS : i < S'.length := (List.getElem?_eq_some_iff.1 hSi).1
        generalize applyS s st0 LST[k] = to at *
        have c84 := l4Find_ok S' to (by omega) (fun t ht => (hSo t ht).sm hs) (hto.sm hs)
        have hfr := findZ_range to S' 0 (by omega)
        generalize findZ to S' 0 = n at *
        generalize LST[k] = x at *
        have cN := fun v => l4In_ok N (by unfold maxLen; omega) v
        by_cases hn : n < 0
        · rw [if_pos hn] at hin
          by_cases h60 : 60 ≤ (S'.length : Int)
          · rw [if_pos h60] at hin
            subst hin
            dsimp only at hg
            subst hg
            repeat' ((first | (apply AWP.go ok; rfl) | (apply z38; kernel_rfl) | (refine z43 (i := i) rfl g0 ?_) | (refine z43 (i := k) rfl g1 ?_) | (apply And.intro; first | omega | (dsimp only; omega) | ((try dsimp only); simp only [List.length_map, List.length_take, List.length_append, List.length_replicate, List.length_cons, List.length_nil]; omega) | exact ⟨rfl, z21 rfl z26⟩) | ((apply z8) <;> intro _) | (apply z10 (c83); rfl; rfl) | (((apply z7 [] [3] [] (c84); (focus (exact z105 (bor_stt rfl rfl rfl) (z105 rfl z130))); (focus ((repeat' exact z6) <;> fail)))); rfl; rfl; rfl; rfl; rfl; (focus ((repeat' exact z19) <;> fail)); ((refine .inr ⟨rfl, ?_⟩; repeat' exact True.intro)))) <;> conv => whnf)
            all_goals first | (exfalso; omega) | (exfalso; dsimp only at *; omega) | skip
            all_goals refine RetS.lay [] [] rfl rfl rfl ?_
            all_goals exact RetS.done zeroG_le .nil
          · rw [if_neg h60] at hin
            have cM := cN S'.length
            by_cases hm : (S'.length : Int) ∈ N
            · rw [if_pos hm] at hin
              rw [decide_eq_true hm] at cM
              repeat' ((first | (apply AWP.go ok; rfl) | (apply z38; kernel_rfl) | (refine z43 (i := i) rfl g0 ?_) | (refine z43 (i := k) rfl g1 ?_) | (apply And.intro; first | omega | (unfold inI; omega) | (dsimp only; omega) | ((try dsimp only); simp only [List.length_map, List.length_take, List.length_append, List.length_replicate, List.length_cons, List.length_nil]; omega) | exact ⟨rfl, z21 rfl z26⟩) | ((apply z8) <;> intro _) | (apply z10 (c83); rfl; rfl) | ((first | (apply z7 [] [3] [] (c84); (focus (exact z105 (bor_stt rfl rfl rfl) (z105 rfl z130))); (focus ((repeat' exact z6) <;> fail))) | (apply z7 [] [5] [] (cM); (focus ((repeat' first | exact z130 | apply z105) <;> first | exact z162 rfl rfl rfl | rfl)); (focus ((repeat' exact z6) <;> fail)))); rfl; rfl; rfl; rfl; rfl; (focus ((repeat' exact z19) <;> fail)); ((refine .inr ⟨rfl, ?_⟩; repeat' exact True.intro)))) <;> conv => whnf)
              all_goals first | (exfalso; omega) | (exfalso; contradiction) | skip
              all_goals refine z49 (k + 1, S' ++ [to], N) ⟨by omega, by simp; omega, fun t ht => by rcases List.mem_append.1 ht with h | h; exact hSo t h; rw [List.mem_singleton.1 h]; exact hto, by rw [← hSi]; exact List.getElem?_append_left hiS, by show N.length ≤ k + 1; omega, hin⟩ (by show LST.length - (k + 1) < LST.length - k; omega) (by refine SealW.reach [0, 1, 2, 8, 4, 5] [] rfl rfl rfl rfl ?_ ?_ <;> (repeat' (first | exact LocLe.refl _ | exact F2.nil | apply F2.cons | exact z20 _ | (refine z37 ?_; ((simp; done))) | apply ObjLe.box | ((first | refine z24 rfl ?_ ?_ | refine z17 rfl ?_ ?_); (focus ((repeat' (first | exact z4 (fun _ => rfl) | apply z15)); done))) | (refine z64 ?_ ?_; (focus (omega))) | exact True.intro | apply And.intro)))
            · rw [if_neg hm] at hin
              rw [decide_eq_false hm] at cM
              repeat' ((first | (apply AWP.go ok; rfl) | (apply z38; kernel_rfl) | (refine z43 (i := i) rfl g0 ?_) | (refine z43 (i := k) rfl g1 ?_) | (apply And.intro; first | omega | (unfold inI; omega) | (dsimp only; omega) | ((try dsimp only); simp only [List.length_map, List.length_take, List.length_append, List.length_replicate, List.length_cons, List.length_nil]; omega) | exact ⟨rfl, z21 rfl z26⟩) | ((apply z8) <;> intro _) | (apply z10 (c83); rfl; rfl) | ((first | (apply z7 [] [3] [] (c84); (focus (exact z105 (bor_stt rfl rfl rfl) (z105 rfl z130))); (focus ((repeat' exact z6) <;> fail))) | (apply z7 [] [5] [] (cM); (focus ((repeat' first | exact z130 | apply z105) <;> first | exact z162 rfl rfl rfl | rfl)); (focus ((repeat' exact z6) <;> fail)))); rfl; rfl; rfl; rfl; rfl; (focus ((repeat' exact z19) <;> fail)); ((refine .inr ⟨rfl, ?_⟩; repeat' exact True.intro)))) <;> conv => whnf)
              all_goals first | (exfalso; omega) | (exfalso; contradiction) | skip
              all_goals refine z49 (k + 1, S' ++ [to], N ++ [(S'.length : Int)]) ⟨by omega, by simp; omega, fun t ht => by rcases List.mem_append.1 ht with h | h; exact hSo t h; rw [List.mem_singleton.1 h]; exact hto, by rw [← hSi]; exact List.getElem?_append_left hiS, by simp; omega, hin⟩ (by show LST.length - (k + 1) < LST.length - k; omega) (by refine SealW.reach [0, 1, 2, 8, 4, 10] [] rfl rfl rfl rfl ?_ ?_ <;> (repeat' (first | exact LocLe.refl _ | exact F2.nil | apply F2.cons | exact z20 _ | (refine z37 ?_; ((simp; done))) | apply ObjLe.box | ((first | refine z24 rfl ?_ ?_ | refine z17 rfl ?_ ?_); (focus ((repeat' (first | exact z4 (fun _ => rfl) | apply z15)); done))) | (refine z64 ?_ ?_; (focus (omega))) | exact True.intro | apply And.intro)))
        · rw [if_neg hn] at hin
          by_cases h60 : 60 ≤ n
          · rw [if_pos h60] at hin
            subst hin
            dsimp only at hg
            subst hg
            repeat' ((first | (apply AWP.go ok; rfl) | (apply z38; kernel_rfl) | (refine z43 (i := i) rfl g0 ?_) | (refine z43 (i := k) rfl g1 ?_) | (apply And.intro; omega) | ((apply z8) <;> intro _) | (apply z10 (c83); rfl; rfl) | (((apply z7 [] [3] [] (c84); (focus (exact z105 (bor_stt rfl rfl rfl) (z105 rfl z130))); (focus ((repeat' exact z6) <;> fail)))); rfl; rfl; rfl; rfl; rfl; (focus ((repeat' exact z19) <;> fail)); ((refine .inr ⟨rfl, ?_⟩; repeat' exact True.intro)))) <;> conv => whnf)
            all_goals (exfalso; omega)
            all_goals refine RetS.lay [] [] rfl rfl rfl ?_
            all_goals exact RetS.done zeroG_le .nil
          · rw [if_neg h60] at hin
            have cM := cN n
            by_cases hm : n ∈ N
            · rw [if_pos hm] at hin
              rw [decide_eq_true hm] at cM
              repeat' ((first | (apply AWP.go ok; rfl) | (apply z38; kernel_rfl) | (refine z43 (i := i) rfl g0 ?_) | (refine z43 (i := k) rfl g1 ?_) | (apply And.intro; first | omega | (unfold inI; omega) | (dsimp only; omega)) | ((apply z8) <;> intro _) | (apply z10 (c83); rfl; rfl) | ((first | (apply z7 [] [3] [] (c84); (focus (exact z105 (bor_stt rfl rfl rfl) (z105 rfl z130))); (focus ((repeat' exact z6) <;> fail))) | (apply z7 [] [5] [] (cM); (focus ((repeat' first | exact z130 | apply z105) <;> first | exact z162 rfl rfl rfl | rfl)); (focus ((repeat' exact z6) <;> fail)))); rfl; rfl; rfl; rfl; rfl; (focus ((repeat' exact z19) <;> fail)); ((refine .inr ⟨rfl, ?_⟩; repeat' exact True.intro)))) <;> conv => whnf)
              all_goals first | (exfalso; omega) | skip
              all_goals refine z49 (k + 1, S', N) ⟨by omega, hS', hSo, hSi, by show N.length ≤ k + 1; omega, hin⟩ (by show LST.length - (k + 1) < LST.length - k; omega) (by refine SealW.reach [0, 1, 2, 3, 4, 5] [] rfl rfl rfl rfl ?_ ?_ <;> (repeat' (first | exact LocLe.refl _ | exact F2.nil | apply F2.cons | exact z20 _ | apply ObjLe.box | ((refine z17 rfl ?_ ?_); (focus ((repeat' ((exact z4 (fun _ => rfl)))); done))) | exact True.intro | apply And.intro)))
            · rw [if_neg hm] at hin
              rw [decide_eq_false hm] at cM
              repeat' ((first | (apply AWP.go ok; rfl) | (apply z38; kernel_rfl) | (refine z43 (i := i) rfl g0 ?_) | (refine z43 (i := k) rfl g1 ?_) | (apply And.intro; first | omega | (unfold inI; omega) | (dsimp only; omega) | ((try dsimp only); simp only [List.length_map, List.length_take, List.length_append, List.length_replicate, List.length_cons, List.length_nil]; omega) | exact ⟨rfl, z21 rfl z26⟩) | ((apply z8) <;> intro _) | (apply z10 (c83); rfl; rfl) | ((first | (apply z7 [] [3] [] (c84); (focus (exact z105 (bor_stt rfl rfl rfl) (z105 rfl z130))); (focus ((repeat' exact z6) <;> fail))) | (apply z7 [] [5] [] (cM); (focus ((repeat' first | exact z130 | apply z105) <;> first | exact z162 rfl rfl rfl | rfl)); (focus ((repeat' exact z6) <;> fail)))); rfl; rfl; rfl; rfl; rfl; (focus ((repeat' exact z19) <;> fail)); ((refine .inr ⟨rfl, ?_⟩; repeat' exact True.intro)))) <;> conv => whnf)
              all_goals first | (exfalso; omega) | skip
              all_goals refine z49 (k + 1, S', N ++ [n]) ⟨by omega, hS', hSo, hSi, by simp; omega, hin⟩ (by show LST.length - (k + 1) < LST.length - k; omega) (by refine SealW.reach [0, 1, 2, 3, 4, 8] [] rfl rfl rfl rfl ?_ ?_ <;> (repeat' (first | exact LocLe.refl _ | exact F2.nil | apply F2.cons | exact z20 _ | (refine z37 ?_; ((simp; done))) | apply ObjLe.box | ((first | refine z24 rfl ?_ ?_ | refine z17 rfl ?_ ?_); (focus ((repeat' (first | exact z4 (fun _ => rfl) | apply z15)); done))) | (refine z64 ?_ ?_; (focus (omega))) | exact True.intro | apply And.intro)))
      · rw [List.drop_eq_nil_of_le (by omega), inn] at hin
        subst hin
        dsimp only at hg
        have hiS : i < S'.length := (List.getElem?_eq_some_iff.1 hSi).1
        have hnext : GInv s S' (G ++ [rowOf LST N i]) (i + 1) := ⟨by omega, hS', by omega, by simp [hGi], hSo, fun r hr => by
          rcases List.mem_append.1 hr with h | h
          · exact hI.row r h
          · rw [List.mem_singleton.1 h]
            unfold rowOf
            split <;> (try simp) <;> omega⟩
        rw [show 60 - i = 61 - (i + 1) by omega] at hg
        by_cases hz : LST = []
        · have er : rowOf LST N i = N ++ [(i : Int)] := by unfold rowOf; rw [if_pos hz]
          have hz0 : LST.length = 0 := by rw [hz]; rfl
          rw [er] at hg hnext
          repeat' ((first | (apply AWP.go ok; rfl) | (apply And.intro; first | omega | (unfold inI; omega) | (dsimp only; omega) | ((try dsimp only); simp only [List.length_map, List.length_take, List.length_append, List.length_replicate, List.length_cons, List.length_nil]; omega) | exact ⟨rfl, z21 rfl z26⟩) | ((first | (with_reducible apply z13; omega) | (apply z13; omega)); intro _) | ((apply z8) <;> intro _)) <;> conv => whnf)
          all_goals first | (exfalso; omega) | skip
          all_goals refine z49 (i + 1, S', G ++ [N ++ [(i : Int)]]) ⟨hnext, hg⟩ (by show 61 - (i + 1) < 61 - i; omega) (by refine SealW.reach [0, 1, 2, 3, 9] [7] rfl rfl rfl rfl ?_ ?_ <;> (repeat' (first | exact LocLe.refl _ | exact F2.nil | apply F2.cons | exact z20 _ | (refine z37 ?_; ((simp; done))) | apply ObjLe.box | ((first | refine z24 rfl ?_ ?_ | refine z17 rfl ?_ ?_); (focus ((repeat' (first | exact z4 (fun _ => rfl) | apply z15)); done))) | (refine z64 ?_ ?_; (focus (omega))) | ((apply z41 rfl rfl rfl); (focus ((repeat (first | exact z23 (fun _ => rfl) _ | apply z52 | apply z61 | rfl)); done)); (focus (((simp; done)); done))) | (refine z32 ?_ ?_; (focus (simp; done))) | exact True.intro | apply And.intro)))
        · have er : rowOf LST N i = N := by unfold rowOf; rw [if_neg hz]
          have hz0 : LST.length ≠ 0 := fun h => hz (List.eq_nil_of_length_eq_zero h)
          rw [er] at hg hnext
          repeat' ((first | (apply AWP.go ok; rfl) | (apply And.intro; first | omega | (unfold inI; omega) | ((try dsimp only); simp only [List.length_map, List.length_take, List.length_append, List.length_replicate, List.length_cons, List.length_nil]; omega) | exact ⟨rfl, z21 rfl z26⟩) | ((first | (with_reducible apply z13; omega) | (apply z13; omega)); intro _) | ((apply z8) <;> intro _)) <;> conv => whnf)
          all_goals first | (exfalso; omega) | skip
          all_goals refine z49 (i + 1, S', G ++ [N]) ⟨hnext, hg⟩ (by show 61 - (i + 1) < 61 - i; omega) (by refine SealW.reach [0, 1, 2, 3, 7] [5] rfl rfl rfl rfl ?_ ?_ <;> (repeat' (first | exact LocLe.refl _ | exact F2.nil | apply F2.cons | exact z20 _ | (refine z37 ?_; ((simp; done))) | apply ObjLe.box | ((first | refine z24 rfl ?_ ?_ | refine z17 rfl ?_ ?_); (focus ((repeat' (first | exact z4 (fun _ => rfl) | apply z15)); done))) | (refine z64 ?_ ?_; (focus (omega))) | ((apply z41 rfl rfl rfl); (focus ((repeat ((exact z23 (fun _ => rfl) _))); done)); (focus (((simp; done)); done))) | exact True.intro | apply And.intro)))
    · have hn : S[i]? = none := List.getElem?_eq_none_iff.2 (by omega)
      rw [show 61 - i = (60 - i) + 1 by omega, grow, hn] at hg
      dsimp only at hg
      subst hg
      repeat' ((first | (apply AWP.go ok; rfl) | (apply And.intro; omega) | (((apply z13; omega)); intro _) | ((apply z8) <;> intro _)) <;> conv => whnf)
      all_goals first | (exfalso; contradiction) | skip
      all_goals (refine RetS.lay [] [3, 4] rfl rfl rfl ?_; refine RetS.done ?_ ?_ <;> (repeat' (first | exact LocLe.refl _ | exact F2.nil | apply F2.cons | ((apply z27 rfl rfl rfl); (focus ((repeat ((exact z23 (fun _ => rfl) _))); done)); (focus (((simp; done)); done))) | apply z42 | apply z85)))
  · have eb : buildB s = none := by unfold buildB; rw [if_neg hv]
    rw [if_neg hv, (Bool.not_eq_true _).mp hv] at c0
    rw [eb]
    refine z14 z29 Tryz.func168 rfl rfl 96 Tryz.ntmps168 (by simp) ?_
    repeat' ((first | (apply AWP.go ok; rfl) | (apply z10 (c0); rfl; rfl)) <;> conv => whnf)
    all_goals skip
    all_goals refine RetS.lay [] [] rfl rfl rfl ?_
    all_goals exact RetS.done zeroG_le .nil
end Go.Proofs.YtknlmbniicacmaaGreat

