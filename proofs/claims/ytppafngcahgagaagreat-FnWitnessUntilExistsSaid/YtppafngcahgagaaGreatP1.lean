/- A part of the proofs over this program: T85, T86, T87, T33I, T88, T89, T31, T32, T33, T90, T91, T92, T93, T94, T53, T54, T101, T102, T103, T55, T56, T57. -/
import Derived.Test.YtppafngcahgagaaGreatG0
import Derived.Test.YtppafngcahgagaaGreatG1
import Derived.Test.YtppafngcahgagaaGreatG2
import Derived.Test.YtppafngcahgagaaGreatP0
set_option linter.all false
namespace Go.Proofs.YtppafngcahgagaaGreat
open Go.Gl
attribute [local irreducible] z29 AWP z51 z62 z55 RetS z76

def isProc (bs : List Int) (q : Int) (pr : Proc) (q' : Int) : Prop := pr.sm ∧ ∃ (m : Nat) (pf : Nat → Int),
  CallsA Tryz.prog 79 [.ptr 0 none 0, .sref 1 0 4] [rdO bs q, .cells 1 ([2, 3, 1, 2].map enI)] (.int pr.loc) [rdO bs (q + 1), .cells 1 ([2, 3, 1, 2].map enI)] ∧
  CallsA Tryz.prog 79 [.ptr 0 none 0, .sref 1 0 5] [rdO bs (q + 1), .cells 1 ([3, 4, 2, 5, 1].map enI)] (.int m) [rdO bs (q + 1 + 1), .cells 1 ([3, 4, 2, 5, 1].map enI)] ∧
  m ≤ 5 ∧ pr.es.length = m ∧ pf 0 = q + 1 + 1 ∧ pf m = q' ∧ ∀ k (h : k < pr.es.length), CallsA Tryz.prog 180 [.ptr 0 none 0, .int pr.loc] [rdO bs (pf k)] (.agg pr.es[k].cs) [rdO bs (pf (k + 1))]
theorem proc_ex (bs : List Int) (hb : BytesOk bs) (q : Int) (hq : 0 ≤ q ∧ q ≤ 999980000) : ∃ pr q', isProc bs q pr q' ∧ q ≤ q' ∧ q' ≤ q + 1010 := by
  obtain ⟨v, mv, cv⟩ := z78 bs hb q (by omega) (by omega) [2, 3, 1, 2] (by decide) (by decide)
  obtain ⟨w, mw, cw⟩ := z78 bs hb (q + 1) (by omega) (by omega) [3, 4, 2, 5, 1] (by decide) (by decide)
  simp only [List.mem_cons, List.not_mem_nil, or_false] at mv mw
  obtain ⟨m, rfl⟩ : ∃ m : Nat, w = m := ⟨w.toNat, by omega⟩
  obtain ⟨es, pf, h1, h2, h3, h4⟩ := seq_ex (fun _ r (e : Edge) r' => e.sm ∧ CallsA Tryz.prog 180 [.ptr 0 none 0, .int v] [rdO bs r] (.agg e.cs) [rdO bs r']) (q + 1 + 1) 200 m (fun k r hk a1 a2 => by
    obtain ⟨e, r', ⟨b1, b2, b3⟩, c⟩ := l2DrawEdge_ok bs hb r ⟨by omega, by omega⟩ v (by omega)
    exact ⟨e, r', ⟨b1, c⟩, b2, b3⟩)
  have h5 := h4 m (Nat.le_refl _)
  refine ⟨⟨v, es⟩, pf m, ⟨⟨by show 0 ≤ v ∧ v ≤ 100; omega, by show es.length ≤ 10; omega, fun e he => ?_⟩, m, pf, cv, cw, by omega, h1, h2, rfl, fun k h => (h3 k h).2⟩, by omega, by omega⟩
  obtain ⟨i, hi, rfl⟩ := List.mem_iff_getElem.1 he
  exact (h3 i hi).1

set_option maxHeartbeats 6400000 in
theorem l2System_ok (bs : List Int) (hb : BytesOk bs) (p : Int) (hp : few2 p) : ∃ (s : Sys) (p' : Int), (s.sm ∧ p ≤ p' ∧ p' ≤ p + 4000) ∧ CallsA Tryz.prog 116 [.ptr 0 none 0] [rdO bs p] (.agg s.cs) [rdO bs p'] := by
  obtain ⟨a, ⟨la, ua⟩, ca⟩ := z53 bs hb p 2 (by omega) (by omega) (by omega)
  obtain ⟨b, mb, cb⟩ := z78 bs hb (p + 1) (by omega) (by omega) [0, 0, 1, 3] (by decide) (by decide)
  obtain ⟨w, mw, cw⟩ := z78 bs hb (p + 1 + 1) (by omega) (by omega) [2, 1, 2, 3] (by decide) (by decide)
  simp only [List.mem_cons, List.not_mem_nil, or_false] at mw
  obtain ⟨m, rfl⟩ : ∃ m : Nat, w = m := ⟨w.toNat, by omega⟩
  obtain ⟨ps, pf, h1, h2, h3, h4⟩ := seq_ex (fun _ q pr q' => isProc bs q pr q') (p + 1 + 1 + 1) 1010 m (fun k r hk a1 a2 => proc_ex bs hb r (by omega))
  have h5 := h4 m (Nat.le_refl _)
  refine ⟨⟨[a, b, 0], ps⟩, pf m, ⟨⟨by simp, by show ps.length ≤ 10; omega, fun e he => ?_⟩, by omega, by omega⟩, ?_⟩
  · obtain ⟨i, hi, rfl⟩ := List.mem_iff_getElem.1 he
    exact (h3 i hi).1
  rw [← h2] at cw
  refine z15 z20 Tryz.func116 rfl rfl 48 Tryz.ntmps116 (by simp) ?_
  repeat' ((first | (apply AWP.go ok; rfl) | ((first | (apply z6 [0] [] [] (ca); rfl; (focus ((repeat' first | exact z4 | apply z5) <;> rfl))) | (apply z6 [0, 2] [] [] (cb); rfl; (focus ((repeat' first | exact z4 | apply z5) <;> rfl))) | (apply z6 [0, 5] [] [] (cw); rfl; (focus ((repeat' first | exact z4 | apply z5) <;> rfl)))); rfl; rfl; rfl; rfl; rfl; (focus ((repeat' first | exact z13 | apply z11) <;> first | exact z23 rfl rfl | (refine z22 ?_; ((exact z8 fun _ => rfl))))); (exact .inl rfl))) <;> conv => whnf)
  all_goals skip
  refine AWP.reach (Reach.empty 2 rfl) ?_
  refine z108 (fun i : Nat => ([(0, .ptr 0 none 0), (2, .ptr 1 none 0), (3, .ptr 2 none 0), (4, .int (m - i))], [rdO bs (pf i), .cells 2 [[.nils, .nils]], .cells 2 [[ints [a, b, 0], .sref 3 0 i]], .cells 2 ((ps.take i).map Proc.cs)])) (fun i => i ≤ m) (fun i => m - i) 0 (by omega) (by refine SealW.reach [0, 1, 4, 6] [3] rfl rfl rfl rfl ?_ ?_ <;> (repeat' (first | exact LocLe.refl _ | exact z69 | exact F2.nil | apply F2.cons | apply ObjLe.box | ((refine z25 rfl ?_ ?_); (focus ((repeat' (exact z52)); done))) | exact True.intro | apply And.intro))) ?_
  intro i hi
  by_cases him : i < m
  · have hil : i < ps.length := by omega
    obtain ⟨g1, m2, pf2, c1, c2, g2, g3, g4, g5, g6⟩ := h3 i hil
    rw [← g4] at c2
    have hpi : (ps.take (i + 1)).map Proc.cs = (ps.take i).map Proc.cs ++ [Proc.cs ps[i]] := by rw [List.take_succ_eq_append_getElem hil, List.map_append]; rfl
    repeat' ((first | (apply AWP.go ok; rfl) | ((apply z9) <;> intro _) | ((first | (apply z6 [0, 4] [] [] (c1); rfl; (focus ((repeat' first | exact z4 | apply z5) <;> rfl))) | (apply z6 [0, 6] [] [] (c2); rfl; (focus ((repeat' first | exact z4 | apply z5) <;> rfl)))); rfl; rfl; rfl; rfl; rfl; (focus ((repeat' first | exact z13 | apply z11) <;> first | exact z23 rfl rfl | (refine z22 ?_; ((exact z8 fun _ => rfl))))); (exact .inl rfl))) <;> conv => whnf)
    all_goals first | (exfalso; omega) | skip
    refine AWP.reach (Reach.empty 10 rfl) ?_
    refine z108 (fun k : Nat => ([(0, .ptr 0 none 0), (2, .ptr 1 none 0), (3, .ptr 2 none 0), (4, .int (m - i)), (5, .ptr 4 none 0), (6, .int (m2 - k))], [rdO bs (pf2 k), .cells 2 [[.nils, .nils]], .cells 2 [[ints [a, b, 0], .sref 3 0 i]], .cells 2 ((ps.take i).map Proc.cs), .cells 2 [[.int ps[i].loc, .sref 5 0 k]], .cells 10 ((ps[i].es.take k).map Edge.cs)])) (fun k => k ≤ m2) (fun k => m2 - k) 0 (by omega) (by refine SealW.reach [0, 1, 2, 3, 5, 7] [] rfl rfl rfl rfl ?_ ?_ <;> (repeat' (first | exact LocLe.refl _ | exact z69 | exact F2.nil | apply F2.cons | exact z26 _ | apply ObjLe.box | ((refine z25 rfl ?_ ?_); (focus ((repeat' (first | exact z52 | exact z8 (fun _ => rfl))); done))) | exact True.intro | apply And.intro))) ?_
    intro k hk
    by_cases hkm : k < m2
    · have hke : k < ps[i].es.length := by omega
      have ce := g6 k hke
      repeat' ((first | (apply AWP.go ok; rfl) | (apply z41; kernel_rfl) | (apply And.intro; first | omega | (unfold inI; omega) | ((try dsimp only); simp only [List.length_map, List.length_take, List.length_append, List.length_replicate, List.length_cons, List.length_nil]; omega) | exact ⟨rfl, z24 rfl z30⟩) | ((apply z9) <;> intro _) | (((apply z6 [0] [] [] (ce); rfl; (focus ((repeat' first | exact z4 | apply z5) <;> rfl)))); rfl; rfl; rfl; rfl; rfl; (focus ((repeat' first | exact z13 | apply z11) <;> exact z23 rfl rfl)); (exact .inl rfl))) <;> conv => whnf)
      all_goals first | (exfalso; omega) | skip
      all_goals refine z58 (k + 1) (by omega) (by omega) (by refine SealW.reach [0, 1, 2, 3, 4, 7] [] rfl rfl rfl rfl ?_ ?_ <;> (repeat' (first | exact LocLe.refl _ | exact F2.nil | apply F2.cons | exact z26 _ | (refine int_le ?_; omega) | apply ObjLe.box | ((first | refine z34 rfl ?_ ?_ | refine z25 rfl ?_ ?_); (focus ((repeat' (first | exact z8 (fun _ => rfl) | apply z28)); done))) | (refine z87 (by omega) (by omega) ?_) | exact True.intro | apply And.intro)))
    · have ek : k = m2 := by omega
      subst ek
      rw [List.take_of_length_le (show ps[i].es.length ≤ k by omega)]
      repeat' ((first | (apply AWP.go ok; rfl) | (apply And.intro; first | (unfold inI; omega) | ((try dsimp only); simp only [List.length_map, List.length_take, List.length_append, List.length_replicate, List.length_cons, List.length_nil]; omega) | exact ⟨rfl, z24 rfl z30⟩) | ((apply z9) <;> intro _)) <;> conv => whnf)
      all_goals first | (exfalso; omega) | skip
      all_goals refine z58 (i + 1) (by omega) (by omega) (by refine SealW.reach [0, 1, 2, 7] [5] rfl rfl rfl rfl ?_ ?_ <;> (repeat' (first | exact LocLe.refl _ | exact F2.nil | apply F2.cons | (refine lst_le ?_; omega) | (refine int_le ?_; omega) | apply ObjLe.box | ((refine z34 rfl ?_ ?_); (focus ((repeat' (first | exact z8 (fun _ => rfl) | apply z28)); done))) | (refine z87 (by omega) (by omega) ?_) | ((apply z68 rfl rfl rfl); (focus ((repeat ((exact z32 (fun _ => rfl) _))); done)); (focus (((simp; omega)); done))) | exact True.intro | apply And.intro)))
  · have e : i = m := by omega
    subst e
    rw [List.take_of_length_le (show ps.length ≤ i by omega)]
    repeat' ((first | (apply AWP.go ok; rfl) | ((apply z9) <;> intro _)) <;> conv => whnf)
    all_goals first | (exfalso; omega) | skip
    all_goals (refine RetS.lay [0] [3] rfl rfl rfl ?_; refine RetS.done ?_ ?_ <;> (repeat' (first | exact LocLe.refl _ | exact F2.nil | apply F2.cons | (refine lst_le ?_; omega) | apply ObjLe.box | ((apply z36 rfl rfl rfl); (focus ((repeat ((exact z32 (fun _ => rfl) _))); done)); (focus (((simp; omega)); done))) | apply z50)))
end Go.Proofs.YtppafngcahgagaaGreat

namespace Go.Proofs.YtppafngcahgagaaGreat
open Go.Gl
attribute [local irreducible] z29 AWP z51 z62 z55 RetS z76

theorem unown_rep (n : Nat) (e : List AC) : z49 (List.replicate n e) = List.replicate n (unownL e) := by
  induction n with
  | zero => rfl
  | succ n ih => simp only [List.replicate_succ, z49, ih]
noncomputable def noneB (t : Tree) : Bool := decide (t.kind = 0 ∧ t.val = 0 ∧ t.kids.length = 0)
theorem l2None_ok (t : Tree) : CallsA Tryz.prog 272 [z39 Tree.cs' t] [] (.bool (noneB t)) [] := by
  refine z12 z20 Tryz.func272 rfl rfl 17 Tryz.ntmps272 (by simp) ?_
  repeat' ((first | (apply AWP.go ok; rfl) | ((apply z9) <;> intro _)) <;> conv => whnf)
  all_goals refine z19 rfl ?_
  all_goals unfold noneB
  all_goals first | (rw [decide_eq_decide]; omega) | (rw [decide_eq_false_iff_not]; omega)

noncomputable def edgOk (e : Edge) (n : Int) : Bool := decide (0 ≤ e.fr ∧ e.fr < n ∧ 0 ≤ e.to ∧ e.to < n ∧ n ≤ 4) && (e.gd.exprB && (decide (-2 ≤ e.sync ∧ e.sync ≤ 2 ∧ -1 ≤ e.var ∧ e.var < 3) && (if e.var < 0 then noneB e.val else e.val.exprB)))
set_option maxHeartbeats 1600000 in
theorem edgeValid_ok (e : Edge) (he : e.sm) (n : Int) : CallsA Tryz.prog 266 [.agg e.cs, .int n] [] (.bool (edgOk e n)) [] := by
  have h1 := he.gd
  have h2 := he.val
  have c1 := z98 e.gd (mx_of_sz _ (by unfold maxLen; omega))
  have c2 := z98 e.val (mx_of_sz _ (by unfold maxLen; omega))
  have c3 := l2None_ok e.val
  rw [Tree.arg_eq] at c1 c2 c3
  unfold edgOk
  generalize e.gd.exprB = b1 at *
  generalize e.val.exprB = b2 at *
  generalize noneB e.val = b3 at *
  by_cases ha : 0 ≤ e.fr ∧ e.fr < n ∧ 0 ≤ e.to ∧ e.to < n ∧ n ≤ 4
  · rw [decide_eq_true ha]
    by_cases hb : -2 ≤ e.sync ∧ e.sync ≤ 2 ∧ -1 ≤ e.var ∧ e.var < 3
    · rw [decide_eq_true hb]
      by_cases hv : e.var < 0
      · rw [if_pos hv]
        refine z12 z20 Tryz.func266 rfl rfl 71 Tryz.ntmps266 (by simp) ?_
        cases b1 <;> cases b3
        all_goals
          repeat' ((first | (apply AWP.go ok; rfl) | ((apply z9) <;> intro _) | (apply z10 (c1); rfl; rfl) | (apply z10 (c3); rfl; rfl)) <;> conv => whnf)
          all_goals first | (exfalso; omega) | exact z19 rfl rfl
      · rw [if_neg hv]
        refine z12 z20 Tryz.func266 rfl rfl 71 Tryz.ntmps266 (by simp) ?_
        cases b1 <;> cases b2
        all_goals
          repeat' ((first | (apply AWP.go ok; rfl) | ((apply z9) <;> intro _) | (apply z10 (c1); rfl; rfl) | (apply z10 (c2); rfl; rfl)) <;> conv => whnf)
          all_goals first | (exfalso; omega) | exact z19 rfl rfl
    · rw [decide_eq_false hb]
      refine z12 z20 Tryz.func266 rfl rfl 71 Tryz.ntmps266 (by simp) ?_
      cases b1
      all_goals
        repeat' ((first | (apply AWP.go ok; rfl) | ((apply z9) <;> intro _) | (apply z10 (c1); rfl; rfl)) <;> conv => whnf)
        all_goals first | (exfalso; omega) | exact z19 rfl rfl
  · rw [decide_eq_false ha]
    refine z12 z20 Tryz.func266 rfl rfl 71 Tryz.ntmps266 (by simp) ?_
    repeat' ((first | (apply AWP.go ok; rfl) | ((first | apply z9 | apply z89) <;> intro _) | (apply z10 (c1); rfl; rfl)) <;> conv => whnf)
    all_goals first | (exfalso; omega) | exact z19 rfl rfl

noncomputable def procB (p : Proc) : Bool := p.es.all (fun e => edgOk e p.loc) && decide (1 ≤ p.loc ∧ p.loc ≤ 4 ∧ p.es.length ≤ 6)
theorem l2Process_ok (p : Proc) (hp : p.sm) : CallsA Tryz.prog 245 [.agg p.cs] [] (.bool (procB p)) [] := by
  have hl := hp.len
  unfold procB
  refine z12 z20 Tryz.func245 rfl rfl 34 Tryz.ntmps245 (by simp) ?_
  repeat' (((apply AWP.go ok; rfl)) <;> conv => whnf)
  refine z73 (fun k : Nat => ([(1, .ptr 0 none 0), (3, .int k)], [.cells 2 [p.cs]])) (fun k => k ≤ p.es.length ∧ p.es.all (fun e => edgOk e p.loc) = (p.es.drop k).all (fun e => edgOk e p.loc)) (fun k => p.es.length - k) 0 ⟨by omega, rfl⟩ ⟨[0], rfl, by decide, rfl, by repeat' (first | exact True.intro | exact ⟨rfl, rfl⟩ | apply And.intro), by repeat' (first | exact True.intro | exact z17 rfl rfl | apply And.intro)⟩ ?_
  intro k hk
  by_cases hkl : k < p.es.length
  · have ce := edgeValid_ok p.es[k] (hp.el _ (List.getElem_mem _)) p.loc
    have e := z113 (fun e => edgOk e p.loc) p.es k hkl
    rw [e] at hk
    have g0 : (p.es.map Edge.cs)[k]? = some (Edge.cs p.es[k]) := by rw [List.getElem?_map, List.getElem?_eq_getElem hkl]; rfl
    generalize edgOk p.es[k] p.loc = b at *
    cases b
    all_goals
      repeat' ((first | (apply AWP.go ok; rfl) | (apply z41; kernel_rfl) | (refine z18 (i := k) rfl g0 ?_) | (apply And.intro; first | omega | (unfold inI; omega)) | ((apply z9) <;> intro _) | (apply z10 (ce); rfl; rfl)) <;> conv => whnf)
      all_goals first | (exfalso; omega) | skip
    · exact z19 rfl (by rw [hk.2]; rfl)
    · exact z61 (k + 1) [0] ⟨by omega, by rw [hk.2, Bool.true_and]⟩ (by omega) ⟨rfl, by decide, rfl, by repeat' (first | exact True.intro | exact ⟨rfl, rfl⟩ | apply And.intro), by repeat' (first | exact True.intro | exact z17 rfl rfl | apply And.intro)⟩
  · have e := z107 (fun e => edgOk e p.loc) p.es k (by omega)
    rw [e] at hk
    repeat' ((first | (apply AWP.go ok; rfl) | (apply And.intro; omega) | (((with_reducible apply z14; omega)); intro _) | ((apply z9) <;> intro _)) <;> conv => whnf)
    all_goals first | (exfalso; omega) | (refine z19 rfl ?_; rw [hk.2]; simp only [Bool.true_and, Bool.false_and]; first | (rw [decide_eq_decide]; omega) | (rw [decide_eq_false_iff_not]; omega))

noncomputable def sysB (s : Sys) : Bool := s.ps.all procB && (valsB s.init && decide (1 ≤ s.ps.length ∧ s.ps.length ≤ 3))
theorem systemValid_ok (s : Sys) (hs : s.sm) : CallsA Tryz.prog 209 [.agg s.cs] [] (.bool (sysB s)) [] := by
  have hl := hs.len
  have hi := hs.init
  have cv := l1Vals_ok s.init (by unfold maxLen; omega)
  unfold sysB
  generalize valsB s.init = vb at *
  refine z12 z20 Tryz.func209 rfl rfl 33 Tryz.ntmps209 (by simp) ?_
  repeat' (((apply AWP.go ok; rfl)) <;> conv => whnf)
  refine z73 (fun k : Nat => ([(1, .ptr 0 none 0), (3, .int k)], [.cells 2 [s.cs]])) (fun k => k ≤ s.ps.length ∧ s.ps.all procB = (s.ps.drop k).all procB) (fun k => s.ps.length - k) 0 ⟨by omega, rfl⟩ ⟨[0], rfl, by decide, rfl, by repeat' (first | exact True.intro | exact ⟨rfl, rfl⟩ | apply And.intro), by repeat' (first | exact True.intro | exact z17 rfl rfl | apply And.intro)⟩ ?_
  intro k hk
  by_cases hkl : k < s.ps.length
  · have ce := l2Process_ok s.ps[k] (hs.el _ (List.getElem_mem _))
    have e := z113 procB s.ps k hkl
    rw [e] at hk
    have g0 : (s.ps.map Proc.cs)[k]? = some (Proc.cs s.ps[k]) := by rw [List.getElem?_map, List.getElem?_eq_getElem hkl]; rfl
    generalize procB s.ps[k] = b at *
    cases b
    all_goals
      repeat' ((first | (apply AWP.go ok; rfl) | (refine z18 (i := k) rfl g0 ?_) | (apply And.intro; first | omega | (unfold inI; omega)) | ((apply z9) <;> intro _) | (apply z10 (ce); rfl; rfl)) <;> conv => whnf)
      all_goals first | (exfalso; omega) | skip
    · exact z19 rfl (by rw [hk.2]; rfl)
    · exact z61 (k + 1) [0] ⟨by omega, by rw [hk.2, Bool.true_and]⟩ (by omega) ⟨rfl, by decide, rfl, by repeat' (first | exact True.intro | exact ⟨rfl, rfl⟩ | apply And.intro), by repeat' (first | exact True.intro | exact z17 rfl rfl | apply And.intro)⟩
  · have e := z107 procB s.ps k (by omega)
    rw [e] at hk
    cases vb
    all_goals
      repeat' ((first | (apply AWP.go ok; rfl) | (apply And.intro; omega) | (((with_reducible apply z14; omega)); intro _) | ((apply z9) <;> intro _) | (apply z10 (cv); rfl; rfl)) <;> conv => whnf)
      all_goals first | (exfalso; omega) | (refine z19 rfl ?_; rw [hk.2]; simp only [Bool.true_and, Bool.false_and]; first | done | (rw [decide_eq_decide]; omega) | (rw [decide_eq_false_iff_not]; omega))

theorem initState_ok (s : Sys) (hs : s.sm) : CallsA Tryz.prog 176 [.agg s.cs] [] (.tup [.agg (if sysB s then (⟨List.replicate s.ps.length 0, s.init⟩ : State) else ⟨[], []⟩).cs, .bool (sysB s)]) [] := by
  have hl := hs.len
  have hi := hs.init
  have c := systemValid_ok s hs
  generalize sysB s = b at *
  refine z15 z20 Tryz.func176 rfl rfl 17 Tryz.ntmps176 (by simp) ?_
  cases b
  all_goals
    repeat' ((first | (apply AWP.go ok; rfl) | (apply z41; kernel_rfl) | (apply And.intro; first | (dsimp only; omega) | exact stor_map (fun _ => rfl)) | (apply z10 (c); rfl; rfl)) <;> conv => whnf)
    all_goals skip
  · (refine RetS.lay [] [] rfl rfl rfl ?_; refine RetS.done ?_ ?_ <;> (repeat' (first | exact LocLe.refl _ | exact z38 | exact F2.nil | apply F2.cons | apply z50 | apply tup_le)))
  · (refine RetS.lay [] [2, 4] rfl rfl rfl ?_; refine RetS.done ?_ ?_ <;> (repeat' (first | exact LocLe.refl _ | exact F2.nil | apply F2.cons | (refine lst_le ?_; omega) | ((apply z36 rfl rfl rfl); (focus ((repeat (first | exact z32 (fun _ => rfl) _ | rfl)); done)); (focus (((simp; done)); done))) | apply z50 | apply tup_le | (refine z74 ?_ ?_; (focus (simp; done))))))
    exact f22_of_eq (by rw [unown_rep, if_pos rfl]; simp only [List.map_replicate, Int.toNat_natCast]; rfl)
end Go.Proofs.YtppafngcahgagaaGreat

namespace Go.Proofs.YtppafngcahgagaaGreat
open Go.Gl
attribute [local irreducible] z29 AWP z51 z62 z55 RetS z76

def Sys.pr (s : Sys) (i : Nat) : Proc := s.ps.getD i ⟨0, []⟩
def Proc.eg (p : Proc) (k : Nat) : Edge := p.es.getD k ⟨0, 0, leaf 0 0, 0, leaf 0 0, 0⟩
theorem Sys.pr_at {s : Sys} {i : Nat} (h : i < s.ps.length) : (s.ps.map Proc.cs)[i]? = some (s.pr i).cs := by
  unfold Sys.pr; rw [z35 h, List.getElem?_map, List.getElem?_eq_getElem h]; rfl
theorem Proc.eg_at {p : Proc} {k : Nat} (h : k < p.es.length) : (p.es.map Edge.cs)[k]? = some (p.eg k).cs := by
  unfold Proc.eg; rw [z35 h, List.getElem?_map, List.getElem?_eq_getElem h]; rfl
/-- what a valid system keeps -/
structure Edge.ok (e : Edge) (n : Int) : Prop where
  to : 0 ≤ e.to ∧ e.to < n
  gd : e.gd.good
  var : -1 ≤ e.var ∧ e.var ≤ 2
  val : 0 ≤ e.var → e.val.good
  sync : -2 ≤ e.sync ∧ e.sync ≤ 2
structure Sys.ok (s : Sys) : Prop where
  n1 : 1 ≤ s.ps.length
  n3 : s.ps.length ≤ 3
  ne : ∀ i, i < s.ps.length → (s.pr i).es.length ≤ 6
  loc : ∀ i, i < s.ps.length → (s.pr i).loc ≤ 4
  eg : ∀ i k, i < s.ps.length → k < (s.pr i).es.length → ((s.pr i).eg k).ok (s.pr i).loc
  init : ValsOk s.init
theorem Sys.ok_of {s : Sys} (h : sysB s = true) : s.ok := by
  unfold sysB at h
  rw [Bool.and_eq_true, Bool.and_eq_true, decide_eq_true_iff, List.all_eq_true] at h
  obtain ⟨h1, h2, h3⟩ := h
  have hp : ∀ i, i < s.ps.length → procB (s.pr i) = true := fun i hi => by unfold Sys.pr; rw [z35 hi]; exact h1 _ (List.getElem_mem _)
  have hq : ∀ i, i < s.ps.length → (∀ e ∈ (s.pr i).es, edgOk e (s.pr i).loc = true) ∧ 1 ≤ (s.pr i).loc ∧ (s.pr i).loc ≤ 4 ∧ (s.pr i).es.length ≤ 6 := fun i hi => by
    have := hp i hi
    unfold procB at this
    rw [Bool.and_eq_true, decide_eq_true_iff, List.all_eq_true] at this
    exact this
  refine ⟨h3.1, h3.2, fun i hi => (hq i hi).2.2.2, fun i hi => (hq i hi).2.2.1, fun i k hi hk => ?_, valsOk_of h2⟩
  have he := (hq i hi).1 ((s.pr i).eg k) (by unfold Proc.eg; rw [z35 hk]; exact List.getElem_mem _)
  unfold edgOk at he
  simp only [Bool.and_eq_true, decide_eq_true_iff] at he
  obtain ⟨a1, a2, a3, a4⟩ := he
  refine ⟨⟨a1.2.2.1, a1.2.2.2.1⟩, Tree.good_of a2, ⟨a3.2.2.1, by omega⟩, fun hv => ?_, ⟨a3.1, a3.2.1⟩⟩
  rw [if_neg (by omega)] at a4
  exact Tree.good_of a4

noncomputable def rdyE (e : Edge) (st : State) (i : Nat) : Bool := decide (e.fr = st.a.getD i 0) && decide (e.gd.ev st.b ≠ 0)
structure State.ok (st : State) (s : Sys) : Prop where
  a : st.a.length = s.ps.length
  b : ValsOk st.b
theorem l3Ready_ok (s : Sys) (hs : s.ok) (st : State) (h : st.ok s) (i k : Nat) (hi : i < s.ps.length) (hk : k < (s.pr i).es.length) : CallsA Tryz.prog 210 [.agg s.cs, .agg st.cs, .int i, .int k] [] (.bool (rdyE ((s.pr i).eg k) st i)) [] := by
  have gp := Sys.pr_at hi
  have ge := Proc.eg_at hk
  have hE := hs.eg i k hi hk
  have h3 := hs.n3
  have ha := h.a
  have h6 := hs.ne i hi
  generalize (s.pr i).eg k = e at *
  have hb := h.b.1
  have ga : (st.a.map enI)[i]? = some (enI (st.a.getD i 0)) := by rw [List.getElem?_map, z35 (show i < st.a.length by omega), List.getElem?_eq_getElem (by omega)]; rfl
  have ce := l1Eval_ok st.b h.b e.gd hE.gd
  rw [Tree.arg_eq] at ce
  unfold rdyE
  generalize st.a.getD i 0 = x at *
  generalize s.pr i = p at *
  refine z12 z20 Tryz.func210 rfl rfl 35 Tryz.ntmps210 (by simp) ?_
  repeat' ((first | (apply AWP.go ok; rfl) | (apply z41; kernel_rfl) | (refine z18 (i := i) rfl gp ?_) | (refine z18 (i := k) rfl ge ?_) | (refine z18 (i := i) rfl ga ?_) | (apply And.intro; omega) | ((apply z9) <;> intro _) | (apply z10 (ce); rfl; rfl)) <;> conv => whnf)
  all_goals skip
  all_goals exact z19 rfl (by simp [*])

structure Stp where
  p : Int
  e : Int
  q : Int
  f : Int
def Stp.cs (x : Stp) : List AC := [.int x.p, .int x.e, .int x.q, .int x.f]
structure Stp.ok (x : Stp) (s : Sys) : Prop where
  p : 0 ≤ x.p ∧ x.p < s.ps.length
  e : 0 ≤ x.e ∧ x.e < (s.pr x.p.toNat).es.length
  q : -1 ≤ x.q ∧ x.q < s.ps.length
  f : 0 ≤ x.q → 0 ≤ x.f ∧ x.f < (s.pr x.q.toNat).es.length
open Classical in
noncomputable def partR (s : Sys) (st : State) (i k : Nat) (j m : Nat) : List Stp := if j ≠ i ∧ ((s.pr j).eg m).sync = -((s.pr i).eg k).sync ∧ rdyE ((s.pr j).eg m) st j = true then [⟨i, k, j, m⟩] else []
noncomputable def partL (s : Sys) (st : State) (i k : Nat) : List Stp := cat s.ps.length fun j => cat (s.pr j).es.length (partR s st i k j)
theorem partL_ok {s : Sys} {st : State} {i k : Nat} (hi : i < s.ps.length) (hk : k < (s.pr i).es.length) : ∀ x ∈ partL s st i k, x.ok s := fun x hx => by
  obtain ⟨j, hj, hx⟩ := mem_cat hx
  obtain ⟨m, hm, hx⟩ := mem_cat hx
  unfold partR at hx
  split at hx
  · rw [List.mem_singleton.1 hx]
    exact ⟨⟨by show 0 ≤ (i : Int); omega, by show (i : Int) < _; omega⟩, ⟨by show 0 ≤ (k : Int); omega, by show (k : Int) < _; simpa using hk⟩, ⟨by show -1 ≤ (j : Int); omega, by show (j : Int) < _; omega⟩, fun _ => ⟨by show 0 ≤ (m : Int); omega, by show (m : Int) < _; simpa using hm⟩⟩
  · cases hx
theorem partL_len {s : Sys} (hs : s.ok) {st : State} {i k : Nat} : (partL s st i k).length ≤ 18 := by
  have h3 := hs.n3
  have := cat_len (n := s.ps.length) (c := 6) (f := fun j => cat (s.pr j).es.length (partR s st i k j)) (fun j hj => by
    have h6 := hs.ne j hj
    have := cat_len (n := (s.pr j).es.length) (c := 1) (f := partR s st i k j) (fun m _ => by unfold partR; split <;> simp)
    omega)
  unfold partL
  omega

set_option maxHeartbeats 1600000 in
theorem l3Partners_ok (s : Sys) (hs : s.ok) (st : State) (h : st.ok s) (i k : Nat) (hi : i < s.ps.length) (hk : k < (s.pr i).es.length) : CallsA Tryz.prog 211 [.agg s.cs, .agg st.cs, .int i, .int k] [] (lst 4 Stp.cs (partL s st i k)) [] := by
  have gp := Sys.pr_at hi
  have ge := Proc.eg_at hk
  have h3 := hs.n3
  have h6 := hs.ne i hi
  have hE := hs.eg i k hi hk
  have hsy := hE.sync
  have hfin : partL s st i k = cat s.ps.length (fun j => cat (s.pr j).es.length (partR s st i k j)) := rfl
  have hR1 : ∀ j m, (j ≠ i ∧ ((s.pr j).eg m).sync = -((s.pr i).eg k).sync ∧ rdyE ((s.pr j).eg m) st j = true) → partR s st i k j m = [⟨i, k, j, m⟩] := fun _ _ h => if_pos h
  have hR0 : ∀ j m, ¬(j ≠ i ∧ ((s.pr j).eg m).sync = -((s.pr i).eg k).sync ∧ rdyE ((s.pr j).eg m) st j = true) → partR s st i k j m = [] := fun _ _ h => if_neg h
  generalize partL s st i k = FIN at *
  generalize partR s st i k = R at *
  generalize (s.pr i).eg k = e at *
  generalize hp : s.pr i = p at *
  refine z15 z20 Tryz.func211 rfl rfl 76 Tryz.ntmps211 (by simp) ?_
  repeat' ((first | (apply AWP.go ok; rfl) | (refine z18 (i := i) rfl gp ?_) | (refine z18 (i := k) rfl ge ?_) | (apply And.intro; omega)) <;> conv => whnf)
  all_goals skip
  refine z108 (fun x : Nat × List Stp => ([(2, .int i), (3, .int k), (4, .ptr 0 none 0), (5, .ptr 1 none 0), (9, .sref 2 0 x.2.length), (10, .int e.sync), (11, .int x.1)], [.cells 2 [s.cs], .cells 2 [st.cs], .cells 4 (x.2.map Stp.cs)])) (fun x => x.1 ≤ s.ps.length ∧ x.2.length ≤ 6 * x.1 ∧ x.2 = cat x.1 fun j => cat (s.pr j).es.length (R j)) (fun x => s.ps.length - x.1) (0, []) ⟨by omega, by simp, rfl⟩ (by refine SealW.reach [0, 1, 2] [] rfl rfl rfl rfl ?_ ?_ <;> (repeat' (first | exact LocLe.refl _ | exact F2.nil | apply F2.cons | apply ObjLe.box | ((refine z25 rfl ?_ ?_); (focus ((repeat' (exact z52)); done))) | exact True.intro | apply And.intro))) ?_
  rintro ⟨j, L⟩ ⟨hj, hLl, hL⟩
  simp only at hj hL hLl
  by_cases hjl : j < s.ps.length
  · have gj := Sys.pr_at hjl
    have hj6 := hs.ne j hjl
    repeat' ((first | (apply AWP.go ok; rfl) | ((apply z9) <;> intro _)) <;> conv => whnf)
    all_goals first | (exfalso; omega) | skip
    refine z108 (fun x : Nat × List Stp => ([(2, .int i), (3, .int k), (4, .ptr 0 none 0), (5, .ptr 1 none 0), (9, .sref 2 0 x.2.length), (10, .int e.sync), (11, .int j), (12, .int x.1)], [.cells 2 [s.cs], .cells 2 [st.cs], .cells 4 (x.2.map Stp.cs)])) (fun x => x.1 ≤ (s.pr j).es.length ∧ x.2.length ≤ 6 * j + x.1 ∧ x.2 = L ++ cat x.1 (R j)) (fun x => (s.pr j).es.length - x.1) (0, L) ⟨by omega, by simpa using hLl, by rw [cat_zero, List.append_nil]⟩ (by refine SealW.reach [0, 1, 2] [] rfl rfl rfl rfl ?_ ?_ <;> (repeat' (first | exact LocLe.refl _ | exact F2.nil | apply F2.cons | exact z26 _ | apply ObjLe.box | ((refine z25 rfl ?_ ?_); (focus ((repeat' ((exact z8 (fun _ => rfl)))); done))) | exact True.intro | apply And.intro))) ?_
    rintro ⟨m, M⟩ ⟨hm, hMl, hM⟩
    simp only at hm hM hMl
    by_cases hml : m < (s.pr j).es.length
    · have gm := Proc.eg_at hml
      have hl := l3Ready_ok s hs st h j m hjl hml
      have hR1m := hR1 j m
      have hR0m := hR0 j m
      have hcs := cat_succ m (R j)
      have hE2 := (hs.eg j m hjl hml).sync
      generalize (s.pr j).eg m = e2 at *
      generalize rdyE e2 st j = rd at *
      generalize hpj : s.pr j = pj at *
      cases rd
      all_goals
        repeat' ((first | (apply AWP.go ok; rfl) | (refine z18 (i := j) rfl gj ?_) | (refine z18 (i := m) rfl gm ?_) | (apply And.intro; first | omega | (unfold inI; omega) | ((try dsimp only); simp only [List.length_map, List.length_take, List.length_append, List.length_replicate, List.length_cons, List.length_nil]; omega) | exact ⟨rfl, z24 rfl z30⟩) | ((first | apply z9 | apply z40) <;> intro _) | (apply z10 (hl); rfl; rfl)) <;> conv => whnf)
        all_goals first | (exfalso; omega) | skip
      all_goals first
        | (have hz := hR1m ⟨by omega, by omega, rfl⟩
           refine z58 (m + 1, M ++ [⟨i, k, j, m⟩]) ⟨by omega, by simp; omega, by rw [hM, hcs, hz, List.append_assoc]⟩ (by show pj.es.length - (m + 1) < pj.es.length - m; omega) (by refine SealW.reach [0, 1, 4] [] rfl rfl rfl rfl ?_ ?_ <;> (repeat' (first | exact LocLe.refl _ | exact F2.nil | apply F2.cons | (refine z110 ?_; ((simp; done))) | apply ObjLe.box | ((refine z34 rfl ?_ ?_); (focus ((repeat' (first | exact z8 (fun _ => rfl) | apply z28)); done))) | (refine snoc_le ?_ ?_; (focus (omega))) | exact True.intro | apply And.intro))))
        | (have hz := hR0m (by rintro ⟨z1, z2, z3⟩; first | exact absurd z3 (by decide) | omega)
           refine z58 (m + 1, M) ⟨by omega, by simp; omega, by rw [hM, hcs, hz, List.append_nil]⟩ (by show pj.es.length - (m + 1) < pj.es.length - m; omega) (by refine SealW.reach [0, 1, 2] [] rfl rfl rfl rfl ?_ ?_ <;> (repeat' (first | exact LocLe.refl _ | exact F2.nil | apply F2.cons | exact z26 _ | apply ObjLe.box | ((refine z25 rfl ?_ ?_); (focus ((repeat' ((exact z8 (fun _ => rfl)))); done))) | exact True.intro | apply And.intro))))
    · repeat' ((first | (apply AWP.go ok; rfl) | (refine z18 (i := j) rfl gj ?_) | (apply And.intro; first | omega | (unfold inI; omega)) | (((with_reducible apply z14; omega)); intro _) | ((first | apply z9 | apply z40) <;> intro _)) <;> conv => whnf)
      all_goals first | (exfalso; omega) | skip
      have e : m = (s.pr j).es.length := by omega
      all_goals refine z58 (j + 1, M) ⟨by omega, by simp; omega, by rw [hM, hL, e]; exact (cat_succ j fun j => cat (s.pr j).es.length (R j)).symm⟩ (by show s.ps.length - (j + 1) < s.ps.length - j; omega) (by refine SealW.reach [0, 1, 2] [] rfl rfl rfl rfl ?_ ?_ <;> (repeat' (first | exact LocLe.refl _ | exact F2.nil | apply F2.cons | exact z26 _ | apply ObjLe.box | ((refine z25 rfl ?_ ?_); (focus ((repeat' ((exact z8 (fun _ => rfl)))); done))) | exact True.intro | apply And.intro)))
  · have e : j = s.ps.length := by omega
    have eL : L = FIN := by rw [hfin, hL, e]
    subst eL
    repeat' ((first | (apply AWP.go ok; rfl) | ((apply z9) <;> intro _)) <;> conv => whnf)
    all_goals first | (exfalso; omega) | skip
    all_goals (refine RetS.lay [] [2] rfl rfl rfl ?_; refine RetS.done ?_ ?_ <;> (repeat' (first | exact LocLe.refl _ | exact F2.nil | ((apply z36 rfl rfl rfl); (focus ((repeat ((exact z32 (fun _ => rfl) _))); done)); (focus (((simp; done)); done))))))
end Go.Proofs.YtppafngcahgagaaGreat

namespace Go.Proofs.YtppafngcahgagaaGreat
open Go.Gl
attribute [local irreducible] z29 AWP z51 z62 z55

theorem bor_ints {objs : Nat → AObj} {π Bn : List Nat} {o : Nat} {l : List Int} (ho : objs o = .cells 1 (l.map enI)) (h1 : idx π o = none) (h2 : inB Bn o = true) : bor objs π Bn (.sref o 0 l.length) = ints l :=
  bor_list ho h1 h2 (by simp) (enc_unown1 _ _)
end Go.Proofs.YtppafngcahgagaaGreat

namespace Go.Proofs.YtppafngcahgagaaGreat
open Go.Gl
attribute [local irreducible] z29 AWP z51 z62 z55 RetS z76

noncomputable def stepR (s : Sys) (st : State) (j m : Nat) : List Stp := if ((s.pr j).eg m).sync < 0 ∨ rdyE ((s.pr j).eg m) st j = false then [] else if ((s.pr j).eg m).sync = 0 then [⟨j, m, -1, -1⟩] else partL s st j m
noncomputable def stepL (s : Sys) (st : State) : List Stp := cat s.ps.length fun j => cat (s.pr j).es.length (stepR s st j)
theorem stepL_ok {s : Sys} {st : State} : ∀ x ∈ stepL s st, x.ok s := fun x hx => by
  obtain ⟨j, hj, hx⟩ := mem_cat hx
  obtain ⟨m, hm, hx⟩ := mem_cat hx
  unfold stepR at hx
  split at hx
  · cases hx
  split at hx
  · rw [List.mem_singleton.1 hx]
    exact ⟨⟨by show 0 ≤ (j : Int); omega, by show (j : Int) < _; omega⟩, ⟨by show 0 ≤ (m : Int); omega, by show (m : Int) < _; simpa using hm⟩, ⟨by show -1 ≤ (-1 : Int); omega, by show (-1 : Int) < _; omega⟩, fun h => absurd (show (0 : Int) ≤ -1 from h) (by decide)⟩
  · exact partL_ok hj hm x hx

set_option maxHeartbeats 1600000 in
theorem l3Steps_ok (s : Sys) (hs : s.ok) (st : State) (h : st.ok s) : CallsA Tryz.prog 177 [.agg s.cs, .agg st.cs] [] (lst 4 Stp.cs (stepL s st)) [] := by
  have h3 := hs.n3
  have hfin : stepL s st = cat s.ps.length (fun j => cat (s.pr j).es.length (stepR s st j)) := rfl
  have hR0 : ∀ j m, (((s.pr j).eg m).sync < 0 ∨ rdyE ((s.pr j).eg m) st j = false) → stepR s st j m = [] := fun _ _ h => if_pos h
  have hR1 : ∀ j m, ¬(((s.pr j).eg m).sync < 0 ∨ rdyE ((s.pr j).eg m) st j = false) → ((s.pr j).eg m).sync = 0 → stepR s st j m = [⟨j, m, -1, -1⟩] := fun _ _ h k => by unfold stepR; rw [if_neg h, if_pos k]
  have hR2 : ∀ j m, ¬(((s.pr j).eg m).sync < 0 ∨ rdyE ((s.pr j).eg m) st j = false) → ((s.pr j).eg m).sync ≠ 0 → stepR s st j m = partL s st j m := fun _ _ h k => by unfold stepR; rw [if_neg h, if_neg k]
  generalize stepL s st = FIN at *
  generalize stepR s st = R at *
  refine z15 z20 Tryz.func177 rfl rfl 64 Tryz.ntmps177 (by simp) ?_
  repeat' (((apply AWP.go ok; rfl)) <;> conv => whnf)
  all_goals skip
  refine z108 (fun x : Nat × List Stp => ([(2, .ptr 0 none 0), (3, .ptr 1 none 0), (5, .sref 2 0 x.2.length), (6, .int x.1)], [.cells 2 [s.cs], .cells 2 [st.cs], .cells 4 (x.2.map Stp.cs)])) (fun x => x.1 ≤ s.ps.length ∧ x.2.length ≤ 108 * x.1 ∧ x.2 = cat x.1 fun j => cat (s.pr j).es.length (R j)) (fun x => s.ps.length - x.1) (0, []) ⟨by omega, by simp, rfl⟩ (by refine SealW.reach [0, 1, 2] [] rfl rfl rfl rfl ?_ ?_ <;> (repeat' (first | exact LocLe.refl _ | exact F2.nil | apply F2.cons | apply ObjLe.box | ((refine z25 rfl ?_ ?_); (focus ((repeat' (exact z52)); done))) | exact True.intro | apply And.intro))) ?_
  rintro ⟨j, L⟩ ⟨hj, hLl, hL⟩
  simp only at hj hL hLl
  by_cases hjl : j < s.ps.length
  · have gj := Sys.pr_at hjl
    have hj6 := hs.ne j hjl
    repeat' ((first | (apply AWP.go ok; rfl) | ((apply z9) <;> intro _)) <;> conv => whnf)
    all_goals first | (exfalso; omega) | skip
    refine z108 (fun x : Nat × List Stp => ([(2, .ptr 0 none 0), (3, .ptr 1 none 0), (5, .sref 2 0 x.2.length), (6, .int j), (7, .int x.1)], [.cells 2 [s.cs], .cells 2 [st.cs], .cells 4 (x.2.map Stp.cs)])) (fun x => x.1 ≤ (s.pr j).es.length ∧ x.2.length ≤ 108 * j + 18 * x.1 ∧ x.2 = L ++ cat x.1 (R j)) (fun x => (s.pr j).es.length - x.1) (0, L) ⟨by omega, by simpa using hLl, by rw [cat_zero, List.append_nil]⟩ (by refine SealW.reach [0, 1, 2] [] rfl rfl rfl rfl ?_ ?_ <;> (repeat' (first | exact LocLe.refl _ | exact F2.nil | apply F2.cons | exact z26 _ | apply ObjLe.box | ((refine z25 rfl ?_ ?_); (focus ((repeat' ((exact z8 (fun _ => rfl)))); done))) | exact True.intro | apply And.intro))) ?_
    rintro ⟨m, M⟩ ⟨hm, hMl, hM⟩
    simp only at hm hM hMl
    by_cases hml : m < (s.pr j).es.length
    · have gm := Proc.eg_at hml
      have hl := l3Ready_ok s hs st h j m hjl hml
      have hP := l3Partners_ok s hs st h j m hjl hml
      have hPl := partL_len hs (st := st) (i := j) (k := m)
      have hR0m := hR0 j m
      have hR1m := hR1 j m
      have hR2m := hR2 j m
      have hcs := cat_succ m (R j)
      have hE2 := (hs.eg j m hjl hml).sync
      generalize (s.pr j).eg m = e2 at *
      generalize rdyE e2 st j = rd at *
      generalize partL s st j m = PL at *
      generalize hpj : s.pr j = pj at *
      cases rd
      all_goals
        repeat' ((first | (apply AWP.go ok; rfl) | (refine z18 (i := j) rfl gj ?_) | (refine z18 (i := m) rfl gm ?_) | (apply And.intro; first | omega | (unfold inI; omega) | ((try dsimp only); simp only [List.length_map, List.length_take, List.length_append, List.length_replicate, List.length_cons, List.length_nil]; omega) | exact stor_map (fun _ => rfl) | exact ⟨rfl, z24 rfl z30⟩) | ((apply z9) <;> intro _) | (apply z10 (hl); rfl; rfl) | (apply z10 (hP); rfl; rfl)) <;> conv => whnf)
        all_goals first | (exfalso; omega) | skip
      all_goals first
        | (have hz := hR2m (by rintro (z1 | z1) <;> first | omega | exact absurd z1 (by decide)) (by omega)
           refine z58 (m + 1, M ++ PL) ⟨by omega, by simp; omega, by rw [hM, hcs, hz, List.append_assoc]⟩ (by show pj.es.length - (m + 1) < pj.es.length - m; omega) (by refine SealW.reach [0, 1, 3] [] rfl rfl rfl rfl ?_ ?_ <;> (repeat' (first | exact LocLe.refl _ | exact F2.nil | apply F2.cons | (refine z110 ?_; ((simp; done))) | apply ObjLe.box | ((refine z25 rfl ?_ ?_); (focus ((repeat' (first | exact z8 (fun _ => rfl) | apply z42 | apply z28)); done))) | (refine appL_le ?_; (omega)) | exact True.intro | apply And.intro))))
        | (have hz := hR1m (by rintro (z1 | z1) <;> first | omega | exact absurd z1 (by decide)) (by omega)
           refine z58 (m + 1, M ++ [⟨j, m, -1, -1⟩]) ⟨by omega, by simp; omega, by rw [hM, hcs, hz, List.append_assoc]⟩ (by show pj.es.length - (m + 1) < pj.es.length - m; omega) (by refine SealW.reach [0, 1, 4] [] rfl rfl rfl rfl ?_ ?_ <;> (repeat' (first | exact LocLe.refl _ | exact F2.nil | apply F2.cons | (refine z110 ?_; ((simp; done))) | apply ObjLe.box | ((refine z34 rfl ?_ ?_); (focus ((repeat' (first | exact z8 (fun _ => rfl) | apply z28)); done))) | (refine snoc_le ?_ ?_; (focus (omega))) | exact True.intro | apply And.intro))))
        | (have hz := hR0m (by first | exact .inr rfl | exact .inl (by omega))
           refine z58 (m + 1, M) ⟨by omega, by simp; omega, by rw [hM, hcs, hz, List.append_nil]⟩ (by show pj.es.length - (m + 1) < pj.es.length - m; omega) (by refine SealW.reach [0, 1, 2] [] rfl rfl rfl rfl ?_ ?_ <;> (repeat' (first | exact LocLe.refl _ | exact F2.nil | apply F2.cons | exact z26 _ | apply ObjLe.box | ((refine z25 rfl ?_ ?_); (focus ((repeat' ((exact z8 (fun _ => rfl)))); done))) | exact True.intro | apply And.intro))))
    · repeat' ((first | (apply AWP.go ok; rfl) | (refine z18 (i := j) rfl gj ?_) | (apply And.intro; first | omega | (unfold inI; omega)) | (((with_reducible apply z14; omega)); intro _) | ((apply z9) <;> intro _)) <;> conv => whnf)
      all_goals first | (exfalso; omega) | skip
      have e : m = (s.pr j).es.length := by omega
      all_goals refine z58 (j + 1, M) ⟨by omega, by simp; omega, by rw [hM, hL, e]; exact (cat_succ j fun j => cat (s.pr j).es.length (R j)).symm⟩ (by show s.ps.length - (j + 1) < s.ps.length - j; omega) (by refine SealW.reach [0, 1, 2] [] rfl rfl rfl rfl ?_ ?_ <;> (repeat' (first | exact LocLe.refl _ | exact F2.nil | apply F2.cons | exact z26 _ | apply ObjLe.box | ((refine z25 rfl ?_ ?_); (focus ((repeat' ((exact z8 (fun _ => rfl)))); done))) | exact True.intro | apply And.intro)))
  · have e : j = s.ps.length := by omega
    have eL : L = FIN := by rw [hfin, hL, e]
    subst eL
    repeat' ((first | (apply AWP.go ok; rfl) | ((apply z9) <;> intro _)) <;> conv => whnf)
    all_goals first | (exfalso; omega) | skip
    all_goals (refine RetS.lay [] [2] rfl rfl rfl ?_; refine RetS.done ?_ ?_ <;> (repeat' (first | exact LocLe.refl _ | exact F2.nil | ((apply z36 rfl rfl rfl); (focus ((repeat ((exact z32 (fun _ => rfl) _))); done)); (focus (((simp; done)); done))))))

/-! an edge is taken -/
noncomputable def takeS (st : State) (i : Nat) (e : Edge) : State := ⟨st.a.set i e.to, if 0 ≤ e.var then st.b.set e.var.toNat (e.val.ev st.b) else st.b⟩
theorem takeS_ok {s : Sys} {st : State} (h : st.ok s) {i : Nat} {e : Edge} {n : Int} (he : e.ok n) : (takeS st i e).ok s := by
  refine ⟨by simp [takeS, h.a], ?_⟩
  unfold takeS
  dsimp only
  split
  · refine ⟨by simp [h.b.1], fun x hx => ?_⟩
    rcases List.mem_or_eq_of_mem_set hx with hx | rfl
    · exact h.b.2 x hx
    · exact Tree.ev_range h.b _ (he.val (by assumption))
  · exact h.b
theorem l3Take_ok (st : State) (e : Edge) (n : Int) (he : e.ok n) (i : Nat) (hi : i < st.a.length) (hl : st.a.length ≤ 10) (hv : ValsOk st.b) : CallsA Tryz.prog 212 [.agg [.sref 0 0 st.a.length, .sref 1 0 st.b.length], .int i, .agg e.cs] [.cells 1 (st.a.map enI), .cells 1 (st.b.map enI)] (.agg [.sref 0 0 st.a.length, .sref 1 0 st.b.length]) [.cells 1 ((takeS st i e).a.map enI), .cells 1 ((takeS st i e).b.map enI)] := by
  have hb := hv.1
  have hvar := he.var
  by_cases h0 : 0 ≤ e.var
  · have c := l1Eval_ok st.b hv e.val (he.val h0)
    rw [Tree.arg_eq] at c
    have hr := Tree.ev_range hv e.val (he.val h0)
    have e1 : takeS st i e = ⟨st.a.set i e.to, st.b.set e.var.toNat (e.val.ev st.b)⟩ := by unfold takeS; rw [if_pos h0]
    rw [e1]
    generalize e.val.ev st.b = x at *
    refine z15 z20 Tryz.func212 rfl rfl 27 Tryz.ntmps212 (by simp) ?_
    repeat' ((first | (apply AWP.go ok; rfl) | (apply z41; kernel_rfl) | (apply And.intro; omega) | (((apply z14; omega)); intro _) | ((apply z9) <;> intro _) | (((apply z6 [] [1] [] (c); (focus ((repeat' first | exact z86 | apply z46) <;> first | exact bor_ints rfl rfl rfl | rfl)); (focus ((repeat' exact z4) <;> fail)))); rfl; rfl; rfl; rfl; rfl; (focus ((repeat' exact z13) <;> fail)); ((refine .inr ⟨rfl, ?_⟩; repeat' first | exact True.intro | apply And.intro)))) <;> conv => whnf)
    all_goals first | (exfalso; omega) | exact h0 | (show e.var.toNat < st.b.length; omega) | skip
    all_goals (refine RetS.lay [0, 1] [] rfl rfl rfl ?_; refine RetS.done ?_ ?_ <;> (repeat' (first | exact LocLe.refl _ | exact F2.nil | apply F2.cons | ((refine z99 rfl ?_ ?_); (focus ((repeat' ((exact z8 (fun _ => rfl)))); done))) | (refine put_le (by omega) ?_))))
  · have e1 : takeS st i e = ⟨st.a.set i e.to, st.b⟩ := by unfold takeS; rw [if_neg h0]
    rw [e1]
    refine z15 z20 Tryz.func212 rfl rfl 27 Tryz.ntmps212 (by simp) ?_
    repeat' ((first | (apply AWP.go ok; rfl) | (apply And.intro; omega) | (((apply z14; omega)); intro _) | ((apply z9) <;> intro _)) <;> conv => whnf)
    all_goals first | (exfalso; omega) | skip
    all_goals (refine RetS.lay [0, 1] [] rfl rfl rfl ?_; refine RetS.done ?_ ?_ <;> (repeat' (first | exact LocLe.refl _ | exact F2.nil | apply F2.cons | exact z26 _ | ((first | refine z99 rfl ?_ ?_ | refine z25 rfl ?_ ?_); (focus ((repeat' ((exact z8 (fun _ => rfl)))); done))) | (refine put_le (by omega) ?_))))
end Go.Proofs.YtppafngcahgagaaGreat

namespace Go.Proofs.YtppafngcahgagaaGreat
open Go.Gl
attribute [local irreducible] z29 AWP z51 z62 z55 RetS z76

noncomputable def applyS (s : Sys) (st : State) (x : Stp) : State := if 0 ≤ x.q then takeS (takeS st x.p.toNat ((s.pr x.p.toNat).eg x.e.toNat)) x.q.toNat ((s.pr x.q.toNat).eg x.f.toNat) else takeS st x.p.toNat ((s.pr x.p.toNat).eg x.e.toNat)
theorem nat_of {a : Int} {n : Nat} (h : 0 ≤ a) (h2 : a < n) : ∃ m : Nat, a = m ∧ m < n := ⟨a.toNat, by omega, by omega⟩
theorem applyS_ok {s : Sys} (hs : s.ok) {st : State} (h : st.ok s) {x : Stp} (hx : x.ok s) : (applyS s st x).ok s := by
  have hp := hx.p
  have he := hx.e
  have hq := hx.q
  unfold applyS
  have h1 := takeS_ok (i := x.p.toNat) h (hs.eg x.p.toNat x.e.toNat (by omega) (by omega))
  split
  · rename_i hq0
    have hf := hx.f hq0
    exact takeS_ok h1 (hs.eg x.q.toNat x.f.toNat (by omega) (by omega))
  · exact h1
theorem takeS_len (st : State) (i : Nat) (e : Edge) : (takeS st i e).a.length = st.a.length ∧ (takeS st i e).b.length = st.b.length := by
  unfold takeS
  constructor
  · simp
  · dsimp only; split <;> simp

set_option maxHeartbeats 3200000 in
theorem l3Apply_ok (s : Sys) (hs : s.ok) (st : State) (h : st.ok s) (x : Stp) (hx : x.ok s) : CallsA Tryz.prog 178 [.agg s.cs, .agg st.cs, .agg x.cs] [] (.agg (applyS s st x).cs) [] := by
  have hn3 := hs.n3
  have ha := h.a
  have hb := h.b.1
  obtain ⟨p, e, q, f⟩ := x
  obtain ⟨hp, he, hq, hf⟩ := hx
  simp only at hp he hq hf
  obtain ⟨pi, rfl, hpi⟩ := nat_of hp.1 hp.2
  simp only [Int.toNat_natCast] at he
  obtain ⟨ei, rfl, hei⟩ := nat_of he.1 he.2
  have gp := Sys.pr_at hpi
  have ge := Proc.eg_at hei
  have hE := hs.eg pi ei hpi hei
  have hP6 := hs.ne pi hpi
  have c1 := l3Take_ok st ((s.pr pi).eg ei) _ hE pi (by omega) (by omega) h.b
  have h1 := takeS_ok (i := pi) h hE
  have hl1 := takeS_len st pi ((s.pr pi).eg ei)
  rw [show st.a.length = 0 + st.a.length by omega, show st.b.length = 0 + st.b.length by omega] at c1
  by_cases hq0 : 0 ≤ q
  · have hf := hf hq0
    obtain ⟨qi, rfl, hqi⟩ := nat_of hq0 hq.2
    simp only [Int.toNat_natCast] at hf
    obtain ⟨fi, rfl, hfi⟩ := nat_of hf.1 hf.2
    have gq := Sys.pr_at hqi
    have gf := Proc.eg_at hfi
    have hF := hs.eg qi fi hqi hfi
    have hQ6 := hs.ne qi hqi
    have e0 : applyS s st ⟨pi, ei, qi, fi⟩ = takeS (takeS st pi ((s.pr pi).eg ei)) qi ((s.pr qi).eg fi) := by unfold applyS; rw [if_pos hq0]; rfl
    have c2 := l3Take_ok (takeS st pi ((s.pr pi).eg ei)) ((s.pr qi).eg fi) _ hF qi (by omega) (by omega) h1.b
    have hl2 := takeS_len (takeS st pi ((s.pr pi).eg ei)) qi ((s.pr qi).eg fi)
    rw [hl1.1, hl1.2, show st.a.length = 0 + st.a.length by omega, show st.b.length = 0 + st.b.length by omega] at c2
    rw [e0]
    generalize takeS (takeS st pi ((s.pr pi).eg ei)) qi ((s.pr qi).eg fi) = s2 at *
    generalize takeS st pi ((s.pr pi).eg ei) = s1 at *
    generalize (s.pr pi).eg ei = ed at *
    generalize (s.pr qi).eg fi = fd at *
    generalize s.pr pi = pp at *
    generalize s.pr qi = qq at *
    refine z15 z20 Tryz.func178 rfl rfl 51 Tryz.ntmps178 (by simp) ?_
    repeat' ((first | (apply AWP.go ok; rfl) | (apply z41; kernel_rfl) | (refine z18 (i := pi) rfl gp ?_) | (refine z18 (i := ei) rfl ge ?_) | (refine z18 (i := qi) rfl gq ?_) | (refine z18 (i := fi) rfl gf ?_) | (apply And.intro; first | omega | (dsimp only; omega) | exact stor_map (fun _ => rfl)) | ((first | (apply z6 [5, 7] [] [] (c1); rfl; (focus ((repeat' first | exact z4 | apply z5) <;> (refine pass_flat rfl ?_; ((exact z8 fun _ => rfl)))))) | (apply z6 [5, 7] [] [] (c2); rfl; (focus ((repeat' first | exact z4 | apply z5) <;> (refine pass_flat rfl ?_; ((exact z8 fun _ => rfl))))))); rfl; rfl; rfl; rfl; rfl; (focus ((repeat' first | exact z13 | apply z11) <;> (refine z22 ?_; ((exact z8 fun _ => rfl))))); (exact .inl rfl))) <;> conv => whnf)
    all_goals skip
    all_goals (refine RetS.lay [] [5, 7] rfl rfl rfl ?_; refine RetS.done ?_ ?_ <;> (repeat' (first | exact F2.nil | apply F2.cons | (refine lst_le ?_; omega) | ((apply z36 rfl rfl rfl); (focus ((repeat ((exact z32 (fun _ => rfl) _))); done)); (focus (((simp; omega)); done))) | apply z50)))
  · have e0 : applyS s st ⟨pi, ei, q, f⟩ = takeS st pi ((s.pr pi).eg ei) := by unfold applyS; rw [if_neg hq0]; rfl
    rw [e0]
    generalize takeS st pi ((s.pr pi).eg ei) = s1 at *
    generalize (s.pr pi).eg ei = ed at *
    generalize s.pr pi = pp at *
    refine z15 z20 Tryz.func178 rfl rfl 51 Tryz.ntmps178 (by simp) ?_
    repeat' ((first | (apply AWP.go ok; rfl) | (apply z41; kernel_rfl) | (refine z18 (i := pi) rfl gp ?_) | (refine z18 (i := ei) rfl ge ?_) | (apply And.intro; first | omega | (dsimp only; omega) | exact stor_map (fun _ => rfl)) | ((apply z9) <;> intro _) | (((apply z6 [5, 7] [] [] (c1); rfl; (focus ((repeat' first | exact z4 | apply z5) <;> (refine pass_flat rfl ?_; ((exact z8 fun _ => rfl))))))); rfl; rfl; rfl; rfl; rfl; (focus ((repeat' first | exact z13 | apply z11) <;> (refine z22 ?_; ((exact z8 fun _ => rfl))))); (exact .inl rfl))) <;> conv => whnf)
    all_goals first | (exfalso; apply hq0; assumption) | skip
    all_goals (refine RetS.lay [] [5, 7] rfl rfl rfl ?_; refine RetS.done ?_ ?_ <;> (repeat' (first | exact F2.nil | apply F2.cons | (refine lst_le ?_; omega) | ((apply z36 rfl rfl rfl); (focus ((repeat ((exact z32 (fun _ => rfl) _))); done)); (focus (((simp; omega)); done))) | apply z50)))
end Go.Proofs.YtppafngcahgagaaGreat

namespace Go.Proofs.YtppafngcahgagaaGreat
open Go.Gl
attribute [local irreducible] z29 AWP z51 z62 z55

def State.co (s : State) : List AC := [.own 1 (s.a.map enI), .own 1 (s.b.map enI)]

end Go.Proofs.YtppafngcahgagaaGreat

namespace Go.Proofs.YtppafngcahgagaaGreat
open Go.Gl
attribute [local irreducible] z29 AWP z51 z62 z55

end Go.Proofs.YtppafngcahgagaaGreat

namespace Go.Proofs.YtppafngcahgagaaGreat
open Go.Gl
section
attribute [local irreducible] z29
theorem l2Ints_ok (a b : List Int) (ha : a.length ≤ maxLen) (hb : b.length ≤ maxLen) : CallsA Tryz.prog 76 [lst 1 enI a, lst 1 enI b] [] (.bool (decide (a = b))) [] := by
  unfold maxLen at ha hb
  refine z12 z20 Tryz.func76 rfl rfl 26 Tryz.ntmps76 (by simp) ?_
  repeat (refine AWP.go ok _ _ _ _ _ rfl ?_)
  refine z40 (fun h => ?_) (fun h => ?_)
  · repeat (refine AWP.go ok _ _ _ _ _ rfl ?_)
    have hne : a ≠ b := by rintro rfl; exact h rfl
    rw [decide_eq_false hne]
    exact ⟨[], by decide, rfl, rfl, ACle.of_eq rfl, trivial⟩
  · have hl : a.length = b.length := by omega
    repeat (refine AWP.go ok _ _ _ _ _ rfl ?_)
    refine awp_loop (fun k : Nat => ([(0, lst 1 enI a), (1, lst 1 enI b), (5, .int k)], [])) (fun k => k ≤ a.length ∧ a.take k = b.take k) (fun k => a.length - k) 0 (by simp)
      ⟨[], rfl, by decide, rfl, ⟨⟨rfl, rfl⟩, ⟨rfl, rfl⟩, ⟨rfl, rfl⟩, trivial⟩, trivial⟩ ?_
    intro k hk
    repeat (refine AWP.go ok _ _ _ _ _ rfl ?_)
    refine z9 (fun h => ?_) (fun h => ?_)
    · have hka : k < a.length := by omega
      repeat (first | refine AWP.go ok _ _ _ _ _ rfl ?_ | refine And.intro (by omega) ?_)
      refine ⟨_, map_get _ _ _ (by omega), ?_⟩
      repeat ((refine And.intro (by omega) ?_))
      refine ⟨_, map_get _ _ _ (by omega), ?_⟩
      repeat (first | refine AWP.go ok _ _ _ _ _ rfl ?_ | refine z41 (by kernel_rfl) ?_)
      refine z40 (fun h => ?_) (fun h => ?_)
      · repeat (refine AWP.go ok _ _ _ _ _ rfl ?_)
        have hne : a ≠ b := by rintro rfl; exact h rfl
        rw [decide_eq_false hne]
        exact ⟨[], by decide, rfl, rfl, ACle.of_eq rfl, trivial⟩
      · repeat (first | refine AWP.go ok _ _ _ _ _ rfl ?_ | refine And.intro (by first | omega | (unfold inI; omega)) ?_)
        refine ⟨k + 1, [], ⟨by omega, ?_⟩, by omega, rfl, by decide, rfl, ⟨⟨rfl, rfl⟩, ⟨rfl, rfl⟩, ⟨rfl, rfl⟩, trivial⟩, trivial⟩
        have h' : a[k] = b[k] := h
        rw [List.take_succ_eq_append_getElem hka, List.take_succ_eq_append_getElem (by omega), hk.2, h']
    · repeat (refine AWP.go ok _ _ _ _ _ rfl ?_)
      have he : a = b := by
        have := hk.2
        rwa [List.take_of_length_le (by omega), List.take_of_length_le (by omega)] at this
      rw [decide_eq_true he]
      exact ⟨[], by decide, rfl, rfl, ACle.of_eq rfl, trivial⟩
end
attribute [local irreducible] z29 AWP z51 z62 z55

end Go.Proofs.YtppafngcahgagaaGreat

namespace Go.Proofs.YtppafngcahgagaaGreat
open Go.Gl
attribute [local irreducible] z29 AWP z51 z62 z55 RetS z76

theorem stateSame_ok (a b : State) (ha : a.sm) (hb : b.sm) : CallsA Tryz.prog 213 [.agg a.cs, .agg b.cs] [] (.bool (decide (a = b))) [] := by
  have h1 := ha.a
  have h2 := ha.b
  have h3 := hb.a
  have h4 := hb.b
  have c1 := l2Ints_ok a.a b.a (by unfold maxLen; omega) (by unfold maxLen; omega)
  have c2 := l2Ints_ok a.b b.b (by unfold maxLen; omega) (by unfold maxLen; omega)
  obtain ⟨a1, a2⟩ := a
  obtain ⟨b1, b2⟩ := b
  simp only at *
  have e : decide ((⟨a1, a2⟩ : State) = ⟨b1, b2⟩) = (decide (a1 = b1) && decide (a2 = b2)) := by
    by_cases h : a1 = b1 <;> by_cases k : a2 = b2 <;> simp [h, k]
  rw [e]
  generalize decide (a1 = b1) = p at *
  generalize decide (a2 = b2) = q at *
  refine z12 z20 Tryz.func213 rfl rfl 17 Tryz.ntmps213 (by simp) ?_
  cases p
  all_goals
    repeat' ((first | (apply AWP.go ok; rfl) | (apply z10 (c1); rfl; rfl) | (apply z10 (c2); rfl; rfl)) <;> conv => whnf)
    all_goals exact z19 rfl rfl

def findZ (t : State) : List State → Int → Int
  | [], _ => -1
  | x :: r, k => if x = t then k else findZ t r (k + 1)
theorem findZ_range (t : State) : ∀ (l : List State) (k : Int), 0 ≤ k → -1 ≤ findZ t l k ∧ findZ t l k < k + l.length := by
  intro l
  induction l with
  | nil => intro k h; simp only [findZ, List.length_nil]; omega
  | cons x l ih =>
    intro k h
    simp only [findZ, List.length_cons]
    split
    · omega
    · have := ih (k + 1) (by omega); omega
theorem findZ_cons (t : State) (l : List State) (k : Nat) (h : k < l.length) : findZ t (l.drop k) k = if l[k] = t then (k : Int) else findZ t (l.drop (k + 1)) ((k + 1 : Nat) : Int) := by
  rw [List.drop_eq_getElem_cons h, findZ]; rfl
theorem l4Find_ok (l : List State) (t : State) (hl : l.length ≤ 1000) (hs : ∀ s ∈ l, s.sm) (ht : t.sm) : CallsA Tryz.prog 179 [lst 2 State.cs l, .agg t.cs] [] (.int (findZ t l 0)) [] := by
  refine z12 z20 Tryz.func179 rfl rfl 19 Tryz.ntmps179 (by simp) ?_
  repeat' (((apply AWP.go ok; rfl)) <;> conv => whnf)
  refine z73 (fun k : Nat => ([(0, lst 2 State.cs l), (3, .ptr 0 none 0), (5, .int k)], [.cells 2 [t.cs]])) (fun k => k ≤ l.length ∧ findZ t l 0 = findZ t (l.drop k) k) (fun k => l.length - k) 0 ⟨by omega, rfl⟩ ⟨[0], rfl, by decide, rfl, by repeat' (first | exact True.intro | exact ⟨rfl, rfl⟩ | apply And.intro), by repeat' (first | exact True.intro | exact z17 rfl rfl | apply And.intro)⟩ ?_
  intro k hk
  by_cases hkl : k < l.length
  · have c := stateSame_ok l[k] t (hs _ (List.getElem_mem _)) ht
    have e := findZ_cons t l k hkl
    rw [e] at hk
    have g0 : (l.map State.cs)[k]? = some (State.cs l[k]) := by rw [List.getElem?_map, List.getElem?_eq_getElem hkl]; rfl
    by_cases hx : l[k] = t
    · rw [if_pos hx] at hk
      rw [decide_eq_true hx] at c
      generalize l[k] = x at *
      repeat' ((first | (apply AWP.go ok; rfl) | (apply z41; kernel_rfl) | (refine z18 (i := k) rfl g0 ?_) | (apply And.intro; omega) | ((apply z9) <;> intro _) | (apply z10 (c); rfl; rfl)) <;> conv => whnf)
      all_goals first | (exfalso; omega) | exact ret_int rfl hk.2
    · rw [if_neg hx] at hk
      rw [decide_eq_false hx] at c
      generalize l[k] = x at *
      repeat' ((first | (apply AWP.go ok; rfl) | (apply z41; kernel_rfl) | (refine z18 (i := k) rfl g0 ?_) | (apply And.intro; first | omega | (unfold inI; omega)) | ((apply z9) <;> intro _) | (apply z10 (c); rfl; rfl)) <;> conv => whnf)
      all_goals first | (exfalso; omega) | skip
      exact z61 (k + 1) [0] ⟨by omega, hk.2⟩ (by omega) ⟨rfl, by decide, rfl, by repeat' (first | exact True.intro | exact ⟨rfl, rfl⟩ | apply And.intro), by repeat' (first | exact True.intro | exact z17 rfl rfl | apply And.intro)⟩
  · have e : l.drop k = [] := List.drop_eq_nil_of_le (by omega)
    rw [e] at hk
    repeat' ((first | (apply AWP.go ok; rfl) | (apply And.intro; omega) | (((with_reducible apply z14; omega)); intro _) | ((apply z9) <;> intro _)) <;> conv => whnf)
    all_goals first | (exfalso; omega) | exact ret_int rfl hk.2
end Go.Proofs.YtppafngcahgagaaGreat

namespace Go.Proofs.YtppafngcahgagaaGreat
open Go.Gl
attribute [local irreducible] z29 AWP z51 z62 z55 RetS z76

/-! the graph of a system -/
open Classical in
noncomputable def inn (s : Sys) (st0 : State) : List Stp → List State → List Int → Option (List State × List Int)
  | [], S, N => some (S, N)
  | x :: r, S, N =>
    if findZ (applyS s st0 x) S 0 < 0 then
      (if 60 ≤ (S.length : Int) then none else inn s st0 r (S ++ [applyS s st0 x]) (if (S.length : Int) ∈ N then N else N ++ [(S.length : Int)]))
    else
      (if 60 ≤ findZ (applyS s st0 x) S 0 then none else inn s st0 r S (if findZ (applyS s st0 x) S 0 ∈ N then N else N ++ [findZ (applyS s st0 x) S 0]))
open Classical in
noncomputable def rowOf (L : List Stp) (N : List Int) (i : Nat) : List Int := if L = [] then N ++ [(i : Int)] else N
noncomputable def grow (s : Sys) : Nat → List State → List (List Int) → Nat → Option Graph
  | 0, _, _, _ => none
  | f + 1, S, G, i => match S[i]? with
    | none => some ⟨S, G⟩
    | some st0 => match inn s st0 (stepL s st0) S [] with
      | none => none
      | some (S', N) => grow s f S' (G ++ [rowOf (stepL s st0) N i]) (i + 1)
theorem State.ok.sm {s : Sys} (hs : s.ok) {st : State} (h : st.ok s) : st.sm := ⟨by have := h.a; have := hs.n3; omega, by have := h.b.1; omega⟩
theorem stepL_len {s : Sys} (hs : s.ok) {st : State} : (stepL s st).length ≤ 324 := by
  have h3 := hs.n3
  have := cat_len (n := s.ps.length) (c := 108) (f := fun j => cat (s.pr j).es.length (stepR s st j)) (fun j hj => by
    have h6 := hs.ne j hj
    have := cat_len (n := (s.pr j).es.length) (c := 18) (f := stepR s st j) (fun m _ => by
      unfold stepR
      split
      · simp
      split
      · simp
      · exact partL_len hs)
    omega)
  unfold stepL
  omega
structure GInv (s : Sys) (S : List State) (G : List (List Int)) (i : Nat) : Prop where
  le : i ≤ S.length
  n : S.length ≤ 60
  one : 1 ≤ S.length
  g : G.length = i
  st : ∀ t ∈ S, t.ok s
  row : ∀ r ∈ G, r.length ≤ 400
theorem inn_inv {s : Sys} (hs : s.ok) {st0 : State} (h0 : st0.ok s) : ∀ (L : List Stp), (∀ x ∈ L, x.ok s) → ∀ (S : List State) (N : List Int) (S' : List State) (N' : List Int), S.length ≤ 60 → (∀ t ∈ S, t.ok s) → inn s st0 L S N = some (S', N') → S'.length ≤ 60 ∧ S.length ≤ S'.length ∧ (∀ t ∈ S', t.ok s) ∧ N'.length ≤ N.length + L.length ∧ ∀ i, i < S.length → S'[i]? = S[i]? := by
  intro L
  induction L with
  | nil =>
    intro _ S N S' N' h1 h2 h3
    simp only [inn, Option.some.injEq, Prod.mk.injEq] at h3
    obtain ⟨rfl, rfl⟩ := h3
    exact ⟨h1, Nat.le_refl _, h2, by simp, fun _ _ => rfl⟩
  | cons x L ih =>
    intro hx S N S' N' h1 h2 h3
    have hxo := applyS_ok hs h0 (hx x (by simp))
    have ih := ih fun y hy => hx y (by simp [hy])
    simp only [inn] at h3
    split at h3
    · split at h3
      · cases h3
      · obtain ⟨a1, a2, a3, a4, a5⟩ := ih _ _ S' N' (by simp; omega) (fun t ht => by
          rcases List.mem_append.1 ht with h | h
          · exact h2 t h
          · rw [List.mem_singleton.1 h]; exact hxo) h3
        refine ⟨a1, by simp at a2; omega, a3, ?_, fun i hi => by rw [a5 i (by simp; omega), List.getElem?_append_left hi]⟩
        simp only [List.length_cons]
        split at a4 <;> (try simp at a4) <;> omega
    · split at h3
      · cases h3
      · obtain ⟨a1, a2, a3, a4, a5⟩ := ih _ _ S' N' h1 h2 h3
        refine ⟨a1, a2, a3, ?_, a5⟩
        simp only [List.length_cons]
        split at a4 <;> (try simp at a4) <;> omega
theorem grow_inv {s : Sys} (hs : s.ok) : ∀ (f : Nat) (S : List State) (G : List (List Int)) (i : Nat) (g : Graph), GInv s S G i → grow s f S G i = some g → GInv s g.st g.nx g.st.length := by
  intro f
  induction f with
  | zero => intro S G i g _ h; simp [grow] at h
  | succ f ih =>
    intro S G i g hI h
    simp only [grow] at h
    split at h
    · rename_i hn
      simp only [Option.some.injEq] at h
      subst h
      have : S.length ≤ i := List.getElem?_eq_none_iff.1 hn
      have e : i = S.length := by have := hI.le; omega
      subst e
      exact hI
    · rename_i st0 hst
      have hil := (List.getElem?_eq_some_iff.1 hst).1
      have h0 := hI.st st0 (List.mem_of_getElem? hst)
      split at h
      · cases h
      · rename_i S' N hin
        obtain ⟨a1, a2, a3, a4, a5⟩ := inn_inv hs h0 _ (fun x hx => stepL_ok x hx) _ _ _ _ hI.n hI.st hin
        have hl := stepL_len hs (st := st0)
        refine ih _ _ _ _ ⟨by omega, a1, by have := hI.one; omega, by simp [hI.g], a3, fun r hr => ?_⟩ h
        rcases List.mem_append.1 hr with h | h
        · exact hI.row r h
        · rw [List.mem_singleton.1 h]
          unfold rowOf
          simp only [List.length_nil] at a4
          split <;> (try simp) <;> omega
end Go.Proofs.YtppafngcahgagaaGreat

namespace Go.Proofs.YtppafngcahgagaaGreat
open Go.Gl
attribute [local irreducible] z29 AWP z51 z62 z55 RetS z76

noncomputable def buildB (s : Sys) : Option Graph := if sysB s = true then grow s 61 [⟨List.replicate s.ps.length 0, s.init⟩] [] 0 else none
theorem zeroG_le {q : Bool} : LocLe (.tup [.agg [.nils, .nils], .bool q]) (.tup [.agg (⟨[], []⟩ : Graph).cs, .bool q]) := tup_le (.cons (z50 (.cons z38 (.cons z38 .nil))) (.cons (LocLe.refl _) .nil))
theorem bor_stt {objs : Nat → AObj} {π Bn : List Nat} {o : Nat} {l : List State} (ho : objs o = .cells 2 (l.map State.cs)) (h1 : idx π o = none) (h2 : inB Bn o = true) : bor objs π Bn (.sref o 0 l.length) = lst 2 State.cs l :=
  bor_list ho h1 h2 (by simp) (z32 (fun _ => rfl) _)

set_option maxHeartbeats 6400000 in
theorem buildGraph_ok (s : Sys) (hsm : s.sm) : CallsA Tryz.prog 115 [.agg s.cs] [] (.tup [.agg ((buildB s).getD ⟨[], []⟩).cs, .bool (buildB s).isSome]) [] := by
  have c0 := initState_ok s hsm
  by_cases hv : sysB s = true
  · have hs := Sys.ok_of hv
    have hn3 := hs.n3
    have eb : buildB s = grow s 61 [⟨List.replicate s.ps.length 0, s.init⟩] [] 0 := by unfold buildB; rw [if_pos hv]
    rw [if_pos hv, hv] at c0
    have hI0 : GInv s [⟨List.replicate s.ps.length 0, s.init⟩] [] 0 := ⟨by simp, by simp, by simp, rfl, fun t ht => by
      rw [List.mem_singleton.1 ht]
      exact ⟨by simp, hs.init⟩, by simp⟩
    rw [eb]
    generalize (⟨List.replicate s.ps.length 0, s.init⟩ : State) = st1 at *
    generalize hR : grow s 61 [st1] [] 0 = R at *
    refine z15 z20 Tryz.func115 rfl rfl 96 Tryz.ntmps115 (by simp) ?_
    repeat' ((first | (apply AWP.go ok; rfl) | (apply z10 (c0); rfl; rfl)) <;> conv => whnf)
    all_goals skip
    refine AWP.reach (Reach.empty 1 rfl) ?_
    refine z108 (fun x : Nat × List State × List (List Int) => ([(1, .ptr 0 none 0), (2, .ptr 1 none 0), (6, .ptr 2 none 0), (7, .int x.1)], [.cells 2 [s.cs], .cells 2 [[.nils, .nils]], .cells 2 [[.sref 3 0 x.2.1.length, .sref 4 0 x.2.2.length]], .cells 2 (x.2.1.map State.cs), .cells 1 (x.2.2.map encL)])) (fun x => GInv s x.2.1 x.2.2 x.1 ∧ grow s (61 - x.1) x.2.1 x.2.2 x.1 = R) (fun x => 61 - x.1) (0, [st1], []) ⟨hI0, hR⟩ (by refine SealW.reach [0, 1, 4, 3, 5] [] rfl rfl rfl rfl ?_ ?_ <;> (repeat' (first | exact LocLe.refl _ | exact z69 | exact F2.nil | apply F2.cons | apply ObjLe.box | ((refine z25 rfl ?_ ?_); (focus ((repeat' (exact z52)); done))) | exact True.intro | apply And.intro))) ?_
    rintro ⟨i, S, G⟩ ⟨hI, hg⟩
    simp only at hI hg
    have hS60 := hI.n
    have hGi := hI.g
    have hile := hI.le
    by_cases hil : i < S.length
    · obtain ⟨st0, hst⟩ : ∃ st0, S[i]? = some st0 := ⟨S[i], List.getElem?_eq_getElem hil⟩
      have h0 := hI.st st0 (List.mem_of_getElem? hst)
      rw [show 61 - i = (60 - i) + 1 by omega, grow, hst] at hg
      dsimp only at hg
      have cS := l3Steps_ok s hs st0 h0
      have hLl := stepL_len hs (st := st0)
      have hLo : ∀ x ∈ stepL s st0, x.ok s := fun x hx => stepL_ok x hx
      have gS : (S.map State.cs)[i]? = some (State.cs st0) := by rw [List.getElem?_map, hst]; rfl
      generalize stepL s st0 = LST at *
      generalize hRIN : inn s st0 LST S [] = RIN at *
      repeat' ((first | (apply AWP.go ok; rfl) | (apply z41; kernel_rfl) | (refine z18 (i := i) rfl gS ?_) | (apply And.intro; omega) | ((apply z9) <;> intro _) | (apply z10 (cS); rfl; rfl)) <;> conv => whnf)
      all_goals first | (exfalso; dsimp only at *; omega) | skip
      refine z108 (fun x : Nat × List State × List Int => ([(1, .ptr 0 none 0), (2, .ptr 1 none 0), (6, .ptr 2 none 0), (7, .int i), (8, lst 4 Stp.cs LST), (9, .sref 5 0 x.2.2.length), (10, .int x.1)], [.cells 2 [s.cs], .cells 2 [[.nils, .nils]], .cells 2 [[.sref 3 0 x.2.1.length, .sref 4 0 G.length]], .cells 2 (x.2.1.map State.cs), .cells 1 (G.map encL), .cells 1 (x.2.2.map enI)])) (fun x => x.1 ≤ LST.length ∧ x.2.1.length ≤ 60 ∧ (∀ t ∈ x.2.1, t.ok s) ∧ x.2.1[i]? = some st0 ∧ x.2.2.length ≤ x.1 ∧ inn s st0 (LST.drop x.1) x.2.1 x.2.2 = RIN) (fun x => LST.length - x.1) (0, S, []) ⟨by simp, hS60, hI.st, hst, by simp, hRIN⟩ (by refine SealW.reach [0, 1, 2, 3, 4, 5] [] rfl rfl rfl rfl ?_ ?_ <;> (repeat' (first | exact LocLe.refl _ | exact F2.nil | apply F2.cons | exact z26 _ | apply ObjLe.box | ((refine z25 rfl ?_ ?_); (focus ((repeat' (first | exact z52 | exact z8 (fun _ => rfl))); done))) | exact True.intro | apply And.intro))) ?_
      rintro ⟨k, S', N⟩ ⟨hk, hS', hSo, hSi, hN, hin⟩
      simp only at hk hS' hSo hSi hN hin
      by_cases hkl : k < LST.length
      · rw [List.drop_eq_getElem_cons hkl, inn] at hin
        have hx := hLo LST[k] (List.getElem_mem _)
        have g1 : (LST.map Stp.cs)[k]? = some (Stp.cs LST[k]) := by rw [List.getElem?_map, List.getElem?_eq_getElem hkl]; rfl
        have c83 := l3Apply_ok s hs st0 h0 LST[k] hx
        have hto := applyS_ok hs h0 hx
        have g0 : (S'.map State.cs)[i]? = some (State.cs st0) := by rw [List.getElem?_map, hSi]; rfl
        have hiS : i < S'.length := (List.getElem?_eq_some_iff.1 hSi).1
        generalize applyS s st0 LST[k] = to at *
        have c84 := l4Find_ok S' to (by omega) (fun t ht => (hSo t ht).sm hs) (hto.sm hs)
        have hfr := findZ_range to S' 0 (by omega)
        generalize findZ to S' 0 = n at *
        generalize LST[k] = x at *
        have cN := fun v => l4In_ok N (by unfold maxLen; omega) v
        by_cases hn : n < 0
        · rw [if_pos hn] at hin
          by_cases h60 : 60 ≤ (S'.length : Int)
          · rw [if_pos h60] at hin
            subst hin
            dsimp only at hg
            subst hg
            repeat' ((first | (apply AWP.go ok; rfl) | (apply z41; kernel_rfl) | (refine z18 (i := i) rfl g0 ?_) | (refine z18 (i := k) rfl g1 ?_) | (apply And.intro; first | omega | (dsimp only; omega) | ((try dsimp only); simp only [List.length_map, List.length_take, List.length_append, List.length_replicate, List.length_cons, List.length_nil]; omega) | exact ⟨rfl, z24 rfl z30⟩) | ((apply z9) <;> intro _) | (apply z10 (c83); rfl; rfl) | (((apply z6 [] [3] [] (c84); (focus (exact z46 (bor_stt rfl rfl rfl) (z46 rfl z86))); (focus ((repeat' exact z4) <;> fail)))); rfl; rfl; rfl; rfl; rfl; (focus ((repeat' exact z13) <;> fail)); ((refine .inr ⟨rfl, ?_⟩; repeat' exact True.intro)))) <;> conv => whnf)
            all_goals first | (exfalso; omega) | (exfalso; dsimp only at *; omega) | skip
            all_goals refine RetS.lay [] [] rfl rfl rfl ?_
            all_goals exact RetS.done zeroG_le .nil
          · rw [if_neg h60] at hin
            have cM := cN S'.length
            by_cases hm : (S'.length : Int) ∈ N
            · rw [if_pos hm] at hin
              rw [decide_eq_true hm] at cM
              repeat' ((first | (apply AWP.go ok; rfl) | (apply z41; kernel_rfl) | (refine z18 (i := i) rfl g0 ?_) | (refine z18 (i := k) rfl g1 ?_) | (apply And.intro; first | omega | (unfold inI; omega) | (dsimp only; omega) | ((try dsimp only); simp only [List.length_map, List.length_take, List.length_append, List.length_replicate, List.length_cons, List.length_nil]; omega) | exact ⟨rfl, z24 rfl z30⟩) | ((apply z9) <;> intro _) | (apply z10 (c83); rfl; rfl) | ((first | (apply z6 [] [3] [] (c84); (focus (exact z46 (bor_stt rfl rfl rfl) (z46 rfl z86))); (focus ((repeat' exact z4) <;> fail))) | (apply z6 [] [5] [] (cM); (focus ((repeat' first | exact z86 | apply z46) <;> first | exact bor_ints rfl rfl rfl | rfl)); (focus ((repeat' exact z4) <;> fail)))); rfl; rfl; rfl; rfl; rfl; (focus ((repeat' exact z13) <;> fail)); ((refine .inr ⟨rfl, ?_⟩; repeat' exact True.intro)))) <;> conv => whnf)
              all_goals first | (exfalso; omega) | (exfalso; contradiction) | skip
              all_goals refine z58 (k + 1, S' ++ [to], N) ⟨by omega, by simp; omega, fun t ht => by rcases List.mem_append.1 ht with h | h; exact hSo t h; rw [List.mem_singleton.1 h]; exact hto, by rw [← hSi]; exact List.getElem?_append_left hiS, by show N.length ≤ k + 1; omega, hin⟩ (by show LST.length - (k + 1) < LST.length - k; omega) (by refine SealW.reach [0, 1, 2, 8, 4, 5] [] rfl rfl rfl rfl ?_ ?_ <;> (repeat' (first | exact LocLe.refl _ | exact F2.nil | apply F2.cons | exact z26 _ | (refine z110 ?_; ((simp; done))) | apply ObjLe.box | ((first | refine z34 rfl ?_ ?_ | refine z25 rfl ?_ ?_); (focus ((repeat' (first | exact z8 (fun _ => rfl) | apply z28)); done))) | (refine snoc_le ?_ ?_; (focus (omega))) | exact True.intro | apply And.intro)))
            · rw [if_neg hm] at hin
              rw [decide_eq_false hm] at cM
              repeat' ((first | (apply AWP.go ok; rfl) | (apply z41; kernel_rfl) | (refine z18 (i := i) rfl g0 ?_) | (refine z18 (i := k) rfl g1 ?_) | (apply And.intro; first | omega | (unfold inI; omega) | (dsimp only; omega) | ((try dsimp only); simp only [List.length_map, List.length_take, List.length_append, List.length_replicate, List.length_cons, List.length_nil]; omega) | exact ⟨rfl, z24 rfl z30⟩) | ((apply z9) <;> intro _) | (apply z10 (c83); rfl; rfl) | ((first | (apply z6 [] [3] [] (c84); (focus (exact z46 (bor_stt rfl rfl rfl) (z46 rfl z86))); (focus ((repeat' exact z4) <;> fail))) | (apply z6 [] [5] [] (cM); (focus ((repeat' first | exact z86 | apply z46) <;> first | exact bor_ints rfl rfl rfl | rfl)); (focus ((repeat' exact z4) <;> fail)))); rfl; rfl; rfl; rfl; rfl; (focus ((repeat' exact z13) <;> fail)); ((refine .inr ⟨rfl, ?_⟩; repeat' exact True.intro)))) <;> conv => whnf)
              all_goals first | (exfalso; omega) | (exfalso; contradiction) | skip
              all_goals refine z58 (k + 1, S' ++ [to], N ++ [(S'.length : Int)]) ⟨by omega, by simp; omega, fun t ht => by rcases List.mem_append.1 ht with h | h; exact hSo t h; rw [List.mem_singleton.1 h]; exact hto, by rw [← hSi]; exact List.getElem?_append_left hiS, by simp; omega, hin⟩ (by show LST.length - (k + 1) < LST.length - k; omega) (by refine SealW.reach [0, 1, 2, 8, 4, 10] [] rfl rfl rfl rfl ?_ ?_ <;> (repeat' (first | exact LocLe.refl _ | exact F2.nil | apply F2.cons | exact z26 _ | (refine z110 ?_; ((simp; done))) | apply ObjLe.box | ((first | refine z34 rfl ?_ ?_ | refine z25 rfl ?_ ?_); (focus ((repeat' (first | exact z8 (fun _ => rfl) | apply z28)); done))) | (refine snoc_le ?_ ?_; (focus (omega))) | exact True.intro | apply And.intro)))
        · rw [if_neg hn] at hin
          by_cases h60 : 60 ≤ n
          · rw [if_pos h60] at hin
            subst hin
            dsimp only at hg
            subst hg
            repeat' ((first | (apply AWP.go ok; rfl) | (apply z41; kernel_rfl) | (refine z18 (i := i) rfl g0 ?_) | (refine z18 (i := k) rfl g1 ?_) | (apply And.intro; omega) | ((apply z9) <;> intro _) | (apply z10 (c83); rfl; rfl) | (((apply z6 [] [3] [] (c84); (focus (exact z46 (bor_stt rfl rfl rfl) (z46 rfl z86))); (focus ((repeat' exact z4) <;> fail)))); rfl; rfl; rfl; rfl; rfl; (focus ((repeat' exact z13) <;> fail)); ((refine .inr ⟨rfl, ?_⟩; repeat' exact True.intro)))) <;> conv => whnf)
            all_goals (exfalso; omega)
            all_goals refine RetS.lay [] [] rfl rfl rfl ?_
            all_goals exact RetS.done zeroG_le .nil
          · rw [if_neg h60] at hin
            have cM := cN n
            by_cases hm : n ∈ N
            · rw [if_pos hm] at hin
              rw [decide_eq_true hm] at cM
              repeat' ((first | (apply AWP.go ok; rfl) | (apply z41; kernel_rfl) | (refine z18 (i := i) rfl g0 ?_) | (refine z18 (i := k) rfl g1 ?_) | (apply And.intro; first | omega | (unfold inI; omega) | (dsimp only; omega)) | ((apply z9) <;> intro _) | (apply z10 (c83); rfl; rfl) | ((first | (apply z6 [] [3] [] (c84); (focus (exact z46 (bor_stt rfl rfl rfl) (z46 rfl z86))); (focus ((repeat' exact z4) <;> fail))) | (apply z6 [] [5] [] (cM); (focus ((repeat' first | exact z86 | apply z46) <;> first | exact bor_ints rfl rfl rfl | rfl)); (focus ((repeat' exact z4) <;> fail)))); rfl; rfl; rfl; rfl; rfl; (focus ((repeat' exact z13) <;> fail)); ((refine .inr ⟨rfl, ?_⟩; repeat' exact True.intro)))) <;> conv => whnf)
              all_goals first | (exfalso; omega) | skip
              all_goals refine z58 (k + 1, S', N) ⟨by omega, hS', hSo, hSi, by show N.length ≤ k + 1; omega, hin⟩ (by show LST.length - (k + 1) < LST.length - k; omega) (by refine SealW.reach [0, 1, 2, 3, 4, 5] [] rfl rfl rfl rfl ?_ ?_ <;> (repeat' (first | exact LocLe.refl _ | exact F2.nil | apply F2.cons | exact z26 _ | apply ObjLe.box | ((refine z25 rfl ?_ ?_); (focus ((repeat' ((exact z8 (fun _ => rfl)))); done))) | exact True.intro | apply And.intro)))
            · rw [if_neg hm] at hin
              rw [decide_eq_false hm] at cM
              repeat' ((first | (apply AWP.go ok; rfl) | (apply z41; kernel_rfl) | (refine z18 (i := i) rfl g0 ?_) | (refine z18 (i := k) rfl g1 ?_) | (apply And.intro; first | omega | (unfold inI; omega) | (dsimp only; omega) | ((try dsimp only); simp only [List.length_map, List.length_take, List.length_append, List.length_replicate, List.length_cons, List.length_nil]; omega) | exact ⟨rfl, z24 rfl z30⟩) | ((apply z9) <;> intro _) | (apply z10 (c83); rfl; rfl) | ((first | (apply z6 [] [3] [] (c84); (focus (exact z46 (bor_stt rfl rfl rfl) (z46 rfl z86))); (focus ((repeat' exact z4) <;> fail))) | (apply z6 [] [5] [] (cM); (focus ((repeat' first | exact z86 | apply z46) <;> first | exact bor_ints rfl rfl rfl | rfl)); (focus ((repeat' exact z4) <;> fail)))); rfl; rfl; rfl; rfl; rfl; (focus ((repeat' exact z13) <;> fail)); ((refine .inr ⟨rfl, ?_⟩; repeat' exact True.intro)))) <;> conv => whnf)
              all_goals first | (exfalso; omega) | skip
              all_goals refine z58 (k + 1, S', N ++ [n]) ⟨by omega, hS', hSo, hSi, by simp; omega, hin⟩ (by show LST.length - (k + 1) < LST.length - k; omega) (by refine SealW.reach [0, 1, 2, 3, 4, 8] [] rfl rfl rfl rfl ?_ ?_ <;> (repeat' (first | exact LocLe.refl _ | exact F2.nil | apply F2.cons | exact z26 _ | (refine z110 ?_; ((simp; done))) | apply ObjLe.box | ((first | refine z34 rfl ?_ ?_ | refine z25 rfl ?_ ?_); (focus ((repeat' (first | exact z8 (fun _ => rfl) | apply z28)); done))) | (refine snoc_le ?_ ?_; (focus (omega))) | exact True.intro | apply And.intro)))
      · rw [List.drop_eq_nil_of_le (by omega), inn] at hin
        subst hin
        dsimp only at hg
        have hiS : i < S'.length := (List.getElem?_eq_some_iff.1 hSi).1
        have hnext : GInv s S' (G ++ [rowOf LST N i]) (i + 1) := ⟨by omega, hS', by omega, by simp [hGi], hSo, fun r hr => by
          rcases List.mem_append.1 hr with h | h
          · exact hI.row r h
          · rw [List.mem_singleton.1 h]
            unfold rowOf
            split <;> (try simp) <;> omega⟩
        rw [show 60 - i = 61 - (i + 1) by omega] at hg
        by_cases hz : LST = []
        · have er : rowOf LST N i = N ++ [(i : Int)] := by unfold rowOf; rw [if_pos hz]
          have hz0 : LST.length = 0 := by rw [hz]; rfl
          rw [er] at hg hnext
          repeat' ((first | (apply AWP.go ok; rfl) | (apply And.intro; first | omega | (unfold inI; omega) | (dsimp only; omega) | ((try dsimp only); simp only [List.length_map, List.length_take, List.length_append, List.length_replicate, List.length_cons, List.length_nil]; omega) | exact ⟨rfl, z24 rfl z30⟩) | ((first | (with_reducible apply z14; omega) | (apply z14; omega)); intro _) | ((apply z9) <;> intro _)) <;> conv => whnf)
          all_goals first | (exfalso; omega) | skip
          all_goals refine z58 (i + 1, S', G ++ [N ++ [(i : Int)]]) ⟨hnext, hg⟩ (by show 61 - (i + 1) < 61 - i; omega) (by refine SealW.reach [0, 1, 2, 3, 9] [7] rfl rfl rfl rfl ?_ ?_ <;> (repeat' (first | exact LocLe.refl _ | exact F2.nil | apply F2.cons | exact z26 _ | (refine z110 ?_; ((simp; done))) | apply ObjLe.box | ((first | refine z34 rfl ?_ ?_ | refine z25 rfl ?_ ?_); (focus ((repeat' (first | exact z8 (fun _ => rfl) | apply z28)); done))) | (refine snoc_le ?_ ?_; (focus (omega))) | ((apply z68 rfl rfl rfl); (focus ((repeat (first | exact z32 (fun _ => rfl) _ | apply unown_app | apply unown_tk | rfl)); done)); (focus (((simp; done)); done))) | (refine z74 ?_ ?_; (focus (simp; done))) | exact True.intro | apply And.intro)))
        · have er : rowOf LST N i = N := by unfold rowOf; rw [if_neg hz]
          have hz0 : LST.length ≠ 0 := fun h => hz (List.eq_nil_of_length_eq_zero h)
          rw [er] at hg hnext
          repeat' ((first | (apply AWP.go ok; rfl) | (apply And.intro; first | omega | (unfold inI; omega) | ((try dsimp only); simp only [List.length_map, List.length_take, List.length_append, List.length_replicate, List.length_cons, List.length_nil]; omega) | exact ⟨rfl, z24 rfl z30⟩) | ((first | (with_reducible apply z14; omega) | (apply z14; omega)); intro _) | ((apply z9) <;> intro _)) <;> conv => whnf)
          all_goals first | (exfalso; omega) | skip
          all_goals refine z58 (i + 1, S', G ++ [N]) ⟨hnext, hg⟩ (by show 61 - (i + 1) < 61 - i; omega) (by refine SealW.reach [0, 1, 2, 3, 7] [5] rfl rfl rfl rfl ?_ ?_ <;> (repeat' (first | exact LocLe.refl _ | exact F2.nil | apply F2.cons | exact z26 _ | (refine z110 ?_; ((simp; done))) | apply ObjLe.box | ((first | refine z34 rfl ?_ ?_ | refine z25 rfl ?_ ?_); (focus ((repeat' (first | exact z8 (fun _ => rfl) | apply z28)); done))) | (refine snoc_le ?_ ?_; (focus (omega))) | ((apply z68 rfl rfl rfl); (focus ((repeat ((exact z32 (fun _ => rfl) _))); done)); (focus (((simp; done)); done))) | exact True.intro | apply And.intro)))
    · have hn : S[i]? = none := List.getElem?_eq_none_iff.2 (by omega)
      rw [show 61 - i = (60 - i) + 1 by omega, grow, hn] at hg
      dsimp only at hg
      subst hg
      repeat' ((first | (apply AWP.go ok; rfl) | (apply And.intro; omega) | (((apply z14; omega)); intro _) | ((apply z9) <;> intro _)) <;> conv => whnf)
      all_goals first | (exfalso; contradiction) | skip
      all_goals (refine RetS.lay [] [3, 4] rfl rfl rfl ?_; refine RetS.done ?_ ?_ <;> (repeat' (first | exact LocLe.refl _ | exact F2.nil | apply F2.cons | ((apply z36 rfl rfl rfl); (focus ((repeat ((exact z32 (fun _ => rfl) _))); done)); (focus (((simp; done)); done))) | apply z50 | apply tup_le)))
  · have eb : buildB s = none := by unfold buildB; rw [if_neg hv]
    rw [if_neg hv, (Bool.not_eq_true _).mp hv] at c0
    rw [eb]
    refine z15 z20 Tryz.func115 rfl rfl 96 Tryz.ntmps115 (by simp) ?_
    repeat' ((first | (apply AWP.go ok; rfl) | (apply z10 (c0); rfl; rfl)) <;> conv => whnf)
    all_goals skip
    all_goals refine RetS.lay [] [] rfl rfl rfl ?_
    all_goals exact RetS.done zeroG_le .nil
end Go.Proofs.YtppafngcahgagaaGreat

namespace Go.Proofs.YtppafngcahgagaaGreat
open Go.Gl
attribute [local irreducible] z29 AWP z51 z62 z55 RetS z76

def isSt (bs : List Int) (i : Int) (q : Int) (t : State) (q' : Int) : Prop := ∃ a b : Int, t = ⟨[i % 3], [a, b, 0]⟩ ∧ q' = q + 1 + 1 ∧
  CallsA Tryz.prog 105 [.ptr 0 none 0, .int 3] [rdO bs q] (.int a) [rdO bs (q + 1)] ∧ CallsA Tryz.prog 105 [.ptr 0 none 0, .int 2] [rdO bs (q + 1)] (.int b) [rdO bs (q + 1 + 1)]
def isRow (bs : List Int) (n : Nat) (q : Int) (r : List Int) (q' : Int) : Prop := ∃ a b c : Int, r = (if c = 0 ∧ b ≠ a then [a, b] else [a]) ∧ q' = q + 1 + 1 + 1 ∧
  CallsA Tryz.prog 105 [.ptr 0 none 0, .int n] [rdO bs q] (.int a) [rdO bs (q + 1)] ∧ CallsA Tryz.prog 105 [.ptr 0 none 0, .int n] [rdO bs (q + 1)] (.int b) [rdO bs (q + 1 + 1)] ∧
  CallsA Tryz.prog 105 [.ptr 0 none 0, .int 2] [rdO bs (q + 1 + 1)] (.int c) [rdO bs (q + 1 + 1 + 1)]
structure Small (bs : List Int) (q q' : Int) (g : Graph) (m : Nat) (pf pg : Nat → Int) : Prop where
  num : CallsA Tryz.prog 79 [.ptr 0 none 0, .sref 1 0 6] [rdO bs q, .cells 1 ([3, 4, 2, 5, 1, 6].map enI)] (.int m) [rdO bs (pf 0), .cells 1 ([3, 4, 2, 5, 1, 6].map enI)]
  m1 : 1 ≤ m
  m6 : m ≤ 6
  sl : g.st.length = m
  nl : g.nx.length = m
  st : ∀ k (h : k < g.st.length), isSt bs (m - k) (pf k) g.st[k] (pf (k + 1))
  mid : pf m = pg 0
  row : ∀ k (h : k < g.nx.length), isRow bs m (pg k) g.nx[k] (pg (k + 1))
  last : pg m = q'
  q0 : q ≤ q'
  q1 : q' ≤ q + 40
theorem small_ex (bs : List Int) (hb : BytesOk bs) (q : Int) (hq : 0 ≤ q ∧ q ≤ 999990000) : ∃ g q' m pf pg, Small bs q q' g m pf pg := by
  obtain ⟨w, mw, cw⟩ := z78 bs hb q (by omega) (by omega) [3, 4, 2, 5, 1, 6] (by decide) (by decide)
  simp only [List.mem_cons, List.not_mem_nil, or_false] at mw
  obtain ⟨m, rfl⟩ : ∃ m : Nat, w = m := ⟨w.toNat, by omega⟩
  obtain ⟨S, pf, h1, h2, h3, h4⟩ := seq_ex (fun k r t r' => isSt bs (m - k) r t r') (q + 1) 2 m (fun k r hk a1 a2 => by
    obtain ⟨a, _, ca⟩ := z53 bs hb r 3 (by omega) (by omega) (by omega)
    obtain ⟨b, _, cb⟩ := z53 bs hb (r + 1) 2 (by omega) (by omega) (by omega)
    exact ⟨_, _, ⟨a, b, rfl, rfl, ca, cb⟩, by omega, by omega⟩)
  have h5 := h4 m (Nat.le_refl _)
  obtain ⟨G, pg, g1, g2, g3, g4⟩ := seq_ex (fun _ r t r' => isRow bs m r t r') (pf m) 3 m (fun k r hk a1 a2 => by
    obtain ⟨a, _, ca⟩ := z53 bs hb r m (by omega) (by omega) (by omega)
    obtain ⟨b, _, cb⟩ := z53 bs hb (r + 1) m (by omega) (by omega) (by omega)
    obtain ⟨c, _, cc⟩ := z53 bs hb (r + 1 + 1) 2 (by omega) (by omega) (by omega)
    exact ⟨_, _, ⟨a, b, c, rfl, rfl, ca, cb, cc⟩, by omega, by omega⟩)
  have g5 := g4 m (Nat.le_refl _)
  exact ⟨⟨S, G⟩, pg m, m, pf, pg, by rw [← h2] at cw; exact cw, by omega, by omega, h1, g1, h3, g2.symm, g3, rfl, by omega, by omega⟩
theorem Small.sm {bs : List Int} {q q' : Int} {g : Graph} {m : Nat} {pf pg : Nat → Int} (h : Small bs q q' g m pf pg) : g.sm := by
  have h1 := h.sl
  have h2 := h.nl
  have h3 := h.m6
  refine ⟨by omega, by omega, fun s hs => ?_, fun r hr => ?_⟩
  · obtain ⟨i, hi, rfl⟩ := List.mem_iff_getElem.1 hs
    obtain ⟨a, b, e, _⟩ := h.st i hi
    rw [e]; exact ⟨by simp, by simp⟩
  · obtain ⟨i, hi, rfl⟩ := List.mem_iff_getElem.1 hr
    obtain ⟨a, b, c, e, _⟩ := h.row i hi
    rw [e]; split <;> simp

set_option maxHeartbeats 6400000 in
theorem l4Graph_ok (bs : List Int) (hb : BytesOk bs) (p : Int) (hp : few3 p) : ∃ (g : Graph) (p' : Int), (g.sm ∧ 1 ≤ g.st.length ∧ g.nx.length = g.st.length ∧ p ≤ p' ∧ p' ≤ p + 5000) ∧ CallsA Tryz.prog 53 [.ptr 0 none 0] [rdO bs p] (.agg g.cs) [rdO bs p'] := by
  obtain ⟨v, ⟨v0, v1⟩, cv⟩ := z53 bs hb p 3 (by omega) (by omega) (by omega)
  by_cases hv : 0 < v
  · obtain ⟨s, q0, ⟨hs, s0, s1⟩, cs⟩ := l2System_ok bs hb (p + 1) ⟨by omega, by omega⟩
    have cB := buildGraph_ok s hs
    by_cases hr : ∃ g, buildB s = some g ∧ g.st.length ≤ 24
    · obtain ⟨g, hg, hl⟩ := hr
      have hI : GInv s g.st g.nx g.st.length := by
        have h := hg
        unfold buildB at h
        split at h
        · rename_i hv2
          have hso := Sys.ok_of hv2
          exact grow_inv hso 61 _ _ 0 g ⟨by simp, by simp, by simp, rfl, fun t ht => by
            rw [List.mem_singleton.1 ht]
            exact ⟨by simp, hso.init⟩, by simp⟩ h
        · cases h
      have hso : s.ok := by
        have h := hg
        unfold buildB at h
        split at h
        · exact Sys.ok_of (by assumption)
        · cases h
      refine ⟨g, q0, ⟨⟨by omega, by have := hI.g; omega, fun t ht => (hI.st t ht).sm hso, fun r hr => by have := hI.row r hr; omega⟩, hI.one, hI.g, by omega, by omega⟩, ?_⟩
      rw [hg] at cB
      simp only [Option.getD_some, Option.isSome_some] at cB
      refine z15 z20 Tryz.func53 rfl rfl 88 Tryz.ntmps53 (by simp) ?_
      repeat' ((first | (apply AWP.go ok; rfl) | ((apply z9) <;> intro _) | (apply z10 (cB); rfl; rfl) | ((first | (apply z6 [0] [] [] (cv); rfl; (focus ((repeat' first | exact z4 | apply z5) <;> rfl))) | (apply z6 [0] [] [] (cs); rfl; (focus ((repeat' first | exact z4 | apply z5) <;> rfl)))); rfl; rfl; rfl; rfl; rfl; (focus ((repeat' first | exact z13 | apply z11) <;> exact z23 rfl rfl)); (exact .inl rfl))) <;> conv => whnf)
      all_goals first | (exfalso; omega) | skip
      all_goals (refine RetS.lay [0] [] rfl rfl rfl ?_; refine RetS.done ?_ ?_ <;> (repeat' (first | exact LocLe.refl _ | exact F2.nil | apply F2.cons | apply ObjLe.box)))
    · obtain ⟨g, q', m, pf, pg, F⟩ := small_ex bs hb q0 (by omega)
      have m1 := F.m1
      have m6 := F.m6
      have sl := F.sl
      have nl := F.nl
      have z0 := F.q0
      have z1 := F.q1
      cases hB : buildB s with
      | none =>
        rw [hB] at cB
        simp only [Option.getD_none, Option.isSome_none] at cB
        refine ⟨g, q', ⟨F.sm, by omega, by omega, by omega, by omega⟩, ?_⟩
        have Fn := F.num
        refine z15 z20 Tryz.func53 rfl rfl 88 Tryz.ntmps53 (by simp) ?_
        repeat' ((first | (apply AWP.go ok; rfl) | ((apply z9) <;> intro _) | (apply z10 (cB); rfl; rfl) | ((first | (apply z6 [0] [] [] (cv); rfl; (focus ((repeat' first | exact z4 | apply z5) <;> rfl))) | (apply z6 [0] [] [] (cs); rfl; (focus ((repeat' first | exact z4 | apply z5) <;> rfl))) | (apply z6 [0, 4] [] [] (Fn); rfl; (focus ((repeat' first | exact z4 | apply z5) <;> rfl)))); rfl; rfl; rfl; rfl; rfl; (focus ((repeat' first | exact z13 | apply z11) <;> first | exact z23 rfl rfl | (refine z22 ?_; ((exact z8 fun _ => rfl))))); (exact .inl rfl))) <;> conv => whnf)
        all_goals first | (exfalso; omega) | skip
        all_goals
          refine AWP.reach (Reach.empty 2 rfl) ?_
          refine z108 (fun k : Nat => ([(0, .ptr 0 none 0), (2, .ptr 1 none 0), (5, .ptr 2 none 0), (6, .int (m - k))], [rdO bs (pf k), .cells 2 [[.nils, .nils]], .cells 2 [[.sref 3 0 k, .nils]], .cells 2 ((g.st.take k).map State.cs)])) (fun k => k ≤ m) (fun k => m - k) 0 (by omega) (by refine SealW.reach [0, 1, 3, 5] [] rfl rfl rfl rfl ?_ ?_ <;> (repeat' (first | exact LocLe.refl _ | exact z69 | exact F2.nil | apply F2.cons | apply ObjLe.box | ((refine z25 rfl ?_ ?_); (focus ((repeat' (exact z52)); done))) | exact True.intro | apply And.intro))) ?_
          intro k hk
          by_cases hkm : k < m
          · have hkl : k < g.st.length := by omega
            obtain ⟨a, b, es, eq, ca, cb⟩ := F.st k hkl
            rw [← eq] at cb
            repeat' ((first | (apply AWP.go ok; rfl) | (apply z41; kernel_rfl) | (apply And.intro; first | omega | (unfold inI; omega) | ((try dsimp only); simp only [List.length_map, List.length_take, List.length_append, List.length_replicate, List.length_cons, List.length_nil]; omega) | exact ⟨rfl, z24 rfl z30⟩) | ((apply z9) <;> intro _) | ((first | (apply z6 [0] [] [] (ca); rfl; (focus ((repeat' first | exact z4 | apply z5) <;> rfl))) | (apply z6 [0] [] [] (cb); rfl; (focus ((repeat' first | exact z4 | apply z5) <;> rfl)))); rfl; rfl; rfl; rfl; rfl; (focus ((repeat' first | exact z13 | apply z11) <;> exact z23 rfl rfl)); (exact .inl rfl))) <;> conv => whnf)
            all_goals first | (exfalso; omega) | skip
            all_goals refine z58 (k + 1) (by omega) (by omega) (by refine SealW.reach [0, 1, 2, 7] [4, 5] rfl rfl rfl rfl ?_ ?_ <;> (repeat' (first | exact LocLe.refl _ | exact F2.nil | apply F2.cons | (refine int_le ?_; omega) | apply ObjLe.box | ((refine z34 rfl ?_ ?_); (focus ((repeat' (first | exact z8 (fun _ => rfl) | apply z28)); done))) | (refine z87 (by omega) (by omega) ?_) | ((apply z68 rfl rfl rfl); (focus ((repeat (rfl)); done)); (focus ((rfl); done))) | exact True.intro | apply And.intro)) <;> (rw [es]; exact LocLe.refl _))
          · have e : k = m := by omega
            subst e
            rw [List.take_of_length_le (show g.st.length ≤ k by omega)]
            repeat' ((first | (apply AWP.go ok; rfl) | (apply And.intro; omega) | ((apply z9) <;> intro _)) <;> conv => whnf)
            all_goals first | (exfalso; omega) | skip
            refine AWP.reach (Reach.empty 1 rfl) ?_
            have Fm := F.mid
            rw [Fm]
            refine z108 (fun i : Nat => ([(0, .ptr 0 none 0), (2, .ptr 1 none 0), (5, .ptr 2 none 0), (7, .int i)], [rdO bs (pg i), .cells 2 [[.nils, .nils]], .cells 2 [[.sref 3 0 k, .sref 4 0 i]], .cells 2 (g.st.map State.cs), .cells 1 ((g.nx.take i).map encL)])) (fun i => i ≤ k) (fun i => k - i) 0 (by omega) (by refine SealW.reach [0, 1, 2, 3, 4] [] rfl rfl rfl rfl ?_ ?_ <;> (repeat' (first | exact LocLe.refl _ | exact z69 | exact F2.nil | apply F2.cons | exact z26 _ | apply ObjLe.box | ((refine z25 rfl ?_ ?_); (focus ((repeat' (first | exact z52 | exact z8 (fun _ => rfl))); done))) | exact True.intro | apply And.intro))) ?_
            intro i hi
            by_cases hik : i < k
            · have hil : i < g.nx.length := by omega
              obtain ⟨a, b, c, er, eq, ca, cb, cc⟩ := F.row i hil
              rw [← eq] at cc
              by_cases hc : c = 0
              · by_cases hba : b = a
                · rw [if_neg (fun h => h.2 hba)] at er
                  repeat' ((first | (apply AWP.go ok; rfl) | (apply And.intro; first | omega | (unfold inI; omega) | ((try dsimp only); simp only [List.length_map, List.length_take, List.length_append, List.length_replicate, List.length_cons, List.length_nil]; omega) | exact ⟨rfl, z24 rfl z30⟩) | apply z103 | ((first | apply z9 | apply z40) <;> intro _) | ((first | (apply z6 [0] [] [] (ca); rfl; (focus ((repeat' first | exact z4 | apply z5) <;> rfl))) | (apply z6 [0] [] [] (cb); rfl; (focus ((repeat' first | exact z4 | apply z5) <;> rfl))) | (apply z6 [0] [] [] (cc); rfl; (focus ((repeat' first | exact z4 | apply z5) <;> rfl)))); rfl; rfl; rfl; rfl; rfl; (focus ((repeat' first | exact z13 | apply z11) <;> exact z23 rfl rfl)); (exact .inl rfl))) <;> conv => whnf)
                  all_goals first | (exfalso; omega) | skip
                  all_goals refine z58 (i + 1) (by omega) (by omega) (by refine SealW.reach [0, 1, 2, 3, 7] [5] rfl rfl rfl rfl ?_ ?_ <;> (repeat' (first | exact LocLe.refl _ | exact F2.nil | apply F2.cons | exact z26 _ | apply ObjLe.box | ((first | refine z34 rfl ?_ ?_ | refine z25 rfl ?_ ?_); (focus ((repeat' (first | exact z8 (fun _ => rfl) | apply z28)); done))) | (refine z87 (by omega) (by omega) ?_) | ((apply z68 rfl rfl rfl); (focus ((repeat (rfl)); done)); (focus ((rfl); done))) | exact True.intro | apply And.intro)) <;> ((rw [er]; exact LocLe.refl _)))
                · rw [if_pos ⟨hc, hba⟩] at er
                  repeat' ((first | (apply AWP.go ok; rfl) | (apply And.intro; first | omega | (unfold inI; omega) | ((try dsimp only); simp only [List.length_map, List.length_take, List.length_append, List.length_replicate, List.length_cons, List.length_nil]; omega) | exact ⟨rfl, z24 rfl z30⟩) | apply z103 | ((first | apply z9 | apply z40) <;> intro _) | ((first | (apply z6 [0] [] [] (ca); rfl; (focus ((repeat' first | exact z4 | apply z5) <;> rfl))) | (apply z6 [0] [] [] (cb); rfl; (focus ((repeat' first | exact z4 | apply z5) <;> rfl))) | (apply z6 [0] [] [] (cc); rfl; (focus ((repeat' first | exact z4 | apply z5) <;> rfl)))); rfl; rfl; rfl; rfl; rfl; (focus ((repeat' first | exact z13 | apply z11) <;> exact z23 rfl rfl)); (exact .inl rfl))) <;> conv => whnf)
                  all_goals first | (exfalso; omega) | skip
                  all_goals refine z58 (i + 1) (by omega) (by omega) (by refine SealW.reach [0, 1, 2, 3, 9] [7] rfl rfl rfl rfl ?_ ?_ <;> (repeat' (first | exact LocLe.refl _ | exact F2.nil | apply F2.cons | exact z26 _ | apply ObjLe.box | ((first | refine z34 rfl ?_ ?_ | refine z25 rfl ?_ ?_); (focus ((repeat' (first | exact z8 (fun _ => rfl) | apply z28)); done))) | (refine z87 (by omega) (by omega) ?_) | ((apply z68 rfl rfl rfl); (focus ((repeat (first | apply unown_app | apply unown_tk | rfl)); done)); (focus ((rfl); done))) | exact True.intro | apply And.intro)) <;> ((rw [er]; exact LocLe.refl _)))
              · rw [if_neg (fun h => hc h.1)] at er
                repeat' ((first | (apply AWP.go ok; rfl) | (apply And.intro; first | omega | (unfold inI; omega) | ((try dsimp only); simp only [List.length_map, List.length_take, List.length_append, List.length_replicate, List.length_cons, List.length_nil]; omega) | exact ⟨rfl, z24 rfl z30⟩) | apply z103 | ((first | apply z9 | apply z40) <;> intro _) | ((first | (apply z6 [0] [] [] (ca); rfl; (focus ((repeat' first | exact z4 | apply z5) <;> rfl))) | (apply z6 [0] [] [] (cb); rfl; (focus ((repeat' first | exact z4 | apply z5) <;> rfl))) | (apply z6 [0] [] [] (cc); rfl; (focus ((repeat' first | exact z4 | apply z5) <;> rfl)))); rfl; rfl; rfl; rfl; rfl; (focus ((repeat' first | exact z13 | apply z11) <;> exact z23 rfl rfl)); (exact .inl rfl))) <;> conv => whnf)
                all_goals first | (exfalso; omega) | skip
                all_goals refine z58 (i + 1) (by omega) (by omega) (by refine SealW.reach [0, 1, 2, 3, 7] [5] rfl rfl rfl rfl ?_ ?_ <;> (repeat' (first | exact LocLe.refl _ | exact F2.nil | apply F2.cons | exact z26 _ | apply ObjLe.box | ((first | refine z34 rfl ?_ ?_ | refine z25 rfl ?_ ?_); (focus ((repeat' (first | exact z8 (fun _ => rfl) | apply z28)); done))) | (refine z87 (by omega) (by omega) ?_) | ((apply z68 rfl rfl rfl); (focus ((repeat (rfl)); done)); (focus ((rfl); done))) | exact True.intro | apply And.intro)) <;> ((rw [er]; exact LocLe.refl _)))
            · have e : i = k := by omega
              subst e
              rw [List.take_of_length_le (show g.nx.length ≤ i by omega)]
              repeat' ((first | (apply AWP.go ok; rfl) | ((apply z9) <;> intro _)) <;> conv => whnf)
              all_goals first | (exfalso; omega) | skip
              all_goals rw [F.last]
              all_goals (refine RetS.lay [0] [3, 4] rfl rfl rfl ?_; refine RetS.done ?_ ?_ <;> (repeat' (first | exact LocLe.refl _ | exact F2.nil | apply F2.cons | (refine lst_le ?_; omega) | apply ObjLe.box | ((apply z36 rfl rfl rfl); (focus ((repeat ((exact z32 (fun _ => rfl) _))); done)); (focus (((simp; omega)); done))) | apply z50)))
      | some g0 =>
        have hl : ¬(g0.st.length ≤ 24) := fun h => hr ⟨g0, hB, h⟩
        rw [hB] at cB
        simp only [Option.getD_some, Option.isSome_some] at cB
        refine ⟨g, q', ⟨F.sm, by omega, by omega, by omega, by omega⟩, ?_⟩
        have Fn := F.num
        refine z15 z20 Tryz.func53 rfl rfl 88 Tryz.ntmps53 (by simp) ?_
        repeat' ((first | (apply AWP.go ok; rfl) | ((apply z9) <;> intro _) | (apply z10 (cB); rfl; rfl) | ((first | (apply z6 [0] [] [] (cv); rfl; (focus ((repeat' first | exact z4 | apply z5) <;> rfl))) | (apply z6 [0] [] [] (cs); rfl; (focus ((repeat' first | exact z4 | apply z5) <;> rfl))) | (apply z6 [0, 4] [] [] (Fn); rfl; (focus ((repeat' first | exact z4 | apply z5) <;> rfl)))); rfl; rfl; rfl; rfl; rfl; (focus ((repeat' first | exact z13 | apply z11) <;> first | exact z23 rfl rfl | (refine z22 ?_; ((exact z8 fun _ => rfl))))); (exact .inl rfl))) <;> conv => whnf)
        all_goals first | (exfalso; omega) | skip
        all_goals
          refine AWP.reach (Reach.empty 2 rfl) ?_
          refine z108 (fun k : Nat => ([(0, .ptr 0 none 0), (2, .ptr 1 none 0), (5, .ptr 2 none 0), (6, .int (m - k))], [rdO bs (pf k), .cells 2 [[.nils, .nils]], .cells 2 [[.sref 3 0 k, .nils]], .cells 2 ((g.st.take k).map State.cs)])) (fun k => k ≤ m) (fun k => m - k) 0 (by omega) (by refine SealW.reach [0, 1, 3, 5] [] rfl rfl rfl rfl ?_ ?_ <;> (repeat' (first | exact LocLe.refl _ | exact z69 | exact F2.nil | apply F2.cons | apply ObjLe.box | ((refine z25 rfl ?_ ?_); (focus ((repeat' (exact z52)); done))) | exact True.intro | apply And.intro))) ?_
          intro k hk
          by_cases hkm : k < m
          · have hkl : k < g.st.length := by omega
            obtain ⟨a, b, es, eq, ca, cb⟩ := F.st k hkl
            rw [← eq] at cb
            repeat' ((first | (apply AWP.go ok; rfl) | (apply z41; kernel_rfl) | (apply And.intro; first | omega | (unfold inI; omega) | ((try dsimp only); simp only [List.length_map, List.length_take, List.length_append, List.length_replicate, List.length_cons, List.length_nil]; omega) | exact ⟨rfl, z24 rfl z30⟩) | ((apply z9) <;> intro _) | ((first | (apply z6 [0] [] [] (ca); rfl; (focus ((repeat' first | exact z4 | apply z5) <;> rfl))) | (apply z6 [0] [] [] (cb); rfl; (focus ((repeat' first | exact z4 | apply z5) <;> rfl)))); rfl; rfl; rfl; rfl; rfl; (focus ((repeat' first | exact z13 | apply z11) <;> exact z23 rfl rfl)); (exact .inl rfl))) <;> conv => whnf)
            all_goals first | (exfalso; omega) | skip
            all_goals refine z58 (k + 1) (by omega) (by omega) (by refine SealW.reach [0, 1, 2, 7] [4, 5] rfl rfl rfl rfl ?_ ?_ <;> (repeat' (first | exact LocLe.refl _ | exact F2.nil | apply F2.cons | (refine int_le ?_; omega) | apply ObjLe.box | ((refine z34 rfl ?_ ?_); (focus ((repeat' (first | exact z8 (fun _ => rfl) | apply z28)); done))) | (refine z87 (by omega) (by omega) ?_) | ((apply z68 rfl rfl rfl); (focus ((repeat (rfl)); done)); (focus ((rfl); done))) | exact True.intro | apply And.intro)) <;> (rw [es]; exact LocLe.refl _))
          · have e : k = m := by omega
            subst e
            rw [List.take_of_length_le (show g.st.length ≤ k by omega)]
            repeat' ((first | (apply AWP.go ok; rfl) | (apply And.intro; omega) | ((apply z9) <;> intro _)) <;> conv => whnf)
            all_goals first | (exfalso; omega) | skip
            refine AWP.reach (Reach.empty 1 rfl) ?_
            have Fm := F.mid
            rw [Fm]
            refine z108 (fun i : Nat => ([(0, .ptr 0 none 0), (2, .ptr 1 none 0), (5, .ptr 2 none 0), (7, .int i)], [rdO bs (pg i), .cells 2 [[.nils, .nils]], .cells 2 [[.sref 3 0 k, .sref 4 0 i]], .cells 2 (g.st.map State.cs), .cells 1 ((g.nx.take i).map encL)])) (fun i => i ≤ k) (fun i => k - i) 0 (by omega) (by refine SealW.reach [0, 1, 2, 3, 4] [] rfl rfl rfl rfl ?_ ?_ <;> (repeat' (first | exact LocLe.refl _ | exact z69 | exact F2.nil | apply F2.cons | exact z26 _ | apply ObjLe.box | ((refine z25 rfl ?_ ?_); (focus ((repeat' (first | exact z52 | exact z8 (fun _ => rfl))); done))) | exact True.intro | apply And.intro))) ?_
            intro i hi
            by_cases hik : i < k
            · have hil : i < g.nx.length := by omega
              obtain ⟨a, b, c, er, eq, ca, cb, cc⟩ := F.row i hil
              rw [← eq] at cc
              by_cases hc : c = 0
              · by_cases hba : b = a
                · rw [if_neg (fun h => h.2 hba)] at er
                  repeat' ((first | (apply AWP.go ok; rfl) | (apply And.intro; first | omega | (unfold inI; omega) | ((try dsimp only); simp only [List.length_map, List.length_take, List.length_append, List.length_replicate, List.length_cons, List.length_nil]; omega) | exact ⟨rfl, z24 rfl z30⟩) | apply z103 | ((first | apply z9 | apply z40) <;> intro _) | ((first | (apply z6 [0] [] [] (ca); rfl; (focus ((repeat' first | exact z4 | apply z5) <;> rfl))) | (apply z6 [0] [] [] (cb); rfl; (focus ((repeat' first | exact z4 | apply z5) <;> rfl))) | (apply z6 [0] [] [] (cc); rfl; (focus ((repeat' first | exact z4 | apply z5) <;> rfl)))); rfl; rfl; rfl; rfl; rfl; (focus ((repeat' first | exact z13 | apply z11) <;> exact z23 rfl rfl)); (exact .inl rfl))) <;> conv => whnf)
                  all_goals first | (exfalso; omega) | skip
                  all_goals refine z58 (i + 1) (by omega) (by omega) (by refine SealW.reach [0, 1, 2, 3, 7] [5] rfl rfl rfl rfl ?_ ?_ <;> (repeat' (first | exact LocLe.refl _ | exact F2.nil | apply F2.cons | exact z26 _ | apply ObjLe.box | ((first | refine z34 rfl ?_ ?_ | refine z25 rfl ?_ ?_); (focus ((repeat' (first | exact z8 (fun _ => rfl) | apply z28)); done))) | (refine z87 (by omega) (by omega) ?_) | ((apply z68 rfl rfl rfl); (focus ((repeat (rfl)); done)); (focus ((rfl); done))) | exact True.intro | apply And.intro)) <;> ((rw [er]; exact LocLe.refl _)))
                · rw [if_pos ⟨hc, hba⟩] at er
                  repeat' ((first | (apply AWP.go ok; rfl) | (apply And.intro; first | omega | (unfold inI; omega) | ((try dsimp only); simp only [List.length_map, List.length_take, List.length_append, List.length_replicate, List.length_cons, List.length_nil]; omega) | exact ⟨rfl, z24 rfl z30⟩) | apply z103 | ((first | apply z9 | apply z40) <;> intro _) | ((first | (apply z6 [0] [] [] (ca); rfl; (focus ((repeat' first | exact z4 | apply z5) <;> rfl))) | (apply z6 [0] [] [] (cb); rfl; (focus ((repeat' first | exact z4 | apply z5) <;> rfl))) | (apply z6 [0] [] [] (cc); rfl; (focus ((repeat' first | exact z4 | apply z5) <;> rfl)))); rfl; rfl; rfl; rfl; rfl; (focus ((repeat' first | exact z13 | apply z11) <;> exact z23 rfl rfl)); (exact .inl rfl))) <;> conv => whnf)
                  all_goals first | (exfalso; omega) | skip
                  all_goals refine z58 (i + 1) (by omega) (by omega) (by refine SealW.reach [0, 1, 2, 3, 9] [7] rfl rfl rfl rfl ?_ ?_ <;> (repeat' (first | exact LocLe.refl _ | exact F2.nil | apply F2.cons | exact z26 _ | apply ObjLe.box | ((first | refine z34 rfl ?_ ?_ | refine z25 rfl ?_ ?_); (focus ((repeat' (first | exact z8 (fun _ => rfl) | apply z28)); done))) | (refine z87 (by omega) (by omega) ?_) | ((apply z68 rfl rfl rfl); (focus ((repeat (first | apply unown_app | apply unown_tk | rfl)); done)); (focus ((rfl); done))) | exact True.intro | apply And.intro)) <;> ((rw [er]; exact LocLe.refl _)))
              · rw [if_neg (fun h => hc h.1)] at er
                repeat' ((first | (apply AWP.go ok; rfl) | (apply And.intro; first | omega | (unfold inI; omega) | ((try dsimp only); simp only [List.length_map, List.length_take, List.length_append, List.length_replicate, List.length_cons, List.length_nil]; omega) | exact ⟨rfl, z24 rfl z30⟩) | apply z103 | ((first | apply z9 | apply z40) <;> intro _) | ((first | (apply z6 [0] [] [] (ca); rfl; (focus ((repeat' first | exact z4 | apply z5) <;> rfl))) | (apply z6 [0] [] [] (cb); rfl; (focus ((repeat' first | exact z4 | apply z5) <;> rfl))) | (apply z6 [0] [] [] (cc); rfl; (focus ((repeat' first | exact z4 | apply z5) <;> rfl)))); rfl; rfl; rfl; rfl; rfl; (focus ((repeat' first | exact z13 | apply z11) <;> exact z23 rfl rfl)); (exact .inl rfl))) <;> conv => whnf)
                all_goals first | (exfalso; omega) | skip
                all_goals refine z58 (i + 1) (by omega) (by omega) (by refine SealW.reach [0, 1, 2, 3, 7] [5] rfl rfl rfl rfl ?_ ?_ <;> (repeat' (first | exact LocLe.refl _ | exact F2.nil | apply F2.cons | exact z26 _ | apply ObjLe.box | ((first | refine z34 rfl ?_ ?_ | refine z25 rfl ?_ ?_); (focus ((repeat' (first | exact z8 (fun _ => rfl) | apply z28)); done))) | (refine z87 (by omega) (by omega) ?_) | ((apply z68 rfl rfl rfl); (focus ((repeat (rfl)); done)); (focus ((rfl); done))) | exact True.intro | apply And.intro)) <;> ((rw [er]; exact LocLe.refl _)))
            · have e : i = k := by omega
              subst e
              rw [List.take_of_length_le (show g.nx.length ≤ i by omega)]
              repeat' ((first | (apply AWP.go ok; rfl) | ((apply z9) <;> intro _)) <;> conv => whnf)
              all_goals first | (exfalso; omega) | skip
              all_goals rw [F.last]
              all_goals (refine RetS.lay [0] [3, 4] rfl rfl rfl ?_; refine RetS.done ?_ ?_ <;> (repeat' (first | exact LocLe.refl _ | exact F2.nil | apply F2.cons | (refine lst_le ?_; omega) | apply ObjLe.box | ((apply z36 rfl rfl rfl); (focus ((repeat ((exact z32 (fun _ => rfl) _))); done)); (focus (((simp; omega)); done))) | apply z50)))
  · obtain ⟨g, q', m, pf, pg, F⟩ := small_ex bs hb (p + 1) (by omega)
    have m1 := F.m1
    have m6 := F.m6
    have sl := F.sl
    have nl := F.nl
    have z0 := F.q0
    have z1 := F.q1
    refine ⟨g, q', ⟨F.sm, by omega, by omega, by omega, by omega⟩, ?_⟩
    have Fn := F.num
    refine z15 z20 Tryz.func53 rfl rfl 88 Tryz.ntmps53 (by simp) ?_
    repeat' ((first | (apply AWP.go ok; rfl) | ((apply z9) <;> intro _) | ((first | (apply z6 [0] [] [] (cv); rfl; (focus ((repeat' first | exact z4 | apply z5) <;> rfl))) | (apply z6 [0, 3] [] [] (Fn); rfl; (focus ((repeat' first | exact z4 | apply z5) <;> rfl)))); rfl; rfl; rfl; rfl; rfl; (focus ((repeat' first | exact z13 | apply z11) <;> first | exact z23 rfl rfl | (refine z22 ?_; ((exact z8 fun _ => rfl))))); (exact .inl rfl))) <;> conv => whnf)
    all_goals first | (exfalso; omega) | skip
    all_goals
      refine AWP.reach (Reach.empty 2 rfl) ?_
      refine z108 (fun k : Nat => ([(0, .ptr 0 none 0), (2, .ptr 1 none 0), (5, .ptr 2 none 0), (6, .int (m - k))], [rdO bs (pf k), .cells 2 [[.nils, .nils]], .cells 2 [[.sref 3 0 k, .nils]], .cells 2 ((g.st.take k).map State.cs)])) (fun k => k ≤ m) (fun k => m - k) 0 (by omega) (by refine SealW.reach [0, 1, 2, 4] [] rfl rfl rfl rfl ?_ ?_ <;> (repeat' (first | exact LocLe.refl _ | exact z69 | exact F2.nil | apply F2.cons | apply ObjLe.box | ((refine z25 rfl ?_ ?_); (focus ((repeat' (exact z52)); done))) | exact True.intro | apply And.intro))) ?_
      intro k hk
      by_cases hkm : k < m
      · have hkl : k < g.st.length := by omega
        obtain ⟨a, b, es, eq, ca, cb⟩ := F.st k hkl
        rw [← eq] at cb
        repeat' ((first | (apply AWP.go ok; rfl) | (apply z41; kernel_rfl) | (apply And.intro; first | omega | (unfold inI; omega) | ((try dsimp only); simp only [List.length_map, List.length_take, List.length_append, List.length_replicate, List.length_cons, List.length_nil]; omega) | exact ⟨rfl, z24 rfl z30⟩) | ((apply z9) <;> intro _) | ((first | (apply z6 [0] [] [] (ca); rfl; (focus ((repeat' first | exact z4 | apply z5) <;> rfl))) | (apply z6 [0] [] [] (cb); rfl; (focus ((repeat' first | exact z4 | apply z5) <;> rfl)))); rfl; rfl; rfl; rfl; rfl; (focus ((repeat' first | exact z13 | apply z11) <;> exact z23 rfl rfl)); (exact .inl rfl))) <;> conv => whnf)
        all_goals first | (exfalso; omega) | skip
        all_goals refine z58 (k + 1) (by omega) (by omega) (by refine SealW.reach [0, 1, 2, 7] [4, 5] rfl rfl rfl rfl ?_ ?_ <;> (repeat' (first | exact LocLe.refl _ | exact F2.nil | apply F2.cons | (refine int_le ?_; omega) | apply ObjLe.box | ((refine z34 rfl ?_ ?_); (focus ((repeat' (first | exact z8 (fun _ => rfl) | apply z28)); done))) | (refine z87 (by omega) (by omega) ?_) | ((apply z68 rfl rfl rfl); (focus ((repeat (rfl)); done)); (focus ((rfl); done))) | exact True.intro | apply And.intro)) <;> (rw [es]; exact LocLe.refl _))
      · have e : k = m := by omega
        subst e
        rw [List.take_of_length_le (show g.st.length ≤ k by omega)]
        repeat' ((first | (apply AWP.go ok; rfl) | (apply And.intro; omega) | ((apply z9) <;> intro _)) <;> conv => whnf)
        all_goals first | (exfalso; omega) | skip
        refine AWP.reach (Reach.empty 1 rfl) ?_
        have Fm := F.mid
        rw [Fm]
        refine z108 (fun i : Nat => ([(0, .ptr 0 none 0), (2, .ptr 1 none 0), (5, .ptr 2 none 0), (7, .int i)], [rdO bs (pg i), .cells 2 [[.nils, .nils]], .cells 2 [[.sref 3 0 k, .sref 4 0 i]], .cells 2 (g.st.map State.cs), .cells 1 ((g.nx.take i).map encL)])) (fun i => i ≤ k) (fun i => k - i) 0 (by omega) (by refine SealW.reach [0, 1, 2, 3, 4] [] rfl rfl rfl rfl ?_ ?_ <;> (repeat' (first | exact LocLe.refl _ | exact z69 | exact F2.nil | apply F2.cons | exact z26 _ | apply ObjLe.box | ((refine z25 rfl ?_ ?_); (focus ((repeat' (first | exact z52 | exact z8 (fun _ => rfl))); done))) | exact True.intro | apply And.intro))) ?_
        intro i hi
        by_cases hik : i < k
        · have hil : i < g.nx.length := by omega
          obtain ⟨a, b, c, er, eq, ca, cb, cc⟩ := F.row i hil
          rw [← eq] at cc
          by_cases hc : c = 0
          · by_cases hba : b = a
            · rw [if_neg (fun h => h.2 hba)] at er
              repeat' ((first | (apply AWP.go ok; rfl) | (apply And.intro; first | omega | (unfold inI; omega) | ((try dsimp only); simp only [List.length_map, List.length_take, List.length_append, List.length_replicate, List.length_cons, List.length_nil]; omega) | exact ⟨rfl, z24 rfl z30⟩) | apply z103 | ((first | apply z9 | apply z40) <;> intro _) | ((first | (apply z6 [0] [] [] (ca); rfl; (focus ((repeat' first | exact z4 | apply z5) <;> rfl))) | (apply z6 [0] [] [] (cb); rfl; (focus ((repeat' first | exact z4 | apply z5) <;> rfl))) | (apply z6 [0] [] [] (cc); rfl; (focus ((repeat' first | exact z4 | apply z5) <;> rfl)))); rfl; rfl; rfl; rfl; rfl; (focus ((repeat' first | exact z13 | apply z11) <;> exact z23 rfl rfl)); (exact .inl rfl))) <;> conv => whnf)
              all_goals first | (exfalso; omega) | skip
              all_goals refine z58 (i + 1) (by omega) (by omega) (by refine SealW.reach [0, 1, 2, 3, 7] [5] rfl rfl rfl rfl ?_ ?_ <;> (repeat' (first | exact LocLe.refl _ | exact F2.nil | apply F2.cons | exact z26 _ | apply ObjLe.box | ((first | refine z34 rfl ?_ ?_ | refine z25 rfl ?_ ?_); (focus ((repeat' (first | exact z8 (fun _ => rfl) | apply z28)); done))) | (refine z87 (by omega) (by omega) ?_) | ((apply z68 rfl rfl rfl); (focus ((repeat (rfl)); done)); (focus ((rfl); done))) | exact True.intro | apply And.intro)) <;> ((rw [er]; exact LocLe.refl _)))
            · rw [if_pos ⟨hc, hba⟩] at er
              repeat' ((first | (apply AWP.go ok; rfl) | (apply And.intro; first | omega | (unfold inI; omega) | ((try dsimp only); simp only [List.length_map, List.length_take, List.length_append, List.length_replicate, List.length_cons, List.length_nil]; omega) | exact ⟨rfl, z24 rfl z30⟩) | apply z103 | ((first | apply z9 | apply z40) <;> intro _) | ((first | (apply z6 [0] [] [] (ca); rfl; (focus ((repeat' first | exact z4 | apply z5) <;> rfl))) | (apply z6 [0] [] [] (cb); rfl; (focus ((repeat' first | exact z4 | apply z5) <;> rfl))) | (apply z6 [0] [] [] (cc); rfl; (focus ((repeat' first | exact z4 | apply z5) <;> rfl)))); rfl; rfl; rfl; rfl; rfl; (focus ((repeat' first | exact z13 | apply z11) <;> exact z23 rfl rfl)); (exact .inl rfl))) <;> conv => whnf)
              all_goals first | (exfalso; omega) | skip
              all_goals refine z58 (i + 1) (by omega) (by omega) (by refine SealW.reach [0, 1, 2, 3, 9] [7] rfl rfl rfl rfl ?_ ?_ <;> (repeat' (first | exact LocLe.refl _ | exact F2.nil | apply F2.cons | exact z26 _ | apply ObjLe.box | ((first | refine z34 rfl ?_ ?_ | refine z25 rfl ?_ ?_); (focus ((repeat' (first | exact z8 (fun _ => rfl) | apply z28)); done))) | (refine z87 (by omega) (by omega) ?_) | ((apply z68 rfl rfl rfl); (focus ((repeat (first | apply unown_app | apply unown_tk | rfl)); done)); (focus ((rfl); done))) | exact True.intro | apply And.intro)) <;> ((rw [er]; exact LocLe.refl _)))
          · rw [if_neg (fun h => hc h.1)] at er
            repeat' ((first | (apply AWP.go ok; rfl) | (apply And.intro; first | omega | (unfold inI; omega) | ((try dsimp only); simp only [List.length_map, List.length_take, List.length_append, List.length_replicate, List.length_cons, List.length_nil]; omega) | exact ⟨rfl, z24 rfl z30⟩) | apply z103 | ((first | apply z9 | apply z40) <;> intro _) | ((first | (apply z6 [0] [] [] (ca); rfl; (focus ((repeat' first | exact z4 | apply z5) <;> rfl))) | (apply z6 [0] [] [] (cb); rfl; (focus ((repeat' first | exact z4 | apply z5) <;> rfl))) | (apply z6 [0] [] [] (cc); rfl; (focus ((repeat' first | exact z4 | apply z5) <;> rfl)))); rfl; rfl; rfl; rfl; rfl; (focus ((repeat' first | exact z13 | apply z11) <;> exact z23 rfl rfl)); (exact .inl rfl))) <;> conv => whnf)
            all_goals first | (exfalso; omega) | skip
            all_goals refine z58 (i + 1) (by omega) (by omega) (by refine SealW.reach [0, 1, 2, 3, 7] [5] rfl rfl rfl rfl ?_ ?_ <;> (repeat' (first | exact LocLe.refl _ | exact F2.nil | apply F2.cons | exact z26 _ | apply ObjLe.box | ((first | refine z34 rfl ?_ ?_ | refine z25 rfl ?_ ?_); (focus ((repeat' (first | exact z8 (fun _ => rfl) | apply z28)); done))) | (refine z87 (by omega) (by omega) ?_) | ((apply z68 rfl rfl rfl); (focus ((repeat (rfl)); done)); (focus ((rfl); done))) | exact True.intro | apply And.intro)) <;> ((rw [er]; exact LocLe.refl _)))
        · have e : i = k := by omega
          subst e
          rw [List.take_of_length_le (show g.nx.length ≤ i by omega)]
          repeat' ((first | (apply AWP.go ok; rfl) | ((apply z9) <;> intro _)) <;> conv => whnf)
          all_goals first | (exfalso; omega) | skip
          all_goals rw [F.last]
          all_goals (refine RetS.lay [0] [3, 4] rfl rfl rfl ?_; refine RetS.done ?_ ?_ <;> (repeat' (first | exact LocLe.refl _ | exact F2.nil | apply F2.cons | (refine lst_le ?_; omega) | apply ObjLe.box | ((apply z36 rfl rfl rfl); (focus ((repeat ((exact z32 (fun _ => rfl) _))); done)); (focus (((simp; omega)); done))) | apply z50)))
end Go.Proofs.YtppafngcahgagaaGreat

namespace Go.Proofs.YtppafngcahgagaaGreat
open Go.Gl
attribute [local irreducible] z29 AWP z51 z62 z55 RetS z76

structure Graph.d (g : Graph) : Prop where
  st : g.st.length ≤ 100
  nx : g.nx.length ≤ 101
  el : ∀ s ∈ g.st, s.sm
  row : ∀ r ∈ g.nx, r.length ≤ 1001
theorem Graph.d.mx {g : Graph} (h : g.d) : g.mx := by
  have h1 := h.st
  have h2 := h.nx
  have h3 := h.el
  exact ⟨⟨by unfold maxLen; omega, fun s hs => ⟨by have := (h3 s hs).a; unfold maxLen; omega, by have := (h3 s hs).b; unfold maxLen; omega⟩⟩, by unfold maxLen; omega, fun l hl => by have := h.row l hl; unfold maxLen; omega⟩
structure Lab.d (l : List Tree) : Prop where
  len : l.length ≤ 3
  el : ∀ t ∈ l, t.sz ≤ 5
theorem Lab.d.mx {l : List Tree} (h : Lab.d l) : Lmx l := Lmx_of (by have := h.len; omega) fun t ht => by have := h.el t ht; omega
/-- the bytes of a law's argument -/
structure CodeOk (bs : List Int) : Prop where
  len : bs.length ≤ maxLen
  el : ∀ x ∈ bs, 0 ≤ x ∧ x ≤ 255
theorem CodeOk.take {bs : List Int} (h : CodeOk bs) : BytesOk (bs.take 2000) := ⟨by simp; omega, fun x hx => h.el x (List.mem_of_mem_take hx)⟩
theorem mutG_ok (bs : List Int) (hb : BytesOk bs) (p : Int) (hp : few3 p) : ∃ (g0 g : Graph) (p1 p2 : Int), CallsA Tryz.prog 53 [.ptr 0 none 0] [rdO bs p] (.agg g0.cs) [rdO bs p1] ∧ CallsA Tryz.prog 52 [.ptr 0 none 0, .agg g0.cs] [rdO bs p1] (.agg g.cs) [rdO bs p2] ∧ g.d ∧ p ≤ p2 ∧ p2 ≤ p + 6000 := by
  obtain ⟨g0, p1, ⟨h1, h2, h3, h4, h5⟩, c1⟩ := l4Graph_ok bs hb p hp
  obtain ⟨g, p2, ⟨k1, k2, k3, k4, k5, k6⟩, c2⟩ := l4Mutate_ok bs hb p1 ⟨by omega, by omega⟩ g0 h1 h2 h3
  exact ⟨g0, g, p1, p2, c1, c2, ⟨k1, k2, k3, k4⟩, by omega, by omega⟩

end Go.Proofs.YtppafngcahgagaaGreat

namespace Go.Proofs.YtppafngcahgagaaGreat
open Go.Gl
attribute [local irreducible] z29 AWP z51 z62 z55

theorem containsS_br_idx {d : Int} (l : List Tree) (hl : l.length ≤ maxLen) (p : Tree → Int → Bool) (nx : Tree → Int → Int) (okS : Int → Prop) (hok : ∀ x s, okS s → p x s = false → okS (nx x s)) (f : FuncId) (s : Int) (h0 : okS s)
    (hf : ∀ x ∈ l, ∀ s, okS s → CallsA Tryz.prog f [z39 Tree.cs' x, .pt [.int d], .ptr 1 none 0] [.cells 1 [[.int s]], .cells 1 [[.ptr 0 none 0]]] (.bool (p x s)) [.cells 1 [[.int (nx x s)]], .cells 1 [[.ptr 0 none 0]]]) :
    CallsA Tryz.prog 216 [lst 3 Tree.cs' l, .fn (.func f) [] [.pt [.int d], .ptr 1 none 0]] [.cells 1 [[.int s]], .cells 1 [[.ptr 0 none 0]]] (.int (idxS p nx l s 0).1) [.cells 1 [[.int (idxS p nx l s 0).2]], .cells 1 [[.ptr 0 none 0]]] := by
  unfold maxLen at hl
  refine z12 z20 Tryz.func216 rfl rfl 19 Tryz.ntmps216 (by simp) ?_
  repeat' (((apply AWP.go ok; rfl)) <;> conv => whnf)
  refine z73 (fun x : Nat × Int => ([(0, lst 3 Tree.cs' l), (1, .fn (.func f) [] [.pt [.int d], .ptr 1 none 0]), (7, .int l.length), (8, .int x.1)], [.cells 1 [[.int x.2]], .cells 1 [[.ptr 0 none 0]]])) (fun x => x.1 ≤ l.length ∧ okS x.2 ∧ idxS p nx l s 0 = idxS p nx (l.drop x.1) x.2 x.1) (fun x => l.length - x.1) (0, s) ⟨by omega, h0, rfl⟩
    ⟨[0, 1], rfl, by decide, rfl, ⟨⟨rfl, rfl⟩, ⟨rfl, rfl⟩, ⟨rfl, rfl⟩, ⟨rfl, rfl⟩, trivial⟩, ⟨z17 rfl rfl, z17 rfl rfl, trivial⟩⟩ ?_
  rintro ⟨k, t⟩ ⟨hk1, hk2, hk3⟩
  dsimp only at hk1 hk2 hk3
  repeat' ((first | (apply AWP.go ok; rfl) | (apply And.intro; first | omega | (unfold inI; omega)) | (((with_reducible apply z14; omega)); intro _) | ((first | apply z9 | apply z77) <;> intro _) | (((apply z6 [0, 1] [] [] (hf l[k] (List.getElem_mem _) t hk2); rfl; (focus ((repeat' first | exact z4 | apply z5) <;> rfl)))); rfl; rfl; rfl; rfl; rfl; (focus ((repeat' first | exact z13 | apply z11) <;> exact z23 rfl rfl)); (exact .inl rfl))) <;> conv => whnf)
  · rename_i h hkl h1
    rw [List.drop_eq_getElem_cons hkl, idxS, if_pos h1] at hk3
    rw [hk3]
    exact z45 [0, 1] (by decide) rfl rfl rfl ⟨z17 rfl rfl, z17 rfl rfl, trivial⟩
  · rename_i h hkl h1
    rw [List.drop_eq_getElem_cons hkl, idxS, if_neg (by rw [h1]; simp)] at hk3
    exact z61 (k + 1, nx l[k] t) [0, 1] ⟨by dsimp only; omega, hok _ _ hk2 h1, hk3⟩ (by dsimp only; omega) ⟨rfl, by decide, rfl, ⟨⟨rfl, rfl⟩, ⟨rfl, rfl⟩, ⟨rfl, rfl⟩, ⟨rfl, rfl⟩, trivial⟩, ⟨z17 rfl rfl, z17 rfl rfl, trivial⟩⟩
  · rw [List.drop_eq_nil_of_le (by omega), idxS] at hk3
    rw [hk3]
    exact z45 [0, 1] (by decide) rfl rfl rfl ⟨z17 rfl rfl, z17 rfl rfl, trivial⟩
theorem containsS_br {d : Int} (l : List Tree) (hl : l.length ≤ maxLen) (p : Tree → Int → Bool) (nx : Tree → Int → Int) (okS : Int → Prop) (hok : ∀ x s, okS s → p x s = false → okS (nx x s)) (f : FuncId) (s : Int) (h0 : okS s)
    (hf : ∀ x ∈ l, ∀ s, okS s → CallsA Tryz.prog f [z39 Tree.cs' x, .pt [.int d], .ptr 1 none 0] [.cells 1 [[.int s]], .cells 1 [[.ptr 0 none 0]]] (.bool (p x s)) [.cells 1 [[.int (nx x s)]], .cells 1 [[.ptr 0 none 0]]]) :
    CallsA Tryz.prog 187 [lst 3 Tree.cs' l, .fn (.func f) [] [.pt [.int d], .ptr 1 none 0]] [.cells 1 [[.int s]], .cells 1 [[.ptr 0 none 0]]] (.bool (decide (0 ≤ (idxS p nx l s 0).1))) [.cells 1 [[.int (idxS p nx l s 0).2]], .cells 1 [[.ptr 0 none 0]]] := by
  refine z12 z20 Tryz.func187 rfl rfl 9 Tryz.ntmps187 (by simp) ?_
  repeat' ((first | (apply AWP.go ok; rfl) | (((apply z6 [0, 1] [] [] (containsS_br_idx (d := d) l hl p nx okS hok f s h0 hf); rfl; (focus ((repeat' first | exact z4 | apply z5) <;> rfl)))); rfl; rfl; rfl; rfl; rfl; (focus ((repeat' first | exact z13 | apply z11) <;> exact z23 rfl rfl)); (exact .inl rfl))) <;> conv => whnf)
  exact z45 [0, 1] (by decide) rfl rfl rfl ⟨z17 rfl rfl, z17 rfl rfl, trivial⟩

theorem branches_ok (k : Int) : CallsA Tryz.prog 186 [.int k] [] (.int (if k = 1 ∨ k = 2 then 0 else if k = 4 ∨ k = 5 ∨ k = 7 ∨ k = 10 then 2 else 1)) [] := by
  refine z12 z20 Tryz.func186 rfl rfl 12 Tryz.ntmps186 (by simp) ?_
  repeat' ((first | (apply AWP.go ok; rfl) | ((apply z9) <;> intro _)) <;> conv => whnf)
  all_goals (refine z37 rfl rfl ?_; first | (rw [if_pos (by omega)]; rfl) | (rw [if_neg (by omega), if_pos (by omega)]; rfl) | (rw [if_neg (by omega), if_neg (by omega)]; rfl))

theorem walkB_ok (t : Tree) : t.mx → ∀ d n : Int, 0 ≤ d → d ≤ 100 → 0 ≤ n → n ≤ 12 → CallsA Tryz.prog 126 [z39 Tree.cs' t, .int d, .ptr 0 none 0] [.cells 1 [[.int n]]] (.bool (t.walkB d n).2) [.cells 1 [[.int (t.walkB d n).1]]] := by
  induction t using Tree.ind with | h t ih => ?_
  intro hm d n hd0 hd1 h0 h1
  rw [Tree.mx_iff] at hm
  have hs := Tree.walkB_spec.1
  have hk : d ≤ 6 → n + 1 ≤ 12 → CallsA Tryz.prog 187 [lst 3 Tree.cs' t.kids, .fn (.func 188) [] [.pt [.int d], .ptr 1 none 0]] [.cells 1 [[.int (n + 1)]], .cells 1 [[.ptr 0 none 0]]] (.bool (!(Tree.walkBs t.kids (d + 1) (n + 1)).2)) [.cells 1 [[.int (Tree.walkBs t.kids (d + 1) (n + 1)).1]], .cells 1 [[.ptr 0 none 0]]] := by
    intro hd hn
    have h := containsS_br (d := d) t.kids hm.1 (fun x s => !(x.walkB (d + 1) s).2) (fun x s => (x.walkB (d + 1) s).1) (fun s => 0 ≤ s ∧ s ≤ 12) (fun x s h1 h2 => by
      obtain ⟨a1, a2, a3, a4⟩ := hs x (d + 1) s h1.1 h1.2
      have h3 : (x.walkB (d + 1) s).2 = true := by simpa using h2
      have := (a1.1 h3).2
      rw [← a2 h3] at this
      exact ⟨by omega, this⟩) 188 (n + 1) ⟨by omega, by omega⟩ (fun x hx s h => by
        have hc := ih x hx (hm.2 x hx) (d + 1) s (by omega) (by omega) h.1 h.2
        refine z12 z20 Tryz.func188 rfl rfl 11 Tryz.ntmps188 (by simp) ?_
        repeat' ((first | (apply AWP.go ok; rfl) | (apply And.intro; (unfold inI; omega)) | (((apply z6 [0] [] [] (hc); rfl; (focus ((repeat' first | exact z4 | apply z5) <;> rfl)))); rfl; rfl; rfl; rfl; rfl; (focus ((repeat' first | exact z13 | apply z11) <;> exact z23 rfl rfl)); (exact .inl rfl))) <;> conv => whnf)
        exact z45 [0, 1] (by decide) rfl rfl rfl ⟨z17 rfl rfl, z17 rfl rfl, trivial⟩)
    rw [Tree.walkBs_idx (d + 1) t.kids (n + 1) 0, Bool.not_not]
    exact h
  have hk2 := fun h1 h2 => by
    have := hk h1 h2
    unfold lst at this
    rw [← Tree.cs_eq] at this
    exact this
  refine z12 z20 Tryz.func126 rfl rfl 51 Tryz.ntmps126 (by simp) ?_
  repeat' ((first | (apply AWP.go ok; rfl) | (apply z41; kernel_rfl) | (apply And.intro; (unfold inI; omega)) | ((first | apply z9 | apply z40 | apply z89) <;> intro _) | (apply z10 (in_ok _ 1 11); rfl; rfl) | (apply z10 (in_ok _ 0 2); rfl; rfl) | (apply z10 (in_ok _ 0 0); rfl; rfl) | (apply z10 (branches_ok t.kind); rfl; rfl) | (((apply z6 [0, 3] [2] [] (hk2 (by omega) (by omega)); rfl; (focus ((repeat' first | exact z4 | apply z5) <;> rfl)))); rfl; rfl; rfl; rfl; rfl; (focus ((repeat' first | exact z13 | apply z11) <;> exact z23 rfl rfl)); ((refine .inr ⟨rfl, ?_⟩; repeat' first | exact True.intro | apply And.intro | exact rfl)))) <;> conv => whnf)
  all_goals first
    | (have e : t.walkB d n = (n + 1, false) := by
        rw [Tree.walkB_eq, if_neg]
        clear hk hk2 hs ih
        rintro ⟨c1, c2, c3, c4, c5⟩
        try simp only [btw_no, btw_iff] at *
        unfold mostB at c4
        unfold arityB at c5
        grind
       rw [e]
       exact z45 [0] (by decide) rfl rfl rfl ⟨z17 rfl rfl, trivial⟩)
    | (have e : t.walkB d n = Tree.walkBs t.kids (d + 1) (n + 1) := by
        rw [Tree.walkB_eq, if_pos]
        clear hk hk2 hs ih
        try simp only [btw_no, btw_iff] at *
        unfold mostB arityB
        grind
       rw [e]
       refine z45 [0] (by decide) rfl rfl ?_ ⟨z17 rfl rfl, trivial⟩
       show AC.raw (.bool (!!_)) = _
       rw [Bool.not_not]; rfl)
end Go.Proofs.YtppafngcahgagaaGreat

namespace Go.Proofs.YtppafngcahgagaaGreat
open Go.Gl
attribute [local irreducible] z29 AWP z51 z62 z55

theorem implBrValid_ok (t : Tree) (hm : t.mx) : CallsA Tryz.prog 56 [z39 Tree.cs' t] [] (.bool t.brB) [] := by
  have hk := walkB_ok t hm 1 0 (by omega) (by omega) (by omega) (by omega)
  refine z12 z20 Tryz.func56 rfl rfl 6 Tryz.ntmps56 (by simp) ?_
  repeat' ((first | (apply AWP.go ok; rfl) | (((apply z6 [1] [] [] (hk); rfl; (focus ((repeat' first | exact z4 | apply z5) <;> rfl)))); rfl; rfl; rfl; rfl; rfl; (focus ((repeat' first | exact z13 | apply z11) <;> exact z23 rfl rfl)); (exact .inl rfl))) <;> conv => whnf)
  exact z19 rfl rfl

theorem l11Arity_ok (k : Int) : CallsA Tryz.prog 174 [.int k] [] (.int (arityB k)) [] := by
  refine z12 z20 Tryz.func174 rfl rfl 18 Tryz.ntmps174 (by simp) ?_
  repeat' ((first | (apply AWP.go ok; rfl) | ((apply z9) <;> intro _)) <;> conv => whnf)
  all_goals (refine z37 rfl rfl ?_; unfold arityB; first | (rw [if_pos (by omega)]; rfl) | (rw [if_neg (by omega), if_pos (by omega)]; rfl) | (rw [if_neg (by omega), if_neg (by omega), if_pos (by omega)]; rfl) | (rw [if_neg (by omega), if_neg (by omega), if_neg (by omega)]; rfl))

theorem shapeBs_all (l : List Tree) (d : Int) : Tree.shapeBBs l d = l.all (fun t => t.shapeB d) := by
  induction l with
  | nil => rfl
  | cons t l ih => simp [Tree.shapeBBs, ih]
theorem shapeB_eq (t : Tree) (d : Int) : t.shapeB d = (decide (1 ≤ d ∧ (t.kids.length : Int) = arityB t.kind ∧ 0 ≤ t.val ∧ t.val ≤ mostB t.kind) && t.kids.all fun t => t.shapeB (d - 1)) := by
  cases t; simp only [Tree.shapeB, Tree.kids, Tree.kind, Tree.val, shapeBs_all]; rfl

theorem l11Shape_ok (t : Tree) : t.mx → ∀ d : Int, -100 ≤ d → d ≤ 100 → CallsA Tryz.prog 142 [z39 Tree.cs' t, .int d] [] (.bool (t.shapeB d)) [] := by
  induction t using Tree.ind with | h t ih => ?_
  intro hm d h0 h1
  rw [Tree.mx_iff] at hm
  have hl := hm.1
  unfold maxLen at hl
  rw [Tree.arg_eq, shapeB_eq]
  refine z12 z20 Tryz.func142 rfl rfl 51 Tryz.ntmps142 (by simp) ?_
  repeat' ((first | (apply AWP.go ok; rfl) | (apply z41; kernel_rfl) | ((first | apply z9 | apply z40) <;> intro _) | (apply z10 (l11Arity_ok _); rfl; rfl)) <;> conv => whnf)
  all_goals first
    | (refine z19 rfl ?_
       rw [decide_eq_false]
       · rfl
       · clear ih
         rintro ⟨c1, c2, c3, c4⟩
         unfold mostB at c4
         grind)
    | (have hg : decide (1 ≤ d ∧ (t.kids.length : Int) = arityB t.kind ∧ 0 ≤ t.val ∧ t.val ≤ mostB t.kind) = true := by
         clear ih
         refine decide_eq_true ?_
         unfold mostB
         grind
       rw [hg, Bool.true_and]
       refine z73 (fun k : Nat => ([(1, .int d), (2, .ptr 0 none 0), (5, .int k)], [.cells 3 [[.int t.kind, .int t.val, lst 3 Tree.cs' t.kids]]])) (fun k => k ≤ t.kids.length ∧ (t.kids.all fun t => t.shapeB (d - 1)) = (t.kids.drop k).all fun t => t.shapeB (d - 1)) (fun k => t.kids.length - k) 0 ⟨by omega, rfl⟩ ⟨[0], rfl, by decide, rfl, by repeat' (first | exact True.intro | exact ⟨rfl, rfl⟩ | apply And.intro), by repeat' (first | exact True.intro | exact z17 rfl rfl | apply And.intro)⟩ ?_
       intro k hk
       repeat' ((first | (apply AWP.go ok; rfl) | (apply And.intro; first | omega | (unfold inI; omega)) | (((with_reducible apply z14; omega)); intro _) | ((first | apply z9 | apply z89) <;> intro _) | (apply z10 (ih t.kids[k] (List.getElem_mem _) (hm.2 _ (List.getElem_mem _)) (d - 1) (by omega) (by omega)); rfl; rfl)) <;> conv => whnf)
       · rename_i h1
         exact z19 rfl (by rw [hk.2, z113 _ _ _ (by assumption)]; simp [h1])
       · rename_i h1
         exact z61 (k + 1) [0] ⟨by omega, by rw [hk.2, z113 _ _ _ (by assumption)]; simp [h1]⟩ (by omega) ⟨rfl, by decide, rfl, by repeat' (first | exact True.intro | exact ⟨rfl, rfl⟩ | apply And.intro), by repeat' (first | exact True.intro | exact z17 rfl rfl | apply And.intro)⟩
       · exact z19 rfl (by rw [hk.2, z107 _ _ _ (by omega)]))

/-- below a shape of depth d lie at most 2^d - 1 nodes -/
theorem countB_le (t : Tree) : ∀ d n : Nat, t.shapeB d = true → t.count n ≤ 2 ^ d - 1 := by
  induction t using Tree.ind with | h t ih => ?_
  intro d n h
  rw [shapeB_eq, Bool.and_eq_true, decide_eq_true_eq] at h
  obtain ⟨⟨h1, h2, _, _⟩, h3⟩ := h
  rw [List.all_eq_true] at h3
  obtain ⟨d, rfl⟩ : ∃ e, d = e + 1 := ⟨d - 1, by omega⟩
  have e : ((d + 1 : Nat) : Int) - 1 = (d : Nat) := by omega
  rw [e] at h3
  rw [count_eq]
  have hp : (1 : Int) ≤ 2 ^ d := by exact_mod_cast Nat.one_le_two_pow
  have hq : ((2 : Int) ^ (d + 1)) = 2 * 2 ^ d := by rw [Int.pow_succ]; omega
  split
  · rename_i hn
    obtain ⟨n, rfl⟩ : ∃ e, n = e + 1 := ⟨n - 1, by omega⟩
    have e : ((n + 1 : Nat) : Int) - 1 = (n : Nat) := by omega
    rw [e]
    have hl : (t.kids.length : Int) ≤ 2 := by rw [h2]; unfold arityB; grind
    have hk : ∀ u ∈ t.kids, u.count n ≤ 2 ^ d - 1 := fun u hu => ih u hu d n (h3 u hu)
    match hkk : t.kids with
    | [] => simp only [List.map_nil, List.sum_nil]; omega
    | [a] =>
      have := hk a (by simp [hkk])
      simp only [List.map_cons, List.map_nil, List.sum_cons, List.sum_nil]; omega
    | [a, b] =>
      have := hk a (by simp [hkk])
      have := hk b (by simp [hkk])
      simp only [List.map_cons, List.map_nil, List.sum_cons, List.sum_nil]; omega
    | a :: b :: c :: r => rw [hkk] at hl; simp only [List.length_cons] at hl; omega
  · omega

theorem countB_bound (t : Tree) (e d : Int) (he : e ≤ 50) (hd : 0 ≤ d) (h : t.shapeB e = true) : t.count d ≤ 2 ^ 50 := by
  have h1 : 1 ≤ e := by
    rw [shapeB_eq, Bool.and_eq_true, decide_eq_true_eq] at h; exact h.1.1
  obtain ⟨n, rfl⟩ := Int.eq_ofNat_of_zero_le (show 0 ≤ e by omega)
  obtain ⟨m, rfl⟩ := Int.eq_ofNat_of_zero_le hd
  have h2 := countB_le t n m h
  have h4 : (2 : Int) ^ n ≤ 2 ^ 50 := by exact_mod_cast Nat.pow_le_pow_right (by omega) (by omega)
  omega

theorem l11Count_ok (t : Tree) : t.mx → ∀ e d : Int, e ≤ 50 → 0 ≤ d → d ≤ 50 → t.shapeB e = true → CallsA Tryz.prog 143 [z39 Tree.cs' t, .int d] [] (.int (t.count d)) [] := by
  induction t using Tree.ind with | h t ih => ?_
  intro hm e d h0 h1 h2 hs
  rw [Tree.mx_iff] at hm
  rw [shapeB_eq, Bool.and_eq_true, decide_eq_true_eq, List.all_eq_true] at hs
  obtain ⟨⟨hs1, hs2, _, _⟩, hs3⟩ := hs
  have hl : (t.kids.length : Int) ≤ 2 := by rw [hs2]; unfold arityB; grind
  rw [Tree.arg_eq, count_eq]
  have hb : 0 < d → ∀ k, k ≤ t.kids.length → 0 ≤ ((t.kids.take k).map fun t => t.count (d - 1)).sum ∧ ((t.kids.take k).map fun t => t.count (d - 1)).sum ≤ k * 2 ^ 50 := by
    intro hd k
    induction k with
    | zero => intro _; simp
    | succ k ihk =>
      intro hk
      have h1 := ihk (by omega)
      rw [sum_step _ _ _ (by omega)]
      have h2 := countB_bound t.kids[k] (e - 1) (d - 1) (by omega) (by omega) (hs3 _ (List.getElem_mem _))
      have h3 := Tree.count_pos.1 t.kids[k] (d - 1)
      omega
  refine z12 z20 Tryz.func143 rfl rfl 29 Tryz.ntmps143 (by simp) ?_
  repeat' (((apply AWP.go ok; rfl)) <;> conv => whnf)
  by_cases hd : 0 < d
  · rw [if_pos hd]
    refine z73 (fun k : Nat => ([(1, .int d), (2, .ptr 0 none 0), (5, .int (1 + ((t.kids.take k).map fun t => t.count (d - 1)).sum)), (6, .int k)], [.cells 3 [[.int t.kind, .int t.val, lst 3 Tree.cs' t.kids]]])) (fun k => k ≤ t.kids.length) (fun k => t.kids.length - k) 0 (by omega) ⟨[0], rfl, by decide, rfl, by repeat' (first | exact True.intro | exact ⟨rfl, rfl⟩ | apply And.intro), by repeat' (first | exact True.intro | exact z17 rfl rfl | apply And.intro)⟩ ?_
    intro k hk
    have hbk := hb hd k hk
    have hbk1 := fun h => hb hd (k + 1) h
    have hss := fun h => sum_step (fun t => t.count (d - 1)) t.kids k h
    repeat' ((first | (apply AWP.go ok; rfl) | (apply And.intro; first | omega | (unfold inI; omega)) | (((with_reducible apply z14; omega)); intro _) | ((apply z9) <;> intro _) | (apply z10 (ih t.kids[k] (List.getElem_mem _) (hm.2 _ (List.getElem_mem _)) (e - 1) (d - 1) (by omega) (by omega) (by omega) (hs3 _ (List.getElem_mem _))); rfl; rfl)) <;> conv => whnf)
    · have e1 := hss ‹_›
      have e2 := hbk1 (by omega)
      refine And.intro (by unfold inI; omega) ?_
      conv => whnf
      repeat' ((first | (apply AWP.go ok; rfl) | (apply And.intro; (unfold inI; omega))) <;> conv => whnf)
      exact z61 (k + 1) [0] (by omega) (by omega) ⟨rfl, by decide, rfl, ⟨⟨rfl, rfl⟩, ⟨rfl, rfl⟩, ⟨rfl, by rw [e1, ← Int.add_assoc]; rfl⟩, ⟨rfl, rfl⟩, trivial⟩, ⟨z17 rfl rfl, trivial⟩⟩
    · omega
    · obtain rfl : k = t.kids.length := by omega
      exact z37 rfl rfl (by rw [List.take_length]; rfl)
  · rw [if_neg hd]
    refine z73 (fun k : Nat => ([(1, .int d), (2, .ptr 0 none 0), (5, .int 1), (6, .int k)], [.cells 3 [[.int t.kind, .int t.val, lst 3 Tree.cs' t.kids]]])) (fun k => k ≤ t.kids.length) (fun k => t.kids.length - k) 0 (by omega) ⟨[0], rfl, by decide, rfl, by repeat' (first | exact True.intro | exact ⟨rfl, rfl⟩ | apply And.intro), by repeat' (first | exact True.intro | exact z17 rfl rfl | apply And.intro)⟩ ?_
    intro k hk
    repeat' ((first | (apply AWP.go ok; rfl) | (apply And.intro; omega) | (((with_reducible apply z14; omega)); intro _) | ((apply z9) <;> intro _)) <;> conv => whnf)
    · omega
    · exact z37 rfl rfl rfl
    · exact z37 rfl rfl rfl

theorem specBrValid_ok (t : Tree) (hm : t.mx) : CallsA Tryz.prog 60 [z39 Tree.cs' t] [] (.bool t.brB) [] := by
  rw [Tree.brB_eq]
  refine z12 z20 Tryz.func60 rfl rfl 10 Tryz.ntmps60 (by simp) ?_
  repeat' ((first | (apply AWP.go ok; rfl) | ((apply z77) <;> intro _) | (apply z10 (l11Shape_ok t hm 6 (by omega) (by omega)); rfl; rfl) | (apply z10 (l11Count_ok t hm 6 6 (by omega) (by omega) (by omega) (by assumption)); rfl; rfl)) <;> conv => whnf)
  all_goals (refine z19 rfl ?_; (simp [*]; done))

end Go.Proofs.YtppafngcahgagaaGreat

namespace Go.Proofs.YtppafngcahgagaaGreat
open Go.Gl
attribute [local irreducible] z29 AWP z51 z62 z55 RetS z76

set_option maxHeartbeats 1600000 in
theorem l11Random_ok (bs : List Int) (hb : BytesOk bs) : ∀ (n : Nat) (d p : Int), d ≤ n + 1 → n ≤ 100 → 0 ≤ d → 0 ≤ p → p + drK n ≤ 1000000000 → ∃ (t : Tree) (p' : Int), (t.sz ≤ drS n ∧ p ≤ p' ∧ p' ≤ p + drK n) ∧ CallsA Tryz.prog 113 [.ptr 0 none 0, .int d] [rdO bs p] (z39 Tree.cs' t) [rdO bs p'] := by
  intro n
  induction n with
  | zero =>
    intro d p hd hd1 hd0 hp hq
    rw [drK] at hq ⊢
    obtain ⟨v0, ⟨l0, u0⟩, c0⟩ := z53 bs hb p 8 (by omega) (by omega) (by omega)
    by_cases h0 : v0 = 0
    · subst h0
      refine ⟨leaf 1 0, p + 1, ⟨by rw [z72]; omega, by omega, by omega⟩, ?_⟩
      refine z15 z20 Tryz.func113 rfl rfl 43 Tryz.ntmps113 (by simp) ?_
      repeat' ((first | (apply AWP.go ok; rfl) | ((apply z9) <;> intro _) | (((apply z6 [0] [] [] (c0); rfl; (focus ((repeat' first | exact z4 | apply z5) <;> rfl)))); rfl; rfl; rfl; rfl; rfl; (focus ((repeat' first | exact z13 | apply z11) <;> exact z23 rfl rfl)); (exact .inl rfl))) <;> conv => whnf)
      all_goals first | (exfalso; omega) | skip
      all_goals (refine RetS.lay [0] [] rfl rfl rfl ?_; refine RetS.done ?_ ?_ <;> (repeat' (first | exact LocLe.refl _ | exact z38 | exact F2.nil | apply F2.cons | apply ObjLe.box | apply z50)))
    · obtain ⟨v1, m1, c1⟩ := z78 bs hb (p + 1) (by omega) (by omega) [0, 1, 0, 2] (by decide) (by decide)
      refine ⟨leaf 2 v1, p + 1 + 1, ⟨by rw [z72]; omega, by omega, by omega⟩, ?_⟩
      refine z15 z20 Tryz.func113 rfl rfl 43 Tryz.ntmps113 (by simp) ?_
      repeat' ((first | (apply AWP.go ok; rfl) | ((apply z9) <;> intro _) | ((first | (apply z6 [0] [] [] (c0); rfl; (focus ((repeat' first | exact z4 | apply z5) <;> rfl))) | (apply z6 [0, 2] [] [] (c1); rfl; (focus ((repeat' first | exact z4 | apply z5) <;> rfl)))); rfl; rfl; rfl; rfl; rfl; (focus ((repeat' first | exact z13 | apply z11) <;> first | exact z23 rfl rfl | (refine z22 ?_; ((exact z8 fun _ => rfl))))); (exact .inl rfl))) <;> conv => whnf)
      all_goals first | (exfalso; omega) | skip
      all_goals (refine RetS.lay [0] [] rfl rfl rfl ?_; refine RetS.done ?_ ?_ <;> (repeat' (first | exact LocLe.refl _ | exact z38 | exact F2.nil | apply F2.cons | apply ObjLe.box | apply z50)))
  | succ n ih =>
    intro d p hd hd1 hd0 hp hq
    have hK := drK_pos n
    by_cases hlt : d < 2
    · obtain ⟨t, p', h1, h2⟩ := ih d p (by omega) (by omega) hd0 hp (by rw [drK] at hq; omega)
      exact ⟨t, p', ⟨by rw [drS]; omega, h1.2.1, by rw [drK]; omega⟩, h2⟩
    rw [drK] at hq
    rw [drK, drS]
    obtain ⟨w, ⟨lw, uw⟩, cw⟩ := z53 bs hb p 5 (by omega) (by omega) (by omega)
    by_cases hw : w = 0
    · subst hw
      obtain ⟨v0, ⟨l0, u0⟩, c0⟩ := z53 bs hb (p + 1) 8 (by omega) (by omega) (by omega)
      by_cases h0 : v0 = 0
      · subst h0
        refine ⟨leaf 1 0, p + 1 + 1, ⟨by rw [z72]; omega, by omega, by omega⟩, ?_⟩
        refine z15 z20 Tryz.func113 rfl rfl 43 Tryz.ntmps113 (by simp) ?_
        repeat' ((first | (apply AWP.go ok; rfl) | ((apply z9) <;> intro _) | ((first | (apply z6 [0] [] [] (cw); rfl; (focus ((repeat' first | exact z4 | apply z5) <;> rfl))) | (apply z6 [0] [] [] (c0); rfl; (focus ((repeat' first | exact z4 | apply z5) <;> rfl)))); rfl; rfl; rfl; rfl; rfl; (focus ((repeat' first | exact z13 | apply z11) <;> exact z23 rfl rfl)); (exact .inl rfl))) <;> conv => whnf)
        all_goals first | (exfalso; omega) | skip
        all_goals (refine RetS.lay [0] [] rfl rfl rfl ?_; refine RetS.done ?_ ?_ <;> (repeat' (first | exact LocLe.refl _ | exact z38 | exact F2.nil | apply F2.cons | apply ObjLe.box | apply z50)))
      · obtain ⟨v1, m1, c1⟩ := z78 bs hb (p + 1 + 1) (by omega) (by omega) [0, 1, 0, 2] (by decide) (by decide)
        refine ⟨leaf 2 v1, p + 1 + 1 + 1, ⟨by rw [z72]; omega, by omega, by omega⟩, ?_⟩
        refine z15 z20 Tryz.func113 rfl rfl 43 Tryz.ntmps113 (by simp) ?_
        repeat' ((first | (apply AWP.go ok; rfl) | ((apply z9) <;> intro _) | ((first | (apply z6 [0] [] [] (cw); rfl; (focus ((repeat' first | exact z4 | apply z5) <;> rfl))) | (apply z6 [0] [] [] (c0); rfl; (focus ((repeat' first | exact z4 | apply z5) <;> rfl))) | (apply z6 [0, 2] [] [] (c1); rfl; (focus ((repeat' first | exact z4 | apply z5) <;> rfl)))); rfl; rfl; rfl; rfl; rfl; (focus ((repeat' first | exact z13 | apply z11) <;> first | exact z23 rfl rfl | (refine z22 ?_; ((exact z8 fun _ => rfl))))); (exact .inl rfl))) <;> conv => whnf)
        all_goals first | (exfalso; omega) | skip
        all_goals (refine RetS.lay [0] [] rfl rfl rfl ?_; refine RetS.done ?_ ?_ <;> (repeat' (first | exact LocLe.refl _ | exact z38 | exact F2.nil | apply F2.cons | apply ObjLe.box | apply z50)))
    · obtain ⟨kd, mk, ck⟩ := z78 bs hb (p + 1) (by omega) (by omega) [7, 10, 8, 11, 6, 9, 3, 4, 5] (by decide) (by decide)
      have ca := l11Arity_ok kd
      have ham : ∃ m : Nat, arityB kd = m ∧ m ≤ 2 := by
        simp only [List.mem_cons, List.not_mem_nil, or_false] at mk
        unfold arityB
        rcases mk with rfl | rfl | rfl | rfl | rfl | rfl | rfl | rfl | rfl
        all_goals first | exact ⟨2, rfl, by omega⟩ | exact ⟨1, rfl, by omega⟩
      obtain ⟨m, em, hm⟩ := ham
      rw [em] at ca
      obtain ⟨ks, pf, hks, hp0, hst, hpf⟩ := seq_ex (fun k q (t : Tree) q' => t.sz ≤ drS n ∧ CallsA Tryz.prog 113 [.ptr 0 none 0, .int (d - 1)] [rdO bs q] (z39 Tree.cs' t) [rdO bs q']) (p + 1 + 1) (drK n) m (fun k q hk h1 h2 => by
        have : drK n * k ≤ drK n := by
          have : k = 0 ∨ k = 1 := by omega
          rcases this with rfl | rfl <;> simp <;> omega
        obtain ⟨t, q', ⟨a1, a2, a3⟩, a4⟩ := ih (d - 1) q (by omega) (by omega) (by omega) (by omega) (by omega)
        exact ⟨t, q', ⟨a1, a4⟩, a2, a3⟩)
      have hpm := hpf m (Nat.le_refl _)
      have hKm : drK n * m ≤ 2 * drK n := by
        have : m = 0 ∨ m = 1 ∨ m = 2 := by omega
        rcases this with rfl | rfl | rfl <;> simp <;> omega
      have hsum : (ks.map Tree.sz).sum ≤ 2 * drS n := by
        have : ∀ (l : List Tree), (∀ t ∈ l, t.sz ≤ drS n) → (l.map Tree.sz).sum ≤ l.length * drS n := by
          intro l
          induction l with
          | nil => intro _; simp
          | cons t l ih =>
            intro h
            have h1 := h t (by simp)
            have h2 := ih fun u hu => h u (by simp [hu])
            simp only [List.map_cons, List.sum_cons, List.length_cons, Nat.add_mul]
            omega
        have h1 := this ks fun t ht => by
          obtain ⟨i, hi, rfl⟩ := List.mem_iff_getElem.1 ht
          exact (hst i hi).1
        have h2 : ks.length * drS n ≤ 2 * drS n := Nat.mul_le_mul_right _ (by omega)
        omega
      refine ⟨.mk kd 0 ks, pf m, ⟨by rw [mk_sz]; omega, by omega, by omega⟩, ?_⟩
      refine z15 z20 Tryz.func113 rfl rfl 43 Tryz.ntmps113 (by simp) ?_
      rw [← hp0] at ck
      repeat' ((first | (apply AWP.go ok; rfl) | ((apply z9) <;> intro _) | (apply z10 (ca); rfl; rfl) | ((first | (apply z6 [0] [] [] (cw); rfl; (focus ((repeat' first | exact z4 | apply z5) <;> rfl))) | (apply z6 [0, 2] [] [] (ck); rfl; (focus ((repeat' first | exact z4 | apply z5) <;> rfl)))); rfl; rfl; rfl; rfl; rfl; (focus ((repeat' first | exact z13 | apply z11) <;> first | exact z23 rfl rfl | (refine z22 ?_; ((exact z8 fun _ => rfl))))); (exact .inl rfl))) <;> conv => whnf)
      all_goals first | (exfalso; omega) | skip
      refine AWP.reach (Reach.empty 3 rfl) ?_
      refine z108 (fun k : Nat => ([(0, .ptr 0 none 0), (1, .int d), (4, .ptr 1 none 0), (5, .ptr 2 none 0), (6, .int (m - k))], [rdO bs (pf k), .cells 3 [[.int 0, .int 0, .nils]], .cells 3 [[.int kd, .int 0, .sref 3 0 k]], .cells 3 ((ks.take k).map Tree.cs')])) (fun k => k ≤ m) (fun k => m - k) 0 (by omega) (by refine SealW.reach [0, 1, 3, 4] [] rfl rfl rfl rfl ?_ ?_ <;> (repeat' (first | exact LocLe.refl _ | exact z69 | exact F2.nil | apply F2.cons | apply ObjLe.box | ((refine z25 rfl ?_ ?_); (focus ((repeat' (exact z52)); done))) | exact True.intro | apply And.intro))) ?_
      intro k hk
      by_cases hkm : k < m
      · have hc := (hst k (by omega)).2
        have hkl : k < ks.length := by omega
        rw [Tree.arg_eq] at hc
        repeat' ((first | (apply AWP.go ok; rfl) | (apply z41; kernel_rfl) | (apply And.intro; first | (unfold inI; omega) | ((try dsimp only); simp only [List.length_map, List.length_take, List.length_append, List.length_replicate, List.length_cons, List.length_nil]; omega) | exact ⟨rfl, z24 rfl z30⟩) | ((apply z9) <;> intro _) | (((apply z6 [0] [] [] (hc); rfl; (focus ((repeat' first | exact z4 | apply z5) <;> rfl)))); rfl; rfl; rfl; rfl; rfl; (focus ((repeat' first | exact z13 | apply z11) <;> exact z23 rfl rfl)); (exact .inl rfl))) <;> conv => whnf)
        all_goals first | (exfalso; omega) | skip
        refine z58 (k + 1) (by omega) (by omega) (by refine SealW.reach [0, 1, 2, 5] [] rfl rfl rfl rfl ?_ ?_ <;> (repeat' (first | exact LocLe.refl _ | exact F2.nil | apply F2.cons | exact f22_cs | (refine int_le ?_; omega) | apply ObjLe.box | ((refine z34 rfl ?_ ?_); (focus ((repeat' (first | exact z8 (fun _ => rfl) | apply z28)); done))) | (refine z87 (by omega) (by omega) ?_) | (apply z74; rfl) | exact True.intro | apply And.intro)))
      · have : k = m := by omega
        subst this
        repeat' ((first | (apply AWP.go ok; rfl) | (apply And.intro; omega) | ((apply z9) <;> intro _)) <;> conv => whnf)
        all_goals first | (exfalso; omega) | skip
        all_goals (refine RetS.lay [0] [3] rfl rfl rfl ?_; refine RetS.done ?_ ?_ <;> (repeat' (first | exact LocLe.refl _ | exact F2.nil | apply F2.cons | (refine kids_end_le ?_; omega) | apply ObjLe.box | ((apply z36 rfl rfl rfl); (focus ((repeat ((exact z32 (fun _ => rfl) _))); done)); (focus (((simp; omega)); done))) | apply z50)))

theorem l11Formula_ok (bs : List Int) (hb : BytesOk bs) (p : Int) (hp : few p) : ∃ (t : Tree) (p' : Int), (t.sz ≤ 20 ∧ p ≤ p' ∧ p' ≤ p + 100) ∧ CallsA Tryz.prog 51 [.ptr 0 none 0] [rdO bs p] (z39 Tree.cs' t) [rdO bs p'] := by
  obtain ⟨d, md, cd⟩ := z78 bs hb p (by omega) (by omega) [3, 2, 4, 3] (by decide) (by decide)
  have hd : 0 ≤ d ∧ d ≤ 4 := by simp at md; omega
  obtain ⟨t, q, ⟨t1, t2, t3⟩, ct⟩ := l11Random_ok bs hb 3 d (p + 1) (by omega) (by omega) (by omega) (by omega) (by simp only [drK]; omega)
  simp only [drK] at t3
  simp only [drS] at t1
  have cv := specBrValid_ok t (mx_of_sz t (by unfold maxLen; omega))
  by_cases hv : t.brB = true
  · refine ⟨t, q, ⟨by omega, by omega, by omega⟩, ?_⟩
    rw [hv] at cv
    rw [Tree.arg_eq] at *
    refine z15 z20 Tryz.func51 rfl rfl 15 Tryz.ntmps51 (by simp) ?_
    repeat' ((first | (apply AWP.go ok; rfl) | (apply z10 (cv); rfl; rfl) | ((first | (apply z6 [0, 2] [] [] (cd); rfl; (focus ((repeat' first | exact z4 | apply z5) <;> rfl))) | (apply z6 [0] [] [] (ct); rfl; (focus ((repeat' first | exact z4 | apply z5) <;> rfl)))); rfl; rfl; rfl; rfl; rfl; (focus ((repeat' first | exact z13 | apply z11) <;> first | exact z23 rfl rfl | (refine z22 ?_; ((exact z8 fun _ => rfl))))); (exact .inl rfl))) <;> conv => whnf)
    all_goals skip
    all_goals (refine RetS.lay [0] [] rfl rfl rfl ?_; refine RetS.done ?_ ?_ <;> (repeat' (first | exact LocLe.refl _ | exact F2.nil | apply F2.cons | apply ObjLe.box)))
  · refine ⟨.mk 8 0 [leaf 2 0], q, ⟨by rw [mk_sz]; simp [z72], by omega, by omega⟩, ?_⟩
    rw [(Bool.not_eq_true _).mp hv] at cv
    rw [Tree.arg_eq] at cv ct
    refine z15 z20 Tryz.func51 rfl rfl 15 Tryz.ntmps51 (by simp) ?_
    repeat' ((first | (apply AWP.go ok; rfl) | (apply z10 (cv); rfl; rfl) | ((first | (apply z6 [0, 2] [] [] (cd); rfl; (focus ((repeat' first | exact z4 | apply z5) <;> rfl))) | (apply z6 [0] [] [] (ct); rfl; (focus ((repeat' first | exact z4 | apply z5) <;> rfl)))); rfl; rfl; rfl; rfl; rfl; (focus ((repeat' first | exact z13 | apply z11) <;> first | exact z23 rfl rfl | (refine z22 ?_; ((exact z8 fun _ => rfl))))); (exact .inl rfl))) <;> conv => whnf)
    all_goals skip
    all_goals (refine RetS.lay [0] [4] rfl rfl rfl ?_; refine RetS.done ?_ ?_ <;> (repeat' (first | exact LocLe.refl _ | exact z38 | exact F2.nil | apply F2.cons | apply ObjLe.box | ((apply z36 rfl rfl rfl); (focus ((repeat (rfl)); done)); (focus ((rfl); done))) | apply z50 | (apply z74; rfl))))
end Go.Proofs.YtppafngcahgagaaGreat

namespace Go.Proofs.YtppafngcahgagaaGreat
open Go.Gl
attribute [local irreducible] z29 AWP z51 z62 z55 RetS z76

theorem l11Copy_new (t : Tree) (h : t.sz ≤ 1000000) : CallsA Tryz.prog 112 [z39 Tree.cs' t] [] (ownT t) [.cells 3 (t.kids.map Tree.cs')] := by
  induction t using Tree.ind with | h t ih => ?_
  have hkl : t.kids.length ≤ 1000000 := by rw [Tree.sz_eq] at h; omega
  have hks : ∀ u ∈ t.kids, u.sz ≤ 1000000 := fun u hu => by
    have := le_sum Tree.sz hu
    rw [Tree.sz_eq] at h; omega
  rw [Tree.arg_eq t]
  obtain ⟨k, v, l⟩ := t
  simp only [Tree.kind, Tree.val, Tree.kids] at *
  have hcs : ∀ (i : Nat) (hi : i < l.length), CallsA Tryz.prog 112 [z39 Tree.cs' l[i]] [] (z39 Tree.cs' l[i]) [] := fun i hi =>
    own_data (ih _ (List.getElem_mem _) (hks _ (List.getElem_mem _)))
  unfold ownT
  simp only [Tree.kind, Tree.val, Tree.kids] at *
  refine z15 z20 Tryz.func112 rfl rfl 29 Tryz.ntmps112 (by simp) ?_
  repeat' (((apply AWP.go ok; rfl)) <;> conv => whnf)
  all_goals skip
  refine AWP.reach (Reach.empty 3 rfl) ?_
  refine z108 (fun i : Nat => ([(1, .ptr 0 none 0), (2, .ptr 1 none 0), (3, .ptr 2 none 0), (4, .int i)], [.cells 3 [[.int k, .int v, lst 3 Tree.cs' l]], .cells 3 [[.int 0, .int 0, .nils]], .cells 3 [[.int k, .int v, .sref 3 0 i]], .cells 3 ((l.take i).map Tree.cs')])) (fun i => i ≤ l.length) (fun i => l.length - i) 0 (by omega) (by refine SealW.reach [0, 1, 2, 3] [] rfl rfl rfl rfl ?_ ?_ <;> (repeat' (first | exact LocLe.refl _ | exact z69 | exact F2.nil | apply F2.cons | apply ObjLe.box | ((refine z25 rfl ?_ ?_); (focus ((repeat' (exact z52)); done))) | exact True.intro | apply And.intro))) ?_
  intro i hi
  by_cases hil : i < l.length
  · have hc := hcs i hil
    repeat' ((first | (apply AWP.go ok; rfl) | (apply z41; kernel_rfl) | (apply And.intro; first | omega | (unfold inI; omega) | ((try dsimp only); simp only [List.length_map, List.length_take, List.length_append, List.length_replicate, List.length_cons, List.length_nil]; omega) | exact ⟨rfl, z24 rfl z30⟩) | (((with_reducible apply z14; omega)); intro _) | ((apply z9) <;> intro _) | (apply z10 (hc); rfl; rfl)) <;> conv => whnf)
    all_goals first | (exfalso; omega) | skip
    refine z58 (i + 1) (by omega) (by omega) (by refine SealW.reach [0, 1, 2, 5] [] rfl rfl rfl rfl ?_ ?_ <;> (repeat' (first | exact LocLe.refl _ | exact F2.nil | apply F2.cons | apply ObjLe.box | ((refine z34 rfl ?_ ?_); (focus ((repeat' (first | exact z8 (fun _ => rfl) | apply z28)); done))) | (refine z87 (by omega) (by omega) ?_) | exact True.intro | apply And.intro)))
  · have e : i = l.length := by omega
    subst e
    rw [List.take_length]
    repeat' ((first | (apply AWP.go ok; rfl) | (apply And.intro; omega) | (((with_reducible apply z14; omega)); intro _) | ((apply z9) <;> intro _)) <;> conv => whnf)
    all_goals first | (exfalso; omega) | skip
    all_goals (refine RetS.lay [3] [] rfl rfl rfl ?_; refine RetS.done ?_ ?_ <;> (repeat' (first | exact LocLe.refl _ | exact F2.nil | apply F2.cons | exact z26 _ | ((refine z25 rfl ?_ ?_); (focus ((repeat' ((exact z8 (fun _ => rfl)))); done))))))

set_option maxHeartbeats 1600000 in
theorem l11Mutate_ok (bs : List Int) (hb : BytesOk bs) (p : Int) (hp : few p) (t : Tree) (ht : t.sz ≤ 1000) : ∃ (t' : Tree) (p' : Int), (t'.sz ≤ t.sz + 1 ∧ p ≤ p' ∧ p' ≤ p + 2) ∧ CallsA Tryz.prog 50 [.ptr 0 none 0, z39 Tree.cs' t] [rdO bs p] (z39 Tree.cs' t') [rdO bs p'] := by
  have cs := l11Copy_new t (by omega)
  obtain ⟨u, hu⟩ : ∃ u, u = t := ⟨t, rfl⟩
  have hsz : u.sz ≤ t.sz := by rw [hu]; exact Nat.le_refl _
  have cs : CallsA Tryz.prog 112 [z39 Tree.cs' t] [] (ownT u) [.cells 3 (u.kids.map Tree.cs')] := by rw [hu]; exact cs
  clear hu
  have hul : u.kids.length ≤ 1000 := by rw [Tree.sz_eq] at hsz; omega
  obtain ⟨v, ⟨lv, uv⟩, cv⟩ := z53 bs hb p 50 (by omega) (by omega) (by omega)
  rw [Tree.arg_eq t]
  rw [Tree.arg_eq t] at cs
  unfold ownT at cs
  by_cases h0 : v = 0
  · subst h0
    obtain ⟨k, mk, ck⟩ := z78 bs hb (p + 1) (by omega) (by omega) [0, 12, -1, 2, 3, 4] (by decide) (by decide)
    refine ⟨.mk k u.val u.kids, p + 1 + 1, ⟨by rw [mk_sz]; rw [Tree.sz_eq] at hsz; omega, by omega, by omega⟩, ?_⟩
    refine z15 z20 Tryz.func50 rfl rfl 34 Tryz.ntmps50 (by simp) ?_
    repeat' ((first | (apply AWP.go ok; rfl) | ((first | (apply z6 [] [] [3] (cs); rfl; (focus ((repeat' exact z4) <;> fail))) | (apply z6 [0] [] [] (cv); rfl; (focus ((repeat' first | exact z4 | apply z5) <;> rfl))) | (apply z6 [0, 5] [] [] (ck); rfl; (focus ((repeat' first | exact z4 | apply z5) <;> rfl)))); rfl; rfl; rfl; rfl; rfl; (focus ((repeat' first | exact z13 | apply z11) <;> first | exact z23 rfl rfl | (refine z22 ?_; ((exact z8 fun _ => rfl))))); (exact .inl rfl))) <;> conv => whnf)
    all_goals skip
    all_goals (refine RetS.lay [0] [3] rfl rfl rfl ?_; refine RetS.done ?_ ?_ <;> (repeat' (first | exact LocLe.refl _ | exact F2.nil | apply F2.cons | exact f22_cs | apply ObjLe.box | ((apply z36 rfl rfl rfl); (focus ((repeat ((exact z32 (fun _ => rfl) _))); done)); (focus (((simp; done)); done))) | apply z50 | (apply z74; rfl))))
  by_cases h1 : v = 1
  · subst h1
    obtain ⟨k, mk, ck⟩ := z78 bs hb (p + 1) (by omega) (by omega) [-1, 3, 2, 9223372036854775807] (by decide) (by decide)
    refine ⟨.mk u.kind k u.kids, p + 1 + 1, ⟨by rw [mk_sz]; rw [Tree.sz_eq] at hsz; omega, by omega, by omega⟩, ?_⟩
    refine z15 z20 Tryz.func50 rfl rfl 34 Tryz.ntmps50 (by simp) ?_
    repeat' ((first | (apply AWP.go ok; rfl) | ((first | (apply z6 [] [] [3] (cs); rfl; (focus ((repeat' exact z4) <;> fail))) | (apply z6 [0] [] [] (cv); rfl; (focus ((repeat' first | exact z4 | apply z5) <;> rfl))) | (apply z6 [0, 5] [] [] (ck); rfl; (focus ((repeat' first | exact z4 | apply z5) <;> rfl)))); rfl; rfl; rfl; rfl; rfl; (focus ((repeat' first | exact z13 | apply z11) <;> first | exact z23 rfl rfl | (refine z22 ?_; ((exact z8 fun _ => rfl))))); (exact .inl rfl))) <;> conv => whnf)
    all_goals skip
    all_goals (refine RetS.lay [0] [3] rfl rfl rfl ?_; refine RetS.done ?_ ?_ <;> (repeat' (first | exact LocLe.refl _ | exact F2.nil | apply F2.cons | exact f22_cs | apply ObjLe.box | ((apply z36 rfl rfl rfl); (focus ((repeat ((exact z32 (fun _ => rfl) _))); done)); (focus (((simp; done)); done))) | apply z50 | (apply z74; rfl))))
  by_cases h2 : v = 2
  · subst h2
    refine ⟨.mk u.kind u.val (u.kids ++ [leaf 1 0]), p + 1, ⟨by rw [mk_sz]; rw [Tree.sz_eq] at hsz; simp [z72]; omega, by omega, by omega⟩, ?_⟩
    refine z15 z20 Tryz.func50 rfl rfl 34 Tryz.ntmps50 (by simp) ?_
    repeat' ((first | (apply AWP.go ok; rfl) | (apply And.intro; first | ((try dsimp only); simp only [List.length_map, List.length_take, List.length_append, List.length_replicate, List.length_cons, List.length_nil]; omega) | exact ⟨rfl, z24 rfl z30⟩) | ((first | (apply z6 [] [] [3] (cs); rfl; (focus ((repeat' exact z4) <;> fail))) | (apply z6 [0] [] [] (cv); rfl; (focus ((repeat' first | exact z4 | apply z5) <;> rfl)))); rfl; rfl; rfl; rfl; rfl; (focus ((repeat' first | exact z13 | apply z11) <;> first | exact z23 rfl rfl | (refine z22 ?_; ((exact z8 fun _ => rfl))))); (exact .inl rfl))) <;> conv => whnf)
    all_goals skip
    all_goals (refine RetS.lay [0] [6] rfl rfl rfl ?_; refine RetS.done ?_ ?_ <;> (repeat' (first | exact LocLe.refl _ | exact F2.nil | apply F2.cons | apply ObjLe.box | ((apply z36 rfl rfl rfl); (focus ((repeat (first | exact z32 (fun _ => rfl) _ | apply unown_app | apply unown_tk | rfl)); done)); (focus (((simp; done)); done))) | apply z50)))
    all_goals exact snoc_tree rfl rfl (node_le' z38)
  by_cases h3 : v = 3
  · subst h3
    refine ⟨leaf 0 0, p + 1, ⟨by rw [z72]; omega, by omega, by omega⟩, ?_⟩
    refine z15 z20 Tryz.func50 rfl rfl 34 Tryz.ntmps50 (by simp) ?_
    repeat' ((first | (apply AWP.go ok; rfl) | ((first | (apply z6 [] [] [3] (cs); rfl; (focus ((repeat' exact z4) <;> fail))) | (apply z6 [0] [] [] (cv); rfl; (focus ((repeat' first | exact z4 | apply z5) <;> rfl)))); rfl; rfl; rfl; rfl; rfl; (focus ((repeat' first | exact z13 | apply z11) <;> first | exact z23 rfl rfl | (refine z22 ?_; ((exact z8 fun _ => rfl))))); (exact .inl rfl))) <;> conv => whnf)
    all_goals skip
    all_goals (refine RetS.lay [0] [] rfl rfl rfl ?_; refine RetS.done ?_ ?_ <;> (repeat' (first | exact LocLe.refl _ | exact z38 | exact F2.nil | apply F2.cons | apply ObjLe.box | apply z50)))
  · refine ⟨.mk u.kind u.val u.kids, p + 1, ⟨by rw [mk_sz]; rw [Tree.sz_eq] at hsz; omega, by omega, by omega⟩, ?_⟩
    refine z15 z20 Tryz.func50 rfl rfl 34 Tryz.ntmps50 (by simp) ?_
    repeat' ((first | (apply AWP.go ok; rfl) | (apply And.intro; omega) | ((apply z9) <;> intro _) | ((first | (apply z6 [] [] [3] (cs); rfl; (focus ((repeat' exact z4) <;> fail))) | (apply z6 [0] [] [] (cv); rfl; (focus ((repeat' first | exact z4 | apply z5) <;> rfl)))); rfl; rfl; rfl; rfl; rfl; (focus ((repeat' first | exact z13 | apply z11) <;> first | exact z23 rfl rfl | (refine z22 ?_; ((exact z8 fun _ => rfl))))); (exact .inl rfl))) <;> conv => whnf)
    all_goals first | (exfalso; omega) | skip
    all_goals (refine RetS.lay [0] [3] rfl rfl rfl ?_; refine RetS.done ?_ ?_ <;> (repeat' (first | exact LocLe.refl _ | exact F2.nil | apply F2.cons | exact f22_cs | apply ObjLe.box | ((apply z36 rfl rfl rfl); (focus ((repeat ((exact z32 (fun _ => rfl) _))); done)); (focus (((simp; done)); done))) | apply z50 | (apply z74; rfl))))
end Go.Proofs.YtppafngcahgagaaGreat

namespace Go.Proofs.YtppafngcahgagaaGreat
open Go.Gl
attribute [local irreducible] z29 AWP z51 z62 z55 RetS z76

theorem drawBr_ok (bs : List Int) (hb : CodeOk bs) : ∃ (g : Graph) (l : List Tree) (f : Tree), (g.d ∧ Lab.d l ∧ f.sz ≤ 21) ∧ CallsA Tryz.prog 15 [lst 1 enU bs] [] (.tup [.agg g.cs, lst 3 Tree.cs' l, z39 Tree.cs' f]) [] := by
  have co := l16Open_ok bs hb.len
  obtain ⟨l, p1, ⟨a1, a2, a3, a4⟩, c1⟩ := l8Labels_ok (bs.take 2000) hb.take 0 ⟨by omega, by omega⟩
  obtain ⟨f0, p2, ⟨b1, b2, b3⟩, c2⟩ := l11Formula_ok (bs.take 2000) hb.take p1 ⟨by omega, by omega⟩
  obtain ⟨f, p3, ⟨d1, d2, d3⟩, c3⟩ := l11Mutate_ok (bs.take 2000) hb.take p2 ⟨by omega, by omega⟩ f0 (by omega)
  obtain ⟨g0, g, p4, p5, c4, c5, hg, _, _⟩ := mutG_ok (bs.take 2000) hb.take p3 ⟨by omega, by omega⟩
  refine ⟨g, l, f, ⟨hg, ⟨a1, a2⟩, by omega⟩, ?_⟩
  generalize bs.take 2000 = b0 at *
  rw [Tree.arg_eq] at c2 c3 c3 ⊢
  refine z15 z20 Tryz.func15 rfl rfl 22 Tryz.ntmps15 (by simp) ?_
  repeat' ((first | (apply AWP.go ok; rfl) | (apply z41; kernel_rfl) | ((first | (apply z6 [] [] [2] (co); rfl; (focus ((repeat' exact z4) <;> fail))) | (apply z6 [2] [] [] (c1); rfl; (focus ((repeat' first | exact z4 | apply z5) <;> rfl))) | (apply z6 [2] [] [] (c2); rfl; (focus ((repeat' first | exact z4 | apply z5) <;> rfl))) | (apply z6 [2] [] [] (c3); rfl; (focus ((repeat' first | exact z4 | apply z5) <;> rfl))) | (apply z6 [2] [] [] (c4); rfl; (focus ((repeat' first | exact z4 | apply z5) <;> rfl))) | (apply z6 [2] [] [] (c5); rfl; (focus ((repeat' first | exact z4 | apply z5) <;> rfl)))); rfl; rfl; rfl; rfl; rfl; (focus ((repeat' first | exact z13 | apply z11) <;> exact z23 rfl rfl)); (exact .inl rfl))) <;> conv => whnf)
  all_goals (refine RetS.lay [] [] rfl rfl rfl ?_; refine RetS.done ?_ ?_ <;> (repeat' (first | exact LocLe.refl _ | exact F2.nil)))
end Go.Proofs.YtppafngcahgagaaGreat

namespace Go.Proofs.YtppafngcahgagaaGreat
open Go.Gl
section
attribute [local irreducible] z29


end
end Go.Proofs.YtppafngcahgagaaGreat

namespace Go.Proofs.YtppafngcahgagaaGreat
open Go.Gl
attribute [local irreducible] z29 AWP z51 z62 z55

def encBL (l : List Bool) : List AC := [lst 1 enB l]
set_option maxHeartbeats 1600000 in
theorem fix2_ok (c1 c2 : List AC) (g : Graph) (hn : g.st.length ≤ 1048576) (s : Bool) (H : Nat → List Bool → Bool) (hm : MonoB s H g.st.length) (f : FuncId) (hf : ∀ (i : Nat) (S : List Bool), i < g.st.length → S.length = g.st.length → CallsA Tryz.prog f [.int i, lst 1 enB S, .pt c1, .pt c2] [] (.bool (H i S)) []) : CallsA Tryz.prog 63 [.agg g.cs, .bool s, .fn (.func f) [] [.pt c1, .pt c2]] [] (.sref 0 0 g.st.length) [.cells 1 ((lim s H g.st.length).map enB)] := by
  generalize hN : g.st.length = N at *
  refine z12 z20 Tryz.func63 rfl rfl 48 Tryz.ntmps63 (by simp) ?_
  repeat' ((first | (apply AWP.go ok; rfl) | (apply And.intro; (dsimp only; omega))) <;> conv => whnf)
  refine z73 (fun i : Nat => ([(1, .bool s), (2, .fn (.func f) [] [.pt c1, .pt c2]), (7, .sref 0 0 N), (17, .int N), (18, .int i)], [.cells 1 (mixL (fun _ => enB s) (List.replicate N [AC.bool false]) i)])) (fun i => i ≤ N) (fun i => N - i) 0 (by omega) ⟨[1], rfl, by decide, rfl, ⟨⟨rfl, rfl⟩, ⟨rfl, rfl⟩, ⟨rfl, by simp only [← hN]; rfl⟩, ⟨rfl, by simp only [← hN]; rfl⟩, ⟨rfl, rfl⟩, trivial⟩, ⟨z16 (z27 (by rw [mixL_zero, ← hN]; rfl)) (z42 (z8 fun _ => rfl) fun e he => z31 rfl e (List.mem_of_mem_drop he)), trivial⟩⟩ ?_
  intro i hi
  by_cases hil : i < N
  · have hg : (mixL (fun _ => enB s) (List.replicate N [AC.bool false]) i)[i]? = some [AC.bool false] := by
      unfold mixL
      rw [List.getElem?_append_right (by simp)]
      simp only [List.length_map, List.length_range, Nat.sub_self]
      rw [List.getElem?_drop, Nat.add_zero, List.getElem?_replicate, if_pos hil]
    repeat' ((first | (apply AWP.go ok; rfl) | (refine z18 (i := i) rfl hg ?_) | (apply And.intro; first | omega | (unfold inI; omega)) | ((apply z9) <;> intro _)) <;> conv => whnf)
    all_goals first | (exfalso; omega) | skip
    exact z61 (i + 1) [0] (by omega) (by omega) ⟨rfl, by decide, rfl, ⟨⟨rfl, rfl⟩, ⟨rfl, rfl⟩, ⟨rfl, rfl⟩, ⟨rfl, rfl⟩, ⟨rfl, rfl⟩, trivial⟩, ⟨z16 (z27 (mixL_set (by simpa using hil) (Int.toNat_natCast i) rfl)) (z42 (z8 fun _ => rfl) fun e he => z31 rfl e (List.mem_of_mem_drop he)), trivial⟩⟩
  repeat' ((first | (apply AWP.go ok; rfl) | (apply And.intro; omega) | ((apply z9) <;> intro _)) <;> conv => whnf)
  all_goals first | (exfalso; omega) | skip
  have e0 : mixL (fun _ => enB s) (List.replicate N [AC.bool false]) i = (List.replicate N s).map enB := by
    rw [mixL_end (by simp; omega), range_const, List.map_replicate, show i = N by omega]
  rw [e0]
  clear e0
  refine z73 (fun x : Bool × List Bool => ([(2, .fn (.func f) [] [.pt c1, .pt c2]), (7, .sref 0 0 N), (9, .bool x.1)], [.cells 1 (x.2.map enB)])) (fun x => Gl.Way s H N x.2 ∧ (x.1 = false → ∀ i, i < N → H i x.2 = gB x.2 i)) (fun x => 2 * cntS s x.2 + (if x.1 then 1 else 0)) (true, List.replicate N s) ⟨Gl.Way.start, fun h => by cases h⟩ ⟨[0], rfl, by decide, rfl, ⟨⟨rfl, rfl⟩, ⟨rfl, rfl⟩, ⟨rfl, rfl⟩, trivial⟩, ⟨z16 rfl (z8 fun _ => rfl), trivial⟩⟩ ?_
  rintro ⟨ch, S⟩ ⟨hw, hfx⟩
  dsimp only at hw hfx ⊢
  cases ch
  · have hR := hw.ends (hfx rfl)
    repeat' (((apply AWP.go ok; rfl)) <;> conv => whnf)
    all_goals skip
    rw [lim_eq hR]
    exact z90 rfl (z8 fun _ => rfl) rfl rfl rfl
  · repeat' (((apply AWP.go ok; rfl)) <;> conv => whnf)
    all_goals skip
    refine z73 (fun y : Nat × Bool × List Bool => ([(2, .fn (.func f) [] [.pt c1, .pt c2]), (7, .sref 0 0 N), (9, .bool y.2.1), (28, .int N), (29, .int y.1)], [.cells 1 (y.2.2.map enB)])) (fun y => y.1 ≤ N ∧ Gl.Way s H N y.2.2 ∧ (y.2.1 = false → y.2.2 = S ∧ ∀ i, i < y.1 → H i S = gB S i) ∧ (y.2.1 = true → cntS s y.2.2 + 1 ≤ cntS s S)) (fun y => N - y.1) (0, false, S) ⟨by dsimp only; omega, hw, fun _ => ⟨rfl, fun i hi => by dsimp only at hi; omega⟩, fun h => by cases h⟩ ⟨[0], rfl, by decide, rfl, ⟨⟨rfl, rfl⟩, ⟨rfl, rfl⟩, ⟨rfl, rfl⟩, ⟨rfl, rfl⟩, ⟨rfl, rfl⟩, trivial⟩, ⟨z16 rfl (z8 fun _ => rfl), trivial⟩⟩ ?_
    rintro ⟨k, c, S'⟩ ⟨hk1, hw', hc1, hc2⟩
    dsimp only at hk1 hw' hc1 hc2 ⊢
    by_cases hkN : k < N
    · have hkl : k < S'.length := by rw [hw'.len]; exact hkN
      have c1 := hf k S' hkN hw'.len
      have hgk : (S'.map enB)[k]? = some (enB (gB S' k)) := by
        unfold gB
        rw [z35 hkl, List.getElem?_map, List.getElem?_eq_getElem hkl]; rfl
      have hput := hw'.put hm hkN (hw'.post k hkN) (ordB.refl s _)
      by_cases he : H k S' = gB S' k
      · repeat' ((first | (apply AWP.go ok; rfl) | (refine z18 (i := k) rfl hgk ?_) | (apply And.intro; first | omega | (unfold inI; omega)) | ((first | apply z9 | apply z40) <;> intro _) | (((apply z6 [] [0] [] (c1); (focus (exact z46 rfl (z46 (bor_boolsN rfl rfl rfl hw'.len) rfl))); (focus ((repeat' exact z4) <;> fail)))); rfl; rfl; rfl; rfl; rfl; (focus ((repeat' exact z13) <;> fail)); ((refine .inr ⟨rfl, ?_⟩; repeat' exact True.intro)))) <;> conv => whnf)
        all_goals first | (exfalso; simp_all; done) | skip
        all_goals
          refine z61 (k + 1, c, S') [0] ⟨by dsimp only; omega, hw', fun hc => ⟨(hc1 hc).1, fun i hi => ?_⟩, hc2⟩ (by dsimp only; omega) ⟨rfl, by decide, rfl, ⟨⟨rfl, rfl⟩, ⟨rfl, rfl⟩, ⟨rfl, rfl⟩, ⟨rfl, rfl⟩, ⟨rfl, rfl⟩, trivial⟩, ⟨z16 rfl (z8 fun _ => rfl), trivial⟩⟩
          dsimp only at hi hc
          rcases Nat.lt_or_ge i k with h3 | h3
          · exact (hc1 hc).2 i h3
          · obtain rfl : i = k := by omega
            rw [← (hc1 hc).1]; exact he
      · have hcn := hput.2 he
        repeat' ((first | (apply AWP.go ok; rfl) | (refine z18 (i := k) rfl hgk ?_) | (apply And.intro; first | omega | (unfold inI; omega)) | ((first | apply z9 | apply z40) <;> intro _) | (((apply z6 [] [0] [] (c1); (focus (exact z46 rfl (z46 (bor_boolsN rfl rfl rfl hw'.len) rfl))); (focus ((repeat' exact z4) <;> fail)))); rfl; rfl; rfl; rfl; rfl; (focus ((repeat' exact z13) <;> fail)); ((refine .inr ⟨rfl, ?_⟩; repeat' exact True.intro)))) <;> conv => whnf)
        all_goals first | (exfalso; simp_all; done) | skip
        all_goals
          refine z61 (k + 1, true, S'.set k (H k S')) [0] ⟨by dsimp only; omega, hput.1, (fun hc => by dsimp only at hc; cases hc), fun _ => ?_⟩ (by dsimp only; omega) ⟨rfl, by decide, rfl, ⟨⟨rfl, rfl⟩, ⟨rfl, rfl⟩, ⟨rfl, rfl⟩, ⟨rfl, rfl⟩, ⟨rfl, rfl⟩, trivial⟩, ⟨z16 (z27 (by rw [List.map_set]; rfl)) (z8 fun _ => rfl), trivial⟩⟩
          dsimp only
          cases c
          · rw [(hc1 rfl).1] at hcn ⊢; omega
          · have := hc2 rfl; omega
    · repeat' ((first | (apply AWP.go ok; rfl) | ((apply z9) <;> intro _)) <;> conv => whnf)
      all_goals first | (exfalso; omega) | skip
      refine z61 (c, S') [0] ⟨hw', fun hc i hi => ?_⟩ ?_ ⟨rfl, by decide, rfl, ⟨⟨rfl, rfl⟩, ⟨rfl, rfl⟩, ⟨rfl, rfl⟩, trivial⟩, ⟨z16 rfl (z8 fun _ => rfl), trivial⟩⟩
      · dsimp only at hc ⊢
        rw [(hc1 hc).1]; exact (hc1 hc).2 i (by omega)
      · dsimp only
        cases c
        · rw [(hc1 rfl).1]; simp
        · have := hc2 rfl; simp; omega
end Go.Proofs.YtppafngcahgagaaGreat

namespace Go.Proofs.YtppafngcahgagaaGreat
open Go.Gl
attribute [local irreducible] z29 AWP z51 z62 z55

theorem GB.rowB {g : Graph} (h : GB g) : ∀ i (hi : i < g.nx.length), 1 ≤ g.nx[i].length ∧ g.nx[i].length ≤ 60 ∧ InN g.st.length g.nx[i] := fun i hi => by
  obtain ⟨⟨g1, g2⟩, g3, g4⟩ := h
  have h4 := g4 i hi hi (by omega)
  refine ⟨by have := h4.2.1; omega, by have := h4.2.1; omega, fun x hx => ?_⟩
  obtain ⟨j, hj, rfl⟩ := List.mem_iff_getElem.1 hx
  have := (h4.2.2.2 j hj hj).1
  omega
theorem get_gB {S : List Bool} {i n : Nat} {K : List AC → Prop} (h : n = i) (hi : i < S.length) (k : K (enB (gB S i))) : ∃ e, (S.map enB)[n]? = some e ∧ K e := by
  refine z18 h ?_ k
  unfold gB
  rw [z35 hi, List.getElem?_map, List.getElem?_eq_getElem hi]; rfl

theorem indexFunc_intB (S : List Bool) (l : List Int) (hl : l.length ≤ maxLen) (p : Int → Bool) (f : FuncId) (hf : ∀ x ∈ l, CallsA Tryz.prog f [.int x, .pt [lst 1 enB S]] [] (.bool (p x)) []) : CallsA Tryz.prog 68 [lst 1 enI l, .fn (.func f) [] [.pt [lst 1 enB S]]] [] (.int (idxF p l)) [] := by
  unfold maxLen at hl
  refine z12 z20 Tryz.func68 rfl rfl 19 Tryz.ntmps68 (by simp) ?_
  repeat' (((apply AWP.go ok; rfl)) <;> conv => whnf)
  refine z73 (fun k : Nat => ([(0, lst 1 enI l), (1, .fn (.func f) [] [.pt [lst 1 enB S]]), (7, .int l.length), (8, .int k)], [])) (fun k => k ≤ l.length ∧ ∀ j (hj : j < l.length), j < k → p l[j] = false) (fun k => l.length - k) 0 (by simp)
    ⟨[], rfl, by decide, rfl, ⟨⟨rfl, rfl⟩, ⟨rfl, rfl⟩, ⟨rfl, rfl⟩, ⟨rfl, rfl⟩, trivial⟩, trivial⟩ ?_
  intro k hk
  repeat' ((first | (apply AWP.go ok; rfl) | (apply And.intro; first | omega | (unfold inI; omega)) | (((with_reducible apply z14; omega)); intro _) | ((first | apply z9 | apply z77) <;> intro _) | (apply z10 (hf l[k] (List.getElem_mem _)); rfl; rfl)) <;> conv => whnf)
  · rename_i h h1
    exact z37 rfl rfl (by rw [idxF_some (by omega) h1 hk.2]; rfl)
  · rename_i h h1
    refine z61 (k + 1) [] ⟨by omega, fun j hj hjk => ?_⟩ (by omega) ⟨rfl, by decide, rfl, ⟨⟨rfl, rfl⟩, ⟨rfl, rfl⟩, ⟨rfl, rfl⟩, ⟨rfl, rfl⟩, trivial⟩, trivial⟩
    rcases Nat.lt_or_ge j k with h2 | h2
    · exact hk.2 j hj h2
    · obtain rfl : j = k := by omega
      exact h1
  · exact z37 rfl rfl (by rw [idxF_none fun j hj => hk.2 j hj (by omega)]; rfl)
theorem containsFunc_intB (S : List Bool) (l : List Int) (hl : l.length ≤ maxLen) (p : Int → Bool) (f : FuncId) (hf : ∀ x ∈ l, CallsA Tryz.prog f [.int x, .pt [lst 1 enB S]] [] (.bool (p x)) []) : CallsA Tryz.prog 108 [lst 1 enI l, .fn (.func f) [] [.pt [lst 1 enB S]]] [] (.bool (l.any p)) [] := by
  refine z12 z20 Tryz.func108 rfl rfl 9 Tryz.ntmps108 (by simp) ?_
  repeat' ((first | (apply AWP.go ok; rfl) | (apply z10 (indexFunc_intB S l hl p f hf); rfl; rfl)) <;> conv => whnf)
  exact z19 rfl (by rw [← idxF_any])

theorem some1_ok (S : List Bool) (x : Int) (h0 : 0 ≤ x) (h1 : x < S.length) (hS : S.length ≤ 1048576) : CallsA Tryz.prog 148 [.int x, .pt [lst 1 enB S]] [] (.bool (gB S x.toNat)) [] := by
  refine z12 z20 Tryz.func148 rfl rfl 8 Tryz.ntmps148 (by simp) ?_
  repeat' ((first | (apply AWP.go ok; rfl) | (refine get_gB (i := x.toNat) rfl (by omega) ?_) | (apply And.intro; omega)) <;> conv => whnf)
  exact z19 rfl rfl
theorem every1_ok (S : List Bool) (x : Int) (h0 : 0 ≤ x) (h1 : x < S.length) (hS : S.length ≤ 1048576) : CallsA Tryz.prog 189 [.int x, .pt [lst 1 enB S]] [] (.bool (!gB S x.toNat)) [] := by
  refine z12 z20 Tryz.func189 rfl rfl 9 Tryz.ntmps189 (by simp) ?_
  repeat' ((first | (apply AWP.go ok; rfl) | (refine get_gB (i := x.toNat) rfl (by omega) ?_) | (apply And.intro; omega)) <;> conv => whnf)
  exact z19 rfl rfl

theorem some_ok (g : Graph) (hG : GB g) (S : List Bool) (hS : S.length = g.st.length) (i : Nat) (hi : i < g.st.length) : CallsA Tryz.prog 65 [.agg g.cs, .int i, lst 1 enB S] [] (.bool (nxB g.nx false i S)) [] := by
  have hin : i < g.nx.length := by rw [hG.2.1]; exact hi
  have h60 := hG.1.2
  obtain ⟨r1, r2, r3⟩ := GB.rowB hG i hin
  have c1 := containsFunc_intB S g.nx[i] (by unfold maxLen; omega) (fun t => gB S t.toNat) 148 (fun x hx => some1_ok S x (r3 x hx).1 (by have := (r3 x hx).2; omega) (by omega))
  refine z12 z20 Tryz.func65 rfl rfl 14 Tryz.ntmps65 (by simp) ?_
  repeat' ((first | (apply AWP.go ok; rfl) | (apply And.intro; omega) | (((with_reducible apply z14; omega)); intro _) | (apply call_bor [1] (c1); rfl; rfl; rfl; rfl)) <;> conv => whnf)
  exact z19 rfl (by unfold nxB; rw [z35 hin]; rfl)
theorem every_ok (g : Graph) (hG : GB g) (S : List Bool) (hS : S.length = g.st.length) (i : Nat) (hi : i < g.st.length) : CallsA Tryz.prog 131 [.agg g.cs, .int i, lst 1 enB S] [] (.bool (nxB g.nx true i S)) [] := by
  have hin : i < g.nx.length := by rw [hG.2.1]; exact hi
  have h60 := hG.1.2
  obtain ⟨r1, r2, r3⟩ := GB.rowB hG i hin
  have c1 := containsFunc_intB S g.nx[i] (by unfold maxLen; omega) (fun t => !gB S t.toNat) 189 (fun x hx => every1_ok S x (r3 x hx).1 (by have := (r3 x hx).2; omega) (by omega))
  refine z12 z20 Tryz.func131 rfl rfl 15 Tryz.ntmps131 (by simp) ?_
  repeat' ((first | (apply AWP.go ok; rfl) | (apply And.intro; omega) | (((with_reducible apply z14; omega)); intro _) | (apply call_bor [1] (c1); rfl; rfl; rfl; rfl)) <;> conv => whnf)
  exact z19 rfl (by unfold nxB; rw [z35 hin, List.all_eq_not_any_not]; rfl)

/-! the reference's next -/
def nxR (ev : Bool) (S : List Bool) (row : List Int) : Bool := if ev then row.all (fun t => gB S t.toNat) else row.any (fun t => gB S t.toNat)
theorem nxR_nil (ev : Bool) (S : List Bool) : nxR ev S [] = ev := by cases ev <;> rfl
theorem nxR_step (ev : Bool) (S : List Bool) (row : List Int) (j : Nat) (h : j < row.length) : nxR ev S (row.take (j + 1)) = if gB S (row[j]).toNat = ev then nxR ev S (row.take j) else !ev := by
  rw [List.take_succ_eq_append_getElem h]
  unfold nxR
  rw [List.all_append, List.any_append]
  simp only [List.all_cons, List.any_cons, List.all_nil, List.any_nil]
  cases ev <;> cases gB S (row[j]).toNat <;> simp
set_option maxHeartbeats 1600000 in
theorem l11Next_new (g : Graph) (hG : GB g) (S : List Bool) (hS : S.length = g.st.length) (ev : Bool) : CallsA Tryz.prog 144 [.agg g.cs, lst 1 enB S, .bool ev] [] (.sref 0 0 g.st.length) [.cells 1 ((nxL g.nx ev g.st.length S).map enB)] := by
  have h60 := hG.1.2
  have hgl := hG.2.1
  suffices h : CallsA Tryz.prog 144 [.agg g.cs, lst 1 enB S, .bool ev] [] (.sref 0 0 g.nx.length) [.cells 1 ((nxL g.nx ev g.nx.length S).map enB)] by rwa [hgl] at h
  refine z12 z20 Tryz.func144 rfl rfl 50 Tryz.ntmps144 (by simp) ?_
  repeat' (((apply AWP.go ok; rfl)) <;> conv => whnf)
  refine z73 (fun i : Nat => ([(1, lst 1 enB S), (2, .bool ev), (3, .ptr 0 none 0), (7, .sref 1 0 i), (8, .int i)], [.cells 2 [[lst 2 State.cs g.st, lst 1 encL g.nx]], .cells 1 (((List.range g.nx.length).take i).map fun i => enB (nxB g.nx ev i S))])) (fun i => i ≤ g.nx.length) (fun i => g.nx.length - i) 0 (by omega) ⟨[0, 1], rfl, by decide, rfl, ⟨⟨rfl, rfl⟩, ⟨rfl, rfl⟩, ⟨rfl, rfl⟩, ⟨rfl, rfl⟩, ⟨rfl, rfl⟩, trivial⟩, ⟨z17 rfl rfl, z16 rfl (z8 fun _ => rfl), trivial⟩⟩ ?_
  intro i hi
  by_cases hil : i < g.nx.length
  · have hir : i < (List.range g.nx.length).length := by simpa using hil
    obtain ⟨r1, r2, r3⟩ := GB.rowB hG i hil
    have hnx : nxB g.nx ev i S = nxR ev S g.nx[i] := by unfold nxB nxR; rw [z35 hil]
    repeat' ((first | (apply AWP.go ok; rfl) | ((apply z9) <;> intro _)) <;> conv => whnf)
    all_goals first | (exfalso; omega) | skip
    refine z73 (fun j : Nat => ([(1, lst 1 enB S), (2, .bool ev), (3, .ptr 0 none 0), (7, .sref 1 0 i), (8, .int i), (9, .bool (nxR ev S (g.nx[i].take j))), (10, .int j)], [.cells 2 [[lst 2 State.cs g.st, lst 1 encL g.nx]], .cells 1 (((List.range g.nx.length).take i).map fun i => enB (nxB g.nx ev i S))])) (fun j => j ≤ g.nx[i].length) (fun j => g.nx[i].length - j) 0 (by omega) ⟨[0, 1], rfl, by decide, rfl, ⟨⟨rfl, rfl⟩, ⟨rfl, rfl⟩, ⟨rfl, rfl⟩, ⟨rfl, rfl⟩, ⟨rfl, rfl⟩, ⟨rfl, by rw [List.take_zero, nxR_nil]; rfl⟩, ⟨rfl, rfl⟩, trivial⟩, ⟨z17 rfl rfl, z16 rfl (z8 fun _ => rfl), trivial⟩⟩ ?_
    intro j hj
    by_cases hjl : j < g.nx[i].length
    · have hx := r3 g.nx[i][j] (List.getElem_mem _)
      have hst := nxR_step ev S g.nx[i] j hjl
      by_cases he : gB S (g.nx[i][j]).toNat = ev
      · rw [if_pos he] at hst
        repeat' ((first | (apply AWP.go ok; rfl) | (refine get_gB (i := (g.nx[i][j]).toNat) rfl (by omega) ?_) | (apply And.intro; first | omega | (unfold inI; omega)) | (((with_reducible apply z14; omega)); intro _) | ((first | apply z9 | apply z40) <;> intro _)) <;> conv => whnf)
        all_goals first | (exfalso; omega) | (exfalso; simp_all; done) | skip
        all_goals exact z61 (j + 1) [0, 1] (by omega) (by omega) ⟨rfl, by decide, rfl, ⟨⟨rfl, rfl⟩, ⟨rfl, rfl⟩, ⟨rfl, rfl⟩, ⟨rfl, rfl⟩, ⟨rfl, rfl⟩, ⟨rfl, by rw [hst]; rfl⟩, ⟨rfl, rfl⟩, trivial⟩, ⟨z17 rfl rfl, z16 rfl (z8 fun _ => rfl), trivial⟩⟩
      · rw [if_neg he] at hst
        repeat' ((first | (apply AWP.go ok; rfl) | (refine get_gB (i := (g.nx[i][j]).toNat) rfl (by omega) ?_) | (apply And.intro; first | omega | (unfold inI; omega)) | (((with_reducible apply z14; omega)); intro _) | ((first | apply z9 | apply z40) <;> intro _)) <;> conv => whnf)
        all_goals first | (exfalso; omega) | (exfalso; simp_all; done) | skip
        all_goals exact z61 (j + 1) [0, 1] (by omega) (by omega) ⟨rfl, by decide, rfl, ⟨⟨rfl, rfl⟩, ⟨rfl, rfl⟩, ⟨rfl, rfl⟩, ⟨rfl, rfl⟩, ⟨rfl, rfl⟩, ⟨rfl, by rw [hst]; rfl⟩, ⟨rfl, rfl⟩, trivial⟩, ⟨z17 rfl rfl, z16 rfl (z8 fun _ => rfl), trivial⟩⟩
    · obtain rfl : j = g.nx[i].length := by omega
      rw [List.take_length, ← hnx]
      repeat' ((first | (apply AWP.go ok; rfl) | (apply And.intro; first | omega | (unfold inI; omega) | ((try dsimp only); simp only [List.length_map, List.length_take, List.length_append, List.length_replicate, List.length_cons, List.length_nil]; omega) | exact ⟨rfl, z24 rfl z30⟩) | ((first | (with_reducible apply z14; omega) | (with_reducible apply get_mapI; omega)); intro _) | ((first | apply z9 | apply z40) <;> intro _)) <;> conv => whnf)
      all_goals first | (exfalso; omega) | skip
      refine z61 (i + 1) [0, 3] (by omega) (by omega) ⟨rfl, by decide, rfl, ⟨⟨rfl, rfl⟩, ⟨rfl, rfl⟩, ⟨rfl, rfl⟩, ⟨rfl, rfl⟩, ⟨rfl, rfl⟩, trivial⟩, ⟨z17 rfl rfl, z16 (z27 ?_) (z8 fun _ => rfl), trivial⟩⟩
      rw [List.take_of_length_le (by simp; omega), List.take_succ_eq_append_getElem hir, List.map_append]
      simp only [List.getElem_range]; rfl
  · repeat' ((first | (apply AWP.go ok; rfl) | ((apply z9) <;> intro _)) <;> conv => whnf)
    all_goals first | (exfalso; omega) | skip
    obtain rfl : i = g.nx.length := by omega
    refine z45 [1] (by decide) rfl rfl rfl ⟨z16 (z27 ?_) (z8 fun _ => rfl), trivial⟩
    rw [List.take_of_length_le (by simp)]
    unfold nxL
    rw [List.map_map]; rfl
end Go.Proofs.YtppafngcahgagaaGreat

