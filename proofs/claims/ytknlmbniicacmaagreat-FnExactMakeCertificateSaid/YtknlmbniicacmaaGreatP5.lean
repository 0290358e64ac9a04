/- A part of the proofs over this program: T39, T24, T25, T26, T27, T37, T38. -/
import Derived.Test.YtknlmbniicacmaaGreatG0
import Derived.Test.YtknlmbniicacmaaGreatG1
import Derived.Test.YtknlmbniicacmaaGreatG2
import Derived.Test.YtknlmbniicacmaaGreatG3
import Derived.Test.YtknlmbniicacmaaGreatP0
import Derived.Test.YtknlmbniicacmaaGreatP1
import Derived.Test.YtknlmbniicacmaaGreatP2
import Derived.Test.YtknlmbniicacmaaGreatP3
import Derived.Test.YtknlmbniicacmaaGreatP4
set_option linter.all false
namespace Go.Proofs.YtknlmbniicacmaaGreat
open Go.Gl
attribute [local irreducible] z22 AWP z46 z54 z51

/-! truth values, transitions, automata, certificates: owned copies and marks -/
theorem bor_trans {objs : Nat → AObj} {π Bn : List Nat} {o : Nat} {l : List Trans} (ho : objs o = .cells 4 (l.map Trans.cs)) (h1 : idx π o = none) (h2 : inB Bn o = true) : bor objs π Bn (.sref o 0 l.length) = lst 4 Trans.cs l :=
  bor_list ho h1 h2 (by simp) (z98 Trans.unown l)
theorem bor_aut {objs : Nat → AObj} {π Bn : List Nat} {o1 o2 o3 : Nat} {a : Aut} (h1 : objs o1 = .cells 1 (a.ini.map enI)) (h2 : objs o2 = .cells 1 (a.acc.map enB)) (h3 : objs o3 = .cells 4 (a.ed.map Trans.cs)) (i1 : idx π o1 = none) (b1 : inB Bn o1 = true) (i2 : idx π o2 = none) (b2 : inB Bn o2 = true) (i3 : idx π o3 = none) (b3 : inB Bn o3 = true) :
    bor objs π Bn (.agg [.sref o1 0 a.ini.length, .sref o2 0 a.acc.length, .sref o3 0 a.ed.length]) = .agg a.cs :=
  bor_agg (z72 (bor_ints h1 i1 b1) (z72 (bor_bools h2 i2 b2) (z72 (bor_trans h3 i3 b3) z89)))

theorem toBoolS_new (l : List Bool) (hl : l.length ≤ 1048576) : CallsA Tryz.prog 123 [lst 1 enB l] [] (.sref 0 0 l.length) [.cells 1 (l.map enB)] := by
  refine z7 z28 Tryz.func123 rfl rfl 22 Tryz.ntmps123 (by simp) ?_
  repeat' (first | (apply AWP.go ok; rfl; conv => whnf) | (apply z5; kernel_rfl; conv => whnf) | (apply And.intro; (first | omega | (unfold inI; omega) | (dsimp only; omega) | (unfold z25; omega) | ((try dsimp only); simp only [List.length_map, List.length_take, List.length_append, List.length_replicate, List.length_cons, List.length_nil]; omega) | (simp only [z38] at *; first | omega | (unfold inI; omega) | (unfold z25; omega)) | exact z6 (fun _ => rfl) | exact ⟨rfl, z12 rfl z20⟩ | exact ⟨rfl, z6 (fun _ => rfl) _⟩ | exact ⟨⟨rfl, by omega⟩, z6 (fun _ => rfl) _⟩); conv => whnf) | (with_reducible apply z3; omega; intro _; conv => whnf) | (with_reducible apply z30; omega; intro _; conv => whnf) | (apply z3; omega; intro _; conv => whnf) | (apply z35; omega; conv => whnf) | (apply z45; conv => whnf) | (apply z49; omega; intro _; conv => whnf) | (apply z53 <;> intro _ <;> conv => whnf) | (apply z36 <;> intro _ <;> conv => whnf) | (apply z52 <;> intro _ <;> conv => whnf) | (apply z63 <;> intro _ <;> conv => whnf) | (apply z2 <;> intro _ <;> conv => whnf) | (apply z8 <;> intro _ <;> conv => whnf) | (apply z24 <;> intro _ <;> conv => whnf) | (apply z34 <;> intro _ <;> conv => whnf))
  refine z85 (fun k : Nat => ([(0, lst 1 enB l), (3, .sref 0 0 l.length), (4, .int k)], [.cells 1 ((l.take k).map enB ++ List.replicate (l.length - k) [.bool false])])) (fun k => k ≤ l.length) (fun k => l.length - k) 0 (by omega) ⟨[0], rfl, by decide, rfl, by repeat' (first | exact True.intro | exact ⟨rfl, rfl⟩ | apply And.intro), by repeat' (first | exact True.intro | exact z31 rfl rfl | exact z10 (by rfl) (by (first | exact z17 | exact z1 rfl | exact z0 (fun _ => rfl) | exact z0 Tree.co_flat | (apply z9 <;> (first | exact z1 rfl | exact z0 (fun _ => rfl))) | assumption)) | apply And.intro)⟩ ?_
  intro k hk
  repeat' (first | (apply AWP.go ok; rfl; conv => whnf) | (apply z5; kernel_rfl; conv => whnf) | (apply And.intro; (first | omega | (unfold inI; omega) | (dsimp only; omega) | (unfold z25; omega) | ((try dsimp only); simp only [List.length_map, List.length_take, List.length_append, List.length_replicate, List.length_cons, List.length_nil]; omega) | (simp only [z38] at *; first | omega | (unfold inI; omega) | (unfold z25; omega)) | exact z6 (fun _ => rfl) | exact ⟨rfl, z12 rfl z20⟩ | exact ⟨rfl, z6 (fun _ => rfl) _⟩ | exact ⟨⟨rfl, by omega⟩, z6 (fun _ => rfl) _⟩); conv => whnf) | (with_reducible apply z3; omega; intro _; conv => whnf) | (with_reducible apply z30; omega; intro _; conv => whnf) | (apply z3; omega; intro _; conv => whnf) | (apply z35; omega; conv => whnf) | (apply z45; conv => whnf) | (apply z49; omega; intro _; conv => whnf) | (apply z53 <;> intro _ <;> conv => whnf) | (apply z36 <;> intro _ <;> conv => whnf) | (apply z52 <;> intro _ <;> conv => whnf) | (apply z63 <;> intro _ <;> conv => whnf) | (apply z2 <;> intro _ <;> conv => whnf) | (apply z8 <;> intro _ <;> conv => whnf) | (apply z24 <;> intro _ <;> conv => whnf) | (apply z34 <;> intro _ <;> conv => whnf))
  · exact z75 (k + 1) [0] (by omega) (by omega) ⟨rfl, by decide, rfl, ⟨⟨rfl, rfl⟩, ⟨rfl, rfl⟩, ⟨rfl, rfl⟩, trivial⟩, ⟨obj_fill (by omega) rfl rfl rfl (fun _ => rfl) rfl, trivial⟩⟩
  · obtain rfl : k = l.length := by omega
    exact ret_new rfl (z0 fun _ => rfl) rfl (fill_end _ _ _ _ rfl)
theorem toTransitionS_new (l : List Trans) (hl : l.length ≤ 1048576) : CallsA Tryz.prog 124 [lst 4 Trans.cs l] [] (.sref 0 0 l.length) [.cells 4 (l.map Trans.cs)] := by
  refine z7 z28 Tryz.func124 rfl rfl 23 Tryz.ntmps124 (by simp) ?_
  repeat' (first | (apply AWP.go ok; rfl; conv => whnf) | (apply z5; kernel_rfl; conv => whnf) | (apply And.intro; (first | omega | (unfold inI; omega) | (dsimp only; omega) | (unfold z25; omega) | ((try dsimp only); simp only [List.length_map, List.length_take, List.length_append, List.length_replicate, List.length_cons, List.length_nil]; omega) | (simp only [z38] at *; first | omega | (unfold inI; omega) | (unfold z25; omega)) | exact z6 (fun _ => rfl) | exact ⟨rfl, z12 rfl z20⟩ | exact ⟨rfl, z6 (fun _ => rfl) _⟩ | exact ⟨⟨rfl, by omega⟩, z6 (fun _ => rfl) _⟩); conv => whnf) | (with_reducible apply z3; omega; intro _; conv => whnf) | (with_reducible apply z30; omega; intro _; conv => whnf) | (apply z3; omega; intro _; conv => whnf) | (apply z35; omega; conv => whnf) | (apply z45; conv => whnf) | (apply z49; omega; intro _; conv => whnf) | (apply z53 <;> intro _ <;> conv => whnf) | (apply z36 <;> intro _ <;> conv => whnf) | (apply z52 <;> intro _ <;> conv => whnf) | (apply z63 <;> intro _ <;> conv => whnf) | (apply z2 <;> intro _ <;> conv => whnf) | (apply z8 <;> intro _ <;> conv => whnf) | (apply z24 <;> intro _ <;> conv => whnf) | (apply z34 <;> intro _ <;> conv => whnf))
  refine z85 (fun k : Nat => ([(0, lst 4 Trans.cs l), (3, .sref 0 0 l.length), (4, .int k)], [.cells 4 ((l.take k).map Trans.cs ++ List.replicate (l.length - k) [.int 0, .int 0, .int 0, .int 0])])) (fun k => k ≤ l.length) (fun k => l.length - k) 0 (by omega) ⟨[0], rfl, by decide, rfl, by repeat' (first | exact True.intro | exact ⟨rfl, rfl⟩ | apply And.intro), by repeat' (first | exact True.intro | exact z31 rfl rfl | exact z10 (by rfl) (by (first | exact z17 | exact z1 rfl | exact z0 (fun _ => rfl) | exact z0 Tree.co_flat | (apply z9 <;> (first | exact z1 rfl | exact z0 (fun _ => rfl))) | assumption)) | apply And.intro)⟩ ?_
  intro k hk
  repeat' (first | (apply AWP.go ok; rfl; conv => whnf) | (apply z5; kernel_rfl; conv => whnf) | (apply And.intro; (first | omega | (unfold inI; omega) | (dsimp only; omega) | (unfold z25; omega) | ((try dsimp only); simp only [List.length_map, List.length_take, List.length_append, List.length_replicate, List.length_cons, List.length_nil]; omega) | (simp only [z38] at *; first | omega | (unfold inI; omega) | (unfold z25; omega)) | exact z6 (fun _ => rfl) | exact ⟨rfl, z12 rfl z20⟩ | exact ⟨rfl, z6 (fun _ => rfl) _⟩ | exact ⟨⟨rfl, by omega⟩, z6 (fun _ => rfl) _⟩); conv => whnf) | (with_reducible apply z3; omega; intro _; conv => whnf) | (with_reducible apply z30; omega; intro _; conv => whnf) | (apply z3; omega; intro _; conv => whnf) | (apply z35; omega; conv => whnf) | (apply z45; conv => whnf) | (apply z49; omega; intro _; conv => whnf) | (apply z53 <;> intro _ <;> conv => whnf) | (apply z36 <;> intro _ <;> conv => whnf) | (apply z52 <;> intro _ <;> conv => whnf) | (apply z63 <;> intro _ <;> conv => whnf) | (apply z2 <;> intro _ <;> conv => whnf) | (apply z8 <;> intro _ <;> conv => whnf) | (apply z24 <;> intro _ <;> conv => whnf) | (apply z34 <;> intro _ <;> conv => whnf) | (apply z4 (toTransition_ok l[k]); rfl; rfl; conv => whnf))
  · exact z75 (k + 1) [0] (by omega) (by omega) ⟨rfl, by decide, rfl, ⟨⟨rfl, rfl⟩, ⟨rfl, rfl⟩, ⟨rfl, rfl⟩, trivial⟩, ⟨obj_fill (by omega) rfl rfl rfl (fun _ => rfl) rfl, trivial⟩⟩
  · obtain rfl : k = l.length := by omega
    exact ret_new rfl (z0 fun _ => rfl) rfl (fill_end _ _ _ _ rfl)
structure Aut.ok (a : Aut) : Prop where
  mx : a.mx
  ini : a.ini.length ≤ 1048576
  acc : a.acc.length ≤ 1048576
  ed : a.ed.length ≤ 1048576
theorem Aut.ok_of {a : Aut} (h : a.mx) (h1 : a.s1 ≤ 1048576) (h2 : a.s2 ≤ 1048576) (h3 : a.s3 ≤ 1048576) : a.ok := ⟨h, h1, h2, h3⟩
theorem toAutS {a : Aut} (h : a.ok) : CallsA Tryz.prog 39 [.agg a.cs] [] (.agg a.cs) [] := toAutomaton_of a (toIntS_ok a.ini h.ini) (toBoolS_ok a.acc h.acc) (toTransitionS_of a.ed h.ed (fun t _ => toTransition_ok t))
theorem toAutN {a : Aut} (h : a.ok) : CallsA Tryz.prog 39 [.agg a.cs] [] (.agg [.sref 0 0 a.ini.length, .sref 1 0 a.acc.length, .sref 2 0 a.ed.length]) [.cells 1 (a.ini.map enI), .cells 1 (a.acc.map enB), .cells 4 (a.ed.map Trans.cs)] := by
  refine z7 z28 Tryz.func39 rfl rfl 17 Tryz.ntmps39 (by simp) ?_
  repeat' (first | (apply AWP.go ok; rfl; conv => whnf) | (apply z5; kernel_rfl; conv => whnf) | (apply And.intro; (first | omega | (unfold inI; omega) | (dsimp only; omega) | (unfold z25; omega) | ((try dsimp only); simp only [List.length_map, List.length_take, List.length_append, List.length_replicate, List.length_cons, List.length_nil]; omega) | (simp only [z38] at *; first | omega | (unfold inI; omega) | (unfold z25; omega)) | exact z6 (fun _ => rfl) | exact ⟨rfl, z12 rfl z20⟩ | exact ⟨rfl, z6 (fun _ => rfl) _⟩ | exact ⟨⟨rfl, by omega⟩, z6 (fun _ => rfl) _⟩); conv => whnf) | (with_reducible apply z3; omega; intro _; conv => whnf) | (with_reducible apply z30; omega; intro _; conv => whnf) | (apply z3; omega; intro _; conv => whnf) | (apply z35; omega; conv => whnf) | (apply z45; conv => whnf) | (apply z49; omega; intro _; conv => whnf) | (apply z53 <;> intro _ <;> conv => whnf) | (apply z36 <;> intro _ <;> conv => whnf) | (apply z52 <;> intro _ <;> conv => whnf) | (apply z63 <;> intro _ <;> conv => whnf) | (apply z2 <;> intro _ <;> conv => whnf) | (apply z8 <;> intro _ <;> conv => whnf) | (apply z24 <;> intro _ <;> conv => whnf) | (apply z34 <;> intro _ <;> conv => whnf) | (apply z21 [] [] [3] (toIntS_new a.ini h.ini); rfl; (focus ((repeat' (first | exact z11 | apply z29)) <;> (first | rfl | (refine z47 rfl ?_; (first | exact z17 | exact z1 rfl | exact z0 (fun _ => rfl) | exact z0 Tree.co_flat | (apply z9 <;> (first | exact z1 rfl | exact z0 (fun _ => rfl))) | assumption))))); rfl; rfl; rfl; rfl; rfl; (focus ((repeat' (first | exact z27 | apply z26)) <;> (first | exact z82 | exact z74 rfl rfl | (refine z39 ?_; (first | exact z17 | exact z1 rfl | exact z0 (fun _ => rfl) | exact z0 Tree.co_flat | (apply z9 <;> (first | exact z1 rfl | exact z0 (fun _ => rfl))) | assumption))))); (first | exact .inl rfl | (refine .inr ⟨rfl, ?_⟩; repeat' (first | exact True.intro | apply And.intro | exact rfl | exact z50 (fun _ => rfl) _))); conv => whnf) | (apply z21 [] [] [4] (toBoolS_new a.acc h.acc); rfl; (focus ((repeat' (first | exact z11 | apply z29)) <;> (first | rfl | (refine z47 rfl ?_; (first | exact z17 | exact z1 rfl | exact z0 (fun _ => rfl) | exact z0 Tree.co_flat | (apply z9 <;> (first | exact z1 rfl | exact z0 (fun _ => rfl))) | assumption))))); rfl; rfl; rfl; rfl; rfl; (focus ((repeat' (first | exact z27 | apply z26)) <;> (first | exact z82 | exact z74 rfl rfl | (refine z39 ?_; (first | exact z17 | exact z1 rfl | exact z0 (fun _ => rfl) | exact z0 Tree.co_flat | (apply z9 <;> (first | exact z1 rfl | exact z0 (fun _ => rfl))) | assumption))))); (first | exact .inl rfl | (refine .inr ⟨rfl, ?_⟩; repeat' (first | exact True.intro | apply And.intro | exact rfl | exact z50 (fun _ => rfl) _))); conv => whnf) | (apply z21 [] [] [5] (toTransitionS_new a.ed h.ed); rfl; (focus ((repeat' (first | exact z11 | apply z29)) <;> (first | rfl | (refine z47 rfl ?_; (first | exact z17 | exact z1 rfl | exact z0 (fun _ => rfl) | exact z0 Tree.co_flat | (apply z9 <;> (first | exact z1 rfl | exact z0 (fun _ => rfl))) | assumption))))); rfl; rfl; rfl; rfl; rfl; (focus ((repeat' (first | exact z27 | apply z26)) <;> (first | exact z82 | exact z74 rfl rfl | (refine z39 ?_; (first | exact z17 | exact z1 rfl | exact z0 (fun _ => rfl) | exact z0 Tree.co_flat | (apply z9 <;> (first | exact z1 rfl | exact z0 (fun _ => rfl))) | assumption))))); (first | exact .inl rfl | (refine .inr ⟨rfl, ?_⟩; repeat' (first | exact True.intro | apply And.intro | exact rfl | exact z50 (fun _ => rfl) _))); conv => whnf))
  exact z84 [3, 4, 5] (by decide) rfl rfl rfl ⟨z10 rfl (z0 fun _ => rfl), z10 rfl (z0 fun _ => rfl), z10 rfl (z0 fun _ => rfl), trivial⟩
theorem eqAutT {a : Aut} (h : a.ok) : CallsA Tryz.prog 44 [.agg a.cs, .agg a.cs] [] (.bool true) [] := by
  have := eqAutomaton_of a a (eqIntS_ok a.ini a.ini h.mx.1 h.mx.1) (eqBoolS_ok a.acc a.acc h.mx.2.1 h.mx.2.1) (eqTransitionS_of a.ed a.ed h.mx.2.2.1 h.mx.2.2.1 (fun s _ t _ => eqTransition_ok s t))
  rwa [decide_eq_true rfl] at this
theorem szAutT (a : Aut) (ha : a.mx) (n : Int) (h0 : 0 ≤ n) (h1 : n ≤ 1048576) : CallsA Tryz.prog 35 [.agg a.cs, .int n] [] (.int (bud n (a.s1 + a.s2 + a.s3))) [] := szAutomaton_of a n (fun n h0 h1 => szIntS_ok a.ini n ha.1 h0 h1) (fun n h0 h1 => szBoolS_ok a.acc n ha.2.1 h0 h1) (fun n h0 h1 => szTransitionS_ok a.ed n ha.2.2.1 h0 h1) h0 h1

/-- the truth values that a marking writes -/
def markb (k : Int) (j : Nat) : Bool := decide ((k + j) % 3 = 0)
def marksB (k : Int) (n : Nat) : List Bool := (List.range n).map (markb k)
theorem markBoolS_ok (l : List Bool) (k : Int) (hl : l.length ≤ 1048576) (h0 : 0 ≤ k) (h1 : k ≤ 1000000000000) : CallsA Tryz.prog 137 [.sref 0 0 l.length, .int k] [.cells 1 (l.map enB)] (.int (k + l.length)) [.cells 1 ((marksB k l.length).map enB)] := by
  refine z7 z28 Tryz.func137 rfl rfl 21 Tryz.ntmps137 (by simp) ?_
  repeat' (first | (apply AWP.go ok; rfl; conv => whnf) | (apply z5; kernel_rfl; conv => whnf) | (apply And.intro; (first | omega | (unfold inI; omega) | (dsimp only; omega) | (unfold z25; omega) | ((try dsimp only); simp only [List.length_map, List.length_take, List.length_append, List.length_replicate, List.length_cons, List.length_nil]; omega) | (simp only [z38] at *; first | omega | (unfold inI; omega) | (unfold z25; omega)) | exact z6 (fun _ => rfl) | exact ⟨rfl, z12 rfl z20⟩ | exact ⟨rfl, z6 (fun _ => rfl) _⟩ | exact ⟨⟨rfl, by omega⟩, z6 (fun _ => rfl) _⟩); conv => whnf) | (with_reducible apply z3; omega; intro _; conv => whnf) | (with_reducible apply z30; omega; intro _; conv => whnf) | (apply z3; omega; intro _; conv => whnf) | (apply z35; omega; conv => whnf) | (apply z45; conv => whnf) | (apply z49; omega; intro _; conv => whnf) | (apply z53 <;> intro _ <;> conv => whnf) | (apply z36 <;> intro _ <;> conv => whnf) | (apply z52 <;> intro _ <;> conv => whnf) | (apply z63 <;> intro _ <;> conv => whnf) | (apply z2 <;> intro _ <;> conv => whnf) | (apply z8 <;> intro _ <;> conv => whnf) | (apply z24 <;> intro _ <;> conv => whnf) | (apply z34 <;> intro _ <;> conv => whnf))
  refine z85 (fun i : Nat => ([(0, .sref 0 0 l.length), (1, .int (k + i)), (5, .int i)], [.cells 1 (mixL (fun j => enB (markb k j)) (l.map enB) i)])) (fun i => i ≤ l.length) (fun i => l.length - i) 0 (by omega) ⟨[0], rfl, by decide, rfl, ⟨⟨rfl, rfl⟩, ⟨rfl, z132 (by simp)⟩, ⟨rfl, rfl⟩, trivial⟩, ⟨z10 (z16 (mixL_zero _ _).symm) (z102 (fun _ => rfl) (fun _ => rfl)), trivial⟩⟩ ?_
  intro i hi
  repeat' (first | (apply AWP.go ok; rfl; conv => whnf) | (apply z5; kernel_rfl; conv => whnf) | (refine get_mix (by omega) (by omega) ?_; conv => whnf) | (apply And.intro; (first | omega | (unfold inI; omega) | (dsimp only; omega) | (unfold z25; omega) | ((try dsimp only); simp only [List.length_map, List.length_take, List.length_append, List.length_replicate, List.length_cons, List.length_nil]; omega) | (simp only [z38] at *; first | omega | (unfold inI; omega) | (unfold z25; omega)) | exact z6 (fun _ => rfl) | exact ⟨rfl, z12 rfl z20⟩ | exact ⟨rfl, z6 (fun _ => rfl) _⟩ | exact ⟨⟨rfl, by omega⟩, z6 (fun _ => rfl) _⟩); conv => whnf) | (with_reducible apply z3; omega; intro _; conv => whnf) | (with_reducible apply z30; omega; intro _; conv => whnf) | (apply z3; omega; intro _; conv => whnf) | (apply z35; omega; conv => whnf) | (apply z45; conv => whnf) | (apply z49; omega; intro _; conv => whnf) | (apply z53 <;> intro _ <;> conv => whnf) | (apply z36 <;> intro _ <;> conv => whnf) | (apply z52 <;> intro _ <;> conv => whnf) | (apply z63 <;> intro _ <;> conv => whnf) | (apply z2 <;> intro _ <;> conv => whnf) | (apply z8 <;> intro _ <;> conv => whnf) | (apply z24 <;> intro _ <;> conv => whnf) | (apply z34 <;> intro _ <;> conv => whnf))
  all_goals first | (exfalso; omega) | skip
  · exact z75 (i + 1) [0] (by omega) (by omega) ⟨rfl, by decide, rfl, ⟨⟨rfl, rfl⟩, ⟨rfl, z132 (by omega)⟩, ⟨rfl, rfl⟩, trivial⟩, ⟨z10 (z16 (mixL_set (by simpa using by omega) (by omega) rfl)) (z102 (fun _ => rfl) (fun _ => rfl)), trivial⟩⟩
  · obtain rfl : i = l.length := by omega
    refine z84 [0] (by decide) rfl rfl rfl ⟨z10 (z16 ?_) (z0 fun _ => rfl), trivial⟩
    rw [mixL_end (by simp), marksB, List.map_map]; rfl
theorem markTransitionS_ok (l : List Trans) (k : Int) (hl : l.length ≤ 1048576) (h0 : 0 ≤ k) (h1 : k ≤ 1000000000000) : CallsA Tryz.prog 138 [.sref 0 0 l.length, .int k] [.cells 4 (l.map Trans.cs)] (.int (k + 4 * l.length)) [.cells 4 (List.replicate l.length [.any, .any, .any, .any])] := by
  refine z7 z28 Tryz.func138 rfl rfl 41 Tryz.ntmps138 (by simp) ?_
  repeat' (first | (apply AWP.go ok; rfl; conv => whnf) | (apply z5; kernel_rfl; conv => whnf) | (apply And.intro; (first | omega | (unfold inI; omega) | (dsimp only; omega) | (unfold z25; omega) | ((try dsimp only); simp only [List.length_map, List.length_take, List.length_append, List.length_replicate, List.length_cons, List.length_nil]; omega) | (simp only [z38] at *; first | omega | (unfold inI; omega) | (unfold z25; omega)) | exact z6 (fun _ => rfl) | exact ⟨rfl, z12 rfl z20⟩ | exact ⟨rfl, z6 (fun _ => rfl) _⟩ | exact ⟨⟨rfl, by omega⟩, z6 (fun _ => rfl) _⟩); conv => whnf) | (with_reducible apply z3; omega; intro _; conv => whnf) | (with_reducible apply z30; omega; intro _; conv => whnf) | (apply z3; omega; intro _; conv => whnf) | (apply z35; omega; conv => whnf) | (apply z45; conv => whnf) | (apply z49; omega; intro _; conv => whnf) | (apply z53 <;> intro _ <;> conv => whnf) | (apply z36 <;> intro _ <;> conv => whnf) | (apply z52 <;> intro _ <;> conv => whnf) | (apply z63 <;> intro _ <;> conv => whnf) | (apply z2 <;> intro _ <;> conv => whnf) | (apply z8 <;> intro _ <;> conv => whnf) | (apply z24 <;> intro _ <;> conv => whnf) | (apply z34 <;> intro _ <;> conv => whnf))
  refine z85 (fun i : Nat => ([(0, .sref 0 0 l.length), (1, .int (k + 4 * i)), (5, .int i)], [.cells 4 (mixL (fun _ => [.any, .any, .any, .any]) (l.map Trans.cs) i)])) (fun i => i ≤ l.length) (fun i => l.length - i) 0 (by omega) ⟨[0], rfl, by decide, rfl, ⟨⟨rfl, rfl⟩, ⟨rfl, z132 (by simp)⟩, ⟨rfl, rfl⟩, trivial⟩, ⟨z10 (z16 (mixL_zero _ _).symm) (z102 (fun _ => rfl) (fun _ => rfl)), trivial⟩⟩ ?_
  intro i hi
  by_cases hil : i < l.length
  · have hm2 : i < (mixL (fun _ => [AC.any, .any, .any, .any]) (l.map Trans.cs) i).length := by rw [mixL_len (by simpa using hi)]; simpa using hil
    have hin : ((i : Int)).toNat = i := Int.toNat_natCast i
    generalize hF : mixL (fun _ => [AC.any, .any, .any, .any]) (l.map Trans.cs) i = F at hm2
    have hg : F[i]? = some (Trans.cs l[i]) := by rw [← hF]; exact mixL_get hil
    repeat' (first | ((fail_if_success apply z69 3); (fail_if_success apply z57 3); apply AWP.go ok; rfl; conv => whnf) | (apply z5; kernel_rfl; conv => whnf) | (apply get_set; exact hin; (first | exact hm2 | (rw [List.length_set]; exact hm2) | (rw [List.length_set, List.length_set]; exact hm2)); conv => whnf) | (refine z13 (i := i) hin hg ?_; conv => whnf) | (apply And.intro; (first | omega | (unfold inI; omega) | (dsimp only; omega) | (unfold z25; omega) | ((try dsimp only); simp only [List.length_map, List.length_take, List.length_append, List.length_replicate, List.length_cons, List.length_nil]; omega) | (simp only [z38] at *; first | omega | (unfold inI; omega) | (unfold z25; omega)) | exact z6 (fun _ => rfl) | exact ⟨rfl, z12 rfl z20⟩ | exact ⟨rfl, z6 (fun _ => rfl) _⟩ | exact ⟨⟨rfl, by omega⟩, z6 (fun _ => rfl) _⟩); conv => whnf) | (with_reducible apply z3; omega; intro _; conv => whnf) | (with_reducible apply z30; omega; intro _; conv => whnf) | (apply z3; omega; intro _; conv => whnf) | (apply z35; omega; conv => whnf) | (apply z45; conv => whnf) | (apply z49; omega; intro _; conv => whnf) | (apply z53 <;> intro _ <;> conv => whnf) | (apply z36 <;> intro _ <;> conv => whnf) | (apply z52 <;> intro _ <;> conv => whnf) | (apply z63 <;> intro _ <;> conv => whnf) | (apply z2 <;> intro _ <;> conv => whnf) | (apply z8 <;> intro _ <;> conv => whnf) | (apply z24 <;> intro _ <;> conv => whnf) | (apply z34 <;> intro _ <;> conv => whnf))
    all_goals first | (exfalso; omega) | skip
    refine AWP.reach (Gl.Reach.forget 0 i [.any, .any, .any, .any] rfl (getset hin (by rw [List.length_set, List.length_set, List.length_set]; exact hm2)) rfl rfl) ?_
    conv => whnf
    repeat' (first | (apply AWP.go ok; rfl; conv => whnf) | (apply z5; kernel_rfl; conv => whnf) | (apply And.intro; (first | omega | (unfold inI; omega) | (dsimp only; omega) | (unfold z25; omega) | ((try dsimp only); simp only [List.length_map, List.length_take, List.length_append, List.length_replicate, List.length_cons, List.length_nil]; omega) | (simp only [z38] at *; first | omega | (unfold inI; omega) | (unfold z25; omega)) | exact z6 (fun _ => rfl) | exact ⟨rfl, z12 rfl z20⟩ | exact ⟨rfl, z6 (fun _ => rfl) _⟩ | exact ⟨⟨rfl, by omega⟩, z6 (fun _ => rfl) _⟩); conv => whnf) | (with_reducible apply z3; omega; intro _; conv => whnf) | (with_reducible apply z30; omega; intro _; conv => whnf) | (apply z3; omega; intro _; conv => whnf) | (apply z35; omega; conv => whnf) | (apply z45; conv => whnf) | (apply z49; omega; intro _; conv => whnf) | (apply z53 <;> intro _ <;> conv => whnf) | (apply z36 <;> intro _ <;> conv => whnf) | (apply z52 <;> intro _ <;> conv => whnf) | (apply z63 <;> intro _ <;> conv => whnf) | (apply z2 <;> intro _ <;> conv => whnf) | (apply z8 <;> intro _ <;> conv => whnf) | (apply z24 <;> intro _ <;> conv => whnf) | (apply z34 <;> intro _ <;> conv => whnf))
    exact z75 (i + 1) [0] (by omega) (by omega) ⟨rfl, by decide, rfl, ⟨⟨rfl, rfl⟩, ⟨rfl, z132 (by omega)⟩, ⟨rfl, rfl⟩, trivial⟩, ⟨z10 (z16 (by rw [List.set_set, List.set_set, List.set_set, Nat.add_zero, hin, List.set_set, ← hF, mixL_set (by simpa using hil) rfl rfl])) (z102 (fun _ => rfl) (fun _ => rfl)), trivial⟩⟩
  · repeat' (first | (apply AWP.go ok; rfl; conv => whnf) | (apply z5; kernel_rfl; conv => whnf) | (apply And.intro; (first | omega | (unfold inI; omega) | (dsimp only; omega) | (unfold z25; omega) | ((try dsimp only); simp only [List.length_map, List.length_take, List.length_append, List.length_replicate, List.length_cons, List.length_nil]; omega) | (simp only [z38] at *; first | omega | (unfold inI; omega) | (unfold z25; omega)) | exact z6 (fun _ => rfl) | exact ⟨rfl, z12 rfl z20⟩ | exact ⟨rfl, z6 (fun _ => rfl) _⟩ | exact ⟨⟨rfl, by omega⟩, z6 (fun _ => rfl) _⟩); conv => whnf) | (with_reducible apply z3; omega; intro _; conv => whnf) | (with_reducible apply z30; omega; intro _; conv => whnf) | (apply z3; omega; intro _; conv => whnf) | (apply z35; omega; conv => whnf) | (apply z45; conv => whnf) | (apply z49; omega; intro _; conv => whnf) | (apply z53 <;> intro _ <;> conv => whnf) | (apply z36 <;> intro _ <;> conv => whnf) | (apply z52 <;> intro _ <;> conv => whnf) | (apply z63 <;> intro _ <;> conv => whnf) | (apply z2 <;> intro _ <;> conv => whnf) | (apply z8 <;> intro _ <;> conv => whnf) | (apply z24 <;> intro _ <;> conv => whnf) | (apply z34 <;> intro _ <;> conv => whnf))
    all_goals first | (exfalso; omega) | skip
    obtain rfl : i = l.length := by omega
    exact z84 [0] (by decide) rfl rfl rfl ⟨z10 (z16 (by rw [mixL_end (by simp), range_const])) (z1 rfl), trivial⟩
def Aut.ml (a : Aut) : Nat := a.ini.length + a.acc.length + 4 * a.ed.length
theorem Aut.ml_le {a : Aut} (h : a.ok) : a.ml ≤ 8388608 := by
  have := h.ini; have := h.acc; have := h.ed
  unfold Aut.ml; omega
theorem markAutT {a : Aut} (h : a.ok) (k : Int) (h0 : 0 ≤ k) (h1 : k ≤ 1000000000) : CallsA Tryz.prog 47 [.agg [.sref 0 0 a.ini.length, .sref 1 0 a.acc.length, .sref 2 0 a.ed.length], .int k] [.cells 1 (a.ini.map enI), .cells 1 (a.acc.map enB), .cells 4 (a.ed.map Trans.cs)] (.int (k + a.ml)) [.cells 1 ((marks k a.ini.length).map enI), .cells 1 ((marksB (k + a.ini.length) a.acc.length).map enB), .cells 4 (List.replicate a.ed.length [.any, .any, .any, .any])] := by
  have h2 := h.ini
  have h3 := h.acc
  have h4 := h.ed
  have m1 := markIntS_ok a.ini k h2 h0 (by omega)
  have m2 := markBoolS_ok a.acc (k + a.ini.length) h3 (by omega) (by omega)
  have m3 := markTransitionS_ok a.ed (k + a.ini.length + a.acc.length) h4 (by omega) (by omega)
  rw [show k + (a.ml : Int) = k + a.ini.length + a.acc.length + 4 * a.ed.length by unfold Aut.ml; omega]
  refine z7 z28 Tryz.func47 rfl rfl 18 Tryz.ntmps47 (by simp) ?_
  repeat' (first | (apply AWP.go ok; rfl; conv => whnf) | (apply z5; kernel_rfl; conv => whnf) | (apply And.intro; (first | omega | (unfold inI; omega) | (dsimp only; omega) | (unfold z25; omega) | ((try dsimp only); simp only [List.length_map, List.length_take, List.length_append, List.length_replicate, List.length_cons, List.length_nil]; omega) | (simp only [z38] at *; first | omega | (unfold inI; omega) | (unfold z25; omega)) | exact z6 (fun _ => rfl) | exact ⟨rfl, z12 rfl z20⟩ | exact ⟨rfl, z6 (fun _ => rfl) _⟩ | exact ⟨⟨rfl, by omega⟩, z6 (fun _ => rfl) _⟩); conv => whnf) | (with_reducible apply z3; omega; intro _; conv => whnf) | (with_reducible apply z30; omega; intro _; conv => whnf) | (apply z3; omega; intro _; conv => whnf) | (apply z35; omega; conv => whnf) | (apply z45; conv => whnf) | (apply z49; omega; intro _; conv => whnf) | (apply z53 <;> intro _ <;> conv => whnf) | (apply z36 <;> intro _ <;> conv => whnf) | (apply z52 <;> intro _ <;> conv => whnf) | (apply z63 <;> intro _ <;> conv => whnf) | (apply z2 <;> intro _ <;> conv => whnf) | (apply z8 <;> intro _ <;> conv => whnf) | (apply z24 <;> intro _ <;> conv => whnf) | (apply z34 <;> intro _ <;> conv => whnf) | (apply z21 [0] [] [] (m1); rfl; (focus ((repeat' (first | exact z11 | apply z29)) <;> (first | rfl | (refine z47 rfl ?_; (first | exact z17 | exact z1 rfl | exact z0 (fun _ => rfl) | exact z0 Tree.co_flat | (apply z9 <;> (first | exact z1 rfl | exact z0 (fun _ => rfl))) | assumption))))); rfl; rfl; rfl; rfl; rfl; (focus ((repeat' (first | exact z27 | apply z26)) <;> (first | exact z82 | exact z74 rfl rfl | (refine z39 ?_; (first | exact z17 | exact z1 rfl | exact z0 (fun _ => rfl) | exact z0 Tree.co_flat | (apply z9 <;> (first | exact z1 rfl | exact z0 (fun _ => rfl))) | assumption))))); (first | exact .inl rfl | (refine .inr ⟨rfl, ?_⟩; repeat' (first | exact True.intro | apply And.intro | exact rfl | exact z50 (fun _ => rfl) _))); conv => whnf) | (apply z21 [1] [] [] (m2); rfl; (focus ((repeat' (first | exact z11 | apply z29)) <;> (first | rfl | (refine z47 rfl ?_; (first | exact z17 | exact z1 rfl | exact z0 (fun _ => rfl) | exact z0 Tree.co_flat | (apply z9 <;> (first | exact z1 rfl | exact z0 (fun _ => rfl))) | assumption))))); rfl; rfl; rfl; rfl; rfl; (focus ((repeat' (first | exact z27 | apply z26)) <;> (first | exact z82 | exact z74 rfl rfl | (refine z39 ?_; (first | exact z17 | exact z1 rfl | exact z0 (fun _ => rfl) | exact z0 Tree.co_flat | (apply z9 <;> (first | exact z1 rfl | exact z0 (fun _ => rfl))) | assumption))))); (first | exact .inl rfl | (refine .inr ⟨rfl, ?_⟩; repeat' (first | exact True.intro | apply And.intro | exact rfl | exact z50 (fun _ => rfl) _))); conv => whnf) | (apply z21 [2] [] [] (m3); rfl; (focus ((repeat' (first | exact z11 | apply z29)) <;> (first | rfl | (refine z47 rfl ?_; (first | exact z17 | exact z1 rfl | exact z0 (fun _ => rfl) | exact z0 Tree.co_flat | (apply z9 <;> (first | exact z1 rfl | exact z0 (fun _ => rfl))) | assumption))))); rfl; rfl; rfl; rfl; rfl; (focus ((repeat' (first | exact z27 | apply z26)) <;> (first | exact z82 | exact z74 rfl rfl | (refine z39 ?_; (first | exact z17 | exact z1 rfl | exact z0 (fun _ => rfl) | exact z0 Tree.co_flat | (apply z9 <;> (first | exact z1 rfl | exact z0 (fun _ => rfl))) | assumption))))); (first | exact .inl rfl | (refine .inr ⟨rfl, ?_⟩; repeat' (first | exact True.intro | apply And.intro | exact rfl | exact z50 (fun _ => rfl) _))); conv => whnf))
  exact z84 [0, 1, 2] (by decide) rfl rfl rfl ⟨z10 rfl (z0 fun _ => rfl), z10 rfl (z0 fun _ => rfl), z10 rfl (z1 rfl), trivial⟩
end Go.Proofs.YtknlmbniicacmaaGreat

namespace Go.Proofs.YtknlmbniicacmaaGreat
open Go.Gl
attribute [local irreducible] z22 AWP z46 z54 z51

def onB (t : Trans) (n : Int) : Bool := decide (((n.toNat &&& t.care.toNat : Nat) : Int) = t.val)
/-- what one edge adds at one state and one successor -/
def pushE (n : Nat) (i : Nat) (ℓ to : Int) (e : Trans) : List (Nat × Int) := if onB e ℓ then [((i : Nat) * n + e.src.toNat, to * n + e.dst)] else []
def pushJ (n : Nat) (ed : List Trans) (i : Nat) (ℓ to : Int) : List (Nat × Int) := ed.flatMap (pushE n i ℓ to)
def pushI (n : Nat) (ed : List Trans) (nx : List (List Int)) (ls : List Int) (i : Nat) : List (Nat × Int) := (nx.getD i []).flatMap (pushJ n ed i (ls.getD i 0))
def pushS (g : Graph) (ls : List Int) (a : Aut) : List (Nat × Int) := (List.range g.st.length).flatMap (pushI a.acc.length a.ed g.nx ls)
/-- the successors of the nodes of the product -/
def z42 (g : Graph) (ls : List Int) (a : Aut) : List (List Int) := build (a.acc.length * g.st.length) (pushS g ls a)

theorem pushS_len (g : Graph) (hg : GB g) (ls : List Int) (a : Aut) (ha : AutP a) : (pushS g ls a).length ≤ 7372800 := by
  obtain ⟨⟨g1, g2⟩, g3, g4⟩ := hg
  have h1 : ∀ i ℓ to, (pushJ a.acc.length a.ed i ℓ to).length ≤ 2048 := fun i ℓ to => by
    have := flat_len (f := pushE a.acc.length i ℓ to) (c := 1) a.ed (fun e _ => by unfold pushE; split <;> simp)
    have := ha.2.1
    unfold pushJ; omega
  have h2 : ∀ i ∈ List.range g.st.length, (pushI a.acc.length a.ed g.nx ls i).length ≤ 122880 := fun i hi => by
    rw [List.mem_range] at hi
    unfold pushI
    rw [z23 (l := g.nx) (by omega)]
    have h3 := flat_len (f := pushJ a.acc.length a.ed i (ls.getD i 0)) (c := 2048) g.nx[i] (fun e _ => h1 _ _ _)
    have h4 := (g4 i (by omega) (by omega) hi).2.1
    have : g.nx[i].length * 2048 ≤ 60 * 2048 := Nat.mul_le_mul_right _ (by omega)
    omega
  have h5 := flat_len (f := pushI a.acc.length a.ed g.nx ls) (c := 122880) (List.range g.st.length) h2
  rw [List.length_range] at h5
  have : g.st.length * 122880 ≤ 60 * 122880 := Nat.mul_le_mul_right _ (by omega)
  unfold pushS; omega

theorem l8Product_new (g : Graph) (hg : GB g) (ls : List Int) (hls : ls.length = g.st.length) (hlr : ∀ x ∈ ls, 0 ≤ x ∧ x ≤ 7) (a : Aut) (ha : AutP a) : CallsA Tryz.prog 82 [.agg g.cs, ints ls, .agg a.cs] [] (.sref 0 0 (a.acc.length * g.st.length)) [.cells 1 ((z42 g ls a).map ownRow)] := by
  have hpl := pushS_len g hg ls a ha
  obtain ⟨⟨g1, g2⟩, g3, g4⟩ := hg
  obtain ⟨⟨a1, a2⟩, a3, _, a5⟩ := ha
  have hN := mul_bound (a := (a.acc.length : Int)) (b := (g.st.length : Int)) (A := 64) (B := 60) (by omega) (by omega) (by omega) (by omega)
  have hNn : ((a.acc.length * g.st.length : Nat) : Int) = (a.acc.length : Int) * g.st.length := by simp
  refine z7 z28 Tryz.func82 rfl rfl 93 Tryz.ntmps82 (by simp) ?_
  repeat' (first | (apply AWP.go ok; rfl; conv => whnf) | (apply And.intro; (first | (unfold inI; omega) | (dsimp only; omega)); conv => whnf))
  refine AWP.reach (Gl.Reach.weaken (es' := List.replicate (a.acc.length * g.st.length) [.own 1 []]) 2 rfl (by rw [List.length_replicate, List.length_replicate]; rfl) rows_weaken rfl) ?_
  conv => whnf
  have hrow : ∀ i (hi : i < g.nx.length), ∀ x ∈ g.nx[i], 0 ≤ x ∧ x ≤ g.st.length - 1 := fun i hi x hx => by
    obtain ⟨j, hj, rfl⟩ := List.mem_iff_getElem.1 hx
    exact ((g4 i hi hi (by omega)).2.2.2 j hj hj).1
  have hlen : ∀ i (hi : i < g.nx.length), g.nx[i].length ≤ 60 := fun i hi => by
    have := (g4 i hi hi (by omega)).2.1; omega
  refine z85 (fun x : Nat × List (Nat × Int) => ([(1, ints ls), (3, .ptr 0 none 0), (5, .ptr 1 none 0), (7, .int a.acc.length), (8, .sref 2 0 (a.acc.length * g.st.length)), (9, .int x.1)], [.cells 2 [[lst 2 State.cs g.st, lst 1 encL g.nx]], .cells 3 [[lst 1 enI a.ini, lst 1 enB a.acc, lst 4 Trans.cs a.ed]], .cells 1 ((build (a.acc.length * g.st.length) x.2).map ownRow)])) (fun x => x.1 ≤ g.st.length ∧ x.2 ++ ((List.range g.st.length).drop x.1).flatMap (pushI a.acc.length a.ed g.nx ls) = pushS g ls a) (fun x => g.st.length - x.1) (0, []) ⟨by omega, rfl⟩
    ⟨[0, 1, 2], rfl, by decide, rfl, ⟨⟨rfl, rfl⟩, ⟨rfl, rfl⟩, ⟨rfl, rfl⟩, ⟨rfl, rfl⟩, ⟨rfl, rfl⟩, ⟨rfl, rfl⟩, trivial⟩, ⟨z31 rfl rfl, z31 rfl rfl, z10 (z16 (rows_nil _).symm) (z0 fun _ => rfl), trivial⟩⟩ ?_
  rintro ⟨i, ps⟩ ⟨hi1, hi2⟩
  dsimp only at hi1 hi2 ⊢
  repeat' (first | (apply AWP.go ok; rfl; conv => whnf) | (apply z2 <;> intro _ <;> conv => whnf))
  · have hig : i < g.st.length := by omega
    rw [drop_flat _ _ _ (by simpa using hig), List.getElem_range] at hi2
    have hin : i < g.nx.length := by omega
    have hrow := hrow i hin
    have hlen := hlen i hin
    have hli := hlr ls[i] (List.getElem_mem _)
    have hpI : pushI a.acc.length a.ed g.nx ls i = g.nx[i].flatMap (pushJ a.acc.length a.ed i ls[i]) := by
      unfold pushI
      rw [z23 hin, z23 (by omega)]
    rw [hpI] at hi2
    refine z85 (fun x : Nat × List (Nat × Int) => ([(1, ints ls), (3, .ptr 0 none 0), (5, .ptr 1 none 0), (7, .int a.acc.length), (8, .sref 2 0 (a.acc.length * g.st.length)), (9, .int i), (10, .int x.1)], [.cells 2 [[lst 2 State.cs g.st, lst 1 encL g.nx]], .cells 3 [[lst 1 enI a.ini, lst 1 enB a.acc, lst 4 Trans.cs a.ed]], .cells 1 ((build (a.acc.length * g.st.length) x.2).map ownRow)])) (fun x => x.1 ≤ g.nx[i].length ∧ x.2 ++ ((g.nx[i].drop x.1).flatMap (pushJ a.acc.length a.ed i ls[i]) ++ ((List.range g.st.length).drop (i + 1)).flatMap (pushI a.acc.length a.ed g.nx ls)) = pushS g ls a) (fun x => g.nx[i].length - x.1) (0, ps) ⟨by omega, hi2⟩
      ⟨[0, 1, 2], rfl, by decide, rfl, ⟨⟨rfl, rfl⟩, ⟨rfl, rfl⟩, ⟨rfl, rfl⟩, ⟨rfl, rfl⟩, ⟨rfl, rfl⟩, ⟨rfl, rfl⟩, ⟨rfl, rfl⟩, trivial⟩, ⟨z31 rfl rfl, z31 rfl rfl, z10 rfl (z0 fun _ => rfl), trivial⟩⟩ ?_
    rintro ⟨j, ps⟩ ⟨hj1, hj2⟩
    dsimp only at hj1 hj2 ⊢
    repeat' (first | (apply AWP.go ok; rfl; conv => whnf) | (apply And.intro; (first | omega | (unfold inI; omega)); conv => whnf) | (with_reducible apply z3; omega; intro _; conv => whnf) | (apply z2 <;> intro _ <;> conv => whnf))
    · have hjn : j < g.nx[i].length := by omega
      rw [drop_flat _ _ _ hjn, List.append_assoc] at hj2
      have hto := hrow g.nx[i][j] (List.getElem_mem _)
      refine z85 (fun x : Nat × List (Nat × Int) => ([(1, ints ls), (3, .ptr 0 none 0), (5, .ptr 1 none 0), (7, .int a.acc.length), (8, .sref 2 0 (a.acc.length * g.st.length)), (9, .int i), (10, .int j), (11, .int x.1)], [.cells 2 [[lst 2 State.cs g.st, lst 1 encL g.nx]], .cells 3 [[lst 1 enI a.ini, lst 1 enB a.acc, lst 4 Trans.cs a.ed]], .cells 1 ((build (a.acc.length * g.st.length) x.2).map ownRow)])) (fun x => x.1 ≤ a.ed.length ∧ x.2 ++ ((a.ed.drop x.1).flatMap (pushE a.acc.length i ls[i] g.nx[i][j]) ++ ((g.nx[i].drop (j + 1)).flatMap (pushJ a.acc.length a.ed i ls[i]) ++ ((List.range g.st.length).drop (i + 1)).flatMap (pushI a.acc.length a.ed g.nx ls))) = pushS g ls a) (fun x => a.ed.length - x.1) (0, ps) ⟨by omega, hj2⟩
        ⟨[0, 1, 2], rfl, by decide, rfl, ⟨⟨rfl, rfl⟩, ⟨rfl, rfl⟩, ⟨rfl, rfl⟩, ⟨rfl, rfl⟩, ⟨rfl, rfl⟩, ⟨rfl, rfl⟩, ⟨rfl, rfl⟩, ⟨rfl, rfl⟩, trivial⟩, ⟨z31 rfl rfl, z31 rfl rfl, z10 rfl (z0 fun _ => rfl), trivial⟩⟩ ?_
      rintro ⟨k, ps⟩ ⟨hk1, hk2⟩
      dsimp only at hk1 hk2 ⊢
      have hm1 := mul_bound (a := (i : Int)) (b := (a.acc.length : Int)) (A := 60) (B := 64) (by omega) (by omega) (by omega) (by omega)
      have hm2 := mul_bound (a := g.nx[i][j]) (b := (a.acc.length : Int)) (A := 60) (B := 64) (by omega) (by omega) (by omega) (by omega)
      by_cases hke : k < a.ed.length
      · have he := a5 a.ed[k] (List.getElem_mem hke)
        unfold edgeP at he
        have hlt : i * a.acc.length + a.ed[k].src.toNat < (build (a.acc.length * g.st.length) ps).length := by
          rw [z96]
          have h1 : (i + 1) * a.acc.length ≤ g.st.length * a.acc.length := Nat.mul_le_mul_right _ hig
          rw [Nat.add_mul, Nat.one_mul, Nat.mul_comm g.st.length] at h1
          omega
        repeat' (first | ((fail_if_success apply z69 14); (fail_if_success apply z57 14); apply AWP.go ok; rfl; conv => whnf) | (apply z5; kernel_rfl; conv => whnf) | (apply And.intro; (first | omega | (unfold inI; omega)); conv => whnf) | (with_reducible apply z3; omega; intro _; conv => whnf) | (apply z2 <;> intro _ <;> conv => whnf) | (apply z4 (l7On_ok a.ed[k] ls[i] hli.1 hli.2 (a5 _ (List.getElem_mem _)).2.2.1); rfl; rfl; conv => whnf))
        · have hon : ((ls[i].toNat &&& a.ed[k].care.toNat : Nat) : Int) = a.ed[k].val := by assumption
          have hrl : (build (a.acc.length * g.st.length) ps)[i * a.acc.length + a.ed[k].src.toNat].length ≤ 1000000000 := by
            have h1 := build_row_le (N := a.acc.length * g.st.length) (ps := ps) hlt
            have h2 := congrArg List.length hk2
            rw [List.length_append] at h2
            omega
          have hin : ((i : Int) * a.acc.length + a.ed[k].src).toNat = i * a.acc.length + a.ed[k].src.toNat := by
            have e : ((i * a.acc.length : Nat) : Int) = (i : Int) * a.acc.length := by simp
            omega
          have hlt2 : ((i : Int) * a.acc.length + a.ed[k].src).toNat < a.acc.length * g.st.length := by
            rw [hin, ← z96 (a.acc.length * g.st.length) ps]; exact hlt
          have hmap : i * a.acc.length + a.ed[k].src.toNat < ((build (a.acc.length * g.st.length) ps).map ownRow).length := by rw [List.length_map]; exact hlt
          refine AWP.reach (Gl.Reach.expose (e := ownRow (build (a.acc.length * g.st.length) ps)[i * a.acc.length + a.ed[k].src.toNat]) 2 (i * a.acc.length + a.ed[k].src.toNat) 0 rfl (by rw [List.getElem?_map, List.getElem?_eq_getElem hlt]; rfl) rfl (leaf_map (fun _ => rfl) _) rfl) ?_
          conv => whnf
          (apply AWP.go ok; rfl; conv => whnf)
          repeat' (first | (apply z5; kernel_rfl; conv => whnf) | (apply get_set; exact hin; exact hmap; conv => whnf) | (apply And.intro; (first | omega | (unfold inI; omega) | ((try dsimp only); simp only [List.length_map, List.length_take, List.length_append, List.length_replicate, List.length_cons, List.length_nil]; omega) | exact ⟨rfl, z12 rfl z20⟩); conv => whnf) | (with_reducible apply z3; omega; intro _; conv => whnf))
          refine AWP.reach (Gl.Reach.absorb 2 5 (i * a.acc.length + a.ed[k].src.toNat) 0 rfl (getset hin (by rw [List.length_set]; exact hmap)) rfl rfl (by simp) rfl (z9 (fun e he => (z0 (fun _ => rfl)) e (List.mem_of_mem_take he)) (flat_cons rfl z17)) rfl) ?_
          conv => whnf
          repeat' (first | (apply AWP.go ok; rfl; conv => whnf) | (apply And.intro; ((unfold inI; omega)); conv => whnf))
          rw [drop_flat _ _ _ hke] at hk2
          have hpe : pushE a.acc.length i ls[i] g.nx[i][j] a.ed[k] = [(i * a.acc.length + a.ed[k].src.toNat, g.nx[i][j] * a.acc.length + a.ed[k].dst)] := by
            unfold pushE onB; rw [if_pos (decide_eq_true hon)]
          rw [hpe, List.append_assoc, ← List.append_assoc] at hk2
          exact z75 (k + 1, ps ++ [(i * a.acc.length + a.ed[k].src.toNat, g.nx[i][j] * a.acc.length + a.ed[k].dst)]) [0, 1, 2] ⟨by dsimp only; omega, hk2⟩ (by dsimp only; omega)
            ⟨rfl, by decide, rfl, ⟨⟨rfl, rfl⟩, ⟨rfl, rfl⟩, ⟨rfl, rfl⟩, ⟨rfl, rfl⟩, ⟨rfl, rfl⟩, ⟨rfl, rfl⟩, ⟨rfl, rfl⟩, ⟨rfl, rfl⟩, trivial⟩, ⟨z31 rfl rfl, z31 rfl rfl, z10 (z16 (rows_push' hlt hin (by simp))) (z0 fun _ => rfl), trivial⟩⟩
        · rename_i hon
          rw [drop_flat _ _ _ hke] at hk2
          have hpe : pushE a.acc.length i ls[i] g.nx[i][j] a.ed[k] = [] := by
            unfold pushE onB; rw [if_neg (by simpa using hon)]
          rw [hpe, List.nil_append] at hk2
          exact z75 (k + 1, ps) [0, 1, 2] ⟨by dsimp only; omega, hk2⟩ (by dsimp only; omega)
            ⟨rfl, by decide, rfl, ⟨⟨rfl, rfl⟩, ⟨rfl, rfl⟩, ⟨rfl, rfl⟩, ⟨rfl, rfl⟩, ⟨rfl, rfl⟩, ⟨rfl, rfl⟩, ⟨rfl, rfl⟩, ⟨rfl, rfl⟩, trivial⟩, ⟨z31 rfl rfl, z31 rfl rfl, z10 rfl (z0 fun _ => rfl), trivial⟩⟩
        · omega
      · repeat' (first | ((fail_if_success apply z69 14); (fail_if_success apply z57 14); apply AWP.go ok; rfl; conv => whnf) | (apply And.intro; (first | omega | (unfold inI; omega)); conv => whnf) | (with_reducible apply z3; omega; intro _; conv => whnf) | (apply z2 <;> intro _ <;> conv => whnf))
        · omega
        · rw [z101 _ _ _ (by omega), List.nil_append] at hk2
          exact z75 (j + 1, ps) [0, 1, 2] ⟨by dsimp only; omega, hk2⟩ (by dsimp only; omega)
            ⟨rfl, by decide, rfl, ⟨⟨rfl, rfl⟩, ⟨rfl, rfl⟩, ⟨rfl, rfl⟩, ⟨rfl, rfl⟩, ⟨rfl, rfl⟩, ⟨rfl, rfl⟩, ⟨rfl, rfl⟩, trivial⟩, ⟨z31 rfl rfl, z31 rfl rfl, z10 rfl (z0 fun _ => rfl), trivial⟩⟩
    · rw [z101 _ _ _ (by omega), List.nil_append] at hj2
      exact z75 (i + 1, ps) [0, 1, 2] ⟨by dsimp only; omega, hj2⟩ (by dsimp only; omega)
        ⟨rfl, by decide, rfl, ⟨⟨rfl, rfl⟩, ⟨rfl, rfl⟩, ⟨rfl, rfl⟩, ⟨rfl, rfl⟩, ⟨rfl, rfl⟩, ⟨rfl, rfl⟩, trivial⟩, ⟨z31 rfl rfl, z31 rfl rfl, z10 rfl (z0 fun _ => rfl), trivial⟩⟩
  · rw [z101 _ _ _ (by simp; omega), List.append_nil] at hi2
    subst hi2
    exact ret_new rfl (z0 fun _ => rfl) rfl rfl

theorem keepRows {f : FuncId} {args : List AC} {n : Nat} {l : List (List Int)} (h : CallsA Tryz.prog f args [] (.sref 0 0 n) [.cells 1 (l.map ownRow)]) (hl : l.length = n) : CallsA Tryz.prog f args [] (lst 1 encL l) [] := by
  refine h.lend [] [0] rfl rfl rfl ?_ z11
  rw [bor_full (w := 1) (es := l.map ownRow) rfl rfl rfl (by rw [List.length_map]; exact hl), rows_unown, ← hl]; rfl

theorem l8Product_ok (g : Graph) (hg : GB g) (ls : List Int) (hls : ls.length = g.st.length) (hlr : ∀ x ∈ ls, 0 ≤ x ∧ x ≤ 7) (a : Aut) (ha : AutP a) : CallsA Tryz.prog 82 [.agg g.cs, ints ls, .agg a.cs] [] (lst 1 encL (z42 g ls a)) [] :=
  keepRows (l8Product_new g hg ls hls hlr a ha) (z96 _ _)
end Go.Proofs.YtknlmbniicacmaaGreat

namespace Go.Proofs.YtknlmbniicacmaaGreat
open Go.Gl
attribute [local irreducible] z22 AWP z46 z54 z51

/-- the edges of each state -/
def z65 (a : Aut) : List (List Trans) := z97 a.acc.length (a.ed.map fun e => (e.src.toNat, e))
def encT (r : List Trans) : List AC := [.list 4 r.length (r.map Trans.cs)]
theorem ltr_lt (v : List Int) : ∀ (l : List Tree) (k n : Nat), n < 2 ^ k → ltr v l k n < 2 ^ (k + l.length) := by
  intro l
  induction l with
  | nil => intro k n h; simpa [ltr] using h
  | cons t l ih =>
    intro k n h
    rw [ltr]
    have e : k + (t :: l).length = k + 1 + l.length := by simp only [List.length_cons]; omega
    rw [e]
    refine ih (k + 1) _ ?_
    split
    · rw [Nat.pow_succ]; omega
    · exact or_lt h
theorem letter_range {l : List Tree} (hl : LabelsOk l) (s : State) : 0 ≤ z48 l s ∧ z48 l s ≤ 7 := by
  have := ltr_lt s.b l 0 0 (by decide)
  rw [hl.1] at this
  unfold z48
  have e : (2 : Nat) ^ (0 + 3) = 8 := by decide
  omega

def pE2 (n i q : Nat) (ℓ to : Int) (e : Trans) : List (Nat × Int) := if onB e ℓ then [(i * n + q, to * n + e.dst)] else []
def pTo (n : Nat) (row : List Trans) (i q : Nat) (ℓ to : Int) : List (Nat × Int) := row.flatMap (pE2 n i q ℓ to)
def pQ (n : Nat) (nxi : List Int) (rows : List (List Trans)) (i : Nat) (ℓ : Int) (q : Nat) : List (Nat × Int) := nxi.flatMap (pTo n (rows.getD q []) i q ℓ)
def pI2 (n : Nat) (nx : List (List Int)) (rows : List (List Trans)) (ls : List Int) (i : Nat) : List (Nat × Int) := (List.range n).flatMap (pQ n (nx.getD i []) rows i (ls.getD i 0))
def pS2 (g : Graph) (ls : List Int) (a : Aut) : List (Nat × Int) := (List.range g.st.length).flatMap (pI2 a.acc.length g.nx (z65 a) ls)

theorem edRows_get {a : Aut} {q : Nat} (h : q < a.acc.length) : (z65 a).getD q [] = a.ed.filter (fun e => e.src.toNat == q) := by
  unfold z65
  rw [z23 (by rw [z133]; exact h), buildG_get, List.filter_map, List.map_map]
  exact List.map_id _
theorem range_one {β : Type} {F : Nat → List β} {n q0 : Nat} (hq : q0 < n) (h : ∀ q, q < n → q ≠ q0 → F q = []) : (List.range n).flatMap F = F q0 := by
  have : ∀ m, (List.range m).flatMap F = if q0 < m ∧ m ≤ n then F q0 else if m ≤ n then [] else (List.range m).flatMap F := by
    intro m
    induction m with
    | zero => simp
    | succ m ih =>
      by_cases hm : m + 1 ≤ n
      · rw [List.range_succ, List.flatMap_append, ih, List.flatMap_cons, List.flatMap_nil, List.append_nil]
        by_cases h1 : q0 < m
        · rw [if_pos ⟨h1, by omega⟩, if_pos ⟨by omega, hm⟩, h m (by omega) (by omega), List.append_nil]
        · rw [if_neg (by omega), if_pos (by omega)]
          by_cases h2 : q0 = m
          · subst h2; rw [if_pos ⟨by omega, hm⟩]; rfl
          · rw [if_neg (by omega), if_pos hm, h m (by omega) (by omega)]; rfl
      · rw [if_neg (by omega), if_neg hm]
  rw [this n, if_pos ⟨hq, Nat.le_refl _⟩]
theorem range_none {β : Type} {F : Nat → List β} {n : Nat} (h : ∀ q, q < n → F q = []) : (List.range n).flatMap F = [] := by
  rw [List.flatMap_eq_nil_iff]
  intro q hq
  exact h q (List.mem_range.1 hq)

/-- the program's pushes fill the same rows -/
theorem pS2_rows (g : Graph) (ls : List Int) (a : Aut) (ha : AutP a) (r : Nat) : (pS2 g ls a).filter (fun p => p.1 == r) = (pushS g ls a).filter (fun p => p.1 == r) := by
  unfold pS2 pushS
  rw [List.filter_flatMap, List.filter_flatMap]
  refine flat_congr fun i hi => ?_
  unfold pI2 pushI
  rw [List.filter_flatMap, List.filter_flatMap]
  have hsrc : ∀ e ∈ a.ed, e.src.toNat < a.acc.length := fun e he => by
    have := (ha.2.2.2 e he).1; omega
  by_cases hr : i * a.acc.length ≤ r ∧ r < i * a.acc.length + a.acc.length
  · obtain ⟨q0, rfl⟩ : ∃ q0, r = i * a.acc.length + q0 := ⟨r - i * a.acc.length, by omega⟩
    have hq0 : q0 < a.acc.length := by omega
    rw [range_one hq0 (fun q hq hne => by
      unfold pQ
      rw [List.filter_flatMap]
      refine List.flatMap_eq_nil_iff.2 fun to _ => ?_
      unfold pTo
      rw [List.filter_flatMap]
      refine List.flatMap_eq_nil_iff.2 fun e _ => ?_
      unfold pE2
      split
      · simp; omega
      · rfl)]
    unfold pQ
    rw [List.filter_flatMap, edRows_get hq0]
    refine flat_congr fun to _ => ?_
    unfold pTo pushJ
    rw [List.filter_flatMap, List.filter_flatMap]
    induction a.ed with
    | nil => rfl
    | cons e es ih =>
      rw [List.flatMap_cons, ← ih, List.filter_cons]
      by_cases he : e.src.toNat = q0
      · rw [if_pos (by simpa using he), List.flatMap_cons]
        unfold pE2 pushE
        rw [he]
      · rw [if_neg (by simpa using he)]
        have : (pushE a.acc.length i (ls.getD i 0) to e).filter (fun p => p.1 == i * a.acc.length + q0) = [] := by
          unfold pushE
          split
          · simp; omega
          · rfl
        rw [this, List.nil_append]
  · rw [range_none (fun q hq => by
      unfold pQ
      rw [List.filter_flatMap]
      refine List.flatMap_eq_nil_iff.2 fun to _ => ?_
      unfold pTo
      rw [List.filter_flatMap]
      refine List.flatMap_eq_nil_iff.2 fun e _ => ?_
      unfold pE2
      split
      · simp; omega
      · rfl)]
    symm
    refine List.flatMap_eq_nil_iff.2 fun to _ => ?_
    unfold pushJ
    rw [List.filter_flatMap]
    refine List.flatMap_eq_nil_iff.2 fun e he => ?_
    have := hsrc e he
    unfold pushE
    split
    · simp; omega
    · rfl
theorem pS2_len (g : Graph) (hg : GB g) (ls : List Int) (a : Aut) (ha : AutP a) : (pS2 g ls a).length ≤ 1000000000 := by
  obtain ⟨⟨g1, g2⟩, g3, g4⟩ := hg
  have h2 : ∀ i ∈ List.range g.st.length, (pI2 a.acc.length g.nx (z65 a) ls i).length ≤ 7864320 := fun i hi => by
    rw [List.mem_range] at hi
    unfold pI2
    rw [z23 (l := g.nx) (by omega)]
    have h3 := flat_len (f := pQ a.acc.length g.nx[i] (z65 a) i (ls.getD i 0)) (c := 122880) (List.range a.acc.length) (fun q hq => by
      have h1 : ∀ to, (pTo a.acc.length ((z65 a).getD q []) i q (ls.getD i 0) to).length ≤ 2048 := fun to => by
        have h5 := flat_len (f := pE2 a.acc.length i q (ls.getD i 0) to) (c := 1) ((z65 a).getD q []) (fun e _ => by unfold pE2; split <;> simp)
        rw [edRows_get (List.mem_range.1 hq)] at h5 ⊢
        have := List.length_filter_le (fun e : Trans => e.src.toNat == q) a.ed
        have := ha.2.1
        unfold pTo; omega
      have h3 := flat_len (f := pTo a.acc.length ((z65 a).getD q []) i q (ls.getD i 0)) (c := 2048) g.nx[i] (fun to _ => h1 to)
      have h4 := (g4 i (by omega) (by omega) hi).2.1
      have : g.nx[i].length * 2048 ≤ 60 * 2048 := Nat.mul_le_mul_right _ (by omega)
      unfold pQ; omega)
    rw [List.length_range] at h3
    have : a.acc.length * 122880 ≤ 64 * 122880 := Nat.mul_le_mul_right _ ha.1.2
    omega
  have h5 := flat_len (f := pI2 a.acc.length g.nx (z65 a) ls) (c := 7864320) (List.range g.st.length) h2
  rw [List.length_range] at h5
  have : g.st.length * 7864320 ≤ 60 * 7864320 := Nat.mul_le_mul_right _ (by omega)
  unfold pS2; omega
theorem build_pS2 (g : Graph) (ls : List Int) (a : Aut) (ha : AutP a) : build (g.st.length * a.acc.length) (pS2 g ls a) = z42 g ls a := by
  unfold z42 build
  rw [Nat.mul_comm]
  refine List.map_congr_left fun r _ => ?_
  rw [pS2_rows g ls a ha r]

set_option maxHeartbeats 800000 in
theorem product_new (g : Graph) (hg : GB g) (l : List Tree) (hl : LabelsOk l) (a : Aut) (ha : AutP a) : CallsA Tryz.prog 79 [.agg g.cs, lst 3 Tree.cs' l, .agg a.cs] [] (.tup [.sref 0 0 (g.st.length * a.acc.length), ints a.ini]) [.cells 1 ((z42 g (g.st.map (z48 l)) a).map ownRow)] := by
  have hvals := hg.vals
  have hpl := pushS_len g hg (g.st.map (z48 l)) a ha
  have hini := ha.2.2.1.le (by omega)
  obtain ⟨⟨g1, g2⟩, g3, g4⟩ := hg
  obtain ⟨⟨a1, a2⟩, a3, a4, a5⟩ := ha
  have hN := mul_bound (a := (g.st.length : Int)) (b := (a.acc.length : Int)) (A := 60) (B := 64) (by omega) (by omega) (by omega) (by omega)
  refine z7 z28 Tryz.func79 rfl rfl 117 Tryz.ntmps79 (by simp) ?_
  repeat' (first | (apply AWP.go ok; rfl; conv => whnf) | (apply And.intro; ((dsimp only; omega)); conv => whnf))
  refine AWP.reach (Gl.Reach.weaken (es' := List.replicate a.acc.length [.own 4 []]) 2 rfl (by rw [List.length_replicate, List.length_replicate]; rfl) rows_weaken rfl) ?_
  conv => whnf
  refine z85 (fun k : Nat => ([(1, lst 3 Tree.cs' l), (3, .ptr 0 none 0), (5, .ptr 1 none 0), (8, .int a.acc.length), (9, .sref 2 0 a.acc.length), (26, lst 4 Trans.cs a.ed), (27, .int a.ed.length), (28, .int k)], [.cells 2 [[lst 2 State.cs g.st, lst 1 encL g.nx]], .cells 3 [[lst 1 enI a.ini, lst 1 enB a.acc, lst 4 Trans.cs a.ed]], .cells 1 ((z97 a.acc.length ((a.ed.take k).map fun e => (e.src.toNat, e))).map (ownG 4 Trans.cs))])) (fun k => k ≤ a.ed.length) (fun k => a.ed.length - k) 0 (by omega)
    ⟨[0, 1, 2], rfl, by decide, rfl, ⟨⟨rfl, rfl⟩, ⟨rfl, rfl⟩, ⟨rfl, rfl⟩, ⟨rfl, rfl⟩, ⟨rfl, rfl⟩, ⟨rfl, rfl⟩, ⟨rfl, rfl⟩, ⟨rfl, rfl⟩, trivial⟩, ⟨z31 rfl rfl, z31 rfl rfl, z10 (z16 (rowsG_nil _ _ _).symm) (z0 fun _ => rfl), trivial⟩⟩ ?_
  intro k hk
  have hN2 : ((g.st.length * a.acc.length : Nat) : Int) = (g.st.length : Int) * a.acc.length := by simp
  repeat' (first | ((fail_if_success apply z69 6); (fail_if_success apply z57 6); (fail_if_success apply z69 8); (fail_if_success apply z57 8); apply AWP.go ok; rfl; conv => whnf) | (apply And.intro; (omega); conv => whnf) | (with_reducible apply z3; omega; intro _; conv => whnf) | (apply z2 <;> intro _ <;> conv => whnf))
  · have hkl : k < a.ed.length := by assumption
    have he := a5 a.ed[k] (List.getElem_mem hkl)
    unfold edgeP at he
    have hlt : a.ed[k].src.toNat < (z97 a.acc.length ((a.ed.take k).map fun e => (e.src.toNat, e))).length := by rw [z133]; omega
    have hmap : a.ed[k].src.toNat < ((z97 a.acc.length ((a.ed.take k).map fun e => (e.src.toNat, e))).map (ownG 4 Trans.cs)).length := by rw [List.length_map]; exact hlt
    have hrl := buildG_row_le hlt
    rw [List.length_map, List.length_take] at hrl
    refine AWP.reach (Gl.Reach.expose (e := ownG 4 Trans.cs (z97 a.acc.length ((a.ed.take k).map fun e => (e.src.toNat, e)))[a.ed[k].src.toNat]) 2 a.ed[k].src.toNat 0 rfl (by rw [List.getElem?_map, List.getElem?_eq_getElem hlt]; rfl) rfl (leaf_map (fun _ => rfl) _) rfl) ?_
    conv => whnf
    (apply AWP.go ok; rfl; conv => whnf)
    repeat' (first | (apply z5; kernel_rfl; conv => whnf) | (apply get_set; exact Nat.add_zero _; exact hmap; conv => whnf) | (apply And.intro; (first | omega | ((try dsimp only); simp only [List.length_map, List.length_take, List.length_append, List.length_replicate, List.length_cons, List.length_nil]; omega) | exact ⟨rfl, z12 rfl z20⟩); conv => whnf))
    refine AWP.reach (Gl.Reach.absorb 2 6 a.ed[k].src.toNat 0 rfl (getset (Nat.add_zero _) (by rw [List.length_set]; exact hmap)) rfl rfl (by simp) rfl (z9 (fun e he => (z0 (fun _ => rfl)) e (List.mem_of_mem_take he)) (flat_cons rfl z17)) rfl) ?_
    conv => whnf
    repeat' (first | ((fail_if_success apply z69 6); (fail_if_success apply z57 6); (fail_if_success apply z69 8); (fail_if_success apply z57 8); apply AWP.go ok; rfl; conv => whnf) | (apply And.intro; ((unfold inI; omega)); conv => whnf))
    refine z75 (k + 1) [0, 1, 2] (by omega) (by omega)
      ⟨rfl, by decide, rfl, ⟨⟨rfl, rfl⟩, ⟨rfl, rfl⟩, ⟨rfl, rfl⟩, ⟨rfl, rfl⟩, ⟨rfl, rfl⟩, ⟨rfl, rfl⟩, ⟨rfl, rfl⟩, ⟨rfl, rfl⟩, trivial⟩, ⟨z31 rfl rfl, z31 rfl rfl, z10 (z16 ?_) (z0 fun _ => rfl), trivial⟩⟩
    have e1 : ((a.ed.take (k + 1)).map fun e => (e.src.toNat, e)) = ((a.ed.take k).map fun e => (e.src.toNat, e)) ++ [(a.ed[k].src.toNat, a.ed[k])] := by
      rw [List.take_succ_eq_append_getElem hkl, List.map_append]; rfl
    rw [e1]
    exact rowsG_push hlt (Nat.add_zero _) (by simp) rfl
  obtain rfl : k = a.ed.length := by omega
  refine AWP.reach (SealL.reach (π := [0, 1]) (Bn := [2]) (env := [(1, lst 3 Tree.cs' l), (3, .ptr 0 none 0), (5, .ptr 1 none 0), (8, .int a.acc.length), (9, lst 1 encT (z65 a))]) (objs := [.cells 2 [[lst 2 State.cs g.st, lst 1 encL g.nx]], .cells 3 [[lst 1 enI a.ini, lst 1 enB a.acc, lst 4 Trans.cs a.ed]]]) ⟨rfl, rfl, by simp, rfl, by intro o ho; simp at ho; rcases ho with rfl | rfl <;> rfl, ⟨rfl, rfl, rfl, rfl, ?_, trivial⟩, rfl⟩) ?_
  · show bor _ _ _ (.sref 2 0 a.acc.length) = _
    rw [bor_full (w := 1) (es := (z97 a.acc.length ((a.ed.take a.ed.length).map fun e => (e.src.toNat, e))).map (ownG 4 Trans.cs)) rfl rfl rfl (by rw [List.length_map, z133]), rowsG_unown (fun t => Trans.unown t), List.take_length]
    unfold lst z65
    rw [z133]; rfl
  conv => whnf
  repeat' (first | (apply AWP.go ok; rfl; conv => whnf) | (apply And.intro; (first | (unfold inI; omega) | (dsimp only; omega)); conv => whnf) | (apply z4 (label_ok g hvals g2 l hl); rfl; rfl; conv => whnf))
  refine AWP.reach (Gl.Reach.weaken (es' := List.replicate (g.st.length * a.acc.length) [.own 1 []]) 2 rfl (by rw [List.length_replicate, List.length_replicate]; rfl) rows_weaken rfl) ?_
  conv => whnf
  have hls : (g.st.map (z48 l)).length = g.st.length := by simp
  have hlr : ∀ x ∈ g.st.map (z48 l), 0 ≤ x ∧ x ≤ 7 := fun x hx => by
    obtain ⟨s, _, rfl⟩ := List.mem_map.1 hx
    exact letter_range hl s
  rw [← build_pS2 g _ a ⟨⟨a1, a2⟩, a3, a4, a5⟩]
  have hpl2 := pS2_len g ⟨⟨g1, g2⟩, g3, g4⟩ (g.st.map (z48 l)) a ⟨⟨a1, a2⟩, a3, a4, a5⟩
  generalize hlsd : g.st.map (z48 l) = ls at hls hlr hpl hpl2
  have hrow : ∀ i (hi : i < g.nx.length), ∀ x ∈ g.nx[i], 0 ≤ x ∧ x ≤ g.st.length - 1 := fun i hi x hx => by
    obtain ⟨j, hj, rfl⟩ := List.mem_iff_getElem.1 hx
    exact ((g4 i hi hi (by omega)).2.2.2 j hj hj).1
  have hlen : ∀ i (hi : i < g.nx.length), g.nx[i].length ≤ 60 := fun i hi => by
    have := (g4 i hi hi (by omega)).2.1; omega
  have hel : (z65 a).length = a.acc.length := z133 _ _
  have hed : ∀ q (hq : q < (z65 a).length), ∀ e ∈ (z65 a)[q], e ∈ a.ed := fun q hq e he => by
    rw [← z23 (d := []) hq, edRows_get (by omega)] at he; exact (List.mem_filter.1 he).1
  have hedl : ∀ q (hq : q < (z65 a).length), (z65 a)[q].length ≤ 2048 := fun q hq => by
    rw [← z23 (d := []) hq, edRows_get (by omega)]; exact Nat.le_trans (List.length_filter_le _ _) a3
  refine z85 (fun x : Nat × List (Nat × Int) => ([(3, .ptr 0 none 0), (5, .ptr 1 none 0), (8, .int a.acc.length), (9, lst 1 encT (z65 a)), (12, .sref 2 0 (g.st.length * a.acc.length)), (53, ints ls), (54, .int ls.length), (55, .int x.1)], [.cells 2 [[lst 2 State.cs g.st, lst 1 encL g.nx]], .cells 3 [[lst 1 enI a.ini, lst 1 enB a.acc, lst 4 Trans.cs a.ed]], .cells 1 ((build (g.st.length * a.acc.length) x.2).map ownRow)])) (fun x => x.1 ≤ ls.length ∧ x.2 ++ ((List.range g.st.length).drop x.1).flatMap (pI2 a.acc.length g.nx (z65 a) ls) = pS2 g ls a) (fun x => ls.length - x.1) (0, []) ⟨by omega, rfl⟩
    ⟨[0, 1, 2], rfl, by decide, rfl, ⟨⟨rfl, by rfl⟩, ⟨rfl, by rfl⟩, ⟨rfl, by rfl⟩, ⟨rfl, by rfl⟩, ⟨rfl, by rfl⟩, ⟨rfl, by rfl⟩, ⟨rfl, by rfl⟩, ⟨rfl, by rfl⟩, trivial⟩, ⟨z31 rfl rfl, z31 rfl rfl, z10 (z16 (rows_nil _).symm) (z0 fun _ => rfl), trivial⟩⟩ ?_
  rintro ⟨i, ps⟩ ⟨hi1, hi2⟩
  dsimp only at hi1 hi2 ⊢
  repeat' (first | (apply AWP.go ok; rfl; conv => whnf) | (apply And.intro; (omega); conv => whnf) | (with_reducible apply z3; omega; intro _; conv => whnf) | (apply z2 <;> intro _ <;> conv => whnf))
  · have hig : i < g.st.length := by omega
    rw [drop_flat _ _ _ (by simpa using hig), List.getElem_range] at hi2
    have hin : i < g.nx.length := by omega
    have hrow := hrow i hin
    have hlen := hlen i hin
    have hil : i < ls.length := by omega
    have hli := hlr ls[i] (List.getElem_mem _)
    have hpI : pI2 a.acc.length g.nx (z65 a) ls i = (List.range a.acc.length).flatMap (pQ a.acc.length g.nx[i] (z65 a) i ls[i]) := by
      unfold pI2
      rw [z23 (l := g.nx) hin, z23 (l := ls) hil]
    rw [hpI] at hi2
    have hm1 := mul_bound (a := (i : Int)) (b := (a.acc.length : Int)) (A := 60) (B := 64) (by omega) (by omega) (by omega) (by omega)
    refine z85 (fun x : Nat × List (Nat × Int) => ([(3, .ptr 0 none 0), (5, .ptr 1 none 0), (8, .int a.acc.length), (9, lst 1 encT (z65 a)), (12, .sref 2 0 (g.st.length * a.acc.length)), (53, ints ls), (54, .int ls.length), (55, .int i), (13, .int i), (14, .int ls[i]), (60, .int a.acc.length), (61, .int x.1)], [.cells 2 [[lst 2 State.cs g.st, lst 1 encL g.nx]], .cells 3 [[lst 1 enI a.ini, lst 1 enB a.acc, lst 4 Trans.cs a.ed]], .cells 1 ((build (g.st.length * a.acc.length) x.2).map ownRow)])) (fun x => x.1 ≤ a.acc.length ∧ x.2 ++ (((List.range a.acc.length).drop x.1).flatMap (pQ a.acc.length g.nx[i] (z65 a) i ls[i]) ++ ((List.range g.st.length).drop (i + 1)).flatMap (pI2 a.acc.length g.nx (z65 a) ls)) = pS2 g ls a) (fun x => a.acc.length - x.1) (0, ps) ⟨by omega, hi2⟩
      ⟨[0, 1, 2], rfl, by decide, rfl, ⟨⟨rfl, rfl⟩, ⟨rfl, rfl⟩, ⟨rfl, rfl⟩, ⟨rfl, rfl⟩, ⟨rfl, rfl⟩, ⟨rfl, rfl⟩, ⟨rfl, rfl⟩, ⟨rfl, rfl⟩, ⟨rfl, rfl⟩, ⟨rfl, rfl⟩, ⟨rfl, rfl⟩, ⟨rfl, rfl⟩, trivial⟩, ⟨z31 rfl rfl, z31 rfl rfl, z10 rfl (z0 fun _ => rfl), trivial⟩⟩ ?_
    rintro ⟨q, ps⟩ ⟨hq1, hq2⟩
    dsimp only at hq1 hq2 ⊢
    repeat' (first | (apply AWP.go ok; rfl; conv => whnf) | (apply And.intro; (first | omega | (unfold inI; omega)); conv => whnf) | (with_reducible apply z3; omega; intro _; conv => whnf) | (apply z2 <;> intro _ <;> conv => whnf))
    · have hqn : q < a.acc.length := by omega
      rw [drop_flat _ _ _ (by simpa using hqn), List.getElem_range, List.append_assoc] at hq2
      have hqe : q < (z65 a).length := by omega
      have hpQ : pQ a.acc.length g.nx[i] (z65 a) i ls[i] q = g.nx[i].flatMap (pTo a.acc.length (z65 a)[q] i q ls[i]) := by
        unfold pQ; rw [z23 hqe]
      rw [hpQ] at hq2
      have hedl := hedl q hqe
      have hlt : i * a.acc.length + q < g.st.length * a.acc.length := by
        have h1 : (i + 1) * a.acc.length ≤ g.st.length * a.acc.length := Nat.mul_le_mul_right _ hig
        rw [Nat.add_mul, Nat.one_mul] at h1
        omega
      refine z85 (fun x : Nat × List (Nat × Int) => ([(3, .ptr 0 none 0), (5, .ptr 1 none 0), (8, .int a.acc.length), (9, lst 1 encT (z65 a)), (12, .sref 2 0 (g.st.length * a.acc.length)), (53, ints ls), (54, .int ls.length), (55, .int i), (13, .int i), (14, .int ls[i]), (60, .int a.acc.length), (61, .int q), (15, .int q), (68, ints g.nx[i]), (69, .int g.nx[i].length), (70, .int x.1)], [.cells 2 [[lst 2 State.cs g.st, lst 1 encL g.nx]], .cells 3 [[lst 1 enI a.ini, lst 1 enB a.acc, lst 4 Trans.cs a.ed]], .cells 1 ((build (g.st.length * a.acc.length) x.2).map ownRow)])) (fun x => x.1 ≤ g.nx[i].length ∧ x.2 ++ ((g.nx[i].drop x.1).flatMap (pTo a.acc.length (z65 a)[q] i q ls[i]) ++ (((List.range a.acc.length).drop (q + 1)).flatMap (pQ a.acc.length g.nx[i] (z65 a) i ls[i]) ++ ((List.range g.st.length).drop (i + 1)).flatMap (pI2 a.acc.length g.nx (z65 a) ls))) = pS2 g ls a) (fun x => g.nx[i].length - x.1) (0, ps) ⟨by omega, hq2⟩
        ⟨[0, 1, 2], rfl, by decide, rfl, ⟨⟨rfl, rfl⟩, ⟨rfl, rfl⟩, ⟨rfl, rfl⟩, ⟨rfl, rfl⟩, ⟨rfl, rfl⟩, ⟨rfl, rfl⟩, ⟨rfl, rfl⟩, ⟨rfl, rfl⟩, ⟨rfl, rfl⟩, ⟨rfl, rfl⟩, ⟨rfl, rfl⟩, ⟨rfl, rfl⟩, ⟨rfl, rfl⟩, ⟨rfl, rfl⟩, ⟨rfl, rfl⟩, ⟨rfl, rfl⟩, trivial⟩, ⟨z31 rfl rfl, z31 rfl rfl, z10 rfl (z0 fun _ => rfl), trivial⟩⟩ ?_
      rintro ⟨j, ps⟩ ⟨hj1, hj2⟩
      dsimp only at hj1 hj2 ⊢
      repeat' (first | (apply AWP.go ok; rfl; conv => whnf) | (apply And.intro; (first | omega | (unfold inI; omega)); conv => whnf) | (with_reducible apply z3; omega; intro _; conv => whnf) | (apply z2 <;> intro _ <;> conv => whnf))
      · have hjn : j < g.nx[i].length := by omega
        rw [drop_flat _ _ _ hjn, List.append_assoc] at hj2
        have hto := hrow g.nx[i][j] (List.getElem_mem _)
        have hm2 := mul_bound (a := g.nx[i][j]) (b := (a.acc.length : Int)) (A := 60) (B := 64) (by omega) (by omega) (by omega) (by omega)
        refine z85 (fun x : Nat × List (Nat × Int) => ([(3, .ptr 0 none 0), (5, .ptr 1 none 0), (8, .int a.acc.length), (9, lst 1 encT (z65 a)), (12, .sref 2 0 (g.st.length * a.acc.length)), (53, ints ls), (54, .int ls.length), (55, .int i), (13, .int i), (14, .int ls[i]), (60, .int a.acc.length), (61, .int q), (15, .int q), (68, ints g.nx[i]), (69, .int g.nx[i].length), (70, .int j), (17, .int g.nx[i][j]), (77, lst 4 Trans.cs (z65 a)[q]), (78, .int (z65 a)[q].length), (79, .int x.1)], [.cells 2 [[lst 2 State.cs g.st, lst 1 encL g.nx]], .cells 3 [[lst 1 enI a.ini, lst 1 enB a.acc, lst 4 Trans.cs a.ed]], .cells 1 ((build (g.st.length * a.acc.length) x.2).map ownRow)])) (fun x => x.1 ≤ (z65 a)[q].length ∧ x.2 ++ (((z65 a)[q].drop x.1).flatMap (pE2 a.acc.length i q ls[i] g.nx[i][j]) ++ ((g.nx[i].drop (j + 1)).flatMap (pTo a.acc.length (z65 a)[q] i q ls[i]) ++ (((List.range a.acc.length).drop (q + 1)).flatMap (pQ a.acc.length g.nx[i] (z65 a) i ls[i]) ++ ((List.range g.st.length).drop (i + 1)).flatMap (pI2 a.acc.length g.nx (z65 a) ls)))) = pS2 g ls a) (fun x => (z65 a)[q].length - x.1) (0, ps) ⟨by omega, hj2⟩
          ⟨[0, 1, 2], rfl, by decide, rfl, ⟨⟨rfl, rfl⟩, ⟨rfl, rfl⟩, ⟨rfl, rfl⟩, ⟨rfl, rfl⟩, ⟨rfl, rfl⟩, ⟨rfl, rfl⟩, ⟨rfl, rfl⟩, ⟨rfl, rfl⟩, ⟨rfl, rfl⟩, ⟨rfl, rfl⟩, ⟨rfl, rfl⟩, ⟨rfl, rfl⟩, ⟨rfl, rfl⟩, ⟨rfl, rfl⟩, ⟨rfl, rfl⟩, ⟨rfl, rfl⟩, ⟨rfl, rfl⟩, ⟨rfl, rfl⟩, ⟨rfl, rfl⟩, ⟨rfl, rfl⟩, trivial⟩, ⟨z31 rfl rfl, z31 rfl rfl, z10 rfl (z0 fun _ => rfl), trivial⟩⟩ ?_
        rintro ⟨k, ps⟩ ⟨hk1, hk2⟩
        dsimp only at hk1 hk2 ⊢
        by_cases hke : k < (z65 a)[q].length
        · have he := a5 (z65 a)[q][k] (hed q hqe _ (List.getElem_mem hke))
          unfold edgeP at he
          have hlt' : i * a.acc.length + q < (build (g.st.length * a.acc.length) ps).length := by rw [z96]; exact hlt
          have hmap : i * a.acc.length + q < ((build (g.st.length * a.acc.length) ps).map ownRow).length := by rw [List.length_map]; exact hlt'
          have hrl : (build (g.st.length * a.acc.length) ps)[i * a.acc.length + q].length ≤ 1000000000 := by
            have h1 := build_row_le (N := g.st.length * a.acc.length) (ps := ps) hlt'
            have h2 := congrArg List.length hk2
            rw [List.length_append] at h2
            omega
          have hix : ((i : Int) * a.acc.length + q).toNat = i * a.acc.length + q := by
            have e : ((i * a.acc.length : Nat) : Int) = (i : Int) * a.acc.length := by simp
            omega
          have hlt2 : ((i : Int) * a.acc.length + q).toNat < g.st.length * a.acc.length := by rw [hix]; exact hlt
          rw [drop_flat _ _ _ hke] at hk2
          repeat' (first | ((fail_if_success apply z69 22); (fail_if_success apply z57 22); apply AWP.go ok; rfl; conv => whnf) | (apply And.intro; (first | omega | (unfold inI; omega)); conv => whnf) | (with_reducible apply z3; omega; intro _; conv => whnf) | (apply z2 <;> intro _ <;> conv => whnf) | (apply z4 (takes_ok (z65 a)[q][k] ls[i] hli.1 hli.2 he.2.2.1); rfl; rfl; conv => whnf))
          · have hon : ((ls[i].toNat &&& (z65 a)[q][k].care.toNat : Nat) : Int) = (z65 a)[q][k].val := by assumption
            refine AWP.reach (Gl.Reach.expose (e := ownRow (build (g.st.length * a.acc.length) ps)[i * a.acc.length + q]) 2 (i * a.acc.length + q) 0 rfl (by rw [List.getElem?_map, List.getElem?_eq_getElem hlt']; rfl) rfl (leaf_map (fun _ => rfl) _) rfl) ?_
            conv => whnf
            (apply AWP.go ok; rfl; conv => whnf)
            repeat' (first | (apply z5; kernel_rfl; conv => whnf) | (apply get_set; exact hix; exact hmap; conv => whnf) | (apply And.intro; (first | omega | (unfold inI; omega) | ((try dsimp only); simp only [List.length_map, List.length_take, List.length_append, List.length_replicate, List.length_cons, List.length_nil]; omega) | exact ⟨rfl, z12 rfl z20⟩); conv => whnf))
            refine AWP.reach (Gl.Reach.absorb 2 6 (i * a.acc.length + q) 0 rfl (getset hix (by rw [List.length_set]; exact hmap)) rfl rfl (by simp) rfl (z9 (fun e he => (z0 (fun _ => rfl)) e (List.mem_of_mem_take he)) (flat_cons rfl z17)) rfl) ?_
            conv => whnf
            repeat' (first | (apply AWP.go ok; rfl; conv => whnf) | (apply And.intro; ((unfold inI; omega)); conv => whnf))
            have hpe : pE2 a.acc.length i q ls[i] g.nx[i][j] (z65 a)[q][k] = [(i * a.acc.length + q, g.nx[i][j] * a.acc.length + (z65 a)[q][k].dst)] := by
              unfold pE2 onB; rw [if_pos (decide_eq_true hon)]
            rw [hpe, List.append_assoc, ← List.append_assoc] at hk2
            exact z75 (k + 1, ps ++ [(i * a.acc.length + q, g.nx[i][j] * a.acc.length + (z65 a)[q][k].dst)]) [0, 1, 2] ⟨by dsimp only; omega, hk2⟩ (by dsimp only; omega) ⟨rfl, by decide, rfl, ⟨⟨rfl, rfl⟩, ⟨rfl, rfl⟩, ⟨rfl, rfl⟩, ⟨rfl, rfl⟩, ⟨rfl, rfl⟩, ⟨rfl, rfl⟩, ⟨rfl, rfl⟩, ⟨rfl, rfl⟩, ⟨rfl, rfl⟩, ⟨rfl, rfl⟩, ⟨rfl, rfl⟩, ⟨rfl, rfl⟩, ⟨rfl, rfl⟩, ⟨rfl, rfl⟩, ⟨rfl, rfl⟩, ⟨rfl, rfl⟩, ⟨rfl, rfl⟩, ⟨rfl, rfl⟩, ⟨rfl, rfl⟩, ⟨rfl, rfl⟩, trivial⟩, ⟨z31 rfl rfl, z31 rfl rfl, z10 (z16 (rows_push' hlt' hix (by simp))) (z0 fun _ => rfl), trivial⟩⟩
          · have hon : ¬ ((ls[i].toNat &&& (z65 a)[q][k].care.toNat : Nat) : Int) = (z65 a)[q][k].val := by assumption
            have hpe : pE2 a.acc.length i q ls[i] g.nx[i][j] (z65 a)[q][k] = [] := by
              unfold pE2 onB; rw [if_neg (by simpa using hon)]
            rw [hpe, List.nil_append] at hk2
            exact z75 (k + 1, ps) [0, 1, 2] ⟨by dsimp only; omega, hk2⟩ (by dsimp only; omega) ⟨rfl, by decide, rfl, ⟨⟨rfl, rfl⟩, ⟨rfl, rfl⟩, ⟨rfl, rfl⟩, ⟨rfl, rfl⟩, ⟨rfl, rfl⟩, ⟨rfl, rfl⟩, ⟨rfl, rfl⟩, ⟨rfl, rfl⟩, ⟨rfl, rfl⟩, ⟨rfl, rfl⟩, ⟨rfl, rfl⟩, ⟨rfl, rfl⟩, ⟨rfl, rfl⟩, ⟨rfl, rfl⟩, ⟨rfl, rfl⟩, ⟨rfl, rfl⟩, ⟨rfl, rfl⟩, ⟨rfl, rfl⟩, ⟨rfl, rfl⟩, ⟨rfl, rfl⟩, trivial⟩, ⟨z31 rfl rfl, z31 rfl rfl, z10 rfl (z0 fun _ => rfl), trivial⟩⟩
          · omega
        · repeat' (first | ((fail_if_success apply z69 22); (fail_if_success apply z57 22); apply AWP.go ok; rfl; conv => whnf) | (apply And.intro; (first | omega | (unfold inI; omega)); conv => whnf) | (with_reducible apply z3; omega; intro _; conv => whnf) | (apply z2 <;> intro _ <;> conv => whnf))
          · omega
          · rw [z101 _ _ _ (by omega), List.nil_append] at hk2
            exact z75 (j + 1, ps) [0, 1, 2] ⟨by dsimp only; omega, hk2⟩ (by dsimp only; omega) ⟨rfl, by decide, rfl, ⟨⟨rfl, rfl⟩, ⟨rfl, rfl⟩, ⟨rfl, rfl⟩, ⟨rfl, rfl⟩, ⟨rfl, rfl⟩, ⟨rfl, rfl⟩, ⟨rfl, rfl⟩, ⟨rfl, rfl⟩, ⟨rfl, rfl⟩, ⟨rfl, rfl⟩, ⟨rfl, rfl⟩, ⟨rfl, rfl⟩, ⟨rfl, rfl⟩, ⟨rfl, rfl⟩, ⟨rfl, rfl⟩, ⟨rfl, rfl⟩, trivial⟩, ⟨z31 rfl rfl, z31 rfl rfl, z10 rfl (z0 fun _ => rfl), trivial⟩⟩
      · rw [z101 _ _ _ (by omega), List.nil_append] at hj2
        exact z75 (q + 1, ps) [0, 1, 2] ⟨by dsimp only; omega, hj2⟩ (by dsimp only; omega) ⟨rfl, by decide, rfl, ⟨⟨rfl, rfl⟩, ⟨rfl, rfl⟩, ⟨rfl, rfl⟩, ⟨rfl, rfl⟩, ⟨rfl, rfl⟩, ⟨rfl, rfl⟩, ⟨rfl, rfl⟩, ⟨rfl, rfl⟩, ⟨rfl, rfl⟩, ⟨rfl, rfl⟩, ⟨rfl, rfl⟩, ⟨rfl, rfl⟩, trivial⟩, ⟨z31 rfl rfl, z31 rfl rfl, z10 rfl (z0 fun _ => rfl), trivial⟩⟩
    · rw [z101 _ _ _ (by simp; omega), List.nil_append] at hq2
      exact z75 (i + 1, ps) [0, 1, 2] ⟨by dsimp only; omega, hq2⟩ (by dsimp only; omega) ⟨rfl, by decide, rfl, ⟨⟨rfl, rfl⟩, ⟨rfl, rfl⟩, ⟨rfl, rfl⟩, ⟨rfl, rfl⟩, ⟨rfl, rfl⟩, ⟨rfl, rfl⟩, ⟨rfl, rfl⟩, ⟨rfl, rfl⟩, trivial⟩, ⟨z31 rfl rfl, z31 rfl rfl, z10 rfl (z0 fun _ => rfl), trivial⟩⟩
  · rw [z101 _ _ _ (by simp; omega), List.append_nil] at hi2
    subst hi2
    repeat' (first | (apply AWP.go ok; rfl; conv => whnf) | (apply z4 (implClone_ok a.ini (by omega)); rfl; rfl; conv => whnf))
    exact z84 [2] (by decide) rfl rfl rfl ⟨z10 rfl (z0 fun _ => rfl), trivial⟩
end Go.Proofs.YtknlmbniicacmaaGreat

namespace Go.Proofs.YtknlmbniicacmaaGreat
open Go.Gl
attribute [local irreducible] z22 AWP z46 z54 z51

theorem product_ok (g : Graph) (hg : GB g) (l : List Tree) (hl : LabelsOk l) (a : Aut) (ha : AutP a) : CallsA Tryz.prog 79 [.agg g.cs, lst 3 Tree.cs' l, .agg a.cs] [] (.tup [lst 1 encL (z42 g (g.st.map (z48 l)) a), ints a.ini]) [] := by
  have h := product_new g hg l hl a ha
  have hlen : (z42 g (g.st.map (z48 l)) a).length = g.st.length * a.acc.length := by unfold z42; rw [z96, Nat.mul_comm]
  refine h.lend [] [0] rfl rfl rfl ?_ z11
  show AC.tup [bor _ _ _ (.sref 0 0 _), bor _ _ _ (ints a.ini)] = _
  rw [bor_full (w := 1) (es := (z42 g (g.st.map (z48 l)) a).map ownRow) rfl rfl rfl (by rw [List.length_map]; exact hlen), rows_unown, ← hlen]
  rfl

/-- nodes lead to nodes -/
theorem prodRows_lt (g : Graph) (hg : GB g) (ls : List Int) (a : Aut) (ha : AutP a) : ∀ row ∈ z42 g ls a, ∀ x ∈ row, 0 ≤ x ∧ x < ((g.st.length * a.acc.length : Nat) : Int) := by
  intro row hrow x hx
  unfold z42 build at hrow
  obtain ⟨r, _, rfl⟩ := List.mem_map.1 hrow
  obtain ⟨⟨p, v⟩, hp, rfl⟩ := List.mem_map.1 hx
  have hp := (List.mem_filter.1 hp).1
  unfold pushS at hp
  obtain ⟨i, hi, hp⟩ := List.mem_flatMap.1 hp
  rw [List.mem_range] at hi
  unfold pushI at hp
  obtain ⟨to, hto, hp⟩ := List.mem_flatMap.1 hp
  unfold pushJ at hp
  obtain ⟨e, he, hp⟩ := List.mem_flatMap.1 hp
  have hin : i < g.nx.length := by have := hg.2.1; omega
  rw [z23 hin] at hto
  obtain ⟨j, hj, rfl⟩ := List.mem_iff_getElem.1 hto
  have h1 := ((hg.2.2 i hin hin hi).2.2.2 j hj hj).1
  have h2 := (ha.2.2.2 e he).2.1
  unfold pushE at hp
  split at hp
  · simp only [List.mem_singleton, Prod.mk.injEq] at hp
    obtain ⟨_, rfl⟩ := hp
    have h3 : 0 ≤ g.nx[i][j] * (a.acc.length : Int) := Int.mul_nonneg h1.1 (by omega)
    have h4 : (g.nx[i][j] + 1) * (a.acc.length : Int) ≤ g.st.length * a.acc.length := Int.mul_le_mul_of_nonneg_right (by omega) (by omega)
    rw [Int.add_mul, Int.one_mul] at h4
    have e : ((g.st.length * a.acc.length : Nat) : Int) = (g.st.length : Int) * a.acc.length := by simp
    rw [e]
    dsimp only
    omega
  · simp at hp

theorem prodRows_len (g : Graph) (hg : GB g) (ls : List Int) (a : Aut) (ha : AutP a) : ∀ row ∈ z42 g ls a, row.length ≤ 7372800 := by
  intro row hrow
  obtain ⟨i, hi, rfl⟩ := List.mem_iff_getElem.1 hrow
  exact Nat.le_trans (build_row_le (N := a.acc.length * g.st.length) (ps := pushS g ls a) hi) (pushS_len g hg ls a ha)

def rk (ranks : List Int) (x : Int) : Int := ranks.getD x.toNat 0
def less (acc : Bool) (r : Int) : Int := if acc then r - 1 else r
def nodeP (row ranks : List Int) (rank : Int) (acc : Bool) : Prop := ∀ x ∈ row, 0 ≤ rk ranks x ∧ rk ranks x ≤ less acc rank
instance {row ranks : List Int} {rank : Int} {acc : Bool} : Decidable (nodeP row ranks rank acc) := by unfold nodeP; infer_instance

/-- is the certificate right? -/
def certP (rows : List (List Int)) (ini : List Int) (acc : List Bool) (N : Nat) (ranks : List Int) : Prop :=
  ranks.length = N ∧ (∀ x ∈ ranks, -1 ≤ x ∧ x ≤ 4000) ∧ (∀ x ∈ ini, 0 ≤ rk ranks x) ∧ ∀ i (h : i < ranks.length), 0 ≤ ranks[i] → nodeP (rows.getD i []) ranks ranks[i] (acc.getD (i % acc.length) false)
noncomputable instance {rows : List (List Int)} {ini : List Int} {acc : List Bool} {N : Nat} {ranks : List Int} : Decidable (certP rows ini acc N ranks) := Classical.propDecidable _
def Cert.mx (c : Cert) : Prop := c.ranks.length ≤ maxLen
end Go.Proofs.YtknlmbniicacmaaGreat

namespace Go.Proofs.YtknlmbniicacmaaGreat
open Go.Gl
attribute [local irreducible] z22 AWP z46 z54 z51

end Go.Proofs.YtknlmbniicacmaaGreat

namespace Go.Proofs.YtknlmbniicacmaaGreat
open Go.Gl
attribute [local irreducible] z22 AWP z46 z54 z51

theorem cloneInt_new (l : List Int) (hl : l.length ≤ 1048576) : CallsA Tryz.prog 215 [ints l] [] (.sref 0 0 l.length) [.cells 1 (l.map enI)] := by
  by_cases hp : 0 < l.length
  · exact clone_full l hl hp
  · obtain rfl : l = [] := List.eq_nil_of_length_eq_zero (by omega)
    refine calls_empty (isFunc_of Tryz.func215 rfl (by rfl)) fun ad cap => ?_
    cases ad with
    | none =>
      refine CallsA.nils (res := .nils) (l := [.cells 1 []]) ?_ (by simp) nil_sref
      refine z7 z28 Tryz.func215 rfl rfl 8 Tryz.ntmps215 (by simp) ?_
      repeat' ((apply AWP.go ok; rfl; conv => whnf))
      all_goals exact z56 rfl rfl rfl
    | some p =>
      refine z7 z28 Tryz.func215 rfl rfl 8 Tryz.ntmps215 (by simp) ?_
      repeat' (first | (apply AWP.go ok; rfl; conv => whnf) | (apply And.intro; (omega); conv => whnf))
      all_goals (exact ret_newN rfl z17 rfl rfl rfl)
theorem implClone_new (l : List Int) (hl : l.length ≤ 1048576) : CallsA Tryz.prog 161 [ints l] [] (.sref 0 0 l.length) [.cells 1 (l.map enI)] := by
  refine z7 z28 Tryz.func161 rfl rfl 6 Tryz.ntmps161 (by simp) ?_
  repeat' (first | (apply AWP.go ok; rfl; conv => whnf) | (apply z21 [] [] [0] (cloneInt_new l hl); rfl; (focus ((repeat' (exact z11)) <;> (fail))); rfl; rfl; rfl; rfl; rfl; (focus ((repeat' (first | exact z27 | apply z26)) <;> ((refine z39 ?_; ((exact z0 (fun _ => rfl))))))); (exact .inl rfl); conv => whnf) | (apply z21 [0] [] [] (clipInt_own l hl); rfl; (focus ((repeat' (first | exact z11 | apply z29)) <;> ((refine z47 rfl ?_; ((exact z0 (fun _ => rfl))))))); rfl; rfl; rfl; rfl; rfl; (focus ((repeat' (first | exact z27 | apply z26)) <;> ((refine z39 ?_; ((exact z0 (fun _ => rfl))))))); (exact .inl rfl); conv => whnf))
  exact ret_newN rfl (z0 fun _ => rfl) rfl rfl rfl

/-- a search in depth -/
structure RI (rows : List (List Int)) (ini S L : List Int) : Prop where
  inS : InN rows.length S
  sub : ∀ x ∈ L, x ∈ S
  rp : ∀ x ∈ S, RP rows ini x
  base : ∀ x ∈ ini, x ∈ S
def Shut (rows : List (List Int)) (S : List Int) (x : Int) : Prop := ∀ y ∈ rows.getD x.toNat [], y ∈ S

set_option maxHeartbeats 1600000 in
theorem reachable_new (rows : List (List Int)) (ini : List Int) (hr : ∀ r ∈ rows, InN rows.length r) (hi : InN rows.length ini) (hN : rows.length ≤ 1048576) (hrl : ∀ r ∈ rows, r.length ≤ 1000000000) (hil : ini.length ≤ 1048576) : CallsA Tryz.prog 108 [lst 1 encL rows, ints ini] [] (.sref 0 0 rows.length) [.cells 1 ((reachB rows ini).map enB)] := by
  have c0 := implClone_new ini hil
  refine z7 z28 Tryz.func108 rfl rfl 64 Tryz.ntmps108 (by simp) ?_
  repeat' (first | (apply AWP.go ok; rfl; conv => whnf) | (apply And.intro; ((dsimp only; omega)); conv => whnf) | (apply z21 [] [] [1] (c0); rfl; (focus ((repeat' (exact z11)) <;> (fail))); rfl; rfl; rfl; rfl; rfl; (focus ((repeat' (first | exact z27 | apply z26)) <;> ((refine z39 ?_; ((exact z0 (fun _ => rfl))))))); (exact .inl rfl); conv => whnf))
  refine z85 (fun i : Nat => ([(0, lst 1 encL rows), (5, .sref 0 0 rows.length), (6, .sref 1 0 ini.length), (17, ints ini), (18, .int ini.length), (19, .int i)], [.cells 1 ((mkB rows.length (ini.take i)).map enB), .cells 1 (ini.map enI)])) (fun i => i ≤ ini.length) (fun i => ini.length - i) 0 (by omega) ⟨[0, 1], rfl, by decide, rfl, ⟨⟨rfl, rfl⟩, ⟨rfl, rfl⟩, ⟨rfl, rfl⟩, ⟨rfl, rfl⟩, ⟨rfl, rfl⟩, ⟨rfl, rfl⟩, trivial⟩, ⟨z10 (z16 (by rw [List.take_zero, mkB_nil, List.map_replicate]; rfl)) (z0 fun _ => rfl), z10 rfl (z0 fun _ => rfl), trivial⟩⟩ ?_
  intro i hil2
  by_cases hil3 : i < ini.length
  · have hx := hi ini[i] (List.getElem_mem _)
    repeat' (first | (apply AWP.go ok; rfl; conv => whnf) | (refine get_mkB (enc := enB) (v := ini[i]) (by rfl) hx.1 hx.2 ?_; conv => whnf) | (apply And.intro; (first | omega | (unfold inI; omega)); conv => whnf) | (with_reducible apply z3; omega; intro _; conv => whnf) | (apply z2 <;> intro _ <;> conv => whnf))
    all_goals first | (exfalso; omega) | skip
    exact z75 (i + 1) [0, 1] (by omega) (by omega) ⟨rfl, by decide, rfl, ⟨⟨rfl, rfl⟩, ⟨rfl, rfl⟩, ⟨rfl, rfl⟩, ⟨rfl, rfl⟩, ⟨rfl, rfl⟩, ⟨rfl, rfl⟩, trivial⟩, ⟨z10 (z16 (set_mkB (enc := enB) (by rfl) hx.1 hx.2 fun x => by rw [List.take_succ_eq_append_getElem hil3, List.mem_append, List.mem_singleton])) (z0 fun _ => rfl), z10 rfl (z0 fun _ => rfl), trivial⟩⟩
  repeat' (first | (apply AWP.go ok; rfl; conv => whnf) | (apply And.intro; (omega); conv => whnf) | (with_reducible apply z3; omega; intro _; conv => whnf) | (apply z3; omega; intro _; conv => whnf) | (apply z2 <;> intro _ <;> conv => whnf))
  all_goals first | (exfalso; omega) | skip
  obtain rfl : i = ini.length := by omega
  rw [List.take_length]
  refine z85 (fun x : List Int × List Int × List Int => ([(0, lst 1 encL rows), (5, .sref 0 0 rows.length), (6, .sref 1 0 x.2.1.length)], [.cells 1 ((mkB rows.length x.1).map enB), .cells 1 ((x.2.1 ++ x.2.2).map enI)])) (fun x => RI rows ini x.1 x.2.1 ∧ (∀ v ∈ x.1, v ∉ x.2.1 → Shut rows x.1 v) ∧ 2 * cntU rows.length x.1 + x.2.1.length ≤ 2 * rows.length + ini.length) (fun x => 2 * cntU rows.length x.1 + x.2.1.length) (ini, ini, []) ⟨⟨hi, fun _ h => h, fun _ h => .base h, fun _ h => h⟩, fun v h h' => absurd h h', by have := cntU_bound rows.length ini; dsimp only; omega⟩ ⟨[0, 1], rfl, by decide, rfl, ⟨⟨rfl, rfl⟩, ⟨rfl, rfl⟩, ⟨rfl, rfl⟩, trivial⟩, ⟨z10 rfl (z0 fun _ => rfl), z10 (z16 (by rw [List.append_nil])) (z0 fun _ => rfl), trivial⟩⟩ ?_
  rintro ⟨S, L, J⟩ ⟨hRI, hsh, hLl⟩
  dsimp only at hRI hsh hLl ⊢
  rcases List.eq_nil_or_concat L with rfl | ⟨L, x, rfl⟩
  · repeat' ((apply AWP.go ok; rfl; conv => whnf))
    all_goals skip
    refine ret_new rfl (z0 fun _ => rfl) rfl ?_
    rw [reachB_eq]
    intro v _
    refine ⟨fun h => hRI.rp _ h, fun h => ?_⟩
    generalize (v : Int) = u at h
    induction h with
    | base h => exact hRI.base _ h
    | step _ h2 ih => exact hsh _ ih (by simp) _ h2
  · rw [List.concat_eq_append] at *
    have hxS : x ∈ S := hRI.sub x (by simp)
    have hx := hRI.inS x hxS
    have e : (L ++ [x]).length = L.length + 1 := by simp
    have hxr : x.toNat < rows.length := by omega
    rw [e] at hLl
    rw [e, List.append_assoc, List.singleton_append]
    have hg : ((L ++ x :: J).map enI)[L.length]? = some (enI x) := by simp
    have hrow : rows.getD x.toNat [] = rows[x.toNat] := z23 hxr
    have hrin : InN rows.length rows[x.toNat] := hr _ (List.getElem_mem _)
    have hrl2 := hrl rows[x.toNat] (List.getElem_mem _)
    repeat' (first | (apply AWP.go ok; rfl; conv => whnf) | (refine z13 (i := L.length) (by omega) hg ?_; conv => whnf) | (apply And.intro; (first | omega | (unfold inI; omega)); conv => whnf) | (with_reducible apply z30; omega; intro _; conv => whnf) | (apply z2 <;> intro _ <;> conv => whnf))
    all_goals first | (exfalso; omega) | skip
    generalize hrw : rows[x.toNat] = row at *
    refine z85 (fun y : List Int × List Int × List Int × Nat => ([(0, lst 1 encL rows), (5, .sref 0 0 rows.length), (6, .sref 1 0 y.2.1.length), (44, ints row), (45, .int row.length), (46, .int y.2.2.2)], [.cells 1 ((mkB rows.length y.1).map enB), .cells 1 ((y.2.1 ++ y.2.2.1).map enI)])) (fun y => RI rows ini y.1 y.2.1 ∧ (∀ v ∈ y.1, v ∉ y.2.1 → v ≠ x → Shut rows y.1 v) ∧ (∀ v ∈ row.take y.2.2.2, v ∈ y.1) ∧ y.2.2.2 ≤ row.length ∧ 2 * cntU rows.length y.1 + y.2.1.length ≤ 2 * cntU rows.length S + L.length) (fun y => row.length - y.2.2.2) (S, L, x :: J, 0) ⟨⟨hRI.inS, fun v hv => hRI.sub v (by simp [hv]), hRI.rp, hRI.base⟩, fun v hv hv' hne => hsh v hv (by simp [hv', hne]), fun v hv => by simp at hv, Nat.zero_le _, Nat.le_refl _⟩ ⟨[0, 1], rfl, by decide, rfl, ⟨⟨rfl, rfl⟩, ⟨rfl, rfl⟩, ⟨rfl, env_sref (by dsimp only; omega) rfl⟩, ⟨rfl, rfl⟩, ⟨rfl, rfl⟩, ⟨rfl, rfl⟩, trivial⟩, ⟨z10 rfl (z0 fun _ => rfl), z10 rfl (z0 fun _ => rfl), trivial⟩⟩ ?_
    rintro ⟨S', L', J', i⟩ ⟨h1, h2, h3, h4, h5⟩
    dsimp only at h1 h2 h3 h4 h5 ⊢
    by_cases hil4 : i < row.length
    · have hy := hrin row[i] (List.getElem_mem _)
      repeat' (first | (apply AWP.go ok; rfl; conv => whnf) | (refine get_mkB (enc := enB) (v := row[i]) (by rfl) hy.1 hy.2 ?_; conv => whnf) | (apply And.intro; (first | omega | (unfold inI; omega) | ((try dsimp only); simp only [List.length_map, List.length_take, List.length_append, List.length_replicate, List.length_cons, List.length_nil]; omega) | exact ⟨rfl, z12 rfl z20⟩); conv => whnf) | (with_reducible apply z3; omega; intro _; conv => whnf) | (apply z2 <;> intro _ <;> conv => whnf) | (apply z8 <;> intro _ <;> conv => whnf))
      all_goals first | (exfalso; omega) | skip
      · rename_i hn
        have hn : row[i] ∉ S' := by simpa using hn
        have hc := cntU_lt (S := S') (S' := S' ++ [row[i]]) (fun v hv => by simp [hv]) hn (by simp) rows.length hy.1 hy.2
        refine z75 (S' ++ [row[i]], L' ++ [row[i]], [], i + 1) [0, 3] ⟨⟨fun v hv => ?_, fun v hv => ?_, fun v hv => ?_, fun v hv => by simp [h1.base v hv]⟩, fun v hv hv' hne => ?_, fun v hv => ?_, by dsimp only; omega, ?_⟩ (by dsimp only; omega) ⟨rfl, by decide, rfl, ⟨⟨rfl, rfl⟩, ⟨rfl, rfl⟩, ⟨rfl, env_sref (by simp) rfl⟩, ⟨rfl, rfl⟩, ⟨rfl, rfl⟩, ⟨rfl, rfl⟩, trivial⟩, ⟨z10 (z16 (set_mkB (enc := enB) (by rfl) hy.1 hy.2 fun v => by simp)) (z0 fun _ => rfl), z10 (z16 ?_) (z0 fun _ => rfl), trivial⟩⟩
        · rcases List.mem_append.1 hv with hv | hv
          · exact h1.inS v hv
          · rw [List.mem_singleton.1 hv]; exact hy
        · rcases List.mem_append.1 hv with hv | hv
          · exact List.mem_append_left _ (h1.sub v hv)
          · exact List.mem_append_right _ hv
        · rcases List.mem_append.1 hv with hv | hv
          · exact h1.rp v hv
          · rw [List.mem_singleton.1 hv]; exact .step (hRI.rp x hxS) (by rw [hrow]; exact List.getElem_mem _)
        · dsimp only at hv hv'
          rcases List.mem_append.1 hv with hv | hv
          · exact fun y hy => List.mem_append_left _ (h2 v hv (fun h => hv' (List.mem_append_left _ h)) hne y hy)
          · exact absurd (List.mem_append_right _ hv) hv'
        · dsimp only at hv ⊢
          rw [List.take_succ_eq_append_getElem hil4] at hv
          rcases List.mem_append.1 hv with hv | hv
          · exact List.mem_append_left _ (h3 v hv)
          · exact List.mem_append_right _ hv
        · dsimp only
          rw [List.length_append]
          simp only [List.length_singleton]
          omega
        · dsimp only
          rw [List.append_nil, List.map_append, List.map_append, List.take_append_of_le_length (by simp), List.take_of_length_le (by simp)]
          rfl
      · refine z75 (S', L', J', i + 1) [0, 1] ⟨h1, h2, fun v hv => ?_, by dsimp only; omega, h5⟩ (by dsimp only; omega) ⟨rfl, by decide, rfl, ⟨⟨rfl, rfl⟩, ⟨rfl, rfl⟩, ⟨rfl, rfl⟩, ⟨rfl, rfl⟩, ⟨rfl, rfl⟩, ⟨rfl, rfl⟩, trivial⟩, ⟨z10 rfl (z0 fun _ => rfl), z10 rfl (z0 fun _ => rfl), trivial⟩⟩
        dsimp only at hv ⊢
        rw [List.take_succ_eq_append_getElem hil4] at hv
        rcases List.mem_append.1 hv with hv | hv
        · exact h3 v hv
        · rw [List.mem_singleton.1 hv]; assumption
    · repeat' (first | (apply AWP.go ok; rfl; conv => whnf) | (apply And.intro; (omega); conv => whnf) | (with_reducible apply z3; omega; intro _; conv => whnf) | (apply z3; omega; intro _; conv => whnf) | (apply z2 <;> intro _ <;> conv => whnf) | (apply z24 <;> intro _ <;> conv => whnf))
      all_goals first | (exfalso; omega) | skip
      have hie : i = row.length := by omega
      refine z75 (S', L', J') [0, 1] ⟨h1, fun v hv hv' => ?_, by dsimp only; omega⟩ (by dsimp only; rw [e]; omega) ⟨rfl, by decide, rfl, ⟨⟨rfl, rfl⟩, ⟨rfl, rfl⟩, ⟨rfl, rfl⟩, trivial⟩, ⟨z10 rfl (z0 fun _ => rfl), z10 rfl (z0 fun _ => rfl), trivial⟩⟩
      by_cases hvx : v = x
      · subst hvx
        intro y hy
        rw [hrow] at hy
        exact h3 y (by rw [hie, List.take_length]; exact hy)
      · exact h2 v hv hv' hvx
end Go.Proofs.YtknlmbniicacmaaGreat

namespace Go.Proofs.YtknlmbniicacmaaGreat
open Go.Gl
attribute [local irreducible] z22 AWP z46 z54 z51

theorem visit_new {Q : List Int} {x : Int} (h : x ∉ Q) : z127 Q x = Q ++ [x] := by unfold z127; rw [if_neg h]
theorem visit_old {Q : List Int} {x : Int} (h : x ∈ Q) : z127 Q x = Q := by unfold z127; rw [if_pos h]
theorem push_cells {Q Q' : List Int} {x : Int} (h : Q' = Q ++ [x]) : ((Q.map enI).take Q.length) ++ [enI x] = Q'.map enI := by
  subst h
  rw [List.take_of_length_le (by simp), List.map_append]; rfl

set_option maxHeartbeats 1600000 in
theorem l7Reach_new (rows : List (List Int)) (ini : List Int) (hr : ∀ r ∈ rows, InN rows.length r) (hi : InN rows.length ini) (hN : rows.length ≤ 1048576) (hrl : ∀ r ∈ rows, r.length ≤ 1000000000) (hil : ini.length ≤ 1048576) : CallsA Tryz.prog 109 [lst 1 encL rows, ints ini] [] (.sref 0 0 (bfsL rows ini).length) [.cells 1 ((bfsL rows ini).map enI)] := by
  refine z7 z28 Tryz.func109 rfl rfl 83 Tryz.ntmps109 (by simp) ?_
  repeat' (first | (apply AWP.go ok; rfl; conv => whnf) | (apply And.intro; ((dsimp only; omega)); conv => whnf))
  refine z85 (fun i : Nat => ([(0, lst 1 encL rows), (1, ints ini), (5, .sref 0 0 rows.length), (6, .sref 1 0 (z71 [] (ini.take i)).length), (7, .int i)], [.cells 1 ((mkB rows.length (z71 [] (ini.take i))).map enB), .cells 1 ((z71 [] (ini.take i)).map enI)])) (fun i => i ≤ ini.length) (fun i => ini.length - i) 0 (by omega) ⟨[0, 1], rfl, by decide, rfl, ⟨⟨rfl, rfl⟩, ⟨rfl, rfl⟩, ⟨rfl, rfl⟩, ⟨rfl, rfl⟩, ⟨rfl, rfl⟩, trivial⟩, ⟨z10 (z16 (by show _ = (mkB rows.length []).map enB; rw [mkB_nil, List.map_replicate]; rfl)) (z0 fun _ => rfl), z10 rfl (z0 fun _ => rfl), trivial⟩⟩ ?_
  intro i hil2
  have hQn : (z71 [] (ini.take i)).length ≤ rows.length := z124 _ _ (z122 (by simp)) (visits_in (fun x hx => by cases hx) fun x hx => hi x (List.mem_of_mem_take hx))
  by_cases hil3 : i < ini.length
  · have hx := hi ini[i] (List.getElem_mem _)
    have hv := visits_take (out := []) hil3
    by_cases hn : ini[i] ∉ z71 [] (ini.take i)
    · repeat' (first | (apply AWP.go ok; rfl; conv => whnf) | (refine get_mkB (enc := enB) (v := ini[i]) (by rfl) hx.1 hx.2 ?_; conv => whnf) | (apply And.intro; (first | omega | (unfold inI; omega) | ((try dsimp only); simp only [List.length_map, List.length_take, List.length_append, List.length_replicate, List.length_cons, List.length_nil]; omega) | exact ⟨rfl, z12 rfl z20⟩); conv => whnf) | (with_reducible apply z3; omega; intro _; conv => whnf) | (apply z2 <;> intro _ <;> conv => whnf) | (apply z8 <;> intro _ <;> conv => whnf))
      all_goals first | (exfalso; omega) | (exfalso; simp_all; done) | skip
      rw [visit_new hn] at hv
      exact z75 (i + 1) [0, 3] (by omega) (by omega) ⟨rfl, by decide, rfl, ⟨⟨rfl, rfl⟩, ⟨rfl, rfl⟩, ⟨rfl, rfl⟩, ⟨rfl, env_sref (by rw [hv]; simp) rfl⟩, ⟨rfl, rfl⟩, trivial⟩, ⟨z10 (z16 (set_mkB (enc := enB) (by rfl) hx.1 hx.2 fun v => by rw [hv]; simp)) (z0 fun _ => rfl), z10 (z16 (push_cells hv)) (z0 fun _ => rfl), trivial⟩⟩
    · have hn := Decidable.not_not.1 hn
      repeat' (first | (apply AWP.go ok; rfl; conv => whnf) | (refine get_mkB (enc := enB) (v := ini[i]) (by rfl) hx.1 hx.2 ?_; conv => whnf) | (apply And.intro; (first | omega | (unfold inI; omega) | ((try dsimp only); simp only [List.length_map, List.length_take, List.length_append, List.length_replicate, List.length_cons, List.length_nil]; omega) | exact ⟨rfl, z12 rfl z20⟩); conv => whnf) | (with_reducible apply z3; omega; intro _; conv => whnf) | (apply z2 <;> intro _ <;> conv => whnf) | (apply z8 <;> intro _ <;> conv => whnf))
      all_goals first | (exfalso; omega) | (exfalso; simp_all; done) | skip
      rw [visit_old hn] at hv
      exact z75 (i + 1) [0, 1] (by omega) (by omega) ⟨rfl, by decide, rfl, ⟨⟨rfl, rfl⟩, ⟨rfl, rfl⟩, ⟨rfl, rfl⟩, ⟨rfl, env_sref (by rw [hv]) rfl⟩, ⟨rfl, rfl⟩, trivial⟩, ⟨z10 (z16 (by rw [hv])) (z0 fun _ => rfl), z10 (z16 (by rw [hv])) (z0 fun _ => rfl), trivial⟩⟩
  repeat' (first | (apply AWP.go ok; rfl; conv => whnf) | (apply And.intro; (omega); conv => whnf) | (with_reducible apply z3; omega; intro _; conv => whnf) | (apply z3; omega; intro _; conv => whnf) | (apply z2 <;> intro _ <;> conv => whnf) | (apply z24 <;> intro _ <;> conv => whnf))
  all_goals first | (exfalso; omega) | skip
  obtain rfl : i = ini.length := by omega
  rw [List.take_length]
  clear hQn
  refine z85 (fun i : Nat => ([(0, lst 1 encL rows), (5, .sref 0 0 rows.length), (6, .sref 1 0 (bfs rows ini i).length), (8, .int i)], [.cells 1 ((mkB rows.length (bfs rows ini i)).map enB), .cells 1 ((bfs rows ini i).map enI)])) (fun i => i ≤ (bfs rows ini i).length) (fun i => rows.length - i) 0 (by omega) ⟨[0, 1], rfl, by decide, rfl, ⟨⟨rfl, rfl⟩, ⟨rfl, rfl⟩, ⟨rfl, rfl⟩, ⟨rfl, rfl⟩, trivial⟩, ⟨z10 rfl (z0 fun _ => rfl), z10 rfl (z0 fun _ => rfl), trivial⟩⟩ ?_
  intro i hi1
  have hbl := bfs_len hr hi i
  by_cases hi2 : i < (bfs rows ini i).length
  · have hq := bfs_in hr hi i _ (List.getElem_mem hi2)
    have hb := bfs.eq_2 rows ini i
    rw [dif_pos hi2] at hb
    have hnd := bfs_nodup (rows := rows) (ini := ini) i
    have hin := bfs_in hr hi i
    generalize hQ0 : bfs rows ini i = Q0 at *
    have hqr : Q0[i].toNat < rows.length := by omega
    have hrow : rows.getD Q0[i].toNat [] = rows[Q0[i].toNat] := z23 hqr
    have hrin : InN rows.length rows[Q0[i].toNat] := hr _ (List.getElem_mem _)
    have hrl2 := hrl rows[Q0[i].toNat] (List.getElem_mem _)
    rw [hrow] at hb
    repeat' (first | (apply AWP.go ok; rfl; conv => whnf) | (apply z2 <;> intro _ <;> conv => whnf))
    all_goals first | (exfalso; omega) | skip
    refine z85 (fun k : Nat => ([(0, lst 1 encL rows), (5, .sref 0 0 rows.length), (6, .sref 1 0 (z71 Q0 (rows[Q0[i].toNat].take k)).length), (8, .int i), (9, .int k)], [.cells 1 ((mkB rows.length (z71 Q0 (rows[Q0[i].toNat].take k))).map enB), .cells 1 ((z71 Q0 (rows[Q0[i].toNat].take k)).map enI)])) (fun k => k ≤ rows[Q0[i].toNat].length) (fun k => rows[Q0[i].toNat].length - k) 0 (by omega) ⟨[0, 1], rfl, by decide, rfl, ⟨⟨rfl, rfl⟩, ⟨rfl, rfl⟩, ⟨rfl, rfl⟩, ⟨rfl, rfl⟩, ⟨rfl, rfl⟩, trivial⟩, ⟨z10 rfl (z0 fun _ => rfl), z10 rfl (z0 fun _ => rfl), trivial⟩⟩ ?_
    intro k hk1
    have hQn : (z71 Q0 (rows[Q0[i].toNat].take k)).length ≤ rows.length := z124 _ _ (z122 hnd) (visits_in hin fun x hx => hrin x (List.mem_of_mem_take hx))
    obtain ⟨t, ht⟩ := visits_pre Q0 (rows[Q0[i].toNat].take k)
    have hgl : i < (z71 Q0 (rows[Q0[i].toNat].take k)).length := by rw [ht, List.length_append]; omega
    have hg : ((z71 Q0 (rows[Q0[i].toNat].take k)).map enI)[i]? = some (enI Q0[i]) := by
      rw [ht, List.map_append, List.getElem?_append_left (by simpa using hi2), List.getElem?_map, List.getElem?_eq_getElem hi2]; rfl
    by_cases hk2 : k < rows[Q0[i].toNat].length
    · have hx := hrin rows[Q0[i].toNat][k] (List.getElem_mem _)
      have hv := visits_take (out := Q0) hk2
      by_cases hn : rows[Q0[i].toNat][k] ∉ z71 Q0 (rows[Q0[i].toNat].take k)
      · repeat' (first | (apply AWP.go ok; rfl; conv => whnf) | (refine get_mkB (enc := enB) (v := rows[Q0[i].toNat][k]) (by rfl) hx.1 hx.2 ?_; conv => whnf) | (refine z13 (i := i) (by rfl) hg ?_; conv => whnf) | (apply And.intro; (first | omega | (unfold inI; omega) | ((try dsimp only); simp only [List.length_map, List.length_take, List.length_append, List.length_replicate, List.length_cons, List.length_nil]; omega) | exact ⟨rfl, z12 rfl z20⟩); conv => whnf) | (with_reducible apply z3; omega; intro _; conv => whnf) | (with_reducible apply z30; omega; intro _; conv => whnf) | (apply z2 <;> intro _ <;> conv => whnf) | (apply z8 <;> intro _ <;> conv => whnf))
        all_goals first | (exfalso; omega) | (exfalso; simp_all; done) | skip
        rw [visit_new hn] at hv
        exact z75 (k + 1) [0, 3] (by omega) (by omega) ⟨rfl, by decide, rfl, ⟨⟨rfl, rfl⟩, ⟨rfl, rfl⟩, ⟨rfl, env_sref (by rw [hv]; simp) rfl⟩, ⟨rfl, rfl⟩, ⟨rfl, rfl⟩, trivial⟩, ⟨z10 (z16 (set_mkB (enc := enB) (by rfl) hx.1 hx.2 fun v => by rw [hv]; simp)) (z0 fun _ => rfl), z10 (z16 (push_cells hv)) (z0 fun _ => rfl), trivial⟩⟩
      · have hn := Decidable.not_not.1 hn
        repeat' (first | (apply AWP.go ok; rfl; conv => whnf) | (refine get_mkB (enc := enB) (v := rows[Q0[i].toNat][k]) (by rfl) hx.1 hx.2 ?_; conv => whnf) | (refine z13 (i := i) (by rfl) hg ?_; conv => whnf) | (apply And.intro; (first | omega | (unfold inI; omega) | ((try dsimp only); simp only [List.length_map, List.length_take, List.length_append, List.length_replicate, List.length_cons, List.length_nil]; omega) | exact ⟨rfl, z12 rfl z20⟩); conv => whnf) | (with_reducible apply z3; omega; intro _; conv => whnf) | (with_reducible apply z30; omega; intro _; conv => whnf) | (apply z2 <;> intro _ <;> conv => whnf) | (apply z8 <;> intro _ <;> conv => whnf))
        all_goals first | (exfalso; omega) | (exfalso; simp_all; done) | skip
        rw [visit_old hn] at hv
        exact z75 (k + 1) [0, 1] (by omega) (by omega) ⟨rfl, by decide, rfl, ⟨⟨rfl, rfl⟩, ⟨rfl, rfl⟩, ⟨rfl, env_sref (by rw [hv]) rfl⟩, ⟨rfl, rfl⟩, ⟨rfl, rfl⟩, trivial⟩, ⟨z10 (z16 (by rw [hv])) (z0 fun _ => rfl), z10 (z16 (by rw [hv])) (z0 fun _ => rfl), trivial⟩⟩
    · repeat' (first | (apply AWP.go ok; rfl; conv => whnf) | (refine z13 (i := i) (by rfl) hg ?_; conv => whnf) | (apply And.intro; (first | omega | (unfold inI; omega)); conv => whnf) | (with_reducible apply z3; omega; intro _; conv => whnf) | (with_reducible apply z30; omega; intro _; conv => whnf) | (apply z3; omega; intro _; conv => whnf) | (apply z2 <;> intro _ <;> conv => whnf) | (apply z24 <;> intro _ <;> conv => whnf))
      all_goals first | (exfalso; omega) | skip
      rw [List.take_of_length_le (by omega)] at hgl
      refine z75 (i + 1) [0, 1] ?_ (by omega) ⟨rfl, by decide, rfl, ⟨⟨rfl, rfl⟩, ⟨rfl, rfl⟩, ⟨rfl, env_sref ?_ rfl⟩, ⟨rfl, rfl⟩, trivial⟩, ⟨z10 (z16 ?_) (z0 fun _ => rfl), z10 (z16 ?_) (z0 fun _ => rfl), trivial⟩⟩
      · rw [hb]; exact hgl
      all_goals (rw [hb, List.take_of_length_le (by omega)])
  · repeat' (first | (apply AWP.go ok; rfl; conv => whnf) | (apply z2 <;> intro _ <;> conv => whnf))
    all_goals first | (exfalso; omega) | skip
    have he : bfs rows ini i = bfsL rows ini := bfsL_end hr hi (by omega) (by omega)
    rw [he]
    exact ret_newN rfl (z0 fun _ => rfl) rfl rfl rfl

theorem l7Reach_ok (rows : List (List Int)) (ini : List Int) (hr : ∀ r ∈ rows, InN rows.length r) (hi : InN rows.length ini) (hN : rows.length ≤ 1048576) (hrl : ∀ r ∈ rows, r.length ≤ 1000000000) (hil : ini.length ≤ 1048576) : CallsA Tryz.prog 109 [lst 1 encL rows, ints ini] [] (ints (bfsL rows ini)) [] :=
  keepI (l7Reach_new rows ini hr hi hN hrl hil) rfl
end Go.Proofs.YtknlmbniicacmaaGreat

