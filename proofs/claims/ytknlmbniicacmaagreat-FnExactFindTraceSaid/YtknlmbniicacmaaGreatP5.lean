/- A part of the proofs over this program: T39, T24, T25, T26, T27, T37, T38, T40, T41, T42, T153, T154, T155, T156, T157. -/
import Derived.Test.YtknlmbniicacmaaGreatG0
import Derived.Test.YtknlmbniicacmaaGreatG1
import Derived.Test.YtknlmbniicacmaaGreatG2
import Derived.Test.YtknlmbniicacmaaGreatG3
import Derived.Test.YtknlmbniicacmaaGreatP0
import Derived.Test.YtknlmbniicacmaaGreatP1
import Derived.Test.YtknlmbniicacmaaGreatP2
import Derived.Test.YtknlmbniicacmaaGreatP3
import Derived.Test.YtknlmbniicacmaaGreatP4
set_option linter.all false
namespace Go.Proofs.YtknlmbniicacmaaGreat
open Go.Gl
attribute [local irreducible] z15 AWP z44 z49 z46

/-! truth values, transitions, automata, certificates: owned copies and marks -/
theorem bor_trans {objs : Nat → AObj} {π Bn : List Nat} {o : Nat} {l : List Trans} (ho : objs o = .cells 4 (l.map Trans.cs)) (h1 : idx π o = none) (h2 : inB Bn o = true) : bor objs π Bn (.sref o 0 l.length) = lst 4 Trans.cs l :=
  bor_list ho h1 h2 (by simp) (z94 Trans.unown l)
theorem bor_aut {objs : Nat → AObj} {π Bn : List Nat} {o1 o2 o3 : Nat} {a : Aut} (h1 : objs o1 = .cells 1 (a.ini.map enI)) (h2 : objs o2 = .cells 1 (a.acc.map enB)) (h3 : objs o3 = .cells 4 (a.ed.map Trans.cs)) (i1 : idx π o1 = none) (b1 : inB Bn o1 = true) (i2 : idx π o2 = none) (b2 : inB Bn o2 = true) (i3 : idx π o3 = none) (b3 : inB Bn o3 = true) :
    bor objs π Bn (.agg [.sref o1 0 a.ini.length, .sref o2 0 a.acc.length, .sref o3 0 a.ed.length]) = .agg a.cs :=
  bor_agg (z68 (bor_ints h1 i1 b1) (z68 (bor_bools h2 i2 b2) (z68 (bor_trans h3 i3 b3) z89)))

theorem toBoolS_new (l : List Bool) (hl : l.length ≤ 1048576) : CallsA Tryz.prog 123 [lst 1 enB l] [] (.sref 0 0 l.length) [.cells 1 (l.map enB)] := by
  refine z7 z28 Tryz.func123 rfl rfl 22 Tryz.ntmps123 (by simp) ?_
  repeat' (first | (apply AWP.go ok; rfl; conv => whnf) | (apply z3; kernel_rfl; conv => whnf) | (apply And.intro; (first | omega | (unfold inI; omega) | (dsimp only; omega) | (unfold z17; omega) | ((try dsimp only); simp only [List.length_map, List.length_take, List.length_append, List.length_replicate, List.length_cons, List.length_nil]; omega) | (simp only [z37] at *; first | omega | (unfold inI; omega) | (unfold z17; omega)) | exact z6 (fun _ => rfl) | exact ⟨rfl, z11 rfl z16⟩ | exact ⟨rfl, z6 (fun _ => rfl) _⟩ | exact ⟨⟨rfl, by omega⟩, z6 (fun _ => rfl) _⟩); conv => whnf) | (with_reducible apply z5; omega; intro _; conv => whnf) | (with_reducible apply z31; omega; intro _; conv => whnf) | (apply z5; omega; intro _; conv => whnf) | (apply z35; omega; conv => whnf) | (apply z41; conv => whnf) | (apply z45; omega; intro _; conv => whnf) | (apply z48 <;> intro _ <;> conv => whnf) | (apply z36 <;> intro _ <;> conv => whnf) | (apply z47 <;> intro _ <;> conv => whnf) | (apply z61 <;> intro _ <;> conv => whnf) | (apply z2 <;> intro _ <;> conv => whnf) | (apply z9 <;> intro _ <;> conv => whnf) | (apply z23 <;> intro _ <;> conv => whnf) | (apply z34 <;> intro _ <;> conv => whnf))
  refine z86 (fun k : Nat => ([(0, lst 1 enB l), (3, .sref 0 0 l.length), (4, .int k)], [.cells 1 ((l.take k).map enB ++ List.replicate (l.length - k) [.bool false])])) (fun k => k ≤ l.length) (fun k => l.length - k) 0 (by omega) ⟨[0], rfl, by decide, rfl, by repeat' (first | exact True.intro | exact ⟨rfl, rfl⟩ | apply And.intro), by repeat' (first | exact True.intro | exact z22 rfl rfl | exact z12 (by rfl) (by (first | exact z14 | exact z1 rfl | exact z0 (fun _ => rfl) | exact z0 Tree.co_flat | (apply z8 <;> (first | exact z1 rfl | exact z0 (fun _ => rfl))) | assumption)) | apply And.intro)⟩ ?_
  intro k hk
  repeat' (first | (apply AWP.go ok; rfl; conv => whnf) | (apply z3; kernel_rfl; conv => whnf) | (apply And.intro; (first | omega | (unfold inI; omega) | (dsimp only; omega) | (unfold z17; omega) | ((try dsimp only); simp only [List.length_map, List.length_take, List.length_append, List.length_replicate, List.length_cons, List.length_nil]; omega) | (simp only [z37] at *; first | omega | (unfold inI; omega) | (unfold z17; omega)) | exact z6 (fun _ => rfl) | exact ⟨rfl, z11 rfl z16⟩ | exact ⟨rfl, z6 (fun _ => rfl) _⟩ | exact ⟨⟨rfl, by omega⟩, z6 (fun _ => rfl) _⟩); conv => whnf) | (with_reducible apply z5; omega; intro _; conv => whnf) | (with_reducible apply z31; omega; intro _; conv => whnf) | (apply z5; omega; intro _; conv => whnf) | (apply z35; omega; conv => whnf) | (apply z41; conv => whnf) | (apply z45; omega; intro _; conv => whnf) | (apply z48 <;> intro _ <;> conv => whnf) | (apply z36 <;> intro _ <;> conv => whnf) | (apply z47 <;> intro _ <;> conv => whnf) | (apply z61 <;> intro _ <;> conv => whnf) | (apply z2 <;> intro _ <;> conv => whnf) | (apply z9 <;> intro _ <;> conv => whnf) | (apply z23 <;> intro _ <;> conv => whnf) | (apply z34 <;> intro _ <;> conv => whnf))
  · exact z80 (k + 1) [0] (by omega) (by omega) ⟨rfl, by decide, rfl, ⟨⟨rfl, rfl⟩, ⟨rfl, rfl⟩, ⟨rfl, rfl⟩, trivial⟩, ⟨obj_fill (by omega) rfl rfl rfl (fun _ => rfl) rfl, trivial⟩⟩
  · obtain rfl : k = l.length := by omega
    exact ret_new rfl (z0 fun _ => rfl) rfl (fill_end _ _ _ _ rfl)
theorem toTransitionS_new (l : List Trans) (hl : l.length ≤ 1048576) : CallsA Tryz.prog 124 [lst 4 Trans.cs l] [] (.sref 0 0 l.length) [.cells 4 (l.map Trans.cs)] := by
  refine z7 z28 Tryz.func124 rfl rfl 23 Tryz.ntmps124 (by simp) ?_
  repeat' (first | (apply AWP.go ok; rfl; conv => whnf) | (apply z3; kernel_rfl; conv => whnf) | (apply And.intro; (first | omega | (unfold inI; omega) | (dsimp only; omega) | (unfold z17; omega) | ((try dsimp only); simp only [List.length_map, List.length_take, List.length_append, List.length_replicate, List.length_cons, List.length_nil]; omega) | (simp only [z37] at *; first | omega | (unfold inI; omega) | (unfold z17; omega)) | exact z6 (fun _ => rfl) | exact ⟨rfl, z11 rfl z16⟩ | exact ⟨rfl, z6 (fun _ => rfl) _⟩ | exact ⟨⟨rfl, by omega⟩, z6 (fun _ => rfl) _⟩); conv => whnf) | (with_reducible apply z5; omega; intro _; conv => whnf) | (with_reducible apply z31; omega; intro _; conv => whnf) | (apply z5; omega; intro _; conv => whnf) | (apply z35; omega; conv => whnf) | (apply z41; conv => whnf) | (apply z45; omega; intro _; conv => whnf) | (apply z48 <;> intro _ <;> conv => whnf) | (apply z36 <;> intro _ <;> conv => whnf) | (apply z47 <;> intro _ <;> conv => whnf) | (apply z61 <;> intro _ <;> conv => whnf) | (apply z2 <;> intro _ <;> conv => whnf) | (apply z9 <;> intro _ <;> conv => whnf) | (apply z23 <;> intro _ <;> conv => whnf) | (apply z34 <;> intro _ <;> conv => whnf))
  refine z86 (fun k : Nat => ([(0, lst 4 Trans.cs l), (3, .sref 0 0 l.length), (4, .int k)], [.cells 4 ((l.take k).map Trans.cs ++ List.replicate (l.length - k) [.int 0, .int 0, .int 0, .int 0])])) (fun k => k ≤ l.length) (fun k => l.length - k) 0 (by omega) ⟨[0], rfl, by decide, rfl, by repeat' (first | exact True.intro | exact ⟨rfl, rfl⟩ | apply And.intro), by repeat' (first | exact True.intro | exact z22 rfl rfl | exact z12 (by rfl) (by (first | exact z14 | exact z1 rfl | exact z0 (fun _ => rfl) | exact z0 Tree.co_flat | (apply z8 <;> (first | exact z1 rfl | exact z0 (fun _ => rfl))) | assumption)) | apply And.intro)⟩ ?_
  intro k hk
  repeat' (first | (apply AWP.go ok; rfl; conv => whnf) | (apply z3; kernel_rfl; conv => whnf) | (apply And.intro; (first | omega | (unfold inI; omega) | (dsimp only; omega) | (unfold z17; omega) | ((try dsimp only); simp only [List.length_map, List.length_take, List.length_append, List.length_replicate, List.length_cons, List.length_nil]; omega) | (simp only [z37] at *; first | omega | (unfold inI; omega) | (unfold z17; omega)) | exact z6 (fun _ => rfl) | exact ⟨rfl, z11 rfl z16⟩ | exact ⟨rfl, z6 (fun _ => rfl) _⟩ | exact ⟨⟨rfl, by omega⟩, z6 (fun _ => rfl) _⟩); conv => whnf) | (with_reducible apply z5; omega; intro _; conv => whnf) | (with_reducible apply z31; omega; intro _; conv => whnf) | (apply z5; omega; intro _; conv => whnf) | (apply z35; omega; conv => whnf) | (apply z41; conv => whnf) | (apply z45; omega; intro _; conv => whnf) | (apply z48 <;> intro _ <;> conv => whnf) | (apply z36 <;> intro _ <;> conv => whnf) | (apply z47 <;> intro _ <;> conv => whnf) | (apply z61 <;> intro _ <;> conv => whnf) | (apply z2 <;> intro _ <;> conv => whnf) | (apply z9 <;> intro _ <;> conv => whnf) | (apply z23 <;> intro _ <;> conv => whnf) | (apply z34 <;> intro _ <;> conv => whnf) | (apply z4 (toTransition_ok l[k]); rfl; rfl; conv => whnf))
  · exact z80 (k + 1) [0] (by omega) (by omega) ⟨rfl, by decide, rfl, ⟨⟨rfl, rfl⟩, ⟨rfl, rfl⟩, ⟨rfl, rfl⟩, trivial⟩, ⟨obj_fill (by omega) rfl rfl rfl (fun _ => rfl) rfl, trivial⟩⟩
  · obtain rfl : k = l.length := by omega
    exact ret_new rfl (z0 fun _ => rfl) rfl (fill_end _ _ _ _ rfl)
structure Aut.ok (a : Aut) : Prop where
  mx : a.mx
  ini : a.ini.length ≤ 1048576
  acc : a.acc.length ≤ 1048576
  ed : a.ed.length ≤ 1048576
theorem Aut.ok_of {a : Aut} (h : a.mx) (h1 : a.s1 ≤ 1048576) (h2 : a.s2 ≤ 1048576) (h3 : a.s3 ≤ 1048576) : a.ok := ⟨h, h1, h2, h3⟩
theorem toAutS {a : Aut} (h : a.ok) : CallsA Tryz.prog 39 [.agg a.cs] [] (.agg a.cs) [] := toAutomaton_of a (toIntS_ok a.ini h.ini) (toBoolS_ok a.acc h.acc) (toTransitionS_of a.ed h.ed (fun t _ => toTransition_ok t))
theorem toAutN {a : Aut} (h : a.ok) : CallsA Tryz.prog 39 [.agg a.cs] [] (.agg [.sref 0 0 a.ini.length, .sref 1 0 a.acc.length, .sref 2 0 a.ed.length]) [.cells 1 (a.ini.map enI), .cells 1 (a.acc.map enB), .cells 4 (a.ed.map Trans.cs)] := by
  refine z7 z28 Tryz.func39 rfl rfl 17 Tryz.ntmps39 (by simp) ?_
  repeat' (first | (apply AWP.go ok; rfl; conv => whnf) | (apply z3; kernel_rfl; conv => whnf) | (apply And.intro; (first | omega | (unfold inI; omega) | (dsimp only; omega) | (unfold z17; omega) | ((try dsimp only); simp only [List.length_map, List.length_take, List.length_append, List.length_replicate, List.length_cons, List.length_nil]; omega) | (simp only [z37] at *; first | omega | (unfold inI; omega) | (unfold z17; omega)) | exact z6 (fun _ => rfl) | exact ⟨rfl, z11 rfl z16⟩ | exact ⟨rfl, z6 (fun _ => rfl) _⟩ | exact ⟨⟨rfl, by omega⟩, z6 (fun _ => rfl) _⟩); conv => whnf) | (with_reducible apply z5; omega; intro _; conv => whnf) | (with_reducible apply z31; omega; intro _; conv => whnf) | (apply z5; omega; intro _; conv => whnf) | (apply z35; omega; conv => whnf) | (apply z41; conv => whnf) | (apply z45; omega; intro _; conv => whnf) | (apply z48 <;> intro _ <;> conv => whnf) | (apply z36 <;> intro _ <;> conv => whnf) | (apply z47 <;> intro _ <;> conv => whnf) | (apply z61 <;> intro _ <;> conv => whnf) | (apply z2 <;> intro _ <;> conv => whnf) | (apply z9 <;> intro _ <;> conv => whnf) | (apply z23 <;> intro _ <;> conv => whnf) | (apply z34 <;> intro _ <;> conv => whnf) | (apply z19 [] [] [3] (toIntS_new a.ini h.ini); rfl; (focus ((repeat' (first | exact z10 | apply z21)) <;> (first | rfl | (refine z43 rfl ?_; (first | exact z14 | exact z1 rfl | exact z0 (fun _ => rfl) | exact z0 Tree.co_flat | (apply z8 <;> (first | exact z1 rfl | exact z0 (fun _ => rfl))) | assumption))))); rfl; rfl; rfl; rfl; rfl; (focus ((repeat' (first | exact z29 | apply z25)) <;> (first | exact z77 | exact z70 rfl rfl | (refine z40 ?_; (first | exact z14 | exact z1 rfl | exact z0 (fun _ => rfl) | exact z0 Tree.co_flat | (apply z8 <;> (first | exact z1 rfl | exact z0 (fun _ => rfl))) | assumption))))); (first | exact .inl rfl | (refine .inr ⟨rfl, ?_⟩; repeat' (first | exact True.intro | apply And.intro | exact rfl | exact z42 (fun _ => rfl) _))); conv => whnf) | (apply z19 [] [] [4] (toBoolS_new a.acc h.acc); rfl; (focus ((repeat' (first | exact z10 | apply z21)) <;> (first | rfl | (refine z43 rfl ?_; (first | exact z14 | exact z1 rfl | exact z0 (fun _ => rfl) | exact z0 Tree.co_flat | (apply z8 <;> (first | exact z1 rfl | exact z0 (fun _ => rfl))) | assumption))))); rfl; rfl; rfl; rfl; rfl; (focus ((repeat' (first | exact z29 | apply z25)) <;> (first | exact z77 | exact z70 rfl rfl | (refine z40 ?_; (first | exact z14 | exact z1 rfl | exact z0 (fun _ => rfl) | exact z0 Tree.co_flat | (apply z8 <;> (first | exact z1 rfl | exact z0 (fun _ => rfl))) | assumption))))); (first | exact .inl rfl | (refine .inr ⟨rfl, ?_⟩; repeat' (first | exact True.intro | apply And.intro | exact rfl | exact z42 (fun _ => rfl) _))); conv => whnf) | (apply z19 [] [] [5] (toTransitionS_new a.ed h.ed); rfl; (focus ((repeat' (first | exact z10 | apply z21)) <;> (first | rfl | (refine z43 rfl ?_; (first | exact z14 | exact z1 rfl | exact z0 (fun _ => rfl) | exact z0 Tree.co_flat | (apply z8 <;> (first | exact z1 rfl | exact z0 (fun _ => rfl))) | assumption))))); rfl; rfl; rfl; rfl; rfl; (focus ((repeat' (first | exact z29 | apply z25)) <;> (first | exact z77 | exact z70 rfl rfl | (refine z40 ?_; (first | exact z14 | exact z1 rfl | exact z0 (fun _ => rfl) | exact z0 Tree.co_flat | (apply z8 <;> (first | exact z1 rfl | exact z0 (fun _ => rfl))) | assumption))))); (first | exact .inl rfl | (refine .inr ⟨rfl, ?_⟩; repeat' (first | exact True.intro | apply And.intro | exact rfl | exact z42 (fun _ => rfl) _))); conv => whnf))
  exact z81 [3, 4, 5] (by decide) rfl rfl rfl ⟨z12 rfl (z0 fun _ => rfl), z12 rfl (z0 fun _ => rfl), z12 rfl (z0 fun _ => rfl), trivial⟩
theorem eqAutT {a : Aut} (h : a.ok) : CallsA Tryz.prog 44 [.agg a.cs, .agg a.cs] [] (.bool true) [] := by
  have := eqAutomaton_of a a (eqIntS_ok a.ini a.ini h.mx.1 h.mx.1) (eqBoolS_ok a.acc a.acc h.mx.2.1 h.mx.2.1) (eqTransitionS_of a.ed a.ed h.mx.2.2.1 h.mx.2.2.1 (fun s _ t _ => eqTransition_ok s t))
  rwa [decide_eq_true rfl] at this
theorem szAutT (a : Aut) (ha : a.mx) (n : Int) (h0 : 0 ≤ n) (h1 : n ≤ 1048576) : CallsA Tryz.prog 35 [.agg a.cs, .int n] [] (.int (bud n (a.s1 + a.s2 + a.s3))) [] := szAutomaton_of a n (fun n h0 h1 => szIntS_ok a.ini n ha.1 h0 h1) (fun n h0 h1 => szBoolS_ok a.acc n ha.2.1 h0 h1) (fun n h0 h1 => szTransitionS_ok a.ed n ha.2.2.1 h0 h1) h0 h1

/-- the truth values that a marking writes -/
def markb (k : Int) (j : Nat) : Bool := decide ((k + j) % 3 = 0)
def marksB (k : Int) (n : Nat) : List Bool := (List.range n).map (markb k)
theorem markBoolS_ok (l : List Bool) (k : Int) (hl : l.length ≤ 1048576) (h0 : 0 ≤ k) (h1 : k ≤ 1000000000000) : CallsA Tryz.prog 137 [.sref 0 0 l.length, .int k] [.cells 1 (l.map enB)] (.int (k + l.length)) [.cells 1 ((marksB k l.length).map enB)] := by
  refine z7 z28 Tryz.func137 rfl rfl 21 Tryz.ntmps137 (by simp) ?_
  repeat' (first | (apply AWP.go ok; rfl; conv => whnf) | (apply z3; kernel_rfl; conv => whnf) | (apply And.intro; (first | omega | (unfold inI; omega) | (dsimp only; omega) | (unfold z17; omega) | ((try dsimp only); simp only [List.length_map, List.length_take, List.length_append, List.length_replicate, List.length_cons, List.length_nil]; omega) | (simp only [z37] at *; first | omega | (unfold inI; omega) | (unfold z17; omega)) | exact z6 (fun _ => rfl) | exact ⟨rfl, z11 rfl z16⟩ | exact ⟨rfl, z6 (fun _ => rfl) _⟩ | exact ⟨⟨rfl, by omega⟩, z6 (fun _ => rfl) _⟩); conv => whnf) | (with_reducible apply z5; omega; intro _; conv => whnf) | (with_reducible apply z31; omega; intro _; conv => whnf) | (apply z5; omega; intro _; conv => whnf) | (apply z35; omega; conv => whnf) | (apply z41; conv => whnf) | (apply z45; omega; intro _; conv => whnf) | (apply z48 <;> intro _ <;> conv => whnf) | (apply z36 <;> intro _ <;> conv => whnf) | (apply z47 <;> intro _ <;> conv => whnf) | (apply z61 <;> intro _ <;> conv => whnf) | (apply z2 <;> intro _ <;> conv => whnf) | (apply z9 <;> intro _ <;> conv => whnf) | (apply z23 <;> intro _ <;> conv => whnf) | (apply z34 <;> intro _ <;> conv => whnf))
  refine z86 (fun i : Nat => ([(0, .sref 0 0 l.length), (1, .int (k + i)), (5, .int i)], [.cells 1 (mixL (fun j => enB (markb k j)) (l.map enB) i)])) (fun i => i ≤ l.length) (fun i => l.length - i) 0 (by omega) ⟨[0], rfl, by decide, rfl, ⟨⟨rfl, rfl⟩, ⟨rfl, z126 (by simp)⟩, ⟨rfl, rfl⟩, trivial⟩, ⟨z12 (z32 (mixL_zero _ _).symm) (z97 (fun _ => rfl) (fun _ => rfl)), trivial⟩⟩ ?_
  intro i hi
  repeat' (first | (apply AWP.go ok; rfl; conv => whnf) | (apply z3; kernel_rfl; conv => whnf) | (refine get_mix (by omega) (by omega) ?_; conv => whnf) | (apply And.intro; (first | omega | (unfold inI; omega) | (dsimp only; omega) | (unfold z17; omega) | ((try dsimp only); simp only [List.length_map, List.length_take, List.length_append, List.length_replicate, List.length_cons, List.length_nil]; omega) | (simp only [z37] at *; first | omega | (unfold inI; omega) | (unfold z17; omega)) | exact z6 (fun _ => rfl) | exact ⟨rfl, z11 rfl z16⟩ | exact ⟨rfl, z6 (fun _ => rfl) _⟩ | exact ⟨⟨rfl, by omega⟩, z6 (fun _ => rfl) _⟩); conv => whnf) | (with_reducible apply z5; omega; intro _; conv => whnf) | (with_reducible apply z31; omega; intro _; conv => whnf) | (apply z5; omega; intro _; conv => whnf) | (apply z35; omega; conv => whnf) | (apply z41; conv => whnf) | (apply z45; omega; intro _; conv => whnf) | (apply z48 <;> intro _ <;> conv => whnf) | (apply z36 <;> intro _ <;> conv => whnf) | (apply z47 <;> intro _ <;> conv => whnf) | (apply z61 <;> intro _ <;> conv => whnf) | (apply z2 <;> intro _ <;> conv => whnf) | (apply z9 <;> intro _ <;> conv => whnf) | (apply z23 <;> intro _ <;> conv => whnf) | (apply z34 <;> intro _ <;> conv => whnf))
  all_goals first | (exfalso; omega) | skip
  · exact z80 (i + 1) [0] (by omega) (by omega) ⟨rfl, by decide, rfl, ⟨⟨rfl, rfl⟩, ⟨rfl, z126 (by omega)⟩, ⟨rfl, rfl⟩, trivial⟩, ⟨z12 (z32 (mixL_set (by simpa using by omega) (by omega) rfl)) (z97 (fun _ => rfl) (fun _ => rfl)), trivial⟩⟩
  · obtain rfl : i = l.length := by omega
    refine z81 [0] (by decide) rfl rfl rfl ⟨z12 (z32 ?_) (z0 fun _ => rfl), trivial⟩
    rw [mixL_end (by simp), marksB, List.map_map]; rfl
theorem markTransitionS_ok (l : List Trans) (k : Int) (hl : l.length ≤ 1048576) (h0 : 0 ≤ k) (h1 : k ≤ 1000000000000) : CallsA Tryz.prog 138 [.sref 0 0 l.length, .int k] [.cells 4 (l.map Trans.cs)] (.int (k + 4 * l.length)) [.cells 4 (List.replicate l.length [.any, .any, .any, .any])] := by
  refine z7 z28 Tryz.func138 rfl rfl 41 Tryz.ntmps138 (by simp) ?_
  repeat' (first | (apply AWP.go ok; rfl; conv => whnf) | (apply z3; kernel_rfl; conv => whnf) | (apply And.intro; (first | omega | (unfold inI; omega) | (dsimp only; omega) | (unfold z17; omega) | ((try dsimp only); simp only [List.length_map, List.length_take, List.length_append, List.length_replicate, List.length_cons, List.length_nil]; omega) | (simp only [z37] at *; first | omega | (unfold inI; omega) | (unfold z17; omega)) | exact z6 (fun _ => rfl) | exact ⟨rfl, z11 rfl z16⟩ | exact ⟨rfl, z6 (fun _ => rfl) _⟩ | exact ⟨⟨rfl, by omega⟩, z6 (fun _ => rfl) _⟩); conv => whnf) | (with_reducible apply z5; omega; intro _; conv => whnf) | (with_reducible apply z31; omega; intro _; conv => whnf) | (apply z5; omega; intro _; conv => whnf) | (apply z35; omega; conv => whnf) | (apply z41; conv => whnf) | (apply z45; omega; intro _; conv => whnf) | (apply z48 <;> intro _ <;> conv => whnf) | (apply z36 <;> intro _ <;> conv => whnf) | (apply z47 <;> intro _ <;> conv => whnf) | (apply z61 <;> intro _ <;> conv => whnf) | (apply z2 <;> intro _ <;> conv => whnf) | (apply z9 <;> intro _ <;> conv => whnf) | (apply z23 <;> intro _ <;> conv => whnf) | (apply z34 <;> intro _ <;> conv => whnf))
  refine z86 (fun i : Nat => ([(0, .sref 0 0 l.length), (1, .int (k + 4 * i)), (5, .int i)], [.cells 4 (mixL (fun _ => [.any, .any, .any, .any]) (l.map Trans.cs) i)])) (fun i => i ≤ l.length) (fun i => l.length - i) 0 (by omega) ⟨[0], rfl, by decide, rfl, ⟨⟨rfl, rfl⟩, ⟨rfl, z126 (by simp)⟩, ⟨rfl, rfl⟩, trivial⟩, ⟨z12 (z32 (mixL_zero _ _).symm) (z97 (fun _ => rfl) (fun _ => rfl)), trivial⟩⟩ ?_
  intro i hi
  by_cases hil : i < l.length
  · have hm2 : i < (mixL (fun _ => [AC.any, .any, .any, .any]) (l.map Trans.cs) i).length := by rw [mixL_len (by simpa using hi)]; simpa using hil
    have hin : ((i : Int)).toNat = i := Int.toNat_natCast i
    generalize hF : mixL (fun _ => [AC.any, .any, .any, .any]) (l.map Trans.cs) i = F at hm2
    have hg : F[i]? = some (Trans.cs l[i]) := by rw [← hF]; exact mixL_get hil
    repeat' (first | ((fail_if_success apply z66 3); (fail_if_success apply z54 3); apply AWP.go ok; rfl; conv => whnf) | (apply z3; kernel_rfl; conv => whnf) | (apply get_set; exact hin; (first | exact hm2 | (rw [List.length_set]; exact hm2) | (rw [List.length_set, List.length_set]; exact hm2)); conv => whnf) | (refine z26 (i := i) hin hg ?_; conv => whnf) | (apply And.intro; (first | omega | (unfold inI; omega) | (dsimp only; omega) | (unfold z17; omega) | ((try dsimp only); simp only [List.length_map, List.length_take, List.length_append, List.length_replicate, List.length_cons, List.length_nil]; omega) | (simp only [z37] at *; first | omega | (unfold inI; omega) | (unfold z17; omega)) | exact z6 (fun _ => rfl) | exact ⟨rfl, z11 rfl z16⟩ | exact ⟨rfl, z6 (fun _ => rfl) _⟩ | exact ⟨⟨rfl, by omega⟩, z6 (fun _ => rfl) _⟩); conv => whnf) | (with_reducible apply z5; omega; intro _; conv => whnf) | (with_reducible apply z31; omega; intro _; conv => whnf) | (apply z5; omega; intro _; conv => whnf) | (apply z35; omega; conv => whnf) | (apply z41; conv => whnf) | (apply z45; omega; intro _; conv => whnf) | (apply z48 <;> intro _ <;> conv => whnf) | (apply z36 <;> intro _ <;> conv => whnf) | (apply z47 <;> intro _ <;> conv => whnf) | (apply z61 <;> intro _ <;> conv => whnf) | (apply z2 <;> intro _ <;> conv => whnf) | (apply z9 <;> intro _ <;> conv => whnf) | (apply z23 <;> intro _ <;> conv => whnf) | (apply z34 <;> intro _ <;> conv => whnf))
    all_goals first | (exfalso; omega) | skip
    refine AWP.reach (Gl.Reach.forget 0 i [.any, .any, .any, .any] rfl (getset hin (by rw [List.length_set, List.length_set, List.length_set]; exact hm2)) rfl rfl) ?_
    conv => whnf
    repeat' (first | (apply AWP.go ok; rfl; conv => whnf) | (apply z3; kernel_rfl; conv => whnf) | (apply And.intro; (first | omega | (unfold inI; omega) | (dsimp only; omega) | (unfold z17; omega) | ((try dsimp only); simp only [List.length_map, List.length_take, List.length_append, List.length_replicate, List.length_cons, List.length_nil]; omega) | (simp only [z37] at *; first | omega | (unfold inI; omega) | (unfold z17; omega)) | exact z6 (fun _ => rfl) | exact ⟨rfl, z11 rfl z16⟩ | exact ⟨rfl, z6 (fun _ => rfl) _⟩ | exact ⟨⟨rfl, by omega⟩, z6 (fun _ => rfl) _⟩); conv => whnf) | (with_reducible apply z5; omega; intro _; conv => whnf) | (with_reducible apply z31; omega; intro _; conv => whnf) | (apply z5; omega; intro _; conv => whnf) | (apply z35; omega; conv => whnf) | (apply z41; conv => whnf) | (apply z45; omega; intro _; conv => whnf) | (apply z48 <;> intro _ <;> conv => whnf) | (apply z36 <;> intro _ <;> conv => whnf) | (apply z47 <;> intro _ <;> conv => whnf) | (apply z61 <;> intro _ <;> conv => whnf) | (apply z2 <;> intro _ <;> conv => whnf) | (apply z9 <;> intro _ <;> conv => whnf) | (apply z23 <;> intro _ <;> conv => whnf) | (apply z34 <;> intro _ <;> conv => whnf))
    exact z80 (i + 1) [0] (by omega) (by omega) ⟨rfl, by decide, rfl, ⟨⟨rfl, rfl⟩, ⟨rfl, z126 (by omega)⟩, ⟨rfl, rfl⟩, trivial⟩, ⟨z12 (z32 (by rw [List.set_set, List.set_set, List.set_set, Nat.add_zero, hin, List.set_set, ← hF, mixL_set (by simpa using hil) rfl rfl])) (z97 (fun _ => rfl) (fun _ => rfl)), trivial⟩⟩
  · repeat' (first | (apply AWP.go ok; rfl; conv => whnf) | (apply z3; kernel_rfl; conv => whnf) | (apply And.intro; (first | omega | (unfold inI; omega) | (dsimp only; omega) | (unfold z17; omega) | ((try dsimp only); simp only [List.length_map, List.length_take, List.length_append, List.length_replicate, List.length_cons, List.length_nil]; omega) | (simp only [z37] at *; first | omega | (unfold inI; omega) | (unfold z17; omega)) | exact z6 (fun _ => rfl) | exact ⟨rfl, z11 rfl z16⟩ | exact ⟨rfl, z6 (fun _ => rfl) _⟩ | exact ⟨⟨rfl, by omega⟩, z6 (fun _ => rfl) _⟩); conv => whnf) | (with_reducible apply z5; omega; intro _; conv => whnf) | (with_reducible apply z31; omega; intro _; conv => whnf) | (apply z5; omega; intro _; conv => whnf) | (apply z35; omega; conv => whnf) | (apply z41; conv => whnf) | (apply z45; omega; intro _; conv => whnf) | (apply z48 <;> intro _ <;> conv => whnf) | (apply z36 <;> intro _ <;> conv => whnf) | (apply z47 <;> intro _ <;> conv => whnf) | (apply z61 <;> intro _ <;> conv => whnf) | (apply z2 <;> intro _ <;> conv => whnf) | (apply z9 <;> intro _ <;> conv => whnf) | (apply z23 <;> intro _ <;> conv => whnf) | (apply z34 <;> intro _ <;> conv => whnf))
    all_goals first | (exfalso; omega) | skip
    obtain rfl : i = l.length := by omega
    exact z81 [0] (by decide) rfl rfl rfl ⟨z12 (z32 (by rw [mixL_end (by simp), range_const])) (z1 rfl), trivial⟩
def Aut.ml (a : Aut) : Nat := a.ini.length + a.acc.length + 4 * a.ed.length
theorem Aut.ml_le {a : Aut} (h : a.ok) : a.ml ≤ 8388608 := by
  have := h.ini; have := h.acc; have := h.ed
  unfold Aut.ml; omega
theorem markAutT {a : Aut} (h : a.ok) (k : Int) (h0 : 0 ≤ k) (h1 : k ≤ 1000000000) : CallsA Tryz.prog 47 [.agg [.sref 0 0 a.ini.length, .sref 1 0 a.acc.length, .sref 2 0 a.ed.length], .int k] [.cells 1 (a.ini.map enI), .cells 1 (a.acc.map enB), .cells 4 (a.ed.map Trans.cs)] (.int (k + a.ml)) [.cells 1 ((marks k a.ini.length).map enI), .cells 1 ((marksB (k + a.ini.length) a.acc.length).map enB), .cells 4 (List.replicate a.ed.length [.any, .any, .any, .any])] := by
  have h2 := h.ini
  have h3 := h.acc
  have h4 := h.ed
  have m1 := markIntS_ok a.ini k h2 h0 (by omega)
  have m2 := markBoolS_ok a.acc (k + a.ini.length) h3 (by omega) (by omega)
  have m3 := markTransitionS_ok a.ed (k + a.ini.length + a.acc.length) h4 (by omega) (by omega)
  rw [show k + (a.ml : Int) = k + a.ini.length + a.acc.length + 4 * a.ed.length by unfold Aut.ml; omega]
  refine z7 z28 Tryz.func47 rfl rfl 18 Tryz.ntmps47 (by simp) ?_
  repeat' (first | (apply AWP.go ok; rfl; conv => whnf) | (apply z3; kernel_rfl; conv => whnf) | (apply And.intro; (first | omega | (unfold inI; omega) | (dsimp only; omega) | (unfold z17; omega) | ((try dsimp only); simp only [List.length_map, List.length_take, List.length_append, List.length_replicate, List.length_cons, List.length_nil]; omega) | (simp only [z37] at *; first | omega | (unfold inI; omega) | (unfold z17; omega)) | exact z6 (fun _ => rfl) | exact ⟨rfl, z11 rfl z16⟩ | exact ⟨rfl, z6 (fun _ => rfl) _⟩ | exact ⟨⟨rfl, by omega⟩, z6 (fun _ => rfl) _⟩); conv => whnf) | (with_reducible apply z5; omega; intro _; conv => whnf) | (with_reducible apply z31; omega; intro _; conv => whnf) | (apply z5; omega; intro _; conv => whnf) | (apply z35; omega; conv => whnf) | (apply z41; conv => whnf) | (apply z45; omega; intro _; conv => whnf) | (apply z48 <;> intro _ <;> conv => whnf) | (apply z36 <;> intro _ <;> conv => whnf) | (apply z47 <;> intro _ <;> conv => whnf) | (apply z61 <;> intro _ <;> conv => whnf) | (apply z2 <;> intro _ <;> conv => whnf) | (apply z9 <;> intro _ <;> conv => whnf) | (apply z23 <;> intro _ <;> conv => whnf) | (apply z34 <;> intro _ <;> conv => whnf) | (apply z19 [0] [] [] (m1); rfl; (focus ((repeat' (first | exact z10 | apply z21)) <;> (first | rfl | (refine z43 rfl ?_; (first | exact z14 | exact z1 rfl | exact z0 (fun _ => rfl) | exact z0 Tree.co_flat | (apply z8 <;> (first | exact z1 rfl | exact z0 (fun _ => rfl))) | assumption))))); rfl; rfl; rfl; rfl; rfl; (focus ((repeat' (first | exact z29 | apply z25)) <;> (first | exact z77 | exact z70 rfl rfl | (refine z40 ?_; (first | exact z14 | exact z1 rfl | exact z0 (fun _ => rfl) | exact z0 Tree.co_flat | (apply z8 <;> (first | exact z1 rfl | exact z0 (fun _ => rfl))) | assumption))))); (first | exact .inl rfl | (refine .inr ⟨rfl, ?_⟩; repeat' (first | exact True.intro | apply And.intro | exact rfl | exact z42 (fun _ => rfl) _))); conv => whnf) | (apply z19 [1] [] [] (m2); rfl; (focus ((repeat' (first | exact z10 | apply z21)) <;> (first | rfl | (refine z43 rfl ?_; (first | exact z14 | exact z1 rfl | exact z0 (fun _ => rfl) | exact z0 Tree.co_flat | (apply z8 <;> (first | exact z1 rfl | exact z0 (fun _ => rfl))) | assumption))))); rfl; rfl; rfl; rfl; rfl; (focus ((repeat' (first | exact z29 | apply z25)) <;> (first | exact z77 | exact z70 rfl rfl | (refine z40 ?_; (first | exact z14 | exact z1 rfl | exact z0 (fun _ => rfl) | exact z0 Tree.co_flat | (apply z8 <;> (first | exact z1 rfl | exact z0 (fun _ => rfl))) | assumption))))); (first | exact .inl rfl | (refine .inr ⟨rfl, ?_⟩; repeat' (first | exact True.intro | apply And.intro | exact rfl | exact z42 (fun _ => rfl) _))); conv => whnf) | (apply z19 [2] [] [] (m3); rfl; (focus ((repeat' (first | exact z10 | apply z21)) <;> (first | rfl | (refine z43 rfl ?_; (first | exact z14 | exact z1 rfl | exact z0 (fun _ => rfl) | exact z0 Tree.co_flat | (apply z8 <;> (first | exact z1 rfl | exact z0 (fun _ => rfl))) | assumption))))); rfl; rfl; rfl; rfl; rfl; (focus ((repeat' (first | exact z29 | apply z25)) <;> (first | exact z77 | exact z70 rfl rfl | (refine z40 ?_; (first | exact z14 | exact z1 rfl | exact z0 (fun _ => rfl) | exact z0 Tree.co_flat | (apply z8 <;> (first | exact z1 rfl | exact z0 (fun _ => rfl))) | assumption))))); (first | exact .inl rfl | (refine .inr ⟨rfl, ?_⟩; repeat' (first | exact True.intro | apply And.intro | exact rfl | exact z42 (fun _ => rfl) _))); conv => whnf))
  exact z81 [0, 1, 2] (by decide) rfl rfl rfl ⟨z12 rfl (z0 fun _ => rfl), z12 rfl (z0 fun _ => rfl), z12 rfl (z1 rfl), trivial⟩
end Go.Proofs.YtknlmbniicacmaaGreat

namespace Go.Proofs.YtknlmbniicacmaaGreat
open Go.Gl
attribute [local irreducible] z15 AWP z44 z49 z46

def onB (t : Trans) (n : Int) : Bool := decide (((n.toNat &&& t.care.toNat : Nat) : Int) = t.val)
/-- what one edge adds at one state and one successor -/
def pushE (n : Nat) (i : Nat) (ℓ to : Int) (e : Trans) : List (Nat × Int) := if onB e ℓ then [((i : Nat) * n + e.src.toNat, to * n + e.dst)] else []
def pushJ (n : Nat) (ed : List Trans) (i : Nat) (ℓ to : Int) : List (Nat × Int) := ed.flatMap (pushE n i ℓ to)
def pushI (n : Nat) (ed : List Trans) (nx : List (List Int)) (ls : List Int) (i : Nat) : List (Nat × Int) := (nx.getD i []).flatMap (pushJ n ed i (ls.getD i 0))
def pushS (g : Graph) (ls : List Int) (a : Aut) : List (Nat × Int) := (List.range g.st.length).flatMap (pushI a.acc.length a.ed g.nx ls)
/-- the successors of the nodes of the product -/
def z64 (g : Graph) (ls : List Int) (a : Aut) : List (List Int) := build (a.acc.length * g.st.length) (pushS g ls a)

theorem pushS_len (g : Graph) (hg : GB g) (ls : List Int) (a : Aut) (ha : AutP a) : (pushS g ls a).length ≤ 7372800 := by
  obtain ⟨⟨g1, g2⟩, g3, g4⟩ := hg
  have h1 : ∀ i ℓ to, (pushJ a.acc.length a.ed i ℓ to).length ≤ 2048 := fun i ℓ to => by
    have := flat_len (f := pushE a.acc.length i ℓ to) (c := 1) a.ed (fun e _ => by unfold pushE; split <;> simp)
    have := ha.2.1
    unfold pushJ; omega
  have h2 : ∀ i ∈ List.range g.st.length, (pushI a.acc.length a.ed g.nx ls i).length ≤ 122880 := fun i hi => by
    rw [List.mem_range] at hi
    unfold pushI
    rw [z30 (l := g.nx) (by omega)]
    have h3 := flat_len (f := pushJ a.acc.length a.ed i (ls.getD i 0)) (c := 2048) g.nx[i] (fun e _ => h1 _ _ _)
    have h4 := (g4 i (by omega) (by omega) hi).2.1
    have : g.nx[i].length * 2048 ≤ 60 * 2048 := Nat.mul_le_mul_right _ (by omega)
    omega
  have h5 := flat_len (f := pushI a.acc.length a.ed g.nx ls) (c := 122880) (List.range g.st.length) h2
  rw [List.length_range] at h5
  have : g.st.length * 122880 ≤ 60 * 122880 := Nat.mul_le_mul_right _ (by omega)
  unfold pushS; omega

theorem l8Product_new (g : Graph) (hg : GB g) (ls : List Int) (hls : ls.length = g.st.length) (hlr : ∀ x ∈ ls, 0 ≤ x ∧ x ≤ 7) (a : Aut) (ha : AutP a) : CallsA Tryz.prog 82 [.agg g.cs, ints ls, .agg a.cs] [] (.sref 0 0 (a.acc.length * g.st.length)) [.cells 1 ((z64 g ls a).map ownRow)] := by
  have hpl := pushS_len g hg ls a ha
  obtain ⟨⟨g1, g2⟩, g3, g4⟩ := hg
  obtain ⟨⟨a1, a2⟩, a3, _, a5⟩ := ha
  have hN := mul_bound (a := (a.acc.length : Int)) (b := (g.st.length : Int)) (A := 64) (B := 60) (by omega) (by omega) (by omega) (by omega)
  have hNn : ((a.acc.length * g.st.length : Nat) : Int) = (a.acc.length : Int) * g.st.length := by simp
  refine z7 z28 Tryz.func82 rfl rfl 93 Tryz.ntmps82 (by simp) ?_
  repeat' (first | (apply AWP.go ok; rfl; conv => whnf) | (apply And.intro; (first | (unfold inI; omega) | (dsimp only; omega)); conv => whnf))
  refine AWP.reach (Gl.Reach.weaken (es' := List.replicate (a.acc.length * g.st.length) [.own 1 []]) 2 rfl (by rw [List.length_replicate, List.length_replicate]; rfl) rows_weaken rfl) ?_
  conv => whnf
  have hrow : ∀ i (hi : i < g.nx.length), ∀ x ∈ g.nx[i], 0 ≤ x ∧ x ≤ g.st.length - 1 := fun i hi x hx => by
    obtain ⟨j, hj, rfl⟩ := List.mem_iff_getElem.1 hx
    exact ((g4 i hi hi (by omega)).2.2.2 j hj hj).1
  have hlen : ∀ i (hi : i < g.nx.length), g.nx[i].length ≤ 60 := fun i hi => by
    have := (g4 i hi hi (by omega)).2.1; omega
  refine z86 (fun x : Nat × List (Nat × Int) => ([(1, ints ls), (3, .ptr 0 none 0), (5, .ptr 1 none 0), (7, .int a.acc.length), (8, .sref 2 0 (a.acc.length * g.st.length)), (9, .int x.1)], [.cells 2 [[lst 2 State.cs g.st, lst 1 encL g.nx]], .cells 3 [[lst 1 enI a.ini, lst 1 enB a.acc, lst 4 Trans.cs a.ed]], .cells 1 ((build (a.acc.length * g.st.length) x.2).map ownRow)])) (fun x => x.1 ≤ g.st.length ∧ x.2 ++ ((List.range g.st.length).drop x.1).flatMap (pushI a.acc.length a.ed g.nx ls) = pushS g ls a) (fun x => g.st.length - x.1) (0, []) ⟨by omega, rfl⟩
    ⟨[0, 1, 2], rfl, by decide, rfl, ⟨⟨rfl, rfl⟩, ⟨rfl, rfl⟩, ⟨rfl, rfl⟩, ⟨rfl, rfl⟩, ⟨rfl, rfl⟩, ⟨rfl, rfl⟩, trivial⟩, ⟨z22 rfl rfl, z22 rfl rfl, z12 (z32 (rows_nil _).symm) (z0 fun _ => rfl), trivial⟩⟩ ?_
  rintro ⟨i, ps⟩ ⟨hi1, hi2⟩
  dsimp only at hi1 hi2 ⊢
  repeat' (first | (apply AWP.go ok; rfl; conv => whnf) | (apply z2 <;> intro _ <;> conv => whnf))
  · have hig : i < g.st.length := by omega
    rw [drop_flat _ _ _ (by simpa using hig), List.getElem_range] at hi2
    have hin : i < g.nx.length := by omega
    have hrow := hrow i hin
    have hlen := hlen i hin
    have hli := hlr ls[i] (List.getElem_mem _)
    have hpI : pushI a.acc.length a.ed g.nx ls i = g.nx[i].flatMap (pushJ a.acc.length a.ed i ls[i]) := by
      unfold pushI
      rw [z30 hin, z30 (by omega)]
    rw [hpI] at hi2
    refine z86 (fun x : Nat × List (Nat × Int) => ([(1, ints ls), (3, .ptr 0 none 0), (5, .ptr 1 none 0), (7, .int a.acc.length), (8, .sref 2 0 (a.acc.length * g.st.length)), (9, .int i), (10, .int x.1)], [.cells 2 [[lst 2 State.cs g.st, lst 1 encL g.nx]], .cells 3 [[lst 1 enI a.ini, lst 1 enB a.acc, lst 4 Trans.cs a.ed]], .cells 1 ((build (a.acc.length * g.st.length) x.2).map ownRow)])) (fun x => x.1 ≤ g.nx[i].length ∧ x.2 ++ ((g.nx[i].drop x.1).flatMap (pushJ a.acc.length a.ed i ls[i]) ++ ((List.range g.st.length).drop (i + 1)).flatMap (pushI a.acc.length a.ed g.nx ls)) = pushS g ls a) (fun x => g.nx[i].length - x.1) (0, ps) ⟨by omega, hi2⟩
      ⟨[0, 1, 2], rfl, by decide, rfl, ⟨⟨rfl, rfl⟩, ⟨rfl, rfl⟩, ⟨rfl, rfl⟩, ⟨rfl, rfl⟩, ⟨rfl, rfl⟩, ⟨rfl, rfl⟩, ⟨rfl, rfl⟩, trivial⟩, ⟨z22 rfl rfl, z22 rfl rfl, z12 rfl (z0 fun _ => rfl), trivial⟩⟩ ?_
    rintro ⟨j, ps⟩ ⟨hj1, hj2⟩
    dsimp only at hj1 hj2 ⊢
    repeat' (first | (apply AWP.go ok; rfl; conv => whnf) | (apply And.intro; (first | omega | (unfold inI; omega)); conv => whnf) | (with_reducible apply z5; omega; intro _; conv => whnf) | (apply z2 <;> intro _ <;> conv => whnf))
    · have hjn : j < g.nx[i].length := by omega
      rw [drop_flat _ _ _ hjn, List.append_assoc] at hj2
      have hto := hrow g.nx[i][j] (List.getElem_mem _)
      refine z86 (fun x : Nat × List (Nat × Int) => ([(1, ints ls), (3, .ptr 0 none 0), (5, .ptr 1 none 0), (7, .int a.acc.length), (8, .sref 2 0 (a.acc.length * g.st.length)), (9, .int i), (10, .int j), (11, .int x.1)], [.cells 2 [[lst 2 State.cs g.st, lst 1 encL g.nx]], .cells 3 [[lst 1 enI a.ini, lst 1 enB a.acc, lst 4 Trans.cs a.ed]], .cells 1 ((build (a.acc.length * g.st.length) x.2).map ownRow)])) (fun x => x.1 ≤ a.ed.length ∧ x.2 ++ ((a.ed.drop x.1).flatMap (pushE a.acc.length i ls[i] g.nx[i][j]) ++ ((g.nx[i].drop (j + 1)).flatMap (pushJ a.acc.length a.ed i ls[i]) ++ ((List.range g.st.length).drop (i + 1)).flatMap (pushI a.acc.length a.ed g.nx ls))) = pushS g ls a) (fun x => a.ed.length - x.1) (0, ps) ⟨by omega, hj2⟩
        ⟨[0, 1, 2], rfl, by decide, rfl, ⟨⟨rfl, rfl⟩, ⟨rfl, rfl⟩, ⟨rfl, rfl⟩, ⟨rfl, rfl⟩, ⟨rfl, rfl⟩, ⟨rfl, rfl⟩, ⟨rfl, rfl⟩, ⟨rfl, rfl⟩, trivial⟩, ⟨z22 rfl rfl, z22 rfl rfl, z12 rfl (z0 fun _ => rfl), trivial⟩⟩ ?_
      rintro ⟨k, ps⟩ ⟨hk1, hk2⟩
      dsimp only at hk1 hk2 ⊢
      have hm1 := mul_bound (a := (i : Int)) (b := (a.acc.length : Int)) (A := 60) (B := 64) (by omega) (by omega) (by omega) (by omega)
      have hm2 := mul_bound (a := g.nx[i][j]) (b := (a.acc.length : Int)) (A := 60) (B := 64) (by omega) (by omega) (by omega) (by omega)
      by_cases hke : k < a.ed.length
      · have he := a5 a.ed[k] (List.getElem_mem hke)
        unfold edgeP at he
        have hlt : i * a.acc.length + a.ed[k].src.toNat < (build (a.acc.length * g.st.length) ps).length := by
          rw [z92]
          have h1 : (i + 1) * a.acc.length ≤ g.st.length * a.acc.length := Nat.mul_le_mul_right _ hig
          rw [Nat.add_mul, Nat.one_mul, Nat.mul_comm g.st.length] at h1
          omega
        repeat' (first | ((fail_if_success apply z66 14); (fail_if_success apply z54 14); apply AWP.go ok; rfl; conv => whnf) | (apply z3; kernel_rfl; conv => whnf) | (apply And.intro; (first | omega | (unfold inI; omega)); conv => whnf) | (with_reducible apply z5; omega; intro _; conv => whnf) | (apply z2 <;> intro _ <;> conv => whnf) | (apply z4 (l7On_ok a.ed[k] ls[i] hli.1 hli.2 (a5 _ (List.getElem_mem _)).2.2.1); rfl; rfl; conv => whnf))
        · have hon : ((ls[i].toNat &&& a.ed[k].care.toNat : Nat) : Int) = a.ed[k].val := by assumption
          have hrl : (build (a.acc.length * g.st.length) ps)[i * a.acc.length + a.ed[k].src.toNat].length ≤ 1000000000 := by
            have h1 := build_row_le (N := a.acc.length * g.st.length) (ps := ps) hlt
            have h2 := congrArg List.length hk2
            rw [List.length_append] at h2
            omega
          have hin : ((i : Int) * a.acc.length + a.ed[k].src).toNat = i * a.acc.length + a.ed[k].src.toNat := by
            have e : ((i * a.acc.length : Nat) : Int) = (i : Int) * a.acc.length := by simp
            omega
          have hlt2 : ((i : Int) * a.acc.length + a.ed[k].src).toNat < a.acc.length * g.st.length := by
            rw [hin, ← z92 (a.acc.length * g.st.length) ps]; exact hlt
          have hmap : i * a.acc.length + a.ed[k].src.toNat < ((build (a.acc.length * g.st.length) ps).map ownRow).length := by rw [List.length_map]; exact hlt
          refine AWP.reach (Gl.Reach.expose (e := ownRow (build (a.acc.length * g.st.length) ps)[i * a.acc.length + a.ed[k].src.toNat]) 2 (i * a.acc.length + a.ed[k].src.toNat) 0 rfl (by rw [List.getElem?_map, List.getElem?_eq_getElem hlt]; rfl) rfl (leaf_map (fun _ => rfl) _) rfl) ?_
          conv => whnf
          (apply AWP.go ok; rfl; conv => whnf)
          repeat' (first | (apply z3; kernel_rfl; conv => whnf) | (apply get_set; exact hin; exact hmap; conv => whnf) | (apply And.intro; (first | omega | (unfold inI; omega) | ((try dsimp only); simp only [List.length_map, List.length_take, List.length_append, List.length_replicate, List.length_cons, List.length_nil]; omega) | exact ⟨rfl, z11 rfl z16⟩); conv => whnf) | (with_reducible apply z5; omega; intro _; conv => whnf))
          refine AWP.reach (Gl.Reach.absorb 2 5 (i * a.acc.length + a.ed[k].src.toNat) 0 rfl (getset hin (by rw [List.length_set]; exact hmap)) rfl rfl (by simp) rfl (z8 (fun e he => (z0 (fun _ => rfl)) e (List.mem_of_mem_take he)) (flat_cons rfl z14)) rfl) ?_
          conv => whnf
          repeat' (first | (apply AWP.go ok; rfl; conv => whnf) | (apply And.intro; ((unfold inI; omega)); conv => whnf))
          rw [drop_flat _ _ _ hke] at hk2
          have hpe : pushE a.acc.length i ls[i] g.nx[i][j] a.ed[k] = [(i * a.acc.length + a.ed[k].src.toNat, g.nx[i][j] * a.acc.length + a.ed[k].dst)] := by
            unfold pushE onB; rw [if_pos (decide_eq_true hon)]
          rw [hpe, List.append_assoc, ← List.append_assoc] at hk2
          exact z80 (k + 1, ps ++ [(i * a.acc.length + a.ed[k].src.toNat, g.nx[i][j] * a.acc.length + a.ed[k].dst)]) [0, 1, 2] ⟨by dsimp only; omega, hk2⟩ (by dsimp only; omega)
            ⟨rfl, by decide, rfl, ⟨⟨rfl, rfl⟩, ⟨rfl, rfl⟩, ⟨rfl, rfl⟩, ⟨rfl, rfl⟩, ⟨rfl, rfl⟩, ⟨rfl, rfl⟩, ⟨rfl, rfl⟩, ⟨rfl, rfl⟩, trivial⟩, ⟨z22 rfl rfl, z22 rfl rfl, z12 (z32 (rows_push' hlt hin (by simp))) (z0 fun _ => rfl), trivial⟩⟩
        · rename_i hon
          rw [drop_flat _ _ _ hke] at hk2
          have hpe : pushE a.acc.length i ls[i] g.nx[i][j] a.ed[k] = [] := by
            unfold pushE onB; rw [if_neg (by simpa using hon)]
          rw [hpe, List.nil_append] at hk2
          exact z80 (k + 1, ps) [0, 1, 2] ⟨by dsimp only; omega, hk2⟩ (by dsimp only; omega)
            ⟨rfl, by decide, rfl, ⟨⟨rfl, rfl⟩, ⟨rfl, rfl⟩, ⟨rfl, rfl⟩, ⟨rfl, rfl⟩, ⟨rfl, rfl⟩, ⟨rfl, rfl⟩, ⟨rfl, rfl⟩, ⟨rfl, rfl⟩, trivial⟩, ⟨z22 rfl rfl, z22 rfl rfl, z12 rfl (z0 fun _ => rfl), trivial⟩⟩
        · omega
      · repeat' (first | ((fail_if_success apply z66 14); (fail_if_success apply z54 14); apply AWP.go ok; rfl; conv => whnf) | (apply And.intro; (first | omega | (unfold inI; omega)); conv => whnf) | (with_reducible apply z5; omega; intro _; conv => whnf) | (apply z2 <;> intro _ <;> conv => whnf))
        · omega
        · rw [z96 _ _ _ (by omega), List.nil_append] at hk2
          exact z80 (j + 1, ps) [0, 1, 2] ⟨by dsimp only; omega, hk2⟩ (by dsimp only; omega)
            ⟨rfl, by decide, rfl, ⟨⟨rfl, rfl⟩, ⟨rfl, rfl⟩, ⟨rfl, rfl⟩, ⟨rfl, rfl⟩, ⟨rfl, rfl⟩, ⟨rfl, rfl⟩, ⟨rfl, rfl⟩, trivial⟩, ⟨z22 rfl rfl, z22 rfl rfl, z12 rfl (z0 fun _ => rfl), trivial⟩⟩
    · rw [z96 _ _ _ (by omega), List.nil_append] at hj2
      exact z80 (i + 1, ps) [0, 1, 2] ⟨by dsimp only; omega, hj2⟩ (by dsimp only; omega)
        ⟨rfl, by decide, rfl, ⟨⟨rfl, rfl⟩, ⟨rfl, rfl⟩, ⟨rfl, rfl⟩, ⟨rfl, rfl⟩, ⟨rfl, rfl⟩, ⟨rfl, rfl⟩, trivial⟩, ⟨z22 rfl rfl, z22 rfl rfl, z12 rfl (z0 fun _ => rfl), trivial⟩⟩
  · rw [z96 _ _ _ (by simp; omega), List.append_nil] at hi2
    subst hi2
    exact ret_new rfl (z0 fun _ => rfl) rfl rfl

theorem keepRows {f : FuncId} {args : List AC} {n : Nat} {l : List (List Int)} (h : CallsA Tryz.prog f args [] (.sref 0 0 n) [.cells 1 (l.map ownRow)]) (hl : l.length = n) : CallsA Tryz.prog f args [] (lst 1 encL l) [] := by
  refine h.lend [] [0] rfl rfl rfl ?_ z10
  rw [bor_full (w := 1) (es := l.map ownRow) rfl rfl rfl (by rw [List.length_map]; exact hl), rows_unown, ← hl]; rfl

theorem l8Product_ok (g : Graph) (hg : GB g) (ls : List Int) (hls : ls.length = g.st.length) (hlr : ∀ x ∈ ls, 0 ≤ x ∧ x ≤ 7) (a : Aut) (ha : AutP a) : CallsA Tryz.prog 82 [.agg g.cs, ints ls, .agg a.cs] [] (lst 1 encL (z64 g ls a)) [] :=
  keepRows (l8Product_new g hg ls hls hlr a ha) (z92 _ _)
end Go.Proofs.YtknlmbniicacmaaGreat

namespace Go.Proofs.YtknlmbniicacmaaGreat
open Go.Gl
attribute [local irreducible] z15 AWP z44 z49 z46

/-- the edges of each state -/
def z62 (a : Aut) : List (List Trans) := z93 a.acc.length (a.ed.map fun e => (e.src.toNat, e))
def encT (r : List Trans) : List AC := [.list 4 r.length (r.map Trans.cs)]
theorem ltr_lt (v : List Int) : ∀ (l : List Tree) (k n : Nat), n < 2 ^ k → ltr v l k n < 2 ^ (k + l.length) := by
  intro l
  induction l with
  | nil => intro k n h; simpa [ltr] using h
  | cons t l ih =>
    intro k n h
    rw [ltr]
    have e : k + (t :: l).length = k + 1 + l.length := by simp only [List.length_cons]; omega
    rw [e]
    refine ih (k + 1) _ ?_
    split
    · rw [Nat.pow_succ]; omega
    · exact or_lt h
theorem letter_range {l : List Tree} (hl : LabelsOk l) (s : State) : 0 ≤ z63 l s ∧ z63 l s ≤ 7 := by
  have := ltr_lt s.b l 0 0 (by decide)
  rw [hl.1] at this
  unfold z63
  have e : (2 : Nat) ^ (0 + 3) = 8 := by decide
  omega

def pE2 (n i q : Nat) (ℓ to : Int) (e : Trans) : List (Nat × Int) := if onB e ℓ then [(i * n + q, to * n + e.dst)] else []
def pTo (n : Nat) (row : List Trans) (i q : Nat) (ℓ to : Int) : List (Nat × Int) := row.flatMap (pE2 n i q ℓ to)
def pQ (n : Nat) (nxi : List Int) (rows : List (List Trans)) (i : Nat) (ℓ : Int) (q : Nat) : List (Nat × Int) := nxi.flatMap (pTo n (rows.getD q []) i q ℓ)
def pI2 (n : Nat) (nx : List (List Int)) (rows : List (List Trans)) (ls : List Int) (i : Nat) : List (Nat × Int) := (List.range n).flatMap (pQ n (nx.getD i []) rows i (ls.getD i 0))
def pS2 (g : Graph) (ls : List Int) (a : Aut) : List (Nat × Int) := (List.range g.st.length).flatMap (pI2 a.acc.length g.nx (z62 a) ls)

theorem edRows_get {a : Aut} {q : Nat} (h : q < a.acc.length) : (z62 a).getD q [] = a.ed.filter (fun e => e.src.toNat == q) := by
  unfold z62
  rw [z30 (by rw [z127]; exact h), buildG_get, List.filter_map, List.map_map]
  exact List.map_id _
theorem range_one {β : Type} {F : Nat → List β} {n q0 : Nat} (hq : q0 < n) (h : ∀ q, q < n → q ≠ q0 → F q = []) : (List.range n).flatMap F = F q0 := by
  have : ∀ m, (List.range m).flatMap F = if q0 < m ∧ m ≤ n then F q0 else if m ≤ n then [] else (List.range m).flatMap F := by
    intro m
    induction m with
    | zero => simp
    | succ m ih =>
      by_cases hm : m + 1 ≤ n
      · rw [List.range_succ, List.flatMap_append, ih, List.flatMap_cons, List.flatMap_nil, List.append_nil]
        by_cases h1 : q0 < m
        · rw [if_pos ⟨h1, by omega⟩, if_pos ⟨by omega, hm⟩, h m (by omega) (by omega), List.append_nil]
        · rw [if_neg (by omega), if_pos (by omega)]
          by_cases h2 : q0 = m
          · subst h2; rw [if_pos ⟨by omega, hm⟩]; rfl
          · rw [if_neg (by omega), if_pos hm, h m (by omega) (by omega)]; rfl
      · rw [if_neg (by omega), if_neg hm]
  rw [this n, if_pos ⟨hq, Nat.le_refl _⟩]
theorem range_none {β : Type} {F : Nat → List β} {n : Nat} (h : ∀ q, q < n → F q = []) : (List.range n).flatMap F = [] := by
  rw [List.flatMap_eq_nil_iff]
  intro q hq
  exact h q (List.mem_range.1 hq)

/-- the program's pushes fill the same rows -/
theorem pS2_rows (g : Graph) (ls : List Int) (a : Aut) (ha : AutP a) (r : Nat) : (pS2 g ls a).filter (fun p => p.1 == r) = (pushS g ls a).filter (fun p => p.1 == r) := by
  unfold pS2 pushS
  rw [List.filter_flatMap, List.filter_flatMap]
  refine flat_congr fun i hi => ?_
  unfold pI2 pushI
  rw [List.filter_flatMap, List.filter_flatMap]
  have hsrc : ∀ e ∈ a.ed, e.src.toNat < a.acc.length := fun e he => by
    have := (ha.2.2.2 e he).1; omega
  by_cases hr : i * a.acc.length ≤ r ∧ r < i * a.acc.length + a.acc.length
  · obtain ⟨q0, rfl⟩ : ∃ q0, r = i * a.acc.length + q0 := ⟨r - i * a.acc.length, by omega⟩
    have hq0 : q0 < a.acc.length := by omega
    rw [range_one hq0 (fun q hq hne => by
      unfold pQ
      rw [List.filter_flatMap]
      refine List.flatMap_eq_nil_iff.2 fun to _ => ?_
      unfold pTo
      rw [List.filter_flatMap]
      refine List.flatMap_eq_nil_iff.2 fun e _ => ?_
      unfold pE2
      split
      · simp; omega
      · rfl)]
    unfold pQ
    rw [List.filter_flatMap, edRows_get hq0]
    refine flat_congr fun to _ => ?_
    unfold pTo pushJ
    rw [List.filter_flatMap, List.filter_flatMap]
    induction a.ed with
    | nil => rfl
    | cons e es ih =>
      rw [List.flatMap_cons, ← ih, List.filter_cons]
      by_cases he : e.src.toNat = q0
      · rw [if_pos (by simpa using he), List.flatMap_cons]
        unfold pE2 pushE
        rw [he]
      · rw [if_neg (by simpa using he)]
        have : (pushE a.acc.length i (ls.getD i 0) to e).filter (fun p => p.1 == i * a.acc.length + q0) = [] := by
          unfold pushE
          split
          · simp; omega
          · rfl
        rw [this, List.nil_append]
  · rw [range_none (fun q hq => by
      unfold pQ
      rw [List.filter_flatMap]
      refine List.flatMap_eq_nil_iff.2 fun to _ => ?_
      unfold pTo
      rw [List.filter_flatMap]
      refine List.flatMap_eq_nil_iff.2 fun e _ => ?_
      unfold pE2
      split
      · simp; omega
      · rfl)]
    symm
    refine List.flatMap_eq_nil_iff.2 fun to _ => ?_
    unfold pushJ
    rw [List.filter_flatMap]
    refine List.flatMap_eq_nil_iff.2 fun e he => ?_
    have := hsrc e he
    unfold pushE
    split
    · simp; omega
    · rfl
theorem pS2_len (g : Graph) (hg : GB g) (ls : List Int) (a : Aut) (ha : AutP a) : (pS2 g ls a).length ≤ 1000000000 := by
  obtain ⟨⟨g1, g2⟩, g3, g4⟩ := hg
  have h2 : ∀ i ∈ List.range g.st.length, (pI2 a.acc.length g.nx (z62 a) ls i).length ≤ 7864320 := fun i hi => by
    rw [List.mem_range] at hi
    unfold pI2
    rw [z30 (l := g.nx) (by omega)]
    have h3 := flat_len (f := pQ a.acc.length g.nx[i] (z62 a) i (ls.getD i 0)) (c := 122880) (List.range a.acc.length) (fun q hq => by
      have h1 : ∀ to, (pTo a.acc.length ((z62 a).getD q []) i q (ls.getD i 0) to).length ≤ 2048 := fun to => by
        have h5 := flat_len (f := pE2 a.acc.length i q (ls.getD i 0) to) (c := 1) ((z62 a).getD q []) (fun e _ => by unfold pE2; split <;> simp)
        rw [edRows_get (List.mem_range.1 hq)] at h5 ⊢
        have := List.length_filter_le (fun e : Trans => e.src.toNat == q) a.ed
        have := ha.2.1
        unfold pTo; omega
      have h3 := flat_len (f := pTo a.acc.length ((z62 a).getD q []) i q (ls.getD i 0)) (c := 2048) g.nx[i] (fun to _ => h1 to)
      have h4 := (g4 i (by omega) (by omega) hi).2.1
      have : g.nx[i].length * 2048 ≤ 60 * 2048 := Nat.mul_le_mul_right _ (by omega)
      unfold pQ; omega)
    rw [List.length_range] at h3
    have : a.acc.length * 122880 ≤ 64 * 122880 := Nat.mul_le_mul_right _ ha.1.2
    omega
  have h5 := flat_len (f := pI2 a.acc.length g.nx (z62 a) ls) (c := 7864320) (List.range g.st.length) h2
  rw [List.length_range] at h5
  have : g.st.length * 7864320 ≤ 60 * 7864320 := Nat.mul_le_mul_right _ (by omega)
  unfold pS2; omega
theorem build_pS2 (g : Graph) (ls : List Int) (a : Aut) (ha : AutP a) : build (g.st.length * a.acc.length) (pS2 g ls a) = z64 g ls a := by
  unfold z64 build
  rw [Nat.mul_comm]
  refine List.map_congr_left fun r _ => ?_
  rw [pS2_rows g ls a ha r]

set_option maxHeartbeats 800000 in
theorem product_new (g : Graph) (hg : GB g) (l : List Tree) (hl : LabelsOk l) (a : Aut) (ha : AutP a) : CallsA Tryz.prog 79 [.agg g.cs, lst 3 Tree.cs' l, .agg a.cs] [] (.tup [.sref 0 0 (g.st.length * a.acc.length), ints a.ini]) [.cells 1 ((z64 g (g.st.map (z63 l)) a).map ownRow)] := by
  have hvals := hg.vals
  have hpl := pushS_len g hg (g.st.map (z63 l)) a ha
  have hini := ha.2.2.1.le (by omega)
  obtain ⟨⟨g1, g2⟩, g3, g4⟩ := hg
  obtain ⟨⟨a1, a2⟩, a3, a4, a5⟩ := ha
  have hN := mul_bound (a := (g.st.length : Int)) (b := (a.acc.length : Int)) (A := 60) (B := 64) (by omega) (by omega) (by omega) (by omega)
  refine z7 z28 Tryz.func79 rfl rfl 117 Tryz.ntmps79 (by simp) ?_
  repeat' (first | (apply AWP.go ok; rfl; conv => whnf) | (apply And.intro; ((dsimp only; omega)); conv => whnf))
  refine AWP.reach (Gl.Reach.weaken (es' := List.replicate a.acc.length [.own 4 []]) 2 rfl (by rw [List.length_replicate, List.length_replicate]; rfl) rows_weaken rfl) ?_
  conv => whnf
  refine z86 (fun k : Nat => ([(1, lst 3 Tree.cs' l), (3, .ptr 0 none 0), (5, .ptr 1 none 0), (8, .int a.acc.length), (9, .sref 2 0 a.acc.length), (26, lst 4 Trans.cs a.ed), (27, .int a.ed.length), (28, .int k)], [.cells 2 [[lst 2 State.cs g.st, lst 1 encL g.nx]], .cells 3 [[lst 1 enI a.ini, lst 1 enB a.acc, lst 4 Trans.cs a.ed]], .cells 1 ((z93 a.acc.length ((a.ed.take k).map fun e => (e.src.toNat, e))).map (ownG 4 Trans.cs))])) (fun k => k ≤ a.ed.length) (fun k => a.ed.length - k) 0 (by omega)
    ⟨[0, 1, 2], rfl, by decide, rfl, ⟨⟨rfl, rfl⟩, ⟨rfl, rfl⟩, ⟨rfl, rfl⟩, ⟨rfl, rfl⟩, ⟨rfl, rfl⟩, ⟨rfl, rfl⟩, ⟨rfl, rfl⟩, ⟨rfl, rfl⟩, trivial⟩, ⟨z22 rfl rfl, z22 rfl rfl, z12 (z32 (rowsG_nil _ _ _).symm) (z0 fun _ => rfl), trivial⟩⟩ ?_
  intro k hk
  have hN2 : ((g.st.length * a.acc.length : Nat) : Int) = (g.st.length : Int) * a.acc.length := by simp
  repeat' (first | ((fail_if_success apply z66 6); (fail_if_success apply z54 6); (fail_if_success apply z66 8); (fail_if_success apply z54 8); apply AWP.go ok; rfl; conv => whnf) | (apply And.intro; (omega); conv => whnf) | (with_reducible apply z5; omega; intro _; conv => whnf) | (apply z2 <;> intro _ <;> conv => whnf))
  · have hkl : k < a.ed.length := by assumption
    have he := a5 a.ed[k] (List.getElem_mem hkl)
    unfold edgeP at he
    have hlt : a.ed[k].src.toNat < (z93 a.acc.length ((a.ed.take k).map fun e => (e.src.toNat, e))).length := by rw [z127]; omega
    have hmap : a.ed[k].src.toNat < ((z93 a.acc.length ((a.ed.take k).map fun e => (e.src.toNat, e))).map (ownG 4 Trans.cs)).length := by rw [List.length_map]; exact hlt
    have hrl := buildG_row_le hlt
    rw [List.length_map, List.length_take] at hrl
    refine AWP.reach (Gl.Reach.expose (e := ownG 4 Trans.cs (z93 a.acc.length ((a.ed.take k).map fun e => (e.src.toNat, e)))[a.ed[k].src.toNat]) 2 a.ed[k].src.toNat 0 rfl (by rw [List.getElem?_map, List.getElem?_eq_getElem hlt]; rfl) rfl (leaf_map (fun _ => rfl) _) rfl) ?_
    conv => whnf
    (apply AWP.go ok; rfl; conv => whnf)
    repeat' (first | (apply z3; kernel_rfl; conv => whnf) | (apply get_set; exact Nat.add_zero _; exact hmap; conv => whnf) | (apply And.intro; (first | omega | ((try dsimp only); simp only [List.length_map, List.length_take, List.length_append, List.length_replicate, List.length_cons, List.length_nil]; omega) | exact ⟨rfl, z11 rfl z16⟩); conv => whnf))
    refine AWP.reach (Gl.Reach.absorb 2 6 a.ed[k].src.toNat 0 rfl (getset (Nat.add_zero _) (by rw [List.length_set]; exact hmap)) rfl rfl (by simp) rfl (z8 (fun e he => (z0 (fun _ => rfl)) e (List.mem_of_mem_take he)) (flat_cons rfl z14)) rfl) ?_
    conv => whnf
    repeat' (first | ((fail_if_success apply z66 6); (fail_if_success apply z54 6); (fail_if_success apply z66 8); (fail_if_success apply z54 8); apply AWP.go ok; rfl; conv => whnf) | (apply And.intro; ((unfold inI; omega)); conv => whnf))
    refine z80 (k + 1) [0, 1, 2] (by omega) (by omega)
      ⟨rfl, by decide, rfl, ⟨⟨rfl, rfl⟩, ⟨rfl, rfl⟩, ⟨rfl, rfl⟩, ⟨rfl, rfl⟩, ⟨rfl, rfl⟩, ⟨rfl, rfl⟩, ⟨rfl, rfl⟩, ⟨rfl, rfl⟩, trivial⟩, ⟨z22 rfl rfl, z22 rfl rfl, z12 (z32 ?_) (z0 fun _ => rfl), trivial⟩⟩
    have e1 : ((a.ed.take (k + 1)).map fun e => (e.src.toNat, e)) = ((a.ed.take k).map fun e => (e.src.toNat, e)) ++ [(a.ed[k].src.toNat, a.ed[k])] := by
      rw [List.take_succ_eq_append_getElem hkl, List.map_append]; rfl
    rw [e1]
    exact rowsG_push hlt (Nat.add_zero _) (by simp) rfl
  obtain rfl : k = a.ed.length := by omega
  refine AWP.reach (SealL.reach (π := [0, 1]) (Bn := [2]) (env := [(1, lst 3 Tree.cs' l), (3, .ptr 0 none 0), (5, .ptr 1 none 0), (8, .int a.acc.length), (9, lst 1 encT (z62 a))]) (objs := [.cells 2 [[lst 2 State.cs g.st, lst 1 encL g.nx]], .cells 3 [[lst 1 enI a.ini, lst 1 enB a.acc, lst 4 Trans.cs a.ed]]]) ⟨rfl, rfl, by simp, rfl, by intro o ho; simp at ho; rcases ho with rfl | rfl <;> rfl, ⟨rfl, rfl, rfl, rfl, ?_, trivial⟩, rfl⟩) ?_
  · show bor _ _ _ (.sref 2 0 a.acc.length) = _
    rw [bor_full (w := 1) (es := (z93 a.acc.length ((a.ed.take a.ed.length).map fun e => (e.src.toNat, e))).map (ownG 4 Trans.cs)) rfl rfl rfl (by rw [List.length_map, z127]), rowsG_unown (fun t => Trans.unown t), List.take_length]
    unfold lst z62
    rw [z127]; rfl
  conv => whnf
  repeat' (first | (apply AWP.go ok; rfl; conv => whnf) | (apply And.intro; (first | (unfold inI; omega) | (dsimp only; omega)); conv => whnf) | (apply z4 (label_ok g hvals g2 l hl); rfl; rfl; conv => whnf))
  refine AWP.reach (Gl.Reach.weaken (es' := List.replicate (g.st.length * a.acc.length) [.own 1 []]) 2 rfl (by rw [List.length_replicate, List.length_replicate]; rfl) rows_weaken rfl) ?_
  conv => whnf
  have hls : (g.st.map (z63 l)).length = g.st.length := by simp
  have hlr : ∀ x ∈ g.st.map (z63 l), 0 ≤ x ∧ x ≤ 7 := fun x hx => by
    obtain ⟨s, _, rfl⟩ := List.mem_map.1 hx
    exact letter_range hl s
  rw [← build_pS2 g _ a ⟨⟨a1, a2⟩, a3, a4, a5⟩]
  have hpl2 := pS2_len g ⟨⟨g1, g2⟩, g3, g4⟩ (g.st.map (z63 l)) a ⟨⟨a1, a2⟩, a3, a4, a5⟩
  generalize hlsd : g.st.map (z63 l) = ls at hls hlr hpl hpl2
  have hrow : ∀ i (hi : i < g.nx.length), ∀ x ∈ g.nx[i], 0 ≤ x ∧ x ≤ g.st.length - 1 := fun i hi x hx => by
    obtain ⟨j, hj, rfl⟩ := List.mem_iff_getElem.1 hx
    exact ((g4 i hi hi (by omega)).2.2.2 j hj hj).1
  have hlen : ∀ i (hi : i < g.nx.length), g.nx[i].length ≤ 60 := fun i hi => by
    have := (g4 i hi hi (by omega)).2.1; omega
  have hel : (z62 a).length = a.acc.length := z127 _ _
  have hed : ∀ q (hq : q < (z62 a).length), ∀ e ∈ (z62 a)[q], e ∈ a.ed := fun q hq e he => by
    rw [← z30 (d := []) hq, edRows_get (by omega)] at he; exact (List.mem_filter.1 he).1
  have hedl : ∀ q (hq : q < (z62 a).length), (z62 a)[q].length ≤ 2048 := fun q hq => by
    rw [← z30 (d := []) hq, edRows_get (by omega)]; exact Nat.le_trans (List.length_filter_le _ _) a3
  refine z86 (fun x : Nat × List (Nat × Int) => ([(3, .ptr 0 none 0), (5, .ptr 1 none 0), (8, .int a.acc.length), (9, lst 1 encT (z62 a)), (12, .sref 2 0 (g.st.length * a.acc.length)), (53, ints ls), (54, .int ls.length), (55, .int x.1)], [.cells 2 [[lst 2 State.cs g.st, lst 1 encL g.nx]], .cells 3 [[lst 1 enI a.ini, lst 1 enB a.acc, lst 4 Trans.cs a.ed]], .cells 1 ((build (g.st.length * a.acc.length) x.2).map ownRow)])) (fun x => x.1 ≤ ls.length ∧ x.2 ++ ((List.range g.st.length).drop x.1).flatMap (pI2 a.acc.length g.nx (z62 a) ls) = pS2 g ls a) (fun x => ls.length - x.1) (0, []) ⟨by omega, rfl⟩
    ⟨[0, 1, 2], rfl, by decide, rfl, ⟨⟨rfl, by rfl⟩, ⟨rfl, by rfl⟩, ⟨rfl, by rfl⟩, ⟨rfl, by rfl⟩, ⟨rfl, by rfl⟩, ⟨rfl, by rfl⟩, ⟨rfl, by rfl⟩, ⟨rfl, by rfl⟩, trivial⟩, ⟨z22 rfl rfl, z22 rfl rfl, z12 (z32 (rows_nil _).symm) (z0 fun _ => rfl), trivial⟩⟩ ?_
  rintro ⟨i, ps⟩ ⟨hi1, hi2⟩
  dsimp only at hi1 hi2 ⊢
  repeat' (first | (apply AWP.go ok; rfl; conv => whnf) | (apply And.intro; (omega); conv => whnf) | (with_reducible apply z5; omega; intro _; conv => whnf) | (apply z2 <;> intro _ <;> conv => whnf))
  · have hig : i < g.st.length := by omega
    rw [drop_flat _ _ _ (by simpa using hig), List.getElem_range] at hi2
    have hin : i < g.nx.length := by omega
    have hrow := hrow i hin
    have hlen := hlen i hin
    have hil : i < ls.length := by omega
    have hli := hlr ls[i] (List.getElem_mem _)
    have hpI : pI2 a.acc.length g.nx (z62 a) ls i = (List.range a.acc.length).flatMap (pQ a.acc.length g.nx[i] (z62 a) i ls[i]) := by
      unfold pI2
      rw [z30 (l := g.nx) hin, z30 (l := ls) hil]
    rw [hpI] at hi2
    have hm1 := mul_bound (a := (i : Int)) (b := (a.acc.length : Int)) (A := 60) (B := 64) (by omega) (by omega) (by omega) (by omega)
    refine z86 (fun x : Nat × List (Nat × Int) => ([(3, .ptr 0 none 0), (5, .ptr 1 none 0), (8, .int a.acc.length), (9, lst 1 encT (z62 a)), (12, .sref 2 0 (g.st.length * a.acc.length)), (53, ints ls), (54, .int ls.length), (55, .int i), (13, .int i), (14, .int ls[i]), (60, .int a.acc.length), (61, .int x.1)], [.cells 2 [[lst 2 State.cs g.st, lst 1 encL g.nx]], .cells 3 [[lst 1 enI a.ini, lst 1 enB a.acc, lst 4 Trans.cs a.ed]], .cells 1 ((build (g.st.length * a.acc.length) x.2).map ownRow)])) (fun x => x.1 ≤ a.acc.length ∧ x.2 ++ (((List.range a.acc.length).drop x.1).flatMap (pQ a.acc.length g.nx[i] (z62 a) i ls[i]) ++ ((List.range g.st.length).drop (i + 1)).flatMap (pI2 a.acc.length g.nx (z62 a) ls)) = pS2 g ls a) (fun x => a.acc.length - x.1) (0, ps) ⟨by omega, hi2⟩
      ⟨[0, 1, 2], rfl, by decide, rfl, ⟨⟨rfl, rfl⟩, ⟨rfl, rfl⟩, ⟨rfl, rfl⟩, ⟨rfl, rfl⟩, ⟨rfl, rfl⟩, ⟨rfl, rfl⟩, ⟨rfl, rfl⟩, ⟨rfl, rfl⟩, ⟨rfl, rfl⟩, ⟨rfl, rfl⟩, ⟨rfl, rfl⟩, ⟨rfl, rfl⟩, trivial⟩, ⟨z22 rfl rfl, z22 rfl rfl, z12 rfl (z0 fun _ => rfl), trivial⟩⟩ ?_
    rintro ⟨q, ps⟩ ⟨hq1, hq2⟩
    dsimp only at hq1 hq2 ⊢
    repeat' (first | (apply AWP.go ok; rfl; conv => whnf) | (apply And.intro; (first | omega | (unfold inI; omega)); conv => whnf) | (with_reducible apply z5; omega; intro _; conv => whnf) | (apply z2 <;> intro _ <;> conv => whnf))
    · have hqn : q < a.acc.length := by omega
      rw [drop_flat _ _ _ (by simpa using hqn), List.getElem_range, List.append_assoc] at hq2
      have hqe : q < (z62 a).length := by omega
      have hpQ : pQ a.acc.length g.nx[i] (z62 a) i ls[i] q = g.nx[i].flatMap (pTo a.acc.length (z62 a)[q] i q ls[i]) := by
        unfold pQ; rw [z30 hqe]
      rw [hpQ] at hq2
      have hedl := hedl q hqe
      have hlt : i * a.acc.length + q < g.st.length * a.acc.length := by
        have h1 : (i + 1) * a.acc.length ≤ g.st.length * a.acc.length := Nat.mul_le_mul_right _ hig
        rw [Nat.add_mul, Nat.one_mul] at h1
        omega
      refine z86 (fun x : Nat × List (Nat × Int) => ([(3, .ptr 0 none 0), (5, .ptr 1 none 0), (8, .int a.acc.length), (9, lst 1 encT (z62 a)), (12, .sref 2 0 (g.st.length * a.acc.length)), (53, ints ls), (54, .int ls.length), (55, .int i), (13, .int i), (14, .int ls[i]), (60, .int a.acc.length), (61, .int q), (15, .int q), (68, ints g.nx[i]), (69, .int g.nx[i].length), (70, .int x.1)], [.cells 2 [[lst 2 State.cs g.st, lst 1 encL g.nx]], .cells 3 [[lst 1 enI a.ini, lst 1 enB a.acc, lst 4 Trans.cs a.ed]], .cells 1 ((build (g.st.length * a.acc.length) x.2).map ownRow)])) (fun x => x.1 ≤ g.nx[i].length ∧ x.2 ++ ((g.nx[i].drop x.1).flatMap (pTo a.acc.length (z62 a)[q] i q ls[i]) ++ (((List.range a.acc.length).drop (q + 1)).flatMap (pQ a.acc.length g.nx[i] (z62 a) i ls[i]) ++ ((List.range g.st.length).drop (i + 1)).flatMap (pI2 a.acc.length g.nx (z62 a) ls))) = pS2 g ls a) (fun x => g.nx[i].length - x.1) (0, ps) ⟨by omega, hq2⟩
        ⟨[0, 1, 2], rfl, by decide, rfl, ⟨⟨rfl, rfl⟩, ⟨rfl, rfl⟩, ⟨rfl, rfl⟩, ⟨rfl, rfl⟩, ⟨rfl, rfl⟩, ⟨rfl, rfl⟩, ⟨rfl, rfl⟩, ⟨rfl, rfl⟩, ⟨rfl, rfl⟩, ⟨rfl, rfl⟩, ⟨rfl, rfl⟩, ⟨rfl, rfl⟩, ⟨rfl, rfl⟩, ⟨rfl, rfl⟩, ⟨rfl, rfl⟩, ⟨rfl, rfl⟩, trivial⟩, ⟨z22 rfl rfl, z22 rfl rfl, z12 rfl (z0 fun _ => rfl), trivial⟩⟩ ?_
      rintro ⟨j, ps⟩ ⟨hj1, hj2⟩
      dsimp only at hj1 hj2 ⊢
      repeat' (first | (apply AWP.go ok; rfl; conv => whnf) | (apply And.intro; (first | omega | (unfold inI; omega)); conv => whnf) | (with_reducible apply z5; omega; intro _; conv => whnf) | (apply z2 <;> intro _ <;> conv => whnf))
      · have hjn : j < g.nx[i].length := by omega
        rw [drop_flat _ _ _ hjn, List.append_assoc] at hj2
        have hto := hrow g.nx[i][j] (List.getElem_mem _)
        have hm2 := mul_bound (a := g.nx[i][j]) (b := (a.acc.length : Int)) (A := 60) (B := 64) (by omega) (by omega) (by omega) (by omega)
        refine z86 (fun x : Nat × List (Nat × Int) => ([(3, .ptr 0 none 0), (5, .ptr 1 none 0), (8, .int a.acc.length), (9, lst 1 encT (z62 a)), (12, .sref 2 0 (g.st.length * a.acc.length)), (53, ints ls), (54, .int ls.length), (55, .int i), (13, .int i), (14, .int ls[i]), (60, .int a.acc.length), (61, .int q), (15, .int q), (68, ints g.nx[i]), (69, .int g.nx[i].length), (70, .int j), (17, .int g.nx[i][j]), (77, lst 4 Trans.cs (z62 a)[q]), (78, .int (z62 a)[q].length), (79, .int x.1)], [.cells 2 [[lst 2 State.cs g.st, lst 1 encL g.nx]], .cells 3 [[lst 1 enI a.ini, lst 1 enB a.acc, lst 4 Trans.cs a.ed]], .cells 1 ((build (g.st.length * a.acc.length) x.2).map ownRow)])) (fun x => x.1 ≤ (z62 a)[q].length ∧ x.2 ++ (((z62 a)[q].drop x.1).flatMap (pE2 a.acc.length i q ls[i] g.nx[i][j]) ++ ((g.nx[i].drop (j + 1)).flatMap (pTo a.acc.length (z62 a)[q] i q ls[i]) ++ (((List.range a.acc.length).drop (q + 1)).flatMap (pQ a.acc.length g.nx[i] (z62 a) i ls[i]) ++ ((List.range g.st.length).drop (i + 1)).flatMap (pI2 a.acc.length g.nx (z62 a) ls)))) = pS2 g ls a) (fun x => (z62 a)[q].length - x.1) (0, ps) ⟨by omega, hj2⟩
          ⟨[0, 1, 2], rfl, by decide, rfl, ⟨⟨rfl, rfl⟩, ⟨rfl, rfl⟩, ⟨rfl, rfl⟩, ⟨rfl, rfl⟩, ⟨rfl, rfl⟩, ⟨rfl, rfl⟩, ⟨rfl, rfl⟩, ⟨rfl, rfl⟩, ⟨rfl, rfl⟩, ⟨rfl, rfl⟩, ⟨rfl, rfl⟩, ⟨rfl, rfl⟩, ⟨rfl, rfl⟩, ⟨rfl, rfl⟩, ⟨rfl, rfl⟩, ⟨rfl, rfl⟩, ⟨rfl, rfl⟩, ⟨rfl, rfl⟩, ⟨rfl, rfl⟩, ⟨rfl, rfl⟩, trivial⟩, ⟨z22 rfl rfl, z22 rfl rfl, z12 rfl (z0 fun _ => rfl), trivial⟩⟩ ?_
        rintro ⟨k, ps⟩ ⟨hk1, hk2⟩
        dsimp only at hk1 hk2 ⊢
        by_cases hke : k < (z62 a)[q].length
        · have he := a5 (z62 a)[q][k] (hed q hqe _ (List.getElem_mem hke))
          unfold edgeP at he
          have hlt' : i * a.acc.length + q < (build (g.st.length * a.acc.length) ps).length := by rw [z92]; exact hlt
          have hmap : i * a.acc.length + q < ((build (g.st.length * a.acc.length) ps).map ownRow).length := by rw [List.length_map]; exact hlt'
          have hrl : (build (g.st.length * a.acc.length) ps)[i * a.acc.length + q].length ≤ 1000000000 := by
            have h1 := build_row_le (N := g.st.length * a.acc.length) (ps := ps) hlt'
            have h2 := congrArg List.length hk2
            rw [List.length_append] at h2
            omega
          have hix : ((i : Int) * a.acc.length + q).toNat = i * a.acc.length + q := by
            have e : ((i * a.acc.length : Nat) : Int) = (i : Int) * a.acc.length := by simp
            omega
          have hlt2 : ((i : Int) * a.acc.length + q).toNat < g.st.length * a.acc.length := by rw [hix]; exact hlt
          rw [drop_flat _ _ _ hke] at hk2
          repeat' (first | ((fail_if_success apply z66 22); (fail_if_success apply z54 22); apply AWP.go ok; rfl; conv => whnf) | (apply And.intro; (first | omega | (unfold inI; omega)); conv => whnf) | (with_reducible apply z5; omega; intro _; conv => whnf) | (apply z2 <;> intro _ <;> conv => whnf) | (apply z4 (takes_ok (z62 a)[q][k] ls[i] hli.1 hli.2 he.2.2.1); rfl; rfl; conv => whnf))
          · have hon : ((ls[i].toNat &&& (z62 a)[q][k].care.toNat : Nat) : Int) = (z62 a)[q][k].val := by assumption
            refine AWP.reach (Gl.Reach.expose (e := ownRow (build (g.st.length * a.acc.length) ps)[i * a.acc.length + q]) 2 (i * a.acc.length + q) 0 rfl (by rw [List.getElem?_map, List.getElem?_eq_getElem hlt']; rfl) rfl (leaf_map (fun _ => rfl) _) rfl) ?_
            conv => whnf
            (apply AWP.go ok; rfl; conv => whnf)
            repeat' (first | (apply z3; kernel_rfl; conv => whnf) | (apply get_set; exact hix; exact hmap; conv => whnf) | (apply And.intro; (first | omega | (unfold inI; omega) | ((try dsimp only); simp only [List.length_map, List.length_take, List.length_append, List.length_replicate, List.length_cons, List.length_nil]; omega) | exact ⟨rfl, z11 rfl z16⟩); conv => whnf))
            refine AWP.reach (Gl.Reach.absorb 2 6 (i * a.acc.length + q) 0 rfl (getset hix (by rw [List.length_set]; exact hmap)) rfl rfl (by simp) rfl (z8 (fun e he => (z0 (fun _ => rfl)) e (List.mem_of_mem_take he)) (flat_cons rfl z14)) rfl) ?_
            conv => whnf
            repeat' (first | (apply AWP.go ok; rfl; conv => whnf) | (apply And.intro; ((unfold inI; omega)); conv => whnf))
            have hpe : pE2 a.acc.length i q ls[i] g.nx[i][j] (z62 a)[q][k] = [(i * a.acc.length + q, g.nx[i][j] * a.acc.length + (z62 a)[q][k].dst)] := by
              unfold pE2 onB; rw [if_pos (decide_eq_true hon)]
            rw [hpe, List.append_assoc, ← List.append_assoc] at hk2
            exact z80 (k + 1, ps ++ [(i * a.acc.length + q, g.nx[i][j] * a.acc.length + (z62 a)[q][k].dst)]) [0, 1, 2] ⟨by dsimp only; omega, hk2⟩ (by dsimp only; omega) ⟨rfl, by decide, rfl, ⟨⟨rfl, rfl⟩, ⟨rfl, rfl⟩, ⟨rfl, rfl⟩, ⟨rfl, rfl⟩, ⟨rfl, rfl⟩, ⟨rfl, rfl⟩, ⟨rfl, rfl⟩, ⟨rfl, rfl⟩, ⟨rfl, rfl⟩, ⟨rfl, rfl⟩, ⟨rfl, rfl⟩, ⟨rfl, rfl⟩, ⟨rfl, rfl⟩, ⟨rfl, rfl⟩, ⟨rfl, rfl⟩, ⟨rfl, rfl⟩, ⟨rfl, rfl⟩, ⟨rfl, rfl⟩, ⟨rfl, rfl⟩, ⟨rfl, rfl⟩, trivial⟩, ⟨z22 rfl rfl, z22 rfl rfl, z12 (z32 (rows_push' hlt' hix (by simp))) (z0 fun _ => rfl), trivial⟩⟩
          · have hon : ¬ ((ls[i].toNat &&& (z62 a)[q][k].care.toNat : Nat) : Int) = (z62 a)[q][k].val := by assumption
            have hpe : pE2 a.acc.length i q ls[i] g.nx[i][j] (z62 a)[q][k] = [] := by
              unfold pE2 onB; rw [if_neg (by simpa using hon)]
            rw [hpe, List.nil_append] at hk2
            exact z80 (k + 1, ps) [0, 1, 2] ⟨by dsimp only; omega, hk2⟩ (by dsimp only; omega) ⟨rfl, by decide, rfl, ⟨⟨rfl, rfl⟩, ⟨rfl, rfl⟩, ⟨rfl, rfl⟩, ⟨rfl, rfl⟩, ⟨rfl, rfl⟩, ⟨rfl, rfl⟩, ⟨rfl, rfl⟩, ⟨rfl, rfl⟩, ⟨rfl, rfl⟩, ⟨rfl, rfl⟩, ⟨rfl, rfl⟩, ⟨rfl, rfl⟩, ⟨rfl, rfl⟩, ⟨rfl, rfl⟩, ⟨rfl, rfl⟩, ⟨rfl, rfl⟩, ⟨rfl, rfl⟩, ⟨rfl, rfl⟩, ⟨rfl, rfl⟩, ⟨rfl, rfl⟩, trivial⟩, ⟨z22 rfl rfl, z22 rfl rfl, z12 rfl (z0 fun _ => rfl), trivial⟩⟩
          · omega
        · repeat' (first | ((fail_if_success apply z66 22); (fail_if_success apply z54 22); apply AWP.go ok; rfl; conv => whnf) | (apply And.intro; (first | omega | (unfold inI; omega)); conv => whnf) | (with_reducible apply z5; omega; intro _; conv => whnf) | (apply z2 <;> intro _ <;> conv => whnf))
          · omega
          · rw [z96 _ _ _ (by omega), List.nil_append] at hk2
            exact z80 (j + 1, ps) [0, 1, 2] ⟨by dsimp only; omega, hk2⟩ (by dsimp only; omega) ⟨rfl, by decide, rfl, ⟨⟨rfl, rfl⟩, ⟨rfl, rfl⟩, ⟨rfl, rfl⟩, ⟨rfl, rfl⟩, ⟨rfl, rfl⟩, ⟨rfl, rfl⟩, ⟨rfl, rfl⟩, ⟨rfl, rfl⟩, ⟨rfl, rfl⟩, ⟨rfl, rfl⟩, ⟨rfl, rfl⟩, ⟨rfl, rfl⟩, ⟨rfl, rfl⟩, ⟨rfl, rfl⟩, ⟨rfl, rfl⟩, ⟨rfl, rfl⟩, trivial⟩, ⟨z22 rfl rfl, z22 rfl rfl, z12 rfl (z0 fun _ => rfl), trivial⟩⟩
      · rw [z96 _ _ _ (by omega), List.nil_append] at hj2
        exact z80 (q + 1, ps) [0, 1, 2] ⟨by dsimp only; omega, hj2⟩ (by dsimp only; omega) ⟨rfl, by decide, rfl, ⟨⟨rfl, rfl⟩, ⟨rfl, rfl⟩, ⟨rfl, rfl⟩, ⟨rfl, rfl⟩, ⟨rfl, rfl⟩, ⟨rfl, rfl⟩, ⟨rfl, rfl⟩, ⟨rfl, rfl⟩, ⟨rfl, rfl⟩, ⟨rfl, rfl⟩, ⟨rfl, rfl⟩, ⟨rfl, rfl⟩, trivial⟩, ⟨z22 rfl rfl, z22 rfl rfl, z12 rfl (z0 fun _ => rfl), trivial⟩⟩
    · rw [z96 _ _ _ (by simp; omega), List.nil_append] at hq2
      exact z80 (i + 1, ps) [0, 1, 2] ⟨by dsimp only; omega, hq2⟩ (by dsimp only; omega) ⟨rfl, by decide, rfl, ⟨⟨rfl, rfl⟩, ⟨rfl, rfl⟩, ⟨rfl, rfl⟩, ⟨rfl, rfl⟩, ⟨rfl, rfl⟩, ⟨rfl, rfl⟩, ⟨rfl, rfl⟩, ⟨rfl, rfl⟩, trivial⟩, ⟨z22 rfl rfl, z22 rfl rfl, z12 rfl (z0 fun _ => rfl), trivial⟩⟩
  · rw [z96 _ _ _ (by simp; omega), List.append_nil] at hi2
    subst hi2
    repeat' (first | (apply AWP.go ok; rfl; conv => whnf) | (apply z4 (implClone_ok a.ini (by omega)); rfl; rfl; conv => whnf))
    exact z81 [2] (by decide) rfl rfl rfl ⟨z12 rfl (z0 fun _ => rfl), trivial⟩
end Go.Proofs.YtknlmbniicacmaaGreat

namespace Go.Proofs.YtknlmbniicacmaaGreat
open Go.Gl
attribute [local irreducible] z15 AWP z44 z49 z46

theorem product_ok (g : Graph) (hg : GB g) (l : List Tree) (hl : LabelsOk l) (a : Aut) (ha : AutP a) : CallsA Tryz.prog 79 [.agg g.cs, lst 3 Tree.cs' l, .agg a.cs] [] (.tup [lst 1 encL (z64 g (g.st.map (z63 l)) a), ints a.ini]) [] := by
  have h := product_new g hg l hl a ha
  have hlen : (z64 g (g.st.map (z63 l)) a).length = g.st.length * a.acc.length := by unfold z64; rw [z92, Nat.mul_comm]
  refine h.lend [] [0] rfl rfl rfl ?_ z10
  show AC.tup [bor _ _ _ (.sref 0 0 _), bor _ _ _ (ints a.ini)] = _
  rw [bor_full (w := 1) (es := (z64 g (g.st.map (z63 l)) a).map ownRow) rfl rfl rfl (by rw [List.length_map]; exact hlen), rows_unown, ← hlen]
  rfl

/-- nodes lead to nodes -/
theorem prodRows_lt (g : Graph) (hg : GB g) (ls : List Int) (a : Aut) (ha : AutP a) : ∀ row ∈ z64 g ls a, ∀ x ∈ row, 0 ≤ x ∧ x < ((g.st.length * a.acc.length : Nat) : Int) := by
  intro row hrow x hx
  unfold z64 build at hrow
  obtain ⟨r, _, rfl⟩ := List.mem_map.1 hrow
  obtain ⟨⟨p, v⟩, hp, rfl⟩ := List.mem_map.1 hx
  have hp := (List.mem_filter.1 hp).1
  unfold pushS at hp
  obtain ⟨i, hi, hp⟩ := List.mem_flatMap.1 hp
  rw [List.mem_range] at hi
  unfold pushI at hp
  obtain ⟨to, hto, hp⟩ := List.mem_flatMap.1 hp
  unfold pushJ at hp
  obtain ⟨e, he, hp⟩ := List.mem_flatMap.1 hp
  have hin : i < g.nx.length := by have := hg.2.1; omega
  rw [z30 hin] at hto
  obtain ⟨j, hj, rfl⟩ := List.mem_iff_getElem.1 hto
  have h1 := ((hg.2.2 i hin hin hi).2.2.2 j hj hj).1
  have h2 := (ha.2.2.2 e he).2.1
  unfold pushE at hp
  split at hp
  · simp only [List.mem_singleton, Prod.mk.injEq] at hp
    obtain ⟨_, rfl⟩ := hp
    have h3 : 0 ≤ g.nx[i][j] * (a.acc.length : Int) := Int.mul_nonneg h1.1 (by omega)
    have h4 : (g.nx[i][j] + 1) * (a.acc.length : Int) ≤ g.st.length * a.acc.length := Int.mul_le_mul_of_nonneg_right (by omega) (by omega)
    rw [Int.add_mul, Int.one_mul] at h4
    have e : ((g.st.length * a.acc.length : Nat) : Int) = (g.st.length : Int) * a.acc.length := by simp
    rw [e]
    dsimp only
    omega
  · simp at hp

theorem prodRows_len (g : Graph) (hg : GB g) (ls : List Int) (a : Aut) (ha : AutP a) : ∀ row ∈ z64 g ls a, row.length ≤ 7372800 := by
  intro row hrow
  obtain ⟨i, hi, rfl⟩ := List.mem_iff_getElem.1 hrow
  exact Nat.le_trans (build_row_le (N := a.acc.length * g.st.length) (ps := pushS g ls a) hi) (pushS_len g hg ls a ha)

def rk (ranks : List Int) (x : Int) : Int := ranks.getD x.toNat 0
def less (acc : Bool) (r : Int) : Int := if acc then r - 1 else r
def nodeP (row ranks : List Int) (rank : Int) (acc : Bool) : Prop := ∀ x ∈ row, 0 ≤ rk ranks x ∧ rk ranks x ≤ less acc rank
instance {row ranks : List Int} {rank : Int} {acc : Bool} : Decidable (nodeP row ranks rank acc) := by unfold nodeP; infer_instance

/-- is the certificate right? -/
def certP (rows : List (List Int)) (ini : List Int) (acc : List Bool) (N : Nat) (ranks : List Int) : Prop :=
  ranks.length = N ∧ (∀ x ∈ ranks, -1 ≤ x ∧ x ≤ 4000) ∧ (∀ x ∈ ini, 0 ≤ rk ranks x) ∧ ∀ i (h : i < ranks.length), 0 ≤ ranks[i] → nodeP (rows.getD i []) ranks ranks[i] (acc.getD (i % acc.length) false)
noncomputable instance {rows : List (List Int)} {ini : List Int} {acc : List Bool} {N : Nat} {ranks : List Int} : Decidable (certP rows ini acc N ranks) := Classical.propDecidable _
def Cert.mx (c : Cert) : Prop := c.ranks.length ≤ maxLen
end Go.Proofs.YtknlmbniicacmaaGreat

namespace Go.Proofs.YtknlmbniicacmaaGreat
open Go.Gl
attribute [local irreducible] z15 AWP z44 z49 z46

end Go.Proofs.YtknlmbniicacmaaGreat

namespace Go.Proofs.YtknlmbniicacmaaGreat
open Go.Gl
attribute [local irreducible] z15 AWP z44 z49 z46

end Go.Proofs.YtknlmbniicacmaaGreat

namespace Go.Proofs.YtknlmbniicacmaaGreat
open Go.Gl
attribute [local irreducible] z15 AWP z44 z49 z46

end Go.Proofs.YtknlmbniicacmaaGreat

namespace Go.Proofs.YtknlmbniicacmaaGreat
open Go.Gl
attribute [local irreducible] z15 AWP z44 z49 z46

theorem prod_facts {g : Graph} {a : Aut} (hG : GB g) (hA : AutP a) (ls : List Int) : (∀ r ∈ z64 g ls a, InN (z64 g ls a).length r) ∧ InN (z64 g ls a).length a.ini ∧ (z64 g ls a).length ≤ 3840 ∧ (∀ r ∈ z64 g ls a, r.length ≤ 1000000000) ∧ a.ini.length ≤ 1048576 := by
  have hrl : (z64 g ls a).length = g.st.length * a.acc.length := by unfold z64; rw [z92, Nat.mul_comm]
  have hN := mul_bound (a := (g.st.length : Int)) (b := (a.acc.length : Int)) (A := 60) (B := 64) (by omega) (by have := hG.1; omega) (by omega) (by have := hA.1; omega)
  have hN2 : ((g.st.length * a.acc.length : Nat) : Int) = (g.st.length : Int) * a.acc.length := by simp
  have ha1 := hA.1
  refine ⟨fun r hr x hx => ?_, fun x hx => ?_, by omega, fun r hr => ?_, ?_⟩
  · rw [hrl]; exact prodRows_lt g hG ls a hA r hr x hx
  · obtain ⟨i, hi, rfl⟩ := List.mem_iff_getElem.1 hx
    have h1 := (hA.2.2.1 i hi hi).1
    have h2 := mul_bound (a := (g.st.length : Int) - 1) (b := (a.acc.length : Int)) (A := 60) (B := 64) (by have := hG.1; omega) (by have := hG.1; omega) (by omega) (by omega)
    rw [Int.sub_mul, Int.one_mul] at h2
    omega
  · have := prodRows_len g hG ls a hA r hr; omega
  · have := hA.2.2.1.le (by omega); omega

end Go.Proofs.YtknlmbniicacmaaGreat

namespace Go.Proofs.YtknlmbniicacmaaGreat
open Go.Gl
attribute [local irreducible] z15 AWP z44 z49 z46

/-! certificates: owned copies and marks -/
structure Cert.ok (c : Cert) : Prop where
  mx : c.mx
  len : c.ranks.length ≤ 1048576
theorem Cert.ok_of {c : Cert} (h : c.mx) (h1 : c.s1 ≤ 1048576) : c.ok := ⟨h, h1⟩
def Cert.ml (c : Cert) : Nat := c.ranks.length
theorem Cert.ml_le {c : Cert} (h : c.ok) : c.ml ≤ 1048576 := h.len
end Go.Proofs.YtknlmbniicacmaaGreat

namespace Go.Proofs.YtknlmbniicacmaaGreat
open Go.Gl
attribute [local irreducible] z15 AWP z44 z49 z46

theorem bor_tup {objs : Nat → AObj} {π Bn : List Nat} {xs ys : List AC} (h : borL objs π Bn xs = ys) : bor objs π Bn (.tup xs) = .tup ys := by
  simp only [bor, h]
end Go.Proofs.YtknlmbniicacmaaGreat

namespace Go.Proofs.YtknlmbniicacmaaGreat
open Go.Gl
attribute [local irreducible] z15 AWP z44 z49 z46 RetS z60

end Go.Proofs.YtknlmbniicacmaaGreat

namespace Go.Proofs.YtknlmbniicacmaaGreat
open Go.Gl
attribute [local irreducible] z15 AWP z44 z49 z46 RetS z60

end Go.Proofs.YtknlmbniicacmaaGreat

namespace Go.Proofs.YtknlmbniicacmaaGreat
open Go.Gl
attribute [local irreducible] z15 AWP z44 z49 z46 RetS z60

def Aut.sm (a : Aut) : Prop := a.ini.length ≤ 40 ∧ a.acc.length ≤ 20 ∧ a.ed.length ≤ 2100 ∧ ∀ t ∈ a.ed, t.mx
end Go.Proofs.YtknlmbniicacmaaGreat

namespace Go.Proofs.YtknlmbniicacmaaGreat
open Go.Gl
attribute [local irreducible] z15 AWP z44 z49 z46 RetS z60

end Go.Proofs.YtknlmbniicacmaaGreat

namespace Go.Proofs.YtknlmbniicacmaaGreat
open Go.Gl
attribute [local irreducible] z15 AWP z44 z49 z46 RetS z60

set_option maxHeartbeats 3200000 in
theorem l8Back_ok (P : List Int) (hP : P.length ≤ 100000) (f : Nat) (to : Int) (h : BackOk P f to) (hf : f ≤ 100000) : CallsA Tryz.prog 190 [ints P, .int to] [] (ints (bkw P f to [])) [] := by
  generalize hR : bkw P f to [] = R
  have hto := h
  refine z52 z28 Tryz.func190 rfl rfl 25 Tryz.ntmps190 (by simp) ?_
  repeat' (((apply AWP.go ok; rfl)) <;> conv => whnf)
  refine z114 (fun x : Nat × Int × List Int => ([(0, ints P), (5, .sref 0 0 (x.2.2.length + 1))], [.cells 1 ((x.2.1 :: x.2.2).map enI)])) (fun x => BackOk P x.1 x.2.1 ∧ bkw P x.1 x.2.1 x.2.2 = R ∧ x.1 + x.2.2.length ≤ 100000) (fun x => x.1) (f, to, []) ⟨hto, hR, by show f + 0 ≤ 100000; omega⟩ (by refine SealW.reach [0] [] rfl rfl rfl rfl ?_ ?_ <;> (repeat' (first | exact LocLe.refl _ | exact F2.nil | apply F2.cons | apply ObjLe.box | exact True.intro | apply And.intro))) ?_
  rintro ⟨g, v, tl⟩ ⟨hB, hE, hl⟩
  dsimp only at hB hE hl ⊢
  have hv : 0 ≤ v ∧ v < P.length := by cases g <;> exact hB.1
  have hg : (P.map enI)[v.toNat]? = some (enI (P.getD v.toNat 0)) := by rw [List.getElem?_map, List.getElem?_eq_getElem (by omega), z30 (by omega)]; rfl
  by_cases h0 : 0 ≤ P.getD v.toNat 0
  · cases g with
    | zero => exact absurd hB.2 (by omega)
    | succ g =>
      rw [bkw, if_pos h0] at hE
      have hB2 : BackOk P g (P.getD v.toNat 0) := by
        rcases hB.2 with h | h
        · omega
        · exact h
      generalize P.getD v.toNat 0 = y at *
      have hst : (List.map enI (v :: tl)).length = tl.length + 1 ∧ Stor (List.map enI (v :: tl)) := ⟨by simp, z6 (fun _ => rfl)⟩
      repeat' ((first | (apply AWP.go ok; rfl) | (refine z26 (i := v.toNat) (by simp) hg ?_) | (refine And.intro hst ?_) | (apply And.intro; first | omega | ((try dsimp only); simp only [List.length_map, List.length_take, List.length_append, List.length_replicate, List.length_cons, List.length_nil]; omega)) | apply z41 | ((apply z2) <;> intro _)) <;> conv => whnf)
      all_goals first | (exfalso; omega) | skip
      all_goals refine z72 (g, y, v :: tl) ⟨hB2, hE, by show g + (v :: tl).length ≤ 100000; rw [List.length_cons]; omega⟩ (by show g < g + 1; omega) (by refine SealW.reach [2] [0, 1] rfl rfl rfl rfl ?_ ?_ <;> (repeat' (first | exact LocLe.refl _ | exact F2.nil | apply F2.cons | exact z18 _ | (refine z85 ?_; ((simp; omega))) | ((refine z27 rfl ?_ ?_); (focus ((repeat' (first | exact z0 (fun _ => rfl) | exact flat_cons rfl z14 | apply z8)); done))) | exact True.intro | apply And.intro)))
  · have hE2 : v :: tl = R := by
      cases g with
      | zero => exact hE
      | succ g => rw [bkw, if_neg h0] at hE; exact hE
    subst hE2
    generalize P.getD v.toNat 0 = y at *
    repeat' ((first | (apply AWP.go ok; rfl) | (refine z26 (i := v.toNat) (by simp) hg ?_) | (apply And.intro; omega) | (((apply z5; omega)); intro _) | apply z41 | ((apply z2) <;> intro _)) <;> conv => whnf)
    all_goals first | (exfalso; omega) | skip
    all_goals (refine RetS.lay [] [0] rfl rfl rfl ?_; refine RetS.done ?_ ?_ <;> (repeat' (first | exact LocLe.refl _ | exact F2.nil | ((apply seal_leU rfl rfl rfl); (focus ((repeat ((exact unown_map (fun _ => rfl) _))); done)); (focus (((simp; done)); done))))))

def fillN (k : Nat) : List Int := List.replicate k (-1)
theorem fillN_succ (k : Nat) : fillN (k + 1) = fillN k ++ [-1] := by unfold fillN; rw [List.replicate_succ']
theorem mem_take_succ {l : List Int} {k : Nat} (h : k < l.length) (x : Int) : x ∈ l.take (k + 1) ↔ x ∈ l.take k ∨ x = l[k] := by
  rw [List.take_succ_eq_append_getElem h, List.mem_append, List.mem_singleton]
set_option maxHeartbeats 12800000 in
theorem l8Search_new (rows : List (List Int)) (ini : List Int) (hr : ∀ r ∈ rows, InN rows.length r) (hi : InN rows.length ini) (hn : ini.Nodup) (hN : rows.length ≤ 100000) (hrl : ∀ r ∈ rows, r.length ≤ 1000000000) : CallsA Tryz.prog 188 [lst 1 encL rows, ints ini] [] (.tup [.sref 0 0 (srP rows ini).length, .sref 1 0 (srQ rows ini).length]) [.cells 1 ((srP rows ini).map enI), .cells 1 ((srQ rows ini).map enI)] := by
  have hil : ini.length ≤ rows.length := pigeon _ _ hn hi
  refine z52 z28 Tryz.func188 rfl rfl 91 Tryz.ntmps188 (by simp) ?_
  repeat' ((first | (apply AWP.go ok; rfl) | (apply And.intro; (dsimp only; omega))) <;> conv => whnf)
  refine z114 (fun x : Nat × List Int => ([(0, lst 1 encL rows), (1, ints ini), (6, .sref 0 0 x.2.length), (7, .sref 1 0 rows.length), (8, .int x.1)], [.cells 1 (x.2.map enI), .cells 1 ((mkB rows.length []).map enB)])) (fun x => x.1 ≤ rows.length ∧ x.2.length = x.1 ∧ x.2 = fillN x.1) (fun x => rows.length - x.1) (0, []) ⟨by show 0 ≤ rows.length; omega, rfl, rfl⟩ (by refine SealW.reach [0, 1] [] rfl rfl rfl rfl ?_ ?_ <;> (repeat' (first | exact LocLe.refl _ | exact F2.nil | apply F2.cons | ((refine z27 rfl ?_ ?_); (focus ((repeat' (first | exact z14 | exact z1 rfl)); done))) | exact True.intro | apply And.intro)) <;> ((refine z51 ?_; rw [mkB_nil, List.map_replicate]; rfl))) ?_
  rintro ⟨i, F⟩ ⟨hF1, hFl, hF2⟩
  dsimp only at hF1 hFl hF2 ⊢
  by_cases hi2 : i < rows.length
  · repeat' ((first | (apply AWP.go ok; rfl) | (apply And.intro; first | omega | (unfold inI; omega) | ((try dsimp only); simp only [List.length_map, List.length_take, List.length_append, List.length_replicate, List.length_cons, List.length_nil]; omega) | exact ⟨rfl, z11 rfl z16⟩) | ((apply z2) <;> intro _)) <;> conv => whnf)
    all_goals first | (exfalso; omega) | skip
    all_goals refine z72 (i + 1, F ++ [-1]) ⟨hi2, by rw [List.length_append, hFl]; rfl, by show _ = fillN (i + 1); rw [fillN_succ, ← hF2]⟩ (by show rows.length - (i + 1) < _; omega) (by refine SealW.reach [3, 1] [] rfl rfl rfl rfl ?_ ?_ <;> (repeat' (first | exact LocLe.refl _ | exact F2.nil | apply F2.cons | exact z18 _ | (refine z85 ?_; ((simp; done))) | ((first | refine z121 rfl ?_ ?_ | refine z27 rfl ?_ ?_); (focus ((repeat' (first | exact z0 (fun _ => rfl) | apply z99)); done))) | (refine snoc_le ?_ ?_; (focus (omega))) | exact True.intro | apply And.intro)))
  · have e : rows.length = i := by omega
    have hs0 : srS rows ini 0 = (ini, F) := by rw [hF2, ← e]; rfl
    rw [← e] at hFl
    subst e
    clear hF1 hF2 hi2
    repeat' ((first | (apply AWP.go ok; rfl) | (apply And.intro; first | omega | (dsimp only; omega) | exact z6 (fun _ => rfl)) | ((apply z2) <;> intro _)) <;> conv => whnf)
    all_goals first | (exfalso; omega) | skip
    all_goals
      refine z114 (fun i : Nat => ([(0, lst 1 encL rows), (1, ints ini), (6, .sref 0 0 rows.length), (7, .sref 1 0 rows.length), (9, .sref 2 0 ini.length), (10, .int i)], [.cells 1 (F.map enI), .cells 1 ((mkB rows.length (ini.take i)).map enB), .cells 1 (ini.map enI)])) (fun i => i ≤ ini.length) (fun i => ini.length - i) 0 (by omega) (by refine SealW.reach [0, 1, 3] [] rfl rfl rfl rfl ?_ ?_ <;> (repeat' (first | exact LocLe.refl _ | exact F2.nil | apply F2.cons | exact z18 _ | (refine z85 ?_; (omega)) | ((refine z27 rfl ?_ ?_); (focus ((repeat' ((exact z0 (fun _ => rfl)))); done))) | exact True.intro | apply And.intro))) ?_
      intro i hi1
      by_cases hi2 : i < ini.length
      · have hx := hi ini[i] (List.getElem_mem _)
        have hset := set_mkB (enc := enB) rfl hx.1 hx.2 (mem_take_succ hi2)
        have hml := mkB_len rows.length (ini.take i)
        repeat' ((first | (apply AWP.go ok; rfl) | (apply And.intro; first | omega | (unfold inI; omega)) | ((first | (with_reducible apply z5; omega) | (apply z5; omega)); intro _) | ((apply z2) <;> intro _)) <;> conv => whnf)
        all_goals first | (exfalso; omega) | skip
        all_goals refine z72 (i + 1) (by omega) (by omega) (by refine SealW.reach [0, 1, 2] [] rfl rfl rfl rfl ?_ ?_ <;> (repeat' (first | exact LocLe.refl _ | exact F2.nil | apply F2.cons | exact z18 _ | ((first | refine z78 rfl ?_ ?_ | refine z27 rfl ?_ ?_); (focus ((repeat' ((exact z0 (fun _ => rfl)))); done))) | exact True.intro | apply And.intro)) <;> (exact z51 hset))
      · have e : ini.length = i := by omega
        subst e
        rw [List.take_length]
        repeat' ((first | (apply AWP.go ok; rfl) | (apply And.intro; omega) | ((first | (with_reducible apply z5; omega) | (apply z5; omega)); intro _) | ((apply z2) <;> intro _)) <;> conv => whnf)
        all_goals first | (exfalso; omega) | skip
        refine z114 (fun x : Nat × List Int × List Int => ([(0, lst 1 encL rows), (6, .sref 0 0 rows.length), (7, .sref 1 0 rows.length), (9, .sref 2 0 x.2.1.length), (11, .int x.1)], [.cells 1 (x.2.2.map enI), .cells 1 ((mkB rows.length x.2.1).map enB), .cells 1 (x.2.1.map enI)])) (fun x => srS rows ini x.1 = (x.2.1, x.2.2) ∧ x.1 ≤ x.2.1.length) (fun x => rows.length - x.1) (0, ini, F) ⟨hs0, Nat.zero_le _⟩ (by refine SealW.reach [0, 1, 2] [] rfl rfl rfl rfl ?_ ?_ <;> (repeat' (first | exact LocLe.refl _ | exact F2.nil | apply F2.cons | exact z18 _ | ((refine z27 rfl ?_ ?_); (focus ((repeat' ((exact z0 (fun _ => rfl)))); done))) | exact True.intro | apply And.intro))) ?_
        clear hs0 hFl F
        rintro ⟨i, Q, P⟩ ⟨hS, hiQ⟩
        dsimp only at hS hiQ ⊢
        have hJ := srS_PJ hr hi hn i
        rw [hS] at hJ
        have hQl := pigeon _ _ hJ.nd hJ.inn
        have hPl := hJ.len
        dsimp only at hQl hPl
        by_cases hi2 : i < Q.length
        · have hq := hJ.inn _ (List.getElem_mem hi2)
          have hS1 : srS rows ini (i + 1) = visPs Q[i] (Q, P) (rows.getD Q[i].toNat []) := by rw [srS, dif_pos (by rw [hS]; exact hi2)]; simp only [hS]
          have hqr : Q[i].toNat < rows.length := by omega
          have hrow : rows.getD Q[i].toNat [] = rows[Q[i].toNat] := z30 hqr
          have hrin : InN rows.length rows[Q[i].toNat] := hr _ (List.getElem_mem _)
          have hrl2 := hrl rows[Q[i].toNat] (List.getElem_mem _)
          rw [hrow] at hS1
          repeat' ((first | (apply AWP.go ok; rfl) | ((apply z2) <;> intro _)) <;> conv => whnf)
          all_goals first | (exfalso; omega) | skip
          refine z114 (fun y : Nat × List Int × List Int => ([(0, lst 1 encL rows), (6, .sref 0 0 rows.length), (7, .sref 1 0 rows.length), (9, .sref 2 0 y.2.1.length), (11, .int i), (12, .int y.1)], [.cells 1 (y.2.2.map enI), .cells 1 ((mkB rows.length y.2.1).map enB), .cells 1 (y.2.1.map enI)])) (fun y => visPs Q[i] (Q, P) (rows[Q[i].toNat].take y.1) = (y.2.1, y.2.2) ∧ y.1 ≤ rows[Q[i].toNat].length) (fun y => rows[Q[i].toNat].length - y.1) (0, Q, P) ⟨rfl, Nat.zero_le _⟩ (by refine SealW.reach [0, 1, 2] [] rfl rfl rfl rfl ?_ ?_ <;> (repeat' (first | exact LocLe.refl _ | exact F2.nil | apply F2.cons | exact z18 _ | ((refine z27 rfl ?_ ?_); (focus ((repeat' ((exact z0 (fun _ => rfl)))); done))) | exact True.intro | apply And.intro))) ?_
          rintro ⟨k, Q', P'⟩ ⟨hV, hk⟩
          dsimp only at hV hk ⊢
          obtain ⟨hJ', hi', hu⟩ := PJ.visPs (rows[Q[i].toNat].take k) hJ hi2 rfl (fun x hx => hrin x (List.mem_of_mem_take hx))
          simp only [hV] at hJ' hi' hu
          have hQl' := pigeon _ _ hJ'.nd hJ'.inn
          have hPl' := hJ'.len
          dsimp only at hQl' hPl'
          have hg : (Q'.map enI)[i]? = some (enI Q[i]) := by rw [List.getElem?_map, List.getElem?_eq_getElem hi', hu]; rfl
          by_cases hk2 : k < rows[Q[i].toNat].length
          · have hx := hrin rows[Q[i].toNat][k] (List.getElem_mem _)
            have hv := visPs_take (u := Q[i]) (x := (Q, P)) hk2
            rw [hV] at hv
            have hkk : (rows[Q[i].toNat].map enI)[k]? = some (enI rows[Q[i].toNat][k]) := by rw [List.getElem?_map, List.getElem?_eq_getElem hk2]; rfl
            generalize Q[i] = u at *
            generalize rows[u.toNat][k] = v at *
            by_cases hn2 : v ∈ Q'
            · rw [visP_old hn2] at hv
              repeat' ((first | (apply AWP.go ok; rfl) | (refine z26 (i := i) rfl hg ?_) | (refine z26 (i := k) rfl hkk ?_) | (refine get_mkB (enc := enB) (v := v) (by rfl) hx.1 hx.2 ?_) | (apply And.intro; first | omega | (unfold inI; omega) | ((try dsimp only); simp only [List.length_map, List.length_take, List.length_append, List.length_replicate, List.length_cons, List.length_nil]; omega) | exact ⟨rfl, z11 rfl z16⟩) | ((first | (with_reducible apply z31; omega) | (apply z5; omega)); intro _) | ((first | apply z2 | apply z9) <;> intro _)) <;> conv => whnf)
              all_goals first | (exfalso; omega) | (exfalso; contradiction) | skip
              all_goals refine z72 (k + 1, Q', P') ⟨hv, hk2⟩ (by show rows[u.toNat].length - (k + 1) < rows[u.toNat].length - k; omega) (by refine SealW.reach [0, 1, 2] [] rfl rfl rfl rfl ?_ ?_ <;> (repeat' (first | exact LocLe.refl _ | exact F2.nil | apply F2.cons | exact z18 _ | ((refine z27 rfl ?_ ?_); (focus ((repeat' ((exact z0 (fun _ => rfl)))); done))) | exact True.intro | apply And.intro)))
            · rw [visP_new hn2] at hv
              have hset := set_mkB (enc := enB) (S := Q') (S' := Q' ++ [v]) rfl hx.1 hx.2 (fun x => by simp)
              repeat' ((first | (apply AWP.go ok; rfl) | (refine z26 (i := i) rfl hg ?_) | (refine z26 (i := k) rfl hkk ?_) | (refine get_mkB (enc := enB) (v := v) (by rfl) hx.1 hx.2 ?_) | (apply And.intro; first | omega | (unfold inI; omega) | ((try dsimp only); simp only [List.length_map, List.length_take, List.length_append, List.length_replicate, List.length_cons, List.length_nil]; omega) | exact ⟨rfl, z11 rfl z16⟩) | ((first | (with_reducible apply z31; omega) | (apply z5; omega)); intro _) | ((first | apply z2 | apply z9) <;> intro _)) <;> conv => whnf)
              all_goals first | (exfalso; omega) | (exfalso; contradiction) | skip
              all_goals refine z72 (k + 1, Q' ++ [v], P'.set v.toNat u) ⟨hv, hk2⟩ (by show rows[u.toNat].length - (k + 1) < rows[u.toNat].length - k; omega) (by refine SealW.reach [0, 1, 4] [] rfl rfl rfl rfl ?_ ?_ <;> (repeat' (first | exact LocLe.refl _ | exact F2.nil | apply F2.cons | (refine z85 ?_; ((simp; done))) | ((first | refine z121 rfl ?_ ?_ | refine z78 rfl ?_ ?_); (focus ((repeat' (first | exact z0 (fun _ => rfl) | apply z99)); done))) | (refine put_le (by omega) ?_) | (refine snoc_le ?_ ?_; (focus (omega))) | exact True.intro | apply And.intro)) <;> (exact z51 hset))
          · rw [List.take_of_length_le (by omega)] at hV
            rw [hV] at hS1
            repeat' ((first | (apply AWP.go ok; rfl) | (refine z26 (i := i) rfl hg ?_) | (apply And.intro; first | omega | (unfold inI; omega)) | ((first | (with_reducible apply z5; omega) | (with_reducible apply z31; omega) | (apply z5; omega)); intro _) | ((first | apply z2 | apply z23) <;> intro _)) <;> conv => whnf)
            all_goals first | (exfalso; omega) | skip
            all_goals refine z72 (i + 1, Q', P') ⟨hS1, hi'⟩ (by show rows.length - (i + 1) < rows.length - i; omega) (by refine SealW.reach [0, 1, 2] [] rfl rfl rfl rfl ?_ ?_ <;> (repeat' (first | exact LocLe.refl _ | exact F2.nil | apply F2.cons | exact z18 _ | ((refine z27 rfl ?_ ?_); (focus ((repeat' ((exact z0 (fun _ => rfl)))); done))) | exact True.intro | apply And.intro)))
        · have hE := srS_end (rows := rows) (ini := ini) (i := i) (by rw [hS]; show Q.length ≤ i; omega) (by omega)
          rw [hS] at hE
          obtain ⟨e1, e2⟩ := Prod.mk.inj hE
          rw [← e1, ← e2]
          repeat' ((first | (apply AWP.go ok; rfl) | ((apply z2) <;> intro _)) <;> conv => whnf)
          all_goals first | (exfalso; omega) | skip
          all_goals (refine RetS.lay [0, 2] [] rfl rfl rfl ?_; refine RetS.done ?_ ?_ <;> (repeat' (first | exact LocLe.refl _ | exact F2.nil | apply F2.cons | exact z18 _ | (refine z85 ?_; (omega)) | ((refine z27 rfl ?_ ?_); (focus ((repeat' ((exact z0 (fun _ => rfl)))); done))) | apply tup_le)))
theorem l8Search_ok (rows : List (List Int)) (ini : List Int) (hr : ∀ r ∈ rows, InN rows.length r) (hi : InN rows.length ini) (hn : ini.Nodup) (hN : rows.length ≤ 100000) (hrl : ∀ r ∈ rows, r.length ≤ 1000000000) : CallsA Tryz.prog 188 [lst 1 encL rows, ints ini] [] (.tup [ints (srP rows ini), ints (srQ rows ini)]) [] :=
  (l8Search_new rows ini hr hi hn hN hrl).lend [] [0, 1] rfl rfl rfl (bor_tup (z68 (bor_ints rfl rfl rfl) (z68 (bor_ints rfl rfl rfl) z89))) z10
end Go.Proofs.YtknlmbniicacmaaGreat

