/- Untils are monotonic. The law FnBranchingMonotone returns true at every input and leaves its input as it was. No condition. -/
import Derived.Test.YtkophaoifmofdaaGreatG0
import Derived.Test.YtkophaoifmofdaaGreatG1
import Derived.Test.YtkophaoifmofdaaGreatG2
import Derived.Test.YtkophaoifmofdaaGreatP0
import Derived.Test.YtkophaoifmofdaaGreatP1
import Derived.Test.YtkophaoifmofdaaGreatP2
import Derived.Test.YtkophaoifmofdaaGreatP3
import Derived.Test.YtkophaoifmofdaaGreatP8
import Derived.Test.YtkophaoifmofdaaGreatP9
import Derived.Test.YtkophaoifmofdaaGreatP10
import Derived.Test.YtkophaoifmofdaaGreatP11
import Derived.Test.YtkophaoifmofdaaGreatP12
import Derived.Test.YtkophaoifmofdaaGreatP13
set_option linter.all false
namespace Go.Proofs.YtkophaoifmofdaaGreat
open Go.Gl
attribute [local irreducible] z90 AWP z100 z109 z103 RetS z124

theorem mono_u {g : Graph} {l : List Tree} {f h : Tree} (h1 : okB g l (.mk 10 0 [.mk 1 0 [], f]) = true) (h2 : okB g l (.mk 10 0 [.mk 1 0 [], .mk 5 0 [f, h]]) = true) {i : Nat} (hi : i < g.st.length) (hx : gB (brL g l (.mk 10 0 [.mk 1 0 [], f])) i = true) : gB (brL g l (.mk 10 0 [.mk 1 0 [], .mk 5 0 [f, h]])) i = true := by
  rw [brL_sat h1] at hx
  rw [brL_sat h2]
  exact until_weaker _ (okB_in h1) f h 0 0 0 hi hx
theorem cs2 (k : Int) (f h : Tree) : Tree.cs' (.mk k 0 [f, h]) = [.int k, .int 0, .list 3 2 [Tree.cs' f, Tree.cs' h]] := by
  show [AC.int k, AC.int 0, AC.list 3 2 [Tree.cs f, Tree.cs h]] = _
  rw [Tree.cs_eq]

set_option maxHeartbeats 6400000 in
theorem lawFnBranchingMonotone (c : List Int) (hc : CodeOk c) (d : List Int) (hd : CodeOk d) : CallsA Tryz.prog 6 [lst 1 enU c, lst 1 enU d] [] (.bool true) [] := by
  obtain ⟨g, l, f, ⟨hg, hl, hf⟩, cd⟩ := drawBr_ok c hc
  obtain ⟨g2, l2, h, ⟨hg2, hl2, hh⟩, cd2⟩ := drawBr_ok d hd
  have hst := hg.st
  have hlen := hc.len
  have hlen2 := hd.len
  unfold maxLen at hlen hlen2
  have k1 := br_ok g hg l hl f (by omega)
  have k2 := brS_ok g hg l hl f (by omega)
  have k3 := wpBools_ok (brL g l f) (brL g l f) (by have := z140 (g := g) (l := l) f; unfold maxLen; omega) (by have := z140 (g := g) (l := l) f; unfold maxLen; omega)
  rw [decide_eq_true rfl] at k3
  have n1 := br_new g hg l hl (.mk 10 0 [.mk 1 0 [], f]) (by rw [sz2, z153]; simp; omega)
  have n2 := br_new g hg l hl (.mk 10 0 [.mk 1 0 [], .mk 5 0 [f, h]]) (by rw [sz2, sz2, z153]; simp; omega)
  have hx : ∀ i, i < g.st.length → okB g l (.mk 10 0 [.mk 1 0 [], f]) = true → okB g l (.mk 10 0 [.mk 1 0 [], .mk 5 0 [f, h]]) = true → gB (brL g l (.mk 10 0 [.mk 1 0 [], f])) i = true → gB (brL g l (.mk 10 0 [.mk 1 0 [], .mk 5 0 [f, h]])) i = true := fun i hi a b => mono_u a b hi
  have e1 : okB g l (.mk 10 0 [.mk 1 0 [], f]) = true → _ := brL_len
  have e2 : okB g l (.mk 10 0 [.mk 1 0 [], .mk 5 0 [f, h]]) = true → _ := brL_len
  have z1 := z140 (g := g) (l := l) (.mk 10 0 [.mk 1 0 [], f])
  have z2 := z140 (g := g) (l := l) (.mk 10 0 [.mk 1 0 [], .mk 5 0 [f, h]])
  have z0 := z140 (g := g) (l := l) f
  rw [arg2] at n1 n2
  rw [cs2 5] at n2
  have n1 := n1.arg (args0 := [.agg g.cs, lst 3 Tree.cs' l, .agg [.int 10, .int 0, .list 3 2 [[.int 1, .int 0, .nils], Tree.cs' f]]]) (by (repeat' (first | exact LocLe.refl _ | exact z43 | (refine z65 ?_; assumption) | exact z50 | exact F2.nil | apply F2.cons | exact z61 _ | exact z53 _ | exact z81 | exact f22_cs' | (refine z76 ?_; omega) | (refine z79 ?_; omega) | (refine z37 ?_; omega) | (refine z80 ?_; omega) | (refine z60 ?_; (first | omega | (simp; done) | (simp; omega))) | apply ObjLe.box | ((first | refine z48 rfl ?_ ?_ | refine z49 rfl rfl ?_ ?_ | refine z57 rfl ?_ ?_ | refine z38 rfl ?_ ?_); (focus ((repeat' (first | exact z14 | exact z5 rfl | exact z4 (fun _ => rfl) | exact z4 Tree.co_flat | exact z45 rfl z14 | apply z13 | apply z16 | (refine z51 ?_ _ rfl) | assumption)); done))) | (refine z38 rfl ?_ ?_; (focus (refine z27 ?_ ?_ rfl <;> first | (simp; omega) | (apply z16; exact z4 fun _ => rfl)))) | (refine z35 ?_ ?_; (focus (simp; omega))) | (refine z82 (by omega) (by omega) ?_) | (refine z78 (by omega) ?_) | (refine z64 (by omega) ?_) | (refine z66 ?_; (first | omega | (simp; done))) | (refine z63 ?_ ?_; (focus (first | omega | (simp; done)))) | (refine z68 ?_ ?_; (focus (simp; done))) | (refine z67 ?_) | ((first | apply z56 rfl rfl rfl | apply z47 rfl rfl rfl); (focus ((repeat (first | exact z44 (fun _ => rfl) _ | exact z40 _ | apply z46 | apply z58 | apply z59 | rfl)); done)); (focus ((first | rfl | (simp; omega) | (simp; done)); done))) | apply z77 | apply z75 | (apply z36; rfl) | (refine z36 ?_ ?_; (focus (simp; done))) | apply ObjLe.mk | exact True.intro | apply And.intro)))
  have n2 := n2.arg (args0 := [.agg g.cs, lst 3 Tree.cs' l, .agg [.int 10, .int 0, .list 3 2 [[.int 1, .int 0, .nils], [.int 5, .int 0, .list 3 2 [Tree.cs' f, Tree.cs' h]]]]]) (by (repeat' (first | exact LocLe.refl _ | exact z43 | (refine z65 ?_; assumption) | exact z50 | exact F2.nil | apply F2.cons | exact z61 _ | exact z53 _ | exact z81 | exact f22_cs' | (refine z76 ?_; omega) | (refine z79 ?_; omega) | (refine z37 ?_; omega) | (refine z80 ?_; omega) | (refine z60 ?_; (first | omega | (simp; done) | (simp; omega))) | apply ObjLe.box | ((first | refine z48 rfl ?_ ?_ | refine z49 rfl rfl ?_ ?_ | refine z57 rfl ?_ ?_ | refine z38 rfl ?_ ?_); (focus ((repeat' (first | exact z14 | exact z5 rfl | exact z4 (fun _ => rfl) | exact z4 Tree.co_flat | exact z45 rfl z14 | apply z13 | apply z16 | (refine z51 ?_ _ rfl) | assumption)); done))) | (refine z38 rfl ?_ ?_; (focus (refine z27 ?_ ?_ rfl <;> first | (simp; omega) | (apply z16; exact z4 fun _ => rfl)))) | (refine z35 ?_ ?_; (focus (simp; omega))) | (refine z82 (by omega) (by omega) ?_) | (refine z78 (by omega) ?_) | (refine z64 (by omega) ?_) | (refine z66 ?_; (first | omega | (simp; done))) | (refine z63 ?_ ?_; (focus (first | omega | (simp; done)))) | (refine z68 ?_ ?_; (focus (simp; done))) | (refine z67 ?_) | ((first | apply z56 rfl rfl rfl | apply z47 rfl rfl rfl); (focus ((repeat (first | exact z44 (fun _ => rfl) _ | exact z40 _ | apply z46 | apply z58 | apply z59 | rfl)); done)); (focus ((first | rfl | (simp; omega) | (simp; done)); done))) | apply z77 | apply z75 | (apply z36; rfl) | (refine z36 ?_ ?_; (focus (simp; done))) | apply ObjLe.mk | exact True.intro | apply And.intro)))
  rw [Tree.arg_eq] at k1 k2 cd cd2
  generalize brL g l (.mk 10 0 [.mk 1 0 [], f]) = X1 at *
  generalize brL g l (.mk 10 0 [.mk 1 0 [], .mk 5 0 [f, h]]) = X2 at *
  generalize okB g l (.mk 10 0 [.mk 1 0 [], f]) = b1 at *
  generalize okB g l (.mk 10 0 [.mk 1 0 [], .mk 5 0 [f, h]]) = b2 at *
  generalize okB g l f = b0 at *
  generalize brL g l f = S at *
  refine z74 z87 Tryz.func6 rfl rfl 125 Tryz.ntmps6 (by simp) ?_
  repeat' ((first | ((fail_if_success apply stopAt 8); (fail_if_success apply stopAtS 8); apply AWP.go ok; rfl) | (apply z41; kernel_rfl) | (apply And.intro; first | omega | (unfold inI; omega) | (dsimp only; omega) | ((try dsimp only); simp only [List.length_map, List.length_take, List.length_append, List.length_replicate, List.length_cons, List.length_nil]; omega) | exact z12 (fun _ => rfl) | exact ⟨rfl, z18 rfl z24⟩ | exact ⟨rfl, z12 (fun _ => rfl) _⟩ | exact ⟨⟨rfl, by omega⟩, z12 (fun _ => rfl) _⟩) | ((first | (with_reducible apply z15; omega) | (with_reducible apply z25; omega) | (apply z15; omega)); intro _) | (apply z26; omega) | apply z33 | (apply z32; omega; intro _) | ((first | apply z31 | apply z23 | apply z30 | apply z42 | apply z21 | apply z17 | apply z22 | apply z29) <;> intro _) | (apply z52 (cd); rfl; rfl) | (apply z52 (cd2); rfl; rfl) | (apply z52 (k1); rfl; rfl) | (apply z52 (k2); rfl; rfl)) <;> conv => whnf)
  all_goals first | (exfalso; omega) | (exfalso; contradiction) | (refine RetS.lay [] [] rfl rfl rfl ?_; refine RetS.done ?_ ?_ <;> (repeat' (first | exact LocLe.refl _ | exact z43 | (refine z65 ?_; assumption) | exact z50 | exact F2.nil | apply F2.cons | exact z61 _ | exact z53 _ | exact z81 | exact f22_cs' | (refine z76 ?_; omega) | (refine z79 ?_; omega) | (refine z37 ?_; omega) | (refine z80 ?_; omega) | (refine z60 ?_; (first | omega | (simp; done) | (simp; omega))) | apply ObjLe.box | ((first | refine z48 rfl ?_ ?_ | refine z49 rfl rfl ?_ ?_ | refine z57 rfl ?_ ?_ | refine z38 rfl ?_ ?_); (focus ((repeat' (first | exact z14 | exact z5 rfl | exact z4 (fun _ => rfl) | exact z4 Tree.co_flat | exact z45 rfl z14 | apply z13 | apply z16 | (refine z51 ?_ _ rfl) | assumption)); done))) | (refine z38 rfl ?_ ?_; (focus (refine z27 ?_ ?_ rfl <;> first | (simp; omega) | (apply z16; exact z4 fun _ => rfl)))) | (refine z35 ?_ ?_; (focus (simp; omega))) | (refine z82 (by omega) (by omega) ?_) | (refine z78 (by omega) ?_) | (refine z64 (by omega) ?_) | (refine z66 ?_; (first | omega | (simp; done))) | (refine z63 ?_ ?_; (focus (first | omega | (simp; done)))) | (refine z68 ?_ ?_; (focus (simp; done))) | (refine z67 ?_) | ((first | apply z56 rfl rfl rfl | apply z47 rfl rfl rfl); (focus ((repeat (first | exact z44 (fun _ => rfl) _ | exact z40 _ | apply z46 | apply z58 | apply z59 | rfl)); done)); (focus ((first | rfl | (simp; omega) | (simp; done)); done))) | apply z77 | apply z75 | (apply z36; rfl) | (refine z36 ?_ ?_; (focus (simp; done))) | apply ObjLe.mk | exact True.intro | apply And.intro))) | skip
  refine AWP.reach (SealW.reach (env := [(5, .ptr 0 none 0), (6, lst 3 Tree.cs' l), (7, .ptr 1 none 0), (11, lst 1 enB S), (12, .bool b0), (13, lst 1 enB S), (14, .bool b0), (15, .ptr 2 none 0)]) (objs := [.cells 2 [g.cs], .cells 3 [Tree.cs' f], .cells 3 [[.int 5, .int 0, .list 3 2 [Tree.cs' f, Tree.cs' h]]]]) [0, 1, 5] [4] rfl rfl rfl rfl ?_ ?_) ?_
  · (repeat' (first | exact LocLe.refl _ | exact z43 | (refine z65 ?_; assumption) | exact z50 | exact F2.nil | apply F2.cons | exact z61 _ | exact z53 _ | exact z81 | exact f22_cs' | (refine z76 ?_; omega) | (refine z79 ?_; omega) | (refine z37 ?_; omega) | (refine z80 ?_; omega) | (refine z60 ?_; (first | omega | (simp; done) | (simp; omega))) | apply ObjLe.box | ((first | refine z48 rfl ?_ ?_ | refine z49 rfl rfl ?_ ?_ | refine z57 rfl ?_ ?_ | refine z38 rfl ?_ ?_); (focus ((repeat' (first | exact z14 | exact z5 rfl | exact z4 (fun _ => rfl) | exact z4 Tree.co_flat | exact z45 rfl z14 | apply z13 | apply z16 | (refine z51 ?_ _ rfl) | assumption)); done))) | (refine z38 rfl ?_ ?_; (focus (refine z27 ?_ ?_ rfl <;> first | (simp; omega) | (apply z16; exact z4 fun _ => rfl)))) | (refine z35 ?_ ?_; (focus (simp; omega))) | (refine z82 (by omega) (by omega) ?_) | (refine z78 (by omega) ?_) | (refine z64 (by omega) ?_) | (refine z66 ?_; (first | omega | (simp; done))) | (refine z63 ?_ ?_; (focus (first | omega | (simp; done)))) | (refine z68 ?_ ?_; (focus (simp; done))) | (refine z67 ?_) | ((first | apply z56 rfl rfl rfl | apply z47 rfl rfl rfl); (focus ((repeat (first | exact z44 (fun _ => rfl) _ | exact z40 _ | apply z46 | apply z58 | apply z59 | rfl)); done)); (focus ((first | rfl | (simp; omega) | (simp; done)); done))) | apply z77 | apply z75 | (apply z36; rfl) | (refine z36 ?_ ?_; (focus (simp; done))) | apply ObjLe.mk | exact True.intro | apply And.intro))
  · (repeat' (first | exact LocLe.refl _ | exact z43 | (refine z65 ?_; assumption) | exact z50 | exact F2.nil | apply F2.cons | exact z61 _ | exact z53 _ | exact z81 | exact f22_cs' | (refine z76 ?_; omega) | (refine z79 ?_; omega) | (refine z37 ?_; omega) | (refine z80 ?_; omega) | (refine z60 ?_; (first | omega | (simp; done) | (simp; omega))) | apply ObjLe.box | ((first | refine z48 rfl ?_ ?_ | refine z49 rfl rfl ?_ ?_ | refine z57 rfl ?_ ?_ | refine z38 rfl ?_ ?_); (focus ((repeat' (first | exact z14 | exact z5 rfl | exact z4 (fun _ => rfl) | exact z4 Tree.co_flat | exact z45 rfl z14 | apply z13 | apply z16 | (refine z51 ?_ _ rfl) | assumption)); done))) | (refine z38 rfl ?_ ?_; (focus (refine z27 ?_ ?_ rfl <;> first | (simp; omega) | (apply z16; exact z4 fun _ => rfl)))) | (refine z35 ?_ ?_; (focus (simp; omega))) | (refine z82 (by omega) (by omega) ?_) | (refine z78 (by omega) ?_) | (refine z64 (by omega) ?_) | (refine z66 ?_; (first | omega | (simp; done))) | (refine z63 ?_ ?_; (focus (first | omega | (simp; done)))) | (refine z68 ?_ ?_; (focus (simp; done))) | (refine z67 ?_) | ((first | apply z56 rfl rfl rfl | apply z47 rfl rfl rfl); (focus ((repeat (first | exact z44 (fun _ => rfl) _ | exact z40 _ | apply z46 | apply z58 | apply z59 | rfl)); done)); (focus ((first | rfl | (simp; omega) | (simp; done)); done))) | apply z77 | apply z75 | (apply z36; rfl) | (refine z36 ?_ ?_; (focus (simp; done))) | apply ObjLe.mk | exact True.intro | apply And.intro))
  conv => whnf
  repeat' ((first | (apply AWP.go ok; rfl) | (apply z41; kernel_rfl) | (apply And.intro; first | omega | (unfold inI; omega) | (dsimp only; omega) | ((try dsimp only); simp only [List.length_map, List.length_take, List.length_append, List.length_replicate, List.length_cons, List.length_nil]; omega) | exact z12 (fun _ => rfl) | exact ⟨rfl, z18 rfl z24⟩ | exact ⟨rfl, z12 (fun _ => rfl) _⟩ | exact ⟨⟨rfl, by omega⟩, z12 (fun _ => rfl) _⟩) | ((first | (with_reducible apply z15; omega) | (with_reducible apply z25; omega) | (apply z15; omega)); intro _) | (apply z26; omega) | apply z33 | (apply z32; omega; intro _) | ((first | apply z31 | apply z23 | apply z30 | apply z42 | apply z21 | apply z17 | apply z22 | apply z29) <;> intro _) | (apply z52 (k3); rfl; rfl) | ((first | (apply z34 [] [3] [4] (n1); (focus ((repeat' first | exact z129 | apply z97) <;> first | exact z136 rfl rfl rfl | exact z128 rfl rfl rfl | exact z126 rfl rfl rfl | rfl)); (focus ((repeat' first | exact z20 | apply z19) <;> first | rfl | (refine z28 rfl ?_; (first | exact z4 fun _ => rfl | exact z14 | exact z5 rfl | (apply z13 <;> exact z4 fun _ => rfl) | assumption))))) | (apply z34 [] [5] [6] (n2); (focus ((repeat' first | exact z129 | apply z97) <;> first | exact z136 rfl rfl rfl | exact z128 rfl rfl rfl | exact z126 rfl rfl rfl | rfl)); (focus ((repeat' first | exact z20 | apply z19) <;> first | rfl | (refine z28 rfl ?_; (first | exact z4 fun _ => rfl | exact z14 | exact z5 rfl | (apply z13 <;> exact z4 fun _ => rfl) | assumption)))))); rfl; rfl; rfl; rfl; rfl; (focus ((repeat' first | exact z71 | apply z62) <;> first | exact z73 | exact z84 rfl rfl | (refine z72 ?_; (first | exact z4 fun _ => rfl | exact z14 | exact z5 rfl | (apply z13 <;> exact z4 fun _ => rfl) | assumption)))); (first | exact .inl rfl | (refine .inr ⟨rfl, ?_⟩; repeat' first | exact True.intro | apply And.intro | exact rfl | exact z54 (fun _ => rfl) _)))) <;> conv => whnf)
  all_goals first | (exfalso; omega) | (exfalso; contradiction) | kernel_rfl | (refine RetS.lay [] [] rfl rfl rfl ?_; refine RetS.done ?_ ?_ <;> (repeat' (first | exact LocLe.refl _ | exact z43 | (refine z65 ?_; assumption) | exact z50 | exact F2.nil | apply F2.cons | exact z61 _ | exact z53 _ | exact z81 | exact f22_cs' | (refine z76 ?_; omega) | (refine z79 ?_; omega) | (refine z37 ?_; omega) | (refine z80 ?_; omega) | (refine z60 ?_; (first | omega | (simp; done) | (simp; omega))) | apply ObjLe.box | ((first | refine z48 rfl ?_ ?_ | refine z49 rfl rfl ?_ ?_ | refine z57 rfl ?_ ?_ | refine z38 rfl ?_ ?_); (focus ((repeat' (first | exact z14 | exact z5 rfl | exact z4 (fun _ => rfl) | exact z4 Tree.co_flat | exact z45 rfl z14 | apply z13 | apply z16 | (refine z51 ?_ _ rfl) | assumption)); done))) | (refine z38 rfl ?_ ?_; (focus (refine z27 ?_ ?_ rfl <;> first | (simp; omega) | (apply z16; exact z4 fun _ => rfl)))) | (refine z35 ?_ ?_; (focus (simp; omega))) | (refine z82 (by omega) (by omega) ?_) | (refine z78 (by omega) ?_) | (refine z64 (by omega) ?_) | (refine z66 ?_; (first | omega | (simp; done))) | (refine z63 ?_ ?_; (focus (first | omega | (simp; done)))) | (refine z68 ?_ ?_; (focus (simp; done))) | (refine z67 ?_) | ((first | apply z56 rfl rfl rfl | apply z47 rfl rfl rfl); (focus ((repeat (first | exact z44 (fun _ => rfl) _ | exact z40 _ | apply z46 | apply z58 | apply z59 | rfl)); done)); (focus ((first | rfl | (simp; omega) | (simp; done)); done))) | apply z77 | apply z75 | (apply z36; rfl) | (refine z36 ?_ ?_; (focus (simp; done))) | apply ObjLe.mk | exact True.intro | apply And.intro))) | (refine RetS.lay [] [] rfl rfl rfl ?_; exact RetS.done (bool_le (by simp)) .nil) | skip
  have hb1 : b1 = true := by assumption
  have hb2 : b2 = true := by assumption
  refine loopR (fun i : Nat => ([(16, lst 1 enB X1), (18, lst 1 enB X2), (20, .int i)], [.cells 2 [g.cs]])) (fun i => i ≤ X1.length) (fun i => X1.length - i) 0 (by omega) (by refine SealW.reach [0] [4, 6] rfl rfl rfl rfl ?_ ?_ <;> (repeat' (first | exact LocLe.refl _ | exact z43 | (refine z65 ?_; assumption) | exact z50 | exact F2.nil | apply F2.cons | exact z61 _ | exact z53 _ | exact z81 | exact f22_cs' | (refine z76 ?_; omega) | (refine z79 ?_; omega) | (refine z37 ?_; omega) | (refine z80 ?_; omega) | (refine z60 ?_; (first | omega | (simp; done) | (simp; omega))) | apply ObjLe.box | ((first | refine z48 rfl ?_ ?_ | refine z49 rfl rfl ?_ ?_ | refine z57 rfl ?_ ?_ | refine z38 rfl ?_ ?_); (focus ((repeat' (first | exact z14 | exact z5 rfl | exact z4 (fun _ => rfl) | exact z4 Tree.co_flat | exact z45 rfl z14 | apply z13 | apply z16 | (refine z51 ?_ _ rfl) | assumption)); done))) | (refine z38 rfl ?_ ?_; (focus (refine z27 ?_ ?_ rfl <;> first | (simp; omega) | (apply z16; exact z4 fun _ => rfl)))) | (refine z35 ?_ ?_; (focus (simp; omega))) | (refine z82 (by omega) (by omega) ?_) | (refine z78 (by omega) ?_) | (refine z64 (by omega) ?_) | (refine z66 ?_; (first | omega | (simp; done))) | (refine z63 ?_ ?_; (focus (first | omega | (simp; done)))) | (refine z68 ?_ ?_; (focus (simp; done))) | (refine z67 ?_) | ((first | apply z56 rfl rfl rfl | apply z47 rfl rfl rfl); (focus ((repeat (first | exact z44 (fun _ => rfl) _ | exact z40 _ | apply z46 | apply z58 | apply z59 | rfl)); done)); (focus ((first | rfl | (simp; omega) | (simp; done)); done))) | apply z77 | apply z75 | (apply z36; rfl) | (refine z36 ?_ ?_; (focus (simp; done))) | apply ObjLe.mk | exact True.intro | apply And.intro))) ?_
  intro i hi
  have e1 := e1 hb1
  have e2 := e2 hb2
  by_cases hil : i < X1.length
  · have x1 := hx i (by omega) hb1 hb2
    have g1 := z123 (S := X1) (i := i) hil
    have g2 := z123 (S := X2) (i := i) (by omega)
    generalize gB X1 i = y1 at *
    generalize gB X2 i = y2 at *
    repeat' ((first | (apply AWP.go ok; rfl) | (apply z41; kernel_rfl) | (refine z85 (i := i) rfl g1 ?_) | (refine z85 (i := i) rfl g2 ?_) | (apply And.intro; first | omega | (unfold inI; omega) | (dsimp only; omega) | ((try dsimp only); simp only [List.length_map, List.length_take, List.length_append, List.length_replicate, List.length_cons, List.length_nil]; omega) | exact z12 (fun _ => rfl) | exact ⟨rfl, z18 rfl z24⟩ | exact ⟨rfl, z12 (fun _ => rfl) _⟩ | exact ⟨⟨rfl, by omega⟩, z12 (fun _ => rfl) _⟩) | ((first | (with_reducible apply z15; omega) | (with_reducible apply z25; omega) | (apply z15; omega)); intro _) | (apply z26; omega) | apply z33 | (apply z32; omega; intro _) | ((first | apply z31 | apply z23 | apply z30 | apply z42 | apply z21 | apply z17 | apply z22 | apply z29) <;> intro _)) <;> conv => whnf)
    all_goals first | (exfalso; omega) | (exfalso; contradiction) | (exfalso; simp_all; done) | skip
    all_goals refine z117 (i + 1) (by omega) (by omega) (by refine SealW.reach [0] [] rfl rfl rfl rfl ?_ ?_ <;> (repeat' (first | exact LocLe.refl _ | exact z43 | (refine z65 ?_; assumption) | exact z50 | exact F2.nil | apply F2.cons | exact z61 _ | exact z53 _ | exact z81 | exact f22_cs' | (refine z76 ?_; omega) | (refine z79 ?_; omega) | (refine z37 ?_; omega) | (refine z80 ?_; omega) | (refine z60 ?_; (first | omega | (simp; done) | (simp; omega))) | apply ObjLe.box | ((first | refine z48 rfl ?_ ?_ | refine z49 rfl rfl ?_ ?_ | refine z57 rfl ?_ ?_ | refine z38 rfl ?_ ?_); (focus ((repeat' (first | exact z14 | exact z5 rfl | exact z4 (fun _ => rfl) | exact z4 Tree.co_flat | exact z45 rfl z14 | apply z13 | apply z16 | (refine z51 ?_ _ rfl) | assumption)); done))) | (refine z38 rfl ?_ ?_; (focus (refine z27 ?_ ?_ rfl <;> first | (simp; omega) | (apply z16; exact z4 fun _ => rfl)))) | (refine z35 ?_ ?_; (focus (simp; omega))) | (refine z82 (by omega) (by omega) ?_) | (refine z78 (by omega) ?_) | (refine z64 (by omega) ?_) | (refine z66 ?_; (first | omega | (simp; done))) | (refine z63 ?_ ?_; (focus (first | omega | (simp; done)))) | (refine z68 ?_ ?_; (focus (simp; done))) | (refine z67 ?_) | ((first | apply z56 rfl rfl rfl | apply z47 rfl rfl rfl); (focus ((repeat (first | exact z44 (fun _ => rfl) _ | exact z40 _ | apply z46 | apply z58 | apply z59 | rfl)); done)); (focus ((first | rfl | (simp; omega) | (simp; done)); done))) | apply z77 | apply z75 | (apply z36; rfl) | (refine z36 ?_ ?_; (focus (simp; done))) | apply ObjLe.mk | exact True.intro | apply And.intro)))
  · repeat' ((first | (apply AWP.go ok; rfl) | (apply z41; kernel_rfl) | (apply And.intro; first | omega | (unfold inI; omega) | (dsimp only; omega) | ((try dsimp only); simp only [List.length_map, List.length_take, List.length_append, List.length_replicate, List.length_cons, List.length_nil]; omega) | exact z12 (fun _ => rfl) | exact ⟨rfl, z18 rfl z24⟩ | exact ⟨rfl, z12 (fun _ => rfl) _⟩ | exact ⟨⟨rfl, by omega⟩, z12 (fun _ => rfl) _⟩) | ((first | (with_reducible apply z15; omega) | (with_reducible apply z25; omega) | (apply z15; omega)); intro _) | (apply z26; omega) | apply z33 | (apply z32; omega; intro _) | ((first | apply z31 | apply z23 | apply z30 | apply z42 | apply z21 | apply z17 | apply z22 | apply z29) <;> intro _)) <;> conv => whnf)
    all_goals first | (exfalso; omega) | skip
    all_goals (refine RetS.lay [] [] rfl rfl rfl ?_; refine RetS.done ?_ ?_ <;> (repeat' (first | exact LocLe.refl _ | exact z43 | (refine z65 ?_; assumption) | exact z50 | exact F2.nil | apply F2.cons | exact z61 _ | exact z53 _ | exact z81 | exact f22_cs' | (refine z76 ?_; omega) | (refine z79 ?_; omega) | (refine z37 ?_; omega) | (refine z80 ?_; omega) | (refine z60 ?_; (first | omega | (simp; done) | (simp; omega))) | apply ObjLe.box | ((first | refine z48 rfl ?_ ?_ | refine z49 rfl rfl ?_ ?_ | refine z57 rfl ?_ ?_ | refine z38 rfl ?_ ?_); (focus ((repeat' (first | exact z14 | exact z5 rfl | exact z4 (fun _ => rfl) | exact z4 Tree.co_flat | exact z45 rfl z14 | apply z13 | apply z16 | (refine z51 ?_ _ rfl) | assumption)); done))) | (refine z38 rfl ?_ ?_; (focus (refine z27 ?_ ?_ rfl <;> first | (simp; omega) | (apply z16; exact z4 fun _ => rfl)))) | (refine z35 ?_ ?_; (focus (simp; omega))) | (refine z82 (by omega) (by omega) ?_) | (refine z78 (by omega) ?_) | (refine z64 (by omega) ?_) | (refine z66 ?_; (first | omega | (simp; done))) | (refine z63 ?_ ?_; (focus (first | omega | (simp; done)))) | (refine z68 ?_ ?_; (focus (simp; done))) | (refine z67 ?_) | ((first | apply z56 rfl rfl rfl | apply z47 rfl rfl rfl); (focus ((repeat (first | exact z44 (fun _ => rfl) _ | exact z40 _ | apply z46 | apply z58 | apply z59 | rfl)); done)); (focus ((first | rfl | (simp; omega) | (simp; done)); done))) | apply z77 | apply z75 | (apply z36; rfl) | (refine z36 ?_ ?_; (focus (simp; done))) | apply ObjLe.mk | exact True.intro | apply And.intro)))
end Go.Proofs.YtkophaoifmofdaaGreat

namespace Go.Proofs.YtkophaoifmofdaaGreat
open Go.Gl
open Go.ChangeShapes Go.WideShapes Go.ChangeAt Go.RowKit
attribute [local irreducible] z90 AWP z100 z109 z103
namespace FnBranchingMonotone
theorem args_ok : ArgsOk Tryz.prog Tryz.f6.params.toList (fun xs _ => ∃ (c : List Int) (d : List Int), xs = [lst 1 enU c, lst 1 enU d] ∧ CodeOk c ∧ CodeOk d) := by
  rw [Tryz.params6]
  refine ArgsOk.imp (args_cons ad_code (args_cons ad_code (args_nil))) ?_
  rintro xs m ⟨c, _, rfl, hc, d, _, rfl, hd, rfl⟩
  exact ⟨c, d, rfl, hc, hd⟩

set_option maxRecDepth 100000 in
theorem contract (H : Type) (enc : TypeId × Value → H) (W : World) (base : Nat) (args : Array Value) (ds gs : List (DataW H)) (before : List MemPlace)
    (hval : ∀ (j : Nat) t v, Tryz.f6.params[j]? = some t → args[j]? = some v → Value.okWide Tryz.prog W .any base t v)
    (hW : DataW.Whole enc Tryz.prog Tryz.f6.params.toList Rows.fnBranchingMonotoneSpec.vars false W args.toList ds gs before) :
    Calls Tryz.prog 6 args W fun e W' => ∃ v, e = .returned v ∧ Rows.fnBranchingMonotoneSpec.post enc Tryz.prog Tryz.f6 false true false false W args v W' := by
  refine law_post bulk_sizeOf laidOut_ok (by rw [Tryz.params6]; decide +kernel) rfl (fun ds h => ?_) (by kernel_rfl) Tryz.underlying4 args_ok (fun xs m h _ => ?_) hval hW
  · rw [Tryz.params6] at h
    match ds, h with
    | [_, _], _ => rfl
  · obtain ⟨c, d, rfl, hc, hd⟩ := h
    exact lawFnBranchingMonotone c hc d hd

noncomputable def w0 (os : Os) : World := World.holding Tryz.prog os ⟨#[], #[], []⟩
def zeros : Array Value := #[.slice none 0 0, .slice none 0 0]
theorem reads (os : Os) {H : Type} (enc : TypeId × Value → H) : ∃ places, DataW.whole enc Tryz.prog ((w0 os).forCall (fun _ _ => 0) ⟨#[], zeros, []⟩).memory Tryz.f6.params.toList Rows.fnBranchingMonotoneSpec.vars false zeros.toList 8 = some ([.nil, .nil], [], places) :=
  ⟨[], by kernel_rfl⟩

set_option maxRecDepth 100000 in
theorem lifted (os : Os) (started : os.Started) (H : Type) (enc : TypeId × Value → H) (F : Stop.Interp) :
    ReturnsInHanded {} Tryz.checked os 6 .any ((OpenSpec.ofChange Rows.fnBranchingMonotoneSpec).preRow enc Tryz.prog Tryz.f6 Rows.fnBranchingMonotoneRow.domain false Rows.fnBranchingMonotoneRow.laid) (((OpenSpec.ofChange Rows.fnBranchingMonotoneSpec).at F).post enc Tryz.prog Tryz.f6 false true false false) := by
  obtain ⟨places, hx⟩ := reads os enc
  refine returnsInHanded_of_row (C := Tryz.checked) (s := OpenSpec.ofChange Rows.fnBranchingMonotoneSpec) own started (by kernel_rfl) Tryz.func6
    (witness_row_at (enc := enc) (C := Tryz.checked) false (w0 os) zeros rfl (by kernel_rfl) (by kernel_rfl) (by kernel_rfl)
      (OpenSpec.preRow_of_cond 8 hx (by kernel_rfl) (fun k hk => by cases hk) (by kernel_rfl) (laidMetH_nil _ _))) ?_
  intro W base args ds gs before hval hW _ _ _ _ _ _
  exact contract H enc W base args ds gs before hval hW

set_option maxHeartbeats 40000000 in
set_option maxRecDepth 100000 in
theorem closed : joinedFacts Tryz.prog 6 Tryz.f6 (OpenSpec.ofChange Rows.fnBranchingMonotoneSpec).bare Rows.fnBranchingMonotoneRow = true := by
  unfold joinedFacts
  repeat' (with_reducible apply and_mk)
  all_goals (as_aux_lemma => kernel_rfl)
theorem proved : Rows.FnBranchingMonotoneSaid :=
  OpenClaim.holds_of_cond 6 Tryz.f6 rfl rfl rfl rfl rfl rfl rfl ⟨rfl, rfl, rfl, rfl, rfl⟩ rfl rfl rfl rfl rfl (by kernel_rfl) Tryz.func6 closed
    (of_decide_eq_true (by kernel_rfl)) (by unfold Func.isWrapper; first | (rw [if_pos (by decide +kernel)]; kernel_rfl) | (rw [if_neg (by decide +kernel)]; exact ⟨rfl, rfl⟩))
    (fun os started H enc _ F => by rw [OpenClaim.pre_eq_preRow]; exact lifted os started H enc F)
end FnBranchingMonotone
end Go.Proofs.YtkophaoifmofdaaGreat

