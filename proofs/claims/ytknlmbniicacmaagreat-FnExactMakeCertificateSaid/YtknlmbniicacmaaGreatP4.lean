/- A part of the proofs over this program: T31, T32, T33, T90, T91, T92, T93, T94, T140, T141, T142, T143, T144, T145, T146, T147, T148, T149, T150, T151, T152, T34, T35. -/
import Derived.Test.YtknlmbniicacmaaGreatG0
import Derived.Test.YtknlmbniicacmaaGreatG1
import Derived.Test.YtknlmbniicacmaaGreatG2
import Derived.Test.YtknlmbniicacmaaGreatG3
import Derived.Test.YtknlmbniicacmaaGreatP0
import Derived.Test.YtknlmbniicacmaaGreatP1
import Derived.Test.YtknlmbniicacmaaGreatP2
import Derived.Test.YtknlmbniicacmaaGreatP3
set_option linter.all false
namespace Go.Proofs.YtknlmbniicacmaaGreat
open Go.Gl
attribute [local irreducible] z22 AWP z46 z54 z51

def State.co (s : State) : List AC := [.own 1 (s.a.map enI), .own 1 (s.b.map enI)]

theorem toIntS_new (l : List Int) (hl : l.length ≤ 1048576) : CallsA Tryz.prog 122 [ints l] [] (.sref 0 0 l.length) [.cells 1 (l.map enI)] := by
  refine z7 z28 Tryz.func122 rfl rfl 22 Tryz.ntmps122 (by simp) ?_
  repeat' (first | (apply AWP.go ok; rfl; conv => whnf) | (apply z5; kernel_rfl; conv => whnf) | (apply And.intro; (first | omega | (unfold inI; omega) | (dsimp only; omega) | (unfold z25; omega) | ((try dsimp only); simp only [List.length_map, List.length_take, List.length_append, List.length_replicate, List.length_cons, List.length_nil]; omega) | (simp only [z38] at *; first | omega | (unfold inI; omega) | (unfold z25; omega)) | exact z6 (fun _ => rfl) | exact ⟨rfl, z12 rfl z20⟩ | exact ⟨rfl, z6 (fun _ => rfl) _⟩ | exact ⟨⟨rfl, by omega⟩, z6 (fun _ => rfl) _⟩); conv => whnf) | (with_reducible apply z3; omega; intro _; conv => whnf) | (with_reducible apply z30; omega; intro _; conv => whnf) | (apply z3; omega; intro _; conv => whnf) | (apply z35; omega; conv => whnf) | (apply z45; conv => whnf) | (apply z49; omega; intro _; conv => whnf) | (apply z53 <;> intro _ <;> conv => whnf) | (apply z36 <;> intro _ <;> conv => whnf) | (apply z52 <;> intro _ <;> conv => whnf) | (apply z63 <;> intro _ <;> conv => whnf) | (apply z2 <;> intro _ <;> conv => whnf) | (apply z8 <;> intro _ <;> conv => whnf) | (apply z24 <;> intro _ <;> conv => whnf) | (apply z34 <;> intro _ <;> conv => whnf))
  refine z85 (fun k : Nat => ([(0, ints l), (3, .sref 0 0 l.length), (4, .int k)], [.cells 1 ((l.take k).map enI ++ List.replicate (l.length - k) [.int 0])])) (fun k => k ≤ l.length) (fun k => l.length - k) 0 (by omega) ⟨[0], rfl, by decide, rfl, by repeat' (first | exact True.intro | exact ⟨rfl, rfl⟩ | apply And.intro), by repeat' (first | exact True.intro | exact z31 rfl rfl | exact z10 (by rfl) (by (first | exact z17 | exact z1 rfl | exact z0 (fun _ => rfl) | exact z0 Tree.co_flat | (apply z9 <;> (first | exact z1 rfl | exact z0 (fun _ => rfl))) | assumption)) | apply And.intro)⟩ ?_
  intro k hk
  repeat' (first | (apply AWP.go ok; rfl; conv => whnf) | (apply z5; kernel_rfl; conv => whnf) | (apply And.intro; (first | omega | (unfold inI; omega) | (dsimp only; omega) | (unfold z25; omega) | ((try dsimp only); simp only [List.length_map, List.length_take, List.length_append, List.length_replicate, List.length_cons, List.length_nil]; omega) | (simp only [z38] at *; first | omega | (unfold inI; omega) | (unfold z25; omega)) | exact z6 (fun _ => rfl) | exact ⟨rfl, z12 rfl z20⟩ | exact ⟨rfl, z6 (fun _ => rfl) _⟩ | exact ⟨⟨rfl, by omega⟩, z6 (fun _ => rfl) _⟩); conv => whnf) | (with_reducible apply z3; omega; intro _; conv => whnf) | (with_reducible apply z30; omega; intro _; conv => whnf) | (apply z3; omega; intro _; conv => whnf) | (apply z35; omega; conv => whnf) | (apply z45; conv => whnf) | (apply z49; omega; intro _; conv => whnf) | (apply z53 <;> intro _ <;> conv => whnf) | (apply z36 <;> intro _ <;> conv => whnf) | (apply z52 <;> intro _ <;> conv => whnf) | (apply z63 <;> intro _ <;> conv => whnf) | (apply z2 <;> intro _ <;> conv => whnf) | (apply z8 <;> intro _ <;> conv => whnf) | (apply z24 <;> intro _ <;> conv => whnf) | (apply z34 <;> intro _ <;> conv => whnf))
  · exact z75 (k + 1) [0] (by omega) (by omega) ⟨rfl, by decide, rfl, ⟨⟨rfl, rfl⟩, ⟨rfl, rfl⟩, ⟨rfl, rfl⟩, trivial⟩, ⟨obj_fill (by omega) rfl rfl rfl (fun _ => rfl) rfl, trivial⟩⟩
  · obtain rfl : k = l.length := by omega
    exact ret_new rfl (z0 fun _ => rfl) rfl (fill_end _ _ _ _ rfl)

theorem toState_new (s : State) (h : s.small) : CallsA Tryz.prog 192 [.agg s.cs] [] (.agg [.sref 0 0 s.a.length, .sref 1 0 s.b.length]) [.cells 1 (s.a.map enI), .cells 1 (s.b.map enI)] := by
  refine z7 z28 Tryz.func192 rfl rfl 13 Tryz.ntmps192 (by simp) ?_
  repeat' (first | (apply AWP.go ok; rfl; conv => whnf) | (apply z5; kernel_rfl; conv => whnf) | (apply And.intro; (first | omega | (unfold inI; omega) | (dsimp only; omega) | (unfold z25; omega) | ((try dsimp only); simp only [List.length_map, List.length_take, List.length_append, List.length_replicate, List.length_cons, List.length_nil]; omega) | (simp only [z38] at *; first | omega | (unfold inI; omega) | (unfold z25; omega)) | exact z6 (fun _ => rfl) | exact ⟨rfl, z12 rfl z20⟩ | exact ⟨rfl, z6 (fun _ => rfl) _⟩ | exact ⟨⟨rfl, by omega⟩, z6 (fun _ => rfl) _⟩); conv => whnf) | (with_reducible apply z3; omega; intro _; conv => whnf) | (with_reducible apply z30; omega; intro _; conv => whnf) | (apply z3; omega; intro _; conv => whnf) | (apply z35; omega; conv => whnf) | (apply z45; conv => whnf) | (apply z49; omega; intro _; conv => whnf) | (apply z53 <;> intro _ <;> conv => whnf) | (apply z36 <;> intro _ <;> conv => whnf) | (apply z52 <;> intro _ <;> conv => whnf) | (apply z63 <;> intro _ <;> conv => whnf) | (apply z2 <;> intro _ <;> conv => whnf) | (apply z8 <;> intro _ <;> conv => whnf) | (apply z24 <;> intro _ <;> conv => whnf) | (apply z34 <;> intro _ <;> conv => whnf) | (apply z21 [] [] [3] (toIntS_new s.a h.1); rfl; (focus ((repeat' (first | exact z11 | apply z29)) <;> (first | rfl | (refine z47 rfl ?_; (first | exact z17 | exact z1 rfl | exact z0 (fun _ => rfl) | exact z0 Tree.co_flat | (apply z9 <;> (first | exact z1 rfl | exact z0 (fun _ => rfl))) | assumption))))); rfl; rfl; rfl; rfl; rfl; (focus ((repeat' (first | exact z27 | apply z26)) <;> (first | exact z82 | exact z74 rfl rfl | (refine z39 ?_; (first | exact z17 | exact z1 rfl | exact z0 (fun _ => rfl) | exact z0 Tree.co_flat | (apply z9 <;> (first | exact z1 rfl | exact z0 (fun _ => rfl))) | assumption))))); (first | exact .inl rfl | (refine .inr ⟨rfl, ?_⟩; repeat' (first | exact True.intro | apply And.intro | exact rfl | exact z50 (fun _ => rfl) _))); conv => whnf) | (apply z21 [] [] [4] (toIntS_new s.b h.2); rfl; (focus ((repeat' (first | exact z11 | apply z29)) <;> (first | rfl | (refine z47 rfl ?_; (first | exact z17 | exact z1 rfl | exact z0 (fun _ => rfl) | exact z0 Tree.co_flat | (apply z9 <;> (first | exact z1 rfl | exact z0 (fun _ => rfl))) | assumption))))); rfl; rfl; rfl; rfl; rfl; (focus ((repeat' (first | exact z27 | apply z26)) <;> (first | exact z82 | exact z74 rfl rfl | (refine z39 ?_; (first | exact z17 | exact z1 rfl | exact z0 (fun _ => rfl) | exact z0 Tree.co_flat | (apply z9 <;> (first | exact z1 rfl | exact z0 (fun _ => rfl))) | assumption))))); (first | exact .inl rfl | (refine .inr ⟨rfl, ?_⟩; repeat' (first | exact True.intro | apply And.intro | exact rfl | exact z50 (fun _ => rfl) _))); conv => whnf))
  exact z84 [3, 4] (by decide) rfl rfl rfl ⟨z10 rfl (z0 fun _ => rfl), z10 rfl (z0 fun _ => rfl), trivial⟩

theorem toStateS_new (l : List State) (hl : l.length ≤ 1048576) (hm : ∀ s ∈ l, s.small) : CallsA Tryz.prog 119 [lst 2 State.cs l] [] (.sref 0 0 l.length) [.cells 2 (l.map State.co)] := by
  refine z7 z28 Tryz.func119 rfl rfl 23 Tryz.ntmps119 (by simp) ?_
  repeat' (first | (apply AWP.go ok; rfl; conv => whnf) | (apply z5; kernel_rfl; conv => whnf) | (apply And.intro; (first | omega | (unfold inI; omega) | (dsimp only; omega) | (unfold z25; omega) | ((try dsimp only); simp only [List.length_map, List.length_take, List.length_append, List.length_replicate, List.length_cons, List.length_nil]; omega) | (simp only [z38] at *; first | omega | (unfold inI; omega) | (unfold z25; omega)) | exact z6 (fun _ => rfl) | exact ⟨rfl, z12 rfl z20⟩ | exact ⟨rfl, z6 (fun _ => rfl) _⟩ | exact ⟨⟨rfl, by omega⟩, z6 (fun _ => rfl) _⟩); conv => whnf) | (with_reducible apply z3; omega; intro _; conv => whnf) | (with_reducible apply z30; omega; intro _; conv => whnf) | (apply z3; omega; intro _; conv => whnf) | (apply z35; omega; conv => whnf) | (apply z45; conv => whnf) | (apply z49; omega; intro _; conv => whnf) | (apply z53 <;> intro _ <;> conv => whnf) | (apply z36 <;> intro _ <;> conv => whnf) | (apply z52 <;> intro _ <;> conv => whnf) | (apply z63 <;> intro _ <;> conv => whnf) | (apply z2 <;> intro _ <;> conv => whnf) | (apply z8 <;> intro _ <;> conv => whnf) | (apply z24 <;> intro _ <;> conv => whnf) | (apply z34 <;> intro _ <;> conv => whnf))
  refine z85 (fun k : Nat => ([(0, lst 2 State.cs l), (3, .sref 0 0 l.length), (4, .int k)], [.cells 2 ((l.take k).map State.co ++ List.replicate (l.length - k) [.nils, .nils])])) (fun k => k ≤ l.length) (fun k => l.length - k) 0 (by omega) ⟨[0], rfl, by decide, rfl, by repeat' (first | exact True.intro | exact ⟨rfl, rfl⟩ | apply And.intro), by repeat' (first | exact True.intro | exact z31 rfl rfl | exact z10 (by rfl) (by (first | exact z17 | exact z1 rfl | exact z0 (fun _ => rfl) | exact z0 Tree.co_flat | (apply z9 <;> (first | exact z1 rfl | exact z0 (fun _ => rfl))) | assumption)) | apply And.intro)⟩ ?_
  intro k hk
  by_cases hkl : k < l.length
  · repeat' (first | ((fail_if_success apply z69 4); (fail_if_success apply z57 4); apply AWP.go ok; rfl; conv => whnf) | (apply z5; kernel_rfl; conv => whnf) | (apply And.intro; (first | omega | (unfold inI; omega) | (dsimp only; omega) | (unfold z25; omega) | ((try dsimp only); simp only [List.length_map, List.length_take, List.length_append, List.length_replicate, List.length_cons, List.length_nil]; omega) | (simp only [z38] at *; first | omega | (unfold inI; omega) | (unfold z25; omega)) | exact z6 (fun _ => rfl) | exact ⟨rfl, z12 rfl z20⟩ | exact ⟨rfl, z6 (fun _ => rfl) _⟩ | exact ⟨⟨rfl, by omega⟩, z6 (fun _ => rfl) _⟩); conv => whnf) | (with_reducible apply z3; omega; intro _; conv => whnf) | (with_reducible apply z30; omega; intro _; conv => whnf) | (apply z3; omega; intro _; conv => whnf) | (apply z35; omega; conv => whnf) | (apply z45; conv => whnf) | (apply z49; omega; intro _; conv => whnf) | (apply z53 <;> intro _ <;> conv => whnf) | (apply z36 <;> intro _ <;> conv => whnf) | (apply z52 <;> intro _ <;> conv => whnf) | (apply z63 <;> intro _ <;> conv => whnf) | (apply z2 <;> intro _ <;> conv => whnf) | (apply z8 <;> intro _ <;> conv => whnf) | (apply z24 <;> intro _ <;> conv => whnf) | (apply z34 <;> intro _ <;> conv => whnf) | (apply z21 [] [] [1, 2] (toState_new l[k] (hm _ (List.getElem_mem _))); rfl; (focus ((repeat' (first | exact z11 | apply z29)) <;> (first | rfl | (refine z47 rfl ?_; (first | exact z17 | exact z1 rfl | exact z0 (fun _ => rfl) | exact z0 Tree.co_flat | (apply z9 <;> (first | exact z1 rfl | exact z0 (fun _ => rfl))) | assumption))))); rfl; rfl; rfl; rfl; rfl; (focus ((repeat' (first | exact z27 | apply z26)) <;> (first | exact z82 | exact z74 rfl rfl | (refine z39 ?_; (first | exact z17 | exact z1 rfl | exact z0 (fun _ => rfl) | exact z0 Tree.co_flat | (apply z9 <;> (first | exact z1 rfl | exact z0 (fun _ => rfl))) | assumption))))); (first | exact .inl rfl | (refine .inr ⟨rfl, ?_⟩; repeat' (first | exact True.intro | apply And.intro | exact rfl | exact z50 (fun _ => rfl) _))); conv => whnf))
    · refine AWP.reach (Gl.Reach.absorb 0 1 k 0 rfl (getset rfl (by rw [fill_len hk]; exact hkl)) rfl rfl (by simp) rfl (z0 fun _ => rfl) rfl) ?_
      conv => whnf
      refine AWP.reach (Gl.Reach.absorb 0 2 k 1 rfl (getset rfl (by rw [List.length_set, fill_len hk]; exact hkl)) rfl rfl (by simp) rfl (z0 fun _ => rfl) rfl) ?_
      conv => whnf
      repeat' (first | (apply AWP.go ok; rfl; conv => whnf) | (apply z5; kernel_rfl; conv => whnf) | (apply And.intro; (first | omega | (unfold inI; omega) | (dsimp only; omega) | (unfold z25; omega) | ((try dsimp only); simp only [List.length_map, List.length_take, List.length_append, List.length_replicate, List.length_cons, List.length_nil]; omega) | (simp only [z38] at *; first | omega | (unfold inI; omega) | (unfold z25; omega)) | exact z6 (fun _ => rfl) | exact ⟨rfl, z12 rfl z20⟩ | exact ⟨rfl, z6 (fun _ => rfl) _⟩ | exact ⟨⟨rfl, by omega⟩, z6 (fun _ => rfl) _⟩); conv => whnf) | (with_reducible apply z3; omega; intro _; conv => whnf) | (with_reducible apply z30; omega; intro _; conv => whnf) | (apply z3; omega; intro _; conv => whnf) | (apply z35; omega; conv => whnf) | (apply z45; conv => whnf) | (apply z49; omega; intro _; conv => whnf) | (apply z53 <;> intro _ <;> conv => whnf) | (apply z36 <;> intro _ <;> conv => whnf) | (apply z52 <;> intro _ <;> conv => whnf) | (apply z63 <;> intro _ <;> conv => whnf) | (apply z2 <;> intro _ <;> conv => whnf) | (apply z8 <;> intro _ <;> conv => whnf) | (apply z24 <;> intro _ <;> conv => whnf) | (apply z34 <;> intro _ <;> conv => whnf))
      exact z75 (k + 1) [0] (by omega) (by omega) ⟨rfl, by decide, rfl, ⟨⟨rfl, rfl⟩, ⟨rfl, rfl⟩, ⟨rfl, rfl⟩, trivial⟩, ⟨z10 (z16 (fill_set3 hkl rfl rfl)) (z9 (z0 fun _ => rfl) (z1 rfl)), trivial⟩⟩
    · omega
  · repeat' (first | (apply AWP.go ok; rfl; conv => whnf) | (apply z5; kernel_rfl; conv => whnf) | (apply And.intro; (first | omega | (unfold inI; omega) | (dsimp only; omega) | (unfold z25; omega) | ((try dsimp only); simp only [List.length_map, List.length_take, List.length_append, List.length_replicate, List.length_cons, List.length_nil]; omega) | (simp only [z38] at *; first | omega | (unfold inI; omega) | (unfold z25; omega)) | exact z6 (fun _ => rfl) | exact ⟨rfl, z12 rfl z20⟩ | exact ⟨rfl, z6 (fun _ => rfl) _⟩ | exact ⟨⟨rfl, by omega⟩, z6 (fun _ => rfl) _⟩); conv => whnf) | (with_reducible apply z3; omega; intro _; conv => whnf) | (with_reducible apply z30; omega; intro _; conv => whnf) | (apply z3; omega; intro _; conv => whnf) | (apply z35; omega; conv => whnf) | (apply z45; conv => whnf) | (apply z49; omega; intro _; conv => whnf) | (apply z53 <;> intro _ <;> conv => whnf) | (apply z36 <;> intro _ <;> conv => whnf) | (apply z52 <;> intro _ <;> conv => whnf) | (apply z63 <;> intro _ <;> conv => whnf) | (apply z2 <;> intro _ <;> conv => whnf) | (apply z8 <;> intro _ <;> conv => whnf) | (apply z24 <;> intro _ <;> conv => whnf) | (apply z34 <;> intro _ <;> conv => whnf))
    · omega
    · obtain rfl : k = l.length := by omega
      exact ret_new rfl (z0 fun _ => rfl) rfl (fill_end _ _ _ _ rfl)

theorem toIntSS_new (l : List (List Int)) (hl : l.length ≤ 1048576) (hm : ∀ s ∈ l, s.length ≤ 1048576) : CallsA Tryz.prog 120 [lst 1 encL l] [] (.sref 0 0 l.length) [.cells 1 (l.map ownRow)] := by
  refine z7 z28 Tryz.func120 rfl rfl 23 Tryz.ntmps120 (by simp) ?_
  repeat' (first | (apply AWP.go ok; rfl; conv => whnf) | (apply z5; kernel_rfl; conv => whnf) | (apply And.intro; (first | omega | (unfold inI; omega) | (dsimp only; omega) | (unfold z25; omega) | ((try dsimp only); simp only [List.length_map, List.length_take, List.length_append, List.length_replicate, List.length_cons, List.length_nil]; omega) | (simp only [z38] at *; first | omega | (unfold inI; omega) | (unfold z25; omega)) | exact z6 (fun _ => rfl) | exact ⟨rfl, z12 rfl z20⟩ | exact ⟨rfl, z6 (fun _ => rfl) _⟩ | exact ⟨⟨rfl, by omega⟩, z6 (fun _ => rfl) _⟩); conv => whnf) | (with_reducible apply z3; omega; intro _; conv => whnf) | (with_reducible apply z30; omega; intro _; conv => whnf) | (apply z3; omega; intro _; conv => whnf) | (apply z35; omega; conv => whnf) | (apply z45; conv => whnf) | (apply z49; omega; intro _; conv => whnf) | (apply z53 <;> intro _ <;> conv => whnf) | (apply z36 <;> intro _ <;> conv => whnf) | (apply z52 <;> intro _ <;> conv => whnf) | (apply z63 <;> intro _ <;> conv => whnf) | (apply z2 <;> intro _ <;> conv => whnf) | (apply z8 <;> intro _ <;> conv => whnf) | (apply z24 <;> intro _ <;> conv => whnf) | (apply z34 <;> intro _ <;> conv => whnf))
  refine z85 (fun k : Nat => ([(0, lst 1 encL l), (3, .sref 0 0 l.length), (4, .int k)], [.cells 1 ((l.take k).map ownRow ++ List.replicate (l.length - k) [.nils])])) (fun k => k ≤ l.length) (fun k => l.length - k) 0 (by omega) ⟨[0], rfl, by decide, rfl, by repeat' (first | exact True.intro | exact ⟨rfl, rfl⟩ | apply And.intro), by repeat' (first | exact True.intro | exact z31 rfl rfl | exact z10 (by rfl) (by (first | exact z17 | exact z1 rfl | exact z0 (fun _ => rfl) | exact z0 Tree.co_flat | (apply z9 <;> (first | exact z1 rfl | exact z0 (fun _ => rfl))) | assumption)) | apply And.intro)⟩ ?_
  intro k hk
  by_cases hkl : k < l.length
  · repeat' (first | ((fail_if_success apply z69 4); (fail_if_success apply z57 4); apply AWP.go ok; rfl; conv => whnf) | (apply z5; kernel_rfl; conv => whnf) | (apply And.intro; (first | omega | (unfold inI; omega) | (dsimp only; omega) | (unfold z25; omega) | ((try dsimp only); simp only [List.length_map, List.length_take, List.length_append, List.length_replicate, List.length_cons, List.length_nil]; omega) | (simp only [z38] at *; first | omega | (unfold inI; omega) | (unfold z25; omega)) | exact z6 (fun _ => rfl) | exact ⟨rfl, z12 rfl z20⟩ | exact ⟨rfl, z6 (fun _ => rfl) _⟩ | exact ⟨⟨rfl, by omega⟩, z6 (fun _ => rfl) _⟩); conv => whnf) | (with_reducible apply z3; omega; intro _; conv => whnf) | (with_reducible apply z30; omega; intro _; conv => whnf) | (apply z3; omega; intro _; conv => whnf) | (apply z35; omega; conv => whnf) | (apply z45; conv => whnf) | (apply z49; omega; intro _; conv => whnf) | (apply z53 <;> intro _ <;> conv => whnf) | (apply z36 <;> intro _ <;> conv => whnf) | (apply z52 <;> intro _ <;> conv => whnf) | (apply z63 <;> intro _ <;> conv => whnf) | (apply z2 <;> intro _ <;> conv => whnf) | (apply z8 <;> intro _ <;> conv => whnf) | (apply z24 <;> intro _ <;> conv => whnf) | (apply z34 <;> intro _ <;> conv => whnf) | (apply z21 [] [] [1] (toIntS_new l[k] (hm _ (List.getElem_mem _))); rfl; (focus ((repeat' (first | exact z11 | apply z29)) <;> (first | rfl | (refine z47 rfl ?_; (first | exact z17 | exact z1 rfl | exact z0 (fun _ => rfl) | exact z0 Tree.co_flat | (apply z9 <;> (first | exact z1 rfl | exact z0 (fun _ => rfl))) | assumption))))); rfl; rfl; rfl; rfl; rfl; (focus ((repeat' (first | exact z27 | apply z26)) <;> (first | exact z82 | exact z74 rfl rfl | (refine z39 ?_; (first | exact z17 | exact z1 rfl | exact z0 (fun _ => rfl) | exact z0 Tree.co_flat | (apply z9 <;> (first | exact z1 rfl | exact z0 (fun _ => rfl))) | assumption))))); (first | exact .inl rfl | (refine .inr ⟨rfl, ?_⟩; repeat' (first | exact True.intro | apply And.intro | exact rfl | exact z50 (fun _ => rfl) _))); conv => whnf))
    · refine AWP.reach (Gl.Reach.absorb 0 1 k 0 rfl (getset rfl (by rw [fill_len hk]; exact hkl)) rfl rfl (by simp) rfl (z0 fun _ => rfl) rfl) ?_
      conv => whnf
      repeat' (first | (apply AWP.go ok; rfl; conv => whnf) | (apply z5; kernel_rfl; conv => whnf) | (apply And.intro; (first | omega | (unfold inI; omega) | (dsimp only; omega) | (unfold z25; omega) | ((try dsimp only); simp only [List.length_map, List.length_take, List.length_append, List.length_replicate, List.length_cons, List.length_nil]; omega) | (simp only [z38] at *; first | omega | (unfold inI; omega) | (unfold z25; omega)) | exact z6 (fun _ => rfl) | exact ⟨rfl, z12 rfl z20⟩ | exact ⟨rfl, z6 (fun _ => rfl) _⟩ | exact ⟨⟨rfl, by omega⟩, z6 (fun _ => rfl) _⟩); conv => whnf) | (with_reducible apply z3; omega; intro _; conv => whnf) | (with_reducible apply z30; omega; intro _; conv => whnf) | (apply z3; omega; intro _; conv => whnf) | (apply z35; omega; conv => whnf) | (apply z45; conv => whnf) | (apply z49; omega; intro _; conv => whnf) | (apply z53 <;> intro _ <;> conv => whnf) | (apply z36 <;> intro _ <;> conv => whnf) | (apply z52 <;> intro _ <;> conv => whnf) | (apply z63 <;> intro _ <;> conv => whnf) | (apply z2 <;> intro _ <;> conv => whnf) | (apply z8 <;> intro _ <;> conv => whnf) | (apply z24 <;> intro _ <;> conv => whnf) | (apply z34 <;> intro _ <;> conv => whnf))
      exact z75 (k + 1) [0] (by omega) (by omega) ⟨rfl, by decide, rfl, ⟨⟨rfl, rfl⟩, ⟨rfl, rfl⟩, ⟨rfl, rfl⟩, trivial⟩, ⟨z10 (z16 (fill_set2 hkl rfl rfl)) (z9 (z0 fun _ => rfl) (z1 rfl)), trivial⟩⟩
    · omega
  · repeat' (first | (apply AWP.go ok; rfl; conv => whnf) | (apply z5; kernel_rfl; conv => whnf) | (apply And.intro; (first | omega | (unfold inI; omega) | (dsimp only; omega) | (unfold z25; omega) | ((try dsimp only); simp only [List.length_map, List.length_take, List.length_append, List.length_replicate, List.length_cons, List.length_nil]; omega) | (simp only [z38] at *; first | omega | (unfold inI; omega) | (unfold z25; omega)) | exact z6 (fun _ => rfl) | exact ⟨rfl, z12 rfl z20⟩ | exact ⟨rfl, z6 (fun _ => rfl) _⟩ | exact ⟨⟨rfl, by omega⟩, z6 (fun _ => rfl) _⟩); conv => whnf) | (with_reducible apply z3; omega; intro _; conv => whnf) | (with_reducible apply z30; omega; intro _; conv => whnf) | (apply z3; omega; intro _; conv => whnf) | (apply z35; omega; conv => whnf) | (apply z45; conv => whnf) | (apply z49; omega; intro _; conv => whnf) | (apply z53 <;> intro _ <;> conv => whnf) | (apply z36 <;> intro _ <;> conv => whnf) | (apply z52 <;> intro _ <;> conv => whnf) | (apply z63 <;> intro _ <;> conv => whnf) | (apply z2 <;> intro _ <;> conv => whnf) | (apply z8 <;> intro _ <;> conv => whnf) | (apply z24 <;> intro _ <;> conv => whnf) | (apply z34 <;> intro _ <;> conv => whnf))
    · omega
    · obtain rfl : k = l.length := by omega
      exact ret_new rfl (z0 fun _ => rfl) rfl (fill_end _ _ _ _ rfl)

theorem toGraph_new (g : Graph) (c0 : CallsA Tryz.prog 119 [lst 2 State.cs g.st] [] (.sref 0 0 g.st.length) [.cells 2 (g.st.map State.co)]) (c1 : CallsA Tryz.prog 120 [lst 1 encL g.nx] [] (.sref 0 0 g.nx.length) [.cells 1 (g.nx.map ownRow)]) :
    CallsA Tryz.prog 37 [.agg g.cs] [] (.agg [.sref 0 0 g.st.length, .sref 1 0 g.nx.length]) [.cells 2 (g.st.map State.co), .cells 1 (g.nx.map ownRow)] := by
  refine z7 z28 Tryz.func37 rfl rfl 13 Tryz.ntmps37 (by simp) ?_
  repeat' (first | (apply AWP.go ok; rfl; conv => whnf) | (apply z5; kernel_rfl; conv => whnf) | (apply And.intro; (first | omega | (unfold inI; omega) | (dsimp only; omega) | (unfold z25; omega) | ((try dsimp only); simp only [List.length_map, List.length_take, List.length_append, List.length_replicate, List.length_cons, List.length_nil]; omega) | (simp only [z38] at *; first | omega | (unfold inI; omega) | (unfold z25; omega)) | exact z6 (fun _ => rfl) | exact ⟨rfl, z12 rfl z20⟩ | exact ⟨rfl, z6 (fun _ => rfl) _⟩ | exact ⟨⟨rfl, by omega⟩, z6 (fun _ => rfl) _⟩); conv => whnf) | (with_reducible apply z3; omega; intro _; conv => whnf) | (with_reducible apply z30; omega; intro _; conv => whnf) | (apply z3; omega; intro _; conv => whnf) | (apply z35; omega; conv => whnf) | (apply z45; conv => whnf) | (apply z49; omega; intro _; conv => whnf) | (apply z53 <;> intro _ <;> conv => whnf) | (apply z36 <;> intro _ <;> conv => whnf) | (apply z52 <;> intro _ <;> conv => whnf) | (apply z63 <;> intro _ <;> conv => whnf) | (apply z2 <;> intro _ <;> conv => whnf) | (apply z8 <;> intro _ <;> conv => whnf) | (apply z24 <;> intro _ <;> conv => whnf) | (apply z34 <;> intro _ <;> conv => whnf) | (apply z21 [] [] [3] (c0); rfl; (focus ((repeat' (first | exact z11 | apply z29)) <;> (first | rfl | (refine z47 rfl ?_; (first | exact z17 | exact z1 rfl | exact z0 (fun _ => rfl) | exact z0 Tree.co_flat | (apply z9 <;> (first | exact z1 rfl | exact z0 (fun _ => rfl))) | assumption))))); rfl; rfl; rfl; rfl; rfl; (focus ((repeat' (first | exact z27 | apply z26)) <;> (first | exact z82 | exact z74 rfl rfl | (refine z39 ?_; (first | exact z17 | exact z1 rfl | exact z0 (fun _ => rfl) | exact z0 Tree.co_flat | (apply z9 <;> (first | exact z1 rfl | exact z0 (fun _ => rfl))) | assumption))))); (first | exact .inl rfl | (refine .inr ⟨rfl, ?_⟩; repeat' (first | exact True.intro | apply And.intro | exact rfl | exact z50 (fun _ => rfl) _))); conv => whnf) | (apply z21 [] [] [4] (c1); rfl; (focus ((repeat' (first | exact z11 | apply z29)) <;> (first | rfl | (refine z47 rfl ?_; (first | exact z17 | exact z1 rfl | exact z0 (fun _ => rfl) | exact z0 Tree.co_flat | (apply z9 <;> (first | exact z1 rfl | exact z0 (fun _ => rfl))) | assumption))))); rfl; rfl; rfl; rfl; rfl; (focus ((repeat' (first | exact z27 | apply z26)) <;> (first | exact z82 | exact z74 rfl rfl | (refine z39 ?_; (first | exact z17 | exact z1 rfl | exact z0 (fun _ => rfl) | exact z0 Tree.co_flat | (apply z9 <;> (first | exact z1 rfl | exact z0 (fun _ => rfl))) | assumption))))); (first | exact .inl rfl | (refine .inr ⟨rfl, ?_⟩; repeat' (first | exact True.intro | apply And.intro | exact rfl | exact z50 (fun _ => rfl) _))); conv => whnf))
  exact z84 [3, 4] (by decide) rfl rfl rfl ⟨z10 rfl (z0 fun _ => rfl), z10 rfl (z0 fun _ => rfl), trivial⟩

theorem toExprS_new (l : List Tree) (hl : l.length ≤ 1048576) (hel : ∀ t ∈ l, CallsA Tryz.prog 121 [z70 Tree.cs' t] [] (.agg [.int t.kind, .int t.val, .sref 0 0 t.kids.length]) [.cells 3 (t.kids.map Tree.co)]) : CallsA Tryz.prog 38 [lst 3 Tree.cs' l] [] (.sref 0 0 l.length) [.cells 3 (l.map Tree.co')] := by
  refine z7 z28 Tryz.func38 rfl rfl 23 Tryz.ntmps38 (by simp) ?_
  repeat' (first | (apply AWP.go ok; rfl; conv => whnf) | (apply z5; kernel_rfl; conv => whnf) | (apply And.intro; (first | omega | (unfold inI; omega) | (dsimp only; omega) | (unfold z25; omega) | ((try dsimp only); simp only [List.length_map, List.length_take, List.length_append, List.length_replicate, List.length_cons, List.length_nil]; omega) | (simp only [z38] at *; first | omega | (unfold inI; omega) | (unfold z25; omega)) | exact z6 (fun _ => rfl) | exact ⟨rfl, z12 rfl z20⟩ | exact ⟨rfl, z6 (fun _ => rfl) _⟩ | exact ⟨⟨rfl, by omega⟩, z6 (fun _ => rfl) _⟩); conv => whnf) | (with_reducible apply z3; omega; intro _; conv => whnf) | (with_reducible apply z30; omega; intro _; conv => whnf) | (apply z3; omega; intro _; conv => whnf) | (apply z35; omega; conv => whnf) | (apply z45; conv => whnf) | (apply z49; omega; intro _; conv => whnf) | (apply z53 <;> intro _ <;> conv => whnf) | (apply z36 <;> intro _ <;> conv => whnf) | (apply z52 <;> intro _ <;> conv => whnf) | (apply z63 <;> intro _ <;> conv => whnf) | (apply z2 <;> intro _ <;> conv => whnf) | (apply z8 <;> intro _ <;> conv => whnf) | (apply z24 <;> intro _ <;> conv => whnf) | (apply z34 <;> intro _ <;> conv => whnf))
  refine z85 (fun k : Nat => ([(0, lst 3 Tree.cs' l), (3, .sref 0 0 l.length), (4, .int k)], [.cells 3 ((l.take k).map Tree.co' ++ List.replicate (l.length - k) [.int 0, .int 0, .nils])])) (fun k => k ≤ l.length) (fun k => l.length - k) 0 (by omega) ⟨[0], rfl, by decide, rfl, by repeat' (first | exact True.intro | exact ⟨rfl, rfl⟩ | apply And.intro), by repeat' (first | exact True.intro | exact z31 rfl rfl | exact z10 (by rfl) (by (first | exact z17 | exact z1 rfl | exact z0 (fun _ => rfl) | exact z0 Tree.co_flat | (apply z9 <;> (first | exact z1 rfl | exact z0 (fun _ => rfl))) | assumption)) | apply And.intro)⟩ ?_
  intro k hk
  by_cases hkl : k < l.length
  · repeat' (first | ((fail_if_success apply z69 4); (fail_if_success apply z57 4); apply AWP.go ok; rfl; conv => whnf) | (apply z5; kernel_rfl; conv => whnf) | (apply And.intro; (first | omega | (unfold inI; omega) | (dsimp only; omega) | (unfold z25; omega) | ((try dsimp only); simp only [List.length_map, List.length_take, List.length_append, List.length_replicate, List.length_cons, List.length_nil]; omega) | (simp only [z38] at *; first | omega | (unfold inI; omega) | (unfold z25; omega)) | exact z6 (fun _ => rfl) | exact ⟨rfl, z12 rfl z20⟩ | exact ⟨rfl, z6 (fun _ => rfl) _⟩ | exact ⟨⟨rfl, by omega⟩, z6 (fun _ => rfl) _⟩); conv => whnf) | (with_reducible apply z3; omega; intro _; conv => whnf) | (with_reducible apply z30; omega; intro _; conv => whnf) | (apply z3; omega; intro _; conv => whnf) | (apply z35; omega; conv => whnf) | (apply z45; conv => whnf) | (apply z49; omega; intro _; conv => whnf) | (apply z53 <;> intro _ <;> conv => whnf) | (apply z36 <;> intro _ <;> conv => whnf) | (apply z52 <;> intro _ <;> conv => whnf) | (apply z63 <;> intro _ <;> conv => whnf) | (apply z2 <;> intro _ <;> conv => whnf) | (apply z8 <;> intro _ <;> conv => whnf) | (apply z24 <;> intro _ <;> conv => whnf) | (apply z34 <;> intro _ <;> conv => whnf) | (apply z21 [] [] [1] (hel l[k] (List.getElem_mem _)); rfl; (focus ((repeat' (first | exact z11 | apply z29)) <;> (first | rfl | (refine z47 rfl ?_; (first | exact z17 | exact z1 rfl | exact z0 (fun _ => rfl) | exact z0 Tree.co_flat | (apply z9 <;> (first | exact z1 rfl | exact z0 (fun _ => rfl))) | assumption))))); rfl; rfl; rfl; rfl; rfl; (focus ((repeat' (first | exact z27 | apply z26)) <;> (first | exact z82 | exact z74 rfl rfl | (refine z39 ?_; (first | exact z17 | exact z1 rfl | exact z0 (fun _ => rfl) | exact z0 Tree.co_flat | (apply z9 <;> (first | exact z1 rfl | exact z0 (fun _ => rfl))) | assumption))))); (first | exact .inl rfl | (refine .inr ⟨rfl, ?_⟩; repeat' (first | exact True.intro | apply And.intro | exact rfl | exact z50 (fun _ => rfl) _))); conv => whnf))
    · refine AWP.reach (Gl.Reach.absorb 0 1 k 2 rfl (getset rfl (by rw [fill_len hk]; exact hkl)) rfl rfl (by simp) rfl (z0 Tree.co_flat) rfl) ?_
      conv => whnf
      repeat' (first | (apply AWP.go ok; rfl; conv => whnf) | (apply z5; kernel_rfl; conv => whnf) | (apply And.intro; (first | omega | (unfold inI; omega) | (dsimp only; omega) | (unfold z25; omega) | ((try dsimp only); simp only [List.length_map, List.length_take, List.length_append, List.length_replicate, List.length_cons, List.length_nil]; omega) | (simp only [z38] at *; first | omega | (unfold inI; omega) | (unfold z25; omega)) | exact z6 (fun _ => rfl) | exact ⟨rfl, z12 rfl z20⟩ | exact ⟨rfl, z6 (fun _ => rfl) _⟩ | exact ⟨⟨rfl, by omega⟩, z6 (fun _ => rfl) _⟩); conv => whnf) | (with_reducible apply z3; omega; intro _; conv => whnf) | (with_reducible apply z30; omega; intro _; conv => whnf) | (apply z3; omega; intro _; conv => whnf) | (apply z35; omega; conv => whnf) | (apply z45; conv => whnf) | (apply z49; omega; intro _; conv => whnf) | (apply z53 <;> intro _ <;> conv => whnf) | (apply z36 <;> intro _ <;> conv => whnf) | (apply z52 <;> intro _ <;> conv => whnf) | (apply z63 <;> intro _ <;> conv => whnf) | (apply z2 <;> intro _ <;> conv => whnf) | (apply z8 <;> intro _ <;> conv => whnf) | (apply z24 <;> intro _ <;> conv => whnf) | (apply z34 <;> intro _ <;> conv => whnf))
      exact z75 (k + 1) [0] (by omega) (by omega) ⟨rfl, by decide, rfl, ⟨⟨rfl, rfl⟩, ⟨rfl, rfl⟩, ⟨rfl, rfl⟩, trivial⟩, ⟨z10 (z16 (fill_set2 hkl rfl rfl)) (z9 (z0 fun _ => rfl) (z1 rfl)), trivial⟩⟩
    · omega
  · repeat' (first | (apply AWP.go ok; rfl; conv => whnf) | (apply z5; kernel_rfl; conv => whnf) | (apply And.intro; (first | omega | (unfold inI; omega) | (dsimp only; omega) | (unfold z25; omega) | ((try dsimp only); simp only [List.length_map, List.length_take, List.length_append, List.length_replicate, List.length_cons, List.length_nil]; omega) | (simp only [z38] at *; first | omega | (unfold inI; omega) | (unfold z25; omega)) | exact z6 (fun _ => rfl) | exact ⟨rfl, z12 rfl z20⟩ | exact ⟨rfl, z6 (fun _ => rfl) _⟩ | exact ⟨⟨rfl, by omega⟩, z6 (fun _ => rfl) _⟩); conv => whnf) | (with_reducible apply z3; omega; intro _; conv => whnf) | (with_reducible apply z30; omega; intro _; conv => whnf) | (apply z3; omega; intro _; conv => whnf) | (apply z35; omega; conv => whnf) | (apply z45; conv => whnf) | (apply z49; omega; intro _; conv => whnf) | (apply z53 <;> intro _ <;> conv => whnf) | (apply z36 <;> intro _ <;> conv => whnf) | (apply z52 <;> intro _ <;> conv => whnf) | (apply z63 <;> intro _ <;> conv => whnf) | (apply z2 <;> intro _ <;> conv => whnf) | (apply z8 <;> intro _ <;> conv => whnf) | (apply z24 <;> intro _ <;> conv => whnf) | (apply z34 <;> intro _ <;> conv => whnf))
    · omega
    · obtain rfl : k = l.length := by omega
      exact ret_new rfl (z0 fun _ => rfl) rfl (fill_end _ _ _ _ rfl)

theorem toExpr_new (t : Tree) : t.sz ≤ 1048576 → CallsA Tryz.prog 121 [z70 Tree.cs' t] [] (.agg [.int t.kind, .int t.val, .sref 0 0 t.kids.length]) [.cells 3 (t.kids.map Tree.co)] := by
  induction t using Tree.ind with | h t ih => ?_
  intro hm
  rw [Tree.sz_eq] at hm
  have hk := toExprS_new t.kids (by omega) (fun s hs => ih s hs (by
    have := le_sum Tree.sz hs
    omega))
  rw [← Tree.co_eq] at hk
  rw [Tree.arg_eq]
  refine z7 z28 Tryz.func121 rfl rfl 15 Tryz.ntmps121 (by simp) ?_
  repeat' (first | (apply AWP.go ok; rfl; conv => whnf) | (apply z5; kernel_rfl; conv => whnf) | (apply And.intro; (first | omega | (unfold inI; omega) | (dsimp only; omega) | (unfold z25; omega) | ((try dsimp only); simp only [List.length_map, List.length_take, List.length_append, List.length_replicate, List.length_cons, List.length_nil]; omega) | (simp only [z38] at *; first | omega | (unfold inI; omega) | (unfold z25; omega)) | exact z6 (fun _ => rfl) | exact ⟨rfl, z12 rfl z20⟩ | exact ⟨rfl, z6 (fun _ => rfl) _⟩ | exact ⟨⟨rfl, by omega⟩, z6 (fun _ => rfl) _⟩); conv => whnf) | (with_reducible apply z3; omega; intro _; conv => whnf) | (with_reducible apply z30; omega; intro _; conv => whnf) | (apply z3; omega; intro _; conv => whnf) | (apply z35; omega; conv => whnf) | (apply z45; conv => whnf) | (apply z49; omega; intro _; conv => whnf) | (apply z53 <;> intro _ <;> conv => whnf) | (apply z36 <;> intro _ <;> conv => whnf) | (apply z52 <;> intro _ <;> conv => whnf) | (apply z63 <;> intro _ <;> conv => whnf) | (apply z2 <;> intro _ <;> conv => whnf) | (apply z8 <;> intro _ <;> conv => whnf) | (apply z24 <;> intro _ <;> conv => whnf) | (apply z34 <;> intro _ <;> conv => whnf) | (apply z21 [] [] [3] (hk); rfl; (focus ((repeat' (first | exact z11 | apply z29)) <;> (first | rfl | (refine z47 rfl ?_; (first | exact z17 | exact z1 rfl | exact z0 (fun _ => rfl) | exact z0 Tree.co_flat | (apply z9 <;> (first | exact z1 rfl | exact z0 (fun _ => rfl))) | assumption))))); rfl; rfl; rfl; rfl; rfl; (focus ((repeat' (first | exact z27 | apply z26)) <;> (first | exact z82 | exact z74 rfl rfl | (refine z39 ?_; (first | exact z17 | exact z1 rfl | exact z0 (fun _ => rfl) | exact z0 Tree.co_flat | (apply z9 <;> (first | exact z1 rfl | exact z0 (fun _ => rfl))) | assumption))))); (first | exact .inl rfl | (refine .inr ⟨rfl, ?_⟩; repeat' (first | exact True.intro | apply And.intro | exact rfl | exact z50 (fun _ => rfl) _))); conv => whnf))
  exact z84 [3] (by decide) rfl rfl rfl ⟨z10 rfl (z0 Tree.co_flat), trivial⟩
end Go.Proofs.YtknlmbniicacmaaGreat

namespace Go.Proofs.YtknlmbniicacmaaGreat
open Go.Gl
attribute [local irreducible] z22 AWP z46 z54 z51

def enM (k : Int) (j : Nat) : List AC := [.int (k + j)]

theorem markIntS_ok (l : List Int) (k : Int) (hl : l.length ≤ 1048576) (h0 : 0 ≤ k) (h1 : k ≤ 1000000000000) : CallsA Tryz.prog 136 [.sref 0 0 l.length, .int k] [.cells 1 (l.map enI)] (.int (k + l.length)) [.cells 1 ((marks k l.length).map enI)] := by
  refine z7 z28 Tryz.func136 rfl rfl 19 Tryz.ntmps136 (by simp) ?_
  repeat' (first | (apply AWP.go ok; rfl; conv => whnf) | (apply z5; kernel_rfl; conv => whnf) | (apply And.intro; (first | omega | (unfold inI; omega) | (dsimp only; omega) | (unfold z25; omega) | ((try dsimp only); simp only [List.length_map, List.length_take, List.length_append, List.length_replicate, List.length_cons, List.length_nil]; omega) | (simp only [z38] at *; first | omega | (unfold inI; omega) | (unfold z25; omega)) | exact z6 (fun _ => rfl) | exact ⟨rfl, z12 rfl z20⟩ | exact ⟨rfl, z6 (fun _ => rfl) _⟩ | exact ⟨⟨rfl, by omega⟩, z6 (fun _ => rfl) _⟩); conv => whnf) | (with_reducible apply z3; omega; intro _; conv => whnf) | (with_reducible apply z30; omega; intro _; conv => whnf) | (apply z3; omega; intro _; conv => whnf) | (apply z35; omega; conv => whnf) | (apply z45; conv => whnf) | (apply z49; omega; intro _; conv => whnf) | (apply z53 <;> intro _ <;> conv => whnf) | (apply z36 <;> intro _ <;> conv => whnf) | (apply z52 <;> intro _ <;> conv => whnf) | (apply z63 <;> intro _ <;> conv => whnf) | (apply z2 <;> intro _ <;> conv => whnf) | (apply z8 <;> intro _ <;> conv => whnf) | (apply z24 <;> intro _ <;> conv => whnf) | (apply z34 <;> intro _ <;> conv => whnf))
  refine z85 (fun i : Nat => ([(0, .sref 0 0 l.length), (1, .int (k + i)), (5, .int i)], [.cells 1 (mixL (enM k) (l.map enI) i)])) (fun i => i ≤ l.length) (fun i => l.length - i) 0 (by omega) ⟨[0], rfl, by decide, rfl, ⟨⟨rfl, rfl⟩, ⟨rfl, z132 (by simp)⟩, ⟨rfl, rfl⟩, trivial⟩, ⟨z10 (z16 (mixL_zero _ _).symm) (z102 (fun _ => rfl) (fun _ => rfl)), trivial⟩⟩ ?_
  intro i hi
  repeat' (first | (apply AWP.go ok; rfl; conv => whnf) | (apply z5; kernel_rfl; conv => whnf) | (refine get_mix (by omega) (by omega) ?_; conv => whnf) | (apply And.intro; (first | omega | (unfold inI; omega) | (dsimp only; omega) | (unfold z25; omega) | ((try dsimp only); simp only [List.length_map, List.length_take, List.length_append, List.length_replicate, List.length_cons, List.length_nil]; omega) | (simp only [z38] at *; first | omega | (unfold inI; omega) | (unfold z25; omega)) | exact z6 (fun _ => rfl) | exact ⟨rfl, z12 rfl z20⟩ | exact ⟨rfl, z6 (fun _ => rfl) _⟩ | exact ⟨⟨rfl, by omega⟩, z6 (fun _ => rfl) _⟩); conv => whnf) | (with_reducible apply z3; omega; intro _; conv => whnf) | (with_reducible apply z30; omega; intro _; conv => whnf) | (apply z3; omega; intro _; conv => whnf) | (apply z35; omega; conv => whnf) | (apply z45; conv => whnf) | (apply z49; omega; intro _; conv => whnf) | (apply z53 <;> intro _ <;> conv => whnf) | (apply z36 <;> intro _ <;> conv => whnf) | (apply z52 <;> intro _ <;> conv => whnf) | (apply z63 <;> intro _ <;> conv => whnf) | (apply z2 <;> intro _ <;> conv => whnf) | (apply z8 <;> intro _ <;> conv => whnf) | (apply z24 <;> intro _ <;> conv => whnf) | (apply z34 <;> intro _ <;> conv => whnf))
  · exact z75 (i + 1) [0] (by omega) (by omega) ⟨rfl, by decide, rfl, ⟨⟨rfl, rfl⟩, ⟨rfl, z132 (by omega)⟩, ⟨rfl, rfl⟩, trivial⟩, ⟨z10 (z16 (mixL_set (by simpa using by omega) (by omega) rfl)) (z102 (fun _ => rfl) (fun _ => rfl)), trivial⟩⟩
  · obtain rfl : i = l.length := by omega
    refine z84 [0] (by decide) rfl rfl rfl ⟨z10 (z16 ?_) (z0 fun _ => rfl), trivial⟩
    rw [mixL_end (by simp), marks, List.map_map]; rfl

theorem heldIntS_ok (n : Nat) (k : Int) (hl : n ≤ 1048576) (h0 : 0 ≤ k) (h1 : k ≤ 1000000000000) : CallsA Tryz.prog 139 [ints (marks k n), .int k] [] (.int (k + n)) [] := by
  have hn := marks_len k n
  refine z7 z28 Tryz.func139 rfl rfl 21 Tryz.ntmps139 (by simp) ?_
  repeat' (first | (apply AWP.go ok; rfl; conv => whnf) | (apply z5; kernel_rfl; conv => whnf) | (apply And.intro; (first | omega | (unfold inI; omega) | (dsimp only; omega) | (unfold z25; omega) | ((try dsimp only); simp only [List.length_map, List.length_take, List.length_append, List.length_replicate, List.length_cons, List.length_nil]; omega) | (simp only [z38] at *; first | omega | (unfold inI; omega) | (unfold z25; omega)) | exact z6 (fun _ => rfl) | exact ⟨rfl, z12 rfl z20⟩ | exact ⟨rfl, z6 (fun _ => rfl) _⟩ | exact ⟨⟨rfl, by omega⟩, z6 (fun _ => rfl) _⟩); conv => whnf) | (with_reducible apply z3; omega; intro _; conv => whnf) | (with_reducible apply z30; omega; intro _; conv => whnf) | (apply z3; omega; intro _; conv => whnf) | (apply z35; omega; conv => whnf) | (apply z45; conv => whnf) | (apply z49; omega; intro _; conv => whnf) | (apply z53 <;> intro _ <;> conv => whnf) | (apply z36 <;> intro _ <;> conv => whnf) | (apply z52 <;> intro _ <;> conv => whnf) | (apply z63 <;> intro _ <;> conv => whnf) | (apply z2 <;> intro _ <;> conv => whnf) | (apply z8 <;> intro _ <;> conv => whnf) | (apply z24 <;> intro _ <;> conv => whnf) | (apply z34 <;> intro _ <;> conv => whnf))
  refine z85 (fun i : Nat => ([(0, ints (marks k n)), (1, .int (k + i)), (5, .int i)], [])) (fun i => i ≤ n) (fun i => n - i) 0 (by omega) ⟨[], rfl, by decide, rfl, ⟨⟨rfl, rfl⟩, ⟨rfl, z132 (by simp)⟩, ⟨rfl, rfl⟩, trivial⟩, trivial⟩ ?_
  intro i hi
  repeat' (first | (apply AWP.go ok; rfl; conv => whnf) | (apply z5; kernel_rfl; conv => whnf) | (apply And.intro; (first | omega | (unfold inI; omega) | (dsimp only; omega) | (unfold z25; omega) | ((try dsimp only); simp only [List.length_map, List.length_take, List.length_append, List.length_replicate, List.length_cons, List.length_nil]; omega) | (simp only [z38] at *; first | omega | (unfold inI; omega) | (unfold z25; omega)) | exact z6 (fun _ => rfl) | exact ⟨rfl, z12 rfl z20⟩ | exact ⟨rfl, z6 (fun _ => rfl) _⟩ | exact ⟨⟨rfl, by omega⟩, z6 (fun _ => rfl) _⟩); conv => whnf) | (with_reducible apply z3; omega; intro _; conv => whnf) | (with_reducible apply z30; omega; intro _; conv => whnf) | (apply z3; omega; intro _; conv => whnf) | (apply z35; omega; conv => whnf) | (apply z45; conv => whnf) | (apply z49; omega; intro _; conv => whnf) | (apply z53 <;> intro _ <;> conv => whnf) | (apply z36 <;> intro _ <;> conv => whnf) | (apply z52 <;> intro _ <;> conv => whnf) | (apply z63 <;> intro _ <;> conv => whnf) | (apply z2 <;> intro _ <;> conv => whnf) | (apply z8 <;> intro _ <;> conv => whnf) | (apply z24 <;> intro _ <;> conv => whnf) | (apply z34 <;> intro _ <;> conv => whnf))
  · rename_i h1 h2 h3
    exact absurd (marks_get (by omega)) (by assumption)
  · exact z75 (i + 1) [] (by omega) (by omega) ⟨rfl, by decide, rfl, ⟨⟨rfl, rfl⟩, ⟨rfl, z132 (by omega)⟩, ⟨rfl, rfl⟩, trivial⟩, trivial⟩
  · obtain rfl : i = n := by omega
    exact z56 rfl rfl rfl

theorem markStateS_ok (l : List State) (k : Int) (hl : l.length ≤ 1048576) (hm : ∀ s ∈ l, s.small) (h0 : 0 ≤ k) (h1 : k + (l.map State.sz).sum ≤ 1000000000000) : CallsA Tryz.prog 134 [.sref 0 0 l.length, .int k] [.cells 2 (l.map State.co)] (.int (k + (l.map State.sz).sum)) [.cells 2 (List.replicate l.length [.any, .any])] := by
  refine z7 z28 Tryz.func134 rfl rfl 27 Tryz.ntmps134 (by simp) ?_
  repeat' (first | (apply AWP.go ok; rfl; conv => whnf) | (apply z5; kernel_rfl; conv => whnf) | (apply And.intro; (first | omega | (unfold inI; omega) | (dsimp only; omega) | (unfold z25; omega) | ((try dsimp only); simp only [List.length_map, List.length_take, List.length_append, List.length_replicate, List.length_cons, List.length_nil]; omega) | (simp only [z38] at *; first | omega | (unfold inI; omega) | (unfold z25; omega)) | exact z6 (fun _ => rfl) | exact ⟨rfl, z12 rfl z20⟩ | exact ⟨rfl, z6 (fun _ => rfl) _⟩ | exact ⟨⟨rfl, by omega⟩, z6 (fun _ => rfl) _⟩); conv => whnf) | (with_reducible apply z3; omega; intro _; conv => whnf) | (with_reducible apply z30; omega; intro _; conv => whnf) | (apply z3; omega; intro _; conv => whnf) | (apply z35; omega; conv => whnf) | (apply z45; conv => whnf) | (apply z49; omega; intro _; conv => whnf) | (apply z53 <;> intro _ <;> conv => whnf) | (apply z36 <;> intro _ <;> conv => whnf) | (apply z52 <;> intro _ <;> conv => whnf) | (apply z63 <;> intro _ <;> conv => whnf) | (apply z2 <;> intro _ <;> conv => whnf) | (apply z8 <;> intro _ <;> conv => whnf) | (apply z24 <;> intro _ <;> conv => whnf) | (apply z34 <;> intro _ <;> conv => whnf))
  refine z85 (fun i : Nat => ([(0, .sref 0 0 l.length), (1, .int (k + ((l.take i).map State.sz).sum)), (5, .int i)], [.cells 2 (mixL (fun _ => [.any, .any]) (l.map State.co) i)])) (fun i => i ≤ l.length) (fun i => l.length - i) 0 (by omega) ⟨[0], rfl, by decide, rfl, ⟨⟨rfl, rfl⟩, ⟨rfl, z132 (by simp)⟩, ⟨rfl, rfl⟩, trivial⟩, ⟨z10 (z16 (mixL_zero _ _).symm) (z102 (fun _ => rfl) (fun _ => rfl)), trivial⟩⟩ ?_
  intro i hi
  by_cases hil : i < l.length
  · have e := sum_take State.sz l i hil
    have e2 := sum_take_le State.sz l (i + 1)
    have hs := hm l[i] (List.getElem_mem _)
    have hz : State.sz l[i] = l[i].a.length + l[i].b.length := rfl
    have hm2 : i < (mixL (fun _ => [AC.any, .any]) (l.map State.co) i).length := by rw [mixL_len (by simpa using hi)]; simpa using hil
    repeat' (first | ((fail_if_success apply z69 4); (fail_if_success apply z57 4); apply AWP.go ok; rfl; conv => whnf) | (apply z5; kernel_rfl; conv => whnf) | (apply And.intro; (first | omega | (unfold inI; omega) | (dsimp only; omega) | (unfold z25; omega) | ((try dsimp only); simp only [List.length_map, List.length_take, List.length_append, List.length_replicate, List.length_cons, List.length_nil]; omega) | (simp only [z38] at *; first | omega | (unfold inI; omega) | (unfold z25; omega)) | exact z6 (fun _ => rfl) | exact ⟨rfl, z12 rfl z20⟩ | exact ⟨rfl, z6 (fun _ => rfl) _⟩ | exact ⟨⟨rfl, by omega⟩, z6 (fun _ => rfl) _⟩); conv => whnf) | (with_reducible apply z3; omega; intro _; conv => whnf) | (with_reducible apply z30; omega; intro _; conv => whnf) | (apply z3; omega; intro _; conv => whnf) | (apply z35; omega; conv => whnf) | (apply z45; conv => whnf) | (apply z49; omega; intro _; conv => whnf) | (apply z53 <;> intro _ <;> conv => whnf) | (apply z36 <;> intro _ <;> conv => whnf) | (apply z52 <;> intro _ <;> conv => whnf) | (apply z63 <;> intro _ <;> conv => whnf) | (apply z2 <;> intro _ <;> conv => whnf) | (apply z8 <;> intro _ <;> conv => whnf) | (apply z24 <;> intro _ <;> conv => whnf) | (apply z34 <;> intro _ <;> conv => whnf))
    · refine AWP.reach (Gl.Reach.exposeD (e := State.co l[i]) 0 i 0 rfl (mixL_get hil) rfl rfl) ?_
      conv => whnf
      refine AWP.reach (Gl.Reach.exposeD (e := [.sref 1 0 (l[i].a.map enI).length, .own 1 (l[i].b.map enI)]) 0 i 1 rfl (getset rfl hm2) rfl rfl) ?_
      conv => whnf
      rw [List.length_map, List.length_map]
      repeat' (first | ((fail_if_success apply z69 3); (fail_if_success apply z57 3); apply AWP.go ok; rfl; conv => whnf) | (apply z5; kernel_rfl; conv => whnf) | (apply get_set; (exact Int.toNat_natCast i); (rw [List.length_set]; exact hm2); conv => whnf) | (apply And.intro; (first | omega | (unfold inI; omega) | (dsimp only; omega) | (unfold z25; omega) | ((try dsimp only); simp only [List.length_map, List.length_take, List.length_append, List.length_replicate, List.length_cons, List.length_nil]; omega) | (simp only [z38] at *; first | omega | (unfold inI; omega) | (unfold z25; omega)) | exact z6 (fun _ => rfl) | exact ⟨rfl, z12 rfl z20⟩ | exact ⟨rfl, z6 (fun _ => rfl) _⟩ | exact ⟨⟨rfl, by omega⟩, z6 (fun _ => rfl) _⟩); conv => whnf) | (with_reducible apply z3; omega; intro _; conv => whnf) | (with_reducible apply z30; omega; intro _; conv => whnf) | (apply z3; omega; intro _; conv => whnf) | (apply z35; omega; conv => whnf) | (apply z45; conv => whnf) | (apply z49; omega; intro _; conv => whnf) | (apply z53 <;> intro _ <;> conv => whnf) | (apply z36 <;> intro _ <;> conv => whnf) | (apply z52 <;> intro _ <;> conv => whnf) | (apply z63 <;> intro _ <;> conv => whnf) | (apply z2 <;> intro _ <;> conv => whnf) | (apply z8 <;> intro _ <;> conv => whnf) | (apply z24 <;> intro _ <;> conv => whnf) | (apply z34 <;> intro _ <;> conv => whnf) | (apply z21 [1] [] [] (markIntS_ok l[i].a (k + ((l.take i).map State.sz).sum) hs.1 (by omega) (by omega)); rfl; (focus ((repeat' (first | exact z11 | apply z29)) <;> (first | rfl | (refine z47 rfl ?_; (first | exact z17 | exact z1 rfl | exact z0 (fun _ => rfl) | exact z0 Tree.co_flat | (apply z9 <;> (first | exact z1 rfl | exact z0 (fun _ => rfl))) | assumption))))); rfl; rfl; rfl; rfl; rfl; (focus ((repeat' (first | exact z27 | apply z26)) <;> (first | exact z82 | exact z74 rfl rfl | (refine z39 ?_; (first | exact z17 | exact z1 rfl | exact z0 (fun _ => rfl) | exact z0 Tree.co_flat | (apply z9 <;> (first | exact z1 rfl | exact z0 (fun _ => rfl))) | assumption))))); (first | exact .inl rfl | (refine .inr ⟨rfl, ?_⟩; repeat' (first | exact True.intro | apply And.intro | exact rfl | exact z50 (fun _ => rfl) _))); conv => whnf) | (apply z21 [2] [] [] (markIntS_ok l[i].b (k + ((l.take i).map State.sz).sum + l[i].a.length) hs.2 (by omega) (by omega)); rfl; (focus ((repeat' (first | exact z11 | apply z29)) <;> (first | rfl | (refine z47 rfl ?_; (first | exact z17 | exact z1 rfl | exact z0 (fun _ => rfl) | exact z0 Tree.co_flat | (apply z9 <;> (first | exact z1 rfl | exact z0 (fun _ => rfl))) | assumption))))); rfl; rfl; rfl; rfl; rfl; (focus ((repeat' (first | exact z27 | apply z26)) <;> (first | exact z82 | exact z74 rfl rfl | (refine z39 ?_; (first | exact z17 | exact z1 rfl | exact z0 (fun _ => rfl) | exact z0 Tree.co_flat | (apply z9 <;> (first | exact z1 rfl | exact z0 (fun _ => rfl))) | assumption))))); (first | exact .inl rfl | (refine .inr ⟨rfl, ?_⟩; repeat' (first | exact True.intro | apply And.intro | exact rfl | exact z50 (fun _ => rfl) _))); conv => whnf))
      refine AWP.reach (Gl.Reach.forget 0 i [.any, .any] rfl (getset rfl (by rw [List.length_set]; exact hm2)) rfl rfl) ?_
      conv => whnf
      repeat' (first | (apply AWP.go ok; rfl; conv => whnf) | (apply z5; kernel_rfl; conv => whnf) | (apply And.intro; (first | omega | (unfold inI; omega) | (dsimp only; omega) | (unfold z25; omega) | ((try dsimp only); simp only [List.length_map, List.length_take, List.length_append, List.length_replicate, List.length_cons, List.length_nil]; omega) | (simp only [z38] at *; first | omega | (unfold inI; omega) | (unfold z25; omega)) | exact z6 (fun _ => rfl) | exact ⟨rfl, z12 rfl z20⟩ | exact ⟨rfl, z6 (fun _ => rfl) _⟩ | exact ⟨⟨rfl, by omega⟩, z6 (fun _ => rfl) _⟩); conv => whnf) | (with_reducible apply z3; omega; intro _; conv => whnf) | (with_reducible apply z30; omega; intro _; conv => whnf) | (apply z3; omega; intro _; conv => whnf) | (apply z35; omega; conv => whnf) | (apply z45; conv => whnf) | (apply z49; omega; intro _; conv => whnf) | (apply z53 <;> intro _ <;> conv => whnf) | (apply z36 <;> intro _ <;> conv => whnf) | (apply z52 <;> intro _ <;> conv => whnf) | (apply z63 <;> intro _ <;> conv => whnf) | (apply z2 <;> intro _ <;> conv => whnf) | (apply z8 <;> intro _ <;> conv => whnf) | (apply z24 <;> intro _ <;> conv => whnf) | (apply z34 <;> intro _ <;> conv => whnf))
      exact z75 (i + 1) [0] (by omega) (by omega) ⟨rfl, by decide, rfl, ⟨⟨rfl, rfl⟩, ⟨rfl, z132 (by omega)⟩, ⟨rfl, rfl⟩, trivial⟩, ⟨z10 (z16 (by rw [List.set_set, List.set_set, mixL_set (by simpa using hil) rfl rfl])) (z102 (fun _ => rfl) (fun _ => rfl)), trivial⟩⟩
    · omega
  · repeat' (first | (apply AWP.go ok; rfl; conv => whnf) | (apply z5; kernel_rfl; conv => whnf) | (apply And.intro; (first | omega | (unfold inI; omega) | (dsimp only; omega) | (unfold z25; omega) | ((try dsimp only); simp only [List.length_map, List.length_take, List.length_append, List.length_replicate, List.length_cons, List.length_nil]; omega) | (simp only [z38] at *; first | omega | (unfold inI; omega) | (unfold z25; omega)) | exact z6 (fun _ => rfl) | exact ⟨rfl, z12 rfl z20⟩ | exact ⟨rfl, z6 (fun _ => rfl) _⟩ | exact ⟨⟨rfl, by omega⟩, z6 (fun _ => rfl) _⟩); conv => whnf) | (with_reducible apply z3; omega; intro _; conv => whnf) | (with_reducible apply z30; omega; intro _; conv => whnf) | (apply z3; omega; intro _; conv => whnf) | (apply z35; omega; conv => whnf) | (apply z45; conv => whnf) | (apply z49; omega; intro _; conv => whnf) | (apply z53 <;> intro _ <;> conv => whnf) | (apply z36 <;> intro _ <;> conv => whnf) | (apply z52 <;> intro _ <;> conv => whnf) | (apply z63 <;> intro _ <;> conv => whnf) | (apply z2 <;> intro _ <;> conv => whnf) | (apply z8 <;> intro _ <;> conv => whnf) | (apply z24 <;> intro _ <;> conv => whnf) | (apply z34 <;> intro _ <;> conv => whnf))
    · omega
    · obtain rfl : i = l.length := by omega
      rw [List.take_length]
      exact z84 [0] (by decide) rfl rfl rfl ⟨z10 (z16 (by rw [mixL_end (by simp), range_const])) (z1 rfl), trivial⟩

theorem markIntSS_ok (l : List (List Int)) (k : Int) (hl : l.length ≤ 1048576) (hm : ∀ s ∈ l, s.length ≤ 1048576) (h0 : 0 ≤ k) (h1 : k + (l.map List.length).sum ≤ 1000000000000) : CallsA Tryz.prog 135 [.sref 0 0 l.length, .int k] [.cells 1 (l.map ownRow)] (.int (k + (l.map List.length).sum)) [.cells 1 (List.replicate l.length [.any])] := by
  refine z7 z28 Tryz.func135 rfl rfl 19 Tryz.ntmps135 (by simp) ?_
  repeat' (first | (apply AWP.go ok; rfl; conv => whnf) | (apply z5; kernel_rfl; conv => whnf) | (apply And.intro; (first | omega | (unfold inI; omega) | (dsimp only; omega) | (unfold z25; omega) | ((try dsimp only); simp only [List.length_map, List.length_take, List.length_append, List.length_replicate, List.length_cons, List.length_nil]; omega) | (simp only [z38] at *; first | omega | (unfold inI; omega) | (unfold z25; omega)) | exact z6 (fun _ => rfl) | exact ⟨rfl, z12 rfl z20⟩ | exact ⟨rfl, z6 (fun _ => rfl) _⟩ | exact ⟨⟨rfl, by omega⟩, z6 (fun _ => rfl) _⟩); conv => whnf) | (with_reducible apply z3; omega; intro _; conv => whnf) | (with_reducible apply z30; omega; intro _; conv => whnf) | (apply z3; omega; intro _; conv => whnf) | (apply z35; omega; conv => whnf) | (apply z45; conv => whnf) | (apply z49; omega; intro _; conv => whnf) | (apply z53 <;> intro _ <;> conv => whnf) | (apply z36 <;> intro _ <;> conv => whnf) | (apply z52 <;> intro _ <;> conv => whnf) | (apply z63 <;> intro _ <;> conv => whnf) | (apply z2 <;> intro _ <;> conv => whnf) | (apply z8 <;> intro _ <;> conv => whnf) | (apply z24 <;> intro _ <;> conv => whnf) | (apply z34 <;> intro _ <;> conv => whnf))
  refine z85 (fun i : Nat => ([(0, .sref 0 0 l.length), (1, .int (k + ((l.take i).map List.length).sum)), (5, .int i)], [.cells 1 (mixL (fun _ => [.any]) (l.map ownRow) i)])) (fun i => i ≤ l.length) (fun i => l.length - i) 0 (by omega) ⟨[0], rfl, by decide, rfl, ⟨⟨rfl, rfl⟩, ⟨rfl, z132 (by simp)⟩, ⟨rfl, rfl⟩, trivial⟩, ⟨z10 (z16 (mixL_zero _ _).symm) (z102 (fun _ => rfl) (fun _ => rfl)), trivial⟩⟩ ?_
  intro i hi
  by_cases hil : i < l.length
  · have e := sum_take List.length l i hil
    have e2 := sum_take_le List.length l (i + 1)
    have hs := hm l[i] (List.getElem_mem _)
    have hm2 : i < (mixL (fun _ => [AC.any]) (l.map ownRow) i).length := by rw [mixL_len (by simpa using hi)]; simpa using hil
    repeat' (first | ((fail_if_success apply z69 4); (fail_if_success apply z57 4); apply AWP.go ok; rfl; conv => whnf) | (apply z5; kernel_rfl; conv => whnf) | (apply And.intro; (first | omega | (unfold inI; omega) | (dsimp only; omega) | (unfold z25; omega) | ((try dsimp only); simp only [List.length_map, List.length_take, List.length_append, List.length_replicate, List.length_cons, List.length_nil]; omega) | (simp only [z38] at *; first | omega | (unfold inI; omega) | (unfold z25; omega)) | exact z6 (fun _ => rfl) | exact ⟨rfl, z12 rfl z20⟩ | exact ⟨rfl, z6 (fun _ => rfl) _⟩ | exact ⟨⟨rfl, by omega⟩, z6 (fun _ => rfl) _⟩); conv => whnf) | (with_reducible apply z3; omega; intro _; conv => whnf) | (with_reducible apply z30; omega; intro _; conv => whnf) | (apply z3; omega; intro _; conv => whnf) | (apply z35; omega; conv => whnf) | (apply z45; conv => whnf) | (apply z49; omega; intro _; conv => whnf) | (apply z53 <;> intro _ <;> conv => whnf) | (apply z36 <;> intro _ <;> conv => whnf) | (apply z52 <;> intro _ <;> conv => whnf) | (apply z63 <;> intro _ <;> conv => whnf) | (apply z2 <;> intro _ <;> conv => whnf) | (apply z8 <;> intro _ <;> conv => whnf) | (apply z24 <;> intro _ <;> conv => whnf) | (apply z34 <;> intro _ <;> conv => whnf))
    · refine AWP.reach (Gl.Reach.exposeD (e := ownRow l[i]) 0 i 0 rfl (mixL_get hil) rfl rfl) ?_
      conv => whnf
      rw [List.length_map]
      repeat' (first | ((fail_if_success apply z69 3); (fail_if_success apply z57 3); apply AWP.go ok; rfl; conv => whnf) | (apply z5; kernel_rfl; conv => whnf) | (apply get_set; (exact Int.toNat_natCast i); exact hm2; conv => whnf) | (apply And.intro; (first | omega | (unfold inI; omega) | (dsimp only; omega) | (unfold z25; omega) | ((try dsimp only); simp only [List.length_map, List.length_take, List.length_append, List.length_replicate, List.length_cons, List.length_nil]; omega) | (simp only [z38] at *; first | omega | (unfold inI; omega) | (unfold z25; omega)) | exact z6 (fun _ => rfl) | exact ⟨rfl, z12 rfl z20⟩ | exact ⟨rfl, z6 (fun _ => rfl) _⟩ | exact ⟨⟨rfl, by omega⟩, z6 (fun _ => rfl) _⟩); conv => whnf) | (with_reducible apply z3; omega; intro _; conv => whnf) | (with_reducible apply z30; omega; intro _; conv => whnf) | (apply z3; omega; intro _; conv => whnf) | (apply z35; omega; conv => whnf) | (apply z45; conv => whnf) | (apply z49; omega; intro _; conv => whnf) | (apply z53 <;> intro _ <;> conv => whnf) | (apply z36 <;> intro _ <;> conv => whnf) | (apply z52 <;> intro _ <;> conv => whnf) | (apply z63 <;> intro _ <;> conv => whnf) | (apply z2 <;> intro _ <;> conv => whnf) | (apply z8 <;> intro _ <;> conv => whnf) | (apply z24 <;> intro _ <;> conv => whnf) | (apply z34 <;> intro _ <;> conv => whnf) | (apply z21 [1] [] [] (markIntS_ok l[i] (k + ((l.take i).map List.length).sum) hs (by omega) (by omega)); rfl; (focus ((repeat' (first | exact z11 | apply z29)) <;> (first | rfl | (refine z47 rfl ?_; (first | exact z17 | exact z1 rfl | exact z0 (fun _ => rfl) | exact z0 Tree.co_flat | (apply z9 <;> (first | exact z1 rfl | exact z0 (fun _ => rfl))) | assumption))))); rfl; rfl; rfl; rfl; rfl; (focus ((repeat' (first | exact z27 | apply z26)) <;> (first | exact z82 | exact z74 rfl rfl | (refine z39 ?_; (first | exact z17 | exact z1 rfl | exact z0 (fun _ => rfl) | exact z0 Tree.co_flat | (apply z9 <;> (first | exact z1 rfl | exact z0 (fun _ => rfl))) | assumption))))); (first | exact .inl rfl | (refine .inr ⟨rfl, ?_⟩; repeat' (first | exact True.intro | apply And.intro | exact rfl | exact z50 (fun _ => rfl) _))); conv => whnf))
      refine AWP.reach (Gl.Reach.forget 0 i [.any] rfl (getset rfl hm2) rfl rfl) ?_
      conv => whnf
      repeat' (first | (apply AWP.go ok; rfl; conv => whnf) | (apply z5; kernel_rfl; conv => whnf) | (apply And.intro; (first | omega | (unfold inI; omega) | (dsimp only; omega) | (unfold z25; omega) | ((try dsimp only); simp only [List.length_map, List.length_take, List.length_append, List.length_replicate, List.length_cons, List.length_nil]; omega) | (simp only [z38] at *; first | omega | (unfold inI; omega) | (unfold z25; omega)) | exact z6 (fun _ => rfl) | exact ⟨rfl, z12 rfl z20⟩ | exact ⟨rfl, z6 (fun _ => rfl) _⟩ | exact ⟨⟨rfl, by omega⟩, z6 (fun _ => rfl) _⟩); conv => whnf) | (with_reducible apply z3; omega; intro _; conv => whnf) | (with_reducible apply z30; omega; intro _; conv => whnf) | (apply z3; omega; intro _; conv => whnf) | (apply z35; omega; conv => whnf) | (apply z45; conv => whnf) | (apply z49; omega; intro _; conv => whnf) | (apply z53 <;> intro _ <;> conv => whnf) | (apply z36 <;> intro _ <;> conv => whnf) | (apply z52 <;> intro _ <;> conv => whnf) | (apply z63 <;> intro _ <;> conv => whnf) | (apply z2 <;> intro _ <;> conv => whnf) | (apply z8 <;> intro _ <;> conv => whnf) | (apply z24 <;> intro _ <;> conv => whnf) | (apply z34 <;> intro _ <;> conv => whnf))
      exact z75 (i + 1) [0] (by omega) (by omega) ⟨rfl, by decide, rfl, ⟨⟨rfl, rfl⟩, ⟨rfl, z132 (by omega)⟩, ⟨rfl, rfl⟩, trivial⟩, ⟨z10 (z16 (by rw [List.set_set, mixL_set (by simpa using hil) rfl rfl])) (z102 (fun _ => rfl) (fun _ => rfl)), trivial⟩⟩
    · omega
  · repeat' (first | (apply AWP.go ok; rfl; conv => whnf) | (apply z5; kernel_rfl; conv => whnf) | (apply And.intro; (first | omega | (unfold inI; omega) | (dsimp only; omega) | (unfold z25; omega) | ((try dsimp only); simp only [List.length_map, List.length_take, List.length_append, List.length_replicate, List.length_cons, List.length_nil]; omega) | (simp only [z38] at *; first | omega | (unfold inI; omega) | (unfold z25; omega)) | exact z6 (fun _ => rfl) | exact ⟨rfl, z12 rfl z20⟩ | exact ⟨rfl, z6 (fun _ => rfl) _⟩ | exact ⟨⟨rfl, by omega⟩, z6 (fun _ => rfl) _⟩); conv => whnf) | (with_reducible apply z3; omega; intro _; conv => whnf) | (with_reducible apply z30; omega; intro _; conv => whnf) | (apply z3; omega; intro _; conv => whnf) | (apply z35; omega; conv => whnf) | (apply z45; conv => whnf) | (apply z49; omega; intro _; conv => whnf) | (apply z53 <;> intro _ <;> conv => whnf) | (apply z36 <;> intro _ <;> conv => whnf) | (apply z52 <;> intro _ <;> conv => whnf) | (apply z63 <;> intro _ <;> conv => whnf) | (apply z2 <;> intro _ <;> conv => whnf) | (apply z8 <;> intro _ <;> conv => whnf) | (apply z24 <;> intro _ <;> conv => whnf) | (apply z34 <;> intro _ <;> conv => whnf))
    · omega
    · obtain rfl : i = l.length := by omega
      rw [List.take_length]
      exact z84 [0] (by decide) rfl rfl rfl ⟨z10 (z16 (by rw [mixL_end (by simp), range_const])) (z1 rfl), trivial⟩

theorem markGraph_ok (g : Graph) (k : Int) (c0 : ∀ k : Int, 0 ≤ k → k + (g.st.map State.sz).sum ≤ 1000000000000 → CallsA Tryz.prog 134 [.sref 0 0 g.st.length, .int k] [.cells 2 (g.st.map State.co)] (.int (k + (g.st.map State.sz).sum)) [.cells 2 (List.replicate g.st.length [.any, .any])])
    (c1 : ∀ k : Int, 0 ≤ k → k + (g.nx.map List.length).sum ≤ 1000000000000 → CallsA Tryz.prog 135 [.sref 0 0 g.nx.length, .int k] [.cells 1 (g.nx.map ownRow)] (.int (k + (g.nx.map List.length).sum)) [.cells 1 (List.replicate g.nx.length [.any])]) (h0 : 0 ≤ k) (h1 : k + (g.st.map State.sz).sum + (g.nx.map List.length).sum ≤ 1000000000000) :
    CallsA Tryz.prog 45 [.agg [.sref 0 0 g.st.length, .sref 1 0 g.nx.length], .int k] [.cells 2 (g.st.map State.co), .cells 1 (g.nx.map ownRow)] (.int (k + (g.st.map State.sz).sum + (g.nx.map List.length).sum)) [.cells 2 (List.replicate g.st.length [.any, .any]), .cells 1 (List.replicate g.nx.length [.any])] := by
  refine z7 z28 Tryz.func45 rfl rfl 14 Tryz.ntmps45 (by simp) ?_
  repeat' (first | (apply AWP.go ok; rfl; conv => whnf) | (apply z5; kernel_rfl; conv => whnf) | (apply And.intro; (first | omega | (unfold inI; omega) | (dsimp only; omega) | (unfold z25; omega) | ((try dsimp only); simp only [List.length_map, List.length_take, List.length_append, List.length_replicate, List.length_cons, List.length_nil]; omega) | (simp only [z38] at *; first | omega | (unfold inI; omega) | (unfold z25; omega)) | exact z6 (fun _ => rfl) | exact ⟨rfl, z12 rfl z20⟩ | exact ⟨rfl, z6 (fun _ => rfl) _⟩ | exact ⟨⟨rfl, by omega⟩, z6 (fun _ => rfl) _⟩); conv => whnf) | (with_reducible apply z3; omega; intro _; conv => whnf) | (with_reducible apply z30; omega; intro _; conv => whnf) | (apply z3; omega; intro _; conv => whnf) | (apply z35; omega; conv => whnf) | (apply z45; conv => whnf) | (apply z49; omega; intro _; conv => whnf) | (apply z53 <;> intro _ <;> conv => whnf) | (apply z36 <;> intro _ <;> conv => whnf) | (apply z52 <;> intro _ <;> conv => whnf) | (apply z63 <;> intro _ <;> conv => whnf) | (apply z2 <;> intro _ <;> conv => whnf) | (apply z8 <;> intro _ <;> conv => whnf) | (apply z24 <;> intro _ <;> conv => whnf) | (apply z34 <;> intro _ <;> conv => whnf) | (apply z21 [0] [] [] (c0 k h0 (by omega)); rfl; (focus ((repeat' (first | exact z11 | apply z29)) <;> (first | rfl | (refine z47 rfl ?_; (first | exact z17 | exact z1 rfl | exact z0 (fun _ => rfl) | exact z0 Tree.co_flat | (apply z9 <;> (first | exact z1 rfl | exact z0 (fun _ => rfl))) | assumption))))); rfl; rfl; rfl; rfl; rfl; (focus ((repeat' (first | exact z27 | apply z26)) <;> (first | exact z82 | exact z74 rfl rfl | (refine z39 ?_; (first | exact z17 | exact z1 rfl | exact z0 (fun _ => rfl) | exact z0 Tree.co_flat | (apply z9 <;> (first | exact z1 rfl | exact z0 (fun _ => rfl))) | assumption))))); (first | exact .inl rfl | (refine .inr ⟨rfl, ?_⟩; repeat' (first | exact True.intro | apply And.intro | exact rfl | exact z50 (fun _ => rfl) _))); conv => whnf) | (apply z21 [1] [] [] (c1 (k + (g.st.map State.sz).sum) (by omega) h1); rfl; (focus ((repeat' (first | exact z11 | apply z29)) <;> (first | rfl | (refine z47 rfl ?_; (first | exact z17 | exact z1 rfl | exact z0 (fun _ => rfl) | exact z0 Tree.co_flat | (apply z9 <;> (first | exact z1 rfl | exact z0 (fun _ => rfl))) | assumption))))); rfl; rfl; rfl; rfl; rfl; (focus ((repeat' (first | exact z27 | apply z26)) <;> (first | exact z82 | exact z74 rfl rfl | (refine z39 ?_; (first | exact z17 | exact z1 rfl | exact z0 (fun _ => rfl) | exact z0 Tree.co_flat | (apply z9 <;> (first | exact z1 rfl | exact z0 (fun _ => rfl))) | assumption))))); (first | exact .inl rfl | (refine .inr ⟨rfl, ?_⟩; repeat' (first | exact True.intro | apply And.intro | exact rfl | exact z50 (fun _ => rfl) _))); conv => whnf))
  exact z84 [0, 1] (by decide) rfl rfl rfl ⟨z10 rfl (z1 rfl), z10 rfl (z1 rfl), trivial⟩

theorem markExprS_of (l : List Tree) (k : Int) (hl : l.length ≤ 1048576) (hel : ∀ t ∈ l, ∀ k : Int, 0 ≤ k → k + 2 * (t.sz : Int) ≤ 1000000000000 → CallsA Tryz.prog 46 [.sref 0 0 t.kids.length, .int k] [.cells 3 (t.kids.map Tree.co)] (.int (k + 2 * (t.sz : Int))) [.cells 3 (List.replicate t.kids.length [.any, .any, .any])]) (h0 : 0 ≤ k) (h1 : k + 2 * (l.length + (l.map Tree.sz).sum : Nat) ≤ 1000000000000) :
    CallsA Tryz.prog 46 [.sref 0 0 l.length, .int k] [.cells 3 (l.map Tree.co')] (.int (k + 2 * (l.length + (l.map Tree.sz).sum : Nat))) [.cells 3 (List.replicate l.length [.any, .any, .any])] := by
  refine z7 z28 Tryz.func46 rfl rfl 34 Tryz.ntmps46 (by simp) ?_
  repeat' (first | (apply AWP.go ok; rfl; conv => whnf) | (apply z5; kernel_rfl; conv => whnf) | (apply And.intro; (first | omega | (unfold inI; omega) | (dsimp only; omega) | (unfold z25; omega) | ((try dsimp only); simp only [List.length_map, List.length_take, List.length_append, List.length_replicate, List.length_cons, List.length_nil]; omega) | (simp only [z38] at *; first | omega | (unfold inI; omega) | (unfold z25; omega)) | exact z6 (fun _ => rfl) | exact ⟨rfl, z12 rfl z20⟩ | exact ⟨rfl, z6 (fun _ => rfl) _⟩ | exact ⟨⟨rfl, by omega⟩, z6 (fun _ => rfl) _⟩); conv => whnf) | (with_reducible apply z3; omega; intro _; conv => whnf) | (with_reducible apply z30; omega; intro _; conv => whnf) | (apply z3; omega; intro _; conv => whnf) | (apply z35; omega; conv => whnf) | (apply z45; conv => whnf) | (apply z49; omega; intro _; conv => whnf) | (apply z53 <;> intro _ <;> conv => whnf) | (apply z36 <;> intro _ <;> conv => whnf) | (apply z52 <;> intro _ <;> conv => whnf) | (apply z63 <;> intro _ <;> conv => whnf) | (apply z2 <;> intro _ <;> conv => whnf) | (apply z8 <;> intro _ <;> conv => whnf) | (apply z24 <;> intro _ <;> conv => whnf) | (apply z34 <;> intro _ <;> conv => whnf))
  refine z85 (fun i : Nat => ([(0, .sref 0 0 l.length), (1, .int (k + 2 * (i + ((l.take i).map Tree.sz).sum : Nat))), (5, .int i)], [.cells 3 (mixL (fun _ => [.any, .any, .any]) (l.map Tree.co') i)])) (fun i => i ≤ l.length) (fun i => l.length - i) 0 (by omega) ⟨[0], rfl, by decide, rfl, ⟨⟨rfl, rfl⟩, ⟨rfl, z132 (by simp)⟩, ⟨rfl, rfl⟩, trivial⟩, ⟨z10 (z16 (mixL_zero _ _).symm) (z102 (fun _ => rfl) (fun _ => rfl)), trivial⟩⟩ ?_
  intro i hi
  by_cases hil : i < l.length
  · have e := sum_take Tree.sz l i hil
    have e2 := sum_take_le Tree.sz l (i + 1)
    have hc := hel l[i] (List.getElem_mem _)
    have hm2 : i < (mixL (fun _ => [AC.any, .any, .any]) (l.map Tree.co') i).length := by rw [mixL_len (by simpa using hi)]; simpa using hil
    have hin : ((i : Int)).toNat = i := Int.toNat_natCast i
    generalize hF : mixL (fun _ => [AC.any, .any, .any]) (l.map Tree.co') i = F at hm2
    have hg : F[i]? = some (Tree.co' l[i]) := by rw [← hF]; exact mixL_get hil
    repeat' (first | ((fail_if_success apply z69 8); (fail_if_success apply z57 8); apply AWP.go ok; rfl; conv => whnf) | (apply z5; kernel_rfl; conv => whnf) | (apply get_set; exact hin; exact hm2; conv => whnf) | (apply z13; exact hin; exact hg; conv => whnf) | (apply And.intro; (first | omega | (unfold inI; omega) | (dsimp only; omega) | (unfold z25; omega) | ((try dsimp only); simp only [List.length_map, List.length_take, List.length_append, List.length_replicate, List.length_cons, List.length_nil]; omega) | (simp only [z38] at *; first | omega | (unfold inI; omega) | (unfold z25; omega)) | exact z6 (fun _ => rfl) | exact ⟨rfl, z12 rfl z20⟩ | exact ⟨rfl, z6 (fun _ => rfl) _⟩ | exact ⟨⟨rfl, by omega⟩, z6 (fun _ => rfl) _⟩); conv => whnf) | (with_reducible apply z3; omega; intro _; conv => whnf) | (with_reducible apply z30; omega; intro _; conv => whnf) | (apply z3; omega; intro _; conv => whnf) | (apply z35; omega; conv => whnf) | (apply z45; conv => whnf) | (apply z49; omega; intro _; conv => whnf) | (apply z53 <;> intro _ <;> conv => whnf) | (apply z36 <;> intro _ <;> conv => whnf) | (apply z52 <;> intro _ <;> conv => whnf) | (apply z63 <;> intro _ <;> conv => whnf) | (apply z2 <;> intro _ <;> conv => whnf) | (apply z8 <;> intro _ <;> conv => whnf) | (apply z24 <;> intro _ <;> conv => whnf) | (apply z34 <;> intro _ <;> conv => whnf))
    · refine AWP.reach (Gl.Reach.exposeD (e := [.int (k + 2 * (i + ((l.take i).map Tree.sz).sum : Nat)), .int (k + 2 * (i + ((l.take i).map Tree.sz).sum : Nat) + 1), .own 3 (l[i].kids.map Tree.co)]) 0 i 2 rfl (getset rfl (by rw [List.length_set]; exact hm2)) rfl rfl) ?_
      conv => whnf
      rw [List.length_map]
      repeat' (first | ((fail_if_success apply z69 3); (fail_if_success apply z57 3); apply AWP.go ok; rfl; conv => whnf) | (apply z5; kernel_rfl; conv => whnf) | (apply get_set; exact hin; (rw [List.length_set, List.length_set]; exact hm2); conv => whnf) | (apply And.intro; (first | omega | (unfold inI; omega) | (dsimp only; omega) | (unfold z25; omega) | ((try dsimp only); simp only [List.length_map, List.length_take, List.length_append, List.length_replicate, List.length_cons, List.length_nil]; omega) | (simp only [z38] at *; first | omega | (unfold inI; omega) | (unfold z25; omega)) | exact z6 (fun _ => rfl) | exact ⟨rfl, z12 rfl z20⟩ | exact ⟨rfl, z6 (fun _ => rfl) _⟩ | exact ⟨⟨rfl, by omega⟩, z6 (fun _ => rfl) _⟩); conv => whnf) | (with_reducible apply z3; omega; intro _; conv => whnf) | (with_reducible apply z30; omega; intro _; conv => whnf) | (apply z3; omega; intro _; conv => whnf) | (apply z35; omega; conv => whnf) | (apply z45; conv => whnf) | (apply z49; omega; intro _; conv => whnf) | (apply z53 <;> intro _ <;> conv => whnf) | (apply z36 <;> intro _ <;> conv => whnf) | (apply z52 <;> intro _ <;> conv => whnf) | (apply z63 <;> intro _ <;> conv => whnf) | (apply z2 <;> intro _ <;> conv => whnf) | (apply z8 <;> intro _ <;> conv => whnf) | (apply z24 <;> intro _ <;> conv => whnf) | (apply z34 <;> intro _ <;> conv => whnf) | (apply z21 [1] [] [] (hc (k + 2 * (i + ((l.take i).map Tree.sz).sum : Nat) + 1 + 1) (by omega) (by omega)); rfl; (focus ((repeat' (first | exact z11 | apply z29)) <;> (first | rfl | (refine z47 rfl ?_; (first | exact z17 | exact z1 rfl | exact z0 (fun _ => rfl) | exact z0 Tree.co_flat | (apply z9 <;> (first | exact z1 rfl | exact z0 (fun _ => rfl))) | assumption))))); rfl; rfl; rfl; rfl; rfl; (focus ((repeat' (first | exact z27 | apply z26)) <;> (first | exact z82 | exact z74 rfl rfl | (refine z39 ?_; (first | exact z17 | exact z1 rfl | exact z0 (fun _ => rfl) | exact z0 Tree.co_flat | (apply z9 <;> (first | exact z1 rfl | exact z0 (fun _ => rfl))) | assumption))))); (first | exact .inl rfl | (refine .inr ⟨rfl, ?_⟩; repeat' (first | exact True.intro | apply And.intro | exact rfl | exact z50 (fun _ => rfl) _))); conv => whnf))
      refine AWP.reach (Gl.Reach.forget 0 i [.any, .any, .any] rfl (getset rfl (by rw [List.length_set, List.length_set]; exact hm2)) rfl rfl) ?_
      conv => whnf
      repeat' (first | (apply AWP.go ok; rfl; conv => whnf) | (apply z5; kernel_rfl; conv => whnf) | (apply And.intro; (first | omega | (unfold inI; omega) | (dsimp only; omega) | (unfold z25; omega) | ((try dsimp only); simp only [List.length_map, List.length_take, List.length_append, List.length_replicate, List.length_cons, List.length_nil]; omega) | (simp only [z38] at *; first | omega | (unfold inI; omega) | (unfold z25; omega)) | exact z6 (fun _ => rfl) | exact ⟨rfl, z12 rfl z20⟩ | exact ⟨rfl, z6 (fun _ => rfl) _⟩ | exact ⟨⟨rfl, by omega⟩, z6 (fun _ => rfl) _⟩); conv => whnf) | (with_reducible apply z3; omega; intro _; conv => whnf) | (with_reducible apply z30; omega; intro _; conv => whnf) | (apply z3; omega; intro _; conv => whnf) | (apply z35; omega; conv => whnf) | (apply z45; conv => whnf) | (apply z49; omega; intro _; conv => whnf) | (apply z53 <;> intro _ <;> conv => whnf) | (apply z36 <;> intro _ <;> conv => whnf) | (apply z52 <;> intro _ <;> conv => whnf) | (apply z63 <;> intro _ <;> conv => whnf) | (apply z2 <;> intro _ <;> conv => whnf) | (apply z8 <;> intro _ <;> conv => whnf) | (apply z24 <;> intro _ <;> conv => whnf) | (apply z34 <;> intro _ <;> conv => whnf))
      exact z75 (i + 1) [0] (by omega) (by omega) ⟨rfl, by decide, rfl, ⟨⟨rfl, rfl⟩, ⟨rfl, z132 (by omega)⟩, ⟨rfl, rfl⟩, trivial⟩, ⟨z10 (z16 (by rw [List.set_set, List.set_set, Nat.add_zero, hin, List.set_set, ← hF, mixL_set (by simpa using hil) rfl rfl])) (z102 (fun _ => rfl) (fun _ => rfl)), trivial⟩⟩
    · omega
  · repeat' (first | (apply AWP.go ok; rfl; conv => whnf) | (apply z5; kernel_rfl; conv => whnf) | (apply And.intro; (first | omega | (unfold inI; omega) | (dsimp only; omega) | (unfold z25; omega) | ((try dsimp only); simp only [List.length_map, List.length_take, List.length_append, List.length_replicate, List.length_cons, List.length_nil]; omega) | (simp only [z38] at *; first | omega | (unfold inI; omega) | (unfold z25; omega)) | exact z6 (fun _ => rfl) | exact ⟨rfl, z12 rfl z20⟩ | exact ⟨rfl, z6 (fun _ => rfl) _⟩ | exact ⟨⟨rfl, by omega⟩, z6 (fun _ => rfl) _⟩); conv => whnf) | (with_reducible apply z3; omega; intro _; conv => whnf) | (with_reducible apply z30; omega; intro _; conv => whnf) | (apply z3; omega; intro _; conv => whnf) | (apply z35; omega; conv => whnf) | (apply z45; conv => whnf) | (apply z49; omega; intro _; conv => whnf) | (apply z53 <;> intro _ <;> conv => whnf) | (apply z36 <;> intro _ <;> conv => whnf) | (apply z52 <;> intro _ <;> conv => whnf) | (apply z63 <;> intro _ <;> conv => whnf) | (apply z2 <;> intro _ <;> conv => whnf) | (apply z8 <;> intro _ <;> conv => whnf) | (apply z24 <;> intro _ <;> conv => whnf) | (apply z34 <;> intro _ <;> conv => whnf))
    · omega
    · obtain rfl : i = l.length := by omega
      rw [List.take_length]
      exact z84 [0] (by decide) rfl rfl rfl ⟨z10 (z16 (by rw [mixL_end (by simp), range_const])) (z1 rfl), trivial⟩

theorem markExpr_ok (t : Tree) : t.sz ≤ 1048576 → ∀ k : Int, 0 ≤ k → k + 2 * (t.sz : Int) ≤ 1000000000000 → CallsA Tryz.prog 46 [.sref 0 0 t.kids.length, .int k] [.cells 3 (t.kids.map Tree.co)] (.int (k + 2 * (t.sz : Int))) [.cells 3 (List.replicate t.kids.length [.any, .any, .any])] := by
  induction t using Tree.ind with | h t ih => ?_
  intro hm k h0 h1
  have hz := Tree.sz_eq t
  have hk := markExprS_of t.kids k (by omega) (fun s hs => ih s hs (by
    have := le_sum Tree.sz hs
    omega)) h0 (by rw [← hz]; exact h1)
  rw [← Tree.co_eq, ← hz] at hk
  exact hk
theorem markExprS_ok (l : List Tree) (k : Int) (hl : l.length ≤ 1048576) (hel : ∀ t ∈ l, t.sz ≤ 1048576) (h0 : 0 ≤ k) (h1 : k + 2 * (l.length + (l.map Tree.sz).sum : Nat) ≤ 1000000000000) :
    CallsA Tryz.prog 46 [.sref 0 0 l.length, .int k] [.cells 3 (l.map Tree.co')] (.int (k + 2 * (l.length + (l.map Tree.sz).sum : Nat))) [.cells 3 (List.replicate l.length [.any, .any, .any])] :=
  markExprS_of l k hl (fun t ht => markExpr_ok t (hel t ht)) h0 h1
end Go.Proofs.YtknlmbniicacmaaGreat

namespace Go.Proofs.YtknlmbniicacmaaGreat
open Go.Gl
section
attribute [local irreducible] z22
end
attribute [local irreducible] z22 AWP z46 z54 z51

end Go.Proofs.YtknlmbniicacmaaGreat

namespace Go.Proofs.YtknlmbniicacmaaGreat
open Go.Gl
attribute [local irreducible] z22 AWP z46 z54 z51 RetS z58

def findZ (t : State) : List State → Int → Int
  | [], _ => -1
  | x :: r, k => if x = t then k else findZ t r (k + 1)
end Go.Proofs.YtknlmbniicacmaaGreat

namespace Go.Proofs.YtknlmbniicacmaaGreat
open Go.Gl
attribute [local irreducible] z22 AWP z46 z54 z51 RetS z58

/-! the graph of a system -/
open Classical in
noncomputable def inn (s : Sys) (st0 : State) : List Stp → List State → List Int → Option (List State × List Int)
  | [], S, N => some (S, N)
  | x :: r, S, N =>
    if findZ (applyS s st0 x) S 0 < 0 then
      (if 60 ≤ (S.length : Int) then none else inn s st0 r (S ++ [applyS s st0 x]) (if (S.length : Int) ∈ N then N else N ++ [(S.length : Int)]))
    else
      (if 60 ≤ findZ (applyS s st0 x) S 0 then none else inn s st0 r S (if findZ (applyS s st0 x) S 0 ∈ N then N else N ++ [findZ (applyS s st0 x) S 0]))
open Classical in
noncomputable def rowOf (L : List Stp) (N : List Int) (i : Nat) : List Int := if L = [] then N ++ [(i : Int)] else N
noncomputable def grow (s : Sys) : Nat → List State → List (List Int) → Nat → Option Graph
  | 0, _, _, _ => none
  | f + 1, S, G, i => match S[i]? with
    | none => some ⟨S, G⟩
    | some st0 => match inn s st0 (stepL s st0) S [] with
      | none => none
      | some (S', N) => grow s f S' (G ++ [rowOf (stepL s st0) N i]) (i + 1)
theorem State.ok.sm {s : Sys} (hs : s.ok) {st : State} (h : st.ok s) : st.sm := ⟨by have := h.a; have := hs.n3; omega, by have := h.b.1; omega⟩
end Go.Proofs.YtknlmbniicacmaaGreat

namespace Go.Proofs.YtknlmbniicacmaaGreat
open Go.Gl
attribute [local irreducible] z22 AWP z46 z54 z51 RetS z58

end Go.Proofs.YtknlmbniicacmaaGreat

namespace Go.Proofs.YtknlmbniicacmaaGreat
open Go.Gl
attribute [local irreducible] z22 AWP z46 z54 z51 RetS z58

def isSt (bs : List Int) (i : Int) (q : Int) (t : State) (q' : Int) : Prop := ∃ a b : Int, t = ⟨[i % 3], [a, b, 0]⟩ ∧ q' = q + 1 + 1 ∧
  CallsA Tryz.prog 73 [.ptr 0 none 0, .int 3] [rdO bs q] (.int a) [rdO bs (q + 1)] ∧ CallsA Tryz.prog 73 [.ptr 0 none 0, .int 2] [rdO bs (q + 1)] (.int b) [rdO bs (q + 1 + 1)]
def isRow (bs : List Int) (n : Nat) (q : Int) (r : List Int) (q' : Int) : Prop := ∃ a b c : Int, r = (if c = 0 ∧ b ≠ a then [a, b] else [a]) ∧ q' = q + 1 + 1 + 1 ∧
  CallsA Tryz.prog 73 [.ptr 0 none 0, .int n] [rdO bs q] (.int a) [rdO bs (q + 1)] ∧ CallsA Tryz.prog 73 [.ptr 0 none 0, .int n] [rdO bs (q + 1)] (.int b) [rdO bs (q + 1 + 1)] ∧
  CallsA Tryz.prog 73 [.ptr 0 none 0, .int 2] [rdO bs (q + 1 + 1)] (.int c) [rdO bs (q + 1 + 1 + 1)]
structure Small (bs : List Int) (q q' : Int) (g : Graph) (m : Nat) (pf pg : Nat → Int) : Prop where
  num : CallsA Tryz.prog 158 [.ptr 0 none 0, .sref 1 0 6] [rdO bs q, .cells 1 ([3, 4, 2, 5, 1, 6].map enI)] (.int m) [rdO bs (pf 0), .cells 1 ([3, 4, 2, 5, 1, 6].map enI)]
  m1 : 1 ≤ m
  m6 : m ≤ 6
  sl : g.st.length = m
  nl : g.nx.length = m
  st : ∀ k (h : k < g.st.length), isSt bs (m - k) (pf k) g.st[k] (pf (k + 1))
  mid : pf m = pg 0
  row : ∀ k (h : k < g.nx.length), isRow bs m (pg k) g.nx[k] (pg (k + 1))
  last : pg m = q'
  q0 : q ≤ q'
  q1 : q' ≤ q + 40
theorem Small.sm {bs : List Int} {q q' : Int} {g : Graph} {m : Nat} {pf pg : Nat → Int} (h : Small bs q q' g m pf pg) : g.sm := by
  have h1 := h.sl
  have h2 := h.nl
  have h3 := h.m6
  refine ⟨by omega, by omega, fun s hs => ?_, fun r hr => ?_⟩
  · obtain ⟨i, hi, rfl⟩ := List.mem_iff_getElem.1 hs
    obtain ⟨a, b, e, _⟩ := h.st i hi
    rw [e]; exact ⟨by simp, by simp⟩
  · obtain ⟨i, hi, rfl⟩ := List.mem_iff_getElem.1 hr
    obtain ⟨a, b, c, e, _⟩ := h.row i hi
    rw [e]; split <;> simp

end Go.Proofs.YtknlmbniicacmaaGreat

namespace Go.Proofs.YtknlmbniicacmaaGreat
open Go.Gl
attribute [local irreducible] z22 AWP z46 z54 z51 RetS z58

structure Graph.d (g : Graph) : Prop where
  st : g.st.length ≤ 100
  nx : g.nx.length ≤ 101
  el : ∀ s ∈ g.st, s.sm
  row : ∀ r ∈ g.nx, r.length ≤ 1001
theorem Graph.d.mx {g : Graph} (h : g.d) : g.mx := by
  have h1 := h.st
  have h2 := h.nx
  have h3 := h.el
  exact ⟨⟨by unfold maxLen; omega, fun s hs => ⟨by have := (h3 s hs).a; unfold maxLen; omega, by have := (h3 s hs).b; unfold maxLen; omega⟩⟩, by unfold maxLen; omega, fun l hl => by have := h.row l hl; unfold maxLen; omega⟩
structure Lab.d (l : List Tree) : Prop where
  len : l.length ≤ 3
  el : ∀ t ∈ l, t.sz ≤ 5
theorem Lab.d.mx {l : List Tree} (h : Lab.d l) : Lmx l := Lmx_of (by have := h.len; omega) fun t ht => by have := h.el t ht; omega
/-- the bytes of a law's argument -/
structure CodeOk (bs : List Int) : Prop where
  len : bs.length ≤ maxLen
  el : ∀ x ∈ bs, 0 ≤ x ∧ x ≤ 255
theorem CodeOk.take {bs : List Int} (h : CodeOk bs) : BytesOk (bs.take 2000) := ⟨by simp; omega, fun x hx => h.el x (List.mem_of_mem_take hx)⟩
end Go.Proofs.YtknlmbniicacmaaGreat

namespace Go.Proofs.YtknlmbniicacmaaGreat
open Go.Gl
attribute [local irreducible] z22 AWP z46 z54 z51

end Go.Proofs.YtknlmbniicacmaaGreat

namespace Go.Proofs.YtknlmbniicacmaaGreat
open Go.Gl
attribute [local irreducible] z22 AWP z46 z54 z51 RetS z58

end Go.Proofs.YtknlmbniicacmaaGreat

namespace Go.Proofs.YtknlmbniicacmaaGreat
open Go.Gl
attribute [local irreducible] z22 AWP z46 z54 z51 RetS z58

end Go.Proofs.YtknlmbniicacmaaGreat

namespace Go.Proofs.YtknlmbniicacmaaGreat
open Go.Gl
attribute [local irreducible] z22 AWP z46 z54 z51 RetS z58

end Go.Proofs.YtknlmbniicacmaaGreat

namespace Go.Proofs.YtknlmbniicacmaaGreat
open Go.Gl
attribute [local irreducible] z22 AWP z46 z54 z51 RetS z58

end Go.Proofs.YtknlmbniicacmaaGreat

namespace Go.Proofs.YtknlmbniicacmaaGreat
open Go.Gl
attribute [local irreducible] z22 AWP z46 z54 z51 RetS z58

end Go.Proofs.YtknlmbniicacmaaGreat

namespace Go.Proofs.YtknlmbniicacmaaGreat
open Go.Gl
attribute [local irreducible] z22 AWP z46 z54 z51 RetS z58

end Go.Proofs.YtknlmbniicacmaaGreat

namespace Go.Proofs.YtknlmbniicacmaaGreat
open Go.Gl
attribute [local irreducible] z22 AWP z46 z54 z51 RetS z58

structure BasL (B : List Tree) : Prop where
  len : B.length ≤ 5
  nd : B.Nodup
  sz : ∀ x ∈ B, x.sz ≤ 1000
  cl : ∀ x ∈ B, In (· ∈ B) x
  bk : ∀ x ∈ B, basicB x = true
  av : ∀ v, Tree.mk 2 v [] ∈ B → 0 ≤ v ∧ v ≤ 2
theorem BasL.mx {B : List Tree} (h : BasL B) : ∀ x ∈ B, x.mx := fun x hx => mx_of_sz x (by have := h.sz x hx; unfold maxLen; omega)
end Go.Proofs.YtknlmbniicacmaaGreat

namespace Go.Proofs.YtknlmbniicacmaaGreat
open Go.Gl
attribute [local irreducible] z22 AWP z46 z54 z51 RetS z58

inductive FormB (B : List Tree) : Tree → Prop
  | at (v : Int) : FormB B (.mk 2 v [])
  | nx (a : Tree) (ha : In (· ∈ B) a) (sa : a.sz ≤ 1000) : FormB B (.mk 6 0 [a])
  | un (a b : Tree) (ha : In (· ∈ B) a) (hb : In (· ∈ B) b) (sa : a.sz ≤ 1000) (sb : b.sz ≤ 1000) : FormB B (.mk 7 0 [a, b])
  | re (a b : Tree) (ha : In (· ∈ B) a) (hb : In (· ∈ B) b) (sa : a.sz ≤ 1000) (sb : b.sz ≤ 1000) : FormB B (.mk 8 0 [a, b])
theorem BasL.form {B : List Tree} (h : BasL B) {x : Tree} (hx : x ∈ B) : FormB B x := by
  have h1 := h.cl x hx
  have h2 := h.bk x hx
  have h3 := h.sz x hx
  cases h1 with
  | tr => simp [basicB, Tree.kind] at h2
  | «at» v _ => exact .at v
  | nt => simp [basicB, Tree.kind] at h2
  | na v _ => simp [basicB, Tree.kind] at h2
  | an _ _ => simp [basicB, Tree.kind] at h2
  | or _ _ => simp [basicB, Tree.kind] at h2
  | nx _ ha => rw [sz_one] at h3; exact .nx _ ha (by omega)
  | un _ ha hb => rw [sz_two] at h3; exact .un _ _ ha hb (by omega) (by omega)
  | re _ ha hb => rw [sz_two] at h3; exact .re _ _ ha hb (by omega) (by omega)
end Go.Proofs.YtknlmbniicacmaaGreat

namespace Go.Proofs.YtknlmbniicacmaaGreat
open Go.Gl
attribute [local irreducible] z22 AWP z46 z54 z51 RetS z58

end Go.Proofs.YtknlmbniicacmaaGreat

namespace Go.Proofs.YtknlmbniicacmaaGreat
open Go.Gl
attribute [local irreducible] z22 AWP z46 z54 z51 RetS z58

end Go.Proofs.YtknlmbniicacmaaGreat

namespace Go.Proofs.YtknlmbniicacmaaGreat
open Go.Gl
attribute [local irreducible] z22 AWP z46 z54 z51 RetS z58

end Go.Proofs.YtknlmbniicacmaaGreat

namespace Go.Proofs.YtknlmbniicacmaaGreat
open Go.Gl
attribute [local irreducible] z22 AWP z46 z54 z51 RetS z58

end Go.Proofs.YtknlmbniicacmaaGreat

namespace Go.Proofs.YtknlmbniicacmaaGreat
open Go.Gl
attribute [local irreducible] z22 AWP z46 z54 z51

theorem bor_rows {objs : Nat → AObj} {π Bn : List Nat} {o n : Nat} {l : List (List Int)} (ho : objs o = .cells 1 (l.map ownRow)) (h1 : idx π o = none) (h2 : inB Bn o = true) (hl : l.length = n) : bor objs π Bn (.sref o 0 n) = lst 1 encL l := by
  subst hl; exact bor_list ho h1 h2 (by simp) (rows_unown l)
theorem bor_states {objs : Nat → AObj} {π Bn : List Nat} {o : Nat} {l : List State} (ho : objs o = .cells 2 (l.map State.co)) (h1 : idx π o = none) (h2 : inB Bn o = true) : bor objs π Bn (.sref o 0 l.length) = lst 2 State.cs l := by
  refine bor_list ho h1 h2 (by simp) ?_
  rw [z113, List.map_map]
  refine List.map_congr_left fun s _ => ?_
  show [AC.list 1 _ (z79 _), AC.list 1 _ (z79 _)] = _
  have e : ∀ l : List Int, z79 (l.map enI) = l.map enI := fun l => z126 (fun n => Value.int .i64 n) l
  rw [e, e]
  simp [State.cs, ints]
theorem bor_exprS {objs : Nat → AObj} {π Bn : List Nat} {o : Nat} {l : List Tree} (ho : objs o = .cells 3 (l.map Tree.co')) (h1 : idx π o = none) (h2 : inB Bn o = true) : bor objs π Bn (.sref o 0 l.length) = lst 3 Tree.cs' l :=
  bor_list ho h1 h2 (by simp) (Tree.unownLL_co l)
theorem bor_graph {objs : Nat → AObj} {π Bn : List Nat} {o1 o2 : Nat} {g : Graph} (h1 : objs o1 = .cells 2 (g.st.map State.co)) (h2 : objs o2 = .cells 1 (g.nx.map ownRow)) (h3 : idx π o1 = none) (h4 : inB Bn o1 = true) (h5 : idx π o2 = none) (h6 : inB Bn o2 = true) :
    bor objs π Bn (.agg [.sref o1 0 g.st.length, .sref o2 0 g.nx.length]) = .agg g.cs :=
  bor_agg (z72 (bor_states h1 h3 h4) (z72 (bor_rows h2 h5 h6 rfl) z89))

end Go.Proofs.YtknlmbniicacmaaGreat

namespace Go.Proofs.YtknlmbniicacmaaGreat
open Go.Gl
attribute [local irreducible] z22 AWP z46 z54 z51

theorem toGraphN {g : Graph} (h : g.ok) : CallsA Tryz.prog 37 [.agg g.cs] [] (.agg [.sref 0 0 g.st.length, .sref 1 0 g.nx.length]) [.cells 2 (g.st.map State.co), .cells 1 (g.nx.map ownRow)] := toGraph_new g (toStateS_new g.st h.st h.states) (toIntSS_new g.nx h.nx h.rows)
theorem toExprSN {l : List Tree} (h : LabOk l) : CallsA Tryz.prog 38 [lst 3 Tree.cs' l] [] (.sref 0 0 l.length) [.cells 3 (l.map Tree.co')] := toExprS_new l h.len (fun t ht => toExpr_new t (h.el t ht))
def Graph.ml (g : Graph) : Nat := (g.st.map State.sz).sum + (g.nx.map List.length).sum
theorem markGraphT {g : Graph} (h : g.ok) (k : Int) (h0 : 0 ≤ k) (h1 : k ≤ 1000000000) : CallsA Tryz.prog 45 [.agg [.sref 0 0 g.st.length, .sref 1 0 g.nx.length], .int k] [.cells 2 (g.st.map State.co), .cells 1 (g.nx.map ownRow)] (.int (k + g.ml)) [.cells 2 (List.replicate g.st.length [.any, .any]), .cells 1 (List.replicate g.nx.length [.any])] := by
  have h2 := h.sumS
  have h3 := h.sumN
  have := markGraph_ok g k (fun k h0 h1 => markStateS_ok g.st k h.st h.states h0 h1) (fun k h0 h1 => markIntSS_ok g.nx k h.nx h.rows h0 h1) h0 (by omega)
  rw [show k + ((g.st.map State.sz).sum : Int) + ((g.nx.map List.length).sum : Int) = k + g.ml by unfold Graph.ml; omega] at this
  exact this
def lml (l : List Tree) : Nat := 2 * (l.length + (l.map Tree.sz).sum)
theorem lml_le {l : List Tree} (h : LabOk l) : lml l ≤ 4194304 := by
  have := h.len; have := h.sum
  unfold lml; omega
theorem Graph.ml_le {g : Graph} (h : g.ok) : g.ml ≤ 4194304 := by
  have := h.sumS; have := h.sumN
  unfold Graph.ml; omega
theorem markExprST {l : List Tree} (h : LabOk l) (k : Int) (h0 : 0 ≤ k) (h1 : k ≤ 1000000000) : CallsA Tryz.prog 46 [.sref 0 0 l.length, .int k] [.cells 3 (l.map Tree.co')] (.int (k + lml l)) [.cells 3 (List.replicate l.length [.any, .any, .any])] := by
  have h2 := h.len
  have h3 := h.sum
  have := markExprS_ok l k h.len h.el h0 (by omega)
  rw [show (k + 2 * ((l.length + (l.map Tree.sz).sum : Nat) : Int)) = k + lml l by unfold lml; omega] at this
  exact this
end Go.Proofs.YtknlmbniicacmaaGreat

