/- Verdicts concern the initial state. The law FnCheckBranching returns true at every input and leaves its input as it was. No condition. -/
import Derived.Test.YtkophaoifmofdaaGreatG0
import Derived.Test.YtkophaoifmofdaaGreatG1
import Derived.Test.YtkophaoifmofdaaGreatG2
import Derived.Test.YtkophaoifmofdaaGreatP0
import Derived.Test.YtkophaoifmofdaaGreatP1
import Derived.Test.YtkophaoifmofdaaGreatP2
import Derived.Test.YtkophaoifmofdaaGreatP3
import Derived.Test.YtkophaoifmofdaaGreatP8
import Derived.Test.YtkophaoifmofdaaGreatP9
import Derived.Test.YtkophaoifmofdaaGreatP10
import Derived.Test.YtkophaoifmofdaaGreatP11
import Derived.Test.YtkophaoifmofdaaGreatP12
import Derived.Test.YtkophaoifmofdaaGreatP13
set_option linter.all false
namespace Go.Proofs.YtkophaoifmofdaaGreat
open Go.Gl
attribute [local irreducible] z90 AWP z100 z109 z103

noncomputable def cbZ (g : Graph) (l : List Tree) (t : Tree) : Int := if (glB g l && t.brB) = true then (if gB (brL g l t) 0 then 0 else 1) else 3
theorem brL_pos {g : Graph} {l : List Tree} {t : Tree} (h : (glB g l && t.brB) = true) : 0 < (brL g l t).length := by
  have h1 := (Bool.and_eq_true_iff.1 h).1
  have hG := (z150 g).1 (by unfold glB at h1; exact (Bool.and_eq_true_iff.1 h1).1)
  unfold brL
  rw [if_pos h, Tree.satB_len hG.inN]
  exact hG.1.1
theorem implCheckBr_ok (g : Graph) (hg : g.mx) (l : List Tree) (hl : Lmx l) (t : Tree) (ht : t.mx) : CallsA Tryz.prog 18 [.agg g.cs, lst 3 Tree.cs' l, z93 Tree.cs' t] [] (.int (cbZ g l t)) [] := by
  have k := keepB (implBranching_new g hg l hl t ht) rfl rfl
  by_cases h : (glB g l && t.brB) = true
  · have g1 := z123 (S := brL g l t) (i := 0) (brL_pos h)
    have e : cbZ g l t = if gB (brL g l t) 0 then 0 else 1 := by unfold cbZ; rw [if_pos h]
    rw [h] at k
    rw [e]
    generalize gB (brL g l t) 0 = p at *
    generalize brL g l t = R at *
    rw [Tree.arg_eq] at k ⊢
    refine z70 z87 Tryz.func18 rfl rfl 23 Tryz.ntmps18 (by simp) ?_
    cases p
    all_goals
      repeat' (first | (apply AWP.go ok; rfl; conv => whnf) | (apply z41; kernel_rfl; conv => whnf) | (refine z85 (i := 0) rfl g1 ?_; conv => whnf) | (apply And.intro; (first | omega | (unfold inI; omega) | (dsimp only; omega) | (unfold z39; omega) | ((try dsimp only); simp only [List.length_map, List.length_take, List.length_append, List.length_replicate, List.length_cons, List.length_nil]; omega) | (simp only [z55] at *; first | omega | (unfold inI; omega) | (unfold z39; omega)) | exact z12 (fun _ => rfl) | exact ⟨rfl, z18 rfl z24⟩ | exact ⟨rfl, z12 (fun _ => rfl) _⟩ | exact ⟨⟨rfl, by omega⟩, z12 (fun _ => rfl) _⟩); conv => whnf) | (with_reducible apply z15; omega; intro _; conv => whnf) | (with_reducible apply z25; omega; intro _; conv => whnf) | (apply z15; omega; intro _; conv => whnf) | (apply z26; omega; conv => whnf) | (apply z33; conv => whnf) | (apply z32; omega; intro _; conv => whnf) | (apply z31 <;> intro _ <;> conv => whnf) | (apply z23 <;> intro _ <;> conv => whnf) | (apply z30 <;> intro _ <;> conv => whnf) | (apply z42 <;> intro _ <;> conv => whnf) | (apply z21 <;> intro _ <;> conv => whnf) | (apply z17 <;> intro _ <;> conv => whnf) | (apply z22 <;> intro _ <;> conv => whnf) | (apply z29 <;> intro _ <;> conv => whnf) | (apply z52 (k); rfl; rfl; conv => whnf))
      all_goals first | (exfalso; omega) | exact z92 rfl rfl rfl | (exfalso; simp_all; done)
  · have e : cbZ g l t = 3 := by unfold cbZ; rw [if_neg h]
    rw [(Bool.not_eq_true _).mp h] at k
    rw [e]
    generalize brL g l t = R at *
    rw [Tree.arg_eq] at k ⊢
    refine z70 z87 Tryz.func18 rfl rfl 23 Tryz.ntmps18 (by simp) ?_
    repeat' (first | (apply AWP.go ok; rfl; conv => whnf) | (apply z41; kernel_rfl; conv => whnf) | (apply And.intro; (first | omega | (unfold inI; omega) | (dsimp only; omega) | (unfold z39; omega) | ((try dsimp only); simp only [List.length_map, List.length_take, List.length_append, List.length_replicate, List.length_cons, List.length_nil]; omega) | (simp only [z55] at *; first | omega | (unfold inI; omega) | (unfold z39; omega)) | exact z12 (fun _ => rfl) | exact ⟨rfl, z18 rfl z24⟩ | exact ⟨rfl, z12 (fun _ => rfl) _⟩ | exact ⟨⟨rfl, by omega⟩, z12 (fun _ => rfl) _⟩); conv => whnf) | (with_reducible apply z15; omega; intro _; conv => whnf) | (with_reducible apply z25; omega; intro _; conv => whnf) | (apply z15; omega; intro _; conv => whnf) | (apply z26; omega; conv => whnf) | (apply z33; conv => whnf) | (apply z32; omega; intro _; conv => whnf) | (apply z31 <;> intro _ <;> conv => whnf) | (apply z23 <;> intro _ <;> conv => whnf) | (apply z30 <;> intro _ <;> conv => whnf) | (apply z42 <;> intro _ <;> conv => whnf) | (apply z21 <;> intro _ <;> conv => whnf) | (apply z17 <;> intro _ <;> conv => whnf) | (apply z22 <;> intro _ <;> conv => whnf) | (apply z29 <;> intro _ <;> conv => whnf) | (apply z52 (k); rfl; rfl; conv => whnf))
    all_goals first | (exfalso; omega) | exact z92 rfl rfl rfl | (exfalso; simp_all; done)
theorem specCheckBr_ok (g : Graph) (hg : g.mx) (l : List Tree) (hl : Lmx l) (t : Tree) (ht : t.mx) : CallsA Tryz.prog 19 [.agg g.cs, lst 3 Tree.cs' l, z93 Tree.cs' t] [] (.int (cbZ g l t)) [] := by
  have k := specBranching_ok g hg l hl t ht
  by_cases h : (glB g l && t.brB) = true
  · have g1 := z123 (S := brL g l t) (i := 0) (brL_pos h)
    have e : cbZ g l t = if gB (brL g l t) 0 then 0 else 1 := by unfold cbZ; rw [if_pos h]
    rw [h] at k
    rw [e]
    generalize gB (brL g l t) 0 = p at *
    generalize brL g l t = R at *
    rw [Tree.arg_eq] at k ⊢
    refine z70 z87 Tryz.func19 rfl rfl 21 Tryz.ntmps19 (by simp) ?_
    cases p
    all_goals
      repeat' (first | (apply AWP.go ok; rfl; conv => whnf) | (apply z41; kernel_rfl; conv => whnf) | (refine z85 (i := 0) rfl g1 ?_; conv => whnf) | (apply And.intro; (first | omega | (unfold inI; omega) | (dsimp only; omega) | (unfold z39; omega) | ((try dsimp only); simp only [List.length_map, List.length_take, List.length_append, List.length_replicate, List.length_cons, List.length_nil]; omega) | (simp only [z55] at *; first | omega | (unfold inI; omega) | (unfold z39; omega)) | exact z12 (fun _ => rfl) | exact ⟨rfl, z18 rfl z24⟩ | exact ⟨rfl, z12 (fun _ => rfl) _⟩ | exact ⟨⟨rfl, by omega⟩, z12 (fun _ => rfl) _⟩); conv => whnf) | (with_reducible apply z15; omega; intro _; conv => whnf) | (with_reducible apply z25; omega; intro _; conv => whnf) | (apply z15; omega; intro _; conv => whnf) | (apply z26; omega; conv => whnf) | (apply z33; conv => whnf) | (apply z32; omega; intro _; conv => whnf) | (apply z31 <;> intro _ <;> conv => whnf) | (apply z23 <;> intro _ <;> conv => whnf) | (apply z30 <;> intro _ <;> conv => whnf) | (apply z42 <;> intro _ <;> conv => whnf) | (apply z21 <;> intro _ <;> conv => whnf) | (apply z17 <;> intro _ <;> conv => whnf) | (apply z22 <;> intro _ <;> conv => whnf) | (apply z29 <;> intro _ <;> conv => whnf) | (apply z52 (k); rfl; rfl; conv => whnf))
      all_goals first | (exfalso; omega) | exact z92 rfl rfl rfl | (exfalso; simp_all; done)
  · have e : cbZ g l t = 3 := by unfold cbZ; rw [if_neg h]
    rw [(Bool.not_eq_true _).mp h] at k
    rw [e]
    generalize brL g l t = R at *
    rw [Tree.arg_eq] at k ⊢
    refine z70 z87 Tryz.func19 rfl rfl 21 Tryz.ntmps19 (by simp) ?_
    repeat' (first | (apply AWP.go ok; rfl; conv => whnf) | (apply z41; kernel_rfl; conv => whnf) | (apply And.intro; (first | omega | (unfold inI; omega) | (dsimp only; omega) | (unfold z39; omega) | ((try dsimp only); simp only [List.length_map, List.length_take, List.length_append, List.length_replicate, List.length_cons, List.length_nil]; omega) | (simp only [z55] at *; first | omega | (unfold inI; omega) | (unfold z39; omega)) | exact z12 (fun _ => rfl) | exact ⟨rfl, z18 rfl z24⟩ | exact ⟨rfl, z12 (fun _ => rfl) _⟩ | exact ⟨⟨rfl, by omega⟩, z12 (fun _ => rfl) _⟩); conv => whnf) | (with_reducible apply z15; omega; intro _; conv => whnf) | (with_reducible apply z25; omega; intro _; conv => whnf) | (apply z15; omega; intro _; conv => whnf) | (apply z26; omega; conv => whnf) | (apply z33; conv => whnf) | (apply z32; omega; intro _; conv => whnf) | (apply z31 <;> intro _ <;> conv => whnf) | (apply z23 <;> intro _ <;> conv => whnf) | (apply z30 <;> intro _ <;> conv => whnf) | (apply z42 <;> intro _ <;> conv => whnf) | (apply z21 <;> intro _ <;> conv => whnf) | (apply z17 <;> intro _ <;> conv => whnf) | (apply z22 <;> intro _ <;> conv => whnf) | (apply z29 <;> intro _ <;> conv => whnf) | (apply z52 (k); rfl; rfl; conv => whnf))
    all_goals first | (exfalso; omega) | exact z92 rfl rfl rfl | (exfalso; simp_all; done)
end Go.Proofs.YtkophaoifmofdaaGreat

namespace Go.Proofs.YtkophaoifmofdaaGreat
open Go.Gl
attribute [local irreducible] z90 AWP z100 z109 z103 RetS z124

theorem drawCb_ok (bs : List Int) (hb : CodeOk bs) : ∃ (g : Graph) (l : List Tree) (f : Tree), (g.d ∧ Lab.d l ∧ f.sz ≤ 21) ∧ CallsA Tryz.prog 17 [lst 1 enU bs] [] (.tup [.agg g.cs, lst 3 Tree.cs' l, z93 Tree.cs' f]) [] := by
  obtain ⟨g, l, f, h, c⟩ := drawBr_ok bs hb
  refine ⟨g, l, f, h, ?_⟩
  rw [Tree.arg_eq] at c ⊢
  refine z74 z87 Tryz.func17 rfl rfl 10 Tryz.ntmps17 (by simp) ?_
  repeat' ((first | (apply AWP.go ok; rfl) | (apply z41; kernel_rfl) | (apply And.intro; first | omega | (unfold inI; omega) | (dsimp only; omega) | ((try dsimp only); simp only [List.length_map, List.length_take, List.length_append, List.length_replicate, List.length_cons, List.length_nil]; omega) | exact z12 (fun _ => rfl) | exact ⟨rfl, z18 rfl z24⟩ | exact ⟨rfl, z12 (fun _ => rfl) _⟩ | exact ⟨⟨rfl, by omega⟩, z12 (fun _ => rfl) _⟩) | ((first | (with_reducible apply z15; omega) | (with_reducible apply z25; omega) | (apply z15; omega)); intro _) | (apply z26; omega) | apply z33 | (apply z32; omega; intro _) | ((first | apply z31 | apply z23 | apply z30 | apply z42 | apply z21 | apply z17 | apply z22 | apply z29) <;> intro _) | (apply z52 (c); rfl; rfl)) <;> conv => whnf)
  all_goals (refine RetS.lay [] [] rfl rfl rfl ?_; refine RetS.done ?_ ?_ <;> (repeat' (first | exact LocLe.refl _ | exact z43 | (refine z65 ?_; assumption) | exact z50 | exact F2.nil | apply F2.cons | exact z61 _ | exact z53 _ | exact z81 | exact f22_cs' | (refine z76 ?_; omega) | (refine z79 ?_; omega) | (refine z37 ?_; omega) | (refine z80 ?_; omega) | (refine z60 ?_; (first | omega | (simp; done) | (simp; omega))) | apply ObjLe.box | ((first | refine z48 rfl ?_ ?_ | refine z49 rfl rfl ?_ ?_ | refine z57 rfl ?_ ?_ | refine z38 rfl ?_ ?_); (focus ((repeat' (first | exact z14 | exact z5 rfl | exact z4 (fun _ => rfl) | exact z4 Tree.co_flat | exact z45 rfl z14 | apply z13 | apply z16 | (refine z51 ?_ _ rfl) | assumption)); done))) | (refine z38 rfl ?_ ?_; (focus (refine z27 ?_ ?_ rfl <;> first | (simp; omega) | (apply z16; exact z4 fun _ => rfl)))) | (refine z35 ?_ ?_; (focus (simp; omega))) | (refine z82 (by omega) (by omega) ?_) | (refine z78 (by omega) ?_) | (refine z64 (by omega) ?_) | (refine z66 ?_; (first | omega | (simp; done))) | (refine z63 ?_ ?_; (focus (first | omega | (simp; done)))) | (refine z68 ?_ ?_; (focus (simp; done))) | (refine z67 ?_) | ((first | apply z56 rfl rfl rfl | apply z47 rfl rfl rfl); (focus ((repeat (first | exact z44 (fun _ => rfl) _ | exact z40 _ | apply z46 | apply z58 | apply z59 | rfl)); done)); (focus ((first | rfl | (simp; omega) | (simp; done)); done))) | apply z77 | apply z75 | (apply z36; rfl) | (refine z36 ?_ ?_; (focus (simp; done))) | apply ObjLe.mk | exact True.intro | apply And.intro)))
theorem cs_lst (f : Tree) : Tree.cs' f = [.int f.kind, .int f.val, lst 3 Tree.cs' f.kids] := by
  show [AC.int f.kind, AC.int f.val, AC.list 3 f.kids.length (f.kids.map Tree.cs)] = _
  rw [Tree.cs_eq]; rfl
theorem cb_not {g : Graph} {l : List Tree} {f : Tree} (h0 : okB g l f = true) : cbZ g l (.mk 3 0 [f]) = 3 ∨ cbZ g l (.mk 3 0 [f]) = if gB (brL g l f) 0 then 1 else 0 := by
  by_cases h : okB g l (.mk 3 0 [f]) = true
  · refine .inr ?_
    have hp := brL_pos (show (glB g l && f.brB) = true from h0)
    rw [brL_len h0] at hp
    unfold cbZ
    rw [if_pos (show (glB g l && (Tree.mk 3 0 [f]).brB) = true from h), brL_sat h, sat_not, gB_not _ hp, brL_sat h0]
    cases gB (Tree.satB g.nx g.st.length (List.map (z122 l) g.st) f) 0 <;> rfl
  · exact .inl (by unfold cbZ; rw [if_neg (show ¬(glB g l && (Tree.mk 3 0 [f]).brB) = true from h)])

set_option maxHeartbeats 3200000 in
theorem lawFnCheckBranching (c : List Int) (hc : CodeOk c) : CallsA Tryz.prog 7 [lst 1 enU c] [] (.bool true) [] := by
  obtain ⟨g, l, f, ⟨hg, hl, hf⟩, cd⟩ := drawCb_ok c hc
  have hlen := hc.len
  unfold maxLen at hlen
  have k0 := implCheckBr_ok g hg.mx l hl.mx f (mx_of_sz f (by unfold maxLen; omega))
  have k1 := specCheckBr_ok g hg.mx l hl.mx f (mx_of_sz f (by unfold maxLen; omega))
  have k2 := br_ok g hg l hl f (by omega)
  have k3 := implCheckBr_ok g hg.mx l hl.mx (.mk 3 0 [f]) (mx_of_sz _ (by rw [sz1]; unfold maxLen; omega))
  rw [arg1, cs_lst] at k3
  rw [Tree.arg_eq] at k0 k1 k2 cd
  by_cases h0 : okB g l f = true
  · have hn := cb_not h0
    have hp := brL_pos (show (glB g l && f.brB) = true from h0)
    have g0 := z123 (S := brL g l f) (i := 0) hp
    have ev : cbZ g l f = if gB (brL g l f) 0 then 0 else 1 := by unfold cbZ; rw [if_pos (show (glB g l && f.brB) = true from h0)]
    have hl100 := z140 (g := g) (l := l) f
    rw [h0] at k2
    rw [ev] at k0 k1
    generalize cbZ g l (.mk 3 0 [f]) = w at *
    generalize gB (brL g l f) 0 = y at *
    generalize brL g l f = S at *
    rcases hn with rfl | rfl <;> cases y
    all_goals
      refine z74 z87 Tryz.func7 rfl rfl 70 Tryz.ntmps7 (by simp) ?_
      repeat' ((first | (apply AWP.go ok; rfl) | (apply z41; kernel_rfl) | (refine z85 (i := 0) rfl g0 ?_) | (apply And.intro; first | omega | (unfold inI; omega) | (dsimp only; omega) | ((try dsimp only); simp only [List.length_map, List.length_take, List.length_append, List.length_replicate, List.length_cons, List.length_nil]; omega) | exact z12 (fun _ => rfl) | exact ⟨rfl, z18 rfl z24⟩ | exact ⟨rfl, z12 (fun _ => rfl) _⟩ | exact ⟨⟨rfl, by omega⟩, z12 (fun _ => rfl) _⟩) | ((first | (with_reducible apply z15; omega) | (with_reducible apply z25; omega) | (apply z15; omega)); intro _) | (apply z26; omega) | apply z33 | (apply z32; omega; intro _) | ((first | apply z31 | apply z23 | apply z30 | apply z42 | apply z21 | apply z17 | apply z22 | apply z29) <;> intro _) | (apply z52 (cd); rfl; rfl) | (apply z52 (k0); rfl; rfl) | (apply z52 (k1); rfl; rfl) | (apply z52 (k2); rfl; rfl) | ((first | (apply z34 [] [2] [] (k3); (focus ((repeat' first | exact z129 | apply z97) <;> first | exact z136 rfl rfl rfl | exact z128 rfl rfl rfl | exact z126 rfl rfl rfl | rfl)); (focus ((repeat' first | exact z20 | apply z19) <;> first | rfl | (refine z28 rfl ?_; (first | exact z4 fun _ => rfl | exact z14 | exact z5 rfl | (apply z13 <;> exact z4 fun _ => rfl) | assumption)))))); rfl; rfl; rfl; rfl; rfl; (focus ((repeat' first | exact z71 | apply z62) <;> first | exact z73 | exact z84 rfl rfl | (refine z72 ?_; (first | exact z4 fun _ => rfl | exact z14 | exact z5 rfl | (apply z13 <;> exact z4 fun _ => rfl) | assumption)))); (first | exact .inl rfl | (refine .inr ⟨rfl, ?_⟩; repeat' first | exact True.intro | apply And.intro | exact rfl | exact z54 (fun _ => rfl) _)))) <;> conv => whnf)
      all_goals first | (exfalso; omega) | (exfalso; contradiction) | (exfalso; simp_all; done) | kernel_rfl | (refine RetS.lay [] [] rfl rfl rfl ?_; refine RetS.done ?_ ?_ <;> (repeat' (first | exact LocLe.refl _ | exact z43 | (refine z65 ?_; assumption) | exact z50 | exact F2.nil | apply F2.cons | exact z61 _ | exact z53 _ | exact z81 | exact f22_cs' | (refine z76 ?_; omega) | (refine z79 ?_; omega) | (refine z37 ?_; omega) | (refine z80 ?_; omega) | (refine z60 ?_; (first | omega | (simp; done) | (simp; omega))) | apply ObjLe.box | ((first | refine z48 rfl ?_ ?_ | refine z49 rfl rfl ?_ ?_ | refine z57 rfl ?_ ?_ | refine z38 rfl ?_ ?_); (focus ((repeat' (first | exact z14 | exact z5 rfl | exact z4 (fun _ => rfl) | exact z4 Tree.co_flat | exact z45 rfl z14 | apply z13 | apply z16 | (refine z51 ?_ _ rfl) | assumption)); done))) | (refine z38 rfl ?_ ?_; (focus (refine z27 ?_ ?_ rfl <;> first | (simp; omega) | (apply z16; exact z4 fun _ => rfl)))) | (refine z35 ?_ ?_; (focus (simp; omega))) | (refine z82 (by omega) (by omega) ?_) | (refine z78 (by omega) ?_) | (refine z64 (by omega) ?_) | (refine z66 ?_; (first | omega | (simp; done))) | (refine z63 ?_ ?_; (focus (first | omega | (simp; done)))) | (refine z68 ?_ ?_; (focus (simp; done))) | (refine z67 ?_) | ((first | apply z56 rfl rfl rfl | apply z47 rfl rfl rfl); (focus ((repeat (first | exact z44 (fun _ => rfl) _ | exact z40 _ | apply z46 | apply z58 | apply z59 | rfl)); done)); (focus ((first | rfl | (simp; omega) | (simp; done)); done))) | apply z77 | apply z75 | (apply z36; rfl) | (refine z36 ?_ ?_; (focus (simp; done))) | apply ObjLe.mk | exact True.intro | apply And.intro))) | skip
  · have ev : cbZ g l f = 3 := by unfold cbZ; rw [if_neg (show ¬(glB g l && f.brB) = true from h0)]
    rw [ev] at k0 k1
    refine z74 z87 Tryz.func7 rfl rfl 70 Tryz.ntmps7 (by simp) ?_
    repeat' ((first | (apply AWP.go ok; rfl) | (apply z41; kernel_rfl) | (apply And.intro; first | omega | (unfold inI; omega) | (dsimp only; omega) | ((try dsimp only); simp only [List.length_map, List.length_take, List.length_append, List.length_replicate, List.length_cons, List.length_nil]; omega) | exact z12 (fun _ => rfl) | exact ⟨rfl, z18 rfl z24⟩ | exact ⟨rfl, z12 (fun _ => rfl) _⟩ | exact ⟨⟨rfl, by omega⟩, z12 (fun _ => rfl) _⟩) | ((first | (with_reducible apply z15; omega) | (with_reducible apply z25; omega) | (apply z15; omega)); intro _) | (apply z26; omega) | apply z33 | (apply z32; omega; intro _) | ((first | apply z31 | apply z23 | apply z30 | apply z42 | apply z21 | apply z17 | apply z22 | apply z29) <;> intro _) | (apply z52 (cd); rfl; rfl) | (apply z52 (k0); rfl; rfl) | (apply z52 (k1); rfl; rfl)) <;> conv => whnf)
    all_goals first | (exfalso; omega) | (exfalso; contradiction) | (exfalso; simp_all; done) | kernel_rfl | (refine RetS.lay [] [] rfl rfl rfl ?_; refine RetS.done ?_ ?_ <;> (repeat' (first | exact LocLe.refl _ | exact z43 | (refine z65 ?_; assumption) | exact z50 | exact F2.nil | apply F2.cons | exact z61 _ | exact z53 _ | exact z81 | exact f22_cs' | (refine z76 ?_; omega) | (refine z79 ?_; omega) | (refine z37 ?_; omega) | (refine z80 ?_; omega) | (refine z60 ?_; (first | omega | (simp; done) | (simp; omega))) | apply ObjLe.box | ((first | refine z48 rfl ?_ ?_ | refine z49 rfl rfl ?_ ?_ | refine z57 rfl ?_ ?_ | refine z38 rfl ?_ ?_); (focus ((repeat' (first | exact z14 | exact z5 rfl | exact z4 (fun _ => rfl) | exact z4 Tree.co_flat | exact z45 rfl z14 | apply z13 | apply z16 | (refine z51 ?_ _ rfl) | assumption)); done))) | (refine z38 rfl ?_ ?_; (focus (refine z27 ?_ ?_ rfl <;> first | (simp; omega) | (apply z16; exact z4 fun _ => rfl)))) | (refine z35 ?_ ?_; (focus (simp; omega))) | (refine z82 (by omega) (by omega) ?_) | (refine z78 (by omega) ?_) | (refine z64 (by omega) ?_) | (refine z66 ?_; (first | omega | (simp; done))) | (refine z63 ?_ ?_; (focus (first | omega | (simp; done)))) | (refine z68 ?_ ?_; (focus (simp; done))) | (refine z67 ?_) | ((first | apply z56 rfl rfl rfl | apply z47 rfl rfl rfl); (focus ((repeat (first | exact z44 (fun _ => rfl) _ | exact z40 _ | apply z46 | apply z58 | apply z59 | rfl)); done)); (focus ((first | rfl | (simp; omega) | (simp; done)); done))) | apply z77 | apply z75 | (apply z36; rfl) | (refine z36 ?_ ?_; (focus (simp; done))) | apply ObjLe.mk | exact True.intro | apply And.intro))) | skip
end Go.Proofs.YtkophaoifmofdaaGreat

namespace Go.Proofs.YtkophaoifmofdaaGreat
open Go.Gl
open Go.ChangeShapes Go.WideShapes Go.ChangeAt Go.RowKit
attribute [local irreducible] z90 AWP z100 z109 z103
namespace FnCheckBranching
theorem args_ok : ArgsOk Tryz.prog Tryz.f7.params.toList (fun xs _ => ∃ (c : List Int), xs = [lst 1 enU c] ∧ CodeOk c) := by
  rw [Tryz.params7]
  refine ArgsOk.imp (args_cons ad_code (args_nil)) ?_
  rintro xs m ⟨c, _, rfl, hc, rfl⟩
  exact ⟨c, rfl, hc⟩

set_option maxRecDepth 100000 in
theorem contract (H : Type) (enc : TypeId × Value → H) (W : World) (base : Nat) (args : Array Value) (ds gs : List (DataW H)) (before : List MemPlace)
    (hval : ∀ (j : Nat) t v, Tryz.f7.params[j]? = some t → args[j]? = some v → Value.okWide Tryz.prog W .any base t v)
    (hW : DataW.Whole enc Tryz.prog Tryz.f7.params.toList Rows.fnCheckBranchingSpec.vars false W args.toList ds gs before) :
    Calls Tryz.prog 7 args W fun e W' => ∃ v, e = .returned v ∧ Rows.fnCheckBranchingSpec.post enc Tryz.prog Tryz.f7 false true false false W args v W' := by
  refine law_post bulk_sizeOf laidOut_ok (by rw [Tryz.params7]; decide +kernel) rfl (fun ds h => ?_) (by kernel_rfl) Tryz.underlying4 args_ok (fun xs m h _ => ?_) hval hW
  · rw [Tryz.params7] at h
    match ds, h with
    | [_], _ => rfl
  · obtain ⟨c, rfl, hc⟩ := h
    exact lawFnCheckBranching c hc

noncomputable def w0 (os : Os) : World := World.holding Tryz.prog os ⟨#[], #[], []⟩
def zeros : Array Value := #[.slice none 0 0]
theorem reads (os : Os) {H : Type} (enc : TypeId × Value → H) : ∃ places, DataW.whole enc Tryz.prog ((w0 os).forCall (fun _ _ => 0) ⟨#[], zeros, []⟩).memory Tryz.f7.params.toList Rows.fnCheckBranchingSpec.vars false zeros.toList 8 = some ([.nil], [], places) :=
  ⟨[], by kernel_rfl⟩

set_option maxRecDepth 100000 in
theorem lifted (os : Os) (started : os.Started) (H : Type) (enc : TypeId × Value → H) (F : Stop.Interp) :
    ReturnsInHanded {} Tryz.checked os 7 .any ((OpenSpec.ofChange Rows.fnCheckBranchingSpec).preRow enc Tryz.prog Tryz.f7 Rows.fnCheckBranchingRow.domain false Rows.fnCheckBranchingRow.laid) (((OpenSpec.ofChange Rows.fnCheckBranchingSpec).at F).post enc Tryz.prog Tryz.f7 false true false false) := by
  obtain ⟨places, hx⟩ := reads os enc
  refine returnsInHanded_of_row (C := Tryz.checked) (s := OpenSpec.ofChange Rows.fnCheckBranchingSpec) own started (by kernel_rfl) Tryz.func7
    (witness_row_at (enc := enc) (C := Tryz.checked) false (w0 os) zeros rfl (by kernel_rfl) (by kernel_rfl) (by kernel_rfl)
      (OpenSpec.preRow_of_cond 8 hx (by kernel_rfl) (fun k hk => by cases hk) (by kernel_rfl) (laidMetH_nil _ _))) ?_
  intro W base args ds gs before hval hW _ _ _ _ _ _
  exact contract H enc W base args ds gs before hval hW

set_option maxHeartbeats 40000000 in
set_option maxRecDepth 100000 in
theorem closed : joinedFacts Tryz.prog 7 Tryz.f7 (OpenSpec.ofChange Rows.fnCheckBranchingSpec).bare Rows.fnCheckBranchingRow = true := by
  unfold joinedFacts
  repeat' (with_reducible apply and_mk)
  all_goals (as_aux_lemma => kernel_rfl)
theorem proved : Rows.FnCheckBranchingSaid :=
  OpenClaim.holds_of_cond 7 Tryz.f7 rfl rfl rfl rfl rfl rfl rfl ⟨rfl, rfl, rfl, rfl, rfl⟩ rfl rfl rfl rfl rfl (by kernel_rfl) Tryz.func7 closed
    (of_decide_eq_true (by kernel_rfl)) (by unfold Func.isWrapper; first | (rw [if_pos (by decide +kernel)]; kernel_rfl) | (rw [if_neg (by decide +kernel)]; exact ⟨rfl, rfl⟩))
    (fun os started H enc _ F => by rw [OpenClaim.pre_eq_preRow]; exact lifted os started H enc F)
end FnCheckBranching
end Go.Proofs.YtkophaoifmofdaaGreat

