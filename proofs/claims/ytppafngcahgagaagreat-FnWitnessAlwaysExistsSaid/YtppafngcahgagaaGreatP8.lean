/- A part of the proofs over this program: T53, T54, T55, T56, T57, T58, T59, T60. -/
import Derived.Test.YtppafngcahgagaaGreatG0
import Derived.Test.YtppafngcahgagaaGreatG1
import Derived.Test.YtppafngcahgagaaGreatG2
import Derived.Test.YtppafngcahgagaaGreatP0
import Derived.Test.YtppafngcahgagaaGreatP1
import Derived.Test.YtppafngcahgagaaGreatP2
import Derived.Test.YtppafngcahgagaaGreatP3
set_option linter.all false
namespace Go.Proofs.YtppafngcahgagaaGreat
open Go.Gl
attribute [local irreducible] z85 AWP z100 z108 z104
theorem z317 {d : Int} (l : List Tree) (hl : l.length ≤ maxLen) (p : Tree → Int → Bool) (nx : Tree → Int → Int) (okS : Int → Prop) (hok : ∀ x s, okS s → p x s = false → okS (nx x s)) (f : FuncId) (s : Int) (h0 : okS s)
    (hf : ∀ x ∈ l, ∀ s, okS s → CallsA Tryz.prog f [z88 Tree.cs' x, .pt [.int d], .ptr 1 none 0] [.cells 1 [[.int s]], .cells 1 [[.ptr 0 none 0]]] (.bool (p x s)) [.cells 1 [[.int (nx x s)]], .cells 1 [[.ptr 0 none 0]]]) :
    CallsA Tryz.prog 216 [lst 3 Tree.cs' l, .fn (.func f) [] [.pt [.int d], .ptr 1 none 0]] [.cells 1 [[.int s]], .cells 1 [[.ptr 0 none 0]]] (.int (idxS p nx l s 0).1) [.cells 1 [[.int (idxS p nx l s 0).2]], .cells 1 [[.ptr 0 none 0]]] := by
  unfold maxLen at hl
  refine z58 z82 Tryz.func216 rfl rfl 19 Tryz.ntmps216 (by simp) ?_
  repeat' ((first|(apply AWP.go ok;rfl)|(apply z35;kernel_rfl)|(apply And.intro;first|omega|(unfold inI;omega)|(dsimp only;omega)|((try dsimp only);simp only [List.length_map, List.length_take, List.length_append, List.length_replicate, List.length_cons, List.length_nil];omega)|exact z6 (fun _ => rfl)|exact ⟨rfl, z13 rfl z19⟩|exact ⟨rfl, z6 (fun _ => rfl) _⟩|exact ⟨⟨rfl, by omega⟩, z6 (fun _ => rfl) _⟩|(unfold z30;omega)|(simp only [z49] at *;first|omega|(unfold inI;omega)|(unfold z30;omega)))|((first|(with_reducible apply z9;omega)|(with_reducible apply z20;omega)|(apply z9;omega));intro _)|(apply z21;omega)|apply z28|(apply z27;omega;intro _)|((first|apply z26|apply z18|apply z25|apply z36|apply z16|apply z11|apply z17|apply z24) <;> intro _)) <;> conv => whnf)
  refine z116 (fun x : Nat × Int => ([(0, lst 3 Tree.cs' l), (1, .fn (.func f) [] [.pt [.int d], .ptr 1 none 0]), (7, .int l.length), (8, .int x.1)], [.cells 1 [[.int x.2]], .cells 1 [[.ptr 0 none 0]]])) (fun x => x.1 ≤ l.length ∧ okS x.2 ∧ idxS p nx l s 0 = idxS p nx (l.drop x.1) x.2 x.1) (fun x => l.length - x.1) (0, s) ⟨by omega, h0, rfl⟩
    ⟨[0, 1], rfl, by decide, rfl, ⟨⟨rfl, rfl⟩, ⟨rfl, rfl⟩, ⟨rfl, rfl⟩, ⟨rfl, rfl⟩, trivial⟩, ⟨z70 rfl rfl, z70 rfl rfl, trivial⟩⟩ ?_
  rintro ⟨k, t⟩ ⟨hk1, hk2, hk3⟩
  dsimp only at hk1 hk2 hk3
  repeat' ((first|(apply AWP.go ok;rfl)|(apply z35;kernel_rfl)|(apply And.intro;first|omega|(unfold inI;omega)|(dsimp only;omega)|((try dsimp only);simp only [List.length_map, List.length_take, List.length_append, List.length_replicate, List.length_cons, List.length_nil];omega)|exact z6 (fun _ => rfl)|exact ⟨rfl, z13 rfl z19⟩|exact ⟨rfl, z6 (fun _ => rfl) _⟩|exact ⟨⟨rfl, by omega⟩, z6 (fun _ => rfl) _⟩|(unfold z30;omega)|(simp only [z49] at *;first|omega|(unfold inI;omega)|(unfold z30;omega)))|((first|(with_reducible apply z9;omega)|(with_reducible apply z20;omega)|(apply z9;omega));intro _)|(apply z21;omega)|apply z28|(apply z27;omega;intro _)|((first|apply z26|apply z18|apply z25|apply z36|apply z16|apply z11|apply z17|apply z24) <;> intro _)|((first|(apply z29 [0, 1] [] [] (hf l[k] (List.getElem_mem _) t hk2);rfl;(focus ((repeat' first|exact z15|apply z12) <;> first|rfl|(refine z22 rfl ?_;(first|exact z4 fun _ => rfl|exact z10|exact z5 rfl|(apply z7 <;> exact z4 fun _ => rfl)|assumption))))));rfl;rfl;rfl;rfl;rfl;(focus ((repeat' first|exact z66|apply z56) <;> first|exact z68|exact z71 rfl rfl|(refine z67 ?_;(first|exact z4 fun _ => rfl|exact z10|exact z5 rfl|(apply z7 <;> exact z4 fun _ => rfl)|assumption))));(first|exact .inl rfl|(refine .inr ⟨rfl, ?_⟩;repeat' first|exact True.intro|apply And.intro|exact rfl|exact z39 (fun _ => rfl) _)))) <;> conv => whnf)
  · rename_i h hkl h1
    rw [List.drop_eq_getElem_cons hkl, idxS, if_pos h1] at hk3
    rw [hk3]
    exact z91 [0, 1] (by decide) rfl rfl rfl ⟨z70 rfl rfl, z70 rfl rfl, trivial⟩
  · rename_i h hkl h1
    rw [List.drop_eq_getElem_cons hkl, idxS, if_neg (by rw [h1];simp)] at hk3
    exact z105 (k + 1, nx l[k] t) [0, 1] ⟨by dsimp only;omega, hok _ _ hk2 h1, hk3⟩ (by dsimp only;omega) ⟨rfl, by decide, rfl, ⟨⟨rfl, rfl⟩, ⟨rfl, rfl⟩, ⟨rfl, rfl⟩, ⟨rfl, rfl⟩, trivial⟩, ⟨z70 rfl rfl, z70 rfl rfl, trivial⟩⟩
  · rw [List.drop_eq_nil_of_le (by omega), idxS] at hk3
    rw [hk3]
    exact z91 [0, 1] (by decide) rfl rfl rfl ⟨z70 rfl rfl, z70 rfl rfl, trivial⟩
theorem z505 {d : Int} (l : List Tree) (hl : l.length ≤ maxLen) (p : Tree → Int → Bool) (nx : Tree → Int → Int) (okS : Int → Prop) (hok : ∀ x s, okS s → p x s = false → okS (nx x s)) (f : FuncId) (s : Int) (h0 : okS s)
    (hf : ∀ x ∈ l, ∀ s, okS s → CallsA Tryz.prog f [z88 Tree.cs' x, .pt [.int d], .ptr 1 none 0] [.cells 1 [[.int s]], .cells 1 [[.ptr 0 none 0]]] (.bool (p x s)) [.cells 1 [[.int (nx x s)]], .cells 1 [[.ptr 0 none 0]]]) :
    CallsA Tryz.prog 187 [lst 3 Tree.cs' l, .fn (.func f) [] [.pt [.int d], .ptr 1 none 0]] [.cells 1 [[.int s]], .cells 1 [[.ptr 0 none 0]]] (.bool (decide (0 ≤ (idxS p nx l s 0).1))) [.cells 1 [[.int (idxS p nx l s 0).2]], .cells 1 [[.ptr 0 none 0]]] := by
  refine z58 z82 Tryz.func187 rfl rfl 9 Tryz.ntmps187 (by simp) ?_
  repeat' ((first|(apply AWP.go ok;rfl)|(apply z35;kernel_rfl)|(apply And.intro;first|omega|(unfold inI;omega)|(dsimp only;omega)|((try dsimp only);simp only [List.length_map, List.length_take, List.length_append, List.length_replicate, List.length_cons, List.length_nil];omega)|exact z6 (fun _ => rfl)|exact ⟨rfl, z13 rfl z19⟩|exact ⟨rfl, z6 (fun _ => rfl) _⟩|exact ⟨⟨rfl, by omega⟩, z6 (fun _ => rfl) _⟩|(unfold z30;omega)|(simp only [z49] at *;first|omega|(unfold inI;omega)|(unfold z30;omega)))|((first|(with_reducible apply z9;omega)|(with_reducible apply z20;omega)|(apply z9;omega));intro _)|(apply z21;omega)|apply z28|(apply z27;omega;intro _)|((first|apply z26|apply z18|apply z25|apply z36|apply z16|apply z11|apply z17|apply z24) <;> intro _)|((first|(apply z29 [0, 1] [] [] (z317 (d := d) l hl p nx okS hok f s h0 hf);rfl;(focus ((repeat' first|exact z15|apply z12) <;> first|rfl|(refine z22 rfl ?_;(first|exact z4 fun _ => rfl|exact z10|exact z5 rfl|(apply z7 <;> exact z4 fun _ => rfl)|assumption))))));rfl;rfl;rfl;rfl;rfl;(focus ((repeat' first|exact z66|apply z56) <;> first|exact z68|exact z71 rfl rfl|(refine z67 ?_;(first|exact z4 fun _ => rfl|exact z10|exact z5 rfl|(apply z7 <;> exact z4 fun _ => rfl)|assumption))));(first|exact .inl rfl|(refine .inr ⟨rfl, ?_⟩;repeat' first|exact True.intro|apply And.intro|exact rfl|exact z39 (fun _ => rfl) _)))) <;> conv => whnf)
  exact z91 [0, 1] (by decide) rfl rfl rfl ⟨z70 rfl rfl, z70 rfl rfl, trivial⟩
theorem z573 (k : Int) : CallsA Tryz.prog 186 [.int k] [] (.int (if k = 1 ∨ k = 2 then 0 else if k = 4 ∨ k = 5 ∨ k = 7 ∨ k = 10 then 2 else 1)) [] := by
  refine z58 z82 Tryz.func186 rfl rfl 12 Tryz.ntmps186 (by simp) ?_
  repeat' ((first|(apply AWP.go ok;rfl)|(apply z35;kernel_rfl)|(apply And.intro;first|omega|(unfold inI;omega)|(dsimp only;omega)|((try dsimp only);simp only [List.length_map, List.length_take, List.length_append, List.length_replicate, List.length_cons, List.length_nil];omega)|exact z6 (fun _ => rfl)|exact ⟨rfl, z13 rfl z19⟩|exact ⟨rfl, z6 (fun _ => rfl) _⟩|exact ⟨⟨rfl, by omega⟩, z6 (fun _ => rfl) _⟩|(unfold z30;omega)|(simp only [z49] at *;first|omega|(unfold inI;omega)|(unfold z30;omega)))|((first|(with_reducible apply z9;omega)|(with_reducible apply z20;omega)|(apply z9;omega));intro _)|(apply z21;omega)|apply z28|(apply z27;omega;intro _)|((first|apply z26|apply z18|apply z25|apply z36|apply z16|apply z11|apply z17|apply z24) <;> intro _)) <;> conv => whnf)
  all_goals (refine z87 rfl rfl ?_;first|(rw [if_pos (by omega)];rfl)|(rw [if_neg (by omega), if_pos (by omega)];rfl)|(rw [if_neg (by omega), if_neg (by omega)];rfl))
theorem walkB_ok (t : Tree) : t.mx → ∀ d n : Int, 0 ≤ d → d ≤ 100 → 0 ≤ n → n ≤ 12 → CallsA Tryz.prog 126 [z88 Tree.cs' t, .int d, .ptr 0 none 0] [.cells 1 [[.int n]]] (.bool (t.walkB d n).2) [.cells 1 [[.int (t.walkB d n).1]]] := by
  induction t using Tree.ind with|h t ih => ?_
  intro hm d n hd0 hd1 h0 h1
  rw [Tree.mx_iff] at hm
  have hs := Tree.walkB_spec.1
  have hk : d ≤ 6 → n + 1 ≤ 12 → CallsA Tryz.prog 187 [lst 3 Tree.cs' t.kids, .fn (.func 188) [] [.pt [.int d], .ptr 1 none 0]] [.cells 1 [[.int (n + 1)]], .cells 1 [[.ptr 0 none 0]]] (.bool (!(Tree.walkBs t.kids (d + 1) (n + 1)).2)) [.cells 1 [[.int (Tree.walkBs t.kids (d + 1) (n + 1)).1]], .cells 1 [[.ptr 0 none 0]]] := by
    intro hd hn
    have h := z505 (d := d) t.kids hm.1 (fun x s => !(x.walkB (d + 1) s).2) (fun x s => (x.walkB (d + 1) s).1) (fun s => 0 ≤ s ∧ s ≤ 12) (fun x s h1 h2 => by
      obtain ⟨a1, a2, a3, a4⟩ := hs x (d + 1) s h1.1 h1.2
      have h3 : (x.walkB (d + 1) s).2 = true := by simpa using h2
      have := (a1.1 h3).2
      rw [← a2 h3] at this
      exact ⟨by omega, this⟩) 188 (n + 1) ⟨by omega, by omega⟩ (fun x hx s h => by
        have hc := ih x hx (hm.2 x hx) (d + 1) s (by omega) (by omega) h.1 h.2
        refine z58 z82 Tryz.func188 rfl rfl 11 Tryz.ntmps188 (by simp) ?_
        repeat' ((first|(apply AWP.go ok;rfl)|(apply z35;kernel_rfl)|(apply And.intro;first|omega|(unfold inI;omega)|(dsimp only;omega)|((try dsimp only);simp only [List.length_map, List.length_take, List.length_append, List.length_replicate, List.length_cons, List.length_nil];omega)|exact z6 (fun _ => rfl)|exact ⟨rfl, z13 rfl z19⟩|exact ⟨rfl, z6 (fun _ => rfl) _⟩|exact ⟨⟨rfl, by omega⟩, z6 (fun _ => rfl) _⟩|(unfold z30;omega)|(simp only [z49] at *;first|omega|(unfold inI;omega)|(unfold z30;omega)))|((first|(with_reducible apply z9;omega)|(with_reducible apply z20;omega)|(apply z9;omega));intro _)|(apply z21;omega)|apply z28|(apply z27;omega;intro _)|((first|apply z26|apply z18|apply z25|apply z36|apply z16|apply z11|apply z17|apply z24) <;> intro _)|((first|(apply z29 [0] [] [] (hc);rfl;(focus ((repeat' first|exact z15|apply z12) <;> first|rfl|(refine z22 rfl ?_;(first|exact z4 fun _ => rfl|exact z10|exact z5 rfl|(apply z7 <;> exact z4 fun _ => rfl)|assumption))))));rfl;rfl;rfl;rfl;rfl;(focus ((repeat' first|exact z66|apply z56) <;> first|exact z68|exact z71 rfl rfl|(refine z67 ?_;(first|exact z4 fun _ => rfl|exact z10|exact z5 rfl|(apply z7 <;> exact z4 fun _ => rfl)|assumption))));(first|exact .inl rfl|(refine .inr ⟨rfl, ?_⟩;repeat' first|exact True.intro|apply And.intro|exact rfl|exact z39 (fun _ => rfl) _)))) <;> conv => whnf)
        exact z91 [0, 1] (by decide) rfl rfl rfl ⟨z70 rfl rfl, z70 rfl rfl, trivial⟩)
    rw [Tree.walkBs_idx (d + 1) t.kids (n + 1) 0, Bool.not_not]
    exact h
  have hk2 := fun h1 h2 => by
    have := hk h1 h2
    unfold lst at this
    rw [← Tree.cs_eq] at this
    exact this
  refine z58 z82 Tryz.func126 rfl rfl 51 Tryz.ntmps126 (by simp) ?_
  repeat' ((first|(apply AWP.go ok;rfl)|(apply z35;kernel_rfl)|(apply And.intro;first|omega|(unfold inI;omega)|(dsimp only;omega)|((try dsimp only);simp only [List.length_map, List.length_take, List.length_append, List.length_replicate, List.length_cons, List.length_nil];omega)|exact z6 (fun _ => rfl)|exact ⟨rfl, z13 rfl z19⟩|exact ⟨rfl, z6 (fun _ => rfl) _⟩|exact ⟨⟨rfl, by omega⟩, z6 (fun _ => rfl) _⟩|(unfold z30;omega)|(simp only [z49] at *;first|omega|(unfold inI;omega)|(unfold z30;omega)))|((first|(with_reducible apply z9;omega)|(with_reducible apply z20;omega)|(apply z9;omega));intro _)|(apply z21;omega)|apply z28|(apply z27;omega;intro _)|((first|apply z26|apply z18|apply z25|apply z36|apply z16|apply z11|apply z17|apply z24) <;> intro _)|(apply z48 (z364 _ 1 11);rfl;rfl)|(apply z48 (z364 _ 0 2);rfl;rfl)|(apply z48 (z364 _ 0 0);rfl;rfl)|(apply z48 (z573 t.kind);rfl;rfl)|((first|(apply z29 [0, 3] [2] [] (hk2 (by omega) (by omega));rfl;(focus ((repeat' first|exact z15|apply z12) <;> first|rfl|(refine z22 rfl ?_;(first|exact z4 fun _ => rfl|exact z10|exact z5 rfl|(apply z7 <;> exact z4 fun _ => rfl)|assumption))))));rfl;rfl;rfl;rfl;rfl;(focus ((repeat' first|exact z66|apply z56) <;> first|exact z68|exact z71 rfl rfl|(refine z67 ?_;(first|exact z4 fun _ => rfl|exact z10|exact z5 rfl|(apply z7 <;> exact z4 fun _ => rfl)|assumption))));(first|exact .inl rfl|(refine .inr ⟨rfl, ?_⟩;repeat' first|exact True.intro|apply And.intro|exact rfl|exact z39 (fun _ => rfl) _)))) <;> conv => whnf)
  all_goals first
    | (have e : t.walkB d n = (n + 1, false) := by
        rw [Tree.walkB_eq, if_neg]
        clear hk hk2 hs ih
        rintro ⟨c1, c2, c3, c4, c5⟩
        try simp only [z369, z49] at *
        unfold z316 at c4
        unfold z162 at c5
        grind
       rw [e]
       exact z91 [0] (by decide) rfl rfl rfl ⟨z70 rfl rfl, trivial⟩)
    | (have e : t.walkB d n = Tree.walkBs t.kids (d + 1) (n + 1) := by
        rw [Tree.walkB_eq, if_pos]
        clear hk hk2 hs ih
        try simp only [z369, z49] at *
        unfold z316 z162
        grind
       rw [e]
       refine z91 [0] (by decide) rfl rfl ?_ ⟨z70 rfl rfl, trivial⟩
       show AC.raw (.bool (!!_)) = _
       rw [Bool.not_not];rfl)
end Go.Proofs.YtppafngcahgagaaGreat

namespace Go.Proofs.YtppafngcahgagaaGreat
open Go.Gl
attribute [local irreducible] z85 AWP z100 z108 z104
theorem z393 (t : Tree) (hm : t.mx) : CallsA Tryz.prog 56 [z88 Tree.cs' t] [] (.bool t.brB) [] := by
  have hk := walkB_ok t hm 1 0 (by omega) (by omega) (by omega) (by omega)
  refine z58 z82 Tryz.func56 rfl rfl 6 Tryz.ntmps56 (by simp) ?_
  repeat' ((first|(apply AWP.go ok;rfl)|(apply z35;kernel_rfl)|(apply And.intro;first|omega|(unfold inI;omega)|(dsimp only;omega)|((try dsimp only);simp only [List.length_map, List.length_take, List.length_append, List.length_replicate, List.length_cons, List.length_nil];omega)|exact z6 (fun _ => rfl)|exact ⟨rfl, z13 rfl z19⟩|exact ⟨rfl, z6 (fun _ => rfl) _⟩|exact ⟨⟨rfl, by omega⟩, z6 (fun _ => rfl) _⟩|(unfold z30;omega)|(simp only [z49] at *;first|omega|(unfold inI;omega)|(unfold z30;omega)))|((first|(with_reducible apply z9;omega)|(with_reducible apply z20;omega)|(apply z9;omega));intro _)|(apply z21;omega)|apply z28|(apply z27;omega;intro _)|((first|apply z26|apply z18|apply z25|apply z36|apply z16|apply z11|apply z17|apply z24) <;> intro _)|((first|(apply z29 [1] [] [] (hk);rfl;(focus ((repeat' first|exact z15|apply z12) <;> first|rfl|(refine z22 rfl ?_;(first|exact z4 fun _ => rfl|exact z10|exact z5 rfl|(apply z7 <;> exact z4 fun _ => rfl)|assumption))))));rfl;rfl;rfl;rfl;rfl;(focus ((repeat' first|exact z66|apply z56) <;> first|exact z68|exact z71 rfl rfl|(refine z67 ?_;(first|exact z4 fun _ => rfl|exact z10|exact z5 rfl|(apply z7 <;> exact z4 fun _ => rfl)|assumption))));(first|exact .inl rfl|(refine .inr ⟨rfl, ?_⟩;repeat' first|exact True.intro|apply And.intro|exact rfl|exact z39 (fun _ => rfl) _)))) <;> conv => whnf)
  exact z81 rfl rfl
theorem z359 (k : Int) : CallsA Tryz.prog 174 [.int k] [] (.int (z162 k)) [] := by
  refine z58 z82 Tryz.func174 rfl rfl 18 Tryz.ntmps174 (by simp) ?_
  repeat' ((first|(apply AWP.go ok;rfl)|(apply z35;kernel_rfl)|(apply And.intro;first|omega|(unfold inI;omega)|(dsimp only;omega)|((try dsimp only);simp only [List.length_map, List.length_take, List.length_append, List.length_replicate, List.length_cons, List.length_nil];omega)|exact z6 (fun _ => rfl)|exact ⟨rfl, z13 rfl z19⟩|exact ⟨rfl, z6 (fun _ => rfl) _⟩|exact ⟨⟨rfl, by omega⟩, z6 (fun _ => rfl) _⟩|(unfold z30;omega)|(simp only [z49] at *;first|omega|(unfold inI;omega)|(unfold z30;omega)))|((first|(with_reducible apply z9;omega)|(with_reducible apply z20;omega)|(apply z9;omega));intro _)|(apply z21;omega)|apply z28|(apply z27;omega;intro _)|((first|apply z26|apply z18|apply z25|apply z36|apply z16|apply z11|apply z17|apply z24) <;> intro _)) <;> conv => whnf)
  all_goals (refine z87 rfl rfl ?_;unfold z162;first|(rw [if_pos (by omega)];rfl)|(rw [if_neg (by omega), if_pos (by omega)];rfl)|(rw [if_neg (by omega), if_neg (by omega), if_pos (by omega)];rfl)|(rw [if_neg (by omega), if_neg (by omega), if_neg (by omega)];rfl))
theorem z538 (l : List Tree) (d : Int) : Tree.shapeBBs l d = l.all (fun t => t.shapeB d) := by
  induction l with
  | nil => rfl
  | cons t l ih => simp [Tree.shapeBBs, ih]
theorem z192 (t : Tree) (d : Int) : t.shapeB d = (decide (1 ≤ d ∧ (t.kids.length : Int) = z162 t.kind ∧ 0 ≤ t.val ∧ t.val ≤ z316 t.kind) && t.kids.all fun t => t.shapeB (d - 1)) := by
  cases t;simp only [Tree.shapeB, Tree.kids, Tree.kind, Tree.val, z538];rfl
theorem z557 (t : Tree) : t.mx → ∀ d : Int, -100 ≤ d → d ≤ 100 → CallsA Tryz.prog 142 [z88 Tree.cs' t, .int d] [] (.bool (t.shapeB d)) [] := by
  induction t using Tree.ind with|h t ih => ?_
  intro hm d h0 h1
  rw [Tree.mx_iff] at hm
  have hl := hm.1
  unfold maxLen at hl
  rw [Tree.arg_eq, z192]
  refine z58 z82 Tryz.func142 rfl rfl 51 Tryz.ntmps142 (by simp) ?_
  repeat' ((first|(apply AWP.go ok;rfl)|(apply z35;kernel_rfl)|(apply And.intro;first|omega|(unfold inI;omega)|(dsimp only;omega)|((try dsimp only);simp only [List.length_map, List.length_take, List.length_append, List.length_replicate, List.length_cons, List.length_nil];omega)|exact z6 (fun _ => rfl)|exact ⟨rfl, z13 rfl z19⟩|exact ⟨rfl, z6 (fun _ => rfl) _⟩|exact ⟨⟨rfl, by omega⟩, z6 (fun _ => rfl) _⟩|(unfold z30;omega)|(simp only [z49] at *;first|omega|(unfold inI;omega)|(unfold z30;omega)))|((first|(with_reducible apply z9;omega)|(with_reducible apply z20;omega)|(apply z9;omega));intro _)|(apply z21;omega)|apply z28|(apply z27;omega;intro _)|((first|apply z26|apply z18|apply z25|apply z36|apply z16|apply z11|apply z17|apply z24) <;> intro _)|(apply z48 (z359 _);rfl;rfl)) <;> conv => whnf)
  all_goals first
    | (refine z81 rfl ?_
       rw [decide_eq_false]
       · rfl
       · clear ih
         rintro ⟨c1, c2, c3, c4⟩
         unfold z316 at c4
         grind)
    | (have hg : decide (1 ≤ d ∧ (t.kids.length : Int) = z162 t.kind ∧ 0 ≤ t.val ∧ t.val ≤ z316 t.kind) = true := by
         clear ih
         refine decide_eq_true ?_
         unfold z316
         grind
       rw [hg, Bool.true_and]
       refine z116 (fun k : Nat => ([(1, .int d), (2, .ptr 0 none 0), (5, .int k)], [.cells 3 [[.int t.kind, .int t.val, lst 3 Tree.cs' t.kids]]])) (fun k => k ≤ t.kids.length ∧ (t.kids.all fun t => t.shapeB (d - 1)) = (t.kids.drop k).all fun t => t.shapeB (d - 1)) (fun k => t.kids.length - k) 0 ⟨by omega, rfl⟩ ⟨[0], rfl, by decide, rfl, by repeat' (first|exact True.intro|exact ⟨rfl, rfl⟩|apply And.intro), by repeat' (first|exact True.intro|exact z70 rfl rfl|exact z57 (by rfl) (by (first|exact z10|exact z5 rfl|exact z4 (fun _ => rfl)|exact z4 Tree.co_flat|(apply z7 <;> (first|exact z5 rfl|exact z4 (fun _ => rfl)))|assumption))|apply And.intro)⟩ ?_
       intro k hk
       repeat' ((first|(apply AWP.go ok;rfl)|(apply z35;kernel_rfl)|(apply And.intro;first|omega|(unfold inI;omega)|(dsimp only;omega)|((try dsimp only);simp only [List.length_map, List.length_take, List.length_append, List.length_replicate, List.length_cons, List.length_nil];omega)|exact z6 (fun _ => rfl)|exact ⟨rfl, z13 rfl z19⟩|exact ⟨rfl, z6 (fun _ => rfl) _⟩|exact ⟨⟨rfl, by omega⟩, z6 (fun _ => rfl) _⟩|(unfold z30;omega)|(simp only [z49] at *;first|omega|(unfold inI;omega)|(unfold z30;omega)))|((first|(with_reducible apply z9;omega)|(with_reducible apply z20;omega)|(apply z9;omega));intro _)|(apply z21;omega)|apply z28|(apply z27;omega;intro _)|((first|apply z26|apply z18|apply z25|apply z36|apply z16|apply z11|apply z17|apply z24) <;> intro _)|(apply z48 (ih t.kids[k] (List.getElem_mem _) (hm.2 _ (List.getElem_mem _)) (d - 1) (by omega) (by omega));rfl;rfl)) <;> conv => whnf)
       · rename_i h1
         exact z81 rfl (by rw [hk.2, z146 _ _ _ (by assumption)];simp [h1])
       · rename_i h1
         exact z105 (k + 1) [0] ⟨by omega, by rw [hk.2, z146 _ _ _ (by assumption)];simp [h1]⟩ (by omega) ⟨rfl, by decide, rfl, by repeat' (first|exact True.intro|exact ⟨rfl, rfl⟩|apply And.intro), by repeat' (first|exact True.intro|exact z70 rfl rfl|exact z57 (by rfl) (by (first|exact z10|exact z5 rfl|exact z4 (fun _ => rfl)|exact z4 Tree.co_flat|(apply z7 <;> (first|exact z5 rfl|exact z4 (fun _ => rfl)))|assumption))|apply And.intro)⟩
       · exact z81 rfl (by rw [hk.2, z143 _ _ _ (by omega)]))
theorem z711 (t : Tree) : ∀ d n : Nat, t.shapeB d = true → t.count n ≤ 2 ^ d - 1 := by
  induction t using Tree.ind with|h t ih => ?_
  intro d n h
  rw [z192, Bool.and_eq_true, decide_eq_true_eq] at h
  obtain ⟨⟨h1, h2, _, _⟩, h3⟩ := h
  rw [List.all_eq_true] at h3
  obtain ⟨d, rfl⟩ : ∃ e, d = e + 1 := ⟨d - 1, by omega⟩
  have e : ((d + 1 : Nat) : Int) - 1 = (d : Nat) := by omega
  rw [e] at h3
  rw [z329]
  have hp : (1 : Int) ≤ 2 ^ d := by exact_mod_cast Nat.one_le_two_pow
  have hq : ((2 : Int) ^ (d + 1)) = 2 * 2 ^ d := by rw [Int.pow_succ];omega
  split
  · rename_i hn
    obtain ⟨n, rfl⟩ : ∃ e, n = e + 1 := ⟨n - 1, by omega⟩
    have e : ((n + 1 : Nat) : Int) - 1 = (n : Nat) := by omega
    rw [e]
    have hl : (t.kids.length : Int) ≤ 2 := by rw [h2];unfold z162;grind
    have hk : ∀ u ∈ t.kids, u.count n ≤ 2 ^ d - 1 := fun u hu => ih u hu d n (h3 u hu)
    match hkk : t.kids with
    | [] => simp only [List.map_nil, List.sum_nil];omega
    | [a] =>
      have := hk a (by simp [hkk])
      simp only [List.map_cons, List.map_nil, List.sum_cons, List.sum_nil];omega
    | [a, b] =>
      have := hk a (by simp [hkk])
      have := hk b (by simp [hkk])
      simp only [List.map_cons, List.map_nil, List.sum_cons, List.sum_nil];omega
    | a :: b :: c :: r => rw [hkk] at hl;simp only [List.length_cons] at hl;omega
  · omega
theorem z504 (t : Tree) (e d : Int) (he : e ≤ 50) (hd : 0 ≤ d) (h : t.shapeB e = true) : t.count d ≤ 2 ^ 50 := by
  have h1 : 1 ≤ e := by
    rw [z192, Bool.and_eq_true, decide_eq_true_eq] at h;exact h.1.1
  obtain ⟨n, rfl⟩ := Int.eq_ofNat_of_zero_le (show 0 ≤ e by omega)
  obtain ⟨m, rfl⟩ := Int.eq_ofNat_of_zero_le hd
  have h2 := z711 t n m h
  have h4 : (2 : Int) ^ n ≤ 2 ^ 50 := by exact_mod_cast Nat.pow_le_pow_right (by omega) (by omega)
  omega
theorem z558 (t : Tree) : t.mx → ∀ e d : Int, e ≤ 50 → 0 ≤ d → d ≤ 50 → t.shapeB e = true → CallsA Tryz.prog 143 [z88 Tree.cs' t, .int d] [] (.int (t.count d)) [] := by
  induction t using Tree.ind with|h t ih => ?_
  intro hm e d h0 h1 h2 hs
  rw [Tree.mx_iff] at hm
  rw [z192, Bool.and_eq_true, decide_eq_true_eq, List.all_eq_true] at hs
  obtain ⟨⟨hs1, hs2, _, _⟩, hs3⟩ := hs
  have hl : (t.kids.length : Int) ≤ 2 := by rw [hs2];unfold z162;grind
  rw [Tree.arg_eq, z329]
  have hb : 0 < d → ∀ k, k ≤ t.kids.length → 0 ≤ ((t.kids.take k).map fun t => t.count (d - 1)).sum ∧ ((t.kids.take k).map fun t => t.count (d - 1)).sum ≤ k * 2 ^ 50 := by
    intro hd k
    induction k with
    | zero => intro _;simp
    | succ k ihk =>
      intro hk
      have h1 := ihk (by omega)
      rw [z320 _ _ _ (by omega)]
      have h2 := z504 t.kids[k] (e - 1) (d - 1) (by omega) (by omega) (hs3 _ (List.getElem_mem _))
      have h3 := Tree.count_pos.1 t.kids[k] (d - 1)
      omega
  refine z58 z82 Tryz.func143 rfl rfl 29 Tryz.ntmps143 (by simp) ?_
  repeat' ((first|(apply AWP.go ok;rfl)|(apply z35;kernel_rfl)|(apply And.intro;first|omega|(unfold inI;omega)|(dsimp only;omega)|((try dsimp only);simp only [List.length_map, List.length_take, List.length_append, List.length_replicate, List.length_cons, List.length_nil];omega)|exact z6 (fun _ => rfl)|exact ⟨rfl, z13 rfl z19⟩|exact ⟨rfl, z6 (fun _ => rfl) _⟩|exact ⟨⟨rfl, by omega⟩, z6 (fun _ => rfl) _⟩|(unfold z30;omega)|(simp only [z49] at *;first|omega|(unfold inI;omega)|(unfold z30;omega)))|((first|(with_reducible apply z9;omega)|(with_reducible apply z20;omega)|(apply z9;omega));intro _)|(apply z21;omega)|apply z28|(apply z27;omega;intro _)|((first|apply z26|apply z18|apply z25|apply z36|apply z16|apply z11|apply z17|apply z24) <;> intro _)) <;> conv => whnf)
  by_cases hd : 0 < d
  · rw [if_pos hd]
    refine z116 (fun k : Nat => ([(1, .int d), (2, .ptr 0 none 0), (5, .int (1 + ((t.kids.take k).map fun t => t.count (d - 1)).sum)), (6, .int k)], [.cells 3 [[.int t.kind, .int t.val, lst 3 Tree.cs' t.kids]]])) (fun k => k ≤ t.kids.length) (fun k => t.kids.length - k) 0 (by omega) ⟨[0], rfl, by decide, rfl, by repeat' (first|exact True.intro|exact ⟨rfl, rfl⟩|apply And.intro), by repeat' (first|exact True.intro|exact z70 rfl rfl|exact z57 (by rfl) (by (first|exact z10|exact z5 rfl|exact z4 (fun _ => rfl)|exact z4 Tree.co_flat|(apply z7 <;> (first|exact z5 rfl|exact z4 (fun _ => rfl)))|assumption))|apply And.intro)⟩ ?_
    intro k hk
    have hbk := hb hd k hk
    have hbk1 := fun h => hb hd (k + 1) h
    have hss := fun h => z320 (fun t => t.count (d - 1)) t.kids k h
    repeat' ((first|(apply AWP.go ok;rfl)|(apply z35;kernel_rfl)|(apply And.intro;first|omega|(unfold inI;omega)|(dsimp only;omega)|((try dsimp only);simp only [List.length_map, List.length_take, List.length_append, List.length_replicate, List.length_cons, List.length_nil];omega)|exact z6 (fun _ => rfl)|exact ⟨rfl, z13 rfl z19⟩|exact ⟨rfl, z6 (fun _ => rfl) _⟩|exact ⟨⟨rfl, by omega⟩, z6 (fun _ => rfl) _⟩|(unfold z30;omega)|(simp only [z49] at *;first|omega|(unfold inI;omega)|(unfold z30;omega)))|((first|(with_reducible apply z9;omega)|(with_reducible apply z20;omega)|(apply z9;omega));intro _)|(apply z21;omega)|apply z28|(apply z27;omega;intro _)|((first|apply z26|apply z18|apply z25|apply z36|apply z16|apply z11|apply z17|apply z24) <;> intro _)|(apply z48 (ih t.kids[k] (List.getElem_mem _) (hm.2 _ (List.getElem_mem _)) (e - 1) (d - 1) (by omega) (by omega) (by omega) (hs3 _ (List.getElem_mem _)));rfl;rfl)) <;> conv => whnf)
    · have e1 := hss ‹_›
      have e2 := hbk1 (by omega)
      refine And.intro (by unfold inI;omega) ?_
      conv => whnf
      repeat' ((first|(apply AWP.go ok;rfl)|(apply z35;kernel_rfl)|(apply And.intro;first|omega|(unfold inI;omega)|(dsimp only;omega)|((try dsimp only);simp only [List.length_map, List.length_take, List.length_append, List.length_replicate, List.length_cons, List.length_nil];omega)|exact z6 (fun _ => rfl)|exact ⟨rfl, z13 rfl z19⟩|exact ⟨rfl, z6 (fun _ => rfl) _⟩|exact ⟨⟨rfl, by omega⟩, z6 (fun _ => rfl) _⟩|(unfold z30;omega)|(simp only [z49] at *;first|omega|(unfold inI;omega)|(unfold z30;omega)))|((first|(with_reducible apply z9;omega)|(with_reducible apply z20;omega)|(apply z9;omega));intro _)|(apply z21;omega)|apply z28|(apply z27;omega;intro _)|((first|apply z26|apply z18|apply z25|apply z36|apply z16|apply z11|apply z17|apply z24) <;> intro _)) <;> conv => whnf)
      exact z105 (k + 1) [0] (by omega) (by omega) ⟨rfl, by decide, rfl, ⟨⟨rfl, rfl⟩, ⟨rfl, rfl⟩, ⟨rfl, by rw [e1, ← Int.add_assoc];rfl⟩, ⟨rfl, rfl⟩, trivial⟩, ⟨z70 rfl rfl, trivial⟩⟩
    · omega
    · obtain rfl : k = t.kids.length := by omega
      exact z87 rfl rfl (by rw [List.take_length];rfl)
  · rw [if_neg hd]
    refine z116 (fun k : Nat => ([(1, .int d), (2, .ptr 0 none 0), (5, .int 1), (6, .int k)], [.cells 3 [[.int t.kind, .int t.val, lst 3 Tree.cs' t.kids]]])) (fun k => k ≤ t.kids.length) (fun k => t.kids.length - k) 0 (by omega) ⟨[0], rfl, by decide, rfl, by repeat' (first|exact True.intro|exact ⟨rfl, rfl⟩|apply And.intro), by repeat' (first|exact True.intro|exact z70 rfl rfl|exact z57 (by rfl) (by (first|exact z10|exact z5 rfl|exact z4 (fun _ => rfl)|exact z4 Tree.co_flat|(apply z7 <;> (first|exact z5 rfl|exact z4 (fun _ => rfl)))|assumption))|apply And.intro)⟩ ?_
    intro k hk
    repeat' ((first|(apply AWP.go ok;rfl)|(apply z35;kernel_rfl)|(apply And.intro;first|omega|(unfold inI;omega)|(dsimp only;omega)|((try dsimp only);simp only [List.length_map, List.length_take, List.length_append, List.length_replicate, List.length_cons, List.length_nil];omega)|exact z6 (fun _ => rfl)|exact ⟨rfl, z13 rfl z19⟩|exact ⟨rfl, z6 (fun _ => rfl) _⟩|exact ⟨⟨rfl, by omega⟩, z6 (fun _ => rfl) _⟩|(unfold z30;omega)|(simp only [z49] at *;first|omega|(unfold inI;omega)|(unfold z30;omega)))|((first|(with_reducible apply z9;omega)|(with_reducible apply z20;omega)|(apply z9;omega));intro _)|(apply z21;omega)|apply z28|(apply z27;omega;intro _)|((first|apply z26|apply z18|apply z25|apply z36|apply z16|apply z11|apply z17|apply z24) <;> intro _)) <;> conv => whnf)
    · omega
    · exact z87 rfl rfl rfl
    · exact z87 rfl rfl rfl
theorem z254 (t : Tree) (hm : t.mx) : CallsA Tryz.prog 60 [z88 Tree.cs' t] [] (.bool t.brB) [] := by
  rw [Tree.brB_eq]
  refine z58 z82 Tryz.func60 rfl rfl 10 Tryz.ntmps60 (by simp) ?_
  repeat' ((first|(apply AWP.go ok;rfl)|(apply z35;kernel_rfl)|(apply And.intro;first|omega|(unfold inI;omega)|(dsimp only;omega)|((try dsimp only);simp only [List.length_map, List.length_take, List.length_append, List.length_replicate, List.length_cons, List.length_nil];omega)|exact z6 (fun _ => rfl)|exact ⟨rfl, z13 rfl z19⟩|exact ⟨rfl, z6 (fun _ => rfl) _⟩|exact ⟨⟨rfl, by omega⟩, z6 (fun _ => rfl) _⟩|(unfold z30;omega)|(simp only [z49] at *;first|omega|(unfold inI;omega)|(unfold z30;omega)))|((first|(with_reducible apply z9;omega)|(with_reducible apply z20;omega)|(apply z9;omega));intro _)|(apply z21;omega)|apply z28|(apply z27;omega;intro _)|((first|apply z26|apply z18|apply z25|apply z36|apply z16|apply z11|apply z17|apply z24) <;> intro _)|(apply z48 (z557 t hm 6 (by omega) (by omega));rfl;rfl)|(apply z48 (z558 t hm 6 6 (by omega) (by omega) (by omega) (by assumption));rfl;rfl)) <;> conv => whnf)
  all_goals (refine z81 rfl ?_;first|rfl|(simp [*];done)|(simp_all;done)|(simp_all;omega))
end Go.Proofs.YtppafngcahgagaaGreat

namespace Go.Proofs.YtppafngcahgagaaGreat
open Go.Gl
section
attribute [local irreducible] z85
end
end Go.Proofs.YtppafngcahgagaaGreat

namespace Go.Proofs.YtppafngcahgagaaGreat
open Go.Gl
attribute [local irreducible] z85 AWP z100 z108 z104
def encBL (l : List Bool) : List AC := [lst 1 enB l]
set_option maxHeartbeats 1600000 in
theorem z365 (c1 c2 : List AC) (g : Graph) (hn : g.st.length ≤ 1048576) (s : Bool) (H : Nat → List Bool → Bool) (hm : z381 s H g.st.length) (f : FuncId) (hf : ∀ (i : Nat) (S : List Bool), i < g.st.length → S.length = g.st.length → CallsA Tryz.prog f [.int i, lst 1 enB S, .pt c1, .pt c2] [] (.bool (H i S)) []) : CallsA Tryz.prog 63 [.agg g.cs, .bool s, .fn (.func f) [] [.pt c1, .pt c2]] [] (.sref 0 0 g.st.length) [.cells 1 ((lim s H g.st.length).map enB)] := by
  generalize hN : g.st.length = N at *
  refine z58 z82 Tryz.func63 rfl rfl 48 Tryz.ntmps63 (by simp) ?_
  repeat' ((first|(apply AWP.go ok;rfl)|(apply z35;kernel_rfl)|(apply And.intro;first|omega|(unfold inI;omega)|(dsimp only;omega)|((try dsimp only);simp only [List.length_map, List.length_take, List.length_append, List.length_replicate, List.length_cons, List.length_nil];omega)|exact z6 (fun _ => rfl)|exact ⟨rfl, z13 rfl z19⟩|exact ⟨rfl, z6 (fun _ => rfl) _⟩|exact ⟨⟨rfl, by omega⟩, z6 (fun _ => rfl) _⟩|(unfold z30;omega)|(simp only [z49] at *;first|omega|(unfold inI;omega)|(unfold z30;omega)))|((first|(with_reducible apply z9;omega)|(with_reducible apply z20;omega)|(apply z9;omega));intro _)|(apply z21;omega)|apply z28|(apply z27;omega;intro _)|((first|apply z26|apply z18|apply z25|apply z36|apply z16|apply z11|apply z17|apply z24) <;> intro _)) <;> conv => whnf)
  refine z116 (fun i : Nat => ([(1, .bool s), (2, .fn (.func f) [] [.pt c1, .pt c2]), (7, .sref 0 0 N), (17, .int N), (18, .int i)], [.cells 1 (mixL (fun _ => enB s) (List.replicate N [AC.bool false]) i)])) (fun i => i ≤ N) (fun i => N - i) 0 (by omega) ⟨[1], rfl, by decide, rfl, ⟨⟨rfl, rfl⟩, ⟨rfl, rfl⟩, ⟨rfl, by simp only [← hN];rfl⟩, ⟨rfl, by simp only [← hN];rfl⟩, ⟨rfl, rfl⟩, trivial⟩, ⟨z57 (z84 (by rw [z156, ← hN];rfl)) (z7 (z4 fun _ => rfl) fun e he => z5 rfl e (List.mem_of_mem_drop he)), trivial⟩⟩ ?_
  intro i hi
  by_cases hil : i < N
  · have hg : (mixL (fun _ => enB s) (List.replicate N [AC.bool false]) i)[i]? = some [AC.bool false] := by
      unfold mixL
      rw [List.getElem?_append_right (by simp)]
      simp only [List.length_map, List.length_range, Nat.sub_self]
      rw [List.getElem?_drop, Nat.add_zero, List.getElem?_replicate, if_pos hil]
    repeat' ((first|(apply AWP.go ok;rfl)|(apply z35;kernel_rfl)|(refine z80 (i := i) rfl hg ?_)|(apply And.intro;first|omega|(unfold inI;omega)|(dsimp only;omega)|((try dsimp only);simp only [List.length_map, List.length_take, List.length_append, List.length_replicate, List.length_cons, List.length_nil];omega)|exact z6 (fun _ => rfl)|exact ⟨rfl, z13 rfl z19⟩|exact ⟨rfl, z6 (fun _ => rfl) _⟩|exact ⟨⟨rfl, by omega⟩, z6 (fun _ => rfl) _⟩|(unfold z30;omega)|(simp only [z49] at *;first|omega|(unfold inI;omega)|(unfold z30;omega)))|((first|(with_reducible apply z9;omega)|(with_reducible apply z20;omega)|(apply z9;omega));intro _)|(apply z21;omega)|apply z28|(apply z27;omega;intro _)|((first|apply z26|apply z18|apply z25|apply z36|apply z16|apply z11|apply z17|apply z24) <;> intro _)) <;> conv => whnf)
    all_goals first|(exfalso;omega)|skip
    exact z105 (i + 1) [0] (by omega) (by omega) ⟨rfl, by decide, rfl, ⟨⟨rfl, rfl⟩, ⟨rfl, rfl⟩, ⟨rfl, rfl⟩, ⟨rfl, rfl⟩, ⟨rfl, rfl⟩, trivial⟩, ⟨z57 (z84 (z178 (by simpa using hil) (Int.toNat_natCast i) rfl)) (z7 (z4 fun _ => rfl) fun e he => z5 rfl e (List.mem_of_mem_drop he)), trivial⟩⟩
  repeat' ((first|(apply AWP.go ok;rfl)|(apply z35;kernel_rfl)|(apply And.intro;first|omega|(unfold inI;omega)|(dsimp only;omega)|((try dsimp only);simp only [List.length_map, List.length_take, List.length_append, List.length_replicate, List.length_cons, List.length_nil];omega)|exact z6 (fun _ => rfl)|exact ⟨rfl, z13 rfl z19⟩|exact ⟨rfl, z6 (fun _ => rfl) _⟩|exact ⟨⟨rfl, by omega⟩, z6 (fun _ => rfl) _⟩|(unfold z30;omega)|(simp only [z49] at *;first|omega|(unfold inI;omega)|(unfold z30;omega)))|((first|(with_reducible apply z9;omega)|(with_reducible apply z20;omega)|(apply z9;omega));intro _)|(apply z21;omega)|apply z28|(apply z27;omega;intro _)|((first|apply z26|apply z18|apply z25|apply z36|apply z16|apply z11|apply z17|apply z24) <;> intro _)) <;> conv => whnf)
  all_goals first|(exfalso;omega)|skip
  have e0 : mixL (fun _ => enB s) (List.replicate N [AC.bool false]) i = (List.replicate N s).map enB := by
    rw [z179 (by simp;omega), z544, List.map_replicate, show i = N by omega]
  rw [e0]
  clear e0
  refine z116 (fun x : Bool × List Bool => ([(2, .fn (.func f) [] [.pt c1, .pt c2]), (7, .sref 0 0 N), (9, .bool x.1)], [.cells 1 (x.2.map enB)])) (fun x => Gl.Way s H N x.2 ∧ (x.1 = false → ∀ i, i < N → H i x.2 = gB x.2 i)) (fun x => 2 * cntS s x.2 + (if x.1 then 1 else 0)) (true, List.replicate N s) ⟨Gl.Way.start, fun h => by cases h⟩ ⟨[0], rfl, by decide, rfl, ⟨⟨rfl, rfl⟩, ⟨rfl, rfl⟩, ⟨rfl, rfl⟩, trivial⟩, ⟨z57 rfl (z4 fun _ => rfl), trivial⟩⟩ ?_
  rintro ⟨ch, S⟩ ⟨hw, hfx⟩
  dsimp only at hw hfx ⊢
  cases ch
  · have hR := hw.ends (hfx rfl)
    repeat' ((first|(apply AWP.go ok;rfl)|(apply z35;kernel_rfl)|(apply And.intro;first|omega|(unfold inI;omega)|(dsimp only;omega)|((try dsimp only);simp only [List.length_map, List.length_take, List.length_append, List.length_replicate, List.length_cons, List.length_nil];omega)|exact z6 (fun _ => rfl)|exact ⟨rfl, z13 rfl z19⟩|exact ⟨rfl, z6 (fun _ => rfl) _⟩|exact ⟨⟨rfl, by omega⟩, z6 (fun _ => rfl) _⟩|(unfold z30;omega)|(simp only [z49] at *;first|omega|(unfold inI;omega)|(unfold z30;omega)))|((first|(with_reducible apply z9;omega)|(with_reducible apply z20;omega)|(apply z9;omega));intro _)|(apply z21;omega)|apply z28|(apply z27;omega;intro _)|((first|apply z26|apply z18|apply z25|apply z36|apply z16|apply z11|apply z17|apply z24) <;> intro _)) <;> conv => whnf)
    all_goals first|(exfalso;simp_all;done)|skip
    rw [z485 hR]
    exact z128 rfl (z4 fun _ => rfl) rfl rfl rfl
  · repeat' ((first|(apply AWP.go ok;rfl)|(apply z35;kernel_rfl)|(apply And.intro;first|omega|(unfold inI;omega)|(dsimp only;omega)|((try dsimp only);simp only [List.length_map, List.length_take, List.length_append, List.length_replicate, List.length_cons, List.length_nil];omega)|exact z6 (fun _ => rfl)|exact ⟨rfl, z13 rfl z19⟩|exact ⟨rfl, z6 (fun _ => rfl) _⟩|exact ⟨⟨rfl, by omega⟩, z6 (fun _ => rfl) _⟩|(unfold z30;omega)|(simp only [z49] at *;first|omega|(unfold inI;omega)|(unfold z30;omega)))|((first|(with_reducible apply z9;omega)|(with_reducible apply z20;omega)|(apply z9;omega));intro _)|(apply z21;omega)|apply z28|(apply z27;omega;intro _)|((first|apply z26|apply z18|apply z25|apply z36|apply z16|apply z11|apply z17|apply z24) <;> intro _)) <;> conv => whnf)
    all_goals first|(exfalso;simp_all;done)|skip
    refine z116 (fun y : Nat × Bool × List Bool => ([(2, .fn (.func f) [] [.pt c1, .pt c2]), (7, .sref 0 0 N), (9, .bool y.2.1), (28, .int N), (29, .int y.1)], [.cells 1 (y.2.2.map enB)])) (fun y => y.1 ≤ N ∧ Gl.Way s H N y.2.2 ∧ (y.2.1 = false → y.2.2 = S ∧ ∀ i, i < y.1 → H i S = gB S i) ∧ (y.2.1 = true → cntS s y.2.2 + 1 ≤ cntS s S)) (fun y => N - y.1) (0, false, S) ⟨by dsimp only;omega, hw, fun _ => ⟨rfl, fun i hi => by dsimp only at hi;omega⟩, fun h => by cases h⟩ ⟨[0], rfl, by decide, rfl, ⟨⟨rfl, rfl⟩, ⟨rfl, rfl⟩, ⟨rfl, rfl⟩, ⟨rfl, rfl⟩, ⟨rfl, rfl⟩, trivial⟩, ⟨z57 rfl (z4 fun _ => rfl), trivial⟩⟩ ?_
    rintro ⟨k, c, S'⟩ ⟨hk1, hw', hc1, hc2⟩
    dsimp only at hk1 hw' hc1 hc2 ⊢
    by_cases hkN : k < N
    · have hkl : k < S'.length := by rw [hw'.len];exact hkN
      have c1 := hf k S' hkN hw'.len
      have hgk : (S'.map enB)[k]? = some (enB (gB S' k)) := by
        unfold gB
        rw [z107 hkl, List.getElem?_map, List.getElem?_eq_getElem hkl];rfl
      have hput := hw'.put hm hkN (hw'.post k hkN) (ordB.refl s _)
      by_cases he : H k S' = gB S' k
      · repeat' ((first|(apply AWP.go ok;rfl)|(apply z35;kernel_rfl)|(refine z80 (i := k) rfl hgk ?_)|(apply And.intro;first|omega|(unfold inI;omega)|(dsimp only;omega)|((try dsimp only);simp only [List.length_map, List.length_take, List.length_append, List.length_replicate, List.length_cons, List.length_nil];omega)|exact z6 (fun _ => rfl)|exact ⟨rfl, z13 rfl z19⟩|exact ⟨rfl, z6 (fun _ => rfl) _⟩|exact ⟨⟨rfl, by omega⟩, z6 (fun _ => rfl) _⟩|(unfold z30;omega)|(simp only [z49] at *;first|omega|(unfold inI;omega)|(unfold z30;omega)))|((first|(with_reducible apply z9;omega)|(with_reducible apply z20;omega)|(apply z9;omega));intro _)|(apply z21;omega)|apply z28|(apply z27;omega;intro _)|((first|apply z26|apply z18|apply z25|apply z36|apply z16|apply z11|apply z17|apply z24) <;> intro _)|((first|(apply z29 [] [0] [] (c1);(focus (exact z93 rfl (z93 (z206 rfl rfl rfl hw'.len) rfl)));(focus ((repeat' first|exact z15|apply z12) <;> first|rfl|(refine z22 rfl ?_;(first|exact z4 fun _ => rfl|exact z10|exact z5 rfl|(apply z7 <;> exact z4 fun _ => rfl)|assumption))))));rfl;rfl;rfl;rfl;rfl;(focus ((repeat' first|exact z66|apply z56) <;> first|exact z68|exact z71 rfl rfl|(refine z67 ?_;(first|exact z4 fun _ => rfl|exact z10|exact z5 rfl|(apply z7 <;> exact z4 fun _ => rfl)|assumption))));(first|exact .inl rfl|(refine .inr ⟨rfl, ?_⟩;repeat' first|exact True.intro|apply And.intro|exact rfl|exact z39 (fun _ => rfl) _)))) <;> conv => whnf)
        all_goals first|(exfalso;simp_all;done)|skip
        all_goals
          refine z105 (k + 1, c, S') [0] ⟨by dsimp only;omega, hw', fun hc => ⟨(hc1 hc).1, fun i hi => ?_⟩, hc2⟩ (by dsimp only;omega) ⟨rfl, by decide, rfl, ⟨⟨rfl, rfl⟩, ⟨rfl, rfl⟩, ⟨rfl, rfl⟩, ⟨rfl, rfl⟩, ⟨rfl, rfl⟩, trivial⟩, ⟨z57 rfl (z4 fun _ => rfl), trivial⟩⟩
          dsimp only at hi hc
          rcases Nat.lt_or_ge i k with h3|h3
          · exact (hc1 hc).2 i h3
          · obtain rfl : i = k := by omega
            rw [← (hc1 hc).1];exact he
      · have hcn := hput.2 he
        repeat' ((first|(apply AWP.go ok;rfl)|(apply z35;kernel_rfl)|(refine z80 (i := k) rfl hgk ?_)|(apply And.intro;first|omega|(unfold inI;omega)|(dsimp only;omega)|((try dsimp only);simp only [List.length_map, List.length_take, List.length_append, List.length_replicate, List.length_cons, List.length_nil];omega)|exact z6 (fun _ => rfl)|exact ⟨rfl, z13 rfl z19⟩|exact ⟨rfl, z6 (fun _ => rfl) _⟩|exact ⟨⟨rfl, by omega⟩, z6 (fun _ => rfl) _⟩|(unfold z30;omega)|(simp only [z49] at *;first|omega|(unfold inI;omega)|(unfold z30;omega)))|((first|(with_reducible apply z9;omega)|(with_reducible apply z20;omega)|(apply z9;omega));intro _)|(apply z21;omega)|apply z28|(apply z27;omega;intro _)|((first|apply z26|apply z18|apply z25|apply z36|apply z16|apply z11|apply z17|apply z24) <;> intro _)|((first|(apply z29 [] [0] [] (c1);(focus (exact z93 rfl (z93 (z206 rfl rfl rfl hw'.len) rfl)));(focus ((repeat' first|exact z15|apply z12) <;> first|rfl|(refine z22 rfl ?_;(first|exact z4 fun _ => rfl|exact z10|exact z5 rfl|(apply z7 <;> exact z4 fun _ => rfl)|assumption))))));rfl;rfl;rfl;rfl;rfl;(focus ((repeat' first|exact z66|apply z56) <;> first|exact z68|exact z71 rfl rfl|(refine z67 ?_;(first|exact z4 fun _ => rfl|exact z10|exact z5 rfl|(apply z7 <;> exact z4 fun _ => rfl)|assumption))));(first|exact .inl rfl|(refine .inr ⟨rfl, ?_⟩;repeat' first|exact True.intro|apply And.intro|exact rfl|exact z39 (fun _ => rfl) _)))) <;> conv => whnf)
        all_goals first|(exfalso;simp_all;done)|skip
        all_goals
          refine z105 (k + 1, true, S'.set k (H k S')) [0] ⟨by dsimp only;omega, hput.1, (fun hc => by dsimp only at hc;cases hc), fun _ => ?_⟩ (by dsimp only;omega) ⟨rfl, by decide, rfl, ⟨⟨rfl, rfl⟩, ⟨rfl, rfl⟩, ⟨rfl, rfl⟩, ⟨rfl, rfl⟩, ⟨rfl, rfl⟩, trivial⟩, ⟨z57 (z84 (by rw [List.map_set];rfl)) (z4 fun _ => rfl), trivial⟩⟩
          dsimp only
          cases c
          · rw [(hc1 rfl).1] at hcn ⊢;omega
          · have := hc2 rfl;omega
    · repeat' ((first|(apply AWP.go ok;rfl)|(apply z35;kernel_rfl)|(apply And.intro;first|omega|(unfold inI;omega)|(dsimp only;omega)|((try dsimp only);simp only [List.length_map, List.length_take, List.length_append, List.length_replicate, List.length_cons, List.length_nil];omega)|exact z6 (fun _ => rfl)|exact ⟨rfl, z13 rfl z19⟩|exact ⟨rfl, z6 (fun _ => rfl) _⟩|exact ⟨⟨rfl, by omega⟩, z6 (fun _ => rfl) _⟩|(unfold z30;omega)|(simp only [z49] at *;first|omega|(unfold inI;omega)|(unfold z30;omega)))|((first|(with_reducible apply z9;omega)|(with_reducible apply z20;omega)|(apply z9;omega));intro _)|(apply z21;omega)|apply z28|(apply z27;omega;intro _)|((first|apply z26|apply z18|apply z25|apply z36|apply z16|apply z11|apply z17|apply z24) <;> intro _)) <;> conv => whnf)
      all_goals first|(exfalso;omega)|skip
      refine z105 (c, S') [0] ⟨hw', fun hc i hi => ?_⟩ ?_ ⟨rfl, by decide, rfl, ⟨⟨rfl, rfl⟩, ⟨rfl, rfl⟩, ⟨rfl, rfl⟩, trivial⟩, ⟨z57 rfl (z4 fun _ => rfl), trivial⟩⟩
      · dsimp only at hc ⊢
        rw [(hc1 hc).1];exact (hc1 hc).2 i (by omega)
      · dsimp only
        cases c
        · rw [(hc1 rfl).1];simp
        · have := hc2 rfl;simp;omega
end Go.Proofs.YtppafngcahgagaaGreat

namespace Go.Proofs.YtppafngcahgagaaGreat
open Go.Gl
attribute [local irreducible] z85 AWP z100 z108 z104
theorem GB.rowB {g : Graph} (h : GB g) : ∀ i (hi : i < g.nx.length), 1 ≤ g.nx[i].length ∧ g.nx[i].length ≤ 60 ∧ InN g.st.length g.nx[i] := fun i hi => by
  obtain ⟨⟨g1, g2⟩, g3, g4⟩ := h
  have h4 := g4 i hi hi (by omega)
  refine ⟨by have := h4.2.1;omega, by have := h4.2.1;omega, fun x hx => ?_⟩
  obtain ⟨j, hj, rfl⟩ := List.mem_iff_getElem.1 hx
  have := (h4.2.2.2 j hj hj).1
  omega
theorem z595 {S : List Bool} {i n : Nat} {K : List AC → Prop} (h : n = i) (hi : i < S.length) (k : K (enB (gB S i))) : ∃ e, (S.map enB)[n]? = some e ∧ K e := by
  refine z80 h ?_ k
  unfold gB
  rw [z107 hi, List.getElem?_map, List.getElem?_eq_getElem hi];rfl
theorem z259 (S : List Bool) (l : List Int) (hl : l.length ≤ maxLen) (p : Int → Bool) (f : FuncId) (hf : ∀ x ∈ l, CallsA Tryz.prog f [.int x, .pt [lst 1 enB S]] [] (.bool (p x)) []) : CallsA Tryz.prog 68 [lst 1 enI l, .fn (.func f) [] [.pt [lst 1 enB S]]] [] (.int (idxF p l)) [] := by
  unfold maxLen at hl
  refine z58 z82 Tryz.func68 rfl rfl 19 Tryz.ntmps68 (by simp) ?_
  repeat' ((first|(apply AWP.go ok;rfl)|(apply z35;kernel_rfl)|(apply And.intro;first|omega|(unfold inI;omega)|(dsimp only;omega)|((try dsimp only);simp only [List.length_map, List.length_take, List.length_append, List.length_replicate, List.length_cons, List.length_nil];omega)|exact z6 (fun _ => rfl)|exact ⟨rfl, z13 rfl z19⟩|exact ⟨rfl, z6 (fun _ => rfl) _⟩|exact ⟨⟨rfl, by omega⟩, z6 (fun _ => rfl) _⟩|(unfold z30;omega)|(simp only [z49] at *;first|omega|(unfold inI;omega)|(unfold z30;omega)))|((first|(with_reducible apply z9;omega)|(with_reducible apply z20;omega)|(apply z9;omega));intro _)|(apply z21;omega)|apply z28|(apply z27;omega;intro _)|((first|apply z26|apply z18|apply z25|apply z36|apply z16|apply z11|apply z17|apply z24) <;> intro _)) <;> conv => whnf)
  refine z116 (fun k : Nat => ([(0, lst 1 enI l), (1, .fn (.func f) [] [.pt [lst 1 enB S]]), (7, .int l.length), (8, .int k)], [])) (fun k => k ≤ l.length ∧ ∀ j (hj : j < l.length), j < k → p l[j] = false) (fun k => l.length - k) 0 (by simp)
    ⟨[], rfl, by decide, rfl, ⟨⟨rfl, rfl⟩, ⟨rfl, rfl⟩, ⟨rfl, rfl⟩, ⟨rfl, rfl⟩, trivial⟩, trivial⟩ ?_
  intro k hk
  repeat' ((first|(apply AWP.go ok;rfl)|(apply z35;kernel_rfl)|(apply And.intro;first|omega|(unfold inI;omega)|(dsimp only;omega)|((try dsimp only);simp only [List.length_map, List.length_take, List.length_append, List.length_replicate, List.length_cons, List.length_nil];omega)|exact z6 (fun _ => rfl)|exact ⟨rfl, z13 rfl z19⟩|exact ⟨rfl, z6 (fun _ => rfl) _⟩|exact ⟨⟨rfl, by omega⟩, z6 (fun _ => rfl) _⟩|(unfold z30;omega)|(simp only [z49] at *;first|omega|(unfold inI;omega)|(unfold z30;omega)))|((first|(with_reducible apply z9;omega)|(with_reducible apply z20;omega)|(apply z9;omega));intro _)|(apply z21;omega)|apply z28|(apply z27;omega;intro _)|((first|apply z26|apply z18|apply z25|apply z36|apply z16|apply z11|apply z17|apply z24) <;> intro _)|(apply z48 (hf l[k] (List.getElem_mem _));rfl;rfl)) <;> conv => whnf)
  · rename_i h h1
    exact z87 rfl rfl (by rw [z200 (by omega) h1 hk.2];rfl)
  · rename_i h h1
    refine z105 (k + 1) [] ⟨by omega, fun j hj hjk => ?_⟩ (by omega) ⟨rfl, by decide, rfl, ⟨⟨rfl, rfl⟩, ⟨rfl, rfl⟩, ⟨rfl, rfl⟩, ⟨rfl, rfl⟩, trivial⟩, trivial⟩
    rcases Nat.lt_or_ge j k with h2|h2
    · exact hk.2 j hj h2
    · obtain rfl : j = k := by omega
      exact h1
  · exact z87 rfl rfl (by rw [z201 fun j hj => hk.2 j hj (by omega)];rfl)
theorem z205 (S : List Bool) (l : List Int) (hl : l.length ≤ maxLen) (p : Int → Bool) (f : FuncId) (hf : ∀ x ∈ l, CallsA Tryz.prog f [.int x, .pt [lst 1 enB S]] [] (.bool (p x)) []) : CallsA Tryz.prog 108 [lst 1 enI l, .fn (.func f) [] [.pt [lst 1 enB S]]] [] (.bool (l.any p)) [] := by
  refine z58 z82 Tryz.func108 rfl rfl 9 Tryz.ntmps108 (by simp) ?_
  repeat' ((first|(apply AWP.go ok;rfl)|(apply z35;kernel_rfl)|(apply And.intro;first|omega|(unfold inI;omega)|(dsimp only;omega)|((try dsimp only);simp only [List.length_map, List.length_take, List.length_append, List.length_replicate, List.length_cons, List.length_nil];omega)|exact z6 (fun _ => rfl)|exact ⟨rfl, z13 rfl z19⟩|exact ⟨rfl, z6 (fun _ => rfl) _⟩|exact ⟨⟨rfl, by omega⟩, z6 (fun _ => rfl) _⟩|(unfold z30;omega)|(simp only [z49] at *;first|omega|(unfold inI;omega)|(unfold z30;omega)))|((first|(with_reducible apply z9;omega)|(with_reducible apply z20;omega)|(apply z9;omega));intro _)|(apply z21;omega)|apply z28|(apply z27;omega;intro _)|((first|apply z26|apply z18|apply z25|apply z36|apply z16|apply z11|apply z17|apply z24) <;> intro _)|(apply z48 (z259 S l hl p f hf);rfl;rfl)) <;> conv => whnf)
  exact z81 rfl (by rw [← z181])
theorem some1_ok (S : List Bool) (x : Int) (h0 : 0 ≤ x) (h1 : x < S.length) (hS : S.length ≤ 1048576) : CallsA Tryz.prog 148 [.int x, .pt [lst 1 enB S]] [] (.bool (gB S x.toNat)) [] := by
  refine z58 z82 Tryz.func148 rfl rfl 8 Tryz.ntmps148 (by simp) ?_
  repeat' ((first|(apply AWP.go ok;rfl)|(apply z35;kernel_rfl)|(refine z595 (i := x.toNat) rfl (by omega) ?_)|(apply And.intro;first|omega|(unfold inI;omega)|(dsimp only;omega)|((try dsimp only);simp only [List.length_map, List.length_take, List.length_append, List.length_replicate, List.length_cons, List.length_nil];omega)|exact z6 (fun _ => rfl)|exact ⟨rfl, z13 rfl z19⟩|exact ⟨rfl, z6 (fun _ => rfl) _⟩|exact ⟨⟨rfl, by omega⟩, z6 (fun _ => rfl) _⟩|(unfold z30;omega)|(simp only [z49] at *;first|omega|(unfold inI;omega)|(unfold z30;omega)))|((first|(with_reducible apply z9;omega)|(with_reducible apply z20;omega)|(apply z9;omega));intro _)|(apply z21;omega)|apply z28|(apply z27;omega;intro _)|((first|apply z26|apply z18|apply z25|apply z36|apply z16|apply z11|apply z17|apply z24) <;> intro _)) <;> conv => whnf)
  exact z81 rfl rfl
theorem z707 (S : List Bool) (x : Int) (h0 : 0 ≤ x) (h1 : x < S.length) (hS : S.length ≤ 1048576) : CallsA Tryz.prog 189 [.int x, .pt [lst 1 enB S]] [] (.bool (!gB S x.toNat)) [] := by
  refine z58 z82 Tryz.func189 rfl rfl 9 Tryz.ntmps189 (by simp) ?_
  repeat' ((first|(apply AWP.go ok;rfl)|(apply z35;kernel_rfl)|(refine z595 (i := x.toNat) rfl (by omega) ?_)|(apply And.intro;first|omega|(unfold inI;omega)|(dsimp only;omega)|((try dsimp only);simp only [List.length_map, List.length_take, List.length_append, List.length_replicate, List.length_cons, List.length_nil];omega)|exact z6 (fun _ => rfl)|exact ⟨rfl, z13 rfl z19⟩|exact ⟨rfl, z6 (fun _ => rfl) _⟩|exact ⟨⟨rfl, by omega⟩, z6 (fun _ => rfl) _⟩|(unfold z30;omega)|(simp only [z49] at *;first|omega|(unfold inI;omega)|(unfold z30;omega)))|((first|(with_reducible apply z9;omega)|(with_reducible apply z20;omega)|(apply z9;omega));intro _)|(apply z21;omega)|apply z28|(apply z27;omega;intro _)|((first|apply z26|apply z18|apply z25|apply z36|apply z16|apply z11|apply z17|apply z24) <;> intro _)) <;> conv => whnf)
  exact z81 rfl rfl
theorem z424 (g : Graph) (hG : GB g) (S : List Bool) (hS : S.length = g.st.length) (i : Nat) (hi : i < g.st.length) : CallsA Tryz.prog 65 [.agg g.cs, .int i, lst 1 enB S] [] (.bool (nxB g.nx false i S)) [] := by
  have hin : i < g.nx.length := by rw [hG.2.1];exact hi
  have h60 := hG.1.2
  obtain ⟨r1, r2, r3⟩ := GB.rowB hG i hin
  have c1 := z205 S g.nx[i] (by unfold maxLen;omega) (fun t => gB S t.toNat) 148 (fun x hx => some1_ok S x (r3 x hx).1 (by have := (r3 x hx).2;omega) (by omega))
  refine z58 z82 Tryz.func65 rfl rfl 14 Tryz.ntmps65 (by simp) ?_
  repeat' ((first|(apply AWP.go ok;rfl)|(apply z35;kernel_rfl)|(apply And.intro;first|omega|(unfold inI;omega)|(dsimp only;omega)|((try dsimp only);simp only [List.length_map, List.length_take, List.length_append, List.length_replicate, List.length_cons, List.length_nil];omega)|exact z6 (fun _ => rfl)|exact ⟨rfl, z13 rfl z19⟩|exact ⟨rfl, z6 (fun _ => rfl) _⟩|exact ⟨⟨rfl, by omega⟩, z6 (fun _ => rfl) _⟩|(unfold z30;omega)|(simp only [z49] at *;first|omega|(unfold inI;omega)|(unfold z30;omega)))|((first|(with_reducible apply z9;omega)|(with_reducible apply z20;omega)|(apply z9;omega));intro _)|(apply z21;omega)|apply z28|(apply z27;omega;intro _)|((first|apply z26|apply z18|apply z25|apply z36|apply z16|apply z11|apply z17|apply z24) <;> intro _)|(apply z443 [1] (c1);rfl;rfl;rfl;rfl)) <;> conv => whnf)
  exact z81 rfl (by unfold nxB;rw [z107 hin];rfl)
theorem z440 (g : Graph) (hG : GB g) (S : List Bool) (hS : S.length = g.st.length) (i : Nat) (hi : i < g.st.length) : CallsA Tryz.prog 131 [.agg g.cs, .int i, lst 1 enB S] [] (.bool (nxB g.nx true i S)) [] := by
  have hin : i < g.nx.length := by rw [hG.2.1];exact hi
  have h60 := hG.1.2
  obtain ⟨r1, r2, r3⟩ := GB.rowB hG i hin
  have c1 := z205 S g.nx[i] (by unfold maxLen;omega) (fun t => !gB S t.toNat) 189 (fun x hx => z707 S x (r3 x hx).1 (by have := (r3 x hx).2;omega) (by omega))
  refine z58 z82 Tryz.func131 rfl rfl 15 Tryz.ntmps131 (by simp) ?_
  repeat' ((first|(apply AWP.go ok;rfl)|(apply z35;kernel_rfl)|(apply And.intro;first|omega|(unfold inI;omega)|(dsimp only;omega)|((try dsimp only);simp only [List.length_map, List.length_take, List.length_append, List.length_replicate, List.length_cons, List.length_nil];omega)|exact z6 (fun _ => rfl)|exact ⟨rfl, z13 rfl z19⟩|exact ⟨rfl, z6 (fun _ => rfl) _⟩|exact ⟨⟨rfl, by omega⟩, z6 (fun _ => rfl) _⟩|(unfold z30;omega)|(simp only [z49] at *;first|omega|(unfold inI;omega)|(unfold z30;omega)))|((first|(with_reducible apply z9;omega)|(with_reducible apply z20;omega)|(apply z9;omega));intro _)|(apply z21;omega)|apply z28|(apply z27;omega;intro _)|((first|apply z26|apply z18|apply z25|apply z36|apply z16|apply z11|apply z17|apply z24) <;> intro _)|(apply z443 [1] (c1);rfl;rfl;rfl;rfl)) <;> conv => whnf)
  exact z81 rfl (by unfold nxB;rw [z107 hin, List.all_eq_not_any_not];rfl)
def nxR (ev : Bool) (S : List Bool) (row : List Int) : Bool := if ev then row.all (fun t => gB S t.toNat) else row.any (fun t => gB S t.toNat)
theorem nxR_nil (ev : Bool) (S : List Bool) : nxR ev S [] = ev := by cases ev <;> rfl
theorem nxR_step (ev : Bool) (S : List Bool) (row : List Int) (j : Nat) (h : j < row.length) : nxR ev S (row.take (j + 1)) = if gB S (row[j]).toNat = ev then nxR ev S (row.take j) else !ev := by
  rw [List.take_succ_eq_append_getElem h]
  unfold nxR
  rw [List.all_append, List.any_append]
  simp only [List.all_cons, List.any_cons, List.all_nil, List.any_nil]
  cases ev <;> cases gB S (row[j]).toNat <;> simp
set_option maxHeartbeats 1600000 in
theorem z212 (g : Graph) (hG : GB g) (S : List Bool) (hS : S.length = g.st.length) (ev : Bool) : CallsA Tryz.prog 144 [.agg g.cs, lst 1 enB S, .bool ev] [] (.sref 0 0 g.st.length) [.cells 1 ((nxL g.nx ev g.st.length S).map enB)] := by
  have h60 := hG.1.2
  have hgl := hG.2.1
  suffices h : CallsA Tryz.prog 144 [.agg g.cs, lst 1 enB S, .bool ev] [] (.sref 0 0 g.nx.length) [.cells 1 ((nxL g.nx ev g.nx.length S).map enB)] by rwa [hgl] at h
  refine z58 z82 Tryz.func144 rfl rfl 50 Tryz.ntmps144 (by simp) ?_
  repeat' ((first|(apply AWP.go ok;rfl)|(apply z35;kernel_rfl)|(apply And.intro;first|omega|(unfold inI;omega)|(dsimp only;omega)|((try dsimp only);simp only [List.length_map, List.length_take, List.length_append, List.length_replicate, List.length_cons, List.length_nil];omega)|exact z6 (fun _ => rfl)|exact ⟨rfl, z13 rfl z19⟩|exact ⟨rfl, z6 (fun _ => rfl) _⟩|exact ⟨⟨rfl, by omega⟩, z6 (fun _ => rfl) _⟩|(unfold z30;omega)|(simp only [z49] at *;first|omega|(unfold inI;omega)|(unfold z30;omega)))|((first|(with_reducible apply z9;omega)|(with_reducible apply z20;omega)|(apply z9;omega));intro _)|(apply z21;omega)|apply z28|(apply z27;omega;intro _)|((first|apply z26|apply z18|apply z25|apply z36|apply z16|apply z11|apply z17|apply z24) <;> intro _)) <;> conv => whnf)
  refine z116 (fun i : Nat => ([(1, lst 1 enB S), (2, .bool ev), (3, .ptr 0 none 0), (7, .sref 1 0 i), (8, .int i)], [.cells 2 [[lst 2 State.cs g.st, lst 1 encL g.nx]], .cells 1 (((List.range g.nx.length).take i).map fun i => enB (nxB g.nx ev i S))])) (fun i => i ≤ g.nx.length) (fun i => g.nx.length - i) 0 (by omega) ⟨[0, 1], rfl, by decide, rfl, ⟨⟨rfl, rfl⟩, ⟨rfl, rfl⟩, ⟨rfl, rfl⟩, ⟨rfl, rfl⟩, ⟨rfl, rfl⟩, trivial⟩, ⟨z70 rfl rfl, z57 rfl (z4 fun _ => rfl), trivial⟩⟩ ?_
  intro i hi
  by_cases hil : i < g.nx.length
  · have hir : i < (List.range g.nx.length).length := by simpa using hil
    obtain ⟨r1, r2, r3⟩ := GB.rowB hG i hil
    have hnx : nxB g.nx ev i S = nxR ev S g.nx[i] := by unfold nxB nxR;rw [z107 hil]
    repeat' ((first|(apply AWP.go ok;rfl)|(apply z35;kernel_rfl)|(apply And.intro;first|omega|(unfold inI;omega)|(dsimp only;omega)|((try dsimp only);simp only [List.length_map, List.length_take, List.length_append, List.length_replicate, List.length_cons, List.length_nil];omega)|exact z6 (fun _ => rfl)|exact ⟨rfl, z13 rfl z19⟩|exact ⟨rfl, z6 (fun _ => rfl) _⟩|exact ⟨⟨rfl, by omega⟩, z6 (fun _ => rfl) _⟩|(unfold z30;omega)|(simp only [z49] at *;first|omega|(unfold inI;omega)|(unfold z30;omega)))|((first|(with_reducible apply z9;omega)|(with_reducible apply z20;omega)|(apply z9;omega));intro _)|(apply z21;omega)|apply z28|(apply z27;omega;intro _)|((first|apply z26|apply z18|apply z25|apply z36|apply z16|apply z11|apply z17|apply z24) <;> intro _)) <;> conv => whnf)
    all_goals first|(exfalso;omega)|skip
    refine z116 (fun j : Nat => ([(1, lst 1 enB S), (2, .bool ev), (3, .ptr 0 none 0), (7, .sref 1 0 i), (8, .int i), (9, .bool (nxR ev S (g.nx[i].take j))), (10, .int j)], [.cells 2 [[lst 2 State.cs g.st, lst 1 encL g.nx]], .cells 1 (((List.range g.nx.length).take i).map fun i => enB (nxB g.nx ev i S))])) (fun j => j ≤ g.nx[i].length) (fun j => g.nx[i].length - j) 0 (by omega) ⟨[0, 1], rfl, by decide, rfl, ⟨⟨rfl, rfl⟩, ⟨rfl, rfl⟩, ⟨rfl, rfl⟩, ⟨rfl, rfl⟩, ⟨rfl, rfl⟩, ⟨rfl, by rw [List.take_zero, nxR_nil];rfl⟩, ⟨rfl, rfl⟩, trivial⟩, ⟨z70 rfl rfl, z57 rfl (z4 fun _ => rfl), trivial⟩⟩ ?_
    intro j hj
    by_cases hjl : j < g.nx[i].length
    · have hx := r3 g.nx[i][j] (List.getElem_mem _)
      have hst := nxR_step ev S g.nx[i] j hjl
      by_cases he : gB S (g.nx[i][j]).toNat = ev
      · rw [if_pos he] at hst
        repeat' ((first|(apply AWP.go ok;rfl)|(apply z35;kernel_rfl)|(refine z595 (i := (g.nx[i][j]).toNat) rfl (by omega) ?_)|(apply And.intro;first|omega|(unfold inI;omega)|(dsimp only;omega)|((try dsimp only);simp only [List.length_map, List.length_take, List.length_append, List.length_replicate, List.length_cons, List.length_nil];omega)|exact z6 (fun _ => rfl)|exact ⟨rfl, z13 rfl z19⟩|exact ⟨rfl, z6 (fun _ => rfl) _⟩|exact ⟨⟨rfl, by omega⟩, z6 (fun _ => rfl) _⟩|(unfold z30;omega)|(simp only [z49] at *;first|omega|(unfold inI;omega)|(unfold z30;omega)))|((first|(with_reducible apply z9;omega)|(with_reducible apply z20;omega)|(apply z9;omega));intro _)|(apply z21;omega)|apply z28|(apply z27;omega;intro _)|((first|apply z26|apply z18|apply z25|apply z36|apply z16|apply z11|apply z17|apply z24) <;> intro _)) <;> conv => whnf)
        all_goals first|(exfalso;omega)|(exfalso;simp_all;done)|skip
        all_goals exact z105 (j + 1) [0, 1] (by omega) (by omega) ⟨rfl, by decide, rfl, ⟨⟨rfl, rfl⟩, ⟨rfl, rfl⟩, ⟨rfl, rfl⟩, ⟨rfl, rfl⟩, ⟨rfl, rfl⟩, ⟨rfl, by rw [hst];rfl⟩, ⟨rfl, rfl⟩, trivial⟩, ⟨z70 rfl rfl, z57 rfl (z4 fun _ => rfl), trivial⟩⟩
      · rw [if_neg he] at hst
        repeat' ((first|(apply AWP.go ok;rfl)|(apply z35;kernel_rfl)|(refine z595 (i := (g.nx[i][j]).toNat) rfl (by omega) ?_)|(apply And.intro;first|omega|(unfold inI;omega)|(dsimp only;omega)|((try dsimp only);simp only [List.length_map, List.length_take, List.length_append, List.length_replicate, List.length_cons, List.length_nil];omega)|exact z6 (fun _ => rfl)|exact ⟨rfl, z13 rfl z19⟩|exact ⟨rfl, z6 (fun _ => rfl) _⟩|exact ⟨⟨rfl, by omega⟩, z6 (fun _ => rfl) _⟩|(unfold z30;omega)|(simp only [z49] at *;first|omega|(unfold inI;omega)|(unfold z30;omega)))|((first|(with_reducible apply z9;omega)|(with_reducible apply z20;omega)|(apply z9;omega));intro _)|(apply z21;omega)|apply z28|(apply z27;omega;intro _)|((first|apply z26|apply z18|apply z25|apply z36|apply z16|apply z11|apply z17|apply z24) <;> intro _)) <;> conv => whnf)
        all_goals first|(exfalso;omega)|(exfalso;simp_all;done)|skip
        all_goals exact z105 (j + 1) [0, 1] (by omega) (by omega) ⟨rfl, by decide, rfl, ⟨⟨rfl, rfl⟩, ⟨rfl, rfl⟩, ⟨rfl, rfl⟩, ⟨rfl, rfl⟩, ⟨rfl, rfl⟩, ⟨rfl, by rw [hst];rfl⟩, ⟨rfl, rfl⟩, trivial⟩, ⟨z70 rfl rfl, z57 rfl (z4 fun _ => rfl), trivial⟩⟩
    · obtain rfl : j = g.nx[i].length := by omega
      rw [List.take_length, ← hnx]
      repeat' ((first|(apply AWP.go ok;rfl)|(apply z35;kernel_rfl)|(apply And.intro;first|omega|(unfold inI;omega)|(dsimp only;omega)|((try dsimp only);simp only [List.length_map, List.length_take, List.length_append, List.length_replicate, List.length_cons, List.length_nil];omega)|exact z6 (fun _ => rfl)|exact ⟨rfl, z13 rfl z19⟩|exact ⟨rfl, z6 (fun _ => rfl) _⟩|exact ⟨⟨rfl, by omega⟩, z6 (fun _ => rfl) _⟩|(unfold z30;omega)|(simp only [z49] at *;first|omega|(unfold inI;omega)|(unfold z30;omega)))|((first|(with_reducible apply z9;omega)|(with_reducible apply z20;omega)|(apply z9;omega));intro _)|(apply z21;omega)|apply z28|(apply z27;omega;intro _)|((first|apply z26|apply z18|apply z25|apply z36|apply z16|apply z11|apply z17|apply z24) <;> intro _)) <;> conv => whnf)
      all_goals first|(exfalso;omega)|skip
      refine z105 (i + 1) [0, 3] (by omega) (by omega) ⟨rfl, by decide, rfl, ⟨⟨rfl, rfl⟩, ⟨rfl, rfl⟩, ⟨rfl, rfl⟩, ⟨rfl, rfl⟩, ⟨rfl, rfl⟩, trivial⟩, ⟨z70 rfl rfl, z57 (z84 ?_) (z4 fun _ => rfl), trivial⟩⟩
      rw [List.take_of_length_le (by simp;omega), List.take_succ_eq_append_getElem hir, List.map_append]
      simp only [List.getElem_range];rfl
  · repeat' ((first|(apply AWP.go ok;rfl)|(apply z35;kernel_rfl)|(apply And.intro;first|omega|(unfold inI;omega)|(dsimp only;omega)|((try dsimp only);simp only [List.length_map, List.length_take, List.length_append, List.length_replicate, List.length_cons, List.length_nil];omega)|exact z6 (fun _ => rfl)|exact ⟨rfl, z13 rfl z19⟩|exact ⟨rfl, z6 (fun _ => rfl) _⟩|exact ⟨⟨rfl, by omega⟩, z6 (fun _ => rfl) _⟩|(unfold z30;omega)|(simp only [z49] at *;first|omega|(unfold inI;omega)|(unfold z30;omega)))|((first|(with_reducible apply z9;omega)|(with_reducible apply z20;omega)|(apply z9;omega));intro _)|(apply z21;omega)|apply z28|(apply z27;omega;intro _)|((first|apply z26|apply z18|apply z25|apply z36|apply z16|apply z11|apply z17|apply z24) <;> intro _)) <;> conv => whnf)
    all_goals first|(exfalso;omega)|skip
    obtain rfl : i = g.nx.length := by omega
    refine z91 [1] (by decide) rfl rfl rfl ⟨z57 (z84 ?_) (z4 fun _ => rfl), trivial⟩
    rw [List.take_of_length_le (by simp)]
    unfold nxL
    rw [List.map_map];rfl
end Go.Proofs.YtppafngcahgagaaGreat

namespace Go.Proofs.YtppafngcahgagaaGreat
open Go.Gl
attribute [local irreducible] z85 AWP z100 z108 z104
theorem z549 (g : List (List Int)) (ev : Bool) (n : Nat) (S : List Bool) : (nxL g ev n S).length = n := by simp [nxL]
theorem z596 (g : List (List Int)) (ev : Bool) (n : Nat) (S : List Bool) (i : Nat) (h : i < n) : gB (nxL g ev n S) i = nxB g ev i S := by
  unfold gB
  rw [z107 (by rw [z549];exact h)]
  simp [nxL]
theorem z121 {S : List Bool} {i : Nat} (hi : i < S.length) : (S.map enB)[i]? = some (enB (gB S i)) := by
  unfold gB
  rw [z107 hi, List.getElem?_map, List.getElem?_eq_getElem hi];rfl
theorem GB.inN {g : Graph} (h : GB g) : ∀ r ∈ g.nx, InN g.st.length r := fun r hr => by
  obtain ⟨i, hi, rfl⟩ := List.mem_iff_getElem.1 hr
  exact (GB.rowB h i hi).2.2
set_option maxHeartbeats 1600000 in
theorem z308 (g : Graph) (hG : GB g) (a b : List Bool) (ha : a.length = g.st.length) (hb : b.length = g.st.length) (ev : Bool) : CallsA Tryz.prog 145 [.agg g.cs, lst 1 enB a, lst 1 enB b, .bool ev] [] (.sref 0 0 g.st.length) [.cells 1 ((lim false (unH g.nx ev a b) g.st.length).map enB)] := by
  have h60 := hG.1.2
  have hm : z381 false (unH g.nx ev a b) g.st.length := z268 (s := false) hG.inN a b
  have cn := fun (S : List Bool) (hS : S.length = g.st.length) => z212 g hG S hS ev
  have hnl := fun (S : List Bool) => z549 g.nx ev g.st.length S
  have hng := fun (S : List Bool) => z596 g.nx ev g.st.length S
  have w0 : Gl.Way false (unH g.nx ev a b) g.st.length b := Way.goal hb
  generalize hN : g.st.length = N at *
  generalize hHe : unH g.nx ev a b = H at *
  refine z58 z82 Tryz.func145 rfl rfl 48 Tryz.ntmps145 (by simp) ?_
  repeat' ((first|(apply AWP.go ok;rfl)|(apply z35;kernel_rfl)|(apply And.intro;first|omega|(unfold inI;omega)|(dsimp only;omega)|((try dsimp only);simp only [List.length_map, List.length_take, List.length_append, List.length_replicate, List.length_cons, List.length_nil];omega)|exact z6 (fun _ => rfl)|exact ⟨rfl, z13 rfl z19⟩|exact ⟨rfl, z6 (fun _ => rfl) _⟩|exact ⟨⟨rfl, by omega⟩, z6 (fun _ => rfl) _⟩|(unfold z30;omega)|(simp only [z49] at *;first|omega|(unfold inI;omega)|(unfold z30;omega)))|((first|(with_reducible apply z9;omega)|(with_reducible apply z20;omega)|(apply z9;omega));intro _)|(apply z21;omega)|apply z28|(apply z27;omega;intro _)|((first|apply z26|apply z18|apply z25|apply z36|apply z16|apply z11|apply z17|apply z24) <;> intro _)) <;> conv => whnf)
  refine z116 (fun x : Bool × List Bool => ([(1, lst 1 enB a), (3, .bool ev), (4, .ptr 0 none 0), (9, .sref 1 0 N), (10, .bool x.1)], [.cells 2 [[lst 2 State.cs g.st, lst 1 encL g.nx]], .cells 1 (x.2.map enB)])) (fun x => Gl.Way false H N x.2 ∧ (x.1 = false → ∀ i, i < N → H i x.2 = gB x.2 i) ∧ ∀ i, i < N → gB x.2 i = false → gB b i = false) (fun x => 2 * cntS false x.2 + (if x.1 then 1 else 0)) (true, b) ⟨w0, fun h => (by dsimp only at h;cases h), fun i _ h => h⟩ ⟨[0, 2], rfl, by decide, rfl, ⟨⟨rfl, rfl⟩, ⟨rfl, rfl⟩, ⟨rfl, rfl⟩, ⟨rfl, by rw [← hb];exact congrArg (AC.sref 2 0) (Nat.zero_add _)⟩, ⟨rfl, rfl⟩, trivial⟩, ⟨z70 rfl rfl, z57 rfl (z4 fun _ => rfl), trivial⟩⟩ ?_
  rintro ⟨ch, S⟩ ⟨hw, hfx, hb0⟩
  dsimp only at hw hfx hb0 ⊢
  have hSl := hw.len
  cases ch
  · have hR := hw.ends (hfx rfl)
    repeat' ((first|(apply AWP.go ok;rfl)|(apply z35;kernel_rfl)|(apply And.intro;first|omega|(unfold inI;omega)|(dsimp only;omega)|((try dsimp only);simp only [List.length_map, List.length_take, List.length_append, List.length_replicate, List.length_cons, List.length_nil];omega)|exact z6 (fun _ => rfl)|exact ⟨rfl, z13 rfl z19⟩|exact ⟨rfl, z6 (fun _ => rfl) _⟩|exact ⟨⟨rfl, by omega⟩, z6 (fun _ => rfl) _⟩|(unfold z30;omega)|(simp only [z49] at *;first|omega|(unfold inI;omega)|(unfold z30;omega)))|((first|(with_reducible apply z9;omega)|(with_reducible apply z20;omega)|(apply z9;omega));intro _)|(apply z21;omega)|apply z28|(apply z27;omega;intro _)|((first|apply z26|apply z18|apply z25|apply z36|apply z16|apply z11|apply z17|apply z24) <;> intro _)) <;> conv => whnf)
    all_goals first|(exfalso;simp_all;done)|skip
    rw [z485 hR]
    exact z91 [1] (by decide) rfl rfl rfl ⟨z57 rfl (z4 fun _ => rfl), trivial⟩
  · have c1 := cn S hSl
    repeat' ((first|(apply AWP.go ok;rfl)|(apply z35;kernel_rfl)|(apply And.intro;first|omega|(unfold inI;omega)|(dsimp only;omega)|((try dsimp only);simp only [List.length_map, List.length_take, List.length_append, List.length_replicate, List.length_cons, List.length_nil];omega)|exact z6 (fun _ => rfl)|exact ⟨rfl, z13 rfl z19⟩|exact ⟨rfl, z6 (fun _ => rfl) _⟩|exact ⟨⟨rfl, by omega⟩, z6 (fun _ => rfl) _⟩|(unfold z30;omega)|(simp only [z49] at *;first|omega|(unfold inI;omega)|(unfold z30;omega)))|((first|(with_reducible apply z9;omega)|(with_reducible apply z20;omega)|(apply z9;omega));intro _)|(apply z21;omega)|apply z28|(apply z27;omega;intro _)|((first|apply z26|apply z18|apply z25|apply z36|apply z16|apply z11|apply z17|apply z24) <;> intro _)|((first|(apply z29 [] [1] [2] (c1);(focus (exact z93 rfl (z93 (z206 rfl rfl rfl hSl) rfl)));(focus ((repeat' first|exact z15|apply z12) <;> first|rfl|(refine z22 rfl ?_;(first|exact z4 fun _ => rfl|exact z10|exact z5 rfl|(apply z7 <;> exact z4 fun _ => rfl)|assumption))))));rfl;rfl;rfl;rfl;rfl;(focus ((repeat' first|exact z66|apply z56) <;> first|exact z68|exact z71 rfl rfl|(refine z67 ?_;(first|exact z4 fun _ => rfl|exact z10|exact z5 rfl|(apply z7 <;> exact z4 fun _ => rfl)|assumption))));(first|exact .inl rfl|(refine .inr ⟨rfl, ?_⟩;repeat' first|exact True.intro|apply And.intro|exact rfl|exact z39 (fun _ => rfl) _)))) <;> conv => whnf)
    all_goals first|(exfalso;simp_all;done)|skip
    refine z116 (fun y : Nat × Bool × List Bool => ([(1, lst 1 enB a), (3, .bool ev), (4, .ptr 0 none 0), (9, .sref 1 0 N), (10, .bool y.2.1), (11, .sref 2 0 N), (12, .int y.1)], [.cells 2 [[lst 2 State.cs g.st, lst 1 encL g.nx]], .cells 1 (y.2.2.map enB), .cells 1 ((nxL g.nx ev N S).map enB)])) (fun y => y.1 ≤ N ∧ Gl.Way false H N y.2.2 ∧ (y.2.1 = false → y.2.2 = S ∧ ∀ i, i < y.1 → H i S = gB S i) ∧ (y.2.1 = true → cntS false y.2.2 + 1 ≤ cntS false S) ∧ (∀ j, j < N → ordB false (gB S j) (gB y.2.2 j)) ∧ ∀ i, i < N → gB y.2.2 i = false → gB b i = false) (fun y => N - y.1) (0, false, S) ⟨by dsimp only;omega, hw, fun _ => ⟨rfl, fun i hi => by dsimp only at hi;omega⟩, fun h => (by dsimp only at h;cases h), fun j _ => ordB.refl _ _, hb0⟩ ⟨[0, 1, 2], rfl, by decide, rfl, ⟨⟨rfl, rfl⟩, ⟨rfl, rfl⟩, ⟨rfl, rfl⟩, ⟨rfl, rfl⟩, ⟨rfl, rfl⟩, ⟨rfl, rfl⟩, ⟨rfl, rfl⟩, trivial⟩, ⟨z70 rfl rfl, z57 rfl (z4 fun _ => rfl), z57 rfl (z4 fun _ => rfl), trivial⟩⟩ ?_
    rintro ⟨k, c, S'⟩ ⟨hk1, hw', hc1, hc2, hle, hb1⟩
    dsimp only at hk1 hw' hc1 hc2 hle hb1 ⊢
    have hSl' := hw'.len
    by_cases hkN : k < N
    · have g1 := z121 (S := S') (i := k) (by omega)
      have g2 := z121 (S := a) (i := k) (by omega)
      have g3 := z121 (S := nxL g.nx ev N S) (i := k) (by rw [hnl];omega)
      rw [hng S k hkN] at g3
      have same : (gB S' k = gB S k → H k S = gB S k) → c = false → S' = S ∧ ∀ i, i < k + 1 → H i S = gB S i := fun hh hc => by
        obtain ⟨e1, e2⟩ := hc1 hc
        refine ⟨e1, fun i hi => ?_⟩
        rcases Nat.lt_or_ge i k with h3|h3
        · exact e2 i h3
        · obtain rfl : i = k := by omega
          exact hh (by rw [e1])
      have hp := hw.post k hkN
      by_cases he : gB S' k = false ∧ gB a k = true ∧ nxB g.nx ev k S = true
      · have hst := hw'.step hm hSl hle hkN (i := k) (by rw [← hHe];unfold unH;rw [he.2.1, he.2.2];simp) he.1
        have hcn := hst.2.1
        obtain ⟨he1, he2, he3⟩ := he
        rw [he1] at g1
        rw [he2] at g2
        rw [he3] at g3
        repeat' ((first|(apply AWP.go ok;rfl)|(apply z35;kernel_rfl)|(refine z80 (i := k) rfl g1 ?_)|(refine z80 (i := k) rfl g2 ?_)|(refine z80 (i := k) rfl g3 ?_)|(apply And.intro;first|omega|(unfold inI;omega)|(dsimp only;omega)|((try dsimp only);simp only [List.length_map, List.length_take, List.length_append, List.length_replicate, List.length_cons, List.length_nil];omega)|exact z6 (fun _ => rfl)|exact ⟨rfl, z13 rfl z19⟩|exact ⟨rfl, z6 (fun _ => rfl) _⟩|exact ⟨⟨rfl, by omega⟩, z6 (fun _ => rfl) _⟩|(unfold z30;omega)|(simp only [z49] at *;first|omega|(unfold inI;omega)|(unfold z30;omega)))|((first|(with_reducible apply z9;omega)|(with_reducible apply z20;omega)|(apply z9;omega));intro _)|(apply z21;omega)|apply z28|(apply z27;omega;intro _)|((first|apply z26|apply z18|apply z25|apply z36|apply z16|apply z11|apply z17|apply z24) <;> intro _)) <;> conv => whnf)
        all_goals first|(exfalso;omega)|(exfalso;simp_all;done)|skip
        all_goals
          refine z105 (k + 1, true, S'.set k (!false)) [0, 1, 2] ⟨by dsimp only;omega, hst.1, (fun hc => by dsimp only at hc;cases hc), fun _ => ?_, hst.2.2, fun i hi h => ?_⟩ (by dsimp only;omega) ⟨rfl, by decide, rfl, ⟨⟨rfl, rfl⟩, ⟨rfl, rfl⟩, ⟨rfl, rfl⟩, ⟨rfl, rfl⟩, ⟨rfl, rfl⟩, ⟨rfl, rfl⟩, ⟨rfl, rfl⟩, trivial⟩, ⟨z70 rfl rfl, z57 (z84 (by rw [List.map_set];rfl)) (z4 fun _ => rfl), z57 rfl (z4 fun _ => rfl), trivial⟩⟩
          · dsimp only
            cases c
            · rw [(hc1 rfl).1] at hcn ⊢;omega
            · have := hc2 rfl;omega
          · dsimp only at h
            rw [z409 (by omega)] at h
            split at h
            · cases h
            · exact hb1 i hi h
      · have hcase : gB S' k = gB S k → H k S = gB S k := fun e => by
          cases hs : gB S k
          · have hb := hb0 k hkN hs
            rw [← hHe];unfold unH
            rw [hb]
            cases h1 : gB a k <;> cases h2 : nxB g.nx ev k S <;> first|rfl|(exfalso;exact he ⟨by rw [e, hs], h1, h2⟩)
          · rw [hs] at hp
            rcases hp with e|e
            · exact e.symm
            · cases e
        generalize gB S' k = p at *
        generalize gB a k = q at *
        generalize nxB g.nx ev k S = r at *
        clear c1
        cases p <;> cases q <;> cases r <;> first|(exfalso;exact he ⟨rfl, rfl, rfl⟩)|skip
        · repeat' ((first|(apply AWP.go ok;rfl)|(apply z35;kernel_rfl)|(refine z80 (i := k) rfl g1 ?_)|(refine z80 (i := k) rfl g2 ?_)|(refine z80 (i := k) rfl g3 ?_)|(apply And.intro;first|omega|(unfold inI;omega)|(dsimp only;omega)|((try dsimp only);simp only [List.length_map, List.length_take, List.length_append, List.length_replicate, List.length_cons, List.length_nil];omega)|exact z6 (fun _ => rfl)|exact ⟨rfl, z13 rfl z19⟩|exact ⟨rfl, z6 (fun _ => rfl) _⟩|exact ⟨⟨rfl, by omega⟩, z6 (fun _ => rfl) _⟩|(unfold z30;omega)|(simp only [z49] at *;first|omega|(unfold inI;omega)|(unfold z30;omega)))|((first|(with_reducible apply z9;omega)|(with_reducible apply z20;omega)|(apply z9;omega));intro _)|(apply z21;omega)|apply z28|(apply z27;omega;intro _)|((first|apply z26|apply z18|apply z25|apply z36|apply z16|apply z11|apply z17|apply z24) <;> intro _)) <;> conv => whnf)
          all_goals first|(exfalso;omega)|(exfalso;simp_all;done)|skip
          all_goals exact z105 (k + 1, c, S') [0, 1, 2] ⟨by dsimp only;omega, hw', same hcase, hc2, hle, hb1⟩ (by dsimp only;omega) ⟨rfl, by decide, rfl, ⟨⟨rfl, rfl⟩, ⟨rfl, rfl⟩, ⟨rfl, rfl⟩, ⟨rfl, rfl⟩, ⟨rfl, rfl⟩, ⟨rfl, rfl⟩, ⟨rfl, rfl⟩, trivial⟩, ⟨z70 rfl rfl, z57 rfl (z4 fun _ => rfl), z57 rfl (z4 fun _ => rfl), trivial⟩⟩
        · repeat' ((first|(apply AWP.go ok;rfl)|(apply z35;kernel_rfl)|(refine z80 (i := k) rfl g1 ?_)|(refine z80 (i := k) rfl g2 ?_)|(refine z80 (i := k) rfl g3 ?_)|(apply And.intro;first|omega|(unfold inI;omega)|(dsimp only;omega)|((try dsimp only);simp only [List.length_map, List.length_take, List.length_append, List.length_replicate, List.length_cons, List.length_nil];omega)|exact z6 (fun _ => rfl)|exact ⟨rfl, z13 rfl z19⟩|exact ⟨rfl, z6 (fun _ => rfl) _⟩|exact ⟨⟨rfl, by omega⟩, z6 (fun _ => rfl) _⟩|(unfold z30;omega)|(simp only [z49] at *;first|omega|(unfold inI;omega)|(unfold z30;omega)))|((first|(with_reducible apply z9;omega)|(with_reducible apply z20;omega)|(apply z9;omega));intro _)|(apply z21;omega)|apply z28|(apply z27;omega;intro _)|((first|apply z26|apply z18|apply z25|apply z36|apply z16|apply z11|apply z17|apply z24) <;> intro _)) <;> conv => whnf)
          all_goals first|(exfalso;omega)|(exfalso;simp_all;done)|skip
          all_goals exact z105 (k + 1, c, S') [0, 1, 2] ⟨by dsimp only;omega, hw', same hcase, hc2, hle, hb1⟩ (by dsimp only;omega) ⟨rfl, by decide, rfl, ⟨⟨rfl, rfl⟩, ⟨rfl, rfl⟩, ⟨rfl, rfl⟩, ⟨rfl, rfl⟩, ⟨rfl, rfl⟩, ⟨rfl, rfl⟩, ⟨rfl, rfl⟩, trivial⟩, ⟨z70 rfl rfl, z57 rfl (z4 fun _ => rfl), z57 rfl (z4 fun _ => rfl), trivial⟩⟩
        · repeat' ((first|(apply AWP.go ok;rfl)|(apply z35;kernel_rfl)|(refine z80 (i := k) rfl g1 ?_)|(refine z80 (i := k) rfl g2 ?_)|(refine z80 (i := k) rfl g3 ?_)|(apply And.intro;first|omega|(unfold inI;omega)|(dsimp only;omega)|((try dsimp only);simp only [List.length_map, List.length_take, List.length_append, List.length_replicate, List.length_cons, List.length_nil];omega)|exact z6 (fun _ => rfl)|exact ⟨rfl, z13 rfl z19⟩|exact ⟨rfl, z6 (fun _ => rfl) _⟩|exact ⟨⟨rfl, by omega⟩, z6 (fun _ => rfl) _⟩|(unfold z30;omega)|(simp only [z49] at *;first|omega|(unfold inI;omega)|(unfold z30;omega)))|((first|(with_reducible apply z9;omega)|(with_reducible apply z20;omega)|(apply z9;omega));intro _)|(apply z21;omega)|apply z28|(apply z27;omega;intro _)|((first|apply z26|apply z18|apply z25|apply z36|apply z16|apply z11|apply z17|apply z24) <;> intro _)) <;> conv => whnf)
          all_goals first|(exfalso;omega)|(exfalso;simp_all;done)|skip
          all_goals exact z105 (k + 1, c, S') [0, 1, 2] ⟨by dsimp only;omega, hw', same hcase, hc2, hle, hb1⟩ (by dsimp only;omega) ⟨rfl, by decide, rfl, ⟨⟨rfl, rfl⟩, ⟨rfl, rfl⟩, ⟨rfl, rfl⟩, ⟨rfl, rfl⟩, ⟨rfl, rfl⟩, ⟨rfl, rfl⟩, ⟨rfl, rfl⟩, trivial⟩, ⟨z70 rfl rfl, z57 rfl (z4 fun _ => rfl), z57 rfl (z4 fun _ => rfl), trivial⟩⟩
        · repeat' ((first|(apply AWP.go ok;rfl)|(apply z35;kernel_rfl)|(refine z80 (i := k) rfl g1 ?_)|(refine z80 (i := k) rfl g2 ?_)|(refine z80 (i := k) rfl g3 ?_)|(apply And.intro;first|omega|(unfold inI;omega)|(dsimp only;omega)|((try dsimp only);simp only [List.length_map, List.length_take, List.length_append, List.length_replicate, List.length_cons, List.length_nil];omega)|exact z6 (fun _ => rfl)|exact ⟨rfl, z13 rfl z19⟩|exact ⟨rfl, z6 (fun _ => rfl) _⟩|exact ⟨⟨rfl, by omega⟩, z6 (fun _ => rfl) _⟩|(unfold z30;omega)|(simp only [z49] at *;first|omega|(unfold inI;omega)|(unfold z30;omega)))|((first|(with_reducible apply z9;omega)|(with_reducible apply z20;omega)|(apply z9;omega));intro _)|(apply z21;omega)|apply z28|(apply z27;omega;intro _)|((first|apply z26|apply z18|apply z25|apply z36|apply z16|apply z11|apply z17|apply z24) <;> intro _)) <;> conv => whnf)
          all_goals first|(exfalso;omega)|(exfalso;simp_all;done)|skip
          all_goals exact z105 (k + 1, c, S') [0, 1, 2] ⟨by dsimp only;omega, hw', same hcase, hc2, hle, hb1⟩ (by dsimp only;omega) ⟨rfl, by decide, rfl, ⟨⟨rfl, rfl⟩, ⟨rfl, rfl⟩, ⟨rfl, rfl⟩, ⟨rfl, rfl⟩, ⟨rfl, rfl⟩, ⟨rfl, rfl⟩, ⟨rfl, rfl⟩, trivial⟩, ⟨z70 rfl rfl, z57 rfl (z4 fun _ => rfl), z57 rfl (z4 fun _ => rfl), trivial⟩⟩
        · repeat' ((first|(apply AWP.go ok;rfl)|(apply z35;kernel_rfl)|(refine z80 (i := k) rfl g1 ?_)|(refine z80 (i := k) rfl g2 ?_)|(refine z80 (i := k) rfl g3 ?_)|(apply And.intro;first|omega|(unfold inI;omega)|(dsimp only;omega)|((try dsimp only);simp only [List.length_map, List.length_take, List.length_append, List.length_replicate, List.length_cons, List.length_nil];omega)|exact z6 (fun _ => rfl)|exact ⟨rfl, z13 rfl z19⟩|exact ⟨rfl, z6 (fun _ => rfl) _⟩|exact ⟨⟨rfl, by omega⟩, z6 (fun _ => rfl) _⟩|(unfold z30;omega)|(simp only [z49] at *;first|omega|(unfold inI;omega)|(unfold z30;omega)))|((first|(with_reducible apply z9;omega)|(with_reducible apply z20;omega)|(apply z9;omega));intro _)|(apply z21;omega)|apply z28|(apply z27;omega;intro _)|((first|apply z26|apply z18|apply z25|apply z36|apply z16|apply z11|apply z17|apply z24) <;> intro _)) <;> conv => whnf)
          all_goals first|(exfalso;omega)|(exfalso;simp_all;done)|skip
          all_goals exact z105 (k + 1, c, S') [0, 1, 2] ⟨by dsimp only;omega, hw', same hcase, hc2, hle, hb1⟩ (by dsimp only;omega) ⟨rfl, by decide, rfl, ⟨⟨rfl, rfl⟩, ⟨rfl, rfl⟩, ⟨rfl, rfl⟩, ⟨rfl, rfl⟩, ⟨rfl, rfl⟩, ⟨rfl, rfl⟩, ⟨rfl, rfl⟩, trivial⟩, ⟨z70 rfl rfl, z57 rfl (z4 fun _ => rfl), z57 rfl (z4 fun _ => rfl), trivial⟩⟩
        · repeat' ((first|(apply AWP.go ok;rfl)|(apply z35;kernel_rfl)|(refine z80 (i := k) rfl g1 ?_)|(refine z80 (i := k) rfl g2 ?_)|(refine z80 (i := k) rfl g3 ?_)|(apply And.intro;first|omega|(unfold inI;omega)|(dsimp only;omega)|((try dsimp only);simp only [List.length_map, List.length_take, List.length_append, List.length_replicate, List.length_cons, List.length_nil];omega)|exact z6 (fun _ => rfl)|exact ⟨rfl, z13 rfl z19⟩|exact ⟨rfl, z6 (fun _ => rfl) _⟩|exact ⟨⟨rfl, by omega⟩, z6 (fun _ => rfl) _⟩|(unfold z30;omega)|(simp only [z49] at *;first|omega|(unfold inI;omega)|(unfold z30;omega)))|((first|(with_reducible apply z9;omega)|(with_reducible apply z20;omega)|(apply z9;omega));intro _)|(apply z21;omega)|apply z28|(apply z27;omega;intro _)|((first|apply z26|apply z18|apply z25|apply z36|apply z16|apply z11|apply z17|apply z24) <;> intro _)) <;> conv => whnf)
          all_goals first|(exfalso;omega)|(exfalso;simp_all;done)|skip
          all_goals exact z105 (k + 1, c, S') [0, 1, 2] ⟨by dsimp only;omega, hw', same hcase, hc2, hle, hb1⟩ (by dsimp only;omega) ⟨rfl, by decide, rfl, ⟨⟨rfl, rfl⟩, ⟨rfl, rfl⟩, ⟨rfl, rfl⟩, ⟨rfl, rfl⟩, ⟨rfl, rfl⟩, ⟨rfl, rfl⟩, ⟨rfl, rfl⟩, trivial⟩, ⟨z70 rfl rfl, z57 rfl (z4 fun _ => rfl), z57 rfl (z4 fun _ => rfl), trivial⟩⟩
        · repeat' ((first|(apply AWP.go ok;rfl)|(apply z35;kernel_rfl)|(refine z80 (i := k) rfl g1 ?_)|(refine z80 (i := k) rfl g2 ?_)|(refine z80 (i := k) rfl g3 ?_)|(apply And.intro;first|omega|(unfold inI;omega)|(dsimp only;omega)|((try dsimp only);simp only [List.length_map, List.length_take, List.length_append, List.length_replicate, List.length_cons, List.length_nil];omega)|exact z6 (fun _ => rfl)|exact ⟨rfl, z13 rfl z19⟩|exact ⟨rfl, z6 (fun _ => rfl) _⟩|exact ⟨⟨rfl, by omega⟩, z6 (fun _ => rfl) _⟩|(unfold z30;omega)|(simp only [z49] at *;first|omega|(unfold inI;omega)|(unfold z30;omega)))|((first|(with_reducible apply z9;omega)|(with_reducible apply z20;omega)|(apply z9;omega));intro _)|(apply z21;omega)|apply z28|(apply z27;omega;intro _)|((first|apply z26|apply z18|apply z25|apply z36|apply z16|apply z11|apply z17|apply z24) <;> intro _)) <;> conv => whnf)
          all_goals first|(exfalso;omega)|(exfalso;simp_all;done)|skip
          all_goals exact z105 (k + 1, c, S') [0, 1, 2] ⟨by dsimp only;omega, hw', same hcase, hc2, hle, hb1⟩ (by dsimp only;omega) ⟨rfl, by decide, rfl, ⟨⟨rfl, rfl⟩, ⟨rfl, rfl⟩, ⟨rfl, rfl⟩, ⟨rfl, rfl⟩, ⟨rfl, rfl⟩, ⟨rfl, rfl⟩, ⟨rfl, rfl⟩, trivial⟩, ⟨z70 rfl rfl, z57 rfl (z4 fun _ => rfl), z57 rfl (z4 fun _ => rfl), trivial⟩⟩
    · repeat' ((first|(apply AWP.go ok;rfl)|(apply z35;kernel_rfl)|(apply And.intro;first|omega|(unfold inI;omega)|(dsimp only;omega)|((try dsimp only);simp only [List.length_map, List.length_take, List.length_append, List.length_replicate, List.length_cons, List.length_nil];omega)|exact z6 (fun _ => rfl)|exact ⟨rfl, z13 rfl z19⟩|exact ⟨rfl, z6 (fun _ => rfl) _⟩|exact ⟨⟨rfl, by omega⟩, z6 (fun _ => rfl) _⟩|(unfold z30;omega)|(simp only [z49] at *;first|omega|(unfold inI;omega)|(unfold z30;omega)))|((first|(with_reducible apply z9;omega)|(with_reducible apply z20;omega)|(apply z9;omega));intro _)|(apply z21;omega)|apply z28|(apply z27;omega;intro _)|((first|apply z26|apply z18|apply z25|apply z36|apply z16|apply z11|apply z17|apply z24) <;> intro _)) <;> conv => whnf)
      all_goals first|(exfalso;omega)|skip
      refine z105 (c, S') [0, 1] ⟨hw', fun hc i hi => ?_, hb1⟩ ?_ ⟨rfl, by decide, rfl, ⟨⟨rfl, rfl⟩, ⟨rfl, rfl⟩, ⟨rfl, rfl⟩, ⟨rfl, rfl⟩, ⟨rfl, rfl⟩, trivial⟩, ⟨z70 rfl rfl, z57 rfl (z4 fun _ => rfl), trivial⟩⟩
      · dsimp only at hc ⊢
        rw [(hc1 hc).1];exact (hc1 hc).2 i (by omega)
      · dsimp only
        cases c
        · rw [(hc1 rfl).1];simp
        · have := hc2 rfl;simp;omega
set_option maxHeartbeats 1600000 in
theorem z277 (g : Graph) (hG : GB g) (a : List Bool) (ha : a.length = g.st.length) (ev : Bool) : CallsA Tryz.prog 146 [.agg g.cs, lst 1 enB a, .bool ev] [] (.sref 0 0 g.st.length) [.cells 1 ((lim true (alH g.nx ev a) g.st.length).map enB)] := by
  have h60 := hG.1.2
  have hm : z381 true (alH g.nx ev a) g.st.length := z248 (s := true) hG.inN a
  have cn := fun (S : List Bool) (hS : S.length = g.st.length) => z212 g hG S hS ev
  have hnl := fun (S : List Bool) => z549 g.nx ev g.st.length S
  have hng := fun (S : List Bool) => z596 g.nx ev g.st.length S
  have w0 : Gl.Way true (alH g.nx ev a) g.st.length a := Way.now ha
  generalize hN : g.st.length = N at *
  generalize hHe : alH g.nx ev a = H at *
  refine z58 z82 Tryz.func146 rfl rfl 40 Tryz.ntmps146 (by simp) ?_
  repeat' ((first|(apply AWP.go ok;rfl)|(apply z35;kernel_rfl)|(apply And.intro;first|omega|(unfold inI;omega)|(dsimp only;omega)|((try dsimp only);simp only [List.length_map, List.length_take, List.length_append, List.length_replicate, List.length_cons, List.length_nil];omega)|exact z6 (fun _ => rfl)|exact ⟨rfl, z13 rfl z19⟩|exact ⟨rfl, z6 (fun _ => rfl) _⟩|exact ⟨⟨rfl, by omega⟩, z6 (fun _ => rfl) _⟩|(unfold z30;omega)|(simp only [z49] at *;first|omega|(unfold inI;omega)|(unfold z30;omega)))|((first|(with_reducible apply z9;omega)|(with_reducible apply z20;omega)|(apply z9;omega));intro _)|(apply z21;omega)|apply z28|(apply z27;omega;intro _)|((first|apply z26|apply z18|apply z25|apply z36|apply z16|apply z11|apply z17|apply z24) <;> intro _)) <;> conv => whnf)
  refine z116 (fun x : Bool × List Bool => ([(2, .bool ev), (3, .ptr 0 none 0), (7, .sref 1 0 N), (8, .bool x.1)], [.cells 2 [[lst 2 State.cs g.st, lst 1 encL g.nx]], .cells 1 (x.2.map enB)])) (fun x => Gl.Way true H N x.2 ∧ (x.1 = false → ∀ i, i < N → H i x.2 = gB x.2 i) ∧ ∀ i, i < N → gB x.2 i = true → gB a i = true) (fun x => 2 * cntS true x.2 + (if x.1 then 1 else 0)) (true, a) ⟨w0, fun h => (by dsimp only at h;cases h), fun i _ h => h⟩ ⟨[0, 2], rfl, by decide, rfl, ⟨⟨rfl, rfl⟩, ⟨rfl, rfl⟩, ⟨rfl, by rw [← ha];exact congrArg (AC.sref 2 0) (Nat.zero_add _)⟩, ⟨rfl, rfl⟩, trivial⟩, ⟨z70 rfl rfl, z57 rfl (z4 fun _ => rfl), trivial⟩⟩ ?_
  rintro ⟨ch, S⟩ ⟨hw, hfx, hb0⟩
  dsimp only at hw hfx hb0 ⊢
  have hSl := hw.len
  cases ch
  · have hR := hw.ends (hfx rfl)
    repeat' ((first|(apply AWP.go ok;rfl)|(apply z35;kernel_rfl)|(apply And.intro;first|omega|(unfold inI;omega)|(dsimp only;omega)|((try dsimp only);simp only [List.length_map, List.length_take, List.length_append, List.length_replicate, List.length_cons, List.length_nil];omega)|exact z6 (fun _ => rfl)|exact ⟨rfl, z13 rfl z19⟩|exact ⟨rfl, z6 (fun _ => rfl) _⟩|exact ⟨⟨rfl, by omega⟩, z6 (fun _ => rfl) _⟩|(unfold z30;omega)|(simp only [z49] at *;first|omega|(unfold inI;omega)|(unfold z30;omega)))|((first|(with_reducible apply z9;omega)|(with_reducible apply z20;omega)|(apply z9;omega));intro _)|(apply z21;omega)|apply z28|(apply z27;omega;intro _)|((first|apply z26|apply z18|apply z25|apply z36|apply z16|apply z11|apply z17|apply z24) <;> intro _)) <;> conv => whnf)
    all_goals first|(exfalso;simp_all;done)|skip
    rw [z485 hR]
    exact z91 [1] (by decide) rfl rfl rfl ⟨z57 rfl (z4 fun _ => rfl), trivial⟩
  · have c1 := cn S hSl
    repeat' ((first|(apply AWP.go ok;rfl)|(apply z35;kernel_rfl)|(apply And.intro;first|omega|(unfold inI;omega)|(dsimp only;omega)|((try dsimp only);simp only [List.length_map, List.length_take, List.length_append, List.length_replicate, List.length_cons, List.length_nil];omega)|exact z6 (fun _ => rfl)|exact ⟨rfl, z13 rfl z19⟩|exact ⟨rfl, z6 (fun _ => rfl) _⟩|exact ⟨⟨rfl, by omega⟩, z6 (fun _ => rfl) _⟩|(unfold z30;omega)|(simp only [z49] at *;first|omega|(unfold inI;omega)|(unfold z30;omega)))|((first|(with_reducible apply z9;omega)|(with_reducible apply z20;omega)|(apply z9;omega));intro _)|(apply z21;omega)|apply z28|(apply z27;omega;intro _)|((first|apply z26|apply z18|apply z25|apply z36|apply z16|apply z11|apply z17|apply z24) <;> intro _)|((first|(apply z29 [] [1] [2] (c1);(focus (exact z93 rfl (z93 (z206 rfl rfl rfl hSl) rfl)));(focus ((repeat' first|exact z15|apply z12) <;> first|rfl|(refine z22 rfl ?_;(first|exact z4 fun _ => rfl|exact z10|exact z5 rfl|(apply z7 <;> exact z4 fun _ => rfl)|assumption))))));rfl;rfl;rfl;rfl;rfl;(focus ((repeat' first|exact z66|apply z56) <;> first|exact z68|exact z71 rfl rfl|(refine z67 ?_;(first|exact z4 fun _ => rfl|exact z10|exact z5 rfl|(apply z7 <;> exact z4 fun _ => rfl)|assumption))));(first|exact .inl rfl|(refine .inr ⟨rfl, ?_⟩;repeat' first|exact True.intro|apply And.intro|exact rfl|exact z39 (fun _ => rfl) _)))) <;> conv => whnf)
    all_goals first|(exfalso;simp_all;done)|skip
    refine z116 (fun y : Nat × Bool × List Bool => ([(2, .bool ev), (3, .ptr 0 none 0), (7, .sref 1 0 N), (8, .bool y.2.1), (9, .sref 2 0 N), (10, .int y.1)], [.cells 2 [[lst 2 State.cs g.st, lst 1 encL g.nx]], .cells 1 (y.2.2.map enB), .cells 1 ((nxL g.nx ev N S).map enB)])) (fun y => y.1 ≤ N ∧ Gl.Way true H N y.2.2 ∧ (y.2.1 = false → y.2.2 = S ∧ ∀ i, i < y.1 → H i S = gB S i) ∧ (y.2.1 = true → cntS true y.2.2 + 1 ≤ cntS true S) ∧ (∀ j, j < N → ordB true (gB S j) (gB y.2.2 j)) ∧ ∀ i, i < N → gB y.2.2 i = true → gB a i = true) (fun y => N - y.1) (0, false, S) ⟨by dsimp only;omega, hw, fun _ => ⟨rfl, fun i hi => by dsimp only at hi;omega⟩, fun h => (by dsimp only at h;cases h), fun j _ => ordB.refl _ _, hb0⟩ ⟨[0, 1, 2], rfl, by decide, rfl, ⟨⟨rfl, rfl⟩, ⟨rfl, rfl⟩, ⟨rfl, rfl⟩, ⟨rfl, rfl⟩, ⟨rfl, rfl⟩, ⟨rfl, rfl⟩, trivial⟩, ⟨z70 rfl rfl, z57 rfl (z4 fun _ => rfl), z57 rfl (z4 fun _ => rfl), trivial⟩⟩ ?_
    rintro ⟨k, c, S'⟩ ⟨hk1, hw', hc1, hc2, hle, hb1⟩
    dsimp only at hk1 hw' hc1 hc2 hle hb1 ⊢
    have hSl' := hw'.len
    by_cases hkN : k < N
    · have g1 := z121 (S := S') (i := k) (by omega)
      have g2 := z121 (S := a) (i := k) (by omega)
      have g3 := z121 (S := nxL g.nx ev N S) (i := k) (by rw [hnl];omega)
      rw [hng S k hkN] at g3
      have same : (gB S' k = gB S k → H k S = gB S k) → c = false → S' = S ∧ ∀ i, i < k + 1 → H i S = gB S i := fun hh hc => by
        obtain ⟨e1, e2⟩ := hc1 hc
        refine ⟨e1, fun i hi => ?_⟩
        rcases Nat.lt_or_ge i k with h3|h3
        · exact e2 i h3
        · obtain rfl : i = k := by omega
          exact hh (by rw [e1])
      have hp := hw.post k hkN
      by_cases he : gB S' k = true ∧ nxB g.nx ev k S = false
      · have hst := hw'.step hm hSl hle hkN (i := k) (by rw [← hHe];unfold alH;rw [hb0 k hkN (by rcases hle k hkN with e|e <;> first|exact e|(rw [e];exact he.1)), he.2];rfl) he.1
        have hcn := hst.2.1
        obtain ⟨he1, he3⟩ := he
        rw [he1] at g1
        rw [he3] at g3
        repeat' ((first|(apply AWP.go ok;rfl)|(apply z35;kernel_rfl)|(refine z80 (i := k) rfl g1 ?_)|(refine z80 (i := k) rfl g2 ?_)|(refine z80 (i := k) rfl g3 ?_)|(apply And.intro;first|omega|(unfold inI;omega)|(dsimp only;omega)|((try dsimp only);simp only [List.length_map, List.length_take, List.length_append, List.length_replicate, List.length_cons, List.length_nil];omega)|exact z6 (fun _ => rfl)|exact ⟨rfl, z13 rfl z19⟩|exact ⟨rfl, z6 (fun _ => rfl) _⟩|exact ⟨⟨rfl, by omega⟩, z6 (fun _ => rfl) _⟩|(unfold z30;omega)|(simp only [z49] at *;first|omega|(unfold inI;omega)|(unfold z30;omega)))|((first|(with_reducible apply z9;omega)|(with_reducible apply z20;omega)|(apply z9;omega));intro _)|(apply z21;omega)|apply z28|(apply z27;omega;intro _)|((first|apply z26|apply z18|apply z25|apply z36|apply z16|apply z11|apply z17|apply z24) <;> intro _)) <;> conv => whnf)
        all_goals first|(exfalso;omega)|(exfalso;simp_all;done)|skip
        all_goals
          refine z105 (k + 1, true, S'.set k (!true)) [0, 1, 2] ⟨by dsimp only;omega, hst.1, (fun hc => by dsimp only at hc;cases hc), fun _ => ?_, hst.2.2, fun i hi h => ?_⟩ (by dsimp only;omega) ⟨rfl, by decide, rfl, ⟨⟨rfl, rfl⟩, ⟨rfl, rfl⟩, ⟨rfl, rfl⟩, ⟨rfl, rfl⟩, ⟨rfl, rfl⟩, ⟨rfl, rfl⟩, trivial⟩, ⟨z70 rfl rfl, z57 (z84 (by rw [List.map_set];rfl)) (z4 fun _ => rfl), z57 rfl (z4 fun _ => rfl), trivial⟩⟩
          · dsimp only
            cases c
            · rw [(hc1 rfl).1] at hcn ⊢;omega
            · have := hc2 rfl;omega
          · dsimp only at h
            rw [z409 (by omega)] at h
            split at h
            · cases h
            · exact hb1 i hi h
      · have hcase : gB S' k = gB S k → H k S = gB S k := fun e => by
          cases hs : gB S k
          · rw [hs] at hp
            rcases hp with e|e
            · exact e.symm
            · cases e
          · have hb := hb0 k hkN hs
            rw [← hHe];unfold alH
            rw [hb]
            cases h2 : nxB g.nx ev k S <;> first|rfl|(exfalso;exact he ⟨by rw [e, hs], h2⟩)
        generalize gB S' k = p at *
        generalize nxB g.nx ev k S = r at *
        clear c1
        cases p <;> cases r <;> first|(exfalso;exact he ⟨rfl, rfl⟩)|skip
        · repeat' ((first|(apply AWP.go ok;rfl)|(apply z35;kernel_rfl)|(refine z80 (i := k) rfl g1 ?_)|(refine z80 (i := k) rfl g2 ?_)|(refine z80 (i := k) rfl g3 ?_)|(apply And.intro;first|omega|(unfold inI;omega)|(dsimp only;omega)|((try dsimp only);simp only [List.length_map, List.length_take, List.length_append, List.length_replicate, List.length_cons, List.length_nil];omega)|exact z6 (fun _ => rfl)|exact ⟨rfl, z13 rfl z19⟩|exact ⟨rfl, z6 (fun _ => rfl) _⟩|exact ⟨⟨rfl, by omega⟩, z6 (fun _ => rfl) _⟩|(unfold z30;omega)|(simp only [z49] at *;first|omega|(unfold inI;omega)|(unfold z30;omega)))|((first|(with_reducible apply z9;omega)|(with_reducible apply z20;omega)|(apply z9;omega));intro _)|(apply z21;omega)|apply z28|(apply z27;omega;intro _)|((first|apply z26|apply z18|apply z25|apply z36|apply z16|apply z11|apply z17|apply z24) <;> intro _)) <;> conv => whnf)
          all_goals first|(exfalso;omega)|(exfalso;simp_all;done)|skip
          all_goals exact z105 (k + 1, c, S') [0, 1, 2] ⟨by dsimp only;omega, hw', same hcase, hc2, hle, hb1⟩ (by dsimp only;omega) ⟨rfl, by decide, rfl, ⟨⟨rfl, rfl⟩, ⟨rfl, rfl⟩, ⟨rfl, rfl⟩, ⟨rfl, rfl⟩, ⟨rfl, rfl⟩, ⟨rfl, rfl⟩, trivial⟩, ⟨z70 rfl rfl, z57 rfl (z4 fun _ => rfl), z57 rfl (z4 fun _ => rfl), trivial⟩⟩
        · repeat' ((first|(apply AWP.go ok;rfl)|(apply z35;kernel_rfl)|(refine z80 (i := k) rfl g1 ?_)|(refine z80 (i := k) rfl g2 ?_)|(refine z80 (i := k) rfl g3 ?_)|(apply And.intro;first|omega|(unfold inI;omega)|(dsimp only;omega)|((try dsimp only);simp only [List.length_map, List.length_take, List.length_append, List.length_replicate, List.length_cons, List.length_nil];omega)|exact z6 (fun _ => rfl)|exact ⟨rfl, z13 rfl z19⟩|exact ⟨rfl, z6 (fun _ => rfl) _⟩|exact ⟨⟨rfl, by omega⟩, z6 (fun _ => rfl) _⟩|(unfold z30;omega)|(simp only [z49] at *;first|omega|(unfold inI;omega)|(unfold z30;omega)))|((first|(with_reducible apply z9;omega)|(with_reducible apply z20;omega)|(apply z9;omega));intro _)|(apply z21;omega)|apply z28|(apply z27;omega;intro _)|((first|apply z26|apply z18|apply z25|apply z36|apply z16|apply z11|apply z17|apply z24) <;> intro _)) <;> conv => whnf)
          all_goals first|(exfalso;omega)|(exfalso;simp_all;done)|skip
          all_goals exact z105 (k + 1, c, S') [0, 1, 2] ⟨by dsimp only;omega, hw', same hcase, hc2, hle, hb1⟩ (by dsimp only;omega) ⟨rfl, by decide, rfl, ⟨⟨rfl, rfl⟩, ⟨rfl, rfl⟩, ⟨rfl, rfl⟩, ⟨rfl, rfl⟩, ⟨rfl, rfl⟩, ⟨rfl, rfl⟩, trivial⟩, ⟨z70 rfl rfl, z57 rfl (z4 fun _ => rfl), z57 rfl (z4 fun _ => rfl), trivial⟩⟩
        · repeat' ((first|(apply AWP.go ok;rfl)|(apply z35;kernel_rfl)|(refine z80 (i := k) rfl g1 ?_)|(refine z80 (i := k) rfl g2 ?_)|(refine z80 (i := k) rfl g3 ?_)|(apply And.intro;first|omega|(unfold inI;omega)|(dsimp only;omega)|((try dsimp only);simp only [List.length_map, List.length_take, List.length_append, List.length_replicate, List.length_cons, List.length_nil];omega)|exact z6 (fun _ => rfl)|exact ⟨rfl, z13 rfl z19⟩|exact ⟨rfl, z6 (fun _ => rfl) _⟩|exact ⟨⟨rfl, by omega⟩, z6 (fun _ => rfl) _⟩|(unfold z30;omega)|(simp only [z49] at *;first|omega|(unfold inI;omega)|(unfold z30;omega)))|((first|(with_reducible apply z9;omega)|(with_reducible apply z20;omega)|(apply z9;omega));intro _)|(apply z21;omega)|apply z28|(apply z27;omega;intro _)|((first|apply z26|apply z18|apply z25|apply z36|apply z16|apply z11|apply z17|apply z24) <;> intro _)) <;> conv => whnf)
          all_goals first|(exfalso;omega)|(exfalso;simp_all;done)|skip
          all_goals exact z105 (k + 1, c, S') [0, 1, 2] ⟨by dsimp only;omega, hw', same hcase, hc2, hle, hb1⟩ (by dsimp only;omega) ⟨rfl, by decide, rfl, ⟨⟨rfl, rfl⟩, ⟨rfl, rfl⟩, ⟨rfl, rfl⟩, ⟨rfl, rfl⟩, ⟨rfl, rfl⟩, ⟨rfl, rfl⟩, trivial⟩, ⟨z70 rfl rfl, z57 rfl (z4 fun _ => rfl), z57 rfl (z4 fun _ => rfl), trivial⟩⟩
    · repeat' ((first|(apply AWP.go ok;rfl)|(apply z35;kernel_rfl)|(apply And.intro;first|omega|(unfold inI;omega)|(dsimp only;omega)|((try dsimp only);simp only [List.length_map, List.length_take, List.length_append, List.length_replicate, List.length_cons, List.length_nil];omega)|exact z6 (fun _ => rfl)|exact ⟨rfl, z13 rfl z19⟩|exact ⟨rfl, z6 (fun _ => rfl) _⟩|exact ⟨⟨rfl, by omega⟩, z6 (fun _ => rfl) _⟩|(unfold z30;omega)|(simp only [z49] at *;first|omega|(unfold inI;omega)|(unfold z30;omega)))|((first|(with_reducible apply z9;omega)|(with_reducible apply z20;omega)|(apply z9;omega));intro _)|(apply z21;omega)|apply z28|(apply z27;omega;intro _)|((first|apply z26|apply z18|apply z25|apply z36|apply z16|apply z11|apply z17|apply z24) <;> intro _)) <;> conv => whnf)
      all_goals first|(exfalso;omega)|skip
      refine z105 (c, S') [0, 1] ⟨hw', fun hc i hi => ?_, hb1⟩ ?_ ⟨rfl, by decide, rfl, ⟨⟨rfl, rfl⟩, ⟨rfl, rfl⟩, ⟨rfl, rfl⟩, ⟨rfl, rfl⟩, trivial⟩, ⟨z70 rfl rfl, z57 rfl (z4 fun _ => rfl), trivial⟩⟩
      · dsimp only at hc ⊢
        rw [(hc1 hc).1];exact (hc1 hc).2 i (by omega)
      · dsimp only
        cases c
        · rw [(hc1 rfl).1];simp
        · have := hc2 rfl;simp;omega
end Go.Proofs.YtppafngcahgagaaGreat

namespace Go.Proofs.YtppafngcahgagaaGreat
open Go.Gl
attribute [local irreducible] z85 AWP z100 z108 z104
theorem l6Has_ok (x a : Int) (h0 : 0 ≤ x) (h1 : x ≤ 7) (h2 : 0 ≤ a) (h3 : a ≤ 2) : CallsA Tryz.prog 147 [.int x, .int a] [] (.bool (hasB x a)) [] := by
  have h5 : 0 ≤ x / 2 ^ a.toNat ∧ x / 2 ^ a.toNat ≤ 7 := by
    have : a = 0 ∨ a = 1 ∨ a = 2 := by omega
    rcases this with rfl|rfl|rfl <;> simp <;> omega
  have hw : IntKind.u64.wrap a = a := by
    have : a = 0 ∨ a = 1 ∨ a = 2 := by omega
    rcases this with rfl|rfl|rfl <;> decide
  refine z58 z82 Tryz.func147 rfl rfl 11 Tryz.ntmps147 (by simp) ?_
  repeat' ((first|(apply AWP.go ok;rfl)|(apply z35;kernel_rfl)|(apply And.intro;first|omega|(unfold inI;omega)|(dsimp only;omega)|((try dsimp only);simp only [List.length_map, List.length_take, List.length_append, List.length_replicate, List.length_cons, List.length_nil];omega)|exact z6 (fun _ => rfl)|exact ⟨rfl, z13 rfl z19⟩|exact ⟨rfl, z6 (fun _ => rfl) _⟩|exact ⟨⟨rfl, by omega⟩, z6 (fun _ => rfl) _⟩|(unfold z30;omega)|(simp only [z49] at *;first|omega|(unfold inI;omega)|(unfold z30;omega)))|((first|(with_reducible apply z9;omega)|(with_reducible apply z20;omega)|(apply z9;omega));intro _)|(apply z21;omega)|apply z28|(apply z27;omega;intro _)|((first|apply z26|apply z18|apply z25|apply z36|apply z16|apply z11|apply z17|apply z24) <;> intro _)) <;> conv => whnf)
  all_goals first|(exact z81 rfl rfl)|skip
theorem sat1_ok (i : Int) : CallsA Tryz.prog 127 [.int i] [] (.bool true) [] := by
  refine z58 z82 Tryz.func127 rfl rfl 3 Tryz.ntmps127 (by simp) ?_
  repeat' ((first|(apply AWP.go ok;rfl)|(apply z35;kernel_rfl)|(apply And.intro;first|omega|(unfold inI;omega)|(dsimp only;omega)|((try dsimp only);simp only [List.length_map, List.length_take, List.length_append, List.length_replicate, List.length_cons, List.length_nil];omega)|exact z6 (fun _ => rfl)|exact ⟨rfl, z13 rfl z19⟩|exact ⟨rfl, z6 (fun _ => rfl) _⟩|exact ⟨⟨rfl, by omega⟩, z6 (fun _ => rfl) _⟩|(unfold z30;omega)|(simp only [z49] at *;first|omega|(unfold inI;omega)|(unfold z30;omega)))|((first|(with_reducible apply z9;omega)|(with_reducible apply z20;omega)|(apply z9;omega));intro _)|(apply z21;omega)|apply z28|(apply z27;omega;intro _)|((first|apply z26|apply z18|apply z25|apply z36|apply z16|apply z11|apply z17|apply z24) <;> intro _)) <;> conv => whnf)
  exact z81 rfl rfl
theorem sat6_ok (L : List Int) (k v : Int) (x : AC) (i : Nat) (hi : i < L.length) (hl : L.length ≤ 1048576) (h0 : 0 ≤ L.getD i 0) (h1 : L.getD i 0 ≤ 7) (h2 : 0 ≤ v) (h3 : v ≤ 2) : CallsA Tryz.prog 133 [.int i, .pt [ints L], .pt [.int k, .int v, x]] [] (.bool (hasB (L.getD i 0) v)) [] := by
  have g1 : (L.map enI)[i]? = some (enI (L.getD i 0)) := by rw [z107 hi, List.getElem?_map, List.getElem?_eq_getElem hi];rfl
  generalize L.getD i 0 = y at *
  have h5 : 0 ≤ y / 2 ^ v.toNat ∧ y / 2 ^ v.toNat ≤ 7 := by
    have : v = 0 ∨ v = 1 ∨ v = 2 := by omega
    rcases this with rfl|rfl|rfl <;> simp <;> omega
  refine z58 z82 Tryz.func133 rfl rfl 14 Tryz.ntmps133 (by simp) ?_
  repeat' ((first|(apply AWP.go ok;rfl)|(apply z35;kernel_rfl)|(refine z80 (i := i) rfl g1 ?_)|(apply And.intro;first|omega|(unfold inI;omega)|(dsimp only;omega)|((try dsimp only);simp only [List.length_map, List.length_take, List.length_append, List.length_replicate, List.length_cons, List.length_nil];omega)|exact z6 (fun _ => rfl)|exact ⟨rfl, z13 rfl z19⟩|exact ⟨rfl, z6 (fun _ => rfl) _⟩|exact ⟨⟨rfl, by omega⟩, z6 (fun _ => rfl) _⟩|(unfold z30;omega)|(simp only [z49] at *;first|omega|(unfold inI;omega)|(unfold z30;omega)))|((first|(with_reducible apply z9;omega)|(with_reducible apply z20;omega)|(apply z9;omega));intro _)|(apply z21;omega)|apply z28|(apply z27;omega;intro _)|((first|apply z26|apply z18|apply z25|apply z36|apply z16|apply z11|apply z17|apply z24) <;> intro _)) <;> conv => whnf)
  all_goals first|(exact z81 rfl rfl)|skip
theorem sat2_ok (g : Graph) (hG : GB g) (a b : List Bool) (ha : a.length = g.st.length) (hb : b.length = g.st.length) (i : Nat) (S : List Bool) (hi : i < g.st.length) (hS : S.length = g.st.length) : CallsA Tryz.prog 128 [.int i, lst 1 enB S, .pt [lst 1 encBL [a, b]], .pt g.cs] [] (.bool (unH g.nx false a b i S)) [] := by
  have h60 := hG.1.2
  have g1 := z121 (S := a) (i := i) (by omega)
  have g2 := z121 (S := b) (i := i) (by omega)
  have c1 := z424 g hG S hS i hi
  unfold unH
  generalize gB a i = p at *
  generalize gB b i = q at *
  refine z58 z82 Tryz.func128 rfl rfl 27 Tryz.ntmps128 (by simp) ?_
  cases p <;> cases q
  all_goals
    repeat' ((first|(apply AWP.go ok;rfl)|(apply z35;kernel_rfl)|(refine z80 (i := 0) rfl rfl ?_)|(refine z80 (i := 1) rfl rfl ?_)|(refine z80 (i := i) rfl g1 ?_)|(refine z80 (i := i) rfl g2 ?_)|(apply And.intro;first|omega|(unfold inI;omega)|(dsimp only;omega)|((try dsimp only);simp only [List.length_map, List.length_take, List.length_append, List.length_replicate, List.length_cons, List.length_nil];omega)|exact z6 (fun _ => rfl)|exact ⟨rfl, z13 rfl z19⟩|exact ⟨rfl, z6 (fun _ => rfl) _⟩|exact ⟨⟨rfl, by omega⟩, z6 (fun _ => rfl) _⟩|(unfold z30;omega)|(simp only [z49] at *;first|omega|(unfold inI;omega)|(unfold z30;omega)))|((first|(with_reducible apply z9;omega)|(with_reducible apply z20;omega)|(apply z9;omega));intro _)|(apply z21;omega)|apply z28|(apply z27;omega;intro _)|((first|apply z26|apply z18|apply z25|apply z36|apply z16|apply z11|apply z17|apply z24) <;> intro _)|(apply z48 (c1);rfl;rfl)) <;> conv => whnf)
    all_goals first|(exfalso;omega)|exact z81 rfl rfl|exact z81 rfl (by simp)|skip
theorem sat3_ok (g : Graph) (hG : GB g) (a : List Bool) (ha : a.length = g.st.length) (i : Nat) (S : List Bool) (hi : i < g.st.length) (hS : S.length = g.st.length) : CallsA Tryz.prog 129 [.int i, lst 1 enB S, .pt [lst 1 encBL [a]], .pt g.cs] [] (.bool (alH g.nx false a i S)) [] := by
  have h60 := hG.1.2
  have g1 := z121 (S := a) (i := i) (by omega)
  have c1 := z424 g hG S hS i hi
  unfold alH
  generalize gB a i = p at *
  refine z58 z82 Tryz.func129 rfl rfl 19 Tryz.ntmps129 (by simp) ?_
  cases p
  all_goals
    repeat' ((first|(apply AWP.go ok;rfl)|(apply z35;kernel_rfl)|(refine z80 (i := 0) rfl rfl ?_)|(refine z80 (i := i) rfl g1 ?_)|(apply And.intro;first|omega|(unfold inI;omega)|(dsimp only;omega)|((try dsimp only);simp only [List.length_map, List.length_take, List.length_append, List.length_replicate, List.length_cons, List.length_nil];omega)|exact z6 (fun _ => rfl)|exact ⟨rfl, z13 rfl z19⟩|exact ⟨rfl, z6 (fun _ => rfl) _⟩|exact ⟨⟨rfl, by omega⟩, z6 (fun _ => rfl) _⟩|(unfold z30;omega)|(simp only [z49] at *;first|omega|(unfold inI;omega)|(unfold z30;omega)))|((first|(with_reducible apply z9;omega)|(with_reducible apply z20;omega)|(apply z9;omega));intro _)|(apply z21;omega)|apply z28|(apply z27;omega;intro _)|((first|apply z26|apply z18|apply z25|apply z36|apply z16|apply z11|apply z17|apply z24) <;> intro _)|(apply z48 (c1);rfl;rfl)) <;> conv => whnf)
    all_goals first|(exfalso;omega)|exact z81 rfl rfl|exact z81 rfl (by simp)|skip
theorem sat4_ok (g : Graph) (hG : GB g) (a b : List Bool) (ha : a.length = g.st.length) (hb : b.length = g.st.length) (i : Nat) (S : List Bool) (hi : i < g.st.length) (hS : S.length = g.st.length) : CallsA Tryz.prog 130 [.int i, lst 1 enB S, .pt [lst 1 encBL [a, b]], .pt g.cs] [] (.bool (unH g.nx true a b i S)) [] := by
  have h60 := hG.1.2
  have g1 := z121 (S := a) (i := i) (by omega)
  have g2 := z121 (S := b) (i := i) (by omega)
  have c1 := z440 g hG S hS i hi
  unfold unH
  generalize gB a i = p at *
  generalize gB b i = q at *
  refine z58 z82 Tryz.func130 rfl rfl 27 Tryz.ntmps130 (by simp) ?_
  cases p <;> cases q
  all_goals
    repeat' ((first|(apply AWP.go ok;rfl)|(apply z35;kernel_rfl)|(refine z80 (i := 0) rfl rfl ?_)|(refine z80 (i := 1) rfl rfl ?_)|(refine z80 (i := i) rfl g1 ?_)|(refine z80 (i := i) rfl g2 ?_)|(apply And.intro;first|omega|(unfold inI;omega)|(dsimp only;omega)|((try dsimp only);simp only [List.length_map, List.length_take, List.length_append, List.length_replicate, List.length_cons, List.length_nil];omega)|exact z6 (fun _ => rfl)|exact ⟨rfl, z13 rfl z19⟩|exact ⟨rfl, z6 (fun _ => rfl) _⟩|exact ⟨⟨rfl, by omega⟩, z6 (fun _ => rfl) _⟩|(unfold z30;omega)|(simp only [z49] at *;first|omega|(unfold inI;omega)|(unfold z30;omega)))|((first|(with_reducible apply z9;omega)|(with_reducible apply z20;omega)|(apply z9;omega));intro _)|(apply z21;omega)|apply z28|(apply z27;omega;intro _)|((first|apply z26|apply z18|apply z25|apply z36|apply z16|apply z11|apply z17|apply z24) <;> intro _)|(apply z48 (c1);rfl;rfl)) <;> conv => whnf)
    all_goals first|(exfalso;omega)|exact z81 rfl rfl|exact z81 rfl (by simp)|skip
theorem sat5_ok (g : Graph) (hG : GB g) (a : List Bool) (ha : a.length = g.st.length) (i : Nat) (S : List Bool) (hi : i < g.st.length) (hS : S.length = g.st.length) : CallsA Tryz.prog 132 [.int i, lst 1 enB S, .pt [lst 1 encBL [a]], .pt g.cs] [] (.bool (alH g.nx true a i S)) [] := by
  have h60 := hG.1.2
  have g1 := z121 (S := a) (i := i) (by omega)
  have c1 := z440 g hG S hS i hi
  unfold alH
  generalize gB a i = p at *
  refine z58 z82 Tryz.func132 rfl rfl 19 Tryz.ntmps132 (by simp) ?_
  cases p
  all_goals
    repeat' ((first|(apply AWP.go ok;rfl)|(apply z35;kernel_rfl)|(refine z80 (i := 0) rfl rfl ?_)|(refine z80 (i := i) rfl g1 ?_)|(apply And.intro;first|omega|(unfold inI;omega)|(dsimp only;omega)|((try dsimp only);simp only [List.length_map, List.length_take, List.length_append, List.length_replicate, List.length_cons, List.length_nil];omega)|exact z6 (fun _ => rfl)|exact ⟨rfl, z13 rfl z19⟩|exact ⟨rfl, z6 (fun _ => rfl) _⟩|exact ⟨⟨rfl, by omega⟩, z6 (fun _ => rfl) _⟩|(unfold z30;omega)|(simp only [z49] at *;first|omega|(unfold inI;omega)|(unfold z30;omega)))|((first|(with_reducible apply z9;omega)|(with_reducible apply z20;omega)|(apply z9;omega));intro _)|(apply z21;omega)|apply z28|(apply z27;omega;intro _)|((first|apply z26|apply z18|apply z25|apply z36|apply z16|apply z11|apply z17|apply z24) <;> intro _)|(apply z48 (c1);rfl;rfl)) <;> conv => whnf)
    all_goals first|(exfalso;omega)|exact z81 rfl rfl|exact z81 rfl (by simp)|skip
theorem sat7_ok (a : List Bool) (N : Nat) (hN : N ≤ 1048576) (ha : a.length = N) (i : Nat) (hi : i < N) : CallsA Tryz.prog 134 [.int i, .pt [lst 1 encBL [a]]] [] (.bool (!gB a i)) [] := by
  have g1 := z121 (S := a) (i := i) (by omega)
  refine z58 z82 Tryz.func134 rfl rfl 11 Tryz.ntmps134 (by simp) ?_
  repeat' ((first|(apply AWP.go ok;rfl)|(apply z35;kernel_rfl)|(refine z80 (i := 0) rfl rfl ?_)|(refine z80 (i := i) rfl g1 ?_)|(apply And.intro;first|omega|(unfold inI;omega)|(dsimp only;omega)|((try dsimp only);simp only [List.length_map, List.length_take, List.length_append, List.length_replicate, List.length_cons, List.length_nil];omega)|exact z6 (fun _ => rfl)|exact ⟨rfl, z13 rfl z19⟩|exact ⟨rfl, z6 (fun _ => rfl) _⟩|exact ⟨⟨rfl, by omega⟩, z6 (fun _ => rfl) _⟩|(unfold z30;omega)|(simp only [z49] at *;first|omega|(unfold inI;omega)|(unfold z30;omega)))|((first|(with_reducible apply z9;omega)|(with_reducible apply z20;omega)|(apply z9;omega));intro _)|(apply z21;omega)|apply z28|(apply z27;omega;intro _)|((first|apply z26|apply z18|apply z25|apply z36|apply z16|apply z11|apply z17|apply z24) <;> intro _)) <;> conv => whnf)
  all_goals first|(exfalso;omega)|exact z81 rfl rfl|skip
theorem sat8_ok (a b : List Bool) (N : Nat) (hN : N ≤ 1048576) (ha : a.length = N) (hb : b.length = N) (i : Nat) (hi : i < N) : CallsA Tryz.prog 135 [.int i, .pt [lst 1 encBL [a, b]]] [] (.bool (gB a i && gB b i)) [] := by
  have g1 := z121 (S := a) (i := i) (by omega)
  have g2 := z121 (S := b) (i := i) (by omega)
  generalize gB a i = p at *
  generalize gB b i = q at *
  refine z58 z82 Tryz.func135 rfl rfl 18 Tryz.ntmps135 (by simp) ?_
  cases p <;> cases q
  all_goals
    repeat' ((first|(apply AWP.go ok;rfl)|(apply z35;kernel_rfl)|(refine z80 (i := 0) rfl rfl ?_)|(refine z80 (i := 1) rfl rfl ?_)|(refine z80 (i := i) rfl g1 ?_)|(refine z80 (i := i) rfl g2 ?_)|(apply And.intro;first|omega|(unfold inI;omega)|(dsimp only;omega)|((try dsimp only);simp only [List.length_map, List.length_take, List.length_append, List.length_replicate, List.length_cons, List.length_nil];omega)|exact z6 (fun _ => rfl)|exact ⟨rfl, z13 rfl z19⟩|exact ⟨rfl, z6 (fun _ => rfl) _⟩|exact ⟨⟨rfl, by omega⟩, z6 (fun _ => rfl) _⟩|(unfold z30;omega)|(simp only [z49] at *;first|omega|(unfold inI;omega)|(unfold z30;omega)))|((first|(with_reducible apply z9;omega)|(with_reducible apply z20;omega)|(apply z9;omega));intro _)|(apply z21;omega)|apply z28|(apply z27;omega;intro _)|((first|apply z26|apply z18|apply z25|apply z36|apply z16|apply z11|apply z17|apply z24) <;> intro _)) <;> conv => whnf)
    all_goals first|(exfalso;omega)|exact z81 rfl rfl|skip
theorem sat9_ok (a b : List Bool) (N : Nat) (hN : N ≤ 1048576) (ha : a.length = N) (hb : b.length = N) (i : Nat) (hi : i < N) : CallsA Tryz.prog 136 [.int i, .pt [lst 1 encBL [a, b]]] [] (.bool (gB a i || gB b i)) [] := by
  have g1 := z121 (S := a) (i := i) (by omega)
  have g2 := z121 (S := b) (i := i) (by omega)
  generalize gB a i = p at *
  generalize gB b i = q at *
  refine z58 z82 Tryz.func136 rfl rfl 18 Tryz.ntmps136 (by simp) ?_
  cases p <;> cases q
  all_goals
    repeat' ((first|(apply AWP.go ok;rfl)|(apply z35;kernel_rfl)|(refine z80 (i := 0) rfl rfl ?_)|(refine z80 (i := 1) rfl rfl ?_)|(refine z80 (i := i) rfl g1 ?_)|(refine z80 (i := i) rfl g2 ?_)|(apply And.intro;first|omega|(unfold inI;omega)|(dsimp only;omega)|((try dsimp only);simp only [List.length_map, List.length_take, List.length_append, List.length_replicate, List.length_cons, List.length_nil];omega)|exact z6 (fun _ => rfl)|exact ⟨rfl, z13 rfl z19⟩|exact ⟨rfl, z6 (fun _ => rfl) _⟩|exact ⟨⟨rfl, by omega⟩, z6 (fun _ => rfl) _⟩|(unfold z30;omega)|(simp only [z49] at *;first|omega|(unfold inI;omega)|(unfold z30;omega)))|((first|(with_reducible apply z9;omega)|(with_reducible apply z20;omega)|(apply z9;omega));intro _)|(apply z21;omega)|apply z28|(apply z27;omega;intro _)|((first|apply z26|apply z18|apply z25|apply z36|apply z16|apply z11|apply z17|apply z24) <;> intro _)) <;> conv => whnf)
    all_goals first|(exfalso;omega)|exact z81 rfl rfl|skip
theorem sat10_ok (g : Graph) (hG : GB g) (a : List Bool) (ha : a.length = g.st.length) (i : Nat) (hi : i < g.st.length) : CallsA Tryz.prog 137 [.int i, .pt g.cs, .pt [lst 1 encBL [a]]] [] (.bool (nxB g.nx false i a)) [] := by
  have c1 := z424 g hG a ha i hi
  refine z58 z82 Tryz.func137 rfl rfl 11 Tryz.ntmps137 (by simp) ?_
  repeat' ((first|(apply AWP.go ok;rfl)|(apply z35;kernel_rfl)|(refine z80 (i := 0) rfl rfl ?_)|(apply And.intro;first|omega|(unfold inI;omega)|(dsimp only;omega)|((try dsimp only);simp only [List.length_map, List.length_take, List.length_append, List.length_replicate, List.length_cons, List.length_nil];omega)|exact z6 (fun _ => rfl)|exact ⟨rfl, z13 rfl z19⟩|exact ⟨rfl, z6 (fun _ => rfl) _⟩|exact ⟨⟨rfl, by omega⟩, z6 (fun _ => rfl) _⟩|(unfold z30;omega)|(simp only [z49] at *;first|omega|(unfold inI;omega)|(unfold z30;omega)))|((first|(with_reducible apply z9;omega)|(with_reducible apply z20;omega)|(apply z9;omega));intro _)|(apply z21;omega)|apply z28|(apply z27;omega;intro _)|((first|apply z26|apply z18|apply z25|apply z36|apply z16|apply z11|apply z17|apply z24) <;> intro _)|(apply z48 (c1);rfl;rfl)) <;> conv => whnf)
  all_goals first|(exfalso;omega)|exact z81 rfl rfl|skip
theorem sat11_ok (g : Graph) (hG : GB g) (a : List Bool) (ha : a.length = g.st.length) (i : Nat) (hi : i < g.st.length) : CallsA Tryz.prog 138 [.int i, .pt g.cs, .pt [lst 1 encBL [a]]] [] (.bool (nxB g.nx true i a)) [] := by
  have c1 := z440 g hG a ha i hi
  refine z58 z82 Tryz.func138 rfl rfl 11 Tryz.ntmps138 (by simp) ?_
  repeat' ((first|(apply AWP.go ok;rfl)|(apply z35;kernel_rfl)|(refine z80 (i := 0) rfl rfl ?_)|(apply And.intro;first|omega|(unfold inI;omega)|(dsimp only;omega)|((try dsimp only);simp only [List.length_map, List.length_take, List.length_append, List.length_replicate, List.length_cons, List.length_nil];omega)|exact z6 (fun _ => rfl)|exact ⟨rfl, z13 rfl z19⟩|exact ⟨rfl, z6 (fun _ => rfl) _⟩|exact ⟨⟨rfl, by omega⟩, z6 (fun _ => rfl) _⟩|(unfold z30;omega)|(simp only [z49] at *;first|omega|(unfold inI;omega)|(unfold z30;omega)))|((first|(with_reducible apply z9;omega)|(with_reducible apply z20;omega)|(apply z9;omega));intro _)|(apply z21;omega)|apply z28|(apply z27;omega;intro _)|((first|apply z26|apply z18|apply z25|apply z36|apply z16|apply z11|apply z17|apply z24) <;> intro _)|(apply z48 (c1);rfl;rfl)) <;> conv => whnf)
  all_goals first|(exfalso;omega)|exact z81 rfl rfl|skip
end Go.Proofs.YtppafngcahgagaaGreat

namespace Go.Proofs.YtppafngcahgagaaGreat
open Go.Gl
attribute [local irreducible] z85 AWP z100 z108 z104
theorem z696 {f : FuncId} {args : List AC} {n : Nat} {l : List Bool} (h : CallsA Tryz.prog f args [] (.sref 0 0 n) [.cells 1 (l.map enB)]) (hl : l.length = n) : CallsA Tryz.prog f args [] (lst 1 enB l) [] := by
  subst hl
  exact h.keep (z410 _) (by simp)
theorem z565 (ks : List (List Bool)) : z95 (ks.map encBL) = ks.map encBL := z336 (fun l x hx => by
  cases List.mem_singleton.1 hx
  rfl) ks
theorem bor_ptrB {objs : Nat → AObj} {π Bn : List Nat} {o w : Nat} {l : List (List Bool)} (ho : objs o = .cells w [[.own 1 (l.map encBL)]]) (h1 : idx π o = none) (h2 : inB Bn o = true) : bor objs π Bn (.ptr o none 0) = .pt [lst 1 encBL l] := by
  simp only [bor, h1, h2, ho]
  show AC.pt [AC.list 1 (l.map encBL).length (z95 (l.map encBL))] = _
  rw [z565, List.length_map];rfl
theorem z159 (R : List Bool) : (List.range R.length).map (fun j => enB (gB R j)) = R.map enB := by
  apply List.ext_getElem (by simp)
  intro i h1 h2
  have hi : i < R.length := by simpa using h2
  simp only [List.getElem_map, List.getElem_range]
  unfold gB
  rw [z107 hi]
theorem z151 (f : Nat → Bool) (n i : Nat) (h : i < n) : gB ((List.range n).map f) i = f i := by
  unfold gB
  rw [z107 (by simpa using h)];simp
theorem z371 {k : Int} {l : Nat} (h : (l : Int) = z162 k) : (k = 1 ∧ l = 0) ∨ (k = 2 ∧ l = 0) ∨ (k = 3 ∧ l = 1) ∨ (k = 4 ∧ l = 2) ∨ (k = 5 ∧ l = 2) ∨ (k = 6 ∧ l = 1) ∨ (k = 7 ∧ l = 2) ∨ (k = 8 ∧ l = 1) ∨ (k = 9 ∧ l = 1) ∨ (k = 10 ∧ l = 2) ∨ (k = 11 ∧ l = 1) := by
  unfold z162 at h
  split at h
  · omega
  split at h
  · omega
  split at h
  · omega
  · omega
theorem len1 {α : Type} {l : List α} (h : l.length = 1) : ∃ a, l = [a] := match l, h with
  | [a], _ => ⟨a, rfl⟩
theorem len2 {α : Type} {l : List α} (h : l.length = 2) : ∃ a b, l = [a, b] := match l, h with
  | [a, b], _ => ⟨a, b, rfl⟩
set_option maxHeartbeats 4000000 in
theorem z539 (g : Graph) (hG : GB g) (L : List Int) (hL : L.length = g.st.length) (hLr : ∀ x ∈ L, 0 ≤ x ∧ x ≤ 7) (t : Tree) : ∀ d, t.shapeB d = true → CallsA Tryz.prog 57 [.agg g.cs, ints L, z88 Tree.cs' t] [] (.sref 0 0 g.st.length) [.cells 1 ((t.satB g.nx g.st.length L).map enB)] := by
  induction t using Tree.ind with|h t ih => ?_
  intro d hs
  rw [z192, Bool.and_eq_true, decide_eq_true_eq, List.all_eq_true] at hs
  obtain ⟨⟨_, hs2, hs4, hs5⟩, hs3⟩ := hs
  have h60 := hG.1.2
  have hgl := hG.2.1
  have hin := hG.inN
  have cc : ∀ u ∈ t.kids, CallsA Tryz.prog 57 [.agg g.cs, ints L, z88 Tree.cs' u] [] (lst 1 enB (u.satB g.nx g.st.length L)) [] := fun u hu => z696 (ih u hu _ (hs3 u hu)) (Tree.satB_len hin L u)
  clear ih
  have hLg : ∀ i, i < L.length → 0 ≤ L.getD i 0 ∧ L.getD i 0 ≤ 7 := fun i hi => by rw [z107 hi];exact hLr _ (List.getElem_mem _)
  have hkl := z371 hs2
  have hRl : (t.satB g.nx g.st.length L).length = g.st.length := Tree.satB_len hin L t
  have hRe := Tree.satB_eq g.nx g.st.length L t
  unfold opB at hRe
  have hklen : ∀ k ∈ t.kids.map (Tree.satB g.nx g.st.length L), k.length = g.st.length := fun k hk => by
    obtain ⟨u, hu, rfl⟩ := List.mem_map.1 hk
    exact Tree.satB_len hin L u
  have hkl2 : (t.kids.map (Tree.satB g.nx g.st.length L)).length = t.kids.length := by simp
  have hkat : ∀ i (hi : i < t.kids.length) (h2 : i < (t.kids.map (Tree.satB g.nx g.st.length L)).length), ((t.kids.map (Tree.satB g.nx g.st.length L)))[i] = t.kids[i].satB g.nx g.st.length L := fun i hi _ => by simp
  generalize hks : t.kids.map (Tree.satB g.nx g.st.length L) = ks at *
  generalize hR : t.satB g.nx g.st.length L = R at *
  have hl2 : t.kids.length ≤ 2 := by omega
  rw [Tree.arg_eq]
  refine z58 z82 Tryz.func57 rfl rfl 85 Tryz.ntmps57 (by simp) ?_
  repeat' ((first|((fail_if_success apply z400 2);(fail_if_success apply z289 2);apply AWP.go ok;rfl)|(apply z35;kernel_rfl)|(apply And.intro;first|omega|(unfold inI;omega)|(dsimp only;omega)|((try dsimp only);simp only [List.length_map, List.length_take, List.length_append, List.length_replicate, List.length_cons, List.length_nil];omega)|exact z6 (fun _ => rfl)|exact ⟨rfl, z13 rfl z19⟩|exact ⟨rfl, z6 (fun _ => rfl) _⟩|exact ⟨⟨rfl, by omega⟩, z6 (fun _ => rfl) _⟩|(unfold z30;omega)|(simp only [z49] at *;first|omega|(unfold inI;omega)|(unfold z30;omega)))|((first|(with_reducible apply z9;omega)|(with_reducible apply z20;omega)|(apply z9;omega));intro _)|(apply z21;omega)|apply z28|(apply z27;omega;intro _)|((first|apply z26|apply z18|apply z25|apply z36|apply z16|apply z11|apply z17|apply z24) <;> intro _)) <;> conv => whnf)
  refine AWP.reach (Gl.Reach.weaken (es' := [[.own 1 []]]) 3 rfl rfl (fun i e' h => by
      match i, h with
      | 0, h => cases h; exact ⟨_, rfl, rfl, fun j x' hx => by
          match j, hx with
          | 0, hx => cases hx;exact ⟨_, rfl, nils_own⟩
          | j + 1, hx => simp at hx⟩
      | i + 1, h => simp at h) rfl) ?_
  conv => whnf
  repeat' ((first|(apply AWP.go ok;rfl)|(apply z35;kernel_rfl)|(apply And.intro;first|omega|(unfold inI;omega)|(dsimp only;omega)|((try dsimp only);simp only [List.length_map, List.length_take, List.length_append, List.length_replicate, List.length_cons, List.length_nil];omega)|exact z6 (fun _ => rfl)|exact ⟨rfl, z13 rfl z19⟩|exact ⟨rfl, z6 (fun _ => rfl) _⟩|exact ⟨⟨rfl, by omega⟩, z6 (fun _ => rfl) _⟩|(unfold z30;omega)|(simp only [z49] at *;first|omega|(unfold inI;omega)|(unfold z30;omega)))|((first|(with_reducible apply z9;omega)|(with_reducible apply z20;omega)|(apply z9;omega));intro _)|(apply z21;omega)|apply z28|(apply z27;omega;intro _)|((first|apply z26|apply z18|apply z25|apply z36|apply z16|apply z11|apply z17|apply z24) <;> intro _)) <;> conv => whnf)
  refine z116 (fun i : Nat => ([(3, .ptr 0 none 0), (4, .ptr 1 none 0), (5, .ptr 2 none 0), (7, .ptr 3 none 0), (14, lst 3 Tree.cs' t.kids), (15, .int t.kids.length), (16, .int i)], [.cells 2 [[lst 2 State.cs g.st, lst 1 encL g.nx]], .cells 1 [[ints L]], .cells 3 [[.int t.kind, .int t.val, lst 3 Tree.cs' t.kids]], .cells 1 [[.own 1 ((ks.take i).map encBL)]]])) (fun i => i ≤ t.kids.length) (fun i => t.kids.length - i) 0 (by omega) ⟨[0, 1, 2, 3], rfl, by decide, rfl, ⟨⟨rfl, rfl⟩, ⟨rfl, rfl⟩, ⟨rfl, rfl⟩, ⟨rfl, rfl⟩, ⟨rfl, rfl⟩, ⟨rfl, rfl⟩, ⟨rfl, rfl⟩, trivial⟩, ⟨z70 rfl rfl, z70 rfl rfl, z70 rfl rfl, z70 rfl rfl, trivial⟩⟩ ?_
  intro i hi
  have htl : ((ks.take i).map encBL).length = i := by simp;omega
  by_cases hil : i < t.kids.length
  · have ci := cc t.kids[i] (List.getElem_mem _)
    have hka := hkat i hil (by omega)
    rw [← hka] at ci
    repeat' ((first|((fail_if_success apply z400 5);(fail_if_success apply z289 5);apply AWP.go ok;rfl)|(apply z35;kernel_rfl)|(apply And.intro;first|omega|(unfold inI;omega)|(dsimp only;omega)|((try dsimp only);simp only [List.length_map, List.length_take, List.length_append, List.length_replicate, List.length_cons, List.length_nil];omega)|exact z6 (fun _ => rfl)|exact ⟨rfl, z13 rfl z19⟩|exact ⟨rfl, z6 (fun _ => rfl) _⟩|exact ⟨⟨rfl, by omega⟩, z6 (fun _ => rfl) _⟩|(unfold z30;omega)|(simp only [z49] at *;first|omega|(unfold inI;omega)|(unfold z30;omega)))|((first|(with_reducible apply z9;omega)|(with_reducible apply z20;omega)|(apply z9;omega));intro _)|(apply z21;omega)|apply z28|(apply z27;omega;intro _)|((first|apply z26|apply z18|apply z25|apply z36|apply z16|apply z11|apply z17|apply z24) <;> intro _)) <;> conv => whnf)
    all_goals first|(exfalso;omega)|skip
    refine AWP.reach (Gl.Reach.exposeD (e := [.own 1 ((ks.take i).map encBL)]) 3 0 0 rfl rfl rfl rfl) ?_
    conv => whnf
    rw [htl]
    repeat' ((first|((fail_if_success apply z400 6);(fail_if_success apply z289 6);apply AWP.go ok;rfl)|(apply z35;kernel_rfl)|(apply And.intro;first|omega|(unfold inI;omega)|(dsimp only;omega)|((try dsimp only);simp only [List.length_map, List.length_take, List.length_append, List.length_replicate, List.length_cons, List.length_nil];omega)|exact z6 (fun _ => rfl)|exact ⟨rfl, z13 rfl z19⟩|exact ⟨rfl, z6 (fun _ => rfl) _⟩|exact ⟨⟨rfl, by omega⟩, z6 (fun _ => rfl) _⟩|(unfold z30;omega)|(simp only [z49] at *;first|omega|(unfold inI;omega)|(unfold z30;omega)))|((first|(with_reducible apply z9;omega)|(with_reducible apply z20;omega)|(apply z9;omega));intro _)|(apply z21;omega)|apply z28|(apply z27;omega;intro _)|((first|apply z26|apply z18|apply z25|apply z36|apply z16|apply z11|apply z17|apply z24) <;> intro _)|(apply z48 (ci);rfl;rfl)) <;> conv => whnf)
    all_goals first|(exfalso;omega)|skip
    refine AWP.reach (Gl.Reach.absorb 3 7 0 0 rfl rfl rfl rfl (by simp;omega) rfl (z7 (fun e he => (z4 (fun _ => rfl)) e (List.mem_of_mem_take he)) (z41 rfl z10)) rfl) ?_
    conv => whnf
    repeat' ((first|(apply AWP.go ok;rfl)|(apply z35;kernel_rfl)|(apply And.intro;first|omega|(unfold inI;omega)|(dsimp only;omega)|((try dsimp only);simp only [List.length_map, List.length_take, List.length_append, List.length_replicate, List.length_cons, List.length_nil];omega)|exact z6 (fun _ => rfl)|exact ⟨rfl, z13 rfl z19⟩|exact ⟨rfl, z6 (fun _ => rfl) _⟩|exact ⟨⟨rfl, by omega⟩, z6 (fun _ => rfl) _⟩|(unfold z30;omega)|(simp only [z49] at *;first|omega|(unfold inI;omega)|(unfold z30;omega)))|((first|(with_reducible apply z9;omega)|(with_reducible apply z20;omega)|(apply z9;omega));intro _)|(apply z21;omega)|apply z28|(apply z27;omega;intro _)|((first|apply z26|apply z18|apply z25|apply z36|apply z16|apply z11|apply z17|apply z24) <;> intro _)) <;> conv => whnf)
    refine z105 (i + 1) [0, 1, 2, 3] (by omega) (by omega) ⟨rfl, by decide, rfl, ⟨⟨rfl, rfl⟩, ⟨rfl, rfl⟩, ⟨rfl, rfl⟩, ⟨rfl, rfl⟩, ⟨rfl, rfl⟩, ⟨rfl, rfl⟩, ⟨rfl, rfl⟩, trivial⟩, ⟨z70 rfl rfl, z70 rfl rfl, z70 rfl rfl, z70 rfl (z84 ?_), trivial⟩⟩
    simp only [List.set_cons_zero, renL, AC.ren]
    rw [List.take_succ_eq_append_getElem (show i < ks.length by omega), List.map_append, List.take_of_length_le (by rw [htl];exact Nat.le_refl _)]
    rfl
  repeat' ((first|((fail_if_success apply z400 7);(fail_if_success apply z289 7);apply AWP.go ok;rfl)|(apply z35;kernel_rfl)|(apply And.intro;first|omega|(unfold inI;omega)|(dsimp only;omega)|((try dsimp only);simp only [List.length_map, List.length_take, List.length_append, List.length_replicate, List.length_cons, List.length_nil];omega)|exact z6 (fun _ => rfl)|exact ⟨rfl, z13 rfl z19⟩|exact ⟨rfl, z6 (fun _ => rfl) _⟩|exact ⟨⟨rfl, by omega⟩, z6 (fun _ => rfl) _⟩|(unfold z30;omega)|(simp only [z49] at *;first|omega|(unfold inI;omega)|(unfold z30;omega)))|((first|(with_reducible apply z9;omega)|(with_reducible apply z20;omega)|(apply z9;omega));intro _)|(apply z21;omega)|apply z28|(apply z27;omega;intro _)|((first|apply z26|apply z18|apply z25|apply z36|apply z16|apply z11|apply z17|apply z24) <;> intro _)) <;> conv => whnf)
  all_goals first|(exfalso;omega)|skip
  rw [show ks.take i = ks from List.take_of_length_le (by omega)]
  refine AWP.reach (SealL.reach (π := []) (Bn := [0, 1, 2, 3]) (env := [(3, .pt g.cs), (4, .pt [ints L]), (5, .pt [.int t.kind, .int t.val, lst 3 Tree.cs' t.kids]), (7, .pt [lst 1 encBL ks])]) (objs := []) ⟨rfl, rfl, by simp, rfl, by simp, ⟨rfl, rfl, rfl, bor_ptrB rfl rfl rfl, trivial⟩, rfl⟩) ?_
  conv => whnf
  clear htl hi
  generalize hn : g.st.length = n at *
  rcases hkl with ⟨hk, hl⟩|⟨hk, hl⟩|⟨hk, hl⟩|⟨hk, hl⟩|⟨hk, hl⟩|⟨hk, hl⟩|⟨hk, hl⟩|⟨hk, hl⟩|⟨hk, hl⟩|⟨hk, hl⟩|⟨hk, hl⟩
  · rw [if_neg (by omega), if_neg (by omega), if_neg (by omega), if_neg (by omega), if_neg (by omega), if_neg (by omega)] at hRe
    have hf : ∀ i, i < n → CallsA Tryz.prog 127 ([.int i] ++ []) [] (.bool (gB R i)) [] := fun i hi => by
      rw [hRe, z151 _ _ _ hi]
      exact (by unfold ptB;rw [if_neg (by omega), if_neg (by omega), if_neg (by omega), if_neg (by omega)];exact sat1_ok _)
    repeat' ((first|(apply AWP.go ok;rfl)|(apply z35;kernel_rfl)|(apply And.intro;first|omega|(unfold inI;omega)|(dsimp only;omega)|((try dsimp only);simp only [List.length_map, List.length_take, List.length_append, List.length_replicate, List.length_cons, List.length_nil];omega)|exact z6 (fun _ => rfl)|exact ⟨rfl, z13 rfl z19⟩|exact ⟨rfl, z6 (fun _ => rfl) _⟩|exact ⟨⟨rfl, by omega⟩, z6 (fun _ => rfl) _⟩|(unfold z30;omega)|(simp only [z49] at *;first|omega|(unfold inI;omega)|(unfold z30;omega)))|((first|(with_reducible apply z9;omega)|(with_reducible apply z20;omega)|(apply z9;omega));intro _)|(apply z21;omega)|apply z28|(apply z27;omega;intro _)|((first|apply z26|apply z18|apply z25|apply z36|apply z16|apply z11|apply z17|apply z24) <;> intro _)) <;> conv => whnf)
    all_goals first|(exfalso;omega)|skip
    refine z116 (fun i : Nat => ([(10, .fn (.func 127) [] []), (11, .sref 0 0 n), (73, .int n), (74, .int i)], [.cells 1 (mixL (fun j => enB (gB R j)) (List.replicate n [AC.bool false]) i)])) (fun i => i ≤ n) (fun i => n - i) 0 (by omega) ⟨[0], rfl, by decide, rfl, ⟨⟨rfl, rfl⟩, ⟨rfl, by simp only [← hn];rfl⟩, ⟨rfl, by simp only [← hn];rfl⟩, ⟨rfl, rfl⟩, trivial⟩, ⟨z57 (z84 (by rw [z156, ← hn];rfl)) (z7 (z4 fun _ => rfl) fun e he => z5 rfl e (List.mem_of_mem_drop he)), trivial⟩⟩ ?_
    intro i hi
    by_cases hil : i < n
    · have ci := hf i hil
      have hg : (mixL (fun j => enB (gB R j)) (List.replicate n [AC.bool false]) i)[i]? = some [AC.bool false] := by
        unfold mixL
        rw [List.getElem?_append_right (by simp)]
        simp only [List.length_map, List.length_range, Nat.sub_self]
        rw [List.getElem?_drop, Nat.add_zero, List.getElem?_replicate, if_pos hil]
      repeat' ((first|(apply AWP.go ok;rfl)|(apply z35;kernel_rfl)|(refine z80 (i := i) rfl hg ?_)|(apply And.intro;first|omega|(unfold inI;omega)|(dsimp only;omega)|((try dsimp only);simp only [List.length_map, List.length_take, List.length_append, List.length_replicate, List.length_cons, List.length_nil];omega)|exact z6 (fun _ => rfl)|exact ⟨rfl, z13 rfl z19⟩|exact ⟨rfl, z6 (fun _ => rfl) _⟩|exact ⟨⟨rfl, by omega⟩, z6 (fun _ => rfl) _⟩|(unfold z30;omega)|(simp only [z49] at *;first|omega|(unfold inI;omega)|(unfold z30;omega)))|((first|(with_reducible apply z9;omega)|(with_reducible apply z20;omega)|(apply z9;omega));intro _)|(apply z21;omega)|apply z28|(apply z27;omega;intro _)|((first|apply z26|apply z18|apply z25|apply z36|apply z16|apply z11|apply z17|apply z24) <;> intro _)|(apply z48 (ci);rfl;rfl)) <;> conv => whnf)
      all_goals first|(exfalso;omega)|skip
      all_goals exact z105 (i + 1) [0] (by omega) (by omega) ⟨rfl, by decide, rfl, ⟨⟨rfl, rfl⟩, ⟨rfl, rfl⟩, ⟨rfl, rfl⟩, ⟨rfl, rfl⟩, trivial⟩, ⟨z57 (z84 (z178 (by simpa using hil) (Int.toNat_natCast i) rfl)) (z7 (z4 fun _ => rfl) fun e he => z5 rfl e (List.mem_of_mem_drop he)), trivial⟩⟩
    · repeat' ((first|(apply AWP.go ok;rfl)|(apply z35;kernel_rfl)|(apply And.intro;first|omega|(unfold inI;omega)|(dsimp only;omega)|((try dsimp only);simp only [List.length_map, List.length_take, List.length_append, List.length_replicate, List.length_cons, List.length_nil];omega)|exact z6 (fun _ => rfl)|exact ⟨rfl, z13 rfl z19⟩|exact ⟨rfl, z6 (fun _ => rfl) _⟩|exact ⟨⟨rfl, by omega⟩, z6 (fun _ => rfl) _⟩|(unfold z30;omega)|(simp only [z49] at *;first|omega|(unfold inI;omega)|(unfold z30;omega)))|((first|(with_reducible apply z9;omega)|(with_reducible apply z20;omega)|(apply z9;omega));intro _)|(apply z21;omega)|apply z28|(apply z27;omega;intro _)|((first|apply z26|apply z18|apply z25|apply z36|apply z16|apply z11|apply z17|apply z24) <;> intro _)) <;> conv => whnf)
      all_goals first|(exfalso;omega)|skip
      all_goals
        have e0 : mixL (fun j => enB (gB R j)) (List.replicate n [AC.bool false]) i = R.map enB := by
          rw [z179 (by simp;omega), ← z159, hRl, show i = n by omega]
        rw [e0]
        exact z128 rfl (z4 fun _ => rfl) rfl rfl rfl
  · rw [if_neg (by omega), if_neg (by omega), if_neg (by omega), if_neg (by omega), if_neg (by omega), if_neg (by omega)] at hRe
    have hf : ∀ i, i < n → CallsA Tryz.prog 133 ([.int i] ++ [.pt [ints L], .pt [.int t.kind, .int t.val, lst 3 Tree.cs' t.kids]]) [] (.bool (gB R i)) [] := fun i hi => by
      rw [hRe, z151 _ _ _ hi]
      exact (by unfold ptB;rw [if_pos hk];unfold z316 at hs5;rw [if_pos hk] at hs5;exact sat6_ok L _ _ _ i (by omega) (by omega) (hLg i (by omega)).1 (hLg i (by omega)).2 hs4 hs5)
    repeat' ((first|(apply AWP.go ok;rfl)|(apply z35;kernel_rfl)|(apply And.intro;first|omega|(unfold inI;omega)|(dsimp only;omega)|((try dsimp only);simp only [List.length_map, List.length_take, List.length_append, List.length_replicate, List.length_cons, List.length_nil];omega)|exact z6 (fun _ => rfl)|exact ⟨rfl, z13 rfl z19⟩|exact ⟨rfl, z6 (fun _ => rfl) _⟩|exact ⟨⟨rfl, by omega⟩, z6 (fun _ => rfl) _⟩|(unfold z30;omega)|(simp only [z49] at *;first|omega|(unfold inI;omega)|(unfold z30;omega)))|((first|(with_reducible apply z9;omega)|(with_reducible apply z20;omega)|(apply z9;omega));intro _)|(apply z21;omega)|apply z28|(apply z27;omega;intro _)|((first|apply z26|apply z18|apply z25|apply z36|apply z16|apply z11|apply z17|apply z24) <;> intro _)) <;> conv => whnf)
    all_goals first|(exfalso;omega)|skip
    refine z116 (fun i : Nat => ([(10, .fn (.func 133) [] [.pt [ints L], .pt [.int t.kind, .int t.val, lst 3 Tree.cs' t.kids]]), (11, .sref 0 0 n), (73, .int n), (74, .int i)], [.cells 1 (mixL (fun j => enB (gB R j)) (List.replicate n [AC.bool false]) i)])) (fun i => i ≤ n) (fun i => n - i) 0 (by omega) ⟨[0], rfl, by decide, rfl, ⟨⟨rfl, rfl⟩, ⟨rfl, by simp only [← hn];rfl⟩, ⟨rfl, by simp only [← hn];rfl⟩, ⟨rfl, rfl⟩, trivial⟩, ⟨z57 (z84 (by rw [z156, ← hn];rfl)) (z7 (z4 fun _ => rfl) fun e he => z5 rfl e (List.mem_of_mem_drop he)), trivial⟩⟩ ?_
    intro i hi
    by_cases hil : i < n
    · have ci := hf i hil
      have hg : (mixL (fun j => enB (gB R j)) (List.replicate n [AC.bool false]) i)[i]? = some [AC.bool false] := by
        unfold mixL
        rw [List.getElem?_append_right (by simp)]
        simp only [List.length_map, List.length_range, Nat.sub_self]
        rw [List.getElem?_drop, Nat.add_zero, List.getElem?_replicate, if_pos hil]
      repeat' ((first|(apply AWP.go ok;rfl)|(apply z35;kernel_rfl)|(refine z80 (i := i) rfl hg ?_)|(apply And.intro;first|omega|(unfold inI;omega)|(dsimp only;omega)|((try dsimp only);simp only [List.length_map, List.length_take, List.length_append, List.length_replicate, List.length_cons, List.length_nil];omega)|exact z6 (fun _ => rfl)|exact ⟨rfl, z13 rfl z19⟩|exact ⟨rfl, z6 (fun _ => rfl) _⟩|exact ⟨⟨rfl, by omega⟩, z6 (fun _ => rfl) _⟩|(unfold z30;omega)|(simp only [z49] at *;first|omega|(unfold inI;omega)|(unfold z30;omega)))|((first|(with_reducible apply z9;omega)|(with_reducible apply z20;omega)|(apply z9;omega));intro _)|(apply z21;omega)|apply z28|(apply z27;omega;intro _)|((first|apply z26|apply z18|apply z25|apply z36|apply z16|apply z11|apply z17|apply z24) <;> intro _)|(apply z48 (ci);rfl;rfl)) <;> conv => whnf)
      all_goals first|(exfalso;omega)|skip
      all_goals exact z105 (i + 1) [0] (by omega) (by omega) ⟨rfl, by decide, rfl, ⟨⟨rfl, rfl⟩, ⟨rfl, rfl⟩, ⟨rfl, rfl⟩, ⟨rfl, rfl⟩, trivial⟩, ⟨z57 (z84 (z178 (by simpa using hil) (Int.toNat_natCast i) rfl)) (z7 (z4 fun _ => rfl) fun e he => z5 rfl e (List.mem_of_mem_drop he)), trivial⟩⟩
    · repeat' ((first|(apply AWP.go ok;rfl)|(apply z35;kernel_rfl)|(apply And.intro;first|omega|(unfold inI;omega)|(dsimp only;omega)|((try dsimp only);simp only [List.length_map, List.length_take, List.length_append, List.length_replicate, List.length_cons, List.length_nil];omega)|exact z6 (fun _ => rfl)|exact ⟨rfl, z13 rfl z19⟩|exact ⟨rfl, z6 (fun _ => rfl) _⟩|exact ⟨⟨rfl, by omega⟩, z6 (fun _ => rfl) _⟩|(unfold z30;omega)|(simp only [z49] at *;first|omega|(unfold inI;omega)|(unfold z30;omega)))|((first|(with_reducible apply z9;omega)|(with_reducible apply z20;omega)|(apply z9;omega));intro _)|(apply z21;omega)|apply z28|(apply z27;omega;intro _)|((first|apply z26|apply z18|apply z25|apply z36|apply z16|apply z11|apply z17|apply z24) <;> intro _)) <;> conv => whnf)
      all_goals first|(exfalso;omega)|skip
      all_goals
        have e0 : mixL (fun j => enB (gB R j)) (List.replicate n [AC.bool false]) i = R.map enB := by
          rw [z179 (by simp;omega), ← z159, hRl, show i = n by omega]
        rw [e0]
        exact z128 rfl (z4 fun _ => rfl) rfl rfl rfl
  · obtain ⟨a, rfl⟩ := len1 (hkl2.trans hl)
    have ha := hklen a (by simp)
    rw [if_neg (by omega), if_neg (by omega), if_neg (by omega), if_neg (by omega), if_neg (by omega), if_neg (by omega)] at hRe
    have hf : ∀ i, i < n → CallsA Tryz.prog 134 ([.int i] ++ [.pt [lst 1 encBL [a]]]) [] (.bool (gB R i)) [] := fun i hi => by
      rw [hRe, z151 _ _ _ hi]
      exact (by unfold ptB;rw [if_neg (by omega), if_pos hk];exact sat7_ok a n (by omega) ha i hi)
    repeat' ((first|(apply AWP.go ok;rfl)|(apply z35;kernel_rfl)|(apply And.intro;first|omega|(unfold inI;omega)|(dsimp only;omega)|((try dsimp only);simp only [List.length_map, List.length_take, List.length_append, List.length_replicate, List.length_cons, List.length_nil];omega)|exact z6 (fun _ => rfl)|exact ⟨rfl, z13 rfl z19⟩|exact ⟨rfl, z6 (fun _ => rfl) _⟩|exact ⟨⟨rfl, by omega⟩, z6 (fun _ => rfl) _⟩|(unfold z30;omega)|(simp only [z49] at *;first|omega|(unfold inI;omega)|(unfold z30;omega)))|((first|(with_reducible apply z9;omega)|(with_reducible apply z20;omega)|(apply z9;omega));intro _)|(apply z21;omega)|apply z28|(apply z27;omega;intro _)|((first|apply z26|apply z18|apply z25|apply z36|apply z16|apply z11|apply z17|apply z24) <;> intro _)) <;> conv => whnf)
    all_goals first|(exfalso;omega)|skip
    refine z116 (fun i : Nat => ([(10, .fn (.func 134) [] [.pt [lst 1 encBL [a]]]), (11, .sref 0 0 n), (73, .int n), (74, .int i)], [.cells 1 (mixL (fun j => enB (gB R j)) (List.replicate n [AC.bool false]) i)])) (fun i => i ≤ n) (fun i => n - i) 0 (by omega) ⟨[0], rfl, by decide, rfl, ⟨⟨rfl, rfl⟩, ⟨rfl, by simp only [← hn];rfl⟩, ⟨rfl, by simp only [← hn];rfl⟩, ⟨rfl, rfl⟩, trivial⟩, ⟨z57 (z84 (by rw [z156, ← hn];rfl)) (z7 (z4 fun _ => rfl) fun e he => z5 rfl e (List.mem_of_mem_drop he)), trivial⟩⟩ ?_
    intro i hi
    by_cases hil : i < n
    · have ci := hf i hil
      have hg : (mixL (fun j => enB (gB R j)) (List.replicate n [AC.bool false]) i)[i]? = some [AC.bool false] := by
        unfold mixL
        rw [List.getElem?_append_right (by simp)]
        simp only [List.length_map, List.length_range, Nat.sub_self]
        rw [List.getElem?_drop, Nat.add_zero, List.getElem?_replicate, if_pos hil]
      repeat' ((first|(apply AWP.go ok;rfl)|(apply z35;kernel_rfl)|(refine z80 (i := i) rfl hg ?_)|(apply And.intro;first|omega|(unfold inI;omega)|(dsimp only;omega)|((try dsimp only);simp only [List.length_map, List.length_take, List.length_append, List.length_replicate, List.length_cons, List.length_nil];omega)|exact z6 (fun _ => rfl)|exact ⟨rfl, z13 rfl z19⟩|exact ⟨rfl, z6 (fun _ => rfl) _⟩|exact ⟨⟨rfl, by omega⟩, z6 (fun _ => rfl) _⟩|(unfold z30;omega)|(simp only [z49] at *;first|omega|(unfold inI;omega)|(unfold z30;omega)))|((first|(with_reducible apply z9;omega)|(with_reducible apply z20;omega)|(apply z9;omega));intro _)|(apply z21;omega)|apply z28|(apply z27;omega;intro _)|((first|apply z26|apply z18|apply z25|apply z36|apply z16|apply z11|apply z17|apply z24) <;> intro _)|(apply z48 (ci);rfl;rfl)) <;> conv => whnf)
      all_goals first|(exfalso;omega)|skip
      all_goals exact z105 (i + 1) [0] (by omega) (by omega) ⟨rfl, by decide, rfl, ⟨⟨rfl, rfl⟩, ⟨rfl, rfl⟩, ⟨rfl, rfl⟩, ⟨rfl, rfl⟩, trivial⟩, ⟨z57 (z84 (z178 (by simpa using hil) (Int.toNat_natCast i) rfl)) (z7 (z4 fun _ => rfl) fun e he => z5 rfl e (List.mem_of_mem_drop he)), trivial⟩⟩
    · repeat' ((first|(apply AWP.go ok;rfl)|(apply z35;kernel_rfl)|(apply And.intro;first|omega|(unfold inI;omega)|(dsimp only;omega)|((try dsimp only);simp only [List.length_map, List.length_take, List.length_append, List.length_replicate, List.length_cons, List.length_nil];omega)|exact z6 (fun _ => rfl)|exact ⟨rfl, z13 rfl z19⟩|exact ⟨rfl, z6 (fun _ => rfl) _⟩|exact ⟨⟨rfl, by omega⟩, z6 (fun _ => rfl) _⟩|(unfold z30;omega)|(simp only [z49] at *;first|omega|(unfold inI;omega)|(unfold z30;omega)))|((first|(with_reducible apply z9;omega)|(with_reducible apply z20;omega)|(apply z9;omega));intro _)|(apply z21;omega)|apply z28|(apply z27;omega;intro _)|((first|apply z26|apply z18|apply z25|apply z36|apply z16|apply z11|apply z17|apply z24) <;> intro _)) <;> conv => whnf)
      all_goals first|(exfalso;omega)|skip
      all_goals
        have e0 : mixL (fun j => enB (gB R j)) (List.replicate n [AC.bool false]) i = R.map enB := by
          rw [z179 (by simp;omega), ← z159, hRl, show i = n by omega]
        rw [e0]
        exact z128 rfl (z4 fun _ => rfl) rfl rfl rfl
  · obtain ⟨a, b, rfl⟩ := len2 (hkl2.trans hl)
    have ha := hklen a (by simp)
    have hb := hklen b (by simp)
    rw [if_neg (by omega), if_neg (by omega), if_neg (by omega), if_neg (by omega), if_neg (by omega), if_neg (by omega)] at hRe
    have hf : ∀ i, i < n → CallsA Tryz.prog 135 ([.int i] ++ [.pt [lst 1 encBL [a, b]]]) [] (.bool (gB R i)) [] := fun i hi => by
      rw [hRe, z151 _ _ _ hi]
      exact (by unfold ptB;rw [if_neg (by omega), if_neg (by omega), if_pos hk];exact sat8_ok a b n (by omega) ha hb i hi)
    repeat' ((first|(apply AWP.go ok;rfl)|(apply z35;kernel_rfl)|(apply And.intro;first|omega|(unfold inI;omega)|(dsimp only;omega)|((try dsimp only);simp only [List.length_map, List.length_take, List.length_append, List.length_replicate, List.length_cons, List.length_nil];omega)|exact z6 (fun _ => rfl)|exact ⟨rfl, z13 rfl z19⟩|exact ⟨rfl, z6 (fun _ => rfl) _⟩|exact ⟨⟨rfl, by omega⟩, z6 (fun _ => rfl) _⟩|(unfold z30;omega)|(simp only [z49] at *;first|omega|(unfold inI;omega)|(unfold z30;omega)))|((first|(with_reducible apply z9;omega)|(with_reducible apply z20;omega)|(apply z9;omega));intro _)|(apply z21;omega)|apply z28|(apply z27;omega;intro _)|((first|apply z26|apply z18|apply z25|apply z36|apply z16|apply z11|apply z17|apply z24) <;> intro _)) <;> conv => whnf)
    all_goals first|(exfalso;omega)|skip
    refine z116 (fun i : Nat => ([(10, .fn (.func 135) [] [.pt [lst 1 encBL [a, b]]]), (11, .sref 0 0 n), (73, .int n), (74, .int i)], [.cells 1 (mixL (fun j => enB (gB R j)) (List.replicate n [AC.bool false]) i)])) (fun i => i ≤ n) (fun i => n - i) 0 (by omega) ⟨[0], rfl, by decide, rfl, ⟨⟨rfl, rfl⟩, ⟨rfl, by simp only [← hn];rfl⟩, ⟨rfl, by simp only [← hn];rfl⟩, ⟨rfl, rfl⟩, trivial⟩, ⟨z57 (z84 (by rw [z156, ← hn];rfl)) (z7 (z4 fun _ => rfl) fun e he => z5 rfl e (List.mem_of_mem_drop he)), trivial⟩⟩ ?_
    intro i hi
    by_cases hil : i < n
    · have ci := hf i hil
      have hg : (mixL (fun j => enB (gB R j)) (List.replicate n [AC.bool false]) i)[i]? = some [AC.bool false] := by
        unfold mixL
        rw [List.getElem?_append_right (by simp)]
        simp only [List.length_map, List.length_range, Nat.sub_self]
        rw [List.getElem?_drop, Nat.add_zero, List.getElem?_replicate, if_pos hil]
      repeat' ((first|(apply AWP.go ok;rfl)|(apply z35;kernel_rfl)|(refine z80 (i := i) rfl hg ?_)|(apply And.intro;first|omega|(unfold inI;omega)|(dsimp only;omega)|((try dsimp only);simp only [List.length_map, List.length_take, List.length_append, List.length_replicate, List.length_cons, List.length_nil];omega)|exact z6 (fun _ => rfl)|exact ⟨rfl, z13 rfl z19⟩|exact ⟨rfl, z6 (fun _ => rfl) _⟩|exact ⟨⟨rfl, by omega⟩, z6 (fun _ => rfl) _⟩|(unfold z30;omega)|(simp only [z49] at *;first|omega|(unfold inI;omega)|(unfold z30;omega)))|((first|(with_reducible apply z9;omega)|(with_reducible apply z20;omega)|(apply z9;omega));intro _)|(apply z21;omega)|apply z28|(apply z27;omega;intro _)|((first|apply z26|apply z18|apply z25|apply z36|apply z16|apply z11|apply z17|apply z24) <;> intro _)|(apply z48 (ci);rfl;rfl)) <;> conv => whnf)
      all_goals first|(exfalso;omega)|skip
      all_goals exact z105 (i + 1) [0] (by omega) (by omega) ⟨rfl, by decide, rfl, ⟨⟨rfl, rfl⟩, ⟨rfl, rfl⟩, ⟨rfl, rfl⟩, ⟨rfl, rfl⟩, trivial⟩, ⟨z57 (z84 (z178 (by simpa using hil) (Int.toNat_natCast i) rfl)) (z7 (z4 fun _ => rfl) fun e he => z5 rfl e (List.mem_of_mem_drop he)), trivial⟩⟩
    · repeat' ((first|(apply AWP.go ok;rfl)|(apply z35;kernel_rfl)|(apply And.intro;first|omega|(unfold inI;omega)|(dsimp only;omega)|((try dsimp only);simp only [List.length_map, List.length_take, List.length_append, List.length_replicate, List.length_cons, List.length_nil];omega)|exact z6 (fun _ => rfl)|exact ⟨rfl, z13 rfl z19⟩|exact ⟨rfl, z6 (fun _ => rfl) _⟩|exact ⟨⟨rfl, by omega⟩, z6 (fun _ => rfl) _⟩|(unfold z30;omega)|(simp only [z49] at *;first|omega|(unfold inI;omega)|(unfold z30;omega)))|((first|(with_reducible apply z9;omega)|(with_reducible apply z20;omega)|(apply z9;omega));intro _)|(apply z21;omega)|apply z28|(apply z27;omega;intro _)|((first|apply z26|apply z18|apply z25|apply z36|apply z16|apply z11|apply z17|apply z24) <;> intro _)) <;> conv => whnf)
      all_goals first|(exfalso;omega)|skip
      all_goals
        have e0 : mixL (fun j => enB (gB R j)) (List.replicate n [AC.bool false]) i = R.map enB := by
          rw [z179 (by simp;omega), ← z159, hRl, show i = n by omega]
        rw [e0]
        exact z128 rfl (z4 fun _ => rfl) rfl rfl rfl
  · obtain ⟨a, b, rfl⟩ := len2 (hkl2.trans hl)
    have ha := hklen a (by simp)
    have hb := hklen b (by simp)
    rw [if_neg (by omega), if_neg (by omega), if_neg (by omega), if_neg (by omega), if_neg (by omega), if_neg (by omega)] at hRe
    have hf : ∀ i, i < n → CallsA Tryz.prog 136 ([.int i] ++ [.pt [lst 1 encBL [a, b]]]) [] (.bool (gB R i)) [] := fun i hi => by
      rw [hRe, z151 _ _ _ hi]
      exact (by unfold ptB;rw [if_neg (by omega), if_neg (by omega), if_neg (by omega), if_pos hk];exact sat9_ok a b n (by omega) ha hb i hi)
    repeat' ((first|(apply AWP.go ok;rfl)|(apply z35;kernel_rfl)|(apply And.intro;first|omega|(unfold inI;omega)|(dsimp only;omega)|((try dsimp only);simp only [List.length_map, List.length_take, List.length_append, List.length_replicate, List.length_cons, List.length_nil];omega)|exact z6 (fun _ => rfl)|exact ⟨rfl, z13 rfl z19⟩|exact ⟨rfl, z6 (fun _ => rfl) _⟩|exact ⟨⟨rfl, by omega⟩, z6 (fun _ => rfl) _⟩|(unfold z30;omega)|(simp only [z49] at *;first|omega|(unfold inI;omega)|(unfold z30;omega)))|((first|(with_reducible apply z9;omega)|(with_reducible apply z20;omega)|(apply z9;omega));intro _)|(apply z21;omega)|apply z28|(apply z27;omega;intro _)|((first|apply z26|apply z18|apply z25|apply z36|apply z16|apply z11|apply z17|apply z24) <;> intro _)) <;> conv => whnf)
    all_goals first|(exfalso;omega)|skip
    refine z116 (fun i : Nat => ([(10, .fn (.func 136) [] [.pt [lst 1 encBL [a, b]]]), (11, .sref 0 0 n), (73, .int n), (74, .int i)], [.cells 1 (mixL (fun j => enB (gB R j)) (List.replicate n [AC.bool false]) i)])) (fun i => i ≤ n) (fun i => n - i) 0 (by omega) ⟨[0], rfl, by decide, rfl, ⟨⟨rfl, rfl⟩, ⟨rfl, by simp only [← hn];rfl⟩, ⟨rfl, by simp only [← hn];rfl⟩, ⟨rfl, rfl⟩, trivial⟩, ⟨z57 (z84 (by rw [z156, ← hn];rfl)) (z7 (z4 fun _ => rfl) fun e he => z5 rfl e (List.mem_of_mem_drop he)), trivial⟩⟩ ?_
    intro i hi
    by_cases hil : i < n
    · have ci := hf i hil
      have hg : (mixL (fun j => enB (gB R j)) (List.replicate n [AC.bool false]) i)[i]? = some [AC.bool false] := by
        unfold mixL
        rw [List.getElem?_append_right (by simp)]
        simp only [List.length_map, List.length_range, Nat.sub_self]
        rw [List.getElem?_drop, Nat.add_zero, List.getElem?_replicate, if_pos hil]
      repeat' ((first|(apply AWP.go ok;rfl)|(apply z35;kernel_rfl)|(refine z80 (i := i) rfl hg ?_)|(apply And.intro;first|omega|(unfold inI;omega)|(dsimp only;omega)|((try dsimp only);simp only [List.length_map, List.length_take, List.length_append, List.length_replicate, List.length_cons, List.length_nil];omega)|exact z6 (fun _ => rfl)|exact ⟨rfl, z13 rfl z19⟩|exact ⟨rfl, z6 (fun _ => rfl) _⟩|exact ⟨⟨rfl, by omega⟩, z6 (fun _ => rfl) _⟩|(unfold z30;omega)|(simp only [z49] at *;first|omega|(unfold inI;omega)|(unfold z30;omega)))|((first|(with_reducible apply z9;omega)|(with_reducible apply z20;omega)|(apply z9;omega));intro _)|(apply z21;omega)|apply z28|(apply z27;omega;intro _)|((first|apply z26|apply z18|apply z25|apply z36|apply z16|apply z11|apply z17|apply z24) <;> intro _)|(apply z48 (ci);rfl;rfl)) <;> conv => whnf)
      all_goals first|(exfalso;omega)|skip
      all_goals exact z105 (i + 1) [0] (by omega) (by omega) ⟨rfl, by decide, rfl, ⟨⟨rfl, rfl⟩, ⟨rfl, rfl⟩, ⟨rfl, rfl⟩, ⟨rfl, rfl⟩, trivial⟩, ⟨z57 (z84 (z178 (by simpa using hil) (Int.toNat_natCast i) rfl)) (z7 (z4 fun _ => rfl) fun e he => z5 rfl e (List.mem_of_mem_drop he)), trivial⟩⟩
    · repeat' ((first|(apply AWP.go ok;rfl)|(apply z35;kernel_rfl)|(apply And.intro;first|omega|(unfold inI;omega)|(dsimp only;omega)|((try dsimp only);simp only [List.length_map, List.length_take, List.length_append, List.length_replicate, List.length_cons, List.length_nil];omega)|exact z6 (fun _ => rfl)|exact ⟨rfl, z13 rfl z19⟩|exact ⟨rfl, z6 (fun _ => rfl) _⟩|exact ⟨⟨rfl, by omega⟩, z6 (fun _ => rfl) _⟩|(unfold z30;omega)|(simp only [z49] at *;first|omega|(unfold inI;omega)|(unfold z30;omega)))|((first|(with_reducible apply z9;omega)|(with_reducible apply z20;omega)|(apply z9;omega));intro _)|(apply z21;omega)|apply z28|(apply z27;omega;intro _)|((first|apply z26|apply z18|apply z25|apply z36|apply z16|apply z11|apply z17|apply z24) <;> intro _)) <;> conv => whnf)
      all_goals first|(exfalso;omega)|skip
      all_goals
        have e0 : mixL (fun j => enB (gB R j)) (List.replicate n [AC.bool false]) i = R.map enB := by
          rw [z179 (by simp;omega), ← z159, hRl, show i = n by omega]
        rw [e0]
        exact z128 rfl (z4 fun _ => rfl) rfl rfl rfl
  · obtain ⟨a, rfl⟩ := len1 (hkl2.trans hl)
    have ha := hklen a (by simp)
    rw [if_pos hk] at hRe
    have hf : ∀ i, i < n → CallsA Tryz.prog 137 ([.int i] ++ [.pt g.cs, .pt [lst 1 encBL [a]]]) [] (.bool (gB R i)) [] := fun i hi => by
      rw [hRe, z596 _ _ _ _ _ hi]
      exact (sat10_ok g hG a (ha.trans hn.symm) i (by omega))
    repeat' ((first|(apply AWP.go ok;rfl)|(apply z35;kernel_rfl)|(apply And.intro;first|omega|(unfold inI;omega)|(dsimp only;omega)|((try dsimp only);simp only [List.length_map, List.length_take, List.length_append, List.length_replicate, List.length_cons, List.length_nil];omega)|exact z6 (fun _ => rfl)|exact ⟨rfl, z13 rfl z19⟩|exact ⟨rfl, z6 (fun _ => rfl) _⟩|exact ⟨⟨rfl, by omega⟩, z6 (fun _ => rfl) _⟩|(unfold z30;omega)|(simp only [z49] at *;first|omega|(unfold inI;omega)|(unfold z30;omega)))|((first|(with_reducible apply z9;omega)|(with_reducible apply z20;omega)|(apply z9;omega));intro _)|(apply z21;omega)|apply z28|(apply z27;omega;intro _)|((first|apply z26|apply z18|apply z25|apply z36|apply z16|apply z11|apply z17|apply z24) <;> intro _)) <;> conv => whnf)
    all_goals first|(exfalso;omega)|skip
    refine z116 (fun i : Nat => ([(10, .fn (.func 137) [] [.pt g.cs, .pt [lst 1 encBL [a]]]), (11, .sref 0 0 n), (73, .int n), (74, .int i)], [.cells 1 (mixL (fun j => enB (gB R j)) (List.replicate n [AC.bool false]) i)])) (fun i => i ≤ n) (fun i => n - i) 0 (by omega) ⟨[0], rfl, by decide, rfl, ⟨⟨rfl, rfl⟩, ⟨rfl, by simp only [← hn];rfl⟩, ⟨rfl, by simp only [← hn];rfl⟩, ⟨rfl, rfl⟩, trivial⟩, ⟨z57 (z84 (by rw [z156, ← hn];rfl)) (z7 (z4 fun _ => rfl) fun e he => z5 rfl e (List.mem_of_mem_drop he)), trivial⟩⟩ ?_
    intro i hi
    by_cases hil : i < n
    · have ci := hf i hil
      have hg : (mixL (fun j => enB (gB R j)) (List.replicate n [AC.bool false]) i)[i]? = some [AC.bool false] := by
        unfold mixL
        rw [List.getElem?_append_right (by simp)]
        simp only [List.length_map, List.length_range, Nat.sub_self]
        rw [List.getElem?_drop, Nat.add_zero, List.getElem?_replicate, if_pos hil]
      repeat' ((first|(apply AWP.go ok;rfl)|(apply z35;kernel_rfl)|(refine z80 (i := i) rfl hg ?_)|(apply And.intro;first|omega|(unfold inI;omega)|(dsimp only;omega)|((try dsimp only);simp only [List.length_map, List.length_take, List.length_append, List.length_replicate, List.length_cons, List.length_nil];omega)|exact z6 (fun _ => rfl)|exact ⟨rfl, z13 rfl z19⟩|exact ⟨rfl, z6 (fun _ => rfl) _⟩|exact ⟨⟨rfl, by omega⟩, z6 (fun _ => rfl) _⟩|(unfold z30;omega)|(simp only [z49] at *;first|omega|(unfold inI;omega)|(unfold z30;omega)))|((first|(with_reducible apply z9;omega)|(with_reducible apply z20;omega)|(apply z9;omega));intro _)|(apply z21;omega)|apply z28|(apply z27;omega;intro _)|((first|apply z26|apply z18|apply z25|apply z36|apply z16|apply z11|apply z17|apply z24) <;> intro _)|(apply z48 (ci);rfl;rfl)) <;> conv => whnf)
      all_goals first|(exfalso;omega)|skip
      all_goals exact z105 (i + 1) [0] (by omega) (by omega) ⟨rfl, by decide, rfl, ⟨⟨rfl, rfl⟩, ⟨rfl, rfl⟩, ⟨rfl, rfl⟩, ⟨rfl, rfl⟩, trivial⟩, ⟨z57 (z84 (z178 (by simpa using hil) (Int.toNat_natCast i) rfl)) (z7 (z4 fun _ => rfl) fun e he => z5 rfl e (List.mem_of_mem_drop he)), trivial⟩⟩
    · repeat' ((first|(apply AWP.go ok;rfl)|(apply z35;kernel_rfl)|(apply And.intro;first|omega|(unfold inI;omega)|(dsimp only;omega)|((try dsimp only);simp only [List.length_map, List.length_take, List.length_append, List.length_replicate, List.length_cons, List.length_nil];omega)|exact z6 (fun _ => rfl)|exact ⟨rfl, z13 rfl z19⟩|exact ⟨rfl, z6 (fun _ => rfl) _⟩|exact ⟨⟨rfl, by omega⟩, z6 (fun _ => rfl) _⟩|(unfold z30;omega)|(simp only [z49] at *;first|omega|(unfold inI;omega)|(unfold z30;omega)))|((first|(with_reducible apply z9;omega)|(with_reducible apply z20;omega)|(apply z9;omega));intro _)|(apply z21;omega)|apply z28|(apply z27;omega;intro _)|((first|apply z26|apply z18|apply z25|apply z36|apply z16|apply z11|apply z17|apply z24) <;> intro _)) <;> conv => whnf)
      all_goals first|(exfalso;omega)|skip
      all_goals
        have e0 : mixL (fun j => enB (gB R j)) (List.replicate n [AC.bool false]) i = R.map enB := by
          rw [z179 (by simp;omega), ← z159, hRl, show i = n by omega]
        rw [e0]
        exact z128 rfl (z4 fun _ => rfl) rfl rfl rfl
  · obtain ⟨a, b, rfl⟩ := len2 (hkl2.trans hl)
    have ha := hklen a (by simp)
    have hb := hklen b (by simp)
    rw [if_neg (by omega), if_neg (by omega), if_pos hk] at hRe
    have cf := z365 [lst 1 encBL [a, b]] g.cs g (by omega) false (unH g.nx false a b) (by rw [hn];exact z268 hin a b) 128 (fun i S hi hS => sat2_ok g hG a b (ha.trans hn.symm) (hb.trans hn.symm) i S hi hS)
    rw [hn] at cf
    repeat' ((first|(apply AWP.go ok;rfl)|(apply z35;kernel_rfl)|(apply And.intro;first|omega|(unfold inI;omega)|(dsimp only;omega)|((try dsimp only);simp only [List.length_map, List.length_take, List.length_append, List.length_replicate, List.length_cons, List.length_nil];omega)|exact z6 (fun _ => rfl)|exact ⟨rfl, z13 rfl z19⟩|exact ⟨rfl, z6 (fun _ => rfl) _⟩|exact ⟨⟨rfl, by omega⟩, z6 (fun _ => rfl) _⟩|(unfold z30;omega)|(simp only [z49] at *;first|omega|(unfold inI;omega)|(unfold z30;omega)))|((first|(with_reducible apply z9;omega)|(with_reducible apply z20;omega)|(apply z9;omega));intro _)|(apply z21;omega)|apply z28|(apply z27;omega;intro _)|((first|apply z26|apply z18|apply z25|apply z36|apply z16|apply z11|apply z17|apply z24) <;> intro _)|((first|(apply z29 [] [] [0] (cf);rfl;(focus ((repeat' first|exact z15|apply z12) <;> first|rfl|(refine z22 rfl ?_;(first|exact z4 fun _ => rfl|exact z10|exact z5 rfl|(apply z7 <;> exact z4 fun _ => rfl)|assumption))))));rfl;rfl;rfl;rfl;rfl;(focus ((repeat' first|exact z66|apply z56) <;> first|exact z68|exact z71 rfl rfl|(refine z67 ?_;(first|exact z4 fun _ => rfl|exact z10|exact z5 rfl|(apply z7 <;> exact z4 fun _ => rfl)|assumption))));(first|exact .inl rfl|(refine .inr ⟨rfl, ?_⟩;repeat' first|exact True.intro|apply And.intro|exact rfl|exact z39 (fun _ => rfl) _)))) <;> conv => whnf)
    all_goals first|(exfalso;omega)|skip
    rw [hRe]
    exact z128 rfl (z4 fun _ => rfl) rfl rfl rfl
  · obtain ⟨a, rfl⟩ := len1 (hkl2.trans hl)
    have ha := hklen a (by simp)
    rw [if_neg (by omega), if_neg (by omega), if_neg (by omega), if_neg (by omega), if_pos hk] at hRe
    have cf := z365 [lst 1 encBL [a]] g.cs g (by omega) true (alH g.nx false a) (by rw [hn];exact z248 hin a) 129 (fun i S hi hS => sat3_ok g hG a (ha.trans hn.symm) i S hi hS)
    rw [hn] at cf
    repeat' ((first|(apply AWP.go ok;rfl)|(apply z35;kernel_rfl)|(apply And.intro;first|omega|(unfold inI;omega)|(dsimp only;omega)|((try dsimp only);simp only [List.length_map, List.length_take, List.length_append, List.length_replicate, List.length_cons, List.length_nil];omega)|exact z6 (fun _ => rfl)|exact ⟨rfl, z13 rfl z19⟩|exact ⟨rfl, z6 (fun _ => rfl) _⟩|exact ⟨⟨rfl, by omega⟩, z6 (fun _ => rfl) _⟩|(unfold z30;omega)|(simp only [z49] at *;first|omega|(unfold inI;omega)|(unfold z30;omega)))|((first|(with_reducible apply z9;omega)|(with_reducible apply z20;omega)|(apply z9;omega));intro _)|(apply z21;omega)|apply z28|(apply z27;omega;intro _)|((first|apply z26|apply z18|apply z25|apply z36|apply z16|apply z11|apply z17|apply z24) <;> intro _)|((first|(apply z29 [] [] [0] (cf);rfl;(focus ((repeat' first|exact z15|apply z12) <;> first|rfl|(refine z22 rfl ?_;(first|exact z4 fun _ => rfl|exact z10|exact z5 rfl|(apply z7 <;> exact z4 fun _ => rfl)|assumption))))));rfl;rfl;rfl;rfl;rfl;(focus ((repeat' first|exact z66|apply z56) <;> first|exact z68|exact z71 rfl rfl|(refine z67 ?_;(first|exact z4 fun _ => rfl|exact z10|exact z5 rfl|(apply z7 <;> exact z4 fun _ => rfl)|assumption))));(first|exact .inl rfl|(refine .inr ⟨rfl, ?_⟩;repeat' first|exact True.intro|apply And.intro|exact rfl|exact z39 (fun _ => rfl) _)))) <;> conv => whnf)
    all_goals first|(exfalso;omega)|skip
    rw [hRe]
    exact z128 rfl (z4 fun _ => rfl) rfl rfl rfl
  · obtain ⟨a, rfl⟩ := len1 (hkl2.trans hl)
    have ha := hklen a (by simp)
    rw [if_neg (by omega), if_pos hk] at hRe
    have hf : ∀ i, i < n → CallsA Tryz.prog 138 ([.int i] ++ [.pt g.cs, .pt [lst 1 encBL [a]]]) [] (.bool (gB R i)) [] := fun i hi => by
      rw [hRe, z596 _ _ _ _ _ hi]
      exact (sat11_ok g hG a (ha.trans hn.symm) i (by omega))
    repeat' ((first|(apply AWP.go ok;rfl)|(apply z35;kernel_rfl)|(apply And.intro;first|omega|(unfold inI;omega)|(dsimp only;omega)|((try dsimp only);simp only [List.length_map, List.length_take, List.length_append, List.length_replicate, List.length_cons, List.length_nil];omega)|exact z6 (fun _ => rfl)|exact ⟨rfl, z13 rfl z19⟩|exact ⟨rfl, z6 (fun _ => rfl) _⟩|exact ⟨⟨rfl, by omega⟩, z6 (fun _ => rfl) _⟩|(unfold z30;omega)|(simp only [z49] at *;first|omega|(unfold inI;omega)|(unfold z30;omega)))|((first|(with_reducible apply z9;omega)|(with_reducible apply z20;omega)|(apply z9;omega));intro _)|(apply z21;omega)|apply z28|(apply z27;omega;intro _)|((first|apply z26|apply z18|apply z25|apply z36|apply z16|apply z11|apply z17|apply z24) <;> intro _)) <;> conv => whnf)
    all_goals first|(exfalso;omega)|skip
    refine z116 (fun i : Nat => ([(10, .fn (.func 138) [] [.pt g.cs, .pt [lst 1 encBL [a]]]), (11, .sref 0 0 n), (73, .int n), (74, .int i)], [.cells 1 (mixL (fun j => enB (gB R j)) (List.replicate n [AC.bool false]) i)])) (fun i => i ≤ n) (fun i => n - i) 0 (by omega) ⟨[0], rfl, by decide, rfl, ⟨⟨rfl, rfl⟩, ⟨rfl, by simp only [← hn];rfl⟩, ⟨rfl, by simp only [← hn];rfl⟩, ⟨rfl, rfl⟩, trivial⟩, ⟨z57 (z84 (by rw [z156, ← hn];rfl)) (z7 (z4 fun _ => rfl) fun e he => z5 rfl e (List.mem_of_mem_drop he)), trivial⟩⟩ ?_
    intro i hi
    by_cases hil : i < n
    · have ci := hf i hil
      have hg : (mixL (fun j => enB (gB R j)) (List.replicate n [AC.bool false]) i)[i]? = some [AC.bool false] := by
        unfold mixL
        rw [List.getElem?_append_right (by simp)]
        simp only [List.length_map, List.length_range, Nat.sub_self]
        rw [List.getElem?_drop, Nat.add_zero, List.getElem?_replicate, if_pos hil]
      repeat' ((first|(apply AWP.go ok;rfl)|(apply z35;kernel_rfl)|(refine z80 (i := i) rfl hg ?_)|(apply And.intro;first|omega|(unfold inI;omega)|(dsimp only;omega)|((try dsimp only);simp only [List.length_map, List.length_take, List.length_append, List.length_replicate, List.length_cons, List.length_nil];omega)|exact z6 (fun _ => rfl)|exact ⟨rfl, z13 rfl z19⟩|exact ⟨rfl, z6 (fun _ => rfl) _⟩|exact ⟨⟨rfl, by omega⟩, z6 (fun _ => rfl) _⟩|(unfold z30;omega)|(simp only [z49] at *;first|omega|(unfold inI;omega)|(unfold z30;omega)))|((first|(with_reducible apply z9;omega)|(with_reducible apply z20;omega)|(apply z9;omega));intro _)|(apply z21;omega)|apply z28|(apply z27;omega;intro _)|((first|apply z26|apply z18|apply z25|apply z36|apply z16|apply z11|apply z17|apply z24) <;> intro _)|(apply z48 (ci);rfl;rfl)) <;> conv => whnf)
      all_goals first|(exfalso;omega)|skip
      all_goals exact z105 (i + 1) [0] (by omega) (by omega) ⟨rfl, by decide, rfl, ⟨⟨rfl, rfl⟩, ⟨rfl, rfl⟩, ⟨rfl, rfl⟩, ⟨rfl, rfl⟩, trivial⟩, ⟨z57 (z84 (z178 (by simpa using hil) (Int.toNat_natCast i) rfl)) (z7 (z4 fun _ => rfl) fun e he => z5 rfl e (List.mem_of_mem_drop he)), trivial⟩⟩
    · repeat' ((first|(apply AWP.go ok;rfl)|(apply z35;kernel_rfl)|(apply And.intro;first|omega|(unfold inI;omega)|(dsimp only;omega)|((try dsimp only);simp only [List.length_map, List.length_take, List.length_append, List.length_replicate, List.length_cons, List.length_nil];omega)|exact z6 (fun _ => rfl)|exact ⟨rfl, z13 rfl z19⟩|exact ⟨rfl, z6 (fun _ => rfl) _⟩|exact ⟨⟨rfl, by omega⟩, z6 (fun _ => rfl) _⟩|(unfold z30;omega)|(simp only [z49] at *;first|omega|(unfold inI;omega)|(unfold z30;omega)))|((first|(with_reducible apply z9;omega)|(with_reducible apply z20;omega)|(apply z9;omega));intro _)|(apply z21;omega)|apply z28|(apply z27;omega;intro _)|((first|apply z26|apply z18|apply z25|apply z36|apply z16|apply z11|apply z17|apply z24) <;> intro _)) <;> conv => whnf)
      all_goals first|(exfalso;omega)|skip
      all_goals
        have e0 : mixL (fun j => enB (gB R j)) (List.replicate n [AC.bool false]) i = R.map enB := by
          rw [z179 (by simp;omega), ← z159, hRl, show i = n by omega]
        rw [e0]
        exact z128 rfl (z4 fun _ => rfl) rfl rfl rfl
  · obtain ⟨a, b, rfl⟩ := len2 (hkl2.trans hl)
    have ha := hklen a (by simp)
    have hb := hklen b (by simp)
    rw [if_neg (by omega), if_neg (by omega), if_neg (by omega), if_pos hk] at hRe
    have cf := z365 [lst 1 encBL [a, b]] g.cs g (by omega) false (unH g.nx true a b) (by rw [hn];exact z268 hin a b) 130 (fun i S hi hS => sat4_ok g hG a b (ha.trans hn.symm) (hb.trans hn.symm) i S hi hS)
    rw [hn] at cf
    repeat' ((first|(apply AWP.go ok;rfl)|(apply z35;kernel_rfl)|(apply And.intro;first|omega|(unfold inI;omega)|(dsimp only;omega)|((try dsimp only);simp only [List.length_map, List.length_take, List.length_append, List.length_replicate, List.length_cons, List.length_nil];omega)|exact z6 (fun _ => rfl)|exact ⟨rfl, z13 rfl z19⟩|exact ⟨rfl, z6 (fun _ => rfl) _⟩|exact ⟨⟨rfl, by omega⟩, z6 (fun _ => rfl) _⟩|(unfold z30;omega)|(simp only [z49] at *;first|omega|(unfold inI;omega)|(unfold z30;omega)))|((first|(with_reducible apply z9;omega)|(with_reducible apply z20;omega)|(apply z9;omega));intro _)|(apply z21;omega)|apply z28|(apply z27;omega;intro _)|((first|apply z26|apply z18|apply z25|apply z36|apply z16|apply z11|apply z17|apply z24) <;> intro _)|((first|(apply z29 [] [] [0] (cf);rfl;(focus ((repeat' first|exact z15|apply z12) <;> first|rfl|(refine z22 rfl ?_;(first|exact z4 fun _ => rfl|exact z10|exact z5 rfl|(apply z7 <;> exact z4 fun _ => rfl)|assumption))))));rfl;rfl;rfl;rfl;rfl;(focus ((repeat' first|exact z66|apply z56) <;> first|exact z68|exact z71 rfl rfl|(refine z67 ?_;(first|exact z4 fun _ => rfl|exact z10|exact z5 rfl|(apply z7 <;> exact z4 fun _ => rfl)|assumption))));(first|exact .inl rfl|(refine .inr ⟨rfl, ?_⟩;repeat' first|exact True.intro|apply And.intro|exact rfl|exact z39 (fun _ => rfl) _)))) <;> conv => whnf)
    all_goals first|(exfalso;omega)|skip
    rw [hRe]
    exact z128 rfl (z4 fun _ => rfl) rfl rfl rfl
  · obtain ⟨a, rfl⟩ := len1 (hkl2.trans hl)
    have ha := hklen a (by simp)
    rw [if_neg (by omega), if_neg (by omega), if_neg (by omega), if_neg (by omega), if_neg (by omega), if_pos hk] at hRe
    have cf := z365 [lst 1 encBL [a]] g.cs g (by omega) true (alH g.nx true a) (by rw [hn];exact z248 hin a) 132 (fun i S hi hS => sat5_ok g hG a (ha.trans hn.symm) i S hi hS)
    rw [hn] at cf
    repeat' ((first|(apply AWP.go ok;rfl)|(apply z35;kernel_rfl)|(apply And.intro;first|omega|(unfold inI;omega)|(dsimp only;omega)|((try dsimp only);simp only [List.length_map, List.length_take, List.length_append, List.length_replicate, List.length_cons, List.length_nil];omega)|exact z6 (fun _ => rfl)|exact ⟨rfl, z13 rfl z19⟩|exact ⟨rfl, z6 (fun _ => rfl) _⟩|exact ⟨⟨rfl, by omega⟩, z6 (fun _ => rfl) _⟩|(unfold z30;omega)|(simp only [z49] at *;first|omega|(unfold inI;omega)|(unfold z30;omega)))|((first|(with_reducible apply z9;omega)|(with_reducible apply z20;omega)|(apply z9;omega));intro _)|(apply z21;omega)|apply z28|(apply z27;omega;intro _)|((first|apply z26|apply z18|apply z25|apply z36|apply z16|apply z11|apply z17|apply z24) <;> intro _)|((first|(apply z29 [] [] [0] (cf);rfl;(focus ((repeat' first|exact z15|apply z12) <;> first|rfl|(refine z22 rfl ?_;(first|exact z4 fun _ => rfl|exact z10|exact z5 rfl|(apply z7 <;> exact z4 fun _ => rfl)|assumption))))));rfl;rfl;rfl;rfl;rfl;(focus ((repeat' first|exact z66|apply z56) <;> first|exact z68|exact z71 rfl rfl|(refine z67 ?_;(first|exact z4 fun _ => rfl|exact z10|exact z5 rfl|(apply z7 <;> exact z4 fun _ => rfl)|assumption))));(first|exact .inl rfl|(refine .inr ⟨rfl, ?_⟩;repeat' first|exact True.intro|apply And.intro|exact rfl|exact z39 (fun _ => rfl) _)))) <;> conv => whnf)
    all_goals first|(exfalso;omega)|skip
    rw [hRe]
    exact z128 rfl (z4 fun _ => rfl) rfl rfl rfl
end Go.Proofs.YtppafngcahgagaaGreat

