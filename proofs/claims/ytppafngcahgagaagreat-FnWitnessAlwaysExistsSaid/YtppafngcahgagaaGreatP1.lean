/- A part of the proofs over this program: T15, T16, T17, T18, T19, T20, T21, T22. -/
import Derived.Test.YtppafngcahgagaaGreatG0
import Derived.Test.YtppafngcahgagaaGreatG1
import Derived.Test.YtppafngcahgagaaGreatG2
import Derived.Test.YtppafngcahgagaaGreatP0
set_option linter.all false
namespace Go.Proofs.YtppafngcahgagaaGreat
open Go.Gl
attribute [local irreducible] z85 AWP z100 z108 z104
theorem z361 (l : List Int) (hl : l.length ≤ maxLen) (v : Int) : CallsA Tryz.prog 66 [ints l, .int v] [] (.int (idxF (fun x => decide (v = x)) l)) [] := by
  unfold maxLen at hl
  refine z58 z82 Tryz.func66 rfl rfl 19 Tryz.ntmps66 (by simp) ?_
  repeat' ((first|(apply AWP.go ok;rfl)|(apply z35;kernel_rfl)|(apply And.intro;first|omega|(unfold inI;omega)|(dsimp only;omega)|((try dsimp only);simp only [List.length_map, List.length_take, List.length_append, List.length_replicate, List.length_cons, List.length_nil];omega)|exact z6 (fun _ => rfl)|exact ⟨rfl, z13 rfl z19⟩|exact ⟨rfl, z6 (fun _ => rfl) _⟩|exact ⟨⟨rfl, by omega⟩, z6 (fun _ => rfl) _⟩|(unfold z30;omega)|(simp only [z49] at *;first|omega|(unfold inI;omega)|(unfold z30;omega)))|((first|(with_reducible apply z9;omega)|(with_reducible apply z20;omega)|(apply z9;omega));intro _)|(apply z21;omega)|apply z28|(apply z27;omega;intro _)|((first|apply z26|apply z18|apply z25|apply z36|apply z16|apply z11|apply z17|apply z24) <;> intro _)) <;> conv => whnf)
  refine z116 (fun k : Nat => ([(0, ints l), (1, .int v), (7, .int l.length), (8, .int k)], [])) (fun k => k ≤ l.length ∧ ∀ j (hj : j < l.length), j < k → decide (v = l[j]) = false) (fun k => l.length - k) 0 (by simp)
    ⟨[], rfl, by decide, rfl, ⟨⟨rfl, rfl⟩, ⟨rfl, rfl⟩, ⟨rfl, rfl⟩, ⟨rfl, rfl⟩, trivial⟩, trivial⟩ ?_
  intro k hk
  repeat' ((first|(apply AWP.go ok;rfl)|(apply z35;kernel_rfl)|(apply And.intro;first|omega|(unfold inI;omega)|(dsimp only;omega)|((try dsimp only);simp only [List.length_map, List.length_take, List.length_append, List.length_replicate, List.length_cons, List.length_nil];omega)|exact z6 (fun _ => rfl)|exact ⟨rfl, z13 rfl z19⟩|exact ⟨rfl, z6 (fun _ => rfl) _⟩|exact ⟨⟨rfl, by omega⟩, z6 (fun _ => rfl) _⟩|(unfold z30;omega)|(simp only [z49] at *;first|omega|(unfold inI;omega)|(unfold z30;omega)))|((first|(with_reducible apply z9;omega)|(with_reducible apply z20;omega)|(apply z9;omega));intro _)|(apply z21;omega)|apply z28|(apply z27;omega;intro _)|((first|apply z26|apply z18|apply z25|apply z36|apply z16|apply z11|apply z17|apply z24) <;> intro _)) <;> conv => whnf)
  · rename_i h h1
    exact z87 rfl rfl (by rw [z200 (p := fun x => decide (v = x)) (by omega) (decide_eq_true h1) hk.2];rfl)
  · rename_i h h1
    refine z105 (k + 1) [] ⟨by omega, fun j hj hjk => ?_⟩ (by omega) ⟨rfl, by decide, rfl, ⟨⟨rfl, rfl⟩, ⟨rfl, rfl⟩, ⟨rfl, rfl⟩, ⟨rfl, rfl⟩, trivial⟩, trivial⟩
    rcases Nat.lt_or_ge j k with h2|h2
    · exact hk.2 j hj h2
    · obtain rfl : j = k := by omega
      exact decide_eq_false h1
  · exact z87 rfl rfl (by rw [z201 (p := fun x => decide (v = x)) fun j hj => hk.2 j hj (by omega)];rfl)
theorem z399 (l : List Int) (hl : l.length ≤ maxLen) (v : Int) : CallsA Tryz.prog 84 [ints l, .int v] [] (.bool (decide (v ∈ l))) [] := by
  refine z58 z82 Tryz.func84 rfl rfl 9 Tryz.ntmps84 (by simp) ?_
  repeat' ((first|(apply AWP.go ok;rfl)|(apply z35;kernel_rfl)|(apply And.intro;first|omega|(unfold inI;omega)|(dsimp only;omega)|((try dsimp only);simp only [List.length_map, List.length_take, List.length_append, List.length_replicate, List.length_cons, List.length_nil];omega)|exact z6 (fun _ => rfl)|exact ⟨rfl, z13 rfl z19⟩|exact ⟨rfl, z6 (fun _ => rfl) _⟩|exact ⟨⟨rfl, by omega⟩, z6 (fun _ => rfl) _⟩|(unfold z30;omega)|(simp only [z49] at *;first|omega|(unfold inI;omega)|(unfold z30;omega)))|((first|(with_reducible apply z9;omega)|(with_reducible apply z20;omega)|(apply z9;omega));intro _)|(apply z21;omega)|apply z28|(apply z27;omega;intro _)|((first|apply z26|apply z18|apply z25|apply z36|apply z16|apply z11|apply z17|apply z24) <;> intro _)|(apply z48 (z361 l hl v);rfl;rfl)) <;> conv => whnf)
  have e : decide (v ∈ l) = l.any (fun x => decide (v = x)) := by
    rw [Bool.eq_iff_iff];simp
  exact z81 rfl (by rw [e, ← z181])
theorem z241 {α : Type} (w : Nat) (e : α → List AC) (l : List α) (k : Nat) (hk : k ≤ l.length) : AC.list w ((k : Int).toNat - (0 : Int).toNat) (((l.map e).drop (0 : Int).toNat).take ((k : Int).toNat - (0 : Int).toNat)) = lst w e (l.take k) := by
  unfold lst
  rw [List.length_take, List.map_take]
  simp only [Int.toNat_natCast, Int.toNat_zero, Nat.sub_zero, List.drop_zero]
  rw [Nat.min_eq_left hk]
def Distinct (l : List Int) (n : Int) (k : Nat) : Prop := ∀ i (h : i < l.length), i < k → (0 ≤ l[i] ∧ l[i] ≤ n - 1) ∧ l[i] ∉ l.take i
noncomputable instance {l : List Int} {n : Int} {k : Nat} : Decidable (Distinct l n k) := Classical.propDecidable _
theorem z566 (l : List Int) (hl : l.length ≤ maxLen) (n : Int) (h0 : 0 ≤ n) (h1 : n ≤ maxLen) : CallsA Tryz.prog 122 [ints l, .int n] [] (.bool (decide (Distinct l n l.length))) [] := by
  have hl' := hl
  unfold maxLen at hl' h1
  refine z58 z82 Tryz.func122 rfl rfl 27 Tryz.ntmps122 (by simp) ?_
  repeat' ((first|(apply AWP.go ok;rfl)|(apply z35;kernel_rfl)|(apply And.intro;first|omega|(unfold inI;omega)|(dsimp only;omega)|((try dsimp only);simp only [List.length_map, List.length_take, List.length_append, List.length_replicate, List.length_cons, List.length_nil];omega)|exact z6 (fun _ => rfl)|exact ⟨rfl, z13 rfl z19⟩|exact ⟨rfl, z6 (fun _ => rfl) _⟩|exact ⟨⟨rfl, by omega⟩, z6 (fun _ => rfl) _⟩|(unfold z30;omega)|(simp only [z49] at *;first|omega|(unfold inI;omega)|(unfold z30;omega)))|((first|(with_reducible apply z9;omega)|(with_reducible apply z20;omega)|(apply z9;omega));intro _)|(apply z21;omega)|apply z28|(apply z27;omega;intro _)|((first|apply z26|apply z18|apply z25|apply z36|apply z16|apply z11|apply z17|apply z24) <;> intro _)) <;> conv => whnf)
  refine z116 (fun k : Nat => ([(0, ints l), (1, .int n), (7, ints l), (8, .int l.length), (9, .int k)], [])) (fun k => k ≤ l.length ∧ Distinct l n k) (fun k => l.length - k) 0 ⟨by omega, fun i h hi => by omega⟩
    ⟨[], rfl, by decide, rfl, ⟨⟨rfl, rfl⟩, ⟨rfl, rfl⟩, ⟨rfl, rfl⟩, ⟨rfl, rfl⟩, ⟨rfl, rfl⟩, trivial⟩, trivial⟩ ?_
  intro k hk
  repeat' ((first|(apply AWP.go ok;rfl)|(apply z35;kernel_rfl)|(apply And.intro;first|omega|(unfold inI;omega)|(dsimp only;omega)|((try dsimp only);simp only [List.length_map, List.length_take, List.length_append, List.length_replicate, List.length_cons, List.length_nil];omega)|exact z6 (fun _ => rfl)|exact ⟨rfl, z13 rfl z19⟩|exact ⟨rfl, z6 (fun _ => rfl) _⟩|exact ⟨⟨rfl, by omega⟩, z6 (fun _ => rfl) _⟩|(unfold z30;omega)|(simp only [z49] at *;first|omega|(unfold inI;omega)|(unfold z30;omega)))|((first|(with_reducible apply z9;omega)|(with_reducible apply z20;omega)|(apply z9;omega));intro _)|(apply z21;omega)|apply z28|(apply z27;omega;intro _)|((first|apply z26|apply z18|apply z25|apply z36|apply z16|apply z11|apply z17|apply z24) <;> intro _)|(apply z48 (z364 l[k] 0 (n - 1));rfl;rfl)) <;> conv => whnf)
  · rename_i hb
    refine z81 rfl (decide_eq_false fun hd => ?_)
    have := (hd k ‹_› ‹_›).1
    rw [z369] at hb
    exact hb this
  · rename_i hb
    apply z48 (z399 (l.take k) (by rw [List.length_take];omega) l[k])
    · show _ = [AC.list 1 _ _, _]
      rw [show AC.list 1 (l.take k).length ((l.take k).map enI) = _ from (z241 1 enI l k hk.1).symm]
      rfl
    · rfl
    conv => whnf
    repeat' ((first|(apply AWP.go ok;rfl)|(apply z35;kernel_rfl)|(apply And.intro;first|omega|(unfold inI;omega)|(dsimp only;omega)|((try dsimp only);simp only [List.length_map, List.length_take, List.length_append, List.length_replicate, List.length_cons, List.length_nil];omega)|exact z6 (fun _ => rfl)|exact ⟨rfl, z13 rfl z19⟩|exact ⟨rfl, z6 (fun _ => rfl) _⟩|exact ⟨⟨rfl, by omega⟩, z6 (fun _ => rfl) _⟩|(unfold z30;omega)|(simp only [z49] at *;first|omega|(unfold inI;omega)|(unfold z30;omega)))|((first|(with_reducible apply z9;omega)|(with_reducible apply z20;omega)|(apply z9;omega));intro _)|(apply z21;omega)|apply z28|(apply z27;omega;intro _)|((first|apply z26|apply z18|apply z25|apply z36|apply z16|apply z11|apply z17|apply z24) <;> intro _)) <;> conv => whnf)
    · rename_i h2
      exact z81 rfl (decide_eq_false fun hd => (hd k ‹_› ‹_›).2 h2)
    · rename_i h2
      refine z105 (k + 1) [] ⟨by omega, fun i hi hik => ?_⟩ (by omega) ⟨rfl, by decide, rfl, ⟨⟨rfl, rfl⟩, ⟨rfl, rfl⟩, ⟨rfl, rfl⟩, ⟨rfl, rfl⟩, ⟨rfl, rfl⟩, trivial⟩, trivial⟩
      rcases Nat.lt_or_ge i k with h3|h3
      · exact hk.2 i hi h3
      · obtain rfl : i = k := by omega
        exact ⟨z49.1 hb, h2⟩
  · exact z81 rfl (decide_eq_true fun i h hi => hk.2 i h (by omega))
end Go.Proofs.YtppafngcahgagaaGreat

namespace Go.Proofs.YtppafngcahgagaaGreat
open Go.Gl
attribute [local irreducible] z85 AWP z100 z108 z104
theorem z395 (s : State) (hs : s.mx) : CallsA Tryz.prog 118 [z88 State.cs s] [] (.bool (!z262 s.b)) [] := by
  refine z58 z82 Tryz.func118 rfl rfl 7 Tryz.ntmps118 (by simp) ?_
  repeat' (first|(apply AWP.go ok;rfl;conv => whnf)|(apply z35;kernel_rfl;conv => whnf)|(apply And.intro;(first|omega|(unfold inI;omega)|(dsimp only;omega)|(unfold z30;omega)|((try dsimp only);simp only [List.length_map, List.length_take, List.length_append, List.length_replicate, List.length_cons, List.length_nil];omega)|(simp only [z49] at *;first|omega|(unfold inI;omega)|(unfold z30;omega))|exact z6 (fun _ => rfl)|exact ⟨rfl, z13 rfl z19⟩|exact ⟨rfl, z6 (fun _ => rfl) _⟩|exact ⟨⟨rfl, by omega⟩, z6 (fun _ => rfl) _⟩);conv => whnf)|(with_reducible apply z9;omega;intro _;conv => whnf)|(with_reducible apply z20;omega;intro _;conv => whnf)|(apply z9;omega;intro _;conv => whnf)|(apply z21;omega;conv => whnf)|(apply z28;conv => whnf)|(apply z27;omega;intro _;conv => whnf)|(apply z26 <;> intro _ <;> conv => whnf)|(apply z18 <;> intro _ <;> conv => whnf)|(apply z25 <;> intro _ <;> conv => whnf)|(apply z36 <;> intro _ <;> conv => whnf)|(apply z16 <;> intro _ <;> conv => whnf)|(apply z11 <;> intro _ <;> conv => whnf)|(apply z17 <;> intro _ <;> conv => whnf)|(apply z24 <;> intro _ <;> conv => whnf)|(apply z48 (z660 s.b hs.2);rfl;rfl;conv => whnf))
  exact z81 rfl rfl
noncomputable def z464 (n : Int) (l : List Int) : Bool := !decide ((l.length : Int) = 0) && decide (Distinct l n l.length)
theorem z394 (c : Int) (h0 : 0 ≤ c) (h1 : c ≤ maxLen) (l : List Int) (hl : l.length ≤ maxLen) : CallsA Tryz.prog 121 [ints l, .pt [.int c]] [] (.bool (!z464 c l)) [] := by
  have hl' := hl
  unfold maxLen at hl'
  refine z58 z82 Tryz.func121 rfl rfl 13 Tryz.ntmps121 (by simp) ?_
  repeat' (first|(apply AWP.go ok;rfl;conv => whnf)|(apply z35;kernel_rfl;conv => whnf)|(apply And.intro;(first|omega|(unfold inI;omega)|(dsimp only;omega)|(unfold z30;omega)|((try dsimp only);simp only [List.length_map, List.length_take, List.length_append, List.length_replicate, List.length_cons, List.length_nil];omega)|(simp only [z49] at *;first|omega|(unfold inI;omega)|(unfold z30;omega))|exact z6 (fun _ => rfl)|exact ⟨rfl, z13 rfl z19⟩|exact ⟨rfl, z6 (fun _ => rfl) _⟩|exact ⟨⟨rfl, by omega⟩, z6 (fun _ => rfl) _⟩);conv => whnf)|(with_reducible apply z9;omega;intro _;conv => whnf)|(with_reducible apply z20;omega;intro _;conv => whnf)|(apply z9;omega;intro _;conv => whnf)|(apply z21;omega;conv => whnf)|(apply z28;conv => whnf)|(apply z27;omega;intro _;conv => whnf)|(apply z26 <;> intro _ <;> conv => whnf)|(apply z18 <;> intro _ <;> conv => whnf)|(apply z25 <;> intro _ <;> conv => whnf)|(apply z36 <;> intro _ <;> conv => whnf)|(apply z16 <;> intro _ <;> conv => whnf)|(apply z11 <;> intro _ <;> conv => whnf)|(apply z17 <;> intro _ <;> conv => whnf)|(apply z24 <;> intro _ <;> conv => whnf)|(apply z48 (z566 l hl c h0 h1);rfl;rfl;conv => whnf))
  all_goals (refine z81 rfl ?_;first|rfl|(unfold z464;simp [*];done)|(unfold z464;simp_all;done)|(unfold z464;simp_all;omega))
end Go.Proofs.YtppafngcahgagaaGreat

namespace Go.Proofs.YtppafngcahgagaaGreat
open Go.Gl
attribute [local irreducible] z85 AWP z100 z108 z104
def Graph.mx (g : Graph) : Prop := State.mxs g.st ∧ g.nx.length ≤ maxLen ∧ ∀ l ∈ g.nx, l.length ≤ maxLen
noncomputable def z232 (g : Graph) : Bool := btw g.st.length 1 60 && (decide ((g.nx.length : Int) = g.st.length) && (!(g.st.any fun s => !z262 s.b) && !(g.nx.any fun l => !z464 g.st.length l)))
theorem z278 (g : Graph) (hg : g.mx) : CallsA Tryz.prog 54 [.agg g.cs] [] (.bool (z232 g)) [] := by
  obtain ⟨hs, hn, hm⟩ := hg
  have hl1 := hs.1
  unfold maxLen at hl1
  have k1 := z281 g.st hs.1 (fun s => !z262 s.b) 118 (fun s hx => z395 s (hs.2 s hx))
  have k2 := z282 (g.st.length : Int) g.nx hn (fun l => !z464 g.st.length l) 121 (fun l hx => z394 _ (by omega) (by unfold maxLen;omega) l (hm l hx))
  refine z58 z82 Tryz.func54 rfl rfl 29 Tryz.ntmps54 (by simp) ?_
  repeat' (first|(apply AWP.go ok;rfl;conv => whnf)|(apply z35;kernel_rfl;conv => whnf)|(apply And.intro;(first|omega|(unfold inI;omega)|(dsimp only;omega)|(unfold z30;omega)|((try dsimp only);simp only [List.length_map, List.length_take, List.length_append, List.length_replicate, List.length_cons, List.length_nil];omega)|(simp only [z49] at *;first|omega|(unfold inI;omega)|(unfold z30;omega))|exact z6 (fun _ => rfl)|exact ⟨rfl, z13 rfl z19⟩|exact ⟨rfl, z6 (fun _ => rfl) _⟩|exact ⟨⟨rfl, by omega⟩, z6 (fun _ => rfl) _⟩);conv => whnf)|(with_reducible apply z9;omega;intro _;conv => whnf)|(with_reducible apply z20;omega;intro _;conv => whnf)|(apply z9;omega;intro _;conv => whnf)|(apply z21;omega;conv => whnf)|(apply z28;conv => whnf)|(apply z27;omega;intro _;conv => whnf)|(apply z26 <;> intro _ <;> conv => whnf)|(apply z18 <;> intro _ <;> conv => whnf)|(apply z25 <;> intro _ <;> conv => whnf)|(apply z36 <;> intro _ <;> conv => whnf)|(apply z16 <;> intro _ <;> conv => whnf)|(apply z11 <;> intro _ <;> conv => whnf)|(apply z17 <;> intro _ <;> conv => whnf)|(apply z24 <;> intro _ <;> conv => whnf)|(apply z48 (z364 (g.st.length : Int) 1 60);rfl;rfl;conv => whnf)|(apply z48 (k1);rfl;rfl;conv => whnf)|(apply z443 [1] (k2);rfl;rfl;rfl;rfl;conv => whnf))
  all_goals (refine z81 rfl ?_;first|rfl|(unfold z232;simp [*];done)|(unfold z232;simp_all;done)|(unfold z232;simp_all;omega))
end Go.Proofs.YtppafngcahgagaaGreat

namespace Go.Proofs.YtppafngcahgagaaGreat
open Go.Gl
attribute [local irreducible] z85 AWP z100 z108 z104
theorem z280 {d : Int} (l : List Tree) (hl : l.length ≤ maxLen) (p : Tree → Int → Bool) (nx : Tree → Int → Int) (okS : Int → Prop) (hok : ∀ x s, okS s → p x s = false → okS (nx x s)) (f : FuncId) (s : Int) (h0 : okS s)
    (hf : ∀ x ∈ l, ∀ s, okS s → CallsA Tryz.prog f [z88 Tree.cs' x, .pt [.int d], .ptr 1 none 0] [.cells 1 [[.int s]], .cells 1 [[.ptr 0 none 0]]] (.bool (p x s)) [.cells 1 [[.int (nx x s)]], .cells 1 [[.ptr 0 none 0]]]) :
    CallsA Tryz.prog 184 [lst 3 Tree.cs' l, .fn (.func f) [] [.pt [.int d], .ptr 1 none 0]] [.cells 1 [[.int s]], .cells 1 [[.ptr 0 none 0]]] (.int (idxS p nx l s 0).1) [.cells 1 [[.int (idxS p nx l s 0).2]], .cells 1 [[.ptr 0 none 0]]] := by
  unfold maxLen at hl
  refine z58 z82 Tryz.func184 rfl rfl 19 Tryz.ntmps184 (by simp) ?_
  repeat' ((first|(apply AWP.go ok;rfl)|(apply z35;kernel_rfl)|(apply And.intro;first|omega|(unfold inI;omega)|(dsimp only;omega)|((try dsimp only);simp only [List.length_map, List.length_take, List.length_append, List.length_replicate, List.length_cons, List.length_nil];omega)|exact z6 (fun _ => rfl)|exact ⟨rfl, z13 rfl z19⟩|exact ⟨rfl, z6 (fun _ => rfl) _⟩|exact ⟨⟨rfl, by omega⟩, z6 (fun _ => rfl) _⟩|(unfold z30;omega)|(simp only [z49] at *;first|omega|(unfold inI;omega)|(unfold z30;omega)))|((first|(with_reducible apply z9;omega)|(with_reducible apply z20;omega)|(apply z9;omega));intro _)|(apply z21;omega)|apply z28|(apply z27;omega;intro _)|((first|apply z26|apply z18|apply z25|apply z36|apply z16|apply z11|apply z17|apply z24) <;> intro _)) <;> conv => whnf)
  refine z116 (fun x : Nat × Int => ([(0, lst 3 Tree.cs' l), (1, .fn (.func f) [] [.pt [.int d], .ptr 1 none 0]), (7, .int l.length), (8, .int x.1)], [.cells 1 [[.int x.2]], .cells 1 [[.ptr 0 none 0]]])) (fun x => x.1 ≤ l.length ∧ okS x.2 ∧ idxS p nx l s 0 = idxS p nx (l.drop x.1) x.2 x.1) (fun x => l.length - x.1) (0, s) ⟨by omega, h0, rfl⟩
    ⟨[0, 1], rfl, by decide, rfl, ⟨⟨rfl, rfl⟩, ⟨rfl, rfl⟩, ⟨rfl, rfl⟩, ⟨rfl, rfl⟩, trivial⟩, ⟨z70 rfl rfl, z70 rfl rfl, trivial⟩⟩ ?_
  rintro ⟨k, t⟩ ⟨hk1, hk2, hk3⟩
  dsimp only at hk1 hk2 hk3
  repeat' ((first|(apply AWP.go ok;rfl)|(apply z35;kernel_rfl)|(apply And.intro;first|omega|(unfold inI;omega)|(dsimp only;omega)|((try dsimp only);simp only [List.length_map, List.length_take, List.length_append, List.length_replicate, List.length_cons, List.length_nil];omega)|exact z6 (fun _ => rfl)|exact ⟨rfl, z13 rfl z19⟩|exact ⟨rfl, z6 (fun _ => rfl) _⟩|exact ⟨⟨rfl, by omega⟩, z6 (fun _ => rfl) _⟩|(unfold z30;omega)|(simp only [z49] at *;first|omega|(unfold inI;omega)|(unfold z30;omega)))|((first|(with_reducible apply z9;omega)|(with_reducible apply z20;omega)|(apply z9;omega));intro _)|(apply z21;omega)|apply z28|(apply z27;omega;intro _)|((first|apply z26|apply z18|apply z25|apply z36|apply z16|apply z11|apply z17|apply z24) <;> intro _)|((first|(apply z29 [0, 1] [] [] (hf l[k] (List.getElem_mem _) t hk2);rfl;(focus ((repeat' first|exact z15|apply z12) <;> first|rfl|(refine z22 rfl ?_;(first|exact z4 fun _ => rfl|exact z10|exact z5 rfl|(apply z7 <;> exact z4 fun _ => rfl)|assumption))))));rfl;rfl;rfl;rfl;rfl;(focus ((repeat' first|exact z66|apply z56) <;> first|exact z68|exact z71 rfl rfl|(refine z67 ?_;(first|exact z4 fun _ => rfl|exact z10|exact z5 rfl|(apply z7 <;> exact z4 fun _ => rfl)|assumption))));(first|exact .inl rfl|(refine .inr ⟨rfl, ?_⟩;repeat' first|exact True.intro|apply And.intro|exact rfl|exact z39 (fun _ => rfl) _)))) <;> conv => whnf)
  · rename_i h hkl h1
    rw [List.drop_eq_getElem_cons hkl, idxS, if_pos h1] at hk3
    rw [hk3]
    exact z91 [0, 1] (by decide) rfl rfl rfl ⟨z70 rfl rfl, z70 rfl rfl, trivial⟩
  · rename_i h hkl h1
    rw [List.drop_eq_getElem_cons hkl, idxS, if_neg (by rw [h1];simp)] at hk3
    exact z105 (k + 1, nx l[k] t) [0, 1] ⟨by dsimp only;omega, hok _ _ hk2 h1, hk3⟩ (by dsimp only;omega) ⟨rfl, by decide, rfl, ⟨⟨rfl, rfl⟩, ⟨rfl, rfl⟩, ⟨rfl, rfl⟩, ⟨rfl, rfl⟩, trivial⟩, ⟨z70 rfl rfl, z70 rfl rfl, trivial⟩⟩
  · rw [List.drop_eq_nil_of_le (by omega), idxS] at hk3
    rw [hk3]
    exact z91 [0, 1] (by decide) rfl rfl rfl ⟨z70 rfl rfl, z70 rfl rfl, trivial⟩
theorem z398 {d : Int} (l : List Tree) (hl : l.length ≤ maxLen) (p : Tree → Int → Bool) (nx : Tree → Int → Int) (okS : Int → Prop) (hok : ∀ x s, okS s → p x s = false → okS (nx x s)) (f : FuncId) (s : Int) (h0 : okS s)
    (hf : ∀ x ∈ l, ∀ s, okS s → CallsA Tryz.prog f [z88 Tree.cs' x, .pt [.int d], .ptr 1 none 0] [.cells 1 [[.int s]], .cells 1 [[.ptr 0 none 0]]] (.bool (p x s)) [.cells 1 [[.int (nx x s)]], .cells 1 [[.ptr 0 none 0]]]) :
    CallsA Tryz.prog 123 [lst 3 Tree.cs' l, .fn (.func f) [] [.pt [.int d], .ptr 1 none 0]] [.cells 1 [[.int s]], .cells 1 [[.ptr 0 none 0]]] (.bool (decide (0 ≤ (idxS p nx l s 0).1))) [.cells 1 [[.int (idxS p nx l s 0).2]], .cells 1 [[.ptr 0 none 0]]] := by
  refine z58 z82 Tryz.func123 rfl rfl 9 Tryz.ntmps123 (by simp) ?_
  repeat' ((first|(apply AWP.go ok;rfl)|(apply z35;kernel_rfl)|(apply And.intro;first|omega|(unfold inI;omega)|(dsimp only;omega)|((try dsimp only);simp only [List.length_map, List.length_take, List.length_append, List.length_replicate, List.length_cons, List.length_nil];omega)|exact z6 (fun _ => rfl)|exact ⟨rfl, z13 rfl z19⟩|exact ⟨rfl, z6 (fun _ => rfl) _⟩|exact ⟨⟨rfl, by omega⟩, z6 (fun _ => rfl) _⟩|(unfold z30;omega)|(simp only [z49] at *;first|omega|(unfold inI;omega)|(unfold z30;omega)))|((first|(with_reducible apply z9;omega)|(with_reducible apply z20;omega)|(apply z9;omega));intro _)|(apply z21;omega)|apply z28|(apply z27;omega;intro _)|((first|apply z26|apply z18|apply z25|apply z36|apply z16|apply z11|apply z17|apply z24) <;> intro _)|((first|(apply z29 [0, 1] [] [] (z280 (d := d) l hl p nx okS hok f s h0 hf);rfl;(focus ((repeat' first|exact z15|apply z12) <;> first|rfl|(refine z22 rfl ?_;(first|exact z4 fun _ => rfl|exact z10|exact z5 rfl|(apply z7 <;> exact z4 fun _ => rfl)|assumption))))));rfl;rfl;rfl;rfl;rfl;(focus ((repeat' first|exact z66|apply z56) <;> first|exact z68|exact z71 rfl rfl|(refine z67 ?_;(first|exact z4 fun _ => rfl|exact z10|exact z5 rfl|(apply z7 <;> exact z4 fun _ => rfl)|assumption))));(first|exact .inl rfl|(refine .inr ⟨rfl, ?_⟩;repeat' first|exact True.intro|apply And.intro|exact rfl|exact z39 (fun _ => rfl) _)))) <;> conv => whnf)
  exact z91 [0, 1] (by decide) rfl rfl rfl ⟨z70 rfl rfl, z70 rfl rfl, trivial⟩
theorem walk_ok (t : Tree) : t.mx → ∀ d n : Int, 0 ≤ d → d ≤ 100 → 0 ≤ n → n ≤ 15 → CallsA Tryz.prog 215 [z88 Tree.cs' t, .int d, .ptr 0 none 0] [.cells 1 [[.int n]]] (.bool (t.walkE d n).2) [.cells 1 [[.int (t.walkE d n).1]]] := by
  induction t using Tree.ind with|h t ih => ?_
  intro hm d n hd0 hd1 h0 h1
  rw [Tree.mx_iff] at hm
  have hs := Tree.walkE_spec.1
  have hk : d ≤ 6 → n + 1 ≤ 15 → CallsA Tryz.prog 123 [lst 3 Tree.cs' t.kids, .fn (.func 247) [] [.pt [.int d], .ptr 1 none 0]] [.cells 1 [[.int (n + 1)]], .cells 1 [[.ptr 0 none 0]]] (.bool (!(Tree.walkEs t.kids (d + 1) (n + 1)).2)) [.cells 1 [[.int (Tree.walkEs t.kids (d + 1) (n + 1)).1]], .cells 1 [[.ptr 0 none 0]]] := by
    intro hd hn
    have h := z398 (d := d) t.kids hm.1 (fun x s => !(x.walkE (d + 1) s).2) (fun x s => (x.walkE (d + 1) s).1) (fun s => 0 ≤ s ∧ s ≤ 15) (fun x s h1 h2 => by
      obtain ⟨a1, a2, a3, a4⟩ := hs x (d + 1) s h1.1 h1.2
      have h3 : (x.walkE (d + 1) s).2 = true := by simpa using h2
      have := (a1.1 h3).2
      rw [← a2 h3] at this
      exact ⟨by omega, this⟩) 247 (n + 1) ⟨by omega, by omega⟩ (fun x hx s h => by
        have hc := ih x hx (hm.2 x hx) (d + 1) s (by omega) (by omega) h.1 h.2
        refine z58 z82 Tryz.func247 rfl rfl 11 Tryz.ntmps247 (by simp) ?_
        repeat' ((first|(apply AWP.go ok;rfl)|(apply z35;kernel_rfl)|(apply And.intro;first|omega|(unfold inI;omega)|(dsimp only;omega)|((try dsimp only);simp only [List.length_map, List.length_take, List.length_append, List.length_replicate, List.length_cons, List.length_nil];omega)|exact z6 (fun _ => rfl)|exact ⟨rfl, z13 rfl z19⟩|exact ⟨rfl, z6 (fun _ => rfl) _⟩|exact ⟨⟨rfl, by omega⟩, z6 (fun _ => rfl) _⟩|(unfold z30;omega)|(simp only [z49] at *;first|omega|(unfold inI;omega)|(unfold z30;omega)))|((first|(with_reducible apply z9;omega)|(with_reducible apply z20;omega)|(apply z9;omega));intro _)|(apply z21;omega)|apply z28|(apply z27;omega;intro _)|((first|apply z26|apply z18|apply z25|apply z36|apply z16|apply z11|apply z17|apply z24) <;> intro _)|((first|(apply z29 [0] [] [] (hc);rfl;(focus ((repeat' first|exact z15|apply z12) <;> first|rfl|(refine z22 rfl ?_;(first|exact z4 fun _ => rfl|exact z10|exact z5 rfl|(apply z7 <;> exact z4 fun _ => rfl)|assumption))))));rfl;rfl;rfl;rfl;rfl;(focus ((repeat' first|exact z66|apply z56) <;> first|exact z68|exact z71 rfl rfl|(refine z67 ?_;(first|exact z4 fun _ => rfl|exact z10|exact z5 rfl|(apply z7 <;> exact z4 fun _ => rfl)|assumption))));(first|exact .inl rfl|(refine .inr ⟨rfl, ?_⟩;repeat' first|exact True.intro|apply And.intro|exact rfl|exact z39 (fun _ => rfl) _)))) <;> conv => whnf)
        exact z91 [0, 1] (by decide) rfl rfl rfl ⟨z70 rfl rfl, z70 rfl rfl, trivial⟩)
    rw [Tree.walkEs_idx (d + 1) t.kids (n + 1) 0, Bool.not_not]
    exact h
  have hk2 := fun h1 h2 => by
    have := hk h1 h2
    unfold lst at this
    rw [← Tree.cs_eq] at this
    exact this
  refine z58 z82 Tryz.func215 rfl rfl 55 Tryz.ntmps215 (by simp) ?_
  repeat' ((first|(apply AWP.go ok;rfl)|(apply z35;kernel_rfl)|(apply And.intro;first|omega|(unfold inI;omega)|(dsimp only;omega)|((try dsimp only);simp only [List.length_map, List.length_take, List.length_append, List.length_replicate, List.length_cons, List.length_nil];omega)|exact z6 (fun _ => rfl)|exact ⟨rfl, z13 rfl z19⟩|exact ⟨rfl, z6 (fun _ => rfl) _⟩|exact ⟨⟨rfl, by omega⟩, z6 (fun _ => rfl) _⟩|(unfold z30;omega)|(simp only [z49] at *;first|omega|(unfold inI;omega)|(unfold z30;omega)))|((first|(with_reducible apply z9;omega)|(with_reducible apply z20;omega)|(apply z9;omega));intro _)|(apply z21;omega)|apply z28|(apply z27;omega;intro _)|((first|apply z26|apply z18|apply z25|apply z36|apply z16|apply z11|apply z17|apply z24) <;> intro _)|(apply z48 (z364 _ 1 9);rfl;rfl)|(apply z48 (z364 _ 0 3);rfl;rfl)|(apply z48 (z364 _ 0 2);rfl;rfl)|(apply z48 (z364 _ 0 0);rfl;rfl)|((first|(apply z29 [0, 3] [2] [] (hk2 (by omega) (by omega));rfl;(focus ((repeat' first|exact z15|apply z12) <;> first|rfl|(refine z22 rfl ?_;(first|exact z4 fun _ => rfl|exact z10|exact z5 rfl|(apply z7 <;> exact z4 fun _ => rfl)|assumption))))));rfl;rfl;rfl;rfl;rfl;(focus ((repeat' first|exact z66|apply z56) <;> first|exact z68|exact z71 rfl rfl|(refine z67 ?_;(first|exact z4 fun _ => rfl|exact z10|exact z5 rfl|(apply z7 <;> exact z4 fun _ => rfl)|assumption))));(first|exact .inl rfl|(refine .inr ⟨rfl, ?_⟩;repeat' first|exact True.intro|apply And.intro|exact rfl|exact z39 (fun _ => rfl) _)))) <;> conv => whnf)
  all_goals first
    | (have e : t.walkE d n = (n + 1, false) := by
        rw [Tree.walkE_eq, if_neg]
        clear hk hk2 hs ih
        rintro ⟨c1, c2, c3, c4, c5⟩
        try simp only [z369, z49] at *
        unfold z295 at c4
        unfold z253 at c5
        grind
       rw [e]
       exact z91 [0] (by decide) rfl rfl rfl ⟨z70 rfl rfl, trivial⟩)
    | (have e : t.walkE d n = Tree.walkEs t.kids (d + 1) (n + 1) := by
        rw [Tree.walkE_eq, if_pos]
        clear hk hk2 hs ih
        try simp only [z369, z49] at *
        unfold z295 z253
        grind
       rw [e]
       refine z91 [0] (by decide) rfl rfl ?_ ⟨z70 rfl rfl, trivial⟩
       show AC.raw (.bool (!!_)) = _
       rw [Bool.not_not];rfl)
end Go.Proofs.YtppafngcahgagaaGreat

namespace Go.Proofs.YtppafngcahgagaaGreat
open Go.Gl
attribute [local irreducible] z85 AWP z100 z108 z104
theorem Tree.arg_eq (t : Tree) : z88 Tree.cs' t = .agg [.int t.kind, .int t.val, lst 3 Tree.cs' t.kids] := by
  simp only [z88, Tree.cs', lst, Tree.lst_eq]
theorem z499 (t : Tree) (hm : t.mx) : CallsA Tryz.prog 185 [z88 Tree.cs' t] [] (.int (if t.exprB then t.count 6 else 0)) [] := by
  have hk := walk_ok t hm 1 0 (by omega) (by omega) (by omega) (by omega)
  obtain ⟨_, h2, _, _⟩ := Tree.walkE_spec.1 t 1 0 (by omega) (by omega)
  refine z58 z82 Tryz.func185 rfl rfl 8 Tryz.ntmps185 (by simp) ?_
  repeat' ((first|(apply AWP.go ok;rfl)|(apply z35;kernel_rfl)|(apply And.intro;first|omega|(unfold inI;omega)|(dsimp only;omega)|((try dsimp only);simp only [List.length_map, List.length_take, List.length_append, List.length_replicate, List.length_cons, List.length_nil];omega)|exact z6 (fun _ => rfl)|exact ⟨rfl, z13 rfl z19⟩|exact ⟨rfl, z6 (fun _ => rfl) _⟩|exact ⟨⟨rfl, by omega⟩, z6 (fun _ => rfl) _⟩|(unfold z30;omega)|(simp only [z49] at *;first|omega|(unfold inI;omega)|(unfold z30;omega)))|((first|(with_reducible apply z9;omega)|(with_reducible apply z20;omega)|(apply z9;omega));intro _)|(apply z21;omega)|apply z28|(apply z27;omega;intro _)|((first|apply z26|apply z18|apply z25|apply z36|apply z16|apply z11|apply z17|apply z24) <;> intro _)|((first|(apply z29 [1] [] [] (hk);rfl;(focus ((repeat' first|exact z15|apply z12) <;> first|rfl|(refine z22 rfl ?_;(first|exact z4 fun _ => rfl|exact z10|exact z5 rfl|(apply z7 <;> exact z4 fun _ => rfl)|assumption))))));rfl;rfl;rfl;rfl;rfl;(focus ((repeat' first|exact z66|apply z56) <;> first|exact z68|exact z71 rfl rfl|(refine z67 ?_;(first|exact z4 fun _ => rfl|exact z10|exact z5 rfl|(apply z7 <;> exact z4 fun _ => rfl)|assumption))));(first|exact .inl rfl|(refine .inr ⟨rfl, ?_⟩;repeat' first|exact True.intro|apply And.intro|exact rfl|exact z39 (fun _ => rfl) _)))) <;> conv => whnf)
  · rename_i h
    exact z87 rfl rfl (by rw [if_neg (by unfold Tree.exprB;rw [h];simp)];rfl)
  · rename_i h
    have e := h2 h
    rw [Int.zero_add] at e
    exact z87 rfl rfl (by rw [if_pos (show t.exprB = true from h), show t.count 6 = (t.walkE 1 0).1 from e.symm];rfl)
theorem z498 (t : Tree) (hm : t.mx) : CallsA Tryz.prog 125 [z88 Tree.cs' t] [] (.bool t.exprB) [] := by
  refine z58 z82 Tryz.func125 rfl rfl 6 Tryz.ntmps125 (by simp) ?_
  repeat' ((first|(apply AWP.go ok;rfl)|(apply z35;kernel_rfl)|(apply And.intro;first|omega|(unfold inI;omega)|(dsimp only;omega)|((try dsimp only);simp only [List.length_map, List.length_take, List.length_append, List.length_replicate, List.length_cons, List.length_nil];omega)|exact z6 (fun _ => rfl)|exact ⟨rfl, z13 rfl z19⟩|exact ⟨rfl, z6 (fun _ => rfl) _⟩|exact ⟨⟨rfl, by omega⟩, z6 (fun _ => rfl) _⟩|(unfold z30;omega)|(simp only [z49] at *;first|omega|(unfold inI;omega)|(unfold z30;omega)))|((first|(with_reducible apply z9;omega)|(with_reducible apply z20;omega)|(apply z9;omega));intro _)|(apply z21;omega)|apply z28|(apply z27;omega;intro _)|((first|apply z26|apply z18|apply z25|apply z36|apply z16|apply z11|apply z17|apply z24) <;> intro _)|(apply z48 (z499 t hm);rfl;rfl)) <;> conv => whnf)
  refine z81 rfl ?_
  have := Tree.count_pos.1 t 6
  cases t.exprB
  · simp
  · simp;omega
theorem z356 (t : Tree) (hm : t.mx) : CallsA Tryz.prog 124 [z88 Tree.cs' t] [] (.bool (!t.exprB)) [] := by
  refine z58 z82 Tryz.func124 rfl rfl 6 Tryz.ntmps124 (by simp) ?_
  repeat' ((first|(apply AWP.go ok;rfl)|(apply z35;kernel_rfl)|(apply And.intro;first|omega|(unfold inI;omega)|(dsimp only;omega)|((try dsimp only);simp only [List.length_map, List.length_take, List.length_append, List.length_replicate, List.length_cons, List.length_nil];omega)|exact z6 (fun _ => rfl)|exact ⟨rfl, z13 rfl z19⟩|exact ⟨rfl, z6 (fun _ => rfl) _⟩|exact ⟨⟨rfl, by omega⟩, z6 (fun _ => rfl) _⟩|(unfold z30;omega)|(simp only [z49] at *;first|omega|(unfold inI;omega)|(unfold z30;omega)))|((first|(with_reducible apply z9;omega)|(with_reducible apply z20;omega)|(apply z9;omega));intro _)|(apply z21;omega)|apply z28|(apply z27;omega;intro _)|((first|apply z26|apply z18|apply z25|apply z36|apply z16|apply z11|apply z17|apply z24) <;> intro _)|(apply z48 (z498 t hm);rfl;rfl)) <;> conv => whnf)
  exact z81 rfl rfl
def z186 (l : List Tree) : Bool := decide ((l.length : Int) = 3) && l.all Tree.exprB
theorem z391 (l : List Tree) (hl : l.length ≤ maxLen) (hm : ∀ t ∈ l, t.mx) : CallsA Tryz.prog 55 [lst 3 Tree.cs' l] [] (.bool (z186 l)) [] := by
  have hk := z301 l hl (fun t => !t.exprB) 124 (fun t ht => z356 t (hm t ht))
  refine z58 z82 Tryz.func55 rfl rfl 11 Tryz.ntmps55 (by simp) ?_
  repeat' ((first|(apply AWP.go ok;rfl)|(apply z35;kernel_rfl)|(apply And.intro;first|omega|(unfold inI;omega)|(dsimp only;omega)|((try dsimp only);simp only [List.length_map, List.length_take, List.length_append, List.length_replicate, List.length_cons, List.length_nil];omega)|exact z6 (fun _ => rfl)|exact ⟨rfl, z13 rfl z19⟩|exact ⟨rfl, z6 (fun _ => rfl) _⟩|exact ⟨⟨rfl, by omega⟩, z6 (fun _ => rfl) _⟩|(unfold z30;omega)|(simp only [z49] at *;first|omega|(unfold inI;omega)|(unfold z30;omega)))|((first|(with_reducible apply z9;omega)|(with_reducible apply z20;omega)|(apply z9;omega));intro _)|(apply z21;omega)|apply z28|(apply z27;omega;intro _)|((first|apply z26|apply z18|apply z25|apply z36|apply z16|apply z11|apply z17|apply z24) <;> intro _)|(apply z48 (hk);rfl;rfl)) <;> conv => whnf)
  · refine z81 rfl ?_
    rename_i h
    unfold z186
    rw [decide_eq_true h, List.all_eq_not_any_not];rfl
  · refine z81 rfl ?_
    rename_i h
    unfold z186
    rw [decide_eq_false h];rfl
theorem z407 (k : Int) : CallsA Tryz.prog 248 [.int k] [] (.int (z253 k)) [] := by
  refine z58 z82 Tryz.func248 rfl rfl 15 Tryz.ntmps248 (by simp) ?_
  repeat' ((first|(apply AWP.go ok;rfl)|(apply z35;kernel_rfl)|(apply And.intro;first|omega|(unfold inI;omega)|(dsimp only;omega)|((try dsimp only);simp only [List.length_map, List.length_take, List.length_append, List.length_replicate, List.length_cons, List.length_nil];omega)|exact z6 (fun _ => rfl)|exact ⟨rfl, z13 rfl z19⟩|exact ⟨rfl, z6 (fun _ => rfl) _⟩|exact ⟨⟨rfl, by omega⟩, z6 (fun _ => rfl) _⟩|(unfold z30;omega)|(simp only [z49] at *;first|omega|(unfold inI;omega)|(unfold z30;omega)))|((first|(with_reducible apply z9;omega)|(with_reducible apply z20;omega)|(apply z9;omega));intro _)|(apply z21;omega)|apply z28|(apply z27;omega;intro _)|((first|apply z26|apply z18|apply z25|apply z36|apply z16|apply z11|apply z17|apply z24) <;> intro _)) <;> conv => whnf)
  all_goals (refine z87 rfl rfl ?_;unfold z253;first|(rw [if_pos (by omega)];rfl)|(rw [if_neg (by omega), if_pos (by omega)];rfl)|(rw [if_neg (by omega), if_neg (by omega), if_pos (by omega)];rfl)|(rw [if_neg (by omega), if_neg (by omega), if_neg (by omega)];rfl))
theorem z619 (l : List Tree) (d : Int) : Tree.shapes l d = l.all (fun t => t.shape d) := by
  induction l with
  | nil => rfl
  | cons t l ih => simp [Tree.shapes, ih]
theorem z321 (t : Tree) (d : Int) : t.shape d = (decide (1 ≤ d ∧ (t.kids.length : Int) = z253 t.kind ∧ 0 ≤ t.val ∧ t.val ≤ z295 t.kind) && t.kids.all fun t => t.shape (d - 1)) := by
  cases t;simp only [Tree.shape, Tree.kids, Tree.kind, Tree.val, z619];rfl
theorem z635 (t : Tree) : t.mx → ∀ d : Int, -100 ≤ d → d ≤ 100 → CallsA Tryz.prog 218 [z88 Tree.cs' t, .int d] [] (.bool (t.shape d)) [] := by
  induction t using Tree.ind with|h t ih => ?_
  intro hm d h0 h1
  rw [Tree.mx_iff] at hm
  have hl := hm.1
  unfold maxLen at hl
  rw [Tree.arg_eq, z321]
  refine z58 z82 Tryz.func218 rfl rfl 49 Tryz.ntmps218 (by simp) ?_
  repeat' ((first|(apply AWP.go ok;rfl)|(apply z35;kernel_rfl)|(apply And.intro;first|omega|(unfold inI;omega)|(dsimp only;omega)|((try dsimp only);simp only [List.length_map, List.length_take, List.length_append, List.length_replicate, List.length_cons, List.length_nil];omega)|exact z6 (fun _ => rfl)|exact ⟨rfl, z13 rfl z19⟩|exact ⟨rfl, z6 (fun _ => rfl) _⟩|exact ⟨⟨rfl, by omega⟩, z6 (fun _ => rfl) _⟩|(unfold z30;omega)|(simp only [z49] at *;first|omega|(unfold inI;omega)|(unfold z30;omega)))|((first|(with_reducible apply z9;omega)|(with_reducible apply z20;omega)|(apply z9;omega));intro _)|(apply z21;omega)|apply z28|(apply z27;omega;intro _)|((first|apply z26|apply z18|apply z25|apply z36|apply z16|apply z11|apply z17|apply z24) <;> intro _)|(apply z48 (z407 _);rfl;rfl)) <;> conv => whnf)
  all_goals first
    | (refine z81 rfl ?_
       rw [decide_eq_false]
       · rfl
       · clear ih
         rintro ⟨c1, c2, c3, c4⟩
         unfold z295 at c4
         grind)
    | (have hg : decide (1 ≤ d ∧ (t.kids.length : Int) = z253 t.kind ∧ 0 ≤ t.val ∧ t.val ≤ z295 t.kind) = true := by
         clear ih
         refine decide_eq_true ?_
         unfold z295
         grind
       rw [hg, Bool.true_and]
       refine z116 (fun k : Nat => ([(1, .int d), (2, .ptr 0 none 0), (6, .int k)], [.cells 3 [[.int t.kind, .int t.val, lst 3 Tree.cs' t.kids]]])) (fun k => k ≤ t.kids.length ∧ (t.kids.all fun t => t.shape (d - 1)) = (t.kids.drop k).all fun t => t.shape (d - 1)) (fun k => t.kids.length - k) 0 ⟨by omega, rfl⟩ ⟨[0], rfl, by decide, rfl, by repeat' (first|exact True.intro|exact ⟨rfl, rfl⟩|apply And.intro), by repeat' (first|exact True.intro|exact z70 rfl rfl|exact z57 (by rfl) (by (first|exact z10|exact z5 rfl|exact z4 (fun _ => rfl)|exact z4 Tree.co_flat|(apply z7 <;> (first|exact z5 rfl|exact z4 (fun _ => rfl)))|assumption))|apply And.intro)⟩ ?_
       intro k hk
       repeat' ((first|(apply AWP.go ok;rfl)|(apply z35;kernel_rfl)|(apply And.intro;first|omega|(unfold inI;omega)|(dsimp only;omega)|((try dsimp only);simp only [List.length_map, List.length_take, List.length_append, List.length_replicate, List.length_cons, List.length_nil];omega)|exact z6 (fun _ => rfl)|exact ⟨rfl, z13 rfl z19⟩|exact ⟨rfl, z6 (fun _ => rfl) _⟩|exact ⟨⟨rfl, by omega⟩, z6 (fun _ => rfl) _⟩|(unfold z30;omega)|(simp only [z49] at *;first|omega|(unfold inI;omega)|(unfold z30;omega)))|((first|(with_reducible apply z9;omega)|(with_reducible apply z20;omega)|(apply z9;omega));intro _)|(apply z21;omega)|apply z28|(apply z27;omega;intro _)|((first|apply z26|apply z18|apply z25|apply z36|apply z16|apply z11|apply z17|apply z24) <;> intro _)|(apply z48 (ih t.kids[k] (List.getElem_mem _) (hm.2 _ (List.getElem_mem _)) (d - 1) (by omega) (by omega));rfl;rfl)) <;> conv => whnf)
       · rename_i h1
         exact z81 rfl (by rw [hk.2, z146 _ _ _ (by assumption)];simp [h1])
       · rename_i h1
         exact z105 (k + 1) [0] ⟨by omega, by rw [hk.2, z146 _ _ _ (by assumption)];simp [h1]⟩ (by omega) ⟨rfl, by decide, rfl, by repeat' (first|exact True.intro|exact ⟨rfl, rfl⟩|apply And.intro), by repeat' (first|exact True.intro|exact z70 rfl rfl|exact z57 (by rfl) (by (first|exact z10|exact z5 rfl|exact z4 (fun _ => rfl)|exact z4 Tree.co_flat|(apply z7 <;> (first|exact z5 rfl|exact z4 (fun _ => rfl)))|assumption))|apply And.intro)⟩
       · exact z81 rfl (by rw [hk.2, z143 _ _ _ (by omega)]))
theorem z329 (t : Tree) (d : Int) : t.count d = if 0 < d then 1 + (t.kids.map fun t => t.count (d - 1)).sum else 1 := by
  have : ∀ (l : List Tree) d, Tree.counts l d = (l.map fun t => t.count d).sum := by
    intro l d
    induction l with
    | nil => rfl
    | cons t l ih => simp [Tree.counts, ih]
  cases t;simp only [Tree.count, Tree.kids, this]
theorem count_le (t : Tree) : ∀ d n : Nat, t.shape d = true → t.count n ≤ 2 ^ d - 1 := by
  induction t using Tree.ind with|h t ih => ?_
  intro d n h
  rw [z321, Bool.and_eq_true, decide_eq_true_eq] at h
  obtain ⟨⟨h1, h2, _, _⟩, h3⟩ := h
  rw [List.all_eq_true] at h3
  obtain ⟨d, rfl⟩ : ∃ e, d = e + 1 := ⟨d - 1, by omega⟩
  have e : ((d + 1 : Nat) : Int) - 1 = (d : Nat) := by omega
  rw [e] at h3
  rw [z329]
  have hp : (1 : Int) ≤ 2 ^ d := by exact_mod_cast Nat.one_le_two_pow
  have hq : ((2 : Int) ^ (d + 1)) = 2 * 2 ^ d := by rw [Int.pow_succ];omega
  split
  · rename_i hn
    obtain ⟨n, rfl⟩ : ∃ e, n = e + 1 := ⟨n - 1, by omega⟩
    have e : ((n + 1 : Nat) : Int) - 1 = (n : Nat) := by omega
    rw [e]
    have hl : (t.kids.length : Int) ≤ 2 := by rw [h2];unfold z253;grind
    have hk : ∀ u ∈ t.kids, u.count n ≤ 2 ^ d - 1 := fun u hu => ih u hu d n (h3 u hu)
    match hkk : t.kids with
    | [] => simp only [List.map_nil, List.sum_nil];omega
    | [a] =>
      have := hk a (by simp [hkk])
      simp only [List.map_cons, List.map_nil, List.sum_cons, List.sum_nil];omega
    | [a, b] =>
      have := hk a (by simp [hkk])
      have := hk b (by simp [hkk])
      simp only [List.map_cons, List.map_nil, List.sum_cons, List.sum_nil];omega
    | a :: b :: c :: r => rw [hkk] at hl;simp only [List.length_cons] at hl;omega
  · omega
theorem z320 (f : Tree → Int) (l : List Tree) (k : Nat) (hk : k < l.length) : ((l.take (k + 1)).map f).sum = ((l.take k).map f).sum + f l[k] := by
  rw [List.take_succ_eq_append_getElem hk, List.map_append, List.sum_append];simp
theorem z567 (t : Tree) (e d : Int) (he : e ≤ 50) (hd : 0 ≤ d) (h : t.shape e = true) : t.count d ≤ 2 ^ 50 := by
  have h1 : 1 ≤ e := by
    rw [z321, Bool.and_eq_true, decide_eq_true_eq] at h;exact h.1.1
  obtain ⟨n, rfl⟩ := Int.eq_ofNat_of_zero_le (show 0 ≤ e by omega)
  obtain ⟨m, rfl⟩ := Int.eq_ofNat_of_zero_le hd
  have h2 := count_le t n m h
  have h4 : (2 : Int) ^ n ≤ 2 ^ 50 := by exact_mod_cast Nat.pow_le_pow_right (by omega) (by omega)
  omega
theorem z636 (t : Tree) : t.mx → ∀ e d : Int, e ≤ 50 → 0 ≤ d → d ≤ 50 → t.shape e = true → CallsA Tryz.prog 219 [z88 Tree.cs' t, .int d] [] (.int (t.count d)) [] := by
  induction t using Tree.ind with|h t ih => ?_
  intro hm e d h0 h1 h2 hs
  rw [Tree.mx_iff] at hm
  rw [z321, Bool.and_eq_true, decide_eq_true_eq, List.all_eq_true] at hs
  obtain ⟨⟨hs1, hs2, _, _⟩, hs3⟩ := hs
  have hl : (t.kids.length : Int) ≤ 2 := by rw [hs2];unfold z253;grind
  rw [Tree.arg_eq, z329]
  have hb : 0 < d → ∀ k, k ≤ t.kids.length → 0 ≤ ((t.kids.take k).map fun t => t.count (d - 1)).sum ∧ ((t.kids.take k).map fun t => t.count (d - 1)).sum ≤ k * 2 ^ 50 := by
    intro hd k
    induction k with
    | zero => intro _;simp
    | succ k ihk =>
      intro hk
      have h1 := ihk (by omega)
      rw [z320 _ _ _ (by omega)]
      have h2 := z567 t.kids[k] (e - 1) (d - 1) (by omega) (by omega) (hs3 _ (List.getElem_mem _))
      have h3 := Tree.count_pos.1 t.kids[k] (d - 1)
      omega
  refine z58 z82 Tryz.func219 rfl rfl 29 Tryz.ntmps219 (by simp) ?_
  repeat' ((first|(apply AWP.go ok;rfl)|(apply z35;kernel_rfl)|(apply And.intro;first|omega|(unfold inI;omega)|(dsimp only;omega)|((try dsimp only);simp only [List.length_map, List.length_take, List.length_append, List.length_replicate, List.length_cons, List.length_nil];omega)|exact z6 (fun _ => rfl)|exact ⟨rfl, z13 rfl z19⟩|exact ⟨rfl, z6 (fun _ => rfl) _⟩|exact ⟨⟨rfl, by omega⟩, z6 (fun _ => rfl) _⟩|(unfold z30;omega)|(simp only [z49] at *;first|omega|(unfold inI;omega)|(unfold z30;omega)))|((first|(with_reducible apply z9;omega)|(with_reducible apply z20;omega)|(apply z9;omega));intro _)|(apply z21;omega)|apply z28|(apply z27;omega;intro _)|((first|apply z26|apply z18|apply z25|apply z36|apply z16|apply z11|apply z17|apply z24) <;> intro _)) <;> conv => whnf)
  by_cases hd : 0 < d
  · rw [if_pos hd]
    refine z116 (fun k : Nat => ([(1, .int d), (2, .ptr 0 none 0), (5, .int (1 + ((t.kids.take k).map fun t => t.count (d - 1)).sum)), (6, .int k)], [.cells 3 [[.int t.kind, .int t.val, lst 3 Tree.cs' t.kids]]])) (fun k => k ≤ t.kids.length) (fun k => t.kids.length - k) 0 (by omega) ⟨[0], rfl, by decide, rfl, by repeat' (first|exact True.intro|exact ⟨rfl, rfl⟩|apply And.intro), by repeat' (first|exact True.intro|exact z70 rfl rfl|exact z57 (by rfl) (by (first|exact z10|exact z5 rfl|exact z4 (fun _ => rfl)|exact z4 Tree.co_flat|(apply z7 <;> (first|exact z5 rfl|exact z4 (fun _ => rfl)))|assumption))|apply And.intro)⟩ ?_
    intro k hk
    have hbk := hb hd k hk
    have hbk1 := fun h => hb hd (k + 1) h
    have hss := fun h => z320 (fun t => t.count (d - 1)) t.kids k h
    repeat' ((first|(apply AWP.go ok;rfl)|(apply z35;kernel_rfl)|(apply And.intro;first|omega|(unfold inI;omega)|(dsimp only;omega)|((try dsimp only);simp only [List.length_map, List.length_take, List.length_append, List.length_replicate, List.length_cons, List.length_nil];omega)|exact z6 (fun _ => rfl)|exact ⟨rfl, z13 rfl z19⟩|exact ⟨rfl, z6 (fun _ => rfl) _⟩|exact ⟨⟨rfl, by omega⟩, z6 (fun _ => rfl) _⟩|(unfold z30;omega)|(simp only [z49] at *;first|omega|(unfold inI;omega)|(unfold z30;omega)))|((first|(with_reducible apply z9;omega)|(with_reducible apply z20;omega)|(apply z9;omega));intro _)|(apply z21;omega)|apply z28|(apply z27;omega;intro _)|((first|apply z26|apply z18|apply z25|apply z36|apply z16|apply z11|apply z17|apply z24) <;> intro _)|(apply z48 (ih t.kids[k] (List.getElem_mem _) (hm.2 _ (List.getElem_mem _)) (e - 1) (d - 1) (by omega) (by omega) (by omega) (hs3 _ (List.getElem_mem _)));rfl;rfl)) <;> conv => whnf)
    · have e1 := hss ‹_›
      have e2 := hbk1 (by omega)
      refine And.intro (by unfold inI;omega) ?_
      conv => whnf
      repeat' ((first|(apply AWP.go ok;rfl)|(apply z35;kernel_rfl)|(apply And.intro;first|omega|(unfold inI;omega)|(dsimp only;omega)|((try dsimp only);simp only [List.length_map, List.length_take, List.length_append, List.length_replicate, List.length_cons, List.length_nil];omega)|exact z6 (fun _ => rfl)|exact ⟨rfl, z13 rfl z19⟩|exact ⟨rfl, z6 (fun _ => rfl) _⟩|exact ⟨⟨rfl, by omega⟩, z6 (fun _ => rfl) _⟩|(unfold z30;omega)|(simp only [z49] at *;first|omega|(unfold inI;omega)|(unfold z30;omega)))|((first|(with_reducible apply z9;omega)|(with_reducible apply z20;omega)|(apply z9;omega));intro _)|(apply z21;omega)|apply z28|(apply z27;omega;intro _)|((first|apply z26|apply z18|apply z25|apply z36|apply z16|apply z11|apply z17|apply z24) <;> intro _)) <;> conv => whnf)
      exact z105 (k + 1) [0] (by omega) (by omega) ⟨rfl, by decide, rfl, ⟨⟨rfl, rfl⟩, ⟨rfl, rfl⟩, ⟨rfl, by rw [e1, ← Int.add_assoc];rfl⟩, ⟨rfl, rfl⟩, trivial⟩, ⟨z70 rfl rfl, trivial⟩⟩
    · omega
    · obtain rfl : k = t.kids.length := by omega
      exact z87 rfl rfl (by rw [List.take_length];rfl)
  · rw [if_neg hd]
    refine z116 (fun k : Nat => ([(1, .int d), (2, .ptr 0 none 0), (5, .int 1), (6, .int k)], [.cells 3 [[.int t.kind, .int t.val, lst 3 Tree.cs' t.kids]]])) (fun k => k ≤ t.kids.length) (fun k => t.kids.length - k) 0 (by omega) ⟨[0], rfl, by decide, rfl, by repeat' (first|exact True.intro|exact ⟨rfl, rfl⟩|apply And.intro), by repeat' (first|exact True.intro|exact z70 rfl rfl|exact z57 (by rfl) (by (first|exact z10|exact z5 rfl|exact z4 (fun _ => rfl)|exact z4 Tree.co_flat|(apply z7 <;> (first|exact z5 rfl|exact z4 (fun _ => rfl)))|assumption))|apply And.intro)⟩ ?_
    intro k hk
    repeat' ((first|(apply AWP.go ok;rfl)|(apply z35;kernel_rfl)|(apply And.intro;first|omega|(unfold inI;omega)|(dsimp only;omega)|((try dsimp only);simp only [List.length_map, List.length_take, List.length_append, List.length_replicate, List.length_cons, List.length_nil];omega)|exact z6 (fun _ => rfl)|exact ⟨rfl, z13 rfl z19⟩|exact ⟨rfl, z6 (fun _ => rfl) _⟩|exact ⟨⟨rfl, by omega⟩, z6 (fun _ => rfl) _⟩|(unfold z30;omega)|(simp only [z49] at *;first|omega|(unfold inI;omega)|(unfold z30;omega)))|((first|(with_reducible apply z9;omega)|(with_reducible apply z20;omega)|(apply z9;omega));intro _)|(apply z21;omega)|apply z28|(apply z27;omega;intro _)|((first|apply z26|apply z18|apply z25|apply z36|apply z16|apply z11|apply z17|apply z24) <;> intro _)) <;> conv => whnf)
    · omega
    · exact z87 rfl rfl rfl
    · exact z87 rfl rfl rfl
theorem z137 (t : Tree) (hm : t.mx) : CallsA Tryz.prog 191 [z88 Tree.cs' t] [] (.bool t.exprB) [] := by
  rw [Tree.exprB_eq]
  refine z58 z82 Tryz.func191 rfl rfl 10 Tryz.ntmps191 (by simp) ?_
  repeat' ((first|(apply AWP.go ok;rfl)|(apply z35;kernel_rfl)|(apply And.intro;first|omega|(unfold inI;omega)|(dsimp only;omega)|((try dsimp only);simp only [List.length_map, List.length_take, List.length_append, List.length_replicate, List.length_cons, List.length_nil];omega)|exact z6 (fun _ => rfl)|exact ⟨rfl, z13 rfl z19⟩|exact ⟨rfl, z6 (fun _ => rfl) _⟩|exact ⟨⟨rfl, by omega⟩, z6 (fun _ => rfl) _⟩|(unfold z30;omega)|(simp only [z49] at *;first|omega|(unfold inI;omega)|(unfold z30;omega)))|((first|(with_reducible apply z9;omega)|(with_reducible apply z20;omega)|(apply z9;omega));intro _)|(apply z21;omega)|apply z28|(apply z27;omega;intro _)|((first|apply z26|apply z18|apply z25|apply z36|apply z16|apply z11|apply z17|apply z24) <;> intro _)|(apply z48 (z635 t hm 6 (by omega) (by omega));rfl;rfl)|(apply z48 (z636 t hm 6 6 (by omega) (by omega) (by omega) (by assumption));rfl;rfl)) <;> conv => whnf)
  all_goals (refine z81 rfl ?_;first|rfl|(simp [*];done)|(simp_all;done)|(simp_all;omega))
theorem z271 (l : List Tree) (hl : l.length ≤ maxLen) (hm : ∀ t ∈ l, t.mx) : CallsA Tryz.prog 140 [lst 3 Tree.cs' l] [] (.bool (z186 l)) [] := by
  unfold maxLen at hl
  unfold z186
  refine z58 z82 Tryz.func140 rfl rfl 19 Tryz.ntmps140 (by simp) ?_
  repeat' ((first|(apply AWP.go ok;rfl)|(apply z35;kernel_rfl)|(apply And.intro;first|omega|(unfold inI;omega)|(dsimp only;omega)|((try dsimp only);simp only [List.length_map, List.length_take, List.length_append, List.length_replicate, List.length_cons, List.length_nil];omega)|exact z6 (fun _ => rfl)|exact ⟨rfl, z13 rfl z19⟩|exact ⟨rfl, z6 (fun _ => rfl) _⟩|exact ⟨⟨rfl, by omega⟩, z6 (fun _ => rfl) _⟩|(unfold z30;omega)|(simp only [z49] at *;first|omega|(unfold inI;omega)|(unfold z30;omega)))|((first|(with_reducible apply z9;omega)|(with_reducible apply z20;omega)|(apply z9;omega));intro _)|(apply z21;omega)|apply z28|(apply z27;omega;intro _)|((first|apply z26|apply z18|apply z25|apply z36|apply z16|apply z11|apply z17|apply z24) <;> intro _)) <;> conv => whnf)
  refine z116 (fun k : Nat => ([(0, lst 3 Tree.cs' l), (3, .int k)], [])) (fun k => k ≤ l.length ∧ l.all Tree.exprB = (l.drop k).all Tree.exprB) (fun k => l.length - k) 0 ⟨by omega, rfl⟩ ⟨[], rfl, by decide, rfl, by repeat' (first|exact True.intro|exact ⟨rfl, rfl⟩|apply And.intro), by repeat' (first|exact True.intro|exact z70 rfl rfl|exact z57 (by rfl) (by (first|exact z10|exact z5 rfl|exact z4 (fun _ => rfl)|exact z4 Tree.co_flat|(apply z7 <;> (first|exact z5 rfl|exact z4 (fun _ => rfl)))|assumption))|apply And.intro)⟩ ?_
  intro k hk
  repeat' ((first|(apply AWP.go ok;rfl)|(apply z35;kernel_rfl)|(apply And.intro;first|omega|(unfold inI;omega)|(dsimp only;omega)|((try dsimp only);simp only [List.length_map, List.length_take, List.length_append, List.length_replicate, List.length_cons, List.length_nil];omega)|exact z6 (fun _ => rfl)|exact ⟨rfl, z13 rfl z19⟩|exact ⟨rfl, z6 (fun _ => rfl) _⟩|exact ⟨⟨rfl, by omega⟩, z6 (fun _ => rfl) _⟩|(unfold z30;omega)|(simp only [z49] at *;first|omega|(unfold inI;omega)|(unfold z30;omega)))|((first|(with_reducible apply z9;omega)|(with_reducible apply z20;omega)|(apply z9;omega));intro _)|(apply z21;omega)|apply z28|(apply z27;omega;intro _)|((first|apply z26|apply z18|apply z25|apply z36|apply z16|apply z11|apply z17|apply z24) <;> intro _)|(apply z48 (z137 l[k] (hm _ (List.getElem_mem _)));rfl;rfl)) <;> conv => whnf)
  · rename_i h1
    exact z81 rfl (by rw [hk.2, z146 _ _ _ (by assumption)];simp [h1])
  · rename_i h1
    exact z105 (k + 1) [] ⟨by omega, by rw [hk.2, z146 _ _ _ (by assumption)];simp [h1]⟩ (by omega) ⟨rfl, by decide, rfl, by repeat' (first|exact True.intro|exact ⟨rfl, rfl⟩|apply And.intro), by repeat' (first|exact True.intro|exact z70 rfl rfl|exact z57 (by rfl) (by (first|exact z10|exact z5 rfl|exact z4 (fun _ => rfl)|exact z4 Tree.co_flat|(apply z7 <;> (first|exact z5 rfl|exact z4 (fun _ => rfl)))|assumption))|apply And.intro)⟩
  · exact z81 rfl (by rw [hk.2, z143 _ _ _ (by omega), Bool.and_true])
theorem z583 (b : Bool) : CallsA Tryz.prog 217 [.bool b] [] (.int (b2i b)) [] := by
  refine z58 z82 Tryz.func217 rfl rfl 4 Tryz.ntmps217 (by simp) ?_
  repeat' ((first|(apply AWP.go ok;rfl)|(apply z35;kernel_rfl)|(apply And.intro;first|omega|(unfold inI;omega)|(dsimp only;omega)|((try dsimp only);simp only [List.length_map, List.length_take, List.length_append, List.length_replicate, List.length_cons, List.length_nil];omega)|exact z6 (fun _ => rfl)|exact ⟨rfl, z13 rfl z19⟩|exact ⟨rfl, z6 (fun _ => rfl) _⟩|exact ⟨⟨rfl, by omega⟩, z6 (fun _ => rfl) _⟩|(unfold z30;omega)|(simp only [z49] at *;first|omega|(unfold inI;omega)|(unfold z30;omega)))|((first|(with_reducible apply z9;omega)|(with_reducible apply z20;omega)|(apply z9;omega));intro _)|(apply z21;omega)|apply z28|(apply z27;omega;intro _)|((first|apply z26|apply z18|apply z25|apply z36|apply z16|apply z11|apply z17|apply z24) <;> intro _)) <;> conv => whnf)
  all_goals (refine z87 rfl rfl ?_;simp only [*];rfl)
theorem z493 (b : Bool) : CallsA Tryz.prog 249 [.bool b] [] (.int (b2i b)) [] := by
  refine z58 z82 Tryz.func249 rfl rfl 4 Tryz.ntmps249 (by simp) ?_
  repeat' ((first|(apply AWP.go ok;rfl)|(apply z35;kernel_rfl)|(apply And.intro;first|omega|(unfold inI;omega)|(dsimp only;omega)|((try dsimp only);simp only [List.length_map, List.length_take, List.length_append, List.length_replicate, List.length_cons, List.length_nil];omega)|exact z6 (fun _ => rfl)|exact ⟨rfl, z13 rfl z19⟩|exact ⟨rfl, z6 (fun _ => rfl) _⟩|exact ⟨⟨rfl, by omega⟩, z6 (fun _ => rfl) _⟩|(unfold z30;omega)|(simp only [z49] at *;first|omega|(unfold inI;omega)|(unfold z30;omega)))|((first|(with_reducible apply z9;omega)|(with_reducible apply z20;omega)|(apply z9;omega));intro _)|(apply z21;omega)|apply z28|(apply z27;omega;intro _)|((first|apply z26|apply z18|apply z25|apply z36|apply z16|apply z11|apply z17|apply z24) <;> intro _)) <;> conv => whnf)
  all_goals (refine z87 rfl rfl ?_;simp only [*];rfl)
theorem z408 {t : Tree} (hg : t.good) : (∃ x, t = .mk 1 x [] ∧ 0 ≤ x ∧ x ≤ 3) ∨ (∃ x, t = .mk 2 x [] ∧ 0 ≤ x ∧ x ≤ 2) ∨ (∃ x a, t = .mk 3 x [a] ∧ a.good) ∨ (∃ k x a b, t = .mk k x [a, b] ∧ 4 ≤ k ∧ k ≤ 9 ∧ a.good ∧ b.good) := by
  obtain ⟨g1, g2, g3, g4⟩ := Tree.good_iff hg
  obtain ⟨k, x, l⟩ := t
  simp only [Tree.kind, Tree.val, Tree.kids] at *
  unfold z253 at g1
  unfold z295 at g3
  match l, g1, g4 with
  | [], g1, _ =>
    simp only [List.length_nil] at g1
    have : k = 1 ∨ k = 2 := by grind
    rcases this with rfl|rfl
    · exact .inl ⟨x, rfl, g2, by grind⟩
    · exact .inr (.inl ⟨x, rfl, g2, by grind⟩)
  | [a], g1, g4 =>
    simp only [List.length_cons, List.length_nil] at g1
    have : k = 3 := by grind
    subst this
    exact .inr (.inr (.inl ⟨x, a, rfl, g4 a (by simp)⟩))
  | [a, b], g1, g4 =>
    simp only [List.length_cons, List.length_nil] at g1
    exact .inr (.inr (.inr ⟨k, x, a, b, rfl, by grind, by grind, g4 a (by simp), g4 b (by simp)⟩))
  | a :: b :: c :: r, g1, _ => simp only [List.length_cons] at g1;grind
theorem eval_ok (v : List Int) (hv : ValsOk v) (t : Tree) : t.good → CallsA Tryz.prog 190 [z88 Tree.cs' t, ints v] [] (.int (t.ev v)) [] := by
  induction t using Tree.ind with|h t ih => ?_
  intro hg
  have hl := hv.1
  rw [Tree.arg_eq]
  rcases z408 hg with ⟨x, rfl, h1, h2⟩|⟨x, rfl, h1, h2⟩|⟨x, a, rfl, h1⟩|⟨k, x, a, b, rfl, h1, h2, h3, h4⟩ <;> simp only [Tree.kind, Tree.val, Tree.kids] at *
  · refine z58 z82 Tryz.func190 rfl rfl 82 Tryz.ntmps190 (by simp) ?_
    repeat' ((first|(apply AWP.go ok;rfl)|(apply z35;kernel_rfl)|(apply And.intro;first|omega|(unfold inI;omega)|(dsimp only;omega)|((try dsimp only);simp only [List.length_map, List.length_take, List.length_append, List.length_replicate, List.length_cons, List.length_nil];omega)|exact z6 (fun _ => rfl)|exact ⟨rfl, z13 rfl z19⟩|exact ⟨rfl, z6 (fun _ => rfl) _⟩|exact ⟨⟨rfl, by omega⟩, z6 (fun _ => rfl) _⟩|(unfold z30;omega)|(simp only [z49] at *;first|omega|(unfold inI;omega)|(unfold z30;omega)))|((first|(with_reducible apply z9;omega)|(with_reducible apply z20;omega)|(apply z9;omega));intro _)|(apply z21;omega)|apply z28|(apply z27;omega;intro _)|((first|apply z26|apply z18|apply z25|apply z36|apply z16|apply z11|apply z17|apply z24) <;> intro _)) <;> conv => whnf)
    all_goals first|(exfalso;omega)|exact z87 rfl rfl (by rw [Tree.ev, if_pos rfl];rfl)
  · refine z58 z82 Tryz.func190 rfl rfl 82 Tryz.ntmps190 (by simp) ?_
    repeat' ((first|(apply AWP.go ok;rfl)|(apply z35;kernel_rfl)|(apply And.intro;first|omega|(unfold inI;omega)|(dsimp only;omega)|((try dsimp only);simp only [List.length_map, List.length_take, List.length_append, List.length_replicate, List.length_cons, List.length_nil];omega)|exact z6 (fun _ => rfl)|exact ⟨rfl, z13 rfl z19⟩|exact ⟨rfl, z6 (fun _ => rfl) _⟩|exact ⟨⟨rfl, by omega⟩, z6 (fun _ => rfl) _⟩|(unfold z30;omega)|(simp only [z49] at *;first|omega|(unfold inI;omega)|(unfold z30;omega)))|((first|(with_reducible apply z9;omega)|(with_reducible apply z20;omega)|(apply z9;omega));intro _)|(apply z21;omega)|apply z28|(apply z27;omega;intro _)|((first|apply z26|apply z18|apply z25|apply z36|apply z16|apply z11|apply z17|apply z24) <;> intro _)) <;> conv => whnf)
    all_goals first|(exfalso;omega)|skip
    refine z87 rfl rfl ?_
    rw [Tree.ev, if_neg (by omega), if_pos rfl, List.getD_eq_getElem?_getD, List.getElem?_eq_getElem (by omega)];rfl
  · have ha := Tree.ev_range hv a h1
    refine z58 z82 Tryz.func190 rfl rfl 82 Tryz.ntmps190 (by simp) ?_
    repeat' ((first|(apply AWP.go ok;rfl)|(apply z35;kernel_rfl)|(apply And.intro;first|omega|(unfold inI;omega)|(dsimp only;omega)|((try dsimp only);simp only [List.length_map, List.length_take, List.length_append, List.length_replicate, List.length_cons, List.length_nil];omega)|exact z6 (fun _ => rfl)|exact ⟨rfl, z13 rfl z19⟩|exact ⟨rfl, z6 (fun _ => rfl) _⟩|exact ⟨⟨rfl, by omega⟩, z6 (fun _ => rfl) _⟩|(unfold z30;omega)|(simp only [z49] at *;first|omega|(unfold inI;omega)|(unfold z30;omega)))|((first|(with_reducible apply z9;omega)|(with_reducible apply z20;omega)|(apply z9;omega));intro _)|(apply z21;omega)|apply z28|(apply z27;omega;intro _)|((first|apply z26|apply z18|apply z25|apply z36|apply z16|apply z11|apply z17|apply z24) <;> intro _)|(apply z48 (ih a (by simp) h1);rfl;rfl)|(apply z48 (z583 _);rfl;rfl)) <;> conv => whnf)
    all_goals first|(exfalso;omega)|skip
    all_goals (refine z87 rfl rfl ?_;rw [Tree.ev, if_neg (by omega), if_neg (by omega)];simp only [Tree.evs];rfl)
  · have ha := Tree.ev_range hv a h3
    have hb := Tree.ev_range hv b h4
    refine z58 z82 Tryz.func190 rfl rfl 82 Tryz.ntmps190 (by simp) ?_
    repeat' ((first|(apply AWP.go ok;rfl)|(apply z35;kernel_rfl)|(apply And.intro;first|omega|(unfold inI;omega)|(dsimp only;omega)|((try dsimp only);simp only [List.length_map, List.length_take, List.length_append, List.length_replicate, List.length_cons, List.length_nil];omega)|exact z6 (fun _ => rfl)|exact ⟨rfl, z13 rfl z19⟩|exact ⟨rfl, z6 (fun _ => rfl) _⟩|exact ⟨⟨rfl, by omega⟩, z6 (fun _ => rfl) _⟩|(unfold z30;omega)|(simp only [z49] at *;first|omega|(unfold inI;omega)|(unfold z30;omega)))|((first|(with_reducible apply z9;omega)|(with_reducible apply z20;omega)|(apply z9;omega));intro _)|(apply z21;omega)|apply z28|(apply z27;omega;intro _)|((first|apply z26|apply z18|apply z25|apply z36|apply z16|apply z11|apply z17|apply z24) <;> intro _)|(apply z48 (ih a (by simp) h3);rfl;rfl)|(apply z48 (ih b (by simp) h4);rfl;rfl)|(apply z48 (z583 _);rfl;rfl)) <;> conv => whnf)
    all_goals first|(exfalso;omega)|skip
    all_goals (refine z426 rfl ?_;clear ih;simp only [Tree.ev, Tree.evs, b2i];grind)
theorem z358 (v : List Int) (hv : ValsOk v) (t : Tree) : t.good → CallsA Tryz.prog 220 [z88 Tree.cs' t, ints v] [] (.int (t.ev v)) [] := by
  induction t using Tree.ind with|h t ih => ?_
  intro hg
  have hl := hv.1
  rw [Tree.arg_eq]
  rcases z408 hg with ⟨x, rfl, h1, h2⟩|⟨x, rfl, h1, h2⟩|⟨x, a, rfl, h1⟩|⟨k, x, a, b, rfl, h1, h2, h3, h4⟩ <;> simp only [Tree.kind, Tree.val, Tree.kids] at *
  · refine z58 z82 Tryz.func220 rfl rfl 86 Tryz.ntmps220 (by simp) ?_
    repeat' ((first|(apply AWP.go ok;rfl)|(apply z35;kernel_rfl)|(apply And.intro;first|omega|(unfold inI;omega)|(dsimp only;omega)|((try dsimp only);simp only [List.length_map, List.length_take, List.length_append, List.length_replicate, List.length_cons, List.length_nil];omega)|exact z6 (fun _ => rfl)|exact ⟨rfl, z13 rfl z19⟩|exact ⟨rfl, z6 (fun _ => rfl) _⟩|exact ⟨⟨rfl, by omega⟩, z6 (fun _ => rfl) _⟩|(unfold z30;omega)|(simp only [z49] at *;first|omega|(unfold inI;omega)|(unfold z30;omega)))|((first|(with_reducible apply z9;omega)|(with_reducible apply z20;omega)|(apply z9;omega));intro _)|(apply z21;omega)|apply z28|(apply z27;omega;intro _)|((first|apply z26|apply z18|apply z25|apply z36|apply z16|apply z11|apply z17|apply z24) <;> intro _)) <;> conv => whnf)
    all_goals first|(exfalso;omega)|exact z87 rfl rfl (by rw [Tree.ev, if_pos rfl];rfl)
  · refine z58 z82 Tryz.func220 rfl rfl 86 Tryz.ntmps220 (by simp) ?_
    repeat' ((first|(apply AWP.go ok;rfl)|(apply z35;kernel_rfl)|(apply And.intro;first|omega|(unfold inI;omega)|(dsimp only;omega)|((try dsimp only);simp only [List.length_map, List.length_take, List.length_append, List.length_replicate, List.length_cons, List.length_nil];omega)|exact z6 (fun _ => rfl)|exact ⟨rfl, z13 rfl z19⟩|exact ⟨rfl, z6 (fun _ => rfl) _⟩|exact ⟨⟨rfl, by omega⟩, z6 (fun _ => rfl) _⟩|(unfold z30;omega)|(simp only [z49] at *;first|omega|(unfold inI;omega)|(unfold z30;omega)))|((first|(with_reducible apply z9;omega)|(with_reducible apply z20;omega)|(apply z9;omega));intro _)|(apply z21;omega)|apply z28|(apply z27;omega;intro _)|((first|apply z26|apply z18|apply z25|apply z36|apply z16|apply z11|apply z17|apply z24) <;> intro _)) <;> conv => whnf)
    all_goals first|(exfalso;omega)|skip
    refine z87 rfl rfl ?_
    rw [Tree.ev, if_neg (by omega), if_pos rfl, List.getD_eq_getElem?_getD, List.getElem?_eq_getElem (by omega)];rfl
  · have ha := Tree.ev_range hv a h1
    refine z58 z82 Tryz.func220 rfl rfl 86 Tryz.ntmps220 (by simp) ?_
    repeat' ((first|(apply AWP.go ok;rfl)|(apply z35;kernel_rfl)|(apply And.intro;first|omega|(unfold inI;omega)|(dsimp only;omega)|((try dsimp only);simp only [List.length_map, List.length_take, List.length_append, List.length_replicate, List.length_cons, List.length_nil];omega)|exact z6 (fun _ => rfl)|exact ⟨rfl, z13 rfl z19⟩|exact ⟨rfl, z6 (fun _ => rfl) _⟩|exact ⟨⟨rfl, by omega⟩, z6 (fun _ => rfl) _⟩|(unfold z30;omega)|(simp only [z49] at *;first|omega|(unfold inI;omega)|(unfold z30;omega)))|((first|(with_reducible apply z9;omega)|(with_reducible apply z20;omega)|(apply z9;omega));intro _)|(apply z21;omega)|apply z28|(apply z27;omega;intro _)|((first|apply z26|apply z18|apply z25|apply z36|apply z16|apply z11|apply z17|apply z24) <;> intro _)|(apply z48 (ih a (by simp) h1);rfl;rfl)|(apply z48 (z493 _);rfl;rfl)) <;> conv => whnf)
    all_goals first|(exfalso;omega)|skip
    all_goals (refine z87 rfl rfl ?_;rw [Tree.ev, if_neg (by omega), if_neg (by omega)];simp only [Tree.evs];rfl)
  · have ha := Tree.ev_range hv a h3
    have hb := Tree.ev_range hv b h4
    refine z58 z82 Tryz.func220 rfl rfl 86 Tryz.ntmps220 (by simp) ?_
    repeat' ((first|(apply AWP.go ok;rfl)|(apply z35;kernel_rfl)|(apply And.intro;first|omega|(unfold inI;omega)|(dsimp only;omega)|((try dsimp only);simp only [List.length_map, List.length_take, List.length_append, List.length_replicate, List.length_cons, List.length_nil];omega)|exact z6 (fun _ => rfl)|exact ⟨rfl, z13 rfl z19⟩|exact ⟨rfl, z6 (fun _ => rfl) _⟩|exact ⟨⟨rfl, by omega⟩, z6 (fun _ => rfl) _⟩|(unfold z30;omega)|(simp only [z49] at *;first|omega|(unfold inI;omega)|(unfold z30;omega)))|((first|(with_reducible apply z9;omega)|(with_reducible apply z20;omega)|(apply z9;omega));intro _)|(apply z21;omega)|apply z28|(apply z27;omega;intro _)|((first|apply z26|apply z18|apply z25|apply z36|apply z16|apply z11|apply z17|apply z24) <;> intro _)|(apply z48 (ih a (by simp) h3);rfl;rfl)|(apply z48 (ih b (by simp) h4);rfl;rfl)|(apply z48 (z493 _);rfl;rfl)) <;> conv => whnf)
    all_goals first|(exfalso;omega)|skip
    all_goals (refine z426 rfl ?_;clear ih;simp only [Tree.ev, Tree.evs, b2i];grind)
end Go.Proofs.YtppafngcahgagaaGreat

namespace Go.Proofs.YtppafngcahgagaaGreat
open Go.Gl
attribute [local irreducible] z85 AWP z100 z108 z104
def ltr (v : List Int) (l : List Tree) (k n : Nat) : Nat := match l with
  | [] => n
  | t :: r => ltr v r (k + 1) (if t.ev v = 0 then n else n ||| 2 ^ k)
theorem z323 (v : List Int) (l : List Tree) (k n : Nat) (h : k < l.length) : ltr v (l.drop k) k n = ltr v (l.drop (k + 1)) (k + 1) (if l[k].ev v = 0 then n else n ||| 2 ^ k) := by
  rw [List.drop_eq_getElem_cons h, ltr]
theorem z686 (v : List Int) (l : List Tree) (k n : Nat) (h : l.length ≤ k) : ltr v (l.drop k) k n = n := by
  rw [List.drop_eq_nil_of_le h, ltr]
def z117 (labels : List Tree) (s : State) : Int := ltr s.b labels 0 0
theorem or_lt {n k : Nat} (h : n < 2 ^ k) : n ||| 2 ^ k < 2 ^ (k + 1) :=
  Nat.or_lt_two_pow (by rw [Nat.pow_succ];omega) (by rw [Nat.pow_succ];have := Nat.two_pow_pos k;omega)
def LabelsOk (l : List Tree) : Prop := l.length = 3 ∧ ∀ t ∈ l, t.good
theorem LabelsOk.of {l : List Tree} (h : z186 l = true) : LabelsOk l := by
  simp only [z186, Bool.and_eq_true, decide_eq_true_eq, List.all_eq_true] at h
  exact ⟨by omega, fun t ht => Tree.good_of (h.2 t ht)⟩
theorem shl_eq (k : Nat) (hk : k < 3) : (1 : Int) * 2 ^ ((k : Int).toNat) = ((2 ^ k : Nat) : Int) := by simp
theorem z479 {k : Nat} (hk : k < 3) : 2 ^ k ≤ 8 ∧ 2 ^ (k + 1) ≤ 8 ∧ 0 < 2 ^ k := by
  have : k = 0 ∨ k = 1 ∨ k = 2 := by omega
  rcases this with rfl|rfl|rfl <;> simp
theorem z688 (s : State) (hv : ValsOk s.b) (l : List Tree) (hl : LabelsOk l) : CallsA Tryz.prog 139 [ints s.b, lst 3 Tree.cs' l] [] (.int (z117 l s)) [] := by
  have h3 := hl.1
  refine z58 z82 Tryz.func139 rfl rfl 25 Tryz.ntmps139 (by simp) ?_
  repeat' ((first|(apply AWP.go ok;rfl)|(apply z35;kernel_rfl)|(apply And.intro;first|omega|(unfold inI;omega)|(dsimp only;omega)|((try dsimp only);simp only [List.length_map, List.length_take, List.length_append, List.length_replicate, List.length_cons, List.length_nil];omega)|exact z6 (fun _ => rfl)|exact ⟨rfl, z13 rfl z19⟩|exact ⟨rfl, z6 (fun _ => rfl) _⟩|exact ⟨⟨rfl, by omega⟩, z6 (fun _ => rfl) _⟩|(unfold z30;omega)|(simp only [z49] at *;first|omega|(unfold inI;omega)|(unfold z30;omega)))|((first|(with_reducible apply z9;omega)|(with_reducible apply z20;omega)|(apply z9;omega));intro _)|(apply z21;omega)|apply z28|(apply z27;omega;intro _)|((first|apply z26|apply z18|apply z25|apply z36|apply z16|apply z11|apply z17|apply z24) <;> intro _)) <;> conv => whnf)
  refine z116 (fun x : Nat × Nat => ([(0, ints s.b), (5, .int x.2), (8, lst 3 Tree.cs' l), (9, .int l.length), (10, .int x.1)], [])) (fun x => x.1 ≤ l.length ∧ x.2 < 2 ^ x.1 ∧ ltr s.b l 0 0 = ltr s.b (l.drop x.1) x.1 x.2) (fun x => l.length - x.1) (0, 0) ⟨by omega, by decide, rfl⟩ ⟨[], rfl, by decide, rfl, by repeat' (first|exact True.intro|exact ⟨rfl, rfl⟩|apply And.intro), by repeat' (first|exact True.intro|exact z70 rfl rfl|exact z57 (by rfl) (by (first|exact z10|exact z5 rfl|exact z4 (fun _ => rfl)|exact z4 Tree.co_flat|(apply z7 <;> (first|exact z5 rfl|exact z4 (fun _ => rfl)))|assumption))|apply And.intro)⟩ ?_
  rintro ⟨k, n⟩ ⟨hk1, hk2, hk3⟩
  dsimp only at hk1 hk2 hk3
  repeat' ((first|(apply AWP.go ok;rfl)|(apply z35;kernel_rfl)|(apply And.intro;first|omega|(unfold inI;omega)|(dsimp only;omega)|((try dsimp only);simp only [List.length_map, List.length_take, List.length_append, List.length_replicate, List.length_cons, List.length_nil];omega)|exact z6 (fun _ => rfl)|exact ⟨rfl, z13 rfl z19⟩|exact ⟨rfl, z6 (fun _ => rfl) _⟩|exact ⟨⟨rfl, by omega⟩, z6 (fun _ => rfl) _⟩|(unfold z30;omega)|(simp only [z49] at *;first|omega|(unfold inI;omega)|(unfold z30;omega)))|((first|(with_reducible apply z9;omega)|(with_reducible apply z20;omega)|(apply z9;omega));intro _)|(apply z21;omega)|apply z28|(apply z27;omega;intro _)|((first|apply z26|apply z18|apply z25|apply z36|apply z16|apply z11|apply z17|apply z24) <;> intro _)|(apply z48 (eval_ok s.b hv l[k] (hl.2 _ (List.getElem_mem _)));rfl;rfl)) <;> conv => whnf)
  · rename_i hkl h
    have hp := z479 (show k < 3 by omega)
    have e := shl_eq k (by omega)
    refine And.intro ⟨by omega, by omega, by rw [e];unfold inI;omega⟩ ?_
    conv => whnf
    refine And.intro (by rw [e];unfold z30;omega) ?_
    conv => whnf
    repeat' ((first|(apply AWP.go ok;rfl)|(apply z35;kernel_rfl)|(apply And.intro;first|omega|(unfold inI;omega)|(dsimp only;omega)|((try dsimp only);simp only [List.length_map, List.length_take, List.length_append, List.length_replicate, List.length_cons, List.length_nil];omega)|exact z6 (fun _ => rfl)|exact ⟨rfl, z13 rfl z19⟩|exact ⟨rfl, z6 (fun _ => rfl) _⟩|exact ⟨⟨rfl, by omega⟩, z6 (fun _ => rfl) _⟩|(unfold z30;omega)|(simp only [z49] at *;first|omega|(unfold inI;omega)|(unfold z30;omega)))|((first|(with_reducible apply z9;omega)|(with_reducible apply z20;omega)|(apply z9;omega));intro _)|(apply z21;omega)|apply z28|(apply z27;omega;intro _)|((first|apply z26|apply z18|apply z25|apply z36|apply z16|apply z11|apply z17|apply z24) <;> intro _)) <;> conv => whnf)
    rw [z323 _ _ _ _ hkl, if_neg h] at hk3
    refine z105 (k + 1, n ||| 2 ^ k) [] ⟨by dsimp only;omega, or_lt hk2, hk3⟩ (by dsimp only;omega) ⟨rfl, by decide, rfl, ⟨⟨rfl, rfl⟩, ⟨rfl, ?_⟩, ⟨rfl, rfl⟩, ⟨rfl, rfl⟩, ⟨rfl, rfl⟩, trivial⟩, trivial⟩
    show AC.raw (.int .i64 (((n : Int).toNat ||| ((1 : Int) * 2 ^ ((k : Int).toNat)).toNat : Nat) : Int)) = _
    rw [e];rfl
  · rename_i hkl h
    rw [z323 _ _ _ _ hkl, if_pos h] at hk3
    have : 2 ^ k ≤ 2 ^ (k + 1) := by rw [Nat.pow_succ];omega
    exact z105 (k + 1, n) [] ⟨by dsimp only;omega, by dsimp only;omega, hk3⟩ (by dsimp only;omega) ⟨rfl, by decide, rfl, by repeat' (first|exact True.intro|exact ⟨rfl, rfl⟩|apply And.intro), by repeat' (first|exact True.intro|exact z70 rfl rfl|exact z57 (by rfl) (by (first|exact z10|exact z5 rfl|exact z4 (fun _ => rfl)|exact z4 Tree.co_flat|(apply z7 <;> (first|exact z5 rfl|exact z4 (fun _ => rfl)))|assumption))|apply And.intro)⟩
  · rw [z686 _ _ _ _ (by omega)] at hk3
    exact z87 rfl rfl (by unfold z117;rw [hk3];rfl)
theorem z551 (s : State) (hv : ValsOk s.b) (l : List Tree) (hl : LabelsOk l) : CallsA Tryz.prog 192 [z88 State.cs s, lst 3 Tree.cs' l] [] (.int (z117 l s)) [] := by
  have h3 := hl.1
  refine z58 z82 Tryz.func192 rfl rfl 27 Tryz.ntmps192 (by simp) ?_
  repeat' ((first|(apply AWP.go ok;rfl)|(apply z35;kernel_rfl)|(apply And.intro;first|omega|(unfold inI;omega)|(dsimp only;omega)|((try dsimp only);simp only [List.length_map, List.length_take, List.length_append, List.length_replicate, List.length_cons, List.length_nil];omega)|exact z6 (fun _ => rfl)|exact ⟨rfl, z13 rfl z19⟩|exact ⟨rfl, z6 (fun _ => rfl) _⟩|exact ⟨⟨rfl, by omega⟩, z6 (fun _ => rfl) _⟩|(unfold z30;omega)|(simp only [z49] at *;first|omega|(unfold inI;omega)|(unfold z30;omega)))|((first|(with_reducible apply z9;omega)|(with_reducible apply z20;omega)|(apply z9;omega));intro _)|(apply z21;omega)|apply z28|(apply z27;omega;intro _)|((first|apply z26|apply z18|apply z25|apply z36|apply z16|apply z11|apply z17|apply z24) <;> intro _)) <;> conv => whnf)
  refine z116 (fun x : Nat × Nat => ([(1, lst 3 Tree.cs' l), (2, .ptr 0 none 0), (5, .int x.2), (6, .int x.1)], [.cells 2 [[ints s.a, ints s.b]]])) (fun x => x.1 ≤ l.length ∧ x.2 < 2 ^ x.1 ∧ ltr s.b l 0 0 = ltr s.b (l.drop x.1) x.1 x.2) (fun x => l.length - x.1) (0, 0) ⟨by omega, by decide, rfl⟩ ⟨[0], rfl, by decide, rfl, by repeat' (first|exact True.intro|exact ⟨rfl, rfl⟩|apply And.intro), by repeat' (first|exact True.intro|exact z70 rfl rfl|exact z57 (by rfl) (by (first|exact z10|exact z5 rfl|exact z4 (fun _ => rfl)|exact z4 Tree.co_flat|(apply z7 <;> (first|exact z5 rfl|exact z4 (fun _ => rfl)))|assumption))|apply And.intro)⟩ ?_
  rintro ⟨k, n⟩ ⟨hk1, hk2, hk3⟩
  dsimp only at hk1 hk2 hk3
  repeat' ((first|(apply AWP.go ok;rfl)|(apply z35;kernel_rfl)|(apply And.intro;first|omega|(unfold inI;omega)|(dsimp only;omega)|((try dsimp only);simp only [List.length_map, List.length_take, List.length_append, List.length_replicate, List.length_cons, List.length_nil];omega)|exact z6 (fun _ => rfl)|exact ⟨rfl, z13 rfl z19⟩|exact ⟨rfl, z6 (fun _ => rfl) _⟩|exact ⟨⟨rfl, by omega⟩, z6 (fun _ => rfl) _⟩|(unfold z30;omega)|(simp only [z49] at *;first|omega|(unfold inI;omega)|(unfold z30;omega)))|((first|(with_reducible apply z9;omega)|(with_reducible apply z20;omega)|(apply z9;omega));intro _)|(apply z21;omega)|apply z28|(apply z27;omega;intro _)|((first|apply z26|apply z18|apply z25|apply z36|apply z16|apply z11|apply z17|apply z24) <;> intro _)|(apply z48 (z358 s.b hv l[k] (hl.2 _ (List.getElem_mem _)));rfl;rfl)) <;> conv => whnf)
  · rename_i hkl h
    have hp := z479 (show k < 3 by omega)
    have e := shl_eq k (by omega)
    refine And.intro ?_ ?_
    · show IntKind.u64.wrap k = k
      have : k = 0 ∨ k = 1 ∨ k = 2 := by dsimp only at hkl;omega
      rcases this with rfl|rfl|rfl <;> rfl
    conv => whnf
    refine And.intro ⟨by omega, by omega, by rw [e];unfold inI;omega⟩ ?_
    conv => whnf
    refine And.intro (by rw [e];unfold z30;omega) ?_
    conv => whnf
    repeat' ((first|(apply AWP.go ok;rfl)|(apply z35;kernel_rfl)|(apply And.intro;first|omega|(unfold inI;omega)|(dsimp only;omega)|((try dsimp only);simp only [List.length_map, List.length_take, List.length_append, List.length_replicate, List.length_cons, List.length_nil];omega)|exact z6 (fun _ => rfl)|exact ⟨rfl, z13 rfl z19⟩|exact ⟨rfl, z6 (fun _ => rfl) _⟩|exact ⟨⟨rfl, by omega⟩, z6 (fun _ => rfl) _⟩|(unfold z30;omega)|(simp only [z49] at *;first|omega|(unfold inI;omega)|(unfold z30;omega)))|((first|(with_reducible apply z9;omega)|(with_reducible apply z20;omega)|(apply z9;omega));intro _)|(apply z21;omega)|apply z28|(apply z27;omega;intro _)|((first|apply z26|apply z18|apply z25|apply z36|apply z16|apply z11|apply z17|apply z24) <;> intro _)) <;> conv => whnf)
    rw [z323 _ _ _ _ hkl, if_neg h] at hk3
    refine z105 (k + 1, n ||| 2 ^ k) [0] ⟨by dsimp only;omega, or_lt hk2, hk3⟩ (by dsimp only;omega) ⟨rfl, by decide, rfl, ⟨⟨rfl, rfl⟩, ⟨rfl, rfl⟩, ⟨rfl, ?_⟩, ⟨rfl, rfl⟩, trivial⟩, ⟨z70 rfl rfl, trivial⟩⟩
    show AC.raw (.int .i64 (((n : Int).toNat ||| ((1 : Int) * 2 ^ ((k : Int).toNat)).toNat : Nat) : Int)) = _
    rw [e];rfl
  · rename_i hkl h
    rw [z323 _ _ _ _ hkl, if_pos h] at hk3
    have : 2 ^ k ≤ 2 ^ (k + 1) := by rw [Nat.pow_succ];omega
    exact z105 (k + 1, n) [0] ⟨by dsimp only;omega, by dsimp only;omega, hk3⟩ (by dsimp only;omega) ⟨rfl, by decide, rfl, by repeat' (first|exact True.intro|exact ⟨rfl, rfl⟩|apply And.intro), by repeat' (first|exact True.intro|exact z70 rfl rfl|exact z57 (by rfl) (by (first|exact z10|exact z5 rfl|exact z4 (fun _ => rfl)|exact z4 Tree.co_flat|(apply z7 <;> (first|exact z5 rfl|exact z4 (fun _ => rfl)))|assumption))|apply And.intro)⟩
  · rw [z686 _ _ _ _ (by omega)] at hk3
    exact z87 rfl rfl (by unfold z117;rw [hk3];rfl)
theorem z691 (g : Graph) (hg : ∀ s ∈ g.st, ValsOk s.b) (hn : g.st.length ≤ 60) (l : List Tree) (hl : LabelsOk l) : CallsA Tryz.prog 58 [.agg g.cs, lst 3 Tree.cs' l] [] (.sref 0 0 g.st.length) [.cells 1 (g.st.map fun s => enI (z117 l s))] := by
  refine z58 z82 Tryz.func58 rfl rfl 29 Tryz.ntmps58 (by simp) ?_
  repeat' ((first|(apply AWP.go ok;rfl)|(apply z35;kernel_rfl)|(apply And.intro;first|omega|(unfold inI;omega)|(dsimp only;omega)|((try dsimp only);simp only [List.length_map, List.length_take, List.length_append, List.length_replicate, List.length_cons, List.length_nil];omega)|exact z6 (fun _ => rfl)|exact ⟨rfl, z13 rfl z19⟩|exact ⟨rfl, z6 (fun _ => rfl) _⟩|exact ⟨⟨rfl, by omega⟩, z6 (fun _ => rfl) _⟩|(unfold z30;omega)|(simp only [z49] at *;first|omega|(unfold inI;omega)|(unfold z30;omega)))|((first|(with_reducible apply z9;omega)|(with_reducible apply z20;omega)|(apply z9;omega));intro _)|(apply z21;omega)|apply z28|(apply z27;omega;intro _)|((first|apply z26|apply z18|apply z25|apply z36|apply z16|apply z11|apply z17|apply z24) <;> intro _)) <;> conv => whnf)
  refine z116 (fun k : Nat => ([(1, lst 3 Tree.cs' l), (5, .sref 0 0 g.st.length), (13, lst 2 State.cs g.st), (14, .int g.st.length), (15, .int k)], [.cells 1 ((g.st.take k).map (fun s => enI (z117 l s)) ++ List.replicate (g.st.length - k) (enI 0))])) (fun k => k ≤ g.st.length) (fun k => g.st.length - k) 0 (by omega) ⟨[1], rfl, by decide, rfl, by repeat' (first|exact True.intro|exact ⟨rfl, rfl⟩|apply And.intro), by repeat' (first|exact True.intro|exact z70 rfl rfl|exact z57 (by rfl) (by (first|exact z10|exact z5 rfl|exact z4 (fun _ => rfl)|exact z4 Tree.co_flat|(apply z7 <;> (first|exact z5 rfl|exact z4 (fun _ => rfl)))|assumption))|apply And.intro)⟩ ?_
  intro k hk
  repeat' ((first|(apply AWP.go ok;rfl)|(apply z35;kernel_rfl)|(apply And.intro;first|omega|(unfold inI;omega)|(dsimp only;omega)|((try dsimp only);simp only [List.length_map, List.length_take, List.length_append, List.length_replicate, List.length_cons, List.length_nil];omega)|exact z6 (fun _ => rfl)|exact ⟨rfl, z13 rfl z19⟩|exact ⟨rfl, z6 (fun _ => rfl) _⟩|exact ⟨⟨rfl, by omega⟩, z6 (fun _ => rfl) _⟩|(unfold z30;omega)|(simp only [z49] at *;first|omega|(unfold inI;omega)|(unfold z30;omega)))|((first|(with_reducible apply z9;omega)|(with_reducible apply z20;omega)|(apply z9;omega));intro _)|(apply z21;omega)|apply z28|(apply z27;omega;intro _)|((first|apply z26|apply z18|apply z25|apply z36|apply z16|apply z11|apply z17|apply z24) <;> intro _)|(apply z48 (z688 g.st[k] (hg _ (List.getElem_mem _)) l hl);rfl;rfl)) <;> conv => whnf)
  · rename_i h hkl
    exact z105 (k + 1) [0] (by omega) (by omega) ⟨rfl, by decide, rfl, ⟨⟨rfl, rfl⟩, ⟨rfl, rfl⟩, ⟨rfl, rfl⟩, ⟨rfl, rfl⟩, ⟨rfl, rfl⟩, trivial⟩, ⟨obj_fill hkl rfl rfl rfl (fun _ => rfl) rfl, trivial⟩⟩
  · exact z542 rfl (z4 fun _ => rfl) rfl (fill_end _ _ _ _ (by omega))
theorem label_ok (g : Graph) (hg : ∀ s ∈ g.st, ValsOk s.b) (hn : g.st.length ≤ 60) (l : List Tree) (hl : LabelsOk l) : CallsA Tryz.prog 58 [.agg g.cs, lst 3 Tree.cs' l] [] (ints (g.st.map (z117 l))) [] := by
  have h := (z691 g hg hn l hl).keep (z170 _ _) (by simp)
  unfold ints
  rw [List.length_map, List.map_map]
  exact h
theorem z431 (g : Graph) (hg : ∀ s ∈ g.st, ValsOk s.b) (hn : g.st.length ≤ 60) (l : List Tree) (hl : LabelsOk l) : CallsA Tryz.prog 141 [.agg g.cs, lst 3 Tree.cs' l] [] (.sref 0 0 g.st.length) [.cells 1 (g.st.map fun s => enI (z117 l s))] := by
  refine z58 z82 Tryz.func141 rfl rfl 26 Tryz.ntmps141 (by simp) ?_
  repeat' ((first|(apply AWP.go ok;rfl)|(apply z35;kernel_rfl)|(apply And.intro;first|omega|(unfold inI;omega)|(dsimp only;omega)|((try dsimp only);simp only [List.length_map, List.length_take, List.length_append, List.length_replicate, List.length_cons, List.length_nil];omega)|exact z6 (fun _ => rfl)|exact ⟨rfl, z13 rfl z19⟩|exact ⟨rfl, z6 (fun _ => rfl) _⟩|exact ⟨⟨rfl, by omega⟩, z6 (fun _ => rfl) _⟩|(unfold z30;omega)|(simp only [z49] at *;first|omega|(unfold inI;omega)|(unfold z30;omega)))|((first|(with_reducible apply z9;omega)|(with_reducible apply z20;omega)|(apply z9;omega));intro _)|(apply z21;omega)|apply z28|(apply z27;omega;intro _)|((first|apply z26|apply z18|apply z25|apply z36|apply z16|apply z11|apply z17|apply z24) <;> intro _)) <;> conv => whnf)
  refine z116 (fun k : Nat => ([(1, lst 3 Tree.cs' l), (2, .ptr 0 none 0), (5, .sref 1 0 k), (6, .int k)], [.cells 2 [[lst 2 State.cs g.st, lst 1 encL g.nx]], .cells 1 ((g.st.take k).map fun s => enI (z117 l s))])) (fun k => k ≤ g.st.length) (fun k => g.st.length - k) 0 (by omega) ⟨[0, 1], rfl, by decide, rfl, by repeat' (first|exact True.intro|exact ⟨rfl, rfl⟩|apply And.intro), by repeat' (first|exact True.intro|exact z70 rfl rfl|exact z57 (by rfl) (by (first|exact z10|exact z5 rfl|exact z4 (fun _ => rfl)|exact z4 Tree.co_flat|(apply z7 <;> (first|exact z5 rfl|exact z4 (fun _ => rfl)))|assumption))|apply And.intro)⟩ ?_
  intro k hk
  repeat' ((first|(apply AWP.go ok;rfl)|(apply z35;kernel_rfl)|(apply And.intro;first|omega|(unfold inI;omega)|(dsimp only;omega)|((try dsimp only);simp only [List.length_map, List.length_take, List.length_append, List.length_replicate, List.length_cons, List.length_nil];omega)|exact z6 (fun _ => rfl)|exact ⟨rfl, z13 rfl z19⟩|exact ⟨rfl, z6 (fun _ => rfl) _⟩|exact ⟨⟨rfl, by omega⟩, z6 (fun _ => rfl) _⟩|(unfold z30;omega)|(simp only [z49] at *;first|omega|(unfold inI;omega)|(unfold z30;omega)))|((first|(with_reducible apply z9;omega)|(with_reducible apply z20;omega)|(apply z9;omega));intro _)|(apply z21;omega)|apply z28|(apply z27;omega;intro _)|((first|apply z26|apply z18|apply z25|apply z36|apply z16|apply z11|apply z17|apply z24) <;> intro _)|(apply z48 (z551 g.st[k] (hg _ (List.getElem_mem _)) l hl);rfl;rfl)) <;> conv => whnf)
  · rename_i h hkl
    exact z105 (k + 1) [0, 3] (by omega) (by omega) ⟨rfl, by decide, rfl, ⟨⟨rfl, rfl⟩, ⟨rfl, rfl⟩, ⟨rfl, rfl⟩, ⟨rfl, rfl⟩, trivial⟩, ⟨z70 rfl rfl, obj_app hkl _ rfl rfl rfl (fun _ => rfl), trivial⟩⟩
  · obtain rfl : k = g.st.length := by omega
    exact z542 rfl (z4 fun _ => rfl) rfl (by rw [List.take_length])
theorem z486 (g : Graph) (hg : ∀ s ∈ g.st, ValsOk s.b) (hn : g.st.length ≤ 60) (l : List Tree) (hl : LabelsOk l) : CallsA Tryz.prog 141 [.agg g.cs, lst 3 Tree.cs' l] [] (ints (g.st.map (z117 l))) [] := by
  have h := (z431 g hg hn l hl).keep (z170 _ _) (by simp)
  unfold ints
  rw [List.length_map, List.map_map]
  exact h
end Go.Proofs.YtppafngcahgagaaGreat

namespace Go.Proofs.YtppafngcahgagaaGreat
open Go.Gl
attribute [local irreducible] z85 AWP z100 z108 z104
theorem z492 (l : List Int) (hl : l.length ≤ maxLen) : CallsA Tryz.prog 89 [ints l] [] (.bool (z262 l)) [] := by
  unfold maxLen at hl
  have e : z262 l = (l.all (fun n => btw n 0 3) && decide ((l.length : Int) = 3)) := by
    unfold z262;rw [Bool.and_comm, List.all_eq_not_any_not]
  rw [e]
  refine z58 z82 Tryz.func89 rfl rfl 25 Tryz.ntmps89 (by simp) ?_
  repeat' ((first|(apply AWP.go ok;rfl)|(apply z35;kernel_rfl)|(apply And.intro;first|omega|(unfold inI;omega)|(dsimp only;omega)|((try dsimp only);simp only [List.length_map, List.length_take, List.length_append, List.length_replicate, List.length_cons, List.length_nil];omega)|exact z6 (fun _ => rfl)|exact ⟨rfl, z13 rfl z19⟩|exact ⟨rfl, z6 (fun _ => rfl) _⟩|exact ⟨⟨rfl, by omega⟩, z6 (fun _ => rfl) _⟩|(unfold z30;omega)|(simp only [z49] at *;first|omega|(unfold inI;omega)|(unfold z30;omega)))|((first|(with_reducible apply z9;omega)|(with_reducible apply z20;omega)|(apply z9;omega));intro _)|(apply z21;omega)|apply z28|(apply z27;omega;intro _)|((first|apply z26|apply z18|apply z25|apply z36|apply z16|apply z11|apply z17|apply z24) <;> intro _)) <;> conv => whnf)
  refine z116 (fun k : Nat => ([(0, ints l), (3, .int k)], [])) (fun k => k ≤ l.length ∧ l.all (fun n => btw n 0 3) = (l.drop k).all (fun n => btw n 0 3)) (fun k => l.length - k) 0 ⟨by omega, rfl⟩ ⟨[], rfl, by decide, rfl, by repeat' (first|exact True.intro|exact ⟨rfl, rfl⟩|apply And.intro), by repeat' (first|exact True.intro|exact z70 rfl rfl|exact z57 (by rfl) (by (first|exact z10|exact z5 rfl|exact z4 (fun _ => rfl)|exact z4 Tree.co_flat|(apply z7 <;> (first|exact z5 rfl|exact z4 (fun _ => rfl)))|assumption))|apply And.intro)⟩ ?_
  intro k hk
  repeat' ((first|(apply AWP.go ok;rfl)|(apply z35;kernel_rfl)|(apply And.intro;first|omega|(unfold inI;omega)|(dsimp only;omega)|((try dsimp only);simp only [List.length_map, List.length_take, List.length_append, List.length_replicate, List.length_cons, List.length_nil];omega)|exact z6 (fun _ => rfl)|exact ⟨rfl, z13 rfl z19⟩|exact ⟨rfl, z6 (fun _ => rfl) _⟩|exact ⟨⟨rfl, by omega⟩, z6 (fun _ => rfl) _⟩|(unfold z30;omega)|(simp only [z49] at *;first|omega|(unfold inI;omega)|(unfold z30;omega)))|((first|(with_reducible apply z9;omega)|(with_reducible apply z20;omega)|(apply z9;omega));intro _)|(apply z21;omega)|apply z28|(apply z27;omega;intro _)|((first|apply z26|apply z18|apply z25|apply z36|apply z16|apply z11|apply z17|apply z24) <;> intro _)) <;> conv => whnf)
  · refine z81 rfl ?_
    have : btw l[k] 0 3 = false := z369.2 (by omega)
    rw [hk.2, z146 _ _ _ (by assumption), this];rfl
  · refine z81 rfl ?_
    have : btw l[k] 0 3 = false := z369.2 (by omega)
    rw [hk.2, z146 _ _ _ (by assumption), this];rfl
  · have : btw l[k] 0 3 = true := z49.2 (by omega)
    exact z105 (k + 1) [] ⟨by omega, by rw [hk.2, z146 _ _ _ (by assumption), this];rfl⟩ (by omega) ⟨rfl, by decide, rfl, by repeat' (first|exact True.intro|exact ⟨rfl, rfl⟩|apply And.intro), by repeat' (first|exact True.intro|exact z70 rfl rfl|exact z57 (by rfl) (by (first|exact z10|exact z5 rfl|exact z4 (fun _ => rfl)|exact z4 Tree.co_flat|(apply z7 <;> (first|exact z5 rfl|exact z4 (fun _ => rfl)))|assumption))|apply And.intro)⟩
  · exact z81 rfl (by rw [hk.2, z143 _ _ _ (by omega), Bool.true_and])
theorem z692 (l : List Int) (hl : l.length ≤ maxLen) (v : Int) : CallsA Tryz.prog 90 [ints l, .int v] [] (.bool (decide (v ∈ l))) [] := by
  unfold maxLen at hl
  have e : decide (v ∈ l) = l.any (fun x => decide (x = v)) := by
    rw [Bool.eq_iff_iff];simp
  rw [e]
  refine z58 z82 Tryz.func90 rfl rfl 18 Tryz.ntmps90 (by simp) ?_
  repeat' ((first|(apply AWP.go ok;rfl)|(apply z35;kernel_rfl)|(apply And.intro;first|omega|(unfold inI;omega)|(dsimp only;omega)|((try dsimp only);simp only [List.length_map, List.length_take, List.length_append, List.length_replicate, List.length_cons, List.length_nil];omega)|exact z6 (fun _ => rfl)|exact ⟨rfl, z13 rfl z19⟩|exact ⟨rfl, z6 (fun _ => rfl) _⟩|exact ⟨⟨rfl, by omega⟩, z6 (fun _ => rfl) _⟩|(unfold z30;omega)|(simp only [z49] at *;first|omega|(unfold inI;omega)|(unfold z30;omega)))|((first|(with_reducible apply z9;omega)|(with_reducible apply z20;omega)|(apply z9;omega));intro _)|(apply z21;omega)|apply z28|(apply z27;omega;intro _)|((first|apply z26|apply z18|apply z25|apply z36|apply z16|apply z11|apply z17|apply z24) <;> intro _)) <;> conv => whnf)
  refine z116 (fun k : Nat => ([(0, ints l), (1, .int v), (5, .int k)], [])) (fun k => k ≤ l.length ∧ l.any (fun x => decide (x = v)) = (l.drop k).any (fun x => decide (x = v))) (fun k => l.length - k) 0 ⟨by omega, rfl⟩ ⟨[], rfl, by decide, rfl, by repeat' (first|exact True.intro|exact ⟨rfl, rfl⟩|apply And.intro), by repeat' (first|exact True.intro|exact z70 rfl rfl|exact z57 (by rfl) (by (first|exact z10|exact z5 rfl|exact z4 (fun _ => rfl)|exact z4 Tree.co_flat|(apply z7 <;> (first|exact z5 rfl|exact z4 (fun _ => rfl)))|assumption))|apply And.intro)⟩ ?_
  intro k hk
  repeat' ((first|(apply AWP.go ok;rfl)|(apply z35;kernel_rfl)|(apply And.intro;first|omega|(unfold inI;omega)|(dsimp only;omega)|((try dsimp only);simp only [List.length_map, List.length_take, List.length_append, List.length_replicate, List.length_cons, List.length_nil];omega)|exact z6 (fun _ => rfl)|exact ⟨rfl, z13 rfl z19⟩|exact ⟨rfl, z6 (fun _ => rfl) _⟩|exact ⟨⟨rfl, by omega⟩, z6 (fun _ => rfl) _⟩|(unfold z30;omega)|(simp only [z49] at *;first|omega|(unfold inI;omega)|(unfold z30;omega)))|((first|(with_reducible apply z9;omega)|(with_reducible apply z20;omega)|(apply z9;omega));intro _)|(apply z21;omega)|apply z28|(apply z27;omega;intro _)|((first|apply z26|apply z18|apply z25|apply z36|apply z16|apply z11|apply z17|apply z24) <;> intro _)) <;> conv => whnf)
  · rename_i h
    exact z81 rfl (by rw [hk.2, z601 _ _ _ (by assumption), decide_eq_true h];rfl)
  · rename_i h
    exact z105 (k + 1) [] ⟨by omega, by rw [hk.2, z601 _ _ _ (by assumption), decide_eq_false h];rfl⟩ (by omega) ⟨rfl, by decide, rfl, by repeat' (first|exact True.intro|exact ⟨rfl, rfl⟩|apply And.intro), by repeat' (first|exact True.intro|exact z70 rfl rfl|exact z57 (by rfl) (by (first|exact z10|exact z5 rfl|exact z4 (fun _ => rfl)|exact z4 Tree.co_flat|(apply z7 <;> (first|exact z5 rfl|exact z4 (fun _ => rfl)))|assumption))|apply And.intro)⟩
  · exact z81 rfl (by rw [hk.2, z501 _ _ _ (by omega)])
theorem Distinct.le {l : List Int} {n : Int} (h : Distinct l n l.length) (h0 : 0 ≤ n) : (l.length : Int) ≤ n := by
  have hnd : (l.map Int.toNat).Nodup := by
    rw [List.nodup_iff_pairwise_ne, List.pairwise_map, List.pairwise_iff_getElem]
    intro i j hi hj hij he
    have h1 := h i hi hi
    have h2 := h j hj hj
    refine h2.2 ?_
    have : l[j] = l[i] := by omega
    rw [this, List.mem_take_iff_getElem]
    exact ⟨i, by omega, rfl⟩
  have hsub : (l.map Int.toNat) ⊆ List.range n.toNat := by
    intro x hx
    obtain ⟨y, hy, rfl⟩ := List.mem_map.1 hx
    obtain ⟨i, hi, rfl⟩ := List.mem_iff_getElem.1 hy
    have := (h i hi hi).1
    rw [List.mem_range];omega
  have := hnd.length_le_of_subset hsub
  simp at this
  omega
def RowOk (g : Graph) (i : Nat) : Prop := ∀ (h : i < g.nx.length) (h' : i < g.st.length), 1 ≤ g.nx[i].length ∧ g.nx[i].length ≤ g.st.length ∧ z262 g.st[i].b = true ∧ Distinct g.nx[i] g.st.length g.nx[i].length
def GB (g : Graph) : Prop := (1 ≤ g.st.length ∧ g.st.length ≤ 60) ∧ g.nx.length = g.st.length ∧ ∀ i, i < g.nx.length → RowOk g i
theorem z463 {n : Int} {l : List Int} : z464 n l = true ↔ 1 ≤ l.length ∧ Distinct l n l.length := by
  unfold z464
  rw [Bool.and_eq_true, decide_eq_true_eq, Bool.not_eq_true', decide_eq_false_iff_not]
  exact and_congr (by omega) Iff.rfl
theorem z129 (g : Graph) : z232 g = true ↔ GB g := by
  unfold z232 GB
  simp only [Bool.and_eq_true, z49, decide_eq_true_eq, Bool.not_eq_true', List.any_eq_false]
  constructor
  · rintro ⟨h1, h2, h3, h4⟩
    refine ⟨by omega, by omega, fun i hi h h' => ?_⟩
    have h5 := z463.1 (by simpa using h4 _ (List.getElem_mem h))
    have h6 := h5.2.le (by omega)
    exact ⟨h5.1, by omega, by simpa using h3 _ (List.getElem_mem h'), h5.2⟩
  · rintro ⟨h1, h2, h3⟩
    refine ⟨by omega, by omega, fun s hs => ?_, fun l hl => ?_⟩
    · obtain ⟨i, hi, rfl⟩ := List.mem_iff_getElem.1 hs
      simpa using (h3 i (by omega) (by omega) hi).2.2.1
    · obtain ⟨i, hi, rfl⟩ := List.mem_iff_getElem.1 hl
      have := h3 i hi hi (by omega)
      simpa using z463.2 ⟨this.1, this.2.2.2⟩
set_option maxHeartbeats 800000 in
theorem z291 (g : Graph) (hg : g.mx) : CallsA Tryz.prog 38 [.agg g.cs] [] (.bool (z232 g)) [] := by
  obtain ⟨hs, hn, hm⟩ := hg
  have hl1 := hs.1
  unfold maxLen at hl1 hn
  have hiff := z129 g
  refine z58 z82 Tryz.func38 rfl rfl 111 Tryz.ntmps38 (by simp) ?_
  repeat' ((first|(apply AWP.go ok;rfl)|(apply z35;kernel_rfl)|(apply And.intro;first|omega|(unfold inI;omega)|(dsimp only;omega)|((try dsimp only);simp only [List.length_map, List.length_take, List.length_append, List.length_replicate, List.length_cons, List.length_nil];omega)|exact z6 (fun _ => rfl)|exact ⟨rfl, z13 rfl z19⟩|exact ⟨rfl, z6 (fun _ => rfl) _⟩|exact ⟨⟨rfl, by omega⟩, z6 (fun _ => rfl) _⟩|(unfold z30;omega)|(simp only [z49] at *;first|omega|(unfold inI;omega)|(unfold z30;omega)))|((first|(with_reducible apply z9;omega)|(with_reducible apply z20;omega)|(apply z9;omega));intro _)|(apply z21;omega)|apply z28|(apply z27;omega;intro _)|((first|apply z26|apply z18|apply z25|apply z36|apply z16|apply z11|apply z17|apply z24) <;> intro _)) <;> conv => whnf)
  · exact z81 rfl (by rw [← Bool.not_eq_true, hiff];rintro ⟨h1, h2, _⟩;omega)
  · exact z81 rfl (by rw [← Bool.not_eq_true, hiff];rintro ⟨h1, h2, _⟩;omega)
  · exact z81 rfl (by rw [← Bool.not_eq_true, hiff];rintro ⟨h1, h2, _⟩;omega)
  rename_i b1 b2 b3
  have hne : g.nx.length = g.st.length := by omega
  refine z116 (fun k : Nat => ([(1, .ptr 0 none 0), (3, .int k)], [.cells 2 [[lst 2 State.cs g.st, lst 1 encL g.nx]]])) (fun k => k ≤ g.nx.length ∧ ∀ i, i < k → RowOk g i) (fun k => g.nx.length - k) 0 ⟨by omega, fun i h => by omega⟩ ⟨[0], rfl, by decide, rfl, by repeat' (first|exact True.intro|exact ⟨rfl, rfl⟩|apply And.intro), by repeat' (first|exact True.intro|exact z70 rfl rfl|exact z57 (by rfl) (by (first|exact z10|exact z5 rfl|exact z4 (fun _ => rfl)|exact z4 Tree.co_flat|(apply z7 <;> (first|exact z5 rfl|exact z4 (fun _ => rfl)))|assumption))|apply And.intro)⟩ ?_
  intro k hk
  have bad : k < g.nx.length → ¬ RowOk g k → z232 g = false := fun h1 h2 => by
    rw [← Bool.not_eq_true, hiff];rintro ⟨_, _, h3⟩;exact h2 (h3 k h1)
  repeat' ((first|(apply AWP.go ok;rfl)|(apply z35;kernel_rfl)|(apply And.intro;first|omega|(unfold inI;omega)|(dsimp only;omega)|((try dsimp only);simp only [List.length_map, List.length_take, List.length_append, List.length_replicate, List.length_cons, List.length_nil];omega)|exact z6 (fun _ => rfl)|exact ⟨rfl, z13 rfl z19⟩|exact ⟨rfl, z6 (fun _ => rfl) _⟩|exact ⟨⟨rfl, by omega⟩, z6 (fun _ => rfl) _⟩|(unfold z30;omega)|(simp only [z49] at *;first|omega|(unfold inI;omega)|(unfold z30;omega)))|((first|(with_reducible apply z9;omega)|(with_reducible apply z20;omega)|(apply z9;omega));intro _)|(apply z21;omega)|apply z28|(apply z27;omega;intro _)|((first|apply z26|apply z18|apply z25|apply z36|apply z16|apply z11|apply z17|apply z24) <;> intro _)|(apply z48 (z492 _ (hs.2 _ (List.getElem_mem _)).2);rfl;rfl)) <;> conv => whnf)
  · refine z81 rfl (bad (by assumption) fun h => ?_)
    have := h (by assumption) (by omega);omega
  · refine z81 rfl (bad (by assumption) fun h => ?_)
    have := h (by assumption) (by omega);omega
  · rename_i hv
    refine z81 rfl (bad (by assumption) fun h => ?_)
    have := h (by assumption) (by omega)
    rw [hv] at this;simp at this
  · rename_i hv
    have hkn : k < g.nx.length := by assumption
    have hks : k < g.st.length := by omega
    refine z116 (fun j : Nat => ([(1, .ptr 0 none 0), (3, .int k), (4, .int j)], [.cells 2 [[lst 2 State.cs g.st, lst 1 encL g.nx]]])) (fun j => j ≤ g.nx[k].length ∧ Distinct g.nx[k] g.st.length j) (fun j => g.nx[k].length - j) 0 ⟨by omega, fun i h hi => by omega⟩ ⟨[0], rfl, by decide, rfl, by repeat' (first|exact True.intro|exact ⟨rfl, rfl⟩|apply And.intro), by repeat' (first|exact True.intro|exact z70 rfl rfl|exact z57 (by rfl) (by (first|exact z10|exact z5 rfl|exact z4 (fun _ => rfl)|exact z4 Tree.co_flat|(apply z7 <;> (first|exact z5 rfl|exact z4 (fun _ => rfl)))|assumption))|apply And.intro)⟩ ?_
    intro j hj
    repeat' ((first|(apply AWP.go ok;rfl)|(apply z35;kernel_rfl)|(apply And.intro;first|omega|(unfold inI;omega)|(dsimp only;omega)|((try dsimp only);simp only [List.length_map, List.length_take, List.length_append, List.length_replicate, List.length_cons, List.length_nil];omega)|exact z6 (fun _ => rfl)|exact ⟨rfl, z13 rfl z19⟩|exact ⟨rfl, z6 (fun _ => rfl) _⟩|exact ⟨⟨rfl, by omega⟩, z6 (fun _ => rfl) _⟩|(unfold z30;omega)|(simp only [z49] at *;first|omega|(unfold inI;omega)|(unfold z30;omega)))|((first|(with_reducible apply z9;omega)|(with_reducible apply z20;omega)|(apply z9;omega));intro _)|(apply z21;omega)|apply z28|(apply z27;omega;intro _)|((first|apply z26|apply z18|apply z25|apply z36|apply z16|apply z11|apply z17|apply z24) <;> intro _)) <;> conv => whnf)
    · refine z81 rfl (bad hkn fun h => ?_)
      have := ((h hkn hks).2.2.2 j (by assumption) (by assumption)).1;omega
    · refine z81 rfl (bad hkn fun h => ?_)
      have := ((h hkn hks).2.2.2 j (by assumption) (by assumption)).1;omega
    · apply z48 (z692 (g.nx[k].take j) (by rw [List.length_take];unfold maxLen;omega) g.nx[k][j])
      · show _ = [AC.list 1 _ _, _]
        rw [show AC.list 1 (g.nx[k].take j).length ((g.nx[k].take j).map enI) = _ from (z241 1 enI g.nx[k] j hj.1).symm]
        rfl
      · rfl
      conv => whnf
      repeat' ((first|(apply AWP.go ok;rfl)|(apply z35;kernel_rfl)|(apply And.intro;first|omega|(unfold inI;omega)|(dsimp only;omega)|((try dsimp only);simp only [List.length_map, List.length_take, List.length_append, List.length_replicate, List.length_cons, List.length_nil];omega)|exact z6 (fun _ => rfl)|exact ⟨rfl, z13 rfl z19⟩|exact ⟨rfl, z6 (fun _ => rfl) _⟩|exact ⟨⟨rfl, by omega⟩, z6 (fun _ => rfl) _⟩|(unfold z30;omega)|(simp only [z49] at *;first|omega|(unfold inI;omega)|(unfold z30;omega)))|((first|(with_reducible apply z9;omega)|(with_reducible apply z20;omega)|(apply z9;omega));intro _)|(apply z21;omega)|apply z28|(apply z27;omega;intro _)|((first|apply z26|apply z18|apply z25|apply z36|apply z16|apply z11|apply z17|apply z24) <;> intro _)) <;> conv => whnf)
      · rename_i h2
        exact z81 rfl (bad hkn fun h => ((h hkn hks).2.2.2 j (by assumption) (by assumption)).2 h2)
      · rename_i h2
        refine z105 (j + 1) [0] ⟨by omega, fun i hi hik => ?_⟩ (by omega) ⟨rfl, by decide, rfl, by repeat' (first|exact True.intro|exact ⟨rfl, rfl⟩|apply And.intro), by repeat' (first|exact True.intro|exact z70 rfl rfl|exact z57 (by rfl) (by (first|exact z10|exact z5 rfl|exact z4 (fun _ => rfl)|exact z4 Tree.co_flat|(apply z7 <;> (first|exact z5 rfl|exact z4 (fun _ => rfl)))|assumption))|apply And.intro)⟩
        rcases Nat.lt_or_ge i j with h3|h3
        · exact hj.2 i hi h3
        · obtain rfl : i = j := by omega
          exact ⟨by omega, h2⟩
    · refine z105 (k + 1) [0] ⟨by omega, fun i hi => ?_⟩ (by omega) ⟨rfl, by decide, rfl, by repeat' (first|exact True.intro|exact ⟨rfl, rfl⟩|apply And.intro), by repeat' (first|exact True.intro|exact z70 rfl rfl|exact z57 (by rfl) (by (first|exact z10|exact z5 rfl|exact z4 (fun _ => rfl)|exact z4 Tree.co_flat|(apply z7 <;> (first|exact z5 rfl|exact z4 (fun _ => rfl)))|assumption))|apply And.intro)⟩
      rcases Nat.lt_or_ge i k with h3|h3
      · exact hk.2 i h3
      · obtain rfl : i = k := by omega
        intro _ _
        obtain rfl : j = g.nx[i].length := by omega
        exact ⟨by omega, by omega, hv, hj.2⟩
  · exact z81 rfl (by rw [hiff];exact ⟨by omega, hne, fun i hi => hk.2 i (by omega)⟩)
end Go.Proofs.YtppafngcahgagaaGreat

namespace Go.Proofs.YtppafngcahgagaaGreat
open Go.Gl
attribute [local irreducible] z85 AWP z100 z108 z104
def Trans.mx (t : Trans) : Prop := inI t.val
def edgeP (n : Int) (t : Trans) : Prop := (0 ≤ t.src ∧ t.src ≤ n - 1) ∧ (0 ≤ t.dst ∧ t.dst ≤ n - 1) ∧ (0 ≤ t.care ∧ t.care ≤ 7) ∧ 0 ≤ t.val ∧ t.val.toNat &&& t.care.toNat = t.val.toNat
instance {n : Int} {t : Trans} : Decidable (edgeP n t) := by unfold edgeP;infer_instance
def IniP (l : List Int) (n : Int) (k : Nat) : Prop := ∀ i (h : i < l.length), i < k → (0 ≤ l[i] ∧ l[i] ≤ n - 1) ∧ ∀ j (hj : j + 1 = i), l[j]'(by omega) < l[i]
def AutP (a : Aut) : Prop := (1 ≤ a.acc.length ∧ a.acc.length ≤ 64) ∧ a.ed.length ≤ 2048 ∧ IniP a.ini a.acc.length a.ini.length ∧ ∀ e ∈ a.ed, edgeP a.acc.length e
noncomputable instance {a : Aut} : Decidable (AutP a) := Classical.propDecidable _
theorem IniP.ge {l : List Int} {n : Int} (h : IniP l n l.length) : ∀ i (hi : i < l.length), (i : Int) ≤ l[i] := by
  intro i
  induction i with
  | zero => intro hi;exact (h 0 hi hi).1.1
  | succ i ih =>
    intro hi
    have h1 := ih (by omega)
    have h2 := (h (i + 1) hi hi).2 i rfl
    omega
theorem IniP.le {l : List Int} {n : Int} (h : IniP l n l.length) (h0 : 0 ≤ n) : (l.length : Int) ≤ n := by
  rcases Nat.eq_zero_or_pos l.length with e|e
  · omega
  · have h1 := h.ge (l.length - 1) (by omega)
    have h2 := (h (l.length - 1) (by omega) (by omega)).1.2
    omega
def Aut.mx (a : Aut) : Prop := a.ini.length ≤ maxLen ∧ a.acc.length ≤ maxLen ∧ a.ed.length ≤ maxLen ∧ ∀ t ∈ a.ed, t.mx
theorem IniP.step {l : List Int} {n : Int} {k : Nat} (h : IniP l n k) (hk : k < l.length) (h1 : 0 ≤ l[k] ∧ l[k] ≤ n - 1) (h2 : ∀ j (hj : j + 1 = k), l[j]'(by omega) < l[k]) : IniP l n (k + 1) := by
  intro i hi hik
  rcases Nat.lt_or_ge i k with h3|h3
  · exact h i hi h3
  · obtain rfl : i = k := by omega
    exact ⟨h1, h2⟩
end Go.Proofs.YtppafngcahgagaaGreat

