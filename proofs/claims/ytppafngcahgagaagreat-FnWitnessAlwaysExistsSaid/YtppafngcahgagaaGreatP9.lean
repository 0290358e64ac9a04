/- A part of the proofs over this program: T70, T61, T62. -/
import Derived.Test.YtppafngcahgagaaGreatG0
import Derived.Test.YtppafngcahgagaaGreatG1
import Derived.Test.YtppafngcahgagaaGreatG2
import Derived.Test.YtppafngcahgagaaGreatP0
import Derived.Test.YtppafngcahgagaaGreatP1
import Derived.Test.YtppafngcahgagaaGreatP2
import Derived.Test.YtppafngcahgagaaGreatP3
import Derived.Test.YtppafngcahgagaaGreatP8
set_option linter.all false
namespace Go.Proofs.YtppafngcahgagaaGreat
open Go.Gl
attribute [local irreducible] z85 AWP z100 z108 z104
def enU (n : Int) : List AC := [.raw (.int .u8 n)]
def rdO (bs : List Int) (p : Int) : AObj := .cells 2 [[lst 1 enU bs, .int p]]
structure BytesOk (bs : List Int) : Prop where
  len : bs.length ≤ 2000
  el : ∀ x ∈ bs, 0 ≤ x ∧ x ≤ 255
theorem u_at {l : List Int} {i : Nat} (h : i < l.length) : (l.map enU)[i]? = some (enU l[i]) := by rw [List.getElem?_map, List.getElem?_eq_getElem h];rfl
theorem rem_at {l : List Int} {i : Int} (h : 0 < l.length) (h0 : 0 ≤ i) : (i % (l.length : Int)).toNat < l.length := by
  have := Int.emod_lt_of_pos i (show (0 : Int) < l.length by omega)
  have := Int.emod_nonneg i (show (l.length : Int) ≠ 0 by omega)
  omega
set_option maxHeartbeats 1600000 in
theorem z96 (bs : List Int) (hb : BytesOk bs) (p n : Int) (h0 : 0 ≤ p) (h1 : p ≤ 1000000000) (hn : n ≤ 1000000000) : ∃ v : Int, (0 ≤ v ∧ (1 ≤ n → v < n)) ∧ CallsA Tryz.prog 105 [.ptr 0 none 0, .int n] [rdO bs p] (.int v) [rdO bs (p + 1)] := by
  have hlen := hb.len
  by_cases hz : n < 1 ∨ bs.length = 0
  · refine ⟨0, ⟨by omega, fun _ => by omega⟩, ?_⟩
    refine z58 z82 Tryz.func105 rfl rfl 99 Tryz.ntmps105 (by simp) ?_
    repeat' (first|(apply AWP.go ok;rfl;conv => whnf)|(apply z35;kernel_rfl;conv => whnf)|(apply And.intro;(first|omega|(unfold inI;omega)|(dsimp only;omega)|(unfold z30;omega)|((try dsimp only);simp only [List.length_map, List.length_take, List.length_append, List.length_replicate, List.length_cons, List.length_nil];omega)|(simp only [z49] at *;first|omega|(unfold inI;omega)|(unfold z30;omega))|exact z6 (fun _ => rfl)|exact ⟨rfl, z13 rfl z19⟩|exact ⟨rfl, z6 (fun _ => rfl) _⟩|exact ⟨⟨rfl, by omega⟩, z6 (fun _ => rfl) _⟩);conv => whnf)|(with_reducible apply z9;omega;intro _;conv => whnf)|(with_reducible apply z20;omega;intro _;conv => whnf)|(apply z9;omega;intro _;conv => whnf)|(apply z21;omega;conv => whnf)|(apply z28;conv => whnf)|(apply z27;omega;intro _;conv => whnf)|(apply z26 <;> intro _ <;> conv => whnf)|(apply z18 <;> intro _ <;> conv => whnf)|(apply z25 <;> intro _ <;> conv => whnf)|(apply z36 <;> intro _ <;> conv => whnf)|(apply z16 <;> intro _ <;> conv => whnf)|(apply z11 <;> intro _ <;> conv => whnf)|(apply z17 <;> intro _ <;> conv => whnf)|(apply z24 <;> intro _ <;> conv => whnf))
    all_goals first|(exfalso;omega)|exact z91 [0] (by decide) rfl rfl rfl ⟨z70 rfl rfl, trivial⟩
  by_cases hk : p < bs.length
  · have hp : (p + 1 - 1).toNat < bs.length := by omega
    have g0 := u_at (l := bs) (i := (p + 1 - 1).toNat) hp
    have hr := hb.el bs[(p + 1 - 1).toNat] (List.getElem_mem _)
    generalize bs[(p + 1 - 1).toNat] = b at *
    have hw : IntKind.i64.wrap b = b := IntWalk.i64_in _ (by omega)
    refine ⟨b % n, ⟨Int.emod_nonneg _ (by omega), fun _ => Int.emod_lt_of_pos _ (by omega)⟩, ?_⟩
    refine z58 z82 Tryz.func105 rfl rfl 99 Tryz.ntmps105 (by simp) ?_
    repeat' (first|(apply AWP.go ok;rfl;conv => whnf)|(apply z35;kernel_rfl;conv => whnf)|(refine z80 (i := (p + 1 - 1).toNat) rfl g0 ?_;conv => whnf)|(apply And.intro;(first|omega|(unfold inI;omega)|(dsimp only;omega)|(unfold z30;omega)|((try dsimp only);simp only [List.length_map, List.length_take, List.length_append, List.length_replicate, List.length_cons, List.length_nil];omega)|(simp only [z49] at *;first|omega|(unfold inI;omega)|(unfold z30;omega))|exact z6 (fun _ => rfl)|exact ⟨rfl, z13 rfl z19⟩|exact ⟨rfl, z6 (fun _ => rfl) _⟩|exact ⟨⟨rfl, by omega⟩, z6 (fun _ => rfl) _⟩);conv => whnf)|(with_reducible apply z9;omega;intro _;conv => whnf)|(with_reducible apply z20;omega;intro _;conv => whnf)|(apply z9;omega;intro _;conv => whnf)|(apply z21;omega;conv => whnf)|(apply z28;conv => whnf)|(apply z27;omega;intro _;conv => whnf)|(apply z26 <;> intro _ <;> conv => whnf)|(apply z18 <;> intro _ <;> conv => whnf)|(apply z25 <;> intro _ <;> conv => whnf)|(apply z36 <;> intro _ <;> conv => whnf)|(apply z16 <;> intro _ <;> conv => whnf)|(apply z11 <;> intro _ <;> conv => whnf)|(apply z17 <;> intro _ <;> conv => whnf)|(apply z24 <;> intro _ <;> conv => whnf))
    all_goals first|(exfalso;omega)|exact z91 [0] (by decide) rfl rfl rfl ⟨z70 rfl rfl, trivial⟩
  have hl0 : 0 < bs.length := by omega
  have m1 := rem_at (l := bs) (i := p + 1 - 1) hl0 (by omega)
  have m2 := rem_at (l := bs) (i := (p + 1 - 1) * 7 + 3) hl0 (by omega)
  have g1 := u_at m1
  have g2 := u_at m2
  have r1 := hb.el bs[((p + 1 - 1) % (bs.length : Int)).toNat] (List.getElem_mem _)
  have r2 := hb.el bs[(((p + 1 - 1) * 7 + 3) % (bs.length : Int)).toNat] (List.getElem_mem _)
  generalize bs[((p + 1 - 1) % (bs.length : Int)).toNat] = b1 at *
  generalize bs[(((p + 1 - 1) * 7 + 3) % (bs.length : Int)).toNat] = b2 at *
  have w1 : IntKind.i64.wrap b1 = b1 := IntWalk.i64_in _ (by omega)
  have w2 : IntKind.i64.wrap b2 = b2 := IntWalk.i64_in _ (by omega)
  have n1 := Int.emod_nonneg (p + 1 - 1) (show (bs.length : Int) ≠ 0 by omega)
  have n2 := Int.emod_nonneg ((p + 1 - 1) * 7 + 3) (show (bs.length : Int) ≠ 0 by omega)
  have l1 := Int.emod_lt_of_pos (p + 1 - 1) (show (0 : Int) < bs.length by omega)
  have l2 := Int.emod_lt_of_pos ((p + 1 - 1) * 7 + 3) (show (0 : Int) < bs.length by omega)
  have q0 : 0 ≤ (p + 1 - 1) / (bs.length : Int) := Int.ediv_nonneg (by omega) (by omega)
  have q1 : (p + 1 - 1) / (bs.length : Int) ≤ p + 1 - 1 := Int.ediv_le_self _ (by omega)
  have hx0 : 0 ≤ b1 * 131 + b2 * 1117 + (p + 1 - 1) * 29 + (p + 1 - 1) / (bs.length : Int) * 53 := by omega
  have hx1 : b1 * 131 + b2 * 1117 + (p + 1 - 1) * 29 + (p + 1 - 1) / (bs.length : Int) * 53 ≤ 1000000000000 := by omega
  have hq : 0 ≤ (b1 * 131 + b2 * 1117 + (p + 1 - 1) * 29 + (p + 1 - 1) / (bs.length : Int) * 53) / 64 ∧ (b1 * 131 + b2 * 1117 + (p + 1 - 1) * 29 + (p + 1 - 1) / (bs.length : Int) * 53) / 64 ≤ 1000000000000 := by omega
  refine ⟨(((b1 * 131 + b2 * 1117 + (p + 1 - 1) * 29 + (p + 1 - 1) / (bs.length : Int) * 53).toNat ^^^ ((b1 * 131 + b2 * 1117 + (p + 1 - 1) * 29 + (p + 1 - 1) / (bs.length : Int) * 53) / 64).toNat : Nat) : Int) % n, ⟨Int.emod_nonneg _ (by omega), fun _ => Int.emod_lt_of_pos _ (by omega)⟩, ?_⟩
  refine z58 z82 Tryz.func105 rfl rfl 99 Tryz.ntmps105 (by simp) ?_
  repeat' (first|(apply AWP.go ok;rfl;conv => whnf)|(apply z35;kernel_rfl;conv => whnf)|(refine z80 (i := (((p + 1 - 1) * 7 + 3) % (bs.length : Int)).toNat) rfl g2 ?_;conv => whnf)|(refine z80 (i := ((p + 1 - 1) % (bs.length : Int)).toNat) rfl g1 ?_;conv => whnf)|(apply And.intro;(first|omega|(unfold inI;omega)|(dsimp only;omega)|(unfold z30;omega)|((try dsimp only);simp only [List.length_map, List.length_take, List.length_append, List.length_replicate, List.length_cons, List.length_nil];omega)|(simp only [z49] at *;first|omega|(unfold inI;omega)|(unfold z30;omega))|exact z6 (fun _ => rfl)|exact ⟨rfl, z13 rfl z19⟩|exact ⟨rfl, z6 (fun _ => rfl) _⟩|exact ⟨⟨rfl, by omega⟩, z6 (fun _ => rfl) _⟩);conv => whnf)|(with_reducible apply z9;omega;intro _;conv => whnf)|(with_reducible apply z20;omega;intro _;conv => whnf)|(apply z9;omega;intro _;conv => whnf)|(apply z21;omega;conv => whnf)|(apply z28;conv => whnf)|(apply z27;omega;intro _;conv => whnf)|(apply z26 <;> intro _ <;> conv => whnf)|(apply z18 <;> intro _ <;> conv => whnf)|(apply z25 <;> intro _ <;> conv => whnf)|(apply z36 <;> intro _ <;> conv => whnf)|(apply z16 <;> intro _ <;> conv => whnf)|(apply z11 <;> intro _ <;> conv => whnf)|(apply z17 <;> intro _ <;> conv => whnf)|(apply z24 <;> intro _ <;> conv => whnf))
  all_goals first|(exfalso;omega)|exact z91 [0] (by decide) rfl rfl rfl ⟨z70 rfl rfl, trivial⟩|skip
theorem z637 (bs : List Int) (hl : bs.length ≤ maxLen) : CallsA Tryz.prog 48 [lst 1 enU bs] [] (.ptr 0 none 0) [rdO (bs.take 2000) 0] := by
  unfold maxLen at hl
  refine z58 z82 Tryz.func48 rfl rfl 11 Tryz.ntmps48 (by simp) ?_
  by_cases h : bs.length ≤ 2000
  · rw [List.take_of_length_le h]
    repeat' (first|(apply AWP.go ok;rfl;conv => whnf)|(apply z35;kernel_rfl;conv => whnf)|(apply And.intro;(first|omega|(unfold inI;omega)|(dsimp only;omega)|(unfold z30;omega)|((try dsimp only);simp only [List.length_map, List.length_take, List.length_append, List.length_replicate, List.length_cons, List.length_nil];omega)|(simp only [z49] at *;first|omega|(unfold inI;omega)|(unfold z30;omega))|exact z6 (fun _ => rfl)|exact ⟨rfl, z13 rfl z19⟩|exact ⟨rfl, z6 (fun _ => rfl) _⟩|exact ⟨⟨rfl, by omega⟩, z6 (fun _ => rfl) _⟩);conv => whnf)|(with_reducible apply z9;omega;intro _;conv => whnf)|(with_reducible apply z20;omega;intro _;conv => whnf)|(apply z9;omega;intro _;conv => whnf)|(apply z21;omega;conv => whnf)|(apply z28;conv => whnf)|(apply z27;omega;intro _;conv => whnf)|(apply z26 <;> intro _ <;> conv => whnf)|(apply z18 <;> intro _ <;> conv => whnf)|(apply z25 <;> intro _ <;> conv => whnf)|(apply z36 <;> intro _ <;> conv => whnf)|(apply z16 <;> intro _ <;> conv => whnf)|(apply z11 <;> intro _ <;> conv => whnf)|(apply z17 <;> intro _ <;> conv => whnf)|(apply z24 <;> intro _ <;> conv => whnf))
    all_goals first|(exfalso;omega)|exact z91 [0] (by decide) rfl rfl rfl ⟨z70 rfl rfl, trivial⟩|skip
  · repeat' (first|(apply AWP.go ok;rfl;conv => whnf)|(apply z35;kernel_rfl;conv => whnf)|(apply And.intro;(first|omega|(unfold inI;omega)|(dsimp only;omega)|(unfold z30;omega)|((try dsimp only);simp only [List.length_map, List.length_take, List.length_append, List.length_replicate, List.length_cons, List.length_nil];omega)|(simp only [z49] at *;first|omega|(unfold inI;omega)|(unfold z30;omega))|exact z6 (fun _ => rfl)|exact ⟨rfl, z13 rfl z19⟩|exact ⟨rfl, z6 (fun _ => rfl) _⟩|exact ⟨⟨rfl, by omega⟩, z6 (fun _ => rfl) _⟩);conv => whnf)|(with_reducible apply z9;omega;intro _;conv => whnf)|(with_reducible apply z20;omega;intro _;conv => whnf)|(apply z9;omega;intro _;conv => whnf)|(apply z21;omega;conv => whnf)|(apply z28;conv => whnf)|(apply z27;omega;intro _;conv => whnf)|(apply z26 <;> intro _ <;> conv => whnf)|(apply z18 <;> intro _ <;> conv => whnf)|(apply z25 <;> intro _ <;> conv => whnf)|(apply z36 <;> intro _ <;> conv => whnf)|(apply z16 <;> intro _ <;> conv => whnf)|(apply z11 <;> intro _ <;> conv => whnf)|(apply z17 <;> intro _ <;> conv => whnf)|(apply z24 <;> intro _ <;> conv => whnf))
    all_goals first|(exfalso;omega)|skip
    all_goals exact z91 [0] (by decide) rfl rfl rfl ⟨z70 rfl (congrArg (fun x => AObj.cells 2 [[x, AC.int 0]]) (z241 1 enU bs 2000 (by omega))), trivial⟩
end Go.Proofs.YtppafngcahgagaaGreat

namespace Go.Proofs.YtppafngcahgagaaGreat
open Go.Gl
attribute [local irreducible] z85 AWP z100 z108 z104
set_option maxHeartbeats 4000000 in
theorem z434 (g : Graph) (hG : GB g) (L : List Int) (hL : L.length = g.st.length) (hLr : ∀ x ∈ L, 0 ≤ x ∧ x ≤ 7) (t : Tree) : ∀ d, t.shapeB d = true → CallsA Tryz.prog 61 [.agg g.cs, ints L, z88 Tree.cs' t] [] (.sref 0 0 g.st.length) [.cells 1 ((t.satB g.nx g.st.length L).map enB)] := by
  induction t using Tree.ind with|h t ih => ?_
  intro d hs
  rw [z192, Bool.and_eq_true, decide_eq_true_eq, List.all_eq_true] at hs
  obtain ⟨⟨_, hs2, hs4, hs5⟩, hs3⟩ := hs
  have h60 := hG.1.2
  have hgl := hG.2.1
  have hin := hG.inN
  have cc : ∀ u ∈ t.kids, CallsA Tryz.prog 61 [.agg g.cs, ints L, z88 Tree.cs' u] [] (lst 1 enB (u.satB g.nx g.st.length L)) [] := fun u hu => z696 (ih u hu _ (hs3 u hu)) (Tree.satB_len hin L u)
  clear ih
  have hLg : ∀ i, i < L.length → 0 ≤ L.getD i 0 ∧ L.getD i 0 ≤ 7 := fun i hi => by rw [z107 hi];exact hLr _ (List.getElem_mem _)
  have hLe : ∀ i, i < L.length → (L.map enI)[i]? = some (enI (L.getD i 0)) := fun i hi => by rw [z107 hi, List.getElem?_map, List.getElem?_eq_getElem hi];rfl
  have hkl := z371 hs2
  have hRl : (t.satB g.nx g.st.length L).length = g.st.length := Tree.satB_len hin L t
  have hRe := Tree.satB_eq g.nx g.st.length L t
  unfold opB at hRe
  have hklen : ∀ k ∈ t.kids.map (Tree.satB g.nx g.st.length L), k.length = g.st.length := fun k hk => by
    obtain ⟨u, hu, rfl⟩ := List.mem_map.1 hk
    exact Tree.satB_len hin L u
  have hkl2 : (t.kids.map (Tree.satB g.nx g.st.length L)).length = t.kids.length := by simp
  have hkat : ∀ i (hi : i < t.kids.length) (h2 : i < (t.kids.map (Tree.satB g.nx g.st.length L)).length), ((t.kids.map (Tree.satB g.nx g.st.length L)))[i] = t.kids[i].satB g.nx g.st.length L := fun i hi _ => by simp
  generalize hks : t.kids.map (Tree.satB g.nx g.st.length L) = ks at *
  generalize hR : t.satB g.nx g.st.length L = R at *
  have hl2 : t.kids.length ≤ 2 := by omega
  rw [Tree.arg_eq]
  refine z58 z82 Tryz.func61 rfl rfl 133 Tryz.ntmps61 (by simp) ?_
  repeat' ((first|(apply AWP.go ok;rfl)|(apply z35;kernel_rfl)|(apply And.intro;first|omega|(unfold inI;omega)|(dsimp only;omega)|((try dsimp only);simp only [List.length_map, List.length_take, List.length_append, List.length_replicate, List.length_cons, List.length_nil];omega)|exact z6 (fun _ => rfl)|exact ⟨rfl, z13 rfl z19⟩|exact ⟨rfl, z6 (fun _ => rfl) _⟩|exact ⟨⟨rfl, by omega⟩, z6 (fun _ => rfl) _⟩|(unfold z30;omega)|(simp only [z49] at *;first|omega|(unfold inI;omega)|(unfold z30;omega)))|((first|(with_reducible apply z9;omega)|(with_reducible apply z20;omega)|(apply z9;omega));intro _)|(apply z21;omega)|apply z28|(apply z27;omega;intro _)|((first|apply z26|apply z18|apply z25|apply z36|apply z16|apply z11|apply z17|apply z24) <;> intro _)) <;> conv => whnf)
  refine z116 (fun i : Nat => ([(1, ints L), (3, .ptr 0 none 0), (5, .ptr 1 none 0), (7, .sref 2 0 i), (8, .int i)], [.cells 2 [[lst 2 State.cs g.st, lst 1 encL g.nx]], .cells 3 [[.int t.kind, .int t.val, lst 3 Tree.cs' t.kids]], .cells 1 ((ks.take i).map encBL)])) (fun i => i ≤ t.kids.length) (fun i => t.kids.length - i) 0 (by omega) ⟨[0, 1, 2], rfl, by decide, rfl, ⟨⟨rfl, rfl⟩, ⟨rfl, rfl⟩, ⟨rfl, rfl⟩, ⟨rfl, rfl⟩, ⟨rfl, rfl⟩, trivial⟩, ⟨z70 rfl rfl, z70 rfl rfl, z57 rfl (z4 fun _ => rfl), trivial⟩⟩ ?_
  intro i hi
  have htl : ((ks.take i).map encBL).length = i := by simp;omega
  by_cases hil : i < t.kids.length
  · have ci := cc t.kids[i] (List.getElem_mem _)
    have hka := hkat i hil (by omega)
    rw [← hka] at ci
    repeat' ((first|(apply AWP.go ok;rfl)|(apply z35;kernel_rfl)|(apply And.intro;first|omega|(unfold inI;omega)|(dsimp only;omega)|((try dsimp only);simp only [List.length_map, List.length_take, List.length_append, List.length_replicate, List.length_cons, List.length_nil];omega)|exact z6 (fun _ => rfl)|exact ⟨rfl, z13 rfl z19⟩|exact ⟨rfl, z6 (fun _ => rfl) _⟩|exact ⟨⟨rfl, by omega⟩, z6 (fun _ => rfl) _⟩|(unfold z30;omega)|(simp only [z49] at *;first|omega|(unfold inI;omega)|(unfold z30;omega)))|((first|(with_reducible apply z9;omega)|(with_reducible apply z20;omega)|(apply z9;omega));intro _)|(apply z21;omega)|apply z28|(apply z27;omega;intro _)|((first|apply z26|apply z18|apply z25|apply z36|apply z16|apply z11|apply z17|apply z24) <;> intro _)|(apply z48 (ci);rfl;rfl)) <;> conv => whnf)
    all_goals first|(exfalso;omega)|skip
    refine z105 (i + 1) [0, 1, 4] (by omega) (by omega) ⟨rfl, by decide, rfl, ⟨⟨rfl, rfl⟩, ⟨rfl, rfl⟩, ⟨rfl, rfl⟩, ⟨rfl, rfl⟩, ⟨rfl, rfl⟩, trivial⟩, ⟨z70 rfl rfl, z70 rfl rfl, z57 (z84 ?_) (z4 fun _ => rfl), trivial⟩⟩
    rw [List.take_succ_eq_append_getElem (show i < ks.length by omega), List.map_append, List.take_of_length_le (by rw [htl];exact Nat.le_refl _)]
    rfl
  rw [show ks.take i = ks from List.take_of_length_le (by omega)]
  have hik : i = ks.length := by omega
  subst hik
  clear htl hi
  generalize hn : g.st.length = n at *
  rcases hkl with ⟨hk, hl⟩|⟨hk, hl⟩|⟨hk, hl⟩|⟨hk, hl⟩|⟨hk, hl⟩|⟨hk, hl⟩|⟨hk, hl⟩|⟨hk, hl⟩|⟨hk, hl⟩|⟨hk, hl⟩|⟨hk, hl⟩
  · rw [if_neg (by omega), if_neg (by omega), if_neg (by omega), if_neg (by omega), if_neg (by omega), if_neg (by omega)] at hRe
    repeat' ((first|(apply AWP.go ok;rfl)|(apply z35;kernel_rfl)|(apply And.intro;first|omega|(unfold inI;omega)|(dsimp only;omega)|((try dsimp only);simp only [List.length_map, List.length_take, List.length_append, List.length_replicate, List.length_cons, List.length_nil];omega)|exact z6 (fun _ => rfl)|exact ⟨rfl, z13 rfl z19⟩|exact ⟨rfl, z6 (fun _ => rfl) _⟩|exact ⟨⟨rfl, by omega⟩, z6 (fun _ => rfl) _⟩|(unfold z30;omega)|(simp only [z49] at *;first|omega|(unfold inI;omega)|(unfold z30;omega)))|((first|(with_reducible apply z9;omega)|(with_reducible apply z20;omega)|(apply z9;omega));intro _)|(apply z21;omega)|apply z28|(apply z27;omega;intro _)|((first|apply z26|apply z18|apply z25|apply z36|apply z16|apply z11|apply z17|apply z24) <;> intro _)) <;> conv => whnf)
    all_goals first|(exfalso;omega)|skip
    refine z116 (fun i : Nat => ([(1, ints L), (5, .ptr 1 none 0), (7, .sref 2 0 (ks).length), (9, .sref 3 0 i), (10, .int i)], [.cells 2 [[lst 2 State.cs g.st, lst 1 encL g.nx]], .cells 3 [[.int t.kind, .int t.val, lst 3 Tree.cs' t.kids]], .cells 1 ((ks).map encBL), .cells 1 (((List.range n).take i).map fun j => enB (gB R j))])) (fun i => i ≤ n) (fun i => n - i) 0 (by omega) ⟨[0, 1, 2, 3], rfl, by decide, rfl, ⟨⟨rfl, rfl⟩, ⟨rfl, rfl⟩, ⟨rfl, rfl⟩, ⟨rfl, rfl⟩, ⟨rfl, rfl⟩, trivial⟩, ⟨z70 rfl rfl, z70 rfl rfl, z57 rfl (z4 fun _ => rfl), z57 rfl (z4 fun _ => rfl), trivial⟩⟩ ?_
    intro i hi
    by_cases hil : i < n
    · have hir : i < (List.range n).length := by simpa using hil
      have hv : gB R i = true := by
        rw [hRe, z151 _ _ _ hil];unfold ptB;rw [if_neg (by omega), if_neg (by omega), if_neg (by omega), if_neg (by omega)]
      skip
      repeat' ((first|(apply AWP.go ok;rfl)|(apply z35;kernel_rfl)|(apply And.intro;first|omega|(unfold inI;omega)|(dsimp only;omega)|((try dsimp only);simp only [List.length_map, List.length_take, List.length_append, List.length_replicate, List.length_cons, List.length_nil];omega)|exact z6 (fun _ => rfl)|exact ⟨rfl, z13 rfl z19⟩|exact ⟨rfl, z6 (fun _ => rfl) _⟩|exact ⟨⟨rfl, by omega⟩, z6 (fun _ => rfl) _⟩|(unfold z30;omega)|(simp only [z49] at *;first|omega|(unfold inI;omega)|(unfold z30;omega)))|((first|(with_reducible apply z9;omega)|(with_reducible apply z20;omega)|(apply z9;omega));intro _)|(apply z21;omega)|apply z28|(apply z27;omega;intro _)|((first|apply z26|apply z18|apply z25|apply z36|apply z16|apply z11|apply z17|apply z24) <;> intro _)) <;> conv => whnf)
      all_goals first|(exfalso;omega)|skip
      all_goals
        refine z105 (i + 1) [0, 1, 2, 5] (by omega) (by omega) ⟨rfl, by decide, rfl, ⟨⟨rfl, rfl⟩, ⟨rfl, rfl⟩, ⟨rfl, rfl⟩, ⟨rfl, rfl⟩, ⟨rfl, rfl⟩, trivial⟩, ⟨z70 rfl rfl, z70 rfl rfl, z57 rfl (z4 fun _ => rfl), z57 (z84 ?_) (z4 fun _ => rfl), trivial⟩⟩
        rw [List.take_of_length_le (by simp;omega), List.take_succ_eq_append_getElem hir, List.map_append, List.map_singleton, List.getElem_range, hv]
        rfl
    · repeat' ((first|(apply AWP.go ok;rfl)|(apply z35;kernel_rfl)|(apply And.intro;first|omega|(unfold inI;omega)|(dsimp only;omega)|((try dsimp only);simp only [List.length_map, List.length_take, List.length_append, List.length_replicate, List.length_cons, List.length_nil];omega)|exact z6 (fun _ => rfl)|exact ⟨rfl, z13 rfl z19⟩|exact ⟨rfl, z6 (fun _ => rfl) _⟩|exact ⟨⟨rfl, by omega⟩, z6 (fun _ => rfl) _⟩|(unfold z30;omega)|(simp only [z49] at *;first|omega|(unfold inI;omega)|(unfold z30;omega)))|((first|(with_reducible apply z9;omega)|(with_reducible apply z20;omega)|(apply z9;omega));intro _)|(apply z21;omega)|apply z28|(apply z27;omega;intro _)|((first|apply z26|apply z18|apply z25|apply z36|apply z16|apply z11|apply z17|apply z24) <;> intro _)) <;> conv => whnf)
      all_goals first|(exfalso;omega)|skip
      all_goals
        have hin2 : i = n := by omega
        subst hin2
        refine z91 [3] (by decide) rfl rfl rfl ⟨z57 (z84 ?_) (z4 fun _ => rfl), trivial⟩
        rw [List.take_of_length_le (by simp), ← hRl]
        exact z159 R
  · rw [if_neg (by omega), if_neg (by omega), if_neg (by omega), if_neg (by omega), if_neg (by omega), if_neg (by omega)] at hRe
    repeat' ((first|(apply AWP.go ok;rfl)|(apply z35;kernel_rfl)|(apply And.intro;first|omega|(unfold inI;omega)|(dsimp only;omega)|((try dsimp only);simp only [List.length_map, List.length_take, List.length_append, List.length_replicate, List.length_cons, List.length_nil];omega)|exact z6 (fun _ => rfl)|exact ⟨rfl, z13 rfl z19⟩|exact ⟨rfl, z6 (fun _ => rfl) _⟩|exact ⟨⟨rfl, by omega⟩, z6 (fun _ => rfl) _⟩|(unfold z30;omega)|(simp only [z49] at *;first|omega|(unfold inI;omega)|(unfold z30;omega)))|((first|(with_reducible apply z9;omega)|(with_reducible apply z20;omega)|(apply z9;omega));intro _)|(apply z21;omega)|apply z28|(apply z27;omega;intro _)|((first|apply z26|apply z18|apply z25|apply z36|apply z16|apply z11|apply z17|apply z24) <;> intro _)) <;> conv => whnf)
    all_goals first|(exfalso;omega)|skip
    refine z116 (fun i : Nat => ([(1, ints L), (5, .ptr 1 none 0), (7, .sref 2 0 (ks).length), (9, .sref 3 0 i), (10, .int i)], [.cells 2 [[lst 2 State.cs g.st, lst 1 encL g.nx]], .cells 3 [[.int t.kind, .int t.val, lst 3 Tree.cs' t.kids]], .cells 1 ((ks).map encBL), .cells 1 (((List.range n).take i).map fun j => enB (gB R j))])) (fun i => i ≤ n) (fun i => n - i) 0 (by omega) ⟨[0, 1, 2, 3], rfl, by decide, rfl, ⟨⟨rfl, rfl⟩, ⟨rfl, rfl⟩, ⟨rfl, rfl⟩, ⟨rfl, rfl⟩, ⟨rfl, rfl⟩, trivial⟩, ⟨z70 rfl rfl, z70 rfl rfl, z57 rfl (z4 fun _ => rfl), z57 rfl (z4 fun _ => rfl), trivial⟩⟩ ?_
    intro i hi
    by_cases hil : i < n
    · have hir : i < (List.range n).length := by simpa using hil
      have hv : gB R i = hasB (L.getD i 0) t.val := by
        rw [hRe, z151 _ _ _ hil];unfold ptB;rw [if_pos hk]
      have g0 := hLe i (by omega)
      unfold z316 at hs5
      rw [if_pos hk] at hs5
      have c6 := l6Has_ok (L.getD i 0) t.val (hLg i (by omega)).1 (hLg i (by omega)).2 hs4 hs5
      repeat' ((first|(apply AWP.go ok;rfl)|(apply z35;kernel_rfl)|(refine z80 (i := i) rfl g0 ?_)|(apply And.intro;first|omega|(unfold inI;omega)|(dsimp only;omega)|((try dsimp only);simp only [List.length_map, List.length_take, List.length_append, List.length_replicate, List.length_cons, List.length_nil];omega)|exact z6 (fun _ => rfl)|exact ⟨rfl, z13 rfl z19⟩|exact ⟨rfl, z6 (fun _ => rfl) _⟩|exact ⟨⟨rfl, by omega⟩, z6 (fun _ => rfl) _⟩|(unfold z30;omega)|(simp only [z49] at *;first|omega|(unfold inI;omega)|(unfold z30;omega)))|((first|(with_reducible apply z9;omega)|(with_reducible apply z20;omega)|(apply z9;omega));intro _)|(apply z21;omega)|apply z28|(apply z27;omega;intro _)|((first|apply z26|apply z18|apply z25|apply z36|apply z16|apply z11|apply z17|apply z24) <;> intro _)|(apply z48 (c6);rfl;rfl)) <;> conv => whnf)
      all_goals first|(exfalso;omega)|skip
      all_goals
        refine z105 (i + 1) [0, 1, 2, 5] (by omega) (by omega) ⟨rfl, by decide, rfl, ⟨⟨rfl, rfl⟩, ⟨rfl, rfl⟩, ⟨rfl, rfl⟩, ⟨rfl, rfl⟩, ⟨rfl, rfl⟩, trivial⟩, ⟨z70 rfl rfl, z70 rfl rfl, z57 rfl (z4 fun _ => rfl), z57 (z84 ?_) (z4 fun _ => rfl), trivial⟩⟩
        rw [List.take_of_length_le (by simp;omega), List.take_succ_eq_append_getElem hir, List.map_append, List.map_singleton, List.getElem_range, hv]
        rfl
    · repeat' ((first|(apply AWP.go ok;rfl)|(apply z35;kernel_rfl)|(apply And.intro;first|omega|(unfold inI;omega)|(dsimp only;omega)|((try dsimp only);simp only [List.length_map, List.length_take, List.length_append, List.length_replicate, List.length_cons, List.length_nil];omega)|exact z6 (fun _ => rfl)|exact ⟨rfl, z13 rfl z19⟩|exact ⟨rfl, z6 (fun _ => rfl) _⟩|exact ⟨⟨rfl, by omega⟩, z6 (fun _ => rfl) _⟩|(unfold z30;omega)|(simp only [z49] at *;first|omega|(unfold inI;omega)|(unfold z30;omega)))|((first|(with_reducible apply z9;omega)|(with_reducible apply z20;omega)|(apply z9;omega));intro _)|(apply z21;omega)|apply z28|(apply z27;omega;intro _)|((first|apply z26|apply z18|apply z25|apply z36|apply z16|apply z11|apply z17|apply z24) <;> intro _)) <;> conv => whnf)
      all_goals first|(exfalso;omega)|skip
      all_goals
        have hin2 : i = n := by omega
        subst hin2
        refine z91 [3] (by decide) rfl rfl rfl ⟨z57 (z84 ?_) (z4 fun _ => rfl), trivial⟩
        rw [List.take_of_length_le (by simp), ← hRl]
        exact z159 R
  · obtain ⟨a, rfl⟩ := len1 (hkl2.trans hl)
    have ha := hklen a (by simp)
    rw [if_neg (by omega), if_neg (by omega), if_neg (by omega), if_neg (by omega), if_neg (by omega), if_neg (by omega)] at hRe
    repeat' ((first|(apply AWP.go ok;rfl)|(apply z35;kernel_rfl)|(apply And.intro;first|omega|(unfold inI;omega)|(dsimp only;omega)|((try dsimp only);simp only [List.length_map, List.length_take, List.length_append, List.length_replicate, List.length_cons, List.length_nil];omega)|exact z6 (fun _ => rfl)|exact ⟨rfl, z13 rfl z19⟩|exact ⟨rfl, z6 (fun _ => rfl) _⟩|exact ⟨⟨rfl, by omega⟩, z6 (fun _ => rfl) _⟩|(unfold z30;omega)|(simp only [z49] at *;first|omega|(unfold inI;omega)|(unfold z30;omega)))|((first|(with_reducible apply z9;omega)|(with_reducible apply z20;omega)|(apply z9;omega));intro _)|(apply z21;omega)|apply z28|(apply z27;omega;intro _)|((first|apply z26|apply z18|apply z25|apply z36|apply z16|apply z11|apply z17|apply z24) <;> intro _)) <;> conv => whnf)
    all_goals first|(exfalso;omega)|skip
    refine z116 (fun i : Nat => ([(1, ints L), (5, .ptr 1 none 0), (7, .sref 2 0 ([a]).length), (9, .sref 3 0 i), (10, .int i)], [.cells 2 [[lst 2 State.cs g.st, lst 1 encL g.nx]], .cells 3 [[.int t.kind, .int t.val, lst 3 Tree.cs' t.kids]], .cells 1 (([a]).map encBL), .cells 1 (((List.range n).take i).map fun j => enB (gB R j))])) (fun i => i ≤ n) (fun i => n - i) 0 (by omega) ⟨[0, 1, 2, 3], rfl, by decide, rfl, ⟨⟨rfl, rfl⟩, ⟨rfl, rfl⟩, ⟨rfl, rfl⟩, ⟨rfl, rfl⟩, ⟨rfl, rfl⟩, trivial⟩, ⟨z70 rfl rfl, z70 rfl rfl, z57 rfl (z4 fun _ => rfl), z57 rfl (z4 fun _ => rfl), trivial⟩⟩ ?_
    intro i hi
    by_cases hil : i < n
    · have hir : i < (List.range n).length := by simpa using hil
      have hv : gB R i = !gB a i := by
        rw [hRe, z151 _ _ _ hil];unfold ptB;rw [if_neg (by omega), if_pos hk];rfl
      have g1 := z121 (S := a) (i := i) (by omega)
      repeat' ((first|(apply AWP.go ok;rfl)|(apply z35;kernel_rfl)|(refine z80 (i := 0) rfl rfl ?_)|(refine z80 (i := i) rfl g1 ?_)|(apply And.intro;first|omega|(unfold inI;omega)|(dsimp only;omega)|((try dsimp only);simp only [List.length_map, List.length_take, List.length_append, List.length_replicate, List.length_cons, List.length_nil];omega)|exact z6 (fun _ => rfl)|exact ⟨rfl, z13 rfl z19⟩|exact ⟨rfl, z6 (fun _ => rfl) _⟩|exact ⟨⟨rfl, by omega⟩, z6 (fun _ => rfl) _⟩|(unfold z30;omega)|(simp only [z49] at *;first|omega|(unfold inI;omega)|(unfold z30;omega)))|((first|(with_reducible apply z9;omega)|(with_reducible apply z20;omega)|(apply z9;omega));intro _)|(apply z21;omega)|apply z28|(apply z27;omega;intro _)|((first|apply z26|apply z18|apply z25|apply z36|apply z16|apply z11|apply z17|apply z24) <;> intro _)) <;> conv => whnf)
      all_goals first|(exfalso;omega)|skip
      all_goals
        refine z105 (i + 1) [0, 1, 2, 5] (by omega) (by omega) ⟨rfl, by decide, rfl, ⟨⟨rfl, rfl⟩, ⟨rfl, rfl⟩, ⟨rfl, rfl⟩, ⟨rfl, rfl⟩, ⟨rfl, rfl⟩, trivial⟩, ⟨z70 rfl rfl, z70 rfl rfl, z57 rfl (z4 fun _ => rfl), z57 (z84 ?_) (z4 fun _ => rfl), trivial⟩⟩
        rw [List.take_of_length_le (by simp;omega), List.take_succ_eq_append_getElem hir, List.map_append, List.map_singleton, List.getElem_range, hv]
        rfl
    · repeat' ((first|(apply AWP.go ok;rfl)|(apply z35;kernel_rfl)|(apply And.intro;first|omega|(unfold inI;omega)|(dsimp only;omega)|((try dsimp only);simp only [List.length_map, List.length_take, List.length_append, List.length_replicate, List.length_cons, List.length_nil];omega)|exact z6 (fun _ => rfl)|exact ⟨rfl, z13 rfl z19⟩|exact ⟨rfl, z6 (fun _ => rfl) _⟩|exact ⟨⟨rfl, by omega⟩, z6 (fun _ => rfl) _⟩|(unfold z30;omega)|(simp only [z49] at *;first|omega|(unfold inI;omega)|(unfold z30;omega)))|((first|(with_reducible apply z9;omega)|(with_reducible apply z20;omega)|(apply z9;omega));intro _)|(apply z21;omega)|apply z28|(apply z27;omega;intro _)|((first|apply z26|apply z18|apply z25|apply z36|apply z16|apply z11|apply z17|apply z24) <;> intro _)) <;> conv => whnf)
      all_goals first|(exfalso;omega)|skip
      all_goals
        have hin2 : i = n := by omega
        subst hin2
        refine z91 [3] (by decide) rfl rfl rfl ⟨z57 (z84 ?_) (z4 fun _ => rfl), trivial⟩
        rw [List.take_of_length_le (by simp), ← hRl]
        exact z159 R
  · obtain ⟨a, b, rfl⟩ := len2 (hkl2.trans hl)
    have ha := hklen a (by simp)
    have hb := hklen b (by simp)
    rw [if_neg (by omega), if_neg (by omega), if_neg (by omega), if_neg (by omega), if_neg (by omega), if_neg (by omega)] at hRe
    repeat' ((first|(apply AWP.go ok;rfl)|(apply z35;kernel_rfl)|(apply And.intro;first|omega|(unfold inI;omega)|(dsimp only;omega)|((try dsimp only);simp only [List.length_map, List.length_take, List.length_append, List.length_replicate, List.length_cons, List.length_nil];omega)|exact z6 (fun _ => rfl)|exact ⟨rfl, z13 rfl z19⟩|exact ⟨rfl, z6 (fun _ => rfl) _⟩|exact ⟨⟨rfl, by omega⟩, z6 (fun _ => rfl) _⟩|(unfold z30;omega)|(simp only [z49] at *;first|omega|(unfold inI;omega)|(unfold z30;omega)))|((first|(with_reducible apply z9;omega)|(with_reducible apply z20;omega)|(apply z9;omega));intro _)|(apply z21;omega)|apply z28|(apply z27;omega;intro _)|((first|apply z26|apply z18|apply z25|apply z36|apply z16|apply z11|apply z17|apply z24) <;> intro _)) <;> conv => whnf)
    all_goals first|(exfalso;omega)|skip
    refine z116 (fun i : Nat => ([(1, ints L), (5, .ptr 1 none 0), (7, .sref 2 0 ([a, b]).length), (9, .sref 3 0 i), (10, .int i)], [.cells 2 [[lst 2 State.cs g.st, lst 1 encL g.nx]], .cells 3 [[.int t.kind, .int t.val, lst 3 Tree.cs' t.kids]], .cells 1 (([a, b]).map encBL), .cells 1 (((List.range n).take i).map fun j => enB (gB R j))])) (fun i => i ≤ n) (fun i => n - i) 0 (by omega) ⟨[0, 1, 2, 3], rfl, by decide, rfl, ⟨⟨rfl, rfl⟩, ⟨rfl, rfl⟩, ⟨rfl, rfl⟩, ⟨rfl, rfl⟩, ⟨rfl, rfl⟩, trivial⟩, ⟨z70 rfl rfl, z70 rfl rfl, z57 rfl (z4 fun _ => rfl), z57 rfl (z4 fun _ => rfl), trivial⟩⟩ ?_
    intro i hi
    by_cases hil : i < n
    · have hir : i < (List.range n).length := by simpa using hil
      have hv : gB R i = (gB a i && gB b i) := by
        rw [hRe, z151 _ _ _ hil];unfold ptB;rw [if_neg (by omega), if_neg (by omega), if_pos hk];rfl
      have g1 := z121 (S := a) (i := i) (by omega)
      have g2 := z121 (S := b) (i := i) (by omega)
      generalize gB a i = p at hv g1
      generalize gB b i = q at hv g2
      cases p <;> cases q
      all_goals
        repeat' ((first|(apply AWP.go ok;rfl)|(apply z35;kernel_rfl)|(refine z80 (i := 0) rfl rfl ?_)|(refine z80 (i := 1) rfl rfl ?_)|(refine z80 (i := i) rfl g1 ?_)|(refine z80 (i := i) rfl g2 ?_)|(apply And.intro;first|omega|(unfold inI;omega)|(dsimp only;omega)|((try dsimp only);simp only [List.length_map, List.length_take, List.length_append, List.length_replicate, List.length_cons, List.length_nil];omega)|exact z6 (fun _ => rfl)|exact ⟨rfl, z13 rfl z19⟩|exact ⟨rfl, z6 (fun _ => rfl) _⟩|exact ⟨⟨rfl, by omega⟩, z6 (fun _ => rfl) _⟩|(unfold z30;omega)|(simp only [z49] at *;first|omega|(unfold inI;omega)|(unfold z30;omega)))|((first|(with_reducible apply z9;omega)|(with_reducible apply z20;omega)|(apply z9;omega));intro _)|(apply z21;omega)|apply z28|(apply z27;omega;intro _)|((first|apply z26|apply z18|apply z25|apply z36|apply z16|apply z11|apply z17|apply z24) <;> intro _)) <;> conv => whnf)
        all_goals first|(exfalso;omega)|skip
        all_goals
          refine z105 (i + 1) [0, 1, 2, 5] (by omega) (by omega) ⟨rfl, by decide, rfl, ⟨⟨rfl, rfl⟩, ⟨rfl, rfl⟩, ⟨rfl, rfl⟩, ⟨rfl, rfl⟩, ⟨rfl, rfl⟩, trivial⟩, ⟨z70 rfl rfl, z70 rfl rfl, z57 rfl (z4 fun _ => rfl), z57 (z84 ?_) (z4 fun _ => rfl), trivial⟩⟩
          rw [List.take_of_length_le (by simp;omega), List.take_succ_eq_append_getElem hir, List.map_append, List.map_singleton, List.getElem_range, hv]
          rfl
    · repeat' ((first|(apply AWP.go ok;rfl)|(apply z35;kernel_rfl)|(apply And.intro;first|omega|(unfold inI;omega)|(dsimp only;omega)|((try dsimp only);simp only [List.length_map, List.length_take, List.length_append, List.length_replicate, List.length_cons, List.length_nil];omega)|exact z6 (fun _ => rfl)|exact ⟨rfl, z13 rfl z19⟩|exact ⟨rfl, z6 (fun _ => rfl) _⟩|exact ⟨⟨rfl, by omega⟩, z6 (fun _ => rfl) _⟩|(unfold z30;omega)|(simp only [z49] at *;first|omega|(unfold inI;omega)|(unfold z30;omega)))|((first|(with_reducible apply z9;omega)|(with_reducible apply z20;omega)|(apply z9;omega));intro _)|(apply z21;omega)|apply z28|(apply z27;omega;intro _)|((first|apply z26|apply z18|apply z25|apply z36|apply z16|apply z11|apply z17|apply z24) <;> intro _)) <;> conv => whnf)
      all_goals first|(exfalso;omega)|skip
      all_goals
        have hin2 : i = n := by omega
        subst hin2
        refine z91 [3] (by decide) rfl rfl rfl ⟨z57 (z84 ?_) (z4 fun _ => rfl), trivial⟩
        rw [List.take_of_length_le (by simp), ← hRl]
        exact z159 R
  · obtain ⟨a, b, rfl⟩ := len2 (hkl2.trans hl)
    have ha := hklen a (by simp)
    have hb := hklen b (by simp)
    rw [if_neg (by omega), if_neg (by omega), if_neg (by omega), if_neg (by omega), if_neg (by omega), if_neg (by omega)] at hRe
    repeat' ((first|(apply AWP.go ok;rfl)|(apply z35;kernel_rfl)|(apply And.intro;first|omega|(unfold inI;omega)|(dsimp only;omega)|((try dsimp only);simp only [List.length_map, List.length_take, List.length_append, List.length_replicate, List.length_cons, List.length_nil];omega)|exact z6 (fun _ => rfl)|exact ⟨rfl, z13 rfl z19⟩|exact ⟨rfl, z6 (fun _ => rfl) _⟩|exact ⟨⟨rfl, by omega⟩, z6 (fun _ => rfl) _⟩|(unfold z30;omega)|(simp only [z49] at *;first|omega|(unfold inI;omega)|(unfold z30;omega)))|((first|(with_reducible apply z9;omega)|(with_reducible apply z20;omega)|(apply z9;omega));intro _)|(apply z21;omega)|apply z28|(apply z27;omega;intro _)|((first|apply z26|apply z18|apply z25|apply z36|apply z16|apply z11|apply z17|apply z24) <;> intro _)) <;> conv => whnf)
    all_goals first|(exfalso;omega)|skip
    refine z116 (fun i : Nat => ([(1, ints L), (5, .ptr 1 none 0), (7, .sref 2 0 ([a, b]).length), (9, .sref 3 0 i), (10, .int i)], [.cells 2 [[lst 2 State.cs g.st, lst 1 encL g.nx]], .cells 3 [[.int t.kind, .int t.val, lst 3 Tree.cs' t.kids]], .cells 1 (([a, b]).map encBL), .cells 1 (((List.range n).take i).map fun j => enB (gB R j))])) (fun i => i ≤ n) (fun i => n - i) 0 (by omega) ⟨[0, 1, 2, 3], rfl, by decide, rfl, ⟨⟨rfl, rfl⟩, ⟨rfl, rfl⟩, ⟨rfl, rfl⟩, ⟨rfl, rfl⟩, ⟨rfl, rfl⟩, trivial⟩, ⟨z70 rfl rfl, z70 rfl rfl, z57 rfl (z4 fun _ => rfl), z57 rfl (z4 fun _ => rfl), trivial⟩⟩ ?_
    intro i hi
    by_cases hil : i < n
    · have hir : i < (List.range n).length := by simpa using hil
      have hv : gB R i = (gB a i || gB b i) := by
        rw [hRe, z151 _ _ _ hil];unfold ptB;rw [if_neg (by omega), if_neg (by omega), if_neg (by omega), if_pos hk];rfl
      have g1 := z121 (S := a) (i := i) (by omega)
      have g2 := z121 (S := b) (i := i) (by omega)
      generalize gB a i = p at hv g1
      generalize gB b i = q at hv g2
      cases p <;> cases q
      all_goals
        repeat' ((first|(apply AWP.go ok;rfl)|(apply z35;kernel_rfl)|(refine z80 (i := 0) rfl rfl ?_)|(refine z80 (i := 1) rfl rfl ?_)|(refine z80 (i := i) rfl g1 ?_)|(refine z80 (i := i) rfl g2 ?_)|(apply And.intro;first|omega|(unfold inI;omega)|(dsimp only;omega)|((try dsimp only);simp only [List.length_map, List.length_take, List.length_append, List.length_replicate, List.length_cons, List.length_nil];omega)|exact z6 (fun _ => rfl)|exact ⟨rfl, z13 rfl z19⟩|exact ⟨rfl, z6 (fun _ => rfl) _⟩|exact ⟨⟨rfl, by omega⟩, z6 (fun _ => rfl) _⟩|(unfold z30;omega)|(simp only [z49] at *;first|omega|(unfold inI;omega)|(unfold z30;omega)))|((first|(with_reducible apply z9;omega)|(with_reducible apply z20;omega)|(apply z9;omega));intro _)|(apply z21;omega)|apply z28|(apply z27;omega;intro _)|((first|apply z26|apply z18|apply z25|apply z36|apply z16|apply z11|apply z17|apply z24) <;> intro _)) <;> conv => whnf)
        all_goals first|(exfalso;omega)|skip
        all_goals
          refine z105 (i + 1) [0, 1, 2, 5] (by omega) (by omega) ⟨rfl, by decide, rfl, ⟨⟨rfl, rfl⟩, ⟨rfl, rfl⟩, ⟨rfl, rfl⟩, ⟨rfl, rfl⟩, ⟨rfl, rfl⟩, trivial⟩, ⟨z70 rfl rfl, z70 rfl rfl, z57 rfl (z4 fun _ => rfl), z57 (z84 ?_) (z4 fun _ => rfl), trivial⟩⟩
          rw [List.take_of_length_le (by simp;omega), List.take_succ_eq_append_getElem hir, List.map_append, List.map_singleton, List.getElem_range, hv]
          rfl
    · repeat' ((first|(apply AWP.go ok;rfl)|(apply z35;kernel_rfl)|(apply And.intro;first|omega|(unfold inI;omega)|(dsimp only;omega)|((try dsimp only);simp only [List.length_map, List.length_take, List.length_append, List.length_replicate, List.length_cons, List.length_nil];omega)|exact z6 (fun _ => rfl)|exact ⟨rfl, z13 rfl z19⟩|exact ⟨rfl, z6 (fun _ => rfl) _⟩|exact ⟨⟨rfl, by omega⟩, z6 (fun _ => rfl) _⟩|(unfold z30;omega)|(simp only [z49] at *;first|omega|(unfold inI;omega)|(unfold z30;omega)))|((first|(with_reducible apply z9;omega)|(with_reducible apply z20;omega)|(apply z9;omega));intro _)|(apply z21;omega)|apply z28|(apply z27;omega;intro _)|((first|apply z26|apply z18|apply z25|apply z36|apply z16|apply z11|apply z17|apply z24) <;> intro _)) <;> conv => whnf)
      all_goals first|(exfalso;omega)|skip
      all_goals
        have hin2 : i = n := by omega
        subst hin2
        refine z91 [3] (by decide) rfl rfl rfl ⟨z57 (z84 ?_) (z4 fun _ => rfl), trivial⟩
        rw [List.take_of_length_le (by simp), ← hRl]
        exact z159 R
  · obtain ⟨a, rfl⟩ := len1 (hkl2.trans hl)
    have ha := hklen a (by simp)
    rw [if_pos hk] at hRe
    have cf := z212 g hG a (ha.trans hn.symm) (decide (t.kind = 9))
    rw [hn, show nxL g.nx (decide (t.kind = 9)) n a = R from by rw [hRe, decide_eq_false (by omega)];rfl] at cf
    repeat' ((first|(apply AWP.go ok;rfl)|(apply z35;kernel_rfl)|(refine z80 (i := 0) rfl rfl ?_)|(refine z80 (i := 1) rfl rfl ?_)|(apply And.intro;first|omega|(unfold inI;omega)|(dsimp only;omega)|((try dsimp only);simp only [List.length_map, List.length_take, List.length_append, List.length_replicate, List.length_cons, List.length_nil];omega)|exact z6 (fun _ => rfl)|exact ⟨rfl, z13 rfl z19⟩|exact ⟨rfl, z6 (fun _ => rfl) _⟩|exact ⟨⟨rfl, by omega⟩, z6 (fun _ => rfl) _⟩|(unfold z30;omega)|(simp only [z49] at *;first|omega|(unfold inI;omega)|(unfold z30;omega)))|((first|(with_reducible apply z9;omega)|(with_reducible apply z20;omega)|(apply z9;omega));intro _)|(apply z21;omega)|apply z28|(apply z27;omega;intro _)|((first|apply z26|apply z18|apply z25|apply z36|apply z16|apply z11|apply z17|apply z24) <;> intro _)|((first|(apply z29 [] [] [3] (cf);rfl;(focus ((repeat' first|exact z15|apply z12) <;> first|rfl|(refine z22 rfl ?_;(first|exact z4 fun _ => rfl|exact z10|exact z5 rfl|(apply z7 <;> exact z4 fun _ => rfl)|assumption))))));rfl;rfl;rfl;rfl;rfl;(focus ((repeat' first|exact z66|apply z56) <;> first|exact z68|exact z71 rfl rfl|(refine z67 ?_;(first|exact z4 fun _ => rfl|exact z10|exact z5 rfl|(apply z7 <;> exact z4 fun _ => rfl)|assumption))));(first|exact .inl rfl|(refine .inr ⟨rfl, ?_⟩;repeat' first|exact True.intro|apply And.intro|exact rfl|exact z39 (fun _ => rfl) _)))) <;> conv => whnf)
    all_goals first|(exfalso;omega)|skip
    all_goals exact z91 [3] (by decide) rfl rfl rfl ⟨z57 rfl (z4 fun _ => rfl), trivial⟩
  · obtain ⟨a, b, rfl⟩ := len2 (hkl2.trans hl)
    have ha := hklen a (by simp)
    have hb := hklen b (by simp)
    rw [if_neg (by omega), if_neg (by omega), if_pos hk] at hRe
    have cf := z308 g hG a b (ha.trans hn.symm) (hb.trans hn.symm) (decide (t.kind = 10))
    rw [hn, show lim false (unH g.nx (decide (t.kind = 10)) a b) n = R from by rw [hRe, decide_eq_false (by omega)];rfl] at cf
    repeat' ((first|(apply AWP.go ok;rfl)|(apply z35;kernel_rfl)|(refine z80 (i := 0) rfl rfl ?_)|(refine z80 (i := 1) rfl rfl ?_)|(apply And.intro;first|omega|(unfold inI;omega)|(dsimp only;omega)|((try dsimp only);simp only [List.length_map, List.length_take, List.length_append, List.length_replicate, List.length_cons, List.length_nil];omega)|exact z6 (fun _ => rfl)|exact ⟨rfl, z13 rfl z19⟩|exact ⟨rfl, z6 (fun _ => rfl) _⟩|exact ⟨⟨rfl, by omega⟩, z6 (fun _ => rfl) _⟩|(unfold z30;omega)|(simp only [z49] at *;first|omega|(unfold inI;omega)|(unfold z30;omega)))|((first|(with_reducible apply z9;omega)|(with_reducible apply z20;omega)|(apply z9;omega));intro _)|(apply z21;omega)|apply z28|(apply z27;omega;intro _)|((first|apply z26|apply z18|apply z25|apply z36|apply z16|apply z11|apply z17|apply z24) <;> intro _)|((first|(apply z29 [] [] [3] (cf);rfl;(focus ((repeat' first|exact z15|apply z12) <;> first|rfl|(refine z22 rfl ?_;(first|exact z4 fun _ => rfl|exact z10|exact z5 rfl|(apply z7 <;> exact z4 fun _ => rfl)|assumption))))));rfl;rfl;rfl;rfl;rfl;(focus ((repeat' first|exact z66|apply z56) <;> first|exact z68|exact z71 rfl rfl|(refine z67 ?_;(first|exact z4 fun _ => rfl|exact z10|exact z5 rfl|(apply z7 <;> exact z4 fun _ => rfl)|assumption))));(first|exact .inl rfl|(refine .inr ⟨rfl, ?_⟩;repeat' first|exact True.intro|apply And.intro|exact rfl|exact z39 (fun _ => rfl) _)))) <;> conv => whnf)
    all_goals first|(exfalso;omega)|skip
    all_goals exact z91 [3] (by decide) rfl rfl rfl ⟨z57 rfl (z4 fun _ => rfl), trivial⟩
  · obtain ⟨a, rfl⟩ := len1 (hkl2.trans hl)
    have ha := hklen a (by simp)
    rw [if_neg (by omega), if_neg (by omega), if_neg (by omega), if_neg (by omega), if_pos hk] at hRe
    have cf := z277 g hG a (ha.trans hn.symm) (decide (t.kind = 11))
    rw [hn, show lim true (alH g.nx (decide (t.kind = 11)) a) n = R from by rw [hRe, decide_eq_false (by omega)];rfl] at cf
    repeat' ((first|(apply AWP.go ok;rfl)|(apply z35;kernel_rfl)|(refine z80 (i := 0) rfl rfl ?_)|(refine z80 (i := 1) rfl rfl ?_)|(apply And.intro;first|omega|(unfold inI;omega)|(dsimp only;omega)|((try dsimp only);simp only [List.length_map, List.length_take, List.length_append, List.length_replicate, List.length_cons, List.length_nil];omega)|exact z6 (fun _ => rfl)|exact ⟨rfl, z13 rfl z19⟩|exact ⟨rfl, z6 (fun _ => rfl) _⟩|exact ⟨⟨rfl, by omega⟩, z6 (fun _ => rfl) _⟩|(unfold z30;omega)|(simp only [z49] at *;first|omega|(unfold inI;omega)|(unfold z30;omega)))|((first|(with_reducible apply z9;omega)|(with_reducible apply z20;omega)|(apply z9;omega));intro _)|(apply z21;omega)|apply z28|(apply z27;omega;intro _)|((first|apply z26|apply z18|apply z25|apply z36|apply z16|apply z11|apply z17|apply z24) <;> intro _)|((first|(apply z29 [] [] [3] (cf);rfl;(focus ((repeat' first|exact z15|apply z12) <;> first|rfl|(refine z22 rfl ?_;(first|exact z4 fun _ => rfl|exact z10|exact z5 rfl|(apply z7 <;> exact z4 fun _ => rfl)|assumption))))));rfl;rfl;rfl;rfl;rfl;(focus ((repeat' first|exact z66|apply z56) <;> first|exact z68|exact z71 rfl rfl|(refine z67 ?_;(first|exact z4 fun _ => rfl|exact z10|exact z5 rfl|(apply z7 <;> exact z4 fun _ => rfl)|assumption))));(first|exact .inl rfl|(refine .inr ⟨rfl, ?_⟩;repeat' first|exact True.intro|apply And.intro|exact rfl|exact z39 (fun _ => rfl) _)))) <;> conv => whnf)
    all_goals first|(exfalso;omega)|skip
    all_goals exact z91 [3] (by decide) rfl rfl rfl ⟨z57 rfl (z4 fun _ => rfl), trivial⟩
  · obtain ⟨a, rfl⟩ := len1 (hkl2.trans hl)
    have ha := hklen a (by simp)
    rw [if_neg (by omega), if_pos hk] at hRe
    have cf := z212 g hG a (ha.trans hn.symm) (decide (t.kind = 9))
    rw [hn, show nxL g.nx (decide (t.kind = 9)) n a = R from by rw [hRe, decide_eq_true hk];rfl] at cf
    repeat' ((first|(apply AWP.go ok;rfl)|(apply z35;kernel_rfl)|(refine z80 (i := 0) rfl rfl ?_)|(refine z80 (i := 1) rfl rfl ?_)|(apply And.intro;first|omega|(unfold inI;omega)|(dsimp only;omega)|((try dsimp only);simp only [List.length_map, List.length_take, List.length_append, List.length_replicate, List.length_cons, List.length_nil];omega)|exact z6 (fun _ => rfl)|exact ⟨rfl, z13 rfl z19⟩|exact ⟨rfl, z6 (fun _ => rfl) _⟩|exact ⟨⟨rfl, by omega⟩, z6 (fun _ => rfl) _⟩|(unfold z30;omega)|(simp only [z49] at *;first|omega|(unfold inI;omega)|(unfold z30;omega)))|((first|(with_reducible apply z9;omega)|(with_reducible apply z20;omega)|(apply z9;omega));intro _)|(apply z21;omega)|apply z28|(apply z27;omega;intro _)|((first|apply z26|apply z18|apply z25|apply z36|apply z16|apply z11|apply z17|apply z24) <;> intro _)|((first|(apply z29 [] [] [3] (cf);rfl;(focus ((repeat' first|exact z15|apply z12) <;> first|rfl|(refine z22 rfl ?_;(first|exact z4 fun _ => rfl|exact z10|exact z5 rfl|(apply z7 <;> exact z4 fun _ => rfl)|assumption))))));rfl;rfl;rfl;rfl;rfl;(focus ((repeat' first|exact z66|apply z56) <;> first|exact z68|exact z71 rfl rfl|(refine z67 ?_;(first|exact z4 fun _ => rfl|exact z10|exact z5 rfl|(apply z7 <;> exact z4 fun _ => rfl)|assumption))));(first|exact .inl rfl|(refine .inr ⟨rfl, ?_⟩;repeat' first|exact True.intro|apply And.intro|exact rfl|exact z39 (fun _ => rfl) _)))) <;> conv => whnf)
    all_goals first|(exfalso;omega)|skip
    all_goals exact z91 [3] (by decide) rfl rfl rfl ⟨z57 rfl (z4 fun _ => rfl), trivial⟩
  · obtain ⟨a, b, rfl⟩ := len2 (hkl2.trans hl)
    have ha := hklen a (by simp)
    have hb := hklen b (by simp)
    rw [if_neg (by omega), if_neg (by omega), if_neg (by omega), if_pos hk] at hRe
    have cf := z308 g hG a b (ha.trans hn.symm) (hb.trans hn.symm) (decide (t.kind = 10))
    rw [hn, show lim false (unH g.nx (decide (t.kind = 10)) a b) n = R from by rw [hRe, decide_eq_true hk];rfl] at cf
    repeat' ((first|(apply AWP.go ok;rfl)|(apply z35;kernel_rfl)|(refine z80 (i := 0) rfl rfl ?_)|(refine z80 (i := 1) rfl rfl ?_)|(apply And.intro;first|omega|(unfold inI;omega)|(dsimp only;omega)|((try dsimp only);simp only [List.length_map, List.length_take, List.length_append, List.length_replicate, List.length_cons, List.length_nil];omega)|exact z6 (fun _ => rfl)|exact ⟨rfl, z13 rfl z19⟩|exact ⟨rfl, z6 (fun _ => rfl) _⟩|exact ⟨⟨rfl, by omega⟩, z6 (fun _ => rfl) _⟩|(unfold z30;omega)|(simp only [z49] at *;first|omega|(unfold inI;omega)|(unfold z30;omega)))|((first|(with_reducible apply z9;omega)|(with_reducible apply z20;omega)|(apply z9;omega));intro _)|(apply z21;omega)|apply z28|(apply z27;omega;intro _)|((first|apply z26|apply z18|apply z25|apply z36|apply z16|apply z11|apply z17|apply z24) <;> intro _)|((first|(apply z29 [] [] [3] (cf);rfl;(focus ((repeat' first|exact z15|apply z12) <;> first|rfl|(refine z22 rfl ?_;(first|exact z4 fun _ => rfl|exact z10|exact z5 rfl|(apply z7 <;> exact z4 fun _ => rfl)|assumption))))));rfl;rfl;rfl;rfl;rfl;(focus ((repeat' first|exact z66|apply z56) <;> first|exact z68|exact z71 rfl rfl|(refine z67 ?_;(first|exact z4 fun _ => rfl|exact z10|exact z5 rfl|(apply z7 <;> exact z4 fun _ => rfl)|assumption))));(first|exact .inl rfl|(refine .inr ⟨rfl, ?_⟩;repeat' first|exact True.intro|apply And.intro|exact rfl|exact z39 (fun _ => rfl) _)))) <;> conv => whnf)
    all_goals first|(exfalso;omega)|skip
    all_goals exact z91 [3] (by decide) rfl rfl rfl ⟨z57 rfl (z4 fun _ => rfl), trivial⟩
  · obtain ⟨a, rfl⟩ := len1 (hkl2.trans hl)
    have ha := hklen a (by simp)
    rw [if_neg (by omega), if_neg (by omega), if_neg (by omega), if_neg (by omega), if_neg (by omega), if_pos hk] at hRe
    have cf := z277 g hG a (ha.trans hn.symm) (decide (t.kind = 11))
    rw [hn, show lim true (alH g.nx (decide (t.kind = 11)) a) n = R from by rw [hRe, decide_eq_true hk];rfl] at cf
    repeat' ((first|(apply AWP.go ok;rfl)|(apply z35;kernel_rfl)|(refine z80 (i := 0) rfl rfl ?_)|(refine z80 (i := 1) rfl rfl ?_)|(apply And.intro;first|omega|(unfold inI;omega)|(dsimp only;omega)|((try dsimp only);simp only [List.length_map, List.length_take, List.length_append, List.length_replicate, List.length_cons, List.length_nil];omega)|exact z6 (fun _ => rfl)|exact ⟨rfl, z13 rfl z19⟩|exact ⟨rfl, z6 (fun _ => rfl) _⟩|exact ⟨⟨rfl, by omega⟩, z6 (fun _ => rfl) _⟩|(unfold z30;omega)|(simp only [z49] at *;first|omega|(unfold inI;omega)|(unfold z30;omega)))|((first|(with_reducible apply z9;omega)|(with_reducible apply z20;omega)|(apply z9;omega));intro _)|(apply z21;omega)|apply z28|(apply z27;omega;intro _)|((first|apply z26|apply z18|apply z25|apply z36|apply z16|apply z11|apply z17|apply z24) <;> intro _)|((first|(apply z29 [] [] [3] (cf);rfl;(focus ((repeat' first|exact z15|apply z12) <;> first|rfl|(refine z22 rfl ?_;(first|exact z4 fun _ => rfl|exact z10|exact z5 rfl|(apply z7 <;> exact z4 fun _ => rfl)|assumption))))));rfl;rfl;rfl;rfl;rfl;(focus ((repeat' first|exact z66|apply z56) <;> first|exact z68|exact z71 rfl rfl|(refine z67 ?_;(first|exact z4 fun _ => rfl|exact z10|exact z5 rfl|(apply z7 <;> exact z4 fun _ => rfl)|assumption))));(first|exact .inl rfl|(refine .inr ⟨rfl, ?_⟩;repeat' first|exact True.intro|apply And.intro|exact rfl|exact z39 (fun _ => rfl) _)))) <;> conv => whnf)
    all_goals first|(exfalso;omega)|skip
    all_goals exact z91 [3] (by decide) rfl rfl rfl ⟨z57 rfl (z4 fun _ => rfl), trivial⟩
end Go.Proofs.YtppafngcahgagaaGreat

namespace Go.Proofs.YtppafngcahgagaaGreat
open Go.Gl
attribute [local irreducible] z85 AWP z100 z108 z104
theorem ltr_ltB (v : List Int) : ∀ (l : List Tree) (k n : Nat), n < 2 ^ k → ltr v l k n < 2 ^ (k + l.length) := by
  intro l
  induction l with
  | nil => intro k n h;simpa [ltr] using h
  | cons t l ih =>
    intro k n h
    rw [ltr]
    have e : k + (t :: l).length = k + 1 + l.length := by simp only [List.length_cons];omega
    rw [e]
    refine ih (k + 1) _ ?_
    split
    · rw [Nat.pow_succ];omega
    · exact or_lt h
theorem z275 {l : List Tree} (hl : LabelsOk l) (s : State) : 0 ≤ z117 l s ∧ z117 l s ≤ 7 := by
  have := ltr_ltB s.b l 0 0 (by decide)
  rw [hl.1] at this
  unfold z117
  have e : (2 : Nat) ^ (0 + 3) = 8 := by decide
  omega
noncomputable def brL (g : Graph) (l : List Tree) (t : Tree) : List Bool := if (glB g l && t.brB) = true then t.satB g.nx g.st.length (g.st.map (z117 l)) else []
theorem brL_le (g : Graph) (l : List Tree) (t : Tree) : (brL g l t).length ≤ 60 := by
  unfold brL
  split
  · rename_i h
    have h1 := (Bool.and_eq_true_iff.1 h).1
    have hG := (z129 g).1 (by unfold glB at h1;exact (Bool.and_eq_true_iff.1 h1).1)
    rw [Tree.satB_len hG.inN];exact hG.1.2
  · simp
theorem z603 {t : Tree} (h : t.brB = true) : t.shapeB 6 = true := by
  rw [Tree.brB_eq, Bool.and_eq_true] at h;exact h.1
theorem z298 (g : Graph) (hg : g.mx) (l : List Tree) (hl : Lmx l) (t : Tree) (ht : t.mx) : CallsA Tryz.prog 16 [.agg g.cs, lst 3 Tree.cs' l, z88 Tree.cs' t] [] (.tup [.sref 0 0 (brL g l t).length, .bool (glB g l && t.brB)]) [.cells 1 ((brL g l t).map enB)] := by
  have k1 := z278 g hg
  have k2 := z391 l hl.1 hl.2
  have k3 := z393 t ht
  by_cases hgl : (glB g l && t.brB) = true
  · obtain ⟨h1, hab⟩ := Bool.and_eq_true_iff.1 hgl
    have h2 := h1
    unfold glB at h2
    obtain ⟨hgb, hlb⟩ := Bool.and_eq_true_iff.1 h2
    have hG := (z129 g).1 hgb
    have hL := LabelsOk.of hlb
    have k4 := label_ok g hG.vals hG.1.2 l hL
    have hLr : ∀ x ∈ g.st.map (z117 l), 0 ≤ x ∧ x ≤ 7 := fun x hx => by
      obtain ⟨s, _, rfl⟩ := List.mem_map.1 hx
      exact z275 hL s
    have k5 := z539 g hG (g.st.map (z117 l)) (by simp) hLr t 6 (z603 hab)
    have e : brL g l t = t.satB g.nx g.st.length (g.st.map (z117 l)) := by unfold brL;rw [if_pos hgl]
    rw [← e] at k5
    have hlen : (brL g l t).length = g.st.length := by rw [e];exact Tree.satB_len hG.inN _ _
    rw [← hlen] at k5
    generalize g.st.map (z117 l) = L at *
    generalize brL g l t = R at *
    rw [hgb] at k1
    rw [hlb] at k2
    rw [hab] at k3
    rw [hgl]
    rw [Tree.arg_eq] at k3 k5 ⊢
    refine z58 z82 Tryz.func16 rfl rfl 27 Tryz.ntmps16 (by simp) ?_
    repeat' ((first|(apply AWP.go ok;rfl)|(apply z35;kernel_rfl)|(apply And.intro;first|omega|(unfold inI;omega)|(dsimp only;omega)|((try dsimp only);simp only [List.length_map, List.length_take, List.length_append, List.length_replicate, List.length_cons, List.length_nil];omega)|exact z6 (fun _ => rfl)|exact ⟨rfl, z13 rfl z19⟩|exact ⟨rfl, z6 (fun _ => rfl) _⟩|exact ⟨⟨rfl, by omega⟩, z6 (fun _ => rfl) _⟩|(unfold z30;omega)|(simp only [z49] at *;first|omega|(unfold inI;omega)|(unfold z30;omega)))|((first|(with_reducible apply z9;omega)|(with_reducible apply z20;omega)|(apply z9;omega));intro _)|(apply z21;omega)|apply z28|(apply z27;omega;intro _)|((first|apply z26|apply z18|apply z25|apply z36|apply z16|apply z11|apply z17|apply z24) <;> intro _)|(apply z48 (k1);rfl;rfl)|(apply z48 (k2);rfl;rfl)|(apply z48 (k3);rfl;rfl)|(apply z48 (k4);rfl;rfl)|((first|(apply z29 [] [] [2] (k5);rfl;(focus ((repeat' first|exact z15|apply z12) <;> first|rfl|(refine z22 rfl ?_;(first|exact z4 fun _ => rfl|exact z10|exact z5 rfl|(apply z7 <;> exact z4 fun _ => rfl)|assumption))))));rfl;rfl;rfl;rfl;rfl;(focus ((repeat' first|exact z66|apply z56) <;> first|exact z68|exact z71 rfl rfl|(refine z67 ?_;(first|exact z4 fun _ => rfl|exact z10|exact z5 rfl|(apply z7 <;> exact z4 fun _ => rfl)|assumption))));(first|exact .inl rfl|(refine .inr ⟨rfl, ?_⟩;repeat' first|exact True.intro|apply And.intro|exact rfl|exact z39 (fun _ => rfl) _)))) <;> conv => whnf)
    all_goals first|(exfalso;omega)|(exfalso;simp_all;done)|skip
    all_goals exact z91 [2] (by decide) rfl rfl rfl ⟨z57 rfl (z4 fun _ => rfl), trivial⟩
  · have e : brL g l t = [] := by unfold brL;rw [if_neg hgl]
    have hgl := (Bool.not_eq_true _).mp hgl
    have hgl2 := hgl
    rw [e, hgl]
    unfold glB at hgl2
    refine CallsA.nils (res := .tup [.nils, .bool false]) ?_ (by simp) (tup_sref nil_sref)
    rw [Tree.arg_eq] at k3 ⊢
    generalize z232 g = b1 at *
    generalize z186 l = b2 at *
    generalize t.brB = b3 at *
    refine z58 z82 Tryz.func16 rfl rfl 27 Tryz.ntmps16 (by simp) ?_
    cases b1 <;> cases b2 <;> cases b3 <;> first|(exfalso;revert hgl2;decide)|skip
    all_goals
      repeat' ((first|(apply AWP.go ok;rfl)|(apply z35;kernel_rfl)|(apply And.intro;first|omega|(unfold inI;omega)|(dsimp only;omega)|((try dsimp only);simp only [List.length_map, List.length_take, List.length_append, List.length_replicate, List.length_cons, List.length_nil];omega)|exact z6 (fun _ => rfl)|exact ⟨rfl, z13 rfl z19⟩|exact ⟨rfl, z6 (fun _ => rfl) _⟩|exact ⟨⟨rfl, by omega⟩, z6 (fun _ => rfl) _⟩|(unfold z30;omega)|(simp only [z49] at *;first|omega|(unfold inI;omega)|(unfold z30;omega)))|((first|(with_reducible apply z9;omega)|(with_reducible apply z20;omega)|(apply z9;omega));intro _)|(apply z21;omega)|apply z28|(apply z27;omega;intro _)|((first|apply z26|apply z18|apply z25|apply z36|apply z16|apply z11|apply z17|apply z24) <;> intro _)|(apply z48 (k1);rfl;rfl)|(apply z48 (k2);rfl;rfl)|(apply z48 (k3);rfl;rfl)) <;> conv => whnf)
      all_goals first|exact z87 rfl rfl rfl|(exfalso;simp_all;done)
theorem z313 (g : Graph) (hg : g.mx) (l : List Tree) (hl : Lmx l) (t : Tree) (ht : t.mx) : CallsA Tryz.prog 17 [.agg g.cs, lst 3 Tree.cs' l, z88 Tree.cs' t] [] (.tup [lst 1 enB (brL g l t), .bool (glB g l && t.brB)]) [] := by
  have k0 := z290 g hg l hl
  have k1 := z254 t ht
  by_cases hgl : (glB g l && t.brB) = true
  · obtain ⟨h1, hab⟩ := Bool.and_eq_true_iff.1 hgl
    have h2 := h1
    unfold glB at h2
    obtain ⟨hgb, hlb⟩ := Bool.and_eq_true_iff.1 h2
    have hG := (z129 g).1 hgb
    have hL := LabelsOk.of hlb
    have hLr : ∀ x ∈ g.st.map (z117 l), 0 ≤ x ∧ x ≤ 7 := fun x hx => by
      obtain ⟨s, _, rfl⟩ := List.mem_map.1 hx
      exact z275 hL s
    have k5 := z434 g hG (g.st.map (z117 l)) (by simp) hLr t 6 (z603 hab)
    have e : brL g l t = t.satB g.nx g.st.length (g.st.map (z117 l)) := by unfold brL;rw [if_pos hgl]
    rw [← e] at k5
    have hlen : (brL g l t).length = g.st.length := by rw [e];exact Tree.satB_len hG.inN _ _
    have k5 := z696 k5 hlen
    rw [if_pos h1, h1] at k0
    rw [hab] at k1
    rw [hgl]
    generalize g.st.map (z117 l) = L at *
    generalize brL g l t = R at *
    rw [Tree.arg_eq] at k1 k5 ⊢
    refine z58 z82 Tryz.func17 rfl rfl 28 Tryz.ntmps17 (by simp) ?_
    repeat' ((first|(apply AWP.go ok;rfl)|(apply z35;kernel_rfl)|(apply And.intro;first|omega|(unfold inI;omega)|(dsimp only;omega)|((try dsimp only);simp only [List.length_map, List.length_take, List.length_append, List.length_replicate, List.length_cons, List.length_nil];omega)|exact z6 (fun _ => rfl)|exact ⟨rfl, z13 rfl z19⟩|exact ⟨rfl, z6 (fun _ => rfl) _⟩|exact ⟨⟨rfl, by omega⟩, z6 (fun _ => rfl) _⟩|(unfold z30;omega)|(simp only [z49] at *;first|omega|(unfold inI;omega)|(unfold z30;omega)))|((first|(with_reducible apply z9;omega)|(with_reducible apply z20;omega)|(apply z9;omega));intro _)|(apply z21;omega)|apply z28|(apply z27;omega;intro _)|((first|apply z26|apply z18|apply z25|apply z36|apply z16|apply z11|apply z17|apply z24) <;> intro _)|(apply z48 (k0);rfl;rfl)|(apply z48 (k1);rfl;rfl)|(apply z48 (k5);rfl;rfl)) <;> conv => whnf)
    all_goals first|(exfalso;omega)|(exfalso;simp_all;done)|skip
    all_goals exact z87 rfl rfl rfl
  · have e : brL g l t = [] := by unfold brL;rw [if_neg hgl]
    have hgl := (Bool.not_eq_true _).mp hgl
    have hgl2 := hgl
    rw [e, hgl]
    generalize glB g l = b1 at *
    generalize t.brB = b3 at *
    rw [Tree.arg_eq] at k1 ⊢
    refine z58 z82 Tryz.func17 rfl rfl 28 Tryz.ntmps17 (by simp) ?_
    cases b1 <;> cases b3 <;> first|(exfalso;revert hgl2;decide)|skip
    all_goals
      repeat' ((first|(apply AWP.go ok;rfl)|(apply z35;kernel_rfl)|(apply And.intro;first|omega|(unfold inI;omega)|(dsimp only;omega)|((try dsimp only);simp only [List.length_map, List.length_take, List.length_append, List.length_replicate, List.length_cons, List.length_nil];omega)|exact z6 (fun _ => rfl)|exact ⟨rfl, z13 rfl z19⟩|exact ⟨rfl, z6 (fun _ => rfl) _⟩|exact ⟨⟨rfl, by omega⟩, z6 (fun _ => rfl) _⟩|(unfold z30;omega)|(simp only [z49] at *;first|omega|(unfold inI;omega)|(unfold z30;omega)))|((first|(with_reducible apply z9;omega)|(with_reducible apply z20;omega)|(apply z9;omega));intro _)|(apply z21;omega)|apply z28|(apply z27;omega;intro _)|((first|apply z26|apply z18|apply z25|apply z36|apply z16|apply z11|apply z17|apply z24) <;> intro _)|(apply z48 (k0);rfl;rfl)|(apply z48 (k1);rfl;rfl)) <;> conv => whnf)
      all_goals first|exact z477 rfl rfl (z529 z421)|(exfalso;simp_all;done)|skip
end Go.Proofs.YtppafngcahgagaaGreat

