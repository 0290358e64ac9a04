/- A part of the proofs over this program: T132, T64, T65, T66. -/
import Derived.Test.YtknlmbniicacmaaGreatG0
import Derived.Test.YtknlmbniicacmaaGreatG1
import Derived.Test.YtknlmbniicacmaaGreatG2
import Derived.Test.YtknlmbniicacmaaGreatG3
import Derived.Test.YtknlmbniicacmaaGreatP0
import Derived.Test.YtknlmbniicacmaaGreatP1
import Derived.Test.YtknlmbniicacmaaGreatP2
import Derived.Test.YtknlmbniicacmaaGreatP3
import Derived.Test.YtknlmbniicacmaaGreatP4
set_option linter.all false
namespace Go.Proofs.YtknlmbniicacmaaGreat
open Go.Gl
attribute [local irreducible] z35 AWP z65 z78 z74 RetS z97

/-- what the last choice does -/
inductive TailB (bs : List Int) (n : Nat) (B0 : List Int) (q : Int) : List Int → Int → Prop
  | c0 (h1 : CallsA Tryz.prog 73 [.ptr 0 none 0, .int 20] [rdO bs q] (.int 0) [rdO bs (q + 1)]) : TailB bs n B0 q (B0 ++ [0]) (q + 1)
  | c1 (j : Nat) (x : Int) (hj : j < B0.length) (h1 : CallsA Tryz.prog 73 [.ptr 0 none 0, .int 20] [rdO bs q] (.int 1) [rdO bs (q + 1)])
      (h2 : CallsA Tryz.prog 73 [.ptr 0 none 0, .int B0.length] [rdO bs (q + 1)] (.int j) [rdO bs (q + 1 + 1)])
      (h3 : CallsA Tryz.prog 158 [.ptr 0 none 0, .sref 1 0 4] [rdO bs (q + 1 + 1), .cells 1 ([-1, 0, 60, 1].map enI)] (.int x) [rdO bs (q + 1 + 1 + 1), .cells 1 ([-1, 0, 60, 1].map enI)]) : TailB bs n B0 q (B0.set j x) (q + 1 + 1 + 1)
  | c2 (hl : B0.length = 0) (h1 : CallsA Tryz.prog 73 [.ptr 0 none 0, .int 20] [rdO bs q] (.int 1) [rdO bs (q + 1)]) : TailB bs n B0 q B0 (q + 1)
  | c3 (h1 : CallsA Tryz.prog 73 [.ptr 0 none 0, .int 20] [rdO bs q] (.int 2) [rdO bs (q + 1)]) : TailB bs n B0 q (countL n) (q + 1)
  | c4 (v : Int) (v0 : v ≠ 0) (v1 : v ≠ 1) (v2 : v ≠ 2) (h1 : CallsA Tryz.prog 73 [.ptr 0 none 0, .int 20] [rdO bs q] (.int v) [rdO bs (q + 1)]) : TailB bs n B0 q B0 (q + 1)
theorem tailB_ex (bs : List Int) (hb : BytesOk bs) (n : Nat) (hn : n ≤ 100) (B0 : List Int) (hB : B0.length ≤ 100) (q : Int) (h0 : 0 ≤ q) (h1 : q ≤ 999999000) : ∃ B p', TailB bs n B0 q B p' ∧ B.length ≤ 101 ∧ q ≤ p' ∧ p' ≤ q + 3 := by
  obtain ⟨v, ⟨v0, v1⟩, c1⟩ := z69 bs hb q 20 (by omega) (by omega) (by omega)
  by_cases e0 : v = 0
  · subst e0; exact ⟨_, _, .c0 c1, by simp; omega, by omega, by omega⟩
  by_cases e1 : v = 1
  · subst e1
    by_cases hl : B0.length = 0
    · exact ⟨_, _, .c2 hl c1, by omega, by omega, by omega⟩
    · obtain ⟨j, ⟨j0, j1⟩, c2⟩ := z69 bs hb (q + 1) B0.length (by omega) (by omega) (by omega)
      obtain ⟨x, _, c3⟩ := z113 bs hb (q + 1 + 1) (by omega) (by omega) [-1, 0, 60, 1] (by decide) (by decide)
      obtain ⟨j, rfl⟩ : ∃ k : Nat, j = k := ⟨j.toNat, by omega⟩
      exact ⟨_, _, .c1 j x (by have := j1 (by omega); omega) c1 c2 c3, by simp; omega, by omega, by omega⟩
  by_cases e2 : v = 2
  · subst e2; exact ⟨_, _, .c3 c1, by rw [countL_len]; omega, by omega, by omega⟩
  · exact ⟨_, _, .c4 v e0 e1 e2 c1, by omega, by omega, by omega⟩
structure KeysB (bs : List Int) (n : Nat) (q : Int) (K : List Int) (pf : Nat → Int) : Prop where
  len : K.length = n
  p0 : pf 0 = q
  st : ∀ k (hk : k < K.length), CallsA Tryz.prog 73 [.ptr 0 none 0, .int 3] [rdO bs (pf k)] (.int K[k]) [rdO bs (pf (k + 1))]
  bd : q ≤ pf n ∧ pf n ≤ q + n
theorem keysB_ex (bs : List Int) (hb : BytesOk bs) (n : Nat) (hn : n ≤ 100) (q : Int) (h0 : 0 ≤ q) (h1 : q ≤ 999990000) : ∃ K pf, KeysB bs n q K pf := by
  obtain ⟨K, pf, e1, e2, e3, e4⟩ := seq_ex (fun _ p a p' => CallsA Tryz.prog 73 [.ptr 0 none 0, .int 3] [rdO bs p] (.int a) [rdO bs p']) q 1 n (fun k p hk h2 h3 => by
    obtain ⟨v, _, c⟩ := z69 bs hb p 3 (by omega) (by omega) (by omega)
    exact ⟨v, p + 1, c, by omega, by omega⟩)
  have := e4 n (Nat.le_refl _)
  exact ⟨K, pf, e1, e2, e3, by omega, by omega⟩
def keyL (K : List Int) : List (List Int) := K.map fun a => [a]
theorem keyL_take {K : List Int} {k : Nat} (h : k < K.length) : keyL (K.take (k + 1)) = keyL (K.take k) ++ [[K[k]]] := by
  unfold keyL; rw [List.take_succ_eq_append_getElem h, List.map_append]; rfl
/-- the first partition -/
inductive HeadB (bs : List Int) (g : Graph) (l : List Tree) (p : Int) : List Int → Int → Prop
  | c0 (v : Int) (hv : v ≠ 0) (h : glB g l = true) (p1 : CallsA Tryz.prog 73 [.ptr 0 none 0, .int 3] [rdO bs p] (.int v) [rdO bs (p + 1)]) : HeadB bs g l p (bisR g l) (p + 1)
  | c1 (h : glB g l = true) (p1 : CallsA Tryz.prog 73 [.ptr 0 none 0, .int 3] [rdO bs p] (.int 0) [rdO bs (p + 1)]) (K : List Int) (pf : Nat → Int) (hK : KeysB bs g.st.length (p + 1) K pf) : HeadB bs g l p (numF (sameK (keyL K)) (keyL K).length).1 (pf g.st.length)
  | c2 (h : glB g l = false) (K : List Int) (pf : Nat → Int) (hK : KeysB bs g.st.length p K pf) : HeadB bs g l p (numF (sameK (keyL K)) (keyL K).length).1 (pf g.st.length)
theorem headB_ex (bs : List Int) (hb : BytesOk bs) (g : Graph) (hg : g.d) (l : List Tree) (p : Int) (h0 : 0 ≤ p) (h1 : p ≤ 999980000) : ∃ B q, HeadB bs g l p B q ∧ B.length ≤ 100 ∧ p ≤ q ∧ q ≤ p + 101 := by
  have hst := hg.st
  by_cases h : glB g l = true
  · obtain ⟨v, _, c1⟩ := z69 bs hb p 3 (by omega) (by omega) (by omega)
    by_cases hv : v = 0
    · subst hv
      obtain ⟨K, pf, hK⟩ := keysB_ex bs hb g.st.length (by omega) (p + 1) (by omega) (by omega)
      have := hK.bd
      have hl := hK.len
      exact ⟨_, _, .c1 h c1 K pf hK, by rw [z77]; unfold keyL; simp; omega, by omega, by omega⟩
    · exact ⟨_, _, .c0 v hv h c1, by have := bisR_le g l; omega, by omega, by omega⟩
  · obtain ⟨K, pf, hK⟩ := keysB_ex bs hb g.st.length (by omega) p (by omega) (by omega)
    have := hK.bd
    have hl := hK.len
    exact ⟨_, _, .c2 ((Bool.not_eq_true _).mp h) K pf hK, by rw [z77]; unfold keyL; simp; omega, by omega, by omega⟩

set_option maxHeartbeats 6400000 in
theorem l10Blocks_ok (bs : List Int) (hb : BytesOk bs) (p : Int) (h0 : 0 ≤ p) (h1 : p ≤ 999980000) (g : Graph) (hg : g.d) (l : List Tree) (hl : Lab.d l) : ∃ (B : List Int) (p' : Int), (B.length ≤ 101 ∧ p ≤ p' ∧ p' ≤ p + 200) ∧ CallsA Tryz.prog 87 [.ptr 0 none 0, .agg g.cs, lst 3 Tree.cs' l] [rdO bs p] (ints B) [rdO bs p'] := by
  obtain ⟨B0, q, hH, hB0, q0, q1⟩ := headB_ex bs hb g hg l p h0 h1
  obtain ⟨B, p', hT, hB, p0, p1'⟩ := tailB_ex bs hb g.st.length hg.st B0 hB0 q (by omega) (by omega)
  refine ⟨B, p', ⟨hB, by omega, by omega⟩, ?_⟩
  have hst := hg.st
  have cB := specBisimulation_ok g hg.mx l hl.mx
  have cC := l4Count_ok g.st.length (by omega)
  rcases hH with ⟨v, hv, h, p1⟩ | ⟨h, p1, K, pf, hK⟩ | ⟨h, K, pf, hK⟩
  · rw [h] at cB
    generalize bisR g l = B0 at *
    refine z19 z26 Tryz.func87 rfl rfl 73 Tryz.ntmps87 (by simp) ?_
    repeat' ((first | (apply AWP.go ok; rfl) | ((apply z10) <;> intro _) | (apply z11 (cB); rfl; rfl) | (((apply z8 [0] [] [] (p1); rfl; (focus ((repeat' first | exact z6 | apply z7) <;> rfl)))); rfl; rfl; rfl; rfl; rfl; (focus ((repeat' first | exact z17 | apply z15) <;> exact z25 rfl rfl)); (exact .inl rfl))) <;> conv => whnf)
    all_goals first | (exfalso; omega) | skip
    rcases hT with ⟨a1⟩ | ⟨j, x, hj, a1, a2, a3⟩ | ⟨hl, a1⟩ | ⟨a1⟩ | ⟨v', v0, v1, v2, a1⟩
    · repeat' ((first | (apply AWP.go ok; rfl) | (apply And.intro; first | (dsimp only; omega) | ((try dsimp only); simp only [List.length_map, List.length_take, List.length_append, List.length_replicate, List.length_cons, List.length_nil]; omega) | exact z16 (fun _ => rfl) | exact ⟨rfl, z18 rfl z23⟩) | (((apply z8 [0] [] [] (a1); rfl; (focus ((repeat' first | exact z6 | apply z7) <;> rfl)))); rfl; rfl; rfl; rfl; rfl; (focus ((repeat' first | exact z17 | apply z15) <;> exact z25 rfl rfl)); (exact .inl rfl))) <;> conv => whnf)
      all_goals skip
      all_goals (refine RetS.lay [0] [5] rfl rfl rfl ?_; refine RetS.done ?_ ?_ <;> (repeat' (first | exact LocLe.refl _ | exact F2.nil | apply F2.cons | apply ObjLe.box | (refine z114 ?_ ?_; (focus (omega))) | ((apply z47 rfl rfl rfl); (focus ((repeat (first | exact z36 (fun _ => rfl) _ | apply z107 | apply z137 | rfl)); done)); (focus (((simp; done)); done))) | (refine z83 ?_ ?_; (focus (simp; done))))))
    · have gl : (B0.set j x).length = B0.length := by simp
      have gx : ((([] : List (List AC)).take 0) ++ B0.map enI)[j]? = some (enI (B0.getD j 0)) := by rw [List.take_nil, List.nil_append, List.getElem?_map, List.getElem?_eq_getElem hj, z20 hj]; rfl
      have gs : ((([] : List (List AC)).take 0) ++ B0.map enI).set j (enI x) = (B0.set j x).map enI := by rw [List.take_nil, List.nil_append, List.map_set]
      rw [show B0.length = 0 + B0.length by omega] at a2
      repeat' ((first | (apply AWP.go ok; rfl) | (refine z32 (i := j) rfl gx ?_) | (apply And.intro; first | omega | (dsimp only; omega) | exact z16 (fun _ => rfl)) | ((apply z10) <;> intro _) | ((first | (apply z8 [0] [] [] (a1); rfl; (focus ((repeat' first | exact z6 | apply z7) <;> rfl))) | (apply z8 [0] [] [] (a2); rfl; (focus ((repeat' first | exact z6 | apply z7) <;> rfl))) | (apply z8 [0, 4] [] [] (a3); rfl; (focus ((repeat' first | exact z6 | apply z7) <;> rfl)))); rfl; rfl; rfl; rfl; rfl; (focus ((repeat' first | exact z17 | apply z15) <;> first | exact z25 rfl rfl | (refine z29 ?_; ((exact z12 fun _ => rfl))))); (exact .inl rfl))) <;> conv => whnf)
      all_goals first | (exfalso; omega) | skip
      all_goals (refine RetS.lay [0] [3] rfl rfl rfl ?_; refine RetS.done ?_ ?_ <;> (repeat' (first | exact LocLe.refl _ | exact F2.nil | apply F2.cons | apply ObjLe.box | (refine put_le (by omega) ?_) | ((apply z47 rfl rfl rfl); (focus ((repeat (first | exact z36 (fun _ => rfl) _ | apply unown_st)); done)); (focus (((simp; done)); done))) | (refine z83 ?_ ?_; (focus (simp; done))))))
    · repeat' ((first | (apply AWP.go ok; rfl) | (apply And.intro; omega) | ((apply z10) <;> intro _) | (((apply z8 [0] [] [] (a1); rfl; (focus ((repeat' first | exact z6 | apply z7) <;> rfl)))); rfl; rfl; rfl; rfl; rfl; (focus ((repeat' first | exact z17 | apply z15) <;> exact z25 rfl rfl)); (exact .inl rfl))) <;> conv => whnf)
      all_goals first | (exfalso; omega) | skip
      all_goals (refine RetS.lay [0] [] rfl rfl rfl ?_; refine RetS.done ?_ ?_ <;> (repeat' (first | exact LocLe.refl _ | exact F2.nil | apply F2.cons | apply ObjLe.box)))
    · repeat' ((first | (apply AWP.go ok; rfl) | (apply z11 (cC); rfl; rfl) | (((apply z8 [0] [] [] (a1); rfl; (focus ((repeat' first | exact z6 | apply z7) <;> rfl)))); rfl; rfl; rfl; rfl; rfl; (focus ((repeat' first | exact z17 | apply z15) <;> exact z25 rfl rfl)); (exact .inl rfl))) <;> conv => whnf)
      all_goals skip
      all_goals (refine RetS.lay [0] [] rfl rfl rfl ?_; refine RetS.done ?_ ?_ <;> (repeat' (first | exact LocLe.refl _ | exact F2.nil | apply F2.cons | apply ObjLe.box)))
    · repeat' ((first | (apply AWP.go ok; rfl) | (apply And.intro; omega) | ((apply z10) <;> intro _) | (((apply z8 [0] [] [] (a1); rfl; (focus ((repeat' first | exact z6 | apply z7) <;> rfl)))); rfl; rfl; rfl; rfl; rfl; (focus ((repeat' first | exact z17 | apply z15) <;> exact z25 rfl rfl)); (exact .inl rfl))) <;> conv => whnf)
      all_goals first | (exfalso; omega) | skip
      all_goals (refine RetS.lay [0] [] rfl rfl rfl ?_; refine RetS.done ?_ ?_ <;> (repeat' (first | exact LocLe.refl _ | exact F2.nil | apply F2.cons | apply ObjLe.box)))
  · rw [h] at cB
    have e0 := hK.p0
    refine z19 z26 Tryz.func87 rfl rfl 73 Tryz.ntmps87 (by simp) ?_
    repeat' ((first | (apply AWP.go ok; rfl) | (apply z11 (cB); rfl; rfl) | (((apply z8 [0] [] [] (p1); rfl; (focus ((repeat' first | exact z6 | apply z7) <;> rfl)))); rfl; rfl; rfl; rfl; rfl; (focus ((repeat' first | exact z17 | apply z15) <;> exact z25 rfl rfl)); (exact .inl rfl))) <;> conv => whnf)
    all_goals skip
    rw [← e0]
    have kl := hK.len
    have cN := keepI (l10Number_new (keyL K) (by unfold keyL; simp; omega) (fun r hr => by unfold keyL at hr; obtain ⟨a, _, rfl⟩ := List.mem_map.1 hr; unfold maxLen; simp)) (z77 _ _)
    have hkl : ∀ k, k ≤ K.length → (keyL (K.take k)).length = k := fun k hk => by unfold keyL; simp; omega
    generalize (numF (sameK (keyL K)) (keyL K).length).1 = B0 at *
    refine loopR (fun x : Nat × List (List Int) => ([(0, .ptr 0 none 0), (4, .ptr 1 none 0), (9, .sref 2 0 x.2.length), (10, .int x.1)], [rdO bs (pf x.1), .cells 2 [g.cs], .cells 1 (x.2.map encL)])) (fun x => x.1 ≤ g.st.length ∧ keyL (K.take x.1) = x.2) (fun x => g.st.length - x.1) (0, []) ⟨Nat.zero_le _, rfl⟩ (by refine SealW.reach [0, 1, 2] [] rfl rfl rfl rfl ?_ ?_ <;> (repeat' (first | exact LocLe.refl _ | exact F2.nil | apply F2.cons | apply ObjLe.box | ((refine z33 rfl ?_ ?_); (focus ((repeat' (exact z49)); done))) | exact True.intro | apply And.intro))) ?_
    rintro ⟨k, L⟩ ⟨hk, hL⟩
    dsimp only at hk hL ⊢
    have hk2 := hkl k (by omega)
    rw [hL] at hk2
    by_cases hkn : k < g.st.length
    · have hkK : k < K.length := by omega
      have cp := hK.st k hkK
      have kt := keyL_take hkK
      rw [hL] at kt
      generalize K[k] = a at cp kt
      repeat' ((first | (apply AWP.go ok; rfl) | (apply And.intro; first | (unfold inI; omega) | ((try dsimp only); simp only [List.length_map, List.length_take, List.length_append, List.length_replicate, List.length_cons, List.length_nil]; omega) | exact ⟨rfl, z18 rfl z23⟩) | ((apply z10) <;> intro _) | (((apply z8 [0] [] [] (cp); rfl; (focus ((repeat' first | exact z6 | apply z7) <;> rfl)))); rfl; rfl; rfl; rfl; rfl; (focus ((repeat' first | exact z17 | apply z15) <;> exact z25 rfl rfl)); (exact .inl rfl))) <;> conv => whnf)
      all_goals first | (exfalso; omega) | skip
      all_goals refine z79 (k + 1, L ++ [[a]]) ⟨by show k + 1 ≤ _; omega, kt⟩ (by show g.st.length - (k + 1) < g.st.length - k; omega) (by refine SealW.reach [0, 1, 5] [3] rfl rfl rfl rfl ?_ ?_ <;> (repeat' (first | exact LocLe.refl _ | exact F2.nil | apply F2.cons | (refine z120 ?_; ((simp; done))) | apply ObjLe.box | ((refine z56 rfl ?_ ?_); (focus ((repeat' (first | exact z12 (fun _ => rfl) | apply z37)); done))) | (refine z114 ?_ ?_; (focus (omega))) | exact True.intro | apply And.intro)) <;> (trace_state))
    obtain rfl : k = g.st.length := by omega
    rw [← kl, List.take_length] at hL
    subst hL
    repeat' ((first | ((fail_if_success apply stopAt 8); (fail_if_success apply z139 8); apply AWP.go ok; rfl) | ((apply z10) <;> intro _)) <;> conv => whnf)
    all_goals first | (exfalso; omega) | skip
    refine AWP.reach (SealW.reach (env := [(0, .ptr 0 none 0), (4, .ptr 1 none 0), (9, lst 1 encL (keyL K))]) (objs := [rdO bs (pf g.st.length), .cells 2 [g.cs]]) [0, 1] [2] rfl rfl rfl rfl ?_ ?_) ?_
    · (repeat' (first | exact LocLe.refl _ | ((apply z47 rfl rfl rfl); (focus ((repeat ((exact z36 (fun _ => rfl) _))); done)); (focus (((simp; done)); done))) | exact True.intro | apply And.intro))
    · (repeat' (first | exact LocLe.refl _ | exact F2.nil | apply F2.cons | apply ObjLe.box))
    conv => whnf
    repeat' ((first | (apply AWP.go ok; rfl) | (apply z11 (cN); rfl; rfl)) <;> conv => whnf)
    all_goals skip
    rcases hT with ⟨a1⟩ | ⟨j, x, hj, a1, a2, a3⟩ | ⟨hl, a1⟩ | ⟨a1⟩ | ⟨v', v0, v1, v2, a1⟩
    · repeat' ((first | (apply AWP.go ok; rfl) | (apply And.intro; first | (dsimp only; omega) | ((try dsimp only); simp only [List.length_map, List.length_take, List.length_append, List.length_replicate, List.length_cons, List.length_nil]; omega) | exact z16 (fun _ => rfl) | exact ⟨rfl, z18 rfl z23⟩) | (((apply z8 [0] [] [] (a1); rfl; (focus ((repeat' first | exact z6 | apply z7) <;> rfl)))); rfl; rfl; rfl; rfl; rfl; (focus ((repeat' first | exact z17 | apply z15) <;> exact z25 rfl rfl)); (exact .inl rfl))) <;> conv => whnf)
      all_goals skip
      all_goals (refine RetS.lay [0] [5] rfl rfl rfl ?_; refine RetS.done ?_ ?_ <;> (repeat' (first | exact LocLe.refl _ | exact F2.nil | apply F2.cons | apply ObjLe.box | (refine z114 ?_ ?_; (focus (omega))) | ((apply z47 rfl rfl rfl); (focus ((repeat (first | exact z36 (fun _ => rfl) _ | apply z107 | apply z137 | rfl)); done)); (focus (((simp; done)); done))) | (refine z83 ?_ ?_; (focus (simp; done))))))
    · have gl : (B0.set j x).length = B0.length := by simp
      have gx : ((([] : List (List AC)).take 0) ++ B0.map enI)[j]? = some (enI (B0.getD j 0)) := by rw [List.take_nil, List.nil_append, List.getElem?_map, List.getElem?_eq_getElem hj, z20 hj]; rfl
      have gs : ((([] : List (List AC)).take 0) ++ B0.map enI).set j (enI x) = (B0.set j x).map enI := by rw [List.take_nil, List.nil_append, List.map_set]
      rw [show B0.length = 0 + B0.length by omega] at a2
      repeat' ((first | (apply AWP.go ok; rfl) | (refine z32 (i := j) rfl gx ?_) | (apply And.intro; first | omega | (dsimp only; omega) | exact z16 (fun _ => rfl)) | ((apply z10) <;> intro _) | ((first | (apply z8 [0] [] [] (a1); rfl; (focus ((repeat' first | exact z6 | apply z7) <;> rfl))) | (apply z8 [0] [] [] (a2); rfl; (focus ((repeat' first | exact z6 | apply z7) <;> rfl))) | (apply z8 [0, 4] [] [] (a3); rfl; (focus ((repeat' first | exact z6 | apply z7) <;> rfl)))); rfl; rfl; rfl; rfl; rfl; (focus ((repeat' first | exact z17 | apply z15) <;> first | exact z25 rfl rfl | (refine z29 ?_; ((exact z12 fun _ => rfl))))); (exact .inl rfl))) <;> conv => whnf)
      all_goals first | (exfalso; omega) | skip
      all_goals (refine RetS.lay [0] [3] rfl rfl rfl ?_; refine RetS.done ?_ ?_ <;> (repeat' (first | exact LocLe.refl _ | exact F2.nil | apply F2.cons | apply ObjLe.box | (refine put_le (by omega) ?_) | ((apply z47 rfl rfl rfl); (focus ((repeat (first | exact z36 (fun _ => rfl) _ | apply unown_st)); done)); (focus (((simp; done)); done))) | (refine z83 ?_ ?_; (focus (simp; done))))))
    · repeat' ((first | (apply AWP.go ok; rfl) | (apply And.intro; omega) | ((apply z10) <;> intro _) | (((apply z8 [0] [] [] (a1); rfl; (focus ((repeat' first | exact z6 | apply z7) <;> rfl)))); rfl; rfl; rfl; rfl; rfl; (focus ((repeat' first | exact z17 | apply z15) <;> exact z25 rfl rfl)); (exact .inl rfl))) <;> conv => whnf)
      all_goals first | (exfalso; omega) | skip
      all_goals (refine RetS.lay [0] [] rfl rfl rfl ?_; refine RetS.done ?_ ?_ <;> (repeat' (first | exact LocLe.refl _ | exact F2.nil | apply F2.cons | apply ObjLe.box)))
    · repeat' ((first | (apply AWP.go ok; rfl) | (apply z11 (cC); rfl; rfl) | (((apply z8 [0] [] [] (a1); rfl; (focus ((repeat' first | exact z6 | apply z7) <;> rfl)))); rfl; rfl; rfl; rfl; rfl; (focus ((repeat' first | exact z17 | apply z15) <;> exact z25 rfl rfl)); (exact .inl rfl))) <;> conv => whnf)
      all_goals skip
      all_goals (refine RetS.lay [0] [] rfl rfl rfl ?_; refine RetS.done ?_ ?_ <;> (repeat' (first | exact LocLe.refl _ | exact F2.nil | apply F2.cons | apply ObjLe.box)))
    · repeat' ((first | (apply AWP.go ok; rfl) | (apply And.intro; omega) | ((apply z10) <;> intro _) | (((apply z8 [0] [] [] (a1); rfl; (focus ((repeat' first | exact z6 | apply z7) <;> rfl)))); rfl; rfl; rfl; rfl; rfl; (focus ((repeat' first | exact z17 | apply z15) <;> exact z25 rfl rfl)); (exact .inl rfl))) <;> conv => whnf)
      all_goals first | (exfalso; omega) | skip
      all_goals (refine RetS.lay [0] [] rfl rfl rfl ?_; refine RetS.done ?_ ?_ <;> (repeat' (first | exact LocLe.refl _ | exact F2.nil | apply F2.cons | apply ObjLe.box)))
  · rw [h] at cB
    have e0 := hK.p0
    rw [← e0]
    refine z19 z26 Tryz.func87 rfl rfl 73 Tryz.ntmps87 (by simp) ?_
    repeat' ((first | (apply AWP.go ok; rfl) | (apply z11 (cB); rfl; rfl)) <;> conv => whnf)
    all_goals skip
    have kl := hK.len
    have cN := keepI (l10Number_new (keyL K) (by unfold keyL; simp; omega) (fun r hr => by unfold keyL at hr; obtain ⟨a, _, rfl⟩ := List.mem_map.1 hr; unfold maxLen; simp)) (z77 _ _)
    have hkl : ∀ k, k ≤ K.length → (keyL (K.take k)).length = k := fun k hk => by unfold keyL; simp; omega
    generalize (numF (sameK (keyL K)) (keyL K).length).1 = B0 at *
    refine loopR (fun x : Nat × List (List Int) => ([(0, .ptr 0 none 0), (4, .ptr 1 none 0), (9, .sref 2 0 x.2.length), (10, .int x.1)], [rdO bs (pf x.1), .cells 2 [g.cs], .cells 1 (x.2.map encL)])) (fun x => x.1 ≤ g.st.length ∧ keyL (K.take x.1) = x.2) (fun x => g.st.length - x.1) (0, []) ⟨Nat.zero_le _, rfl⟩ (by refine SealW.reach [0, 1, 2] [] rfl rfl rfl rfl ?_ ?_ <;> (repeat' (first | exact LocLe.refl _ | exact F2.nil | apply F2.cons | apply ObjLe.box | ((refine z33 rfl ?_ ?_); (focus ((repeat' (exact z49)); done))) | exact True.intro | apply And.intro))) ?_
    rintro ⟨k, L⟩ ⟨hk, hL⟩
    dsimp only at hk hL ⊢
    have hk2 := hkl k (by omega)
    rw [hL] at hk2
    by_cases hkn : k < g.st.length
    · have hkK : k < K.length := by omega
      have cp := hK.st k hkK
      have kt := keyL_take hkK
      rw [hL] at kt
      generalize K[k] = a at cp kt
      repeat' ((first | (apply AWP.go ok; rfl) | (apply And.intro; first | (unfold inI; omega) | ((try dsimp only); simp only [List.length_map, List.length_take, List.length_append, List.length_replicate, List.length_cons, List.length_nil]; omega) | exact ⟨rfl, z18 rfl z23⟩) | ((apply z10) <;> intro _) | (((apply z8 [0] [] [] (cp); rfl; (focus ((repeat' first | exact z6 | apply z7) <;> rfl)))); rfl; rfl; rfl; rfl; rfl; (focus ((repeat' first | exact z17 | apply z15) <;> exact z25 rfl rfl)); (exact .inl rfl))) <;> conv => whnf)
      all_goals first | (exfalso; omega) | skip
      all_goals refine z79 (k + 1, L ++ [[a]]) ⟨by show k + 1 ≤ _; omega, kt⟩ (by show g.st.length - (k + 1) < g.st.length - k; omega) (by refine SealW.reach [0, 1, 5] [3] rfl rfl rfl rfl ?_ ?_ <;> (repeat' (first | exact LocLe.refl _ | exact F2.nil | apply F2.cons | (refine z120 ?_; ((simp; done))) | apply ObjLe.box | ((refine z56 rfl ?_ ?_); (focus ((repeat' (first | exact z12 (fun _ => rfl) | apply z37)); done))) | (refine z114 ?_ ?_; (focus (omega))) | exact True.intro | apply And.intro)) <;> (trace_state))
    obtain rfl : k = g.st.length := by omega
    rw [← kl, List.take_length] at hL
    subst hL
    repeat' ((first | ((fail_if_success apply stopAt 8); (fail_if_success apply z139 8); apply AWP.go ok; rfl) | ((apply z10) <;> intro _)) <;> conv => whnf)
    all_goals first | (exfalso; omega) | skip
    refine AWP.reach (SealW.reach (env := [(0, .ptr 0 none 0), (4, .ptr 1 none 0), (9, lst 1 encL (keyL K))]) (objs := [rdO bs (pf g.st.length), .cells 2 [g.cs]]) [0, 1] [2] rfl rfl rfl rfl ?_ ?_) ?_
    · (repeat' (first | exact LocLe.refl _ | ((apply z47 rfl rfl rfl); (focus ((repeat ((exact z36 (fun _ => rfl) _))); done)); (focus (((simp; done)); done))) | exact True.intro | apply And.intro))
    · (repeat' (first | exact LocLe.refl _ | exact F2.nil | apply F2.cons | apply ObjLe.box))
    conv => whnf
    repeat' ((first | (apply AWP.go ok; rfl) | (apply z11 (cN); rfl; rfl)) <;> conv => whnf)
    all_goals skip
    rcases hT with ⟨a1⟩ | ⟨j, x, hj, a1, a2, a3⟩ | ⟨hl, a1⟩ | ⟨a1⟩ | ⟨v', v0, v1, v2, a1⟩
    · repeat' ((first | (apply AWP.go ok; rfl) | (apply And.intro; first | (dsimp only; omega) | ((try dsimp only); simp only [List.length_map, List.length_take, List.length_append, List.length_replicate, List.length_cons, List.length_nil]; omega) | exact z16 (fun _ => rfl) | exact ⟨rfl, z18 rfl z23⟩) | (((apply z8 [0] [] [] (a1); rfl; (focus ((repeat' first | exact z6 | apply z7) <;> rfl)))); rfl; rfl; rfl; rfl; rfl; (focus ((repeat' first | exact z17 | apply z15) <;> exact z25 rfl rfl)); (exact .inl rfl))) <;> conv => whnf)
      all_goals skip
      all_goals (refine RetS.lay [0] [5] rfl rfl rfl ?_; refine RetS.done ?_ ?_ <;> (repeat' (first | exact LocLe.refl _ | exact F2.nil | apply F2.cons | apply ObjLe.box | (refine z114 ?_ ?_; (focus (omega))) | ((apply z47 rfl rfl rfl); (focus ((repeat (first | exact z36 (fun _ => rfl) _ | apply z107 | apply z137 | rfl)); done)); (focus (((simp; done)); done))) | (refine z83 ?_ ?_; (focus (simp; done))))))
    · have gl : (B0.set j x).length = B0.length := by simp
      have gx : ((([] : List (List AC)).take 0) ++ B0.map enI)[j]? = some (enI (B0.getD j 0)) := by rw [List.take_nil, List.nil_append, List.getElem?_map, List.getElem?_eq_getElem hj, z20 hj]; rfl
      have gs : ((([] : List (List AC)).take 0) ++ B0.map enI).set j (enI x) = (B0.set j x).map enI := by rw [List.take_nil, List.nil_append, List.map_set]
      rw [show B0.length = 0 + B0.length by omega] at a2
      repeat' ((first | (apply AWP.go ok; rfl) | (refine z32 (i := j) rfl gx ?_) | (apply And.intro; first | omega | (dsimp only; omega) | exact z16 (fun _ => rfl)) | ((apply z10) <;> intro _) | ((first | (apply z8 [0] [] [] (a1); rfl; (focus ((repeat' first | exact z6 | apply z7) <;> rfl))) | (apply z8 [0] [] [] (a2); rfl; (focus ((repeat' first | exact z6 | apply z7) <;> rfl))) | (apply z8 [0, 4] [] [] (a3); rfl; (focus ((repeat' first | exact z6 | apply z7) <;> rfl)))); rfl; rfl; rfl; rfl; rfl; (focus ((repeat' first | exact z17 | apply z15) <;> first | exact z25 rfl rfl | (refine z29 ?_; ((exact z12 fun _ => rfl))))); (exact .inl rfl))) <;> conv => whnf)
      all_goals first | (exfalso; omega) | skip
      all_goals (refine RetS.lay [0] [3] rfl rfl rfl ?_; refine RetS.done ?_ ?_ <;> (repeat' (first | exact LocLe.refl _ | exact F2.nil | apply F2.cons | apply ObjLe.box | (refine put_le (by omega) ?_) | ((apply z47 rfl rfl rfl); (focus ((repeat (first | exact z36 (fun _ => rfl) _ | apply unown_st)); done)); (focus (((simp; done)); done))) | (refine z83 ?_ ?_; (focus (simp; done))))))
    · repeat' ((first | (apply AWP.go ok; rfl) | (apply And.intro; omega) | ((apply z10) <;> intro _) | (((apply z8 [0] [] [] (a1); rfl; (focus ((repeat' first | exact z6 | apply z7) <;> rfl)))); rfl; rfl; rfl; rfl; rfl; (focus ((repeat' first | exact z17 | apply z15) <;> exact z25 rfl rfl)); (exact .inl rfl))) <;> conv => whnf)
      all_goals first | (exfalso; omega) | skip
      all_goals (refine RetS.lay [0] [] rfl rfl rfl ?_; refine RetS.done ?_ ?_ <;> (repeat' (first | exact LocLe.refl _ | exact F2.nil | apply F2.cons | apply ObjLe.box)))
    · repeat' ((first | (apply AWP.go ok; rfl) | (apply z11 (cC); rfl; rfl) | (((apply z8 [0] [] [] (a1); rfl; (focus ((repeat' first | exact z6 | apply z7) <;> rfl)))); rfl; rfl; rfl; rfl; rfl; (focus ((repeat' first | exact z17 | apply z15) <;> exact z25 rfl rfl)); (exact .inl rfl))) <;> conv => whnf)
      all_goals skip
      all_goals (refine RetS.lay [0] [] rfl rfl rfl ?_; refine RetS.done ?_ ?_ <;> (repeat' (first | exact LocLe.refl _ | exact F2.nil | apply F2.cons | apply ObjLe.box)))
    · repeat' ((first | (apply AWP.go ok; rfl) | (apply And.intro; omega) | ((apply z10) <;> intro _) | (((apply z8 [0] [] [] (a1); rfl; (focus ((repeat' first | exact z6 | apply z7) <;> rfl)))); rfl; rfl; rfl; rfl; rfl; (focus ((repeat' first | exact z17 | apply z15) <;> exact z25 rfl rfl)); (exact .inl rfl))) <;> conv => whnf)
      all_goals first | (exfalso; omega) | skip
      all_goals (refine RetS.lay [0] [] rfl rfl rfl ?_; refine RetS.done ?_ ?_ <;> (repeat' (first | exact LocLe.refl _ | exact F2.nil | apply F2.cons | apply ObjLe.box)))
end Go.Proofs.YtknlmbniicacmaaGreat

namespace Go.Proofs.YtknlmbniicacmaaGreat
open Go.Gl
attribute [local irreducible] z35 AWP z65 z78 z74

theorem growNil_new (n : Nat) (h0 : 0 < n) (h1 : n ≤ 1048576) : CallsA Tryz.prog 184 [.nils, .int n] [] (.sref 0 0 0) [.cells 1 (List.replicate n [.int 0])] := by
  refine z14 z26 Tryz.func184 rfl rfl 27 Tryz.ntmps184 (by simp) ?_
  repeat' (first | (apply AWP.go ok; rfl; conv => whnf) | (apply z30; kernel_rfl; conv => whnf) | (apply And.intro; (first | omega | (unfold inI; omega) | (dsimp only; omega) | (unfold z38; omega) | ((try dsimp only); simp only [List.length_map, List.length_take, List.length_append, List.length_replicate, List.length_cons, List.length_nil]; omega) | (simp only [z52] at *; first | omega | (unfold inI; omega) | (unfold z38; omega)) | exact z16 (fun _ => rfl) | exact ⟨rfl, z18 rfl z23⟩ | exact ⟨rfl, z16 (fun _ => rfl) _⟩ | exact ⟨⟨rfl, by omega⟩, z16 (fun _ => rfl) _⟩); conv => whnf) | (with_reducible apply z13; omega; intro _; conv => whnf) | (with_reducible apply z43; omega; intro _; conv => whnf) | (apply z13; omega; intro _; conv => whnf) | (apply z48; omega; conv => whnf) | (apply z50; conv => whnf) | (apply z68; omega; intro _; conv => whnf) | (apply z73 <;> intro _ <;> conv => whnf) | (apply z59 <;> intro _ <;> conv => whnf) | (apply z72 <;> intro _ <;> conv => whnf) | (apply z85 <;> intro _ <;> conv => whnf) | (apply z10 <;> intro _ <;> conv => whnf) | (apply z21 <;> intro _ <;> conv => whnf) | (apply z39 <;> intro _ <;> conv => whnf) | (apply z55 <;> intro _ <;> conv => whnf))
  all_goals first | (exfalso; omega) | skip
  exact z96 [0] (by decide) rfl rfl rfl ⟨z41 (z64 (by rw [show ((n : Int) - (((0 : Nat) : Int) - ((0 : Nat) : Int))).toNat = n by omega])) (z31 rfl), trivial⟩

def szK (a b : List Int) : Nat → Nat
  | 0 => 0
  | 1 => a.length
  | _ => a.length + b.length
def clK (a b : List Int) : Nat → List (List AC)
  | 0 => List.replicate (a.length + b.length) [.int 0]
  | 1 => a.map enI
  | _ => (a ++ b).map enI
theorem clK_flat (a b : List Int) (k : Nat) : Flat (clK a b k) := by
  match k with
  | 0 => exact z31 rfl
  | 1 => exact z12 fun _ => rfl
  | _ + 2 => exact z12 fun _ => rfl

theorem concat_new (a b : List Int) (h0 : 0 < a.length + b.length) (h1 : a.length + b.length ≤ 1048576) : CallsA Tryz.prog 105 [lst 1 encL [a, b]] [] (.sref 0 0 (a.length + b.length)) [.cells 1 ((a ++ b).map enI)] := by
  have cg := growNil_new (a.length + b.length) h0 h1
  have e0 : szK a b 0 = 0 := rfl
  have e1 : szK a b 1 = a.length := rfl
  have e2 : szK a b 2 = a.length + b.length := rfl
  have hc1 : (clK a b 1).length = szK a b 1 := by simp [clK, szK]
  refine z14 z26 Tryz.func105 rfl rfl 36 Tryz.ntmps105 (by simp) ?_
  repeat' (first | (apply AWP.go ok; rfl; conv => whnf) | (apply z30; kernel_rfl; conv => whnf) | (apply And.intro; (first | omega | (unfold inI; omega) | (dsimp only; omega) | (unfold z38; omega) | ((try dsimp only); simp only [List.length_map, List.length_take, List.length_append, List.length_replicate, List.length_cons, List.length_nil]; omega) | (simp only [z52] at *; first | omega | (unfold inI; omega) | (unfold z38; omega)) | exact z16 (fun _ => rfl) | exact ⟨rfl, z18 rfl z23⟩ | exact ⟨rfl, z16 (fun _ => rfl) _⟩ | exact ⟨⟨rfl, by omega⟩, z16 (fun _ => rfl) _⟩); conv => whnf) | (with_reducible apply z13; omega; intro _; conv => whnf) | (with_reducible apply z43; omega; intro _; conv => whnf) | (apply z13; omega; intro _; conv => whnf) | (apply z48; omega; conv => whnf) | (apply z50; conv => whnf) | (apply z68; omega; intro _; conv => whnf) | (apply z73 <;> intro _ <;> conv => whnf) | (apply z59 <;> intro _ <;> conv => whnf) | (apply z72 <;> intro _ <;> conv => whnf) | (apply z85 <;> intro _ <;> conv => whnf) | (apply z10 <;> intro _ <;> conv => whnf) | (apply z21 <;> intro _ <;> conv => whnf) | (apply z39 <;> intro _ <;> conv => whnf) | (apply z55 <;> intro _ <;> conv => whnf))
  refine z100 (fun k : Nat => ([(0, lst 1 encL [a, b]), (3, .int (szK a b k)), (9, lst 1 encL [a, b]), (10, .int (2 : Nat)), (11, .int k)], [])) (fun k => k ≤ 2) (fun k => 2 - k) 0 (by omega) ⟨[], rfl, by decide, rfl, ⟨⟨rfl, rfl⟩, ⟨rfl, rfl⟩, ⟨rfl, rfl⟩, ⟨rfl, rfl⟩, ⟨rfl, rfl⟩, trivial⟩, trivial⟩ ?_
  intro k hk
  have hk3 : k = 0 ∨ k = 1 ∨ k = 2 := by omega
  rcases hk3 with rfl | rfl | rfl
  · repeat' (first | (apply AWP.go ok; rfl; conv => whnf) | (apply z30; kernel_rfl; conv => whnf) | (refine z32 (i := 0) rfl rfl ?_; conv => whnf) | (apply And.intro; (first | omega | (unfold inI; omega) | (dsimp only; omega) | (unfold z38; omega) | ((try dsimp only); simp only [List.length_map, List.length_take, List.length_append, List.length_replicate, List.length_cons, List.length_nil]; omega) | (simp only [z52] at *; first | omega | (unfold inI; omega) | (unfold z38; omega)) | exact z16 (fun _ => rfl) | exact ⟨rfl, z18 rfl z23⟩ | exact ⟨rfl, z16 (fun _ => rfl) _⟩ | exact ⟨⟨rfl, by omega⟩, z16 (fun _ => rfl) _⟩); conv => whnf) | (with_reducible apply z13; omega; intro _; conv => whnf) | (with_reducible apply z43; omega; intro _; conv => whnf) | (apply z13; omega; intro _; conv => whnf) | (apply z48; omega; conv => whnf) | (apply z50; conv => whnf) | (apply z68; omega; intro _; conv => whnf) | (apply z73 <;> intro _ <;> conv => whnf) | (apply z59 <;> intro _ <;> conv => whnf) | (apply z72 <;> intro _ <;> conv => whnf) | (apply z85 <;> intro _ <;> conv => whnf) | (apply z10 <;> intro _ <;> conv => whnf) | (apply z21 <;> intro _ <;> conv => whnf) | (apply z39 <;> intro _ <;> conv => whnf) | (apply z55 <;> intro _ <;> conv => whnf))
    all_goals first | (exfalso; omega) | skip
    all_goals exact z84 1 [] (by omega) (by omega) ⟨rfl, by decide, rfl, ⟨⟨rfl, rfl⟩, ⟨rfl, env_int (by omega)⟩, ⟨rfl, rfl⟩, ⟨rfl, rfl⟩, ⟨rfl, rfl⟩, trivial⟩, trivial⟩
  · repeat' (first | (apply AWP.go ok; rfl; conv => whnf) | (apply z30; kernel_rfl; conv => whnf) | (refine z32 (i := 1) rfl rfl ?_; conv => whnf) | (apply And.intro; (first | omega | (unfold inI; omega) | (dsimp only; omega) | (unfold z38; omega) | ((try dsimp only); simp only [List.length_map, List.length_take, List.length_append, List.length_replicate, List.length_cons, List.length_nil]; omega) | (simp only [z52] at *; first | omega | (unfold inI; omega) | (unfold z38; omega)) | exact z16 (fun _ => rfl) | exact ⟨rfl, z18 rfl z23⟩ | exact ⟨rfl, z16 (fun _ => rfl) _⟩ | exact ⟨⟨rfl, by omega⟩, z16 (fun _ => rfl) _⟩); conv => whnf) | (with_reducible apply z13; omega; intro _; conv => whnf) | (with_reducible apply z43; omega; intro _; conv => whnf) | (apply z13; omega; intro _; conv => whnf) | (apply z48; omega; conv => whnf) | (apply z50; conv => whnf) | (apply z68; omega; intro _; conv => whnf) | (apply z73 <;> intro _ <;> conv => whnf) | (apply z59 <;> intro _ <;> conv => whnf) | (apply z72 <;> intro _ <;> conv => whnf) | (apply z85 <;> intro _ <;> conv => whnf) | (apply z10 <;> intro _ <;> conv => whnf) | (apply z21 <;> intro _ <;> conv => whnf) | (apply z39 <;> intro _ <;> conv => whnf) | (apply z55 <;> intro _ <;> conv => whnf))
    all_goals first | (exfalso; omega) | skip
    all_goals exact z84 2 [] (by omega) (by omega) ⟨rfl, by decide, rfl, ⟨⟨rfl, rfl⟩, ⟨rfl, env_int (by omega)⟩, ⟨rfl, rfl⟩, ⟨rfl, rfl⟩, ⟨rfl, rfl⟩, trivial⟩, trivial⟩
  · rw [← e2] at cg
    repeat' (first | (apply AWP.go ok; rfl; conv => whnf) | (apply z30; kernel_rfl; conv => whnf) | (apply And.intro; (first | omega | (unfold inI; omega) | (dsimp only; omega) | (unfold z38; omega) | ((try dsimp only); simp only [List.length_map, List.length_take, List.length_append, List.length_replicate, List.length_cons, List.length_nil]; omega) | (simp only [z52] at *; first | omega | (unfold inI; omega) | (unfold z38; omega)) | exact z16 (fun _ => rfl) | exact ⟨rfl, z18 rfl z23⟩ | exact ⟨rfl, z16 (fun _ => rfl) _⟩ | exact ⟨⟨rfl, by omega⟩, z16 (fun _ => rfl) _⟩); conv => whnf) | (with_reducible apply z13; omega; intro _; conv => whnf) | (with_reducible apply z43; omega; intro _; conv => whnf) | (apply z13; omega; intro _; conv => whnf) | (apply z48; omega; conv => whnf) | (apply z50; conv => whnf) | (apply z68; omega; intro _; conv => whnf) | (apply z73 <;> intro _ <;> conv => whnf) | (apply z59 <;> intro _ <;> conv => whnf) | (apply z72 <;> intro _ <;> conv => whnf) | (apply z85 <;> intro _ <;> conv => whnf) | (apply z10 <;> intro _ <;> conv => whnf) | (apply z21 <;> intro _ <;> conv => whnf) | (apply z39 <;> intro _ <;> conv => whnf) | (apply z55 <;> intro _ <;> conv => whnf) | (apply z8 [] [] [0] (cg); rfl; (focus ((repeat' (first | exact z6 | apply z7)) <;> (first | rfl | (refine z95 rfl ?_; (first | exact z49 | exact z31 rfl | exact z12 (fun _ => rfl) | exact z12 Tree.co_flat | (apply z58 <;> (first | exact z31 rfl | exact z12 (fun _ => rfl))) | assumption))))); rfl; rfl; rfl; rfl; rfl; (focus ((repeat' (first | exact z17 | apply z15)) <;> (first | exact ren_dead | exact z25 rfl rfl | (refine z29 ?_; (first | exact z49 | exact z31 rfl | exact z12 (fun _ => rfl) | exact z12 Tree.co_flat | (apply z58 <;> (first | exact z31 rfl | exact z12 (fun _ => rfl))) | assumption))))); (first | exact .inl rfl | (refine .inr ⟨rfl, ?_⟩; repeat' (first | exact True.intro | apply And.intro | exact rfl | exact z98 (fun _ => rfl) _))); conv => whnf))
    all_goals first | (exfalso; omega) | skip
    refine z100 (fun k : Nat => ([(6, .sref 0 0 (szK a b k)), (25, lst 1 encL [a, b]), (26, .int (2 : Nat)), (27, .int k)], [.cells 1 (clK a b k)])) (fun k => k ≤ 2) (fun k => 2 - k) 0 (by omega) ⟨[0], rfl, by decide, rfl, ⟨⟨rfl, rfl⟩, ⟨rfl, rfl⟩, ⟨rfl, rfl⟩, ⟨rfl, rfl⟩, trivial⟩, ⟨z41 rfl (clK_flat a b 0), trivial⟩⟩ ?_
    intro k hk
    have hk3 : k = 0 ∨ k = 1 ∨ k = 2 := by omega
    rcases hk3 with rfl | rfl | rfl
    · repeat' (first | (apply AWP.go ok; rfl; conv => whnf) | (apply z30; kernel_rfl; conv => whnf) | (refine z32 (i := 0) rfl rfl ?_; conv => whnf) | (apply And.intro; (first | omega | (unfold inI; omega) | (dsimp only; omega) | (unfold z38; omega) | ((try dsimp only); simp only [List.length_map, List.length_take, List.length_append, List.length_replicate, List.length_cons, List.length_nil]; omega) | (simp only [z52] at *; first | omega | (unfold inI; omega) | (unfold z38; omega)) | exact z16 (fun _ => rfl) | exact ⟨rfl, z18 rfl z23⟩ | exact ⟨rfl, z16 (fun _ => rfl) _⟩ | exact ⟨⟨rfl, by omega⟩, z16 (fun _ => rfl) _⟩); conv => whnf) | (with_reducible apply z13; omega; intro _; conv => whnf) | (with_reducible apply z43; omega; intro _; conv => whnf) | (apply z13; omega; intro _; conv => whnf) | (apply z48; omega; conv => whnf) | (apply z50; conv => whnf) | (apply z68; omega; intro _; conv => whnf) | (apply z73 <;> intro _ <;> conv => whnf) | (apply z59 <;> intro _ <;> conv => whnf) | (apply z72 <;> intro _ <;> conv => whnf) | (apply z85 <;> intro _ <;> conv => whnf) | (apply z10 <;> intro _ <;> conv => whnf) | (apply z21 <;> intro _ <;> conv => whnf) | (apply z39 <;> intro _ <;> conv => whnf) | (apply z55 <;> intro _ <;> conv => whnf))
      all_goals first | (exfalso; omega) | skip
      all_goals exact z84 1 [1] (by omega) (by omega) ⟨rfl, by decide, rfl, ⟨⟨rfl, congrArg (AC.sref 1 0) (show szK a b 0 + a.length = szK a b 1 by omega)⟩, ⟨rfl, rfl⟩, ⟨rfl, rfl⟩, ⟨rfl, rfl⟩, trivial⟩, ⟨z41 (z64 (by rw [e0, List.take_zero]; rfl)) (clK_flat a b 1), trivial⟩⟩
    · repeat' (first | (apply AWP.go ok; rfl; conv => whnf) | (apply z30; kernel_rfl; conv => whnf) | (refine z32 (i := 1) rfl rfl ?_; conv => whnf) | (apply And.intro; (first | omega | (unfold inI; omega) | (dsimp only; omega) | (unfold z38; omega) | ((try dsimp only); simp only [List.length_map, List.length_take, List.length_append, List.length_replicate, List.length_cons, List.length_nil]; omega) | (simp only [z52] at *; first | omega | (unfold inI; omega) | (unfold z38; omega)) | exact z16 (fun _ => rfl) | exact ⟨rfl, z18 rfl z23⟩ | exact ⟨rfl, z16 (fun _ => rfl) _⟩ | exact ⟨⟨rfl, by omega⟩, z16 (fun _ => rfl) _⟩); conv => whnf) | (with_reducible apply z13; omega; intro _; conv => whnf) | (with_reducible apply z43; omega; intro _; conv => whnf) | (apply z13; omega; intro _; conv => whnf) | (apply z48; omega; conv => whnf) | (apply z50; conv => whnf) | (apply z68; omega; intro _; conv => whnf) | (apply z73 <;> intro _ <;> conv => whnf) | (apply z59 <;> intro _ <;> conv => whnf) | (apply z72 <;> intro _ <;> conv => whnf) | (apply z85 <;> intro _ <;> conv => whnf) | (apply z10 <;> intro _ <;> conv => whnf) | (apply z21 <;> intro _ <;> conv => whnf) | (apply z39 <;> intro _ <;> conv => whnf) | (apply z55 <;> intro _ <;> conv => whnf))
      all_goals first | (exfalso; omega) | skip
      all_goals exact z84 2 [1] (by omega) (by omega) ⟨rfl, by decide, rfl, ⟨⟨rfl, congrArg (AC.sref 1 0) (show szK a b 1 + b.length = szK a b 2 by omega)⟩, ⟨rfl, rfl⟩, ⟨rfl, rfl⟩, ⟨rfl, rfl⟩, trivial⟩, ⟨z41 (z64 (by rw [List.take_of_length_le (by omega)]; exact (List.map_append ..).symm)) (clK_flat a b 2), trivial⟩⟩
    · repeat' (first | (apply AWP.go ok; rfl; conv => whnf) | (apply z30; kernel_rfl; conv => whnf) | (apply And.intro; (first | omega | (unfold inI; omega) | (dsimp only; omega) | (unfold z38; omega) | ((try dsimp only); simp only [List.length_map, List.length_take, List.length_append, List.length_replicate, List.length_cons, List.length_nil]; omega) | (simp only [z52] at *; first | omega | (unfold inI; omega) | (unfold z38; omega)) | exact z16 (fun _ => rfl) | exact ⟨rfl, z18 rfl z23⟩ | exact ⟨rfl, z16 (fun _ => rfl) _⟩ | exact ⟨⟨rfl, by omega⟩, z16 (fun _ => rfl) _⟩); conv => whnf) | (with_reducible apply z13; omega; intro _; conv => whnf) | (with_reducible apply z43; omega; intro _; conv => whnf) | (apply z13; omega; intro _; conv => whnf) | (apply z48; omega; conv => whnf) | (apply z50; conv => whnf) | (apply z68; omega; intro _; conv => whnf) | (apply z73 <;> intro _ <;> conv => whnf) | (apply z59 <;> intro _ <;> conv => whnf) | (apply z72 <;> intro _ <;> conv => whnf) | (apply z85 <;> intro _ <;> conv => whnf) | (apply z10 <;> intro _ <;> conv => whnf) | (apply z21 <;> intro _ <;> conv => whnf) | (apply z39 <;> intro _ <;> conv => whnf) | (apply z55 <;> intro _ <;> conv => whnf))
      all_goals first | (exfalso; omega) | skip
      all_goals exact z96 [0] (by decide) rfl rfl rfl ⟨z41 rfl (z12 fun _ => rfl), trivial⟩
end Go.Proofs.YtknlmbniicacmaaGreat

namespace Go.Proofs.YtknlmbniicacmaaGreat
open Go.Gl
attribute [local irreducible] z35 AWP z65 z78 z74

noncomputable def stepP (g : Graph) (p : List Int) (i : Nat) : Bool := (decide (0 ≤ p.getD i 0) && decide (p.getD i 0 < g.st.length)) && (decide (i = 0) || decide (p.getD i 0 ∈ g.nx.getD (p.getD (i - 1) 0).toNat []))
noncomputable def pathB (g : Graph) (p : List Int) : Bool := z125 g && (decide (1 ≤ p.length) && (List.range p.length).all (stepP g p))
theorem pathB_false {g : Graph} {p : List Int} {i : Nat} (hi : i < p.length) (h : stepP g p i = false) : pathB g p = false := by
  unfold pathB
  have : (List.range p.length).all (stepP g p) = false := by
    rw [List.all_eq_false]
    exact ⟨i, List.mem_range.2 hi, by simp [h]⟩
  rw [this]; simp
theorem pathB_true {g : Graph} {p : List Int} (hg : z125 g = true) (h0 : 1 ≤ p.length) (h : ∀ i, i < p.length → stepP g p i = true) : pathB g p = true := by
  unfold pathB
  have : (List.range p.length).all (stepP g p) = true := by
    rw [List.all_eq_true]
    exact fun i hi => h i (List.mem_range.1 hi)
  rw [this, hg, decide_eq_true h0]; rfl
theorem stepP_0 (g : Graph) (p : List Int) (h : 0 < p.length) : stepP g p 0 = (decide (0 ≤ p[0]) && decide (p[0] < g.st.length)) := by
  unfold stepP; rw [z20 h]; simp
theorem stepP_s (g : Graph) (p : List Int) (j : Nat) (h : j + 1 < p.length) (h2 : p[j].toNat < g.nx.length) : stepP g p (j + 1) = (decide (0 ≤ p[j + 1]) && decide (p[j + 1] < g.st.length) && decide (p[j + 1] ∈ g.nx[p[j].toNat])) := by
  unfold stepP
  rw [z20 h, Nat.add_sub_cancel, z20 (show j < p.length by omega), z20 h2]; simp
theorem stepP_in {g : Graph} {p : List Int} {j : Nat} (h : j < p.length) (k : stepP g p j = true) : 0 ≤ p[j] ∧ p[j] < g.st.length := by
  unfold stepP at k
  rw [z20 h] at k
  simp only [Bool.and_eq_true, decide_eq_true_eq] at k
  exact k.1
theorem upto_succ {P : Nat → Prop} {i : Nat} (h : ∀ j, j < i → P j) (k : P i) : ∀ j, j < i + 1 → P j := fun j hj => by
  rcases Nat.lt_or_ge j i with h3 | h3
  · exact h j h3
  · obtain rfl : j = i := by omega
    exact k

set_option maxHeartbeats 1600000 in
theorem implPath_ok (g : Graph) (hg : g.mx) (p : List Int) (hp : p.length ≤ maxLen) : CallsA Tryz.prog 106 [.agg g.cs, ints p] [] (.bool (pathB g p)) [] := by
  have k1 := graphValid_ok g hg
  unfold maxLen at hp
  by_cases hgb : z125 g = true
  · have hG := (z90 g).1 hgb
    have hgl := hG.2.1
    have h60 := hG.1.2
    have hrl := hg.2.2
    rw [hgb] at k1
    by_cases h0 : p.length = 0
    · have e : pathB g p = false := by unfold pathB; rw [decide_eq_false (show ¬ 1 ≤ p.length by omega)]; simp
      rw [e]
      refine z14 z26 Tryz.func106 rfl rfl 48 Tryz.ntmps106 (by simp) ?_
      repeat' ((first | (apply AWP.go ok; rfl) | (apply z30; kernel_rfl) | (apply And.intro; first | omega | (unfold inI; omega) | (dsimp only; omega) | ((try dsimp only); simp only [List.length_map, List.length_take, List.length_append, List.length_replicate, List.length_cons, List.length_nil]; omega) | exact z16 (fun _ => rfl) | exact ⟨rfl, z18 rfl z23⟩ | exact ⟨rfl, z16 (fun _ => rfl) _⟩ | exact ⟨⟨rfl, by omega⟩, z16 (fun _ => rfl) _⟩ | (unfold z38; omega) | (simp only [z52] at *; first | omega | (unfold inI; omega) | (unfold z38; omega))) | ((first | (with_reducible apply z13; omega) | (with_reducible apply z43; omega) | (apply z13; omega)); intro _) | (apply z48; omega) | apply z50 | (apply z68; omega; intro _) | ((first | apply z73 | apply z59 | apply z72 | apply z85 | apply z10 | apply z21 | apply z39 | apply z55) <;> intro _) | (apply z11 (k1); rfl; rfl)) <;> conv => whnf)
      all_goals first | (exfalso; omega) | exact z24 rfl rfl | (exfalso; simp_all; done) | skip
    refine z14 z26 Tryz.func106 rfl rfl 48 Tryz.ntmps106 (by simp) ?_
    repeat' ((first | (apply AWP.go ok; rfl) | (apply z30; kernel_rfl) | (apply And.intro; first | omega | (unfold inI; omega) | (dsimp only; omega) | ((try dsimp only); simp only [List.length_map, List.length_take, List.length_append, List.length_replicate, List.length_cons, List.length_nil]; omega) | exact z16 (fun _ => rfl) | exact ⟨rfl, z18 rfl z23⟩ | exact ⟨rfl, z16 (fun _ => rfl) _⟩ | exact ⟨⟨rfl, by omega⟩, z16 (fun _ => rfl) _⟩ | (unfold z38; omega) | (simp only [z52] at *; first | omega | (unfold inI; omega) | (unfold z38; omega))) | ((first | (with_reducible apply z13; omega) | (with_reducible apply z43; omega) | (apply z13; omega)); intro _) | (apply z48; omega) | apply z50 | (apply z68; omega; intro _) | ((first | apply z73 | apply z59 | apply z72 | apply z85 | apply z10 | apply z21 | apply z39 | apply z55) <;> intro _) | (apply z11 (k1); rfl; rfl)) <;> conv => whnf)
    all_goals first | (exfalso; omega) | (exfalso; simp_all; done) | skip
    refine z100 (fun i : Nat => ([(1, ints p), (2, .ptr 0 none 0), (15, ints p), (16, .int p.length), (17, .int i)], [.cells 2 [[lst 2 State.cs g.st, lst 1 encL g.nx]]])) (fun i => i ≤ p.length ∧ ∀ j, j < i → stepP g p j = true) (fun i => p.length - i) 0 ⟨by omega, fun j hj => by omega⟩ ⟨[0], rfl, by decide, rfl, ⟨⟨rfl, rfl⟩, ⟨rfl, rfl⟩, ⟨rfl, rfl⟩, ⟨rfl, rfl⟩, ⟨rfl, rfl⟩, trivial⟩, ⟨z42 rfl rfl, trivial⟩⟩ ?_
    rintro i ⟨hi, hs⟩
    by_cases hil : i < p.length
    · have g0 : (p.map enI)[i]? = some (enI p[i]) := by rw [List.getElem?_map, List.getElem?_eq_getElem hil]; rfl
      have c1 := in_ok p[i] 0 ((g.st.length : Int) - 1)
      cases i with
      | zero =>
        have hst := stepP_0 g p hil
        generalize p[0] = x at *
        repeat' ((first | (apply AWP.go ok; rfl) | (apply z30; kernel_rfl) | (refine z32 (i := 0) rfl g0 ?_) | (apply And.intro; first | omega | (unfold inI; omega) | (dsimp only; omega) | ((try dsimp only); simp only [List.length_map, List.length_take, List.length_append, List.length_replicate, List.length_cons, List.length_nil]; omega) | exact z16 (fun _ => rfl) | exact ⟨rfl, z18 rfl z23⟩ | exact ⟨rfl, z16 (fun _ => rfl) _⟩ | exact ⟨⟨rfl, by omega⟩, z16 (fun _ => rfl) _⟩ | (unfold z38; omega) | (simp only [z52] at *; first | omega | (unfold inI; omega) | (unfold z38; omega))) | ((first | (with_reducible apply z13; omega) | (with_reducible apply z43; omega) | (apply z13; omega)); intro _) | (apply z48; omega) | apply z50 | (apply z68; omega; intro _) | ((first | apply z73 | apply z59 | apply z72 | apply z85 | apply z10 | apply z21 | apply z39 | apply z55) <;> intro _) | (apply z11 (c1); rfl; rfl)) <;> conv => whnf)
        all_goals (try simp only [z52, btw_no] at *)
        all_goals first
          | (exfalso; omega)
          | exact z24 rfl (pathB_false hil (by rw [hst]; grind))
          | exact z84 1 [0] ⟨by omega, upto_succ hs (by rw [hst]; grind)⟩ (by omega) ⟨rfl, by decide, rfl, ⟨⟨rfl, rfl⟩, ⟨rfl, rfl⟩, ⟨rfl, rfl⟩, ⟨rfl, rfl⟩, ⟨rfl, rfl⟩, trivial⟩, ⟨z42 rfl rfl, trivial⟩⟩
      | succ j =>
        have hy := stepP_in (show j < p.length by omega) (hs j (by omega))
        have hst := stepP_s g p j hil (by omega)
        have g1 : (p.map enI)[j]? = some (enI p[j]) := by rw [List.getElem?_map, List.getElem?_eq_getElem (by omega)]; rfl
        have c2 := containsInt_ok g.nx[p[j].toNat] (hrl _ (List.getElem_mem _)) p[j + 1]
        have g2 : (g.nx.map encL)[p[j].toNat]? = some (encL (g.nx[p[j].toNat]'(by omega))) := by rw [List.getElem?_map, List.getElem?_eq_getElem (by omega)]; rfl
        generalize g.nx[p[j].toNat] = row at *
        generalize p[j] = y at *
        generalize p[j + 1] = x at *
        repeat' ((first | (apply AWP.go ok; rfl) | (apply z30; kernel_rfl) | (refine z32 (i := j + 1) (by first | rfl | omega) g0 ?_) | (refine z32 (i := j) (by omega) g1 ?_) | (refine z32 (i := y.toNat) rfl g2 ?_) | (apply And.intro; first | omega | (unfold inI; omega) | (dsimp only; omega) | ((try dsimp only); simp only [List.length_map, List.length_take, List.length_append, List.length_replicate, List.length_cons, List.length_nil]; omega) | exact z16 (fun _ => rfl) | exact ⟨rfl, z18 rfl z23⟩ | exact ⟨rfl, z16 (fun _ => rfl) _⟩ | exact ⟨⟨rfl, by omega⟩, z16 (fun _ => rfl) _⟩ | (unfold z38; omega) | (simp only [z52] at *; first | omega | (unfold inI; omega) | (unfold z38; omega))) | ((first | (with_reducible apply z13; omega) | (with_reducible apply z43; omega) | (apply z13; omega)); intro _) | (apply z48; omega) | apply z50 | (apply z68; omega; intro _) | ((first | apply z73 | apply z59 | apply z72 | apply z85 | apply z10 | apply z21 | apply z39 | apply z55) <;> intro _) | (apply z11 (c1); rfl; rfl) | (apply z11 (c2); rfl; rfl)) <;> conv => whnf)
        all_goals (try simp only [z52, btw_no] at *)
        all_goals first
          | (exfalso; omega)
          | exact z24 rfl (pathB_false hil (by rw [hst]; grind))
          | exact z84 (j + 2) [0] ⟨by omega, upto_succ hs (by rw [hst]; grind)⟩ (by omega) ⟨rfl, by decide, rfl, ⟨⟨rfl, rfl⟩, ⟨rfl, rfl⟩, ⟨rfl, rfl⟩, ⟨rfl, rfl⟩, ⟨rfl, rfl⟩, trivial⟩, ⟨z42 rfl rfl, trivial⟩⟩
          | skip
    · repeat' ((first | (apply AWP.go ok; rfl) | (apply z30; kernel_rfl) | (apply And.intro; first | omega | (unfold inI; omega) | (dsimp only; omega) | ((try dsimp only); simp only [List.length_map, List.length_take, List.length_append, List.length_replicate, List.length_cons, List.length_nil]; omega) | exact z16 (fun _ => rfl) | exact ⟨rfl, z18 rfl z23⟩ | exact ⟨rfl, z16 (fun _ => rfl) _⟩ | exact ⟨⟨rfl, by omega⟩, z16 (fun _ => rfl) _⟩ | (unfold z38; omega) | (simp only [z52] at *; first | omega | (unfold inI; omega) | (unfold z38; omega))) | ((first | (with_reducible apply z13; omega) | (with_reducible apply z43; omega) | (apply z13; omega)); intro _) | (apply z48; omega) | apply z50 | (apply z68; omega; intro _) | ((first | apply z73 | apply z59 | apply z72 | apply z85 | apply z10 | apply z21 | apply z39 | apply z55) <;> intro _)) <;> conv => whnf)
      all_goals first | (exfalso; omega) | skip
      exact z24 rfl (pathB_true hgb (by omega) fun j hj => hs j (by omega))
  · have hgb := (Bool.not_eq_true _).mp hgb
    have e : pathB g p = false := by unfold pathB; rw [hgb]; rfl
    rw [hgb] at k1
    rw [e]
    refine z14 z26 Tryz.func106 rfl rfl 48 Tryz.ntmps106 (by simp) ?_
    repeat' ((first | (apply AWP.go ok; rfl) | (apply z30; kernel_rfl) | (apply And.intro; first | omega | (unfold inI; omega) | (dsimp only; omega) | ((try dsimp only); simp only [List.length_map, List.length_take, List.length_append, List.length_replicate, List.length_cons, List.length_nil]; omega) | exact z16 (fun _ => rfl) | exact ⟨rfl, z18 rfl z23⟩ | exact ⟨rfl, z16 (fun _ => rfl) _⟩ | exact ⟨⟨rfl, by omega⟩, z16 (fun _ => rfl) _⟩ | (unfold z38; omega) | (simp only [z52] at *; first | omega | (unfold inI; omega) | (unfold z38; omega))) | ((first | (with_reducible apply z13; omega) | (with_reducible apply z43; omega) | (apply z13; omega)); intro _) | (apply z48; omega) | apply z50 | (apply z68; omega; intro _) | ((first | apply z73 | apply z59 | apply z72 | apply z85 | apply z10 | apply z21 | apply z39 | apply z55) <;> intro _) | (apply z11 (k1); rfl; rfl)) <;> conv => whnf)
    all_goals first | exact z24 rfl rfl | (exfalso; simp_all; done) | skip
set_option maxHeartbeats 1600000 in
theorem specPath_ok (g : Graph) (hg : g.mx) (p : List Int) (hp : p.length ≤ maxLen) : CallsA Tryz.prog 175 [.agg g.cs, ints p] [] (.bool (pathB g p)) [] := by
  have k1 := z121 g hg
  unfold maxLen at hp
  by_cases hgb : z125 g = true
  · have hG := (z90 g).1 hgb
    have hgl := hG.2.1
    have h60 := hG.1.2
    have hrl := hg.2.2
    rw [hgb] at k1
    by_cases h0 : p.length = 0
    · have e : pathB g p = false := by unfold pathB; rw [decide_eq_false (show ¬ 1 ≤ p.length by omega)]; simp
      rw [e]
      refine z14 z26 Tryz.func175 rfl rfl 56 Tryz.ntmps175 (by simp) ?_
      repeat' ((first | (apply AWP.go ok; rfl) | (apply z30; kernel_rfl) | (apply And.intro; first | omega | (unfold inI; omega) | (dsimp only; omega) | ((try dsimp only); simp only [List.length_map, List.length_take, List.length_append, List.length_replicate, List.length_cons, List.length_nil]; omega) | exact z16 (fun _ => rfl) | exact ⟨rfl, z18 rfl z23⟩ | exact ⟨rfl, z16 (fun _ => rfl) _⟩ | exact ⟨⟨rfl, by omega⟩, z16 (fun _ => rfl) _⟩ | (unfold z38; omega) | (simp only [z52] at *; first | omega | (unfold inI; omega) | (unfold z38; omega))) | ((first | (with_reducible apply z13; omega) | (with_reducible apply z43; omega) | (apply z13; omega)); intro _) | (apply z48; omega) | apply z50 | (apply z68; omega; intro _) | ((first | apply z73 | apply z59 | apply z72 | apply z85 | apply z10 | apply z21 | apply z39 | apply z55) <;> intro _) | (apply z11 (k1); rfl; rfl)) <;> conv => whnf)
      all_goals first | (exfalso; omega) | exact z24 rfl rfl | (exfalso; simp_all; done) | skip
    refine z14 z26 Tryz.func175 rfl rfl 56 Tryz.ntmps175 (by simp) ?_
    repeat' ((first | (apply AWP.go ok; rfl) | (apply z30; kernel_rfl) | (apply And.intro; first | omega | (unfold inI; omega) | (dsimp only; omega) | ((try dsimp only); simp only [List.length_map, List.length_take, List.length_append, List.length_replicate, List.length_cons, List.length_nil]; omega) | exact z16 (fun _ => rfl) | exact ⟨rfl, z18 rfl z23⟩ | exact ⟨rfl, z16 (fun _ => rfl) _⟩ | exact ⟨⟨rfl, by omega⟩, z16 (fun _ => rfl) _⟩ | (unfold z38; omega) | (simp only [z52] at *; first | omega | (unfold inI; omega) | (unfold z38; omega))) | ((first | (with_reducible apply z13; omega) | (with_reducible apply z43; omega) | (apply z13; omega)); intro _) | (apply z48; omega) | apply z50 | (apply z68; omega; intro _) | ((first | apply z73 | apply z59 | apply z72 | apply z85 | apply z10 | apply z21 | apply z39 | apply z55) <;> intro _) | (apply z11 (k1); rfl; rfl)) <;> conv => whnf)
    all_goals first | (exfalso; omega) | (exfalso; simp_all; done) | skip
    refine z100 (fun i : Nat => ([(1, ints p), (2, .ptr 0 none 0), (5, .int i)], [.cells 2 [[lst 2 State.cs g.st, lst 1 encL g.nx]]])) (fun i => i ≤ p.length ∧ ∀ j, j < i → stepP g p j = true) (fun i => p.length - i) 0 ⟨by omega, fun j hj => by omega⟩ ⟨[0], rfl, by decide, rfl, ⟨⟨rfl, rfl⟩, ⟨rfl, rfl⟩, ⟨rfl, rfl⟩, trivial⟩, ⟨z42 rfl rfl, trivial⟩⟩ ?_
    rintro i ⟨hi, hs⟩
    by_cases hil : i < p.length
    · have g0 : (p.map enI)[i]? = some (enI p[i]) := by rw [List.getElem?_map, List.getElem?_eq_getElem hil]; rfl
      cases i with
      | zero =>
        have hst := stepP_0 g p hil
        generalize p[0] = x at *
        repeat' ((first | (apply AWP.go ok; rfl) | (apply z30; kernel_rfl) | (refine z32 (i := 0) rfl g0 ?_) | (apply And.intro; first | omega | (unfold inI; omega) | (dsimp only; omega) | ((try dsimp only); simp only [List.length_map, List.length_take, List.length_append, List.length_replicate, List.length_cons, List.length_nil]; omega) | exact z16 (fun _ => rfl) | exact ⟨rfl, z18 rfl z23⟩ | exact ⟨rfl, z16 (fun _ => rfl) _⟩ | exact ⟨⟨rfl, by omega⟩, z16 (fun _ => rfl) _⟩ | (unfold z38; omega) | (simp only [z52] at *; first | omega | (unfold inI; omega) | (unfold z38; omega))) | ((first | (with_reducible apply z13; omega) | (with_reducible apply z43; omega) | (apply z13; omega)); intro _) | (apply z48; omega) | apply z50 | (apply z68; omega; intro _) | ((first | apply z73 | apply z59 | apply z72 | apply z85 | apply z10 | apply z21 | apply z39 | apply z55) <;> intro _)) <;> conv => whnf)
        all_goals (try simp only [z52, btw_no] at *)
        all_goals first
          | (exfalso; omega)
          | exact z24 rfl (pathB_false hil (by rw [hst]; grind))
          | exact z84 1 [0] ⟨by omega, upto_succ hs (by rw [hst]; grind)⟩ (by omega) ⟨rfl, by decide, rfl, ⟨⟨rfl, rfl⟩, ⟨rfl, rfl⟩, ⟨rfl, rfl⟩, trivial⟩, ⟨z42 rfl rfl, trivial⟩⟩
      | succ j =>
        have hy := stepP_in (show j < p.length by omega) (hs j (by omega))
        have hst := stepP_s g p j hil (by omega)
        have g1 : (p.map enI)[j]? = some (enI p[j]) := by rw [List.getElem?_map, List.getElem?_eq_getElem (by omega)]; rfl
        have c2 := l4In_ok g.nx[p[j].toNat] (hrl _ (List.getElem_mem _)) p[j + 1]
        have g2 : (g.nx.map encL)[p[j].toNat]? = some (encL (g.nx[p[j].toNat]'(by omega))) := by rw [List.getElem?_map, List.getElem?_eq_getElem (by omega)]; rfl
        generalize g.nx[p[j].toNat] = row at *
        generalize p[j] = y at *
        generalize p[j + 1] = x at *
        repeat' ((first | (apply AWP.go ok; rfl) | (apply z30; kernel_rfl) | (refine z32 (i := j + 1) (by first | rfl | omega) g0 ?_) | (refine z32 (i := j) (by omega) g1 ?_) | (refine z32 (i := y.toNat) rfl g2 ?_) | (apply And.intro; first | omega | (unfold inI; omega) | (dsimp only; omega) | ((try dsimp only); simp only [List.length_map, List.length_take, List.length_append, List.length_replicate, List.length_cons, List.length_nil]; omega) | exact z16 (fun _ => rfl) | exact ⟨rfl, z18 rfl z23⟩ | exact ⟨rfl, z16 (fun _ => rfl) _⟩ | exact ⟨⟨rfl, by omega⟩, z16 (fun _ => rfl) _⟩ | (unfold z38; omega) | (simp only [z52] at *; first | omega | (unfold inI; omega) | (unfold z38; omega))) | ((first | (with_reducible apply z13; omega) | (with_reducible apply z43; omega) | (apply z13; omega)); intro _) | (apply z48; omega) | apply z50 | (apply z68; omega; intro _) | ((first | apply z73 | apply z59 | apply z72 | apply z85 | apply z10 | apply z21 | apply z39 | apply z55) <;> intro _) | (apply z11 (c2); rfl; rfl)) <;> conv => whnf)
        all_goals (try simp only [z52, btw_no] at *)
        all_goals first
          | (exfalso; omega)
          | exact z24 rfl (pathB_false hil (by rw [hst]; grind))
          | exact z84 (j + 2) [0] ⟨by omega, upto_succ hs (by rw [hst]; grind)⟩ (by omega) ⟨rfl, by decide, rfl, ⟨⟨rfl, rfl⟩, ⟨rfl, rfl⟩, ⟨rfl, rfl⟩, trivial⟩, ⟨z42 rfl rfl, trivial⟩⟩
          | skip
    · repeat' ((first | (apply AWP.go ok; rfl) | (apply z30; kernel_rfl) | (apply And.intro; first | omega | (unfold inI; omega) | (dsimp only; omega) | ((try dsimp only); simp only [List.length_map, List.length_take, List.length_append, List.length_replicate, List.length_cons, List.length_nil]; omega) | exact z16 (fun _ => rfl) | exact ⟨rfl, z18 rfl z23⟩ | exact ⟨rfl, z16 (fun _ => rfl) _⟩ | exact ⟨⟨rfl, by omega⟩, z16 (fun _ => rfl) _⟩ | (unfold z38; omega) | (simp only [z52] at *; first | omega | (unfold inI; omega) | (unfold z38; omega))) | ((first | (with_reducible apply z13; omega) | (with_reducible apply z43; omega) | (apply z13; omega)); intro _) | (apply z48; omega) | apply z50 | (apply z68; omega; intro _) | ((first | apply z73 | apply z59 | apply z72 | apply z85 | apply z10 | apply z21 | apply z39 | apply z55) <;> intro _)) <;> conv => whnf)
      all_goals first | (exfalso; omega) | skip
      exact z24 rfl (pathB_true hgb (by omega) fun j hj => hs j (by omega))
  · have hgb := (Bool.not_eq_true _).mp hgb
    have e : pathB g p = false := by unfold pathB; rw [hgb]; rfl
    rw [hgb] at k1
    rw [e]
    refine z14 z26 Tryz.func175 rfl rfl 56 Tryz.ntmps175 (by simp) ?_
    repeat' ((first | (apply AWP.go ok; rfl) | (apply z30; kernel_rfl) | (apply And.intro; first | omega | (unfold inI; omega) | (dsimp only; omega) | ((try dsimp only); simp only [List.length_map, List.length_take, List.length_append, List.length_replicate, List.length_cons, List.length_nil]; omega) | exact z16 (fun _ => rfl) | exact ⟨rfl, z18 rfl z23⟩ | exact ⟨rfl, z16 (fun _ => rfl) _⟩ | exact ⟨⟨rfl, by omega⟩, z16 (fun _ => rfl) _⟩ | (unfold z38; omega) | (simp only [z52] at *; first | omega | (unfold inI; omega) | (unfold z38; omega))) | ((first | (with_reducible apply z13; omega) | (with_reducible apply z43; omega) | (apply z13; omega)); intro _) | (apply z48; omega) | apply z50 | (apply z68; omega; intro _) | ((first | apply z73 | apply z59 | apply z72 | apply z85 | apply z10 | apply z21 | apply z39 | apply z55) <;> intro _) | (apply z11 (k1); rfl; rfl)) <;> conv => whnf)
    all_goals first | exact z24 rfl rfl | (exfalso; simp_all; done) | skip
end Go.Proofs.YtknlmbniicacmaaGreat

namespace Go.Proofs.YtknlmbniicacmaaGreat
open Go.Gl
attribute [local irreducible] z35 AWP z65 z78 z74

structure Trace where
  stem : List Int
  loop : List Int
deriving DecidableEq
def Trace.cs (t : Trace) : List AC := [ints t.stem, ints t.loop]
def Trace.all (t : Trace) : List Int := t.stem ++ t.loop
noncomputable def trB (g : Graph) (t : Trace) : Bool := decide (1 ≤ t.loop.length ∧ t.stem.length + t.loop.length ≤ 8000) && (pathB g t.all && (decide (t.all.getD 0 0 = 0) && decide (t.loop.getD 0 0 ∈ g.nx.getD ((t.loop.getD (t.loop.length - 1) 0).toNat) [])))

theorem path_step {g : Graph} {p : List Int} (h : pathB g p = true) (i : Nat) (hi : i < p.length) : 0 ≤ p[i] ∧ p[i] < g.st.length := by
  unfold pathB at h
  rw [Bool.and_eq_true, Bool.and_eq_true, List.all_eq_true] at h
  exact stepP_in hi (h.2.2 i (List.mem_range.2 hi))
theorem path_graph {g : Graph} {p : List Int} (h : pathB g p = true) : z125 g = true := by
  unfold pathB at h
  exact (Bool.and_eq_true_iff.1 h).1
theorem map_at {l : List Int} {i : Nat} (h : i < l.length) : (l.map enI)[i]? = some (enI l[i]) := by rw [List.getElem?_map, List.getElem?_eq_getElem h]; rfl
theorem row_at {l : List (List Int)} {i : Nat} (h : i < l.length) : (l.map encL)[i]? = some (encL l[i]) := by rw [List.getElem?_map, List.getElem?_eq_getElem h]; rfl

theorem l8All_new (t : Trace) (h1 : t.stem.length ≤ 1048576) (h2 : t.loop.length ≤ 1048576) : CallsA Tryz.prog 174 [.agg t.cs] [] (.sref 0 0 (t.stem.length + t.loop.length)) [.cells 1 (t.all.map enI)] := by
  refine z14 z26 Tryz.func174 rfl rfl 10 Tryz.ntmps174 (by simp) ?_
  repeat' ((first | (apply AWP.go ok; rfl) | (apply z30; kernel_rfl) | (apply And.intro; first | omega | (unfold inI; omega) | (dsimp only; omega) | ((try dsimp only); simp only [List.length_map, List.length_take, List.length_append, List.length_replicate, List.length_cons, List.length_nil]; omega) | exact z16 (fun _ => rfl) | exact ⟨rfl, z18 rfl z23⟩ | exact ⟨rfl, z16 (fun _ => rfl) _⟩ | exact ⟨⟨rfl, by omega⟩, z16 (fun _ => rfl) _⟩ | (unfold z38; omega) | (simp only [z52] at *; first | omega | (unfold inI; omega) | (unfold z38; omega))) | ((first | (with_reducible apply z13; omega) | (with_reducible apply z43; omega) | (apply z13; omega)); intro _) | (apply z48; omega) | apply z50 | (apply z68; omega; intro _) | ((first | apply z73 | apply z59 | apply z72 | apply z85 | apply z10 | apply z21 | apply z39 | apply z55) <;> intro _)) <;> conv => whnf)
  all_goals exact z96 [3] (by decide) rfl (by first | rfl | exact congrArg (AC.sref 3 0) (by omega)) (by first | rfl | exact congrArg (AC.sref 3 0) (show 0 + t.stem.length + t.loop.length = t.stem.length + t.loop.length by omega)) ⟨z41 (z64 (by unfold Trace.all; rw [List.take_of_length_le (by simp), List.map_append]; simp)) (z12 fun _ => rfl), trivial⟩

structure TrF (g : Graph) (t : Trace) (x y p0 : Int) (row : List Int) : Prop where
  hx : 0 ≤ x ∧ x < g.st.length
  gp : (t.all.map enI)[0]? = some (enI p0)
  ga : (t.all.map enI)[t.all.length - 1]? = some (enI x)
  gx : (t.loop.map enI)[t.loop.length - 1]? = some (enI x)
  gl : (t.loop.map enI)[0]? = some (enI y)
  gr : (g.nx.map encL)[x.toNat]? = some (encL row)
  rm : row.length ≤ maxLen
  e : trB g t = (decide (p0 = 0) && decide (y ∈ row))
theorem trF {g : Graph} (hg : g.mx) {t : Trace} (hs : 1 ≤ t.loop.length ∧ t.stem.length + t.loop.length ≤ 8000) (hb : pathB g t.all = true) : ∃ x y p0 row, TrF g t x y p0 row := by
  have hG := (z90 g).1 (path_graph hb)
  have hal : t.all.length = t.stem.length + t.loop.length := by unfold Trace.all; simp
  have hl : t.loop.length - 1 < t.loop.length := by omega
  have ha : t.all.length - 1 < t.all.length := by omega
  have h0 : 0 < t.loop.length := by omega
  have hp := path_step hb _ ha
  have ex : t.all[t.all.length - 1] = t.loop[t.loop.length - 1] := by
    have : t.all[t.all.length - 1]? = t.loop[t.loop.length - 1]? := by
      rw [hal]
      unfold Trace.all
      rw [List.getElem?_append_right (by omega)]
      congr 1; omega
    rw [List.getElem?_eq_getElem ha, List.getElem?_eq_getElem hl] at this
    exact Option.some.inj this
  have hxn : (t.loop[t.loop.length - 1]).toNat < g.nx.length := by
    rw [ex] at hp; have := hG.2.1; omega
  refine ⟨t.loop[t.loop.length - 1], t.loop[0], t.all[0], g.nx[(t.loop[t.loop.length - 1]).toNat], ?_⟩
  refine ⟨by rw [← ex]; exact hp, map_at (by omega), by rw [← ex]; exact map_at ha, map_at hl, map_at h0, row_at hxn, hg.2.2 _ (List.getElem_mem _), ?_⟩
  unfold trB
  rw [decide_eq_true hs, hb, z20 (show 0 < t.all.length by omega), z20 h0, z20 hl, z20 hxn]; rfl

set_option maxHeartbeats 1600000 in
theorem implTrace_ok (g : Graph) (hg : g.mx) (t : Trace) (h1 : t.stem.length ≤ 1048576) (h2 : t.loop.length ≤ 1048576) : CallsA Tryz.prog 27 [.agg g.cs, .agg t.cs] [] (.bool (trB g t)) [] := by
  have hal : t.all.length = t.stem.length + t.loop.length := by unfold Trace.all; simp
  by_cases hs : 1 ≤ t.loop.length ∧ t.stem.length + t.loop.length ≤ 8000
  · have kn := concat_new t.stem t.loop (by omega) (by omega)
    have k1 := implPath_ok g hg t.all (by unfold maxLen; omega)
    by_cases hb : pathB g t.all = true
    · obtain ⟨x, y, p0, row, F⟩ := trF hg hs hb
      have c2 := containsInt_ok row F.rm y
      have hx := F.hx
      have gp := F.gp
      have gx := F.gx
      have gl := F.gl
      have gr := F.gr
      rw [hb] at k1
      rw [F.e]
      unfold Trace.all at *
      refine z14 z26 Tryz.func27 rfl rfl 52 Tryz.ntmps27 (by simp) ?_
      repeat' ((first | ((fail_if_success apply stopAt 5); (fail_if_success apply z139 5); apply AWP.go ok; rfl) | (apply z30; kernel_rfl) | (apply And.intro; first | omega | (unfold inI; omega) | (dsimp only; omega) | ((try dsimp only); simp only [List.length_map, List.length_take, List.length_append, List.length_replicate, List.length_cons, List.length_nil]; omega) | exact z16 (fun _ => rfl) | exact ⟨rfl, z18 rfl z23⟩ | exact ⟨rfl, z16 (fun _ => rfl) _⟩ | exact ⟨⟨rfl, by omega⟩, z16 (fun _ => rfl) _⟩ | (unfold z38; omega) | (simp only [z52] at *; first | omega | (unfold inI; omega) | (unfold z38; omega))) | ((first | (with_reducible apply z13; omega) | (with_reducible apply z43; omega) | (apply z13; omega)); intro _) | (apply z48; omega) | apply z50 | (apply z68; omega; intro _) | ((first | apply z73 | apply z59 | apply z72 | apply z85 | apply z10 | apply z21 | apply z39 | apply z55) <;> intro _) | ((first | (apply z8 [] [2] [3] (kn); (focus (exact z54 (bor_list rfl rfl rfl rfl rfl) z94)); (focus ((repeat' first | exact z6 | apply z7) <;> first | rfl | (refine z95 rfl ?_; (first | exact z12 fun _ => rfl | exact z49 | exact z31 rfl | (apply z58 <;> exact z12 fun _ => rfl) | assumption)))))); rfl; rfl; rfl; rfl; rfl; (focus ((repeat' first | exact z17 | apply z15) <;> first | exact ren_dead | exact z25 rfl rfl | (refine z29 ?_; (first | exact z12 fun _ => rfl | exact z49 | exact z31 rfl | (apply z58 <;> exact z12 fun _ => rfl) | assumption)))); (first | exact .inl rfl | (refine .inr ⟨rfl, ?_⟩; repeat' first | exact True.intro | apply And.intro | exact rfl | exact z98 (fun _ => rfl) _)))) <;> conv => whnf)
      all_goals first | (exfalso; omega) | skip
      refine AWP.reach (SealL.reach (π := [0, 1]) (Bn := [3]) (env := [(2, .ptr 0 none 0), (3, .ptr 1 none 0), (5, .int t.loop.length), (6, ints (t.stem ++ t.loop))]) (objs := [.cells 2 [[lst 2 State.cs g.st, lst 1 encL g.nx]], .cells 2 [[ints t.stem, ints t.loop]]]) ⟨rfl, rfl, by simp, rfl, fun o ho => by simp at ho; rcases ho with rfl | rfl <;> rfl, ⟨rfl, rfl, rfl, bor_intsN rfl rfl rfl (by simp), trivial⟩, rfl⟩) ?_
      conv => whnf
      repeat' ((first | (apply AWP.go ok; rfl) | (apply z30; kernel_rfl) | (refine z32 (i := 0) rfl gp ?_) | (refine z32 (i := 0) rfl gl ?_) | (refine z32 (i := t.loop.length - 1) (by omega) gx ?_) | (refine z32 (i := x.toNat) rfl gr ?_) | (apply And.intro; first | omega | (unfold inI; omega) | (dsimp only; omega) | ((try dsimp only); simp only [List.length_map, List.length_take, List.length_append, List.length_replicate, List.length_cons, List.length_nil]; omega) | exact z16 (fun _ => rfl) | exact ⟨rfl, z18 rfl z23⟩ | exact ⟨rfl, z16 (fun _ => rfl) _⟩ | exact ⟨⟨rfl, by omega⟩, z16 (fun _ => rfl) _⟩ | (unfold z38; omega) | (simp only [z52] at *; first | omega | (unfold inI; omega) | (unfold z38; omega))) | ((first | (with_reducible apply z13; omega) | (with_reducible apply z43; omega) | (apply z13; omega)); intro _) | (apply z48; omega) | apply z50 | (apply z68; omega; intro _) | ((first | apply z73 | apply z59 | apply z72 | apply z85 | apply z10 | apply z21 | apply z39 | apply z55) <;> intro _) | (apply z11 (k1); rfl; rfl) | (apply z11 (c2); rfl; rfl)) <;> conv => whnf)
      all_goals first | (exfalso; omega) | exact z24 rfl (by grind) | (exfalso; simp_all; done) | skip
    · have e : trB g t = false := by unfold trB; rw [(Bool.not_eq_true _).mp hb]; simp
      rw [(Bool.not_eq_true _).mp hb] at k1
      rw [e]
      unfold Trace.all at *
      refine z14 z26 Tryz.func27 rfl rfl 52 Tryz.ntmps27 (by simp) ?_
      repeat' ((first | ((fail_if_success apply stopAt 5); (fail_if_success apply z139 5); apply AWP.go ok; rfl) | (apply z30; kernel_rfl) | (apply And.intro; first | omega | (unfold inI; omega) | (dsimp only; omega) | ((try dsimp only); simp only [List.length_map, List.length_take, List.length_append, List.length_replicate, List.length_cons, List.length_nil]; omega) | exact z16 (fun _ => rfl) | exact ⟨rfl, z18 rfl z23⟩ | exact ⟨rfl, z16 (fun _ => rfl) _⟩ | exact ⟨⟨rfl, by omega⟩, z16 (fun _ => rfl) _⟩ | (unfold z38; omega) | (simp only [z52] at *; first | omega | (unfold inI; omega) | (unfold z38; omega))) | ((first | (with_reducible apply z13; omega) | (with_reducible apply z43; omega) | (apply z13; omega)); intro _) | (apply z48; omega) | apply z50 | (apply z68; omega; intro _) | ((first | apply z73 | apply z59 | apply z72 | apply z85 | apply z10 | apply z21 | apply z39 | apply z55) <;> intro _) | ((first | (apply z8 [] [2] [3] (kn); (focus (exact z54 (bor_list rfl rfl rfl rfl rfl) z94)); (focus ((repeat' first | exact z6 | apply z7) <;> first | rfl | (refine z95 rfl ?_; (first | exact z12 fun _ => rfl | exact z49 | exact z31 rfl | (apply z58 <;> exact z12 fun _ => rfl) | assumption)))))); rfl; rfl; rfl; rfl; rfl; (focus ((repeat' first | exact z17 | apply z15) <;> first | exact ren_dead | exact z25 rfl rfl | (refine z29 ?_; (first | exact z12 fun _ => rfl | exact z49 | exact z31 rfl | (apply z58 <;> exact z12 fun _ => rfl) | assumption)))); (first | exact .inl rfl | (refine .inr ⟨rfl, ?_⟩; repeat' first | exact True.intro | apply And.intro | exact rfl | exact z98 (fun _ => rfl) _)))) <;> conv => whnf)
      all_goals first | (exfalso; omega) | skip
      refine AWP.reach (SealL.reach (π := [0, 1]) (Bn := [3]) (env := [(2, .ptr 0 none 0), (3, .ptr 1 none 0), (5, .int t.loop.length), (6, ints (t.stem ++ t.loop))]) (objs := [.cells 2 [[lst 2 State.cs g.st, lst 1 encL g.nx]], .cells 2 [[ints t.stem, ints t.loop]]]) ⟨rfl, rfl, by simp, rfl, fun o ho => by simp at ho; rcases ho with rfl | rfl <;> rfl, ⟨rfl, rfl, rfl, bor_intsN rfl rfl rfl (by simp), trivial⟩, rfl⟩) ?_
      conv => whnf
      repeat' ((first | (apply AWP.go ok; rfl) | (apply z30; kernel_rfl) | (apply And.intro; first | omega | (unfold inI; omega) | (dsimp only; omega) | ((try dsimp only); simp only [List.length_map, List.length_take, List.length_append, List.length_replicate, List.length_cons, List.length_nil]; omega) | exact z16 (fun _ => rfl) | exact ⟨rfl, z18 rfl z23⟩ | exact ⟨rfl, z16 (fun _ => rfl) _⟩ | exact ⟨⟨rfl, by omega⟩, z16 (fun _ => rfl) _⟩ | (unfold z38; omega) | (simp only [z52] at *; first | omega | (unfold inI; omega) | (unfold z38; omega))) | ((first | (with_reducible apply z13; omega) | (with_reducible apply z43; omega) | (apply z13; omega)); intro _) | (apply z48; omega) | apply z50 | (apply z68; omega; intro _) | ((first | apply z73 | apply z59 | apply z72 | apply z85 | apply z10 | apply z21 | apply z39 | apply z55) <;> intro _) | (apply z11 (k1); rfl; rfl)) <;> conv => whnf)
      all_goals first | (exfalso; omega) | exact z24 rfl rfl | (exfalso; simp_all; done) | skip
  · have e : trB g t = false := by unfold trB; rw [decide_eq_false hs]; simp
    rw [e]
    refine z14 z26 Tryz.func27 rfl rfl 52 Tryz.ntmps27 (by simp) ?_
    repeat' ((first | (apply AWP.go ok; rfl) | (apply z30; kernel_rfl) | (apply And.intro; first | omega | (unfold inI; omega) | (dsimp only; omega) | ((try dsimp only); simp only [List.length_map, List.length_take, List.length_append, List.length_replicate, List.length_cons, List.length_nil]; omega) | exact z16 (fun _ => rfl) | exact ⟨rfl, z18 rfl z23⟩ | exact ⟨rfl, z16 (fun _ => rfl) _⟩ | exact ⟨⟨rfl, by omega⟩, z16 (fun _ => rfl) _⟩ | (unfold z38; omega) | (simp only [z52] at *; first | omega | (unfold inI; omega) | (unfold z38; omega))) | ((first | (with_reducible apply z13; omega) | (with_reducible apply z43; omega) | (apply z13; omega)); intro _) | (apply z48; omega) | apply z50 | (apply z68; omega; intro _) | ((first | apply z73 | apply z59 | apply z72 | apply z85 | apply z10 | apply z21 | apply z39 | apply z55) <;> intro _)) <;> conv => whnf)
    all_goals first | (exfalso; omega) | exact z24 rfl rfl | (exfalso; simp_all; done) | skip

set_option maxHeartbeats 1600000 in
theorem specTrace_ok (g : Graph) (hg : g.mx) (t : Trace) (h1 : t.stem.length ≤ 1048576) (h2 : t.loop.length ≤ 1048576) : CallsA Tryz.prog 92 [.agg g.cs, .agg t.cs] [] (.bool (trB g t)) [] := by
  have hal : t.all.length = t.stem.length + t.loop.length := by unfold Trace.all; simp
  have kc := keepI (l8All_new t h1 h2) hal
  have k1 := specPath_ok g hg t.all (by unfold maxLen; omega)
  by_cases hs : 1 ≤ t.loop.length ∧ t.stem.length + t.loop.length ≤ 8000
  · by_cases hb : pathB g t.all = true
    · obtain ⟨x, y, p0, row, F⟩ := trF hg hs hb
      have c2 := l4In_ok row F.rm y
      have hx := F.hx
      have gp := F.gp
      have ga := F.ga
      have gl := F.gl
      have gr := F.gr
      rw [hb] at k1
      rw [F.e]
      generalize t.all = p at *
      refine z14 z26 Tryz.func92 rfl rfl 44 Tryz.ntmps92 (by simp) ?_
      repeat' ((first | (apply AWP.go ok; rfl) | (apply z30; kernel_rfl) | (refine z32 (i := 0) rfl gp ?_) | (refine z32 (i := 0) rfl gl ?_) | (refine z32 (i := p.length - 1) (by omega) ga ?_) | (refine z32 (i := x.toNat) rfl gr ?_) | (apply And.intro; first | omega | (unfold inI; omega) | (dsimp only; omega) | ((try dsimp only); simp only [List.length_map, List.length_take, List.length_append, List.length_replicate, List.length_cons, List.length_nil]; omega) | exact z16 (fun _ => rfl) | exact ⟨rfl, z18 rfl z23⟩ | exact ⟨rfl, z16 (fun _ => rfl) _⟩ | exact ⟨⟨rfl, by omega⟩, z16 (fun _ => rfl) _⟩ | (unfold z38; omega) | (simp only [z52] at *; first | omega | (unfold inI; omega) | (unfold z38; omega))) | ((first | (with_reducible apply z13; omega) | (with_reducible apply z43; omega) | (apply z13; omega)); intro _) | (apply z48; omega) | apply z50 | (apply z68; omega; intro _) | ((first | apply z73 | apply z59 | apply z72 | apply z85 | apply z10 | apply z21 | apply z39 | apply z55) <;> intro _) | (apply z11 (kc); rfl; rfl) | (apply z11 (k1); rfl; rfl) | (apply z11 (c2); rfl; rfl)) <;> conv => whnf)
      all_goals first | (exfalso; omega) | exact z24 rfl (by grind) | (exfalso; simp_all; done) | skip
    · have e : trB g t = false := by unfold trB; rw [(Bool.not_eq_true _).mp hb]; simp
      have gp := map_at (l := t.all) (i := 0) (by omega)
      rw [(Bool.not_eq_true _).mp hb] at k1
      rw [e]
      generalize t.all[0]'(by omega) = p0 at *
      generalize t.all = p at *
      refine z14 z26 Tryz.func92 rfl rfl 44 Tryz.ntmps92 (by simp) ?_
      repeat' ((first | (apply AWP.go ok; rfl) | (apply z30; kernel_rfl) | (refine z32 (i := 0) rfl gp ?_) | (apply And.intro; first | omega | (unfold inI; omega) | (dsimp only; omega) | ((try dsimp only); simp only [List.length_map, List.length_take, List.length_append, List.length_replicate, List.length_cons, List.length_nil]; omega) | exact z16 (fun _ => rfl) | exact ⟨rfl, z18 rfl z23⟩ | exact ⟨rfl, z16 (fun _ => rfl) _⟩ | exact ⟨⟨rfl, by omega⟩, z16 (fun _ => rfl) _⟩ | (unfold z38; omega) | (simp only [z52] at *; first | omega | (unfold inI; omega) | (unfold z38; omega))) | ((first | (with_reducible apply z13; omega) | (with_reducible apply z43; omega) | (apply z13; omega)); intro _) | (apply z48; omega) | apply z50 | (apply z68; omega; intro _) | ((first | apply z73 | apply z59 | apply z72 | apply z85 | apply z10 | apply z21 | apply z39 | apply z55) <;> intro _) | (apply z11 (kc); rfl; rfl) | (apply z11 (k1); rfl; rfl)) <;> conv => whnf)
      all_goals first | (exfalso; omega) | exact z24 rfl rfl | (exfalso; simp_all; done) | skip
  · have e : trB g t = false := by unfold trB; rw [decide_eq_false hs]; simp
    rw [e]
    generalize t.all = p at *
    refine z14 z26 Tryz.func92 rfl rfl 44 Tryz.ntmps92 (by simp) ?_
    repeat' ((first | (apply AWP.go ok; rfl) | (apply z30; kernel_rfl) | (apply And.intro; first | omega | (unfold inI; omega) | (dsimp only; omega) | ((try dsimp only); simp only [List.length_map, List.length_take, List.length_append, List.length_replicate, List.length_cons, List.length_nil]; omega) | exact z16 (fun _ => rfl) | exact ⟨rfl, z18 rfl z23⟩ | exact ⟨rfl, z16 (fun _ => rfl) _⟩ | exact ⟨⟨rfl, by omega⟩, z16 (fun _ => rfl) _⟩ | (unfold z38; omega) | (simp only [z52] at *; first | omega | (unfold inI; omega) | (unfold z38; omega))) | ((first | (with_reducible apply z13; omega) | (with_reducible apply z43; omega) | (apply z13; omega)); intro _) | (apply z48; omega) | apply z50 | (apply z68; omega; intro _) | ((first | apply z73 | apply z59 | apply z72 | apply z85 | apply z10 | apply z21 | apply z39 | apply z55) <;> intro _) | (apply z11 (kc); rfl; rfl)) <;> conv => whnf)
    all_goals first | (exfalso; omega) | exact z24 rfl rfl | (exfalso; simp_all; done) | skip
end Go.Proofs.YtknlmbniicacmaaGreat

