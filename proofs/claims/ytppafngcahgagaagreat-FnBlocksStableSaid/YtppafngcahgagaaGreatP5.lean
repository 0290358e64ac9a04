/- A part of the proofs over this program: T130, T132, T50, T133. -/
import Derived.Test.YtppafngcahgagaaGreatG0
import Derived.Test.YtppafngcahgagaaGreatG1
import Derived.Test.YtppafngcahgagaaGreatG2
import Derived.Test.YtppafngcahgagaaGreatP0
import Derived.Test.YtppafngcahgagaaGreatP1
import Derived.Test.YtppafngcahgagaaGreatP2
import Derived.Test.YtppafngcahgagaaGreatP3
import Derived.Test.YtppafngcahgagaaGreatP4
set_option linter.all false
namespace Go.Proofs.YtppafngcahgagaaGreat
open Go.Gl
attribute [local irreducible] z34 AWP z50 z62 z56 RetS z79

theorem other_mod {a n r : Int} (h0 : 0 ≤ a) (h1 : a < n) (h2 : 0 ≤ r) (h3 : r < n - 1) : (a + 1 + r) % n ≠ a ∧ 0 ≤ (a + 1 + r) % n ∧ (a + 1 + r) % n < n := by
  have hn : 0 < n := by omega
  refine ⟨?_, Int.emod_nonneg _ (by omega), Int.emod_lt_of_pos _ hn⟩
  rcases Int.lt_or_le (a + 1 + r) n with h | h
  · rw [Int.emod_eq_of_lt (by omega) h]; omega
  · rw [show a + 1 + r = (a + 1 + r - n) + n by omega, Int.add_emod_right, Int.emod_eq_of_lt (by omega) (by omega)]; omega
def mrgL (bl : List Int) (a b : Int) : List Int := bl.map fun x => if x = b then a else x
theorem mrgL_len (bl : List Int) (a b : Int) : (mrgL bl a b).length = bl.length := by simp [mrgL]
theorem mrgL_at {bl : List Int} {a b : Int} {i : Nat} (h : i < bl.length) : (mrgL bl a b).getD i 0 = if bl.getD i 0 = b then a else bl.getD i 0 := by
  unfold mrgL; rw [z17 (by simpa using h), List.getElem_map, z17 h]
theorem mrgL_take {bl : List Int} {a b : Int} {i : Nat} (h : i < bl.length) : (mrgL bl a b).take (i + 1) = (mrgL bl a b).take i ++ [if bl.getD i 0 = b then a else bl.getD i 0] := by
  rw [List.take_succ_eq_append_getElem (by rw [mrgL_len]; exact h), ← z17 (d := 0), mrgL_at h]
def keyM (m : List Int) (i : Nat) : Int := m.getD i 0
theorem numK_none {K : Type} [DecidableEq K] {κ : Nat → K} {i : Nat} (h : ∀ j, j < i → κ j ≠ κ i) : numK κ (i + 1) = ((numK κ i).1 ++ [((numK κ i).2 : Int)], (numK κ i).2 + 1) := by
  have hf : (List.range i).find? (fun k => decide (κ k = κ i)) = none := find_none fun j hj => by
    rw [decide_eq_false_iff_not]; exact h j hj
  show numF _ (i + 1) = _
  rw [numF, hf]; rfl
theorem numK_some {K : Type} [DecidableEq K] {κ : Nat → K} {i j : Nat} (hj : j < i) (h : κ j = κ i) : numK κ (i + 1) = ((numK κ i).1 ++ [(numK κ i).1.getD j 0], (numK κ i).2) := by
  rcases find_dec (p := fun k => decide (κ k = κ i)) (i := i) with h0 | ⟨k, h1, h2, h3⟩
  · have := h0 j hj
    rw [decide_eq_false_iff_not] at this
    exact absurd h this
  · have hf := find_some (p := fun k => decide (κ k = κ i)) h1 h2 h3
    have e : numK κ (i + 1) = ((numK κ i).1 ++ [(numK κ i).1.getD k 0], (numK κ i).2) := by
      show numF _ (i + 1) = _
      rw [numF, hf]; rfl
    rw [e, (numK_getD κ h1 hj).2 ((of_decide_eq_true h2).trans h.symm)]
theorem numK_val {K : Type} [DecidableEq K] (κ : Nat → K) {i j : Nat} (h : j < i) : 0 ≤ (numK κ i).1.getD j 0 ∧ (numK κ i).1.getD j 0 < (numK κ i).2 := by
  have hl : j < (numK κ i).1.length := by rw [z117]; exact h
  rw [z17 hl]
  exact (numF_lt (fun i k => decide (κ k = κ i)) i).1 _ (List.getElem_mem hl)

set_option maxHeartbeats 3200000 in
theorem wpMerge_ok (bl : List Int) (hb : bl.length ≤ 1048576) (a b : Int) : CallsA Tryz.prog 37 [ints bl, .int a, .int b] [] (ints (numK (keyM (mrgL bl a b)) bl.length).1) [] := by
  refine z16 z20 Tryz.func37 rfl rfl 70 Tryz.ntmps37 (by simp) ?_
  repeat' (((apply AWP.go ok; rfl)) <;> conv => whnf)
  refine z104 (fun x : Nat × List Int => ([(0, ints bl), (1, .int a), (2, .int b), (7, .sref 0 0 x.2.length), (8, .int x.1)], [.cells 1 (x.2.map enI)])) (fun x => x.1 ≤ bl.length ∧ (mrgL bl a b).take x.1 = x.2) (fun x => bl.length - x.1) (0, []) ⟨Nat.zero_le _, rfl⟩ (by refine SealW.reach [0] [] rfl rfl rfl rfl ?_ ?_ <;> (repeat' (first | exact LocLe.refl _ | exact F2.nil | apply F2.cons | ((refine z25 rfl ?_ ?_); (focus ((repeat' (exact z43)); done))) | exact True.intro | apply And.intro))) ?_
  rintro ⟨i, M⟩ ⟨hi, hM⟩
  dsimp only at hi hM ⊢
  have hMl : M.length ≤ bl.length := by rw [← hM, List.length_take, mrgL_len]; omega
  by_cases hil : i < bl.length
  · have gb : (bl.map enI)[i]? = some (enI (bl.getD i 0)) := by rw [List.getElem?_map, List.getElem?_eq_getElem hil, z17 hil]; rfl
    have ht := mrgL_take (a := a) (b := b) hil
    rw [hM] at ht
    generalize bl.getD i 0 = x at *
    by_cases hx : x = b
    · rw [if_pos hx] at ht
      repeat' ((first | (apply AWP.go ok; rfl) | (refine z31 (i := i) rfl gb ?_) | (apply And.intro; first | omega | (unfold inI; omega) | ((try dsimp only); simp only [List.length_map, List.length_take, List.length_append, List.length_replicate, List.length_cons, List.length_nil]; omega) | exact ⟨rfl, z24 rfl z29⟩) | ((apply z11) <;> intro _)) <;> conv => whnf)
      all_goals first | (exfalso; omega) | skip
      all_goals refine z48 (i + 1, M ++ [a]) ⟨by show i + 1 ≤ _; omega, ht⟩ (by show bl.length - (i + 1) < bl.length - i; omega) (by refine SealW.reach [2] [] rfl rfl rfl rfl ?_ ?_ <;> (repeat' (first | exact LocLe.refl _ | exact F2.nil | apply F2.cons | (refine z95 ?_; ((simp; done))) | ((refine z35 rfl ?_ ?_); (focus ((repeat' (first | exact z12 (fun _ => rfl) | apply z26)); done))) | (refine z81 ?_ ?_; (focus (omega))) | exact True.intro | apply And.intro)))
    · rw [if_neg hx] at ht
      repeat' ((first | (apply AWP.go ok; rfl) | (refine z31 (i := i) rfl gb ?_) | (apply And.intro; first | omega | (unfold inI; omega) | ((try dsimp only); simp only [List.length_map, List.length_take, List.length_append, List.length_replicate, List.length_cons, List.length_nil]; omega) | exact ⟨rfl, z24 rfl z29⟩) | ((apply z11) <;> intro _)) <;> conv => whnf)
      all_goals first | (exfalso; omega) | skip
      all_goals refine z48 (i + 1, M ++ [x]) ⟨by show i + 1 ≤ _; omega, ht⟩ (by show bl.length - (i + 1) < bl.length - i; omega) (by refine SealW.reach [2] [] rfl rfl rfl rfl ?_ ?_ <;> (repeat' (first | exact LocLe.refl _ | exact F2.nil | apply F2.cons | (refine z95 ?_; ((simp; done))) | ((refine z35 rfl ?_ ?_); (focus ((repeat' (first | exact z12 (fun _ => rfl) | apply z26)); done))) | (refine z81 ?_ ?_; (focus (omega))) | exact True.intro | apply And.intro)))
  · obtain rfl : i = bl.length := by omega
    rw [← mrgL_len bl a b, List.take_length] at hM
    have hml := mrgL_len bl a b
    rw [hM] at hml ⊢
    clear hM
    rw [← hml]
    rw [← hml] at hb
    repeat' ((first | (apply AWP.go ok; rfl) | (apply And.intro; omega) | (((with_reducible apply z18; omega)); intro _) | ((apply z11) <;> intro _)) <;> conv => whnf)
    all_goals first | (exfalso; omega) | skip
    refine z104 (fun i : Nat => ([(7, .sref 0 0 M.length), (10, .sref 1 0 i), (11, .int (numK (keyM M) i).2), (12, .int i)], [.cells 1 (M.map enI), .cells 1 ((numK (keyM M) i).1.map enI)])) (fun i => i ≤ M.length) (fun i => M.length - i) 0 (by omega) (by refine SealW.reach [0, 1] [] rfl rfl rfl rfl ?_ ?_ <;> (repeat' (first | exact LocLe.refl _ | exact F2.nil | apply F2.cons | exact z27 _ | ((refine z25 rfl ?_ ?_); (focus ((repeat' (first | exact z43 | exact z12 (fun _ => rfl))); done))) | exact True.intro | apply And.intro))) ?_
    intro i hi
    have hnl := z117 (κ := keyM M) i
    have hc := numK_cntD (keyM M) i
    by_cases hil : i < M.length
    · have gi : (M.map enI)[i]? = some (enI (M.getD i 0)) := by rw [List.getElem?_map, List.getElem?_eq_getElem hil, z17 hil]; rfl
      have hsome := fun j => numK_some (κ := keyM M) (i := i) (j := j)
      have hnone := numK_none (κ := keyM M) (i := i)
      have hval := fun j => numK_val (keyM M) (i := i) (j := j)
      have hkey : ∀ j, keyM M j = M.getD j 0 := fun j => rfl
      have gk : ∀ k, k < i → ((numK (keyM M) i).1.map enI)[k]? = some (enI ((numK (keyM M) i).1.getD k 0)) := fun k hk => by rw [List.getElem?_map, List.getElem?_eq_getElem (by omega), z17 (by omega)]; rfl
      repeat' ((first | (apply AWP.go ok; rfl) | ((apply z11) <;> intro _)) <;> conv => whnf)
      all_goals first | (exfalso; omega) | skip
      refine z104 (fun x : Nat × Int => ([(7, .sref 0 0 M.length), (10, .sref 1 0 i), (11, .int (numK (keyM M) i).2), (12, .int i), (13, .int x.2), (14, .int x.1)], [.cells 1 (M.map enI), .cells 1 ((numK (keyM M) i).1.map enI)])) (fun x => x.1 ≤ i ∧ (((∀ j, j < x.1 → keyM M j ≠ keyM M i) ∧ x.2 = (numK (keyM M) i).2) ∨ ∃ j, j < x.1 ∧ keyM M j = keyM M i ∧ x.2 = (numK (keyM M) i).1.getD j 0)) (fun x => i - x.1) (0, (numK (keyM M) i).2) ⟨Nat.zero_le _, .inl ⟨fun j hj => absurd hj (by show ¬ j < 0; omega), rfl⟩⟩ (by refine SealW.reach [0, 1] [] rfl rfl rfl rfl ?_ ?_ <;> (repeat' (first | exact LocLe.refl _ | exact F2.nil | apply F2.cons | exact z27 _ | ((refine z25 rfl ?_ ?_); (focus ((repeat' ((exact z12 (fun _ => rfl)))); done))) | exact True.intro | apply And.intro))) ?_
      rintro ⟨k, x⟩ ⟨hk, hx⟩
      dsimp only at hk hx ⊢
      by_cases hki : k < i
      · have gm : (M.map enI)[k]? = some (enI (M.getD k 0)) := by rw [List.getElem?_map, List.getElem?_eq_getElem (by omega), z17 (by omega)]; rfl
        have gk := gk k hki
        have e1 := hkey i
        have e2 := hkey k
        have hN : ∀ y, ((∀ j, j < k → keyM M j ≠ keyM M i) ∧ x = y ∨ ∃ j, j < k ∧ keyM M j = keyM M i ∧ x = (numK (keyM M) i).1.getD j 0) → keyM M k ≠ keyM M i → ((∀ j, j < k + 1 → keyM M j ≠ keyM M i) ∧ x = y ∨ ∃ j, j < k + 1 ∧ keyM M j = keyM M i ∧ x = (numK (keyM M) i).1.getD j 0) := fun y h hne => by
          rcases h with ⟨h, e⟩ | ⟨j, h, e⟩
          · refine .inl ⟨fun j hj => ?_, e⟩
            rcases Nat.lt_or_ge j k with h2 | h2
            · exact h j h2
            · obtain rfl : j = k := by omega
              exact hne
          · exact .inr ⟨j, by omega, e⟩
        by_cases he : keyM M k = keyM M i
        · have hS : ∃ j, j < k + 1 ∧ keyM M j = keyM M i ∧ (numK (keyM M) i).1.getD k 0 = (numK (keyM M) i).1.getD j 0 := ⟨k, by omega, he, rfl⟩
          rw [e1, e2] at he
          clear hN hsome hnone hval
          generalize hz : (numK (keyM M) i).1.getD k 0 = z at *
          generalize M.getD i 0 = mi at *
          generalize M.getD k 0 = mk at *
          subst he
          repeat' ((first | (apply AWP.go ok; rfl) | (apply z39; kernel_rfl) | (refine z31 (i := k) rfl gm ?_) | (refine z31 (i := i) rfl gi ?_) | (refine z31 (i := k) rfl gk ?_) | (apply And.intro; first | omega | (unfold inI; omega)) | ((apply z11) <;> intro _)) <;> conv => whnf)
          all_goals first | (exfalso; omega) | skip
          all_goals refine z48 (k + 1, z) ⟨by show k + 1 ≤ _; omega, .inr hS⟩ (by show i - (k + 1) < i - k; omega) (by refine SealW.reach [0, 1] [] rfl rfl rfl rfl ?_ ?_ <;> (repeat' (first | exact LocLe.refl _ | exact F2.nil | apply F2.cons | exact z27 _ | ((refine z25 rfl ?_ ?_); (focus ((repeat' ((exact z12 (fun _ => rfl)))); done))) | exact True.intro | apply And.intro)))
        · have hS := hN _ hx he
          rw [e1, e2] at he
          clear hN hsome hnone hval
          generalize M.getD i 0 = mi at *
          generalize M.getD k 0 = mk at *
          repeat' ((first | (apply AWP.go ok; rfl) | (apply z39; kernel_rfl) | (refine z31 (i := k) rfl gm ?_) | (refine z31 (i := i) rfl gi ?_) | (refine z31 (i := k) rfl gk ?_) | (apply And.intro; first | omega | (unfold inI; omega)) | ((apply z11) <;> intro _)) <;> conv => whnf)
          all_goals first | (exfalso; omega) | skip
          all_goals refine z48 (k + 1, x) ⟨by show k + 1 ≤ _; omega, hS⟩ (by show i - (k + 1) < i - k; omega) (by refine SealW.reach [0, 1] [] rfl rfl rfl rfl ?_ ?_ <;> (repeat' (first | exact LocLe.refl _ | exact F2.nil | apply F2.cons | exact z27 _ | ((refine z25 rfl ?_ ?_); (focus ((repeat' ((exact z12 (fun _ => rfl)))); done))) | exact True.intro | apply And.intro)))
      · obtain rfl : k = i := by omega
        rcases hx with ⟨h1, h2⟩ | ⟨j, h1, h2, h3⟩
        · have en := hnone h1
          have en1 : (numK (keyM M) (k + 1)).1 = (numK (keyM M) k).1 ++ [x] := by rw [en, h2]
          have en2 : ((numK (keyM M) (k + 1)).2 : Int) = x + 1 := by rw [en, h2]; simp
          rw [← h2]
          generalize (numK (keyM M) k).1 = N at *
          repeat' ((first | (apply AWP.go ok; rfl) | (apply z39; kernel_rfl) | (apply And.intro; first | omega | (unfold inI; omega) | ((try dsimp only); simp only [List.length_map, List.length_take, List.length_append, List.length_replicate, List.length_cons, List.length_nil]; omega) | exact ⟨rfl, z24 rfl z29⟩) | (((apply z18; omega)); intro _) | ((apply z11) <;> intro _)) <;> conv => whnf)
          all_goals first | (exfalso; omega) | skip
          all_goals refine z48 (k + 1) (by omega) (by omega) (by refine SealW.reach [0, 3] [] rfl rfl rfl rfl ?_ ?_ <;> (repeat' (first | exact LocLe.refl _ | exact F2.nil | apply F2.cons | exact z27 _ | (refine int_le ?_; omega) | ((first | refine z35 rfl ?_ ?_ | refine z25 rfl ?_ ?_); (focus ((repeat' (first | exact z12 (fun _ => rfl) | apply z26)); done))) | exact True.intro | apply And.intro)) <;> ((rw [en1]; (repeat' (first | exact LocLe.refl _ | exact F2.nil | apply F2.cons | (refine z81 ?_ ?_; (focus (omega))))))))
        · have en := hsome j h1 h2
          have hv := hval j h1
          have en1 : (numK (keyM M) (k + 1)).1 = (numK (keyM M) k).1 ++ [x] := by rw [en, h3]
          have en2 : ((numK (keyM M) (k + 1)).2 : Int) = (numK (keyM M) k).2 := by rw [en]
          rw [← h3] at hv
          generalize (numK (keyM M) k).1 = N at *
          generalize ((numK (keyM M) k).2 : Int) = cn at *
          repeat' ((first | (apply AWP.go ok; rfl) | (apply z39; kernel_rfl) | (apply And.intro; first | omega | (unfold inI; omega) | ((try dsimp only); simp only [List.length_map, List.length_take, List.length_append, List.length_replicate, List.length_cons, List.length_nil]; omega) | exact ⟨rfl, z24 rfl z29⟩) | (((apply z18; omega)); intro _) | ((apply z11) <;> intro _)) <;> conv => whnf)
          all_goals first | (exfalso; omega) | skip
          all_goals refine z48 (k + 1) (by omega) (by omega) (by refine SealW.reach [0, 3] [] rfl rfl rfl rfl ?_ ?_ <;> (repeat' (first | exact LocLe.refl _ | exact F2.nil | apply F2.cons | exact z27 _ | (refine int_le ?_; omega) | ((first | refine z35 rfl ?_ ?_ | refine z25 rfl ?_ ?_); (focus ((repeat' (first | exact z12 (fun _ => rfl) | apply z26)); done))) | exact True.intro | apply And.intro)) <;> ((rw [en1]; (repeat' (first | exact LocLe.refl _ | exact F2.nil | apply F2.cons | (refine z81 ?_ ?_; (focus (omega))))))))
    · obtain rfl : i = M.length := by omega
      repeat' ((first | (apply AWP.go ok; rfl) | ((apply z11) <;> intro _)) <;> conv => whnf)
      all_goals first | (exfalso; omega) | (refine RetS.lay [] [1] rfl rfl rfl ?_; refine RetS.done ?_ ?_ <;> (repeat' (first | exact F2.nil | (refine lst_le ?_; omega) | ((apply z37 rfl rfl rfl); (focus ((repeat ((exact z33 (fun _ => rfl) _))); done)); (focus (((simp; omega)); done))))))
end Go.Proofs.YtppafngcahgagaaGreat

namespace Go.Proofs.YtppafngcahgagaaGreat
open Go.Gl
attribute [local irreducible] z34 AWP z50 z62 z56 RetS z79

/-- what the last choice does -/
inductive TailB (bs : List Int) (n : Nat) (B0 : List Int) (q : Int) : List Int → Int → Prop
  | c0 (h1 : CallsA Tryz.prog 105 [.ptr 0 none 0, .int 20] [rdO bs q] (.int 0) [rdO bs (q + 1)]) : TailB bs n B0 q (B0 ++ [0]) (q + 1)
  | c1 (j : Nat) (x : Int) (hj : j < B0.length) (h1 : CallsA Tryz.prog 105 [.ptr 0 none 0, .int 20] [rdO bs q] (.int 1) [rdO bs (q + 1)])
      (h2 : CallsA Tryz.prog 105 [.ptr 0 none 0, .int B0.length] [rdO bs (q + 1)] (.int j) [rdO bs (q + 1 + 1)])
      (h3 : CallsA Tryz.prog 79 [.ptr 0 none 0, .sref 1 0 4] [rdO bs (q + 1 + 1), .cells 1 ([-1, 0, 60, 1].map enI)] (.int x) [rdO bs (q + 1 + 1 + 1), .cells 1 ([-1, 0, 60, 1].map enI)]) : TailB bs n B0 q (B0.set j x) (q + 1 + 1 + 1)
  | c2 (hl : B0.length = 0) (h1 : CallsA Tryz.prog 105 [.ptr 0 none 0, .int 20] [rdO bs q] (.int 1) [rdO bs (q + 1)]) : TailB bs n B0 q B0 (q + 1)
  | c3 (h1 : CallsA Tryz.prog 105 [.ptr 0 none 0, .int 20] [rdO bs q] (.int 2) [rdO bs (q + 1)]) : TailB bs n B0 q (countL n) (q + 1)
  | c4 (v : Int) (v0 : v ≠ 0) (v1 : v ≠ 1) (v2 : v ≠ 2) (h1 : CallsA Tryz.prog 105 [.ptr 0 none 0, .int 20] [rdO bs q] (.int v) [rdO bs (q + 1)]) : TailB bs n B0 q B0 (q + 1)
theorem tailB_ex (bs : List Int) (hb : BytesOk bs) (n : Nat) (hn : n ≤ 100) (B0 : List Int) (hB : B0.length ≤ 100) (q : Int) (h0 : 0 ≤ q) (h1 : q ≤ 999999000) : ∃ B p', TailB bs n B0 q B p' ∧ B.length ≤ 101 ∧ q ≤ p' ∧ p' ≤ q + 3 := by
  obtain ⟨v, ⟨v0, v1⟩, c1⟩ := z58 bs hb q 20 (by omega) (by omega) (by omega)
  by_cases e0 : v = 0
  · subst e0; exact ⟨_, _, .c0 c1, by simp; omega, by omega, by omega⟩
  by_cases e1 : v = 1
  · subst e1
    by_cases hl : B0.length = 0
    · exact ⟨_, _, .c2 hl c1, by omega, by omega, by omega⟩
    · obtain ⟨j, ⟨j0, j1⟩, c2⟩ := z58 bs hb (q + 1) B0.length (by omega) (by omega) (by omega)
      obtain ⟨x, _, c3⟩ := z108 bs hb (q + 1 + 1) (by omega) (by omega) [-1, 0, 60, 1] (by decide) (by decide)
      obtain ⟨j, rfl⟩ : ∃ k : Nat, j = k := ⟨j.toNat, by omega⟩
      exact ⟨_, _, .c1 j x (by have := j1 (by omega); omega) c1 c2 c3, by simp; omega, by omega, by omega⟩
  by_cases e2 : v = 2
  · subst e2; exact ⟨_, _, .c3 c1, by rw [countL_len]; omega, by omega, by omega⟩
  · exact ⟨_, _, .c4 v e0 e1 e2 c1, by omega, by omega, by omega⟩
structure KeysB (bs : List Int) (n : Nat) (q : Int) (K : List Int) (pf : Nat → Int) : Prop where
  len : K.length = n
  p0 : pf 0 = q
  st : ∀ k (hk : k < K.length), CallsA Tryz.prog 105 [.ptr 0 none 0, .int 3] [rdO bs (pf k)] (.int K[k]) [rdO bs (pf (k + 1))]
  bd : q ≤ pf n ∧ pf n ≤ q + n
theorem keysB_ex (bs : List Int) (hb : BytesOk bs) (n : Nat) (hn : n ≤ 100) (q : Int) (h0 : 0 ≤ q) (h1 : q ≤ 999990000) : ∃ K pf, KeysB bs n q K pf := by
  obtain ⟨K, pf, e1, e2, e3, e4⟩ := seq_ex (fun _ p a p' => CallsA Tryz.prog 105 [.ptr 0 none 0, .int 3] [rdO bs p] (.int a) [rdO bs p']) q 1 n (fun k p hk h2 h3 => by
    obtain ⟨v, _, c⟩ := z58 bs hb p 3 (by omega) (by omega) (by omega)
    exact ⟨v, p + 1, c, by omega, by omega⟩)
  have := e4 n (Nat.le_refl _)
  exact ⟨K, pf, e1, e2, e3, by omega, by omega⟩
def keyL (K : List Int) : List (List Int) := K.map fun a => [a]
theorem keyL_take {K : List Int} {k : Nat} (h : k < K.length) : keyL (K.take (k + 1)) = keyL (K.take k) ++ [[K[k]]] := by
  unfold keyL; rw [List.take_succ_eq_append_getElem h, List.map_append]; rfl
/-- the first partition -/
inductive HeadB (bs : List Int) (g : Graph) (l : List Tree) (p : Int) : List Int → Int → Prop
  | c0 (v : Int) (hv : v ≠ 0) (h : glB g l = true) (p1 : CallsA Tryz.prog 105 [.ptr 0 none 0, .int 3] [rdO bs p] (.int v) [rdO bs (p + 1)]) : HeadB bs g l p (bisR g l) (p + 1)
  | c1 (h : glB g l = true) (p1 : CallsA Tryz.prog 105 [.ptr 0 none 0, .int 3] [rdO bs p] (.int 0) [rdO bs (p + 1)]) (K : List Int) (pf : Nat → Int) (hK : KeysB bs g.st.length (p + 1) K pf) : HeadB bs g l p (numF (sameK (keyL K)) (keyL K).length).1 (pf g.st.length)
  | c2 (h : glB g l = false) (K : List Int) (pf : Nat → Int) (hK : KeysB bs g.st.length p K pf) : HeadB bs g l p (numF (sameK (keyL K)) (keyL K).length).1 (pf g.st.length)
theorem headB_ex (bs : List Int) (hb : BytesOk bs) (g : Graph) (hg : g.d) (l : List Tree) (p : Int) (h0 : 0 ≤ p) (h1 : p ≤ 999980000) : ∃ B q, HeadB bs g l p B q ∧ B.length ≤ 100 ∧ p ≤ q ∧ q ≤ p + 101 := by
  have hst := hg.st
  by_cases h : glB g l = true
  · obtain ⟨v, _, c1⟩ := z58 bs hb p 3 (by omega) (by omega) (by omega)
    by_cases hv : v = 0
    · subst hv
      obtain ⟨K, pf, hK⟩ := keysB_ex bs hb g.st.length (by omega) (p + 1) (by omega) (by omega)
      have := hK.bd
      have hl := hK.len
      exact ⟨_, _, .c1 h c1 K pf hK, by rw [z55]; unfold keyL; simp; omega, by omega, by omega⟩
    · exact ⟨_, _, .c0 v hv h c1, by have := bisR_le g l; omega, by omega, by omega⟩
  · obtain ⟨K, pf, hK⟩ := keysB_ex bs hb g.st.length (by omega) p (by omega) (by omega)
    have := hK.bd
    have hl := hK.len
    exact ⟨_, _, .c2 ((Bool.not_eq_true _).mp h) K pf hK, by rw [z55]; unfold keyL; simp; omega, by omega, by omega⟩

set_option maxHeartbeats 6400000 in
theorem l10Blocks_ok (bs : List Int) (hb : BytesOk bs) (p : Int) (h0 : 0 ≤ p) (h1 : p ≤ 999980000) (g : Graph) (hg : g.d) (l : List Tree) (hl : Lab.d l) : ∃ (B : List Int) (p' : Int), (B.length ≤ 101 ∧ p ≤ p' ∧ p' ≤ p + 200) ∧ CallsA Tryz.prog 73 [.ptr 0 none 0, .agg g.cs, lst 3 Tree.cs' l] [rdO bs p] (ints B) [rdO bs p'] := by
  obtain ⟨B0, q, hH, hB0, q0, q1⟩ := headB_ex bs hb g hg l p h0 h1
  obtain ⟨B, p', hT, hB, p0, p1'⟩ := tailB_ex bs hb g.st.length hg.st B0 hB0 q (by omega) (by omega)
  refine ⟨B, p', ⟨hB, by omega, by omega⟩, ?_⟩
  have hst := hg.st
  have cB := z120 g hg.mx l hl.mx
  have cC := l4Count_ok g.st.length (by omega)
  rcases hH with ⟨v, hv, h, p1⟩ | ⟨h, p1, K, pf, hK⟩ | ⟨h, K, pf, hK⟩
  · rw [h] at cB
    generalize bisR g l = B0 at *
    refine z16 z20 Tryz.func73 rfl rfl 73 Tryz.ntmps73 (by simp) ?_
    repeat' ((first | (apply AWP.go ok; rfl) | ((apply z11) <;> intro _) | (apply z10 (cB); rfl; rfl) | (((apply z8 [0] [] [] (p1); rfl; (focus ((repeat' first | exact z6 | apply z7) <;> rfl)))); rfl; rfl; rfl; rfl; rfl; (focus ((repeat' first | exact z15 | apply z13) <;> exact z21 rfl rfl)); (exact .inl rfl))) <;> conv => whnf)
    all_goals first | (exfalso; omega) | skip
    rcases hT with ⟨a1⟩ | ⟨j, x, hj, a1, a2, a3⟩ | ⟨hl, a1⟩ | ⟨a1⟩ | ⟨v', v0, v1, v2, a1⟩
    · repeat' ((first | (apply AWP.go ok; rfl) | (apply And.intro; first | (dsimp only; omega) | ((try dsimp only); simp only [List.length_map, List.length_take, List.length_append, List.length_replicate, List.length_cons, List.length_nil]; omega) | exact z94 (fun _ => rfl) | exact ⟨rfl, z24 rfl z29⟩) | (((apply z8 [0] [] [] (a1); rfl; (focus ((repeat' first | exact z6 | apply z7) <;> rfl)))); rfl; rfl; rfl; rfl; rfl; (focus ((repeat' first | exact z15 | apply z13) <;> exact z21 rfl rfl)); (exact .inl rfl))) <;> conv => whnf)
      all_goals skip
      all_goals (refine RetS.lay [0] [5] rfl rfl rfl ?_; refine RetS.done ?_ ?_ <;> (repeat' (first | exact LocLe.refl _ | exact F2.nil | apply F2.cons | apply ObjLe.box | (refine z81 ?_ ?_; (focus (omega))) | ((apply z37 rfl rfl rfl); (focus ((repeat (first | exact z33 (fun _ => rfl) _ | apply z111 | apply unown_tk | rfl)); done)); (focus (((simp; done)); done))) | (refine z78 ?_ ?_; (focus (simp; done))))))
    · have gl : (B0.set j x).length = B0.length := by simp
      have gx : ((([] : List (List AC)).take 0) ++ B0.map enI)[j]? = some (enI (B0.getD j 0)) := by rw [List.take_nil, List.nil_append, List.getElem?_map, List.getElem?_eq_getElem hj, z17 hj]; rfl
      have gs : ((([] : List (List AC)).take 0) ++ B0.map enI).set j (enI x) = (B0.set j x).map enI := by rw [List.take_nil, List.nil_append, List.map_set]
      rw [show B0.length = 0 + B0.length by omega] at a2
      repeat' ((first | (apply AWP.go ok; rfl) | (refine z31 (i := j) rfl gx ?_) | (apply And.intro; first | omega | (dsimp only; omega) | exact z94 (fun _ => rfl)) | ((apply z11) <;> intro _) | ((first | (apply z8 [0] [] [] (a1); rfl; (focus ((repeat' first | exact z6 | apply z7) <;> rfl))) | (apply z8 [0] [] [] (a2); rfl; (focus ((repeat' first | exact z6 | apply z7) <;> rfl))) | (apply z8 [0, 4] [] [] (a3); rfl; (focus ((repeat' first | exact z6 | apply z7) <;> rfl)))); rfl; rfl; rfl; rfl; rfl; (focus ((repeat' first | exact z15 | apply z13) <;> first | exact z21 rfl rfl | (refine z30 ?_; ((exact z12 fun _ => rfl))))); (exact .inl rfl))) <;> conv => whnf)
      all_goals first | (exfalso; omega) | skip
      all_goals (refine RetS.lay [0] [3] rfl rfl rfl ?_; refine RetS.done ?_ ?_ <;> (repeat' (first | exact LocLe.refl _ | exact F2.nil | apply F2.cons | apply ObjLe.box | (refine put_le (by omega) ?_) | ((apply z37 rfl rfl rfl); (focus ((repeat (first | exact z33 (fun _ => rfl) _ | apply unown_st)); done)); (focus (((simp; done)); done))) | (refine z78 ?_ ?_; (focus (simp; done))))))
    · repeat' ((first | (apply AWP.go ok; rfl) | (apply And.intro; omega) | ((apply z11) <;> intro _) | (((apply z8 [0] [] [] (a1); rfl; (focus ((repeat' first | exact z6 | apply z7) <;> rfl)))); rfl; rfl; rfl; rfl; rfl; (focus ((repeat' first | exact z15 | apply z13) <;> exact z21 rfl rfl)); (exact .inl rfl))) <;> conv => whnf)
      all_goals first | (exfalso; omega) | skip
      all_goals (refine RetS.lay [0] [] rfl rfl rfl ?_; refine RetS.done ?_ ?_ <;> (repeat' (first | exact LocLe.refl _ | exact F2.nil | apply F2.cons | apply ObjLe.box)))
    · repeat' ((first | (apply AWP.go ok; rfl) | (apply z10 (cC); rfl; rfl) | (((apply z8 [0] [] [] (a1); rfl; (focus ((repeat' first | exact z6 | apply z7) <;> rfl)))); rfl; rfl; rfl; rfl; rfl; (focus ((repeat' first | exact z15 | apply z13) <;> exact z21 rfl rfl)); (exact .inl rfl))) <;> conv => whnf)
      all_goals skip
      all_goals (refine RetS.lay [0] [] rfl rfl rfl ?_; refine RetS.done ?_ ?_ <;> (repeat' (first | exact LocLe.refl _ | exact F2.nil | apply F2.cons | apply ObjLe.box)))
    · repeat' ((first | (apply AWP.go ok; rfl) | (apply And.intro; omega) | ((apply z11) <;> intro _) | (((apply z8 [0] [] [] (a1); rfl; (focus ((repeat' first | exact z6 | apply z7) <;> rfl)))); rfl; rfl; rfl; rfl; rfl; (focus ((repeat' first | exact z15 | apply z13) <;> exact z21 rfl rfl)); (exact .inl rfl))) <;> conv => whnf)
      all_goals first | (exfalso; omega) | skip
      all_goals (refine RetS.lay [0] [] rfl rfl rfl ?_; refine RetS.done ?_ ?_ <;> (repeat' (first | exact LocLe.refl _ | exact F2.nil | apply F2.cons | apply ObjLe.box)))
  · rw [h] at cB
    have e0 := hK.p0
    refine z16 z20 Tryz.func73 rfl rfl 73 Tryz.ntmps73 (by simp) ?_
    repeat' ((first | (apply AWP.go ok; rfl) | (apply z10 (cB); rfl; rfl) | (((apply z8 [0] [] [] (p1); rfl; (focus ((repeat' first | exact z6 | apply z7) <;> rfl)))); rfl; rfl; rfl; rfl; rfl; (focus ((repeat' first | exact z15 | apply z13) <;> exact z21 rfl rfl)); (exact .inl rfl))) <;> conv => whnf)
    all_goals skip
    rw [← e0]
    have kl := hK.len
    have cN := keepI (l10Number_new (keyL K) (by unfold keyL; simp; omega) (fun r hr => by unfold keyL at hr; obtain ⟨a, _, rfl⟩ := List.mem_map.1 hr; unfold maxLen; simp)) (z55 _ _)
    have hkl : ∀ k, k ≤ K.length → (keyL (K.take k)).length = k := fun k hk => by unfold keyL; simp; omega
    generalize (numF (sameK (keyL K)) (keyL K).length).1 = B0 at *
    refine z104 (fun x : Nat × List (List Int) => ([(0, .ptr 0 none 0), (4, .ptr 1 none 0), (9, .sref 2 0 x.2.length), (10, .int x.1)], [rdO bs (pf x.1), .cells 2 [g.cs], .cells 1 (x.2.map encL)])) (fun x => x.1 ≤ g.st.length ∧ keyL (K.take x.1) = x.2) (fun x => g.st.length - x.1) (0, []) ⟨Nat.zero_le _, rfl⟩ (by refine SealW.reach [0, 1, 2] [] rfl rfl rfl rfl ?_ ?_ <;> (repeat' (first | exact LocLe.refl _ | exact F2.nil | apply F2.cons | apply ObjLe.box | ((refine z25 rfl ?_ ?_); (focus ((repeat' (exact z43)); done))) | exact True.intro | apply And.intro))) ?_
    rintro ⟨k, L⟩ ⟨hk, hL⟩
    dsimp only at hk hL ⊢
    have hk2 := hkl k (by omega)
    rw [hL] at hk2
    by_cases hkn : k < g.st.length
    · have hkK : k < K.length := by omega
      have cp := hK.st k hkK
      have kt := keyL_take hkK
      rw [hL] at kt
      generalize K[k] = a at cp kt
      repeat' ((first | (apply AWP.go ok; rfl) | (apply And.intro; first | (unfold inI; omega) | ((try dsimp only); simp only [List.length_map, List.length_take, List.length_append, List.length_replicate, List.length_cons, List.length_nil]; omega) | exact ⟨rfl, z24 rfl z29⟩) | ((apply z11) <;> intro _) | (((apply z8 [0] [] [] (cp); rfl; (focus ((repeat' first | exact z6 | apply z7) <;> rfl)))); rfl; rfl; rfl; rfl; rfl; (focus ((repeat' first | exact z15 | apply z13) <;> exact z21 rfl rfl)); (exact .inl rfl))) <;> conv => whnf)
      all_goals first | (exfalso; omega) | skip
      all_goals refine z48 (k + 1, L ++ [[a]]) ⟨by show k + 1 ≤ _; omega, kt⟩ (by show g.st.length - (k + 1) < g.st.length - k; omega) (by refine SealW.reach [0, 1, 5] [3] rfl rfl rfl rfl ?_ ?_ <;> (repeat' (first | exact LocLe.refl _ | exact F2.nil | apply F2.cons | (refine z95 ?_; ((simp; done))) | apply ObjLe.box | ((refine z35 rfl ?_ ?_); (focus ((repeat' (first | exact z12 (fun _ => rfl) | apply z26)); done))) | (refine z81 ?_ ?_; (focus (omega))) | exact True.intro | apply And.intro)) <;> (trace_state))
    obtain rfl : k = g.st.length := by omega
    rw [← kl, List.take_length] at hL
    subst hL
    repeat' ((first | ((fail_if_success apply stopAt 8); (fail_if_success apply z127 8); apply AWP.go ok; rfl) | ((apply z11) <;> intro _)) <;> conv => whnf)
    all_goals first | (exfalso; omega) | skip
    refine AWP.reach (SealW.reach (env := [(0, .ptr 0 none 0), (4, .ptr 1 none 0), (9, lst 1 encL (keyL K))]) (objs := [rdO bs (pf g.st.length), .cells 2 [g.cs]]) [0, 1] [2] rfl rfl rfl rfl ?_ ?_) ?_
    · (repeat' (first | exact LocLe.refl _ | ((apply z37 rfl rfl rfl); (focus ((repeat ((exact z33 (fun _ => rfl) _))); done)); (focus (((simp; done)); done))) | exact True.intro | apply And.intro))
    · (repeat' (first | exact LocLe.refl _ | exact F2.nil | apply F2.cons | apply ObjLe.box))
    conv => whnf
    repeat' ((first | (apply AWP.go ok; rfl) | (apply z10 (cN); rfl; rfl)) <;> conv => whnf)
    all_goals skip
    rcases hT with ⟨a1⟩ | ⟨j, x, hj, a1, a2, a3⟩ | ⟨hl, a1⟩ | ⟨a1⟩ | ⟨v', v0, v1, v2, a1⟩
    · repeat' ((first | (apply AWP.go ok; rfl) | (apply And.intro; first | (dsimp only; omega) | ((try dsimp only); simp only [List.length_map, List.length_take, List.length_append, List.length_replicate, List.length_cons, List.length_nil]; omega) | exact z94 (fun _ => rfl) | exact ⟨rfl, z24 rfl z29⟩) | (((apply z8 [0] [] [] (a1); rfl; (focus ((repeat' first | exact z6 | apply z7) <;> rfl)))); rfl; rfl; rfl; rfl; rfl; (focus ((repeat' first | exact z15 | apply z13) <;> exact z21 rfl rfl)); (exact .inl rfl))) <;> conv => whnf)
      all_goals skip
      all_goals (refine RetS.lay [0] [5] rfl rfl rfl ?_; refine RetS.done ?_ ?_ <;> (repeat' (first | exact LocLe.refl _ | exact F2.nil | apply F2.cons | apply ObjLe.box | (refine z81 ?_ ?_; (focus (omega))) | ((apply z37 rfl rfl rfl); (focus ((repeat (first | exact z33 (fun _ => rfl) _ | apply z111 | apply unown_tk | rfl)); done)); (focus (((simp; done)); done))) | (refine z78 ?_ ?_; (focus (simp; done))))))
    · have gl : (B0.set j x).length = B0.length := by simp
      have gx : ((([] : List (List AC)).take 0) ++ B0.map enI)[j]? = some (enI (B0.getD j 0)) := by rw [List.take_nil, List.nil_append, List.getElem?_map, List.getElem?_eq_getElem hj, z17 hj]; rfl
      have gs : ((([] : List (List AC)).take 0) ++ B0.map enI).set j (enI x) = (B0.set j x).map enI := by rw [List.take_nil, List.nil_append, List.map_set]
      rw [show B0.length = 0 + B0.length by omega] at a2
      repeat' ((first | (apply AWP.go ok; rfl) | (refine z31 (i := j) rfl gx ?_) | (apply And.intro; first | omega | (dsimp only; omega) | exact z94 (fun _ => rfl)) | ((apply z11) <;> intro _) | ((first | (apply z8 [0] [] [] (a1); rfl; (focus ((repeat' first | exact z6 | apply z7) <;> rfl))) | (apply z8 [0] [] [] (a2); rfl; (focus ((repeat' first | exact z6 | apply z7) <;> rfl))) | (apply z8 [0, 4] [] [] (a3); rfl; (focus ((repeat' first | exact z6 | apply z7) <;> rfl)))); rfl; rfl; rfl; rfl; rfl; (focus ((repeat' first | exact z15 | apply z13) <;> first | exact z21 rfl rfl | (refine z30 ?_; ((exact z12 fun _ => rfl))))); (exact .inl rfl))) <;> conv => whnf)
      all_goals first | (exfalso; omega) | skip
      all_goals (refine RetS.lay [0] [3] rfl rfl rfl ?_; refine RetS.done ?_ ?_ <;> (repeat' (first | exact LocLe.refl _ | exact F2.nil | apply F2.cons | apply ObjLe.box | (refine put_le (by omega) ?_) | ((apply z37 rfl rfl rfl); (focus ((repeat (first | exact z33 (fun _ => rfl) _ | apply unown_st)); done)); (focus (((simp; done)); done))) | (refine z78 ?_ ?_; (focus (simp; done))))))
    · repeat' ((first | (apply AWP.go ok; rfl) | (apply And.intro; omega) | ((apply z11) <;> intro _) | (((apply z8 [0] [] [] (a1); rfl; (focus ((repeat' first | exact z6 | apply z7) <;> rfl)))); rfl; rfl; rfl; rfl; rfl; (focus ((repeat' first | exact z15 | apply z13) <;> exact z21 rfl rfl)); (exact .inl rfl))) <;> conv => whnf)
      all_goals first | (exfalso; omega) | skip
      all_goals (refine RetS.lay [0] [] rfl rfl rfl ?_; refine RetS.done ?_ ?_ <;> (repeat' (first | exact LocLe.refl _ | exact F2.nil | apply F2.cons | apply ObjLe.box)))
    · repeat' ((first | (apply AWP.go ok; rfl) | (apply z10 (cC); rfl; rfl) | (((apply z8 [0] [] [] (a1); rfl; (focus ((repeat' first | exact z6 | apply z7) <;> rfl)))); rfl; rfl; rfl; rfl; rfl; (focus ((repeat' first | exact z15 | apply z13) <;> exact z21 rfl rfl)); (exact .inl rfl))) <;> conv => whnf)
      all_goals skip
      all_goals (refine RetS.lay [0] [] rfl rfl rfl ?_; refine RetS.done ?_ ?_ <;> (repeat' (first | exact LocLe.refl _ | exact F2.nil | apply F2.cons | apply ObjLe.box)))
    · repeat' ((first | (apply AWP.go ok; rfl) | (apply And.intro; omega) | ((apply z11) <;> intro _) | (((apply z8 [0] [] [] (a1); rfl; (focus ((repeat' first | exact z6 | apply z7) <;> rfl)))); rfl; rfl; rfl; rfl; rfl; (focus ((repeat' first | exact z15 | apply z13) <;> exact z21 rfl rfl)); (exact .inl rfl))) <;> conv => whnf)
      all_goals first | (exfalso; omega) | skip
      all_goals (refine RetS.lay [0] [] rfl rfl rfl ?_; refine RetS.done ?_ ?_ <;> (repeat' (first | exact LocLe.refl _ | exact F2.nil | apply F2.cons | apply ObjLe.box)))
  · rw [h] at cB
    have e0 := hK.p0
    rw [← e0]
    refine z16 z20 Tryz.func73 rfl rfl 73 Tryz.ntmps73 (by simp) ?_
    repeat' ((first | (apply AWP.go ok; rfl) | (apply z10 (cB); rfl; rfl)) <;> conv => whnf)
    all_goals skip
    have kl := hK.len
    have cN := keepI (l10Number_new (keyL K) (by unfold keyL; simp; omega) (fun r hr => by unfold keyL at hr; obtain ⟨a, _, rfl⟩ := List.mem_map.1 hr; unfold maxLen; simp)) (z55 _ _)
    have hkl : ∀ k, k ≤ K.length → (keyL (K.take k)).length = k := fun k hk => by unfold keyL; simp; omega
    generalize (numF (sameK (keyL K)) (keyL K).length).1 = B0 at *
    refine z104 (fun x : Nat × List (List Int) => ([(0, .ptr 0 none 0), (4, .ptr 1 none 0), (9, .sref 2 0 x.2.length), (10, .int x.1)], [rdO bs (pf x.1), .cells 2 [g.cs], .cells 1 (x.2.map encL)])) (fun x => x.1 ≤ g.st.length ∧ keyL (K.take x.1) = x.2) (fun x => g.st.length - x.1) (0, []) ⟨Nat.zero_le _, rfl⟩ (by refine SealW.reach [0, 1, 2] [] rfl rfl rfl rfl ?_ ?_ <;> (repeat' (first | exact LocLe.refl _ | exact F2.nil | apply F2.cons | apply ObjLe.box | ((refine z25 rfl ?_ ?_); (focus ((repeat' (exact z43)); done))) | exact True.intro | apply And.intro))) ?_
    rintro ⟨k, L⟩ ⟨hk, hL⟩
    dsimp only at hk hL ⊢
    have hk2 := hkl k (by omega)
    rw [hL] at hk2
    by_cases hkn : k < g.st.length
    · have hkK : k < K.length := by omega
      have cp := hK.st k hkK
      have kt := keyL_take hkK
      rw [hL] at kt
      generalize K[k] = a at cp kt
      repeat' ((first | (apply AWP.go ok; rfl) | (apply And.intro; first | (unfold inI; omega) | ((try dsimp only); simp only [List.length_map, List.length_take, List.length_append, List.length_replicate, List.length_cons, List.length_nil]; omega) | exact ⟨rfl, z24 rfl z29⟩) | ((apply z11) <;> intro _) | (((apply z8 [0] [] [] (cp); rfl; (focus ((repeat' first | exact z6 | apply z7) <;> rfl)))); rfl; rfl; rfl; rfl; rfl; (focus ((repeat' first | exact z15 | apply z13) <;> exact z21 rfl rfl)); (exact .inl rfl))) <;> conv => whnf)
      all_goals first | (exfalso; omega) | skip
      all_goals refine z48 (k + 1, L ++ [[a]]) ⟨by show k + 1 ≤ _; omega, kt⟩ (by show g.st.length - (k + 1) < g.st.length - k; omega) (by refine SealW.reach [0, 1, 5] [3] rfl rfl rfl rfl ?_ ?_ <;> (repeat' (first | exact LocLe.refl _ | exact F2.nil | apply F2.cons | (refine z95 ?_; ((simp; done))) | apply ObjLe.box | ((refine z35 rfl ?_ ?_); (focus ((repeat' (first | exact z12 (fun _ => rfl) | apply z26)); done))) | (refine z81 ?_ ?_; (focus (omega))) | exact True.intro | apply And.intro)) <;> (trace_state))
    obtain rfl : k = g.st.length := by omega
    rw [← kl, List.take_length] at hL
    subst hL
    repeat' ((first | ((fail_if_success apply stopAt 8); (fail_if_success apply z127 8); apply AWP.go ok; rfl) | ((apply z11) <;> intro _)) <;> conv => whnf)
    all_goals first | (exfalso; omega) | skip
    refine AWP.reach (SealW.reach (env := [(0, .ptr 0 none 0), (4, .ptr 1 none 0), (9, lst 1 encL (keyL K))]) (objs := [rdO bs (pf g.st.length), .cells 2 [g.cs]]) [0, 1] [2] rfl rfl rfl rfl ?_ ?_) ?_
    · (repeat' (first | exact LocLe.refl _ | ((apply z37 rfl rfl rfl); (focus ((repeat ((exact z33 (fun _ => rfl) _))); done)); (focus (((simp; done)); done))) | exact True.intro | apply And.intro))
    · (repeat' (first | exact LocLe.refl _ | exact F2.nil | apply F2.cons | apply ObjLe.box))
    conv => whnf
    repeat' ((first | (apply AWP.go ok; rfl) | (apply z10 (cN); rfl; rfl)) <;> conv => whnf)
    all_goals skip
    rcases hT with ⟨a1⟩ | ⟨j, x, hj, a1, a2, a3⟩ | ⟨hl, a1⟩ | ⟨a1⟩ | ⟨v', v0, v1, v2, a1⟩
    · repeat' ((first | (apply AWP.go ok; rfl) | (apply And.intro; first | (dsimp only; omega) | ((try dsimp only); simp only [List.length_map, List.length_take, List.length_append, List.length_replicate, List.length_cons, List.length_nil]; omega) | exact z94 (fun _ => rfl) | exact ⟨rfl, z24 rfl z29⟩) | (((apply z8 [0] [] [] (a1); rfl; (focus ((repeat' first | exact z6 | apply z7) <;> rfl)))); rfl; rfl; rfl; rfl; rfl; (focus ((repeat' first | exact z15 | apply z13) <;> exact z21 rfl rfl)); (exact .inl rfl))) <;> conv => whnf)
      all_goals skip
      all_goals (refine RetS.lay [0] [5] rfl rfl rfl ?_; refine RetS.done ?_ ?_ <;> (repeat' (first | exact LocLe.refl _ | exact F2.nil | apply F2.cons | apply ObjLe.box | (refine z81 ?_ ?_; (focus (omega))) | ((apply z37 rfl rfl rfl); (focus ((repeat (first | exact z33 (fun _ => rfl) _ | apply z111 | apply unown_tk | rfl)); done)); (focus (((simp; done)); done))) | (refine z78 ?_ ?_; (focus (simp; done))))))
    · have gl : (B0.set j x).length = B0.length := by simp
      have gx : ((([] : List (List AC)).take 0) ++ B0.map enI)[j]? = some (enI (B0.getD j 0)) := by rw [List.take_nil, List.nil_append, List.getElem?_map, List.getElem?_eq_getElem hj, z17 hj]; rfl
      have gs : ((([] : List (List AC)).take 0) ++ B0.map enI).set j (enI x) = (B0.set j x).map enI := by rw [List.take_nil, List.nil_append, List.map_set]
      rw [show B0.length = 0 + B0.length by omega] at a2
      repeat' ((first | (apply AWP.go ok; rfl) | (refine z31 (i := j) rfl gx ?_) | (apply And.intro; first | omega | (dsimp only; omega) | exact z94 (fun _ => rfl)) | ((apply z11) <;> intro _) | ((first | (apply z8 [0] [] [] (a1); rfl; (focus ((repeat' first | exact z6 | apply z7) <;> rfl))) | (apply z8 [0] [] [] (a2); rfl; (focus ((repeat' first | exact z6 | apply z7) <;> rfl))) | (apply z8 [0, 4] [] [] (a3); rfl; (focus ((repeat' first | exact z6 | apply z7) <;> rfl)))); rfl; rfl; rfl; rfl; rfl; (focus ((repeat' first | exact z15 | apply z13) <;> first | exact z21 rfl rfl | (refine z30 ?_; ((exact z12 fun _ => rfl))))); (exact .inl rfl))) <;> conv => whnf)
      all_goals first | (exfalso; omega) | skip
      all_goals (refine RetS.lay [0] [3] rfl rfl rfl ?_; refine RetS.done ?_ ?_ <;> (repeat' (first | exact LocLe.refl _ | exact F2.nil | apply F2.cons | apply ObjLe.box | (refine put_le (by omega) ?_) | ((apply z37 rfl rfl rfl); (focus ((repeat (first | exact z33 (fun _ => rfl) _ | apply unown_st)); done)); (focus (((simp; done)); done))) | (refine z78 ?_ ?_; (focus (simp; done))))))
    · repeat' ((first | (apply AWP.go ok; rfl) | (apply And.intro; omega) | ((apply z11) <;> intro _) | (((apply z8 [0] [] [] (a1); rfl; (focus ((repeat' first | exact z6 | apply z7) <;> rfl)))); rfl; rfl; rfl; rfl; rfl; (focus ((repeat' first | exact z15 | apply z13) <;> exact z21 rfl rfl)); (exact .inl rfl))) <;> conv => whnf)
      all_goals first | (exfalso; omega) | skip
      all_goals (refine RetS.lay [0] [] rfl rfl rfl ?_; refine RetS.done ?_ ?_ <;> (repeat' (first | exact LocLe.refl _ | exact F2.nil | apply F2.cons | apply ObjLe.box)))
    · repeat' ((first | (apply AWP.go ok; rfl) | (apply z10 (cC); rfl; rfl) | (((apply z8 [0] [] [] (a1); rfl; (focus ((repeat' first | exact z6 | apply z7) <;> rfl)))); rfl; rfl; rfl; rfl; rfl; (focus ((repeat' first | exact z15 | apply z13) <;> exact z21 rfl rfl)); (exact .inl rfl))) <;> conv => whnf)
      all_goals skip
      all_goals (refine RetS.lay [0] [] rfl rfl rfl ?_; refine RetS.done ?_ ?_ <;> (repeat' (first | exact LocLe.refl _ | exact F2.nil | apply F2.cons | apply ObjLe.box)))
    · repeat' ((first | (apply AWP.go ok; rfl) | (apply And.intro; omega) | ((apply z11) <;> intro _) | (((apply z8 [0] [] [] (a1); rfl; (focus ((repeat' first | exact z6 | apply z7) <;> rfl)))); rfl; rfl; rfl; rfl; rfl; (focus ((repeat' first | exact z15 | apply z13) <;> exact z21 rfl rfl)); (exact .inl rfl))) <;> conv => whnf)
      all_goals first | (exfalso; omega) | skip
      all_goals (refine RetS.lay [0] [] rfl rfl rfl ?_; refine RetS.done ?_ ?_ <;> (repeat' (first | exact LocLe.refl _ | exact F2.nil | apply F2.cons | apply ObjLe.box)))
end Go.Proofs.YtppafngcahgagaaGreat

namespace Go.Proofs.YtppafngcahgagaaGreat
open Go.Gl
attribute [local irreducible] z34 AWP z50 z62 z56

set_option maxHeartbeats 1600000 in
theorem specBlocksStable_ok (g : Graph) (hg : g.mx) (l : List Tree) (hl : Lmx l) (bl : List Int) (hb : bl.length ≤ 1048576) (hst : g.st.length ≤ 1048576) : CallsA Tryz.prog 23 [.agg g.cs, lst 3 Tree.cs' l, ints bl] [] (.bool (stB g l bl)) [] := by
  have c0 := specLabelGraph_ok g hg l hl
  have c1 := specBlocksValid_ok g hg bl hb hst
  unfold stB
  by_cases hv : bvB g bl = true
  · have h0 : z130 g = true := by unfold bvB at hv; exact (Bool.and_eq_true_iff.1 hv).1
    have hG := (z82 g).1 h0
    have hbl : bl.length = g.st.length := by
      have : (bl.length : Int) = g.st.length := by unfold bvB at hv; exact of_decide_eq_true (Bool.and_eq_true_iff.1 (Bool.and_eq_true_iff.1 hv).2).2
      omega
    have hg1 := hG.1
    have c3 := keepI (l10Refine_new g hG bl hbl) (z115 _ _)
    have c4 := l2Ints_ok (refL g bl) bl (by rw [z115]; unfold maxLen; omega) (by unfold maxLen; omega)
    rw [hv] at c1 ⊢
    have hgl : glB g l = z100 l := by unfold glB; rw [h0]; rfl
    rw [hgl] at c0
    by_cases h2 : z100 l = true
    · have hls : (g.st.map (z59 l)).length = bl.length := by rw [List.length_map, hbl]
      rw [if_pos h2, h2] at c0
      rw [h2]
      generalize g.st.map (z59 l) = ls at *
      refine z14 z20 Tryz.func23 rfl rfl 64 Tryz.ntmps23 (by simp) ?_
      by_cases h3 : refL g bl = bl
      · rw [decide_eq_true h3] at c4 ⊢
        repeat' (first | (apply AWP.go ok; rfl; conv => whnf) | (apply z10 (c0); rfl; rfl; conv => whnf) | (apply z10 (c1); rfl; rfl; conv => whnf) | (apply z10 (c3); rfl; rfl; conv => whnf) | (apply z10 (c4); rfl; rfl; conv => whnf))
        all_goals skip
        refine z83 (fun i : Nat => ([(2, ints bl), (7, ints ls), (9, .int i)], [])) (fun i => i ≤ bl.length ∧ ∀ j k : Nat, k < j → j < i → bl.getD j 0 = bl.getD k 0 → ls.getD j 0 = ls.getD k 0) (fun i => bl.length - i) 0 ⟨by omega, fun j k hk hj => by omega⟩ ⟨[], rfl, by decide, rfl, ⟨⟨rfl, rfl⟩, ⟨rfl, rfl⟩, ⟨rfl, rfl⟩, trivial⟩, trivial⟩ ?_
        rintro i ⟨hi1, hi2⟩
        by_cases hil : i < bl.length
        · repeat' (first | (apply AWP.go ok; rfl; conv => whnf) | (apply z11 <;> intro _ <;> conv => whnf))
          all_goals first | (exfalso; omega) | skip
          refine z83 (fun k : Nat => ([(2, ints bl), (7, ints ls), (9, .int i), (10, .int k)], [])) (fun k => k ≤ i ∧ ∀ k', k' < k → bl.getD i 0 = bl.getD k' 0 → ls.getD i 0 = ls.getD k' 0) (fun k => i - k) 0 ⟨by omega, fun k' hk => by omega⟩ ⟨[], rfl, by decide, rfl, ⟨⟨rfl, rfl⟩, ⟨rfl, rfl⟩, ⟨rfl, rfl⟩, ⟨rfl, rfl⟩, trivial⟩, trivial⟩ ?_
          rintro k ⟨hk1, hk2⟩
          by_cases hki : k < i
          · have g1 : (bl.map enI)[i]? = some (enI bl[i]) := by rw [List.getElem?_map, List.getElem?_eq_getElem hil]; rfl
            have g2 : (bl.map enI)[k]? = some (enI bl[k]) := by rw [List.getElem?_map, List.getElem?_eq_getElem (by omega)]; rfl
            have g3 : (ls.map enI)[i]? = some (enI ls[i]) := by rw [List.getElem?_map, List.getElem?_eq_getElem (by omega)]; rfl
            have g4 : (ls.map enI)[k]? = some (enI ls[k]) := by rw [List.getElem?_map, List.getElem?_eq_getElem (by omega)]; rfl
            have e1 : bl.getD i 0 = bl[i] := z17 hil
            have e2 : bl.getD k 0 = bl[k] := z17 (by omega)
            have e3 : ls.getD i 0 = ls[i] := z17 (by omega)
            have e4 : ls.getD k 0 = ls[k] := z17 (by omega)
            by_cases hbad : bl[i] = bl[k] ∧ ls[i] ≠ ls[k]
            · have hno : ¬ LetP bl ls := fun h => hbad.2 (by rw [← e3, ← e4]; exact h i k hki hil (by rw [e1, e2]; exact hbad.1))
              repeat' (first | (apply AWP.go ok; rfl; conv => whnf) | (apply z39; kernel_rfl; conv => whnf) | (refine z31 (i := k) rfl g4 ?_; conv => whnf) | (refine z31 (i := i) rfl g3 ?_; conv => whnf) | (refine z31 (i := k) rfl g2 ?_; conv => whnf) | (refine z31 (i := i) rfl g1 ?_; conv => whnf) | (apply And.intro; (omega); conv => whnf) | (apply z11 <;> intro _ <;> conv => whnf) | (apply z32 <;> intro _ <;> conv => whnf))
              all_goals first | (exfalso; omega) | skip
              exact z19 rfl (by rw [decide_eq_false hno]; rfl)
            · have hok : ∀ k', k' < k + 1 → bl.getD i 0 = bl.getD k' 0 → ls.getD i 0 = ls.getD k' 0 := fun k' hk' he => by
                rcases Nat.lt_or_ge k' k with h7 | h7
                · exact hk2 k' h7 he
                · obtain rfl : k' = k := by omega
                  rw [e3, e4]
                  rw [e1, e2] at he
                  exact Decidable.byContradiction fun h => hbad ⟨he, h⟩
              repeat' (first | (apply AWP.go ok; rfl; conv => whnf) | (apply z39; kernel_rfl; conv => whnf) | (refine z31 (i := k) rfl g4 ?_; conv => whnf) | (refine z31 (i := i) rfl g3 ?_; conv => whnf) | (refine z31 (i := k) rfl g2 ?_; conv => whnf) | (refine z31 (i := i) rfl g1 ?_; conv => whnf) | (apply And.intro; (first | omega | (unfold inI; omega)); conv => whnf) | (apply z11 <;> intro _ <;> conv => whnf) | (apply z32 <;> intro _ <;> conv => whnf))
              all_goals first | (exfalso; omega) | skip
              all_goals exact z75 (k + 1) [] ⟨by omega, hok⟩ (by omega) ⟨rfl, by decide, rfl, ⟨⟨rfl, rfl⟩, ⟨rfl, rfl⟩, ⟨rfl, rfl⟩, ⟨rfl, rfl⟩, trivial⟩, trivial⟩
          · repeat' (first | (apply AWP.go ok; rfl; conv => whnf) | (apply z39; kernel_rfl; conv => whnf) | (apply And.intro; (first | omega | (unfold inI; omega)); conv => whnf) | (with_reducible apply z18; omega; intro _; conv => whnf) | (apply z11 <;> intro _ <;> conv => whnf) | (apply z32 <;> intro _ <;> conv => whnf))
            all_goals first | (exfalso; omega) | skip
            refine z75 (i + 1) [] ⟨by omega, fun j k' hk' hj he => ?_⟩ (by omega) ⟨rfl, by decide, rfl, ⟨⟨rfl, rfl⟩, ⟨rfl, rfl⟩, ⟨rfl, rfl⟩, trivial⟩, trivial⟩
            rcases Nat.lt_or_ge j i with h7 | h7
            · exact hi2 j k' hk' h7 he
            · obtain rfl : j = i := by omega
              exact hk2 k' (by omega) he
        · have hyes : LetP bl ls := fun i' k hk hi' he => hi2 i' k hk (by omega) he
          repeat' (first | (apply AWP.go ok; rfl; conv => whnf) | (apply z11 <;> intro _ <;> conv => whnf))
          all_goals first | (exfalso; omega) | skip
          exact z19 rfl (by rw [decide_eq_true hyes]; rfl)
      · rw [decide_eq_false h3] at c4 ⊢
        repeat' (first | (apply AWP.go ok; rfl; conv => whnf) | (apply z10 (c0); rfl; rfl; conv => whnf) | (apply z10 (c1); rfl; rfl; conv => whnf) | (apply z10 (c3); rfl; rfl; conv => whnf) | (apply z10 (c4); rfl; rfl; conv => whnf))
        all_goals skip
        all_goals exact z19 rfl rfl
    · have h2 := (Bool.not_eq_true _).mp h2
      rw [h2] at c0 ⊢
      refine z14 z20 Tryz.func23 rfl rfl 64 Tryz.ntmps23 (by simp) ?_
      repeat' (first | (apply AWP.go ok; rfl; conv => whnf) | (apply z10 (c0); rfl; rfl; conv => whnf))
      all_goals skip
      all_goals exact z19 rfl rfl
  · have hv := (Bool.not_eq_true _).mp hv
    rw [hv] at c1 ⊢
    rw [Bool.false_and, Bool.and_false]
    refine z14 z20 Tryz.func23 rfl rfl 64 Tryz.ntmps23 (by simp) ?_
    repeat' (first | (apply AWP.go ok; rfl; conv => whnf) | (apply z125 <;> intro _ <;> conv => whnf) | (apply z10 (c0); rfl; rfl; conv => whnf) | (apply z10 (c1); rfl; rfl; conv => whnf))
    all_goals skip
    all_goals exact z19 rfl rfl

structure IntsOk (b : List Int) : Prop where
  mx : b.length ≤ maxLen
  len : b.length ≤ 1048576
theorem IntsOk.of {b : List Int} (h : b.length ≤ maxLen) (h1 : b.length ≤ 1048576) : IntsOk b := ⟨h, h1⟩
end Go.Proofs.YtppafngcahgagaaGreat

namespace Go.Proofs.YtppafngcahgagaaGreat
open Go.Gl
attribute [local irreducible] z34 AWP z50 z62 z56 RetS z79

theorem drawBS_ok (bs : List Int) (hb : CodeOk bs) : ∃ (g : Graph) (l : List Tree) (B : List Int), (g.d ∧ Lab.d l ∧ B.length ≤ 101) ∧ CallsA Tryz.prog 21 [lst 1 enU bs] [] (.tup [.agg g.cs, lst 3 Tree.cs' l, ints B]) [] := by
  have co := l16Open_ok bs hb.len
  obtain ⟨M, n, p1, ⟨a1, a2, a3, a4, a5⟩, c1⟩ := l10Labels_new (bs.take 2000) hb.take 0 ⟨by omega, by omega⟩
  obtain ⟨g0, g, p2, p3, c2, c3, hg, _, _⟩ := mutG_ok (bs.take 2000) hb.take p1 ⟨by omega, by omega⟩
  have hl : Lab.d (M.take n) := ⟨by simp; omega, fun t ht => a3 t (List.mem_of_mem_take ht)⟩
  obtain ⟨B, p4, ⟨b1, b2, b3⟩, c4⟩ := l10Blocks_ok (bs.take 2000) hb.take p3 (by omega) (by omega) g hg (M.take n) hl
  generalize hL : M.take n = L at *
  refine ⟨g, L, B, ⟨hg, hl, b1⟩, ?_⟩
  generalize bs.take 2000 = b0 at *
  obtain ⟨x, y, z, rfl⟩ := len3 a2
  have hn : n = 0 ∨ n = 1 ∨ n = 2 ∨ n = 3 := by simp at a1; omega
  rcases hn with rfl | rfl | rfl | rfl
  all_goals
    refine z16 z20 Tryz.func21 rfl rfl 22 Tryz.ntmps21 (by simp) ?_
    repeat' ((first | ((fail_if_success apply stopAt 4); (fail_if_success apply z127 4); apply AWP.go ok; rfl) | ((first | (apply z8 [] [] [1] (co); rfl; (focus ((repeat' exact z6) <;> fail))) | (apply z8 [1] [] [2] (c1); rfl; (focus ((repeat' first | exact z6 | apply z7) <;> rfl))) | (apply z8 [1] [] [] (c2); rfl; (focus ((repeat' first | exact z6 | apply z7) <;> rfl))) | (apply z8 [1] [] [] (c3); rfl; (focus ((repeat' first | exact z6 | apply z7) <;> rfl)))); rfl; rfl; rfl; rfl; rfl; (focus ((repeat' first | exact z15 | apply z13) <;> first | exact z21 rfl rfl | (refine z30 ?_; ((exact z12 fun _ => rfl))))); (exact .inl rfl))) <;> conv => whnf)
    all_goals skip
    refine AWP.reach (SealW.reach (env := [(2, .ptr 0 none 0), (5, .ptr 1 none 0), (6, lst 3 Tree.cs' L), (7, .ptr 2 none 0)]) (objs := [.cells 2 [[.nils, .nils]], rdO b0 p3, .cells 2 [g.cs]]) [0, 1, 3] [2] rfl rfl rfl rfl ?_ ?_) ?_
    · subst hL; (repeat' (first | exact LocLe.refl _ | exact True.intro | apply And.intro))
    · (repeat' (first | exact LocLe.refl _ | exact F2.nil | apply F2.cons | apply ObjLe.box))
    conv => whnf
    repeat' ((first | (apply AWP.go ok; rfl) | (apply z39; kernel_rfl) | (((apply z8 [1] [] [] (c4); rfl; (focus ((repeat' first | exact z6 | apply z7) <;> rfl)))); rfl; rfl; rfl; rfl; rfl; (focus ((repeat' first | exact z15 | apply z13) <;> exact z21 rfl rfl)); (exact .inl rfl))) <;> conv => whnf)
    all_goals (refine RetS.lay [] [] rfl rfl rfl ?_; refine RetS.done ?_ ?_ <;> (repeat' (first | exact LocLe.refl _ | exact F2.nil)))
end Go.Proofs.YtppafngcahgagaaGreat

