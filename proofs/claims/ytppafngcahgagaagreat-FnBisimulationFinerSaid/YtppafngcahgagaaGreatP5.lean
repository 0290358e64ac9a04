/- A part of the proofs over this program: T54, T101, T102, T103, T55, T56, T57, T58, T59. -/
import Derived.Test.YtppafngcahgagaaGreatG0
import Derived.Test.YtppafngcahgagaaGreatG1
import Derived.Test.YtppafngcahgagaaGreatG2
import Derived.Test.YtppafngcahgagaaGreatP0
import Derived.Test.YtppafngcahgagaaGreatP1
import Derived.Test.YtppafngcahgagaaGreatP2
import Derived.Test.YtppafngcahgagaaGreatP3
import Derived.Test.YtppafngcahgagaaGreatP4
set_option linter.all false
namespace Go.Proofs.YtppafngcahgagaaGreat
open Go.Gl
attribute [local irreducible] z31 AWP z50 z58 z55

theorem implBrValid_ok (t : Tree) (hm : t.mx) : CallsA Tryz.prog 56 [z49 Tree.cs' t] [] (.bool t.brB) [] := by
  have hk := walkB_ok t hm 1 0 (by omega) (by omega) (by omega) (by omega)
  refine z13 z23 Tryz.func56 rfl rfl 6 Tryz.ntmps56 (by simp) ?_
  repeat' ((first | (apply AWP.go ok; rfl) | (((apply z11 [1] [] [] (hk); rfl; (focus ((repeat' first | exact z6 | apply z7) <;> rfl)))); rfl; rfl; rfl; rfl; rfl; (focus ((repeat' first | exact z17 | apply z14) <;> exact z27 rfl rfl)); (exact .inl rfl))) <;> conv => whnf)
  exact z24 rfl rfl

theorem l11Arity_ok (k : Int) : CallsA Tryz.prog 174 [.int k] [] (.int (arityB k)) [] := by
  refine z13 z23 Tryz.func174 rfl rfl 18 Tryz.ntmps174 (by simp) ?_
  repeat' ((first | (apply AWP.go ok; rfl) | ((apply z8) <;> intro _)) <;> conv => whnf)
  all_goals (refine z40 rfl rfl ?_; unfold arityB; first | (rw [if_pos (by omega)]; rfl) | (rw [if_neg (by omega), if_pos (by omega)]; rfl) | (rw [if_neg (by omega), if_neg (by omega), if_pos (by omega)]; rfl) | (rw [if_neg (by omega), if_neg (by omega), if_neg (by omega)]; rfl))

theorem shapeBs_all (l : List Tree) (d : Int) : Tree.shapeBBs l d = l.all (fun t => t.shapeB d) := by
  induction l with
  | nil => rfl
  | cons t l ih => simp [Tree.shapeBBs, ih]
theorem shapeB_eq (t : Tree) (d : Int) : t.shapeB d = (decide (1 ≤ d ∧ (t.kids.length : Int) = arityB t.kind ∧ 0 ≤ t.val ∧ t.val ≤ mostB t.kind) && t.kids.all fun t => t.shapeB (d - 1)) := by
  cases t; simp only [Tree.shapeB, Tree.kids, Tree.kind, Tree.val, shapeBs_all]; rfl

theorem l11Shape_ok (t : Tree) : t.mx → ∀ d : Int, -100 ≤ d → d ≤ 100 → CallsA Tryz.prog 142 [z49 Tree.cs' t, .int d] [] (.bool (t.shapeB d)) [] := by
  induction t using Tree.ind with | h t ih => ?_
  intro hm d h0 h1
  rw [Tree.mx_iff] at hm
  have hl := hm.1
  unfold maxLen at hl
  rw [Tree.arg_eq, shapeB_eq]
  refine z13 z23 Tryz.func142 rfl rfl 51 Tryz.ntmps142 (by simp) ?_
  repeat' ((first | (apply AWP.go ok; rfl) | (apply z37; kernel_rfl) | ((first | apply z8 | apply z32) <;> intro _) | (apply z12 (l11Arity_ok _); rfl; rfl)) <;> conv => whnf)
  all_goals first
    | (refine z24 rfl ?_
       rw [decide_eq_false]
       · rfl
       · clear ih
         rintro ⟨c1, c2, c3, c4⟩
         unfold mostB at c4
         grind)
    | (have hg : decide (1 ≤ d ∧ (t.kids.length : Int) = arityB t.kind ∧ 0 ≤ t.val ∧ t.val ≤ mostB t.kind) = true := by
         clear ih
         refine decide_eq_true ?_
         unfold mostB
         grind
       rw [hg, Bool.true_and]
       refine z71 (fun k : Nat => ([(1, .int d), (2, .ptr 0 none 0), (5, .int k)], [.cells 3 [[.int t.kind, .int t.val, lst 3 Tree.cs' t.kids]]])) (fun k => k ≤ t.kids.length ∧ (t.kids.all fun t => t.shapeB (d - 1)) = (t.kids.drop k).all fun t => t.shapeB (d - 1)) (fun k => t.kids.length - k) 0 ⟨by omega, rfl⟩ ⟨[0], rfl, by decide, rfl, by repeat' (first | exact True.intro | exact ⟨rfl, rfl⟩ | apply And.intro), by repeat' (first | exact True.intro | exact z19 rfl rfl | apply And.intro)⟩ ?_
       intro k hk
       repeat' ((first | (apply AWP.go ok; rfl) | (apply And.intro; first | omega | (unfold inI; omega)) | (((with_reducible apply z15; omega)); intro _) | ((first | apply z8 | apply z96) <;> intro _) | (apply z12 (ih t.kids[k] (List.getElem_mem _) (hm.2 _ (List.getElem_mem _)) (d - 1) (by omega) (by omega)); rfl; rfl)) <;> conv => whnf)
       · rename_i h1
         exact z24 rfl (by rw [hk.2, z128 _ _ _ (by assumption)]; simp [h1])
       · rename_i h1
         exact z52 (k + 1) [0] ⟨by omega, by rw [hk.2, z128 _ _ _ (by assumption)]; simp [h1]⟩ (by omega) ⟨rfl, by decide, rfl, by repeat' (first | exact True.intro | exact ⟨rfl, rfl⟩ | apply And.intro), by repeat' (first | exact True.intro | exact z19 rfl rfl | apply And.intro)⟩
       · exact z24 rfl (by rw [hk.2, z123 _ _ _ (by omega)]))

/-- below a shape of depth d lie at most 2^d - 1 nodes -/
theorem countB_le (t : Tree) : ∀ d n : Nat, t.shapeB d = true → t.count n ≤ 2 ^ d - 1 := by
  induction t using Tree.ind with | h t ih => ?_
  intro d n h
  rw [shapeB_eq, Bool.and_eq_true, decide_eq_true_eq] at h
  obtain ⟨⟨h1, h2, _, _⟩, h3⟩ := h
  rw [List.all_eq_true] at h3
  obtain ⟨d, rfl⟩ : ∃ e, d = e + 1 := ⟨d - 1, by omega⟩
  have e : ((d + 1 : Nat) : Int) - 1 = (d : Nat) := by omega
  rw [e] at h3
  rw [count_eq]
  have hp : (1 : Int) ≤ 2 ^ d := by exact_mod_cast Nat.one_le_two_pow
  have hq : ((2 : Int) ^ (d + 1)) = 2 * 2 ^ d := by rw [Int.pow_succ]; omega
  split
  · rename_i hn
    obtain ⟨n, rfl⟩ : ∃ e, n = e + 1 := ⟨n - 1, by omega⟩
    have e : ((n + 1 : Nat) : Int) - 1 = (n : Nat) := by omega
    rw [e]
    have hl : (t.kids.length : Int) ≤ 2 := by rw [h2]; unfold arityB; grind
    have hk : ∀ u ∈ t.kids, u.count n ≤ 2 ^ d - 1 := fun u hu => ih u hu d n (h3 u hu)
    match hkk : t.kids with
    | [] => simp only [List.map_nil, List.sum_nil]; omega
    | [a] =>
      have := hk a (by simp [hkk])
      simp only [List.map_cons, List.map_nil, List.sum_cons, List.sum_nil]; omega
    | [a, b] =>
      have := hk a (by simp [hkk])
      have := hk b (by simp [hkk])
      simp only [List.map_cons, List.map_nil, List.sum_cons, List.sum_nil]; omega
    | a :: b :: c :: r => rw [hkk] at hl; simp only [List.length_cons] at hl; omega
  · omega

theorem countB_bound (t : Tree) (e d : Int) (he : e ≤ 50) (hd : 0 ≤ d) (h : t.shapeB e = true) : t.count d ≤ 2 ^ 50 := by
  have h1 : 1 ≤ e := by
    rw [shapeB_eq, Bool.and_eq_true, decide_eq_true_eq] at h; exact h.1.1
  obtain ⟨n, rfl⟩ := Int.eq_ofNat_of_zero_le (show 0 ≤ e by omega)
  obtain ⟨m, rfl⟩ := Int.eq_ofNat_of_zero_le hd
  have h2 := countB_le t n m h
  have h4 : (2 : Int) ^ n ≤ 2 ^ 50 := by exact_mod_cast Nat.pow_le_pow_right (by omega) (by omega)
  omega

theorem l11Count_ok (t : Tree) : t.mx → ∀ e d : Int, e ≤ 50 → 0 ≤ d → d ≤ 50 → t.shapeB e = true → CallsA Tryz.prog 143 [z49 Tree.cs' t, .int d] [] (.int (t.count d)) [] := by
  induction t using Tree.ind with | h t ih => ?_
  intro hm e d h0 h1 h2 hs
  rw [Tree.mx_iff] at hm
  rw [shapeB_eq, Bool.and_eq_true, decide_eq_true_eq, List.all_eq_true] at hs
  obtain ⟨⟨hs1, hs2, _, _⟩, hs3⟩ := hs
  have hl : (t.kids.length : Int) ≤ 2 := by rw [hs2]; unfold arityB; grind
  rw [Tree.arg_eq, count_eq]
  have hb : 0 < d → ∀ k, k ≤ t.kids.length → 0 ≤ ((t.kids.take k).map fun t => t.count (d - 1)).sum ∧ ((t.kids.take k).map fun t => t.count (d - 1)).sum ≤ k * 2 ^ 50 := by
    intro hd k
    induction k with
    | zero => intro _; simp
    | succ k ihk =>
      intro hk
      have h1 := ihk (by omega)
      rw [sum_step _ _ _ (by omega)]
      have h2 := countB_bound t.kids[k] (e - 1) (d - 1) (by omega) (by omega) (hs3 _ (List.getElem_mem _))
      have h3 := Tree.count_pos.1 t.kids[k] (d - 1)
      omega
  refine z13 z23 Tryz.func143 rfl rfl 29 Tryz.ntmps143 (by simp) ?_
  repeat' (((apply AWP.go ok; rfl)) <;> conv => whnf)
  by_cases hd : 0 < d
  · rw [if_pos hd]
    refine z71 (fun k : Nat => ([(1, .int d), (2, .ptr 0 none 0), (5, .int (1 + ((t.kids.take k).map fun t => t.count (d - 1)).sum)), (6, .int k)], [.cells 3 [[.int t.kind, .int t.val, lst 3 Tree.cs' t.kids]]])) (fun k => k ≤ t.kids.length) (fun k => t.kids.length - k) 0 (by omega) ⟨[0], rfl, by decide, rfl, by repeat' (first | exact True.intro | exact ⟨rfl, rfl⟩ | apply And.intro), by repeat' (first | exact True.intro | exact z19 rfl rfl | apply And.intro)⟩ ?_
    intro k hk
    have hbk := hb hd k hk
    have hbk1 := fun h => hb hd (k + 1) h
    have hss := fun h => sum_step (fun t => t.count (d - 1)) t.kids k h
    repeat' ((first | (apply AWP.go ok; rfl) | (apply And.intro; first | omega | (unfold inI; omega)) | (((with_reducible apply z15; omega)); intro _) | ((apply z8) <;> intro _) | (apply z12 (ih t.kids[k] (List.getElem_mem _) (hm.2 _ (List.getElem_mem _)) (e - 1) (d - 1) (by omega) (by omega) (by omega) (hs3 _ (List.getElem_mem _))); rfl; rfl)) <;> conv => whnf)
    · have e1 := hss ‹_›
      have e2 := hbk1 (by omega)
      refine And.intro (by unfold inI; omega) ?_
      conv => whnf
      repeat' ((first | (apply AWP.go ok; rfl) | (apply And.intro; (unfold inI; omega))) <;> conv => whnf)
      exact z52 (k + 1) [0] (by omega) (by omega) ⟨rfl, by decide, rfl, ⟨⟨rfl, rfl⟩, ⟨rfl, rfl⟩, ⟨rfl, by rw [e1, ← Int.add_assoc]; rfl⟩, ⟨rfl, rfl⟩, trivial⟩, ⟨z19 rfl rfl, trivial⟩⟩
    · omega
    · obtain rfl : k = t.kids.length := by omega
      exact z40 rfl rfl (by rw [List.take_length]; rfl)
  · rw [if_neg hd]
    refine z71 (fun k : Nat => ([(1, .int d), (2, .ptr 0 none 0), (5, .int 1), (6, .int k)], [.cells 3 [[.int t.kind, .int t.val, lst 3 Tree.cs' t.kids]]])) (fun k => k ≤ t.kids.length) (fun k => t.kids.length - k) 0 (by omega) ⟨[0], rfl, by decide, rfl, by repeat' (first | exact True.intro | exact ⟨rfl, rfl⟩ | apply And.intro), by repeat' (first | exact True.intro | exact z19 rfl rfl | apply And.intro)⟩ ?_
    intro k hk
    repeat' ((first | (apply AWP.go ok; rfl) | (apply And.intro; omega) | (((with_reducible apply z15; omega)); intro _) | ((apply z8) <;> intro _)) <;> conv => whnf)
    · omega
    · exact z40 rfl rfl rfl
    · exact z40 rfl rfl rfl

theorem specBrValid_ok (t : Tree) (hm : t.mx) : CallsA Tryz.prog 60 [z49 Tree.cs' t] [] (.bool t.brB) [] := by
  rw [Tree.brB_eq]
  refine z13 z23 Tryz.func60 rfl rfl 10 Tryz.ntmps60 (by simp) ?_
  repeat' ((first | (apply AWP.go ok; rfl) | ((apply z83) <;> intro _) | (apply z12 (l11Shape_ok t hm 6 (by omega) (by omega)); rfl; rfl) | (apply z12 (l11Count_ok t hm 6 6 (by omega) (by omega) (by omega) (by assumption)); rfl; rfl)) <;> conv => whnf)
  all_goals (refine z24 rfl ?_; (simp [*]; done))

end Go.Proofs.YtppafngcahgagaaGreat

namespace Go.Proofs.YtppafngcahgagaaGreat
open Go.Gl
attribute [local irreducible] z31 AWP z50 z58 z55 RetS z87

set_option maxHeartbeats 1600000 in
theorem l11Random_ok (bs : List Int) (hb : BytesOk bs) : ∀ (n : Nat) (d p : Int), d ≤ n + 1 → n ≤ 100 → 0 ≤ d → 0 ≤ p → p + drK n ≤ 1000000000 → ∃ (t : Tree) (p' : Int), (t.sz ≤ drS n ∧ p ≤ p' ∧ p' ≤ p + drK n) ∧ CallsA Tryz.prog 113 [.ptr 0 none 0, .int d] [rdO bs p] (z49 Tree.cs' t) [rdO bs p'] := by
  intro n
  induction n with
  | zero =>
    intro d p hd hd1 hd0 hp hq
    rw [drK] at hq ⊢
    obtain ⟨v0, ⟨l0, u0⟩, c0⟩ := z66 bs hb p 8 (by omega) (by omega) (by omega)
    by_cases h0 : v0 = 0
    · subst h0
      refine ⟨leaf 1 0, p + 1, ⟨by rw [z78]; omega, by omega, by omega⟩, ?_⟩
      refine z18 z23 Tryz.func113 rfl rfl 43 Tryz.ntmps113 (by simp) ?_
      repeat' ((first | (apply AWP.go ok; rfl) | ((apply z8) <;> intro _) | (((apply z11 [0] [] [] (c0); rfl; (focus ((repeat' first | exact z6 | apply z7) <;> rfl)))); rfl; rfl; rfl; rfl; rfl; (focus ((repeat' first | exact z17 | apply z14) <;> exact z27 rfl rfl)); (exact .inl rfl))) <;> conv => whnf)
      all_goals first | (exfalso; omega) | skip
      all_goals (refine RetS.lay [0] [] rfl rfl rfl ?_; refine RetS.done ?_ ?_ <;> (repeat' (first | exact LocLe.refl _ | exact z44 | exact F2.nil | apply F2.cons | apply ObjLe.box | apply z62)))
    · obtain ⟨v1, m1, c1⟩ := z90 bs hb (p + 1) (by omega) (by omega) [0, 1, 0, 2] (by decide) (by decide)
      refine ⟨leaf 2 v1, p + 1 + 1, ⟨by rw [z78]; omega, by omega, by omega⟩, ?_⟩
      refine z18 z23 Tryz.func113 rfl rfl 43 Tryz.ntmps113 (by simp) ?_
      repeat' ((first | (apply AWP.go ok; rfl) | ((apply z8) <;> intro _) | ((first | (apply z11 [0] [] [] (c0); rfl; (focus ((repeat' first | exact z6 | apply z7) <;> rfl))) | (apply z11 [0, 2] [] [] (c1); rfl; (focus ((repeat' first | exact z6 | apply z7) <;> rfl)))); rfl; rfl; rfl; rfl; rfl; (focus ((repeat' first | exact z17 | apply z14) <;> first | exact z27 rfl rfl | (refine z26 ?_; ((exact z10 fun _ => rfl))))); (exact .inl rfl))) <;> conv => whnf)
      all_goals first | (exfalso; omega) | skip
      all_goals (refine RetS.lay [0] [] rfl rfl rfl ?_; refine RetS.done ?_ ?_ <;> (repeat' (first | exact LocLe.refl _ | exact z44 | exact F2.nil | apply F2.cons | apply ObjLe.box | apply z62)))
  | succ n ih =>
    intro d p hd hd1 hd0 hp hq
    have hK := drK_pos n
    by_cases hlt : d < 2
    · obtain ⟨t, p', h1, h2⟩ := ih d p (by omega) (by omega) hd0 hp (by rw [drK] at hq; omega)
      exact ⟨t, p', ⟨by rw [drS]; omega, h1.2.1, by rw [drK]; omega⟩, h2⟩
    rw [drK] at hq
    rw [drK, drS]
    obtain ⟨w, ⟨lw, uw⟩, cw⟩ := z66 bs hb p 5 (by omega) (by omega) (by omega)
    by_cases hw : w = 0
    · subst hw
      obtain ⟨v0, ⟨l0, u0⟩, c0⟩ := z66 bs hb (p + 1) 8 (by omega) (by omega) (by omega)
      by_cases h0 : v0 = 0
      · subst h0
        refine ⟨leaf 1 0, p + 1 + 1, ⟨by rw [z78]; omega, by omega, by omega⟩, ?_⟩
        refine z18 z23 Tryz.func113 rfl rfl 43 Tryz.ntmps113 (by simp) ?_
        repeat' ((first | (apply AWP.go ok; rfl) | ((apply z8) <;> intro _) | ((first | (apply z11 [0] [] [] (cw); rfl; (focus ((repeat' first | exact z6 | apply z7) <;> rfl))) | (apply z11 [0] [] [] (c0); rfl; (focus ((repeat' first | exact z6 | apply z7) <;> rfl)))); rfl; rfl; rfl; rfl; rfl; (focus ((repeat' first | exact z17 | apply z14) <;> exact z27 rfl rfl)); (exact .inl rfl))) <;> conv => whnf)
        all_goals first | (exfalso; omega) | skip
        all_goals (refine RetS.lay [0] [] rfl rfl rfl ?_; refine RetS.done ?_ ?_ <;> (repeat' (first | exact LocLe.refl _ | exact z44 | exact F2.nil | apply F2.cons | apply ObjLe.box | apply z62)))
      · obtain ⟨v1, m1, c1⟩ := z90 bs hb (p + 1 + 1) (by omega) (by omega) [0, 1, 0, 2] (by decide) (by decide)
        refine ⟨leaf 2 v1, p + 1 + 1 + 1, ⟨by rw [z78]; omega, by omega, by omega⟩, ?_⟩
        refine z18 z23 Tryz.func113 rfl rfl 43 Tryz.ntmps113 (by simp) ?_
        repeat' ((first | (apply AWP.go ok; rfl) | ((apply z8) <;> intro _) | ((first | (apply z11 [0] [] [] (cw); rfl; (focus ((repeat' first | exact z6 | apply z7) <;> rfl))) | (apply z11 [0] [] [] (c0); rfl; (focus ((repeat' first | exact z6 | apply z7) <;> rfl))) | (apply z11 [0, 2] [] [] (c1); rfl; (focus ((repeat' first | exact z6 | apply z7) <;> rfl)))); rfl; rfl; rfl; rfl; rfl; (focus ((repeat' first | exact z17 | apply z14) <;> first | exact z27 rfl rfl | (refine z26 ?_; ((exact z10 fun _ => rfl))))); (exact .inl rfl))) <;> conv => whnf)
        all_goals first | (exfalso; omega) | skip
        all_goals (refine RetS.lay [0] [] rfl rfl rfl ?_; refine RetS.done ?_ ?_ <;> (repeat' (first | exact LocLe.refl _ | exact z44 | exact F2.nil | apply F2.cons | apply ObjLe.box | apply z62)))
    · obtain ⟨kd, mk, ck⟩ := z90 bs hb (p + 1) (by omega) (by omega) [7, 10, 8, 11, 6, 9, 3, 4, 5] (by decide) (by decide)
      have ca := l11Arity_ok kd
      have ham : ∃ m : Nat, arityB kd = m ∧ m ≤ 2 := by
        simp only [List.mem_cons, List.not_mem_nil, or_false] at mk
        unfold arityB
        rcases mk with rfl | rfl | rfl | rfl | rfl | rfl | rfl | rfl | rfl
        all_goals first | exact ⟨2, rfl, by omega⟩ | exact ⟨1, rfl, by omega⟩
      obtain ⟨m, em, hm⟩ := ham
      rw [em] at ca
      obtain ⟨ks, pf, hks, hp0, hst, hpf⟩ := seq_ex (fun k q (t : Tree) q' => t.sz ≤ drS n ∧ CallsA Tryz.prog 113 [.ptr 0 none 0, .int (d - 1)] [rdO bs q] (z49 Tree.cs' t) [rdO bs q']) (p + 1 + 1) (drK n) m (fun k q hk h1 h2 => by
        have : drK n * k ≤ drK n := by
          have : k = 0 ∨ k = 1 := by omega
          rcases this with rfl | rfl <;> simp <;> omega
        obtain ⟨t, q', ⟨a1, a2, a3⟩, a4⟩ := ih (d - 1) q (by omega) (by omega) (by omega) (by omega) (by omega)
        exact ⟨t, q', ⟨a1, a4⟩, a2, a3⟩)
      have hpm := hpf m (Nat.le_refl _)
      have hKm : drK n * m ≤ 2 * drK n := by
        have : m = 0 ∨ m = 1 ∨ m = 2 := by omega
        rcases this with rfl | rfl | rfl <;> simp <;> omega
      have hsum : (ks.map Tree.sz).sum ≤ 2 * drS n := by
        have : ∀ (l : List Tree), (∀ t ∈ l, t.sz ≤ drS n) → (l.map Tree.sz).sum ≤ l.length * drS n := by
          intro l
          induction l with
          | nil => intro _; simp
          | cons t l ih =>
            intro h
            have h1 := h t (by simp)
            have h2 := ih fun u hu => h u (by simp [hu])
            simp only [List.map_cons, List.sum_cons, List.length_cons, Nat.add_mul]
            omega
        have h1 := this ks fun t ht => by
          obtain ⟨i, hi, rfl⟩ := List.mem_iff_getElem.1 ht
          exact (hst i hi).1
        have h2 : ks.length * drS n ≤ 2 * drS n := Nat.mul_le_mul_right _ (by omega)
        omega
      refine ⟨.mk kd 0 ks, pf m, ⟨by rw [mk_sz]; omega, by omega, by omega⟩, ?_⟩
      refine z18 z23 Tryz.func113 rfl rfl 43 Tryz.ntmps113 (by simp) ?_
      rw [← hp0] at ck
      repeat' ((first | (apply AWP.go ok; rfl) | ((apply z8) <;> intro _) | (apply z12 (ca); rfl; rfl) | ((first | (apply z11 [0] [] [] (cw); rfl; (focus ((repeat' first | exact z6 | apply z7) <;> rfl))) | (apply z11 [0, 2] [] [] (ck); rfl; (focus ((repeat' first | exact z6 | apply z7) <;> rfl)))); rfl; rfl; rfl; rfl; rfl; (focus ((repeat' first | exact z17 | apply z14) <;> first | exact z27 rfl rfl | (refine z26 ?_; ((exact z10 fun _ => rfl))))); (exact .inl rfl))) <;> conv => whnf)
      all_goals first | (exfalso; omega) | skip
      refine AWP.reach (Reach.empty 3 rfl) ?_
      refine z119 (fun k : Nat => ([(0, .ptr 0 none 0), (1, .int d), (4, .ptr 1 none 0), (5, .ptr 2 none 0), (6, .int (m - k))], [rdO bs (pf k), .cells 3 [[.int 0, .int 0, .nils]], .cells 3 [[.int kd, .int 0, .sref 3 0 k]], .cells 3 ((ks.take k).map Tree.cs')])) (fun k => k ≤ m) (fun k => m - k) 0 (by omega) (by refine SealW.reach [0, 1, 3, 4] [] rfl rfl rfl rfl ?_ ?_ <;> (repeat' (first | exact LocLe.refl _ | exact z85 | exact F2.nil | apply F2.cons | apply ObjLe.box | ((refine z34 rfl ?_ ?_); (focus ((repeat' (exact z65)); done))) | exact True.intro | apply And.intro))) ?_
      intro k hk
      by_cases hkm : k < m
      · have hc := (hst k (by omega)).2
        have hkl : k < ks.length := by omega
        rw [Tree.arg_eq] at hc
        repeat' ((first | (apply AWP.go ok; rfl) | (apply z37; kernel_rfl) | (apply And.intro; first | (unfold inI; omega) | ((try dsimp only); simp only [List.length_map, List.length_take, List.length_append, List.length_replicate, List.length_cons, List.length_nil]; omega) | exact ⟨rfl, z30 rfl z33⟩) | ((apply z8) <;> intro _) | (((apply z11 [0] [] [] (hc); rfl; (focus ((repeat' first | exact z6 | apply z7) <;> rfl)))); rfl; rfl; rfl; rfl; rfl; (focus ((repeat' first | exact z17 | apply z14) <;> exact z27 rfl rfl)); (exact .inl rfl))) <;> conv => whnf)
        all_goals first | (exfalso; omega) | skip
        refine z63 (k + 1) (by omega) (by omega) (by refine SealW.reach [0, 1, 2, 5] [] rfl rfl rfl rfl ?_ ?_ <;> (repeat' (first | exact LocLe.refl _ | exact F2.nil | apply F2.cons | exact f22_cs | (refine int_le ?_; omega) | apply ObjLe.box | ((refine z48 rfl ?_ ?_); (focus ((repeat' (first | exact z10 (fun _ => rfl) | apply z38)); done))) | (refine z105 (by omega) (by omega) ?_) | (apply z86; rfl) | exact True.intro | apply And.intro)))
      · have : k = m := by omega
        subst this
        repeat' ((first | (apply AWP.go ok; rfl) | (apply And.intro; omega) | ((apply z8) <;> intro _)) <;> conv => whnf)
        all_goals first | (exfalso; omega) | skip
        all_goals (refine RetS.lay [0] [3] rfl rfl rfl ?_; refine RetS.done ?_ ?_ <;> (repeat' (first | exact LocLe.refl _ | exact F2.nil | apply F2.cons | (refine kids_end_le ?_; omega) | apply ObjLe.box | ((apply z47 rfl rfl rfl); (focus ((repeat ((exact z42 (fun _ => rfl) _))); done)); (focus (((simp; omega)); done))) | apply z62)))

theorem l11Formula_ok (bs : List Int) (hb : BytesOk bs) (p : Int) (hp : few p) : ∃ (t : Tree) (p' : Int), (t.sz ≤ 20 ∧ p ≤ p' ∧ p' ≤ p + 100) ∧ CallsA Tryz.prog 51 [.ptr 0 none 0] [rdO bs p] (z49 Tree.cs' t) [rdO bs p'] := by
  obtain ⟨d, md, cd⟩ := z90 bs hb p (by omega) (by omega) [3, 2, 4, 3] (by decide) (by decide)
  have hd : 0 ≤ d ∧ d ≤ 4 := by simp at md; omega
  obtain ⟨t, q, ⟨t1, t2, t3⟩, ct⟩ := l11Random_ok bs hb 3 d (p + 1) (by omega) (by omega) (by omega) (by omega) (by simp only [drK]; omega)
  simp only [drK] at t3
  simp only [drS] at t1
  have cv := specBrValid_ok t (mx_of_sz t (by unfold maxLen; omega))
  by_cases hv : t.brB = true
  · refine ⟨t, q, ⟨by omega, by omega, by omega⟩, ?_⟩
    rw [hv] at cv
    rw [Tree.arg_eq] at *
    refine z18 z23 Tryz.func51 rfl rfl 15 Tryz.ntmps51 (by simp) ?_
    repeat' ((first | (apply AWP.go ok; rfl) | (apply z12 (cv); rfl; rfl) | ((first | (apply z11 [0, 2] [] [] (cd); rfl; (focus ((repeat' first | exact z6 | apply z7) <;> rfl))) | (apply z11 [0] [] [] (ct); rfl; (focus ((repeat' first | exact z6 | apply z7) <;> rfl)))); rfl; rfl; rfl; rfl; rfl; (focus ((repeat' first | exact z17 | apply z14) <;> first | exact z27 rfl rfl | (refine z26 ?_; ((exact z10 fun _ => rfl))))); (exact .inl rfl))) <;> conv => whnf)
    all_goals skip
    all_goals (refine RetS.lay [0] [] rfl rfl rfl ?_; refine RetS.done ?_ ?_ <;> (repeat' (first | exact LocLe.refl _ | exact F2.nil | apply F2.cons | apply ObjLe.box)))
  · refine ⟨.mk 8 0 [leaf 2 0], q, ⟨by rw [mk_sz]; simp [z78], by omega, by omega⟩, ?_⟩
    rw [(Bool.not_eq_true _).mp hv] at cv
    rw [Tree.arg_eq] at cv ct
    refine z18 z23 Tryz.func51 rfl rfl 15 Tryz.ntmps51 (by simp) ?_
    repeat' ((first | (apply AWP.go ok; rfl) | (apply z12 (cv); rfl; rfl) | ((first | (apply z11 [0, 2] [] [] (cd); rfl; (focus ((repeat' first | exact z6 | apply z7) <;> rfl))) | (apply z11 [0] [] [] (ct); rfl; (focus ((repeat' first | exact z6 | apply z7) <;> rfl)))); rfl; rfl; rfl; rfl; rfl; (focus ((repeat' first | exact z17 | apply z14) <;> first | exact z27 rfl rfl | (refine z26 ?_; ((exact z10 fun _ => rfl))))); (exact .inl rfl))) <;> conv => whnf)
    all_goals skip
    all_goals (refine RetS.lay [0] [4] rfl rfl rfl ?_; refine RetS.done ?_ ?_ <;> (repeat' (first | exact LocLe.refl _ | exact z44 | exact F2.nil | apply F2.cons | apply ObjLe.box | ((apply z47 rfl rfl rfl); (focus ((repeat (rfl)); done)); (focus ((rfl); done))) | apply z62 | (apply z86; rfl))))
end Go.Proofs.YtppafngcahgagaaGreat

namespace Go.Proofs.YtppafngcahgagaaGreat
open Go.Gl
attribute [local irreducible] z31 AWP z50 z58 z55 RetS z87

theorem l11Copy_new (t : Tree) (h : t.sz ≤ 1000000) : CallsA Tryz.prog 112 [z49 Tree.cs' t] [] (ownT t) [.cells 3 (t.kids.map Tree.cs')] := by
  induction t using Tree.ind with | h t ih => ?_
  have hkl : t.kids.length ≤ 1000000 := by rw [Tree.sz_eq] at h; omega
  have hks : ∀ u ∈ t.kids, u.sz ≤ 1000000 := fun u hu => by
    have := le_sum Tree.sz hu
    rw [Tree.sz_eq] at h; omega
  rw [Tree.arg_eq t]
  obtain ⟨k, v, l⟩ := t
  simp only [Tree.kind, Tree.val, Tree.kids] at *
  have hcs : ∀ (i : Nat) (hi : i < l.length), CallsA Tryz.prog 112 [z49 Tree.cs' l[i]] [] (z49 Tree.cs' l[i]) [] := fun i hi =>
    own_data (ih _ (List.getElem_mem _) (hks _ (List.getElem_mem _)))
  unfold ownT
  simp only [Tree.kind, Tree.val, Tree.kids] at *
  refine z18 z23 Tryz.func112 rfl rfl 29 Tryz.ntmps112 (by simp) ?_
  repeat' (((apply AWP.go ok; rfl)) <;> conv => whnf)
  all_goals skip
  refine AWP.reach (Reach.empty 3 rfl) ?_
  refine z119 (fun i : Nat => ([(1, .ptr 0 none 0), (2, .ptr 1 none 0), (3, .ptr 2 none 0), (4, .int i)], [.cells 3 [[.int k, .int v, lst 3 Tree.cs' l]], .cells 3 [[.int 0, .int 0, .nils]], .cells 3 [[.int k, .int v, .sref 3 0 i]], .cells 3 ((l.take i).map Tree.cs')])) (fun i => i ≤ l.length) (fun i => l.length - i) 0 (by omega) (by refine SealW.reach [0, 1, 2, 3] [] rfl rfl rfl rfl ?_ ?_ <;> (repeat' (first | exact LocLe.refl _ | exact z85 | exact F2.nil | apply F2.cons | apply ObjLe.box | ((refine z34 rfl ?_ ?_); (focus ((repeat' (exact z65)); done))) | exact True.intro | apply And.intro))) ?_
  intro i hi
  by_cases hil : i < l.length
  · have hc := hcs i hil
    repeat' ((first | (apply AWP.go ok; rfl) | (apply z37; kernel_rfl) | (apply And.intro; first | omega | (unfold inI; omega) | ((try dsimp only); simp only [List.length_map, List.length_take, List.length_append, List.length_replicate, List.length_cons, List.length_nil]; omega) | exact ⟨rfl, z30 rfl z33⟩) | (((with_reducible apply z15; omega)); intro _) | ((apply z8) <;> intro _) | (apply z12 (hc); rfl; rfl)) <;> conv => whnf)
    all_goals first | (exfalso; omega) | skip
    refine z63 (i + 1) (by omega) (by omega) (by refine SealW.reach [0, 1, 2, 5] [] rfl rfl rfl rfl ?_ ?_ <;> (repeat' (first | exact LocLe.refl _ | exact F2.nil | apply F2.cons | apply ObjLe.box | ((refine z48 rfl ?_ ?_); (focus ((repeat' (first | exact z10 (fun _ => rfl) | apply z38)); done))) | (refine z105 (by omega) (by omega) ?_) | exact True.intro | apply And.intro)))
  · have e : i = l.length := by omega
    subst e
    rw [List.take_length]
    repeat' ((first | (apply AWP.go ok; rfl) | (apply And.intro; omega) | (((with_reducible apply z15; omega)); intro _) | ((apply z8) <;> intro _)) <;> conv => whnf)
    all_goals first | (exfalso; omega) | skip
    all_goals (refine RetS.lay [3] [] rfl rfl rfl ?_; refine RetS.done ?_ ?_ <;> (repeat' (first | exact LocLe.refl _ | exact F2.nil | apply F2.cons | exact z35 _ | ((refine z34 rfl ?_ ?_); (focus ((repeat' ((exact z10 (fun _ => rfl)))); done))))))

set_option maxHeartbeats 1600000 in
theorem l11Mutate_ok (bs : List Int) (hb : BytesOk bs) (p : Int) (hp : few p) (t : Tree) (ht : t.sz ≤ 1000) : ∃ (t' : Tree) (p' : Int), (t'.sz ≤ t.sz + 1 ∧ p ≤ p' ∧ p' ≤ p + 2) ∧ CallsA Tryz.prog 50 [.ptr 0 none 0, z49 Tree.cs' t] [rdO bs p] (z49 Tree.cs' t') [rdO bs p'] := by
  have cs := l11Copy_new t (by omega)
  obtain ⟨u, hu⟩ : ∃ u, u = t := ⟨t, rfl⟩
  have hsz : u.sz ≤ t.sz := by rw [hu]; exact Nat.le_refl _
  have cs : CallsA Tryz.prog 112 [z49 Tree.cs' t] [] (ownT u) [.cells 3 (u.kids.map Tree.cs')] := by rw [hu]; exact cs
  clear hu
  have hul : u.kids.length ≤ 1000 := by rw [Tree.sz_eq] at hsz; omega
  obtain ⟨v, ⟨lv, uv⟩, cv⟩ := z66 bs hb p 50 (by omega) (by omega) (by omega)
  rw [Tree.arg_eq t]
  rw [Tree.arg_eq t] at cs
  unfold ownT at cs
  by_cases h0 : v = 0
  · subst h0
    obtain ⟨k, mk, ck⟩ := z90 bs hb (p + 1) (by omega) (by omega) [0, 12, -1, 2, 3, 4] (by decide) (by decide)
    refine ⟨.mk k u.val u.kids, p + 1 + 1, ⟨by rw [mk_sz]; rw [Tree.sz_eq] at hsz; omega, by omega, by omega⟩, ?_⟩
    refine z18 z23 Tryz.func50 rfl rfl 34 Tryz.ntmps50 (by simp) ?_
    repeat' ((first | (apply AWP.go ok; rfl) | ((first | (apply z11 [] [] [3] (cs); rfl; (focus ((repeat' exact z6) <;> fail))) | (apply z11 [0] [] [] (cv); rfl; (focus ((repeat' first | exact z6 | apply z7) <;> rfl))) | (apply z11 [0, 5] [] [] (ck); rfl; (focus ((repeat' first | exact z6 | apply z7) <;> rfl)))); rfl; rfl; rfl; rfl; rfl; (focus ((repeat' first | exact z17 | apply z14) <;> first | exact z27 rfl rfl | (refine z26 ?_; ((exact z10 fun _ => rfl))))); (exact .inl rfl))) <;> conv => whnf)
    all_goals skip
    all_goals (refine RetS.lay [0] [3] rfl rfl rfl ?_; refine RetS.done ?_ ?_ <;> (repeat' (first | exact LocLe.refl _ | exact F2.nil | apply F2.cons | exact f22_cs | apply ObjLe.box | ((apply z47 rfl rfl rfl); (focus ((repeat ((exact z42 (fun _ => rfl) _))); done)); (focus (((simp; done)); done))) | apply z62 | (apply z86; rfl))))
  by_cases h1 : v = 1
  · subst h1
    obtain ⟨k, mk, ck⟩ := z90 bs hb (p + 1) (by omega) (by omega) [-1, 3, 2, 9223372036854775807] (by decide) (by decide)
    refine ⟨.mk u.kind k u.kids, p + 1 + 1, ⟨by rw [mk_sz]; rw [Tree.sz_eq] at hsz; omega, by omega, by omega⟩, ?_⟩
    refine z18 z23 Tryz.func50 rfl rfl 34 Tryz.ntmps50 (by simp) ?_
    repeat' ((first | (apply AWP.go ok; rfl) | ((first | (apply z11 [] [] [3] (cs); rfl; (focus ((repeat' exact z6) <;> fail))) | (apply z11 [0] [] [] (cv); rfl; (focus ((repeat' first | exact z6 | apply z7) <;> rfl))) | (apply z11 [0, 5] [] [] (ck); rfl; (focus ((repeat' first | exact z6 | apply z7) <;> rfl)))); rfl; rfl; rfl; rfl; rfl; (focus ((repeat' first | exact z17 | apply z14) <;> first | exact z27 rfl rfl | (refine z26 ?_; ((exact z10 fun _ => rfl))))); (exact .inl rfl))) <;> conv => whnf)
    all_goals skip
    all_goals (refine RetS.lay [0] [3] rfl rfl rfl ?_; refine RetS.done ?_ ?_ <;> (repeat' (first | exact LocLe.refl _ | exact F2.nil | apply F2.cons | exact f22_cs | apply ObjLe.box | ((apply z47 rfl rfl rfl); (focus ((repeat ((exact z42 (fun _ => rfl) _))); done)); (focus (((simp; done)); done))) | apply z62 | (apply z86; rfl))))
  by_cases h2 : v = 2
  · subst h2
    refine ⟨.mk u.kind u.val (u.kids ++ [leaf 1 0]), p + 1, ⟨by rw [mk_sz]; rw [Tree.sz_eq] at hsz; simp [z78]; omega, by omega, by omega⟩, ?_⟩
    refine z18 z23 Tryz.func50 rfl rfl 34 Tryz.ntmps50 (by simp) ?_
    repeat' ((first | (apply AWP.go ok; rfl) | (apply And.intro; first | ((try dsimp only); simp only [List.length_map, List.length_take, List.length_append, List.length_replicate, List.length_cons, List.length_nil]; omega) | exact ⟨rfl, z30 rfl z33⟩) | ((first | (apply z11 [] [] [3] (cs); rfl; (focus ((repeat' exact z6) <;> fail))) | (apply z11 [0] [] [] (cv); rfl; (focus ((repeat' first | exact z6 | apply z7) <;> rfl)))); rfl; rfl; rfl; rfl; rfl; (focus ((repeat' first | exact z17 | apply z14) <;> first | exact z27 rfl rfl | (refine z26 ?_; ((exact z10 fun _ => rfl))))); (exact .inl rfl))) <;> conv => whnf)
    all_goals skip
    all_goals (refine RetS.lay [0] [6] rfl rfl rfl ?_; refine RetS.done ?_ ?_ <;> (repeat' (first | exact LocLe.refl _ | exact F2.nil | apply F2.cons | apply ObjLe.box | ((apply z47 rfl rfl rfl); (focus ((repeat (first | exact z42 (fun _ => rfl) _ | apply unown_app | apply unown_tk | rfl)); done)); (focus (((simp; done)); done))) | apply z62)))
    all_goals exact snoc_tree rfl rfl (node_le' z44)
  by_cases h3 : v = 3
  · subst h3
    refine ⟨leaf 0 0, p + 1, ⟨by rw [z78]; omega, by omega, by omega⟩, ?_⟩
    refine z18 z23 Tryz.func50 rfl rfl 34 Tryz.ntmps50 (by simp) ?_
    repeat' ((first | (apply AWP.go ok; rfl) | ((first | (apply z11 [] [] [3] (cs); rfl; (focus ((repeat' exact z6) <;> fail))) | (apply z11 [0] [] [] (cv); rfl; (focus ((repeat' first | exact z6 | apply z7) <;> rfl)))); rfl; rfl; rfl; rfl; rfl; (focus ((repeat' first | exact z17 | apply z14) <;> first | exact z27 rfl rfl | (refine z26 ?_; ((exact z10 fun _ => rfl))))); (exact .inl rfl))) <;> conv => whnf)
    all_goals skip
    all_goals (refine RetS.lay [0] [] rfl rfl rfl ?_; refine RetS.done ?_ ?_ <;> (repeat' (first | exact LocLe.refl _ | exact z44 | exact F2.nil | apply F2.cons | apply ObjLe.box | apply z62)))
  · refine ⟨.mk u.kind u.val u.kids, p + 1, ⟨by rw [mk_sz]; rw [Tree.sz_eq] at hsz; omega, by omega, by omega⟩, ?_⟩
    refine z18 z23 Tryz.func50 rfl rfl 34 Tryz.ntmps50 (by simp) ?_
    repeat' ((first | (apply AWP.go ok; rfl) | (apply And.intro; omega) | ((apply z8) <;> intro _) | ((first | (apply z11 [] [] [3] (cs); rfl; (focus ((repeat' exact z6) <;> fail))) | (apply z11 [0] [] [] (cv); rfl; (focus ((repeat' first | exact z6 | apply z7) <;> rfl)))); rfl; rfl; rfl; rfl; rfl; (focus ((repeat' first | exact z17 | apply z14) <;> first | exact z27 rfl rfl | (refine z26 ?_; ((exact z10 fun _ => rfl))))); (exact .inl rfl))) <;> conv => whnf)
    all_goals first | (exfalso; omega) | skip
    all_goals (refine RetS.lay [0] [3] rfl rfl rfl ?_; refine RetS.done ?_ ?_ <;> (repeat' (first | exact LocLe.refl _ | exact F2.nil | apply F2.cons | exact f22_cs | apply ObjLe.box | ((apply z47 rfl rfl rfl); (focus ((repeat ((exact z42 (fun _ => rfl) _))); done)); (focus (((simp; done)); done))) | apply z62 | (apply z86; rfl))))
end Go.Proofs.YtppafngcahgagaaGreat

namespace Go.Proofs.YtppafngcahgagaaGreat
open Go.Gl
attribute [local irreducible] z31 AWP z50 z58 z55 RetS z87

theorem drawBr_ok (bs : List Int) (hb : CodeOk bs) : ∃ (g : Graph) (l : List Tree) (f : Tree), (g.d ∧ Lab.d l ∧ f.sz ≤ 21) ∧ CallsA Tryz.prog 15 [lst 1 enU bs] [] (.tup [.agg g.cs, lst 3 Tree.cs' l, z49 Tree.cs' f]) [] := by
  have co := l16Open_ok bs hb.len
  obtain ⟨l, p1, ⟨a1, a2, a3, a4⟩, c1⟩ := l8Labels_ok (bs.take 2000) hb.take 0 ⟨by omega, by omega⟩
  obtain ⟨f0, p2, ⟨b1, b2, b3⟩, c2⟩ := l11Formula_ok (bs.take 2000) hb.take p1 ⟨by omega, by omega⟩
  obtain ⟨f, p3, ⟨d1, d2, d3⟩, c3⟩ := l11Mutate_ok (bs.take 2000) hb.take p2 ⟨by omega, by omega⟩ f0 (by omega)
  obtain ⟨g0, g, p4, p5, c4, c5, hg, _, _⟩ := mutG_ok (bs.take 2000) hb.take p3 ⟨by omega, by omega⟩
  refine ⟨g, l, f, ⟨hg, ⟨a1, a2⟩, by omega⟩, ?_⟩
  generalize bs.take 2000 = b0 at *
  rw [Tree.arg_eq] at c2 c3 c3 ⊢
  refine z18 z23 Tryz.func15 rfl rfl 22 Tryz.ntmps15 (by simp) ?_
  repeat' ((first | (apply AWP.go ok; rfl) | (apply z37; kernel_rfl) | ((first | (apply z11 [] [] [2] (co); rfl; (focus ((repeat' exact z6) <;> fail))) | (apply z11 [2] [] [] (c1); rfl; (focus ((repeat' first | exact z6 | apply z7) <;> rfl))) | (apply z11 [2] [] [] (c2); rfl; (focus ((repeat' first | exact z6 | apply z7) <;> rfl))) | (apply z11 [2] [] [] (c3); rfl; (focus ((repeat' first | exact z6 | apply z7) <;> rfl))) | (apply z11 [2] [] [] (c4); rfl; (focus ((repeat' first | exact z6 | apply z7) <;> rfl))) | (apply z11 [2] [] [] (c5); rfl; (focus ((repeat' first | exact z6 | apply z7) <;> rfl)))); rfl; rfl; rfl; rfl; rfl; (focus ((repeat' first | exact z17 | apply z14) <;> exact z27 rfl rfl)); (exact .inl rfl))) <;> conv => whnf)
  all_goals (refine RetS.lay [] [] rfl rfl rfl ?_; refine RetS.done ?_ ?_ <;> (repeat' (first | exact LocLe.refl _ | exact F2.nil)))
end Go.Proofs.YtppafngcahgagaaGreat

namespace Go.Proofs.YtppafngcahgagaaGreat
open Go.Gl
section
attribute [local irreducible] z31


end
end Go.Proofs.YtppafngcahgagaaGreat

namespace Go.Proofs.YtppafngcahgagaaGreat
open Go.Gl
attribute [local irreducible] z31 AWP z50 z58 z55

def encBL (l : List Bool) : List AC := [lst 1 enB l]
set_option maxHeartbeats 1600000 in
theorem fix2_ok (c1 c2 : List AC) (g : Graph) (hn : g.st.length ≤ 1048576) (s : Bool) (H : Nat → List Bool → Bool) (hm : MonoB s H g.st.length) (f : FuncId) (hf : ∀ (i : Nat) (S : List Bool), i < g.st.length → S.length = g.st.length → CallsA Tryz.prog f [.int i, lst 1 enB S, .pt c1, .pt c2] [] (.bool (H i S)) []) : CallsA Tryz.prog 63 [.agg g.cs, .bool s, .fn (.func f) [] [.pt c1, .pt c2]] [] (.sref 0 0 g.st.length) [.cells 1 ((lim s H g.st.length).map enB)] := by
  generalize hN : g.st.length = N at *
  refine z13 z23 Tryz.func63 rfl rfl 48 Tryz.ntmps63 (by simp) ?_
  repeat' ((first | (apply AWP.go ok; rfl) | (apply And.intro; (dsimp only; omega))) <;> conv => whnf)
  refine z71 (fun i : Nat => ([(1, .bool s), (2, .fn (.func f) [] [.pt c1, .pt c2]), (7, .sref 0 0 N), (17, .int N), (18, .int i)], [.cells 1 (mixL (fun _ => enB s) (List.replicate N [AC.bool false]) i)])) (fun i => i ≤ N) (fun i => N - i) 0 (by omega) ⟨[1], rfl, by decide, rfl, ⟨⟨rfl, rfl⟩, ⟨rfl, rfl⟩, ⟨rfl, by simp only [← hN]; rfl⟩, ⟨rfl, by simp only [← hN]; rfl⟩, ⟨rfl, rfl⟩, trivial⟩, ⟨z16 (z25 (by rw [mixL_zero, ← hN]; rfl)) (z43 (z10 fun _ => rfl) fun e he => z36 rfl e (List.mem_of_mem_drop he)), trivial⟩⟩ ?_
  intro i hi
  by_cases hil : i < N
  · have hg : (mixL (fun _ => enB s) (List.replicate N [AC.bool false]) i)[i]? = some [AC.bool false] := by
      unfold mixL
      rw [List.getElem?_append_right (by simp)]
      simp only [List.length_map, List.length_range, Nat.sub_self]
      rw [List.getElem?_drop, Nat.add_zero, List.getElem?_replicate, if_pos hil]
    repeat' ((first | (apply AWP.go ok; rfl) | (refine z21 (i := i) rfl hg ?_) | (apply And.intro; first | omega | (unfold inI; omega)) | ((apply z8) <;> intro _)) <;> conv => whnf)
    all_goals first | (exfalso; omega) | skip
    exact z52 (i + 1) [0] (by omega) (by omega) ⟨rfl, by decide, rfl, ⟨⟨rfl, rfl⟩, ⟨rfl, rfl⟩, ⟨rfl, rfl⟩, ⟨rfl, rfl⟩, ⟨rfl, rfl⟩, trivial⟩, ⟨z16 (z25 (mixL_set (by simpa using hil) (Int.toNat_natCast i) rfl)) (z43 (z10 fun _ => rfl) fun e he => z36 rfl e (List.mem_of_mem_drop he)), trivial⟩⟩
  repeat' ((first | (apply AWP.go ok; rfl) | (apply And.intro; omega) | ((apply z8) <;> intro _)) <;> conv => whnf)
  all_goals first | (exfalso; omega) | skip
  have e0 : mixL (fun _ => enB s) (List.replicate N [AC.bool false]) i = (List.replicate N s).map enB := by
    rw [mixL_end (by simp; omega), range_const, List.map_replicate, show i = N by omega]
  rw [e0]
  clear e0
  refine z71 (fun x : Bool × List Bool => ([(2, .fn (.func f) [] [.pt c1, .pt c2]), (7, .sref 0 0 N), (9, .bool x.1)], [.cells 1 (x.2.map enB)])) (fun x => Gl.Way s H N x.2 ∧ (x.1 = false → ∀ i, i < N → H i x.2 = gB x.2 i)) (fun x => 2 * cntS s x.2 + (if x.1 then 1 else 0)) (true, List.replicate N s) ⟨Gl.Way.start, fun h => by cases h⟩ ⟨[0], rfl, by decide, rfl, ⟨⟨rfl, rfl⟩, ⟨rfl, rfl⟩, ⟨rfl, rfl⟩, trivial⟩, ⟨z16 rfl (z10 fun _ => rfl), trivial⟩⟩ ?_
  rintro ⟨ch, S⟩ ⟨hw, hfx⟩
  dsimp only at hw hfx ⊢
  cases ch
  · have hR := hw.ends (hfx rfl)
    repeat' (((apply AWP.go ok; rfl)) <;> conv => whnf)
    all_goals skip
    rw [lim_eq hR]
    exact z89 rfl (z10 fun _ => rfl) rfl rfl rfl
  · repeat' (((apply AWP.go ok; rfl)) <;> conv => whnf)
    all_goals skip
    refine z71 (fun y : Nat × Bool × List Bool => ([(2, .fn (.func f) [] [.pt c1, .pt c2]), (7, .sref 0 0 N), (9, .bool y.2.1), (28, .int N), (29, .int y.1)], [.cells 1 (y.2.2.map enB)])) (fun y => y.1 ≤ N ∧ Gl.Way s H N y.2.2 ∧ (y.2.1 = false → y.2.2 = S ∧ ∀ i, i < y.1 → H i S = gB S i) ∧ (y.2.1 = true → cntS s y.2.2 + 1 ≤ cntS s S)) (fun y => N - y.1) (0, false, S) ⟨by dsimp only; omega, hw, fun _ => ⟨rfl, fun i hi => by dsimp only at hi; omega⟩, fun h => by cases h⟩ ⟨[0], rfl, by decide, rfl, ⟨⟨rfl, rfl⟩, ⟨rfl, rfl⟩, ⟨rfl, rfl⟩, ⟨rfl, rfl⟩, ⟨rfl, rfl⟩, trivial⟩, ⟨z16 rfl (z10 fun _ => rfl), trivial⟩⟩ ?_
    rintro ⟨k, c, S'⟩ ⟨hk1, hw', hc1, hc2⟩
    dsimp only at hk1 hw' hc1 hc2 ⊢
    by_cases hkN : k < N
    · have hkl : k < S'.length := by rw [hw'.len]; exact hkN
      have c1 := hf k S' hkN hw'.len
      have hgk : (S'.map enB)[k]? = some (enB (gB S' k)) := by
        unfold gB
        rw [z20 hkl, List.getElem?_map, List.getElem?_eq_getElem hkl]; rfl
      have hput := hw'.put hm hkN (hw'.post k hkN) (ordB.refl s _)
      by_cases he : H k S' = gB S' k
      · repeat' ((first | (apply AWP.go ok; rfl) | (refine z21 (i := k) rfl hgk ?_) | (apply And.intro; first | omega | (unfold inI; omega)) | ((first | apply z8 | apply z32) <;> intro _) | (((apply z11 [] [0] [] (c1); (focus (exact z45 rfl (z45 (bor_boolsN rfl rfl rfl hw'.len) rfl))); (focus ((repeat' exact z6) <;> fail)))); rfl; rfl; rfl; rfl; rfl; (focus ((repeat' exact z17) <;> fail)); ((refine .inr ⟨rfl, ?_⟩; repeat' exact True.intro)))) <;> conv => whnf)
        all_goals first | (exfalso; simp_all; done) | skip
        all_goals
          refine z52 (k + 1, c, S') [0] ⟨by dsimp only; omega, hw', fun hc => ⟨(hc1 hc).1, fun i hi => ?_⟩, hc2⟩ (by dsimp only; omega) ⟨rfl, by decide, rfl, ⟨⟨rfl, rfl⟩, ⟨rfl, rfl⟩, ⟨rfl, rfl⟩, ⟨rfl, rfl⟩, ⟨rfl, rfl⟩, trivial⟩, ⟨z16 rfl (z10 fun _ => rfl), trivial⟩⟩
          dsimp only at hi hc
          rcases Nat.lt_or_ge i k with h3 | h3
          · exact (hc1 hc).2 i h3
          · obtain rfl : i = k := by omega
            rw [← (hc1 hc).1]; exact he
      · have hcn := hput.2 he
        repeat' ((first | (apply AWP.go ok; rfl) | (refine z21 (i := k) rfl hgk ?_) | (apply And.intro; first | omega | (unfold inI; omega)) | ((first | apply z8 | apply z32) <;> intro _) | (((apply z11 [] [0] [] (c1); (focus (exact z45 rfl (z45 (bor_boolsN rfl rfl rfl hw'.len) rfl))); (focus ((repeat' exact z6) <;> fail)))); rfl; rfl; rfl; rfl; rfl; (focus ((repeat' exact z17) <;> fail)); ((refine .inr ⟨rfl, ?_⟩; repeat' exact True.intro)))) <;> conv => whnf)
        all_goals first | (exfalso; simp_all; done) | skip
        all_goals
          refine z52 (k + 1, true, S'.set k (H k S')) [0] ⟨by dsimp only; omega, hput.1, (fun hc => by dsimp only at hc; cases hc), fun _ => ?_⟩ (by dsimp only; omega) ⟨rfl, by decide, rfl, ⟨⟨rfl, rfl⟩, ⟨rfl, rfl⟩, ⟨rfl, rfl⟩, ⟨rfl, rfl⟩, ⟨rfl, rfl⟩, trivial⟩, ⟨z16 (z25 (by rw [List.map_set]; rfl)) (z10 fun _ => rfl), trivial⟩⟩
          dsimp only
          cases c
          · rw [(hc1 rfl).1] at hcn ⊢; omega
          · have := hc2 rfl; omega
    · repeat' ((first | (apply AWP.go ok; rfl) | ((apply z8) <;> intro _)) <;> conv => whnf)
      all_goals first | (exfalso; omega) | skip
      refine z52 (c, S') [0] ⟨hw', fun hc i hi => ?_⟩ ?_ ⟨rfl, by decide, rfl, ⟨⟨rfl, rfl⟩, ⟨rfl, rfl⟩, ⟨rfl, rfl⟩, trivial⟩, ⟨z16 rfl (z10 fun _ => rfl), trivial⟩⟩
      · dsimp only at hc ⊢
        rw [(hc1 hc).1]; exact (hc1 hc).2 i (by omega)
      · dsimp only
        cases c
        · rw [(hc1 rfl).1]; simp
        · have := hc2 rfl; simp; omega
end Go.Proofs.YtppafngcahgagaaGreat

namespace Go.Proofs.YtppafngcahgagaaGreat
open Go.Gl
attribute [local irreducible] z31 AWP z50 z58 z55

theorem GB.rowB {g : Graph} (h : GB g) : ∀ i (hi : i < g.nx.length), 1 ≤ g.nx[i].length ∧ g.nx[i].length ≤ 60 ∧ InN g.st.length g.nx[i] := fun i hi => by
  obtain ⟨⟨g1, g2⟩, g3, g4⟩ := h
  have h4 := g4 i hi hi (by omega)
  refine ⟨by have := h4.2.1; omega, by have := h4.2.1; omega, fun x hx => ?_⟩
  obtain ⟨j, hj, rfl⟩ := List.mem_iff_getElem.1 hx
  have := (h4.2.2.2 j hj hj).1
  omega
theorem get_gB {S : List Bool} {i n : Nat} {K : List AC → Prop} (h : n = i) (hi : i < S.length) (k : K (enB (gB S i))) : ∃ e, (S.map enB)[n]? = some e ∧ K e := by
  refine z21 h ?_ k
  unfold gB
  rw [z20 hi, List.getElem?_map, List.getElem?_eq_getElem hi]; rfl

theorem indexFunc_intB (S : List Bool) (l : List Int) (hl : l.length ≤ maxLen) (p : Int → Bool) (f : FuncId) (hf : ∀ x ∈ l, CallsA Tryz.prog f [.int x, .pt [lst 1 enB S]] [] (.bool (p x)) []) : CallsA Tryz.prog 68 [lst 1 enI l, .fn (.func f) [] [.pt [lst 1 enB S]]] [] (.int (idxF p l)) [] := by
  unfold maxLen at hl
  refine z13 z23 Tryz.func68 rfl rfl 19 Tryz.ntmps68 (by simp) ?_
  repeat' (((apply AWP.go ok; rfl)) <;> conv => whnf)
  refine z71 (fun k : Nat => ([(0, lst 1 enI l), (1, .fn (.func f) [] [.pt [lst 1 enB S]]), (7, .int l.length), (8, .int k)], [])) (fun k => k ≤ l.length ∧ ∀ j (hj : j < l.length), j < k → p l[j] = false) (fun k => l.length - k) 0 (by simp)
    ⟨[], rfl, by decide, rfl, ⟨⟨rfl, rfl⟩, ⟨rfl, rfl⟩, ⟨rfl, rfl⟩, ⟨rfl, rfl⟩, trivial⟩, trivial⟩ ?_
  intro k hk
  repeat' ((first | (apply AWP.go ok; rfl) | (apply And.intro; first | omega | (unfold inI; omega)) | (((with_reducible apply z15; omega)); intro _) | ((first | apply z8 | apply z83) <;> intro _) | (apply z12 (hf l[k] (List.getElem_mem _)); rfl; rfl)) <;> conv => whnf)
  · rename_i h h1
    exact z40 rfl rfl (by rw [idxF_some (by omega) h1 hk.2]; rfl)
  · rename_i h h1
    refine z52 (k + 1) [] ⟨by omega, fun j hj hjk => ?_⟩ (by omega) ⟨rfl, by decide, rfl, ⟨⟨rfl, rfl⟩, ⟨rfl, rfl⟩, ⟨rfl, rfl⟩, ⟨rfl, rfl⟩, trivial⟩, trivial⟩
    rcases Nat.lt_or_ge j k with h2 | h2
    · exact hk.2 j hj h2
    · obtain rfl : j = k := by omega
      exact h1
  · exact z40 rfl rfl (by rw [idxF_none fun j hj => hk.2 j hj (by omega)]; rfl)
theorem containsFunc_intB (S : List Bool) (l : List Int) (hl : l.length ≤ maxLen) (p : Int → Bool) (f : FuncId) (hf : ∀ x ∈ l, CallsA Tryz.prog f [.int x, .pt [lst 1 enB S]] [] (.bool (p x)) []) : CallsA Tryz.prog 108 [lst 1 enI l, .fn (.func f) [] [.pt [lst 1 enB S]]] [] (.bool (l.any p)) [] := by
  refine z13 z23 Tryz.func108 rfl rfl 9 Tryz.ntmps108 (by simp) ?_
  repeat' ((first | (apply AWP.go ok; rfl) | (apply z12 (indexFunc_intB S l hl p f hf); rfl; rfl)) <;> conv => whnf)
  exact z24 rfl (by rw [← idxF_any])

theorem some1_ok (S : List Bool) (x : Int) (h0 : 0 ≤ x) (h1 : x < S.length) (hS : S.length ≤ 1048576) : CallsA Tryz.prog 148 [.int x, .pt [lst 1 enB S]] [] (.bool (gB S x.toNat)) [] := by
  refine z13 z23 Tryz.func148 rfl rfl 8 Tryz.ntmps148 (by simp) ?_
  repeat' ((first | (apply AWP.go ok; rfl) | (refine get_gB (i := x.toNat) rfl (by omega) ?_) | (apply And.intro; omega)) <;> conv => whnf)
  exact z24 rfl rfl
theorem every1_ok (S : List Bool) (x : Int) (h0 : 0 ≤ x) (h1 : x < S.length) (hS : S.length ≤ 1048576) : CallsA Tryz.prog 189 [.int x, .pt [lst 1 enB S]] [] (.bool (!gB S x.toNat)) [] := by
  refine z13 z23 Tryz.func189 rfl rfl 9 Tryz.ntmps189 (by simp) ?_
  repeat' ((first | (apply AWP.go ok; rfl) | (refine get_gB (i := x.toNat) rfl (by omega) ?_) | (apply And.intro; omega)) <;> conv => whnf)
  exact z24 rfl rfl

theorem some_ok (g : Graph) (hG : GB g) (S : List Bool) (hS : S.length = g.st.length) (i : Nat) (hi : i < g.st.length) : CallsA Tryz.prog 65 [.agg g.cs, .int i, lst 1 enB S] [] (.bool (nxB g.nx false i S)) [] := by
  have hin : i < g.nx.length := by rw [hG.2.1]; exact hi
  have h60 := hG.1.2
  obtain ⟨r1, r2, r3⟩ := GB.rowB hG i hin
  have c1 := containsFunc_intB S g.nx[i] (by unfold maxLen; omega) (fun t => gB S t.toNat) 148 (fun x hx => some1_ok S x (r3 x hx).1 (by have := (r3 x hx).2; omega) (by omega))
  refine z13 z23 Tryz.func65 rfl rfl 14 Tryz.ntmps65 (by simp) ?_
  repeat' ((first | (apply AWP.go ok; rfl) | (apply And.intro; omega) | (((with_reducible apply z15; omega)); intro _) | (apply call_bor [1] (c1); rfl; rfl; rfl; rfl)) <;> conv => whnf)
  exact z24 rfl (by unfold nxB; rw [z20 hin]; rfl)
theorem every_ok (g : Graph) (hG : GB g) (S : List Bool) (hS : S.length = g.st.length) (i : Nat) (hi : i < g.st.length) : CallsA Tryz.prog 131 [.agg g.cs, .int i, lst 1 enB S] [] (.bool (nxB g.nx true i S)) [] := by
  have hin : i < g.nx.length := by rw [hG.2.1]; exact hi
  have h60 := hG.1.2
  obtain ⟨r1, r2, r3⟩ := GB.rowB hG i hin
  have c1 := containsFunc_intB S g.nx[i] (by unfold maxLen; omega) (fun t => !gB S t.toNat) 189 (fun x hx => every1_ok S x (r3 x hx).1 (by have := (r3 x hx).2; omega) (by omega))
  refine z13 z23 Tryz.func131 rfl rfl 15 Tryz.ntmps131 (by simp) ?_
  repeat' ((first | (apply AWP.go ok; rfl) | (apply And.intro; omega) | (((with_reducible apply z15; omega)); intro _) | (apply call_bor [1] (c1); rfl; rfl; rfl; rfl)) <;> conv => whnf)
  exact z24 rfl (by unfold nxB; rw [z20 hin, List.all_eq_not_any_not]; rfl)

/-! the reference's next -/
def nxR (ev : Bool) (S : List Bool) (row : List Int) : Bool := if ev then row.all (fun t => gB S t.toNat) else row.any (fun t => gB S t.toNat)
theorem nxR_nil (ev : Bool) (S : List Bool) : nxR ev S [] = ev := by cases ev <;> rfl
theorem nxR_step (ev : Bool) (S : List Bool) (row : List Int) (j : Nat) (h : j < row.length) : nxR ev S (row.take (j + 1)) = if gB S (row[j]).toNat = ev then nxR ev S (row.take j) else !ev := by
  rw [List.take_succ_eq_append_getElem h]
  unfold nxR
  rw [List.all_append, List.any_append]
  simp only [List.all_cons, List.any_cons, List.all_nil, List.any_nil]
  cases ev <;> cases gB S (row[j]).toNat <;> simp
set_option maxHeartbeats 1600000 in
theorem l11Next_new (g : Graph) (hG : GB g) (S : List Bool) (hS : S.length = g.st.length) (ev : Bool) : CallsA Tryz.prog 144 [.agg g.cs, lst 1 enB S, .bool ev] [] (.sref 0 0 g.st.length) [.cells 1 ((nxL g.nx ev g.st.length S).map enB)] := by
  have h60 := hG.1.2
  have hgl := hG.2.1
  suffices h : CallsA Tryz.prog 144 [.agg g.cs, lst 1 enB S, .bool ev] [] (.sref 0 0 g.nx.length) [.cells 1 ((nxL g.nx ev g.nx.length S).map enB)] by rwa [hgl] at h
  refine z13 z23 Tryz.func144 rfl rfl 50 Tryz.ntmps144 (by simp) ?_
  repeat' (((apply AWP.go ok; rfl)) <;> conv => whnf)
  refine z71 (fun i : Nat => ([(1, lst 1 enB S), (2, .bool ev), (3, .ptr 0 none 0), (7, .sref 1 0 i), (8, .int i)], [.cells 2 [[lst 2 State.cs g.st, lst 1 encL g.nx]], .cells 1 (((List.range g.nx.length).take i).map fun i => enB (nxB g.nx ev i S))])) (fun i => i ≤ g.nx.length) (fun i => g.nx.length - i) 0 (by omega) ⟨[0, 1], rfl, by decide, rfl, ⟨⟨rfl, rfl⟩, ⟨rfl, rfl⟩, ⟨rfl, rfl⟩, ⟨rfl, rfl⟩, ⟨rfl, rfl⟩, trivial⟩, ⟨z19 rfl rfl, z16 rfl (z10 fun _ => rfl), trivial⟩⟩ ?_
  intro i hi
  by_cases hil : i < g.nx.length
  · have hir : i < (List.range g.nx.length).length := by simpa using hil
    obtain ⟨r1, r2, r3⟩ := GB.rowB hG i hil
    have hnx : nxB g.nx ev i S = nxR ev S g.nx[i] := by unfold nxB nxR; rw [z20 hil]
    repeat' ((first | (apply AWP.go ok; rfl) | ((apply z8) <;> intro _)) <;> conv => whnf)
    all_goals first | (exfalso; omega) | skip
    refine z71 (fun j : Nat => ([(1, lst 1 enB S), (2, .bool ev), (3, .ptr 0 none 0), (7, .sref 1 0 i), (8, .int i), (9, .bool (nxR ev S (g.nx[i].take j))), (10, .int j)], [.cells 2 [[lst 2 State.cs g.st, lst 1 encL g.nx]], .cells 1 (((List.range g.nx.length).take i).map fun i => enB (nxB g.nx ev i S))])) (fun j => j ≤ g.nx[i].length) (fun j => g.nx[i].length - j) 0 (by omega) ⟨[0, 1], rfl, by decide, rfl, ⟨⟨rfl, rfl⟩, ⟨rfl, rfl⟩, ⟨rfl, rfl⟩, ⟨rfl, rfl⟩, ⟨rfl, rfl⟩, ⟨rfl, by rw [List.take_zero, nxR_nil]; rfl⟩, ⟨rfl, rfl⟩, trivial⟩, ⟨z19 rfl rfl, z16 rfl (z10 fun _ => rfl), trivial⟩⟩ ?_
    intro j hj
    by_cases hjl : j < g.nx[i].length
    · have hx := r3 g.nx[i][j] (List.getElem_mem _)
      have hst := nxR_step ev S g.nx[i] j hjl
      by_cases he : gB S (g.nx[i][j]).toNat = ev
      · rw [if_pos he] at hst
        repeat' ((first | (apply AWP.go ok; rfl) | (refine get_gB (i := (g.nx[i][j]).toNat) rfl (by omega) ?_) | (apply And.intro; first | omega | (unfold inI; omega)) | (((with_reducible apply z15; omega)); intro _) | ((first | apply z8 | apply z32) <;> intro _)) <;> conv => whnf)
        all_goals first | (exfalso; omega) | (exfalso; simp_all; done) | skip
        all_goals exact z52 (j + 1) [0, 1] (by omega) (by omega) ⟨rfl, by decide, rfl, ⟨⟨rfl, rfl⟩, ⟨rfl, rfl⟩, ⟨rfl, rfl⟩, ⟨rfl, rfl⟩, ⟨rfl, rfl⟩, ⟨rfl, by rw [hst]; rfl⟩, ⟨rfl, rfl⟩, trivial⟩, ⟨z19 rfl rfl, z16 rfl (z10 fun _ => rfl), trivial⟩⟩
      · rw [if_neg he] at hst
        repeat' ((first | (apply AWP.go ok; rfl) | (refine get_gB (i := (g.nx[i][j]).toNat) rfl (by omega) ?_) | (apply And.intro; first | omega | (unfold inI; omega)) | (((with_reducible apply z15; omega)); intro _) | ((first | apply z8 | apply z32) <;> intro _)) <;> conv => whnf)
        all_goals first | (exfalso; omega) | (exfalso; simp_all; done) | skip
        all_goals exact z52 (j + 1) [0, 1] (by omega) (by omega) ⟨rfl, by decide, rfl, ⟨⟨rfl, rfl⟩, ⟨rfl, rfl⟩, ⟨rfl, rfl⟩, ⟨rfl, rfl⟩, ⟨rfl, rfl⟩, ⟨rfl, by rw [hst]; rfl⟩, ⟨rfl, rfl⟩, trivial⟩, ⟨z19 rfl rfl, z16 rfl (z10 fun _ => rfl), trivial⟩⟩
    · obtain rfl : j = g.nx[i].length := by omega
      rw [List.take_length, ← hnx]
      repeat' ((first | (apply AWP.go ok; rfl) | (apply And.intro; first | omega | (unfold inI; omega) | ((try dsimp only); simp only [List.length_map, List.length_take, List.length_append, List.length_replicate, List.length_cons, List.length_nil]; omega) | exact ⟨rfl, z30 rfl z33⟩) | ((first | (with_reducible apply z15; omega) | (with_reducible apply z98; omega)); intro _) | ((first | apply z8 | apply z32) <;> intro _)) <;> conv => whnf)
      all_goals first | (exfalso; omega) | skip
      refine z52 (i + 1) [0, 3] (by omega) (by omega) ⟨rfl, by decide, rfl, ⟨⟨rfl, rfl⟩, ⟨rfl, rfl⟩, ⟨rfl, rfl⟩, ⟨rfl, rfl⟩, ⟨rfl, rfl⟩, trivial⟩, ⟨z19 rfl rfl, z16 (z25 ?_) (z10 fun _ => rfl), trivial⟩⟩
      rw [List.take_of_length_le (by simp; omega), List.take_succ_eq_append_getElem hir, List.map_append]
      simp only [List.getElem_range]; rfl
  · repeat' ((first | (apply AWP.go ok; rfl) | ((apply z8) <;> intro _)) <;> conv => whnf)
    all_goals first | (exfalso; omega) | skip
    obtain rfl : i = g.nx.length := by omega
    refine z54 [1] (by decide) rfl rfl rfl ⟨z16 (z25 ?_) (z10 fun _ => rfl), trivial⟩
    rw [List.take_of_length_le (by simp)]
    unfold nxL
    rw [List.map_map]; rfl
end Go.Proofs.YtppafngcahgagaaGreat

namespace Go.Proofs.YtppafngcahgagaaGreat
open Go.Gl
attribute [local irreducible] z31 AWP z50 z58 z55

theorem nxL_len (g : List (List Int)) (ev : Bool) (n : Nat) (S : List Bool) : (nxL g ev n S).length = n := by simp [nxL]
theorem gB_nxL (g : List (List Int)) (ev : Bool) (n : Nat) (S : List Bool) (i : Nat) (h : i < n) : gB (nxL g ev n S) i = nxB g ev i S := by
  unfold gB
  rw [z20 (by rw [nxL_len]; exact h)]
  simp [nxL]
theorem z97 {S : List Bool} {i : Nat} (hi : i < S.length) : (S.map enB)[i]? = some (enB (gB S i)) := by
  unfold gB
  rw [z20 hi, List.getElem?_map, List.getElem?_eq_getElem hi]; rfl
theorem GB.inN {g : Graph} (h : GB g) : ∀ r ∈ g.nx, InN g.st.length r := fun r hr => by
  obtain ⟨i, hi, rfl⟩ := List.mem_iff_getElem.1 hr
  exact (GB.rowB h i hi).2.2

set_option maxHeartbeats 1600000 in
theorem l11Until_new (g : Graph) (hG : GB g) (a b : List Bool) (ha : a.length = g.st.length) (hb : b.length = g.st.length) (ev : Bool) : CallsA Tryz.prog 145 [.agg g.cs, lst 1 enB a, lst 1 enB b, .bool ev] [] (.sref 0 0 g.st.length) [.cells 1 ((lim false (unH g.nx ev a b) g.st.length).map enB)] := by
  have h60 := hG.1.2
  have hm : MonoB false (unH g.nx ev a b) g.st.length := unH_mono (s := false) hG.inN a b
  have cn := fun (S : List Bool) (hS : S.length = g.st.length) => l11Next_new g hG S hS ev
  have hnl := fun (S : List Bool) => nxL_len g.nx ev g.st.length S
  have hng := fun (S : List Bool) => gB_nxL g.nx ev g.st.length S
  have w0 : Gl.Way false (unH g.nx ev a b) g.st.length b := Way.goal hb
  generalize hN : g.st.length = N at *
  generalize hHe : unH g.nx ev a b = H at *
  refine z13 z23 Tryz.func145 rfl rfl 48 Tryz.ntmps145 (by simp) ?_
  repeat' ((first | (apply AWP.go ok; rfl) | (apply And.intro; first | (dsimp only; omega) | exact z125 (fun _ => rfl))) <;> conv => whnf)
  refine z71 (fun x : Bool × List Bool => ([(1, lst 1 enB a), (3, .bool ev), (4, .ptr 0 none 0), (9, .sref 1 0 N), (10, .bool x.1)], [.cells 2 [[lst 2 State.cs g.st, lst 1 encL g.nx]], .cells 1 (x.2.map enB)])) (fun x => Gl.Way false H N x.2 ∧ (x.1 = false → ∀ i, i < N → H i x.2 = gB x.2 i) ∧ ∀ i, i < N → gB x.2 i = false → gB b i = false) (fun x => 2 * cntS false x.2 + (if x.1 then 1 else 0)) (true, b) ⟨w0, fun h => (by dsimp only at h; cases h), fun i _ h => h⟩ ⟨[0, 2], rfl, by decide, rfl, ⟨⟨rfl, rfl⟩, ⟨rfl, rfl⟩, ⟨rfl, rfl⟩, ⟨rfl, by rw [← hb]; exact congrArg (AC.sref 2 0) (Nat.zero_add _)⟩, ⟨rfl, rfl⟩, trivial⟩, ⟨z19 rfl rfl, z16 rfl (z10 fun _ => rfl), trivial⟩⟩ ?_
  rintro ⟨ch, S⟩ ⟨hw, hfx, hb0⟩
  dsimp only at hw hfx hb0 ⊢
  have hSl := hw.len
  cases ch
  · have hR := hw.ends (hfx rfl)
    repeat' (((apply AWP.go ok; rfl)) <;> conv => whnf)
    all_goals skip
    rw [lim_eq hR]
    exact z54 [1] (by decide) rfl rfl rfl ⟨z16 rfl (z10 fun _ => rfl), trivial⟩
  · have c1 := cn S hSl
    repeat' ((first | (apply AWP.go ok; rfl) | (((apply z11 [] [1] [2] (c1); (focus (exact z45 rfl (z45 (bor_boolsN rfl rfl rfl hSl) rfl))); (focus ((repeat' exact z6) <;> fail)))); rfl; rfl; rfl; rfl; rfl; (focus ((repeat' first | exact z17 | apply z14) <;> (refine z26 ?_; ((exact z10 fun _ => rfl))))); ((refine .inr ⟨rfl, ?_⟩; repeat' first | exact True.intro | apply And.intro | exact z100 (fun _ => rfl) _)))) <;> conv => whnf)
    all_goals skip
    refine z71 (fun y : Nat × Bool × List Bool => ([(1, lst 1 enB a), (3, .bool ev), (4, .ptr 0 none 0), (9, .sref 1 0 N), (10, .bool y.2.1), (11, .sref 2 0 N), (12, .int y.1)], [.cells 2 [[lst 2 State.cs g.st, lst 1 encL g.nx]], .cells 1 (y.2.2.map enB), .cells 1 ((nxL g.nx ev N S).map enB)])) (fun y => y.1 ≤ N ∧ Gl.Way false H N y.2.2 ∧ (y.2.1 = false → y.2.2 = S ∧ ∀ i, i < y.1 → H i S = gB S i) ∧ (y.2.1 = true → cntS false y.2.2 + 1 ≤ cntS false S) ∧ (∀ j, j < N → ordB false (gB S j) (gB y.2.2 j)) ∧ ∀ i, i < N → gB y.2.2 i = false → gB b i = false) (fun y => N - y.1) (0, false, S) ⟨by dsimp only; omega, hw, fun _ => ⟨rfl, fun i hi => by dsimp only at hi; omega⟩, fun h => (by dsimp only at h; cases h), fun j _ => ordB.refl _ _, hb0⟩ ⟨[0, 1, 2], rfl, by decide, rfl, ⟨⟨rfl, rfl⟩, ⟨rfl, rfl⟩, ⟨rfl, rfl⟩, ⟨rfl, rfl⟩, ⟨rfl, rfl⟩, ⟨rfl, rfl⟩, ⟨rfl, rfl⟩, trivial⟩, ⟨z19 rfl rfl, z16 rfl (z10 fun _ => rfl), z16 rfl (z10 fun _ => rfl), trivial⟩⟩ ?_
    rintro ⟨k, c, S'⟩ ⟨hk1, hw', hc1, hc2, hle, hb1⟩
    dsimp only at hk1 hw' hc1 hc2 hle hb1 ⊢
    have hSl' := hw'.len
    by_cases hkN : k < N
    · have g1 := z97 (S := S') (i := k) (by omega)
      have g2 := z97 (S := a) (i := k) (by omega)
      have g3 := z97 (S := nxL g.nx ev N S) (i := k) (by rw [hnl]; omega)
      rw [hng S k hkN] at g3
      have same : (gB S' k = gB S k → H k S = gB S k) → c = false → S' = S ∧ ∀ i, i < k + 1 → H i S = gB S i := fun hh hc => by
        obtain ⟨e1, e2⟩ := hc1 hc
        refine ⟨e1, fun i hi => ?_⟩
        rcases Nat.lt_or_ge i k with h3 | h3
        · exact e2 i h3
        · obtain rfl : i = k := by omega
          exact hh (by rw [e1])
      have hp := hw.post k hkN
      by_cases he : gB S' k = false ∧ gB a k = true ∧ nxB g.nx ev k S = true
      · have hst := hw'.step hm hSl hle hkN (i := k) (by rw [← hHe]; unfold unH; rw [he.2.1, he.2.2]; simp) he.1
        have hcn := hst.2.1
        obtain ⟨he1, he2, he3⟩ := he
        rw [he1] at g1
        rw [he2] at g2
        rw [he3] at g3
        repeat' ((first | (apply AWP.go ok; rfl) | (refine z21 (i := k) rfl g1 ?_) | (refine z21 (i := k) rfl g2 ?_) | (refine z21 (i := k) rfl g3 ?_) | (apply And.intro; first | omega | (unfold inI; omega)) | ((apply z8) <;> intro _)) <;> conv => whnf)
        all_goals first | (exfalso; omega) | skip
        all_goals
          refine z52 (k + 1, true, S'.set k (!false)) [0, 1, 2] ⟨by dsimp only; omega, hst.1, (fun hc => by dsimp only at hc; cases hc), fun _ => ?_, hst.2.2, fun i hi h => ?_⟩ (by dsimp only; omega) ⟨rfl, by decide, rfl, ⟨⟨rfl, rfl⟩, ⟨rfl, rfl⟩, ⟨rfl, rfl⟩, ⟨rfl, rfl⟩, ⟨rfl, rfl⟩, ⟨rfl, rfl⟩, ⟨rfl, rfl⟩, trivial⟩, ⟨z19 rfl rfl, z16 (z25 (by rw [List.map_set]; rfl)) (z10 fun _ => rfl), z16 rfl (z10 fun _ => rfl), trivial⟩⟩
          · dsimp only
            cases c
            · rw [(hc1 rfl).1] at hcn ⊢; omega
            · have := hc2 rfl; omega
          · dsimp only at h
            rw [gB_set (by omega)] at h
            split at h
            · cases h
            · exact hb1 i hi h
      · have hcase : gB S' k = gB S k → H k S = gB S k := fun e => by
          cases hs : gB S k
          · have hb := hb0 k hkN hs
            rw [← hHe]; unfold unH
            rw [hb]
            cases h1 : gB a k <;> cases h2 : nxB g.nx ev k S <;> first | rfl | (exfalso; exact he ⟨by rw [e, hs], h1, h2⟩)
          · rw [hs] at hp
            rcases hp with e | e
            · exact e.symm
            · cases e
        generalize gB S' k = p at *
        generalize gB a k = q at *
        generalize nxB g.nx ev k S = r at *
        clear c1
        cases p <;> cases q <;> cases r <;> first | (exfalso; exact he ⟨rfl, rfl, rfl⟩) | skip
        · repeat' ((first | (apply AWP.go ok; rfl) | (refine z21 (i := k) rfl g1 ?_) | (refine z21 (i := k) rfl g2 ?_) | (apply And.intro; first | omega | (unfold inI; omega)) | ((apply z8) <;> intro _)) <;> conv => whnf)
          all_goals first | (exfalso; omega) | skip
          all_goals exact z52 (k + 1, c, S') [0, 1, 2] ⟨by dsimp only; omega, hw', same hcase, hc2, hle, hb1⟩ (by dsimp only; omega) ⟨rfl, by decide, rfl, ⟨⟨rfl, rfl⟩, ⟨rfl, rfl⟩, ⟨rfl, rfl⟩, ⟨rfl, rfl⟩, ⟨rfl, rfl⟩, ⟨rfl, rfl⟩, ⟨rfl, rfl⟩, trivial⟩, ⟨z19 rfl rfl, z16 rfl (z10 fun _ => rfl), z16 rfl (z10 fun _ => rfl), trivial⟩⟩
        · repeat' ((first | (apply AWP.go ok; rfl) | (refine z21 (i := k) rfl g1 ?_) | (refine z21 (i := k) rfl g2 ?_) | (apply And.intro; first | omega | (unfold inI; omega)) | ((apply z8) <;> intro _)) <;> conv => whnf)
          all_goals first | (exfalso; omega) | skip
          all_goals exact z52 (k + 1, c, S') [0, 1, 2] ⟨by dsimp only; omega, hw', same hcase, hc2, hle, hb1⟩ (by dsimp only; omega) ⟨rfl, by decide, rfl, ⟨⟨rfl, rfl⟩, ⟨rfl, rfl⟩, ⟨rfl, rfl⟩, ⟨rfl, rfl⟩, ⟨rfl, rfl⟩, ⟨rfl, rfl⟩, ⟨rfl, rfl⟩, trivial⟩, ⟨z19 rfl rfl, z16 rfl (z10 fun _ => rfl), z16 rfl (z10 fun _ => rfl), trivial⟩⟩
        · repeat' ((first | (apply AWP.go ok; rfl) | (refine z21 (i := k) rfl g1 ?_) | (refine z21 (i := k) rfl g2 ?_) | (refine z21 (i := k) rfl g3 ?_) | (apply And.intro; first | omega | (unfold inI; omega)) | ((apply z8) <;> intro _)) <;> conv => whnf)
          all_goals first | (exfalso; omega) | skip
          all_goals exact z52 (k + 1, c, S') [0, 1, 2] ⟨by dsimp only; omega, hw', same hcase, hc2, hle, hb1⟩ (by dsimp only; omega) ⟨rfl, by decide, rfl, ⟨⟨rfl, rfl⟩, ⟨rfl, rfl⟩, ⟨rfl, rfl⟩, ⟨rfl, rfl⟩, ⟨rfl, rfl⟩, ⟨rfl, rfl⟩, ⟨rfl, rfl⟩, trivial⟩, ⟨z19 rfl rfl, z16 rfl (z10 fun _ => rfl), z16 rfl (z10 fun _ => rfl), trivial⟩⟩
        · repeat' ((first | (apply AWP.go ok; rfl) | (refine z21 (i := k) rfl g1 ?_) | (apply And.intro; first | omega | (unfold inI; omega)) | ((apply z8) <;> intro _)) <;> conv => whnf)
          all_goals first | (exfalso; omega) | skip
          all_goals exact z52 (k + 1, c, S') [0, 1, 2] ⟨by dsimp only; omega, hw', same hcase, hc2, hle, hb1⟩ (by dsimp only; omega) ⟨rfl, by decide, rfl, ⟨⟨rfl, rfl⟩, ⟨rfl, rfl⟩, ⟨rfl, rfl⟩, ⟨rfl, rfl⟩, ⟨rfl, rfl⟩, ⟨rfl, rfl⟩, ⟨rfl, rfl⟩, trivial⟩, ⟨z19 rfl rfl, z16 rfl (z10 fun _ => rfl), z16 rfl (z10 fun _ => rfl), trivial⟩⟩
        · repeat' ((first | (apply AWP.go ok; rfl) | (refine z21 (i := k) rfl g1 ?_) | (apply And.intro; first | omega | (unfold inI; omega)) | ((apply z8) <;> intro _)) <;> conv => whnf)
          all_goals first | (exfalso; omega) | skip
          all_goals exact z52 (k + 1, c, S') [0, 1, 2] ⟨by dsimp only; omega, hw', same hcase, hc2, hle, hb1⟩ (by dsimp only; omega) ⟨rfl, by decide, rfl, ⟨⟨rfl, rfl⟩, ⟨rfl, rfl⟩, ⟨rfl, rfl⟩, ⟨rfl, rfl⟩, ⟨rfl, rfl⟩, ⟨rfl, rfl⟩, ⟨rfl, rfl⟩, trivial⟩, ⟨z19 rfl rfl, z16 rfl (z10 fun _ => rfl), z16 rfl (z10 fun _ => rfl), trivial⟩⟩
        · repeat' ((first | (apply AWP.go ok; rfl) | (refine z21 (i := k) rfl g1 ?_) | (apply And.intro; first | omega | (unfold inI; omega)) | ((apply z8) <;> intro _)) <;> conv => whnf)
          all_goals first | (exfalso; omega) | skip
          all_goals exact z52 (k + 1, c, S') [0, 1, 2] ⟨by dsimp only; omega, hw', same hcase, hc2, hle, hb1⟩ (by dsimp only; omega) ⟨rfl, by decide, rfl, ⟨⟨rfl, rfl⟩, ⟨rfl, rfl⟩, ⟨rfl, rfl⟩, ⟨rfl, rfl⟩, ⟨rfl, rfl⟩, ⟨rfl, rfl⟩, ⟨rfl, rfl⟩, trivial⟩, ⟨z19 rfl rfl, z16 rfl (z10 fun _ => rfl), z16 rfl (z10 fun _ => rfl), trivial⟩⟩
        · repeat' ((first | (apply AWP.go ok; rfl) | (refine z21 (i := k) rfl g1 ?_) | (apply And.intro; first | omega | (unfold inI; omega)) | ((apply z8) <;> intro _)) <;> conv => whnf)
          all_goals first | (exfalso; omega) | skip
          all_goals exact z52 (k + 1, c, S') [0, 1, 2] ⟨by dsimp only; omega, hw', same hcase, hc2, hle, hb1⟩ (by dsimp only; omega) ⟨rfl, by decide, rfl, ⟨⟨rfl, rfl⟩, ⟨rfl, rfl⟩, ⟨rfl, rfl⟩, ⟨rfl, rfl⟩, ⟨rfl, rfl⟩, ⟨rfl, rfl⟩, ⟨rfl, rfl⟩, trivial⟩, ⟨z19 rfl rfl, z16 rfl (z10 fun _ => rfl), z16 rfl (z10 fun _ => rfl), trivial⟩⟩
    · repeat' ((first | (apply AWP.go ok; rfl) | (apply And.intro; omega) | ((first | (with_reducible apply z15; omega) | (apply z15; omega)); intro _) | ((first | apply z8 | apply z96 | apply z83) <;> intro _)) <;> conv => whnf)
      all_goals first | (exfalso; omega) | skip
      refine z52 (c, S') [0, 1] ⟨hw', fun hc i hi => ?_, hb1⟩ ?_ ⟨rfl, by decide, rfl, ⟨⟨rfl, rfl⟩, ⟨rfl, rfl⟩, ⟨rfl, rfl⟩, ⟨rfl, rfl⟩, ⟨rfl, rfl⟩, trivial⟩, ⟨z19 rfl rfl, z16 rfl (z10 fun _ => rfl), trivial⟩⟩
      · dsimp only at hc ⊢
        rw [(hc1 hc).1]; exact (hc1 hc).2 i (by omega)
      · dsimp only
        cases c
        · rw [(hc1 rfl).1]; simp
        · have := hc2 rfl; simp; omega

set_option maxHeartbeats 1600000 in
theorem l11Always_new (g : Graph) (hG : GB g) (a : List Bool) (ha : a.length = g.st.length) (ev : Bool) : CallsA Tryz.prog 146 [.agg g.cs, lst 1 enB a, .bool ev] [] (.sref 0 0 g.st.length) [.cells 1 ((lim true (alH g.nx ev a) g.st.length).map enB)] := by
  have h60 := hG.1.2
  have hm : MonoB true (alH g.nx ev a) g.st.length := alH_mono (s := true) hG.inN a
  have cn := fun (S : List Bool) (hS : S.length = g.st.length) => l11Next_new g hG S hS ev
  have hnl := fun (S : List Bool) => nxL_len g.nx ev g.st.length S
  have hng := fun (S : List Bool) => gB_nxL g.nx ev g.st.length S
  have w0 : Gl.Way true (alH g.nx ev a) g.st.length a := Way.now ha
  generalize hN : g.st.length = N at *
  generalize hHe : alH g.nx ev a = H at *
  refine z13 z23 Tryz.func146 rfl rfl 40 Tryz.ntmps146 (by simp) ?_
  repeat' ((first | (apply AWP.go ok; rfl) | (apply And.intro; first | (dsimp only; omega) | exact z125 (fun _ => rfl))) <;> conv => whnf)
  refine z71 (fun x : Bool × List Bool => ([(2, .bool ev), (3, .ptr 0 none 0), (7, .sref 1 0 N), (8, .bool x.1)], [.cells 2 [[lst 2 State.cs g.st, lst 1 encL g.nx]], .cells 1 (x.2.map enB)])) (fun x => Gl.Way true H N x.2 ∧ (x.1 = false → ∀ i, i < N → H i x.2 = gB x.2 i) ∧ ∀ i, i < N → gB x.2 i = true → gB a i = true) (fun x => 2 * cntS true x.2 + (if x.1 then 1 else 0)) (true, a) ⟨w0, fun h => (by dsimp only at h; cases h), fun i _ h => h⟩ ⟨[0, 2], rfl, by decide, rfl, ⟨⟨rfl, rfl⟩, ⟨rfl, rfl⟩, ⟨rfl, by rw [← ha]; exact congrArg (AC.sref 2 0) (Nat.zero_add _)⟩, ⟨rfl, rfl⟩, trivial⟩, ⟨z19 rfl rfl, z16 rfl (z10 fun _ => rfl), trivial⟩⟩ ?_
  rintro ⟨ch, S⟩ ⟨hw, hfx, hb0⟩
  dsimp only at hw hfx hb0 ⊢
  have hSl := hw.len
  cases ch
  · have hR := hw.ends (hfx rfl)
    repeat' (((apply AWP.go ok; rfl)) <;> conv => whnf)
    all_goals skip
    rw [lim_eq hR]
    exact z54 [1] (by decide) rfl rfl rfl ⟨z16 rfl (z10 fun _ => rfl), trivial⟩
  · have c1 := cn S hSl
    repeat' ((first | (apply AWP.go ok; rfl) | (((apply z11 [] [1] [2] (c1); (focus (exact z45 rfl (z45 (bor_boolsN rfl rfl rfl hSl) rfl))); (focus ((repeat' exact z6) <;> fail)))); rfl; rfl; rfl; rfl; rfl; (focus ((repeat' first | exact z17 | apply z14) <;> (refine z26 ?_; ((exact z10 fun _ => rfl))))); ((refine .inr ⟨rfl, ?_⟩; repeat' first | exact True.intro | apply And.intro | exact z100 (fun _ => rfl) _)))) <;> conv => whnf)
    all_goals skip
    refine z71 (fun y : Nat × Bool × List Bool => ([(2, .bool ev), (3, .ptr 0 none 0), (7, .sref 1 0 N), (8, .bool y.2.1), (9, .sref 2 0 N), (10, .int y.1)], [.cells 2 [[lst 2 State.cs g.st, lst 1 encL g.nx]], .cells 1 (y.2.2.map enB), .cells 1 ((nxL g.nx ev N S).map enB)])) (fun y => y.1 ≤ N ∧ Gl.Way true H N y.2.2 ∧ (y.2.1 = false → y.2.2 = S ∧ ∀ i, i < y.1 → H i S = gB S i) ∧ (y.2.1 = true → cntS true y.2.2 + 1 ≤ cntS true S) ∧ (∀ j, j < N → ordB true (gB S j) (gB y.2.2 j)) ∧ ∀ i, i < N → gB y.2.2 i = true → gB a i = true) (fun y => N - y.1) (0, false, S) ⟨by dsimp only; omega, hw, fun _ => ⟨rfl, fun i hi => by dsimp only at hi; omega⟩, fun h => (by dsimp only at h; cases h), fun j _ => ordB.refl _ _, hb0⟩ ⟨[0, 1, 2], rfl, by decide, rfl, ⟨⟨rfl, rfl⟩, ⟨rfl, rfl⟩, ⟨rfl, rfl⟩, ⟨rfl, rfl⟩, ⟨rfl, rfl⟩, ⟨rfl, rfl⟩, trivial⟩, ⟨z19 rfl rfl, z16 rfl (z10 fun _ => rfl), z16 rfl (z10 fun _ => rfl), trivial⟩⟩ ?_
    rintro ⟨k, c, S'⟩ ⟨hk1, hw', hc1, hc2, hle, hb1⟩
    dsimp only at hk1 hw' hc1 hc2 hle hb1 ⊢
    have hSl' := hw'.len
    by_cases hkN : k < N
    · have g1 := z97 (S := S') (i := k) (by omega)
      have g2 := z97 (S := a) (i := k) (by omega)
      have g3 := z97 (S := nxL g.nx ev N S) (i := k) (by rw [hnl]; omega)
      rw [hng S k hkN] at g3
      have same : (gB S' k = gB S k → H k S = gB S k) → c = false → S' = S ∧ ∀ i, i < k + 1 → H i S = gB S i := fun hh hc => by
        obtain ⟨e1, e2⟩ := hc1 hc
        refine ⟨e1, fun i hi => ?_⟩
        rcases Nat.lt_or_ge i k with h3 | h3
        · exact e2 i h3
        · obtain rfl : i = k := by omega
          exact hh (by rw [e1])
      have hp := hw.post k hkN
      by_cases he : gB S' k = true ∧ nxB g.nx ev k S = false
      · have hst := hw'.step hm hSl hle hkN (i := k) (by rw [← hHe]; unfold alH; rw [hb0 k hkN (by rcases hle k hkN with e | e <;> first | exact e | (rw [e]; exact he.1)), he.2]; rfl) he.1
        have hcn := hst.2.1
        obtain ⟨he1, he3⟩ := he
        rw [he1] at g1
        rw [he3] at g3
        repeat' ((first | (apply AWP.go ok; rfl) | (refine z21 (i := k) rfl g1 ?_) | (refine z21 (i := k) rfl g3 ?_) | (apply And.intro; first | omega | (unfold inI; omega)) | ((apply z8) <;> intro _)) <;> conv => whnf)
        all_goals first | (exfalso; omega) | skip
        all_goals
          refine z52 (k + 1, true, S'.set k (!true)) [0, 1, 2] ⟨by dsimp only; omega, hst.1, (fun hc => by dsimp only at hc; cases hc), fun _ => ?_, hst.2.2, fun i hi h => ?_⟩ (by dsimp only; omega) ⟨rfl, by decide, rfl, ⟨⟨rfl, rfl⟩, ⟨rfl, rfl⟩, ⟨rfl, rfl⟩, ⟨rfl, rfl⟩, ⟨rfl, rfl⟩, ⟨rfl, rfl⟩, trivial⟩, ⟨z19 rfl rfl, z16 (z25 (by rw [List.map_set]; rfl)) (z10 fun _ => rfl), z16 rfl (z10 fun _ => rfl), trivial⟩⟩
          · dsimp only
            cases c
            · rw [(hc1 rfl).1] at hcn ⊢; omega
            · have := hc2 rfl; omega
          · dsimp only at h
            rw [gB_set (by omega)] at h
            split at h
            · cases h
            · exact hb1 i hi h
      · have hcase : gB S' k = gB S k → H k S = gB S k := fun e => by
          cases hs : gB S k
          · rw [hs] at hp
            rcases hp with e | e
            · exact e.symm
            · cases e
          · have hb := hb0 k hkN hs
            rw [← hHe]; unfold alH
            rw [hb]
            cases h2 : nxB g.nx ev k S <;> first | rfl | (exfalso; exact he ⟨by rw [e, hs], h2⟩)
        generalize gB S' k = p at *
        generalize nxB g.nx ev k S = r at *
        clear c1
        cases p <;> cases r <;> first | (exfalso; exact he ⟨rfl, rfl⟩) | skip
        · repeat' ((first | (apply AWP.go ok; rfl) | (refine z21 (i := k) rfl g1 ?_) | (apply And.intro; first | omega | (unfold inI; omega)) | ((apply z8) <;> intro _)) <;> conv => whnf)
          all_goals first | (exfalso; omega) | skip
          all_goals exact z52 (k + 1, c, S') [0, 1, 2] ⟨by dsimp only; omega, hw', same hcase, hc2, hle, hb1⟩ (by dsimp only; omega) ⟨rfl, by decide, rfl, ⟨⟨rfl, rfl⟩, ⟨rfl, rfl⟩, ⟨rfl, rfl⟩, ⟨rfl, rfl⟩, ⟨rfl, rfl⟩, ⟨rfl, rfl⟩, trivial⟩, ⟨z19 rfl rfl, z16 rfl (z10 fun _ => rfl), z16 rfl (z10 fun _ => rfl), trivial⟩⟩
        · repeat' ((first | (apply AWP.go ok; rfl) | (refine z21 (i := k) rfl g1 ?_) | (apply And.intro; first | omega | (unfold inI; omega)) | ((apply z8) <;> intro _)) <;> conv => whnf)
          all_goals first | (exfalso; omega) | skip
          all_goals exact z52 (k + 1, c, S') [0, 1, 2] ⟨by dsimp only; omega, hw', same hcase, hc2, hle, hb1⟩ (by dsimp only; omega) ⟨rfl, by decide, rfl, ⟨⟨rfl, rfl⟩, ⟨rfl, rfl⟩, ⟨rfl, rfl⟩, ⟨rfl, rfl⟩, ⟨rfl, rfl⟩, ⟨rfl, rfl⟩, trivial⟩, ⟨z19 rfl rfl, z16 rfl (z10 fun _ => rfl), z16 rfl (z10 fun _ => rfl), trivial⟩⟩
        · repeat' ((first | (apply AWP.go ok; rfl) | (refine z21 (i := k) rfl g1 ?_) | (refine z21 (i := k) rfl g3 ?_) | (apply And.intro; first | omega | (unfold inI; omega)) | ((apply z8) <;> intro _)) <;> conv => whnf)
          all_goals first | (exfalso; omega) | skip
          all_goals exact z52 (k + 1, c, S') [0, 1, 2] ⟨by dsimp only; omega, hw', same hcase, hc2, hle, hb1⟩ (by dsimp only; omega) ⟨rfl, by decide, rfl, ⟨⟨rfl, rfl⟩, ⟨rfl, rfl⟩, ⟨rfl, rfl⟩, ⟨rfl, rfl⟩, ⟨rfl, rfl⟩, ⟨rfl, rfl⟩, trivial⟩, ⟨z19 rfl rfl, z16 rfl (z10 fun _ => rfl), z16 rfl (z10 fun _ => rfl), trivial⟩⟩
    · repeat' ((first | (apply AWP.go ok; rfl) | (apply And.intro; omega) | (((apply z15; omega)); intro _) | ((first | apply z8 | apply z96 | apply z83) <;> intro _)) <;> conv => whnf)
      all_goals first | (exfalso; omega) | skip
      refine z52 (c, S') [0, 1] ⟨hw', fun hc i hi => ?_, hb1⟩ ?_ ⟨rfl, by decide, rfl, ⟨⟨rfl, rfl⟩, ⟨rfl, rfl⟩, ⟨rfl, rfl⟩, ⟨rfl, rfl⟩, trivial⟩, ⟨z19 rfl rfl, z16 rfl (z10 fun _ => rfl), trivial⟩⟩
      · dsimp only at hc ⊢
        rw [(hc1 hc).1]; exact (hc1 hc).2 i (by omega)
      · dsimp only
        cases c
        · rw [(hc1 rfl).1]; simp
        · have := hc2 rfl; simp; omega
end Go.Proofs.YtppafngcahgagaaGreat

namespace Go.Proofs.YtppafngcahgagaaGreat
open Go.Gl
attribute [local irreducible] z31 AWP z50 z58 z55

theorem l6Has_ok (x a : Int) (h0 : 0 ≤ x) (h1 : x ≤ 7) (h2 : 0 ≤ a) (h3 : a ≤ 2) : CallsA Tryz.prog 147 [.int x, .int a] [] (.bool (hasB x a)) [] := by
  have h5 : 0 ≤ x / 2 ^ a.toNat ∧ x / 2 ^ a.toNat ≤ 7 := by
    have : a = 0 ∨ a = 1 ∨ a = 2 := by omega
    rcases this with rfl | rfl | rfl <;> simp <;> omega
  have hw : IntKind.u64.wrap a = a := by
    have : a = 0 ∨ a = 1 ∨ a = 2 := by omega
    rcases this with rfl | rfl | rfl <;> decide
  refine z13 z23 Tryz.func147 rfl rfl 11 Tryz.ntmps147 (by simp) ?_
  repeat' ((first | (apply AWP.go ok; rfl) | (apply And.intro; first | omega | (unfold bitsOk; omega))) <;> conv => whnf)
  all_goals (exact z24 rfl rfl)
theorem sat1_ok (i : Int) : CallsA Tryz.prog 127 [.int i] [] (.bool true) [] := by
  refine z13 z23 Tryz.func127 rfl rfl 3 Tryz.ntmps127 (by simp) ?_
  repeat' (((apply AWP.go ok; rfl)) <;> conv => whnf)
  exact z24 rfl rfl
theorem sat6_ok (L : List Int) (k v : Int) (x : AC) (i : Nat) (hi : i < L.length) (hl : L.length ≤ 1048576) (h0 : 0 ≤ L.getD i 0) (h1 : L.getD i 0 ≤ 7) (h2 : 0 ≤ v) (h3 : v ≤ 2) : CallsA Tryz.prog 133 [.int i, .pt [ints L], .pt [.int k, .int v, x]] [] (.bool (hasB (L.getD i 0) v)) [] := by
  have g1 : (L.map enI)[i]? = some (enI (L.getD i 0)) := by rw [z20 hi, List.getElem?_map, List.getElem?_eq_getElem hi]; rfl
  generalize L.getD i 0 = y at *
  have h5 : 0 ≤ y / 2 ^ v.toNat ∧ y / 2 ^ v.toNat ≤ 7 := by
    have : v = 0 ∨ v = 1 ∨ v = 2 := by omega
    rcases this with rfl | rfl | rfl <;> simp <;> omega
  refine z13 z23 Tryz.func133 rfl rfl 14 Tryz.ntmps133 (by simp) ?_
  repeat' ((first | (apply AWP.go ok; rfl) | (apply z37; kernel_rfl) | (refine z21 (i := i) rfl g1 ?_) | (apply And.intro; first | omega | (unfold bitsOk; omega))) <;> conv => whnf)
  all_goals (exact z24 rfl rfl)

theorem sat2_ok (g : Graph) (hG : GB g) (a b : List Bool) (ha : a.length = g.st.length) (hb : b.length = g.st.length) (i : Nat) (S : List Bool) (hi : i < g.st.length) (hS : S.length = g.st.length) : CallsA Tryz.prog 128 [.int i, lst 1 enB S, .pt [lst 1 encBL [a, b]], .pt g.cs] [] (.bool (unH g.nx false a b i S)) [] := by
  have h60 := hG.1.2
  have g1 := z97 (S := a) (i := i) (by omega)
  have g2 := z97 (S := b) (i := i) (by omega)
  have c1 := some_ok g hG S hS i hi
  unfold unH
  generalize gB a i = p at *
  generalize gB b i = q at *
  refine z13 z23 Tryz.func128 rfl rfl 27 Tryz.ntmps128 (by simp) ?_
  cases p <;> cases q
  all_goals
    repeat' ((first | (apply AWP.go ok; rfl) | (refine z21 (i := 0) rfl rfl ?_) | (refine z21 (i := 1) rfl rfl ?_) | (refine z21 (i := i) rfl g1 ?_) | (refine z21 (i := i) rfl g2 ?_) | (apply And.intro; omega) | (apply z12 (c1); rfl; rfl)) <;> conv => whnf)
    all_goals exact z24 rfl rfl

theorem sat3_ok (g : Graph) (hG : GB g) (a : List Bool) (ha : a.length = g.st.length) (i : Nat) (S : List Bool) (hi : i < g.st.length) (hS : S.length = g.st.length) : CallsA Tryz.prog 129 [.int i, lst 1 enB S, .pt [lst 1 encBL [a]], .pt g.cs] [] (.bool (alH g.nx false a i S)) [] := by
  have h60 := hG.1.2
  have g1 := z97 (S := a) (i := i) (by omega)
  have c1 := some_ok g hG S hS i hi
  unfold alH
  generalize gB a i = p at *
  refine z13 z23 Tryz.func129 rfl rfl 19 Tryz.ntmps129 (by simp) ?_
  cases p
  all_goals
    repeat' ((first | (apply AWP.go ok; rfl) | (refine z21 (i := 0) rfl rfl ?_) | (refine z21 (i := i) rfl g1 ?_) | (apply And.intro; omega) | (apply z12 (c1); rfl; rfl)) <;> conv => whnf)
    all_goals exact z24 rfl rfl

theorem sat4_ok (g : Graph) (hG : GB g) (a b : List Bool) (ha : a.length = g.st.length) (hb : b.length = g.st.length) (i : Nat) (S : List Bool) (hi : i < g.st.length) (hS : S.length = g.st.length) : CallsA Tryz.prog 130 [.int i, lst 1 enB S, .pt [lst 1 encBL [a, b]], .pt g.cs] [] (.bool (unH g.nx true a b i S)) [] := by
  have h60 := hG.1.2
  have g1 := z97 (S := a) (i := i) (by omega)
  have g2 := z97 (S := b) (i := i) (by omega)
  have c1 := every_ok g hG S hS i hi
  unfold unH
  generalize gB a i = p at *
  generalize gB b i = q at *
  refine z13 z23 Tryz.func130 rfl rfl 27 Tryz.ntmps130 (by simp) ?_
  cases p <;> cases q
  all_goals
    repeat' ((first | (apply AWP.go ok; rfl) | (refine z21 (i := 0) rfl rfl ?_) | (refine z21 (i := 1) rfl rfl ?_) | (refine z21 (i := i) rfl g1 ?_) | (refine z21 (i := i) rfl g2 ?_) | (apply And.intro; omega) | (apply z12 (c1); rfl; rfl)) <;> conv => whnf)
    all_goals exact z24 rfl rfl

theorem sat5_ok (g : Graph) (hG : GB g) (a : List Bool) (ha : a.length = g.st.length) (i : Nat) (S : List Bool) (hi : i < g.st.length) (hS : S.length = g.st.length) : CallsA Tryz.prog 132 [.int i, lst 1 enB S, .pt [lst 1 encBL [a]], .pt g.cs] [] (.bool (alH g.nx true a i S)) [] := by
  have h60 := hG.1.2
  have g1 := z97 (S := a) (i := i) (by omega)
  have c1 := every_ok g hG S hS i hi
  unfold alH
  generalize gB a i = p at *
  refine z13 z23 Tryz.func132 rfl rfl 19 Tryz.ntmps132 (by simp) ?_
  cases p
  all_goals
    repeat' ((first | (apply AWP.go ok; rfl) | (refine z21 (i := 0) rfl rfl ?_) | (refine z21 (i := i) rfl g1 ?_) | (apply And.intro; omega) | (apply z12 (c1); rfl; rfl)) <;> conv => whnf)
    all_goals exact z24 rfl rfl

theorem sat7_ok (a : List Bool) (N : Nat) (hN : N ≤ 1048576) (ha : a.length = N) (i : Nat) (hi : i < N) : CallsA Tryz.prog 134 [.int i, .pt [lst 1 encBL [a]]] [] (.bool (!gB a i)) [] := by
  have g1 := z97 (S := a) (i := i) (by omega)
  refine z13 z23 Tryz.func134 rfl rfl 11 Tryz.ntmps134 (by simp) ?_
  repeat' ((first | (apply AWP.go ok; rfl) | (refine z21 (i := 0) rfl rfl ?_) | (refine z21 (i := i) rfl g1 ?_) | (apply And.intro; omega)) <;> conv => whnf)
  all_goals exact z24 rfl rfl

theorem sat8_ok (a b : List Bool) (N : Nat) (hN : N ≤ 1048576) (ha : a.length = N) (hb : b.length = N) (i : Nat) (hi : i < N) : CallsA Tryz.prog 135 [.int i, .pt [lst 1 encBL [a, b]]] [] (.bool (gB a i && gB b i)) [] := by
  have g1 := z97 (S := a) (i := i) (by omega)
  have g2 := z97 (S := b) (i := i) (by omega)
  generalize gB a i = p at *
  generalize gB b i = q at *
  refine z13 z23 Tryz.func135 rfl rfl 18 Tryz.ntmps135 (by simp) ?_
  cases p <;> cases q
  all_goals
    repeat' ((first | (apply AWP.go ok; rfl) | (refine z21 (i := 0) rfl rfl ?_) | (refine z21 (i := 1) rfl rfl ?_) | (refine z21 (i := i) rfl g1 ?_) | (refine z21 (i := i) rfl g2 ?_) | (apply And.intro; omega)) <;> conv => whnf)
    all_goals exact z24 rfl rfl

theorem sat9_ok (a b : List Bool) (N : Nat) (hN : N ≤ 1048576) (ha : a.length = N) (hb : b.length = N) (i : Nat) (hi : i < N) : CallsA Tryz.prog 136 [.int i, .pt [lst 1 encBL [a, b]]] [] (.bool (gB a i || gB b i)) [] := by
  have g1 := z97 (S := a) (i := i) (by omega)
  have g2 := z97 (S := b) (i := i) (by omega)
  generalize gB a i = p at *
  generalize gB b i = q at *
  refine z13 z23 Tryz.func136 rfl rfl 18 Tryz.ntmps136 (by simp) ?_
  cases p <;> cases q
  all_goals
    repeat' ((first | (apply AWP.go ok; rfl) | (refine z21 (i := 0) rfl rfl ?_) | (refine z21 (i := 1) rfl rfl ?_) | (refine z21 (i := i) rfl g1 ?_) | (refine z21 (i := i) rfl g2 ?_) | (apply And.intro; omega)) <;> conv => whnf)
    all_goals exact z24 rfl rfl

theorem sat10_ok (g : Graph) (hG : GB g) (a : List Bool) (ha : a.length = g.st.length) (i : Nat) (hi : i < g.st.length) : CallsA Tryz.prog 137 [.int i, .pt g.cs, .pt [lst 1 encBL [a]]] [] (.bool (nxB g.nx false i a)) [] := by
  have c1 := some_ok g hG a ha i hi
  refine z13 z23 Tryz.func137 rfl rfl 11 Tryz.ntmps137 (by simp) ?_
  repeat' ((first | (apply AWP.go ok; rfl) | (apply z37; kernel_rfl) | (refine z21 (i := 0) rfl rfl ?_) | (apply And.intro; omega) | (apply z12 (c1); rfl; rfl)) <;> conv => whnf)
  all_goals exact z24 rfl rfl

theorem sat11_ok (g : Graph) (hG : GB g) (a : List Bool) (ha : a.length = g.st.length) (i : Nat) (hi : i < g.st.length) : CallsA Tryz.prog 138 [.int i, .pt g.cs, .pt [lst 1 encBL [a]]] [] (.bool (nxB g.nx true i a)) [] := by
  have c1 := every_ok g hG a ha i hi
  refine z13 z23 Tryz.func138 rfl rfl 11 Tryz.ntmps138 (by simp) ?_
  repeat' ((first | (apply AWP.go ok; rfl) | (apply z37; kernel_rfl) | (refine z21 (i := 0) rfl rfl ?_) | (apply And.intro; omega) | (apply z12 (c1); rfl; rfl)) <;> conv => whnf)
  all_goals exact z24 rfl rfl
end Go.Proofs.YtppafngcahgagaaGreat

