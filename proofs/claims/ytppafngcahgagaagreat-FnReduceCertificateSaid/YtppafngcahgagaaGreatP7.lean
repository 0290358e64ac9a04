/- A part of the proofs over this program: T158, T159, T160, T94W, T29, T94K, T161, T162, T163, T164. -/
import Derived.Test.YtppafngcahgagaaGreatG0
import Derived.Test.YtppafngcahgagaaGreatG1
import Derived.Test.YtppafngcahgagaaGreatG2
import Derived.Test.YtppafngcahgagaaGreatG3
import Derived.Test.YtppafngcahgagaaGreatP0
import Derived.Test.YtppafngcahgagaaGreatP1
import Derived.Test.YtppafngcahgagaaGreatP2
import Derived.Test.YtppafngcahgagaaGreatP3
import Derived.Test.YtppafngcahgagaaGreatP4
import Derived.Test.YtppafngcahgagaaGreatP5
import Derived.Test.YtppafngcahgagaaGreatP6
import Derived.Test.YtppafngcahgagaaGreatRows
import Derived.WalkKit
import Derived.ProofKit
import Derived.Deep.DeepHandedRow
import Derived.Lib.LaidTab
set_option linter.all false
namespace Go.Proofs.YtppafngcahgagaaGreat
open Go.Gl
attribute [local irreducible] z32 AWP z48 z55 z50 RetS z65

theorem rowAt {rows : List (List Int)} {v : Int} (hv : 0 ≤ v ∧ v < rows.length) : (rows.map encL)[v.toNat]? = some (encL (rows.getD v.toNat [])) := by
  rw [List.getElem?_map, List.getElem?_eq_getElem (by omega), z25 (by omega)]; rfl
theorem rowLen {rows : List (List Int)} {M : Nat} (hrl : ∀ r ∈ rows, r.length ≤ M) (v : Int) : (rows.getD v.toNat []).length ≤ M := by
  by_cases h : v.toNat < rows.length
  · rw [z25 h]; exact hrl _ (List.getElem_mem _)
  · rw [List.getD_eq_getElem?_getD, List.getElem?_eq_none (by omega)]; exact Nat.zero_le _
set_option maxHeartbeats 3200000 in
theorem l8Cycle_ok (rows : List (List Int)) (v : Int) (hr : ∀ r ∈ rows, InN rows.length r) (hv : 0 ≤ v ∧ v < rows.length) (hN : rows.length ≤ 100000) (hrl : ∀ r ∈ rows, r.length ≤ 1000000000) : CallsA Tryz.prog 205 [lst 1 encL rows, .int v] [] (ints (cycL rows v)) [] := by
  have hg := rowAt hv
  have hl := fun w => rowLen hrl w
  have c1 := l4In_ok (rows.getD v.toNat []) (by have := hl v; unfold maxLen; omega) v
  have hlv := hl v
  have c2 := l8Search_new rows [v] hr (one_in hv) (by simp) hN hrl
  have hQ := srQ_in hr (one_in hv) (by simp)
  have hB := srQ_back hr (one_in hv) (by simp)
  have hPl := srP_len hr (one_in hv) (by simp)
  have hQl := srQ_len hr (one_in hv) (by simp)
  have c3 := fun k hk => l8Back_ok (srP rows [v]) (by omega) rows.length _ (hB k hk) (by omega)
  unfold cycL
  by_cases h : v ∈ rows.getD v.toNat []
  · rw [if_pos h]
    rw [decide_eq_true h] at c1
    generalize rows.getD v.toNat [] = r0 at *
    refine z10 z18 Tryz.func205 rfl rfl 45 Tryz.ntmps205 (by simp) ?_
    repeat' ((first | (apply AWP.go ok; rfl) | (refine z24 (i := v.toNat) (by simp) hg ?_) | (apply And.intro; omega) | (apply z9 (c1); rfl; rfl)) <;> conv => whnf)
    all_goals skip
    all_goals (refine RetS.lay [] [0] rfl rfl rfl ?_; refine RetS.done ?_ ?_ <;> (repeat' (first | exact LocLe.refl _ | exact F2.nil)))
  · rw [if_neg h]
    rw [decide_eq_false h] at c1
    generalize hr0 : rows.getD v.toNat [] = r0 at hg c1 hlv
    generalize srQ rows [v] = Q at *
    generalize srP rows [v] = P at *
    generalize hR : cycT rows P v Q = R
    refine z10 z18 Tryz.func205 rfl rfl 45 Tryz.ntmps205 (by simp) ?_
    repeat' ((first | (apply AWP.go ok; rfl) | (refine z24 (i := v.toNat) (by simp) hg ?_) | (apply And.intro; omega) | (apply z9 (c1); rfl; rfl) | (((apply z6 [] [0] [1, 2] (c2); (focus ((repeat' first | exact z86 | apply z57) <;> rfl)); (focus ((repeat' exact z4) <;> fail)))); rfl; rfl; rfl; rfl; rfl; (focus ((repeat' first | exact z12 | apply z11) <;> (refine z23 ?_; ((exact z8 fun _ => rfl))))); ((refine .inr ⟨rfl, ?_⟩; repeat' first | exact True.intro | apply And.intro | exact plainLL_map (fun _ => rfl) _)))) <;> conv => whnf)
    all_goals skip
    refine z76 (fun i : Nat => ([(0, lst 1 encL rows), (1, .int v), (5, ints P), (6, ints Q), (7, .int i)], [])) (fun i => i ≤ Q.length ∧ cycT rows P v (Q.drop i) = R) (fun i => Q.length - i) 0 ⟨Nat.zero_le _, hR⟩ (by refine SealW.reach [] [1, 2] rfl rfl rfl rfl ?_ ?_ <;> (repeat' (first | exact LocLe.refl _ | exact F2.nil | ((apply z37 rfl rfl rfl); (focus ((repeat ((exact z33 (fun _ => rfl) _))); done)); (focus (((simp; done)); done))) | exact True.intro | apply And.intro))) ?_
    rintro i ⟨hi1, hi2⟩
    by_cases hi3 : i < Q.length
    · have hq := hQ _ (List.getElem_mem hi3)
      have hgq := rowAt hq
      have c4 := l4In_ok (rows.getD Q[i].toNat []) (by have := hl Q[i]; unfold maxLen; omega) v
      have hlq := hl Q[i]
      have c5 := c3 i hi3
      rw [List.drop_eq_getElem_cons hi3, cycT] at hi2
      have hgi : (Q.map enI)[i]? = some (enI Q[i]) := by rw [List.getElem?_map, List.getElem?_eq_getElem hi3]; rfl
      generalize Q[i] = u at *
      by_cases hm : v ∈ rows.getD u.toNat []
      · rw [if_pos hm] at hi2
        rw [decide_eq_true hm] at c4
        subst hi2
        generalize rows.getD u.toNat [] = r1 at *
        repeat' ((first | (apply AWP.go ok; rfl) | (refine z24 (i := u.toNat) (by simp) hgq ?_) | (refine z24 (i := i) (by simp) hgi ?_) | (apply And.intro; omega) | ((apply z7) <;> intro _) | (apply z9 (c4); rfl; rfl) | (apply z9 (c5); rfl; rfl)) <;> conv => whnf)
        all_goals first | (exfalso; omega) | skip
        all_goals (refine RetS.lay [] [] rfl rfl rfl ?_; refine RetS.done ?_ ?_ <;> (repeat' (first | exact LocLe.refl _ | exact F2.nil)))
      · rw [if_neg hm] at hi2
        rw [decide_eq_false hm] at c4
        generalize rows.getD u.toNat [] = r1 at *
        repeat' ((first | (apply AWP.go ok; rfl) | (refine z24 (i := u.toNat) (by simp) hgq ?_) | (refine z24 (i := i) (by simp) hgi ?_) | (apply And.intro; first | omega | (unfold inI; omega)) | ((apply z7) <;> intro _) | (apply z9 (c4); rfl; rfl)) <;> conv => whnf)
        all_goals first | (exfalso; omega) | skip
        all_goals refine z31 (i + 1) ⟨hi3, hi2⟩ (by omega) (by refine SealW.reach [] [] rfl rfl rfl rfl ?_ ?_ <;> (repeat' (first | exact LocLe.refl _ | exact F2.nil | exact True.intro | apply And.intro)))
    · have e : Q.length = i := by omega
      subst e
      rw [List.drop_length, cycT] at hi2
      subst hi2
      repeat' ((first | (apply AWP.go ok; rfl) | (apply And.intro; omega) | ((first | (with_reducible apply z13; omega) | (with_reducible apply z62; omega)); intro _) | ((apply z7) <;> intro _)) <;> conv => whnf)
      all_goals first | (exfalso; omega) | skip
      all_goals (refine RetS.lay [] [0] rfl rfl rfl ?_; refine RetS.done ?_ ?_ <;> (repeat' (first | exact LocLe.refl _ | exact F2.nil)))

theorem l8States_ok (l : List Int) (n : Nat) (hl : l.length ≤ 1000000) (hn : 1 ≤ n) (h0 : ∀ x ∈ l, 0 ≤ x) (h1 : ∀ x ∈ l, x ≤ 1000000000) : CallsA Tryz.prog 207 [ints l, .int n] [] (.sref 0 0 l.length) [.cells 1 ((stL l n).map enI)] := by
  refine z10 z18 Tryz.func207 rfl rfl 24 Tryz.ntmps207 (by simp) ?_
  repeat' (((apply AWP.go ok; rfl)) <;> conv => whnf)
  refine z76 (fun x : Nat × List Int => ([(0, ints l), (1, .int n), (5, .sref 0 0 x.2.length), (6, .int x.1)], [.cells 1 (x.2.map enI)])) (fun x => x.1 ≤ l.length ∧ x.2.length = x.1 ∧ x.2 = stL (l.take x.1) n) (fun x => l.length - x.1) (0, []) ⟨Nat.zero_le _, rfl, rfl⟩ (by refine SealW.reach [0] [] rfl rfl rfl rfl ?_ ?_ <;> (repeat' (first | exact LocLe.refl _ | exact F2.nil | apply F2.cons | ((refine z16 rfl ?_ ?_); (focus ((repeat' (exact z38)); done))) | exact True.intro | apply And.intro))) ?_
  rintro ⟨i, F⟩ ⟨hi1, hF1, hF2⟩
  dsimp only at hi1 hF1 hF2 ⊢
  by_cases hi2 : i < l.length
  · have a0 := h0 _ (List.getElem_mem hi2)
    have a1 := h1 _ (List.getElem_mem hi2)
    have a2 : 0 ≤ l[i] / (n : Int) := Int.ediv_nonneg a0 (by omega)
    have a3 : l[i] / (n : Int) ≤ l[i] := Int.ediv_le_self _ a0
    have hF3 : stL (l.take (i + 1)) n = F ++ [l[i] / n] := by rw [hF2, stL, List.take_succ_eq_append_getElem hi2, List.map_append]; rfl
    repeat' ((first | (apply AWP.go ok; rfl) | (apply And.intro; first | omega | (unfold inI; omega) | ((try dsimp only); simp only [List.length_map, List.length_take, List.length_append, List.length_replicate, List.length_cons, List.length_nil]; omega) | exact ⟨rfl, z21 rfl z26⟩) | (((with_reducible apply z13; omega)); intro _) | ((apply z7) <;> intro _)) <;> conv => whnf)
    all_goals first | (exfalso; omega) | skip
    all_goals refine z31 (i + 1, F ++ [l[i] / n]) ⟨hi2, by rw [List.length_append, hF1]; rfl, hF3.symm⟩ (by show l.length - (i + 1) < l.length - i; omega) (by refine SealW.reach [2] [] rfl rfl rfl rfl ?_ ?_ <;> (repeat' (first | exact LocLe.refl _ | exact F2.nil | apply F2.cons | (refine z35 ?_; ((simp; done))) | ((refine z30 rfl ?_ ?_); (focus ((repeat' (first | exact z8 (fun _ => rfl) | apply z22)); done))) | (refine z73 ?_ ?_; (focus (omega))) | exact True.intro | apply And.intro)))
  · have e : l.length = i := by omega
    subst e
    rw [List.take_length] at hF2
    subst hF2
    repeat' ((first | (apply AWP.go ok; rfl) | (apply And.intro; omega) | (((with_reducible apply z13; omega)); intro _) | ((apply z7) <;> intro _)) <;> conv => whnf)
    all_goals first | (exfalso; omega) | skip
    all_goals (refine RetS.lay [0] [] rfl rfl rfl ?_; refine RetS.done ?_ ?_ <;> (repeat' (first | exact F2.nil | apply F2.cons | exact z15 _ | (refine z35 ?_; (omega)) | ((refine z16 rfl ?_ ?_); (focus ((repeat' ((exact z8 (fun _ => rfl)))); done))))))
end Go.Proofs.YtppafngcahgagaaGreat

namespace Go.Proofs.YtppafngcahgagaaGreat
open Go.Gl
attribute [local irreducible] z32 AWP z48 z55 z50 RetS z65

theorem IniP.nd {l : List Int} {n : Int} (h : IniP l n l.length) : l.Nodup := by
  have hs : ∀ d i (hi : i + d + 1 < l.length), l[i] < l[i + d + 1] := by
    intro d
    induction d with
    | zero => intro i hi; exact (h (i + 1) hi hi).2 i rfl
    | succ d ih =>
      intro i hi
      have h1 := ih i (by omega)
      have h2 := (h (i + (d + 1) + 1) hi hi).2 (i + d + 1) (by omega)
      omega
  rw [List.nodup_iff_pairwise_ne, List.pairwise_iff_getElem]
  intro i j hi hj hij
  have := hs (j - i - 1) i (by omega)
  have e : i + (j - i - 1) + 1 = j := by omega
  simp only [e] at this
  omega
noncomputable def trcO (g : Graph) (ls : List Int) (a : Aut) : Option (List Int × List Int) := (finS (z34 g ls a) a.ini a.acc).map fun x => (stL (x.1.take (x.1.length - 1)) a.acc.length, stL x.2 a.acc.length)
noncomputable def trcL (g : Graph) (ls : List Int) (a : Aut) : List Int × List Int := (trcO g ls a).getD ([], [])
set_option maxHeartbeats 6400000 in
theorem l8Find_ok (g : Graph) (hG : GB g) (ls : List Int) (hls : ls.length = g.st.length) (hlr : ∀ x ∈ ls, 0 ≤ x ∧ x ≤ 7) (a : Aut) (hA : AutP a) : CallsA Tryz.prog 170 [.agg g.cs, ints ls, .agg a.cs] [] (.tup [.agg [ints (trcL g ls a).1, ints (trcL g ls a).2], .bool (trcO g ls a).isSome]) [] := by
  have k2 := l8Product_ok g hG ls hls hlr a hA
  obtain ⟨f1, f2, f3, f4, f5⟩ := z125 hG hA ls
  have hlen : (z34 g ls a).length = g.st.length * a.acc.length := by unfold z34; rw [z71, Nat.mul_comm]
  have hnd := hA.2.2.1.nd
  have hac := hA.1
  unfold trcL trcO finS
  generalize z34 g ls a = rows at *
  have k3 := l8Search_ok rows a.ini f1 f2 hnd (by omega) f4
  have hQ := srQ_in f1 f2 hnd
  have hB := srQ_back f1 f2 hnd
  have hPl := srP_len f1 f2 hnd
  have hQl := srQ_len f1 f2 hnd
  have hPle := srS_le f1 f2 hnd rows.length
  have k4 := fun v hv => l8Cycle_ok rows v f1 hv (by omega) f4
  have k5 := fun k hk => l8Back_ok (srP rows a.ini) (by omega) rows.length _ (hB k hk) (by omega)
  have n4 := fun v hv => cycL_nn f1 (v := v) hv
  have m4 := fun v hv => cycL_le f1 (v := v) hv
  change ∀ y ∈ srP rows a.ini, y ≤ (rows.length : Int) at hPle
  generalize srQ rows a.ini = Q at *
  generalize srP rows a.ini = P at *
  generalize hR : finT rows a.acc P Q = R
  refine z10 z18 Tryz.func170 rfl rfl 72 Tryz.ntmps170 (by simp) ?_
  repeat' ((first | (apply AWP.go ok; rfl) | (apply z9 (k2); rfl; rfl) | (apply z9 (k3); rfl; rfl)) <;> conv => whnf)
  all_goals skip
  refine z76 (fun i : Nat => ([(5, .ptr 0 none 0), (6, .ptr 1 none 0), (8, .int a.acc.length), (9, lst 1 encL rows), (10, ints P), (11, ints Q), (12, .int i)], [.cells 3 [a.cs], .cells 2 [[.nils, .nils]]])) (fun i => i ≤ Q.length ∧ finT rows a.acc P (Q.drop i) = R) (fun i => Q.length - i) 0 ⟨Nat.zero_le _, hR⟩ (by refine SealW.reach [1, 2] [] rfl rfl rfl rfl ?_ ?_ <;> (repeat' (first | exact LocLe.refl _ | exact F2.nil | apply F2.cons | apply ObjLe.box | exact True.intro | apply And.intro))) ?_
  rintro i ⟨hi1, hi2⟩
  by_cases hi3 : i < Q.length
  · have hq := hQ _ (List.getElem_mem hi3)
    have c5 := k5 i hi3
    rw [List.drop_eq_getElem_cons hi3, finT] at hi2
    have hgi : (Q.map enI)[i]? = some (enI Q[i]) := by rw [List.getElem?_map, List.getElem?_eq_getElem hi3]; rfl
    generalize Q[i] = u at *
    have hm0 : 0 ≤ u % (a.acc.length : Int) := Int.emod_nonneg _ (by omega)
    have hm1 : u % (a.acc.length : Int) < a.acc.length := Int.emod_lt_of_pos _ (by omega)
    have hga : (a.acc.map enB)[(u % (a.acc.length : Int)).toNat]? = some (enB (a.acc.getD (u % (a.acc.length : Int)).toNat false)) := by
      rw [List.getElem?_map, List.getElem?_eq_getElem (by omega), z25 (by omega)]; rfl
    have c4 := k4 u hq
    have l4 := cycL_len rows u
    have b1 := bkw_len P rows.length u []
    simp only [List.length_nil, Nat.add_zero] at b1
    have b2 := bkw_pos P rows.length u []
    have b3 := bkw_nn (P := P) rows.length u [] hq.1 (fun x hx => by cases hx)
    have b4 := bkw_le hPle rows.length u [] (by omega) (by omega) (fun x hx => by cases hx)
    have n5 := n4 u hq
    have m5 := m4 u hq
    generalize bkw P rows.length u [] = b at *
    generalize cycL rows u = c at *
    have c6 := l8States_ok (b.take (b.length - 1)) a.acc.length (by rw [List.length_take]; omega) (by omega) (fun x hx => b3 x (List.mem_of_mem_take hx)) (fun x hx => by have := b4 x (List.mem_of_mem_take hx); omega)
    rw [show (b.take (b.length - 1)).length = b.length - 1 by rw [List.length_take]; omega] at c6
    have eL : AC.list 1 (((b.length : Int) - 1).toNat - Int.toNat 0) (List.take (((b.length : Int) - 1).toNat - Int.toNat 0) (List.drop (Int.toNat 0) (List.map enI b))) = ints (b.take (b.length - 1)) := by
      rw [show ((b.length : Int) - 1).toNat - Int.toNat 0 = b.length - 1 by rw [show Int.toNat 0 = 0 from rfl]; omega]
      show _ = AC.list 1 (b.take (b.length - 1)).length ((b.take (b.length - 1)).map enI)
      rw [show (b.take (b.length - 1)).length = b.length - 1 by rw [List.length_take]; omega, List.map_take]; rfl
    rw [← eL] at c6
    have hs1 : (stL (b.take (b.length - 1)) a.acc.length).length = b.length - 1 := by rw [stL, List.length_map, List.length_take]; omega
    have hs2 : (stL c a.acc.length).length = c.length := by rw [stL, List.length_map]
    have c7 := l8States_ok c a.acc.length (by omega) (by omega) n5 (fun x hx => by have := m5 x hx; omega)
    generalize a.acc.getD (u % (a.acc.length : Int)).toNat false = z at *
    cases z
    · rw [if_neg (by simp)] at hi2
      repeat' ((first | (apply AWP.go ok; rfl) | (apply z29; kernel_rfl) | (refine z24 (i := i) (by simp) hgi ?_) | (refine z24 (i := (u % (a.acc.length : Int)).toNat) (by simp) hga ?_) | (apply And.intro; first | omega | (unfold inI; omega)) | ((apply z7) <;> intro _)) <;> conv => whnf)
      all_goals first | (exfalso; omega) | skip
      all_goals refine z31 (i + 1) ⟨hi3, hi2⟩ (by omega) (by refine SealW.reach [0, 1] [] rfl rfl rfl rfl ?_ ?_ <;> (repeat' (first | exact LocLe.refl _ | exact F2.nil | apply F2.cons | apply ObjLe.box | exact True.intro | apply And.intro)))
    · rw [if_pos rfl] at hi2
      by_cases hc : 0 < c.length
      · rw [if_pos hc] at hi2
        subst hi2
        repeat' ((first | (apply AWP.go ok; rfl) | (apply z29; kernel_rfl) | (refine z24 (i := i) (by simp) hgi ?_) | (refine z24 (i := (u % (a.acc.length : Int)).toNat) (by simp) hga ?_) | (apply And.intro; first | omega | (unfold inI; omega)) | ((apply z7) <;> intro _) | (apply z9 (c4); rfl; rfl) | (apply z9 (c5); rfl; rfl) | ((first | (apply z6 [] [] [2] (c6); rfl; (focus ((repeat' exact z4) <;> fail))) | (apply z6 [] [] [3] (c7); rfl; (focus ((repeat' exact z4) <;> fail)))); rfl; rfl; rfl; rfl; rfl; (focus ((repeat' first | exact z12 | apply z11) <;> (refine z23 ?_; ((exact z8 fun _ => rfl))))); (exact .inl rfl))) <;> conv => whnf)
        all_goals first | (exfalso; omega) | skip
        all_goals (refine RetS.lay [] [2, 3] rfl rfl rfl ?_; refine RetS.done ?_ ?_ <;> (repeat' (first | exact LocLe.refl _ | exact F2.nil | apply F2.cons | (refine lst_le ?_; omega) | ((apply z37 rfl rfl rfl); (focus ((repeat ((exact z33 (fun _ => rfl) _))); done)); (focus (((simp; omega)); done))) | apply z40 | apply z111)))
      · rw [if_neg hc] at hi2
        repeat' ((first | (apply AWP.go ok; rfl) | (apply z29; kernel_rfl) | (refine z24 (i := i) (by simp) hgi ?_) | (refine z24 (i := (u % (a.acc.length : Int)).toNat) (by simp) hga ?_) | (apply And.intro; first | omega | (unfold inI; omega)) | ((apply z7) <;> intro _) | (apply z9 (c4); rfl; rfl) | (apply z9 (c5); rfl; rfl)) <;> conv => whnf)
        all_goals first | (exfalso; omega) | skip
        all_goals refine z31 (i + 1) ⟨hi3, hi2⟩ (by omega) (by refine SealW.reach [0, 1] [] rfl rfl rfl rfl ?_ ?_ <;> (repeat' (first | exact LocLe.refl _ | exact F2.nil | apply F2.cons | apply ObjLe.box | exact True.intro | apply And.intro)))
  · have e : Q.length = i := by omega
    subst e
    rw [List.drop_length, finT] at hi2
    subst hi2
    repeat' ((first | (apply AWP.go ok; rfl) | (apply z29; kernel_rfl) | (apply And.intro; omega) | ((first | (with_reducible apply z13; omega) | (with_reducible apply z62; omega)); intro _) | ((first | apply z7 | apply z84) <;> intro _)) <;> conv => whnf)
    all_goals first | (exfalso; omega) | skip
    all_goals (refine RetS.lay [] [] rfl rfl rfl ?_; refine RetS.done ?_ ?_ <;> (repeat' (first | exact LocLe.refl _ | exact z46 | exact F2.nil | apply F2.cons | apply z40 | apply z111)))
end Go.Proofs.YtppafngcahgagaaGreat

namespace Go.Proofs.YtppafngcahgagaaGreat
open Go.Gl
attribute [local irreducible] z32 AWP z48 z55 z50 RetS z65

set_option maxHeartbeats 3200000 in
theorem l9Rank_ok (R row : List Int) (z : Bool) {M : Int} (hB : Bd M R) (hM : 0 ≤ M) (hM2 : M ≤ 1000000000) (hr : InN R.length row) (hRl : R.length ≤ 100000) (hrl : row.length ≤ 1000000000) : CallsA Tryz.prog 208 [ints row, ints R, .bool z] [] (.int (rkOf R z row)) [] := by
  refine z10 z18 Tryz.func208 rfl rfl 31 Tryz.ntmps208 (by simp) ?_
  repeat' (((apply AWP.go ok; rfl)) <;> conv => whnf)
  refine z76 (fun i : Nat => ([(0, ints row), (1, ints R), (2, .bool z), (7, .int ((row.take i).foldl (rkStep R z) 0)), (8, .int i)], [])) (fun i => i ≤ row.length) (fun i => row.length - i) 0 (Nat.zero_le _) (by refine SealW.reach [] [] rfl rfl rfl rfl ?_ ?_ <;> (repeat' (first | exact LocLe.refl _ | exact F2.nil | exact True.intro | apply And.intro))) ?_
  intro i hi
  by_cases hi2 : i < row.length
  · have hx := hr _ (List.getElem_mem hi2)
    have hb := hB.getD hM row[i].toNat
    have ho := rkFold_le hB hM (z := z) (row.take i) 0 ⟨by omega, by omega⟩
    have hs : (row.take (i + 1)).foldl (rkStep R z) 0 = rkStep R z ((row.take i).foldl (rkStep R z) 0) row[i] := by rw [List.take_succ_eq_append_getElem hi2, List.foldl_append]; rfl
    have hg : (row.map enI)[i]? = some (enI row[i]) := by rw [List.getElem?_map, List.getElem?_eq_getElem hi2]; rfl
    have hg2 : (R.map enI)[row[i].toNat]? = some (enI (R.getD row[i].toNat 0)) := by rw [List.getElem?_map, List.getElem?_eq_getElem (by omega), z25 (by omega)]; rfl
    generalize (row.take i).foldl (rkStep R z) 0 = o at *
    generalize row[i] = v at *
    rw [show rkStep R z o v = (if o < R.getD v.toNat 0 + (if z = true then 1 else 0) then R.getD v.toNat 0 + (if z = true then 1 else 0) else o) from rfl] at hs
    generalize R.getD v.toNat 0 = r at *
    cases z
    · simp only [if_neg (show ¬ false = true by simp), Int.add_zero] at hs
      by_cases hlt : o < r
      · rw [if_pos hlt] at hs
        repeat' ((first | (apply AWP.go ok; rfl) | (refine z24 (i := i) (by simp) hg ?_) | (refine z24 (i := v.toNat) (by simp) hg2 ?_) | (apply And.intro; first | omega | (unfold inI; omega)) | ((apply z7) <;> intro _)) <;> conv => whnf)
        all_goals first | (exfalso; omega) | skip
        all_goals refine z31 (i + 1) hi2 (by omega) (by refine SealW.reach [] [] rfl rfl rfl rfl ?_ ?_ <;> (repeat' (first | exact LocLe.refl _ | exact F2.nil | (refine z95 ?_; omega) | exact True.intro | apply And.intro)) <;> ((rw [hs]; exact LocLe.refl _)))
      · rw [if_neg hlt] at hs
        repeat' ((first | (apply AWP.go ok; rfl) | (refine z24 (i := i) (by simp) hg ?_) | (refine z24 (i := v.toNat) (by simp) hg2 ?_) | (apply And.intro; first | omega | (unfold inI; omega)) | ((apply z7) <;> intro _)) <;> conv => whnf)
        all_goals first | (exfalso; omega) | skip
        all_goals refine z31 (i + 1) hi2 (by omega) (by refine SealW.reach [] [] rfl rfl rfl rfl ?_ ?_ <;> (repeat' (first | exact LocLe.refl _ | exact F2.nil | (refine z95 ?_; omega) | exact True.intro | apply And.intro)) <;> ((rw [hs]; exact LocLe.refl _)))
    · simp only [if_pos] at hs
      by_cases hlt : o < r + 1
      · rw [if_pos hlt] at hs
        repeat' ((first | (apply AWP.go ok; rfl) | (refine z24 (i := i) (by simp) hg ?_) | (refine z24 (i := v.toNat) (by simp) hg2 ?_) | (apply And.intro; first | omega | (unfold inI; omega)) | ((apply z7) <;> intro _)) <;> conv => whnf)
        all_goals first | (exfalso; omega) | skip
        all_goals refine z31 (i + 1) hi2 (by omega) (by refine SealW.reach [] [] rfl rfl rfl rfl ?_ ?_ <;> (repeat' (first | exact LocLe.refl _ | exact F2.nil | (refine z95 ?_; omega) | exact True.intro | apply And.intro)) <;> ((rw [hs]; exact LocLe.refl _)))
      · rw [if_neg hlt] at hs
        repeat' ((first | (apply AWP.go ok; rfl) | (refine z24 (i := i) (by simp) hg ?_) | (refine z24 (i := v.toNat) (by simp) hg2 ?_) | (apply And.intro; first | omega | (unfold inI; omega)) | ((apply z7) <;> intro _)) <;> conv => whnf)
        all_goals first | (exfalso; omega) | skip
        all_goals refine z31 (i + 1) hi2 (by omega) (by refine SealW.reach [] [] rfl rfl rfl rfl ?_ ?_ <;> (repeat' (first | exact LocLe.refl _ | exact F2.nil | (refine z95 ?_; omega) | exact True.intro | apply And.intro)) <;> ((rw [hs]; exact LocLe.refl _)))
  · have e : row.length = i := by omega
    subst e
    rw [List.take_length]
    repeat' ((first | (apply AWP.go ok; rfl) | (apply And.intro; omega) | ((first | (with_reducible apply z13; omega) | (with_reducible apply z62; omega)); intro _) | ((first | apply z7 | apply z84) <;> intro _)) <;> conv => whnf)
    all_goals first | (exfalso; omega) | skip
    all_goals (refine RetS.lay [] [] rfl rfl rfl ?_; refine RetS.done ?_ ?_ <;> (repeat' (first | exact LocLe.refl _ | exact F2.nil)))

set_option maxHeartbeats 12800000 in
theorem l9Make_new (rows : List (List Int)) (a : Aut) (hr : ∀ r ∈ rows, InN rows.length r) (hi : InN rows.length a.ini) (hac : 1 ≤ a.acc.length ∧ a.acc.length ≤ 64) (hN : rows.length ≤ 3840) (hrl : ∀ r ∈ rows, r.length ≤ 1000000000) (hil : a.ini.length ≤ 1048576) : CallsA Tryz.prog 171 [lst 1 encL rows, .agg a.cs] [] (.sref 0 0 rows.length) [.cells 1 ((makeR rows a.ini a.acc).map enI)] := by
  have c1 := l7Reach_ok rows a.ini hr hi (by omega) hrl hil
  have hQn := bfs_len hr hi rows.length
  have hQi := bfs_in hr hi rows.length
  change (bfsL rows a.ini).length ≤ rows.length at hQn
  change InN rows.length (bfsL rows a.ini) at hQi
  have hml := makeR_len rows a.ini a.acc
  unfold makeR at *
  generalize bfsL rows a.ini = nodes at *
  refine z10 z18 Tryz.func171 rfl rfl 89 Tryz.ntmps171 (by simp) ?_
  repeat' ((first | (apply AWP.go ok; rfl) | (apply z9 (c1); rfl; rfl)) <;> conv => whnf)
  all_goals skip
  refine z76 (fun x : Nat × List Int => ([(0, lst 1 encL rows), (3, .ptr 0 none 0), (5, .int a.acc.length), (6, ints nodes), (7, .sref 1 0 x.2.length), (8, .int x.1)], [.cells 3 [a.cs], .cells 1 (x.2.map enI)])) (fun x => x.1 ≤ rows.length ∧ x.2.length = x.1 ∧ x.2 = fillN x.1) (fun x => rows.length - x.1) (0, []) ⟨Nat.zero_le _, rfl, rfl⟩ (by refine SealW.reach [0, 1] [] rfl rfl rfl rfl ?_ ?_ <;> (repeat' (first | exact LocLe.refl _ | exact F2.nil | apply F2.cons | apply ObjLe.box | ((refine z16 rfl ?_ ?_); (focus ((repeat' (exact z38)); done))) | exact True.intro | apply And.intro))) ?_
  rintro ⟨i, F⟩ ⟨hF1, hFl, hF2⟩
  dsimp only at hF1 hFl hF2 ⊢
  by_cases hi2 : i < rows.length
  · repeat' ((first | (apply AWP.go ok; rfl) | (apply And.intro; first | (unfold inI; omega) | ((try dsimp only); simp only [List.length_map, List.length_take, List.length_append, List.length_replicate, List.length_cons, List.length_nil]; omega) | exact ⟨rfl, z21 rfl z26⟩) | ((apply z7) <;> intro _)) <;> conv => whnf)
    all_goals first | (exfalso; omega) | skip
    all_goals refine z31 (i + 1, F ++ [-1]) ⟨hi2, by rw [List.length_append, hFl]; rfl, by show _ = fillN (i + 1); rw [fillN_succ, ← hF2]⟩ (by show rows.length - (i + 1) < _; omega) (by refine SealW.reach [0, 3] [] rfl rfl rfl rfl ?_ ?_ <;> (repeat' (first | exact LocLe.refl _ | exact F2.nil | apply F2.cons | (refine z35 ?_; ((simp; done))) | apply ObjLe.box | ((refine z30 rfl ?_ ?_); (focus ((repeat' (first | exact z8 (fun _ => rfl) | apply z22)); done))) | (refine z73 ?_ ?_; (focus (omega))) | exact True.intro | apply And.intro)))
  have e : rows.length = i := by omega
  have hz0 : zeroR rows.length (nodes.take 0) = F := by rw [hF2, ← e]; rfl
  subst e
  clear hF1 hF2 hi2
  repeat' ((first | (apply AWP.go ok; rfl) | (apply And.intro; omega) | ((apply z7) <;> intro _)) <;> conv => whnf)
  all_goals first | (exfalso; omega) | skip
  refine z76 (fun x : Nat × List Int => ([(0, lst 1 encL rows), (3, .ptr 0 none 0), (5, .int a.acc.length), (6, ints nodes), (7, .sref 1 0 x.2.length), (9, .int x.1)], [.cells 3 [a.cs], .cells 1 (x.2.map enI)])) (fun x => x.1 ≤ nodes.length ∧ zeroR rows.length (nodes.take x.1) = x.2) (fun x => nodes.length - x.1) (0, F) ⟨Nat.zero_le _, hz0⟩ (by refine SealW.reach [0, 1] [] rfl rfl rfl rfl ?_ ?_ <;> (repeat' (first | exact LocLe.refl _ | exact F2.nil | apply F2.cons | exact z15 _ | apply ObjLe.box | ((refine z16 rfl ?_ ?_); (focus ((repeat' ((exact z8 (fun _ => rfl)))); done))) | exact True.intro | apply And.intro))) ?_
  clear hz0 hFl F
  rintro ⟨i, R⟩ ⟨hi1, hR⟩
  dsimp only at hi1 hR ⊢
  have hRl := zeroR_len rows.length (nodes.take i)
  rw [hR] at hRl
  by_cases hi2 : i < nodes.length
  · have hx := hQi _ (List.getElem_mem hi2)
    have hs := zeroR_take (N := rows.length) hi2
    rw [hR] at hs
    repeat' ((first | (apply AWP.go ok; rfl) | (apply And.intro; first | omega | (unfold inI; omega)) | ((first | (with_reducible apply z13; omega) | (apply z13; omega)); intro _) | ((apply z7) <;> intro _)) <;> conv => whnf)
    all_goals first | (exfalso; omega) | skip
    all_goals refine z31 (i + 1, R.set nodes[i].toNat 0) ⟨hi2, hs⟩ (by show nodes.length - (i + 1) < _; omega) (by refine SealW.reach [0, 1] [] rfl rfl rfl rfl ?_ ?_ <;> (repeat' (first | exact LocLe.refl _ | exact F2.nil | apply F2.cons | (refine z35 ?_; ((simp; done))) | apply ObjLe.box | ((refine z54 rfl ?_ ?_); (focus ((repeat' ((exact z8 (fun _ => rfl)))); done))) | (refine put_le (by omega) ?_) | exact True.intro | apply And.intro)))
  have e : nodes.length = i := by omega
  subst e
  rw [List.take_length] at hR
  have hbd := zeroR_bd rows.length nodes
  rw [hR] at hbd hml ⊢
  clear hi2 hi1 hR
  generalize hRR : roundsR rows a.acc nodes (nodes.length + 2) R true = RR at *
  have hrevl : nodes.reverse.length = nodes.length := List.length_reverse
  repeat' ((first | (apply AWP.go ok; rfl) | (apply And.intro; omega) | ((first | (with_reducible apply z13; omega) | (apply z13; omega)); intro _) | ((apply z7) <;> intro _)) <;> conv => whnf)
  all_goals first | (exfalso; omega) | skip
  refine z76 (fun x : Nat × List Int × Bool => ([(0, lst 1 encL rows), (3, .ptr 0 none 0), (5, .int a.acc.length), (6, ints nodes), (7, .sref 1 0 x.2.1.length), (10, .bool x.2.2), (11, .int x.1)], [.cells 3 [a.cs], .cells 1 (x.2.1.map enI)])) (fun x => x.1 ≤ nodes.length + 2 ∧ x.2.1.length = rows.length ∧ Bd (4000 * x.1) x.2.1 ∧ roundsR rows a.acc nodes (nodes.length + 2 - x.1) x.2.1 x.2.2 = RR) (fun x => nodes.length + 2 - x.1) (0, R, true) ⟨Nat.zero_le _, hRl, hbd, hRR⟩ (by refine SealW.reach [0, 1] [] rfl rfl rfl rfl ?_ ?_ <;> (repeat' (first | exact LocLe.refl _ | exact F2.nil | apply F2.cons | exact z15 _ | apply ObjLe.box | ((refine z16 rfl ?_ ?_); (focus ((repeat' ((exact z8 (fun _ => rfl)))); done))) | exact True.intro | apply And.intro))) ?_
  clear hRR hbd hRl R
  rintro ⟨r, R, ch⟩ ⟨hr1, hRl, hbd, hRR⟩
  dsimp only at hr1 hRl hbd hRR ⊢
  have hend : ∀ f, roundsR rows a.acc nodes f R false = R := fun f => by cases f <;> rfl
  cases ch
  · rw [hend] at hRR
    subst hRR
    repeat' (((apply AWP.go ok; rfl)) <;> conv => whnf)
    all_goals skip
    all_goals (refine RetS.lay [1] [] rfl rfl rfl ?_; refine RetS.done ?_ ?_ <;> (repeat' (first | exact F2.nil | apply F2.cons | exact z15 _ | (refine z35 ?_; (omega)) | ((refine z16 rfl ?_ ?_); (focus ((repeat' ((exact z8 (fun _ => rfl)))); done))))))
  by_cases hr2 : r ≤ nodes.length + 1
  · rw [show nodes.length + 2 - r = (nodes.length + 1 - r) + 1 by omega, roundsR, if_pos rfl] at hRR
    repeat' ((first | (apply AWP.go ok; rfl) | (apply And.intro; (unfold inI; omega)) | ((apply z7) <;> intro _)) <;> conv => whnf)
    all_goals first | (exfalso; omega) | skip
    refine z76 (fun y : Nat × List Int × Bool => ([(0, lst 1 encL rows), (3, .ptr 0 none 0), (5, .int a.acc.length), (6, ints nodes), (7, .sref 1 0 y.2.1.length), (10, .bool y.2.2), (11, .int r), (12, .int ((nodes.length : Int) - 1 - y.1))], [.cells 3 [a.cs], .cells 1 (y.2.1.map enI)])) (fun y => y.1 ≤ nodes.length ∧ (nodes.reverse.take y.1).foldl (relax rows a.acc) (R, false) = (y.2.1, y.2.2)) (fun y => nodes.length - y.1) (0, R, false) ⟨Nat.zero_le _, rfl⟩ (by refine SealW.reach [0, 1] [] rfl rfl rfl rfl ?_ ?_ <;> (repeat' (first | exact LocLe.refl _ | exact F2.nil | apply F2.cons | exact z15 _ | (refine z95 ?_; omega) | apply ObjLe.box | ((refine z16 rfl ?_ ?_); (focus ((repeat' ((exact z8 (fun _ => rfl)))); done))) | exact True.intro | apply And.intro))) ?_
    rintro ⟨k, R', c'⟩ ⟨hk, hV⟩
    dsimp only at hk hV ⊢
    have hb' := pass_bd (rows := rows) (acc := a.acc) (nodes.reverse.take k) (R, false) hbd (by omega)
    have hl' := pass_len (rows := rows) (acc := a.acc) (nodes.reverse.take k) (R, false)
    rw [hV] at hb' hl'
    rw [show (nodes.reverse.take k).length = k by rw [List.length_take]; omega] at hb'
    dsimp only at hb' hl'
    rw [hRl] at hl'
    by_cases hk2 : k < nodes.length
    · have hkr : k < nodes.reverse.length := by omega
      have hn2 : nodes.length - 1 - k < nodes.length := by omega
      have hrev : nodes.reverse[k] = nodes[nodes.length - 1 - k] := by rw [List.getElem_reverse]
      have hs : (nodes.reverse.take (k + 1)).foldl (relax rows a.acc) (R, false) = relax rows a.acc (R', c') nodes[nodes.length - 1 - k] := by
        rw [List.take_succ_eq_append_getElem hkr, List.foldl_append, hV, hrev]; rfl
      have hu := hQi _ (List.getElem_mem hn2)
      have hgn : (nodes.map enI)[nodes.length - 1 - k]? = some (enI nodes[nodes.length - 1 - k]) := by rw [List.getElem?_map, List.getElem?_eq_getElem hn2]; rfl
      generalize nodes[nodes.length - 1 - k] = u at *
      have hgr := rowAt hu
      have hm0 : 0 ≤ u % (a.acc.length : Int) := Int.emod_nonneg _ (by omega)
      have hm1 : u % (a.acc.length : Int) < a.acc.length := Int.emod_lt_of_pos _ (by omega)
      have hga : (a.acc.map enB)[(u % (a.acc.length : Int)).toNat]? = some (enB (a.acc.getD (u % (a.acc.length : Int)).toNat false)) := by
        rw [List.getElem?_map, List.getElem?_eq_getElem (by omega), z25 (by omega)]; rfl
      have hgR : (R'.map enI)[u.toNat]? = some (enI (R'.getD u.toNat 0)) := by rw [List.getElem?_map, List.getElem?_eq_getElem (by omega), z25 (by omega)]; rfl
      have hrow : InN R'.length (rows.getD u.toNat []) := by rw [hl']; exact row_in hr u
      have hrowl := rowLen hrl u
      have hbg := hb'.getD (by omega) u.toNat
      have c5 := l9Rank_ok R' (rows.getD u.toNat []) (a.acc.getD (u % (a.acc.length : Int)).toNat false) hb' (by omega) (by omega) hrow (by omega) hrowl
      have hrk := rkOf_le hb' (by omega) (a.acc.getD (u % (a.acc.length : Int)).toNat false) (rows.getD u.toNat [])
      rw [show relax rows a.acc (R', c') u = (if R'.getD u.toNat 0 < rkOf R' (a.acc.getD (u % (a.acc.length : Int)).toNat false) (rows.getD u.toNat []) then (R'.set u.toNat (rkOf R' (a.acc.getD (u % (a.acc.length : Int)).toNat false) (rows.getD u.toNat [])), true) else (R', c')) from rfl] at hs
      generalize rkOf R' (a.acc.getD (u % (a.acc.length : Int)).toNat false) (rows.getD u.toNat []) = w at *
      generalize a.acc.getD (u % (a.acc.length : Int)).toNat false = z at *
      generalize rows.getD u.toNat [] = row at *
      by_cases hlt : R'.getD u.toNat 0 < w
      · rw [if_pos hlt] at hs
        generalize R'.getD u.toNat 0 = y at *
        repeat' ((first | (apply AWP.go ok; rfl) | (refine z24 (i := nodes.length - 1 - k) (by omega) hgn ?_) | (refine z24 (i := u.toNat) (by simp) hgr ?_) | (refine z24 (i := u.toNat) (by simp) hgR ?_) | (refine z24 (i := (u % (a.acc.length : Int)).toNat) (by simp) hga ?_) | (apply And.intro; first | omega | (unfold inI; omega)) | ((apply z7) <;> intro _) | (((apply z6 [] [1] [] (c5); (focus ((repeat' first | exact z86 | apply z57) <;> first | exact z119 rfl rfl rfl | rfl)); (focus ((repeat' exact z4) <;> fail)))); rfl; rfl; rfl; rfl; rfl; (focus ((repeat' exact z12) <;> fail)); ((refine .inr ⟨rfl, ?_⟩; repeat' first | exact True.intro | apply And.intro)))) <;> conv => whnf)
        all_goals first | (exfalso; omega) | kernel_rfl | skip
        all_goals refine z31 (k + 1, R'.set u.toNat w, true) ⟨hk2, hs⟩ (by show nodes.length - (k + 1) < _; omega) (by refine SealW.reach [0, 1] [] rfl rfl rfl rfl ?_ ?_ <;> (repeat' (first | exact LocLe.refl _ | exact F2.nil | apply F2.cons | (refine z95 ?_; omega) | (refine z35 ?_; ((simp; done))) | apply ObjLe.box | ((refine z54 rfl ?_ ?_); (focus ((repeat' ((exact z8 (fun _ => rfl)))); done))) | (refine put_le (by omega) ?_) | exact True.intro | apply And.intro)))
      · rw [if_neg hlt] at hs
        generalize R'.getD u.toNat 0 = y at *
        repeat' ((first | (apply AWP.go ok; rfl) | (refine z24 (i := nodes.length - 1 - k) (by omega) hgn ?_) | (refine z24 (i := u.toNat) (by simp) hgr ?_) | (refine z24 (i := u.toNat) (by simp) hgR ?_) | (refine z24 (i := (u % (a.acc.length : Int)).toNat) (by simp) hga ?_) | (apply And.intro; first | omega | (unfold inI; omega)) | ((apply z7) <;> intro _) | (((apply z6 [] [1] [] (c5); (focus ((repeat' first | exact z86 | apply z57) <;> first | exact z119 rfl rfl rfl | rfl)); (focus ((repeat' exact z4) <;> fail)))); rfl; rfl; rfl; rfl; rfl; (focus ((repeat' exact z12) <;> fail)); ((refine .inr ⟨rfl, ?_⟩; repeat' first | exact True.intro | apply And.intro)))) <;> conv => whnf)
        all_goals first | (exfalso; omega) | kernel_rfl | skip
        all_goals refine z31 (k + 1, R', c') ⟨hk2, hs⟩ (by show nodes.length - (k + 1) < _; omega) (by refine SealW.reach [0, 1] [] rfl rfl rfl rfl ?_ ?_ <;> (repeat' (first | exact LocLe.refl _ | exact F2.nil | apply F2.cons | exact z15 _ | (refine z95 ?_; omega) | apply ObjLe.box | ((refine z16 rfl ?_ ?_); (focus ((repeat' ((exact z8 (fun _ => rfl)))); done))) | exact True.intro | apply And.intro)))
    · have e : nodes.length = k := by omega
      rw [List.take_of_length_le (by omega)] at hV
      rw [show passR rows a.acc nodes R = (R', c') from hV] at hRR
      repeat' ((first | (apply AWP.go ok; rfl) | (apply And.intro; first | omega | (unfold inI; omega)) | (((with_reducible apply z62; omega)); intro _) | ((apply z7) <;> intro _)) <;> conv => whnf)
      all_goals first | (exfalso; omega) | skip
      all_goals refine z31 (r + 1, R', c') ⟨by show r + 1 ≤ nodes.length + 2; omega, hl', hb'.mono (by show 4000 * (r : Int) + k ≤ 4000 * ((r + 1 : Nat) : Int); omega), by rw [show nodes.length + 2 - (r + 1) = nodes.length + 1 - r by omega]; exact hRR⟩ (by show nodes.length + 2 - (r + 1) < _; omega) (by refine SealW.reach [0, 1] [] rfl rfl rfl rfl ?_ ?_ <;> (repeat' (first | exact LocLe.refl _ | exact F2.nil | apply F2.cons | exact z15 _ | apply ObjLe.box | ((refine z16 rfl ?_ ?_); (focus ((repeat' ((exact z8 (fun _ => rfl)))); done))) | exact True.intro | apply And.intro)))
  · rw [show nodes.length + 2 - r = 0 by omega, roundsR] at hRR
    subst hRR
    repeat' ((first | (apply AWP.go ok; rfl) | (apply And.intro; first | omega | (unfold inI; omega)) | ((apply z7) <;> intro _)) <;> conv => whnf)
    all_goals first | (exfalso; omega) | skip
    all_goals (refine RetS.lay [1] [] rfl rfl rfl ?_; refine RetS.done ?_ ?_ <;> (repeat' (first | exact F2.nil | apply F2.cons | exact z15 _ | (refine z35 ?_; (omega)) | ((refine z16 rfl ?_ ?_); (focus ((repeat' ((exact z8 (fun _ => rfl)))); done))))))
end Go.Proofs.YtppafngcahgagaaGreat

namespace Go.Proofs.YtppafngcahgagaaGreat
open Go.Gl
attribute [local irreducible] z32

theorem wpInts_ok (a b : List Int) (ha : a.length ≤ maxLen) (hb : b.length ≤ maxLen) : CallsA Tryz.prog 28 [lst 1 enI a, lst 1 enI b] [] (.bool (decide (a = b))) [] := by
  unfold maxLen at ha hb
  refine z14 z18 Tryz.func28 rfl rfl 26 Tryz.ntmps28 (by simp) ?_
  repeat (refine AWP.go ok _ _ _ _ _ rfl ?_)
  refine z41 (fun h => ?_) (fun h => ?_)
  · repeat (refine AWP.go ok _ _ _ _ _ rfl ?_)
    have hne : a ≠ b := by rintro rfl; exact h rfl
    rw [decide_eq_false hne]
    exact ⟨[], by decide, rfl, rfl, ACle.of_eq rfl, trivial⟩
  · have hl : a.length = b.length := by omega
    repeat (refine AWP.go ok _ _ _ _ _ rfl ?_)
    refine awp_loop (fun k : Nat => ([(0, lst 1 enI a), (1, lst 1 enI b), (5, .int k)], [])) (fun k => k ≤ a.length ∧ a.take k = b.take k) (fun k => a.length - k) 0 (by simp)
      ⟨[], rfl, by decide, rfl, ⟨⟨rfl, rfl⟩, ⟨rfl, rfl⟩, ⟨rfl, rfl⟩, trivial⟩, trivial⟩ ?_
    intro k hk
    repeat (refine AWP.go ok _ _ _ _ _ rfl ?_)
    refine z7 (fun h => ?_) (fun h => ?_)
    · have hka : k < a.length := by omega
      repeat (first | refine AWP.go ok _ _ _ _ _ rfl ?_ | refine And.intro (by omega) ?_)
      refine ⟨_, map_get _ _ _ (by omega), ?_⟩
      repeat ((refine And.intro (by omega) ?_))
      refine ⟨_, map_get _ _ _ (by omega), ?_⟩
      repeat (first | refine AWP.go ok _ _ _ _ _ rfl ?_ | refine z29 (by kernel_rfl) ?_)
      refine z41 (fun h => ?_) (fun h => ?_)
      · repeat (refine AWP.go ok _ _ _ _ _ rfl ?_)
        have hne : a ≠ b := by rintro rfl; exact h rfl
        rw [decide_eq_false hne]
        exact ⟨[], by decide, rfl, rfl, ACle.of_eq rfl, trivial⟩
      · repeat (first | refine AWP.go ok _ _ _ _ _ rfl ?_ | refine And.intro (by first | omega | (unfold inI; omega)) ?_)
        refine ⟨k + 1, [], ⟨by omega, ?_⟩, by omega, rfl, by decide, rfl, ⟨⟨rfl, rfl⟩, ⟨rfl, rfl⟩, ⟨rfl, rfl⟩, trivial⟩, trivial⟩
        have h' : a[k] = b[k] := h
        rw [List.take_succ_eq_append_getElem hka, List.take_succ_eq_append_getElem (by omega), hk.2, h']
    · repeat (refine AWP.go ok _ _ _ _ _ rfl ?_)
      have he : a = b := by
        have := hk.2
        rwa [List.take_of_length_le (by omega), List.take_of_length_le (by omega)] at this
      rw [decide_eq_true he]
      exact ⟨[], by decide, rfl, rfl, ACle.of_eq rfl, trivial⟩
end Go.Proofs.YtppafngcahgagaaGreat

namespace Go.Proofs.YtppafngcahgagaaGreat
open Go.Gl
attribute [local irreducible] z32 AWP z48 z55 z50

section
open Go.ChangeShapes Go.WideShapes Go.ChangeAt Go.RowKit
theorem and_mk {a b : Bool} (h : a = true) (k : b = true) : (a && b) = true := by rw [h, k]; rfl
theorem own : ownKnob Tryz.prog.godebug = none := by kernel_rfl
theorem laidOut_ok : laidOutB Tryz.prog = true := by kernel_rfl
end
end Go.Proofs.YtppafngcahgagaaGreat

namespace Go.Proofs.YtppafngcahgagaaGreat
open Go.Gl
attribute [local irreducible] z32 AWP z48 z55 z50

theorem ad_code : ArgD Tryz.prog 22 (lst 1 enU) CodeOk :=
  (argD_list (enc1 := lst 1 enU) Tryz.underlying22 (od_list 1 (encL := fun l => [lst 1 enU l]) Tryz.underlying22 (by kernel_rfl) (by decide) (od_byte (enc := enU) Tryz.underlying5 (fun _ => rfl)) (fun _ => rfl)) (fun _ => rfl)).imp fun l h => ⟨l, rfl, h.1, fun x hx => by
    have := h.2 x hx
    have h1 : IntKind.min .u8 = 0 := by decide
    have h2 : IntKind.max .u8 = 255 := by decide
    simpa [Lit.wf, h1, h2] using this⟩
end Go.Proofs.YtppafngcahgagaaGreat

namespace Go.Proofs.YtppafngcahgagaaGreat
open Go.Gl
attribute [local irreducible] z32 AWP z48 z55 z50 RetS z65

noncomputable def mkOk (g : Graph) (l : List Tree) (a : Aut) : Bool := (glB g l && autB a) && !(trcO g (g.st.map (z36 l)) a).isSome
noncomputable def mkR (g : Graph) (l : List Tree) (a : Aut) : List Int := if mkOk g l a = true then makeR (z34 g (g.st.map (z36 l)) a) a.ini a.acc else []
theorem mkR_facts {g : Graph} {l : List Tree} {a : Aut} : (mkOk g l a = true → (mkR g l a).length = (prB g l a).length) ∧ (mkR g l a).length ≤ 3840 ∧ Bd 16000000 (mkR g l a) := by
  unfold mkR prB
  by_cases h : mkOk g l a = true
  · have h1 : (glB g l && autB a) = true := by unfold mkOk at h; exact (Bool.and_eq_true_iff.1 h).1
    obtain ⟨h2, h3⟩ := Bool.and_eq_true_iff.1 h1
    obtain ⟨f1, f2, f3, f4, f5⟩ := z125 ((z87 g).1 (by unfold glB at h2; exact (Bool.and_eq_true_iff.1 h2).1)) (z108.1 h3) (g.st.map (z36 l))
    rw [if_pos h, if_pos h1, makeR_len, z124]
    refine ⟨fun _ => rfl, f3, ?_⟩
    have hQn := bfs_len f1 f2 (z34 g (g.st.map (z36 l)) a).length
    have hb := rounds_bd (rows := z34 g (g.st.map (z36 l)) a) (acc := a.acc) (nodes := bfsL (z34 g (g.st.map (z36 l)) a) a.ini) ((bfsL (z34 g (g.st.map (z36 l)) a) a.ini).length + 2) _ true (zeroR_bd (z34 g (g.st.map (z36 l)) a).length (bfsL (z34 g (g.st.map (z36 l)) a) a.ini)) (by omega) (by unfold bfsL; omega)
    exact hb.mono (by unfold bfsL; omega)
  · rw [if_neg h]
    exact ⟨fun h' => absurd h' h, Nat.zero_le _, fun x hx => by cases hx⟩
set_option maxHeartbeats 3200000 in
theorem specMake_new (g : Graph) (hg : g.mx) (l : List Tree) (hl : Lmx l) (a : Aut) (ha : a.mx) : CallsA Tryz.prog 104 [.agg g.cs, lst 3 Tree.cs' l, .agg a.cs] [] (.tup [.agg [.sref 0 0 (mkR g l a).length], .bool (mkOk g l a)]) [.cells 1 ((mkR g l a).map enI)] := by
  have k0 := z107 g hg l hl
  have k1 := z88 a ha
  by_cases hgl : (glB g l && autB a) = true
  · obtain ⟨h1, hab⟩ := Bool.and_eq_true_iff.1 hgl
    have hG := (z87 g).1 (by unfold glB at h1; exact (Bool.and_eq_true_iff.1 h1).1)
    have hL := LabelsOk.of (by unfold glB at h1; exact (Bool.and_eq_true_iff.1 h1).2)
    have hA := z108.1 hab
    have k2 := l8Product_ok g hG (g.st.map (z36 l)) (by simp) (fun x hx => by
      obtain ⟨s, _, rfl⟩ := List.mem_map.1 hx
      exact letter_range hL s) a hA
    have k3 := l8Find_ok g hG (g.st.map (z36 l)) (by simp) (fun x hx => by
      obtain ⟨s, _, rfl⟩ := List.mem_map.1 hx
      exact letter_range hL s) a hA
    obtain ⟨f1, f2, f3, f4, f5⟩ := z125 hG hA (g.st.map (z36 l))
    have k4 := l9Make_new (z34 g (g.st.map (z36 l)) a) a f1 f2 hA.1 f3 f4 f5
    have hml := makeR_len (z34 g (g.st.map (z36 l)) a) a.ini a.acc
    rw [if_pos h1, h1] at k0
    rw [hab] at k1
    unfold mkR mkOk
    rw [hgl, Bool.true_and]
    generalize g.st.map (z36 l) = ls at *
    generalize (trcO g ls a).isSome = tb at *
    generalize trcL g ls a = tl at *
    generalize makeR (z34 g ls a) a.ini a.acc = RR at *
    generalize z34 g ls a = rows at *
    cases tb
    · show CallsA _ _ _ _ (.tup [.agg [.sref 0 0 RR.length], .bool true]) [.cells 1 (RR.map enI)]
      rw [hml]
      refine z10 z18 Tryz.func104 rfl rfl 42 Tryz.ntmps104 (by simp) ?_
      repeat' ((first | (apply AWP.go ok; rfl) | (apply z29; kernel_rfl) | (apply z9 (k0); rfl; rfl) | (apply z9 (k1); rfl; rfl) | (apply z9 (k2); rfl; rfl) | (apply z9 (k3); rfl; rfl) | (((apply z6 [] [] [4] (k4); rfl; (focus ((repeat' exact z4) <;> fail)))); rfl; rfl; rfl; rfl; rfl; (focus ((repeat' first | exact z12 | apply z11) <;> (refine z23 ?_; ((exact z8 fun _ => rfl))))); (exact .inl rfl))) <;> conv => whnf)
      all_goals skip
      all_goals (refine RetS.lay [4] [] rfl rfl rfl ?_; refine RetS.done ?_ ?_ <;> (repeat' (first | exact LocLe.refl _ | exact F2.nil | apply F2.cons | exact z15 _ | ((refine z16 rfl ?_ ?_); (focus ((repeat' ((exact z8 (fun _ => rfl)))); done))))))
    · show CallsA _ _ _ _ (.tup [.agg [.sref 0 0 0], .bool false]) [.cells 1 []]
      refine z10 z18 Tryz.func104 rfl rfl 42 Tryz.ntmps104 (by simp) ?_
      repeat' ((first | (apply AWP.go ok; rfl) | (apply z9 (k0); rfl; rfl) | (apply z9 (k1); rfl; rfl) | (apply z9 (k3); rfl; rfl)) <;> conv => whnf)
      all_goals skip
      all_goals (refine RetS.empty 1 ?_; refine RetS.lay [4] [] rfl rfl rfl ?_; refine RetS.done ?_ ?_ <;> (repeat' (first | exact LocLe.refl _ | exact z51 | exact F2.nil | apply F2.cons | ((refine z16 rfl ?_ ?_); (focus ((repeat' (exact z38)); done))) | apply z40 | apply z111)))
  · have e : mkOk g l a = false := by unfold mkOk; rw [(Bool.not_eq_true _).mp hgl]; rfl
    have e2 : mkR g l a = [] := by unfold mkR; rw [e]; rfl
    rw [e, e2]
    show CallsA _ _ _ _ (.tup [.agg [.sref 0 0 0], .bool false]) [.cells 1 []]
    generalize (if glB g l = true then g.st.map (z36 l) else []) = ls at *
    refine z10 z18 Tryz.func104 rfl rfl 42 Tryz.ntmps104 (by simp) ?_
    cases hb1 : glB g l
    · rw [hb1] at k0
      repeat' ((first | (apply AWP.go ok; rfl) | (apply z9 (k0); rfl; rfl)) <;> conv => whnf)
      all_goals skip
      all_goals (refine RetS.empty 1 ?_; refine RetS.lay [3] [] rfl rfl rfl ?_; refine RetS.done ?_ ?_ <;> (repeat' (first | exact LocLe.refl _ | exact z51 | exact F2.nil | apply F2.cons | ((refine z16 rfl ?_ ?_); (focus ((repeat' (exact z38)); done))) | apply z40 | apply z111)))
    · rw [hb1] at k0 hgl
      have hb2 : autB a = false := by simpa using hgl
      rw [hb2] at k1
      repeat' ((first | (apply AWP.go ok; rfl) | (apply z9 (k0); rfl; rfl) | (apply z9 (k1); rfl; rfl)) <;> conv => whnf)
      all_goals skip
      all_goals (refine RetS.empty 1 ?_; refine RetS.lay [3] [] rfl rfl rfl ?_; refine RetS.done ?_ ?_ <;> (repeat' (first | exact LocLe.refl _ | exact z51 | exact F2.nil | apply F2.cons | ((refine z16 rfl ?_ ?_); (focus ((repeat' (exact z38)); done))) | apply z40 | apply z111)))
end Go.Proofs.YtppafngcahgagaaGreat

namespace Go.Proofs.YtppafngcahgagaaGreat
open Go.Gl
attribute [local irreducible] z32 AWP z48 z55 z50 RetS z65

theorem bor_pre {objs : Nat → AObj} {π Bn : List Nat} {o n : Nat} {R : List Int} (ho : objs o = .cells 1 (R.map enI)) (h1 : idx π o = none) (h2 : inB Bn o = true) (hl : n ≤ R.length) : bor objs π Bn (.sref o 0 n) = ints (R.take n) := by
  simp only [bor, h1, h2, ho]
  rw [if_pos (by simp; omega), List.drop_zero, unownLL_flat (fun e he x hx => by
    obtain ⟨y, _, rfl⟩ := List.mem_map.1 he
    rw [List.mem_singleton.1 hx]; rfl), ← List.map_take]
  show _ = AC.list 1 (R.take n).length ((R.take n).map enI)
  rw [List.length_take, Nat.min_eq_left hl]
theorem pre_le {objs : Nat → AObj} {π Bn : List Nat} {o a n m : Nat} {R : List Int} (ho : objs o = .cells 1 (R.map enI)) (h1 : idx π o = none) (h2 : inB Bn o = true) (ha : a = 0) (hn : n = m) (hl : m ≤ R.length) : LocLe (bor objs π Bn (.sref o a n)) (ints (R.take m)) := by
  subst ha hn
  rw [bor_pre ho h1 h2 hl]; exact LocLe.refl _
def dblL (R : List Int) (k : Nat) : List Int := (R.take k).map (fun x => if 0 ≤ x then x * 2 + 1 else x) ++ R.drop k
theorem dblL_len (R : List Int) (k : Nat) : (dblL R k).length = R.length := by unfold dblL; simp; omega
theorem dblL_get {R : List Int} {k : Nat} (h : k < R.length) : ((dblL R k).map enI)[k]? = some (enI R[k]) := by
  unfold dblL
  rw [List.map_append, List.getElem?_append_right (by simp; omega)]
  simp only [List.length_map, List.length_take]
  rw [show k - min k R.length = 0 by omega]
  simp [h]
theorem dblL_succ {R : List Int} {k : Nat} (h : k < R.length) : dblL R (k + 1) = if 0 ≤ R[k] then (dblL R k).set k (R[k] * 2 + 1) else dblL R k := by
  unfold dblL
  rw [List.take_succ_eq_append_getElem h, List.map_append, List.drop_eq_getElem_cons h, List.set_append_right _ _ (by simp; omega)]
  simp only [List.length_map, List.length_take]
  rw [show k - min k R.length = 0 by omega, List.set_cons_zero, List.append_assoc]
  split
  · rename_i h0; simp [h0]
  · rename_i h0; simp [h0]
set_option maxHeartbeats 6400000 in
theorem l9Bend_ok (bs : List Int) (hb : BytesOk bs) (p : Int) (hp : few3 p) (R : List Int) (hR : R.length ≤ 3840) (hB : Bd 16000000 R) : ∃ (R' : List Int) (p' : Int), (R'.length ≤ 3840 ∧ p ≤ p' ∧ p' ≤ p + 3) ∧ CallsA Tryz.prog 106 [.ptr 0 none 0, .agg [ints R]] [rdO bs p] (.agg [ints R']) [rdO bs p'] := by
  by_cases h0 : R.length = 0
  · refine ⟨R, p, ⟨hR, by omega, by omega⟩, ?_⟩
    refine z10 z18 Tryz.func106 rfl rfl 65 Tryz.ntmps106 (by simp) ?_
    repeat' ((first | (apply AWP.go ok; rfl) | (apply And.intro; first | (dsimp only; omega) | exact z72 (fun _ => rfl)) | ((apply z7) <;> intro _)) <;> conv => whnf)
    all_goals first | (exfalso; omega) | skip
    all_goals (refine RetS.lay [0] [4] rfl rfl rfl ?_; refine RetS.done ?_ ?_ <;> (repeat' (first | exact LocLe.refl _ | exact F2.nil | apply F2.cons | (refine lst_le ?_; omega) | apply ObjLe.box | ((apply z37 rfl rfl rfl); (focus ((repeat ((exact z33 (fun _ => rfl) _))); done)); (focus (((simp; done)); done))) | apply z40)))
  obtain ⟨v, ⟨v0, v1⟩, cv⟩ := z44 bs hb p 6 (by omega) (by omega) (by omega)
  by_cases e0 : v = 0
  · subst e0
    obtain ⟨i, ⟨i0, i1⟩, ci⟩ := z44 bs hb (p + 1) ((0 + R.length : Nat) : Int) (by omega) (by omega) (by omega)
    obtain ⟨x, mx, cx⟩ := z83 bs hb (p + 1 + 1) (by omega) (by omega) [-1, 0, 1, 2, -2, 4001, 9223372036854775807] (by decide) (by decide)
    refine ⟨R.set i.toNat x, p + 1 + 1 + 1, ⟨by simp; omega, by omega, by omega⟩, ?_⟩
    refine z10 z18 Tryz.func106 rfl rfl 65 Tryz.ntmps106 (by simp) ?_
    repeat' ((first | (apply AWP.go ok; rfl) | (apply z29; kernel_rfl) | (apply And.intro; first | omega | (dsimp only; omega) | exact z72 (fun _ => rfl)) | (((apply z13; omega)); intro _) | ((apply z7) <;> intro _) | ((first | (apply z6 [0] [] [] (cv); rfl; (focus ((repeat' first | exact z4 | apply z5) <;> rfl))) | (apply z6 [0] [] [] (ci); rfl; (focus ((repeat' first | exact z4 | apply z5) <;> rfl))) | (apply z6 [0, 6] [] [] (cx); rfl; (focus ((repeat' first | exact z4 | apply z5) <;> rfl)))); rfl; rfl; rfl; rfl; rfl; (focus ((repeat' first | exact z12 | apply z11) <;> first | exact z17 rfl rfl | (refine z23 ?_; ((exact z8 fun _ => rfl))))); (exact .inl rfl))) <;> conv => whnf)
    all_goals first | (exfalso; omega) | skip
    all_goals (refine RetS.lay [0] [4] rfl rfl rfl ?_; refine RetS.done ?_ ?_ <;> (repeat' (first | exact LocLe.refl _ | exact F2.nil | apply F2.cons | apply ObjLe.box | (refine put_le (by omega) ?_) | ((apply z37 rfl rfl rfl); (focus ((repeat (first | exact z33 (fun _ => rfl) _ | apply unown_st)); done)); (focus (((simp; done)); done))) | apply z40 | (refine z77 ?_ ?_; (focus (simp; done))))))
  by_cases e1 : v = 1
  · subst e1
    refine ⟨R.take (R.length - 1), p + 1, ⟨by simp; omega, by omega, by omega⟩, ?_⟩
    refine z10 z18 Tryz.func106 rfl rfl 65 Tryz.ntmps106 (by simp) ?_
    repeat' ((first | (apply AWP.go ok; rfl) | (apply And.intro; first | omega | (unfold inI; omega) | (dsimp only; omega) | exact z72 (fun _ => rfl)) | ((apply z7) <;> intro _) | (((apply z6 [0] [] [] (cv); rfl; (focus ((repeat' first | exact z4 | apply z5) <;> rfl)))); rfl; rfl; rfl; rfl; rfl; (focus ((repeat' first | exact z12 | apply z11) <;> exact z17 rfl rfl)); (exact .inl rfl))) <;> conv => whnf)
    all_goals first | (exfalso; omega) | skip
    all_goals (refine RetS.lay [0] [4] rfl rfl rfl ?_; refine RetS.done ?_ ?_ <;> (repeat' (first | exact LocLe.refl _ | exact F2.nil | apply F2.cons | apply ObjLe.box | apply z40)))
    all_goals exact pre_le rfl rfl rfl rfl (by omega) (by omega)
  by_cases e2 : v = 2
  · subst e2
    refine ⟨dblL R R.length, p + 1, ⟨by rw [dblL_len]; omega, by omega, by omega⟩, ?_⟩
    refine z10 z18 Tryz.func106 rfl rfl 65 Tryz.ntmps106 (by simp) ?_
    repeat' ((first | (apply AWP.go ok; rfl) | (apply And.intro; first | (dsimp only; omega) | exact z72 (fun _ => rfl)) | ((apply z7) <;> intro _) | (((apply z6 [0] [] [] (cv); rfl; (focus ((repeat' first | exact z4 | apply z5) <;> rfl)))); rfl; rfl; rfl; rfl; rfl; (focus ((repeat' first | exact z12 | apply z11) <;> exact z17 rfl rfl)); (exact .inl rfl))) <;> conv => whnf)
    all_goals first | (exfalso; omega) | skip
    all_goals
      refine z76 (fun x : Nat × List Int => ([(4, .ptr 1 none 0), (5, .ptr 2 none 0), (6, .int R.length), (7, .int x.1)], [rdO bs (p + 1), .cells 1 [[.nils]], .cells 1 [[.sref 3 0 x.2.length]], .cells 1 (x.2.map enI)])) (fun x => x.1 ≤ R.length ∧ x.2 = dblL R x.1) (fun x => R.length - x.1) (0, R) ⟨Nat.zero_le _, by show R = dblL R 0; simp [dblL]⟩ (by refine SealW.reach [0, 2, 5, 4] [] rfl rfl rfl rfl ?_ ?_ <;> (repeat' (first | exact LocLe.refl _ | exact F2.nil | apply F2.cons | exact z15 _ | (refine z95 ?_; omega) | (refine z35 ?_; ((simp; done))) | apply ObjLe.box | ((refine z16 rfl ?_ ?_); (focus ((repeat' ((exact z8 (fun _ => rfl)))); done))) | exact True.intro | apply And.intro))) ?_
      rintro ⟨k, D⟩ ⟨hk, hD⟩
      dsimp only at hk hD ⊢
      have hDl := dblL_len R k
      rw [← hD] at hDl
      by_cases hk2 : k < R.length
      · have hg := dblL_get hk2
        have hs := dblL_succ hk2
        have hx := hB _ (List.getElem_mem hk2)
        rw [← hD] at hg hs
        generalize R[k] = y at *
        by_cases hy : 0 ≤ y
        · rw [if_pos hy] at hs
          repeat' ((first | (apply AWP.go ok; rfl) | (apply z29; kernel_rfl) | (refine z24 (i := k) (by simp) hg ?_) | (apply And.intro; first | omega | (unfold inI; omega)) | ((apply z7) <;> intro _)) <;> conv => whnf)
          all_goals first | (exfalso; omega) | skip
          all_goals refine z31 (k + 1, D.set k (y * 2 + 1)) ⟨hk2, hs.symm⟩ (by show R.length - (k + 1) < R.length - k; omega) (by refine SealW.reach [0, 1, 2, 3] [] rfl rfl rfl rfl ?_ ?_ <;> (repeat' (first | exact LocLe.refl _ | exact F2.nil | apply F2.cons | (refine z35 ?_; ((simp; done))) | apply ObjLe.box | ((refine z54 rfl ?_ ?_); (focus ((repeat' ((exact z8 (fun _ => rfl)))); done))) | (refine put_le (by omega) ?_) | exact True.intro | apply And.intro)))
        · rw [if_neg hy] at hs
          repeat' ((first | (apply AWP.go ok; rfl) | (apply z29; kernel_rfl) | (refine z24 (i := k) (by simp) hg ?_) | (apply And.intro; first | omega | (unfold inI; omega)) | ((apply z7) <;> intro _)) <;> conv => whnf)
          all_goals first | (exfalso; omega) | skip
          all_goals refine z31 (k + 1, D) ⟨hk2, hs.symm⟩ (by show R.length - (k + 1) < R.length - k; omega) (by refine SealW.reach [0, 1, 2, 3] [] rfl rfl rfl rfl ?_ ?_ <;> (repeat' (first | exact LocLe.refl _ | exact F2.nil | apply F2.cons | exact z15 _ | apply ObjLe.box | ((refine z16 rfl ?_ ?_); (focus ((repeat' ((exact z8 (fun _ => rfl)))); done))) | exact True.intro | apply And.intro)))
      · have e : R.length = k := by omega
        have hk3 := hk
        rw [e]
        rw [← hD]
        repeat' ((first | (apply AWP.go ok; rfl) | (apply z29; kernel_rfl) | (apply And.intro; omega) | (((apply z13; omega)); intro _) | ((apply z7) <;> intro _)) <;> conv => whnf)
        all_goals first | (exfalso; omega) | skip
        all_goals (refine RetS.lay [0] [3] rfl rfl rfl ?_; refine RetS.done ?_ ?_ <;> (repeat' (first | exact LocLe.refl _ | exact F2.nil | apply F2.cons | apply ObjLe.box | ((apply z37 rfl rfl rfl); (focus ((repeat ((exact z33 (fun _ => rfl) _))); done)); (focus (((simp; done)); done))) | apply z40)))
  refine ⟨R, p + 1, ⟨hR, by omega, by omega⟩, ?_⟩
  refine z10 z18 Tryz.func106 rfl rfl 65 Tryz.ntmps106 (by simp) ?_
  repeat' ((first | (apply AWP.go ok; rfl) | (apply And.intro; first | omega | (dsimp only; omega) | exact z72 (fun _ => rfl)) | ((apply z7) <;> intro _) | (((apply z6 [0] [] [] (cv); rfl; (focus ((repeat' first | exact z4 | apply z5) <;> rfl)))); rfl; rfl; rfl; rfl; rfl; (focus ((repeat' first | exact z12 | apply z11) <;> exact z17 rfl rfl)); (exact .inl rfl))) <;> conv => whnf)
  all_goals first | (exfalso; omega) | skip
  all_goals (refine RetS.lay [0] [4] rfl rfl rfl ?_; refine RetS.done ?_ ?_ <;> (repeat' (first | exact LocLe.refl _ | exact F2.nil | apply F2.cons | (refine lst_le ?_; omega) | apply ObjLe.box | ((apply z37 rfl rfl rfl); (focus ((repeat ((exact z33 (fun _ => rfl) _))); done)); (focus (((simp; done)); done))) | apply z40)))
end Go.Proofs.YtppafngcahgagaaGreat

namespace Go.Proofs.YtppafngcahgagaaGreat
open Go.Gl
attribute [local irreducible] z32 AWP z48 z55 z50 RetS z65

def updL (R : List Int) (z : List (Option Int)) : Nat → List Int
  | 0 => R
  | k + 1 => match z.getD k none with
    | none => updL R z k
    | some x => (updL R z k).set k x
theorem updL_len (R : List Int) (z : List (Option Int)) : ∀ k, (updL R z k).length = R.length
  | 0 => rfl
  | k + 1 => by
    rw [updL]; split
    · exact updL_len R z k
    · rw [List.length_set]; exact updL_len R z k
theorem updL_bd {R : List Int} {z : List (Option Int)} {M : Int} (h : Bd M R) (hM : 1 ≤ M) (hz : ∀ x, some x ∈ z → -1 ≤ x ∧ x ≤ 1) : ∀ k, Bd M (updL R z k)
  | 0 => h
  | k + 1 => by
    have ih := updL_bd h hM hz k
    rw [updL]; split
    · exact ih
    · rename_i x hx
      have : some x ∈ z := by
        by_cases hk : k < z.length
        · rw [z25 hk] at hx; rw [← hx]; exact List.getElem_mem _
        · rw [List.getD_eq_getElem?_getD, List.getElem?_eq_none (by omega)] at hx; cases hx
      have := hz x this
      exact ih.set ⟨by omega, by omega⟩
def isRk (bs : List Int) (b : Bool) (q : Int) (z : Option Int) (q' : Int) : Prop := (b = true ∧ z = none ∧ q' = q) ∨ (b = false ∧ ∃ w : Int, CallsA Tryz.prog 105 [.ptr 0 none 0, .int 4] [rdO bs q] (.int w) [rdO bs (q + 1)] ∧ ((w ≠ 0 ∧ z = none ∧ q' = q + 1) ∨
  (w = 0 ∧ ∃ x : Int, (0 ≤ x ∧ x ≤ 2) ∧ CallsA Tryz.prog 105 [.ptr 0 none 0, .int 3] [rdO bs (q + 1)] (.int x) [rdO bs (q + 1 + 1)] ∧ z = some (x - 1) ∧ q' = q + 1 + 1)))
theorem isRk_ex (bs : List Int) (hb : BytesOk bs) (b : Bool) (q : Int) (hq : 0 ≤ q ∧ q ≤ 999990000) : ∃ z q', isRk bs b q z q' ∧ q ≤ q' ∧ q' ≤ q + 2 := by
  cases b
  · obtain ⟨w, _, cw⟩ := z44 bs hb q 4 (by omega) (by omega) (by omega)
    by_cases h : w = 0
    · obtain ⟨x, ⟨x0, x1⟩, cx⟩ := z44 bs hb (q + 1) 3 (by omega) (by omega) (by omega)
      exact ⟨some (x - 1), q + 1 + 1, .inr ⟨rfl, w, cw, .inr ⟨h, x, ⟨x0, by omega⟩, cx, rfl, rfl⟩⟩, by omega, by omega⟩
    · exact ⟨none, q + 1, .inr ⟨rfl, w, cw, .inl ⟨h, rfl, rfl⟩⟩, by omega, by omega⟩
  · exact ⟨none, q, .inl ⟨rfl, rfl, rfl⟩, by omega, by omega⟩
set_option maxHeartbeats 12800000 in
theorem drawRC_ok (bs : List Int) (hb : CodeOk bs) : ∃ (g : Graph) (l : List Tree) (a : Aut) (R : List Int), (g.d ∧ Lab.d l ∧ a.sm ∧ R.length ≤ 3840) ∧ CallsA Tryz.prog 44 [lst 1 enU bs] [] (.tup [.agg g.cs, lst 3 Tree.cs' l, .agg a.cs, .agg [ints R]]) [] := by
  have co := l16Open_ok bs hb.len
  have hbt := hb.take
  generalize bs.take 2000 = b0 at *
  obtain ⟨g, l, a, p1, ⟨hg, hl, ha, q1, q2⟩, c1⟩ := l9Small_ok b0 hbt 0 ⟨by omega, by omega⟩
  have hax : a.mx := ⟨by have := ha.1; unfold maxLen; omega, by have := ha.2.1; unfold maxLen; omega, by have := ha.2.2.1; unfold maxLen; omega, ha.2.2.2⟩
  have cM := specMake_new g hg.mx l hl.mx a hax
  have cP := specProductReach_ok g hg.mx l hl.mx a hax
  obtain ⟨m1, m2, m3⟩ := mkR_facts (g := g) (l := l) (a := a)
  have hpl := prB_le g l a
  generalize mkR g l a = R0 at *
  generalize prB g l a = B at *
  generalize (glB g l && autB a) = gb at *
  generalize mkOk g l a = ok at *
  cases ok
  · obtain ⟨w, ⟨w0, w1⟩, cw⟩ := z44 b0 hbt p1 3 (by omega) (by omega) (by omega)
    by_cases hw : w = 0
    · subst hw
      obtain ⟨R', p', ⟨r1, r2, r3⟩, cb⟩ := l9Bend_ok b0 hbt (p1 + 1) ⟨by omega, by omega⟩ R0 (by omega) m3
      refine ⟨g, l, a, R', ⟨hg, hl, ha, r1⟩, ?_⟩
      refine z10 z18 Tryz.func44 rfl rfl 76 Tryz.ntmps44 (by simp) ?_
      repeat' ((first | (apply AWP.go ok; rfl) | (apply z9 (cP); rfl; rfl) | ((first | (apply z6 [] [] [3] (co); rfl; (focus ((repeat' exact z4) <;> fail))) | (apply z6 [3] [] [] (c1); rfl; (focus ((repeat' first | exact z4 | apply z5) <;> rfl))) | (apply z6 [] [] [6] (cM); rfl; (focus ((repeat' exact z4) <;> fail)))); rfl; rfl; rfl; rfl; rfl; (focus ((repeat' first | exact z12 | apply z11) <;> first | exact z17 rfl rfl | (refine z23 ?_; ((exact z8 fun _ => rfl))))); (exact .inl rfl))) <;> conv => whnf)
      all_goals skip
      all_goals
        refine z76 (fun _ : Unit => ([(2, .ptr 0 none 0), (4, .ptr 1 none 0), (5, .ptr 2 none 0), (6, .ptr 3 none 0), (7, .ptr 4 none 0), (8, lst 3 Tree.cs' l), (9, .ptr 5 none 0), (10, .ptr 6 none 0), (11, .bool false), (12, lst 1 enB B), (14, .int 0)], [.cells 2 [[.nils, .nils]], .cells 3 [[.nils, .nils, .nils]], .cells 1 [[.nils]], rdO b0 p1, .cells 2 [g.cs], .cells 3 [a.cs], .cells 1 [[.sref 7 0 R0.length]], .cells 1 (R0.map enI)])) (fun _ => True) (fun _ => 0) () trivial (by refine SealW.reach [0, 1, 2, 3, 4, 5, 7, 6] [] rfl rfl rfl rfl ?_ ?_ <;> (repeat' (first | exact LocLe.refl _ | exact F2.nil | apply F2.cons | exact z15 _ | apply ObjLe.box | ((refine z16 rfl ?_ ?_); (focus ((repeat' ((exact z8 (fun _ => rfl)))); done))) | exact True.intro | apply And.intro))) ?_
        intro _ _
        repeat' ((first | ((fail_if_success apply z122 11); (fail_if_success apply z92 11); (fail_if_success apply z122 12); (fail_if_success apply z92 12); apply AWP.go ok; rfl) | ((apply z7) <;> intro _) | (((apply z6 [3] [] [] (cw); rfl; (focus ((repeat' first | exact z4 | apply z5) <;> rfl)))); rfl; rfl; rfl; rfl; rfl; (focus ((repeat' first | exact z12 | apply z11) <;> exact z17 rfl rfl)); (exact .inl rfl))) <;> conv => whnf)
        all_goals skip
        all_goals
          refine AWP.reach (SealW.reach (env := [(2, .ptr 0 none 0), (4, .ptr 1 none 0), (5, .ptr 2 none 0), (6, .ptr 3 none 0), (7, .ptr 4 none 0), (8, lst 3 Tree.cs' l), (9, .ptr 5 none 0), (10, .ptr 6 none 0)]) (objs := [.cells 2 [[.nils, .nils]], .cells 3 [[.nils, .nils, .nils]], .cells 1 [[.nils]], rdO b0 (p1 + 1), .cells 2 [g.cs], .cells 3 [a.cs], .cells 1 [[ints R0]]]) [0, 1, 2, 3, 4, 5, 6] [7] rfl rfl rfl rfl ?_ ?_) ?_
          · (repeat' (first | exact LocLe.refl _ | exact True.intro | apply And.intro))
          · (repeat' (first | exact LocLe.refl _ | exact F2.nil | apply F2.cons | apply ObjLe.box | ((apply z37 rfl rfl rfl); (focus ((repeat ((exact z33 (fun _ => rfl) _))); done)); (focus (((simp; done)); done)))))
          conv => whnf
          repeat' ((first | (apply AWP.go ok; rfl) | (apply z29; kernel_rfl) | (((apply z6 [3] [] [] (cb); rfl; (focus ((repeat' first | exact z4 | apply z5) <;> rfl)))); rfl; rfl; rfl; rfl; rfl; (focus ((repeat' first | exact z12 | apply z11) <;> exact z17 rfl rfl)); (exact .inl rfl))) <;> conv => whnf)
          all_goals skip
          all_goals (refine RetS.lay [] [] rfl rfl rfl ?_; refine RetS.done ?_ ?_ <;> (repeat' (first | exact LocLe.refl _ | exact F2.nil)))
    · refine ⟨g, l, a, R0, ⟨hg, hl, ha, by omega⟩, ?_⟩
      refine z10 z18 Tryz.func44 rfl rfl 76 Tryz.ntmps44 (by simp) ?_
      repeat' ((first | (apply AWP.go ok; rfl) | (apply z9 (cP); rfl; rfl) | ((first | (apply z6 [] [] [3] (co); rfl; (focus ((repeat' exact z4) <;> fail))) | (apply z6 [3] [] [] (c1); rfl; (focus ((repeat' first | exact z4 | apply z5) <;> rfl))) | (apply z6 [] [] [6] (cM); rfl; (focus ((repeat' exact z4) <;> fail)))); rfl; rfl; rfl; rfl; rfl; (focus ((repeat' first | exact z12 | apply z11) <;> first | exact z17 rfl rfl | (refine z23 ?_; ((exact z8 fun _ => rfl))))); (exact .inl rfl))) <;> conv => whnf)
      all_goals skip
      all_goals
        refine z76 (fun _ : Unit => ([(2, .ptr 0 none 0), (4, .ptr 1 none 0), (5, .ptr 2 none 0), (6, .ptr 3 none 0), (7, .ptr 4 none 0), (8, lst 3 Tree.cs' l), (9, .ptr 5 none 0), (10, .ptr 6 none 0), (11, .bool false), (12, lst 1 enB B), (14, .int 0)], [.cells 2 [[.nils, .nils]], .cells 3 [[.nils, .nils, .nils]], .cells 1 [[.nils]], rdO b0 p1, .cells 2 [g.cs], .cells 3 [a.cs], .cells 1 [[.sref 7 0 R0.length]], .cells 1 (R0.map enI)])) (fun _ => True) (fun _ => 0) () trivial (by refine SealW.reach [0, 1, 2, 3, 4, 5, 7, 6] [] rfl rfl rfl rfl ?_ ?_ <;> (repeat' (first | exact LocLe.refl _ | exact F2.nil | apply F2.cons | exact z15 _ | apply ObjLe.box | ((refine z16 rfl ?_ ?_); (focus ((repeat' ((exact z8 (fun _ => rfl)))); done))) | exact True.intro | apply And.intro))) ?_
        intro _ _
        repeat' ((first | (apply AWP.go ok; rfl) | (apply z29; kernel_rfl) | ((apply z7) <;> intro _) | (((apply z6 [3] [] [] (cw); rfl; (focus ((repeat' first | exact z4 | apply z5) <;> rfl)))); rfl; rfl; rfl; rfl; rfl; (focus ((repeat' first | exact z12 | apply z11) <;> exact z17 rfl rfl)); (exact .inl rfl))) <;> conv => whnf)
        all_goals first | (exfalso; omega) | skip
        all_goals (refine RetS.lay [] [7] rfl rfl rfl ?_; refine RetS.done ?_ ?_ <;> (repeat' (first | exact LocLe.refl _ | exact F2.nil | apply F2.cons | ((apply z37 rfl rfl rfl); (focus ((repeat ((exact z33 (fun _ => rfl) _))); done)); (focus (((simp; done)); done))) | apply z40 | apply z111)))
  · have hBl := m1 rfl
    obtain ⟨zs, pf, h1, h2, h3, h4⟩ := seq_ex (fun k r z r' => isRk b0 (B.getD k false) r z r') p1 2 B.length (fun k r hk b1 b2 => isRk_ex b0 hbt _ r ⟨by omega, by omega⟩)
    have h5 := h4 _ (Nat.le_refl _)
    have hzb : ∀ x, some x ∈ zs → -1 ≤ x ∧ x ≤ 1 := fun x hx => by
      obtain ⟨i, hi, e⟩ := List.mem_iff_getElem.1 hx
      rcases h3 i hi with ⟨_, e2, _⟩ | ⟨_, w', _, (⟨_, e2, _⟩ | ⟨_, x', hx', _, e2, _⟩)⟩
      · rw [e2] at e; cases e
      · rw [e2] at e; cases e
      · rw [e2] at e; cases e; omega
    have hub := updL_bd (z := zs) m3 (by omega) hzb B.length
    have hul := updL_len R0 zs B.length
    rw [← h2] at c1
    obtain ⟨w, ⟨w0, w1⟩, cw⟩ := z44 b0 hbt (pf B.length) 3 (by omega) (by omega) (by omega)
    by_cases hw : w = 0
    · subst hw
      obtain ⟨R', p', ⟨r1, r2, r3⟩, cb⟩ := l9Bend_ok b0 hbt (pf B.length + 1) ⟨by omega, by omega⟩ (updL R0 zs B.length) (by omega) hub
      refine ⟨g, l, a, R', ⟨hg, hl, ha, r1⟩, ?_⟩
      refine z10 z18 Tryz.func44 rfl rfl 76 Tryz.ntmps44 (by simp) ?_
      repeat' ((first | (apply AWP.go ok; rfl) | (apply z9 (cP); rfl; rfl) | ((first | (apply z6 [] [] [3] (co); rfl; (focus ((repeat' exact z4) <;> fail))) | (apply z6 [3] [] [] (c1); rfl; (focus ((repeat' first | exact z4 | apply z5) <;> rfl))) | (apply z6 [] [] [6] (cM); rfl; (focus ((repeat' exact z4) <;> fail)))); rfl; rfl; rfl; rfl; rfl; (focus ((repeat' first | exact z12 | apply z11) <;> first | exact z17 rfl rfl | (refine z23 ?_; ((exact z8 fun _ => rfl))))); (exact .inl rfl))) <;> conv => whnf)
      all_goals skip
      all_goals
        refine z76 (fun x : Nat × List Int => ([(2, .ptr 0 none 0), (4, .ptr 1 none 0), (5, .ptr 2 none 0), (6, .ptr 3 none 0), (7, .ptr 4 none 0), (8, lst 3 Tree.cs' l), (9, .ptr 5 none 0), (10, .ptr 6 none 0), (11, .bool true), (12, lst 1 enB B), (14, .int x.1)], [.cells 2 [[.nils, .nils]], .cells 3 [[.nils, .nils, .nils]], .cells 1 [[.nils]], rdO b0 (pf x.1), .cells 2 [g.cs], .cells 3 [a.cs], .cells 1 [[.sref 7 0 x.2.length]], .cells 1 (x.2.map enI)])) (fun x => x.1 ≤ B.length ∧ x.2 = updL R0 zs x.1) (fun x => B.length - x.1) (0, R0) ⟨Nat.zero_le _, rfl⟩ (by refine SealW.reach [0, 1, 2, 3, 4, 5, 7, 6] [] rfl rfl rfl rfl ?_ ?_ <;> (repeat' (first | exact LocLe.refl _ | exact F2.nil | apply F2.cons | exact z15 _ | apply ObjLe.box | ((refine z16 rfl ?_ ?_); (focus ((repeat' ((exact z8 (fun _ => rfl)))); done))) | exact True.intro | apply And.intro))) ?_
        rintro ⟨k, D⟩ ⟨hk, hD⟩
        dsimp only at hk hD ⊢
        have hDl := updL_len R0 zs k
        rw [← hD] at hDl
        by_cases hkB : k < B.length
        · have hkz : k < zs.length := by omega
          have H := h3 k hkz
          rw [z25 hkB] at H
          have hs : updL R0 zs (k + 1) = (match zs[k] with | none => D | some x => D.set k x) := by rw [updL, ← hD, z25 hkz]
          have hgB : (B.map enB)[k]? = some (enB B[k]) := by rw [List.getElem?_map, List.getElem?_eq_getElem hkB]; rfl
          generalize zs[k] = zk at *
          generalize B[k] = b at *
          rcases H with ⟨rfl, rfl, eq⟩ | ⟨rfl, w', cw', (⟨w0, rfl, eq⟩ | ⟨rfl, x, hx, cx, rfl, eq⟩)⟩
          · rw [← eq]
            repeat' ((first | (apply AWP.go ok; rfl) | (refine z24 (i := k) (by simp) hgB ?_) | (apply And.intro; first | omega | (unfold inI; omega)) | ((apply z7) <;> intro _)) <;> conv => whnf)
            all_goals first | (exfalso; omega) | skip
            all_goals refine z31 (k + 1, D) ⟨hkB, hs.symm⟩ (by show B.length - (k + 1) < B.length - k; omega) (by refine SealW.reach [0, 1, 2, 3, 4, 5, 6, 7] [] rfl rfl rfl rfl ?_ ?_ <;> (repeat' (first | exact LocLe.refl _ | exact F2.nil | apply F2.cons | exact z15 _ | apply ObjLe.box | ((refine z16 rfl ?_ ?_); (focus ((repeat' ((exact z8 (fun _ => rfl)))); done))) | exact True.intro | apply And.intro)))
          · rw [← eq] at cw'
            repeat' ((first | (apply AWP.go ok; rfl) | (refine z24 (i := k) (by simp) hgB ?_) | (apply And.intro; first | omega | (unfold inI; omega)) | ((apply z7) <;> intro _) | (((apply z6 [3] [] [] (cw'); rfl; (focus ((repeat' first | exact z4 | apply z5) <;> rfl)))); rfl; rfl; rfl; rfl; rfl; (focus ((repeat' first | exact z12 | apply z11) <;> exact z17 rfl rfl)); (exact .inl rfl))) <;> conv => whnf)
            all_goals first | (exfalso; omega) | skip
            all_goals refine z31 (k + 1, D) ⟨hkB, hs.symm⟩ (by show B.length - (k + 1) < B.length - k; omega) (by refine SealW.reach [0, 1, 2, 3, 4, 5, 6, 7] [] rfl rfl rfl rfl ?_ ?_ <;> (repeat' (first | exact LocLe.refl _ | exact F2.nil | apply F2.cons | exact z15 _ | apply ObjLe.box | ((refine z16 rfl ?_ ?_); (focus ((repeat' ((exact z8 (fun _ => rfl)))); done))) | exact True.intro | apply And.intro)))
          · rw [← eq] at cx
            repeat' ((first | (apply AWP.go ok; rfl) | (apply z29; kernel_rfl) | (refine z24 (i := k) (by simp) hgB ?_) | (apply And.intro; first | omega | (unfold inI; omega)) | (((apply z13; omega)); intro _) | ((apply z7) <;> intro _) | ((first | (apply z6 [3] [] [] (cw'); rfl; (focus ((repeat' first | exact z4 | apply z5) <;> rfl))) | (apply z6 [3] [] [] (cx); rfl; (focus ((repeat' first | exact z4 | apply z5) <;> rfl)))); rfl; rfl; rfl; rfl; rfl; (focus ((repeat' first | exact z12 | apply z11) <;> exact z17 rfl rfl)); (exact .inl rfl))) <;> conv => whnf)
            all_goals first | (exfalso; omega) | skip
            all_goals refine z31 (k + 1, D.set k (x - 1)) ⟨hkB, hs.symm⟩ (by show B.length - (k + 1) < B.length - k; omega) (by refine SealW.reach [0, 1, 2, 3, 4, 5, 6, 7] [] rfl rfl rfl rfl ?_ ?_ <;> (repeat' (first | exact LocLe.refl _ | exact F2.nil | apply F2.cons | (refine z35 ?_; ((simp; done))) | apply ObjLe.box | ((refine z54 rfl ?_ ?_); (focus ((repeat' ((exact z8 (fun _ => rfl)))); done))) | (refine put_le (by omega) ?_) | exact True.intro | apply And.intro)))
        have e : k = B.length := by omega
        subst e
        subst hD
        repeat' ((first | ((fail_if_success apply z122 11); (fail_if_success apply z92 11); (fail_if_success apply z122 12); (fail_if_success apply z92 12); apply AWP.go ok; rfl) | (apply And.intro; omega) | (((with_reducible apply z13; omega)); intro _) | ((first | apply z7 | apply z80) <;> intro _) | (((apply z6 [3] [] [] (cw); rfl; (focus ((repeat' first | exact z4 | apply z5) <;> rfl)))); rfl; rfl; rfl; rfl; rfl; (focus ((repeat' first | exact z12 | apply z11) <;> exact z17 rfl rfl)); (exact .inl rfl))) <;> conv => whnf)
        all_goals first | (exfalso; omega) | skip
        all_goals
          refine AWP.reach (SealW.reach (env := [(2, .ptr 0 none 0), (4, .ptr 1 none 0), (5, .ptr 2 none 0), (6, .ptr 3 none 0), (7, .ptr 4 none 0), (8, lst 3 Tree.cs' l), (9, .ptr 5 none 0), (10, .ptr 6 none 0)]) (objs := [.cells 2 [[.nils, .nils]], .cells 3 [[.nils, .nils, .nils]], .cells 1 [[.nils]], rdO b0 (pf B.length + 1), .cells 2 [g.cs], .cells 3 [a.cs], .cells 1 [[ints (updL R0 zs B.length)]]]) [0, 1, 2, 3, 4, 5, 6] [7] rfl rfl rfl rfl ?_ ?_) ?_
          · (repeat' (first | exact LocLe.refl _ | exact True.intro | apply And.intro))
          · (repeat' (first | exact LocLe.refl _ | exact F2.nil | apply F2.cons | apply ObjLe.box | ((apply z37 rfl rfl rfl); (focus ((repeat ((exact z33 (fun _ => rfl) _))); done)); (focus (((simp; done)); done)))))
          conv => whnf
          repeat' ((first | (apply AWP.go ok; rfl) | (apply z29; kernel_rfl) | (((apply z6 [3] [] [] (cb); rfl; (focus ((repeat' first | exact z4 | apply z5) <;> rfl)))); rfl; rfl; rfl; rfl; rfl; (focus ((repeat' first | exact z12 | apply z11) <;> exact z17 rfl rfl)); (exact .inl rfl))) <;> conv => whnf)
          all_goals skip
          all_goals (refine RetS.lay [] [] rfl rfl rfl ?_; refine RetS.done ?_ ?_ <;> (repeat' (first | exact LocLe.refl _ | exact F2.nil)))
    · refine ⟨g, l, a, (updL R0 zs B.length), ⟨hg, hl, ha, by omega⟩, ?_⟩
      refine z10 z18 Tryz.func44 rfl rfl 76 Tryz.ntmps44 (by simp) ?_
      repeat' ((first | (apply AWP.go ok; rfl) | (apply z9 (cP); rfl; rfl) | ((first | (apply z6 [] [] [3] (co); rfl; (focus ((repeat' exact z4) <;> fail))) | (apply z6 [3] [] [] (c1); rfl; (focus ((repeat' first | exact z4 | apply z5) <;> rfl))) | (apply z6 [] [] [6] (cM); rfl; (focus ((repeat' exact z4) <;> fail)))); rfl; rfl; rfl; rfl; rfl; (focus ((repeat' first | exact z12 | apply z11) <;> first | exact z17 rfl rfl | (refine z23 ?_; ((exact z8 fun _ => rfl))))); (exact .inl rfl))) <;> conv => whnf)
      all_goals skip
      all_goals
        refine z76 (fun x : Nat × List Int => ([(2, .ptr 0 none 0), (4, .ptr 1 none 0), (5, .ptr 2 none 0), (6, .ptr 3 none 0), (7, .ptr 4 none 0), (8, lst 3 Tree.cs' l), (9, .ptr 5 none 0), (10, .ptr 6 none 0), (11, .bool true), (12, lst 1 enB B), (14, .int x.1)], [.cells 2 [[.nils, .nils]], .cells 3 [[.nils, .nils, .nils]], .cells 1 [[.nils]], rdO b0 (pf x.1), .cells 2 [g.cs], .cells 3 [a.cs], .cells 1 [[.sref 7 0 x.2.length]], .cells 1 (x.2.map enI)])) (fun x => x.1 ≤ B.length ∧ x.2 = updL R0 zs x.1) (fun x => B.length - x.1) (0, R0) ⟨Nat.zero_le _, rfl⟩ (by refine SealW.reach [0, 1, 2, 3, 4, 5, 7, 6] [] rfl rfl rfl rfl ?_ ?_ <;> (repeat' (first | exact LocLe.refl _ | exact F2.nil | apply F2.cons | exact z15 _ | apply ObjLe.box | ((refine z16 rfl ?_ ?_); (focus ((repeat' ((exact z8 (fun _ => rfl)))); done))) | exact True.intro | apply And.intro))) ?_
        rintro ⟨k, D⟩ ⟨hk, hD⟩
        dsimp only at hk hD ⊢
        have hDl := updL_len R0 zs k
        rw [← hD] at hDl
        by_cases hkB : k < B.length
        · have hkz : k < zs.length := by omega
          have H := h3 k hkz
          rw [z25 hkB] at H
          have hs : updL R0 zs (k + 1) = (match zs[k] with | none => D | some x => D.set k x) := by rw [updL, ← hD, z25 hkz]
          have hgB : (B.map enB)[k]? = some (enB B[k]) := by rw [List.getElem?_map, List.getElem?_eq_getElem hkB]; rfl
          generalize zs[k] = zk at *
          generalize B[k] = b at *
          rcases H with ⟨rfl, rfl, eq⟩ | ⟨rfl, w', cw', (⟨w0, rfl, eq⟩ | ⟨rfl, x, hx, cx, rfl, eq⟩)⟩
          · rw [← eq]
            repeat' ((first | (apply AWP.go ok; rfl) | (refine z24 (i := k) (by simp) hgB ?_) | (apply And.intro; first | omega | (unfold inI; omega)) | ((apply z7) <;> intro _)) <;> conv => whnf)
            all_goals first | (exfalso; omega) | skip
            all_goals refine z31 (k + 1, D) ⟨hkB, hs.symm⟩ (by show B.length - (k + 1) < B.length - k; omega) (by refine SealW.reach [0, 1, 2, 3, 4, 5, 6, 7] [] rfl rfl rfl rfl ?_ ?_ <;> (repeat' (first | exact LocLe.refl _ | exact F2.nil | apply F2.cons | exact z15 _ | apply ObjLe.box | ((refine z16 rfl ?_ ?_); (focus ((repeat' ((exact z8 (fun _ => rfl)))); done))) | exact True.intro | apply And.intro)))
          · rw [← eq] at cw'
            repeat' ((first | (apply AWP.go ok; rfl) | (refine z24 (i := k) (by simp) hgB ?_) | (apply And.intro; first | omega | (unfold inI; omega)) | ((apply z7) <;> intro _) | (((apply z6 [3] [] [] (cw'); rfl; (focus ((repeat' first | exact z4 | apply z5) <;> rfl)))); rfl; rfl; rfl; rfl; rfl; (focus ((repeat' first | exact z12 | apply z11) <;> exact z17 rfl rfl)); (exact .inl rfl))) <;> conv => whnf)
            all_goals first | (exfalso; omega) | skip
            all_goals refine z31 (k + 1, D) ⟨hkB, hs.symm⟩ (by show B.length - (k + 1) < B.length - k; omega) (by refine SealW.reach [0, 1, 2, 3, 4, 5, 6, 7] [] rfl rfl rfl rfl ?_ ?_ <;> (repeat' (first | exact LocLe.refl _ | exact F2.nil | apply F2.cons | exact z15 _ | apply ObjLe.box | ((refine z16 rfl ?_ ?_); (focus ((repeat' ((exact z8 (fun _ => rfl)))); done))) | exact True.intro | apply And.intro)))
          · rw [← eq] at cx
            repeat' ((first | (apply AWP.go ok; rfl) | (apply z29; kernel_rfl) | (refine z24 (i := k) (by simp) hgB ?_) | (apply And.intro; first | omega | (unfold inI; omega)) | (((apply z13; omega)); intro _) | ((apply z7) <;> intro _) | ((first | (apply z6 [3] [] [] (cw'); rfl; (focus ((repeat' first | exact z4 | apply z5) <;> rfl))) | (apply z6 [3] [] [] (cx); rfl; (focus ((repeat' first | exact z4 | apply z5) <;> rfl)))); rfl; rfl; rfl; rfl; rfl; (focus ((repeat' first | exact z12 | apply z11) <;> exact z17 rfl rfl)); (exact .inl rfl))) <;> conv => whnf)
            all_goals first | (exfalso; omega) | skip
            all_goals refine z31 (k + 1, D.set k (x - 1)) ⟨hkB, hs.symm⟩ (by show B.length - (k + 1) < B.length - k; omega) (by refine SealW.reach [0, 1, 2, 3, 4, 5, 6, 7] [] rfl rfl rfl rfl ?_ ?_ <;> (repeat' (first | exact LocLe.refl _ | exact F2.nil | apply F2.cons | (refine z35 ?_; ((simp; done))) | apply ObjLe.box | ((refine z54 rfl ?_ ?_); (focus ((repeat' ((exact z8 (fun _ => rfl)))); done))) | (refine put_le (by omega) ?_) | exact True.intro | apply And.intro)))
        have e : k = B.length := by omega
        subst e
        subst hD
        repeat' ((first | (apply AWP.go ok; rfl) | (apply z29; kernel_rfl) | (apply And.intro; omega) | (((with_reducible apply z13; omega)); intro _) | ((first | apply z7 | apply z80) <;> intro _) | (((apply z6 [3] [] [] (cw); rfl; (focus ((repeat' first | exact z4 | apply z5) <;> rfl)))); rfl; rfl; rfl; rfl; rfl; (focus ((repeat' first | exact z12 | apply z11) <;> exact z17 rfl rfl)); (exact .inl rfl))) <;> conv => whnf)
        all_goals first | (exfalso; omega) | skip
        all_goals (refine RetS.lay [] [7] rfl rfl rfl ?_; refine RetS.done ?_ ?_ <;> (repeat' (first | exact LocLe.refl _ | exact F2.nil | apply F2.cons | ((apply z37 rfl rfl rfl); (focus ((repeat ((exact z33 (fun _ => rfl) _))); done)); (focus (((simp; done)); done))) | apply z40 | apply z111)))
end Go.Proofs.YtppafngcahgagaaGreat

namespace Go.Proofs.YtppafngcahgagaaGreat
open Go.Gl
attribute [local irreducible] z32 AWP z48 z55 z50 RetS z65

theorem rk_red {B : List Bool} {R : List Int} {x : Int} (h0 : 0 ≤ x) (h1 : x < R.length) (hb : B.getD x.toNat false = true) : rk (redL B R) x = rk R x := by
  unfold rk
  rw [z25 (by rw [z130]; omega), z25 (by omega)]
  simp only [redL, List.getElem_map, List.getElem_range, redAt, hb, if_true]
  rw [z25 (by omega)]
theorem reachB_get {rows : List (List Int)} {ini : List Int} {i : Nat} (h : i < rows.length) : (reachB rows ini).getD i false = decide (RP rows ini i) := by
  rw [z25 (by rw [z124]; exact h)]
  simp [reachB]
theorem cert_red {rows : List (List Int)} {ini : List Int} {acc : List Bool} {R : List Int} (hr : ∀ r ∈ rows, InN rows.length r) (hi : InN rows.length ini) (h : certP rows ini acc rows.length R) : certP rows ini acc rows.length (redL (reachB rows ini) R) := by
  obtain ⟨h1, h2, h3, h4⟩ := h
  have hg : ∀ i (hi : i < (redL (reachB rows ini) R).length), (redL (reachB rows ini) R)[i] = if RP rows ini i then R[i]'(by rw [z130] at hi; exact hi) else -1 := by
    intro i hi
    have hiR : i < R.length := by rw [z130] at hi; exact hi
    simp only [redL, List.getElem_map, List.getElem_range, redAt]
    rw [reachB_get (by omega), z25 hiR]
    by_cases hp : RP rows ini i <;> simp [hp]
  refine ⟨by rw [z130]; exact h1, ?_, ?_, ?_⟩
  · intro x hx
    obtain ⟨i, hi, rfl⟩ := List.mem_iff_getElem.1 hx
    rw [hg i hi]
    split
    · exact h2 _ (List.getElem_mem _)
    · omega
  · intro x hx
    have := hi x hx
    rw [rk_red this.1 (by omega) (by rw [reachB_get (by omega), decide_eq_true_iff]; rw [Int.toNat_of_nonneg this.1]; exact .base hx)]
    exact h3 x hx
  · intro i hi h0
    rw [hg i hi] at h0 ⊢
    have hiR : i < R.length := by rw [z130] at hi; exact hi
    split at h0
    · rename_i hp
      rw [if_pos hp]
      have h5 := h4 i hiR h0
      intro y hy
      have hyN := row_in hr (i : Int) y (by rw [Int.toNat_natCast]; exact hy)
      have hyp : RP rows ini y := .step hp (by rw [Int.toNat_natCast]; exact hy)
      rw [rk_red hyN.1 (by omega) (by rw [reachB_get (by omega), decide_eq_true_iff]; rw [Int.toNat_of_nonneg hyN.1]; exact hyp)]
      exact h5 y hy
    · omega
theorem red_idem (B : List Bool) (R : List Int) : redL B (redL B R) = redL B R := by
  have hl : (redL B R).length = R.length := z130 B R
  unfold redL at hl ⊢
  rw [hl]
  refine List.map_congr_left fun i hi => ?_
  have hi := List.mem_range.1 hi
  unfold redAt
  split
  · rename_i hb
    rw [z25 (by simp; omega)]
    simp only [List.getElem_map, List.getElem_range, redAt]
    rw [if_pos hb]
  · rfl
theorem certB_red {g : Graph} {l : List Tree} {a : Aut} {c : Cert} (h : certB g l a c = true) : certB g l a (redC g l a c) = true ∧ redC g l a (redC g l a c) = redC g l a c := by
  have h' := h
  unfold certB at h'
  obtain ⟨h1, h2⟩ := Bool.and_eq_true_iff.1 h'
  have h2 := of_decide_eq_true h2
  obtain ⟨h3, h4⟩ := Bool.and_eq_true_iff.1 h1
  obtain ⟨f1, f2, f3, f4, f5⟩ := z125 ((z87 g).1 (by unfold glB at h3; exact (Bool.and_eq_true_iff.1 h3).1)) (z108.1 h4) (g.st.map (z36 l))
  have hlen : (z34 g (g.st.map (z36 l)) a).length = g.st.length * a.acc.length := by unfold z34; rw [z71, Nat.mul_comm]
  have hpr : prB g l a = reachB (z34 g (g.st.map (z36 l)) a) a.ini := by unfold prB; rw [if_pos h1]
  have e1 : redC g l a c = ⟨redL (prB g l a) c.ranks⟩ := by unfold redC; rw [if_pos h]
  rw [← hlen] at h2
  have h5 := cert_red f1 f2 h2
  have h6 : certB g l a (redC g l a c) = true := by
    rw [e1, hpr]
    unfold certB
    rw [h1, ← hlen, decide_eq_true h5]; rfl
  refine ⟨h6, ?_⟩
  have e2 : ∀ c', certB g l a c' = true → redC g l a c' = ⟨redL (prB g l a) c'.ranks⟩ := fun c' h => by unfold redC; rw [if_pos h]
  rw [e2 _ h6, e1]
  show Cert.mk (redL _ (redL _ _)) = _
  rw [red_idem]
end Go.Proofs.YtppafngcahgagaaGreat

