/- A part of the proofs over this program: T158, T159, T160, T94W, T29, T94K, T161, T186, T187, T33P, T67, T68, T69, T29A. -/
import Derived.Test.YtknlmbniicacmaaGreatG0
import Derived.Test.YtknlmbniicacmaaGreatG1
import Derived.Test.YtknlmbniicacmaaGreatG2
import Derived.Test.YtknlmbniicacmaaGreatG3
import Derived.Test.YtknlmbniicacmaaGreatP0
import Derived.Test.YtknlmbniicacmaaGreatP1
import Derived.Test.YtknlmbniicacmaaGreatP2
import Derived.Test.YtknlmbniicacmaaGreatP3
import Derived.Test.YtknlmbniicacmaaGreatP4
import Derived.Test.YtknlmbniicacmaaGreatP5
import Derived.Test.YtknlmbniicacmaaGreatRows
import Derived.WalkKit
import Derived.ProofKit
import Derived.Deep.DeepHandedRow
import Derived.Lib.LaidTab
set_option linter.all false
namespace Go.Proofs.YtknlmbniicacmaaGreat
open Go.Gl
attribute [local irreducible] z15 AWP z44 z49 z46 RetS z60

theorem rowAt {rows : List (List Int)} {v : Int} (hv : 0 ≤ v ∧ v < rows.length) : (rows.map encL)[v.toNat]? = some (encL (rows.getD v.toNat [])) := by
  rw [List.getElem?_map, List.getElem?_eq_getElem (by omega), z30 (by omega)]; rfl
theorem rowLen {rows : List (List Int)} {M : Nat} (hrl : ∀ r ∈ rows, r.length ≤ M) (v : Int) : (rows.getD v.toNat []).length ≤ M := by
  by_cases h : v.toNat < rows.length
  · rw [z30 h]; exact hrl _ (List.getElem_mem _)
  · rw [List.getD_eq_getElem?_getD, List.getElem?_eq_none (by omega)]; exact Nat.zero_le _
set_option maxHeartbeats 3200000 in
theorem l8Cycle_ok (rows : List (List Int)) (v : Int) (hr : ∀ r ∈ rows, InN rows.length r) (hv : 0 ≤ v ∧ v < rows.length) (hN : rows.length ≤ 100000) (hrl : ∀ r ∈ rows, r.length ≤ 1000000000) : CallsA Tryz.prog 189 [lst 1 encL rows, .int v] [] (ints (cycL rows v)) [] := by
  have hg := rowAt hv
  have hl := fun w => rowLen hrl w
  have c1 := l4In_ok (rows.getD v.toNat []) (by have := hl v; unfold maxLen; omega) v
  have hlv := hl v
  have c2 := l8Search_new rows [v] hr (one_in hv) (by simp) hN hrl
  have hQ := srQ_in hr (one_in hv) (by simp)
  have hB := srQ_back hr (one_in hv) (by simp)
  have hPl := srP_len hr (one_in hv) (by simp)
  have hQl := srQ_len hr (one_in hv) (by simp)
  have c3 := fun k hk => l8Back_ok (srP rows [v]) (by omega) rows.length _ (hB k hk) (by omega)
  unfold cycL
  by_cases h : v ∈ rows.getD v.toNat []
  · rw [if_pos h]
    rw [decide_eq_true h] at c1
    generalize rows.getD v.toNat [] = r0 at *
    refine z52 z28 Tryz.func189 rfl rfl 45 Tryz.ntmps189 (by simp) ?_
    repeat' ((first | (apply AWP.go ok; rfl) | (refine z26 (i := v.toNat) (by simp) hg ?_) | (apply And.intro; omega) | (apply z4 (c1); rfl; rfl)) <;> conv => whnf)
    all_goals skip
    all_goals (refine RetS.lay [] [0] rfl rfl rfl ?_; refine RetS.done ?_ ?_ <;> (repeat' (first | exact LocLe.refl _ | exact F2.nil)))
  · rw [if_neg h]
    rw [decide_eq_false h] at c1
    generalize hr0 : rows.getD v.toNat [] = r0 at hg c1 hlv
    generalize srQ rows [v] = Q at *
    generalize srP rows [v] = P at *
    generalize hR : cycT rows P v Q = R
    refine z52 z28 Tryz.func189 rfl rfl 45 Tryz.ntmps189 (by simp) ?_
    repeat' ((first | (apply AWP.go ok; rfl) | (refine z26 (i := v.toNat) (by simp) hg ?_) | (apply And.intro; omega) | (apply z4 (c1); rfl; rfl) | (((apply z19 [] [0] [1, 2] (c2); (focus ((repeat' first | exact z89 | apply z68) <;> rfl)); (focus ((repeat' exact z10) <;> fail)))); rfl; rfl; rfl; rfl; rfl; (focus ((repeat' first | exact z29 | apply z25) <;> (refine z40 ?_; ((exact z0 fun _ => rfl))))); ((refine .inr ⟨rfl, ?_⟩; repeat' first | exact True.intro | apply And.intro | exact z42 (fun _ => rfl) _)))) <;> conv => whnf)
    all_goals skip
    refine z114 (fun i : Nat => ([(0, lst 1 encL rows), (1, .int v), (5, ints P), (6, ints Q), (7, .int i)], [])) (fun i => i ≤ Q.length ∧ cycT rows P v (Q.drop i) = R) (fun i => Q.length - i) 0 ⟨Nat.zero_le _, hR⟩ (by refine SealW.reach [] [1, 2] rfl rfl rfl rfl ?_ ?_ <;> (repeat' (first | exact LocLe.refl _ | exact F2.nil | ((apply seal_leU rfl rfl rfl); (focus ((repeat ((exact unown_map (fun _ => rfl) _))); done)); (focus (((simp; done)); done))) | exact True.intro | apply And.intro))) ?_
    rintro i ⟨hi1, hi2⟩
    by_cases hi3 : i < Q.length
    · have hq := hQ _ (List.getElem_mem hi3)
      have hgq := rowAt hq
      have c4 := l4In_ok (rows.getD Q[i].toNat []) (by have := hl Q[i]; unfold maxLen; omega) v
      have hlq := hl Q[i]
      have c5 := c3 i hi3
      rw [List.drop_eq_getElem_cons hi3, cycT] at hi2
      have hgi : (Q.map enI)[i]? = some (enI Q[i]) := by rw [List.getElem?_map, List.getElem?_eq_getElem hi3]; rfl
      generalize Q[i] = u at *
      by_cases hm : v ∈ rows.getD u.toNat []
      · rw [if_pos hm] at hi2
        rw [decide_eq_true hm] at c4
        subst hi2
        generalize rows.getD u.toNat [] = r1 at *
        repeat' ((first | (apply AWP.go ok; rfl) | (refine z26 (i := u.toNat) (by simp) hgq ?_) | (refine z26 (i := i) (by simp) hgi ?_) | (apply And.intro; omega) | ((apply z2) <;> intro _) | (apply z4 (c4); rfl; rfl) | (apply z4 (c5); rfl; rfl)) <;> conv => whnf)
        all_goals first | (exfalso; omega) | skip
        all_goals (refine RetS.lay [] [] rfl rfl rfl ?_; refine RetS.done ?_ ?_ <;> (repeat' (first | exact LocLe.refl _ | exact F2.nil)))
      · rw [if_neg hm] at hi2
        rw [decide_eq_false hm] at c4
        generalize rows.getD u.toNat [] = r1 at *
        repeat' ((first | (apply AWP.go ok; rfl) | (refine z26 (i := u.toNat) (by simp) hgq ?_) | (refine z26 (i := i) (by simp) hgi ?_) | (apply And.intro; first | omega | (unfold inI; omega)) | ((apply z2) <;> intro _) | (apply z4 (c4); rfl; rfl)) <;> conv => whnf)
        all_goals first | (exfalso; omega) | skip
        all_goals refine z72 (i + 1) ⟨hi3, hi2⟩ (by omega) (by refine SealW.reach [] [] rfl rfl rfl rfl ?_ ?_ <;> (repeat' (first | exact LocLe.refl _ | exact F2.nil | exact True.intro | apply And.intro)))
    · have e : Q.length = i := by omega
      subst e
      rw [List.drop_length, cycT] at hi2
      subst hi2
      repeat' ((first | (apply AWP.go ok; rfl) | (apply And.intro; omega) | ((first | (with_reducible apply z5; omega) | (with_reducible apply z31; omega)); intro _) | ((apply z2) <;> intro _)) <;> conv => whnf)
      all_goals first | (exfalso; omega) | skip
      all_goals (refine RetS.lay [] [0] rfl rfl rfl ?_; refine RetS.done ?_ ?_ <;> (repeat' (first | exact LocLe.refl _ | exact F2.nil)))

theorem l8States_ok (l : List Int) (n : Nat) (hl : l.length ≤ 1000000) (hn : 1 ≤ n) (h0 : ∀ x ∈ l, 0 ≤ x) (h1 : ∀ x ∈ l, x ≤ 1000000000) : CallsA Tryz.prog 191 [ints l, .int n] [] (.sref 0 0 l.length) [.cells 1 ((stL l n).map enI)] := by
  refine z52 z28 Tryz.func191 rfl rfl 24 Tryz.ntmps191 (by simp) ?_
  repeat' (((apply AWP.go ok; rfl)) <;> conv => whnf)
  refine z114 (fun x : Nat × List Int => ([(0, ints l), (1, .int n), (5, .sref 0 0 x.2.length), (6, .int x.1)], [.cells 1 (x.2.map enI)])) (fun x => x.1 ≤ l.length ∧ x.2.length = x.1 ∧ x.2 = stL (l.take x.1) n) (fun x => l.length - x.1) (0, []) ⟨Nat.zero_le _, rfl, rfl⟩ (by refine SealW.reach [0] [] rfl rfl rfl rfl ?_ ?_ <;> (repeat' (first | exact LocLe.refl _ | exact F2.nil | apply F2.cons | ((refine z27 rfl ?_ ?_); (focus ((repeat' (exact z14)); done))) | exact True.intro | apply And.intro))) ?_
  rintro ⟨i, F⟩ ⟨hi1, hF1, hF2⟩
  dsimp only at hi1 hF1 hF2 ⊢
  by_cases hi2 : i < l.length
  · have a0 := h0 _ (List.getElem_mem hi2)
    have a1 := h1 _ (List.getElem_mem hi2)
    have a2 : 0 ≤ l[i] / (n : Int) := Int.ediv_nonneg a0 (by omega)
    have a3 : l[i] / (n : Int) ≤ l[i] := Int.ediv_le_self _ a0
    have hF3 : stL (l.take (i + 1)) n = F ++ [l[i] / n] := by rw [hF2, stL, List.take_succ_eq_append_getElem hi2, List.map_append]; rfl
    repeat' ((first | (apply AWP.go ok; rfl) | (apply And.intro; first | omega | (unfold inI; omega) | ((try dsimp only); simp only [List.length_map, List.length_take, List.length_append, List.length_replicate, List.length_cons, List.length_nil]; omega) | exact ⟨rfl, z11 rfl z16⟩) | (((with_reducible apply z5; omega)); intro _) | ((apply z2) <;> intro _)) <;> conv => whnf)
    all_goals first | (exfalso; omega) | skip
    all_goals refine z72 (i + 1, F ++ [l[i] / n]) ⟨hi2, by rw [List.length_append, hF1]; rfl, hF3.symm⟩ (by show l.length - (i + 1) < l.length - i; omega) (by refine SealW.reach [2] [] rfl rfl rfl rfl ?_ ?_ <;> (repeat' (first | exact LocLe.refl _ | exact F2.nil | apply F2.cons | (refine z85 ?_; ((simp; done))) | ((refine z121 rfl ?_ ?_); (focus ((repeat' (first | exact z0 (fun _ => rfl) | apply z99)); done))) | (refine snoc_le ?_ ?_; (focus (omega))) | exact True.intro | apply And.intro)))
  · have e : l.length = i := by omega
    subst e
    rw [List.take_length] at hF2
    subst hF2
    repeat' ((first | (apply AWP.go ok; rfl) | (apply And.intro; omega) | (((with_reducible apply z5; omega)); intro _) | ((apply z2) <;> intro _)) <;> conv => whnf)
    all_goals first | (exfalso; omega) | skip
    all_goals (refine RetS.lay [0] [] rfl rfl rfl ?_; refine RetS.done ?_ ?_ <;> (repeat' (first | exact F2.nil | apply F2.cons | exact z18 _ | (refine z85 ?_; (omega)) | ((refine z27 rfl ?_ ?_); (focus ((repeat' ((exact z0 (fun _ => rfl)))); done))))))
end Go.Proofs.YtknlmbniicacmaaGreat

namespace Go.Proofs.YtknlmbniicacmaaGreat
open Go.Gl
attribute [local irreducible] z15 AWP z44 z49 z46 RetS z60

theorem IniP.nd {l : List Int} {n : Int} (h : IniP l n l.length) : l.Nodup := by
  have hs : ∀ d i (hi : i + d + 1 < l.length), l[i] < l[i + d + 1] := by
    intro d
    induction d with
    | zero => intro i hi; exact (h (i + 1) hi hi).2 i rfl
    | succ d ih =>
      intro i hi
      have h1 := ih i (by omega)
      have h2 := (h (i + (d + 1) + 1) hi hi).2 (i + d + 1) (by omega)
      omega
  rw [List.nodup_iff_pairwise_ne, List.pairwise_iff_getElem]
  intro i j hi hj hij
  have := hs (j - i - 1) i (by omega)
  have e : i + (j - i - 1) + 1 = j := by omega
  simp only [e] at this
  omega
noncomputable def trcO (g : Graph) (ls : List Int) (a : Aut) : Option (List Int × List Int) := (finS (z64 g ls a) a.ini a.acc).map fun x => (stL (x.1.take (x.1.length - 1)) a.acc.length, stL x.2 a.acc.length)
noncomputable def trcL (g : Graph) (ls : List Int) (a : Aut) : List Int × List Int := (trcO g ls a).getD ([], [])
set_option maxHeartbeats 6400000 in
theorem l8Find_ok (g : Graph) (hG : GB g) (ls : List Int) (hls : ls.length = g.st.length) (hlr : ∀ x ∈ ls, 0 ≤ x ∧ x ≤ 7) (a : Aut) (hA : AutP a) : CallsA Tryz.prog 118 [.agg g.cs, ints ls, .agg a.cs] [] (.tup [.agg [ints (trcL g ls a).1, ints (trcL g ls a).2], .bool (trcO g ls a).isSome]) [] := by
  have k2 := l8Product_ok g hG ls hls hlr a hA
  obtain ⟨f1, f2, f3, f4, f5⟩ := prod_facts hG hA ls
  have hlen : (z64 g ls a).length = g.st.length * a.acc.length := by unfold z64; rw [z92, Nat.mul_comm]
  have hnd := hA.2.2.1.nd
  have hac := hA.1
  unfold trcL trcO finS
  generalize z64 g ls a = rows at *
  have k3 := l8Search_ok rows a.ini f1 f2 hnd (by omega) f4
  have hQ := srQ_in f1 f2 hnd
  have hB := srQ_back f1 f2 hnd
  have hPl := srP_len f1 f2 hnd
  have hQl := srQ_len f1 f2 hnd
  have hPle := srS_le f1 f2 hnd rows.length
  have k4 := fun v hv => l8Cycle_ok rows v f1 hv (by omega) f4
  have k5 := fun k hk => l8Back_ok (srP rows a.ini) (by omega) rows.length _ (hB k hk) (by omega)
  have n4 := fun v hv => cycL_nn f1 (v := v) hv
  have m4 := fun v hv => cycL_le f1 (v := v) hv
  change ∀ y ∈ srP rows a.ini, y ≤ (rows.length : Int) at hPle
  generalize srQ rows a.ini = Q at *
  generalize srP rows a.ini = P at *
  generalize hR : finT rows a.acc P Q = R
  refine z52 z28 Tryz.func118 rfl rfl 72 Tryz.ntmps118 (by simp) ?_
  repeat' ((first | (apply AWP.go ok; rfl) | (apply z4 (k2); rfl; rfl) | (apply z4 (k3); rfl; rfl)) <;> conv => whnf)
  all_goals skip
  refine z114 (fun i : Nat => ([(5, .ptr 0 none 0), (6, .ptr 1 none 0), (8, .int a.acc.length), (9, lst 1 encL rows), (10, ints P), (11, ints Q), (12, .int i)], [.cells 3 [a.cs], .cells 2 [[.nils, .nils]]])) (fun i => i ≤ Q.length ∧ finT rows a.acc P (Q.drop i) = R) (fun i => Q.length - i) 0 ⟨Nat.zero_le _, hR⟩ (by refine SealW.reach [1, 2] [] rfl rfl rfl rfl ?_ ?_ <;> (repeat' (first | exact LocLe.refl _ | exact F2.nil | apply F2.cons | apply ObjLe.box | exact True.intro | apply And.intro))) ?_
  rintro i ⟨hi1, hi2⟩
  by_cases hi3 : i < Q.length
  · have hq := hQ _ (List.getElem_mem hi3)
    have c5 := k5 i hi3
    rw [List.drop_eq_getElem_cons hi3, finT] at hi2
    have hgi : (Q.map enI)[i]? = some (enI Q[i]) := by rw [List.getElem?_map, List.getElem?_eq_getElem hi3]; rfl
    generalize Q[i] = u at *
    have hm0 : 0 ≤ u % (a.acc.length : Int) := Int.emod_nonneg _ (by omega)
    have hm1 : u % (a.acc.length : Int) < a.acc.length := Int.emod_lt_of_pos _ (by omega)
    have hga : (a.acc.map enB)[(u % (a.acc.length : Int)).toNat]? = some (enB (a.acc.getD (u % (a.acc.length : Int)).toNat false)) := by
      rw [List.getElem?_map, List.getElem?_eq_getElem (by omega), z30 (by omega)]; rfl
    have c4 := k4 u hq
    have l4 := cycL_len rows u
    have b1 := bkw_len P rows.length u []
    simp only [List.length_nil, Nat.add_zero] at b1
    have b2 := bkw_pos P rows.length u []
    have b3 := bkw_nn (P := P) rows.length u [] hq.1 (fun x hx => by cases hx)
    have b4 := bkw_le hPle rows.length u [] (by omega) (by omega) (fun x hx => by cases hx)
    have n5 := n4 u hq
    have m5 := m4 u hq
    generalize bkw P rows.length u [] = b at *
    generalize cycL rows u = c at *
    have c6 := l8States_ok (b.take (b.length - 1)) a.acc.length (by rw [List.length_take]; omega) (by omega) (fun x hx => b3 x (List.mem_of_mem_take hx)) (fun x hx => by have := b4 x (List.mem_of_mem_take hx); omega)
    rw [show (b.take (b.length - 1)).length = b.length - 1 by rw [List.length_take]; omega] at c6
    have eL : AC.list 1 (((b.length : Int) - 1).toNat - Int.toNat 0) (List.take (((b.length : Int) - 1).toNat - Int.toNat 0) (List.drop (Int.toNat 0) (List.map enI b))) = ints (b.take (b.length - 1)) := by
      rw [show ((b.length : Int) - 1).toNat - Int.toNat 0 = b.length - 1 by rw [show Int.toNat 0 = 0 from rfl]; omega]
      show _ = AC.list 1 (b.take (b.length - 1)).length ((b.take (b.length - 1)).map enI)
      rw [show (b.take (b.length - 1)).length = b.length - 1 by rw [List.length_take]; omega, List.map_take]; rfl
    rw [← eL] at c6
    have hs1 : (stL (b.take (b.length - 1)) a.acc.length).length = b.length - 1 := by rw [stL, List.length_map, List.length_take]; omega
    have hs2 : (stL c a.acc.length).length = c.length := by rw [stL, List.length_map]
    have c7 := l8States_ok c a.acc.length (by omega) (by omega) n5 (fun x hx => by have := m5 x hx; omega)
    generalize a.acc.getD (u % (a.acc.length : Int)).toNat false = z at *
    cases z
    · rw [if_neg (by simp)] at hi2
      repeat' ((first | (apply AWP.go ok; rfl) | (apply z3; kernel_rfl) | (refine z26 (i := i) (by simp) hgi ?_) | (refine z26 (i := (u % (a.acc.length : Int)).toNat) (by simp) hga ?_) | (apply And.intro; first | omega | (unfold inI; omega)) | ((apply z2) <;> intro _)) <;> conv => whnf)
      all_goals first | (exfalso; omega) | skip
      all_goals refine z72 (i + 1) ⟨hi3, hi2⟩ (by omega) (by refine SealW.reach [0, 1] [] rfl rfl rfl rfl ?_ ?_ <;> (repeat' (first | exact LocLe.refl _ | exact F2.nil | apply F2.cons | apply ObjLe.box | exact True.intro | apply And.intro)))
    · rw [if_pos rfl] at hi2
      by_cases hc : 0 < c.length
      · rw [if_pos hc] at hi2
        subst hi2
        repeat' ((first | (apply AWP.go ok; rfl) | (apply z3; kernel_rfl) | (refine z26 (i := i) (by simp) hgi ?_) | (refine z26 (i := (u % (a.acc.length : Int)).toNat) (by simp) hga ?_) | (apply And.intro; first | omega | (unfold inI; omega)) | ((apply z2) <;> intro _) | (apply z4 (c4); rfl; rfl) | (apply z4 (c5); rfl; rfl) | ((first | (apply z19 [] [] [2] (c6); rfl; (focus ((repeat' exact z10) <;> fail))) | (apply z19 [] [] [3] (c7); rfl; (focus ((repeat' exact z10) <;> fail)))); rfl; rfl; rfl; rfl; rfl; (focus ((repeat' first | exact z29 | apply z25) <;> (refine z40 ?_; ((exact z0 fun _ => rfl))))); (exact .inl rfl))) <;> conv => whnf)
        all_goals first | (exfalso; omega) | skip
        all_goals (refine RetS.lay [] [2, 3] rfl rfl rfl ?_; refine RetS.done ?_ ?_ <;> (repeat' (first | exact LocLe.refl _ | exact F2.nil | apply F2.cons | (refine lst_le ?_; omega) | ((apply seal_leU rfl rfl rfl); (focus ((repeat ((exact unown_map (fun _ => rfl) _))); done)); (focus (((simp; omega)); done))) | apply agg_le | apply tup_le)))
      · rw [if_neg hc] at hi2
        repeat' ((first | (apply AWP.go ok; rfl) | (apply z3; kernel_rfl) | (refine z26 (i := i) (by simp) hgi ?_) | (refine z26 (i := (u % (a.acc.length : Int)).toNat) (by simp) hga ?_) | (apply And.intro; first | omega | (unfold inI; omega)) | ((apply z2) <;> intro _) | (apply z4 (c4); rfl; rfl) | (apply z4 (c5); rfl; rfl)) <;> conv => whnf)
        all_goals first | (exfalso; omega) | skip
        all_goals refine z72 (i + 1) ⟨hi3, hi2⟩ (by omega) (by refine SealW.reach [0, 1] [] rfl rfl rfl rfl ?_ ?_ <;> (repeat' (first | exact LocLe.refl _ | exact F2.nil | apply F2.cons | apply ObjLe.box | exact True.intro | apply And.intro)))
  · have e : Q.length = i := by omega
    subst e
    rw [List.drop_length, finT] at hi2
    subst hi2
    repeat' ((first | (apply AWP.go ok; rfl) | (apply z3; kernel_rfl) | (apply And.intro; omega) | ((first | (with_reducible apply z5; omega) | (with_reducible apply z31; omega)); intro _) | ((first | apply z2 | apply z34) <;> intro _)) <;> conv => whnf)
    all_goals first | (exfalso; omega) | skip
    all_goals (refine RetS.lay [] [] rfl rfl rfl ?_; refine RetS.done ?_ ?_ <;> (repeat' (first | exact LocLe.refl _ | exact nils_list | exact F2.nil | apply F2.cons | apply agg_le | apply tup_le)))
end Go.Proofs.YtknlmbniicacmaaGreat

namespace Go.Proofs.YtknlmbniicacmaaGreat
open Go.Gl
attribute [local irreducible] z15 AWP z44 z49 z46 RetS z60

end Go.Proofs.YtknlmbniicacmaaGreat

namespace Go.Proofs.YtknlmbniicacmaaGreat
open Go.Gl
attribute [local irreducible] z15

end Go.Proofs.YtknlmbniicacmaaGreat

namespace Go.Proofs.YtknlmbniicacmaaGreat
open Go.Gl
attribute [local irreducible] z15 AWP z44 z49 z46

theorem wf_inI {n : Int} (h : (Lit.int .i64 n).wf = true) : inI n := by
  have h1 : IntKind.min .i64 = -9223372036854775808 := by decide
  have h2 : IntKind.max .i64 = 9223372036854775807 := by decide
  simpa [Lit.wf, inI, h1, h2] using h

theorem tree_ok {P : Program} {tE tS tI : TypeId} {n1 n2 n3 : Field} (ht : P.underlying tE = some (.struct #[n1, n2, n3])) (e1 : n1.type = tI) (e2 : n2.type = tI) (e3 : n3.type = tS) (hI : P.underlying tI = some (.int .i64)) (hS : P.underlying tS = some (.slice tE))
    (cI : P.cellsOf tI = 1) (cS : P.cellsOf tS = 1) (cE : P.cellsOf tE = 3) (o1 : n1.offset = 0) (o2 : n2.offset = 1) (o3 : n3.offset = 2) : OpensD P tE Tree.cs' Tree.mx := by
  intro k
  induction k using Nat.strongRecOn with
  | _ k ih =>
    match k with
    | 0 => exact opens_zero
    | k + 1 =>
      refine (od_struct3 (e1 := fun n : Int => [.int n]) (ok1 := fun n => (Lit.int .i64 n).wf = true) (e2 := fun n : Int => [.int n]) (ok2 := fun n => (Lit.int .i64 n).wf = true) (e3 := fun l : List Tree => [lst 3 Tree.cs' l]) (ok3 := fun l => l.length ≤ maxLen ∧ ∀ a ∈ l, a.mx) (enc := Tree.cs') Tree.mk ht o1 (by rw [o2, e1, cI]) (by rw [o3, e1, e2, cI]) (by rw [e1, e2, e3, cI, cS, cE]) ?_ ?_ ?_ ?_).imp ?_
      · rw [e1]; exact od_int hI (fun _ => rfl) k
      · rw [e2]; exact od_int hI (fun _ => rfl) k
      · rw [e3]
        match k with
        | 0 => exact opens_zero
        | k + 1 => exact opens_list hS cE (by decide) (ih k (by omega))
      · intro a b c
        show [AC.int a, AC.int b, AC.list 3 c.length (c.map Tree.cs)] = _
        rw [Tree.lst_eq]; rfl
      · rintro xs ⟨x, rfl, a, b, c, rfl, _, _, h⟩
        exact ⟨_, rfl, (Tree.mx_iff _).2 h⟩

theorem od_intS : OpensD Tryz.prog 28 encL (fun l => l.length ≤ maxLen ∧ ∀ n ∈ l, (Lit.int .i64 n).wf = true) := od_list 1 Tryz.underlying28 (by kernel_rfl) (by decide) (od_int (enc := enI) Tryz.underlying3 (fun _ => rfl)) (fun _ => rfl)
theorem od_intSS : OpensD Tryz.prog 24 (fun l => [lst 1 encL l]) (fun l => l.length ≤ maxLen ∧ ∀ r ∈ l, r.length ≤ maxLen) := (od_list 1 (encL := fun l => [lst 1 encL l]) Tryz.underlying24 (by kernel_rfl) (by decide) od_intS (fun _ => rfl)).imp fun l h => ⟨l, rfl, h.1, fun r hr => (h.2 r hr).1⟩
theorem od_state : OpensD Tryz.prog 210 State.cs State.mx :=
  (od_struct2 (enc := State.cs) State.mk Tryz.underlying210 rfl (by kernel_rfl) (by kernel_rfl) od_intS od_intS (fun _ _ => rfl)).imp fun s ⟨a, b, e, h1, h2⟩ => ⟨s, rfl, by subst e; exact ⟨h1.1, h2.1⟩⟩
theorem od_stateS : OpensD Tryz.prog 65 (fun l => [lst 2 State.cs l]) State.mxs := (od_list 2 (encL := fun l => [lst 2 State.cs l]) Tryz.underlying65 (by kernel_rfl) (by decide) od_state (fun _ => rfl)).imp fun l h => ⟨l, rfl, h⟩
theorem od_graph : OpensD Tryz.prog 67 Graph.cs Graph.mx :=
  (od_struct2 (enc := Graph.cs) Graph.mk Tryz.underlying67 rfl (by kernel_rfl) (by kernel_rfl) od_stateS od_intSS (fun _ _ => rfl)).imp fun s ⟨a, b, e, h1, h2⟩ => ⟨s, rfl, by subst e; exact ⟨h1, h2.1, h2.2⟩⟩
theorem od_expr : OpensD Tryz.prog 153 Tree.cs' Tree.mx :=
  tree_ok (tI := 3) (tS := 68) Tryz.underlying153 rfl rfl rfl Tryz.underlying3 Tryz.underlying68 (by kernel_rfl) (by kernel_rfl) (by kernel_rfl) rfl rfl rfl
theorem ad_graph : ArgD Tryz.prog 67 (fun g : Graph => .agg g.cs) Graph.mx := argD_struct Tryz.underlying67 od_graph
theorem ad_exprS : ArgD Tryz.prog 68 (lst 3 Tree.cs') Lmx :=
  (argD_list (enc1 := lst 3 Tree.cs') Tryz.underlying68 (od_list 3 (encL := fun l => [lst 3 Tree.cs' l]) Tryz.underlying68 (by kernel_rfl) (by decide) od_expr (fun _ => rfl)) (fun _ => rfl)).imp fun l h => ⟨l, rfl, h⟩
section
open Go.ChangeShapes Go.WideShapes Go.ChangeAt Go.RowKit
theorem and_mk {a b : Bool} (h : a = true) (k : b = true) : (a && b) = true := by rw [h, k]; rfl
theorem own : ownKnob Tryz.prog.godebug = none := by kernel_rfl
theorem laidOut_ok : laidOutB Tryz.prog = true := by kernel_rfl
end
end Go.Proofs.YtknlmbniicacmaaGreat

namespace Go.Proofs.YtknlmbniicacmaaGreat
open Go.Gl
attribute [local irreducible] z15 AWP z44 z49 z46

end Go.Proofs.YtknlmbniicacmaaGreat

namespace Go.Proofs.YtknlmbniicacmaaGreat
open Go.Gl
attribute [local irreducible] z15 AWP z44 z49 z46 RetS z60

end Go.Proofs.YtknlmbniicacmaaGreat

namespace Go.Proofs.YtknlmbniicacmaaGreat
open Go.Gl
attribute [local irreducible] z15 AWP z44 z49 z46 RetS z60

theorem findTrace1_ok (a : Aut) (hA : AutP a) (x : Int) (h0 : 0 ≤ x) : CallsA Tryz.prog 126 [.int x, .pt a.cs, .pt [.int a.acc.length]] [] (.bool (a.acc.getD (x % a.acc.length).toNat false)) [] := by
  have hac := hA.1
  have hm0 : 0 ≤ x % (a.acc.length : Int) := Int.emod_nonneg _ (by omega)
  have hm1 : x % (a.acc.length : Int) < a.acc.length := Int.emod_lt_of_pos _ (by omega)
  have hga : (a.acc.map enB)[(x % (a.acc.length : Int)).toNat]? = some (enB (a.acc.getD (x % (a.acc.length : Int)).toNat false)) := by
    rw [List.getElem?_map, List.getElem?_eq_getElem (by omega), z30 (by omega)]; rfl
  refine z52 z28 Tryz.func126 rfl rfl 12 Tryz.ntmps126 (by simp) ?_
  repeat' ((first | (apply AWP.go ok; rfl) | (apply z3; kernel_rfl) | (refine z26 (i := (x % (a.acc.length : Int)).toNat) rfl hga ?_) | (apply And.intro; omega)) <;> conv => whnf)
  all_goals skip
  all_goals (refine RetS.lay [] [] rfl rfl rfl ?_; refine RetS.done ?_ ?_ <;> (repeat' (first | exact LocLe.refl _ | exact F2.nil)))
set_option maxHeartbeats 1600000 in
theorem findTrace2_new (l : List Int) (n : Nat) (hl : l.length ≤ 1000000) (hn : 1 ≤ n) (h0 : ∀ x ∈ l, 0 ≤ x) (h1 : ∀ x ∈ l, x ≤ 1000000000) : CallsA Tryz.prog 127 [ints l, .pt [.int n]] [] (.sref 0 0 l.length) [.cells 1 ((stL l n).map enI)] := by
  refine z52 z28 Tryz.func127 rfl rfl 25 Tryz.ntmps127 (by simp) ?_
  repeat' ((first | (apply AWP.go ok; rfl) | (apply And.intro; (dsimp only; omega))) <;> conv => whnf)
  all_goals skip
  obtain ⟨qm, hqm⟩ : ∃ qm : Nat → Nat → Int, qm = fun i j => if j < i then l.getD j 0 / n else 0 := ⟨_, rfl⟩
  have q0 : qm 0 = fun _ => 0 := by rw [hqm]; rfl
  have qE : fnL l.length (qm l.length) = stL l n := by
    apply List.ext_getElem (by simp [fnL, stL])
    intro i h1 h2
    have hi' : i < l.length := by rw [z100] at h1; exact h1
    rw [fnL_get, hqm]
    dsimp only
    rw [if_pos hi', z30 hi']; simp [stL]
  have qS : ∀ i (h : i < l.length), qm (i + 1) = upd (qm i) i (l[i] / n) := fun i h => by
    funext j
    by_cases h2 : j = i
    · subst h2; rw [z20, hqm]; dsimp only; rw [if_pos (by omega), z30 h]
    · rw [z50 _ _ h2, hqm]; dsimp only; split <;> split <;> first | rfl | omega
  clear hqm
  refine z114 (fun i : Nat => ([(1, .pt [.int n]), (4, .sref 0 0 l.length), (10, ints l), (11, .int l.length), (12, .int i)], [.cells 1 ((fnL l.length (qm i)).map enI)])) (fun i => i ≤ l.length) (fun i => l.length - i) 0 (Nat.zero_le _) (by refine SealW.reach [0] [] rfl rfl rfl rfl ?_ ?_ <;> (repeat' (first | exact LocLe.refl _ | exact F2.nil | apply F2.cons | ((refine z27 rfl ?_ ?_); (focus ((repeat' (exact z1 rfl)); done))) | exact True.intro | apply And.intro)) <;> ((refine z51 ?_; rw [q0]; exact fnL_zero _))) ?_
  intro i hi
  by_cases hi2 : i < l.length
  · have g1 := fnL_at (qm i) hi2
    have l1 := z100 l.length (qm i)
    have e1 := z125 (N := l.length) (u := i) (qm i) (l[i] / n)
    rw [← qS i hi2] at e1
    have gk : (l.map enI)[i]? = some (enI l[i]) := by rw [List.getElem?_map, List.getElem?_eq_getElem hi2]; rfl
    have b0 := h0 _ (List.getElem_mem hi2)
    have b1 := h1 _ (List.getElem_mem hi2)
    generalize l[i] = v at *
    have d0 : 0 ≤ v / (n : Int) := Int.ediv_nonneg b0 (by omega)
    have d1 : v / (n : Int) ≤ v := Int.ediv_le_self _ b0
    repeat' ((first | (apply AWP.go ok; rfl) | (refine z26 (i := i) rfl gk ?_) | (refine z26 (i := i) rfl g1 ?_) | (apply And.intro; first | omega | (unfold inI; omega)) | ((apply z2) <;> intro _)) <;> conv => whnf)
    all_goals first | (exfalso; omega) | skip
    all_goals refine z72 (i + 1) hi2 (by omega) (by refine SealW.reach [0] [] rfl rfl rfl rfl ?_ ?_ <;> (repeat' (first | exact LocLe.refl _ | exact F2.nil | apply F2.cons | ((refine z78 rfl ?_ ?_); (focus ((repeat' ((exact z0 (fun _ => rfl)))); done))) | exact True.intro | apply And.intro)) <;> ((refine z51 ?_; exact e1)))
  obtain rfl : i = l.length := by omega
  rw [qE]
  repeat' ((first | (apply AWP.go ok; rfl) | (apply And.intro; omega) | ((first | (with_reducible apply z5; omega) | (apply z5; omega)); intro _) | ((apply z2) <;> intro _)) <;> conv => whnf)
  all_goals first | (exfalso; omega) | skip
  all_goals (refine RetS.lay [0] [] rfl rfl rfl ?_; refine RetS.done ?_ ?_ <;> (repeat' (first | exact LocLe.refl _ | exact F2.nil | apply F2.cons | exact z18 _ | ((refine z27 rfl ?_ ?_); (focus ((repeat' ((exact z0 (fun _ => rfl)))); done))))))

/-- the trace that is found, or none -/
noncomputable def ftO (g : Graph) (l : List Tree) (a : Aut) : Option (List Int × List Int) := if (glB g l && autB a) = true then trcO g (g.st.map (z63 l)) a else none
noncomputable def ftL (g : Graph) (l : List Tree) (a : Aut) : Trace := let t := (ftO g l a).getD ([], []); ⟨t.1, t.2⟩
set_option maxHeartbeats 6400000 in
theorem implFindTrace_new (g : Graph) (hg : g.mx) (l : List Tree) (hl : Lmx l) (a : Aut) (ha : a.mx) : CallsA Tryz.prog 40 [.agg g.cs, lst 3 Tree.cs' l, .agg a.cs] [] (.tup [.agg [.sref 0 0 (ftL g l a).stem.length, .sref 1 0 (ftL g l a).loop.length], .bool (ftO g l a).isSome]) [.cells 1 ((ftL g l a).stem.map enI), .cells 1 ((ftL g l a).loop.map enI)] := by
  have k0 := checked_ok g hg l hl a ha
  by_cases hgl : (glB g l && autB a) = true
  · rw [hgl] at k0
    obtain ⟨h1, hab⟩ := Bool.and_eq_true_iff.1 hgl
    have hG := (graphB_iff g).1 (by unfold glB at h1; exact (Bool.and_eq_true_iff.1 h1).1)
    have hL := LabelsOk.of (by unfold glB at h1; exact (Bool.and_eq_true_iff.1 h1).2)
    have hA := autB_iff.1 hab
    have k1 := product_ok g hG l hL a hA
    obtain ⟨f1, f2, f3, f4, f5⟩ := prod_facts hG hA (g.st.map (z63 l))
    have hnd := hA.2.2.1.nd
    have hac := hA.1
    have k2 := lasso_new (z64 g (g.st.map (z63 l)) a) a.ini f1 f2 hnd (by omega) f4 (fun v => a.acc.getD (v % a.acc.length).toNat false) 126 a.cs [.int a.acc.length] (fun x h0 _ => findTrace1_ok a hA x h0)
    unfold ftL ftO
    rw [if_pos hgl]
    unfold lasR at k2
    unfold trcO
    rw [lasL_fin f1 f2 hnd] at k2
    have hlen : (z64 g (g.st.map (z63 l)) a).length = g.st.length * a.acc.length := by unfold z64; rw [z92, Nat.mul_comm]
    have hF : ∀ p q, finS (z64 g (g.st.map (z63 l)) a) a.ini a.acc = some (p, q) → (∀ x ∈ p, 0 ≤ x ∧ x ≤ 100000) ∧ (∀ x ∈ q, 0 ≤ x ∧ x ≤ 100000) ∧ p.length ≤ 100000 ∧ q.length ≤ 100000 := by
      intro p q h
      rw [← lasL_fin f1 f2 hnd] at h
      obtain ⟨b1, b2, b3, b4, _⟩ := lasL_bd f1 f2 hnd h
      exact ⟨fun x hx => by have := b1 x hx; omega, fun x hx => by have := b2 x hx; omega, by omega, by omega⟩
    generalize z64 g (g.st.map (z63 l)) a = rows at *
    cases hfin : finS rows a.ini a.acc with
    | none =>
      rw [hfin] at k2
      change CallsA _ _ _ _ (.tup [.sref 0 0 0, .sref 1 0 0, .bool false]) [.cells 1 [], .cells 1 []] at k2
      show CallsA _ _ _ _ (.tup [.agg [.sref 0 0 0, .sref 1 0 0], .bool false]) [.cells 1 [], .cells 1 []]
      refine z52 z28 Tryz.func40 rfl rfl 50 Tryz.ntmps40 (by simp) ?_
      repeat' ((first | (apply AWP.go ok; rfl) | (apply z4 (k0); rfl; rfl) | (apply z4 (k1); rfl; rfl) | (((apply z19 [] [1, 3] [4, 5] (k2); (focus ((repeat' first | exact z89 | apply z68) <;> rfl)); (focus ((repeat' exact z10) <;> fail)))); rfl; rfl; rfl; rfl; rfl; (focus ((repeat' first | exact z29 | apply z25) <;> (refine z40 ?_; (exact z14)))); ((refine .inr ⟨rfl, ?_⟩; repeat' first | exact True.intro | apply And.intro | exact rfl)))) <;> conv => whnf)
      all_goals skip
      all_goals (refine RetS.empty 1 ?_; refine RetS.empty 1 ?_; refine RetS.lay [6, 7] [] rfl rfl rfl ?_; refine RetS.done ?_ ?_ <;> (repeat' (first | exact LocLe.refl _ | exact z123 | exact F2.nil | apply F2.cons | ((refine z27 rfl ?_ ?_); (focus ((repeat' (exact z14)); done))) | apply agg_le | apply tup_le)))
    | some pq =>
      obtain ⟨p, q⟩ := pq
      rw [hfin] at k2
      obtain ⟨b1, b2, b3, b4⟩ := hF p q hfin
      change CallsA _ _ _ _ (.tup [.sref 0 0 (p.take (p.length - 1)).length, .sref 1 0 q.length, .bool true]) [.cells 1 ((p.take (p.length - 1)).map enI), .cells 1 (q.map enI)] at k2
      have s1 := findTrace2_new (p.take (p.length - 1)) a.acc.length (by rw [List.length_take]; omega) (by omega) (fun x hx => (b1 x (List.mem_of_mem_take hx)).1) (fun x hx => by have := (b1 x (List.mem_of_mem_take hx)).2; omega)
      have s2 := findTrace2_new q a.acc.length (by omega) (by omega) (fun x hx => (b2 x hx).1) (fun x hx => by have := (b2 x hx).2; omega)
      have e1 : (stL (p.take (p.length - 1)) a.acc.length).length = (p.take (p.length - 1)).length := by simp [stL]
      have e2 : (stL q a.acc.length).length = q.length := by simp [stL]
      show CallsA _ _ _ _ (.tup [.agg [.sref 0 0 (stL (p.take (p.length - 1)) a.acc.length).length, .sref 1 0 (stL q a.acc.length).length], .bool true]) [.cells 1 ((stL (p.take (p.length - 1)) a.acc.length).map enI), .cells 1 ((stL q a.acc.length).map enI)]
      rw [e1, e2]
      generalize stL (p.take (p.length - 1)) a.acc.length = S1 at *
      generalize stL q a.acc.length = S2 at *
      generalize p.take (p.length - 1) = p' at *
      refine z52 z28 Tryz.func40 rfl rfl 50 Tryz.ntmps40 (by simp) ?_
      repeat' ((first | (apply AWP.go ok; rfl) | (apply z4 (k0); rfl; rfl) | (apply z4 (k1); rfl; rfl) | ((first | (apply z19 [] [1, 3] [4, 5] (k2); (focus ((repeat' first | exact z89 | apply z68) <;> rfl)); (focus ((repeat' exact z10) <;> fail))) | (apply z19 [] [3, 4] [6] (s1); (focus ((repeat' first | exact z89 | apply z68) <;> first | exact bor_ints rfl rfl rfl | rfl)); (focus ((repeat' exact z10) <;> fail))) | (apply z19 [] [3, 5] [7] (s2); (focus ((repeat' first | exact z89 | apply z68) <;> first | exact bor_ints rfl rfl rfl | rfl)); (focus ((repeat' exact z10) <;> fail)))); rfl; rfl; rfl; rfl; rfl; (focus ((repeat' first | exact z29 | apply z25) <;> (refine z40 ?_; ((exact z0 fun _ => rfl))))); ((refine .inr ⟨rfl, ?_⟩; repeat' first | exact True.intro | apply And.intro | exact z42 (fun _ => rfl) _)))) <;> conv => whnf)
      all_goals skip
      all_goals (refine RetS.lay [6, 7] [] rfl rfl rfl ?_; refine RetS.done ?_ ?_ <;> (repeat' (first | exact LocLe.refl _ | exact F2.nil | apply F2.cons | exact z18 _ | ((refine z27 rfl ?_ ?_); (focus ((repeat' ((exact z0 (fun _ => rfl)))); done))))))
  · have hgl := (Bool.not_eq_true _).mp hgl
    rw [hgl] at k0
    have e1 : ftO g l a = none := by unfold ftO; rw [hgl]; rfl
    unfold ftL
    rw [e1]
    show CallsA _ _ _ _ (.tup [.agg [.sref 0 0 0, .sref 1 0 0], .bool false]) [.cells 1 [], .cells 1 []]
    refine z52 z28 Tryz.func40 rfl rfl 50 Tryz.ntmps40 (by simp) ?_
    repeat' ((first | (apply AWP.go ok; rfl) | (apply z4 (k0); rfl; rfl)) <;> conv => whnf)
    all_goals skip
    all_goals (refine RetS.empty 1 ?_; refine RetS.empty 1 ?_; refine RetS.lay [3, 4] [] rfl rfl rfl ?_; refine RetS.done ?_ ?_ <;> (repeat' (first | exact LocLe.refl _ | exact z123 | exact F2.nil | apply F2.cons | ((refine z27 rfl ?_ ?_); (focus ((repeat' (exact z14)); done))) | apply agg_le | apply tup_le)))
end Go.Proofs.YtknlmbniicacmaaGreat

namespace Go.Proofs.YtknlmbniicacmaaGreat
open Go.Gl
attribute [local irreducible] z15 AWP z44 z49 z46 RetS z60

theorem ftL_le {g : Graph} {l : List Tree} {a : Aut} : (ftL g l a).stem.length ≤ 3841 ∧ (ftL g l a).loop.length ≤ 3841 := by
  unfold ftL ftO
  by_cases h : (glB g l && autB a) = true
  · rw [if_pos h]
    obtain ⟨h1, hab⟩ := Bool.and_eq_true_iff.1 h
    have hG := (graphB_iff g).1 (by unfold glB at h1; exact (Bool.and_eq_true_iff.1 h1).1)
    have hA := autB_iff.1 hab
    obtain ⟨f1, f2, f3, f4, f5⟩ := prod_facts hG hA (g.st.map (z63 l))
    have hnd := hA.2.2.1.nd
    unfold trcO
    cases hf : finS (z64 g (g.st.map (z63 l)) a) a.ini a.acc with
    | none => simp
    | some pq =>
      obtain ⟨p, q⟩ := pq
      rw [← lasL_fin f1 f2 hnd] at hf
      obtain ⟨b1, b2, b3, b4, _⟩ := lasL_bd f1 f2 hnd hf
      simp only [Option.map_some, Option.getD_some, stL, List.length_map, List.length_take]
      omega
  · rw [if_neg h]; simp
set_option maxHeartbeats 3200000 in
theorem specFindTrace_ok (g : Graph) (hg : g.mx) (l : List Tree) (hl : Lmx l) (a : Aut) (ha : a.mx) : CallsA Tryz.prog 36 [.agg g.cs, lst 3 Tree.cs' l, .agg a.cs] [] (.tup [.agg (ftL g l a).cs, .bool (ftO g l a).isSome]) [] := by
  have k0 := specLabelGraph_ok g hg l hl
  have k1 := specAutomatonValid_ok a ha
  by_cases hgl : (glB g l && autB a) = true
  · obtain ⟨h1, hab⟩ := Bool.and_eq_true_iff.1 hgl
    have hG := (graphB_iff g).1 (by unfold glB at h1; exact (Bool.and_eq_true_iff.1 h1).1)
    have hL := LabelsOk.of (by unfold glB at h1; exact (Bool.and_eq_true_iff.1 h1).2)
    have hA := autB_iff.1 hab
    have k3 := l8Find_ok g hG (g.st.map (z63 l)) (by simp) (fun x hx => by
      obtain ⟨s, _, rfl⟩ := List.mem_map.1 hx
      exact letter_range hL s) a hA
    rw [if_pos h1, h1] at k0
    rw [hab] at k1
    have e1 : ftO g l a = trcO g (g.st.map (z63 l)) a := by unfold ftO; rw [if_pos hgl]
    have e2 : ftL g l a = ⟨(trcL g (g.st.map (z63 l)) a).1, (trcL g (g.st.map (z63 l)) a).2⟩ := by unfold ftL trcL; rw [e1]
    rw [e1, e2]
    generalize g.st.map (z63 l) = ls at *
    generalize (trcO g ls a).isSome = tb at *
    generalize trcL g ls a = tl at *
    refine z52 z28 Tryz.func36 rfl rfl 30 Tryz.ntmps36 (by simp) ?_
    repeat' ((first | (apply AWP.go ok; rfl) | (apply z4 (k0); rfl; rfl) | (apply z4 (k1); rfl; rfl) | (apply z4 (k3); rfl; rfl)) <;> conv => whnf)
    all_goals skip
    all_goals (refine RetS.lay [] [] rfl rfl rfl ?_; refine RetS.done ?_ ?_ <;> (repeat' (first | exact LocLe.refl _ | exact F2.nil)))
  · have e1 : ftO g l a = none := by unfold ftO; rw [(Bool.not_eq_true _).mp hgl]; rfl
    have e2 : ftL g l a = ⟨[], []⟩ := by unfold ftL; rw [e1]; rfl
    rw [e1, e2]
    show CallsA _ _ _ _ (.tup [.agg [.list 1 0 [], .list 1 0 []], .bool false]) _
    generalize (if glB g l = true then g.st.map (z63 l) else []) = ls at *
    refine z52 z28 Tryz.func36 rfl rfl 30 Tryz.ntmps36 (by simp) ?_
    cases hb1 : glB g l
    · rw [hb1] at k0
      repeat' ((first | (apply AWP.go ok; rfl) | (apply z4 (k0); rfl; rfl)) <;> conv => whnf)
      all_goals skip
      all_goals (refine RetS.lay [] [] rfl rfl rfl ?_; refine RetS.done ?_ ?_ <;> (repeat' (first | exact LocLe.refl _ | exact nils_list | exact F2.nil | apply F2.cons | apply agg_le | apply tup_le)))
    · rw [hb1] at k0 hgl
      have hb2 : autB a = false := by simpa using hgl
      rw [hb2] at k1
      repeat' ((first | (apply AWP.go ok; rfl) | (apply z4 (k0); rfl; rfl) | (apply z4 (k1); rfl; rfl)) <;> conv => whnf)
      all_goals skip
      all_goals (refine RetS.lay [] [] rfl rfl rfl ?_; refine RetS.done ?_ ?_ <;> (repeat' (first | exact LocLe.refl _ | exact nils_list | exact F2.nil | apply F2.cons | apply agg_le | apply tup_le)))
end Go.Proofs.YtknlmbniicacmaaGreat

namespace Go.Proofs.YtknlmbniicacmaaGreat
open Go.Gl
attribute [local irreducible] z15 AWP z44 z49 z46

def pick (bl : List Int) (p : Int) : Int := bl.getD p.toNat 0
end Go.Proofs.YtknlmbniicacmaaGreat

namespace Go.Proofs.YtknlmbniicacmaaGreat
open Go.Gl
attribute [local irreducible] z15 AWP z44 z49 z46

end Go.Proofs.YtknlmbniicacmaaGreat

namespace Go.Proofs.YtknlmbniicacmaaGreat
open Go.Gl
attribute [local irreducible] z15 AWP z44 z49 z46

end Go.Proofs.YtknlmbniicacmaaGreat

namespace Go.Proofs.YtknlmbniicacmaaGreat
open Go.Gl
section
attribute [local irreducible] z15
def Trace.a1 (t : Trace) : AC := ints t.stem
def Trace.a2 (t : Trace) : AC := ints t.loop
def Trace.s1 (t : Trace) : Nat := t.stem.length
def Trace.s2 (t : Trace) : Nat := t.loop.length
def Trace.mx (t : Trace) : Prop := t.stem.length ≤ maxLen ∧ t.loop.length ≤ maxLen
theorem eqTrace_of (s t : Trace) (c0 : CallsA Tryz.prog 128 [Trace.a1 s, Trace.a1 t] [] (.bool (decide (Trace.stem s = Trace.stem t))) []) (c1 : CallsA Tryz.prog 128 [Trace.a2 s, Trace.a2 t] [] (.bool (decide (Trace.loop s = Trace.loop t))) []) : CallsA Tryz.prog 41 [.agg (Trace.cs s), .agg (Trace.cs t)] [] (.bool (decide (s = t))) [] := by
  refine z7 z28 Tryz.func41 rfl rfl 17 Tryz.ntmps41 (by simp) ?_
  repeat (first | refine AWP.go ok _ _ _ _ _ rfl ?_ | refine z3 (by kernel_rfl) ?_ | refine And.intro (by first | omega | (unfold inI; omega) | (dsimp only; omega)) ?_)
  refine z4 c0 ?_ ?_ ?_
  · rfl
  · rfl
  repeat (first | refine AWP.go ok _ _ _ _ _ rfl ?_ | refine z3 (by kernel_rfl) ?_ | refine And.intro (by first | omega | (unfold inI; omega) | (dsimp only; omega)) ?_)
  refine z9 (fun h => ?_) (fun g0 => ?_)
  · repeat (first | refine AWP.go ok _ _ _ _ _ rfl ?_ | refine z3 (by kernel_rfl) ?_ | refine And.intro (by first | omega | (unfold inI; omega) | (dsimp only; omega)) ?_)
    have hne : s ≠ t := by rintro rfl; exact h rfl
    rw [decide_eq_false hne]
    exact ⟨[], by decide, rfl, rfl, ACle.of_eq rfl, trivial⟩
  repeat (first | refine AWP.go ok _ _ _ _ _ rfl ?_ | refine z3 (by kernel_rfl) ?_ | refine And.intro (by first | omega | (unfold inI; omega) | (dsimp only; omega)) ?_)
  refine z4 c1 ?_ ?_ ?_
  · rfl
  · rfl
  repeat (first | refine AWP.go ok _ _ _ _ _ rfl ?_ | refine z3 (by kernel_rfl) ?_ | refine And.intro (by first | omega | (unfold inI; omega) | (dsimp only; omega)) ?_)
  refine z9 (fun h => ?_) (fun g1 => ?_)
  · repeat (first | refine AWP.go ok _ _ _ _ _ rfl ?_ | refine z3 (by kernel_rfl) ?_ | refine And.intro (by first | omega | (unfold inI; omega) | (dsimp only; omega)) ?_)
    have hne : s ≠ t := by rintro rfl; exact h rfl
    rw [decide_eq_false hne]
    exact ⟨[], by decide, rfl, rfl, ACle.of_eq rfl, trivial⟩
  repeat (first | refine AWP.go ok _ _ _ _ _ rfl ?_ | refine z3 (by kernel_rfl) ?_ | refine And.intro (by first | omega | (unfold inI; omega) | (dsimp only; omega)) ?_)
  have he : s = t := by cases s; cases t; simp_all
  rw [decide_eq_true he]
  exact ⟨[], by decide, rfl, rfl, ACle.of_eq rfl, trivial⟩
end
section
attribute [local irreducible] z15 AWP z44 z49 z46

structure Trace.ok (t : Trace) : Prop where
  mx : t.mx
  l1 : t.stem.length ≤ 1048576
  l2 : t.loop.length ≤ 1048576
theorem Trace.ok_of {t : Trace} (h : t.mx) (h1 : t.s1 ≤ 1048576) (h2 : t.s2 ≤ 1048576) : t.ok := ⟨h, h1, h2⟩
theorem eqTraceT {t : Trace} (h : t.ok) : CallsA Tryz.prog 41 [.agg t.cs, .agg t.cs] [] (.bool true) [] := by
  have := eqTrace_of t t (eqIntS_ok t.stem t.stem h.mx.1 h.mx.1) (eqIntS_ok t.loop t.loop h.mx.2 h.mx.2)
  rwa [decide_eq_true rfl] at this
theorem markTrace_two {t : Trace} (h : t.ok) (k : Int) (h0 : 0 ≤ k) (h1 : k ≤ 1000000000) : CallsA Tryz.prog 48 [.agg [.sref 0 0 t.stem.length, .sref 1 0 t.loop.length], .int k] [.cells 1 (t.stem.map enI), .cells 1 (t.loop.map enI)] (.int (k + (t.stem.length + t.loop.length : Nat))) [.cells 1 ((marks k t.stem.length).map enI), .cells 1 ((marks (k + t.stem.length) t.loop.length).map enI)] := by
  have l1 := h.l1
  have m1 := markIntS_ok t.stem k h.l1 h0 (by omega)
  have m2 := markIntS_ok t.loop (k + t.stem.length) h.l2 (by omega) (by omega)
  rw [show k + (t.stem.length : Int) + (t.loop.length : Int) = k + (t.stem.length + t.loop.length : Nat) by omega] at m2
  refine z7 z28 Tryz.func48 rfl rfl 14 Tryz.ntmps48 (by simp) ?_
  repeat' (first | (apply AWP.go ok; rfl; conv => whnf) | (apply z3; kernel_rfl; conv => whnf) | (apply And.intro; (first | omega | (unfold inI; omega) | (dsimp only; omega) | (unfold z17; omega) | ((try dsimp only); simp only [List.length_map, List.length_take, List.length_append, List.length_replicate, List.length_cons, List.length_nil]; omega) | (simp only [z37] at *; first | omega | (unfold inI; omega) | (unfold z17; omega)) | exact z6 (fun _ => rfl) | exact ⟨rfl, z11 rfl z16⟩ | exact ⟨rfl, z6 (fun _ => rfl) _⟩ | exact ⟨⟨rfl, by omega⟩, z6 (fun _ => rfl) _⟩); conv => whnf) | (with_reducible apply z5; omega; intro _; conv => whnf) | (with_reducible apply z31; omega; intro _; conv => whnf) | (apply z5; omega; intro _; conv => whnf) | (apply z35; omega; conv => whnf) | (apply z41; conv => whnf) | (apply z45; omega; intro _; conv => whnf) | (apply z48 <;> intro _ <;> conv => whnf) | (apply z36 <;> intro _ <;> conv => whnf) | (apply z47 <;> intro _ <;> conv => whnf) | (apply z61 <;> intro _ <;> conv => whnf) | (apply z2 <;> intro _ <;> conv => whnf) | (apply z9 <;> intro _ <;> conv => whnf) | (apply z23 <;> intro _ <;> conv => whnf) | (apply z34 <;> intro _ <;> conv => whnf) | (apply z19 [0] [] [] (m1); rfl; (focus ((repeat' (first | exact z10 | apply z21)) <;> (first | rfl | (refine z43 rfl ?_; (first | exact z14 | exact z1 rfl | exact z0 (fun _ => rfl) | exact z0 Tree.co_flat | (apply z8 <;> (first | exact z1 rfl | exact z0 (fun _ => rfl))) | assumption))))); rfl; rfl; rfl; rfl; rfl; (focus ((repeat' (first | exact z29 | apply z25)) <;> (first | exact z77 | exact z70 rfl rfl | (refine z40 ?_; (first | exact z14 | exact z1 rfl | exact z0 (fun _ => rfl) | exact z0 Tree.co_flat | (apply z8 <;> (first | exact z1 rfl | exact z0 (fun _ => rfl))) | assumption))))); (first | exact .inl rfl | (refine .inr ⟨rfl, ?_⟩; repeat' (first | exact True.intro | apply And.intro | exact rfl | exact z42 (fun _ => rfl) _))); conv => whnf) | (apply z19 [1] [] [] (m2); rfl; (focus ((repeat' (first | exact z10 | apply z21)) <;> (first | rfl | (refine z43 rfl ?_; (first | exact z14 | exact z1 rfl | exact z0 (fun _ => rfl) | exact z0 Tree.co_flat | (apply z8 <;> (first | exact z1 rfl | exact z0 (fun _ => rfl))) | assumption))))); rfl; rfl; rfl; rfl; rfl; (focus ((repeat' (first | exact z29 | apply z25)) <;> (first | exact z77 | exact z70 rfl rfl | (refine z40 ?_; (first | exact z14 | exact z1 rfl | exact z0 (fun _ => rfl) | exact z0 Tree.co_flat | (apply z8 <;> (first | exact z1 rfl | exact z0 (fun _ => rfl))) | assumption))))); (first | exact .inl rfl | (refine .inr ⟨rfl, ?_⟩; repeat' (first | exact True.intro | apply And.intro | exact rfl | exact z42 (fun _ => rfl) _))); conv => whnf))
  exact z81 [0, 1] (by decide) rfl rfl rfl ⟨z12 rfl (z0 fun _ => rfl), z12 rfl (z0 fun _ => rfl), trivial⟩
def Trace.ml (t : Trace) : Nat := t.stem.length + t.loop.length
theorem Trace.ml_le {t : Trace} (h : t.ok) : t.ml ≤ 4194304 := by
  have := h.l1; have := h.l2
  unfold Trace.ml; omega
theorem bor_two {objs : Nat → AObj} {π Bn : List Nat} {o1 o2 : Nat} {l1 l2 : List Int} (h1 : objs o1 = .cells 1 (l1.map enI)) (h2 : objs o2 = .cells 1 (l2.map enI)) (i1 : idx π o1 = none) (b1 : inB Bn o1 = true) (i2 : idx π o2 = none) (b2 : inB Bn o2 = true) : bor objs π Bn (.agg [.sref o1 0 l1.length, .sref o2 0 l2.length]) = .agg (Trace.mk l1 l2).cs :=
  bor_agg (z68 (bor_ints h1 i1 b1) (z68 (bor_ints h2 i2 b2) z89))
theorem bor_twoM {objs : Nat → AObj} {π Bn : List Nat} {o1 o2 n1 n2 : Nat} {l1 l2 : List Int} (h1 : objs o1 = .cells 1 (l1.map enI)) (h2 : objs o2 = .cells 1 (l2.map enI)) (i1 : idx π o1 = none) (b1 : inB Bn o1 = true) (i2 : idx π o2 = none) (b2 : inB Bn o2 = true) (e1 : l1.length = n1) (e2 : l2.length = n2) : bor objs π Bn (.agg [.sref o1 0 n1, .sref o2 0 n2]) = .agg (Trace.mk l1 l2).cs := by
  subst e1 e2; exact bor_two h1 h2 i1 b1 i2 b2
end
end Go.Proofs.YtknlmbniicacmaaGreat

namespace Go.Proofs.YtknlmbniicacmaaGreat
open Go.Gl
attribute [local irreducible] z15 AWP z44 z49 z46

theorem od_trans : OpensD Tryz.prog 216 Trans.cs Trans.mx :=
  (OpensD.of_succ fun k => (od_struct4 (enc := Trans.cs) Trans.mk Tryz.underlying216 rfl (by kernel_rfl) (by kernel_rfl) (by kernel_rfl) (by kernel_rfl) (od_int (enc := enI) Tryz.underlying3 (fun _ => rfl) k) (od_int (enc := enI) Tryz.underlying3 (fun _ => rfl) k) (od_int (enc := enI) Tryz.underlying3 (fun _ => rfl) k) (od_int (enc := enI) Tryz.underlying3 (fun _ => rfl) k) (fun _ _ _ _ => rfl)).imp fun xs ⟨s, e1, a, b, c, d, e, h1, h2, h3, h4⟩ => ⟨s, e1, by subst e; exact wf_inI h3⟩)
theorem od_boolS : OpensD Tryz.prog 29 (fun l => [lst 1 enB l]) (fun l => l.length ≤ maxLen) := (od_list 1 (encL := fun l => [lst 1 enB l]) Tryz.underlying29 (by kernel_rfl) (by decide) (od_bool (enc := enB) Tryz.underlying4 (fun _ => rfl)) (fun _ => rfl)).imp fun l h => ⟨l, rfl, h.1⟩
theorem od_transS : OpensD Tryz.prog 69 (fun l => [lst 4 Trans.cs l]) (fun l => l.length ≤ maxLen ∧ ∀ t ∈ l, t.mx) := od_list 4 Tryz.underlying69 (by kernel_rfl) (by decide) od_trans (fun _ => rfl)
theorem ad_aut : ArgD Tryz.prog 71 (fun a : Aut => .agg a.cs) Aut.mx :=
  argD_struct Tryz.underlying71 (OpensD.of_succ fun k => (od_struct3 (enc := Aut.cs) Aut.mk Tryz.underlying71 rfl (by kernel_rfl) (by kernel_rfl) (by kernel_rfl) (od_intS k) (od_boolS k) (od_transS k) (fun _ _ _ => rfl)).imp fun xs ⟨s, e1, a, b, c, e, h1, h2, h3⟩ => ⟨s, e1, by subst e; exact ⟨h1.1, h2, h3.1, h3.2⟩⟩)

end Go.Proofs.YtknlmbniicacmaaGreat

