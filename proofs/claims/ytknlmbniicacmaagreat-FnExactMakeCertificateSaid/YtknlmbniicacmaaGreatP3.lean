/- A part of the proofs over this program: T184, T185, T35A, T64, T65, T66, T70, T71, T72, T73, T74, T75, T75K, T75M, T81, T82, T83, T84, T85, T86, T87, T88, T89. -/
import Derived.Test.YtknlmbniicacmaaGreatG0
import Derived.Test.YtknlmbniicacmaaGreatG1
import Derived.Test.YtknlmbniicacmaaGreatG2
import Derived.Test.YtknlmbniicacmaaGreatG3
import Derived.Test.YtknlmbniicacmaaGreatP0
import Derived.Test.YtknlmbniicacmaaGreatP1
import Derived.Test.YtknlmbniicacmaaGreatP2
set_option linter.all false
namespace Go.Proofs.YtknlmbniicacmaaGreat
open Go.Gl
attribute [local irreducible] z22 AWP z46 z54 z51 RetS z58

theorem frm_atM {N w : Nat} (Q P : List Int) (hw : w < N) : ((frm N Q P).map enI)[w]? = some (enI (if (w : Int) ∈ Q then P.getD w 0 else -2)) := by
  unfold frm
  rw [List.getElem?_map, List.getElem?_map, List.getElem?_range hw]; rfl
theorem frm_setM {N w : Nat} {Q P : List Int} {u : Int} (hw : w < N) (hP : P.length = N) : ((frm N Q P).map enI).set w (enI u) = (frm N (Q ++ [(w : Int)]) (P.set w u)).map enI := by
  have := frm_set (N := N) (Q := Q) (P := P) (v := (w : Int)) (u := u) ⟨by omega, by omega⟩ hP
  rw [Int.toNat_natCast] at this
  rw [← this, List.map_set]

set_option maxHeartbeats 12800000 in
theorem shortest1_new (rows : List (List Int)) (ini : List Int) (hr : ∀ r ∈ rows, InN rows.length r) (hi : InN rows.length ini) (hn : ini.Nodup) (hN : rows.length ≤ 100000) (hrl : ∀ r ∈ rows, r.length ≤ 1000000000) (G : Int → Bool) (f : FuncId) (c1 : List AC) (hf : ∀ x : Int, 0 ≤ x → x < rows.length → CallsA Tryz.prog f (.int x :: [.pt c1]) [] (.bool (G x)) []) :
    CallsA Tryz.prog 195 [lst 1 encL rows, ints ini, .fn (.func f) [] [.pt c1]] [] (.sref 0 0 (shL rows ini G).length) [.cells 1 ((shL rows ini G).map enI)] := by
  have hil : ini.length ≤ 100000 := by have := z124 rows.length ini hn hi; omega
  refine z40 z28 Tryz.func195 rfl rfl 99 Tryz.ntmps195 (by simp) ?_
  repeat' ((first | (apply AWP.go ok; rfl) | (apply And.intro; (dsimp only; omega))) <;> conv => whnf)
  all_goals skip
  obtain ⟨qm, hqm⟩ : ∃ qm : Nat → Nat → Int, qm = fun i j => if j < i then -2 else 0 := ⟨_, rfl⟩
  have q0 : qm 0 = fun _ => 0 := by rw [hqm]; rfl
  have qE : (fnL rows.length (qm rows.length)).map enI = (frm rows.length [] (List.replicate rows.length (-1))).map enI := by
    rw [frm_nil]
    congr 1
    apply List.ext_getElem (by simp [fnL])
    intro i h1 h2
    rw [fnL_get, hqm]
    have hi' : i < rows.length := by rw [z88] at h1; exact h1
    dsimp only
    rw [if_pos hi']; simp
  have qS : ∀ i, qm (i + 1) = upd (qm i) i (-2) := fun i => by
    funext j
    by_cases h : j = i
    · subst h; rw [z19, hqm]; dsimp only; rw [if_pos (by omega)]
    · rw [z37 _ _ h, hqm]; dsimp only; split <;> split <;> first | rfl | omega
  clear hqm
  refine z99 (fun i : Nat => ([(0, lst 1 encL rows), (1, ints ini), (2, .fn (.func f) [] [.pt c1]), (7, .sref 0 0 rows.length), (21, .int rows.length), (22, .int i)], [.cells 1 ((fnL rows.length (qm i)).map enI)])) (fun i => i ≤ rows.length) (fun i => rows.length - i) 0 (Nat.zero_le _) (by refine SealW.reach [0] [] rfl rfl rfl rfl ?_ ?_ <;> (repeat' (first | exact LocLe.refl _ | exact F2.nil | apply F2.cons | ((refine z15 rfl ?_ ?_); (focus ((repeat' (exact z1 rfl)); done))) | exact True.intro | apply And.intro)) <;> ((refine z43 ?_; rw [q0]; exact fnL_zero _))) ?_
  intro i hi1
  by_cases hi2 : i < rows.length
  · have g1 := fnL_at (qm i) hi2
    have l1 := z88 rows.length (qm i)
    have e1 := z120 (N := rows.length) (u := i) (qm i) (-2)
    rw [← qS] at e1
    repeat' ((first | (apply AWP.go ok; rfl) | (refine z13 (i := i) rfl g1 ?_) | (apply And.intro; first | omega | (unfold inI; omega)) | ((apply z2) <;> intro _)) <;> conv => whnf)
    all_goals first | (exfalso; omega) | skip
    all_goals refine z62 (i + 1) hi2 (by omega) (by refine SealW.reach [0] [] rfl rfl rfl rfl ?_ ?_ <;> (repeat' (first | exact LocLe.refl _ | exact F2.nil | apply F2.cons | ((refine z67 rfl ?_ ?_); (focus ((repeat' ((exact z0 (fun _ => rfl)))); done))) | exact True.intro | apply And.intro)) <;> ((refine z43 ?_; exact e1)))
  obtain rfl : i = rows.length := by omega
  rw [qE]
  clear qE qS q0
  repeat' ((first | (apply AWP.go ok; rfl) | (apply And.intro; omega) | (((apply z3; omega)); intro _) | ((apply z2) <;> intro _)) <;> conv => whnf)
  all_goals first | (exfalso; omega) | skip
  refine AWP.reach (Reach.empty 1 rfl) ?_
  have hrep : (List.replicate rows.length (-1 : Int)).length = rows.length := by simp
  have hrs : ∀ w, (List.replicate rows.length (-1 : Int)).set w (-1) = List.replicate rows.length (-1) := fun w => by
    apply List.ext_getElem (by simp)
    intro i h1 h2
    rw [List.getElem_set]
    split <;> simp
  have hS0 : (frm rows.length ini (List.replicate rows.length (-1))) = frm rows.length (srS rows ini 0).1 (srS rows ini 0).2 := rfl
  generalize List.replicate rows.length (-1 : Int) = P0 at *
  refine z99 (fun k : Nat => ([(0, lst 1 encL rows), (2, .fn (.func f) [] [.pt c1]), (7, .sref 0 0 rows.length), (9, .sref 1 0 (ini.take k).length), (29, ints ini), (30, .int ini.length), (31, .int k)], [.cells 1 ((frm rows.length (ini.take k) P0).map enI), .cells 1 ((ini.take k).map enI)])) (fun k => k ≤ ini.length) (fun k => ini.length - k) 0 (Nat.zero_le _) (by refine SealW.reach [0, 1] [] rfl rfl rfl rfl ?_ ?_ <;> (repeat' (first | exact LocLe.refl _ | exact z91 | exact F2.nil | apply F2.cons | exact z14 _ | ((refine z15 rfl ?_ ?_); (focus ((repeat' (first | exact z17 | exact z0 (fun _ => rfl))); done))) | exact True.intro | apply And.intro))) ?_
  intro k hk
  by_cases hk2 : k < ini.length
  · have gk : (ini.map enI)[k]? = some (enI ini[k]) := by rw [List.getElem?_map, List.getElem?_eq_getElem hk2]; rfl
    have hv := hi _ (List.getElem_mem hk2)
    have et : ini.take (k + 1) = ini.take k ++ [ini[k]] := List.take_succ_eq_append_getElem hk2
    have htl : (ini.take k).length ≤ 100000 := by rw [List.length_take]; omega
    generalize hQ' : ini.take (k + 1) = Q' at *
    generalize hQ : ini.take k = Q at *
    generalize ini[k] = v at *
    obtain ⟨w, rfl⟩ : ∃ w : Nat, v = w := ⟨v.toNat, by omega⟩
    have hw : w < rows.length := by omega
    have g1 := frm_atM Q P0 hw
    have l1 := frm_len rows.length Q P0
    have e1 := frm_setM (Q := Q) (u := -1) hw hrep
    rw [hrs, ← et] at e1
    subst et
    repeat' ((first | (apply AWP.go ok; rfl) | (refine z13 (i := k) rfl gk ?_) | (refine z13 (i := w) rfl g1 ?_) | (apply And.intro; first | omega | (unfold inI; omega) | ((try dsimp only); simp only [List.length_map, List.length_take, List.length_append, List.length_replicate, List.length_cons, List.length_nil]; omega) | exact ⟨rfl, z12 rfl z20⟩) | ((apply z2) <;> intro _)) <;> conv => whnf)
    all_goals first | (exfalso; omega) | skip
    all_goals refine z62 (k + 1) hk2 (by omega) ?_
    all_goals dsimp only
    all_goals rw [hQ']
    all_goals exact (by refine SealW.reach [0, 3] [] rfl rfl rfl rfl ?_ ?_ <;> (repeat' (first | exact LocLe.refl _ | exact F2.nil | apply F2.cons | (refine z80 ?_; ((simp; done))) | ((first | refine z118 rfl ?_ ?_ | refine z67 rfl ?_ ?_); (focus ((repeat' (first | exact z0 (fun _ => rfl) | apply z94)); done))) | (refine snoc_le ?_ ?_; (focus (omega))) | exact True.intro | apply And.intro)) <;> ((refine z43 ?_; exact e1)))
  obtain rfl : k = ini.length := by omega
  rw [List.take_length, hS0]
  repeat' ((first | (apply AWP.go ok; rfl) | (apply And.intro; omega) | ((first | (with_reducible apply z3; omega) | (apply z3; omega)); intro _) | ((apply z2) <;> intro _)) <;> conv => whnf)
  all_goals first | (exfalso; omega) | skip
  refine z99 (fun i : Nat => ([(0, lst 1 encL rows), (2, .fn (.func f) [] [.pt c1]), (7, .sref 0 0 rows.length), (9, .sref 1 0 (srS rows ini i).1.length), (12, .int i)], [.cells 1 ((frm rows.length (srS rows ini i).1 (srS rows ini i).2).map enI), .cells 1 ((srS rows ini i).1.map enI)])) (fun i => i ≤ rows.length ∧ ∀ k (_ : k < i) (h : k < (srS rows ini i).1.length), G ((srS rows ini i).1[k]) = false) (fun i => rows.length + 1 - i) 0 ⟨Nat.zero_le _, fun k h => by omega⟩ (by refine SealW.reach [0, 1] [] rfl rfl rfl rfl ?_ ?_ <;> (repeat' (first | exact LocLe.refl _ | exact F2.nil | apply F2.cons | exact z14 _ | ((refine z15 rfl ?_ ?_); (focus ((repeat' ((exact z0 (fun _ => rfl)))); done))) | exact True.intro | apply And.intro)) <;> (fail)) ?_
  rintro i ⟨hi1, hno⟩
  have hJ := srS_PJ hr hi hn i
  have hQl := srS_len hr hi hn i
  by_cases hi2 : i < (srS rows ini i).1.length
  · have hx := hJ.inn _ (List.getElem_mem hi2)
    have cf := hf _ hx.1 hx.2
    have gx : ((srS rows ini i).1.map enI)[i]? = some (enI (srS rows ini i).1[i]) := by rw [List.getElem?_map, List.getElem?_eq_getElem hi2]; rfl
    have hnx : srS rows ini (i + 1) = visPs (srS rows ini i).1[i] (srS rows ini i) (rows.getD ((srS rows ini i).1[i]).toNat []) := by rw [srS, dif_pos hi2]
    have hfnd := fun h => shL_found hr hi hn (G := G) hi2 h (fun k hk => hno k hk (by omega))
    have hpre := visPs_fst (srS rows ini i).1[i] (rows.getD ((srS rows ini i).1[i]).toNat []) (srS rows ini i)
    by_cases hG : G (srS rows ini i).1[i] = true
    · rw [hfnd hG, bkw_chn, List.append_nil]
      have hq0 : ∃ k, ∃ h : k < (srS rows ini i).1.length, (srS rows ini i).1[k] = (srS rows ini i).1[i] ∧ k ≤ rows.length := ⟨i, hi2, rfl, hi1⟩
      rw [hG] at cf
      clear hfnd hnx hpre hno
      generalize hS : srS rows ini i = S at *
      obtain ⟨Q, P⟩ := S
      dsimp only at *
      have hi4 : i < Q.length := hi2
      generalize Q[i] = x at *
      repeat' ((first | (apply AWP.go ok; rfl) | (refine z13 (i := i) rfl gx ?_) | (apply And.intro; omega) | ((apply z2) <;> intro _) | (apply z4 (cf); rfl; rfl)) <;> conv => whnf)
      all_goals first | (exfalso; omega) | skip
      all_goals
        refine AWP.reach (Reach.empty 1 rfl) ?_
        have hB1 := chn_pos P rows.length x
        generalize hB : chn P rows.length x = B at *
        refine z99 (fun y : Nat × List Int × Int => ([(7, .sref 0 0 rows.length), (13, .int y.2.2), (14, .sref 1 0 y.2.1.length)], [.cells 1 ((frm rows.length Q P).map enI), .cells 1 (y.2.1.map enI)])) (fun y => y.2.1.length + y.1 ≤ rows.length + 1 ∧ ((0 ≤ y.2.2 ∧ y.2.1 ++ chn P (y.1 - 1) y.2.2 = B ∧ 1 ≤ y.1 ∧ ∃ k, ∃ h : k < Q.length, Q[k] = y.2.2 ∧ k + 1 ≤ y.1) ∨ (y.2.2 = -1 ∧ y.2.1 = B))) (fun y => y.1 + (if 0 ≤ y.2.2 then 1 else 0)) (rows.length + 1, [], x) ⟨by simp, .inl ⟨hx.1, by simpa using hB, by omega, by obtain ⟨k, h, h1, h2⟩ := hq0; exact ⟨k, h, h1, by omega⟩⟩⟩ (by refine SealW.reach [0, 2] [] rfl rfl rfl rfl ?_ ?_ <;> (repeat' (first | exact LocLe.refl _ | exact z91 | exact F2.nil | apply F2.cons | exact z14 _ | ((refine z15 rfl ?_ ?_); (focus ((repeat' (first | exact z17 | exact z0 (fun _ => rfl))); done))) | exact True.intro | apply And.intro))) ?_
        rintro ⟨fu, ac, u⟩ ⟨q1, q2⟩
        dsimp only at q1 q2 ⊢
        rcases q2 with ⟨q2, q3, q4, k, hk, q5, q6⟩ | ⟨rfl, rfl⟩
        · have huN := hJ.inn u (q5 ▸ List.getElem_mem hk)
          obtain ⟨w, rfl⟩ : ∃ w : Nat, u = w := ⟨u.toNat, by omega⟩
          have hw : w < rows.length := by omega
          have gw := frm_atM Q P hw
          rw [if_pos (q5 ▸ List.getElem_mem hk)] at gw
          have lw := frm_len rows.length Q P
          have hp := hJ.pre k hk
          rw [q5, Int.toNat_natCast] at hp
          dsimp only at hp
          obtain ⟨fu, rfl⟩ : ∃ m, fu = m + 1 := ⟨fu - 1, by omega⟩
          rw [Nat.add_sub_cancel] at q3
          have hnext : P.getD w 0 = -1 ∧ ac ++ [(w : Int)] = B ∨ (0 ≤ P.getD w 0 ∧ (ac ++ [(w : Int)]) ++ chn P (fu - 1) (P.getD w 0) = B ∧ 1 ≤ fu ∧ ∃ k, ∃ h : k < Q.length, Q[k] = P.getD w 0 ∧ k + 1 ≤ fu) := by
            rcases hp with hp | ⟨j, hj, hjk, hp⟩
            · left
              refine ⟨hp, ?_⟩
              rw [← q3]
              cases fu with
              | zero => rfl
              | succ fu =>
                rw [chn, Int.toNat_natCast, if_neg (by omega)]
            · right
              have := hJ.inn _ (List.getElem_mem hj)
              refine ⟨by omega, ?_, by omega, j, hj, hp.symm, by omega⟩
              obtain ⟨fu, rfl⟩ : ∃ m, fu = m + 1 := ⟨fu - 1, by omega⟩
              rw [chn, Int.toNat_natCast, if_pos (by omega)] at q3
              rw [← q3]
              simp
          have hvb : -1 ≤ P.getD w 0 ∧ P.getD w 0 < rows.length := by
            rcases hnext with ⟨h, _⟩ | ⟨h, _, _, j, hj, hp2, _⟩
            · omega
            · have := hJ.inn _ (List.getElem_mem hj)
              omega
          clear hp
          generalize P.getD w 0 = v at *
          repeat' ((first | (apply AWP.go ok; rfl) | (refine z13 (i := w) rfl gw ?_) | (apply And.intro; first | omega | ((try dsimp only); simp only [List.length_map, List.length_take, List.length_append, List.length_replicate, List.length_cons, List.length_nil]; omega) | exact ⟨rfl, z12 rfl z20⟩)) <;> conv => whnf)
          all_goals skip
          all_goals refine z62 (fu, ac ++ [(w : Int)], v) ⟨by simp only [List.length_append, List.length_singleton]; omega, ?_⟩ ?_ (by refine SealW.reach [0, 3] [] rfl rfl rfl rfl ?_ ?_ <;> (repeat' (first | exact LocLe.refl _ | exact F2.nil | apply F2.cons | exact z14 _ | (refine z80 ?_; ((simp; done))) | ((first | refine z118 rfl ?_ ?_ | refine z15 rfl ?_ ?_); (focus ((repeat' (first | exact z0 (fun _ => rfl) | apply z94)); done))) | (refine snoc_le ?_ ?_; (focus (omega))) | exact True.intro | apply And.intro)))
          all_goals dsimp only
          all_goals first | (rcases hnext with ⟨h1, h2⟩ | h1 <;> first | exact .inr ⟨h1, h2⟩ | exact .inl h1) | (rw [if_pos (show (0 : Int) ≤ w by omega)]; split <;> omega)
        · have cr := reverse_ok ac (by omega) (by omega)
          have cc := clipInt_own (rvs ac) (by rw [rvs_len]; omega)
          have el := rvs_len ac
          rw [← rvs_eq]
          generalize rvs ac = D at *
          rw [el] at cc ⊢
          repeat' ((first | (apply AWP.go ok; rfl) | ((first | (apply z21 [1] [] [] (cr); rfl; (focus ((repeat' first | exact z11 | apply z29) <;> (refine z47 rfl ?_; ((exact z0 fun _ => rfl)))))) | (apply z21 [1] [] [] (cc); rfl; (focus ((repeat' first | exact z11 | apply z29) <;> (refine z47 rfl ?_; ((exact z0 fun _ => rfl))))))); rfl; rfl; rfl; rfl; rfl; (focus ((repeat' first | exact z27 | apply z26) <;> (refine z39 ?_; ((exact z0 fun _ => rfl))))); (exact .inl rfl))) <;> conv => whnf)
          all_goals skip
          all_goals (refine RetS.lay [1] [] rfl rfl rfl ?_; refine RetS.done ?_ ?_ <;> (repeat' (first | exact LocLe.refl _ | exact F2.nil | apply F2.cons | exact z14 _ | ((refine z15 rfl ?_ ?_); (focus ((repeat' ((exact z0 (fun _ => rfl)))); done))))))
    · have hG := (Bool.not_eq_true _).mp hG
      rw [hG] at cf
      have hno2 : ∀ k (_ : k < i + 1) (h : k < (srS rows ini (i + 1)).1.length), G ((srS rows ini (i + 1)).1[k]) = false := by
        obtain ⟨t, ht⟩ := srS_pre (rows := rows) (ini := ini) (show i ≤ i + 1 by omega)
        intro k hk h
        have hki : k < (srS rows ini i).1.length := by omega
        have e : (srS rows ini (i + 1)).1[k] = (srS rows ini i).1[k] := by
          simp only [ht, List.getElem_append_left hki]
        rw [e]
        by_cases hk3 : k < i
        · exact hno k hk3 hki
        · obtain rfl : k = i := by omega
          exact hG
      have hile : i + 1 ≤ rows.length := by omega
      have hJv := fun l hl => PJ.visPs (N := rows.length) l hJ hi2 rfl hl
      clear hfnd hpre hno
      generalize hS' : srS rows ini (i + 1) = S' at *
      generalize hS : srS rows ini i = S at *
      obtain ⟨Q, P⟩ := S
      dsimp only at *
      have hi4 : i < Q.length := hi2
      generalize hxx : Q[i] = x at *
      obtain ⟨u, rfl⟩ : ∃ u : Nat, x = u := ⟨x.toNat, by omega⟩
      rw [Int.toNat_natCast] at hnx
      have hu : u < rows.length := by omega
      have gr := rowAtN hu
      have hrow := row_in hr (u : Int)
      rw [Int.toNat_natCast] at hrow
      have hrowl : (rows.getD u []).length ≤ 1000000000 := by rw [z23 hu]; exact hrl _ (List.getElem_mem _)
      generalize rows.getD u [] = row at *
      repeat' ((first | (apply AWP.go ok; rfl) | (refine z13 (i := i) rfl gx ?_) | (refine z13 (i := u) rfl gr ?_) | (apply And.intro; omega) | ((apply z2) <;> intro _) | (apply z4 (cf); rfl; rfl)) <;> conv => whnf)
      all_goals first | (exfalso; omega) | skip
      all_goals
        refine z99 (fun j : Nat => ([(0, lst 1 encL rows), (2, .fn (.func f) [] [.pt c1]), (7, .sref 0 0 rows.length), (9, .sref 1 0 (visPs (u : Int) (Q, P) (row.take j)).1.length), (12, .int i), (76, ints row), (77, .int row.length), (78, .int j)], [.cells 1 ((frm rows.length (visPs (u : Int) (Q, P) (row.take j)).1 (visPs (u : Int) (Q, P) (row.take j)).2).map enI), .cells 1 ((visPs (u : Int) (Q, P) (row.take j)).1.map enI)])) (fun j => j ≤ row.length) (fun j => row.length - j) 0 (Nat.zero_le _) (by refine SealW.reach [0, 1] [] rfl rfl rfl rfl ?_ ?_ <;> (repeat' (first | exact LocLe.refl _ | exact F2.nil | apply F2.cons | exact z14 _ | ((refine z15 rfl ?_ ?_); (focus ((repeat' ((exact z0 (fun _ => rfl)))); done))) | exact True.intro | apply And.intro)) <;> (fail)) ?_
        intro j hj
        obtain ⟨hJj, hij, hxj⟩ := hJv (row.take j) (fun x hx => hrow x (List.mem_of_mem_take hx))
        have hQjl : (visPs (u : Int) (Q, P) (row.take j)).1.length ≤ rows.length := z124 _ _ hJj.nd hJj.inn
        have gxj : ((visPs (u : Int) (Q, P) (row.take j)).1.map enI)[i]? = some (enI (u : Int)) := by
          rw [List.getElem?_map, List.getElem?_eq_getElem hij, hxj]; rfl
        by_cases hj2 : j < row.length
        · have gj : (row.map enI)[j]? = some (enI row[j]) := by rw [List.getElem?_map, List.getElem?_eq_getElem hj2]; rfl
          have hv := hrow _ (List.getElem_mem hj2)
          have et := visPs_take (u := (u : Int)) (x := (Q, P)) hj2
          have hge := hJj.pre
          generalize hT' : visPs (u : Int) (Q, P) (row.take (j + 1)) = T' at *
          generalize hT : visPs (u : Int) (Q, P) (row.take j) = T at *
          generalize row[j] = v at *
          obtain ⟨w, rfl⟩ : ∃ w : Nat, v = w := ⟨v.toNat, by omega⟩
          have hw : w < rows.length := by omega
          have gw := frm_atM T.1 T.2 hw
          have lw := frm_len rows.length T.1 T.2
          have hTl := hJj.len
          by_cases hm : (w : Int) ∈ T.1
          · rw [visP_old hm] at et
            rw [if_pos hm] at gw
            have hwv : -1 ≤ T.2.getD w 0 := by
              obtain ⟨k, hk, ek⟩ := List.mem_iff_getElem.1 hm
              have h1 := hge k hk
              rw [ek, Int.toNat_natCast] at h1
              rcases h1 with h1 | ⟨y, hy, _, h1⟩
              · omega
              · have := hJj.inn _ (List.getElem_mem hy); omega
            generalize T.2.getD w 0 = pv at *
            repeat' ((first | (apply AWP.go ok; rfl) | (refine z13 (i := j) rfl gj ?_) | (refine z13 (i := w) rfl gw ?_) | (apply And.intro; first | omega | (unfold inI; omega)) | (((apply z3; omega)); intro _) | ((apply z2) <;> intro _)) <;> conv => whnf)
            all_goals first | (exfalso; omega) | skip
            all_goals refine z62 (j + 1) hj2 (by omega) ?_
            all_goals dsimp only
            all_goals rw [hT', et]
            all_goals exact (by refine SealW.reach [0, 1] [] rfl rfl rfl rfl ?_ ?_ <;> (repeat' (first | exact LocLe.refl _ | exact F2.nil | apply F2.cons | exact z14 _ | ((refine z15 rfl ?_ ?_); (focus ((repeat' ((exact z0 (fun _ => rfl)))); done))) | exact True.intro | apply And.intro)))
          · rw [visP_new hm, Int.toNat_natCast] at et
            rw [if_neg hm] at gw
            have e1 := frm_setM (Q := T.1) (u := (u : Int)) hw hTl
            repeat' ((first | (apply AWP.go ok; rfl) | (refine z13 (i := j) rfl gj ?_) | (refine z13 (i := w) rfl gw ?_) | (refine z13 (i := i) rfl gxj ?_) | (apply And.intro; first | omega | (unfold inI; omega) | ((try dsimp only); simp only [List.length_map, List.length_take, List.length_append, List.length_replicate, List.length_cons, List.length_nil]; omega) | exact ⟨rfl, z12 rfl z20⟩) | ((apply z2) <;> intro _)) <;> conv => whnf)
            all_goals first | (exfalso; omega) | skip
            all_goals refine z62 (j + 1) hj2 (by omega) ?_
            all_goals dsimp only
            all_goals rw [hT', et]
            all_goals dsimp only
            all_goals exact (by refine SealW.reach [0, 3] [] rfl rfl rfl rfl ?_ ?_ <;> (repeat' (first | exact LocLe.refl _ | exact F2.nil | apply F2.cons | (refine z80 ?_; ((simp; done))) | ((first | refine z118 rfl ?_ ?_ | refine z67 rfl ?_ ?_); (focus ((repeat' (first | exact z0 (fun _ => rfl) | apply z94)); done))) | (refine snoc_le ?_ ?_; (focus (omega))) | exact True.intro | apply And.intro)) <;> ((refine z43 ?_; exact e1)))
        obtain rfl : j = row.length := by omega
        rw [List.take_length, ← hnx] at *
        repeat' ((first | (apply AWP.go ok; rfl) | (apply And.intro; first | omega | (unfold inI; omega)) | ((first | (with_reducible apply z3; omega) | (apply z3; omega)); intro _) | ((apply z2) <;> intro _)) <;> conv => whnf)
        all_goals first | (exfalso; omega) | skip
        all_goals refine z62 (i + 1) ⟨hile, by rw [hS']; exact hno2⟩ (by omega) ?_
        all_goals dsimp only
        all_goals rw [hS']
        all_goals exact (by refine SealW.reach [0, 1] [] rfl rfl rfl rfl ?_ ?_ <;> (repeat' (first | exact LocLe.refl _ | exact F2.nil | apply F2.cons | exact z14 _ | ((refine z15 rfl ?_ ?_); (focus ((repeat' ((exact z0 (fun _ => rfl)))); done))) | exact True.intro | apply And.intro)))
  · rw [shL_none (G := G) (by omega) hi1 (fun k hk => hno k (by omega) hk)]
    repeat' ((first | (apply AWP.go ok; rfl) | (apply And.intro; omega) | (((apply z3; omega)); intro _) | ((apply z2) <;> intro _)) <;> conv => whnf)
    all_goals first | (exfalso; omega) | skip
    all_goals (refine RetS.empty 1 ?_; refine RetS.lay [2] [] rfl rfl rfl ?_; refine RetS.done ?_ ?_ <;> (repeat' (first | exact z91 | exact F2.nil | apply F2.cons | ((refine z15 rfl ?_ ?_); (focus ((repeat' (exact z17)); done))))))

set_option maxHeartbeats 12800000 in
theorem shortest2_new (rows : List (List Int)) (ini : List Int) (hr : ∀ r ∈ rows, InN rows.length r) (hi : InN rows.length ini) (hn : ini.Nodup) (hN : rows.length ≤ 100000) (hrl : ∀ r ∈ rows, r.length ≤ 1000000000) (G : Int → Bool) (f : FuncId) (c1 c2 : List AC) (hf : ∀ x : Int, 0 ≤ x → x < rows.length → CallsA Tryz.prog f (.int x :: [.pt c1, .pt c2]) [] (.bool (G x)) []) :
    CallsA Tryz.prog 195 [lst 1 encL rows, ints ini, .fn (.func f) [] [.pt c1, .pt c2]] [] (.sref 0 0 (shL rows ini G).length) [.cells 1 ((shL rows ini G).map enI)] := by
  have hil : ini.length ≤ 100000 := by have := z124 rows.length ini hn hi; omega
  refine z40 z28 Tryz.func195 rfl rfl 99 Tryz.ntmps195 (by simp) ?_
  repeat' ((first | (apply AWP.go ok; rfl) | (apply And.intro; (dsimp only; omega))) <;> conv => whnf)
  all_goals skip
  obtain ⟨qm, hqm⟩ : ∃ qm : Nat → Nat → Int, qm = fun i j => if j < i then -2 else 0 := ⟨_, rfl⟩
  have q0 : qm 0 = fun _ => 0 := by rw [hqm]; rfl
  have qE : (fnL rows.length (qm rows.length)).map enI = (frm rows.length [] (List.replicate rows.length (-1))).map enI := by
    rw [frm_nil]
    congr 1
    apply List.ext_getElem (by simp [fnL])
    intro i h1 h2
    rw [fnL_get, hqm]
    have hi' : i < rows.length := by rw [z88] at h1; exact h1
    dsimp only
    rw [if_pos hi']; simp
  have qS : ∀ i, qm (i + 1) = upd (qm i) i (-2) := fun i => by
    funext j
    by_cases h : j = i
    · subst h; rw [z19, hqm]; dsimp only; rw [if_pos (by omega)]
    · rw [z37 _ _ h, hqm]; dsimp only; split <;> split <;> first | rfl | omega
  clear hqm
  refine z99 (fun i : Nat => ([(0, lst 1 encL rows), (1, ints ini), (2, .fn (.func f) [] [.pt c1, .pt c2]), (7, .sref 0 0 rows.length), (21, .int rows.length), (22, .int i)], [.cells 1 ((fnL rows.length (qm i)).map enI)])) (fun i => i ≤ rows.length) (fun i => rows.length - i) 0 (Nat.zero_le _) (by refine SealW.reach [0] [] rfl rfl rfl rfl ?_ ?_ <;> (repeat' (first | exact LocLe.refl _ | exact F2.nil | apply F2.cons | ((refine z15 rfl ?_ ?_); (focus ((repeat' (exact z1 rfl)); done))) | exact True.intro | apply And.intro)) <;> ((refine z43 ?_; rw [q0]; exact fnL_zero _))) ?_
  intro i hi1
  by_cases hi2 : i < rows.length
  · have g1 := fnL_at (qm i) hi2
    have l1 := z88 rows.length (qm i)
    have e1 := z120 (N := rows.length) (u := i) (qm i) (-2)
    rw [← qS] at e1
    repeat' ((first | (apply AWP.go ok; rfl) | (refine z13 (i := i) rfl g1 ?_) | (apply And.intro; first | omega | (unfold inI; omega)) | ((apply z2) <;> intro _)) <;> conv => whnf)
    all_goals first | (exfalso; omega) | skip
    all_goals refine z62 (i + 1) hi2 (by omega) (by refine SealW.reach [0] [] rfl rfl rfl rfl ?_ ?_ <;> (repeat' (first | exact LocLe.refl _ | exact F2.nil | apply F2.cons | ((refine z67 rfl ?_ ?_); (focus ((repeat' ((exact z0 (fun _ => rfl)))); done))) | exact True.intro | apply And.intro)) <;> ((refine z43 ?_; exact e1)))
  obtain rfl : i = rows.length := by omega
  rw [qE]
  clear qE qS q0
  repeat' ((first | (apply AWP.go ok; rfl) | (apply And.intro; omega) | (((apply z3; omega)); intro _) | ((apply z2) <;> intro _)) <;> conv => whnf)
  all_goals first | (exfalso; omega) | skip
  refine AWP.reach (Reach.empty 1 rfl) ?_
  have hrep : (List.replicate rows.length (-1 : Int)).length = rows.length := by simp
  have hrs : ∀ w, (List.replicate rows.length (-1 : Int)).set w (-1) = List.replicate rows.length (-1) := fun w => by
    apply List.ext_getElem (by simp)
    intro i h1 h2
    rw [List.getElem_set]
    split <;> simp
  have hS0 : (frm rows.length ini (List.replicate rows.length (-1))) = frm rows.length (srS rows ini 0).1 (srS rows ini 0).2 := rfl
  generalize List.replicate rows.length (-1 : Int) = P0 at *
  refine z99 (fun k : Nat => ([(0, lst 1 encL rows), (2, .fn (.func f) [] [.pt c1, .pt c2]), (7, .sref 0 0 rows.length), (9, .sref 1 0 (ini.take k).length), (29, ints ini), (30, .int ini.length), (31, .int k)], [.cells 1 ((frm rows.length (ini.take k) P0).map enI), .cells 1 ((ini.take k).map enI)])) (fun k => k ≤ ini.length) (fun k => ini.length - k) 0 (Nat.zero_le _) (by refine SealW.reach [0, 1] [] rfl rfl rfl rfl ?_ ?_ <;> (repeat' (first | exact LocLe.refl _ | exact z91 | exact F2.nil | apply F2.cons | exact z14 _ | ((refine z15 rfl ?_ ?_); (focus ((repeat' (first | exact z17 | exact z0 (fun _ => rfl))); done))) | exact True.intro | apply And.intro))) ?_
  intro k hk
  by_cases hk2 : k < ini.length
  · have gk : (ini.map enI)[k]? = some (enI ini[k]) := by rw [List.getElem?_map, List.getElem?_eq_getElem hk2]; rfl
    have hv := hi _ (List.getElem_mem hk2)
    have et : ini.take (k + 1) = ini.take k ++ [ini[k]] := List.take_succ_eq_append_getElem hk2
    have htl : (ini.take k).length ≤ 100000 := by rw [List.length_take]; omega
    generalize hQ' : ini.take (k + 1) = Q' at *
    generalize hQ : ini.take k = Q at *
    generalize ini[k] = v at *
    obtain ⟨w, rfl⟩ : ∃ w : Nat, v = w := ⟨v.toNat, by omega⟩
    have hw : w < rows.length := by omega
    have g1 := frm_atM Q P0 hw
    have l1 := frm_len rows.length Q P0
    have e1 := frm_setM (Q := Q) (u := -1) hw hrep
    rw [hrs, ← et] at e1
    subst et
    repeat' ((first | (apply AWP.go ok; rfl) | (refine z13 (i := k) rfl gk ?_) | (refine z13 (i := w) rfl g1 ?_) | (apply And.intro; first | omega | (unfold inI; omega) | ((try dsimp only); simp only [List.length_map, List.length_take, List.length_append, List.length_replicate, List.length_cons, List.length_nil]; omega) | exact ⟨rfl, z12 rfl z20⟩) | ((apply z2) <;> intro _)) <;> conv => whnf)
    all_goals first | (exfalso; omega) | skip
    all_goals refine z62 (k + 1) hk2 (by omega) ?_
    all_goals dsimp only
    all_goals rw [hQ']
    all_goals exact (by refine SealW.reach [0, 3] [] rfl rfl rfl rfl ?_ ?_ <;> (repeat' (first | exact LocLe.refl _ | exact F2.nil | apply F2.cons | (refine z80 ?_; ((simp; done))) | ((first | refine z118 rfl ?_ ?_ | refine z67 rfl ?_ ?_); (focus ((repeat' (first | exact z0 (fun _ => rfl) | apply z94)); done))) | (refine snoc_le ?_ ?_; (focus (omega))) | exact True.intro | apply And.intro)) <;> ((refine z43 ?_; exact e1)))
  obtain rfl : k = ini.length := by omega
  rw [List.take_length, hS0]
  repeat' ((first | (apply AWP.go ok; rfl) | (apply And.intro; omega) | ((first | (with_reducible apply z3; omega) | (apply z3; omega)); intro _) | ((apply z2) <;> intro _)) <;> conv => whnf)
  all_goals first | (exfalso; omega) | skip
  refine z99 (fun i : Nat => ([(0, lst 1 encL rows), (2, .fn (.func f) [] [.pt c1, .pt c2]), (7, .sref 0 0 rows.length), (9, .sref 1 0 (srS rows ini i).1.length), (12, .int i)], [.cells 1 ((frm rows.length (srS rows ini i).1 (srS rows ini i).2).map enI), .cells 1 ((srS rows ini i).1.map enI)])) (fun i => i ≤ rows.length ∧ ∀ k (_ : k < i) (h : k < (srS rows ini i).1.length), G ((srS rows ini i).1[k]) = false) (fun i => rows.length + 1 - i) 0 ⟨Nat.zero_le _, fun k h => by omega⟩ (by refine SealW.reach [0, 1] [] rfl rfl rfl rfl ?_ ?_ <;> (repeat' (first | exact LocLe.refl _ | exact F2.nil | apply F2.cons | exact z14 _ | ((refine z15 rfl ?_ ?_); (focus ((repeat' ((exact z0 (fun _ => rfl)))); done))) | exact True.intro | apply And.intro)) <;> (fail)) ?_
  rintro i ⟨hi1, hno⟩
  have hJ := srS_PJ hr hi hn i
  have hQl := srS_len hr hi hn i
  by_cases hi2 : i < (srS rows ini i).1.length
  · have hx := hJ.inn _ (List.getElem_mem hi2)
    have cf := hf _ hx.1 hx.2
    have gx : ((srS rows ini i).1.map enI)[i]? = some (enI (srS rows ini i).1[i]) := by rw [List.getElem?_map, List.getElem?_eq_getElem hi2]; rfl
    have hnx : srS rows ini (i + 1) = visPs (srS rows ini i).1[i] (srS rows ini i) (rows.getD ((srS rows ini i).1[i]).toNat []) := by rw [srS, dif_pos hi2]
    have hfnd := fun h => shL_found hr hi hn (G := G) hi2 h (fun k hk => hno k hk (by omega))
    have hpre := visPs_fst (srS rows ini i).1[i] (rows.getD ((srS rows ini i).1[i]).toNat []) (srS rows ini i)
    by_cases hG : G (srS rows ini i).1[i] = true
    · rw [hfnd hG, bkw_chn, List.append_nil]
      have hq0 : ∃ k, ∃ h : k < (srS rows ini i).1.length, (srS rows ini i).1[k] = (srS rows ini i).1[i] ∧ k ≤ rows.length := ⟨i, hi2, rfl, hi1⟩
      rw [hG] at cf
      clear hfnd hnx hpre hno
      generalize hS : srS rows ini i = S at *
      obtain ⟨Q, P⟩ := S
      dsimp only at *
      have hi4 : i < Q.length := hi2
      generalize Q[i] = x at *
      repeat' ((first | (apply AWP.go ok; rfl) | (refine z13 (i := i) rfl gx ?_) | (apply And.intro; omega) | ((apply z2) <;> intro _) | (apply z4 (cf); rfl; rfl)) <;> conv => whnf)
      all_goals first | (exfalso; omega) | skip
      all_goals
        refine AWP.reach (Reach.empty 1 rfl) ?_
        have hB1 := chn_pos P rows.length x
        generalize hB : chn P rows.length x = B at *
        refine z99 (fun y : Nat × List Int × Int => ([(7, .sref 0 0 rows.length), (13, .int y.2.2), (14, .sref 1 0 y.2.1.length)], [.cells 1 ((frm rows.length Q P).map enI), .cells 1 (y.2.1.map enI)])) (fun y => y.2.1.length + y.1 ≤ rows.length + 1 ∧ ((0 ≤ y.2.2 ∧ y.2.1 ++ chn P (y.1 - 1) y.2.2 = B ∧ 1 ≤ y.1 ∧ ∃ k, ∃ h : k < Q.length, Q[k] = y.2.2 ∧ k + 1 ≤ y.1) ∨ (y.2.2 = -1 ∧ y.2.1 = B))) (fun y => y.1 + (if 0 ≤ y.2.2 then 1 else 0)) (rows.length + 1, [], x) ⟨by simp, .inl ⟨hx.1, by simpa using hB, by omega, by obtain ⟨k, h, h1, h2⟩ := hq0; exact ⟨k, h, h1, by omega⟩⟩⟩ (by refine SealW.reach [0, 2] [] rfl rfl rfl rfl ?_ ?_ <;> (repeat' (first | exact LocLe.refl _ | exact z91 | exact F2.nil | apply F2.cons | exact z14 _ | ((refine z15 rfl ?_ ?_); (focus ((repeat' (first | exact z17 | exact z0 (fun _ => rfl))); done))) | exact True.intro | apply And.intro))) ?_
        rintro ⟨fu, ac, u⟩ ⟨q1, q2⟩
        dsimp only at q1 q2 ⊢
        rcases q2 with ⟨q2, q3, q4, k, hk, q5, q6⟩ | ⟨rfl, rfl⟩
        · have huN := hJ.inn u (q5 ▸ List.getElem_mem hk)
          obtain ⟨w, rfl⟩ : ∃ w : Nat, u = w := ⟨u.toNat, by omega⟩
          have hw : w < rows.length := by omega
          have gw := frm_atM Q P hw
          rw [if_pos (q5 ▸ List.getElem_mem hk)] at gw
          have lw := frm_len rows.length Q P
          have hp := hJ.pre k hk
          rw [q5, Int.toNat_natCast] at hp
          dsimp only at hp
          obtain ⟨fu, rfl⟩ : ∃ m, fu = m + 1 := ⟨fu - 1, by omega⟩
          rw [Nat.add_sub_cancel] at q3
          have hnext : P.getD w 0 = -1 ∧ ac ++ [(w : Int)] = B ∨ (0 ≤ P.getD w 0 ∧ (ac ++ [(w : Int)]) ++ chn P (fu - 1) (P.getD w 0) = B ∧ 1 ≤ fu ∧ ∃ k, ∃ h : k < Q.length, Q[k] = P.getD w 0 ∧ k + 1 ≤ fu) := by
            rcases hp with hp | ⟨j, hj, hjk, hp⟩
            · left
              refine ⟨hp, ?_⟩
              rw [← q3]
              cases fu with
              | zero => rfl
              | succ fu =>
                rw [chn, Int.toNat_natCast, if_neg (by omega)]
            · right
              have := hJ.inn _ (List.getElem_mem hj)
              refine ⟨by omega, ?_, by omega, j, hj, hp.symm, by omega⟩
              obtain ⟨fu, rfl⟩ : ∃ m, fu = m + 1 := ⟨fu - 1, by omega⟩
              rw [chn, Int.toNat_natCast, if_pos (by omega)] at q3
              rw [← q3]
              simp
          have hvb : -1 ≤ P.getD w 0 ∧ P.getD w 0 < rows.length := by
            rcases hnext with ⟨h, _⟩ | ⟨h, _, _, j, hj, hp2, _⟩
            · omega
            · have := hJ.inn _ (List.getElem_mem hj)
              omega
          clear hp
          generalize P.getD w 0 = v at *
          repeat' ((first | (apply AWP.go ok; rfl) | (refine z13 (i := w) rfl gw ?_) | (apply And.intro; first | omega | ((try dsimp only); simp only [List.length_map, List.length_take, List.length_append, List.length_replicate, List.length_cons, List.length_nil]; omega) | exact ⟨rfl, z12 rfl z20⟩)) <;> conv => whnf)
          all_goals skip
          all_goals refine z62 (fu, ac ++ [(w : Int)], v) ⟨by simp only [List.length_append, List.length_singleton]; omega, ?_⟩ ?_ (by refine SealW.reach [0, 3] [] rfl rfl rfl rfl ?_ ?_ <;> (repeat' (first | exact LocLe.refl _ | exact F2.nil | apply F2.cons | exact z14 _ | (refine z80 ?_; ((simp; done))) | ((first | refine z118 rfl ?_ ?_ | refine z15 rfl ?_ ?_); (focus ((repeat' (first | exact z0 (fun _ => rfl) | apply z94)); done))) | (refine snoc_le ?_ ?_; (focus (omega))) | exact True.intro | apply And.intro)))
          all_goals dsimp only
          all_goals first | (rcases hnext with ⟨h1, h2⟩ | h1 <;> first | exact .inr ⟨h1, h2⟩ | exact .inl h1) | (rw [if_pos (show (0 : Int) ≤ w by omega)]; split <;> omega)
        · have cr := reverse_ok ac (by omega) (by omega)
          have cc := clipInt_own (rvs ac) (by rw [rvs_len]; omega)
          have el := rvs_len ac
          rw [← rvs_eq]
          generalize rvs ac = D at *
          rw [el] at cc ⊢
          repeat' ((first | (apply AWP.go ok; rfl) | ((first | (apply z21 [1] [] [] (cr); rfl; (focus ((repeat' first | exact z11 | apply z29) <;> (refine z47 rfl ?_; ((exact z0 fun _ => rfl)))))) | (apply z21 [1] [] [] (cc); rfl; (focus ((repeat' first | exact z11 | apply z29) <;> (refine z47 rfl ?_; ((exact z0 fun _ => rfl))))))); rfl; rfl; rfl; rfl; rfl; (focus ((repeat' first | exact z27 | apply z26) <;> (refine z39 ?_; ((exact z0 fun _ => rfl))))); (exact .inl rfl))) <;> conv => whnf)
          all_goals skip
          all_goals (refine RetS.lay [1] [] rfl rfl rfl ?_; refine RetS.done ?_ ?_ <;> (repeat' (first | exact LocLe.refl _ | exact F2.nil | apply F2.cons | exact z14 _ | ((refine z15 rfl ?_ ?_); (focus ((repeat' ((exact z0 (fun _ => rfl)))); done))))))
    · have hG := (Bool.not_eq_true _).mp hG
      rw [hG] at cf
      have hno2 : ∀ k (_ : k < i + 1) (h : k < (srS rows ini (i + 1)).1.length), G ((srS rows ini (i + 1)).1[k]) = false := by
        obtain ⟨t, ht⟩ := srS_pre (rows := rows) (ini := ini) (show i ≤ i + 1 by omega)
        intro k hk h
        have hki : k < (srS rows ini i).1.length := by omega
        have e : (srS rows ini (i + 1)).1[k] = (srS rows ini i).1[k] := by
          simp only [ht, List.getElem_append_left hki]
        rw [e]
        by_cases hk3 : k < i
        · exact hno k hk3 hki
        · obtain rfl : k = i := by omega
          exact hG
      have hile : i + 1 ≤ rows.length := by omega
      have hJv := fun l hl => PJ.visPs (N := rows.length) l hJ hi2 rfl hl
      clear hfnd hpre hno
      generalize hS' : srS rows ini (i + 1) = S' at *
      generalize hS : srS rows ini i = S at *
      obtain ⟨Q, P⟩ := S
      dsimp only at *
      have hi4 : i < Q.length := hi2
      generalize hxx : Q[i] = x at *
      obtain ⟨u, rfl⟩ : ∃ u : Nat, x = u := ⟨x.toNat, by omega⟩
      rw [Int.toNat_natCast] at hnx
      have hu : u < rows.length := by omega
      have gr := rowAtN hu
      have hrow := row_in hr (u : Int)
      rw [Int.toNat_natCast] at hrow
      have hrowl : (rows.getD u []).length ≤ 1000000000 := by rw [z23 hu]; exact hrl _ (List.getElem_mem _)
      generalize rows.getD u [] = row at *
      repeat' ((first | (apply AWP.go ok; rfl) | (refine z13 (i := i) rfl gx ?_) | (refine z13 (i := u) rfl gr ?_) | (apply And.intro; omega) | ((apply z2) <;> intro _) | (apply z4 (cf); rfl; rfl)) <;> conv => whnf)
      all_goals first | (exfalso; omega) | skip
      all_goals
        refine z99 (fun j : Nat => ([(0, lst 1 encL rows), (2, .fn (.func f) [] [.pt c1, .pt c2]), (7, .sref 0 0 rows.length), (9, .sref 1 0 (visPs (u : Int) (Q, P) (row.take j)).1.length), (12, .int i), (76, ints row), (77, .int row.length), (78, .int j)], [.cells 1 ((frm rows.length (visPs (u : Int) (Q, P) (row.take j)).1 (visPs (u : Int) (Q, P) (row.take j)).2).map enI), .cells 1 ((visPs (u : Int) (Q, P) (row.take j)).1.map enI)])) (fun j => j ≤ row.length) (fun j => row.length - j) 0 (Nat.zero_le _) (by refine SealW.reach [0, 1] [] rfl rfl rfl rfl ?_ ?_ <;> (repeat' (first | exact LocLe.refl _ | exact F2.nil | apply F2.cons | exact z14 _ | ((refine z15 rfl ?_ ?_); (focus ((repeat' ((exact z0 (fun _ => rfl)))); done))) | exact True.intro | apply And.intro)) <;> (fail)) ?_
        intro j hj
        obtain ⟨hJj, hij, hxj⟩ := hJv (row.take j) (fun x hx => hrow x (List.mem_of_mem_take hx))
        have hQjl : (visPs (u : Int) (Q, P) (row.take j)).1.length ≤ rows.length := z124 _ _ hJj.nd hJj.inn
        have gxj : ((visPs (u : Int) (Q, P) (row.take j)).1.map enI)[i]? = some (enI (u : Int)) := by
          rw [List.getElem?_map, List.getElem?_eq_getElem hij, hxj]; rfl
        by_cases hj2 : j < row.length
        · have gj : (row.map enI)[j]? = some (enI row[j]) := by rw [List.getElem?_map, List.getElem?_eq_getElem hj2]; rfl
          have hv := hrow _ (List.getElem_mem hj2)
          have et := visPs_take (u := (u : Int)) (x := (Q, P)) hj2
          have hge := hJj.pre
          generalize hT' : visPs (u : Int) (Q, P) (row.take (j + 1)) = T' at *
          generalize hT : visPs (u : Int) (Q, P) (row.take j) = T at *
          generalize row[j] = v at *
          obtain ⟨w, rfl⟩ : ∃ w : Nat, v = w := ⟨v.toNat, by omega⟩
          have hw : w < rows.length := by omega
          have gw := frm_atM T.1 T.2 hw
          have lw := frm_len rows.length T.1 T.2
          have hTl := hJj.len
          by_cases hm : (w : Int) ∈ T.1
          · rw [visP_old hm] at et
            rw [if_pos hm] at gw
            have hwv : -1 ≤ T.2.getD w 0 := by
              obtain ⟨k, hk, ek⟩ := List.mem_iff_getElem.1 hm
              have h1 := hge k hk
              rw [ek, Int.toNat_natCast] at h1
              rcases h1 with h1 | ⟨y, hy, _, h1⟩
              · omega
              · have := hJj.inn _ (List.getElem_mem hy); omega
            generalize T.2.getD w 0 = pv at *
            repeat' ((first | (apply AWP.go ok; rfl) | (refine z13 (i := j) rfl gj ?_) | (refine z13 (i := w) rfl gw ?_) | (apply And.intro; first | omega | (unfold inI; omega)) | (((apply z3; omega)); intro _) | ((apply z2) <;> intro _)) <;> conv => whnf)
            all_goals first | (exfalso; omega) | skip
            all_goals refine z62 (j + 1) hj2 (by omega) ?_
            all_goals dsimp only
            all_goals rw [hT', et]
            all_goals exact (by refine SealW.reach [0, 1] [] rfl rfl rfl rfl ?_ ?_ <;> (repeat' (first | exact LocLe.refl _ | exact F2.nil | apply F2.cons | exact z14 _ | ((refine z15 rfl ?_ ?_); (focus ((repeat' ((exact z0 (fun _ => rfl)))); done))) | exact True.intro | apply And.intro)))
          · rw [visP_new hm, Int.toNat_natCast] at et
            rw [if_neg hm] at gw
            have e1 := frm_setM (Q := T.1) (u := (u : Int)) hw hTl
            repeat' ((first | (apply AWP.go ok; rfl) | (refine z13 (i := j) rfl gj ?_) | (refine z13 (i := w) rfl gw ?_) | (refine z13 (i := i) rfl gxj ?_) | (apply And.intro; first | omega | (unfold inI; omega) | ((try dsimp only); simp only [List.length_map, List.length_take, List.length_append, List.length_replicate, List.length_cons, List.length_nil]; omega) | exact ⟨rfl, z12 rfl z20⟩) | ((apply z2) <;> intro _)) <;> conv => whnf)
            all_goals first | (exfalso; omega) | skip
            all_goals refine z62 (j + 1) hj2 (by omega) ?_
            all_goals dsimp only
            all_goals rw [hT', et]
            all_goals dsimp only
            all_goals exact (by refine SealW.reach [0, 3] [] rfl rfl rfl rfl ?_ ?_ <;> (repeat' (first | exact LocLe.refl _ | exact F2.nil | apply F2.cons | (refine z80 ?_; ((simp; done))) | ((first | refine z118 rfl ?_ ?_ | refine z67 rfl ?_ ?_); (focus ((repeat' (first | exact z0 (fun _ => rfl) | apply z94)); done))) | (refine snoc_le ?_ ?_; (focus (omega))) | exact True.intro | apply And.intro)) <;> ((refine z43 ?_; exact e1)))
        obtain rfl : j = row.length := by omega
        rw [List.take_length, ← hnx] at *
        repeat' ((first | (apply AWP.go ok; rfl) | (apply And.intro; first | omega | (unfold inI; omega)) | ((first | (with_reducible apply z3; omega) | (apply z3; omega)); intro _) | ((apply z2) <;> intro _)) <;> conv => whnf)
        all_goals first | (exfalso; omega) | skip
        all_goals refine z62 (i + 1) ⟨hile, by rw [hS']; exact hno2⟩ (by omega) ?_
        all_goals dsimp only
        all_goals rw [hS']
        all_goals exact (by refine SealW.reach [0, 1] [] rfl rfl rfl rfl ?_ ?_ <;> (repeat' (first | exact LocLe.refl _ | exact F2.nil | apply F2.cons | exact z14 _ | ((refine z15 rfl ?_ ?_); (focus ((repeat' ((exact z0 (fun _ => rfl)))); done))) | exact True.intro | apply And.intro)))
  · rw [shL_none (G := G) (by omega) hi1 (fun k hk => hno k (by omega) hk)]
    repeat' ((first | (apply AWP.go ok; rfl) | (apply And.intro; omega) | (((apply z3; omega)); intro _) | ((apply z2) <;> intro _)) <;> conv => whnf)
    all_goals first | (exfalso; omega) | skip
    all_goals (refine RetS.empty 1 ?_; refine RetS.lay [2] [] rfl rfl rfl ?_; refine RetS.done ?_ ?_ <;> (repeat' (first | exact z91 | exact F2.nil | apply F2.cons | ((refine z15 rfl ?_ ?_); (focus ((repeat' (exact z17)); done))))))
end Go.Proofs.YtknlmbniicacmaaGreat

namespace Go.Proofs.YtknlmbniicacmaaGreat
open Go.Gl
attribute [local irreducible] z22 AWP z46 z54 z51 RetS z58

theorem lasso1_ok (v x : Int) : CallsA Tryz.prog 196 [.int x, .pt [.int v]] [] (.bool (decide (x = v))) [] := by
  refine z40 z28 Tryz.func196 rfl rfl 7 Tryz.ntmps196 (by simp) ?_
  repeat' (((apply AWP.go ok; rfl)) <;> conv => whnf)
  all_goals skip
  all_goals (refine RetS.lay [] [] rfl rfl rfl ?_; refine RetS.done ?_ ?_ <;> (repeat' (first | exact LocLe.refl _ | exact F2.nil)))
theorem around1_ok (rows : List (List Int)) (hrl : ∀ r ∈ rows, r.length ≤ 1000000000) (v x : Int) (hx : 0 ≤ x ∧ x < rows.length) : CallsA Tryz.prog 239 [.int x, .pt [.int v], .pt [lst 1 encL rows]] [] (.bool (decide (x ≠ v) && decide (v ∈ rows.getD x.toNat []))) [] := by
  obtain ⟨u, rfl⟩ : ∃ u : Nat, x = u := ⟨x.toNat, by omega⟩
  rw [Int.toNat_natCast]
  have hu : u < rows.length := by omega
  have gr := rowAtN hu
  have hrow : (rows.getD u []).length ≤ 1000000000 := by rw [z23 hu]; exact hrl _ (List.getElem_mem _)
  have cct := containsInt_ok (rows.getD u []) (by unfold maxLen; omega) v
  generalize rows.getD u [] = row at *
  refine z40 z28 Tryz.func239 rfl rfl 16 Tryz.ntmps239 (by simp) ?_
  by_cases h : (u : Int) = v
  · rw [decide_eq_false (by simp [h]), Bool.false_and]
    repeat' ((first | (apply AWP.go ok; rfl) | (apply z5; kernel_rfl) | (refine z13 (i := u) rfl gr ?_) | (apply And.intro; omega) | ((apply z8) <;> intro _) | (apply z4 (cct); rfl; rfl)) <;> conv => whnf)
    all_goals first | (exfalso; omega) | skip
    all_goals (refine RetS.lay [] [] rfl rfl rfl ?_; refine RetS.done ?_ ?_ <;> (repeat' (first | exact LocLe.refl _ | exact F2.nil)))
  · rw [decide_eq_true h, Bool.true_and]
    repeat' ((first | (apply AWP.go ok; rfl) | (apply z5; kernel_rfl) | (refine z13 (i := u) rfl gr ?_) | (apply And.intro; omega) | ((apply z8) <;> intro _) | (apply z4 (cct); rfl; rfl)) <;> conv => whnf)
    all_goals first | (exfalso; omega) | skip
    all_goals (refine RetS.lay [] [] rfl rfl rfl ?_; refine RetS.done ?_ ?_ <;> (repeat' (first | exact LocLe.refl _ | exact F2.nil)))
set_option maxHeartbeats 3200000 in
theorem around_new (rows : List (List Int)) (v : Int) (hr : ∀ r ∈ rows, InN rows.length r) (hv : 0 ≤ v ∧ v < rows.length) (hN : rows.length ≤ 100000) (hrl : ∀ r ∈ rows, r.length ≤ 1000000000) :
    CallsA Tryz.prog 197 [lst 1 encL rows, .int v] [] (.sref 0 0 (aroL rows v).length) [.cells 1 ((aroL rows v).map enI)] := by
  obtain ⟨u, rfl⟩ : ∃ u : Nat, v = u := ⟨v.toNat, by omega⟩
  have hu : u < rows.length := by omega
  have gr := rowAtN hu
  have hrow : (rows.getD u []).length ≤ 1000000000 := by rw [z23 hu]; exact hrl _ (List.getElem_mem _)
  have cct := containsInt_ok (rows.getD u []) (by unfold maxLen; omega) (u : Int)
  have csh := shortest2_new rows [(u : Int)] hr (one_in hv) (by simp) hN hrl (fun n => decide (n ≠ (u : Int)) && decide ((u : Int) ∈ rows.getD n.toNat [])) 239 [.int (u : Int)] [lst 1 encL rows] (fun x h0 h1 => around1_ok rows hrl u x ⟨h0, h1⟩)
  unfold aroL
  rw [Int.toNat_natCast]
  by_cases h : (u : Int) ∈ rows.getD u []
  · rw [if_pos h]
    rw [decide_eq_true h] at cct
    generalize rows.getD u [] = row at *
    refine z40 z28 Tryz.func197 rfl rfl 18 Tryz.ntmps197 (by simp) ?_
    repeat' ((first | (apply AWP.go ok; rfl) | (apply z5; kernel_rfl) | (refine z13 (i := u) rfl gr ?_) | (apply And.intro; omega) | (apply z4 (cct); rfl; rfl)) <;> conv => whnf)
    all_goals skip
    all_goals (refine RetS.lay [2] [] rfl rfl rfl ?_; refine RetS.done ?_ ?_ <;> (repeat' (first | exact LocLe.refl _ | exact F2.nil | apply F2.cons | apply ObjLe.box)))
  · rw [if_neg h]
    rw [decide_eq_false h] at cct
    generalize shL rows [(u : Int)] (fun n => decide (n ≠ (u : Int)) && decide ((u : Int) ∈ rows.getD n.toNat [])) = D at *
    generalize rows.getD u [] = row at *
    refine z40 z28 Tryz.func197 rfl rfl 18 Tryz.ntmps197 (by simp) ?_
    repeat' ((first | (apply AWP.go ok; rfl) | (apply z5; kernel_rfl) | (refine z13 (i := u) rfl gr ?_) | (apply And.intro; omega) | (apply z4 (cct); rfl; rfl) | (((apply z21 [] [0, 1, 2] [3] (csh); (focus ((repeat' first | exact z89 | apply z72) <;> rfl)); (focus ((repeat' exact z11) <;> fail)))); rfl; rfl; rfl; rfl; rfl; (focus ((repeat' first | exact z27 | apply z26) <;> (refine z39 ?_; ((exact z0 fun _ => rfl))))); ((refine .inr ⟨rfl, ?_⟩; repeat' first | exact True.intro | apply And.intro | exact z50 (fun _ => rfl) _)))) <;> conv => whnf)
    all_goals skip
    all_goals (refine RetS.lay [3] [] rfl rfl rfl ?_; refine RetS.done ?_ ?_ <;> (repeat' (first | exact LocLe.refl _ | exact F2.nil | apply F2.cons | exact z14 _ | ((refine z15 rfl ?_ ?_); (focus ((repeat' ((exact z0 (fun _ => rfl)))); done))))))
noncomputable def lasR (rows : List (List Int)) (ini : List Int) (G : Int → Bool) : List Int × List Int := (lasL rows ini G).getD ([], [])
set_option maxHeartbeats 6400000 in
theorem lasso_new (rows : List (List Int)) (ini : List Int) (hr : ∀ r ∈ rows, InN rows.length r) (hi : InN rows.length ini) (hn : ini.Nodup) (hN : rows.length ≤ 100000) (hrl : ∀ r ∈ rows, r.length ≤ 1000000000) (G : Int → Bool) (f : FuncId) (c1 c2 : List AC) (hf : ∀ x : Int, 0 ≤ x → x < rows.length → CallsA Tryz.prog f [.int x, .pt c1, .pt c2] [] (.bool (G x)) []) :
    CallsA Tryz.prog 125 [lst 1 encL rows, ints ini, .fn (.func f) [] [.pt c1, .pt c2]] [] (.tup [.sref 0 0 ((lasR rows ini G).1.take ((lasR rows ini G).1.length - 1)).length, .sref 1 0 (lasR rows ini G).2.length, .bool (lasL rows ini G).isSome]) [.cells 1 (((lasR rows ini G).1.take ((lasR rows ini G).1.length - 1)).map enI), .cells 1 ((lasR rows ini G).2.map enI)] := by
  have hil : ini.length ≤ 100000 := by have := z124 rows.length ini hn hi; omega
  have cC := cyclic_new rows hr hN hrl
  have cO := order_new rows ini hr hi hN hrl (by omega)
  have hQi := bfs_in hr hi rows.length
  have hQl := bfs_len hr hi rows.length
  have hcl := cycB_len rows
  have hcg : ∀ i, i < rows.length → ((cycB rows).map enB)[i]? = some (enB (cycD rows i)) := fun i h => fnB_at (cycD rows) h
  have hto := fun v hv => shL_to (rows := rows) (ini := ini) hn (v := v) hv
  have hrR : ∀ k, k < (bfsL rows ini).length → (G ((bfsL rows ini).getD k 0) && cycD rows ((bfsL rows ini).getD k 0).toNat) = true → (∀ j, j < k → (G ((bfsL rows ini).getD j 0) && cycD rows ((bfsL rows ini).getD j 0).toNat) = false) → lasL rows ini G = some (bkw (srP rows ini) rows.length ((bfsL rows ini).getD k 0) [], cycL rows ((bfsL rows ini).getD k 0)) := fun k hk h1 h2 => by
    unfold lasL
    have : (bfsL rows ini).find? (fun v => G v && cycD rows v.toNat) = some ((bfsL rows ini).getD k 0) := by
      rw [z23 hk] at h1 ⊢
      rw [List.find?_eq_some_iff_getElem]
      refine ⟨h1, k, hk, rfl, fun j hj => ?_⟩
      have := h2 j hj
      rw [z23 (by omega)] at this
      rw [this]; rfl
    rw [this]; rfl
  have hrN : (∀ j, j < (bfsL rows ini).length → (G ((bfsL rows ini).getD j 0) && cycD rows ((bfsL rows ini).getD j 0).toNat) = false) → lasL rows ini G = none := fun h => by
    unfold lasL
    have : (bfsL rows ini).find? (fun v => G v && cycD rows v.toNat) = none := by
      rw [List.find?_eq_none]
      intro x hx
      obtain ⟨j, hj, rfl⟩ := List.mem_iff_getElem.1 hx
      have := h j hj
      rw [z23 hj] at this
      rw [this]; simp
    rw [this]; rfl
  unfold lasR
  change (bfsL rows ini).length ≤ rows.length at hQl
  change InN rows.length (bfsL rows ini) at hQi
  generalize lasL rows ini G = L at *
  generalize cycB rows = C at *
  generalize bfsL rows ini = Q at *
  refine z40 z28 Tryz.func125 rfl rfl 45 Tryz.ntmps125 (by simp) ?_
  repeat' ((first | (apply AWP.go ok; rfl) | ((first | (apply z21 [] [] [0] (cC); rfl; (focus ((repeat' exact z11) <;> fail))) | (apply z21 [] [] [1] (cO); rfl; (focus ((repeat' exact z11) <;> fail)))); rfl; rfl; rfl; rfl; rfl; (focus ((repeat' first | exact z27 | apply z26) <;> (refine z39 ?_; ((exact z0 fun _ => rfl))))); (exact .inl rfl))) <;> conv => whnf)
  all_goals skip
  refine z99 (fun i : Nat => ([(0, lst 1 encL rows), (1, ints ini), (2, .fn (.func f) [] [.pt c1, .pt c2]), (9, .sref 0 0 rows.length), (17, .sref 1 0 Q.length), (18, .int Q.length), (19, .int i)], [.cells 1 (C.map enB), .cells 1 (Q.map enI)])) (fun i => i ≤ Q.length ∧ ∀ j, j < i → (G (Q.getD j 0) && cycD rows (Q.getD j 0).toNat) = false) (fun i => Q.length - i) 0 ⟨Nat.zero_le _, fun j hj => by omega⟩ (by refine SealW.reach [0, 1] [] rfl rfl rfl rfl ?_ ?_ <;> (repeat' (first | exact LocLe.refl _ | exact F2.nil | apply F2.cons | exact z14 _ | ((refine z15 rfl ?_ ?_); (focus ((repeat' ((exact z0 (fun _ => rfl)))); done))) | exact True.intro | apply And.intro))) ?_
  rintro i ⟨hi1, hno⟩
  by_cases hi2 : i < Q.length
  · have hm := getD_mem hi2
    have hx := hQi _ hm
    have gx : (Q.map enI)[i]? = some (enI (Q.getD i 0)) := by rw [List.getElem?_map, List.getElem?_eq_getElem hi2, z23 hi2]; rfl
    have cf := hf _ hx.1 hx.2
    have hsome := fun h => hrR i hi2 h hno
    have hnxt : (G (Q.getD i 0) && cycD rows (Q.getD i 0).toNat) = false → ∀ j, j < i + 1 → (G (Q.getD j 0) && cycD rows (Q.getD j 0).toNat) = false := fun h j hj => by
      by_cases e : j = i
      · subst e; exact h
      · exact hno j (by omega)
    have hsh := hto _ hm
    have csh := shortest1_new rows ini hr hi hn hN hrl (fun n => decide (n = Q.getD i 0)) 196 [.int (Q.getD i 0)] (fun x _ _ => lasso1_ok (Q.getD i 0) x)
    have car := around_new rows (Q.getD i 0) hr hx hN hrl
    rw [hsh] at csh
    rw [aroL_eq] at car
    have hb1 := bkw_pos (srP rows ini) rows.length (Q.getD i 0) []
    have hb2 := bkw_len (srP rows ini) rows.length (Q.getD i 0) []
    have hc2 := cycL_len rows (Q.getD i 0)
    have gc := hcg (Q.getD i 0).toNat (by omega)
    rw [List.length_nil] at hb2
    clear hsh hrR hrN hto hcg hm hno
    generalize bkw (srP rows ini) rows.length (Q.getD i 0) [] = B at *
    generalize cycL rows (Q.getD i 0) = Y at *
    generalize Q.getD i 0 = x at *
    obtain ⟨u, rfl⟩ : ∃ u : Nat, x = u := ⟨x.toNat, by omega⟩
    rw [Int.toNat_natCast] at *
    by_cases hg : (G (u : Int) && cycD rows u) = true
    · have hL := hsome hg
      obtain ⟨hg1, hg2⟩ := Bool.and_eq_true_iff.1 hg
      rw [hg1] at cf
      rw [hg2] at gc
      subst hL
      repeat' ((first | (apply AWP.go ok; rfl) | (apply z5; kernel_rfl) | (refine z13 (i := i) rfl gx ?_) | (refine z13 (i := u) rfl gc ?_) | (apply And.intro; first | omega | (unfold inI; omega)) | ((apply z2) <;> intro _) | (apply z4 (cf); rfl; rfl) | ((first | (apply z21 [] [2] [3] (csh); (focus ((repeat' first | exact z89 | apply z72) <;> rfl)); (focus ((repeat' exact z11) <;> fail))) | (apply z21 [] [] [4] (car); rfl; (focus ((repeat' exact z11) <;> fail)))); rfl; rfl; rfl; rfl; rfl; (focus ((repeat' first | exact z27 | apply z26) <;> (refine z39 ?_; ((exact z0 fun _ => rfl))))); (first | exact .inl rfl | (refine .inr ⟨rfl, ?_⟩; repeat' first | exact True.intro | apply And.intro | exact z50 (fun _ => rfl) _)))) <;> conv => whnf)
      all_goals first | (exfalso; omega) | skip
      all_goals
        show RetS _ _ (.tup [.sref 0 0 (B.take (B.length - 1)).length, .sref 1 0 Y.length, .bool true]) [.cells 1 ((B.take (B.length - 1)).map enI), .cells 1 (Y.map enI)] _
        refine Gl.RetS.trunc 3 (B.length - 1) rfl ?_
        conv => whnf
        (refine RetS.lay [3, 4] [] rfl rfl rfl ?_; refine RetS.done ?_ ?_ <;> (repeat' (first | exact LocLe.refl _ | exact F2.nil | apply F2.cons | exact z14 _ | (refine z80 ?_; ((simp; done))) | ((refine z15 rfl ?_ ?_); (focus ((repeat' (first | exact z0 (fun _ => rfl) | apply z94)); done))) | apply tup_le)))
      all_goals (refine z43 ?_; rw [List.map_take])
    · have hg := (Bool.not_eq_true _).mp hg
      have hn2 := hnxt hg
      cases hG : G (u : Int)
      · rw [hG] at cf
        repeat' ((first | (apply AWP.go ok; rfl) | (refine z13 (i := i) rfl gx ?_) | (apply And.intro; first | omega | (unfold inI; omega)) | ((apply z2) <;> intro _) | (apply z4 (cf); rfl; rfl)) <;> conv => whnf)
        all_goals first | (exfalso; omega) | skip
        all_goals refine z62 (i + 1) ⟨hi2, hn2⟩ (by omega) (by refine SealW.reach [0, 1] [] rfl rfl rfl rfl ?_ ?_ <;> (repeat' (first | exact LocLe.refl _ | exact F2.nil | apply F2.cons | exact z14 _ | ((refine z15 rfl ?_ ?_); (focus ((repeat' ((exact z0 (fun _ => rfl)))); done))) | exact True.intro | apply And.intro)))
      · rw [hG] at cf
        rw [hG, Bool.true_and] at hg
        rw [hg] at gc
        repeat' ((first | (apply AWP.go ok; rfl) | (refine z13 (i := i) rfl gx ?_) | (refine z13 (i := u) rfl gc ?_) | (apply And.intro; first | omega | (unfold inI; omega)) | ((apply z2) <;> intro _) | (apply z4 (cf); rfl; rfl)) <;> conv => whnf)
        all_goals first | (exfalso; omega) | skip
        all_goals refine z62 (i + 1) ⟨hi2, hn2⟩ (by omega) (by refine SealW.reach [0, 1] [] rfl rfl rfl rfl ?_ ?_ <;> (repeat' (first | exact LocLe.refl _ | exact F2.nil | apply F2.cons | exact z14 _ | ((refine z15 rfl ?_ ?_); (focus ((repeat' ((exact z0 (fun _ => rfl)))); done))) | exact True.intro | apply And.intro)))
  · have hL := hrN fun j hj => hno j (by omega)
    subst hL
    repeat' ((first | (apply AWP.go ok; rfl) | (apply And.intro; omega) | (((apply z3; omega)); intro _) | ((apply z2) <;> intro _)) <;> conv => whnf)
    all_goals first | (exfalso; omega) | skip
    all_goals show RetS _ _ (.tup [.sref 0 0 0, .sref 1 0 0, .bool false]) [.cells 1 [], .cells 1 []] _
    all_goals (refine RetS.empty 1 ?_; refine RetS.empty 1 ?_; refine RetS.lay [2, 3] [] rfl rfl rfl ?_; refine RetS.done ?_ ?_ <;> (repeat' (first | exact LocLe.refl _ | exact z91 | exact F2.nil | apply F2.cons | ((refine z15 rfl ?_ ?_); (focus ((repeat' (exact z17)); done))) | apply tup_le)))
end Go.Proofs.YtknlmbniicacmaaGreat

namespace Go.Proofs.YtknlmbniicacmaaGreat
open Go.Gl
attribute [local irreducible] z22 AWP z46 z54 z51

/-- an input within the law's bounds -/
structure Graph.ok (g : Graph) : Prop where
  mx : g.mx
  st : g.st.length ≤ 1048576
  nx : g.nx.length ≤ 1048576
  states : ∀ s ∈ g.st, s.small
  rows : ∀ r ∈ g.nx, r.length ≤ 1048576
  sumS : (g.st.map State.sz).sum ≤ 1048576
  sumN : (g.nx.map List.length).sum ≤ 1048576
theorem Graph.ok_of {g : Graph} (hg : g.mx) (h1 : g.s1 ≤ 1048576) (h2 : g.s2 ≤ 1048576) : g.ok := by
  unfold Graph.s1 tot at h1
  unfold Graph.s2 tot at h2
  refine ⟨hg, by omega, by omega, fun s hs => ?_, fun r hr => ?_, by omega, by omega⟩
  · have := le_sum State.sz hs
    unfold State.sz at this h1
    exact ⟨by omega, by omega⟩
  · have := le_sum List.length hr; omega
structure LabOk (l : List Tree) : Prop where
  mx : Lmx l
  len : l.length ≤ 1048576
  el : ∀ t ∈ l, t.sz ≤ 1048576
  sum : (l.map Tree.sz).sum ≤ 1048576
theorem LabOk.of {l : List Tree} (hl : Lmx l) (h : tot Tree.sz l ≤ 1048576) : LabOk l := by
  unfold tot at h
  exact ⟨hl, by omega, fun t ht => by have := le_sum Tree.sz ht; omega, by omega⟩

theorem toGraphS {g : Graph} (h : g.ok) : CallsA Tryz.prog 37 [.agg g.cs] [] (.agg g.cs) [] := toGraph_of g (toStateS_ok g.st h.st h.states) (toIntSS_of g.nx h.nx (fun s hs => toIntS_ok s (h.rows s hs)))
theorem toExprSS {l : List Tree} (h : LabOk l) : CallsA Tryz.prog 38 [lst 3 Tree.cs' l] [] (lst 3 Tree.cs' l) [] := toExprS_of l h.len (fun t ht => toExpr_ok t (h.el t ht))
theorem eqGraphT {g : Graph} (h : g.ok) : CallsA Tryz.prog 42 [.agg g.cs, .agg g.cs] [] (.bool true) [] := by
  have := eqGraph_of g g (eqStateS_ok g.st g.st h.mx.1 h.mx.1) (eqIntSS_of g.nx g.nx h.mx.2.1 h.mx.2.1 (fun s hs t ht => eqIntS_ok s t (h.mx.2.2 s hs) (h.mx.2.2 t ht)))
  rwa [decide_eq_true rfl] at this
theorem eqExprST {l : List Tree} (h : LabOk l) : CallsA Tryz.prog 43 [lst 3 Tree.cs' l, lst 3 Tree.cs' l] [] (.bool true) [] := by
  have := eqExprS_of l l h.mx.1 h.mx.1 (fun s hs t ht => eqExpr_ok s (h.mx.2 s hs) t (h.mx.2 t ht))
  rwa [decide_eq_true rfl] at this
theorem szGraphT (g : Graph) (hg : g.mx) (n : Int) (h0 : 0 ≤ n) (h1 : n ≤ 1048576) : CallsA Tryz.prog 33 [.agg g.cs, .int n] [] (.int (bud n (g.s1 + g.s2))) [] := szGraph_of g n (fun n h0 h1 => szStateS_ok g.st n hg.1 h0 h1) (fun n h0 h1 => szIntSS_of g.nx n hg.2.1 (fun s hs n h0 h1 => szIntS_ok s n (hg.2.2 s hs) h0 h1) h0 h1) h0 h1
theorem szExprST (l : List Tree) (hl : Lmx l) (n : Int) (h0 : 0 ≤ n) (h1 : n ≤ 1048576) : CallsA Tryz.prog 34 [lst 3 Tree.cs' l, .int n] [] (.int (bud n (tot Tree.sz l))) [] := szExprS_ok l n hl.1 hl.2 h0 h1
end Go.Proofs.YtknlmbniicacmaaGreat

namespace Go.Proofs.YtknlmbniicacmaaGreat
open Go.Gl
attribute [local irreducible] z22 AWP z46 z54 z51

end Go.Proofs.YtknlmbniicacmaaGreat

namespace Go.Proofs.YtknlmbniicacmaaGreat
open Go.Gl
attribute [local irreducible] z22 AWP z46 z54 z51

end Go.Proofs.YtknlmbniicacmaaGreat

namespace Go.Proofs.YtknlmbniicacmaaGreat
open Go.Gl
attribute [local irreducible] z22 AWP z46 z54 z51

structure Trace where
  stem : List Int
  loop : List Int
deriving DecidableEq
def Trace.cs (t : Trace) : List AC := [ints t.stem, ints t.loop]
def Trace.all (t : Trace) : List Int := t.stem ++ t.loop
end Go.Proofs.YtknlmbniicacmaaGreat

namespace Go.Proofs.YtknlmbniicacmaaGreat
open Go.Gl
attribute [local irreducible] z22 AWP z46 z54 z51

/-! the source of the drawn arguments -/
def enU (n : Int) : List AC := [.raw (.int .u8 n)]
def rdO (bs : List Int) (p : Int) : AObj := .cells 2 [[lst 1 enU bs, .int p]]
structure BytesOk (bs : List Int) : Prop where
  len : bs.length ≤ 2000
  el : ∀ x ∈ bs, 0 ≤ x ∧ x ≤ 255
end Go.Proofs.YtknlmbniicacmaaGreat

namespace Go.Proofs.YtknlmbniicacmaaGreat
open Go.Gl
attribute [local irreducible] z22 AWP z46 z54 z51

end Go.Proofs.YtknlmbniicacmaaGreat

namespace Go.Proofs.YtknlmbniicacmaaGreat
open Go.Gl
attribute [local irreducible] z22 AWP z46 z54 z51 RetS z58

theorem mx_of_sz (t : Tree) : t.sz ≤ maxLen → t.mx := by
  induction t using Tree.ind with | h t ih => ?_
  intro h
  rw [Tree.mx_iff]
  rw [Tree.sz_eq] at h
  refine ⟨by omega, fun u hu => ih u hu ?_⟩
  have := le_sum Tree.sz hu
  omega
def leaf (k v : Int) : Tree := .mk k v []
end Go.Proofs.YtknlmbniicacmaaGreat

namespace Go.Proofs.YtknlmbniicacmaaGreat
open Go.Gl
attribute [local irreducible] z22 AWP z46 z54 z51 RetS z58

end Go.Proofs.YtknlmbniicacmaaGreat

namespace Go.Proofs.YtknlmbniicacmaaGreat
open Go.Gl
attribute [local irreducible] z22 AWP z46 z54 z51 RetS z58

mutual
def subZ (t : Tree) : Tree := match t with
  | .mk k v l => if k = 2 ∧ v = -1 then .mk 0 0 [] else .mk k v (subZs l)
def subZs (l : List Tree) : List Tree := match l with
  | [] => []
  | t :: r => subZ t :: subZs r
end
end Go.Proofs.YtknlmbniicacmaaGreat

namespace Go.Proofs.YtknlmbniicacmaaGreat
open Go.Gl
attribute [local irreducible] z22 AWP z46 z54 z51 RetS z58

end Go.Proofs.YtknlmbniicacmaaGreat

namespace Go.Proofs.YtknlmbniicacmaaGreat
open Go.Gl
attribute [local irreducible] z22 AWP z46 z54 z51 RetS z58

end Go.Proofs.YtknlmbniicacmaaGreat

namespace Go.Proofs.YtknlmbniicacmaaGreat
open Go.Gl
attribute [local irreducible] z22 AWP z46 z54 z51 RetS z58

theorem Lmx_of {L : List Tree} (h1 : L.length ≤ 10) (h2 : ∀ t ∈ L, t.sz ≤ 1000) : Lmx L := ⟨by unfold maxLen; omega, fun t ht => mx_of_sz t (by have := h2 t ht; unfold maxLen; omega)⟩

end Go.Proofs.YtknlmbniicacmaaGreat

namespace Go.Proofs.YtknlmbniicacmaaGreat
open Go.Gl
attribute [local irreducible] z22 AWP z46 z54 z51 RetS z58

structure State.sm (s : State) : Prop where
  a : s.a.length ≤ 100
  b : s.b.length ≤ 100
structure Graph.sm (g : Graph) : Prop where
  st : g.st.length ≤ 100
  nx : g.nx.length ≤ 100
  el : ∀ s ∈ g.st, s.sm
  row : ∀ r ∈ g.nx, r.length ≤ 1000
theorem Graph.sm.mx {g : Graph} (h : g.sm) : g.mx := by
  have h1 := h.st
  have h2 := h.nx
  refine ⟨?_, by unfold maxLen; omega, fun l hl => by have := h.row l hl; unfold maxLen; omega⟩
  have h3 := h.el
  exact ⟨by unfold maxLen; omega, fun s hs => ⟨by have := (h3 s hs).a; unfold maxLen; omega, by have := (h3 s hs).b; unfold maxLen; omega⟩⟩

end Go.Proofs.YtknlmbniicacmaaGreat

namespace Go.Proofs.YtknlmbniicacmaaGreat
open Go.Gl
attribute [local irreducible] z22 AWP z46 z54 z51 RetS z58

end Go.Proofs.YtknlmbniicacmaaGreat

namespace Go.Proofs.YtknlmbniicacmaaGreat
open Go.Gl
attribute [local irreducible] z22 AWP z46 z54 z51 RetS z58

end Go.Proofs.YtknlmbniicacmaaGreat

namespace Go.Proofs.YtknlmbniicacmaaGreat
open Go.Gl
attribute [local irreducible] z22 AWP z46 z54 z51 RetS z58

/-! systems as data -/
structure Edge where
  fr : Int
  to : Int
  gd : Tree
  var : Int
  val : Tree
  sync : Int
def Edge.cs (e : Edge) : List AC := [.int e.fr, .int e.to, .int e.gd.kind, .int e.gd.val, lst 3 Tree.cs' e.gd.kids, .int e.var, .int e.val.kind, .int e.val.val, lst 3 Tree.cs' e.val.kids, .int e.sync]
structure Proc where
  loc : Int
  es : List Edge
def Proc.cs (p : Proc) : List AC := [.int p.loc, lst 10 Edge.cs p.es]
structure Sys where
  init : List Int
  ps : List Proc
def Sys.cs (s : Sys) : List AC := [ints s.init, lst 2 Proc.cs s.ps]
structure Edge.sm (e : Edge) : Prop where
  gd : e.gd.sz ≤ 100
  val : e.val.sz ≤ 100
  var : -1 ≤ e.var ∧ e.var ≤ 2
  sync : -2 ≤ e.sync ∧ e.sync ≤ 2
structure Proc.sm (p : Proc) : Prop where
  loc : 0 ≤ p.loc ∧ p.loc ≤ 100
  len : p.es.length ≤ 10
  el : ∀ e ∈ p.es, e.sm
structure Sys.sm (s : Sys) : Prop where
  init : s.init.length ≤ 10
  len : s.ps.length ≤ 10
  el : ∀ p ∈ s.ps, p.sm

end Go.Proofs.YtknlmbniicacmaaGreat

namespace Go.Proofs.YtknlmbniicacmaaGreat
open Go.Gl
attribute [local irreducible] z22 AWP z46 z54 z51 RetS z58

end Go.Proofs.YtknlmbniicacmaaGreat

namespace Go.Proofs.YtknlmbniicacmaaGreat
open Go.Gl
attribute [local irreducible] z22 AWP z46 z54 z51 RetS z58

noncomputable def noneB (t : Tree) : Bool := decide (t.kind = 0 ∧ t.val = 0 ∧ t.kids.length = 0)
noncomputable def edgOk (e : Edge) (n : Int) : Bool := decide (0 ≤ e.fr ∧ e.fr < n ∧ 0 ≤ e.to ∧ e.to < n ∧ n ≤ 4) && (e.gd.exprB && (decide (-2 ≤ e.sync ∧ e.sync ≤ 2 ∧ -1 ≤ e.var ∧ e.var < 3) && (if e.var < 0 then noneB e.val else e.val.exprB)))
noncomputable def procB (p : Proc) : Bool := p.es.all (fun e => edgOk e p.loc) && decide (1 ≤ p.loc ∧ p.loc ≤ 4 ∧ p.es.length ≤ 6)
noncomputable def sysB (s : Sys) : Bool := s.ps.all procB && (valsB s.init && decide (1 ≤ s.ps.length ∧ s.ps.length ≤ 3))
end Go.Proofs.YtknlmbniicacmaaGreat

namespace Go.Proofs.YtknlmbniicacmaaGreat
open Go.Gl
attribute [local irreducible] z22 AWP z46 z54 z51 RetS z58

def Sys.pr (s : Sys) (i : Nat) : Proc := s.ps.getD i ⟨0, []⟩
def Proc.eg (p : Proc) (k : Nat) : Edge := p.es.getD k ⟨0, 0, leaf 0 0, 0, leaf 0 0, 0⟩
/-- what a valid system keeps -/
structure Edge.ok (e : Edge) (n : Int) : Prop where
  to : 0 ≤ e.to ∧ e.to < n
  gd : e.gd.good
  var : -1 ≤ e.var ∧ e.var ≤ 2
  val : 0 ≤ e.var → e.val.good
  sync : -2 ≤ e.sync ∧ e.sync ≤ 2
structure Sys.ok (s : Sys) : Prop where
  n1 : 1 ≤ s.ps.length
  n3 : s.ps.length ≤ 3
  ne : ∀ i, i < s.ps.length → (s.pr i).es.length ≤ 6
  loc : ∀ i, i < s.ps.length → (s.pr i).loc ≤ 4
  eg : ∀ i k, i < s.ps.length → k < (s.pr i).es.length → ((s.pr i).eg k).ok (s.pr i).loc
  init : ValsOk s.init
theorem Sys.ok_of {s : Sys} (h : sysB s = true) : s.ok := by
  unfold sysB at h
  rw [Bool.and_eq_true, Bool.and_eq_true, decide_eq_true_iff, List.all_eq_true] at h
  obtain ⟨h1, h2, h3⟩ := h
  have hp : ∀ i, i < s.ps.length → procB (s.pr i) = true := fun i hi => by unfold Sys.pr; rw [z23 hi]; exact h1 _ (List.getElem_mem _)
  have hq : ∀ i, i < s.ps.length → (∀ e ∈ (s.pr i).es, edgOk e (s.pr i).loc = true) ∧ 1 ≤ (s.pr i).loc ∧ (s.pr i).loc ≤ 4 ∧ (s.pr i).es.length ≤ 6 := fun i hi => by
    have := hp i hi
    unfold procB at this
    rw [Bool.and_eq_true, decide_eq_true_iff, List.all_eq_true] at this
    exact this
  refine ⟨h3.1, h3.2, fun i hi => (hq i hi).2.2.2, fun i hi => (hq i hi).2.2.1, fun i k hi hk => ?_, valsOk_of h2⟩
  have he := (hq i hi).1 ((s.pr i).eg k) (by unfold Proc.eg; rw [z23 hk]; exact List.getElem_mem _)
  unfold edgOk at he
  simp only [Bool.and_eq_true, decide_eq_true_iff] at he
  obtain ⟨a1, a2, a3, a4⟩ := he
  refine ⟨⟨a1.2.2.1, a1.2.2.2.1⟩, Tree.good_of a2, ⟨a3.2.2.1, by omega⟩, fun hv => ?_, ⟨a3.1, a3.2.1⟩⟩
  rw [if_neg (by omega)] at a4
  exact Tree.good_of a4

noncomputable def rdyE (e : Edge) (st : State) (i : Nat) : Bool := decide (e.fr = st.a.getD i 0) && decide (e.gd.ev st.b ≠ 0)
structure State.ok (st : State) (s : Sys) : Prop where
  a : st.a.length = s.ps.length
  b : ValsOk st.b
structure Stp where
  p : Int
  e : Int
  q : Int
  f : Int
def Stp.cs (x : Stp) : List AC := [.int x.p, .int x.e, .int x.q, .int x.f]
structure Stp.ok (x : Stp) (s : Sys) : Prop where
  p : 0 ≤ x.p ∧ x.p < s.ps.length
  e : 0 ≤ x.e ∧ x.e < (s.pr x.p.toNat).es.length
  q : -1 ≤ x.q ∧ x.q < s.ps.length
  f : 0 ≤ x.q → 0 ≤ x.f ∧ x.f < (s.pr x.q.toNat).es.length
open Classical in
noncomputable def partR (s : Sys) (st : State) (i k : Nat) (j m : Nat) : List Stp := if j ≠ i ∧ ((s.pr j).eg m).sync = -((s.pr i).eg k).sync ∧ rdyE ((s.pr j).eg m) st j = true then [⟨i, k, j, m⟩] else []
noncomputable def partL (s : Sys) (st : State) (i k : Nat) : List Stp := cat s.ps.length fun j => cat (s.pr j).es.length (partR s st i k j)
end Go.Proofs.YtknlmbniicacmaaGreat

namespace Go.Proofs.YtknlmbniicacmaaGreat
open Go.Gl
attribute [local irreducible] z22 AWP z46 z54 z51 RetS z58

noncomputable def stepR (s : Sys) (st : State) (j m : Nat) : List Stp := if ((s.pr j).eg m).sync < 0 ∨ rdyE ((s.pr j).eg m) st j = false then [] else if ((s.pr j).eg m).sync = 0 then [⟨j, m, -1, -1⟩] else partL s st j m
noncomputable def stepL (s : Sys) (st : State) : List Stp := cat s.ps.length fun j => cat (s.pr j).es.length (stepR s st j)
/-! an edge is taken -/
noncomputable def takeS (st : State) (i : Nat) (e : Edge) : State := ⟨st.a.set i e.to, if 0 ≤ e.var then st.b.set e.var.toNat (e.val.ev st.b) else st.b⟩
end Go.Proofs.YtknlmbniicacmaaGreat

namespace Go.Proofs.YtknlmbniicacmaaGreat
open Go.Gl
attribute [local irreducible] z22 AWP z46 z54 z51 RetS z58

noncomputable def applyS (s : Sys) (st : State) (x : Stp) : State := if 0 ≤ x.q then takeS (takeS st x.p.toNat ((s.pr x.p.toNat).eg x.e.toNat)) x.q.toNat ((s.pr x.q.toNat).eg x.f.toNat) else takeS st x.p.toNat ((s.pr x.p.toNat).eg x.e.toNat)
end Go.Proofs.YtknlmbniicacmaaGreat

