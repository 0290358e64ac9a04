/- A part of the proofs over this program: T201, T29A, T29C, T202. -/
import Derived.Test.YtknlmbniicacmaaGreatG0
import Derived.Test.YtknlmbniicacmaaGreatG1
import Derived.Test.YtknlmbniicacmaaGreatG2
import Derived.Test.YtknlmbniicacmaaGreatG3
import Derived.Test.YtknlmbniicacmaaGreatP0
import Derived.Test.YtknlmbniicacmaaGreatP1
import Derived.Test.YtknlmbniicacmaaGreatP2
import Derived.Test.YtknlmbniicacmaaGreatP3
import Derived.Test.YtknlmbniicacmaaGreatP4
import Derived.Test.YtknlmbniicacmaaGreatP5
import Derived.Test.YtknlmbniicacmaaGreatP6
set_option linter.all false
namespace Go.Proofs.YtknlmbniicacmaaGreat
open Go.Gl
attribute [local irreducible] z22 AWP z46 z54 z51 RetS z58
attribute [local irreducible] EndR

theorem trc_noacc {g : Graph} {ls : List Int} {a : Aut} (hr : ∀ r ∈ z42 g ls a, InN (z42 g ls a).length r) (hi : InN (z42 g ls a).length a.ini) (hn : a.ini.Nodup) (h : trcO g ls a = none) : NoAcc (z42 g ls a) a.ini a.acc := by
  unfold trcO at h
  rw [Option.map_eq_none_iff, ← lasL_fin hr hi hn, lasL_none] at h
  intro x hx hc
  have hxN := RP.in hr hi hx
  have := h x ((z134 hr hi x).2 hx)
  cases hb : a.acc.getD (x % a.acc.length).toNat false with
  | false => rfl
  | true =>
    exfalso
    apply this
    refine ⟨hb, cycD_iff.2 ?_⟩
    rw [Int.toNat_of_nonneg hxN.1]; exact hc

set_option maxHeartbeats 6400000 in
/-- the rounds of a pass -/
theorem implMake_new (g : Graph) (hg : g.mx) (l : List Tree) (hl : Lmx l) (a : Aut) (ha : a.mx) : CallsA Tryz.prog 32 [.agg g.cs, lst 3 Tree.cs' l, .agg a.cs] [] (.tup [.agg [.sref 0 0 (mkR g l a).length], .bool (mkOk g l a)]) [.cells 1 ((mkR g l a).map enI)] := by
  have k0 := checked_ok g hg l hl a ha
  by_cases hgl : (glB g l && autB a) = true
  · rw [hgl] at k0
    obtain ⟨h1, hab⟩ := Bool.and_eq_true_iff.1 hgl
    have hG := (graphB_iff g).1 (by unfold glB at h1; exact (Bool.and_eq_true_iff.1 h1).1)
    have hL := LabelsOk.of (by unfold glB at h1; exact (Bool.and_eq_true_iff.1 h1).2)
    have hA := autB_iff.1 hab
    have k1 : CallsA Tryz.prog 40 [.agg g.cs, lst 3 Tree.cs' l, .agg a.cs] [] (.tup [.agg (ftL g l a).cs, .bool (ftO g l a).isSome]) [] := (by refine CallsA.settle (implFindTrace_new g hg l hl a ha) [] [0, 1] rfl rfl rfl ?_ ?_ <;> (repeat' (first | exact LocLe.refl _ | exact F2.nil | apply F2.cons | ((apply seal_leU rfl rfl rfl); (focus ((repeat ((exact unown_map (fun _ => rfl) _))); done)); (focus (((simp; done)); done))) | apply agg_le | apply tup_le)))
    have k2 := product_ok g hG l hL a hA
    obtain ⟨f1, f2, f3, f4, f5⟩ := prod_facts hG hA (g.st.map (z48 l))
    have hnd := hA.2.2.1.nd
    have hac := hA.1
    have hft : ftO g l a = trcO g (g.st.map (z48 l)) a := by unfold ftO; rw [if_pos hgl]
    have hmk : mkOk g l a = !(trcO g (g.st.map (z48 l)) a).isSome := by unfold mkOk; rw [hgl]; rfl
    have hno := trc_noacc (g := g) (ls := g.st.map (z48 l)) (a := a) f1 f2 hnd
    have hmR : mkR g l a = if mkOk g l a = true then makeR (z42 g (g.st.map (z48 l)) a) a.ini a.acc else [] := rfl
    rw [hft] at k1
    rw [hmk] at hmR ⊢
    generalize ftL g l a = tl at *
    generalize mkR g l a = MR at *
    generalize trcO g (g.st.map (z48 l)) a = tO at *
    cases tO with
    | some p =>
      have e : MR = [] := hmR
      subst e
      show CallsA _ _ _ _ (.tup [.agg [.sref 0 0 0], .bool false]) [.cells 1 []]
      refine z40 z28 Tryz.func32 rfl rfl 122 Tryz.ntmps32 (by simp) ?_
      repeat' ((first | (apply AWP.go ok; rfl) | (apply z4 (k0); rfl; rfl) | (apply z4 (k1); rfl; rfl)) <;> conv => whnf)
      all_goals skip
      all_goals (refine RetS.empty 1 ?_; refine RetS.lay [4] [] rfl rfl rfl ?_; refine RetS.done ?_ ?_ <;> (repeat' (first | exact LocLe.refl _ | exact z91 | exact F2.nil | apply F2.cons | ((refine z15 rfl ?_ ?_); (focus ((repeat' (exact z17)); done))) | apply agg_le | apply tup_le)))
    | none =>
      have hno := hno rfl
      have e : MR = makeR (z42 g (g.st.map (z48 l)) a) a.ini a.acc := hmR
      rw [makeR_eq f1 f2 hno] at e
      subst e
      generalize hrows : z42 g (g.st.map (z48 l)) a = rows at *
      clear hmR hmk hft hrows
      have k3' := reachable_new rows a.ini f1 f2 (by omega) f4 f5
      rw [← reachB_len rows a.ini] at k3'
      have k3 : CallsA Tryz.prog 108 [lst 1 encL rows, ints a.ini] [] (lst 1 enB (reachB rows a.ini)) [] := (by refine CallsA.settle (k3') [] [0] rfl rfl rfl ?_ ?_ <;> (repeat' (first | exact LocLe.refl _ | exact F2.nil | ((apply seal_leU rfl rfl rfl); (focus ((repeat ((exact unown_map (fun _ => rfl) _))); done)); (focus (((simp; done)); done))))))
      clear k3'
      have k4 : CallsA Tryz.prog 110 [lst 1 encL rows, ints a.ini] [] (ints (bfsL rows a.ini)) [] := (by refine CallsA.settle (order_new rows a.ini f1 f2 (by omega) f4 (by omega)) [] [0] rfl rfl rfl ?_ ?_ <;> (repeat' (first | exact LocLe.refl _ | exact F2.nil | ((apply seal_leU rfl rfl rfl); (focus ((repeat ((exact unown_map (fun _ => rfl) _))); done)); (focus (((simp; done)); done))))))
      have hQl := bfs_len f1 f2 rows.length
      show CallsA _ _ _ _ (.tup [.agg [.sref 0 0 (rkL rows a.ini a.acc (-1)).length], .bool true]) [.cells 1 ((rkL rows a.ini a.acc (-1)).map enI)]
      refine z40 z28 Tryz.func32 rfl rfl 122 Tryz.ntmps32 (by simp) ?_
      repeat' ((first | (apply AWP.go ok; rfl) | (apply And.intro; (dsimp only; omega)) | (apply z4 (k0); rfl; rfl) | (apply z4 (k1); rfl; rfl) | (apply z4 (k2); rfl; rfl) | (apply z4 (k3); rfl; rfl) | (apply z4 (k4); rfl; rfl)) <;> conv => whnf)
      all_goals skip
      have hQ4 : (bfsL rows a.ini).length ≤ 3840 := by unfold bfsL; omega
      have k5 := back_ok (bfsL rows a.ini) (by unfold maxLen; omega)
      have hRI := RoundI.init (rows := rows) (ini := a.ini) (acc := a.acc) f1 f2
      refine z99 (fun x : Nat × List Int × Bool => ([(5, .ptr 0 none 0), (6, .ptr 1 none 0), (10, .ptr 2 none 0), (11, .ptr 3 none 0), (13, lst 1 enB (reachB rows a.ini)), (14, .ptr 5 none 0), (15, ints (bfsL rows a.ini)), (16, .ptr 6 none 0)], [.cells 3 [a.cs], .cells 1 [[.nils]], .cells 1 [[.int a.acc.length]], .cells 1 [[lst 1 encL rows]], .cells 1 (x.2.1.map enI), .cells 1 [[.sref 4 0 rows.length]], .cells 1 [[.bool x.2.2]]])) (fun x => RoundI rows a.ini a.acc x.1 x.2.1 x.2.2) (fun x => match x.2.2 with
        | true => (bfsL rows a.ini).length + 1 - x.1 + 1
        | false => 0) (0, List.replicate rows.length 0, true) hRI (by refine SealW.reach [1, 2, 4, 5, 6, 7, 8] [] rfl rfl rfl rfl ?_ ?_ <;> (repeat' (first | exact LocLe.refl _ | exact F2.nil | apply F2.cons | apply ObjLe.box | ((refine z15 rfl ?_ ?_); (focus ((repeat' (exact z1 rfl)); done))) | exact True.intro | apply And.intro)) <;> ((refine z43 ?_; rw [Int.toNat_natCast, List.map_replicate]; rfl))) ?_
      rintro ⟨t, R, c⟩ hI
      dsimp only at hI
      dsimp only
      have hRl := hI.rk.len
      cases c with
      | false =>
        obtain ⟨qm, hqm⟩ : ∃ qm : Nat → Nat → Int, qm = fun (i j : Nat) => if j < i ∧ ¬ RP rows a.ini (j : Int) then -1 else R.getD j 0 := ⟨_, rfl⟩
        have q0 : fnL rows.length (qm 0) = R := by
          apply List.ext_getElem (by rw [z88]; exact hRl.symm)
          intro i h1 h2
          rw [fnL_get, hqm]
          dsimp only
          rw [if_neg (by omega), z23 h2]
        have qE : fnL rows.length (qm rows.length) = rkL rows a.ini a.acc (-1) := by
          apply List.ext_getElem (by rw [z88, rkL_len])
          intro i h1 h2
          have hi' : i < rows.length := by rw [z88] at h1; exact h1
          rw [fnL_get, ← z23 (d := 0) h2, rkL_at _ hi', hqm]
          dsimp only
          by_cases hp : RP rows a.ini (i : Int)
          · rw [if_neg (by simp [hp]), if_pos hp]
            have := hI.fin rfl (i : Int) hp
            rwa [Int.toNat_natCast] at this
          · rw [if_pos ⟨hi', hp⟩, if_neg hp]
        have qT : ∀ i : Nat, ¬ RP rows a.ini (i : Int) → qm (i + 1) = upd (qm i) i (-1) := fun i hp => by
          funext j
          by_cases h2 : j = i
          · subst h2; rw [z19, hqm]; dsimp only; rw [if_pos ⟨by omega, hp⟩]
          · rw [z37 _ _ h2, hqm]; dsimp only
            by_cases h3 : j < i
            · simp only [show j < i + 1 by omega, h3]
            · simp only [show ¬ j < i + 1 by omega, h3]
        have qF : ∀ i : Nat, RP rows a.ini (i : Int) → qm (i + 1) = qm i := fun i hp => by
          funext j
          rw [hqm]; dsimp only
          by_cases h2 : j = i
          · subst h2; rw [if_neg (by simp [hp]), if_neg (by simp [hp])]
          · by_cases h3 : j < i
            · simp only [show j < i + 1 by omega, h3]
            · simp only [show ¬ j < i + 1 by omega, h3]
        clear hqm
        have hbl := reachB_len rows a.ini
        repeat' (((apply AWP.go ok; rfl)) <;> conv => whnf)
        all_goals skip
        refine z99 (fun i : Nat => ([(6, .ptr 0 none 0), (13, lst 1 enB (reachB rows a.ini)), (14, .ptr 1 none 0), (107, .int rows.length), (108, .int i)], [.cells 1 [[.nils]], .cells 1 [[.sref 2 0 rows.length]], .cells 1 ((fnL rows.length (qm i)).map enI)])) (fun i => i ≤ rows.length) (fun i => rows.length - i) 0 (Nat.zero_le _) (by refine SealW.reach [1, 5, 4] [] rfl rfl rfl rfl ?_ ?_ <;> (repeat' (first | exact LocLe.refl _ | exact F2.nil | apply F2.cons | apply ObjLe.box | ((refine z15 rfl ?_ ?_); (focus ((repeat' ((exact z0 (fun _ => rfl)))); done))) | exact True.intro | apply And.intro)) <;> ((refine z43 ?_; rw [q0]))) ?_
        intro i hi
        by_cases hil : i < rows.length
        · have gm : ((reachB rows a.ini).map enB)[i]? = some (enB (decide (RP rows a.ini (i : Int)))) := by
            rw [List.getElem?_map, List.getElem?_eq_getElem (by omega)]
            simp [reachB]
          have g1 := fnL_at (qm i) hil
          have l1 := z88 rows.length (qm i)
          by_cases hp : RP rows a.ini (i : Int)
          · rw [decide_eq_true hp] at gm
            have e := qF i hp
            generalize reachB rows a.ini = rb at *
            repeat' ((first | (apply AWP.go ok; rfl) | (refine z13 (i := i) rfl gm ?_) | (apply And.intro; first | omega | (unfold inI; omega)) | ((apply z2) <;> intro _)) <;> conv => whnf)
            all_goals first | (exfalso; omega) | skip
            all_goals refine z62 (i + 1) hil (by show rows.length - (i + 1) < rows.length - i; omega) (by refine SealW.reach [0, 1, 2] [] rfl rfl rfl rfl ?_ ?_ <;> (repeat' (first | exact LocLe.refl _ | exact F2.nil | apply F2.cons | apply ObjLe.box | ((refine z15 rfl ?_ ?_); (focus ((repeat' ((exact z0 (fun _ => rfl)))); done))) | exact True.intro | apply And.intro)) <;> ((rw [e]; (repeat' (exact z14 _)))))
          · rw [decide_eq_false hp] at gm
            have e1 := z120 (N := rows.length) (u := i) (qm i) (-1)
            rw [← qT i hp] at e1
            generalize reachB rows a.ini = rb at *
            repeat' ((first | (apply AWP.go ok; rfl) | (refine z13 (i := i) rfl gm ?_) | (refine z13 (i := i) rfl g1 ?_) | (apply And.intro; first | omega | (unfold inI; omega)) | ((apply z2) <;> intro _)) <;> conv => whnf)
            all_goals first | (exfalso; omega) | skip
            all_goals refine z62 (i + 1) hil (by show rows.length - (i + 1) < rows.length - i; omega) (by refine SealW.reach [0, 1, 2] [] rfl rfl rfl rfl ?_ ?_ <;> (repeat' (first | exact LocLe.refl _ | exact F2.nil | apply F2.cons | apply ObjLe.box | ((refine z67 rfl ?_ ?_); (focus ((repeat' ((exact z0 (fun _ => rfl)))); done))) | exact True.intro | apply And.intro)) <;> ((refine z43 ?_; exact e1)))
        obtain rfl : i = rows.length := by omega
        rw [qE, rkL_len]
        repeat' ((first | (apply AWP.go ok; rfl) | (apply And.intro; omega) | ((first | (with_reducible apply z3; omega) | (apply z3; omega)); intro _) | ((first | apply z2 | apply z24) <;> intro _)) <;> conv => whnf)
        all_goals first | (exfalso; omega) | skip
        all_goals (refine RetS.lay [2] [] rfl rfl rfl ?_; refine RetS.done ?_ ?_ <;> (repeat' (first | exact LocLe.refl _ | exact F2.nil | apply F2.cons | exact z14 _ | ((refine z15 rfl ?_ ?_); (focus ((repeat' ((exact z0 (fun _ => rfl)))); done))))))
      | true =>
        have hps := hI.pass f1 f2 hno
        have hlt := hI.lt rfl
        repeat' ((first | (apply AWP.go ok; rfl) | (((apply z21 [] [] [7] (k5); rfl; (focus ((repeat' exact z11) <;> fail)))); rfl; rfl; rfl; rfl; rfl; (focus ((repeat' first | exact z27 | apply z26) <;> exact z74 rfl rfl)); (exact .inl rfl))) <;> conv => whnf)
        all_goals skip
        refine AWP.reach (SealW.reach (env := [(5, .ptr 1 none 0), (6, .ptr 2 none 0), (10, .ptr 3 none 0), (11, .ptr 4 none 0), (13, lst 1 enB (reachB rows a.ini)), (14, .ptr 6 none 0), (15, ints (bfsL rows a.ini)), (16, .ptr 7 none 0), (59, .fn (.func 186) [] [.ptr 0 none 0])]) (objs := [.cells 1 [[ints (bfsL rows a.ini)]], .cells 3 [a.cs], .cells 1 [[.nils]], .cells 1 [[.int a.acc.length]], .cells 1 [[lst 1 encL rows]], .cells 1 (R.map enI), .cells 1 [[.sref 5 0 rows.length]], .cells 1 [[.bool false]]]) [7, 0, 1, 2, 3, 4, 5, 6] [] rfl rfl rfl rfl ?_ ?_) ?_
        · (repeat' (first | exact LocLe.refl _ | exact True.intro | apply And.intro))
        · (repeat' (first | exact LocLe.refl _ | exact F2.nil | apply F2.cons | exact z14 _ | apply ObjLe.box | ((refine z15 rfl ?_ ?_); (focus ((repeat' ((exact z0 (fun _ => rfl)))); done)))))
        refine awp_rangeBack (M := 8) (L := bfsL rows a.ini) back1 ⟨_, _, Tryz.func186, rfl, rfl⟩ rfl (Nat.le_of_ble_eq_true rfl) (Nat.le_of_ble_eq_true rfl) (by unfold maxLen; omega) (by kernel_rfl) (by decide)
          (fun x : List Int × Bool => [.cells 3 [a.cs], .cells 1 [[.nils]], .cells 1 [[.int a.acc.length]], .cells 1 [[lst 1 encL rows]], .cells 1 (x.1.map enI), .cells 1 [[.sref 5 0 rows.length]], .cells 1 [[.bool x.2]]])
          (fun k x => pst rows a.acc (bfsL rows a.ini) R k = x) (R, false) rfl (fun _ => rfl) (pst_full _ _) ?_ ?_
        · intro k x hk hx
          have hpi := pst_inv (acc := a.acc) f1 f2 hno hI.rk (k + 1)
          have hpg := pst_grow f1 f2 hRl hI.gr ((bfsL rows a.ini).length - (k + 1)) (k + 1) (by omega)
          have hst := pst_step (rows := rows) (acc := a.acc) (R := R) hk
          rw [hx] at hpi hpg hst
          obtain ⟨R1, c1⟩ := x
          dsimp only at hpi hpg ⊢
          have hu := (z134 f1 f2 _).1 (List.getElem_mem hk)
          generalize (bfsL rows a.ini)[k] = u at *
          have huN := RP.in f1 f2 hu
          have hRl1 := hpi.len
          rw [relax_eq] at hst
          dsimp only at hst
          have hgu := hpg u hu
          have hle := rkU_le (acc := a.acc) (R := R1) hu hpi.hi
          have hWs := Wt_small (rows := rows) (acc := a.acc) ((bfsL rows a.ini).length + 1) u
          have hrowR : ∀ v ∈ rows.getD u.toNat [], RP rows a.ini v := fun v hv => .step hu hv
          have hv0 : ∀ v ∈ rows.getD u.toNat [], 0 ≤ R1.getD v.toNat 0 ∧ R1.getD v.toNat 0 ≤ 4000 := fun v hv => by
            have h1 := hpi.lo v (hrowR v hv)
            have h2 := hpi.hi v (hrowR v hv)
            have h3 := Wt_nn (rows := rows) (acc := a.acc) t v
            have h4 := Wt_small (rows := rows) (acc := a.acc) (bfsL rows a.ini).length v
            omega
          have hrk : rkU rows a.acc R1 u = rkP R1 (rows.getD u.toNat []) + (if a.acc.getD (u % a.acc.length).toNat false = true ∧ 0 < (rows.getD u.toNat []).length then 1 else 0) := rk_impl fun v hv => (hv0 v hv).1
          have hm0 : 0 ≤ u % (a.acc.length : Int) := Int.emod_nonneg _ (by omega)
          have hm1 : u % (a.acc.length : Int) < a.acc.length := Int.emod_lt_of_pos _ (by omega)
          have ga : (a.acc.map enB)[(u % (a.acc.length : Int)).toNat]? = some (enB (a.acc.getD (u % (a.acc.length : Int)).toNat false)) := by
            rw [List.getElem?_map, List.getElem?_eq_getElem (by omega), z23 (by omega)]; rfl
          have grow : (rows.map encL)[u.toNat]? = some (encL (rows.getD u.toNat [])) := by
            rw [List.getElem?_map, List.getElem?_eq_getElem (by omega), z23 (by omega)]; rfl
          have gu : (R1.map enI)[u.toNat]? = some (enI (R1.getD u.toNat 0)) := by
            rw [List.getElem?_map, List.getElem?_eq_getElem (by omega), z23 (by omega)]; rfl
          have hrb : (rows.getD u.toNat []).length ≤ 1000000000 := by rw [z23 (by omega)]; exact f4 _ (List.getElem_mem _)
          have hrN : ∀ v ∈ rows.getD u.toNat [], 0 ≤ v ∧ v < rows.length := fun v hv => RP.in f1 f2 (hrowR v hv)
          clear hrowR hle hpg hpi hx hps hI hRI hQl
          rw [hrk] at hst hgu
          clear hrk
          generalize rows.getD u.toNat [] = row at *
          generalize a.acc.getD (u % (a.acc.length : Int)).toNat false = z at *
          have hpr : ∀ j, 0 ≤ rkP R1 (row.take j) ∧ rkP R1 (row.take j) ≤ 4000 := fun j => ⟨(z90 _ _ _).1, foldmax_le (by omega) fun v hv => (hv0 v (List.mem_of_mem_take hv)).2⟩
          repeat' ((first | (apply AWP.go ok; rfl) | (refine z13 (i := u.toNat) rfl grow ?_) | (apply And.intro; omega)) <;> conv => whnf)
          all_goals skip
          refine z99 (fun j : Nat => ([(5, .ptr 1 none 0), (10, .ptr 3 none 0), (11, .ptr 4 none 0), (14, .ptr 6 none 0), (16, .ptr 7 none 0), (18, .int u), (19, .int (rkP R1 (row.take j))), (65, ints row), (66, .int row.length), (67, .int j)], [.cells 1 [[ints (bfsL rows a.ini)]], .cells 3 [a.cs], .cells 1 [[.nils]], .cells 1 [[.int a.acc.length]], .cells 1 [[lst 1 encL rows]], .cells 1 (R1.map enI), .cells 1 [[.sref 5 0 rows.length]], .cells 1 [[.bool c1]]])) (fun j => j ≤ row.length) (fun j => row.length - j) 0 (Nat.zero_le _) (by refine SealW.reach [0, 1, 2, 3, 4, 5, 6, 7] [] rfl rfl rfl rfl ?_ ?_ <;> (repeat' (first | exact LocLe.refl _ | exact F2.nil | apply F2.cons | exact z14 _ | apply ObjLe.box | ((refine z15 rfl ?_ ?_); (focus ((repeat' ((exact z0 (fun _ => rfl)))); done))) | exact True.intro | apply And.intro))) ?_
          intro j hj
          by_cases hjl : j < row.length
          · have gv : (row.map enI)[j]? = some (enI row[j]) := by rw [List.getElem?_map, List.getElem?_eq_getElem hjl]; rfl
            have hvN := hrN _ (List.getElem_mem hjl)
            have gR : (R1.map enI)[(row[j]).toNat]? = some (enI (R1.getD (row[j]).toNat 0)) := by
              rw [List.getElem?_map, List.getElem?_eq_getElem (by omega), z23 (by omega)]; rfl
            have ht := rkP_take (R := R1) hjl
            have hp1 := hpr j
            have hv1 := hv0 _ (List.getElem_mem hjl)
            generalize row[j] = v at *
            generalize rkP R1 (row.take j) = q1 at *
            generalize R1.getD v.toNat 0 = rv at *
            repeat' ((first | (apply AWP.go ok; rfl) | (apply z5; kernel_rfl) | (refine z13 (i := j) rfl gv ?_) | (refine z13 (i := v.toNat) rfl gR ?_) | (apply And.intro; first | omega | (unfold inI; omega)) | ((first | (with_reducible apply z30; omega) | (apply z3; omega)); intro _) | ((first | apply z2 | apply z8 | apply z34) <;> intro _)) <;> conv => whnf)
            all_goals first | (exfalso; omega) | skip
            all_goals refine z62 (j + 1) (by show j + 1 ≤ _; omega) (by show row.length - (j + 1) < row.length - j; omega) (by refine SealW.reach [0, 1, 2, 3, 4, 5, 6, 7] [] rfl rfl rfl rfl ?_ ?_ <;> (repeat' (first | exact LocLe.refl _ | exact F2.nil | apply F2.cons | exact z14 _ | (refine int_le ?_; omega) | apply ObjLe.box | ((refine z15 rfl ?_ ?_); (focus ((repeat' ((exact z0 (fun _ => rfl)))); done))) | exact True.intro | apply And.intro)) <;> ((rw [ht]; (repeat' (fail)))))
          obtain rfl : j = row.length := by omega
          rw [List.take_length]
          have hp1 := hpr row.length
          rw [List.take_length] at hp1
          clear hpr hv0 hrN
          generalize rkP R1 row = q at *
          have gs : ∀ v, (R1.map enI).set u.toNat (enI v) = (R1.set u.toNat v).map enI := fun v => by rw [List.map_set]
          generalize R1.getD u.toNat 0 = ru at *
          by_cases hz : z = true ∧ 0 < row.length
          · rw [if_pos hz] at hst hgu
            obtain ⟨rfl, hrl⟩ := hz
            by_cases hc : ru < q + 1
            · rw [if_pos hc] at hst
              have gs1 := gs (q + 1)
              repeat' ((first | (apply AWP.go ok; rfl) | (apply z5; kernel_rfl) | (refine z13 (i := u.toNat) rfl grow ?_) | (refine z13 (i := (u % (a.acc.length : Int)).toNat) rfl ga ?_) | (refine z13 (i := u.toNat) rfl gu ?_) | (apply And.intro; first | omega | (unfold inI; omega)) | ((first | (with_reducible apply z3; omega) | (apply z3; omega)); intro _) | ((first | apply z2 | apply z8) <;> intro _)) <;> conv => whnf)
              all_goals first | (exfalso; omega) | skip
              all_goals exact EndR.mk (R1.set u.toNat (q + 1), true) hst (by refine SealW.reach [0, 1, 2, 3, 4, 5, 6, 7] [] rfl rfl rfl rfl ?_ ?_ <;> (repeat' (first | exact LocLe.refl _ | exact F2.nil | apply F2.cons | apply ObjLe.box | ((refine z67 rfl ?_ ?_); (focus ((repeat' ((exact z0 (fun _ => rfl)))); done))) | (refine put_le (by omega) ?_) | exact True.intro)) <;> ((refine z43 ?_; exact gs1)))
            · rw [if_neg hc] at hst
              repeat' ((first | (apply AWP.go ok; rfl) | (apply z5; kernel_rfl) | (refine z13 (i := u.toNat) rfl grow ?_) | (refine z13 (i := (u % (a.acc.length : Int)).toNat) rfl ga ?_) | (refine z13 (i := u.toNat) rfl gu ?_) | (apply And.intro; first | omega | (unfold inI; omega)) | ((first | (with_reducible apply z3; omega) | (apply z3; omega)); intro _) | ((first | apply z2 | apply z8) <;> intro _)) <;> conv => whnf)
              all_goals first | (exfalso; omega) | skip
              all_goals exact EndR.mk (R1, c1) hst (by refine SealW.reach [0, 1, 2, 3, 4, 5, 6, 7] [] rfl rfl rfl rfl ?_ ?_ <;> (repeat' (first | exact LocLe.refl _ | exact F2.nil | apply F2.cons | exact z14 _ | apply ObjLe.box | ((refine z15 rfl ?_ ?_); (focus ((repeat' ((exact z0 (fun _ => rfl)))); done))) | exact True.intro)))
          · rw [if_neg hz, Int.add_zero] at hst hgu
            cases z with
            | true =>
              have hrl : row.length = 0 := by
                rcases Nat.eq_zero_or_pos row.length with h | h
                · exact h
                · exact absurd ⟨rfl, h⟩ hz
              by_cases hc : ru < q
              · rw [if_pos hc] at hst
                have gs1 := gs (q)
                repeat' ((first | (apply AWP.go ok; rfl) | (apply z5; kernel_rfl) | (refine z13 (i := u.toNat) rfl grow ?_) | (refine z13 (i := (u % (a.acc.length : Int)).toNat) rfl ga ?_) | (refine z13 (i := u.toNat) rfl gu ?_) | (apply And.intro; omega) | ((first | (with_reducible apply z3; omega) | (apply z3; omega)); intro _) | ((first | apply z2 | apply z8) <;> intro _)) <;> conv => whnf)
                all_goals first | (exfalso; omega) | skip
                all_goals exact EndR.mk (R1.set u.toNat (q), true) hst (by refine SealW.reach [0, 1, 2, 3, 4, 5, 6, 7] [] rfl rfl rfl rfl ?_ ?_ <;> (repeat' (first | exact LocLe.refl _ | exact F2.nil | apply F2.cons | apply ObjLe.box | ((refine z67 rfl ?_ ?_); (focus ((repeat' ((exact z0 (fun _ => rfl)))); done))) | (refine put_le (by omega) ?_) | exact True.intro)) <;> ((refine z43 ?_; exact gs1)))
              · rw [if_neg hc] at hst
                repeat' ((first | (apply AWP.go ok; rfl) | (apply z5; kernel_rfl) | (refine z13 (i := u.toNat) rfl grow ?_) | (refine z13 (i := (u % (a.acc.length : Int)).toNat) rfl ga ?_) | (refine z13 (i := u.toNat) rfl gu ?_) | (apply And.intro; omega) | ((first | (with_reducible apply z3; omega) | (apply z3; omega)); intro _) | ((first | apply z2 | apply z8) <;> intro _)) <;> conv => whnf)
                all_goals first | (exfalso; omega) | skip
                all_goals exact EndR.mk (R1, c1) hst (by refine SealW.reach [0, 1, 2, 3, 4, 5, 6, 7] [] rfl rfl rfl rfl ?_ ?_ <;> (repeat' (first | exact LocLe.refl _ | exact F2.nil | apply F2.cons | exact z14 _ | apply ObjLe.box | ((refine z15 rfl ?_ ?_); (focus ((repeat' ((exact z0 (fun _ => rfl)))); done))) | exact True.intro)))
            | false =>
              by_cases hc : ru < q
              · rw [if_pos hc] at hst
                have gs1 := gs (q)
                repeat' ((first | (apply AWP.go ok; rfl) | (apply z5; kernel_rfl) | (refine z13 (i := (u % (a.acc.length : Int)).toNat) rfl ga ?_) | (refine z13 (i := u.toNat) rfl gu ?_) | (apply And.intro; omega) | ((first | (with_reducible apply z3; omega) | (apply z3; omega)); intro _) | ((first | apply z2 | apply z8) <;> intro _)) <;> conv => whnf)
                all_goals first | (exfalso; omega) | skip
                all_goals exact EndR.mk (R1.set u.toNat (q), true) hst (by refine SealW.reach [0, 1, 2, 3, 4, 5, 6, 7] [] rfl rfl rfl rfl ?_ ?_ <;> (repeat' (first | exact LocLe.refl _ | exact F2.nil | apply F2.cons | apply ObjLe.box | ((refine z67 rfl ?_ ?_); (focus ((repeat' ((exact z0 (fun _ => rfl)))); done))) | (refine put_le (by omega) ?_) | exact True.intro)) <;> ((refine z43 ?_; exact gs1)))
              · rw [if_neg hc] at hst
                repeat' ((first | (apply AWP.go ok; rfl) | (apply z5; kernel_rfl) | (refine z13 (i := (u % (a.acc.length : Int)).toNat) rfl ga ?_) | (refine z13 (i := u.toNat) rfl gu ?_) | (apply And.intro; omega) | ((first | (with_reducible apply z3; omega) | (apply z3; omega)); intro _) | ((first | apply z2 | apply z8) <;> intro _)) <;> conv => whnf)
                all_goals first | (exfalso; omega) | skip
                all_goals exact EndR.mk (R1, c1) hst (by refine SealW.reach [0, 1, 2, 3, 4, 5, 6, 7] [] rfl rfl rfl rfl ?_ ?_ <;> (repeat' (first | exact LocLe.refl _ | exact F2.nil | apply F2.cons | exact z14 _ | apply ObjLe.box | ((refine z15 rfl ?_ ?_); (focus ((repeat' ((exact z0 (fun _ => rfl)))); done))) | exact True.intro)))
        · intro x hx
          rw [pst_zero] at hx
          rw [hx] at hps
          obtain ⟨R1, c1⟩ := x
          dsimp only at hps ⊢
          conv => whnf
          repeat' (((apply AWP.go ok; rfl)) <;> conv => whnf)
          all_goals skip
          have hμ : ∀ c : Bool, (match c with
            | true => (bfsL rows a.ini).length + 1 - (t + 1) + 1
            | false => 0) < (bfsL rows a.ini).length + 1 - t + 1 := by
            intro c
            cases c
            · show 0 < _; omega
            · show (bfsL rows a.ini).length + 1 - (t + 1) + 1 < _; omega
          all_goals refine z62 (t + 1, R1, c1) hps (hμ c1) (by refine SealW.reach [1, 2, 3, 4, 5, 6, 8] [] rfl rfl rfl rfl ?_ ?_ <;> (repeat' (first | exact LocLe.refl _ | exact F2.nil | apply F2.cons | exact z14 _ | apply ObjLe.box | ((refine z15 rfl ?_ ?_); (focus ((repeat' ((exact z0 (fun _ => rfl)))); done))) | exact True.intro | apply And.intro)))
  · have e : mkOk g l a = false := by unfold mkOk; rw [(Bool.not_eq_true _).mp hgl]; rfl
    have e2 : mkR g l a = [] := by unfold mkR; rw [e]; rfl
    rw [e, e2]
    rw [(Bool.not_eq_true _).mp hgl] at k0
    show CallsA _ _ _ _ (.tup [.agg [.sref 0 0 0], .bool false]) [.cells 1 []]
    refine z40 z28 Tryz.func32 rfl rfl 122 Tryz.ntmps32 (by simp) ?_
    repeat' ((first | (apply AWP.go ok; rfl) | (apply z4 (k0); rfl; rfl)) <;> conv => whnf)
    all_goals skip
    all_goals (refine RetS.empty 1 ?_; refine RetS.lay [3] [] rfl rfl rfl ?_; refine RetS.done ?_ ?_ <;> (repeat' (first | exact LocLe.refl _ | exact z91 | exact F2.nil | apply F2.cons | ((refine z15 rfl ?_ ?_); (focus ((repeat' (exact z17)); done))) | apply agg_le | apply tup_le)))
end Go.Proofs.YtknlmbniicacmaaGreat

namespace Go.Proofs.YtknlmbniicacmaaGreat
open Go.Gl
attribute [local irreducible] z22 AWP z46 z54 z51

theorem od_trans : OpensD Tryz.prog 216 Trans.cs Trans.mx :=
  (OpensD.of_succ fun k => (od_struct4 (enc := Trans.cs) Trans.mk Tryz.underlying216 rfl (by kernel_rfl) (by kernel_rfl) (by kernel_rfl) (by kernel_rfl) (od_int (enc := enI) Tryz.underlying3 (fun _ => rfl) k) (od_int (enc := enI) Tryz.underlying3 (fun _ => rfl) k) (od_int (enc := enI) Tryz.underlying3 (fun _ => rfl) k) (od_int (enc := enI) Tryz.underlying3 (fun _ => rfl) k) (fun _ _ _ _ => rfl)).imp fun xs ⟨s, e1, a, b, c, d, e, h1, h2, h3, h4⟩ => ⟨s, e1, by subst e; exact wf_inI h3⟩)
theorem od_boolS : OpensD Tryz.prog 29 (fun l => [lst 1 enB l]) (fun l => l.length ≤ maxLen) := (od_list 1 (encL := fun l => [lst 1 enB l]) Tryz.underlying29 (by kernel_rfl) (by decide) (od_bool (enc := enB) Tryz.underlying4 (fun _ => rfl)) (fun _ => rfl)).imp fun l h => ⟨l, rfl, h.1⟩
theorem od_transS : OpensD Tryz.prog 69 (fun l => [lst 4 Trans.cs l]) (fun l => l.length ≤ maxLen ∧ ∀ t ∈ l, t.mx) := od_list 4 Tryz.underlying69 (by kernel_rfl) (by decide) od_trans (fun _ => rfl)
theorem ad_aut : ArgD Tryz.prog 71 (fun a : Aut => .agg a.cs) Aut.mx :=
  argD_struct Tryz.underlying71 (OpensD.of_succ fun k => (od_struct3 (enc := Aut.cs) Aut.mk Tryz.underlying71 rfl (by kernel_rfl) (by kernel_rfl) (by kernel_rfl) (od_intS k) (od_boolS k) (od_transS k) (fun _ _ _ => rfl)).imp fun xs ⟨s, e1, a, b, c, e, h1, h2, h3⟩ => ⟨s, e1, by subst e; exact ⟨h1.1, h2, h3.1, h3.2⟩⟩)

end Go.Proofs.YtknlmbniicacmaaGreat

namespace Go.Proofs.YtknlmbniicacmaaGreat
open Go.Gl
attribute [local irreducible] z22 AWP z46 z54 z51

end Go.Proofs.YtknlmbniicacmaaGreat

namespace Go.Proofs.YtknlmbniicacmaaGreat
open Go.Gl
attribute [local irreducible] z22 AWP z46 z54 z51 RetS z58

theorem specMake_ok (g : Graph) (hg : g.mx) (l : List Tree) (hl : Lmx l) (a : Aut) (ha : a.mx) : CallsA Tryz.prog 50 [.agg g.cs, lst 3 Tree.cs' l, .agg a.cs] [] (.tup [.agg (Cert.mk (mkR g l a)).cs, .bool (mkOk g l a)]) [] := (by refine CallsA.settle (specMake_new g hg l hl a ha) [] [0] rfl rfl rfl ?_ ?_ <;> (repeat' (first | exact LocLe.refl _ | exact F2.nil | apply F2.cons | ((apply seal_leU rfl rfl rfl); (focus ((repeat ((exact unown_map (fun _ => rfl) _))); done)); (focus (((simp; done)); done))) | apply agg_le | apply tup_le)))
theorem implMakeC_new (g : Graph) (hg : g.mx) (l : List Tree) (hl : Lmx l) (a : Aut) (ha : a.mx) : CallsA Tryz.prog 32 [.agg g.cs, lst 3 Tree.cs' l, .agg a.cs] [] (.tup [.agg [.sref 0 0 (Cert.mk (mkR g l a)).ranks.length], .bool (mkOk g l a)]) [.cells 1 ((Cert.mk (mkR g l a)).ranks.map enI)] := implMake_new g hg l hl a ha
theorem mkR_le (g : Graph) (l : List Tree) (a : Aut) : (Cert.mk (mkR g l a)).ranks.length ≤ 3840 := mkR_facts.2.1
end Go.Proofs.YtknlmbniicacmaaGreat

