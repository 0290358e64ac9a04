/- A part of the proofs over this program: T60, T61, T62, T104, T104W. -/
import Derived.Test.YtppafngcahgagaaGreatG0
import Derived.Test.YtppafngcahgagaaGreatG1
import Derived.Test.YtppafngcahgagaaGreatG2
import Derived.Test.YtppafngcahgagaaGreatP0
import Derived.Test.YtppafngcahgagaaGreatP1
import Derived.Test.YtppafngcahgagaaGreatP2
import Derived.Test.YtppafngcahgagaaGreatP3
import Derived.Test.YtppafngcahgagaaGreatP4
import Derived.Test.YtppafngcahgagaaGreatP5
set_option linter.all false
namespace Go.Proofs.YtppafngcahgagaaGreat
open Go.Gl
attribute [local irreducible] z31 AWP z50 z58 z55

theorem keepBL {f : FuncId} {args : List AC} {n : Nat} {l : List Bool} (h : CallsA Tryz.prog f args [] (.sref 0 0 n) [.cells 1 (l.map enB)]) (hl : l.length = n) : CallsA Tryz.prog f args [] (lst 1 enB l) [] := by
  subst hl
  exact h.keep (enB_unown1 _) (by simp)
theorem encBL_unown (ks : List (List Bool)) : z60 (ks.map encBL) = ks.map encBL := unownLL_map (fun l x hx => by
  cases List.mem_singleton.1 hx
  rfl) ks
theorem bor_ptrB {objs : Nat → AObj} {π Bn : List Nat} {o w : Nat} {l : List (List Bool)} (ho : objs o = .cells w [[.own 1 (l.map encBL)]]) (h1 : idx π o = none) (h2 : inB Bn o = true) : bor objs π Bn (.ptr o none 0) = .pt [lst 1 encBL l] := by
  simp only [bor, h1, h2, ho]
  show AC.pt [AC.list 1 (l.map encBL).length (z60 (l.map encBL))] = _
  rw [encBL_unown, List.length_map]; rfl
theorem map_gBs (R : List Bool) : (List.range R.length).map (fun j => enB (gB R j)) = R.map enB := by
  apply List.ext_getElem (by simp)
  intro i h1 h2
  have hi : i < R.length := by simpa using h2
  simp only [List.getElem_map, List.getElem_range]
  unfold gB
  rw [z20 hi]
theorem gB_range (f : Nat → Bool) (n i : Nat) (h : i < n) : gB ((List.range n).map f) i = f i := by
  unfold gB
  rw [z20 (by simpa using h)]; simp
theorem arityB_kind {k : Int} {l : Nat} (h : (l : Int) = arityB k) : (k = 1 ∧ l = 0) ∨ (k = 2 ∧ l = 0) ∨ (k = 3 ∧ l = 1) ∨ (k = 4 ∧ l = 2) ∨ (k = 5 ∧ l = 2) ∨ (k = 6 ∧ l = 1) ∨ (k = 7 ∧ l = 2) ∨ (k = 8 ∧ l = 1) ∨ (k = 9 ∧ l = 1) ∨ (k = 10 ∧ l = 2) ∨ (k = 11 ∧ l = 1) := by
  unfold arityB at h
  split at h
  · omega
  split at h
  · omega
  split at h
  · omega
  · omega
theorem len1 {α : Type} {l : List α} (h : l.length = 1) : ∃ a, l = [a] := match l, h with
  | [a], _ => ⟨a, rfl⟩
theorem len2 {α : Type} {l : List α} (h : l.length = 2) : ∃ a b, l = [a, b] := match l, h with
  | [a, b], _ => ⟨a, b, rfl⟩

set_option maxHeartbeats 4000000 in
theorem satisfy_new (g : Graph) (hG : GB g) (L : List Int) (hL : L.length = g.st.length) (hLr : ∀ x ∈ L, 0 ≤ x ∧ x ≤ 7) (t : Tree) : ∀ d, t.shapeB d = true → CallsA Tryz.prog 57 [.agg g.cs, ints L, z49 Tree.cs' t] [] (.sref 0 0 g.st.length) [.cells 1 ((t.satB g.nx g.st.length L).map enB)] := by
  induction t using Tree.ind with | h t ih => ?_
  intro d hs
  rw [shapeB_eq, Bool.and_eq_true, decide_eq_true_eq, List.all_eq_true] at hs
  obtain ⟨⟨_, hs2, hs4, hs5⟩, hs3⟩ := hs
  have h60 := hG.1.2
  have hgl := hG.2.1
  have hin := hG.inN
  have cc : ∀ u ∈ t.kids, CallsA Tryz.prog 57 [.agg g.cs, ints L, z49 Tree.cs' u] [] (lst 1 enB (u.satB g.nx g.st.length L)) [] := fun u hu => keepBL (ih u hu _ (hs3 u hu)) (Tree.satB_len hin L u)
  clear ih
  have hLg : ∀ i, i < L.length → 0 ≤ L.getD i 0 ∧ L.getD i 0 ≤ 7 := fun i hi => by rw [z20 hi]; exact hLr _ (List.getElem_mem _)
  have hkl := arityB_kind hs2
  have hRl : (t.satB g.nx g.st.length L).length = g.st.length := Tree.satB_len hin L t
  have hRe := Tree.satB_eq g.nx g.st.length L t
  unfold opB at hRe
  have hklen : ∀ k ∈ t.kids.map (Tree.satB g.nx g.st.length L), k.length = g.st.length := fun k hk => by
    obtain ⟨u, hu, rfl⟩ := List.mem_map.1 hk
    exact Tree.satB_len hin L u
  have hkl2 : (t.kids.map (Tree.satB g.nx g.st.length L)).length = t.kids.length := by simp
  have hkat : ∀ i (hi : i < t.kids.length) (h2 : i < (t.kids.map (Tree.satB g.nx g.st.length L)).length), ((t.kids.map (Tree.satB g.nx g.st.length L)))[i] = t.kids[i].satB g.nx g.st.length L := fun i hi _ => by simp
  generalize hks : t.kids.map (Tree.satB g.nx g.st.length L) = ks at *
  generalize hR : t.satB g.nx g.st.length L = R at *
  have hl2 : t.kids.length ≤ 2 := by omega
  rw [Tree.arg_eq]
  refine z13 z23 Tryz.func57 rfl rfl 85 Tryz.ntmps57 (by simp) ?_
  repeat' ((((fail_if_success apply stopAt 2); (fail_if_success apply stopAtS 2); apply AWP.go ok; rfl)) <;> conv => whnf)
  refine AWP.reach (Gl.Reach.weaken (es' := [[.own 1 []]]) 3 rfl rfl (fun i e' h => by
      match i, h with
      | 0, h => cases h; exact ⟨_, rfl, rfl, fun j x' hx => by
          match j, hx with
          | 0, hx => cases hx; exact ⟨_, rfl, nils_own⟩
          | j + 1, hx => simp at hx⟩
      | i + 1, h => simp at h) rfl) ?_
  conv => whnf
  repeat' ((fail) <;> conv => whnf)
  refine z71 (fun i : Nat => ([(3, .ptr 0 none 0), (4, .ptr 1 none 0), (5, .ptr 2 none 0), (7, .ptr 3 none 0), (14, lst 3 Tree.cs' t.kids), (15, .int t.kids.length), (16, .int i)], [.cells 2 [[lst 2 State.cs g.st, lst 1 encL g.nx]], .cells 1 [[ints L]], .cells 3 [[.int t.kind, .int t.val, lst 3 Tree.cs' t.kids]], .cells 1 [[.own 1 ((ks.take i).map encBL)]]])) (fun i => i ≤ t.kids.length) (fun i => t.kids.length - i) 0 (by omega) ⟨[0, 1, 2, 3], rfl, by decide, rfl, ⟨⟨rfl, rfl⟩, ⟨rfl, rfl⟩, ⟨rfl, rfl⟩, ⟨rfl, rfl⟩, ⟨rfl, rfl⟩, ⟨rfl, rfl⟩, ⟨rfl, rfl⟩, trivial⟩, ⟨z19 rfl rfl, z19 rfl rfl, z19 rfl rfl, z19 rfl rfl, trivial⟩⟩ ?_
  intro i hi
  have htl : ((ks.take i).map encBL).length = i := by simp; omega
  by_cases hil : i < t.kids.length
  · have ci := cc t.kids[i] (List.getElem_mem _)
    have hka := hkat i hil (by omega)
    rw [← hka] at ci
    repeat' ((first | ((fail_if_success apply stopAt 5); (fail_if_success apply stopAtS 5); apply AWP.go ok; rfl) | (apply And.intro; omega) | (((with_reducible apply z15; omega)); intro _) | ((apply z8) <;> intro _)) <;> conv => whnf)
    all_goals first | (exfalso; omega) | skip
    refine AWP.reach (Gl.Reach.exposeD (e := [.own 1 ((ks.take i).map encBL)]) 3 0 0 rfl rfl rfl rfl) ?_
    conv => whnf
    rw [htl]
    repeat' ((first | ((fail_if_success apply stopAt 6); (fail_if_success apply stopAtS 6); apply AWP.go ok; rfl) | (apply z37; kernel_rfl) | (apply And.intro; first | (dsimp only; omega) | exact ⟨rfl, z30 rfl z33⟩) | (apply z12 (ci); rfl; rfl)) <;> conv => whnf)
    all_goals skip
    refine AWP.reach (Gl.Reach.absorb 3 7 0 0 rfl rfl rfl rfl (by simp; omega) rfl (z43 (fun e he => (z10 (fun _ => rfl)) e (List.mem_of_mem_take he)) (flat_cons rfl z65)) rfl) ?_
    conv => whnf
    repeat' ((first | (apply AWP.go ok; rfl) | (apply And.intro; (unfold inI; omega))) <;> conv => whnf)
    refine z52 (i + 1) [0, 1, 2, 3] (by omega) (by omega) ⟨rfl, by decide, rfl, ⟨⟨rfl, rfl⟩, ⟨rfl, rfl⟩, ⟨rfl, rfl⟩, ⟨rfl, rfl⟩, ⟨rfl, rfl⟩, ⟨rfl, rfl⟩, ⟨rfl, rfl⟩, trivial⟩, ⟨z19 rfl rfl, z19 rfl rfl, z19 rfl rfl, z19 rfl (z25 ?_), trivial⟩⟩
    simp only [List.set_cons_zero, renL, AC.ren]
    rw [List.take_succ_eq_append_getElem (show i < ks.length by omega), List.map_append, List.take_of_length_le (by rw [htl]; exact Nat.le_refl _)]
    rfl
  repeat' ((first | ((fail_if_success apply stopAt 7); (fail_if_success apply stopAtS 7); apply AWP.go ok; rfl) | (apply And.intro; omega) | (((with_reducible apply z15; omega)); intro _) | ((apply z8) <;> intro _)) <;> conv => whnf)
  all_goals first | (exfalso; omega) | skip
  rw [show ks.take i = ks from List.take_of_length_le (by omega)]
  refine AWP.reach (SealL.reach (π := []) (Bn := [0, 1, 2, 3]) (env := [(3, .pt g.cs), (4, .pt [ints L]), (5, .pt [.int t.kind, .int t.val, lst 3 Tree.cs' t.kids]), (7, .pt [lst 1 encBL ks])]) (objs := []) ⟨rfl, rfl, by simp, rfl, by simp, ⟨rfl, rfl, rfl, bor_ptrB rfl rfl rfl, trivial⟩, rfl⟩) ?_
  conv => whnf
  clear htl hi
  generalize hn : g.st.length = n at *
  rcases hkl with ⟨hk, hl⟩ | ⟨hk, hl⟩ | ⟨hk, hl⟩ | ⟨hk, hl⟩ | ⟨hk, hl⟩ | ⟨hk, hl⟩ | ⟨hk, hl⟩ | ⟨hk, hl⟩ | ⟨hk, hl⟩ | ⟨hk, hl⟩ | ⟨hk, hl⟩
  · rw [if_neg (by omega), if_neg (by omega), if_neg (by omega), if_neg (by omega), if_neg (by omega), if_neg (by omega)] at hRe
    have hf : ∀ i, i < n → CallsA Tryz.prog 127 ([.int i] ++ []) [] (.bool (gB R i)) [] := fun i hi => by
      rw [hRe, gB_range _ _ _ hi]
      exact (by unfold ptB; rw [if_neg (by omega), if_neg (by omega), if_neg (by omega), if_neg (by omega)]; exact sat1_ok _)
    repeat' ((first | (apply AWP.go ok; rfl) | (apply And.intro; first | omega | (dsimp only; omega)) | ((apply z8) <;> intro _)) <;> conv => whnf)
    all_goals first | (exfalso; omega) | skip
    refine z71 (fun i : Nat => ([(10, .fn (.func 127) [] []), (11, .sref 0 0 n), (73, .int n), (74, .int i)], [.cells 1 (mixL (fun j => enB (gB R j)) (List.replicate n [AC.bool false]) i)])) (fun i => i ≤ n) (fun i => n - i) 0 (by omega) ⟨[0], rfl, by decide, rfl, ⟨⟨rfl, rfl⟩, ⟨rfl, by simp only [← hn]; rfl⟩, ⟨rfl, by simp only [← hn]; rfl⟩, ⟨rfl, rfl⟩, trivial⟩, ⟨z16 (z25 (by rw [mixL_zero, ← hn]; rfl)) (z43 (z10 fun _ => rfl) fun e he => z36 rfl e (List.mem_of_mem_drop he)), trivial⟩⟩ ?_
    intro i hi
    by_cases hil : i < n
    · have ci := hf i hil
      have hg : (mixL (fun j => enB (gB R j)) (List.replicate n [AC.bool false]) i)[i]? = some [AC.bool false] := by
        unfold mixL
        rw [List.getElem?_append_right (by simp)]
        simp only [List.length_map, List.length_range, Nat.sub_self]
        rw [List.getElem?_drop, Nat.add_zero, List.getElem?_replicate, if_pos hil]
      repeat' ((first | (apply AWP.go ok; rfl) | (refine z21 (i := i) rfl hg ?_) | (apply And.intro; first | omega | (unfold inI; omega)) | ((apply z8) <;> intro _) | (apply z12 (ci); rfl; rfl)) <;> conv => whnf)
      all_goals first | (exfalso; omega) | skip
      all_goals exact z52 (i + 1) [0] (by omega) (by omega) ⟨rfl, by decide, rfl, ⟨⟨rfl, rfl⟩, ⟨rfl, rfl⟩, ⟨rfl, rfl⟩, ⟨rfl, rfl⟩, trivial⟩, ⟨z16 (z25 (mixL_set (by simpa using hil) (Int.toNat_natCast i) rfl)) (z43 (z10 fun _ => rfl) fun e he => z36 rfl e (List.mem_of_mem_drop he)), trivial⟩⟩
    · repeat' ((first | (apply AWP.go ok; rfl) | ((apply z8) <;> intro _)) <;> conv => whnf)
      all_goals first | (exfalso; omega) | skip
      all_goals
        have e0 : mixL (fun j => enB (gB R j)) (List.replicate n [AC.bool false]) i = R.map enB := by
          rw [mixL_end (by simp; omega), ← map_gBs, hRl, show i = n by omega]
        rw [e0]
        exact z89 rfl (z10 fun _ => rfl) rfl rfl rfl
  · rw [if_neg (by omega), if_neg (by omega), if_neg (by omega), if_neg (by omega), if_neg (by omega), if_neg (by omega)] at hRe
    have hf : ∀ i, i < n → CallsA Tryz.prog 133 ([.int i] ++ [.pt [ints L], .pt [.int t.kind, .int t.val, lst 3 Tree.cs' t.kids]]) [] (.bool (gB R i)) [] := fun i hi => by
      rw [hRe, gB_range _ _ _ hi]
      exact (by unfold ptB; rw [if_pos hk]; unfold mostB at hs5; rw [if_pos hk] at hs5; exact sat6_ok L _ _ _ i (by omega) (by omega) (hLg i (by omega)).1 (hLg i (by omega)).2 hs4 hs5)
    repeat' ((first | (apply AWP.go ok; rfl) | (apply And.intro; first | omega | (dsimp only; omega)) | ((apply z8) <;> intro _)) <;> conv => whnf)
    all_goals first | (exfalso; omega) | skip
    refine z71 (fun i : Nat => ([(10, .fn (.func 133) [] [.pt [ints L], .pt [.int t.kind, .int t.val, lst 3 Tree.cs' t.kids]]), (11, .sref 0 0 n), (73, .int n), (74, .int i)], [.cells 1 (mixL (fun j => enB (gB R j)) (List.replicate n [AC.bool false]) i)])) (fun i => i ≤ n) (fun i => n - i) 0 (by omega) ⟨[0], rfl, by decide, rfl, ⟨⟨rfl, rfl⟩, ⟨rfl, by simp only [← hn]; rfl⟩, ⟨rfl, by simp only [← hn]; rfl⟩, ⟨rfl, rfl⟩, trivial⟩, ⟨z16 (z25 (by rw [mixL_zero, ← hn]; rfl)) (z43 (z10 fun _ => rfl) fun e he => z36 rfl e (List.mem_of_mem_drop he)), trivial⟩⟩ ?_
    intro i hi
    by_cases hil : i < n
    · have ci := hf i hil
      have hg : (mixL (fun j => enB (gB R j)) (List.replicate n [AC.bool false]) i)[i]? = some [AC.bool false] := by
        unfold mixL
        rw [List.getElem?_append_right (by simp)]
        simp only [List.length_map, List.length_range, Nat.sub_self]
        rw [List.getElem?_drop, Nat.add_zero, List.getElem?_replicate, if_pos hil]
      repeat' ((first | (apply AWP.go ok; rfl) | (refine z21 (i := i) rfl hg ?_) | (apply And.intro; first | omega | (unfold inI; omega)) | ((apply z8) <;> intro _) | (apply z12 (ci); rfl; rfl)) <;> conv => whnf)
      all_goals first | (exfalso; omega) | skip
      all_goals exact z52 (i + 1) [0] (by omega) (by omega) ⟨rfl, by decide, rfl, ⟨⟨rfl, rfl⟩, ⟨rfl, rfl⟩, ⟨rfl, rfl⟩, ⟨rfl, rfl⟩, trivial⟩, ⟨z16 (z25 (mixL_set (by simpa using hil) (Int.toNat_natCast i) rfl)) (z43 (z10 fun _ => rfl) fun e he => z36 rfl e (List.mem_of_mem_drop he)), trivial⟩⟩
    · repeat' ((first | (apply AWP.go ok; rfl) | ((apply z8) <;> intro _)) <;> conv => whnf)
      all_goals first | (exfalso; omega) | skip
      all_goals
        have e0 : mixL (fun j => enB (gB R j)) (List.replicate n [AC.bool false]) i = R.map enB := by
          rw [mixL_end (by simp; omega), ← map_gBs, hRl, show i = n by omega]
        rw [e0]
        exact z89 rfl (z10 fun _ => rfl) rfl rfl rfl
  · obtain ⟨a, rfl⟩ := len1 (hkl2.trans hl)
    have ha := hklen a (by simp)
    rw [if_neg (by omega), if_neg (by omega), if_neg (by omega), if_neg (by omega), if_neg (by omega), if_neg (by omega)] at hRe
    have hf : ∀ i, i < n → CallsA Tryz.prog 134 ([.int i] ++ [.pt [lst 1 encBL [a]]]) [] (.bool (gB R i)) [] := fun i hi => by
      rw [hRe, gB_range _ _ _ hi]
      exact (by unfold ptB; rw [if_neg (by omega), if_pos hk]; exact sat7_ok a n (by omega) ha i hi)
    repeat' ((first | (apply AWP.go ok; rfl) | (apply And.intro; first | omega | (dsimp only; omega)) | ((apply z8) <;> intro _)) <;> conv => whnf)
    all_goals first | (exfalso; omega) | skip
    refine z71 (fun i : Nat => ([(10, .fn (.func 134) [] [.pt [lst 1 encBL [a]]]), (11, .sref 0 0 n), (73, .int n), (74, .int i)], [.cells 1 (mixL (fun j => enB (gB R j)) (List.replicate n [AC.bool false]) i)])) (fun i => i ≤ n) (fun i => n - i) 0 (by omega) ⟨[0], rfl, by decide, rfl, ⟨⟨rfl, rfl⟩, ⟨rfl, by simp only [← hn]; rfl⟩, ⟨rfl, by simp only [← hn]; rfl⟩, ⟨rfl, rfl⟩, trivial⟩, ⟨z16 (z25 (by rw [mixL_zero, ← hn]; rfl)) (z43 (z10 fun _ => rfl) fun e he => z36 rfl e (List.mem_of_mem_drop he)), trivial⟩⟩ ?_
    intro i hi
    by_cases hil : i < n
    · have ci := hf i hil
      have hg : (mixL (fun j => enB (gB R j)) (List.replicate n [AC.bool false]) i)[i]? = some [AC.bool false] := by
        unfold mixL
        rw [List.getElem?_append_right (by simp)]
        simp only [List.length_map, List.length_range, Nat.sub_self]
        rw [List.getElem?_drop, Nat.add_zero, List.getElem?_replicate, if_pos hil]
      repeat' ((first | (apply AWP.go ok; rfl) | (refine z21 (i := i) rfl hg ?_) | (apply And.intro; first | omega | (unfold inI; omega)) | ((apply z8) <;> intro _) | (apply z12 (ci); rfl; rfl)) <;> conv => whnf)
      all_goals first | (exfalso; omega) | skip
      all_goals exact z52 (i + 1) [0] (by omega) (by omega) ⟨rfl, by decide, rfl, ⟨⟨rfl, rfl⟩, ⟨rfl, rfl⟩, ⟨rfl, rfl⟩, ⟨rfl, rfl⟩, trivial⟩, ⟨z16 (z25 (mixL_set (by simpa using hil) (Int.toNat_natCast i) rfl)) (z43 (z10 fun _ => rfl) fun e he => z36 rfl e (List.mem_of_mem_drop he)), trivial⟩⟩
    · repeat' ((first | (apply AWP.go ok; rfl) | ((apply z8) <;> intro _)) <;> conv => whnf)
      all_goals first | (exfalso; omega) | skip
      all_goals
        have e0 : mixL (fun j => enB (gB R j)) (List.replicate n [AC.bool false]) i = R.map enB := by
          rw [mixL_end (by simp; omega), ← map_gBs, hRl, show i = n by omega]
        rw [e0]
        exact z89 rfl (z10 fun _ => rfl) rfl rfl rfl
  · obtain ⟨a, b, rfl⟩ := len2 (hkl2.trans hl)
    have ha := hklen a (by simp)
    have hb := hklen b (by simp)
    rw [if_neg (by omega), if_neg (by omega), if_neg (by omega), if_neg (by omega), if_neg (by omega), if_neg (by omega)] at hRe
    have hf : ∀ i, i < n → CallsA Tryz.prog 135 ([.int i] ++ [.pt [lst 1 encBL [a, b]]]) [] (.bool (gB R i)) [] := fun i hi => by
      rw [hRe, gB_range _ _ _ hi]
      exact (by unfold ptB; rw [if_neg (by omega), if_neg (by omega), if_pos hk]; exact sat8_ok a b n (by omega) ha hb i hi)
    repeat' ((first | (apply AWP.go ok; rfl) | (apply And.intro; first | omega | (dsimp only; omega)) | ((apply z8) <;> intro _)) <;> conv => whnf)
    all_goals first | (exfalso; omega) | skip
    refine z71 (fun i : Nat => ([(10, .fn (.func 135) [] [.pt [lst 1 encBL [a, b]]]), (11, .sref 0 0 n), (73, .int n), (74, .int i)], [.cells 1 (mixL (fun j => enB (gB R j)) (List.replicate n [AC.bool false]) i)])) (fun i => i ≤ n) (fun i => n - i) 0 (by omega) ⟨[0], rfl, by decide, rfl, ⟨⟨rfl, rfl⟩, ⟨rfl, by simp only [← hn]; rfl⟩, ⟨rfl, by simp only [← hn]; rfl⟩, ⟨rfl, rfl⟩, trivial⟩, ⟨z16 (z25 (by rw [mixL_zero, ← hn]; rfl)) (z43 (z10 fun _ => rfl) fun e he => z36 rfl e (List.mem_of_mem_drop he)), trivial⟩⟩ ?_
    intro i hi
    by_cases hil : i < n
    · have ci := hf i hil
      have hg : (mixL (fun j => enB (gB R j)) (List.replicate n [AC.bool false]) i)[i]? = some [AC.bool false] := by
        unfold mixL
        rw [List.getElem?_append_right (by simp)]
        simp only [List.length_map, List.length_range, Nat.sub_self]
        rw [List.getElem?_drop, Nat.add_zero, List.getElem?_replicate, if_pos hil]
      repeat' ((first | (apply AWP.go ok; rfl) | (refine z21 (i := i) rfl hg ?_) | (apply And.intro; first | omega | (unfold inI; omega)) | ((apply z8) <;> intro _) | (apply z12 (ci); rfl; rfl)) <;> conv => whnf)
      all_goals first | (exfalso; omega) | skip
      all_goals exact z52 (i + 1) [0] (by omega) (by omega) ⟨rfl, by decide, rfl, ⟨⟨rfl, rfl⟩, ⟨rfl, rfl⟩, ⟨rfl, rfl⟩, ⟨rfl, rfl⟩, trivial⟩, ⟨z16 (z25 (mixL_set (by simpa using hil) (Int.toNat_natCast i) rfl)) (z43 (z10 fun _ => rfl) fun e he => z36 rfl e (List.mem_of_mem_drop he)), trivial⟩⟩
    · repeat' ((first | (apply AWP.go ok; rfl) | ((apply z8) <;> intro _)) <;> conv => whnf)
      all_goals first | (exfalso; omega) | skip
      all_goals
        have e0 : mixL (fun j => enB (gB R j)) (List.replicate n [AC.bool false]) i = R.map enB := by
          rw [mixL_end (by simp; omega), ← map_gBs, hRl, show i = n by omega]
        rw [e0]
        exact z89 rfl (z10 fun _ => rfl) rfl rfl rfl
  · obtain ⟨a, b, rfl⟩ := len2 (hkl2.trans hl)
    have ha := hklen a (by simp)
    have hb := hklen b (by simp)
    rw [if_neg (by omega), if_neg (by omega), if_neg (by omega), if_neg (by omega), if_neg (by omega), if_neg (by omega)] at hRe
    have hf : ∀ i, i < n → CallsA Tryz.prog 136 ([.int i] ++ [.pt [lst 1 encBL [a, b]]]) [] (.bool (gB R i)) [] := fun i hi => by
      rw [hRe, gB_range _ _ _ hi]
      exact (by unfold ptB; rw [if_neg (by omega), if_neg (by omega), if_neg (by omega), if_pos hk]; exact sat9_ok a b n (by omega) ha hb i hi)
    repeat' ((first | (apply AWP.go ok; rfl) | (apply And.intro; first | omega | (dsimp only; omega)) | ((apply z8) <;> intro _)) <;> conv => whnf)
    all_goals first | (exfalso; omega) | skip
    refine z71 (fun i : Nat => ([(10, .fn (.func 136) [] [.pt [lst 1 encBL [a, b]]]), (11, .sref 0 0 n), (73, .int n), (74, .int i)], [.cells 1 (mixL (fun j => enB (gB R j)) (List.replicate n [AC.bool false]) i)])) (fun i => i ≤ n) (fun i => n - i) 0 (by omega) ⟨[0], rfl, by decide, rfl, ⟨⟨rfl, rfl⟩, ⟨rfl, by simp only [← hn]; rfl⟩, ⟨rfl, by simp only [← hn]; rfl⟩, ⟨rfl, rfl⟩, trivial⟩, ⟨z16 (z25 (by rw [mixL_zero, ← hn]; rfl)) (z43 (z10 fun _ => rfl) fun e he => z36 rfl e (List.mem_of_mem_drop he)), trivial⟩⟩ ?_
    intro i hi
    by_cases hil : i < n
    · have ci := hf i hil
      have hg : (mixL (fun j => enB (gB R j)) (List.replicate n [AC.bool false]) i)[i]? = some [AC.bool false] := by
        unfold mixL
        rw [List.getElem?_append_right (by simp)]
        simp only [List.length_map, List.length_range, Nat.sub_self]
        rw [List.getElem?_drop, Nat.add_zero, List.getElem?_replicate, if_pos hil]
      repeat' ((first | (apply AWP.go ok; rfl) | (refine z21 (i := i) rfl hg ?_) | (apply And.intro; first | omega | (unfold inI; omega)) | ((apply z8) <;> intro _) | (apply z12 (ci); rfl; rfl)) <;> conv => whnf)
      all_goals first | (exfalso; omega) | skip
      all_goals exact z52 (i + 1) [0] (by omega) (by omega) ⟨rfl, by decide, rfl, ⟨⟨rfl, rfl⟩, ⟨rfl, rfl⟩, ⟨rfl, rfl⟩, ⟨rfl, rfl⟩, trivial⟩, ⟨z16 (z25 (mixL_set (by simpa using hil) (Int.toNat_natCast i) rfl)) (z43 (z10 fun _ => rfl) fun e he => z36 rfl e (List.mem_of_mem_drop he)), trivial⟩⟩
    · repeat' ((first | (apply AWP.go ok; rfl) | ((apply z8) <;> intro _)) <;> conv => whnf)
      all_goals first | (exfalso; omega) | skip
      all_goals
        have e0 : mixL (fun j => enB (gB R j)) (List.replicate n [AC.bool false]) i = R.map enB := by
          rw [mixL_end (by simp; omega), ← map_gBs, hRl, show i = n by omega]
        rw [e0]
        exact z89 rfl (z10 fun _ => rfl) rfl rfl rfl
  · obtain ⟨a, rfl⟩ := len1 (hkl2.trans hl)
    have ha := hklen a (by simp)
    rw [if_pos hk] at hRe
    have hf : ∀ i, i < n → CallsA Tryz.prog 137 ([.int i] ++ [.pt g.cs, .pt [lst 1 encBL [a]]]) [] (.bool (gB R i)) [] := fun i hi => by
      rw [hRe, gB_nxL _ _ _ _ _ hi]
      exact (sat10_ok g hG a (ha.trans hn.symm) i (by omega))
    repeat' ((first | (apply AWP.go ok; rfl) | (apply And.intro; first | omega | (dsimp only; omega)) | ((apply z8) <;> intro _)) <;> conv => whnf)
    all_goals first | (exfalso; omega) | skip
    refine z71 (fun i : Nat => ([(10, .fn (.func 137) [] [.pt g.cs, .pt [lst 1 encBL [a]]]), (11, .sref 0 0 n), (73, .int n), (74, .int i)], [.cells 1 (mixL (fun j => enB (gB R j)) (List.replicate n [AC.bool false]) i)])) (fun i => i ≤ n) (fun i => n - i) 0 (by omega) ⟨[0], rfl, by decide, rfl, ⟨⟨rfl, rfl⟩, ⟨rfl, by simp only [← hn]; rfl⟩, ⟨rfl, by simp only [← hn]; rfl⟩, ⟨rfl, rfl⟩, trivial⟩, ⟨z16 (z25 (by rw [mixL_zero, ← hn]; rfl)) (z43 (z10 fun _ => rfl) fun e he => z36 rfl e (List.mem_of_mem_drop he)), trivial⟩⟩ ?_
    intro i hi
    by_cases hil : i < n
    · have ci := hf i hil
      have hg : (mixL (fun j => enB (gB R j)) (List.replicate n [AC.bool false]) i)[i]? = some [AC.bool false] := by
        unfold mixL
        rw [List.getElem?_append_right (by simp)]
        simp only [List.length_map, List.length_range, Nat.sub_self]
        rw [List.getElem?_drop, Nat.add_zero, List.getElem?_replicate, if_pos hil]
      repeat' ((first | (apply AWP.go ok; rfl) | (refine z21 (i := i) rfl hg ?_) | (apply And.intro; first | omega | (unfold inI; omega)) | ((apply z8) <;> intro _) | (apply z12 (ci); rfl; rfl)) <;> conv => whnf)
      all_goals first | (exfalso; omega) | skip
      all_goals exact z52 (i + 1) [0] (by omega) (by omega) ⟨rfl, by decide, rfl, ⟨⟨rfl, rfl⟩, ⟨rfl, rfl⟩, ⟨rfl, rfl⟩, ⟨rfl, rfl⟩, trivial⟩, ⟨z16 (z25 (mixL_set (by simpa using hil) (Int.toNat_natCast i) rfl)) (z43 (z10 fun _ => rfl) fun e he => z36 rfl e (List.mem_of_mem_drop he)), trivial⟩⟩
    · repeat' ((first | (apply AWP.go ok; rfl) | ((apply z8) <;> intro _)) <;> conv => whnf)
      all_goals first | (exfalso; omega) | skip
      all_goals
        have e0 : mixL (fun j => enB (gB R j)) (List.replicate n [AC.bool false]) i = R.map enB := by
          rw [mixL_end (by simp; omega), ← map_gBs, hRl, show i = n by omega]
        rw [e0]
        exact z89 rfl (z10 fun _ => rfl) rfl rfl rfl
  · obtain ⟨a, b, rfl⟩ := len2 (hkl2.trans hl)
    have ha := hklen a (by simp)
    have hb := hklen b (by simp)
    rw [if_neg (by omega), if_neg (by omega), if_pos hk] at hRe
    have cf := fix2_ok [lst 1 encBL [a, b]] g.cs g (by omega) false (unH g.nx false a b) (by rw [hn]; exact unH_mono hin a b) 128 (fun i S hi hS => sat2_ok g hG a b (ha.trans hn.symm) (hb.trans hn.symm) i S hi hS)
    rw [hn] at cf
    repeat' ((first | (apply AWP.go ok; rfl) | (apply And.intro; omega) | ((apply z8) <;> intro _) | (((apply z11 [] [] [0] (cf); rfl; (focus ((repeat' exact z6) <;> fail)))); rfl; rfl; rfl; rfl; rfl; (focus ((repeat' first | exact z17 | apply z14) <;> (refine z26 ?_; ((exact z10 fun _ => rfl))))); (exact .inl rfl))) <;> conv => whnf)
    all_goals first | (exfalso; omega) | skip
    rw [hRe]
    exact z89 rfl (z10 fun _ => rfl) rfl rfl rfl
  · obtain ⟨a, rfl⟩ := len1 (hkl2.trans hl)
    have ha := hklen a (by simp)
    rw [if_neg (by omega), if_neg (by omega), if_neg (by omega), if_neg (by omega), if_pos hk] at hRe
    have cf := fix2_ok [lst 1 encBL [a]] g.cs g (by omega) true (alH g.nx false a) (by rw [hn]; exact alH_mono hin a) 129 (fun i S hi hS => sat3_ok g hG a (ha.trans hn.symm) i S hi hS)
    rw [hn] at cf
    repeat' ((first | (apply AWP.go ok; rfl) | (apply And.intro; omega) | ((apply z8) <;> intro _) | (((apply z11 [] [] [0] (cf); rfl; (focus ((repeat' exact z6) <;> fail)))); rfl; rfl; rfl; rfl; rfl; (focus ((repeat' first | exact z17 | apply z14) <;> (refine z26 ?_; ((exact z10 fun _ => rfl))))); (exact .inl rfl))) <;> conv => whnf)
    all_goals first | (exfalso; omega) | skip
    rw [hRe]
    exact z89 rfl (z10 fun _ => rfl) rfl rfl rfl
  · obtain ⟨a, rfl⟩ := len1 (hkl2.trans hl)
    have ha := hklen a (by simp)
    rw [if_neg (by omega), if_pos hk] at hRe
    have hf : ∀ i, i < n → CallsA Tryz.prog 138 ([.int i] ++ [.pt g.cs, .pt [lst 1 encBL [a]]]) [] (.bool (gB R i)) [] := fun i hi => by
      rw [hRe, gB_nxL _ _ _ _ _ hi]
      exact (sat11_ok g hG a (ha.trans hn.symm) i (by omega))
    repeat' ((first | (apply AWP.go ok; rfl) | (apply And.intro; first | omega | (dsimp only; omega)) | ((apply z8) <;> intro _)) <;> conv => whnf)
    all_goals first | (exfalso; omega) | skip
    refine z71 (fun i : Nat => ([(10, .fn (.func 138) [] [.pt g.cs, .pt [lst 1 encBL [a]]]), (11, .sref 0 0 n), (73, .int n), (74, .int i)], [.cells 1 (mixL (fun j => enB (gB R j)) (List.replicate n [AC.bool false]) i)])) (fun i => i ≤ n) (fun i => n - i) 0 (by omega) ⟨[0], rfl, by decide, rfl, ⟨⟨rfl, rfl⟩, ⟨rfl, by simp only [← hn]; rfl⟩, ⟨rfl, by simp only [← hn]; rfl⟩, ⟨rfl, rfl⟩, trivial⟩, ⟨z16 (z25 (by rw [mixL_zero, ← hn]; rfl)) (z43 (z10 fun _ => rfl) fun e he => z36 rfl e (List.mem_of_mem_drop he)), trivial⟩⟩ ?_
    intro i hi
    by_cases hil : i < n
    · have ci := hf i hil
      have hg : (mixL (fun j => enB (gB R j)) (List.replicate n [AC.bool false]) i)[i]? = some [AC.bool false] := by
        unfold mixL
        rw [List.getElem?_append_right (by simp)]
        simp only [List.length_map, List.length_range, Nat.sub_self]
        rw [List.getElem?_drop, Nat.add_zero, List.getElem?_replicate, if_pos hil]
      repeat' ((first | (apply AWP.go ok; rfl) | (refine z21 (i := i) rfl hg ?_) | (apply And.intro; first | omega | (unfold inI; omega)) | ((apply z8) <;> intro _) | (apply z12 (ci); rfl; rfl)) <;> conv => whnf)
      all_goals first | (exfalso; omega) | skip
      all_goals exact z52 (i + 1) [0] (by omega) (by omega) ⟨rfl, by decide, rfl, ⟨⟨rfl, rfl⟩, ⟨rfl, rfl⟩, ⟨rfl, rfl⟩, ⟨rfl, rfl⟩, trivial⟩, ⟨z16 (z25 (mixL_set (by simpa using hil) (Int.toNat_natCast i) rfl)) (z43 (z10 fun _ => rfl) fun e he => z36 rfl e (List.mem_of_mem_drop he)), trivial⟩⟩
    · repeat' ((first | (apply AWP.go ok; rfl) | ((apply z8) <;> intro _)) <;> conv => whnf)
      all_goals first | (exfalso; omega) | skip
      all_goals
        have e0 : mixL (fun j => enB (gB R j)) (List.replicate n [AC.bool false]) i = R.map enB := by
          rw [mixL_end (by simp; omega), ← map_gBs, hRl, show i = n by omega]
        rw [e0]
        exact z89 rfl (z10 fun _ => rfl) rfl rfl rfl
  · obtain ⟨a, b, rfl⟩ := len2 (hkl2.trans hl)
    have ha := hklen a (by simp)
    have hb := hklen b (by simp)
    rw [if_neg (by omega), if_neg (by omega), if_neg (by omega), if_pos hk] at hRe
    have cf := fix2_ok [lst 1 encBL [a, b]] g.cs g (by omega) false (unH g.nx true a b) (by rw [hn]; exact unH_mono hin a b) 130 (fun i S hi hS => sat4_ok g hG a b (ha.trans hn.symm) (hb.trans hn.symm) i S hi hS)
    rw [hn] at cf
    repeat' ((first | (apply AWP.go ok; rfl) | (apply And.intro; omega) | ((apply z8) <;> intro _) | (((apply z11 [] [] [0] (cf); rfl; (focus ((repeat' exact z6) <;> fail)))); rfl; rfl; rfl; rfl; rfl; (focus ((repeat' first | exact z17 | apply z14) <;> (refine z26 ?_; ((exact z10 fun _ => rfl))))); (exact .inl rfl))) <;> conv => whnf)
    all_goals first | (exfalso; omega) | skip
    rw [hRe]
    exact z89 rfl (z10 fun _ => rfl) rfl rfl rfl
  · obtain ⟨a, rfl⟩ := len1 (hkl2.trans hl)
    have ha := hklen a (by simp)
    rw [if_neg (by omega), if_neg (by omega), if_neg (by omega), if_neg (by omega), if_neg (by omega), if_pos hk] at hRe
    have cf := fix2_ok [lst 1 encBL [a]] g.cs g (by omega) true (alH g.nx true a) (by rw [hn]; exact alH_mono hin a) 132 (fun i S hi hS => sat5_ok g hG a (ha.trans hn.symm) i S hi hS)
    rw [hn] at cf
    repeat' ((first | (apply AWP.go ok; rfl) | (apply And.intro; omega) | ((apply z8) <;> intro _) | (((apply z11 [] [] [0] (cf); rfl; (focus ((repeat' exact z6) <;> fail)))); rfl; rfl; rfl; rfl; rfl; (focus ((repeat' first | exact z17 | apply z14) <;> (refine z26 ?_; ((exact z10 fun _ => rfl))))); (exact .inl rfl))) <;> conv => whnf)
    all_goals first | (exfalso; omega) | skip
    rw [hRe]
    exact z89 rfl (z10 fun _ => rfl) rfl rfl rfl
end Go.Proofs.YtppafngcahgagaaGreat

namespace Go.Proofs.YtppafngcahgagaaGreat
open Go.Gl
attribute [local irreducible] z31 AWP z50 z58 z55

set_option maxHeartbeats 4000000 in
theorem l11States_new (g : Graph) (hG : GB g) (L : List Int) (hL : L.length = g.st.length) (hLr : ∀ x ∈ L, 0 ≤ x ∧ x ≤ 7) (t : Tree) : ∀ d, t.shapeB d = true → CallsA Tryz.prog 61 [.agg g.cs, ints L, z49 Tree.cs' t] [] (.sref 0 0 g.st.length) [.cells 1 ((t.satB g.nx g.st.length L).map enB)] := by
  induction t using Tree.ind with | h t ih => ?_
  intro d hs
  rw [shapeB_eq, Bool.and_eq_true, decide_eq_true_eq, List.all_eq_true] at hs
  obtain ⟨⟨_, hs2, hs4, hs5⟩, hs3⟩ := hs
  have h60 := hG.1.2
  have hgl := hG.2.1
  have hin := hG.inN
  have cc : ∀ u ∈ t.kids, CallsA Tryz.prog 61 [.agg g.cs, ints L, z49 Tree.cs' u] [] (lst 1 enB (u.satB g.nx g.st.length L)) [] := fun u hu => keepBL (ih u hu _ (hs3 u hu)) (Tree.satB_len hin L u)
  clear ih
  have hLg : ∀ i, i < L.length → 0 ≤ L.getD i 0 ∧ L.getD i 0 ≤ 7 := fun i hi => by rw [z20 hi]; exact hLr _ (List.getElem_mem _)
  have hLe : ∀ i, i < L.length → (L.map enI)[i]? = some (enI (L.getD i 0)) := fun i hi => by rw [z20 hi, List.getElem?_map, List.getElem?_eq_getElem hi]; rfl
  have hkl := arityB_kind hs2
  have hRl : (t.satB g.nx g.st.length L).length = g.st.length := Tree.satB_len hin L t
  have hRe := Tree.satB_eq g.nx g.st.length L t
  unfold opB at hRe
  have hklen : ∀ k ∈ t.kids.map (Tree.satB g.nx g.st.length L), k.length = g.st.length := fun k hk => by
    obtain ⟨u, hu, rfl⟩ := List.mem_map.1 hk
    exact Tree.satB_len hin L u
  have hkl2 : (t.kids.map (Tree.satB g.nx g.st.length L)).length = t.kids.length := by simp
  have hkat : ∀ i (hi : i < t.kids.length) (h2 : i < (t.kids.map (Tree.satB g.nx g.st.length L)).length), ((t.kids.map (Tree.satB g.nx g.st.length L)))[i] = t.kids[i].satB g.nx g.st.length L := fun i hi _ => by simp
  generalize hks : t.kids.map (Tree.satB g.nx g.st.length L) = ks at *
  generalize hR : t.satB g.nx g.st.length L = R at *
  have hl2 : t.kids.length ≤ 2 := by omega
  rw [Tree.arg_eq]
  refine z13 z23 Tryz.func61 rfl rfl 133 Tryz.ntmps61 (by simp) ?_
  repeat' (((apply AWP.go ok; rfl)) <;> conv => whnf)
  refine z71 (fun i : Nat => ([(1, ints L), (3, .ptr 0 none 0), (5, .ptr 1 none 0), (7, .sref 2 0 i), (8, .int i)], [.cells 2 [[lst 2 State.cs g.st, lst 1 encL g.nx]], .cells 3 [[.int t.kind, .int t.val, lst 3 Tree.cs' t.kids]], .cells 1 ((ks.take i).map encBL)])) (fun i => i ≤ t.kids.length) (fun i => t.kids.length - i) 0 (by omega) ⟨[0, 1, 2], rfl, by decide, rfl, ⟨⟨rfl, rfl⟩, ⟨rfl, rfl⟩, ⟨rfl, rfl⟩, ⟨rfl, rfl⟩, ⟨rfl, rfl⟩, trivial⟩, ⟨z19 rfl rfl, z19 rfl rfl, z16 rfl (z10 fun _ => rfl), trivial⟩⟩ ?_
  intro i hi
  have htl : ((ks.take i).map encBL).length = i := by simp; omega
  by_cases hil : i < t.kids.length
  · have ci := cc t.kids[i] (List.getElem_mem _)
    have hka := hkat i hil (by omega)
    rw [← hka] at ci
    repeat' ((first | (apply AWP.go ok; rfl) | (apply z37; kernel_rfl) | (apply And.intro; first | omega | (unfold inI; omega) | (dsimp only; omega) | exact ⟨rfl, z30 rfl z33⟩) | ((first | (with_reducible apply z15; omega) | (apply z15; omega)); intro _) | ((apply z8) <;> intro _) | (apply z12 (ci); rfl; rfl)) <;> conv => whnf)
    all_goals first | (exfalso; omega) | skip
    refine z52 (i + 1) [0, 1, 4] (by omega) (by omega) ⟨rfl, by decide, rfl, ⟨⟨rfl, rfl⟩, ⟨rfl, rfl⟩, ⟨rfl, rfl⟩, ⟨rfl, rfl⟩, ⟨rfl, rfl⟩, trivial⟩, ⟨z19 rfl rfl, z19 rfl rfl, z16 (z25 ?_) (z10 fun _ => rfl), trivial⟩⟩
    rw [List.take_succ_eq_append_getElem (show i < ks.length by omega), List.map_append, List.take_of_length_le (by rw [htl]; exact Nat.le_refl _)]
    rfl
  rw [show ks.take i = ks from List.take_of_length_le (by omega)]
  have hik : i = ks.length := by omega
  subst hik
  clear htl hi
  generalize hn : g.st.length = n at *
  rcases hkl with ⟨hk, hl⟩ | ⟨hk, hl⟩ | ⟨hk, hl⟩ | ⟨hk, hl⟩ | ⟨hk, hl⟩ | ⟨hk, hl⟩ | ⟨hk, hl⟩ | ⟨hk, hl⟩ | ⟨hk, hl⟩ | ⟨hk, hl⟩ | ⟨hk, hl⟩
  · rw [if_neg (by omega), if_neg (by omega), if_neg (by omega), if_neg (by omega), if_neg (by omega), if_neg (by omega)] at hRe
    repeat' ((first | (apply AWP.go ok; rfl) | (apply And.intro; omega) | ((first | (with_reducible apply z15; omega) | (apply z15; omega)); intro _) | ((apply z8) <;> intro _)) <;> conv => whnf)
    all_goals first | (exfalso; omega) | skip
    refine z71 (fun i : Nat => ([(1, ints L), (5, .ptr 1 none 0), (7, .sref 2 0 (ks).length), (9, .sref 3 0 i), (10, .int i)], [.cells 2 [[lst 2 State.cs g.st, lst 1 encL g.nx]], .cells 3 [[.int t.kind, .int t.val, lst 3 Tree.cs' t.kids]], .cells 1 ((ks).map encBL), .cells 1 (((List.range n).take i).map fun j => enB (gB R j))])) (fun i => i ≤ n) (fun i => n - i) 0 (by omega) ⟨[0, 1, 2, 3], rfl, by decide, rfl, ⟨⟨rfl, rfl⟩, ⟨rfl, rfl⟩, ⟨rfl, rfl⟩, ⟨rfl, rfl⟩, ⟨rfl, rfl⟩, trivial⟩, ⟨z19 rfl rfl, z19 rfl rfl, z16 rfl (z10 fun _ => rfl), z16 rfl (z10 fun _ => rfl), trivial⟩⟩ ?_
    intro i hi
    by_cases hil : i < n
    · have hir : i < (List.range n).length := by simpa using hil
      have hv : gB R i = true := by
        rw [hRe, gB_range _ _ _ hil]; unfold ptB; rw [if_neg (by omega), if_neg (by omega), if_neg (by omega), if_neg (by omega)]
      skip
      repeat' ((first | (apply AWP.go ok; rfl) | (apply And.intro; first | omega | (unfold inI; omega) | ((try dsimp only); simp only [List.length_map, List.length_take, List.length_append, List.length_replicate, List.length_cons, List.length_nil]; omega) | exact ⟨rfl, z30 rfl z33⟩) | ((first | (with_reducible apply z15; omega) | (apply z15; omega)); intro _) | ((first | apply z8 | apply z83) <;> intro _)) <;> conv => whnf)
      all_goals first | (exfalso; omega) | skip
      all_goals
        refine z52 (i + 1) [0, 1, 2, 5] (by omega) (by omega) ⟨rfl, by decide, rfl, ⟨⟨rfl, rfl⟩, ⟨rfl, rfl⟩, ⟨rfl, rfl⟩, ⟨rfl, rfl⟩, ⟨rfl, rfl⟩, trivial⟩, ⟨z19 rfl rfl, z19 rfl rfl, z16 rfl (z10 fun _ => rfl), z16 (z25 ?_) (z10 fun _ => rfl), trivial⟩⟩
        rw [List.take_of_length_le (by simp; omega), List.take_succ_eq_append_getElem hir, List.map_append, List.map_singleton, List.getElem_range, hv]
        rfl
    · repeat' ((first | (apply AWP.go ok; rfl) | (apply And.intro; omega) | ((first | (with_reducible apply z15; omega) | (apply z15; omega)); intro _) | ((first | apply z8 | apply z83) <;> intro _)) <;> conv => whnf)
      all_goals first | (exfalso; omega) | skip
      all_goals
        have hin2 : i = n := by omega
        subst hin2
        refine z54 [3] (by decide) rfl rfl rfl ⟨z16 (z25 ?_) (z10 fun _ => rfl), trivial⟩
        rw [List.take_of_length_le (by simp), ← hRl]
        exact map_gBs R
  · rw [if_neg (by omega), if_neg (by omega), if_neg (by omega), if_neg (by omega), if_neg (by omega), if_neg (by omega)] at hRe
    repeat' ((first | (apply AWP.go ok; rfl) | (apply And.intro; omega) | ((first | (with_reducible apply z15; omega) | (apply z15; omega)); intro _) | ((apply z8) <;> intro _)) <;> conv => whnf)
    all_goals first | (exfalso; omega) | skip
    refine z71 (fun i : Nat => ([(1, ints L), (5, .ptr 1 none 0), (7, .sref 2 0 (ks).length), (9, .sref 3 0 i), (10, .int i)], [.cells 2 [[lst 2 State.cs g.st, lst 1 encL g.nx]], .cells 3 [[.int t.kind, .int t.val, lst 3 Tree.cs' t.kids]], .cells 1 ((ks).map encBL), .cells 1 (((List.range n).take i).map fun j => enB (gB R j))])) (fun i => i ≤ n) (fun i => n - i) 0 (by omega) ⟨[0, 1, 2, 3], rfl, by decide, rfl, ⟨⟨rfl, rfl⟩, ⟨rfl, rfl⟩, ⟨rfl, rfl⟩, ⟨rfl, rfl⟩, ⟨rfl, rfl⟩, trivial⟩, ⟨z19 rfl rfl, z19 rfl rfl, z16 rfl (z10 fun _ => rfl), z16 rfl (z10 fun _ => rfl), trivial⟩⟩ ?_
    intro i hi
    by_cases hil : i < n
    · have hir : i < (List.range n).length := by simpa using hil
      have hv : gB R i = hasB (L.getD i 0) t.val := by
        rw [hRe, gB_range _ _ _ hil]; unfold ptB; rw [if_pos hk]
      have g0 := hLe i (by omega)
      unfold mostB at hs5
      rw [if_pos hk] at hs5
      have c6 := l6Has_ok (L.getD i 0) t.val (hLg i (by omega)).1 (hLg i (by omega)).2 hs4 hs5
      repeat' ((first | (apply AWP.go ok; rfl) | (apply z37; kernel_rfl) | (refine z21 (i := i) rfl g0 ?_) | (apply And.intro; first | omega | (unfold inI; omega) | ((try dsimp only); simp only [List.length_map, List.length_take, List.length_append, List.length_replicate, List.length_cons, List.length_nil]; omega) | exact ⟨rfl, z30 rfl z33⟩) | ((first | (with_reducible apply z15; omega) | (apply z15; omega)); intro _) | ((first | apply z8 | apply z83) <;> intro _) | (apply z12 (c6); rfl; rfl)) <;> conv => whnf)
      all_goals first | (exfalso; omega) | skip
      all_goals
        refine z52 (i + 1) [0, 1, 2, 5] (by omega) (by omega) ⟨rfl, by decide, rfl, ⟨⟨rfl, rfl⟩, ⟨rfl, rfl⟩, ⟨rfl, rfl⟩, ⟨rfl, rfl⟩, ⟨rfl, rfl⟩, trivial⟩, ⟨z19 rfl rfl, z19 rfl rfl, z16 rfl (z10 fun _ => rfl), z16 (z25 ?_) (z10 fun _ => rfl), trivial⟩⟩
        rw [List.take_of_length_le (by simp; omega), List.take_succ_eq_append_getElem hir, List.map_append, List.map_singleton, List.getElem_range, hv]
        rfl
    · repeat' ((first | (apply AWP.go ok; rfl) | (apply And.intro; omega) | ((first | (with_reducible apply z15; omega) | (apply z15; omega)); intro _) | ((first | apply z8 | apply z83) <;> intro _)) <;> conv => whnf)
      all_goals first | (exfalso; omega) | skip
      all_goals
        have hin2 : i = n := by omega
        subst hin2
        refine z54 [3] (by decide) rfl rfl rfl ⟨z16 (z25 ?_) (z10 fun _ => rfl), trivial⟩
        rw [List.take_of_length_le (by simp), ← hRl]
        exact map_gBs R
  · obtain ⟨a, rfl⟩ := len1 (hkl2.trans hl)
    have ha := hklen a (by simp)
    rw [if_neg (by omega), if_neg (by omega), if_neg (by omega), if_neg (by omega), if_neg (by omega), if_neg (by omega)] at hRe
    repeat' ((first | (apply AWP.go ok; rfl) | (apply And.intro; omega) | ((first | (with_reducible apply z15; omega) | (apply z15; omega)); intro _) | ((apply z8) <;> intro _)) <;> conv => whnf)
    all_goals first | (exfalso; omega) | skip
    refine z71 (fun i : Nat => ([(1, ints L), (5, .ptr 1 none 0), (7, .sref 2 0 ([a]).length), (9, .sref 3 0 i), (10, .int i)], [.cells 2 [[lst 2 State.cs g.st, lst 1 encL g.nx]], .cells 3 [[.int t.kind, .int t.val, lst 3 Tree.cs' t.kids]], .cells 1 (([a]).map encBL), .cells 1 (((List.range n).take i).map fun j => enB (gB R j))])) (fun i => i ≤ n) (fun i => n - i) 0 (by omega) ⟨[0, 1, 2, 3], rfl, by decide, rfl, ⟨⟨rfl, rfl⟩, ⟨rfl, rfl⟩, ⟨rfl, rfl⟩, ⟨rfl, rfl⟩, ⟨rfl, rfl⟩, trivial⟩, ⟨z19 rfl rfl, z19 rfl rfl, z16 rfl (z10 fun _ => rfl), z16 rfl (z10 fun _ => rfl), trivial⟩⟩ ?_
    intro i hi
    by_cases hil : i < n
    · have hir : i < (List.range n).length := by simpa using hil
      have hv : gB R i = !gB a i := by
        rw [hRe, gB_range _ _ _ hil]; unfold ptB; rw [if_neg (by omega), if_pos hk]; rfl
      have g1 := z97 (S := a) (i := i) (by omega)
      repeat' ((first | (apply AWP.go ok; rfl) | (refine z21 (i := 0) rfl rfl ?_) | (refine z21 (i := i) rfl g1 ?_) | (apply And.intro; first | omega | (unfold inI; omega) | ((try dsimp only); simp only [List.length_map, List.length_take, List.length_append, List.length_replicate, List.length_cons, List.length_nil]; omega) | exact ⟨rfl, z30 rfl z33⟩) | ((first | (with_reducible apply z15; omega) | (apply z15; omega)); intro _) | ((first | apply z8 | apply z83) <;> intro _)) <;> conv => whnf)
      all_goals first | (exfalso; omega) | skip
      all_goals
        refine z52 (i + 1) [0, 1, 2, 5] (by omega) (by omega) ⟨rfl, by decide, rfl, ⟨⟨rfl, rfl⟩, ⟨rfl, rfl⟩, ⟨rfl, rfl⟩, ⟨rfl, rfl⟩, ⟨rfl, rfl⟩, trivial⟩, ⟨z19 rfl rfl, z19 rfl rfl, z16 rfl (z10 fun _ => rfl), z16 (z25 ?_) (z10 fun _ => rfl), trivial⟩⟩
        rw [List.take_of_length_le (by simp; omega), List.take_succ_eq_append_getElem hir, List.map_append, List.map_singleton, List.getElem_range, hv]
        rfl
    · repeat' ((first | (apply AWP.go ok; rfl) | (apply And.intro; omega) | ((first | (with_reducible apply z15; omega) | (apply z15; omega)); intro _) | ((first | apply z8 | apply z83) <;> intro _)) <;> conv => whnf)
      all_goals first | (exfalso; omega) | skip
      all_goals
        have hin2 : i = n := by omega
        subst hin2
        refine z54 [3] (by decide) rfl rfl rfl ⟨z16 (z25 ?_) (z10 fun _ => rfl), trivial⟩
        rw [List.take_of_length_le (by simp), ← hRl]
        exact map_gBs R
  · obtain ⟨a, b, rfl⟩ := len2 (hkl2.trans hl)
    have ha := hklen a (by simp)
    have hb := hklen b (by simp)
    rw [if_neg (by omega), if_neg (by omega), if_neg (by omega), if_neg (by omega), if_neg (by omega), if_neg (by omega)] at hRe
    repeat' ((first | (apply AWP.go ok; rfl) | (apply And.intro; omega) | ((first | (with_reducible apply z15; omega) | (apply z15; omega)); intro _) | ((apply z8) <;> intro _)) <;> conv => whnf)
    all_goals first | (exfalso; omega) | skip
    refine z71 (fun i : Nat => ([(1, ints L), (5, .ptr 1 none 0), (7, .sref 2 0 ([a, b]).length), (9, .sref 3 0 i), (10, .int i)], [.cells 2 [[lst 2 State.cs g.st, lst 1 encL g.nx]], .cells 3 [[.int t.kind, .int t.val, lst 3 Tree.cs' t.kids]], .cells 1 (([a, b]).map encBL), .cells 1 (((List.range n).take i).map fun j => enB (gB R j))])) (fun i => i ≤ n) (fun i => n - i) 0 (by omega) ⟨[0, 1, 2, 3], rfl, by decide, rfl, ⟨⟨rfl, rfl⟩, ⟨rfl, rfl⟩, ⟨rfl, rfl⟩, ⟨rfl, rfl⟩, ⟨rfl, rfl⟩, trivial⟩, ⟨z19 rfl rfl, z19 rfl rfl, z16 rfl (z10 fun _ => rfl), z16 rfl (z10 fun _ => rfl), trivial⟩⟩ ?_
    intro i hi
    by_cases hil : i < n
    · have hir : i < (List.range n).length := by simpa using hil
      have hv : gB R i = (gB a i && gB b i) := by
        rw [hRe, gB_range _ _ _ hil]; unfold ptB; rw [if_neg (by omega), if_neg (by omega), if_pos hk]; rfl
      have g1 := z97 (S := a) (i := i) (by omega)
      have g2 := z97 (S := b) (i := i) (by omega)
      generalize gB a i = p at hv g1
      generalize gB b i = q at hv g2
      cases p <;> cases q
      all_goals
        repeat' ((first | (apply AWP.go ok; rfl) | (refine z21 (i := 0) rfl rfl ?_) | (refine z21 (i := 1) rfl rfl ?_) | (refine z21 (i := i) rfl g1 ?_) | (refine z21 (i := i) rfl g2 ?_) | (apply And.intro; first | omega | (unfold inI; omega) | ((try dsimp only); simp only [List.length_map, List.length_take, List.length_append, List.length_replicate, List.length_cons, List.length_nil]; omega) | exact ⟨rfl, z30 rfl z33⟩) | (((with_reducible apply z15; omega)); intro _) | ((apply z8) <;> intro _)) <;> conv => whnf)
        all_goals first | (exfalso; omega) | skip
        all_goals
          refine z52 (i + 1) [0, 1, 2, 5] (by omega) (by omega) ⟨rfl, by decide, rfl, ⟨⟨rfl, rfl⟩, ⟨rfl, rfl⟩, ⟨rfl, rfl⟩, ⟨rfl, rfl⟩, ⟨rfl, rfl⟩, trivial⟩, ⟨z19 rfl rfl, z19 rfl rfl, z16 rfl (z10 fun _ => rfl), z16 (z25 ?_) (z10 fun _ => rfl), trivial⟩⟩
          rw [List.take_of_length_le (by simp; omega), List.take_succ_eq_append_getElem hir, List.map_append, List.map_singleton, List.getElem_range, hv]
          rfl
    · repeat' ((first | (apply AWP.go ok; rfl) | (apply And.intro; omega) | ((first | (with_reducible apply z15; omega) | (apply z15; omega)); intro _) | ((first | apply z8 | apply z83) <;> intro _)) <;> conv => whnf)
      all_goals first | (exfalso; omega) | skip
      all_goals
        have hin2 : i = n := by omega
        subst hin2
        refine z54 [3] (by decide) rfl rfl rfl ⟨z16 (z25 ?_) (z10 fun _ => rfl), trivial⟩
        rw [List.take_of_length_le (by simp), ← hRl]
        exact map_gBs R
  · obtain ⟨a, b, rfl⟩ := len2 (hkl2.trans hl)
    have ha := hklen a (by simp)
    have hb := hklen b (by simp)
    rw [if_neg (by omega), if_neg (by omega), if_neg (by omega), if_neg (by omega), if_neg (by omega), if_neg (by omega)] at hRe
    repeat' ((first | (apply AWP.go ok; rfl) | (apply And.intro; omega) | ((first | (with_reducible apply z15; omega) | (apply z15; omega)); intro _) | ((apply z8) <;> intro _)) <;> conv => whnf)
    all_goals first | (exfalso; omega) | skip
    refine z71 (fun i : Nat => ([(1, ints L), (5, .ptr 1 none 0), (7, .sref 2 0 ([a, b]).length), (9, .sref 3 0 i), (10, .int i)], [.cells 2 [[lst 2 State.cs g.st, lst 1 encL g.nx]], .cells 3 [[.int t.kind, .int t.val, lst 3 Tree.cs' t.kids]], .cells 1 (([a, b]).map encBL), .cells 1 (((List.range n).take i).map fun j => enB (gB R j))])) (fun i => i ≤ n) (fun i => n - i) 0 (by omega) ⟨[0, 1, 2, 3], rfl, by decide, rfl, ⟨⟨rfl, rfl⟩, ⟨rfl, rfl⟩, ⟨rfl, rfl⟩, ⟨rfl, rfl⟩, ⟨rfl, rfl⟩, trivial⟩, ⟨z19 rfl rfl, z19 rfl rfl, z16 rfl (z10 fun _ => rfl), z16 rfl (z10 fun _ => rfl), trivial⟩⟩ ?_
    intro i hi
    by_cases hil : i < n
    · have hir : i < (List.range n).length := by simpa using hil
      have hv : gB R i = (gB a i || gB b i) := by
        rw [hRe, gB_range _ _ _ hil]; unfold ptB; rw [if_neg (by omega), if_neg (by omega), if_neg (by omega), if_pos hk]; rfl
      have g1 := z97 (S := a) (i := i) (by omega)
      have g2 := z97 (S := b) (i := i) (by omega)
      generalize gB a i = p at hv g1
      generalize gB b i = q at hv g2
      cases p <;> cases q
      all_goals
        repeat' ((first | (apply AWP.go ok; rfl) | (refine z21 (i := 0) rfl rfl ?_) | (refine z21 (i := 1) rfl rfl ?_) | (refine z21 (i := i) rfl g1 ?_) | (refine z21 (i := i) rfl g2 ?_) | (apply And.intro; first | omega | (unfold inI; omega) | ((try dsimp only); simp only [List.length_map, List.length_take, List.length_append, List.length_replicate, List.length_cons, List.length_nil]; omega) | exact ⟨rfl, z30 rfl z33⟩) | (((with_reducible apply z15; omega)); intro _) | ((apply z8) <;> intro _)) <;> conv => whnf)
        all_goals first | (exfalso; omega) | skip
        all_goals
          refine z52 (i + 1) [0, 1, 2, 5] (by omega) (by omega) ⟨rfl, by decide, rfl, ⟨⟨rfl, rfl⟩, ⟨rfl, rfl⟩, ⟨rfl, rfl⟩, ⟨rfl, rfl⟩, ⟨rfl, rfl⟩, trivial⟩, ⟨z19 rfl rfl, z19 rfl rfl, z16 rfl (z10 fun _ => rfl), z16 (z25 ?_) (z10 fun _ => rfl), trivial⟩⟩
          rw [List.take_of_length_le (by simp; omega), List.take_succ_eq_append_getElem hir, List.map_append, List.map_singleton, List.getElem_range, hv]
          rfl
    · repeat' ((first | (apply AWP.go ok; rfl) | (apply And.intro; omega) | ((first | (with_reducible apply z15; omega) | (apply z15; omega)); intro _) | ((first | apply z8 | apply z83) <;> intro _)) <;> conv => whnf)
      all_goals first | (exfalso; omega) | skip
      all_goals
        have hin2 : i = n := by omega
        subst hin2
        refine z54 [3] (by decide) rfl rfl rfl ⟨z16 (z25 ?_) (z10 fun _ => rfl), trivial⟩
        rw [List.take_of_length_le (by simp), ← hRl]
        exact map_gBs R
  · obtain ⟨a, rfl⟩ := len1 (hkl2.trans hl)
    have ha := hklen a (by simp)
    rw [if_pos hk] at hRe
    have cf := l11Next_new g hG a (ha.trans hn.symm) (decide (t.kind = 9))
    rw [hn, show nxL g.nx (decide (t.kind = 9)) n a = R from by rw [hRe, decide_eq_false (by omega)]; rfl] at cf
    repeat' ((first | (apply AWP.go ok; rfl) | (apply z37; kernel_rfl) | (refine z21 (i := 0) rfl rfl ?_) | (apply And.intro; omega) | ((first | (with_reducible apply z15; omega) | (apply z15; omega)); intro _) | ((apply z8) <;> intro _) | (((apply z11 [] [] [3] (cf); rfl; (focus ((repeat' exact z6) <;> fail)))); rfl; rfl; rfl; rfl; rfl; (focus ((repeat' first | exact z17 | apply z14) <;> (refine z26 ?_; ((exact z10 fun _ => rfl))))); (exact .inl rfl))) <;> conv => whnf)
    all_goals first | (exfalso; omega) | skip
    all_goals exact z54 [3] (by decide) rfl rfl rfl ⟨z16 rfl (z10 fun _ => rfl), trivial⟩
  · obtain ⟨a, b, rfl⟩ := len2 (hkl2.trans hl)
    have ha := hklen a (by simp)
    have hb := hklen b (by simp)
    rw [if_neg (by omega), if_neg (by omega), if_pos hk] at hRe
    have cf := l11Until_new g hG a b (ha.trans hn.symm) (hb.trans hn.symm) (decide (t.kind = 10))
    rw [hn, show lim false (unH g.nx (decide (t.kind = 10)) a b) n = R from by rw [hRe, decide_eq_false (by omega)]; rfl] at cf
    repeat' ((first | (apply AWP.go ok; rfl) | (apply z37; kernel_rfl) | (refine z21 (i := 0) rfl rfl ?_) | (refine z21 (i := 1) rfl rfl ?_) | (apply And.intro; omega) | (((with_reducible apply z15; omega)); intro _) | ((apply z8) <;> intro _) | (((apply z11 [] [] [3] (cf); rfl; (focus ((repeat' exact z6) <;> fail)))); rfl; rfl; rfl; rfl; rfl; (focus ((repeat' first | exact z17 | apply z14) <;> (refine z26 ?_; ((exact z10 fun _ => rfl))))); (exact .inl rfl))) <;> conv => whnf)
    all_goals first | (exfalso; omega) | skip
    all_goals exact z54 [3] (by decide) rfl rfl rfl ⟨z16 rfl (z10 fun _ => rfl), trivial⟩
  · obtain ⟨a, rfl⟩ := len1 (hkl2.trans hl)
    have ha := hklen a (by simp)
    rw [if_neg (by omega), if_neg (by omega), if_neg (by omega), if_neg (by omega), if_pos hk] at hRe
    have cf := l11Always_new g hG a (ha.trans hn.symm) (decide (t.kind = 11))
    rw [hn, show lim true (alH g.nx (decide (t.kind = 11)) a) n = R from by rw [hRe, decide_eq_false (by omega)]; rfl] at cf
    repeat' ((first | (apply AWP.go ok; rfl) | (apply z37; kernel_rfl) | (refine z21 (i := 0) rfl rfl ?_) | (apply And.intro; omega) | ((first | (with_reducible apply z15; omega) | (apply z15; omega)); intro _) | ((apply z8) <;> intro _) | (((apply z11 [] [] [3] (cf); rfl; (focus ((repeat' exact z6) <;> fail)))); rfl; rfl; rfl; rfl; rfl; (focus ((repeat' first | exact z17 | apply z14) <;> (refine z26 ?_; ((exact z10 fun _ => rfl))))); (exact .inl rfl))) <;> conv => whnf)
    all_goals first | (exfalso; omega) | skip
    all_goals exact z54 [3] (by decide) rfl rfl rfl ⟨z16 rfl (z10 fun _ => rfl), trivial⟩
  · obtain ⟨a, rfl⟩ := len1 (hkl2.trans hl)
    have ha := hklen a (by simp)
    rw [if_neg (by omega), if_pos hk] at hRe
    have cf := l11Next_new g hG a (ha.trans hn.symm) (decide (t.kind = 9))
    rw [hn, show nxL g.nx (decide (t.kind = 9)) n a = R from by rw [hRe, decide_eq_true hk]; rfl] at cf
    repeat' ((first | (apply AWP.go ok; rfl) | (apply z37; kernel_rfl) | (refine z21 (i := 0) rfl rfl ?_) | (apply And.intro; omega) | ((first | (with_reducible apply z15; omega) | (apply z15; omega)); intro _) | ((apply z8) <;> intro _) | (((apply z11 [] [] [3] (cf); rfl; (focus ((repeat' exact z6) <;> fail)))); rfl; rfl; rfl; rfl; rfl; (focus ((repeat' first | exact z17 | apply z14) <;> (refine z26 ?_; ((exact z10 fun _ => rfl))))); (exact .inl rfl))) <;> conv => whnf)
    all_goals first | (exfalso; omega) | skip
    all_goals exact z54 [3] (by decide) rfl rfl rfl ⟨z16 rfl (z10 fun _ => rfl), trivial⟩
  · obtain ⟨a, b, rfl⟩ := len2 (hkl2.trans hl)
    have ha := hklen a (by simp)
    have hb := hklen b (by simp)
    rw [if_neg (by omega), if_neg (by omega), if_neg (by omega), if_pos hk] at hRe
    have cf := l11Until_new g hG a b (ha.trans hn.symm) (hb.trans hn.symm) (decide (t.kind = 10))
    rw [hn, show lim false (unH g.nx (decide (t.kind = 10)) a b) n = R from by rw [hRe, decide_eq_true hk]; rfl] at cf
    repeat' ((first | (apply AWP.go ok; rfl) | (apply z37; kernel_rfl) | (refine z21 (i := 0) rfl rfl ?_) | (refine z21 (i := 1) rfl rfl ?_) | (apply And.intro; omega) | (((with_reducible apply z15; omega)); intro _) | ((apply z8) <;> intro _) | (((apply z11 [] [] [3] (cf); rfl; (focus ((repeat' exact z6) <;> fail)))); rfl; rfl; rfl; rfl; rfl; (focus ((repeat' first | exact z17 | apply z14) <;> (refine z26 ?_; ((exact z10 fun _ => rfl))))); (exact .inl rfl))) <;> conv => whnf)
    all_goals first | (exfalso; omega) | skip
    all_goals exact z54 [3] (by decide) rfl rfl rfl ⟨z16 rfl (z10 fun _ => rfl), trivial⟩
  · obtain ⟨a, rfl⟩ := len1 (hkl2.trans hl)
    have ha := hklen a (by simp)
    rw [if_neg (by omega), if_neg (by omega), if_neg (by omega), if_neg (by omega), if_neg (by omega), if_pos hk] at hRe
    have cf := l11Always_new g hG a (ha.trans hn.symm) (decide (t.kind = 11))
    rw [hn, show lim true (alH g.nx (decide (t.kind = 11)) a) n = R from by rw [hRe, decide_eq_true hk]; rfl] at cf
    repeat' ((first | (apply AWP.go ok; rfl) | (apply z37; kernel_rfl) | (refine z21 (i := 0) rfl rfl ?_) | (apply And.intro; omega) | ((first | (with_reducible apply z15; omega) | (apply z15; omega)); intro _) | ((apply z8) <;> intro _) | (((apply z11 [] [] [3] (cf); rfl; (focus ((repeat' exact z6) <;> fail)))); rfl; rfl; rfl; rfl; rfl; (focus ((repeat' first | exact z17 | apply z14) <;> (refine z26 ?_; ((exact z10 fun _ => rfl))))); (exact .inl rfl))) <;> conv => whnf)
    all_goals first | (exfalso; omega) | skip
    all_goals exact z54 [3] (by decide) rfl rfl rfl ⟨z16 rfl (z10 fun _ => rfl), trivial⟩
end Go.Proofs.YtppafngcahgagaaGreat

namespace Go.Proofs.YtppafngcahgagaaGreat
open Go.Gl
attribute [local irreducible] z31 AWP z50 z58 z55

theorem ltr_ltB (v : List Int) : ∀ (l : List Tree) (k n : Nat), n < 2 ^ k → ltr v l k n < 2 ^ (k + l.length) := by
  intro l
  induction l with
  | nil => intro k n h; simpa [ltr] using h
  | cons t l ih =>
    intro k n h
    rw [ltr]
    have e : k + (t :: l).length = k + 1 + l.length := by simp only [List.length_cons]; omega
    rw [e]
    refine ih (k + 1) _ ?_
    split
    · rw [Nat.pow_succ]; omega
    · exact or_lt h
theorem letter_rangeB {l : List Tree} (hl : LabelsOk l) (s : State) : 0 ≤ z39 l s ∧ z39 l s ≤ 7 := by
  have := ltr_ltB s.b l 0 0 (by decide)
  rw [hl.1] at this
  unfold z39
  have e : (2 : Nat) ^ (0 + 3) = 8 := by decide
  omega

noncomputable def brL (g : Graph) (l : List Tree) (t : Tree) : List Bool := if (glB g l && t.brB) = true then t.satB g.nx g.st.length (g.st.map (z39 l)) else []
theorem brL_le (g : Graph) (l : List Tree) (t : Tree) : (brL g l t).length ≤ 60 := by
  unfold brL
  split
  · rename_i h
    have h1 := (Bool.and_eq_true_iff.1 h).1
    have hG := (z81 g).1 (by unfold glB at h1; exact (Bool.and_eq_true_iff.1 h1).1)
    rw [Tree.satB_len hG.inN]; exact hG.1.2
  · simp
theorem br_shape {t : Tree} (h : t.brB = true) : t.shapeB 6 = true := by
  rw [Tree.brB_eq, Bool.and_eq_true] at h; exact h.1

theorem implBranching_new (g : Graph) (hg : g.mx) (l : List Tree) (hl : Lmx l) (t : Tree) (ht : t.mx) : CallsA Tryz.prog 16 [.agg g.cs, lst 3 Tree.cs' l, z49 Tree.cs' t] [] (.tup [.sref 0 0 (brL g l t).length, .bool (glB g l && t.brB)]) [.cells 1 ((brL g l t).map enB)] := by
  have k1 := graphValid_ok g hg
  have k2 := labelsValid_ok l hl.1 hl.2
  have k3 := implBrValid_ok t ht
  by_cases hgl : (glB g l && t.brB) = true
  · obtain ⟨h1, hab⟩ := Bool.and_eq_true_iff.1 hgl
    have h2 := h1
    unfold glB at h2
    obtain ⟨hgb, hlb⟩ := Bool.and_eq_true_iff.1 h2
    have hG := (z81 g).1 hgb
    have hL := LabelsOk.of hlb
    have k4 := label_ok g hG.vals hG.1.2 l hL
    have hLr : ∀ x ∈ g.st.map (z39 l), 0 ≤ x ∧ x ≤ 7 := fun x hx => by
      obtain ⟨s, _, rfl⟩ := List.mem_map.1 hx
      exact letter_rangeB hL s
    have k5 := satisfy_new g hG (g.st.map (z39 l)) (by simp) hLr t 6 (br_shape hab)
    have e : brL g l t = t.satB g.nx g.st.length (g.st.map (z39 l)) := by unfold brL; rw [if_pos hgl]
    rw [← e] at k5
    have hlen : (brL g l t).length = g.st.length := by rw [e]; exact Tree.satB_len hG.inN _ _
    rw [← hlen] at k5
    generalize g.st.map (z39 l) = L at *
    generalize brL g l t = R at *
    rw [hgb] at k1
    rw [hlb] at k2
    rw [hab] at k3
    rw [hgl]
    rw [Tree.arg_eq] at k3 k5 ⊢
    refine z13 z23 Tryz.func16 rfl rfl 27 Tryz.ntmps16 (by simp) ?_
    repeat' ((first | (apply AWP.go ok; rfl) | (apply z37; kernel_rfl) | (apply z12 (k1); rfl; rfl) | (apply z12 (k2); rfl; rfl) | (apply z12 (k3); rfl; rfl) | (apply z12 (k4); rfl; rfl) | (((apply z11 [] [] [2] (k5); rfl; (focus ((repeat' exact z6) <;> fail)))); rfl; rfl; rfl; rfl; rfl; (focus ((repeat' first | exact z17 | apply z14) <;> (refine z26 ?_; ((exact z10 fun _ => rfl))))); (exact .inl rfl))) <;> conv => whnf)
    all_goals skip
    all_goals exact z54 [2] (by decide) rfl rfl rfl ⟨z16 rfl (z10 fun _ => rfl), trivial⟩
  · have e : brL g l t = [] := by unfold brL; rw [if_neg hgl]
    have hgl := (Bool.not_eq_true _).mp hgl
    have hgl2 := hgl
    rw [e, hgl]
    unfold glB at hgl2
    refine CallsA.nils (res := .tup [.nils, .bool false]) ?_ (by simp) (tup_sref nil_sref)
    rw [Tree.arg_eq] at k3 ⊢
    generalize graphB g = b1 at *
    generalize labelsB l = b2 at *
    generalize t.brB = b3 at *
    refine z13 z23 Tryz.func16 rfl rfl 27 Tryz.ntmps16 (by simp) ?_
    cases b1 <;> cases b2 <;> cases b3 <;> first | (exfalso; revert hgl2; decide) | skip
    all_goals
      repeat' ((first | (apply AWP.go ok; rfl) | (apply z12 (k1); rfl; rfl) | (apply z12 (k2); rfl; rfl) | (apply z12 (k3); rfl; rfl)) <;> conv => whnf)
      all_goals exact z40 rfl rfl rfl

theorem specBranching_ok (g : Graph) (hg : g.mx) (l : List Tree) (hl : Lmx l) (t : Tree) (ht : t.mx) : CallsA Tryz.prog 17 [.agg g.cs, lst 3 Tree.cs' l, z49 Tree.cs' t] [] (.tup [lst 1 enB (brL g l t), .bool (glB g l && t.brB)]) [] := by
  have k0 := specLabelGraph_ok g hg l hl
  have k1 := specBrValid_ok t ht
  by_cases hgl : (glB g l && t.brB) = true
  · obtain ⟨h1, hab⟩ := Bool.and_eq_true_iff.1 hgl
    have h2 := h1
    unfold glB at h2
    obtain ⟨hgb, hlb⟩ := Bool.and_eq_true_iff.1 h2
    have hG := (z81 g).1 hgb
    have hL := LabelsOk.of hlb
    have hLr : ∀ x ∈ g.st.map (z39 l), 0 ≤ x ∧ x ≤ 7 := fun x hx => by
      obtain ⟨s, _, rfl⟩ := List.mem_map.1 hx
      exact letter_rangeB hL s
    have k5 := l11States_new g hG (g.st.map (z39 l)) (by simp) hLr t 6 (br_shape hab)
    have e : brL g l t = t.satB g.nx g.st.length (g.st.map (z39 l)) := by unfold brL; rw [if_pos hgl]
    rw [← e] at k5
    have hlen : (brL g l t).length = g.st.length := by rw [e]; exact Tree.satB_len hG.inN _ _
    have k5 := keepBL k5 hlen
    rw [if_pos h1, h1] at k0
    rw [hab] at k1
    rw [hgl]
    generalize g.st.map (z39 l) = L at *
    generalize brL g l t = R at *
    rw [Tree.arg_eq] at k1 k5 ⊢
    refine z13 z23 Tryz.func17 rfl rfl 28 Tryz.ntmps17 (by simp) ?_
    repeat' ((first | (apply AWP.go ok; rfl) | (apply z12 (k0); rfl; rfl) | (apply z12 (k1); rfl; rfl) | (apply z12 (k5); rfl; rfl)) <;> conv => whnf)
    all_goals skip
    all_goals exact z40 rfl rfl rfl
  · have e : brL g l t = [] := by unfold brL; rw [if_neg hgl]
    have hgl := (Bool.not_eq_true _).mp hgl
    have hgl2 := hgl
    rw [e, hgl]
    generalize glB g l = b1 at *
    generalize t.brB = b3 at *
    rw [Tree.arg_eq] at k1 ⊢
    refine z13 z23 Tryz.func17 rfl rfl 28 Tryz.ntmps17 (by simp) ?_
    cases b1 <;> cases b3 <;> first | (exfalso; revert hgl2; decide) | skip
    all_goals
      repeat' ((first | (apply AWP.go ok; rfl) | (apply z12 (k0); rfl; rfl) | (apply z12 (k1); rfl; rfl)) <;> conv => whnf)
      all_goals exact ret_le rfl rfl (tup_le2 sref_le)
end Go.Proofs.YtppafngcahgagaaGreat

namespace Go.Proofs.YtppafngcahgagaaGreat
open Go.Gl
attribute [local irreducible] z31 AWP z50 z58 z55 RetS z87

noncomputable def okB (g : Graph) (l : List Tree) (t : Tree) : Bool := glB g l && t.brB
theorem brL_sat {g : Graph} {l : List Tree} {t : Tree} (h : okB g l t = true) : brL g l t = t.satB g.nx g.st.length (g.st.map (z39 l)) := by unfold brL; rw [if_pos (show (glB g l && t.brB) = true from h)]
theorem okB_in {g : Graph} {l : List Tree} {t : Tree} (h : okB g l t = true) : ∀ r ∈ g.nx, InN g.st.length r := by
  have h1 := (Bool.and_eq_true_iff.1 (show (glB g l && t.brB) = true from h)).1
  exact ((z81 g).1 (by unfold glB at h1; exact (Bool.and_eq_true_iff.1 h1).1)).inN
theorem brL_len {g : Graph} {l : List Tree} {t : Tree} (h : okB g l t = true) : (brL g l t).length = g.st.length := by
  rw [brL_sat h]; exact Tree.satB_len (okB_in h) _ _
theorem brL_100 {g : Graph} {l : List Tree} (t : Tree) : (brL g l t).length ≤ 100 := by have := brL_le g l t; omega
/-- the program's answer, as new memory and as data -/
theorem br_new (g : Graph) (hg : g.d) (l : List Tree) (hl : Lab.d l) (t : Tree) (ht : t.sz ≤ 1000) : CallsA Tryz.prog 16 [.agg g.cs, lst 3 Tree.cs' l, z49 Tree.cs' t] [] (.tup [.sref 0 0 (brL g l t).length, .bool (okB g l t)]) [.cells 1 ((brL g l t).map enB)] :=
  implBranching_new g hg.mx l hl.mx t (mx_of_sz t (by unfold maxLen; omega))
theorem br_ok (g : Graph) (hg : g.d) (l : List Tree) (hl : Lab.d l) (t : Tree) (ht : t.sz ≤ 1000) : CallsA Tryz.prog 16 [.agg g.cs, lst 3 Tree.cs' l, z49 Tree.cs' t] [] (.tup [lst 1 enB (brL g l t), .bool (okB g l t)]) [] :=
  (by refine CallsA.settle (br_new g hg l hl t ht) [] [0] rfl rfl rfl ?_ ?_ <;> (repeat' (first | exact LocLe.refl _ | exact F2.nil | apply F2.cons | ((apply z47 rfl rfl rfl); (focus ((repeat ((exact z42 (fun _ => rfl) _))); done)); (focus (((simp; done)); done))) | apply tup_le)))
theorem brS_ok (g : Graph) (hg : g.d) (l : List Tree) (hl : Lab.d l) (t : Tree) (ht : t.sz ≤ 1000) : CallsA Tryz.prog 17 [.agg g.cs, lst 3 Tree.cs' l, z49 Tree.cs' t] [] (.tup [lst 1 enB (brL g l t), .bool (okB g l t)]) [] :=
  specBranching_ok g hg.mx l hl.mx t (mx_of_sz t (by unfold maxLen; omega))
end Go.Proofs.YtppafngcahgagaaGreat

namespace Go.Proofs.YtppafngcahgagaaGreat
open Go.Gl
attribute [local irreducible] z31

theorem wpBools_ok (a b : List Bool) (ha : a.length ≤ maxLen) (hb : b.length ≤ maxLen) : CallsA Tryz.prog 18 [lst 1 enB a, lst 1 enB b] [] (.bool (decide (a = b))) [] := by
  unfold maxLen at ha hb
  refine z13 z23 Tryz.func18 rfl rfl 26 Tryz.ntmps18 (by simp) ?_
  repeat (refine AWP.go ok _ _ _ _ _ rfl ?_)
  refine z32 (fun h => ?_) (fun h => ?_)
  · repeat (refine AWP.go ok _ _ _ _ _ rfl ?_)
    have hne : a ≠ b := by rintro rfl; exact h rfl
    rw [decide_eq_false hne]
    exact ⟨[], by decide, rfl, rfl, ACle.of_eq rfl, trivial⟩
  · have hl : a.length = b.length := by omega
    repeat (refine AWP.go ok _ _ _ _ _ rfl ?_)
    refine awp_loop (fun k : Nat => ([(0, lst 1 enB a), (1, lst 1 enB b), (5, .int k)], [])) (fun k => k ≤ a.length ∧ a.take k = b.take k) (fun k => a.length - k) 0 (by simp)
      ⟨[], rfl, by decide, rfl, ⟨⟨rfl, rfl⟩, ⟨rfl, rfl⟩, ⟨rfl, rfl⟩, trivial⟩, trivial⟩ ?_
    intro k hk
    repeat (refine AWP.go ok _ _ _ _ _ rfl ?_)
    refine z8 (fun h => ?_) (fun h => ?_)
    · have hka : k < a.length := by omega
      repeat (first | refine AWP.go ok _ _ _ _ _ rfl ?_ | refine And.intro (by omega) ?_)
      refine ⟨_, map_get _ _ _ (by omega), ?_⟩
      repeat ((refine And.intro (by omega) ?_))
      refine ⟨_, map_get _ _ _ (by omega), ?_⟩
      repeat (first | refine AWP.go ok _ _ _ _ _ rfl ?_ | refine z37 (by kernel_rfl) ?_)
      refine z32 (fun h => ?_) (fun h => ?_)
      · repeat (refine AWP.go ok _ _ _ _ _ rfl ?_)
        have hne : a ≠ b := by rintro rfl; exact h rfl
        rw [decide_eq_false hne]
        exact ⟨[], by decide, rfl, rfl, ACle.of_eq rfl, trivial⟩
      · repeat (first | refine AWP.go ok _ _ _ _ _ rfl ?_ | refine And.intro (by first | omega | (unfold inI; omega)) ?_)
        refine ⟨k + 1, [], ⟨by omega, ?_⟩, by omega, rfl, by decide, rfl, ⟨⟨rfl, rfl⟩, ⟨rfl, rfl⟩, ⟨rfl, rfl⟩, trivial⟩, trivial⟩
        have h' : a[k] = b[k] := h
        rw [List.take_succ_eq_append_getElem hka, List.take_succ_eq_append_getElem (by omega), hk.2, h']
    · repeat (refine AWP.go ok _ _ _ _ _ rfl ?_)
      have he : a = b := by
        have := hk.2
        rwa [List.take_of_length_le (by omega), List.take_of_length_le (by omega)] at this
      rw [decide_eq_true he]
      exact ⟨[], by decide, rfl, rfl, ACle.of_eq rfl, trivial⟩
end Go.Proofs.YtppafngcahgagaaGreat

