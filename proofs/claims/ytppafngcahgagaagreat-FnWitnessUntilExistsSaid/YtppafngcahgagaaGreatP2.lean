/- A part of the proofs over this program: T58, T59, T60, T61, T62, T104, T104W, T111, T37C, T113, T114, T112, T115, T29, T94K. -/
import Derived.Test.YtppafngcahgagaaGreatG0
import Derived.Test.YtppafngcahgagaaGreatG1
import Derived.Test.YtppafngcahgagaaGreatG2
import Derived.Test.YtppafngcahgagaaGreatP0
import Derived.Test.YtppafngcahgagaaGreatP1
import Derived.Test.YtppafngcahgagaaGreatRows
import Derived.WalkKit
import Derived.ProofKit
import Derived.Deep.DeepHandedRow
import Derived.Lib.LaidTab
set_option linter.all false
namespace Go.Proofs.YtppafngcahgagaaGreat
open Go.Gl
attribute [local irreducible] z29 AWP z51 z62 z55

theorem nxL_len (g : List (List Int)) (ev : Bool) (n : Nat) (S : List Bool) : (nxL g ev n S).length = n := by simp [nxL]
theorem gB_nxL (g : List (List Int)) (ev : Bool) (n : Nat) (S : List Bool) (i : Nat) (h : i < n) : gB (nxL g ev n S) i = nxB g ev i S := by
  unfold gB
  rw [z35 (by rw [nxL_len]; exact h)]
  simp [nxL]
theorem z81 {S : List Bool} {i : Nat} (hi : i < S.length) : (S.map enB)[i]? = some (enB (gB S i)) := by
  unfold gB
  rw [z35 hi, List.getElem?_map, List.getElem?_eq_getElem hi]; rfl
theorem GB.inN {g : Graph} (h : GB g) : ∀ r ∈ g.nx, InN g.st.length r := fun r hr => by
  obtain ⟨i, hi, rfl⟩ := List.mem_iff_getElem.1 hr
  exact (GB.rowB h i hi).2.2

set_option maxHeartbeats 1600000 in
theorem l11Until_new (g : Graph) (hG : GB g) (a b : List Bool) (ha : a.length = g.st.length) (hb : b.length = g.st.length) (ev : Bool) : CallsA Tryz.prog 145 [.agg g.cs, lst 1 enB a, lst 1 enB b, .bool ev] [] (.sref 0 0 g.st.length) [.cells 1 ((lim false (unH g.nx ev a b) g.st.length).map enB)] := by
  have h60 := hG.1.2
  have hm : MonoB false (unH g.nx ev a b) g.st.length := unH_mono (s := false) hG.inN a b
  have cn := fun (S : List Bool) (hS : S.length = g.st.length) => l11Next_new g hG S hS ev
  have hnl := fun (S : List Bool) => nxL_len g.nx ev g.st.length S
  have hng := fun (S : List Bool) => gB_nxL g.nx ev g.st.length S
  have w0 : Gl.Way false (unH g.nx ev a b) g.st.length b := Way.goal hb
  generalize hN : g.st.length = N at *
  generalize hHe : unH g.nx ev a b = H at *
  refine z12 z20 Tryz.func145 rfl rfl 48 Tryz.ntmps145 (by simp) ?_
  repeat' ((first | (apply AWP.go ok; rfl) | (apply And.intro; first | (dsimp only; omega) | exact stor_map (fun _ => rfl))) <;> conv => whnf)
  refine z73 (fun x : Bool × List Bool => ([(1, lst 1 enB a), (3, .bool ev), (4, .ptr 0 none 0), (9, .sref 1 0 N), (10, .bool x.1)], [.cells 2 [[lst 2 State.cs g.st, lst 1 encL g.nx]], .cells 1 (x.2.map enB)])) (fun x => Gl.Way false H N x.2 ∧ (x.1 = false → ∀ i, i < N → H i x.2 = gB x.2 i) ∧ ∀ i, i < N → gB x.2 i = false → gB b i = false) (fun x => 2 * cntS false x.2 + (if x.1 then 1 else 0)) (true, b) ⟨w0, fun h => (by dsimp only at h; cases h), fun i _ h => h⟩ ⟨[0, 2], rfl, by decide, rfl, ⟨⟨rfl, rfl⟩, ⟨rfl, rfl⟩, ⟨rfl, rfl⟩, ⟨rfl, by rw [← hb]; exact congrArg (AC.sref 2 0) (Nat.zero_add _)⟩, ⟨rfl, rfl⟩, trivial⟩, ⟨z17 rfl rfl, z16 rfl (z8 fun _ => rfl), trivial⟩⟩ ?_
  rintro ⟨ch, S⟩ ⟨hw, hfx, hb0⟩
  dsimp only at hw hfx hb0 ⊢
  have hSl := hw.len
  cases ch
  · have hR := hw.ends (hfx rfl)
    repeat' (((apply AWP.go ok; rfl)) <;> conv => whnf)
    all_goals skip
    rw [lim_eq hR]
    exact z45 [1] (by decide) rfl rfl rfl ⟨z16 rfl (z8 fun _ => rfl), trivial⟩
  · have c1 := cn S hSl
    repeat' ((first | (apply AWP.go ok; rfl) | (((apply z6 [] [1] [2] (c1); (focus (exact z46 rfl (z46 (bor_boolsN rfl rfl rfl hSl) rfl))); (focus ((repeat' exact z4) <;> fail)))); rfl; rfl; rfl; rfl; rfl; (focus ((repeat' first | exact z13 | apply z11) <;> (refine z22 ?_; ((exact z8 fun _ => rfl))))); ((refine .inr ⟨rfl, ?_⟩; repeat' first | exact True.intro | apply And.intro | exact z102 (fun _ => rfl) _)))) <;> conv => whnf)
    all_goals skip
    refine z73 (fun y : Nat × Bool × List Bool => ([(1, lst 1 enB a), (3, .bool ev), (4, .ptr 0 none 0), (9, .sref 1 0 N), (10, .bool y.2.1), (11, .sref 2 0 N), (12, .int y.1)], [.cells 2 [[lst 2 State.cs g.st, lst 1 encL g.nx]], .cells 1 (y.2.2.map enB), .cells 1 ((nxL g.nx ev N S).map enB)])) (fun y => y.1 ≤ N ∧ Gl.Way false H N y.2.2 ∧ (y.2.1 = false → y.2.2 = S ∧ ∀ i, i < y.1 → H i S = gB S i) ∧ (y.2.1 = true → cntS false y.2.2 + 1 ≤ cntS false S) ∧ (∀ j, j < N → ordB false (gB S j) (gB y.2.2 j)) ∧ ∀ i, i < N → gB y.2.2 i = false → gB b i = false) (fun y => N - y.1) (0, false, S) ⟨by dsimp only; omega, hw, fun _ => ⟨rfl, fun i hi => by dsimp only at hi; omega⟩, fun h => (by dsimp only at h; cases h), fun j _ => ordB.refl _ _, hb0⟩ ⟨[0, 1, 2], rfl, by decide, rfl, ⟨⟨rfl, rfl⟩, ⟨rfl, rfl⟩, ⟨rfl, rfl⟩, ⟨rfl, rfl⟩, ⟨rfl, rfl⟩, ⟨rfl, rfl⟩, ⟨rfl, rfl⟩, trivial⟩, ⟨z17 rfl rfl, z16 rfl (z8 fun _ => rfl), z16 rfl (z8 fun _ => rfl), trivial⟩⟩ ?_
    rintro ⟨k, c, S'⟩ ⟨hk1, hw', hc1, hc2, hle, hb1⟩
    dsimp only at hk1 hw' hc1 hc2 hle hb1 ⊢
    have hSl' := hw'.len
    by_cases hkN : k < N
    · have g1 := z81 (S := S') (i := k) (by omega)
      have g2 := z81 (S := a) (i := k) (by omega)
      have g3 := z81 (S := nxL g.nx ev N S) (i := k) (by rw [hnl]; omega)
      rw [hng S k hkN] at g3
      have same : (gB S' k = gB S k → H k S = gB S k) → c = false → S' = S ∧ ∀ i, i < k + 1 → H i S = gB S i := fun hh hc => by
        obtain ⟨e1, e2⟩ := hc1 hc
        refine ⟨e1, fun i hi => ?_⟩
        rcases Nat.lt_or_ge i k with h3 | h3
        · exact e2 i h3
        · obtain rfl : i = k := by omega
          exact hh (by rw [e1])
      have hp := hw.post k hkN
      by_cases he : gB S' k = false ∧ gB a k = true ∧ nxB g.nx ev k S = true
      · have hst := hw'.step hm hSl hle hkN (i := k) (by rw [← hHe]; unfold unH; rw [he.2.1, he.2.2]; simp) he.1
        have hcn := hst.2.1
        obtain ⟨he1, he2, he3⟩ := he
        rw [he1] at g1
        rw [he2] at g2
        rw [he3] at g3
        repeat' ((first | (apply AWP.go ok; rfl) | (refine z18 (i := k) rfl g1 ?_) | (refine z18 (i := k) rfl g2 ?_) | (refine z18 (i := k) rfl g3 ?_) | (apply And.intro; first | omega | (unfold inI; omega)) | ((apply z9) <;> intro _)) <;> conv => whnf)
        all_goals first | (exfalso; omega) | skip
        all_goals
          refine z61 (k + 1, true, S'.set k (!false)) [0, 1, 2] ⟨by dsimp only; omega, hst.1, (fun hc => by dsimp only at hc; cases hc), fun _ => ?_, hst.2.2, fun i hi h => ?_⟩ (by dsimp only; omega) ⟨rfl, by decide, rfl, ⟨⟨rfl, rfl⟩, ⟨rfl, rfl⟩, ⟨rfl, rfl⟩, ⟨rfl, rfl⟩, ⟨rfl, rfl⟩, ⟨rfl, rfl⟩, ⟨rfl, rfl⟩, trivial⟩, ⟨z17 rfl rfl, z16 (z27 (by rw [List.map_set]; rfl)) (z8 fun _ => rfl), z16 rfl (z8 fun _ => rfl), trivial⟩⟩
          · dsimp only
            cases c
            · rw [(hc1 rfl).1] at hcn ⊢; omega
            · have := hc2 rfl; omega
          · dsimp only at h
            rw [gB_set (by omega)] at h
            split at h
            · cases h
            · exact hb1 i hi h
      · have hcase : gB S' k = gB S k → H k S = gB S k := fun e => by
          cases hs : gB S k
          · have hb := hb0 k hkN hs
            rw [← hHe]; unfold unH
            rw [hb]
            cases h1 : gB a k <;> cases h2 : nxB g.nx ev k S <;> first | rfl | (exfalso; exact he ⟨by rw [e, hs], h1, h2⟩)
          · rw [hs] at hp
            rcases hp with e | e
            · exact e.symm
            · cases e
        generalize gB S' k = p at *
        generalize gB a k = q at *
        generalize nxB g.nx ev k S = r at *
        clear c1
        cases p <;> cases q <;> cases r <;> first | (exfalso; exact he ⟨rfl, rfl, rfl⟩) | skip
        · repeat' ((first | (apply AWP.go ok; rfl) | (refine z18 (i := k) rfl g1 ?_) | (refine z18 (i := k) rfl g2 ?_) | (apply And.intro; first | omega | (unfold inI; omega)) | ((apply z9) <;> intro _)) <;> conv => whnf)
          all_goals first | (exfalso; omega) | skip
          all_goals exact z61 (k + 1, c, S') [0, 1, 2] ⟨by dsimp only; omega, hw', same hcase, hc2, hle, hb1⟩ (by dsimp only; omega) ⟨rfl, by decide, rfl, ⟨⟨rfl, rfl⟩, ⟨rfl, rfl⟩, ⟨rfl, rfl⟩, ⟨rfl, rfl⟩, ⟨rfl, rfl⟩, ⟨rfl, rfl⟩, ⟨rfl, rfl⟩, trivial⟩, ⟨z17 rfl rfl, z16 rfl (z8 fun _ => rfl), z16 rfl (z8 fun _ => rfl), trivial⟩⟩
        · repeat' ((first | (apply AWP.go ok; rfl) | (refine z18 (i := k) rfl g1 ?_) | (refine z18 (i := k) rfl g2 ?_) | (apply And.intro; first | omega | (unfold inI; omega)) | ((apply z9) <;> intro _)) <;> conv => whnf)
          all_goals first | (exfalso; omega) | skip
          all_goals exact z61 (k + 1, c, S') [0, 1, 2] ⟨by dsimp only; omega, hw', same hcase, hc2, hle, hb1⟩ (by dsimp only; omega) ⟨rfl, by decide, rfl, ⟨⟨rfl, rfl⟩, ⟨rfl, rfl⟩, ⟨rfl, rfl⟩, ⟨rfl, rfl⟩, ⟨rfl, rfl⟩, ⟨rfl, rfl⟩, ⟨rfl, rfl⟩, trivial⟩, ⟨z17 rfl rfl, z16 rfl (z8 fun _ => rfl), z16 rfl (z8 fun _ => rfl), trivial⟩⟩
        · repeat' ((first | (apply AWP.go ok; rfl) | (refine z18 (i := k) rfl g1 ?_) | (refine z18 (i := k) rfl g2 ?_) | (refine z18 (i := k) rfl g3 ?_) | (apply And.intro; first | omega | (unfold inI; omega)) | ((apply z9) <;> intro _)) <;> conv => whnf)
          all_goals first | (exfalso; omega) | skip
          all_goals exact z61 (k + 1, c, S') [0, 1, 2] ⟨by dsimp only; omega, hw', same hcase, hc2, hle, hb1⟩ (by dsimp only; omega) ⟨rfl, by decide, rfl, ⟨⟨rfl, rfl⟩, ⟨rfl, rfl⟩, ⟨rfl, rfl⟩, ⟨rfl, rfl⟩, ⟨rfl, rfl⟩, ⟨rfl, rfl⟩, ⟨rfl, rfl⟩, trivial⟩, ⟨z17 rfl rfl, z16 rfl (z8 fun _ => rfl), z16 rfl (z8 fun _ => rfl), trivial⟩⟩
        · repeat' ((first | (apply AWP.go ok; rfl) | (refine z18 (i := k) rfl g1 ?_) | (apply And.intro; first | omega | (unfold inI; omega)) | ((apply z9) <;> intro _)) <;> conv => whnf)
          all_goals first | (exfalso; omega) | skip
          all_goals exact z61 (k + 1, c, S') [0, 1, 2] ⟨by dsimp only; omega, hw', same hcase, hc2, hle, hb1⟩ (by dsimp only; omega) ⟨rfl, by decide, rfl, ⟨⟨rfl, rfl⟩, ⟨rfl, rfl⟩, ⟨rfl, rfl⟩, ⟨rfl, rfl⟩, ⟨rfl, rfl⟩, ⟨rfl, rfl⟩, ⟨rfl, rfl⟩, trivial⟩, ⟨z17 rfl rfl, z16 rfl (z8 fun _ => rfl), z16 rfl (z8 fun _ => rfl), trivial⟩⟩
        · repeat' ((first | (apply AWP.go ok; rfl) | (refine z18 (i := k) rfl g1 ?_) | (apply And.intro; first | omega | (unfold inI; omega)) | ((apply z9) <;> intro _)) <;> conv => whnf)
          all_goals first | (exfalso; omega) | skip
          all_goals exact z61 (k + 1, c, S') [0, 1, 2] ⟨by dsimp only; omega, hw', same hcase, hc2, hle, hb1⟩ (by dsimp only; omega) ⟨rfl, by decide, rfl, ⟨⟨rfl, rfl⟩, ⟨rfl, rfl⟩, ⟨rfl, rfl⟩, ⟨rfl, rfl⟩, ⟨rfl, rfl⟩, ⟨rfl, rfl⟩, ⟨rfl, rfl⟩, trivial⟩, ⟨z17 rfl rfl, z16 rfl (z8 fun _ => rfl), z16 rfl (z8 fun _ => rfl), trivial⟩⟩
        · repeat' ((first | (apply AWP.go ok; rfl) | (refine z18 (i := k) rfl g1 ?_) | (apply And.intro; first | omega | (unfold inI; omega)) | ((apply z9) <;> intro _)) <;> conv => whnf)
          all_goals first | (exfalso; omega) | skip
          all_goals exact z61 (k + 1, c, S') [0, 1, 2] ⟨by dsimp only; omega, hw', same hcase, hc2, hle, hb1⟩ (by dsimp only; omega) ⟨rfl, by decide, rfl, ⟨⟨rfl, rfl⟩, ⟨rfl, rfl⟩, ⟨rfl, rfl⟩, ⟨rfl, rfl⟩, ⟨rfl, rfl⟩, ⟨rfl, rfl⟩, ⟨rfl, rfl⟩, trivial⟩, ⟨z17 rfl rfl, z16 rfl (z8 fun _ => rfl), z16 rfl (z8 fun _ => rfl), trivial⟩⟩
        · repeat' ((first | (apply AWP.go ok; rfl) | (refine z18 (i := k) rfl g1 ?_) | (apply And.intro; first | omega | (unfold inI; omega)) | ((apply z9) <;> intro _)) <;> conv => whnf)
          all_goals first | (exfalso; omega) | skip
          all_goals exact z61 (k + 1, c, S') [0, 1, 2] ⟨by dsimp only; omega, hw', same hcase, hc2, hle, hb1⟩ (by dsimp only; omega) ⟨rfl, by decide, rfl, ⟨⟨rfl, rfl⟩, ⟨rfl, rfl⟩, ⟨rfl, rfl⟩, ⟨rfl, rfl⟩, ⟨rfl, rfl⟩, ⟨rfl, rfl⟩, ⟨rfl, rfl⟩, trivial⟩, ⟨z17 rfl rfl, z16 rfl (z8 fun _ => rfl), z16 rfl (z8 fun _ => rfl), trivial⟩⟩
    · repeat' ((first | (apply AWP.go ok; rfl) | (apply And.intro; omega) | ((first | (with_reducible apply z14; omega) | (apply z14; omega)); intro _) | ((first | apply z9 | apply z89 | apply z77) <;> intro _)) <;> conv => whnf)
      all_goals first | (exfalso; omega) | skip
      refine z61 (c, S') [0, 1] ⟨hw', fun hc i hi => ?_, hb1⟩ ?_ ⟨rfl, by decide, rfl, ⟨⟨rfl, rfl⟩, ⟨rfl, rfl⟩, ⟨rfl, rfl⟩, ⟨rfl, rfl⟩, ⟨rfl, rfl⟩, trivial⟩, ⟨z17 rfl rfl, z16 rfl (z8 fun _ => rfl), trivial⟩⟩
      · dsimp only at hc ⊢
        rw [(hc1 hc).1]; exact (hc1 hc).2 i (by omega)
      · dsimp only
        cases c
        · rw [(hc1 rfl).1]; simp
        · have := hc2 rfl; simp; omega

set_option maxHeartbeats 1600000 in
theorem l11Always_new (g : Graph) (hG : GB g) (a : List Bool) (ha : a.length = g.st.length) (ev : Bool) : CallsA Tryz.prog 146 [.agg g.cs, lst 1 enB a, .bool ev] [] (.sref 0 0 g.st.length) [.cells 1 ((lim true (alH g.nx ev a) g.st.length).map enB)] := by
  have h60 := hG.1.2
  have hm : MonoB true (alH g.nx ev a) g.st.length := alH_mono (s := true) hG.inN a
  have cn := fun (S : List Bool) (hS : S.length = g.st.length) => l11Next_new g hG S hS ev
  have hnl := fun (S : List Bool) => nxL_len g.nx ev g.st.length S
  have hng := fun (S : List Bool) => gB_nxL g.nx ev g.st.length S
  have w0 : Gl.Way true (alH g.nx ev a) g.st.length a := Way.now ha
  generalize hN : g.st.length = N at *
  generalize hHe : alH g.nx ev a = H at *
  refine z12 z20 Tryz.func146 rfl rfl 40 Tryz.ntmps146 (by simp) ?_
  repeat' ((first | (apply AWP.go ok; rfl) | (apply And.intro; first | (dsimp only; omega) | exact stor_map (fun _ => rfl))) <;> conv => whnf)
  refine z73 (fun x : Bool × List Bool => ([(2, .bool ev), (3, .ptr 0 none 0), (7, .sref 1 0 N), (8, .bool x.1)], [.cells 2 [[lst 2 State.cs g.st, lst 1 encL g.nx]], .cells 1 (x.2.map enB)])) (fun x => Gl.Way true H N x.2 ∧ (x.1 = false → ∀ i, i < N → H i x.2 = gB x.2 i) ∧ ∀ i, i < N → gB x.2 i = true → gB a i = true) (fun x => 2 * cntS true x.2 + (if x.1 then 1 else 0)) (true, a) ⟨w0, fun h => (by dsimp only at h; cases h), fun i _ h => h⟩ ⟨[0, 2], rfl, by decide, rfl, ⟨⟨rfl, rfl⟩, ⟨rfl, rfl⟩, ⟨rfl, by rw [← ha]; exact congrArg (AC.sref 2 0) (Nat.zero_add _)⟩, ⟨rfl, rfl⟩, trivial⟩, ⟨z17 rfl rfl, z16 rfl (z8 fun _ => rfl), trivial⟩⟩ ?_
  rintro ⟨ch, S⟩ ⟨hw, hfx, hb0⟩
  dsimp only at hw hfx hb0 ⊢
  have hSl := hw.len
  cases ch
  · have hR := hw.ends (hfx rfl)
    repeat' (((apply AWP.go ok; rfl)) <;> conv => whnf)
    all_goals skip
    rw [lim_eq hR]
    exact z45 [1] (by decide) rfl rfl rfl ⟨z16 rfl (z8 fun _ => rfl), trivial⟩
  · have c1 := cn S hSl
    repeat' ((first | (apply AWP.go ok; rfl) | (((apply z6 [] [1] [2] (c1); (focus (exact z46 rfl (z46 (bor_boolsN rfl rfl rfl hSl) rfl))); (focus ((repeat' exact z4) <;> fail)))); rfl; rfl; rfl; rfl; rfl; (focus ((repeat' first | exact z13 | apply z11) <;> (refine z22 ?_; ((exact z8 fun _ => rfl))))); ((refine .inr ⟨rfl, ?_⟩; repeat' first | exact True.intro | apply And.intro | exact z102 (fun _ => rfl) _)))) <;> conv => whnf)
    all_goals skip
    refine z73 (fun y : Nat × Bool × List Bool => ([(2, .bool ev), (3, .ptr 0 none 0), (7, .sref 1 0 N), (8, .bool y.2.1), (9, .sref 2 0 N), (10, .int y.1)], [.cells 2 [[lst 2 State.cs g.st, lst 1 encL g.nx]], .cells 1 (y.2.2.map enB), .cells 1 ((nxL g.nx ev N S).map enB)])) (fun y => y.1 ≤ N ∧ Gl.Way true H N y.2.2 ∧ (y.2.1 = false → y.2.2 = S ∧ ∀ i, i < y.1 → H i S = gB S i) ∧ (y.2.1 = true → cntS true y.2.2 + 1 ≤ cntS true S) ∧ (∀ j, j < N → ordB true (gB S j) (gB y.2.2 j)) ∧ ∀ i, i < N → gB y.2.2 i = true → gB a i = true) (fun y => N - y.1) (0, false, S) ⟨by dsimp only; omega, hw, fun _ => ⟨rfl, fun i hi => by dsimp only at hi; omega⟩, fun h => (by dsimp only at h; cases h), fun j _ => ordB.refl _ _, hb0⟩ ⟨[0, 1, 2], rfl, by decide, rfl, ⟨⟨rfl, rfl⟩, ⟨rfl, rfl⟩, ⟨rfl, rfl⟩, ⟨rfl, rfl⟩, ⟨rfl, rfl⟩, ⟨rfl, rfl⟩, trivial⟩, ⟨z17 rfl rfl, z16 rfl (z8 fun _ => rfl), z16 rfl (z8 fun _ => rfl), trivial⟩⟩ ?_
    rintro ⟨k, c, S'⟩ ⟨hk1, hw', hc1, hc2, hle, hb1⟩
    dsimp only at hk1 hw' hc1 hc2 hle hb1 ⊢
    have hSl' := hw'.len
    by_cases hkN : k < N
    · have g1 := z81 (S := S') (i := k) (by omega)
      have g2 := z81 (S := a) (i := k) (by omega)
      have g3 := z81 (S := nxL g.nx ev N S) (i := k) (by rw [hnl]; omega)
      rw [hng S k hkN] at g3
      have same : (gB S' k = gB S k → H k S = gB S k) → c = false → S' = S ∧ ∀ i, i < k + 1 → H i S = gB S i := fun hh hc => by
        obtain ⟨e1, e2⟩ := hc1 hc
        refine ⟨e1, fun i hi => ?_⟩
        rcases Nat.lt_or_ge i k with h3 | h3
        · exact e2 i h3
        · obtain rfl : i = k := by omega
          exact hh (by rw [e1])
      have hp := hw.post k hkN
      by_cases he : gB S' k = true ∧ nxB g.nx ev k S = false
      · have hst := hw'.step hm hSl hle hkN (i := k) (by rw [← hHe]; unfold alH; rw [hb0 k hkN (by rcases hle k hkN with e | e <;> first | exact e | (rw [e]; exact he.1)), he.2]; rfl) he.1
        have hcn := hst.2.1
        obtain ⟨he1, he3⟩ := he
        rw [he1] at g1
        rw [he3] at g3
        repeat' ((first | (apply AWP.go ok; rfl) | (refine z18 (i := k) rfl g1 ?_) | (refine z18 (i := k) rfl g3 ?_) | (apply And.intro; first | omega | (unfold inI; omega)) | ((apply z9) <;> intro _)) <;> conv => whnf)
        all_goals first | (exfalso; omega) | skip
        all_goals
          refine z61 (k + 1, true, S'.set k (!true)) [0, 1, 2] ⟨by dsimp only; omega, hst.1, (fun hc => by dsimp only at hc; cases hc), fun _ => ?_, hst.2.2, fun i hi h => ?_⟩ (by dsimp only; omega) ⟨rfl, by decide, rfl, ⟨⟨rfl, rfl⟩, ⟨rfl, rfl⟩, ⟨rfl, rfl⟩, ⟨rfl, rfl⟩, ⟨rfl, rfl⟩, ⟨rfl, rfl⟩, trivial⟩, ⟨z17 rfl rfl, z16 (z27 (by rw [List.map_set]; rfl)) (z8 fun _ => rfl), z16 rfl (z8 fun _ => rfl), trivial⟩⟩
          · dsimp only
            cases c
            · rw [(hc1 rfl).1] at hcn ⊢; omega
            · have := hc2 rfl; omega
          · dsimp only at h
            rw [gB_set (by omega)] at h
            split at h
            · cases h
            · exact hb1 i hi h
      · have hcase : gB S' k = gB S k → H k S = gB S k := fun e => by
          cases hs : gB S k
          · rw [hs] at hp
            rcases hp with e | e
            · exact e.symm
            · cases e
          · have hb := hb0 k hkN hs
            rw [← hHe]; unfold alH
            rw [hb]
            cases h2 : nxB g.nx ev k S <;> first | rfl | (exfalso; exact he ⟨by rw [e, hs], h2⟩)
        generalize gB S' k = p at *
        generalize nxB g.nx ev k S = r at *
        clear c1
        cases p <;> cases r <;> first | (exfalso; exact he ⟨rfl, rfl⟩) | skip
        · repeat' ((first | (apply AWP.go ok; rfl) | (refine z18 (i := k) rfl g1 ?_) | (apply And.intro; first | omega | (unfold inI; omega)) | ((apply z9) <;> intro _)) <;> conv => whnf)
          all_goals first | (exfalso; omega) | skip
          all_goals exact z61 (k + 1, c, S') [0, 1, 2] ⟨by dsimp only; omega, hw', same hcase, hc2, hle, hb1⟩ (by dsimp only; omega) ⟨rfl, by decide, rfl, ⟨⟨rfl, rfl⟩, ⟨rfl, rfl⟩, ⟨rfl, rfl⟩, ⟨rfl, rfl⟩, ⟨rfl, rfl⟩, ⟨rfl, rfl⟩, trivial⟩, ⟨z17 rfl rfl, z16 rfl (z8 fun _ => rfl), z16 rfl (z8 fun _ => rfl), trivial⟩⟩
        · repeat' ((first | (apply AWP.go ok; rfl) | (refine z18 (i := k) rfl g1 ?_) | (apply And.intro; first | omega | (unfold inI; omega)) | ((apply z9) <;> intro _)) <;> conv => whnf)
          all_goals first | (exfalso; omega) | skip
          all_goals exact z61 (k + 1, c, S') [0, 1, 2] ⟨by dsimp only; omega, hw', same hcase, hc2, hle, hb1⟩ (by dsimp only; omega) ⟨rfl, by decide, rfl, ⟨⟨rfl, rfl⟩, ⟨rfl, rfl⟩, ⟨rfl, rfl⟩, ⟨rfl, rfl⟩, ⟨rfl, rfl⟩, ⟨rfl, rfl⟩, trivial⟩, ⟨z17 rfl rfl, z16 rfl (z8 fun _ => rfl), z16 rfl (z8 fun _ => rfl), trivial⟩⟩
        · repeat' ((first | (apply AWP.go ok; rfl) | (refine z18 (i := k) rfl g1 ?_) | (refine z18 (i := k) rfl g3 ?_) | (apply And.intro; first | omega | (unfold inI; omega)) | ((apply z9) <;> intro _)) <;> conv => whnf)
          all_goals first | (exfalso; omega) | skip
          all_goals exact z61 (k + 1, c, S') [0, 1, 2] ⟨by dsimp only; omega, hw', same hcase, hc2, hle, hb1⟩ (by dsimp only; omega) ⟨rfl, by decide, rfl, ⟨⟨rfl, rfl⟩, ⟨rfl, rfl⟩, ⟨rfl, rfl⟩, ⟨rfl, rfl⟩, ⟨rfl, rfl⟩, ⟨rfl, rfl⟩, trivial⟩, ⟨z17 rfl rfl, z16 rfl (z8 fun _ => rfl), z16 rfl (z8 fun _ => rfl), trivial⟩⟩
    · repeat' ((first | (apply AWP.go ok; rfl) | (apply And.intro; omega) | (((apply z14; omega)); intro _) | ((first | apply z9 | apply z89 | apply z77) <;> intro _)) <;> conv => whnf)
      all_goals first | (exfalso; omega) | skip
      refine z61 (c, S') [0, 1] ⟨hw', fun hc i hi => ?_, hb1⟩ ?_ ⟨rfl, by decide, rfl, ⟨⟨rfl, rfl⟩, ⟨rfl, rfl⟩, ⟨rfl, rfl⟩, ⟨rfl, rfl⟩, trivial⟩, ⟨z17 rfl rfl, z16 rfl (z8 fun _ => rfl), trivial⟩⟩
      · dsimp only at hc ⊢
        rw [(hc1 hc).1]; exact (hc1 hc).2 i (by omega)
      · dsimp only
        cases c
        · rw [(hc1 rfl).1]; simp
        · have := hc2 rfl; simp; omega
end Go.Proofs.YtppafngcahgagaaGreat

namespace Go.Proofs.YtppafngcahgagaaGreat
open Go.Gl
attribute [local irreducible] z29 AWP z51 z62 z55

theorem l6Has_ok (x a : Int) (h0 : 0 ≤ x) (h1 : x ≤ 7) (h2 : 0 ≤ a) (h3 : a ≤ 2) : CallsA Tryz.prog 147 [.int x, .int a] [] (.bool (hasB x a)) [] := by
  have h5 : 0 ≤ x / 2 ^ a.toNat ∧ x / 2 ^ a.toNat ≤ 7 := by
    have : a = 0 ∨ a = 1 ∨ a = 2 := by omega
    rcases this with rfl | rfl | rfl <;> simp <;> omega
  have hw : IntKind.u64.wrap a = a := by
    have : a = 0 ∨ a = 1 ∨ a = 2 := by omega
    rcases this with rfl | rfl | rfl <;> decide
  refine z12 z20 Tryz.func147 rfl rfl 11 Tryz.ntmps147 (by simp) ?_
  repeat' ((first | (apply AWP.go ok; rfl) | (apply And.intro; first | omega | (unfold bitsOk; omega))) <;> conv => whnf)
  all_goals (exact z19 rfl rfl)
theorem sat1_ok (i : Int) : CallsA Tryz.prog 127 [.int i] [] (.bool true) [] := by
  refine z12 z20 Tryz.func127 rfl rfl 3 Tryz.ntmps127 (by simp) ?_
  repeat' (((apply AWP.go ok; rfl)) <;> conv => whnf)
  exact z19 rfl rfl
theorem sat6_ok (L : List Int) (k v : Int) (x : AC) (i : Nat) (hi : i < L.length) (hl : L.length ≤ 1048576) (h0 : 0 ≤ L.getD i 0) (h1 : L.getD i 0 ≤ 7) (h2 : 0 ≤ v) (h3 : v ≤ 2) : CallsA Tryz.prog 133 [.int i, .pt [ints L], .pt [.int k, .int v, x]] [] (.bool (hasB (L.getD i 0) v)) [] := by
  have g1 : (L.map enI)[i]? = some (enI (L.getD i 0)) := by rw [z35 hi, List.getElem?_map, List.getElem?_eq_getElem hi]; rfl
  generalize L.getD i 0 = y at *
  have h5 : 0 ≤ y / 2 ^ v.toNat ∧ y / 2 ^ v.toNat ≤ 7 := by
    have : v = 0 ∨ v = 1 ∨ v = 2 := by omega
    rcases this with rfl | rfl | rfl <;> simp <;> omega
  refine z12 z20 Tryz.func133 rfl rfl 14 Tryz.ntmps133 (by simp) ?_
  repeat' ((first | (apply AWP.go ok; rfl) | (apply z41; kernel_rfl) | (refine z18 (i := i) rfl g1 ?_) | (apply And.intro; first | omega | (unfold bitsOk; omega))) <;> conv => whnf)
  all_goals (exact z19 rfl rfl)

theorem sat2_ok (g : Graph) (hG : GB g) (a b : List Bool) (ha : a.length = g.st.length) (hb : b.length = g.st.length) (i : Nat) (S : List Bool) (hi : i < g.st.length) (hS : S.length = g.st.length) : CallsA Tryz.prog 128 [.int i, lst 1 enB S, .pt [lst 1 encBL [a, b]], .pt g.cs] [] (.bool (unH g.nx false a b i S)) [] := by
  have h60 := hG.1.2
  have g1 := z81 (S := a) (i := i) (by omega)
  have g2 := z81 (S := b) (i := i) (by omega)
  have c1 := some_ok g hG S hS i hi
  unfold unH
  generalize gB a i = p at *
  generalize gB b i = q at *
  refine z12 z20 Tryz.func128 rfl rfl 27 Tryz.ntmps128 (by simp) ?_
  cases p <;> cases q
  all_goals
    repeat' ((first | (apply AWP.go ok; rfl) | (refine z18 (i := 0) rfl rfl ?_) | (refine z18 (i := 1) rfl rfl ?_) | (refine z18 (i := i) rfl g1 ?_) | (refine z18 (i := i) rfl g2 ?_) | (apply And.intro; omega) | (apply z10 (c1); rfl; rfl)) <;> conv => whnf)
    all_goals exact z19 rfl rfl

theorem sat3_ok (g : Graph) (hG : GB g) (a : List Bool) (ha : a.length = g.st.length) (i : Nat) (S : List Bool) (hi : i < g.st.length) (hS : S.length = g.st.length) : CallsA Tryz.prog 129 [.int i, lst 1 enB S, .pt [lst 1 encBL [a]], .pt g.cs] [] (.bool (alH g.nx false a i S)) [] := by
  have h60 := hG.1.2
  have g1 := z81 (S := a) (i := i) (by omega)
  have c1 := some_ok g hG S hS i hi
  unfold alH
  generalize gB a i = p at *
  refine z12 z20 Tryz.func129 rfl rfl 19 Tryz.ntmps129 (by simp) ?_
  cases p
  all_goals
    repeat' ((first | (apply AWP.go ok; rfl) | (refine z18 (i := 0) rfl rfl ?_) | (refine z18 (i := i) rfl g1 ?_) | (apply And.intro; omega) | (apply z10 (c1); rfl; rfl)) <;> conv => whnf)
    all_goals exact z19 rfl rfl

theorem sat4_ok (g : Graph) (hG : GB g) (a b : List Bool) (ha : a.length = g.st.length) (hb : b.length = g.st.length) (i : Nat) (S : List Bool) (hi : i < g.st.length) (hS : S.length = g.st.length) : CallsA Tryz.prog 130 [.int i, lst 1 enB S, .pt [lst 1 encBL [a, b]], .pt g.cs] [] (.bool (unH g.nx true a b i S)) [] := by
  have h60 := hG.1.2
  have g1 := z81 (S := a) (i := i) (by omega)
  have g2 := z81 (S := b) (i := i) (by omega)
  have c1 := every_ok g hG S hS i hi
  unfold unH
  generalize gB a i = p at *
  generalize gB b i = q at *
  refine z12 z20 Tryz.func130 rfl rfl 27 Tryz.ntmps130 (by simp) ?_
  cases p <;> cases q
  all_goals
    repeat' ((first | (apply AWP.go ok; rfl) | (refine z18 (i := 0) rfl rfl ?_) | (refine z18 (i := 1) rfl rfl ?_) | (refine z18 (i := i) rfl g1 ?_) | (refine z18 (i := i) rfl g2 ?_) | (apply And.intro; omega) | (apply z10 (c1); rfl; rfl)) <;> conv => whnf)
    all_goals exact z19 rfl rfl

theorem sat5_ok (g : Graph) (hG : GB g) (a : List Bool) (ha : a.length = g.st.length) (i : Nat) (S : List Bool) (hi : i < g.st.length) (hS : S.length = g.st.length) : CallsA Tryz.prog 132 [.int i, lst 1 enB S, .pt [lst 1 encBL [a]], .pt g.cs] [] (.bool (alH g.nx true a i S)) [] := by
  have h60 := hG.1.2
  have g1 := z81 (S := a) (i := i) (by omega)
  have c1 := every_ok g hG S hS i hi
  unfold alH
  generalize gB a i = p at *
  refine z12 z20 Tryz.func132 rfl rfl 19 Tryz.ntmps132 (by simp) ?_
  cases p
  all_goals
    repeat' ((first | (apply AWP.go ok; rfl) | (refine z18 (i := 0) rfl rfl ?_) | (refine z18 (i := i) rfl g1 ?_) | (apply And.intro; omega) | (apply z10 (c1); rfl; rfl)) <;> conv => whnf)
    all_goals exact z19 rfl rfl

theorem sat7_ok (a : List Bool) (N : Nat) (hN : N ≤ 1048576) (ha : a.length = N) (i : Nat) (hi : i < N) : CallsA Tryz.prog 134 [.int i, .pt [lst 1 encBL [a]]] [] (.bool (!gB a i)) [] := by
  have g1 := z81 (S := a) (i := i) (by omega)
  refine z12 z20 Tryz.func134 rfl rfl 11 Tryz.ntmps134 (by simp) ?_
  repeat' ((first | (apply AWP.go ok; rfl) | (refine z18 (i := 0) rfl rfl ?_) | (refine z18 (i := i) rfl g1 ?_) | (apply And.intro; omega)) <;> conv => whnf)
  all_goals exact z19 rfl rfl

theorem sat8_ok (a b : List Bool) (N : Nat) (hN : N ≤ 1048576) (ha : a.length = N) (hb : b.length = N) (i : Nat) (hi : i < N) : CallsA Tryz.prog 135 [.int i, .pt [lst 1 encBL [a, b]]] [] (.bool (gB a i && gB b i)) [] := by
  have g1 := z81 (S := a) (i := i) (by omega)
  have g2 := z81 (S := b) (i := i) (by omega)
  generalize gB a i = p at *
  generalize gB b i = q at *
  refine z12 z20 Tryz.func135 rfl rfl 18 Tryz.ntmps135 (by simp) ?_
  cases p <;> cases q
  all_goals
    repeat' ((first | (apply AWP.go ok; rfl) | (refine z18 (i := 0) rfl rfl ?_) | (refine z18 (i := 1) rfl rfl ?_) | (refine z18 (i := i) rfl g1 ?_) | (refine z18 (i := i) rfl g2 ?_) | (apply And.intro; omega)) <;> conv => whnf)
    all_goals exact z19 rfl rfl

theorem sat9_ok (a b : List Bool) (N : Nat) (hN : N ≤ 1048576) (ha : a.length = N) (hb : b.length = N) (i : Nat) (hi : i < N) : CallsA Tryz.prog 136 [.int i, .pt [lst 1 encBL [a, b]]] [] (.bool (gB a i || gB b i)) [] := by
  have g1 := z81 (S := a) (i := i) (by omega)
  have g2 := z81 (S := b) (i := i) (by omega)
  generalize gB a i = p at *
  generalize gB b i = q at *
  refine z12 z20 Tryz.func136 rfl rfl 18 Tryz.ntmps136 (by simp) ?_
  cases p <;> cases q
  all_goals
    repeat' ((first | (apply AWP.go ok; rfl) | (refine z18 (i := 0) rfl rfl ?_) | (refine z18 (i := 1) rfl rfl ?_) | (refine z18 (i := i) rfl g1 ?_) | (refine z18 (i := i) rfl g2 ?_) | (apply And.intro; omega)) <;> conv => whnf)
    all_goals exact z19 rfl rfl

theorem sat10_ok (g : Graph) (hG : GB g) (a : List Bool) (ha : a.length = g.st.length) (i : Nat) (hi : i < g.st.length) : CallsA Tryz.prog 137 [.int i, .pt g.cs, .pt [lst 1 encBL [a]]] [] (.bool (nxB g.nx false i a)) [] := by
  have c1 := some_ok g hG a ha i hi
  refine z12 z20 Tryz.func137 rfl rfl 11 Tryz.ntmps137 (by simp) ?_
  repeat' ((first | (apply AWP.go ok; rfl) | (apply z41; kernel_rfl) | (refine z18 (i := 0) rfl rfl ?_) | (apply And.intro; omega) | (apply z10 (c1); rfl; rfl)) <;> conv => whnf)
  all_goals exact z19 rfl rfl

theorem sat11_ok (g : Graph) (hG : GB g) (a : List Bool) (ha : a.length = g.st.length) (i : Nat) (hi : i < g.st.length) : CallsA Tryz.prog 138 [.int i, .pt g.cs, .pt [lst 1 encBL [a]]] [] (.bool (nxB g.nx true i a)) [] := by
  have c1 := every_ok g hG a ha i hi
  refine z12 z20 Tryz.func138 rfl rfl 11 Tryz.ntmps138 (by simp) ?_
  repeat' ((first | (apply AWP.go ok; rfl) | (apply z41; kernel_rfl) | (refine z18 (i := 0) rfl rfl ?_) | (apply And.intro; omega) | (apply z10 (c1); rfl; rfl)) <;> conv => whnf)
  all_goals exact z19 rfl rfl
end Go.Proofs.YtppafngcahgagaaGreat

namespace Go.Proofs.YtppafngcahgagaaGreat
open Go.Gl
attribute [local irreducible] z29 AWP z51 z62 z55

theorem keepBL {f : FuncId} {args : List AC} {n : Nat} {l : List Bool} (h : CallsA Tryz.prog f args [] (.sref 0 0 n) [.cells 1 (l.map enB)]) (hl : l.length = n) : CallsA Tryz.prog f args [] (lst 1 enB l) [] := by
  subst hl
  exact h.keep (enB_unown1 _) (by simp)
theorem encBL_unown (ks : List (List Bool)) : z49 (ks.map encBL) = ks.map encBL := unownLL_map (fun l x hx => by
  cases List.mem_singleton.1 hx
  rfl) ks
theorem bor_ptrB {objs : Nat → AObj} {π Bn : List Nat} {o w : Nat} {l : List (List Bool)} (ho : objs o = .cells w [[.own 1 (l.map encBL)]]) (h1 : idx π o = none) (h2 : inB Bn o = true) : bor objs π Bn (.ptr o none 0) = .pt [lst 1 encBL l] := by
  simp only [bor, h1, h2, ho]
  show AC.pt [AC.list 1 (l.map encBL).length (z49 (l.map encBL))] = _
  rw [encBL_unown, List.length_map]; rfl
theorem map_gBs (R : List Bool) : (List.range R.length).map (fun j => enB (gB R j)) = R.map enB := by
  apply List.ext_getElem (by simp)
  intro i h1 h2
  have hi : i < R.length := by simpa using h2
  simp only [List.getElem_map, List.getElem_range]
  unfold gB
  rw [z35 hi]
theorem gB_range (f : Nat → Bool) (n i : Nat) (h : i < n) : gB ((List.range n).map f) i = f i := by
  unfold gB
  rw [z35 (by simpa using h)]; simp
theorem arityB_kind {k : Int} {l : Nat} (h : (l : Int) = arityB k) : (k = 1 ∧ l = 0) ∨ (k = 2 ∧ l = 0) ∨ (k = 3 ∧ l = 1) ∨ (k = 4 ∧ l = 2) ∨ (k = 5 ∧ l = 2) ∨ (k = 6 ∧ l = 1) ∨ (k = 7 ∧ l = 2) ∨ (k = 8 ∧ l = 1) ∨ (k = 9 ∧ l = 1) ∨ (k = 10 ∧ l = 2) ∨ (k = 11 ∧ l = 1) := by
  unfold arityB at h
  split at h
  · omega
  split at h
  · omega
  split at h
  · omega
  · omega
theorem len1 {α : Type} {l : List α} (h : l.length = 1) : ∃ a, l = [a] := match l, h with
  | [a], _ => ⟨a, rfl⟩
theorem len2 {α : Type} {l : List α} (h : l.length = 2) : ∃ a b, l = [a, b] := match l, h with
  | [a, b], _ => ⟨a, b, rfl⟩

set_option maxHeartbeats 4000000 in
theorem satisfy_new (g : Graph) (hG : GB g) (L : List Int) (hL : L.length = g.st.length) (hLr : ∀ x ∈ L, 0 ≤ x ∧ x ≤ 7) (t : Tree) : ∀ d, t.shapeB d = true → CallsA Tryz.prog 57 [.agg g.cs, ints L, z39 Tree.cs' t] [] (.sref 0 0 g.st.length) [.cells 1 ((t.satB g.nx g.st.length L).map enB)] := by
  induction t using Tree.ind with | h t ih => ?_
  intro d hs
  rw [shapeB_eq, Bool.and_eq_true, decide_eq_true_eq, List.all_eq_true] at hs
  obtain ⟨⟨_, hs2, hs4, hs5⟩, hs3⟩ := hs
  have h60 := hG.1.2
  have hgl := hG.2.1
  have hin := hG.inN
  have cc : ∀ u ∈ t.kids, CallsA Tryz.prog 57 [.agg g.cs, ints L, z39 Tree.cs' u] [] (lst 1 enB (u.satB g.nx g.st.length L)) [] := fun u hu => keepBL (ih u hu _ (hs3 u hu)) (Tree.satB_len hin L u)
  clear ih
  have hLg : ∀ i, i < L.length → 0 ≤ L.getD i 0 ∧ L.getD i 0 ≤ 7 := fun i hi => by rw [z35 hi]; exact hLr _ (List.getElem_mem _)
  have hkl := arityB_kind hs2
  have hRl : (t.satB g.nx g.st.length L).length = g.st.length := Tree.satB_len hin L t
  have hRe := Tree.satB_eq g.nx g.st.length L t
  unfold opB at hRe
  have hklen : ∀ k ∈ t.kids.map (Tree.satB g.nx g.st.length L), k.length = g.st.length := fun k hk => by
    obtain ⟨u, hu, rfl⟩ := List.mem_map.1 hk
    exact Tree.satB_len hin L u
  have hkl2 : (t.kids.map (Tree.satB g.nx g.st.length L)).length = t.kids.length := by simp
  have hkat : ∀ i (hi : i < t.kids.length) (h2 : i < (t.kids.map (Tree.satB g.nx g.st.length L)).length), ((t.kids.map (Tree.satB g.nx g.st.length L)))[i] = t.kids[i].satB g.nx g.st.length L := fun i hi _ => by simp
  generalize hks : t.kids.map (Tree.satB g.nx g.st.length L) = ks at *
  generalize hR : t.satB g.nx g.st.length L = R at *
  have hl2 : t.kids.length ≤ 2 := by omega
  rw [Tree.arg_eq]
  refine z12 z20 Tryz.func57 rfl rfl 85 Tryz.ntmps57 (by simp) ?_
  repeat' ((((fail_if_success apply stopAt 2); (fail_if_success apply stopAtS 2); apply AWP.go ok; rfl)) <;> conv => whnf)
  refine AWP.reach (Gl.Reach.weaken (es' := [[.own 1 []]]) 3 rfl rfl (fun i e' h => by
      match i, h with
      | 0, h => cases h; exact ⟨_, rfl, rfl, fun j x' hx => by
          match j, hx with
          | 0, hx => cases hx; exact ⟨_, rfl, nils_own⟩
          | j + 1, hx => simp at hx⟩
      | i + 1, h => simp at h) rfl) ?_
  conv => whnf
  repeat' ((fail) <;> conv => whnf)
  refine z73 (fun i : Nat => ([(3, .ptr 0 none 0), (4, .ptr 1 none 0), (5, .ptr 2 none 0), (7, .ptr 3 none 0), (14, lst 3 Tree.cs' t.kids), (15, .int t.kids.length), (16, .int i)], [.cells 2 [[lst 2 State.cs g.st, lst 1 encL g.nx]], .cells 1 [[ints L]], .cells 3 [[.int t.kind, .int t.val, lst 3 Tree.cs' t.kids]], .cells 1 [[.own 1 ((ks.take i).map encBL)]]])) (fun i => i ≤ t.kids.length) (fun i => t.kids.length - i) 0 (by omega) ⟨[0, 1, 2, 3], rfl, by decide, rfl, ⟨⟨rfl, rfl⟩, ⟨rfl, rfl⟩, ⟨rfl, rfl⟩, ⟨rfl, rfl⟩, ⟨rfl, rfl⟩, ⟨rfl, rfl⟩, ⟨rfl, rfl⟩, trivial⟩, ⟨z17 rfl rfl, z17 rfl rfl, z17 rfl rfl, z17 rfl rfl, trivial⟩⟩ ?_
  intro i hi
  have htl : ((ks.take i).map encBL).length = i := by simp; omega
  by_cases hil : i < t.kids.length
  · have ci := cc t.kids[i] (List.getElem_mem _)
    have hka := hkat i hil (by omega)
    rw [← hka] at ci
    repeat' ((first | ((fail_if_success apply stopAt 5); (fail_if_success apply stopAtS 5); apply AWP.go ok; rfl) | (apply And.intro; omega) | (((with_reducible apply z14; omega)); intro _) | ((apply z9) <;> intro _)) <;> conv => whnf)
    all_goals first | (exfalso; omega) | skip
    refine AWP.reach (Gl.Reach.exposeD (e := [.own 1 ((ks.take i).map encBL)]) 3 0 0 rfl rfl rfl rfl) ?_
    conv => whnf
    rw [htl]
    repeat' ((first | ((fail_if_success apply stopAt 6); (fail_if_success apply stopAtS 6); apply AWP.go ok; rfl) | (apply z41; kernel_rfl) | (apply And.intro; first | (dsimp only; omega) | exact ⟨rfl, z24 rfl z30⟩) | (apply z10 (ci); rfl; rfl)) <;> conv => whnf)
    all_goals skip
    refine AWP.reach (Gl.Reach.absorb 3 7 0 0 rfl rfl rfl rfl (by simp; omega) rfl (z42 (fun e he => (z8 (fun _ => rfl)) e (List.mem_of_mem_take he)) (flat_cons rfl z52)) rfl) ?_
    conv => whnf
    repeat' ((first | (apply AWP.go ok; rfl) | (apply And.intro; (unfold inI; omega))) <;> conv => whnf)
    refine z61 (i + 1) [0, 1, 2, 3] (by omega) (by omega) ⟨rfl, by decide, rfl, ⟨⟨rfl, rfl⟩, ⟨rfl, rfl⟩, ⟨rfl, rfl⟩, ⟨rfl, rfl⟩, ⟨rfl, rfl⟩, ⟨rfl, rfl⟩, ⟨rfl, rfl⟩, trivial⟩, ⟨z17 rfl rfl, z17 rfl rfl, z17 rfl rfl, z17 rfl (z27 ?_), trivial⟩⟩
    simp only [List.set_cons_zero, renL, AC.ren]
    rw [List.take_succ_eq_append_getElem (show i < ks.length by omega), List.map_append, List.take_of_length_le (by rw [htl]; exact Nat.le_refl _)]
    rfl
  repeat' ((first | ((fail_if_success apply stopAt 7); (fail_if_success apply stopAtS 7); apply AWP.go ok; rfl) | (apply And.intro; omega) | (((with_reducible apply z14; omega)); intro _) | ((apply z9) <;> intro _)) <;> conv => whnf)
  all_goals first | (exfalso; omega) | skip
  rw [show ks.take i = ks from List.take_of_length_le (by omega)]
  refine AWP.reach (SealL.reach (π := []) (Bn := [0, 1, 2, 3]) (env := [(3, .pt g.cs), (4, .pt [ints L]), (5, .pt [.int t.kind, .int t.val, lst 3 Tree.cs' t.kids]), (7, .pt [lst 1 encBL ks])]) (objs := []) ⟨rfl, rfl, by simp, rfl, by simp, ⟨rfl, rfl, rfl, bor_ptrB rfl rfl rfl, trivial⟩, rfl⟩) ?_
  conv => whnf
  clear htl hi
  generalize hn : g.st.length = n at *
  rcases hkl with ⟨hk, hl⟩ | ⟨hk, hl⟩ | ⟨hk, hl⟩ | ⟨hk, hl⟩ | ⟨hk, hl⟩ | ⟨hk, hl⟩ | ⟨hk, hl⟩ | ⟨hk, hl⟩ | ⟨hk, hl⟩ | ⟨hk, hl⟩ | ⟨hk, hl⟩
  · rw [if_neg (by omega), if_neg (by omega), if_neg (by omega), if_neg (by omega), if_neg (by omega), if_neg (by omega)] at hRe
    have hf : ∀ i, i < n → CallsA Tryz.prog 127 ([.int i] ++ []) [] (.bool (gB R i)) [] := fun i hi => by
      rw [hRe, gB_range _ _ _ hi]
      exact (by unfold ptB; rw [if_neg (by omega), if_neg (by omega), if_neg (by omega), if_neg (by omega)]; exact sat1_ok _)
    repeat' ((first | (apply AWP.go ok; rfl) | (apply And.intro; first | omega | (dsimp only; omega)) | ((apply z9) <;> intro _)) <;> conv => whnf)
    all_goals first | (exfalso; omega) | skip
    refine z73 (fun i : Nat => ([(10, .fn (.func 127) [] []), (11, .sref 0 0 n), (73, .int n), (74, .int i)], [.cells 1 (mixL (fun j => enB (gB R j)) (List.replicate n [AC.bool false]) i)])) (fun i => i ≤ n) (fun i => n - i) 0 (by omega) ⟨[0], rfl, by decide, rfl, ⟨⟨rfl, rfl⟩, ⟨rfl, by simp only [← hn]; rfl⟩, ⟨rfl, by simp only [← hn]; rfl⟩, ⟨rfl, rfl⟩, trivial⟩, ⟨z16 (z27 (by rw [mixL_zero, ← hn]; rfl)) (z42 (z8 fun _ => rfl) fun e he => z31 rfl e (List.mem_of_mem_drop he)), trivial⟩⟩ ?_
    intro i hi
    by_cases hil : i < n
    · have ci := hf i hil
      have hg : (mixL (fun j => enB (gB R j)) (List.replicate n [AC.bool false]) i)[i]? = some [AC.bool false] := by
        unfold mixL
        rw [List.getElem?_append_right (by simp)]
        simp only [List.length_map, List.length_range, Nat.sub_self]
        rw [List.getElem?_drop, Nat.add_zero, List.getElem?_replicate, if_pos hil]
      repeat' ((first | (apply AWP.go ok; rfl) | (refine z18 (i := i) rfl hg ?_) | (apply And.intro; first | omega | (unfold inI; omega)) | ((apply z9) <;> intro _) | (apply z10 (ci); rfl; rfl)) <;> conv => whnf)
      all_goals first | (exfalso; omega) | skip
      all_goals exact z61 (i + 1) [0] (by omega) (by omega) ⟨rfl, by decide, rfl, ⟨⟨rfl, rfl⟩, ⟨rfl, rfl⟩, ⟨rfl, rfl⟩, ⟨rfl, rfl⟩, trivial⟩, ⟨z16 (z27 (mixL_set (by simpa using hil) (Int.toNat_natCast i) rfl)) (z42 (z8 fun _ => rfl) fun e he => z31 rfl e (List.mem_of_mem_drop he)), trivial⟩⟩
    · repeat' ((first | (apply AWP.go ok; rfl) | ((apply z9) <;> intro _)) <;> conv => whnf)
      all_goals first | (exfalso; omega) | skip
      all_goals
        have e0 : mixL (fun j => enB (gB R j)) (List.replicate n [AC.bool false]) i = R.map enB := by
          rw [mixL_end (by simp; omega), ← map_gBs, hRl, show i = n by omega]
        rw [e0]
        exact z90 rfl (z8 fun _ => rfl) rfl rfl rfl
  · rw [if_neg (by omega), if_neg (by omega), if_neg (by omega), if_neg (by omega), if_neg (by omega), if_neg (by omega)] at hRe
    have hf : ∀ i, i < n → CallsA Tryz.prog 133 ([.int i] ++ [.pt [ints L], .pt [.int t.kind, .int t.val, lst 3 Tree.cs' t.kids]]) [] (.bool (gB R i)) [] := fun i hi => by
      rw [hRe, gB_range _ _ _ hi]
      exact (by unfold ptB; rw [if_pos hk]; unfold mostB at hs5; rw [if_pos hk] at hs5; exact sat6_ok L _ _ _ i (by omega) (by omega) (hLg i (by omega)).1 (hLg i (by omega)).2 hs4 hs5)
    repeat' ((first | (apply AWP.go ok; rfl) | (apply And.intro; first | omega | (dsimp only; omega)) | ((apply z9) <;> intro _)) <;> conv => whnf)
    all_goals first | (exfalso; omega) | skip
    refine z73 (fun i : Nat => ([(10, .fn (.func 133) [] [.pt [ints L], .pt [.int t.kind, .int t.val, lst 3 Tree.cs' t.kids]]), (11, .sref 0 0 n), (73, .int n), (74, .int i)], [.cells 1 (mixL (fun j => enB (gB R j)) (List.replicate n [AC.bool false]) i)])) (fun i => i ≤ n) (fun i => n - i) 0 (by omega) ⟨[0], rfl, by decide, rfl, ⟨⟨rfl, rfl⟩, ⟨rfl, by simp only [← hn]; rfl⟩, ⟨rfl, by simp only [← hn]; rfl⟩, ⟨rfl, rfl⟩, trivial⟩, ⟨z16 (z27 (by rw [mixL_zero, ← hn]; rfl)) (z42 (z8 fun _ => rfl) fun e he => z31 rfl e (List.mem_of_mem_drop he)), trivial⟩⟩ ?_
    intro i hi
    by_cases hil : i < n
    · have ci := hf i hil
      have hg : (mixL (fun j => enB (gB R j)) (List.replicate n [AC.bool false]) i)[i]? = some [AC.bool false] := by
        unfold mixL
        rw [List.getElem?_append_right (by simp)]
        simp only [List.length_map, List.length_range, Nat.sub_self]
        rw [List.getElem?_drop, Nat.add_zero, List.getElem?_replicate, if_pos hil]
      repeat' ((first | (apply AWP.go ok; rfl) | (refine z18 (i := i) rfl hg ?_) | (apply And.intro; first | omega | (unfold inI; omega)) | ((apply z9) <;> intro _) | (apply z10 (ci); rfl; rfl)) <;> conv => whnf)
      all_goals first | (exfalso; omega) | skip
      all_goals exact z61 (i + 1) [0] (by omega) (by omega) ⟨rfl, by decide, rfl, ⟨⟨rfl, rfl⟩, ⟨rfl, rfl⟩, ⟨rfl, rfl⟩, ⟨rfl, rfl⟩, trivial⟩, ⟨z16 (z27 (mixL_set (by simpa using hil) (Int.toNat_natCast i) rfl)) (z42 (z8 fun _ => rfl) fun e he => z31 rfl e (List.mem_of_mem_drop he)), trivial⟩⟩
    · repeat' ((first | (apply AWP.go ok; rfl) | ((apply z9) <;> intro _)) <;> conv => whnf)
      all_goals first | (exfalso; omega) | skip
      all_goals
        have e0 : mixL (fun j => enB (gB R j)) (List.replicate n [AC.bool false]) i = R.map enB := by
          rw [mixL_end (by simp; omega), ← map_gBs, hRl, show i = n by omega]
        rw [e0]
        exact z90 rfl (z8 fun _ => rfl) rfl rfl rfl
  · obtain ⟨a, rfl⟩ := len1 (hkl2.trans hl)
    have ha := hklen a (by simp)
    rw [if_neg (by omega), if_neg (by omega), if_neg (by omega), if_neg (by omega), if_neg (by omega), if_neg (by omega)] at hRe
    have hf : ∀ i, i < n → CallsA Tryz.prog 134 ([.int i] ++ [.pt [lst 1 encBL [a]]]) [] (.bool (gB R i)) [] := fun i hi => by
      rw [hRe, gB_range _ _ _ hi]
      exact (by unfold ptB; rw [if_neg (by omega), if_pos hk]; exact sat7_ok a n (by omega) ha i hi)
    repeat' ((first | (apply AWP.go ok; rfl) | (apply And.intro; first | omega | (dsimp only; omega)) | ((apply z9) <;> intro _)) <;> conv => whnf)
    all_goals first | (exfalso; omega) | skip
    refine z73 (fun i : Nat => ([(10, .fn (.func 134) [] [.pt [lst 1 encBL [a]]]), (11, .sref 0 0 n), (73, .int n), (74, .int i)], [.cells 1 (mixL (fun j => enB (gB R j)) (List.replicate n [AC.bool false]) i)])) (fun i => i ≤ n) (fun i => n - i) 0 (by omega) ⟨[0], rfl, by decide, rfl, ⟨⟨rfl, rfl⟩, ⟨rfl, by simp only [← hn]; rfl⟩, ⟨rfl, by simp only [← hn]; rfl⟩, ⟨rfl, rfl⟩, trivial⟩, ⟨z16 (z27 (by rw [mixL_zero, ← hn]; rfl)) (z42 (z8 fun _ => rfl) fun e he => z31 rfl e (List.mem_of_mem_drop he)), trivial⟩⟩ ?_
    intro i hi
    by_cases hil : i < n
    · have ci := hf i hil
      have hg : (mixL (fun j => enB (gB R j)) (List.replicate n [AC.bool false]) i)[i]? = some [AC.bool false] := by
        unfold mixL
        rw [List.getElem?_append_right (by simp)]
        simp only [List.length_map, List.length_range, Nat.sub_self]
        rw [List.getElem?_drop, Nat.add_zero, List.getElem?_replicate, if_pos hil]
      repeat' ((first | (apply AWP.go ok; rfl) | (refine z18 (i := i) rfl hg ?_) | (apply And.intro; first | omega | (unfold inI; omega)) | ((apply z9) <;> intro _) | (apply z10 (ci); rfl; rfl)) <;> conv => whnf)
      all_goals first | (exfalso; omega) | skip
      all_goals exact z61 (i + 1) [0] (by omega) (by omega) ⟨rfl, by decide, rfl, ⟨⟨rfl, rfl⟩, ⟨rfl, rfl⟩, ⟨rfl, rfl⟩, ⟨rfl, rfl⟩, trivial⟩, ⟨z16 (z27 (mixL_set (by simpa using hil) (Int.toNat_natCast i) rfl)) (z42 (z8 fun _ => rfl) fun e he => z31 rfl e (List.mem_of_mem_drop he)), trivial⟩⟩
    · repeat' ((first | (apply AWP.go ok; rfl) | ((apply z9) <;> intro _)) <;> conv => whnf)
      all_goals first | (exfalso; omega) | skip
      all_goals
        have e0 : mixL (fun j => enB (gB R j)) (List.replicate n [AC.bool false]) i = R.map enB := by
          rw [mixL_end (by simp; omega), ← map_gBs, hRl, show i = n by omega]
        rw [e0]
        exact z90 rfl (z8 fun _ => rfl) rfl rfl rfl
  · obtain ⟨a, b, rfl⟩ := len2 (hkl2.trans hl)
    have ha := hklen a (by simp)
    have hb := hklen b (by simp)
    rw [if_neg (by omega), if_neg (by omega), if_neg (by omega), if_neg (by omega), if_neg (by omega), if_neg (by omega)] at hRe
    have hf : ∀ i, i < n → CallsA Tryz.prog 135 ([.int i] ++ [.pt [lst 1 encBL [a, b]]]) [] (.bool (gB R i)) [] := fun i hi => by
      rw [hRe, gB_range _ _ _ hi]
      exact (by unfold ptB; rw [if_neg (by omega), if_neg (by omega), if_pos hk]; exact sat8_ok a b n (by omega) ha hb i hi)
    repeat' ((first | (apply AWP.go ok; rfl) | (apply And.intro; first | omega | (dsimp only; omega)) | ((apply z9) <;> intro _)) <;> conv => whnf)
    all_goals first | (exfalso; omega) | skip
    refine z73 (fun i : Nat => ([(10, .fn (.func 135) [] [.pt [lst 1 encBL [a, b]]]), (11, .sref 0 0 n), (73, .int n), (74, .int i)], [.cells 1 (mixL (fun j => enB (gB R j)) (List.replicate n [AC.bool false]) i)])) (fun i => i ≤ n) (fun i => n - i) 0 (by omega) ⟨[0], rfl, by decide, rfl, ⟨⟨rfl, rfl⟩, ⟨rfl, by simp only [← hn]; rfl⟩, ⟨rfl, by simp only [← hn]; rfl⟩, ⟨rfl, rfl⟩, trivial⟩, ⟨z16 (z27 (by rw [mixL_zero, ← hn]; rfl)) (z42 (z8 fun _ => rfl) fun e he => z31 rfl e (List.mem_of_mem_drop he)), trivial⟩⟩ ?_
    intro i hi
    by_cases hil : i < n
    · have ci := hf i hil
      have hg : (mixL (fun j => enB (gB R j)) (List.replicate n [AC.bool false]) i)[i]? = some [AC.bool false] := by
        unfold mixL
        rw [List.getElem?_append_right (by simp)]
        simp only [List.length_map, List.length_range, Nat.sub_self]
        rw [List.getElem?_drop, Nat.add_zero, List.getElem?_replicate, if_pos hil]
      repeat' ((first | (apply AWP.go ok; rfl) | (refine z18 (i := i) rfl hg ?_) | (apply And.intro; first | omega | (unfold inI; omega)) | ((apply z9) <;> intro _) | (apply z10 (ci); rfl; rfl)) <;> conv => whnf)
      all_goals first | (exfalso; omega) | skip
      all_goals exact z61 (i + 1) [0] (by omega) (by omega) ⟨rfl, by decide, rfl, ⟨⟨rfl, rfl⟩, ⟨rfl, rfl⟩, ⟨rfl, rfl⟩, ⟨rfl, rfl⟩, trivial⟩, ⟨z16 (z27 (mixL_set (by simpa using hil) (Int.toNat_natCast i) rfl)) (z42 (z8 fun _ => rfl) fun e he => z31 rfl e (List.mem_of_mem_drop he)), trivial⟩⟩
    · repeat' ((first | (apply AWP.go ok; rfl) | ((apply z9) <;> intro _)) <;> conv => whnf)
      all_goals first | (exfalso; omega) | skip
      all_goals
        have e0 : mixL (fun j => enB (gB R j)) (List.replicate n [AC.bool false]) i = R.map enB := by
          rw [mixL_end (by simp; omega), ← map_gBs, hRl, show i = n by omega]
        rw [e0]
        exact z90 rfl (z8 fun _ => rfl) rfl rfl rfl
  · obtain ⟨a, b, rfl⟩ := len2 (hkl2.trans hl)
    have ha := hklen a (by simp)
    have hb := hklen b (by simp)
    rw [if_neg (by omega), if_neg (by omega), if_neg (by omega), if_neg (by omega), if_neg (by omega), if_neg (by omega)] at hRe
    have hf : ∀ i, i < n → CallsA Tryz.prog 136 ([.int i] ++ [.pt [lst 1 encBL [a, b]]]) [] (.bool (gB R i)) [] := fun i hi => by
      rw [hRe, gB_range _ _ _ hi]
      exact (by unfold ptB; rw [if_neg (by omega), if_neg (by omega), if_neg (by omega), if_pos hk]; exact sat9_ok a b n (by omega) ha hb i hi)
    repeat' ((first | (apply AWP.go ok; rfl) | (apply And.intro; first | omega | (dsimp only; omega)) | ((apply z9) <;> intro _)) <;> conv => whnf)
    all_goals first | (exfalso; omega) | skip
    refine z73 (fun i : Nat => ([(10, .fn (.func 136) [] [.pt [lst 1 encBL [a, b]]]), (11, .sref 0 0 n), (73, .int n), (74, .int i)], [.cells 1 (mixL (fun j => enB (gB R j)) (List.replicate n [AC.bool false]) i)])) (fun i => i ≤ n) (fun i => n - i) 0 (by omega) ⟨[0], rfl, by decide, rfl, ⟨⟨rfl, rfl⟩, ⟨rfl, by simp only [← hn]; rfl⟩, ⟨rfl, by simp only [← hn]; rfl⟩, ⟨rfl, rfl⟩, trivial⟩, ⟨z16 (z27 (by rw [mixL_zero, ← hn]; rfl)) (z42 (z8 fun _ => rfl) fun e he => z31 rfl e (List.mem_of_mem_drop he)), trivial⟩⟩ ?_
    intro i hi
    by_cases hil : i < n
    · have ci := hf i hil
      have hg : (mixL (fun j => enB (gB R j)) (List.replicate n [AC.bool false]) i)[i]? = some [AC.bool false] := by
        unfold mixL
        rw [List.getElem?_append_right (by simp)]
        simp only [List.length_map, List.length_range, Nat.sub_self]
        rw [List.getElem?_drop, Nat.add_zero, List.getElem?_replicate, if_pos hil]
      repeat' ((first | (apply AWP.go ok; rfl) | (refine z18 (i := i) rfl hg ?_) | (apply And.intro; first | omega | (unfold inI; omega)) | ((apply z9) <;> intro _) | (apply z10 (ci); rfl; rfl)) <;> conv => whnf)
      all_goals first | (exfalso; omega) | skip
      all_goals exact z61 (i + 1) [0] (by omega) (by omega) ⟨rfl, by decide, rfl, ⟨⟨rfl, rfl⟩, ⟨rfl, rfl⟩, ⟨rfl, rfl⟩, ⟨rfl, rfl⟩, trivial⟩, ⟨z16 (z27 (mixL_set (by simpa using hil) (Int.toNat_natCast i) rfl)) (z42 (z8 fun _ => rfl) fun e he => z31 rfl e (List.mem_of_mem_drop he)), trivial⟩⟩
    · repeat' ((first | (apply AWP.go ok; rfl) | ((apply z9) <;> intro _)) <;> conv => whnf)
      all_goals first | (exfalso; omega) | skip
      all_goals
        have e0 : mixL (fun j => enB (gB R j)) (List.replicate n [AC.bool false]) i = R.map enB := by
          rw [mixL_end (by simp; omega), ← map_gBs, hRl, show i = n by omega]
        rw [e0]
        exact z90 rfl (z8 fun _ => rfl) rfl rfl rfl
  · obtain ⟨a, rfl⟩ := len1 (hkl2.trans hl)
    have ha := hklen a (by simp)
    rw [if_pos hk] at hRe
    have hf : ∀ i, i < n → CallsA Tryz.prog 137 ([.int i] ++ [.pt g.cs, .pt [lst 1 encBL [a]]]) [] (.bool (gB R i)) [] := fun i hi => by
      rw [hRe, gB_nxL _ _ _ _ _ hi]
      exact (sat10_ok g hG a (ha.trans hn.symm) i (by omega))
    repeat' ((first | (apply AWP.go ok; rfl) | (apply And.intro; first | omega | (dsimp only; omega)) | ((apply z9) <;> intro _)) <;> conv => whnf)
    all_goals first | (exfalso; omega) | skip
    refine z73 (fun i : Nat => ([(10, .fn (.func 137) [] [.pt g.cs, .pt [lst 1 encBL [a]]]), (11, .sref 0 0 n), (73, .int n), (74, .int i)], [.cells 1 (mixL (fun j => enB (gB R j)) (List.replicate n [AC.bool false]) i)])) (fun i => i ≤ n) (fun i => n - i) 0 (by omega) ⟨[0], rfl, by decide, rfl, ⟨⟨rfl, rfl⟩, ⟨rfl, by simp only [← hn]; rfl⟩, ⟨rfl, by simp only [← hn]; rfl⟩, ⟨rfl, rfl⟩, trivial⟩, ⟨z16 (z27 (by rw [mixL_zero, ← hn]; rfl)) (z42 (z8 fun _ => rfl) fun e he => z31 rfl e (List.mem_of_mem_drop he)), trivial⟩⟩ ?_
    intro i hi
    by_cases hil : i < n
    · have ci := hf i hil
      have hg : (mixL (fun j => enB (gB R j)) (List.replicate n [AC.bool false]) i)[i]? = some [AC.bool false] := by
        unfold mixL
        rw [List.getElem?_append_right (by simp)]
        simp only [List.length_map, List.length_range, Nat.sub_self]
        rw [List.getElem?_drop, Nat.add_zero, List.getElem?_replicate, if_pos hil]
      repeat' ((first | (apply AWP.go ok; rfl) | (refine z18 (i := i) rfl hg ?_) | (apply And.intro; first | omega | (unfold inI; omega)) | ((apply z9) <;> intro _) | (apply z10 (ci); rfl; rfl)) <;> conv => whnf)
      all_goals first | (exfalso; omega) | skip
      all_goals exact z61 (i + 1) [0] (by omega) (by omega) ⟨rfl, by decide, rfl, ⟨⟨rfl, rfl⟩, ⟨rfl, rfl⟩, ⟨rfl, rfl⟩, ⟨rfl, rfl⟩, trivial⟩, ⟨z16 (z27 (mixL_set (by simpa using hil) (Int.toNat_natCast i) rfl)) (z42 (z8 fun _ => rfl) fun e he => z31 rfl e (List.mem_of_mem_drop he)), trivial⟩⟩
    · repeat' ((first | (apply AWP.go ok; rfl) | ((apply z9) <;> intro _)) <;> conv => whnf)
      all_goals first | (exfalso; omega) | skip
      all_goals
        have e0 : mixL (fun j => enB (gB R j)) (List.replicate n [AC.bool false]) i = R.map enB := by
          rw [mixL_end (by simp; omega), ← map_gBs, hRl, show i = n by omega]
        rw [e0]
        exact z90 rfl (z8 fun _ => rfl) rfl rfl rfl
  · obtain ⟨a, b, rfl⟩ := len2 (hkl2.trans hl)
    have ha := hklen a (by simp)
    have hb := hklen b (by simp)
    rw [if_neg (by omega), if_neg (by omega), if_pos hk] at hRe
    have cf := fix2_ok [lst 1 encBL [a, b]] g.cs g (by omega) false (unH g.nx false a b) (by rw [hn]; exact unH_mono hin a b) 128 (fun i S hi hS => sat2_ok g hG a b (ha.trans hn.symm) (hb.trans hn.symm) i S hi hS)
    rw [hn] at cf
    repeat' ((first | (apply AWP.go ok; rfl) | (apply And.intro; omega) | ((apply z9) <;> intro _) | (((apply z6 [] [] [0] (cf); rfl; (focus ((repeat' exact z4) <;> fail)))); rfl; rfl; rfl; rfl; rfl; (focus ((repeat' first | exact z13 | apply z11) <;> (refine z22 ?_; ((exact z8 fun _ => rfl))))); (exact .inl rfl))) <;> conv => whnf)
    all_goals first | (exfalso; omega) | skip
    rw [hRe]
    exact z90 rfl (z8 fun _ => rfl) rfl rfl rfl
  · obtain ⟨a, rfl⟩ := len1 (hkl2.trans hl)
    have ha := hklen a (by simp)
    rw [if_neg (by omega), if_neg (by omega), if_neg (by omega), if_neg (by omega), if_pos hk] at hRe
    have cf := fix2_ok [lst 1 encBL [a]] g.cs g (by omega) true (alH g.nx false a) (by rw [hn]; exact alH_mono hin a) 129 (fun i S hi hS => sat3_ok g hG a (ha.trans hn.symm) i S hi hS)
    rw [hn] at cf
    repeat' ((first | (apply AWP.go ok; rfl) | (apply And.intro; omega) | ((apply z9) <;> intro _) | (((apply z6 [] [] [0] (cf); rfl; (focus ((repeat' exact z4) <;> fail)))); rfl; rfl; rfl; rfl; rfl; (focus ((repeat' first | exact z13 | apply z11) <;> (refine z22 ?_; ((exact z8 fun _ => rfl))))); (exact .inl rfl))) <;> conv => whnf)
    all_goals first | (exfalso; omega) | skip
    rw [hRe]
    exact z90 rfl (z8 fun _ => rfl) rfl rfl rfl
  · obtain ⟨a, rfl⟩ := len1 (hkl2.trans hl)
    have ha := hklen a (by simp)
    rw [if_neg (by omega), if_pos hk] at hRe
    have hf : ∀ i, i < n → CallsA Tryz.prog 138 ([.int i] ++ [.pt g.cs, .pt [lst 1 encBL [a]]]) [] (.bool (gB R i)) [] := fun i hi => by
      rw [hRe, gB_nxL _ _ _ _ _ hi]
      exact (sat11_ok g hG a (ha.trans hn.symm) i (by omega))
    repeat' ((first | (apply AWP.go ok; rfl) | (apply And.intro; first | omega | (dsimp only; omega)) | ((apply z9) <;> intro _)) <;> conv => whnf)
    all_goals first | (exfalso; omega) | skip
    refine z73 (fun i : Nat => ([(10, .fn (.func 138) [] [.pt g.cs, .pt [lst 1 encBL [a]]]), (11, .sref 0 0 n), (73, .int n), (74, .int i)], [.cells 1 (mixL (fun j => enB (gB R j)) (List.replicate n [AC.bool false]) i)])) (fun i => i ≤ n) (fun i => n - i) 0 (by omega) ⟨[0], rfl, by decide, rfl, ⟨⟨rfl, rfl⟩, ⟨rfl, by simp only [← hn]; rfl⟩, ⟨rfl, by simp only [← hn]; rfl⟩, ⟨rfl, rfl⟩, trivial⟩, ⟨z16 (z27 (by rw [mixL_zero, ← hn]; rfl)) (z42 (z8 fun _ => rfl) fun e he => z31 rfl e (List.mem_of_mem_drop he)), trivial⟩⟩ ?_
    intro i hi
    by_cases hil : i < n
    · have ci := hf i hil
      have hg : (mixL (fun j => enB (gB R j)) (List.replicate n [AC.bool false]) i)[i]? = some [AC.bool false] := by
        unfold mixL
        rw [List.getElem?_append_right (by simp)]
        simp only [List.length_map, List.length_range, Nat.sub_self]
        rw [List.getElem?_drop, Nat.add_zero, List.getElem?_replicate, if_pos hil]
      repeat' ((first | (apply AWP.go ok; rfl) | (refine z18 (i := i) rfl hg ?_) | (apply And.intro; first | omega | (unfold inI; omega)) | ((apply z9) <;> intro _) | (apply z10 (ci); rfl; rfl)) <;> conv => whnf)
      all_goals first | (exfalso; omega) | skip
      all_goals exact z61 (i + 1) [0] (by omega) (by omega) ⟨rfl, by decide, rfl, ⟨⟨rfl, rfl⟩, ⟨rfl, rfl⟩, ⟨rfl, rfl⟩, ⟨rfl, rfl⟩, trivial⟩, ⟨z16 (z27 (mixL_set (by simpa using hil) (Int.toNat_natCast i) rfl)) (z42 (z8 fun _ => rfl) fun e he => z31 rfl e (List.mem_of_mem_drop he)), trivial⟩⟩
    · repeat' ((first | (apply AWP.go ok; rfl) | ((apply z9) <;> intro _)) <;> conv => whnf)
      all_goals first | (exfalso; omega) | skip
      all_goals
        have e0 : mixL (fun j => enB (gB R j)) (List.replicate n [AC.bool false]) i = R.map enB := by
          rw [mixL_end (by simp; omega), ← map_gBs, hRl, show i = n by omega]
        rw [e0]
        exact z90 rfl (z8 fun _ => rfl) rfl rfl rfl
  · obtain ⟨a, b, rfl⟩ := len2 (hkl2.trans hl)
    have ha := hklen a (by simp)
    have hb := hklen b (by simp)
    rw [if_neg (by omega), if_neg (by omega), if_neg (by omega), if_pos hk] at hRe
    have cf := fix2_ok [lst 1 encBL [a, b]] g.cs g (by omega) false (unH g.nx true a b) (by rw [hn]; exact unH_mono hin a b) 130 (fun i S hi hS => sat4_ok g hG a b (ha.trans hn.symm) (hb.trans hn.symm) i S hi hS)
    rw [hn] at cf
    repeat' ((first | (apply AWP.go ok; rfl) | (apply And.intro; omega) | ((apply z9) <;> intro _) | (((apply z6 [] [] [0] (cf); rfl; (focus ((repeat' exact z4) <;> fail)))); rfl; rfl; rfl; rfl; rfl; (focus ((repeat' first | exact z13 | apply z11) <;> (refine z22 ?_; ((exact z8 fun _ => rfl))))); (exact .inl rfl))) <;> conv => whnf)
    all_goals first | (exfalso; omega) | skip
    rw [hRe]
    exact z90 rfl (z8 fun _ => rfl) rfl rfl rfl
  · obtain ⟨a, rfl⟩ := len1 (hkl2.trans hl)
    have ha := hklen a (by simp)
    rw [if_neg (by omega), if_neg (by omega), if_neg (by omega), if_neg (by omega), if_neg (by omega), if_pos hk] at hRe
    have cf := fix2_ok [lst 1 encBL [a]] g.cs g (by omega) true (alH g.nx true a) (by rw [hn]; exact alH_mono hin a) 132 (fun i S hi hS => sat5_ok g hG a (ha.trans hn.symm) i S hi hS)
    rw [hn] at cf
    repeat' ((first | (apply AWP.go ok; rfl) | (apply And.intro; omega) | ((apply z9) <;> intro _) | (((apply z6 [] [] [0] (cf); rfl; (focus ((repeat' exact z4) <;> fail)))); rfl; rfl; rfl; rfl; rfl; (focus ((repeat' first | exact z13 | apply z11) <;> (refine z22 ?_; ((exact z8 fun _ => rfl))))); (exact .inl rfl))) <;> conv => whnf)
    all_goals first | (exfalso; omega) | skip
    rw [hRe]
    exact z90 rfl (z8 fun _ => rfl) rfl rfl rfl
end Go.Proofs.YtppafngcahgagaaGreat

namespace Go.Proofs.YtppafngcahgagaaGreat
open Go.Gl
attribute [local irreducible] z29 AWP z51 z62 z55

set_option maxHeartbeats 4000000 in
theorem l11States_new (g : Graph) (hG : GB g) (L : List Int) (hL : L.length = g.st.length) (hLr : ∀ x ∈ L, 0 ≤ x ∧ x ≤ 7) (t : Tree) : ∀ d, t.shapeB d = true → CallsA Tryz.prog 61 [.agg g.cs, ints L, z39 Tree.cs' t] [] (.sref 0 0 g.st.length) [.cells 1 ((t.satB g.nx g.st.length L).map enB)] := by
  induction t using Tree.ind with | h t ih => ?_
  intro d hs
  rw [shapeB_eq, Bool.and_eq_true, decide_eq_true_eq, List.all_eq_true] at hs
  obtain ⟨⟨_, hs2, hs4, hs5⟩, hs3⟩ := hs
  have h60 := hG.1.2
  have hgl := hG.2.1
  have hin := hG.inN
  have cc : ∀ u ∈ t.kids, CallsA Tryz.prog 61 [.agg g.cs, ints L, z39 Tree.cs' u] [] (lst 1 enB (u.satB g.nx g.st.length L)) [] := fun u hu => keepBL (ih u hu _ (hs3 u hu)) (Tree.satB_len hin L u)
  clear ih
  have hLg : ∀ i, i < L.length → 0 ≤ L.getD i 0 ∧ L.getD i 0 ≤ 7 := fun i hi => by rw [z35 hi]; exact hLr _ (List.getElem_mem _)
  have hLe : ∀ i, i < L.length → (L.map enI)[i]? = some (enI (L.getD i 0)) := fun i hi => by rw [z35 hi, List.getElem?_map, List.getElem?_eq_getElem hi]; rfl
  have hkl := arityB_kind hs2
  have hRl : (t.satB g.nx g.st.length L).length = g.st.length := Tree.satB_len hin L t
  have hRe := Tree.satB_eq g.nx g.st.length L t
  unfold opB at hRe
  have hklen : ∀ k ∈ t.kids.map (Tree.satB g.nx g.st.length L), k.length = g.st.length := fun k hk => by
    obtain ⟨u, hu, rfl⟩ := List.mem_map.1 hk
    exact Tree.satB_len hin L u
  have hkl2 : (t.kids.map (Tree.satB g.nx g.st.length L)).length = t.kids.length := by simp
  have hkat : ∀ i (hi : i < t.kids.length) (h2 : i < (t.kids.map (Tree.satB g.nx g.st.length L)).length), ((t.kids.map (Tree.satB g.nx g.st.length L)))[i] = t.kids[i].satB g.nx g.st.length L := fun i hi _ => by simp
  generalize hks : t.kids.map (Tree.satB g.nx g.st.length L) = ks at *
  generalize hR : t.satB g.nx g.st.length L = R at *
  have hl2 : t.kids.length ≤ 2 := by omega
  rw [Tree.arg_eq]
  refine z12 z20 Tryz.func61 rfl rfl 133 Tryz.ntmps61 (by simp) ?_
  repeat' (((apply AWP.go ok; rfl)) <;> conv => whnf)
  refine z73 (fun i : Nat => ([(1, ints L), (3, .ptr 0 none 0), (5, .ptr 1 none 0), (7, .sref 2 0 i), (8, .int i)], [.cells 2 [[lst 2 State.cs g.st, lst 1 encL g.nx]], .cells 3 [[.int t.kind, .int t.val, lst 3 Tree.cs' t.kids]], .cells 1 ((ks.take i).map encBL)])) (fun i => i ≤ t.kids.length) (fun i => t.kids.length - i) 0 (by omega) ⟨[0, 1, 2], rfl, by decide, rfl, ⟨⟨rfl, rfl⟩, ⟨rfl, rfl⟩, ⟨rfl, rfl⟩, ⟨rfl, rfl⟩, ⟨rfl, rfl⟩, trivial⟩, ⟨z17 rfl rfl, z17 rfl rfl, z16 rfl (z8 fun _ => rfl), trivial⟩⟩ ?_
  intro i hi
  have htl : ((ks.take i).map encBL).length = i := by simp; omega
  by_cases hil : i < t.kids.length
  · have ci := cc t.kids[i] (List.getElem_mem _)
    have hka := hkat i hil (by omega)
    rw [← hka] at ci
    repeat' ((first | (apply AWP.go ok; rfl) | (apply z41; kernel_rfl) | (apply And.intro; first | omega | (unfold inI; omega) | (dsimp only; omega) | exact ⟨rfl, z24 rfl z30⟩) | ((first | (with_reducible apply z14; omega) | (apply z14; omega)); intro _) | ((apply z9) <;> intro _) | (apply z10 (ci); rfl; rfl)) <;> conv => whnf)
    all_goals first | (exfalso; omega) | skip
    refine z61 (i + 1) [0, 1, 4] (by omega) (by omega) ⟨rfl, by decide, rfl, ⟨⟨rfl, rfl⟩, ⟨rfl, rfl⟩, ⟨rfl, rfl⟩, ⟨rfl, rfl⟩, ⟨rfl, rfl⟩, trivial⟩, ⟨z17 rfl rfl, z17 rfl rfl, z16 (z27 ?_) (z8 fun _ => rfl), trivial⟩⟩
    rw [List.take_succ_eq_append_getElem (show i < ks.length by omega), List.map_append, List.take_of_length_le (by rw [htl]; exact Nat.le_refl _)]
    rfl
  rw [show ks.take i = ks from List.take_of_length_le (by omega)]
  have hik : i = ks.length := by omega
  subst hik
  clear htl hi
  generalize hn : g.st.length = n at *
  rcases hkl with ⟨hk, hl⟩ | ⟨hk, hl⟩ | ⟨hk, hl⟩ | ⟨hk, hl⟩ | ⟨hk, hl⟩ | ⟨hk, hl⟩ | ⟨hk, hl⟩ | ⟨hk, hl⟩ | ⟨hk, hl⟩ | ⟨hk, hl⟩ | ⟨hk, hl⟩
  · rw [if_neg (by omega), if_neg (by omega), if_neg (by omega), if_neg (by omega), if_neg (by omega), if_neg (by omega)] at hRe
    repeat' ((first | (apply AWP.go ok; rfl) | (apply And.intro; omega) | ((first | (with_reducible apply z14; omega) | (apply z14; omega)); intro _) | ((apply z9) <;> intro _)) <;> conv => whnf)
    all_goals first | (exfalso; omega) | skip
    refine z73 (fun i : Nat => ([(1, ints L), (5, .ptr 1 none 0), (7, .sref 2 0 (ks).length), (9, .sref 3 0 i), (10, .int i)], [.cells 2 [[lst 2 State.cs g.st, lst 1 encL g.nx]], .cells 3 [[.int t.kind, .int t.val, lst 3 Tree.cs' t.kids]], .cells 1 ((ks).map encBL), .cells 1 (((List.range n).take i).map fun j => enB (gB R j))])) (fun i => i ≤ n) (fun i => n - i) 0 (by omega) ⟨[0, 1, 2, 3], rfl, by decide, rfl, ⟨⟨rfl, rfl⟩, ⟨rfl, rfl⟩, ⟨rfl, rfl⟩, ⟨rfl, rfl⟩, ⟨rfl, rfl⟩, trivial⟩, ⟨z17 rfl rfl, z17 rfl rfl, z16 rfl (z8 fun _ => rfl), z16 rfl (z8 fun _ => rfl), trivial⟩⟩ ?_
    intro i hi
    by_cases hil : i < n
    · have hir : i < (List.range n).length := by simpa using hil
      have hv : gB R i = true := by
        rw [hRe, gB_range _ _ _ hil]; unfold ptB; rw [if_neg (by omega), if_neg (by omega), if_neg (by omega), if_neg (by omega)]
      skip
      repeat' ((first | (apply AWP.go ok; rfl) | (apply And.intro; first | omega | (unfold inI; omega) | ((try dsimp only); simp only [List.length_map, List.length_take, List.length_append, List.length_replicate, List.length_cons, List.length_nil]; omega) | exact ⟨rfl, z24 rfl z30⟩) | ((first | (with_reducible apply z14; omega) | (apply z14; omega)); intro _) | ((first | apply z9 | apply z77) <;> intro _)) <;> conv => whnf)
      all_goals first | (exfalso; omega) | skip
      all_goals
        refine z61 (i + 1) [0, 1, 2, 5] (by omega) (by omega) ⟨rfl, by decide, rfl, ⟨⟨rfl, rfl⟩, ⟨rfl, rfl⟩, ⟨rfl, rfl⟩, ⟨rfl, rfl⟩, ⟨rfl, rfl⟩, trivial⟩, ⟨z17 rfl rfl, z17 rfl rfl, z16 rfl (z8 fun _ => rfl), z16 (z27 ?_) (z8 fun _ => rfl), trivial⟩⟩
        rw [List.take_of_length_le (by simp; omega), List.take_succ_eq_append_getElem hir, List.map_append, List.map_singleton, List.getElem_range, hv]
        rfl
    · repeat' ((first | (apply AWP.go ok; rfl) | (apply And.intro; omega) | ((first | (with_reducible apply z14; omega) | (apply z14; omega)); intro _) | ((first | apply z9 | apply z77) <;> intro _)) <;> conv => whnf)
      all_goals first | (exfalso; omega) | skip
      all_goals
        have hin2 : i = n := by omega
        subst hin2
        refine z45 [3] (by decide) rfl rfl rfl ⟨z16 (z27 ?_) (z8 fun _ => rfl), trivial⟩
        rw [List.take_of_length_le (by simp), ← hRl]
        exact map_gBs R
  · rw [if_neg (by omega), if_neg (by omega), if_neg (by omega), if_neg (by omega), if_neg (by omega), if_neg (by omega)] at hRe
    repeat' ((first | (apply AWP.go ok; rfl) | (apply And.intro; omega) | ((first | (with_reducible apply z14; omega) | (apply z14; omega)); intro _) | ((apply z9) <;> intro _)) <;> conv => whnf)
    all_goals first | (exfalso; omega) | skip
    refine z73 (fun i : Nat => ([(1, ints L), (5, .ptr 1 none 0), (7, .sref 2 0 (ks).length), (9, .sref 3 0 i), (10, .int i)], [.cells 2 [[lst 2 State.cs g.st, lst 1 encL g.nx]], .cells 3 [[.int t.kind, .int t.val, lst 3 Tree.cs' t.kids]], .cells 1 ((ks).map encBL), .cells 1 (((List.range n).take i).map fun j => enB (gB R j))])) (fun i => i ≤ n) (fun i => n - i) 0 (by omega) ⟨[0, 1, 2, 3], rfl, by decide, rfl, ⟨⟨rfl, rfl⟩, ⟨rfl, rfl⟩, ⟨rfl, rfl⟩, ⟨rfl, rfl⟩, ⟨rfl, rfl⟩, trivial⟩, ⟨z17 rfl rfl, z17 rfl rfl, z16 rfl (z8 fun _ => rfl), z16 rfl (z8 fun _ => rfl), trivial⟩⟩ ?_
    intro i hi
    by_cases hil : i < n
    · have hir : i < (List.range n).length := by simpa using hil
      have hv : gB R i = hasB (L.getD i 0) t.val := by
        rw [hRe, gB_range _ _ _ hil]; unfold ptB; rw [if_pos hk]
      have g0 := hLe i (by omega)
      unfold mostB at hs5
      rw [if_pos hk] at hs5
      have c6 := l6Has_ok (L.getD i 0) t.val (hLg i (by omega)).1 (hLg i (by omega)).2 hs4 hs5
      repeat' ((first | (apply AWP.go ok; rfl) | (apply z41; kernel_rfl) | (refine z18 (i := i) rfl g0 ?_) | (apply And.intro; first | omega | (unfold inI; omega) | ((try dsimp only); simp only [List.length_map, List.length_take, List.length_append, List.length_replicate, List.length_cons, List.length_nil]; omega) | exact ⟨rfl, z24 rfl z30⟩) | ((first | (with_reducible apply z14; omega) | (apply z14; omega)); intro _) | ((first | apply z9 | apply z77) <;> intro _) | (apply z10 (c6); rfl; rfl)) <;> conv => whnf)
      all_goals first | (exfalso; omega) | skip
      all_goals
        refine z61 (i + 1) [0, 1, 2, 5] (by omega) (by omega) ⟨rfl, by decide, rfl, ⟨⟨rfl, rfl⟩, ⟨rfl, rfl⟩, ⟨rfl, rfl⟩, ⟨rfl, rfl⟩, ⟨rfl, rfl⟩, trivial⟩, ⟨z17 rfl rfl, z17 rfl rfl, z16 rfl (z8 fun _ => rfl), z16 (z27 ?_) (z8 fun _ => rfl), trivial⟩⟩
        rw [List.take_of_length_le (by simp; omega), List.take_succ_eq_append_getElem hir, List.map_append, List.map_singleton, List.getElem_range, hv]
        rfl
    · repeat' ((first | (apply AWP.go ok; rfl) | (apply And.intro; omega) | ((first | (with_reducible apply z14; omega) | (apply z14; omega)); intro _) | ((first | apply z9 | apply z77) <;> intro _)) <;> conv => whnf)
      all_goals first | (exfalso; omega) | skip
      all_goals
        have hin2 : i = n := by omega
        subst hin2
        refine z45 [3] (by decide) rfl rfl rfl ⟨z16 (z27 ?_) (z8 fun _ => rfl), trivial⟩
        rw [List.take_of_length_le (by simp), ← hRl]
        exact map_gBs R
  · obtain ⟨a, rfl⟩ := len1 (hkl2.trans hl)
    have ha := hklen a (by simp)
    rw [if_neg (by omega), if_neg (by omega), if_neg (by omega), if_neg (by omega), if_neg (by omega), if_neg (by omega)] at hRe
    repeat' ((first | (apply AWP.go ok; rfl) | (apply And.intro; omega) | ((first | (with_reducible apply z14; omega) | (apply z14; omega)); intro _) | ((apply z9) <;> intro _)) <;> conv => whnf)
    all_goals first | (exfalso; omega) | skip
    refine z73 (fun i : Nat => ([(1, ints L), (5, .ptr 1 none 0), (7, .sref 2 0 ([a]).length), (9, .sref 3 0 i), (10, .int i)], [.cells 2 [[lst 2 State.cs g.st, lst 1 encL g.nx]], .cells 3 [[.int t.kind, .int t.val, lst 3 Tree.cs' t.kids]], .cells 1 (([a]).map encBL), .cells 1 (((List.range n).take i).map fun j => enB (gB R j))])) (fun i => i ≤ n) (fun i => n - i) 0 (by omega) ⟨[0, 1, 2, 3], rfl, by decide, rfl, ⟨⟨rfl, rfl⟩, ⟨rfl, rfl⟩, ⟨rfl, rfl⟩, ⟨rfl, rfl⟩, ⟨rfl, rfl⟩, trivial⟩, ⟨z17 rfl rfl, z17 rfl rfl, z16 rfl (z8 fun _ => rfl), z16 rfl (z8 fun _ => rfl), trivial⟩⟩ ?_
    intro i hi
    by_cases hil : i < n
    · have hir : i < (List.range n).length := by simpa using hil
      have hv : gB R i = !gB a i := by
        rw [hRe, gB_range _ _ _ hil]; unfold ptB; rw [if_neg (by omega), if_pos hk]; rfl
      have g1 := z81 (S := a) (i := i) (by omega)
      repeat' ((first | (apply AWP.go ok; rfl) | (refine z18 (i := 0) rfl rfl ?_) | (refine z18 (i := i) rfl g1 ?_) | (apply And.intro; first | omega | (unfold inI; omega) | ((try dsimp only); simp only [List.length_map, List.length_take, List.length_append, List.length_replicate, List.length_cons, List.length_nil]; omega) | exact ⟨rfl, z24 rfl z30⟩) | ((first | (with_reducible apply z14; omega) | (apply z14; omega)); intro _) | ((first | apply z9 | apply z77) <;> intro _)) <;> conv => whnf)
      all_goals first | (exfalso; omega) | skip
      all_goals
        refine z61 (i + 1) [0, 1, 2, 5] (by omega) (by omega) ⟨rfl, by decide, rfl, ⟨⟨rfl, rfl⟩, ⟨rfl, rfl⟩, ⟨rfl, rfl⟩, ⟨rfl, rfl⟩, ⟨rfl, rfl⟩, trivial⟩, ⟨z17 rfl rfl, z17 rfl rfl, z16 rfl (z8 fun _ => rfl), z16 (z27 ?_) (z8 fun _ => rfl), trivial⟩⟩
        rw [List.take_of_length_le (by simp; omega), List.take_succ_eq_append_getElem hir, List.map_append, List.map_singleton, List.getElem_range, hv]
        rfl
    · repeat' ((first | (apply AWP.go ok; rfl) | (apply And.intro; omega) | ((first | (with_reducible apply z14; omega) | (apply z14; omega)); intro _) | ((first | apply z9 | apply z77) <;> intro _)) <;> conv => whnf)
      all_goals first | (exfalso; omega) | skip
      all_goals
        have hin2 : i = n := by omega
        subst hin2
        refine z45 [3] (by decide) rfl rfl rfl ⟨z16 (z27 ?_) (z8 fun _ => rfl), trivial⟩
        rw [List.take_of_length_le (by simp), ← hRl]
        exact map_gBs R
  · obtain ⟨a, b, rfl⟩ := len2 (hkl2.trans hl)
    have ha := hklen a (by simp)
    have hb := hklen b (by simp)
    rw [if_neg (by omega), if_neg (by omega), if_neg (by omega), if_neg (by omega), if_neg (by omega), if_neg (by omega)] at hRe
    repeat' ((first | (apply AWP.go ok; rfl) | (apply And.intro; omega) | ((first | (with_reducible apply z14; omega) | (apply z14; omega)); intro _) | ((apply z9) <;> intro _)) <;> conv => whnf)
    all_goals first | (exfalso; omega) | skip
    refine z73 (fun i : Nat => ([(1, ints L), (5, .ptr 1 none 0), (7, .sref 2 0 ([a, b]).length), (9, .sref 3 0 i), (10, .int i)], [.cells 2 [[lst 2 State.cs g.st, lst 1 encL g.nx]], .cells 3 [[.int t.kind, .int t.val, lst 3 Tree.cs' t.kids]], .cells 1 (([a, b]).map encBL), .cells 1 (((List.range n).take i).map fun j => enB (gB R j))])) (fun i => i ≤ n) (fun i => n - i) 0 (by omega) ⟨[0, 1, 2, 3], rfl, by decide, rfl, ⟨⟨rfl, rfl⟩, ⟨rfl, rfl⟩, ⟨rfl, rfl⟩, ⟨rfl, rfl⟩, ⟨rfl, rfl⟩, trivial⟩, ⟨z17 rfl rfl, z17 rfl rfl, z16 rfl (z8 fun _ => rfl), z16 rfl (z8 fun _ => rfl), trivial⟩⟩ ?_
    intro i hi
    by_cases hil : i < n
    · have hir : i < (List.range n).length := by simpa using hil
      have hv : gB R i = (gB a i && gB b i) := by
        rw [hRe, gB_range _ _ _ hil]; unfold ptB; rw [if_neg (by omega), if_neg (by omega), if_pos hk]; rfl
      have g1 := z81 (S := a) (i := i) (by omega)
      have g2 := z81 (S := b) (i := i) (by omega)
      generalize gB a i = p at hv g1
      generalize gB b i = q at hv g2
      cases p <;> cases q
      all_goals
        repeat' ((first | (apply AWP.go ok; rfl) | (refine z18 (i := 0) rfl rfl ?_) | (refine z18 (i := 1) rfl rfl ?_) | (refine z18 (i := i) rfl g1 ?_) | (refine z18 (i := i) rfl g2 ?_) | (apply And.intro; first | omega | (unfold inI; omega) | ((try dsimp only); simp only [List.length_map, List.length_take, List.length_append, List.length_replicate, List.length_cons, List.length_nil]; omega) | exact ⟨rfl, z24 rfl z30⟩) | (((with_reducible apply z14; omega)); intro _) | ((apply z9) <;> intro _)) <;> conv => whnf)
        all_goals first | (exfalso; omega) | skip
        all_goals
          refine z61 (i + 1) [0, 1, 2, 5] (by omega) (by omega) ⟨rfl, by decide, rfl, ⟨⟨rfl, rfl⟩, ⟨rfl, rfl⟩, ⟨rfl, rfl⟩, ⟨rfl, rfl⟩, ⟨rfl, rfl⟩, trivial⟩, ⟨z17 rfl rfl, z17 rfl rfl, z16 rfl (z8 fun _ => rfl), z16 (z27 ?_) (z8 fun _ => rfl), trivial⟩⟩
          rw [List.take_of_length_le (by simp; omega), List.take_succ_eq_append_getElem hir, List.map_append, List.map_singleton, List.getElem_range, hv]
          rfl
    · repeat' ((first | (apply AWP.go ok; rfl) | (apply And.intro; omega) | ((first | (with_reducible apply z14; omega) | (apply z14; omega)); intro _) | ((first | apply z9 | apply z77) <;> intro _)) <;> conv => whnf)
      all_goals first | (exfalso; omega) | skip
      all_goals
        have hin2 : i = n := by omega
        subst hin2
        refine z45 [3] (by decide) rfl rfl rfl ⟨z16 (z27 ?_) (z8 fun _ => rfl), trivial⟩
        rw [List.take_of_length_le (by simp), ← hRl]
        exact map_gBs R
  · obtain ⟨a, b, rfl⟩ := len2 (hkl2.trans hl)
    have ha := hklen a (by simp)
    have hb := hklen b (by simp)
    rw [if_neg (by omega), if_neg (by omega), if_neg (by omega), if_neg (by omega), if_neg (by omega), if_neg (by omega)] at hRe
    repeat' ((first | (apply AWP.go ok; rfl) | (apply And.intro; omega) | ((first | (with_reducible apply z14; omega) | (apply z14; omega)); intro _) | ((apply z9) <;> intro _)) <;> conv => whnf)
    all_goals first | (exfalso; omega) | skip
    refine z73 (fun i : Nat => ([(1, ints L), (5, .ptr 1 none 0), (7, .sref 2 0 ([a, b]).length), (9, .sref 3 0 i), (10, .int i)], [.cells 2 [[lst 2 State.cs g.st, lst 1 encL g.nx]], .cells 3 [[.int t.kind, .int t.val, lst 3 Tree.cs' t.kids]], .cells 1 (([a, b]).map encBL), .cells 1 (((List.range n).take i).map fun j => enB (gB R j))])) (fun i => i ≤ n) (fun i => n - i) 0 (by omega) ⟨[0, 1, 2, 3], rfl, by decide, rfl, ⟨⟨rfl, rfl⟩, ⟨rfl, rfl⟩, ⟨rfl, rfl⟩, ⟨rfl, rfl⟩, ⟨rfl, rfl⟩, trivial⟩, ⟨z17 rfl rfl, z17 rfl rfl, z16 rfl (z8 fun _ => rfl), z16 rfl (z8 fun _ => rfl), trivial⟩⟩ ?_
    intro i hi
    by_cases hil : i < n
    · have hir : i < (List.range n).length := by simpa using hil
      have hv : gB R i = (gB a i || gB b i) := by
        rw [hRe, gB_range _ _ _ hil]; unfold ptB; rw [if_neg (by omega), if_neg (by omega), if_neg (by omega), if_pos hk]; rfl
      have g1 := z81 (S := a) (i := i) (by omega)
      have g2 := z81 (S := b) (i := i) (by omega)
      generalize gB a i = p at hv g1
      generalize gB b i = q at hv g2
      cases p <;> cases q
      all_goals
        repeat' ((first | (apply AWP.go ok; rfl) | (refine z18 (i := 0) rfl rfl ?_) | (refine z18 (i := 1) rfl rfl ?_) | (refine z18 (i := i) rfl g1 ?_) | (refine z18 (i := i) rfl g2 ?_) | (apply And.intro; first | omega | (unfold inI; omega) | ((try dsimp only); simp only [List.length_map, List.length_take, List.length_append, List.length_replicate, List.length_cons, List.length_nil]; omega) | exact ⟨rfl, z24 rfl z30⟩) | (((with_reducible apply z14; omega)); intro _) | ((apply z9) <;> intro _)) <;> conv => whnf)
        all_goals first | (exfalso; omega) | skip
        all_goals
          refine z61 (i + 1) [0, 1, 2, 5] (by omega) (by omega) ⟨rfl, by decide, rfl, ⟨⟨rfl, rfl⟩, ⟨rfl, rfl⟩, ⟨rfl, rfl⟩, ⟨rfl, rfl⟩, ⟨rfl, rfl⟩, trivial⟩, ⟨z17 rfl rfl, z17 rfl rfl, z16 rfl (z8 fun _ => rfl), z16 (z27 ?_) (z8 fun _ => rfl), trivial⟩⟩
          rw [List.take_of_length_le (by simp; omega), List.take_succ_eq_append_getElem hir, List.map_append, List.map_singleton, List.getElem_range, hv]
          rfl
    · repeat' ((first | (apply AWP.go ok; rfl) | (apply And.intro; omega) | ((first | (with_reducible apply z14; omega) | (apply z14; omega)); intro _) | ((first | apply z9 | apply z77) <;> intro _)) <;> conv => whnf)
      all_goals first | (exfalso; omega) | skip
      all_goals
        have hin2 : i = n := by omega
        subst hin2
        refine z45 [3] (by decide) rfl rfl rfl ⟨z16 (z27 ?_) (z8 fun _ => rfl), trivial⟩
        rw [List.take_of_length_le (by simp), ← hRl]
        exact map_gBs R
  · obtain ⟨a, rfl⟩ := len1 (hkl2.trans hl)
    have ha := hklen a (by simp)
    rw [if_pos hk] at hRe
    have cf := l11Next_new g hG a (ha.trans hn.symm) (decide (t.kind = 9))
    rw [hn, show nxL g.nx (decide (t.kind = 9)) n a = R from by rw [hRe, decide_eq_false (by omega)]; rfl] at cf
    repeat' ((first | (apply AWP.go ok; rfl) | (apply z41; kernel_rfl) | (refine z18 (i := 0) rfl rfl ?_) | (apply And.intro; omega) | ((first | (with_reducible apply z14; omega) | (apply z14; omega)); intro _) | ((apply z9) <;> intro _) | (((apply z6 [] [] [3] (cf); rfl; (focus ((repeat' exact z4) <;> fail)))); rfl; rfl; rfl; rfl; rfl; (focus ((repeat' first | exact z13 | apply z11) <;> (refine z22 ?_; ((exact z8 fun _ => rfl))))); (exact .inl rfl))) <;> conv => whnf)
    all_goals first | (exfalso; omega) | skip
    all_goals exact z45 [3] (by decide) rfl rfl rfl ⟨z16 rfl (z8 fun _ => rfl), trivial⟩
  · obtain ⟨a, b, rfl⟩ := len2 (hkl2.trans hl)
    have ha := hklen a (by simp)
    have hb := hklen b (by simp)
    rw [if_neg (by omega), if_neg (by omega), if_pos hk] at hRe
    have cf := l11Until_new g hG a b (ha.trans hn.symm) (hb.trans hn.symm) (decide (t.kind = 10))
    rw [hn, show lim false (unH g.nx (decide (t.kind = 10)) a b) n = R from by rw [hRe, decide_eq_false (by omega)]; rfl] at cf
    repeat' ((first | (apply AWP.go ok; rfl) | (apply z41; kernel_rfl) | (refine z18 (i := 0) rfl rfl ?_) | (refine z18 (i := 1) rfl rfl ?_) | (apply And.intro; omega) | (((with_reducible apply z14; omega)); intro _) | ((apply z9) <;> intro _) | (((apply z6 [] [] [3] (cf); rfl; (focus ((repeat' exact z4) <;> fail)))); rfl; rfl; rfl; rfl; rfl; (focus ((repeat' first | exact z13 | apply z11) <;> (refine z22 ?_; ((exact z8 fun _ => rfl))))); (exact .inl rfl))) <;> conv => whnf)
    all_goals first | (exfalso; omega) | skip
    all_goals exact z45 [3] (by decide) rfl rfl rfl ⟨z16 rfl (z8 fun _ => rfl), trivial⟩
  · obtain ⟨a, rfl⟩ := len1 (hkl2.trans hl)
    have ha := hklen a (by simp)
    rw [if_neg (by omega), if_neg (by omega), if_neg (by omega), if_neg (by omega), if_pos hk] at hRe
    have cf := l11Always_new g hG a (ha.trans hn.symm) (decide (t.kind = 11))
    rw [hn, show lim true (alH g.nx (decide (t.kind = 11)) a) n = R from by rw [hRe, decide_eq_false (by omega)]; rfl] at cf
    repeat' ((first | (apply AWP.go ok; rfl) | (apply z41; kernel_rfl) | (refine z18 (i := 0) rfl rfl ?_) | (apply And.intro; omega) | ((first | (with_reducible apply z14; omega) | (apply z14; omega)); intro _) | ((apply z9) <;> intro _) | (((apply z6 [] [] [3] (cf); rfl; (focus ((repeat' exact z4) <;> fail)))); rfl; rfl; rfl; rfl; rfl; (focus ((repeat' first | exact z13 | apply z11) <;> (refine z22 ?_; ((exact z8 fun _ => rfl))))); (exact .inl rfl))) <;> conv => whnf)
    all_goals first | (exfalso; omega) | skip
    all_goals exact z45 [3] (by decide) rfl rfl rfl ⟨z16 rfl (z8 fun _ => rfl), trivial⟩
  · obtain ⟨a, rfl⟩ := len1 (hkl2.trans hl)
    have ha := hklen a (by simp)
    rw [if_neg (by omega), if_pos hk] at hRe
    have cf := l11Next_new g hG a (ha.trans hn.symm) (decide (t.kind = 9))
    rw [hn, show nxL g.nx (decide (t.kind = 9)) n a = R from by rw [hRe, decide_eq_true hk]; rfl] at cf
    repeat' ((first | (apply AWP.go ok; rfl) | (apply z41; kernel_rfl) | (refine z18 (i := 0) rfl rfl ?_) | (apply And.intro; omega) | ((first | (with_reducible apply z14; omega) | (apply z14; omega)); intro _) | ((apply z9) <;> intro _) | (((apply z6 [] [] [3] (cf); rfl; (focus ((repeat' exact z4) <;> fail)))); rfl; rfl; rfl; rfl; rfl; (focus ((repeat' first | exact z13 | apply z11) <;> (refine z22 ?_; ((exact z8 fun _ => rfl))))); (exact .inl rfl))) <;> conv => whnf)
    all_goals first | (exfalso; omega) | skip
    all_goals exact z45 [3] (by decide) rfl rfl rfl ⟨z16 rfl (z8 fun _ => rfl), trivial⟩
  · obtain ⟨a, b, rfl⟩ := len2 (hkl2.trans hl)
    have ha := hklen a (by simp)
    have hb := hklen b (by simp)
    rw [if_neg (by omega), if_neg (by omega), if_neg (by omega), if_pos hk] at hRe
    have cf := l11Until_new g hG a b (ha.trans hn.symm) (hb.trans hn.symm) (decide (t.kind = 10))
    rw [hn, show lim false (unH g.nx (decide (t.kind = 10)) a b) n = R from by rw [hRe, decide_eq_true hk]; rfl] at cf
    repeat' ((first | (apply AWP.go ok; rfl) | (apply z41; kernel_rfl) | (refine z18 (i := 0) rfl rfl ?_) | (refine z18 (i := 1) rfl rfl ?_) | (apply And.intro; omega) | (((with_reducible apply z14; omega)); intro _) | ((apply z9) <;> intro _) | (((apply z6 [] [] [3] (cf); rfl; (focus ((repeat' exact z4) <;> fail)))); rfl; rfl; rfl; rfl; rfl; (focus ((repeat' first | exact z13 | apply z11) <;> (refine z22 ?_; ((exact z8 fun _ => rfl))))); (exact .inl rfl))) <;> conv => whnf)
    all_goals first | (exfalso; omega) | skip
    all_goals exact z45 [3] (by decide) rfl rfl rfl ⟨z16 rfl (z8 fun _ => rfl), trivial⟩
  · obtain ⟨a, rfl⟩ := len1 (hkl2.trans hl)
    have ha := hklen a (by simp)
    rw [if_neg (by omega), if_neg (by omega), if_neg (by omega), if_neg (by omega), if_neg (by omega), if_pos hk] at hRe
    have cf := l11Always_new g hG a (ha.trans hn.symm) (decide (t.kind = 11))
    rw [hn, show lim true (alH g.nx (decide (t.kind = 11)) a) n = R from by rw [hRe, decide_eq_true hk]; rfl] at cf
    repeat' ((first | (apply AWP.go ok; rfl) | (apply z41; kernel_rfl) | (refine z18 (i := 0) rfl rfl ?_) | (apply And.intro; omega) | ((first | (with_reducible apply z14; omega) | (apply z14; omega)); intro _) | ((apply z9) <;> intro _) | (((apply z6 [] [] [3] (cf); rfl; (focus ((repeat' exact z4) <;> fail)))); rfl; rfl; rfl; rfl; rfl; (focus ((repeat' first | exact z13 | apply z11) <;> (refine z22 ?_; ((exact z8 fun _ => rfl))))); (exact .inl rfl))) <;> conv => whnf)
    all_goals first | (exfalso; omega) | skip
    all_goals exact z45 [3] (by decide) rfl rfl rfl ⟨z16 rfl (z8 fun _ => rfl), trivial⟩
end Go.Proofs.YtppafngcahgagaaGreat

namespace Go.Proofs.YtppafngcahgagaaGreat
open Go.Gl
attribute [local irreducible] z29 AWP z51 z62 z55

theorem ltr_ltB (v : List Int) : ∀ (l : List Tree) (k n : Nat), n < 2 ^ k → ltr v l k n < 2 ^ (k + l.length) := by
  intro l
  induction l with
  | nil => intro k n h; simpa [ltr] using h
  | cons t l ih =>
    intro k n h
    rw [ltr]
    have e : k + (t :: l).length = k + 1 + l.length := by simp only [List.length_cons]; omega
    rw [e]
    refine ih (k + 1) _ ?_
    split
    · rw [Nat.pow_succ]; omega
    · exact or_lt h
theorem letter_rangeB {l : List Tree} (hl : LabelsOk l) (s : State) : 0 ≤ z75 l s ∧ z75 l s ≤ 7 := by
  have := ltr_ltB s.b l 0 0 (by decide)
  rw [hl.1] at this
  unfold z75
  have e : (2 : Nat) ^ (0 + 3) = 8 := by decide
  omega

noncomputable def brL (g : Graph) (l : List Tree) (t : Tree) : List Bool := if (glB g l && t.brB) = true then t.satB g.nx g.st.length (g.st.map (z75 l)) else []
theorem brL_le (g : Graph) (l : List Tree) (t : Tree) : (brL g l t).length ≤ 60 := by
  unfold brL
  split
  · rename_i h
    have h1 := (Bool.and_eq_true_iff.1 h).1
    have hG := (z91 g).1 (by unfold glB at h1; exact (Bool.and_eq_true_iff.1 h1).1)
    rw [Tree.satB_len hG.inN]; exact hG.1.2
  · simp
theorem br_shape {t : Tree} (h : t.brB = true) : t.shapeB 6 = true := by
  rw [Tree.brB_eq, Bool.and_eq_true] at h; exact h.1

theorem implBranching_new (g : Graph) (hg : g.mx) (l : List Tree) (hl : Lmx l) (t : Tree) (ht : t.mx) : CallsA Tryz.prog 16 [.agg g.cs, lst 3 Tree.cs' l, z39 Tree.cs' t] [] (.tup [.sref 0 0 (brL g l t).length, .bool (glB g l && t.brB)]) [.cells 1 ((brL g l t).map enB)] := by
  have k1 := graphValid_ok g hg
  have k2 := labelsValid_ok l hl.1 hl.2
  have k3 := implBrValid_ok t ht
  by_cases hgl : (glB g l && t.brB) = true
  · obtain ⟨h1, hab⟩ := Bool.and_eq_true_iff.1 hgl
    have h2 := h1
    unfold glB at h2
    obtain ⟨hgb, hlb⟩ := Bool.and_eq_true_iff.1 h2
    have hG := (z91 g).1 hgb
    have hL := LabelsOk.of hlb
    have k4 := label_ok g hG.vals hG.1.2 l hL
    have hLr : ∀ x ∈ g.st.map (z75 l), 0 ≤ x ∧ x ≤ 7 := fun x hx => by
      obtain ⟨s, _, rfl⟩ := List.mem_map.1 hx
      exact letter_rangeB hL s
    have k5 := satisfy_new g hG (g.st.map (z75 l)) (by simp) hLr t 6 (br_shape hab)
    have e : brL g l t = t.satB g.nx g.st.length (g.st.map (z75 l)) := by unfold brL; rw [if_pos hgl]
    rw [← e] at k5
    have hlen : (brL g l t).length = g.st.length := by rw [e]; exact Tree.satB_len hG.inN _ _
    rw [← hlen] at k5
    generalize g.st.map (z75 l) = L at *
    generalize brL g l t = R at *
    rw [hgb] at k1
    rw [hlb] at k2
    rw [hab] at k3
    rw [hgl]
    rw [Tree.arg_eq] at k3 k5 ⊢
    refine z12 z20 Tryz.func16 rfl rfl 27 Tryz.ntmps16 (by simp) ?_
    repeat' ((first | (apply AWP.go ok; rfl) | (apply z41; kernel_rfl) | (apply z10 (k1); rfl; rfl) | (apply z10 (k2); rfl; rfl) | (apply z10 (k3); rfl; rfl) | (apply z10 (k4); rfl; rfl) | (((apply z6 [] [] [2] (k5); rfl; (focus ((repeat' exact z4) <;> fail)))); rfl; rfl; rfl; rfl; rfl; (focus ((repeat' first | exact z13 | apply z11) <;> (refine z22 ?_; ((exact z8 fun _ => rfl))))); (exact .inl rfl))) <;> conv => whnf)
    all_goals skip
    all_goals exact z45 [2] (by decide) rfl rfl rfl ⟨z16 rfl (z8 fun _ => rfl), trivial⟩
  · have e : brL g l t = [] := by unfold brL; rw [if_neg hgl]
    have hgl := (Bool.not_eq_true _).mp hgl
    have hgl2 := hgl
    rw [e, hgl]
    unfold glB at hgl2
    refine CallsA.nils (res := .tup [.nils, .bool false]) ?_ (by simp) (tup_sref nil_sref)
    rw [Tree.arg_eq] at k3 ⊢
    generalize graphB g = b1 at *
    generalize labelsB l = b2 at *
    generalize t.brB = b3 at *
    refine z12 z20 Tryz.func16 rfl rfl 27 Tryz.ntmps16 (by simp) ?_
    cases b1 <;> cases b2 <;> cases b3 <;> first | (exfalso; revert hgl2; decide) | skip
    all_goals
      repeat' ((first | (apply AWP.go ok; rfl) | (apply z10 (k1); rfl; rfl) | (apply z10 (k2); rfl; rfl) | (apply z10 (k3); rfl; rfl)) <;> conv => whnf)
      all_goals exact z37 rfl rfl rfl

theorem specBranching_ok (g : Graph) (hg : g.mx) (l : List Tree) (hl : Lmx l) (t : Tree) (ht : t.mx) : CallsA Tryz.prog 17 [.agg g.cs, lst 3 Tree.cs' l, z39 Tree.cs' t] [] (.tup [lst 1 enB (brL g l t), .bool (glB g l && t.brB)]) [] := by
  have k0 := specLabelGraph_ok g hg l hl
  have k1 := specBrValid_ok t ht
  by_cases hgl : (glB g l && t.brB) = true
  · obtain ⟨h1, hab⟩ := Bool.and_eq_true_iff.1 hgl
    have h2 := h1
    unfold glB at h2
    obtain ⟨hgb, hlb⟩ := Bool.and_eq_true_iff.1 h2
    have hG := (z91 g).1 hgb
    have hL := LabelsOk.of hlb
    have hLr : ∀ x ∈ g.st.map (z75 l), 0 ≤ x ∧ x ≤ 7 := fun x hx => by
      obtain ⟨s, _, rfl⟩ := List.mem_map.1 hx
      exact letter_rangeB hL s
    have k5 := l11States_new g hG (g.st.map (z75 l)) (by simp) hLr t 6 (br_shape hab)
    have e : brL g l t = t.satB g.nx g.st.length (g.st.map (z75 l)) := by unfold brL; rw [if_pos hgl]
    rw [← e] at k5
    have hlen : (brL g l t).length = g.st.length := by rw [e]; exact Tree.satB_len hG.inN _ _
    have k5 := keepBL k5 hlen
    rw [if_pos h1, h1] at k0
    rw [hab] at k1
    rw [hgl]
    generalize g.st.map (z75 l) = L at *
    generalize brL g l t = R at *
    rw [Tree.arg_eq] at k1 k5 ⊢
    refine z12 z20 Tryz.func17 rfl rfl 28 Tryz.ntmps17 (by simp) ?_
    repeat' ((first | (apply AWP.go ok; rfl) | (apply z10 (k0); rfl; rfl) | (apply z10 (k1); rfl; rfl) | (apply z10 (k5); rfl; rfl)) <;> conv => whnf)
    all_goals skip
    all_goals exact z37 rfl rfl rfl
  · have e : brL g l t = [] := by unfold brL; rw [if_neg hgl]
    have hgl := (Bool.not_eq_true _).mp hgl
    have hgl2 := hgl
    rw [e, hgl]
    generalize glB g l = b1 at *
    generalize t.brB = b3 at *
    rw [Tree.arg_eq] at k1 ⊢
    refine z12 z20 Tryz.func17 rfl rfl 28 Tryz.ntmps17 (by simp) ?_
    cases b1 <;> cases b3 <;> first | (exfalso; revert hgl2; decide) | skip
    all_goals
      repeat' ((first | (apply AWP.go ok; rfl) | (apply z10 (k0); rfl; rfl) | (apply z10 (k1); rfl; rfl)) <;> conv => whnf)
      all_goals exact ret_le rfl rfl (tup_le2 sref_le)
end Go.Proofs.YtppafngcahgagaaGreat

namespace Go.Proofs.YtppafngcahgagaaGreat
open Go.Gl
attribute [local irreducible] z29 AWP z51 z62 z55 RetS z76

noncomputable def okB (g : Graph) (l : List Tree) (t : Tree) : Bool := glB g l && t.brB
theorem brL_sat {g : Graph} {l : List Tree} {t : Tree} (h : okB g l t = true) : brL g l t = t.satB g.nx g.st.length (g.st.map (z75 l)) := by unfold brL; rw [if_pos (show (glB g l && t.brB) = true from h)]
theorem okB_in {g : Graph} {l : List Tree} {t : Tree} (h : okB g l t = true) : ∀ r ∈ g.nx, InN g.st.length r := by
  have h1 := (Bool.and_eq_true_iff.1 (show (glB g l && t.brB) = true from h)).1
  exact ((z91 g).1 (by unfold glB at h1; exact (Bool.and_eq_true_iff.1 h1).1)).inN
theorem brL_len {g : Graph} {l : List Tree} {t : Tree} (h : okB g l t = true) : (brL g l t).length = g.st.length := by
  rw [brL_sat h]; exact Tree.satB_len (okB_in h) _ _
theorem brL_100 {g : Graph} {l : List Tree} (t : Tree) : (brL g l t).length ≤ 100 := by have := brL_le g l t; omega
/-- the program's answer, as new memory and as data -/
theorem br_new (g : Graph) (hg : g.d) (l : List Tree) (hl : Lab.d l) (t : Tree) (ht : t.sz ≤ 1000) : CallsA Tryz.prog 16 [.agg g.cs, lst 3 Tree.cs' l, z39 Tree.cs' t] [] (.tup [.sref 0 0 (brL g l t).length, .bool (okB g l t)]) [.cells 1 ((brL g l t).map enB)] :=
  implBranching_new g hg.mx l hl.mx t (mx_of_sz t (by unfold maxLen; omega))
theorem br_ok (g : Graph) (hg : g.d) (l : List Tree) (hl : Lab.d l) (t : Tree) (ht : t.sz ≤ 1000) : CallsA Tryz.prog 16 [.agg g.cs, lst 3 Tree.cs' l, z39 Tree.cs' t] [] (.tup [lst 1 enB (brL g l t), .bool (okB g l t)]) [] :=
  (by refine CallsA.settle (br_new g hg l hl t ht) [] [0] rfl rfl rfl ?_ ?_ <;> (repeat' (first | exact LocLe.refl _ | exact F2.nil | apply F2.cons | ((apply z36 rfl rfl rfl); (focus ((repeat ((exact z32 (fun _ => rfl) _))); done)); (focus (((simp; done)); done))) | apply tup_le)))
theorem brS_ok (g : Graph) (hg : g.d) (l : List Tree) (hl : Lab.d l) (t : Tree) (ht : t.sz ≤ 1000) : CallsA Tryz.prog 17 [.agg g.cs, lst 3 Tree.cs' l, z39 Tree.cs' t] [] (.tup [lst 1 enB (brL g l t), .bool (okB g l t)]) [] :=
  specBranching_ok g hg.mx l hl.mx t (mx_of_sz t (by unfold maxLen; omega))
theorem sz2 (k : Int) (f h : Tree) : (Tree.mk k 0 [f, h]).sz = 2 + (f.sz + h.sz) := by rw [mk_sz]; simp
theorem arg2 (k : Int) (f h : Tree) : z39 Tree.cs' (.mk k 0 [f, h]) = .agg [.int k, .int 0, .list 3 2 [Tree.cs' f, Tree.cs' h]] := Tree.arg_eq _
end Go.Proofs.YtppafngcahgagaaGreat

namespace Go.Proofs.YtppafngcahgagaaGreat
open Go.Gl
attribute [local irreducible] z29

theorem wpBools_ok (a b : List Bool) (ha : a.length ≤ maxLen) (hb : b.length ≤ maxLen) : CallsA Tryz.prog 18 [lst 1 enB a, lst 1 enB b] [] (.bool (decide (a = b))) [] := by
  unfold maxLen at ha hb
  refine z12 z20 Tryz.func18 rfl rfl 26 Tryz.ntmps18 (by simp) ?_
  repeat (refine AWP.go ok _ _ _ _ _ rfl ?_)
  refine z40 (fun h => ?_) (fun h => ?_)
  · repeat (refine AWP.go ok _ _ _ _ _ rfl ?_)
    have hne : a ≠ b := by rintro rfl; exact h rfl
    rw [decide_eq_false hne]
    exact ⟨[], by decide, rfl, rfl, ACle.of_eq rfl, trivial⟩
  · have hl : a.length = b.length := by omega
    repeat (refine AWP.go ok _ _ _ _ _ rfl ?_)
    refine awp_loop (fun k : Nat => ([(0, lst 1 enB a), (1, lst 1 enB b), (5, .int k)], [])) (fun k => k ≤ a.length ∧ a.take k = b.take k) (fun k => a.length - k) 0 (by simp)
      ⟨[], rfl, by decide, rfl, ⟨⟨rfl, rfl⟩, ⟨rfl, rfl⟩, ⟨rfl, rfl⟩, trivial⟩, trivial⟩ ?_
    intro k hk
    repeat (refine AWP.go ok _ _ _ _ _ rfl ?_)
    refine z9 (fun h => ?_) (fun h => ?_)
    · have hka : k < a.length := by omega
      repeat (first | refine AWP.go ok _ _ _ _ _ rfl ?_ | refine And.intro (by omega) ?_)
      refine ⟨_, map_get _ _ _ (by omega), ?_⟩
      repeat ((refine And.intro (by omega) ?_))
      refine ⟨_, map_get _ _ _ (by omega), ?_⟩
      repeat (first | refine AWP.go ok _ _ _ _ _ rfl ?_ | refine z41 (by kernel_rfl) ?_)
      refine z40 (fun h => ?_) (fun h => ?_)
      · repeat (refine AWP.go ok _ _ _ _ _ rfl ?_)
        have hne : a ≠ b := by rintro rfl; exact h rfl
        rw [decide_eq_false hne]
        exact ⟨[], by decide, rfl, rfl, ACle.of_eq rfl, trivial⟩
      · repeat (first | refine AWP.go ok _ _ _ _ _ rfl ?_ | refine And.intro (by first | omega | (unfold inI; omega)) ?_)
        refine ⟨k + 1, [], ⟨by omega, ?_⟩, by omega, rfl, by decide, rfl, ⟨⟨rfl, rfl⟩, ⟨rfl, rfl⟩, ⟨rfl, rfl⟩, trivial⟩, trivial⟩
        have h' : a[k] = b[k] := h
        rw [List.take_succ_eq_append_getElem hka, List.take_succ_eq_append_getElem (by omega), hk.2, h']
    · repeat (refine AWP.go ok _ _ _ _ _ rfl ?_)
      have he : a = b := by
        have := hk.2
        rwa [List.take_of_length_le (by omega), List.take_of_length_le (by omega)] at this
      rw [decide_eq_true he]
      exact ⟨[], by decide, rfl, rfl, ACle.of_eq rfl, trivial⟩
end Go.Proofs.YtppafngcahgagaaGreat

namespace Go.Proofs.YtppafngcahgagaaGreat
open Go.Gl
attribute [local irreducible] z29 AWP z51 z62 z55 RetS z76

structure WalkI (n : Nat) (S : List Bool) (path : List Int) (x : Int) : Prop where
  nd : path.Nodup
  inN : InN n path
  lo : 0 ≤ x
  hi : x < n
  set : gB S x.toNat = true
theorem WalkI.len {n : Nat} {S : List Bool} {path : List Int} {x : Int} (h : WalkI n S path x) : path.length ≤ n := pigeon n path h.nd h.inN
theorem WalkI.step {n : Nat} {S : List Bool} {path : List Int} {x y : Int} (h : WalkI n S path x) (hx : ¬ 0 ≤ idxF (fun y => decide (x = y)) path) (h0 : 0 ≤ y) (h1 : y < n) (hs : gB S y.toNat = true) : WalkI n S (path ++ [x]) y := by
  have hn : x ∉ path := fun hm => by
    have e := idxF_any (fun y => decide (x = y)) path
    rw [decide_eq_false hx] at e
    have := List.any_eq_false.1 e.symm x hm
    simp at this
  refine ⟨?_, fun z hz => ?_, h0, h1, hs⟩
  · rw [List.nodup_append]
    exact ⟨h.nd, by simp, fun a ha b hb => by rintro rfl; rw [List.mem_singleton.1 hb] at ha; exact hn ha⟩
  · rcases List.mem_append.1 hz with hz | hz
    · exact h.inN z hz
    · rw [List.mem_singleton.1 hz]; exact ⟨h.lo, h.hi⟩

end Go.Proofs.YtppafngcahgagaaGreat

namespace Go.Proofs.YtppafngcahgagaaGreat
open Go.Gl
attribute [local irreducible] z29 AWP z51 z62 z55

theorem clipInt_own (l : List Int) (hl : l.length ≤ 1048576) : CallsA Tryz.prog 86 [.sref 0 0 l.length] [.cells 1 (l.map enI)] (.sref 0 0 l.length) [.cells 1 (l.map enI)] := by
  refine z12 z20 Tryz.func86 rfl rfl 9 Tryz.ntmps86 (by simp) ?_
  repeat' (first | (apply AWP.go ok; rfl; conv => whnf) | (apply And.intro; (omega); conv => whnf))
  exact z90 rfl (z8 fun _ => rfl) (by omega) rfl rfl
end Go.Proofs.YtppafngcahgagaaGreat

namespace Go.Proofs.YtppafngcahgagaaGreat
open Go.Gl
attribute [local irreducible] z29 AWP z51 z62 z55 RetS z76

theorem swp_map (l : List Int) (i j : Nat) : ((l.map enI).set i (enI (l.getD j 0))).set j (enI (l.getD i 0)) = (swp l i j).map enI := by
  unfold swp; rw [List.map_set, List.map_set]

set_option maxHeartbeats 1600000 in
theorem reverse_ok (l : List Int) (h1 : 1 ≤ l.length) (h2 : l.length ≤ 1048576) : CallsA Tryz.prog 150 [.sref 0 0 l.length] [.cells 1 (l.map enI)] (.tup []) [.cells 1 ((rvs l).map enI)] := by
  have hR : revG l.length 0 (l.length - 1) l = rvs l := rfl
  generalize rvs l = R at *
  generalize hn : l.length = n at *
  refine z15 z20 Tryz.func150 rfl rfl 28 Tryz.ntmps150 (by simp) ?_
  repeat' ((first | (apply AWP.go ok; rfl) | (apply And.intro; (unfold inI; omega))) <;> conv => whnf)
  refine z108 (fun x : Nat × Nat × List Int => ([(0, .sref 0 0 n), (2, .int x.1), (3, .int x.2.1)], [.cells 1 (x.2.2.map enI)])) (fun x => x.1 ≤ n ∧ x.2.1 < n ∧ x.2.2.length = n ∧ revG (n - x.1) x.1 x.2.1 x.2.2 = R) (fun x => n - x.1) (0, n - 1, l) ⟨by simp, by show n - 1 < n; omega, hn, hR⟩ (by refine SealW.reach [0] [] rfl rfl rfl rfl ?_ ?_ <;> (repeat' (first | exact LocLe.refl _ | exact F2.nil | apply F2.cons | exact z26 _ | ((refine z25 rfl ?_ ?_); (focus ((repeat' ((exact z8 (fun _ => rfl)))); done))) | exact True.intro | apply And.intro)) <;> ((rw [show ((n - 1 : Nat) : Int) = (n : Int) - 1 by omega]; exact LocLe.refl _))) ?_
  rintro ⟨i, j, l'⟩ ⟨i1, i2, i3, i4⟩
  dsimp only at i1 i2 i3 i4 ⊢
  by_cases hij : i < j
  · rw [show n - i = (n - (i + 1)) + 1 by omega, revG, if_pos hij] at i4
    have gi : (l'.map enI)[i]? = some (enI (l'.getD i 0)) := by rw [List.getElem?_map, List.getElem?_eq_getElem (by omega), z35 (by omega)]; rfl
    have gj : (l'.map enI)[j]? = some (enI (l'.getD j 0)) := by rw [List.getElem?_map, List.getElem?_eq_getElem (by omega), z35 (by omega)]; rfl
    have gj2 : ((l'.map enI).set i (enI (l'.getD j 0)))[j]? = some (enI (l'.getD j 0)) := by rw [List.getElem?_set_ne (by omega)]; exact gj
    have es := swp_map l' i j
    repeat' ((first | (apply AWP.go ok; rfl) | (apply z41; kernel_rfl) | (refine z18 (i := i) rfl gi ?_) | (refine z18 (i := j) rfl gj ?_) | (refine z18 (i := j) rfl gj2 ?_) | (apply And.intro; first | omega | (unfold inI; omega)) | ((apply z9) <;> intro _)) <;> conv => whnf)
    all_goals first | (exfalso; omega) | skip
    all_goals refine z58 (i + 1, j - 1, swp l' i j) ⟨by show i + 1 ≤ n; omega, by show j - 1 < n; omega, by show (swp l' i j).length = n; simp [swp, i3], i4⟩ (by show n - (i + 1) < n - i; omega) (by refine SealW.reach [0] [] rfl rfl rfl rfl ?_ ?_ <;> (repeat' (first | exact LocLe.refl _ | exact F2.nil | apply F2.cons | ((refine z99 rfl ?_ ?_); (focus ((repeat' (first | exact z8 (fun _ => rfl) | (refine flat_setC ?_ _ rfl))); done))) | exact True.intro | apply And.intro)) <;> (first | (rw [show ((j - 1 : Nat) : Int) = (j : Int) - 1 by omega]; exact LocLe.refl _) | exact f22_of_eq es))
  · have : revG (n - i) i j l' = l' := by cases n - i <;> simp [revG, hij]
    rw [this] at i4
    subst i4
    repeat' ((first | (apply AWP.go ok; rfl) | (apply And.intro; omega) | (((apply z14; omega)); intro _) | ((apply z9) <;> intro _)) <;> conv => whnf)
    all_goals first | (exfalso; omega) | skip
    all_goals (refine RetS.lay [0] [] rfl rfl rfl ?_; refine RetS.done ?_ ?_ <;> (repeat' (first | exact LocLe.refl _ | exact F2.nil | apply F2.cons | exact z26 _ | ((refine z25 rfl ?_ ?_); (focus ((repeat' ((exact z8 (fun _ => rfl)))); done))))))
end Go.Proofs.YtppafngcahgagaaGreat

namespace Go.Proofs.YtppafngcahgagaaGreat
open Go.Gl
attribute [local irreducible] z29 AWP z51 z62 z55 RetS z76

theorem back_neg {P : List Int} {f : Nat} {a : Int} (h : a < 0) : back P f a = [] := by
  cases f with
  | zero => rfl
  | succ f => rw [back, if_neg (by omega)]

def fillL (n i : Nat) : List Int := List.replicate i (-2) ++ List.replicate (n - i) 0
theorem fillL_zero (n : Nat) : List.replicate n [AC.int 0] = (fillL n 0).map enI := by
  unfold fillL; rw [List.replicate_zero, List.nil_append, Nat.sub_zero, List.map_replicate]; rfl
theorem fillL_set {n i : Nat} (h : i < n) : ((fillL n i).map enI).set i (enI (-2)) = (fillL n (i + 1)).map enI := by
  rw [← List.map_set]
  unfold fillL
  rw [List.set_append_right _ _ (by simp), List.length_replicate, Nat.sub_self, show n - i = (n - (i + 1)) + 1 by omega, List.replicate_succ, List.set_cons_zero, List.replicate_succ', List.append_assoc]
  rfl
theorem fillL_get {n i : Nat} (h : i < n) : ((fillL n i).map enI)[i]? = some (enI 0) := by
  unfold fillL
  rw [List.getElem?_map, List.getElem?_append_right (by simp), List.length_replicate, Nat.sub_self, List.getElem?_replicate, if_pos (by omega)]; rfl
theorem fillL_len {n i : Nat} (h : i ≤ n) : (fillL n i).length = n := by unfold fillL; simp; omega

set_option maxHeartbeats 3200000 in
theorem shortest_ok (rows : List (List Int)) (b : List Bool) (c : Int) (n : Nat) (hn : rows.length = n) (h60 : n ≤ 60) (hbl : b.length = n) (hr : ∀ r ∈ rows, InN n r) (hr2 : ∀ r ∈ rows, r.length ≤ 60) (h0 : 0 ≤ c) (h1 : c < n) (f : FuncId) (hf : ∀ x : Int, 0 ≤ x → x < n → CallsA Tryz.prog f [.int x, .pt [lst 1 enB b]] [] (.bool (gB b x.toNat)) []) :
    CallsA Tryz.prog 70 [lst 1 encL rows, ints [c], .fn (.func f) [] [.pt [lst 1 enB b]]] [] (.sref 0 0 (shGo rows b n (n + 1) 0 ([c], (List.replicate n (-2)).set c.toNat (-1))).length) [.cells 1 ((shGo rows b n (n + 1) 0 ([c], (List.replicate n (-2)).set c.toNat (-1))).map enI)] := by
  have hst : SJ rows b c n [c] ((List.replicate n (-2)).set c.toNat (-1)) 0 := SJ.start h0 h1
  generalize hP0 : (List.replicate n (-2 : Int)).set c.toNat (-1) = P0 at *
  generalize hR : shGo rows b n (n + 1) 0 ([c], P0) = R at *
  refine z15 z20 Tryz.func70 rfl rfl 99 Tryz.ntmps70 (by simp) ?_
  repeat' ((first | (apply AWP.go ok; rfl) | (apply And.intro; (dsimp only; omega))) <;> conv => whnf)
  all_goals skip
  refine z108 (fun i : Nat => ([(0, lst 1 encL rows), (1, ints [c]), (2, .fn (.func f) [] [.pt [lst 1 enB b]]), (7, .sref 0 0 n), (21, .int n), (22, .int i)], [.cells 1 ((fillL n i).map enI)])) (fun i => i ≤ n) (fun i => n - i) 0 (by omega) (by refine SealW.reach [0] [] rfl rfl rfl rfl ?_ ?_ <;> (repeat' (first | exact LocLe.refl _ | exact F2.nil | apply F2.cons | (refine int_le ?_; omega) | (refine z110 ?_; (omega)) | ((refine z25 rfl ?_ ?_); (focus ((repeat' (exact z31 rfl)); done))) | exact True.intro | apply And.intro)) <;> ((refine f22_of_eq ?_; rw [← fillL_zero, ← hn]; rfl))) ?_
  intro i hi
  by_cases hil : i < n
  · have hg := fillL_get hil
    have hl := fillL_len (Nat.le_of_lt hil)
    have hs := fillL_set hil
    generalize fillL n i = F at *
    repeat' ((first | (apply AWP.go ok; rfl) | (refine z18 (i := i) rfl hg ?_) | (apply And.intro; first | omega | (unfold inI; omega)) | ((apply z9) <;> intro _)) <;> conv => whnf)
    all_goals first | (exfalso; omega) | skip
    all_goals refine z58 (i + 1) (by omega) (by omega) (by refine SealW.reach [0] [] rfl rfl rfl rfl ?_ ?_ <;> (repeat' (first | exact LocLe.refl _ | exact F2.nil | apply F2.cons | ((refine z99 rfl ?_ ?_); (focus ((repeat' ((exact z8 (fun _ => rfl)))); done))) | exact True.intro | apply And.intro)) <;> ((refine f22_of_eq ?_; exact hs)))
  repeat' ((first | (apply AWP.go ok; rfl) | (apply And.intro; omega) | (((apply z14; omega)); intro _) | ((apply z9) <;> intro _)) <;> conv => whnf)
  all_goals first | (exfalso; omega) | skip
  have e0 : fillL n i = List.replicate n (-2) := by
    unfold fillL; rw [show i = n by omega]; simp
  rw [e0]
  clear e0
  refine AWP.reach (Reach.empty 1 rfl) ?_
  refine z108 (fun x : Nat × List Int × List Int => ([(0, lst 1 encL rows), (2, .fn (.func f) [] [.pt [lst 1 enB b]]), (7, .sref 0 0 n), (9, .sref 1 0 x.2.2.length), (29, ints [c]), (30, .int 1), (31, .int x.1)], [.cells 1 (x.2.1.map enI), .cells 1 (x.2.2.map enI)])) (fun x => x = (0, List.replicate n (-2), []) ∨ x = (1, P0, [c])) (fun x => 1 - x.1) (0, List.replicate n (-2), []) (.inl rfl) (by refine SealW.reach [0, 1] [] rfl rfl rfl rfl ?_ ?_ <;> (repeat' (first | exact LocLe.refl _ | exact z69 | exact F2.nil | apply F2.cons | exact z26 _ | ((refine z25 rfl ?_ ?_); (focus ((repeat' (first | exact z52 | exact z8 (fun _ => rfl))); done))) | exact True.intro | apply And.intro))) ?_
  rintro x (rfl | rfl)
  · dsimp only
    have hg : ((List.replicate n (-2 : Int)).map enI)[c.toNat]? = some (enI (-2)) := by rw [List.getElem?_map, List.getElem?_replicate, if_pos (by omega)]; rfl
    have hs : ((List.replicate n (-2 : Int)).map enI).set c.toNat (enI (-1)) = P0.map enI := by rw [← hP0, List.map_set]
    have hl : (List.replicate n (-2 : Int)).length = n := by simp
    generalize List.replicate n (-2 : Int) = F at *
    repeat' ((first | (apply AWP.go ok; rfl) | (refine z18 (i := c.toNat) rfl hg ?_) | (apply And.intro; first | omega | (unfold inI; omega) | ((try dsimp only); simp only [List.length_map, List.length_take, List.length_append, List.length_replicate, List.length_cons, List.length_nil]; omega) | exact ⟨rfl, z24 rfl z30⟩) | apply z103) <;> conv => whnf)
    all_goals skip
    all_goals refine z58 (1, P0, [c]) (.inr rfl) (by show 1 - 1 < 1 - 0; omega) (by refine SealW.reach [0, 3] [] rfl rfl rfl rfl ?_ ?_ <;> (repeat' (first | exact LocLe.refl _ | exact F2.nil | apply F2.cons | apply ObjLe.box | ((refine z99 rfl ?_ ?_); (focus ((repeat' ((exact z8 (fun _ => rfl)))); done))) | exact True.intro | apply And.intro)) <;> ((refine f22_of_eq ?_; exact hs)))
  · dsimp only
    have hPl : P0.length = n := hst.si.len
    repeat' (((apply AWP.go ok; rfl)) <;> conv => whnf)
    all_goals skip
    refine z108 (fun x : Nat × List Int × List Int => ([(0, lst 1 encL rows), (2, .fn (.func f) [] [.pt [lst 1 enB b]]), (7, .sref 0 0 n), (9, .sref 1 0 x.2.1.length), (12, .int x.1)], [.cells 1 (x.2.2.map enI), .cells 1 (x.2.1.map enI)])) (fun x => SJ rows b c n x.2.1 x.2.2 x.1 ∧ shGo rows b n (n + 1 - x.1) x.1 (x.2.1, x.2.2) = R) (fun x => n + 1 - x.1) (0, [c], P0) ⟨hst, hR⟩ (by refine SealW.reach [0, 1] [] rfl rfl rfl rfl ?_ ?_ <;> (repeat' (first | exact LocLe.refl _ | exact F2.nil | apply F2.cons | exact z26 _ | apply ObjLe.box | ((refine z25 rfl ?_ ?_); (focus ((repeat' ((exact z8 (fun _ => rfl)))); done))) | exact True.intro | apply And.intro))) ?_
    clear hst hR hPl hP0 P0
    rintro ⟨i, Q, P⟩ ⟨hJ, hw⟩
    dsimp only at hJ hw ⊢
    have hQl := hJ.si.le
    have hil := hJ.le
    have hPl := hJ.si.len
    rw [show n + 1 - i = (n - i) + 1 by omega, shGo] at hw
    dsimp only at hw
    by_cases hi : i < Q.length
    · rw [if_pos hi] at hw
      have gq : (Q.map enI)[i]? = some (enI (Q.getD i 0)) := by rw [List.getElem?_map, List.getElem?_eq_getElem hi, z35 hi]; rfl
      have ha := hJ.si.inN _ (getD_mem hi)
      have cf := hf (Q.getD i 0) ha.1 ha.2
      have hstep := hJ.step hr hi
      have hrow := row_in hr (Q.getD i 0)
      have hfold := fun k => hJ.si.fold (i := i) (a := Q.getD i 0) ((rows.getD (Q.getD i 0).toNat []).take k) Q P hi rfl (fun y hy => ⟨List.mem_of_mem_take hy, hrow y (List.mem_of_mem_take hy)⟩)
      have hxr : (Q.getD i 0).toNat < rows.length := by omega
      have gr : (rows.map encL)[(Q.getD i 0).toNat]? = some (encL (rows.getD (Q.getD i 0).toNat [])) := by rw [List.getElem?_map, List.getElem?_eq_getElem hxr, z35 hxr]; rfl
      have hrl : (rows.getD (Q.getD i 0).toNat []).length ≤ 60 := by rw [z35 hxr]; exact hr2 _ (List.getElem_mem _)
      have hai : Q.getD i 0 = Q.getD i 0 := rfl
      generalize hA : Q.getD i 0 = a at *
      by_cases hb : gB b a.toNat = true
      · rw [if_pos hb] at hw
        subst hw
        rw [hb] at cf
        repeat' ((first | (apply AWP.go ok; rfl) | (refine z18 (i := i) rfl gq ?_) | (apply And.intro; omega) | ((apply z9) <;> intro _) | (apply z10 (cf); rfl; rfl)) <;> conv => whnf)
        all_goals first | (exfalso; omega) | skip
        have hB : back P n a = back P n a := rfl
        have hB1 : 1 ≤ (back P n a).length := by rw [show n = (n - 1) + 1 by omega, back, if_pos ha.1]; simp
        have hi2 : ∃ k, k < n ∧ k < Q.length ∧ Q.getD k 0 = a := ⟨i, by omega, hi, hA⟩
        clear hfold hstep gr hrl hai cf gq
        generalize hBB : back P n a = B at *
        refine AWP.reach (Reach.empty 1 rfl) ?_
        refine z108 (fun x : Nat × List Int × Int => ([(7, .sref 0 0 n), (13, .int x.2.2), (14, .sref 1 0 x.2.1.length)], [.cells 1 (P.map enI), .cells 1 (x.2.1.map enI)])) (fun x => x.2.1.length + x.1 ≤ n ∧ -1 ≤ x.2.2 ∧ x.2.2 < n ∧ (0 ≤ x.2.2 → ∃ k, k < x.1 ∧ k < Q.length ∧ Q.getD k 0 = x.2.2) ∧ x.2.1 ++ back P x.1 x.2.2 = B) (fun x => x.1) (n, [], a) ⟨by simp, by show -1 ≤ a; omega, ha.2, fun _ => hi2, by simpa using hBB⟩ (by refine SealW.reach [0, 2] [] rfl rfl rfl rfl ?_ ?_ <;> (repeat' (first | exact LocLe.refl _ | exact z69 | exact F2.nil | apply F2.cons | exact z26 _ | ((refine z25 rfl ?_ ?_); (focus ((repeat' (first | exact z52 | exact z8 (fun _ => rfl))); done))) | exact True.intro | apply And.intro))) ?_
        rintro ⟨fu, acc, u⟩ ⟨q1, q2, q3, q4, q5⟩
        dsimp only at q1 q2 q3 q4 q5 ⊢
        by_cases hu : 0 ≤ u
        · obtain ⟨k, hk, hkl, ek⟩ := q4 hu
          obtain ⟨fu, rfl⟩ : ∃ m, fu = m + 1 := ⟨fu - 1, by omega⟩
          rw [back, if_pos hu] at q5
          have gp : (P.map enI)[u.toNat]? = some (enI (P.getD u.toNat 0)) := by rw [List.getElem?_map, List.getElem?_eq_getElem (by omega), z35 (by omega)]; rfl
          have hpr := hJ.si.pr
          have hnext : P.getD u.toNat 0 = -1 ∨ ∃ j, j < fu ∧ j < Q.length ∧ Q.getD j 0 = P.getD u.toNat 0 := by
            rcases hpr k hkl with h | ⟨j, hj, h⟩
            · rw [ek] at h; exact .inl h
            · rw [ek] at h; exact .inr ⟨j, by omega, by omega, h.symm⟩
          have hnx : -1 ≤ P.getD u.toNat 0 ∧ P.getD u.toNat 0 < n := by
            rcases hnext with h | ⟨j, _, h2, h3⟩
            · omega
            · have := hJ.si.inN _ (getD_mem h2)
              rw [h3] at this
              omega
          generalize P.getD u.toNat 0 = v at *
          repeat' ((first | (apply AWP.go ok; rfl) | (refine z18 (i := u.toNat) rfl gp ?_) | (apply And.intro; first | omega | ((try dsimp only); simp only [List.length_map, List.length_take, List.length_append, List.length_replicate, List.length_cons, List.length_nil]; omega) | exact ⟨rfl, z24 rfl z30⟩) | ((apply z9) <;> intro _)) <;> conv => whnf)
          all_goals first | (exfalso; omega) | skip
          all_goals refine z58 (fu, acc ++ [u], v) ⟨by simp only [List.length_append, List.length_singleton]; omega, hnx.1, hnx.2, (fun h => by rcases hnext with h2 | h2 <;> first | (exfalso; dsimp only at h; omega) | exact h2), by rw [← q5]; simp⟩ (by show fu < fu + 1; omega) (by refine SealW.reach [0, 3] [] rfl rfl rfl rfl ?_ ?_ <;> (repeat' (first | exact LocLe.refl _ | exact F2.nil | apply F2.cons | exact z26 _ | (refine z110 ?_; ((simp; done))) | ((first | refine z34 rfl ?_ ?_ | refine z25 rfl ?_ ?_); (focus ((repeat' (first | exact z8 (fun _ => rfl) | apply z28)); done))) | (refine snoc_le ?_ ?_; (focus (omega))) | exact True.intro | apply And.intro)))
        · rw [back_neg (by omega), List.append_nil] at q5
          subst q5
          have cr := reverse_ok acc (by omega) (by omega)
          have cc := clipInt_own (rvs acc) (by rw [rvs_len]; omega)
          have el := rvs_len acc
          generalize rvs acc = D at *
          rw [el] at cc ⊢
          repeat' ((first | (apply AWP.go ok; rfl) | (apply And.intro; omega) | (((apply z14; omega)); intro _) | ((apply z9) <;> intro _) | ((first | (apply z6 [1] [] [] (cr); rfl; (focus ((repeat' first | exact z4 | apply z5) <;> (refine pass_flat rfl ?_; ((exact z8 fun _ => rfl)))))) | (apply z6 [1] [] [] (cc); rfl; (focus ((repeat' first | exact z4 | apply z5) <;> (refine pass_flat rfl ?_; ((exact z8 fun _ => rfl))))))); rfl; rfl; rfl; rfl; rfl; (focus ((repeat' first | exact z13 | apply z11) <;> (refine z22 ?_; ((exact z8 fun _ => rfl))))); (exact .inl rfl))) <;> conv => whnf)
          all_goals first | (exfalso; omega) | skip
          all_goals (refine RetS.lay [1] [] rfl rfl rfl ?_; refine RetS.done ?_ ?_ <;> (repeat' (first | exact LocLe.refl _ | exact F2.nil | apply F2.cons | exact z26 _ | ((refine z25 rfl ?_ ?_); (focus ((repeat' ((exact z8 (fun _ => rfl)))); done))))))
      · rw [if_neg hb] at hw
        have hb := (Bool.not_eq_true _).mp hb
        rw [hb] at cf
        have hstep := hstep hb
        repeat' ((first | (apply AWP.go ok; rfl) | (refine z18 (i := i) rfl gq ?_) | (refine z18 (i := a.toNat) rfl gr ?_) | (apply And.intro; omega) | ((apply z9) <;> intro _) | (apply z10 (cf); rfl; rfl)) <;> conv => whnf)
        all_goals first | (exfalso; omega) | skip
        have hrin : ∀ y ∈ rows.getD a.toNat [], 0 ≤ y ∧ y < n := hrow
        generalize rows.getD a.toNat [] = row at *
        refine z108 (fun x : Nat × List Int × List Int => ([(0, lst 1 encL rows), (2, .fn (.func f) [] [.pt [lst 1 enB b]]), (7, .sref 0 0 n), (9, .sref 1 0 x.2.1.length), (12, .int i), (76, ints row), (77, .int row.length), (78, .int x.1)], [.cells 1 (x.2.2.map enI), .cells 1 (x.2.1.map enI)])) (fun x => x.1 ≤ row.length ∧ (row.take x.1).foldl (shOne a) (Q, P) = (x.2.1, x.2.2)) (fun x => row.length - x.1) (0, Q, P) ⟨by simp, by simp⟩ (by refine SealW.reach [0, 1] [] rfl rfl rfl rfl ?_ ?_ <;> (repeat' (first | exact LocLe.refl _ | exact F2.nil | apply F2.cons | exact z26 _ | ((refine z25 rfl ?_ ?_); (focus ((repeat' ((exact z8 (fun _ => rfl)))); done))) | exact True.intro | apply And.intro))) ?_
        rintro ⟨k, Q', P'⟩ ⟨k1, k2⟩
        dsimp only at k1 k2 ⊢
        obtain ⟨f1, ⟨t, ft⟩, _⟩ := hfold k
        rw [k2] at f1 ft
        dsimp only at f1 ft
        have hQl' := f1.le
        have hPl' := f1.len
        have hi' : i < Q'.length := by rw [ft]; simp; omega
        have gq' : (Q'.map enI)[i]? = some (enI a) := by
          rw [ft, List.map_append, List.getElem?_append_left (by simpa using hi)]; exact gq
        by_cases hk : k < row.length
        · have hfs := foldl_take (shOne a) (Q, P) row k hk
          rw [k2] at hfs
          have gy : (row.map enI)[k]? = some (enI row[k]) := by rw [List.getElem?_map, List.getElem?_eq_getElem hk]; rfl
          have hy := hrin row[k] (List.getElem_mem _)
          generalize row[k] = y at *
          have gp : (P'.map enI)[y.toNat]? = some (enI (P'.getD y.toNat 0)) := by rw [List.getElem?_map, List.getElem?_eq_getElem (by omega), z35 (by omega)]; rfl
          unfold shOne at hfs
          dsimp only at hfs
          have hun := f1.un y hy.1 hy.2
          by_cases hu : P'.getD y.toNat 0 = -2
          · rw [if_pos hu] at hfs
            rw [hu] at gp
            have hs : ((P'.map enI).set y.toNat (enI a)) = (P'.set y.toNat a).map enI := by rw [List.map_set]
            repeat' ((first | (apply AWP.go ok; rfl) | (refine z18 (i := k) rfl gy ?_) | (refine z18 (i := y.toNat) rfl gp ?_) | (refine z18 (i := i) rfl gq' ?_) | (apply And.intro; first | omega | (unfold inI; omega) | ((try dsimp only); simp only [List.length_map, List.length_take, List.length_append, List.length_replicate, List.length_cons, List.length_nil]; omega) | exact ⟨rfl, z24 rfl z30⟩) | ((apply z9) <;> intro _)) <;> conv => whnf)
            all_goals first | (exfalso; omega) | skip
            all_goals refine z58 (k + 1, Q' ++ [y], P'.set y.toNat a) ⟨by show k + 1 ≤ row.length; omega, hfs⟩ (by show row.length - (k + 1) < row.length - k; omega) (by refine SealW.reach [0, 3] [] rfl rfl rfl rfl ?_ ?_ <;> (repeat' (first | exact LocLe.refl _ | exact F2.nil | apply F2.cons | (refine z110 ?_; ((simp; done))) | ((first | refine z34 rfl ?_ ?_ | refine z99 rfl ?_ ?_); (focus ((repeat' (first | exact z8 (fun _ => rfl) | apply z28)); done))) | (refine put_le (by omega) ?_) | (refine snoc_le ?_ ?_; (focus (omega))) | exact True.intro | apply And.intro)) <;> ((refine f22_of_eq ?_; exact hs)))
          · rw [if_neg hu] at hfs
            generalize P'.getD y.toNat 0 = w at *
            repeat' ((first | (apply AWP.go ok; rfl) | (refine z18 (i := k) rfl gy ?_) | (refine z18 (i := y.toNat) rfl gp ?_) | (apply And.intro; first | omega | (unfold inI; omega)) | (((apply z14; omega)); intro _) | ((apply z9) <;> intro _)) <;> conv => whnf)
            all_goals first | (exfalso; omega) | skip
            all_goals refine z58 (k + 1, Q', P') ⟨by show k + 1 ≤ row.length; omega, hfs⟩ (by show row.length - (k + 1) < row.length - k; omega) (by refine SealW.reach [0, 1] [] rfl rfl rfl rfl ?_ ?_ <;> (repeat' (first | exact LocLe.refl _ | exact F2.nil | apply F2.cons | exact z26 _ | ((refine z25 rfl ?_ ?_); (focus ((repeat' ((exact z8 (fun _ => rfl)))); done))) | exact True.intro | apply And.intro)))
        · have e : k = row.length := by omega
          subst e
          rw [List.take_length] at k2
          rw [k2] at hstep hw
          repeat' ((first | (apply AWP.go ok; rfl) | (apply And.intro; first | omega | (unfold inI; omega)) | ((first | (with_reducible apply z14; omega) | (apply z14; omega)); intro _) | ((apply z9) <;> intro _)) <;> conv => whnf)
          all_goals first | (exfalso; omega) | skip
          all_goals refine z58 (i + 1, Q', P') ⟨hstep, by rw [← hw]; congr 1; omega⟩ (by show n + 1 - (i + 1) < n + 1 - i; omega) (by refine SealW.reach [0, 1] [] rfl rfl rfl rfl ?_ ?_ <;> (repeat' (first | exact LocLe.refl _ | exact F2.nil | apply F2.cons | exact z26 _ | ((refine z25 rfl ?_ ?_); (focus ((repeat' ((exact z8 (fun _ => rfl)))); done))) | exact True.intro | apply And.intro)))
    · rw [if_neg hi] at hw
      subst hw
      repeat' ((first | (apply AWP.go ok; rfl) | (apply And.intro; omega) | (((apply z14; omega)); intro _) | ((apply z9) <;> intro _)) <;> conv => whnf)
      all_goals first | (exfalso; omega) | skip
      all_goals (refine RetS.empty 1 ?_; refine RetS.lay [2] [] rfl rfl rfl ?_; refine RetS.done ?_ ?_ <;> (repeat' (first | exact z69 | exact F2.nil | apply F2.cons | ((refine z25 rfl ?_ ?_); (focus ((repeat' (exact z52)); done))))))
end Go.Proofs.YtppafngcahgagaaGreat

namespace Go.Proofs.YtppafngcahgagaaGreat
open Go.Gl
attribute [local irreducible] z29 AWP z51 z62 z55 RetS z76

theorem okB_GB {g : Graph} {l : List Tree} {f : Tree} (h : okB g l f = true) : GB g := by
  have h1 := (Bool.and_eq_true_iff.1 (show (glB g l && f.brB) = true from h)).1
  exact (z91 g).1 (by unfold glB at h1; exact (Bool.and_eq_true_iff.1 h1).1)

theorem csk (f : Tree) : Tree.cs' f = [.int f.kind, .int f.val, lst 3 Tree.cs' f.kids] := AC.agg.inj (Tree.arg_eq f)

end Go.Proofs.YtppafngcahgagaaGreat

namespace Go.Proofs.YtppafngcahgagaaGreat
open Go.Gl
attribute [local irreducible] z29 AWP z51 z62 z55 RetS z76

theorem bor_fnX {objs : Nat → AObj} {π Bn : List Nat} {f : Fn} {caps caps' : List AC} (h : borL objs π Bn caps = caps') : bor objs π Bn (.fn f [] caps) = .fn f [] caps' := by
  simp only [bor, borL, h]
theorem bor_rowsD {objs : Nat → AObj} {π Bn : List Nat} {o n : Nat} {l : List (List Int)} (ho : objs o = .cells 1 (l.map encL)) (h1 : idx π o = none) (h2 : inB Bn o = true) (hl : l.length = n) : bor objs π Bn (.sref o 0 n) = lst 1 encL l := by
  subst hl
  exact bor_list ho h1 h2 (by simp) (z32 (fun _ => rfl) _)
theorem witU1_ok (S : List Bool) (x : Int) (h0 : 0 ≤ x) (h1 : x < S.length) (hS : S.length ≤ 1048576) : CallsA Tryz.prog 71 [.int x, .pt [lst 1 enB S]] [] (.bool (gB S x.toNat)) [] := by
  have g1 := z81 (S := S) (i := x.toNat) (by omega)
  generalize gB S x.toNat = p at *
  refine z15 z20 Tryz.func71 rfl rfl 8 Tryz.ntmps71 (by simp) ?_
  repeat' ((first | (apply AWP.go ok; rfl) | (refine z18 (i := x.toNat) rfl g1 ?_) | (apply And.intro; omega)) <;> conv => whnf)
  all_goals (refine RetS.lay [] [] rfl rfl rfl ?_; refine RetS.done ?_ ?_ <;> (repeat' (first | exact LocLe.refl _ | exact F2.nil)))

def thrF (nx : List (List Int)) (a : List Bool) (n i : Nat) : List (List Int) := (thrR nx a i) ++ List.replicate (n - i) []
theorem thrR_len (nx : List (List Int)) (a : List Bool) (i : Nat) : (thrR nx a i).length = i := by simp [thrR]
theorem thrF_len {nx : List (List Int)} {a : List Bool} {n i : Nat} (h : i ≤ n) : (thrF nx a n i).length = n := by simp [thrF, thrR_len]; omega
theorem thrF_get {nx : List (List Int)} {a : List Bool} {n i : Nat} (h : i < n) : ((thrF nx a n i).map encL)[i]? = some (encL []) := by
  unfold thrF
  rw [List.getElem?_map, List.getElem?_append_right (by rw [thrR_len]; omega), thrR_len, Nat.sub_self, List.getElem?_replicate, if_pos (by omega)]; rfl
theorem thrF_set {nx : List (List Int)} {a : List Bool} {n i : Nat} (h : i < n) : (thrF nx a n i).set i (if gB a i then nx.getD i [] else []) = thrF nx a n (i + 1) := by
  unfold thrF
  rw [List.set_append_right _ _ (by rw [thrR_len]; omega), thrR_len, Nat.sub_self, show n - i = (n - (i + 1)) + 1 by omega, List.replicate_succ, List.set_cons_zero]
  unfold thrR
  rw [List.range_succ, List.map_append, List.append_assoc]; rfl
theorem thrF_skip {nx : List (List Int)} {a : List Bool} {n i : Nat} (h : i < n) (ha : gB a i = false) : thrF nx a n i = thrF nx a n (i + 1) := by
  rw [← thrF_set h, ha]
  unfold thrF
  rw [List.set_append_right _ _ (by rw [thrR_len]; omega), thrR_len, Nat.sub_self, show n - i = (n - (i + 1)) + 1 by omega, List.replicate_succ, List.set_cons_zero]
  rfl
theorem thrF_end (nx : List (List Int)) (a : List Bool) (n : Nat) : thrF nx a n n = thrR nx a n := by simp [thrF]
theorem thrF_nil (nx : List (List Int)) (a : List Bool) (n : Nat) : F2 (F2 LocLe) (List.replicate n [AC.nils]) ((thrF nx a n 0).map encL) := by
  have e : (thrF nx a n 0).map encL = List.replicate n [AC.list 1 0 []] := by
    unfold thrF thrR
    simp only [List.range_zero, List.map_nil, List.nil_append, Nat.sub_zero, List.map_replicate]
    rfl
  rw [e]
  clear e
  induction n with
  | zero => exact .nil
  | succ n ih => rw [List.replicate_succ, List.replicate_succ]; exact .cons (.cons z38 .nil) ih
theorem back_len (P : List Int) : ∀ (f : Nat) (a : Int), (back P f a).length ≤ f := by
  intro f
  induction f with
  | zero => intro a; exact Nat.le_refl _
  | succ f ih =>
    intro a
    rw [back]
    split
    · have := ih (P.getD a.toNat 0); simp only [List.length_cons]; omega
    · simp
theorem shGo_len (rows : List (List Int)) (b : List Bool) (n : Nat) : ∀ (f i : Nat) (s : List Int × List Int), (shGo rows b n f i s).length ≤ n := by
  intro f
  induction f with
  | zero => intro i s; simp [shGo]
  | succ f ih =>
    intro i s
    rw [shGo]
    split
    · split
      · rw [rvs_len]; exact back_len _ _ _
      · exact ih _ _
    · simp
theorem thrR_in {nx : List (List Int)} {a : List Bool} {n : Nat} (hr : ∀ r ∈ nx, InN n r) (h2 : ∀ r ∈ nx, r.length ≤ 60) (hl : nx.length = n) : ∀ r ∈ thrR nx a n, InN n r ∧ r.length ≤ 60 := fun r hx => by
  obtain ⟨i, hi, rfl⟩ := List.mem_map.1 hx
  have hi := List.mem_range.1 hi
  split
  · rw [z35 (by omega)]; exact ⟨hr _ (List.getElem_mem _), h2 _ (List.getElem_mem _)⟩
  · exact ⟨(fun x hx => by cases hx), Nat.zero_le _⟩

set_option maxHeartbeats 3200000 in
theorem witU_ok (g : Graph) (hg : g.mx) (hG : GB g) (A B : List Bool) (hA : A.length = g.st.length) (hB : B.length = g.st.length) (i : Nat) (hi : i < g.st.length) : ∃ (l : List Int), l.length ≤ 100000 ∧ (0 < l.length ↔ gB (lim false (unH g.nx false A B) g.st.length) i = true) ∧ CallsA Tryz.prog 20 [.agg g.cs, lst 1 enB A, lst 1 enB B, .int i] [] (.tup [ints l, .bool (decide ((0 : Int) < (l.length : Int)))]) [] := by
  have h60 := hG.1.2
  have hnx : g.nx.length = g.st.length := hG.2.1
  have cv := graphValid_ok g hg
  rw [(z91 g).2 hG] at cv
  have ci := in_ok i 0 (g.st.length - 1)
  have eb : btw (i : Int) 0 ((g.st.length : Int) - 1) = true := by rw [btw_iff]; omega
  rw [eb] at ci
  have hrow : ∀ r ∈ g.nx, r.length ≤ 60 := fun r hr => by
    obtain ⟨j, hj, rfl⟩ := List.mem_iff_getElem.1 hr
    exact (GB.rowB hG j hj).2.1
  have hth := thrR_in (a := A) hG.inN hrow hnx
  have cs := shortest_ok (thrR g.nx A g.st.length) B (i : Int) g.st.length (thrR_len _ _ _) h60 hB (fun r hr => (hth r hr).1) (fun r hr => (hth r hr).2) (by omega) (by omega) 71 (fun x h0 h1 => witU1_ok B x h0 (by omega) (by omega))
  have hiff := (shGo_iff (rows := thrR g.nx A g.st.length) (b := B) (c := (i : Int)) (n := g.st.length) (fun r hr => (hth r hr).1) (by omega) (g.st.length + 1) 0 _ _ (SJ.start (by omega) (by omega)) (by omega)).trans (until_iff (a := A) (b := B) hG.inN (c := (i : Int)) (by omega) (by omega))
  rw [Int.toNat_natCast] at hiff
  have hl : (shGo (thrR g.nx A g.st.length) B g.st.length (g.st.length + 1) 0 ([(i : Int)], (List.replicate g.st.length (-2)).set (i : Int).toNat (-1))).length ≤ g.st.length := shGo_len _ _ _ _ _ _
  rw [Int.toNat_natCast] at cs hl
  generalize shGo (thrR g.nx A g.st.length) B g.st.length (g.st.length + 1) 0 ([(i : Int)], (List.replicate g.st.length (-2)).set i (-1)) = L at *
  refine ⟨L, by omega, hiff, ?_⟩
  refine z15 z20 Tryz.func20 rfl rfl 68 Tryz.ntmps20 (by simp) ?_
  repeat' ((first | (apply AWP.go ok; rfl) | (apply And.intro; first | (unfold inI; omega) | (dsimp only; omega)) | ((apply z40) <;> intro _) | (apply z10 (cv); rfl; rfl) | (apply z10 (ci); rfl; rfl)) <;> conv => whnf)
  all_goals first | (exfalso; omega) | skip
  refine z108 (fun k : Nat => ([(1, lst 1 enB A), (3, .int i), (4, .ptr 0 none 0), (6, .ptr 1 none 0), (11, .sref 2 0 g.st.length), (42, .int g.st.length), (43, .int k)], [.cells 2 [g.cs], .cells 1 [[lst 1 enB B]], .cells 1 ((thrF g.nx A g.st.length k).map encL)])) (fun k => k ≤ g.st.length) (fun k => g.st.length - k) 0 (by omega) (by refine SealW.reach [0, 1, 2] [] rfl rfl rfl rfl ?_ ?_ <;> (repeat' (first | exact LocLe.refl _ | exact F2.nil | apply F2.cons | apply ObjLe.box | ((refine z25 rfl ?_ ?_); (focus ((repeat' (exact z31 rfl)); done))) | exact True.intro | apply And.intro)) <;> (exact thrF_nil _ _ _)) ?_
  intro k hk
  by_cases hkl : k < g.st.length
  · have ga := z81 (S := A) (i := k) (by omega)
    have hgk := thrF_get (nx := g.nx) (a := A) hkl
    have hfl := thrF_len (nx := g.nx) (a := A) hk
    have hst := thrF_set (nx := g.nx) (a := A) hkl
    have hsk := thrF_skip (nx := g.nx) (a := A) hkl
    have gr : (g.nx.map encL)[k]? = some (encL (g.nx.getD k [])) := by rw [List.getElem?_map, List.getElem?_eq_getElem (by omega), z35 (by omega)]; rfl
    generalize hF : thrF g.nx A g.st.length k = F at *
    generalize g.nx.getD k [] = row at *
    by_cases ha : gB A k = true
    · rw [ha] at ga
      rw [if_pos ha] at hst
      have hs : (F.map encL).set k (encL row) = (thrF g.nx A g.st.length (k + 1)).map encL := by rw [← List.map_set, hst]
      repeat' ((first | (apply AWP.go ok; rfl) | (refine z18 (i := k) rfl ga ?_) | (refine z18 (i := k) rfl gr ?_) | (refine z18 (i := k) rfl hgk ?_) | (apply And.intro; first | omega | (unfold inI; omega)) | ((apply z9) <;> intro _)) <;> conv => whnf)
      all_goals first | (exfalso; omega) | skip
      all_goals refine z58 (k + 1) (by omega) (by omega) (by refine SealW.reach [0, 1, 2] [] rfl rfl rfl rfl ?_ ?_ <;> (repeat' (first | exact LocLe.refl _ | exact F2.nil | apply F2.cons | apply ObjLe.box | ((refine z99 rfl ?_ ?_); (focus ((repeat' ((exact z8 (fun _ => rfl)))); done))) | exact True.intro | apply And.intro)) <;> ((refine f22_of_eq ?_; exact hs)))
    · rw [(Bool.not_eq_true _).mp ha] at ga
      have hs := hsk ((Bool.not_eq_true _).mp ha)
      repeat' ((first | (apply AWP.go ok; rfl) | (refine z18 (i := k) rfl ga ?_) | (apply And.intro; first | omega | (unfold inI; omega)) | ((apply z9) <;> intro _)) <;> conv => whnf)
      all_goals first | (exfalso; omega) | skip
      all_goals refine z58 (k + 1) (by omega) (by omega) (by refine SealW.reach [0, 1, 2] [] rfl rfl rfl rfl ?_ ?_ <;> (repeat' (first | exact LocLe.refl _ | exact F2.nil | apply F2.cons | apply ObjLe.box | ((refine z25 rfl ?_ ?_); (focus ((repeat' ((exact z8 (fun _ => rfl)))); done))) | exact True.intro | apply And.intro)) <;> ((refine f22_of_eq ?_; rw [hs])))
  · have ek : k = g.st.length := by omega
    subst ek
    rw [thrF_end]
    have htl := thrR_len g.nx A g.st.length
    generalize thrR g.nx A g.st.length = T at *
    repeat' ((first | (apply AWP.go ok; rfl) | (apply And.intro; omega) | ((first | (with_reducible apply z14; omega) | (apply z14; omega)); intro _) | ((first | apply z9 | apply z77) <;> intro _) | (((apply z6 [] [1, 2, 3] [4] (cs); (focus (exact z46 (bor_rowsD rfl rfl rfl htl) (z46 (bor_list rfl rfl rfl rfl rfl) (z46 (bor_fnX (z46 rfl z86)) z86)))); (focus ((repeat' exact z4) <;> fail)))); rfl; rfl; rfl; rfl; rfl; (focus ((repeat' first | exact z13 | apply z11) <;> (refine z22 ?_; ((exact z8 fun _ => rfl))))); ((refine .inr ⟨rfl, ?_⟩; repeat' first | exact True.intro | apply And.intro | exact z102 (fun _ => rfl) _)))) <;> conv => whnf)
    all_goals first | (exfalso; omega) | skip
    all_goals (refine RetS.lay [] [4] rfl rfl rfl ?_; refine RetS.done ?_ ?_ <;> (repeat' (first | exact LocLe.refl _ | exact F2.nil | apply F2.cons | ((apply z36 rfl rfl rfl); (focus ((repeat ((exact z32 (fun _ => rfl) _))); done)); (focus (((simp; done)); done))) | apply tup_le)))
end Go.Proofs.YtppafngcahgagaaGreat

namespace Go.Proofs.YtppafngcahgagaaGreat
open Go.Gl
attribute [local irreducible] z29 AWP z51 z62 z55

section
open Go.ChangeShapes Go.WideShapes Go.ChangeAt Go.RowKit
theorem and_mk {a b : Bool} (h : a = true) (k : b = true) : (a && b) = true := by rw [h, k]; rfl
theorem own : ownKnob Tryz.prog.godebug = none := by kernel_rfl
theorem laidOut_ok : laidOutB Tryz.prog = true := by kernel_rfl
end
end Go.Proofs.YtppafngcahgagaaGreat

namespace Go.Proofs.YtppafngcahgagaaGreat
open Go.Gl
attribute [local irreducible] z29 AWP z51 z62 z55

theorem ad_code : ArgD Tryz.prog 22 (lst 1 enU) CodeOk :=
  (argD_list (enc1 := lst 1 enU) Tryz.underlying22 (od_list 1 (encL := fun l => [lst 1 enU l]) Tryz.underlying22 (by kernel_rfl) (by decide) (od_byte (enc := enU) Tryz.underlying5 (fun _ => rfl)) (fun _ => rfl)) (fun _ => rfl)).imp fun l h => ⟨l, rfl, h.1, fun x hx => by
    have := h.2 x hx
    have h1 : IntKind.min .u8 = 0 := by decide
    have h2 : IntKind.max .u8 = 255 := by decide
    simpa [Lit.wf, h1, h2] using this⟩
end Go.Proofs.YtppafngcahgagaaGreat

