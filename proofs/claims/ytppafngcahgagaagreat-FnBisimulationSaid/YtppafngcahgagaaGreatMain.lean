/- Bisimulation is coarsest: the partition is stable, and no two of its blocks can be merged. The law FnBisimulation returns true at every input and leaves its input as it was. No condition. -/
import Derived.Test.YtppafngcahgagaaGreatG0
import Derived.Test.YtppafngcahgagaaGreatG1
import Derived.Test.YtppafngcahgagaaGreatG2
import Derived.Test.YtppafngcahgagaaGreatP0
import Derived.Test.YtppafngcahgagaaGreatP1
import Derived.Test.YtppafngcahgagaaGreatP2
import Derived.Test.YtppafngcahgagaaGreatP3
import Derived.Test.YtppafngcahgagaaGreatP4
import Derived.Test.YtppafngcahgagaaGreatP5
set_option linter.all false
namespace Go.Proofs.YtppafngcahgagaaGreat
open Go.Gl
attribute [local irreducible] z34 AWP z50 z62 z56 RetS z79

theorem stB_bisF {g : Graph} {l : List Tree} (h : glB g l = true) : stB g l (bisF g l) = true := by
  obtain ⟨hG, _⟩ := glB_GB h
  have hl : z100 l = true := by unfold glB at h; exact (Bool.and_eq_true_iff.1 h).2
  unfold stB
  rw [hl, bisF_bv hG, decide_eq_true (bisF_ref g l), decide_eq_true]
  · rfl
  · intro i k hk hi e
    rw [bisF_len] at hi
    rw [lsT_map hi, lsT_map (by omega)]
    exact bisF_let g l hi (by omega) e
/-- what is stable and keeps the letters is finer -/
theorem stB_finer {g : Graph} {l : List Tree} {m : List Int} (h : stB g l m = true) {i j : Nat} (hi : i < g.st.length) (hj : j < g.st.length) (e : m.getD i 0 = m.getD j 0) : (bisF g l).getD i 0 = (bisF g l).getD j 0 := by
  unfold stB at h
  simp only [Bool.and_eq_true, decide_eq_true_eq] at h
  obtain ⟨_, hv, hr, hL⟩ := h
  obtain ⟨hG, _, hml⟩ := bvB_iff.1 hv
  have hs : Stb g.nx g.st.length (fun i => m.getD i 0) := Stb.of_ref hr
  rw [bisF_M]
  refine coarsest hG.inG hs (fun a b ha hb e => (bis0_iff g l ha hb).2 ?_) _ i j hi hj e
  rw [← lsT_map ha, ← lsT_map hb]
  rcases Nat.lt_trichotomy a b with h | h | h
  · exact (hL b a h (by omega) e.symm).symm
  · rw [h]
  · exact hL a b h (by omega) e
theorem merge_not {g : Graph} {l : List Tree} {a b : Int} (ha : 0 ≤ a) (ha1 : a < mstD (bisF g l) g.st.length) (hb : 0 ≤ b) (hb1 : b < mstD (bisF g l) g.st.length) (hne : b ≠ a) : stB g l (numK (keyM (mrgL (bisF g l) a b)) g.st.length).1 = false := by
  rw [← Bool.not_eq_true]
  intro h
  have hp := bisF_part g l
  have hc := hp.cnt
  have hA := hp.at_fst (b := a.toNat) (by omega)
  have hB := hp.at_fst (b := b.toNat) (by omega)
  have hAl := hp.fst_lt (b := a.toNat) (by omega)
  have hBl := hp.fst_lt (b := b.toNat) (by omega)
  have e := stB_finer h hAl hBl ((numK_getD _ hAl hBl).2 (by
    unfold keyM
    rw [mrgL_at (by rw [bisF_len]; exact hAl), mrgL_at (by rw [bisF_len]; exact hBl), hA, hB, if_neg (by omega), if_pos (by omega)]
    omega))
  rw [hA, hB] at e
  omega

set_option maxHeartbeats 3200000 in
theorem lawFnBisimulation (c : List Int) (hc : CodeOk c) (d : List Int) (hd : CodeOk d) : CallsA Tryz.prog 10 [lst 1 enU c, lst 1 enU d] [] (.bool true) [] := by
  obtain ⟨g, l, ⟨hg, hl⟩, cd⟩ := drawBisimulation_ok c hc
  have hgm := hg.mx
  have hlm := hl.mx
  have hst := hg.st
  have hlen := hc.len
  have hlen2 := hd.len
  unfold maxLen at hlen hlen2
  have k1 := implBisimulation_ok g hgm l hlm
  have k2 := z120 g hgm l hlm
  have bl := bisR_le g l
  have k3 := wpInts_ok (bisR g l) (bisR g l) (by unfold maxLen; omega) (by unfold maxLen; omega)
  rw [decide_eq_true rfl] at k3
  by_cases h : glB g l = true
  · obtain ⟨hG, hL⟩ := glB_GB h
    have e : bisR g l = bisF g l := by unfold bisR; rw [if_pos h]
    have hp := bisF_part g l
    have hBl := bisF_len g l
    have hS := stB_bisF h
    have k4 := z90 g hgm l hlm (bisF g l) (by omega)
    rw [hS] at k4
    have hp' := hp
    rw [← hBl] at hp'
    have k5 := wpBlocks_ok _ (by rw [hBl]; omega) hp'
    rw [hBl] at k5
    have hn0 : 0 ≤ mstD (bisF g l) g.st.length ∧ mstD (bisF g l) g.st.length ≤ 100 := by
      have := hp.cnt
      have := fstB_len (bisF g l) g.st.length
      omega
    have k6 : ∀ a b : Int, 0 ≤ a → a < mstD (bisF g l) g.st.length → 0 ≤ b → b < mstD (bisF g l) g.st.length → b ≠ a → ∃ M : List Int, CallsA Tryz.prog 37 [ints (bisF g l), .int a, .int b] [] (ints M) [] ∧ CallsA Tryz.prog 22 [.agg g.cs, lst 3 Tree.cs' l, ints M] [] (.bool false) [] := fun a b h1 h2 h3 h4 h5 => by
      have c1 := wpMerge_ok (bisF g l) (by omega) a b
      have hml := z117 (κ := keyM (mrgL (bisF g l) a b)) g.st.length
      have c2 := z90 g hgm l hlm (numK (keyM (mrgL (bisF g l) a b)) g.st.length).1 (by rw [hml]; omega)
      rw [merge_not h1 h2 h3 h4 h5] at c2
      rw [hBl] at c1
      exact ⟨_, c1, c2⟩
    rw [e, h] at k1 k2
    rw [e] at k3
    generalize bisF g l = B at *
    generalize mstD B g.st.length = n at *
    by_cases hn : 1 < n
    · have a0 := Int.emod_nonneg (d.length : Int) (show n ≠ 0 by omega)
      have a1 := Int.emod_lt_of_pos (d.length : Int) (show 0 < n by omega)
      have r0 := Int.emod_nonneg (c.length : Int) (show n - 1 ≠ 0 by omega)
      have r1 := Int.emod_lt_of_pos (c.length : Int) (show 0 < n - 1 by omega)
      obtain ⟨o1, o2, o3⟩ := other_mod a0 a1 r0 r1
      obtain ⟨M, c1, c2⟩ := k6 _ _ a0 a1 o2 o3 o1
      refine z16 z20 Tryz.func10 rfl rfl 89 Tryz.ntmps10 (by simp) ?_
      repeat' ((first | (apply AWP.go ok; rfl) | (apply z39; kernel_rfl) | (apply And.intro; first | omega | (unfold inI; omega)) | ((apply z11) <;> intro _) | (apply z10 (cd); rfl; rfl) | (apply z10 (k1); rfl; rfl) | (apply z10 (k2); rfl; rfl) | (apply z10 (k3); rfl; rfl) | (apply z10 (k5); rfl; rfl) | (apply z10 (c1); rfl; rfl) | (apply z10 (c2); rfl; rfl) | (apply z10 (k4); rfl; rfl)) <;> conv => whnf)
      all_goals first | (exfalso; omega) | (refine RetS.lay [] [] rfl rfl rfl ?_; refine RetS.done ?_ ?_ <;> (repeat' (first | exact LocLe.refl _ | exact F2.nil)))
      all_goals trace_state
    · refine z16 z20 Tryz.func10 rfl rfl 89 Tryz.ntmps10 (by simp) ?_
      repeat' ((first | (apply AWP.go ok; rfl) | (apply And.intro; omega) | ((apply z11) <;> intro _) | (apply z10 (cd); rfl; rfl) | (apply z10 (k1); rfl; rfl) | (apply z10 (k2); rfl; rfl) | (apply z10 (k3); rfl; rfl) | (apply z10 (k5); rfl; rfl) | (apply z10 (k4); rfl; rfl)) <;> conv => whnf)
      all_goals first | (exfalso; omega) | (refine RetS.lay [] [] rfl rfl rfl ?_; refine RetS.done ?_ ?_ <;> (repeat' (first | exact LocLe.refl _ | exact F2.nil)))
  · rw [(Bool.not_eq_true _).mp h] at k1 k2
    refine z16 z20 Tryz.func10 rfl rfl 89 Tryz.ntmps10 (by simp) ?_
    repeat' ((first | (apply AWP.go ok; rfl) | ((apply z11) <;> intro _) | (apply z10 (cd); rfl; rfl) | (apply z10 (k1); rfl; rfl) | (apply z10 (k2); rfl; rfl) | (apply z10 (k3); rfl; rfl)) <;> conv => whnf)
    all_goals (refine RetS.lay [] [] rfl rfl rfl ?_; refine RetS.done ?_ ?_ <;> (repeat' (first | exact LocLe.refl _ | exact F2.nil)))
end Go.Proofs.YtppafngcahgagaaGreat

namespace Go.Proofs.YtppafngcahgagaaGreat
open Go.Gl
open Go.ChangeShapes Go.WideShapes Go.ChangeAt Go.RowKit
attribute [local irreducible] z34 AWP z50 z62 z56
namespace FnBisimulation
theorem args_ok : ArgsOk Tryz.prog Tryz.f10.params.toList (fun xs _ => ∃ (c : List Int) (d : List Int), xs = [lst 1 enU c, lst 1 enU d] ∧ CodeOk c ∧ CodeOk d) := by
  rw [Tryz.params10]
  refine ArgsOk.imp (args_cons ad_code (args_cons ad_code (args_nil))) ?_
  rintro xs m ⟨c, _, rfl, hc, d, _, rfl, hd, rfl⟩
  exact ⟨c, d, rfl, hc, hd⟩

set_option maxRecDepth 100000 in
theorem contract (H : Type) (enc : TypeId × Value → H) (W : World) (base : Nat) (args : Array Value) (ds gs : List (DataW H)) (before : List MemPlace)
    (hval : ∀ (j : Nat) t v, Tryz.f10.params[j]? = some t → args[j]? = some v → Value.okWide Tryz.prog W .any base t v)
    (hW : DataW.Whole enc Tryz.prog Tryz.f10.params.toList Rows.fnBisimulationSpec.vars false W args.toList ds gs before) :
    Calls Tryz.prog 10 args W fun e W' => ∃ v, e = .returned v ∧ Rows.fnBisimulationSpec.post enc Tryz.prog Tryz.f10 false true false false W args v W' := by
  refine law_post bulk_sizeOf laidOut_ok (by rw [Tryz.params10]; decide +kernel) rfl (fun ds h => ?_) (by kernel_rfl) Tryz.underlying4 args_ok (fun xs m h _ => ?_) hval hW
  · rw [Tryz.params10] at h
    match ds, h with
    | [_, _], _ => rfl
  · obtain ⟨c, d, rfl, hc, hd⟩ := h
    exact lawFnBisimulation c hc d hd

noncomputable def w0 (os : Os) : World := World.holding Tryz.prog os ⟨#[], #[], []⟩
def zeros : Array Value := #[.slice none 0 0, .slice none 0 0]
theorem reads (os : Os) {H : Type} (enc : TypeId × Value → H) : ∃ places, DataW.whole enc Tryz.prog ((w0 os).forCall (fun _ _ => 0) ⟨#[], zeros, []⟩).memory Tryz.f10.params.toList Rows.fnBisimulationSpec.vars false zeros.toList 8 = some ([.nil, .nil], [], places) :=
  ⟨[], by kernel_rfl⟩

set_option maxRecDepth 100000 in
theorem lifted (os : Os) (started : os.Started) (H : Type) (enc : TypeId × Value → H) (F : Stop.Interp) :
    ReturnsInHanded {} Tryz.checked os 10 .any ((OpenSpec.ofChange Rows.fnBisimulationSpec).preRow enc Tryz.prog Tryz.f10 Rows.fnBisimulationRow.domain false Rows.fnBisimulationRow.laid) (((OpenSpec.ofChange Rows.fnBisimulationSpec).at F).post enc Tryz.prog Tryz.f10 false true false false) := by
  obtain ⟨places, hx⟩ := reads os enc
  refine returnsInHanded_of_row (C := Tryz.checked) (s := OpenSpec.ofChange Rows.fnBisimulationSpec) own started (by kernel_rfl) Tryz.func10
    (witness_row_at (enc := enc) (C := Tryz.checked) false (w0 os) zeros rfl (by kernel_rfl) (by kernel_rfl) (by kernel_rfl)
      (OpenSpec.preRow_of_cond 8 hx (by kernel_rfl) (fun k hk => by cases hk) (by kernel_rfl) (laidMetH_nil _ _))) ?_
  intro W base args ds gs before hval hW _ _ _ _ _ _
  exact contract H enc W base args ds gs before hval hW

set_option maxHeartbeats 40000000 in
set_option maxRecDepth 100000 in
theorem closed : joinedFacts Tryz.prog 10 Tryz.f10 (OpenSpec.ofChange Rows.fnBisimulationSpec).bare Rows.fnBisimulationRow = true := by
  unfold joinedFacts
  repeat' (with_reducible apply and_mk)
  all_goals (as_aux_lemma => kernel_rfl)
theorem proved : Rows.FnBisimulationSaid :=
  OpenClaim.holds_of_cond 10 Tryz.f10 rfl rfl rfl rfl rfl rfl rfl ⟨rfl, rfl, rfl, rfl, rfl⟩ rfl rfl rfl rfl rfl (by kernel_rfl) Tryz.func10 closed
    (of_decide_eq_true (by kernel_rfl)) (by unfold Func.isWrapper; first | (rw [if_pos (by decide +kernel)]; kernel_rfl) | (rw [if_neg (by decide +kernel)]; exact ⟨rfl, rfl⟩))
    (fun os started H enc _ F => by rw [OpenClaim.pre_eq_preRow]; exact lifted os started H enc F)
end FnBisimulation
end Go.Proofs.YtppafngcahgagaaGreat

