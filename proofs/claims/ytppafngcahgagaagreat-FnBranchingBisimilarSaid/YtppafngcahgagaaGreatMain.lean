/- Bisimulation preserves branching time: bisimilar states satisfy the same formulas. The law FnBranchingBisimilar returns true at every input and leaves its input as it was. No condition. -/
import Derived.Test.YtppafngcahgagaaGreatG0
import Derived.Test.YtppafngcahgagaaGreatG1
import Derived.Test.YtppafngcahgagaaGreatG2
import Derived.Test.YtppafngcahgagaaGreatP0
import Derived.Test.YtppafngcahgagaaGreatP1
import Derived.Test.YtppafngcahgagaaGreatP2
import Derived.Test.YtppafngcahgagaaGreatP3
import Derived.Test.YtppafngcahgagaaGreatP4
import Derived.Test.YtppafngcahgagaaGreatP5
import Derived.Test.YtppafngcahgagaaGreatP6
set_option linter.all false
namespace Go.Proofs.YtppafngcahgagaaGreat
open Go.Gl
attribute [local irreducible] z31 AWP z50 z58 z55 RetS z87

set_option maxHeartbeats 3200000 in
theorem lawFnBranchingBisimilar (c : List Int) (hc : CodeOk c) : CallsA Tryz.prog 12 [lst 1 enU c] [] (.bool true) [] := by
  obtain ⟨g, l, f, ⟨hg, hl, hf⟩, cd⟩ := drawBr_ok c hc
  have hgm := hg.mx
  have hlm := hl.mx
  have hst := hg.st
  have hlen := hc.len
  unfold maxLen at hlen
  have k1 := br_ok g hg l hl f (by omega)
  have k2 := brS_ok g hg l hl f (by omega)
  have k3 := wpBools_ok (brL g l f) (brL g l f) (by have := brL_100 (g := g) (l := l) f; unfold maxLen; omega) (by have := brL_100 (g := g) (l := l) f; unfold maxLen; omega)
  rw [decide_eq_true rfl] at k3
  by_cases h0 : okB g l f = true
  · obtain ⟨h, hbr⟩ := Bool.and_eq_true_iff.1 (show (glB g l && f.brB) = true from h0)
    obtain ⟨hG, hL⟩ := glB_GB h
    have e : bisR g l = bisF g l := by unfold bisR; rw [if_pos h]
    have k4 := z80 g hgm l hlm
    rw [e, h] at k4
    have hp := bisF_part g l
    have hs := bisF_stb g l
    have hbv := bisF_bv (l := l) hG
    have hQ := quoG_GB hG hp
    have hQd := quoG_d hg hG hp
    have h2 : okB (quoG g (bisF g l)) l f = true := by
      unfold okB glB
      unfold glB at h
      rw [(z81 _).2 hQ, hbr, (Bool.and_eq_true_iff.1 h).2]; rfl
    have hq := quot_ok g hgm hg.el (bisF g l) (by rw [z99]; omega)
    have eq : quoR g (bisF g l) = quoG g (bisF g l) := by unfold quoR; rw [if_pos hbv]
    rw [hbv, eq] at hq
    have k5 := br_ok (quoG g (bisF g l)) hQd l hl f (by omega)
    have hsat : ∀ i, i < g.st.length → gB (brL g l f) i = gB (brL (quoG g (bisF g l)) l f) ((bisF g l).getD i 0).toNat := fun i hi => by
      rw [brL_sat h0, brL_sat h2]
      have e1 : (quoG g (bisF g l)).st.length = (fstB (bisF g l) g.st.length).length := quoS_len _ _ _
      have := sat_quo hG.inG hp hs (L := g.st.map (z39 l)) (L' := (quoG g (bisF g l)).st.map (z39 l)) (fun i hi => by
        have hlt := hp.lt hi
        have a1 : (g.st.map (z39 l)).getD i 0 = lsT g l i := lsT_map hi
        have a2 : ((quoG g (bisF g l)).st.map (z39 l)).getD ((bisF g l).getD i 0).toNat 0 = lsT (quoG g (bisF g l)) l ((bisF g l).getD i 0).toNat := lsT_map (by rw [e1]; exact hlt)
        rw [a1, a2]
        have a3 : lsT (quoG g (bisF g l)) l ((bisF g l).getD i 0).toNat = lsT g l ((fstB (bisF g l) g.st.length).getD ((bisF g l).getD i 0).toNat 0) := by unfold lsT; rw [quoG_st hlt]
        rw [a3]
        exact bisF_let g l hi (hp.fst_lt hlt) (hp.rep hi).symm) f i hi
      rw [e1]
      exact this
    have hS := brL_len h0
    have hS2 := brL_len h2
    have e1 : (quoG g (bisF g l)).st.length = (fstB (bisF g l) g.st.length).length := quoS_len _ _ _
    have hlt : ∀ i, i < g.st.length → 0 ≤ (bisF g l).getD i 0 ∧ ((bisF g l).getD i 0).toNat < (quoG g (bisF g l)).st.length := fun i hi => ⟨(hp.rng i hi).1, by rw [e1]; exact hp.lt hi⟩
    have hBl := z99 g l
    have hq60 := hQ.1
    rw [h0] at k1 k2
    rw [h2] at k5
    rw [Tree.arg_eq] at k1 k2 k5 cd
    generalize bisF g l = B at *
    generalize brL g l f = S at *
    generalize brL (quoG g B) l f = S2 at *
    generalize quoG g B = q at *
    refine z18 z23 Tryz.func12 rfl rfl 108 Tryz.ntmps12 (by simp) ?_
    repeat' ((first | (apply AWP.go ok; rfl) | ((apply z8) <;> intro _) | (apply z12 (cd); rfl; rfl) | (apply z12 (k1); rfl; rfl) | (apply z12 (k2); rfl; rfl) | (apply z12 (k3); rfl; rfl) | (apply z12 (k4); rfl; rfl) | (apply z12 (hq); rfl; rfl) | (apply z12 (k5); rfl; rfl)) <;> conv => whnf)
    all_goals first | (refine RetS.lay [] [] rfl rfl rfl ?_; refine RetS.done ?_ ?_ <;> (repeat' (first | exact LocLe.refl _ | exact F2.nil))) | skip
    refine z119 (fun i : Nat => ([(6, lst 1 enB S), (10, ints B), (11, .bool true), (13, .bool true), (14, lst 1 enB S2), (15, .bool true), (16, .int i)], [])) (fun i => i ≤ S.length) (fun i => S.length - i) 0 (by omega) (by refine SealW.reach [] [] rfl rfl rfl rfl ?_ ?_ <;> (repeat' (first | exact LocLe.refl _ | exact F2.nil | exact True.intro | apply And.intro))) ?_
    intro i hi
    by_cases hil : i < S.length
    · have his : i < g.st.length := by omega
      have g1 := z97 (S := S) (i := i) hil
      have gb : (B.map enI)[i]? = some (enI (B.getD i 0)) := by rw [List.getElem?_map, List.getElem?_eq_getElem (by omega), z20 (by omega)]; rfl
      have hb := hlt i his
      rw [hsat i his] at g1
      have g2 := z97 (S := S2) (i := (B.getD i 0).toNat) (by omega)
      generalize B.getD i 0 = b at *
      generalize gB S2 b.toNat = z at *
      cases z
      all_goals
        repeat' ((first | (apply AWP.go ok; rfl) | (apply z37; kernel_rfl) | (refine z21 (i := i) rfl g1 ?_) | (refine z21 (i := i) rfl gb ?_) | (refine z21 (i := b.toNat) rfl g2 ?_) | (apply And.intro; first | omega | (unfold inI; omega)) | ((apply z8) <;> intro _)) <;> conv => whnf)
        all_goals first | (exfalso; omega) | skip
        all_goals refine z63 (i + 1) (by omega) (by omega) (by refine SealW.reach [] [] rfl rfl rfl rfl ?_ ?_ <;> (repeat' (first | exact LocLe.refl _ | exact F2.nil | exact True.intro | apply And.intro)))
    · repeat' ((first | (apply AWP.go ok; rfl) | (apply z37; kernel_rfl) | (apply And.intro; omega) | ((first | (with_reducible apply z15; omega) | (with_reducible apply z98; omega)); intro _) | ((first | apply z8 | apply z32) <;> intro _)) <;> conv => whnf)
      all_goals first | (exfalso; omega) | (refine RetS.lay [] [] rfl rfl rfl ?_; refine RetS.done ?_ ?_ <;> (repeat' (first | exact LocLe.refl _ | exact F2.nil)))
  · rw [(Bool.not_eq_true _).mp h0] at k1 k2
    rw [Tree.arg_eq] at k1 k2 cd
    refine z18 z23 Tryz.func12 rfl rfl 108 Tryz.ntmps12 (by simp) ?_
    repeat' ((first | (apply AWP.go ok; rfl) | ((apply z8) <;> intro _) | (apply z12 (cd); rfl; rfl) | (apply z12 (k1); rfl; rfl) | (apply z12 (k2); rfl; rfl) | (apply z12 (k3); rfl; rfl)) <;> conv => whnf)
    all_goals (refine RetS.lay [] [] rfl rfl rfl ?_; refine RetS.done ?_ ?_ <;> (repeat' (first | exact LocLe.refl _ | exact F2.nil)))
end Go.Proofs.YtppafngcahgagaaGreat

namespace Go.Proofs.YtppafngcahgagaaGreat
open Go.Gl
open Go.ChangeShapes Go.WideShapes Go.ChangeAt Go.RowKit
attribute [local irreducible] z31 AWP z50 z58 z55
namespace FnBranchingBisimilar
theorem args_ok : ArgsOk Tryz.prog Tryz.f12.params.toList (fun xs _ => ∃ (c : List Int), xs = [lst 1 enU c] ∧ CodeOk c) := by
  rw [Tryz.params12]
  refine ArgsOk.imp (args_cons ad_code (args_nil)) ?_
  rintro xs m ⟨c, _, rfl, hc, rfl⟩
  exact ⟨c, rfl, hc⟩

set_option maxRecDepth 100000 in
theorem contract (H : Type) (enc : TypeId × Value → H) (W : World) (base : Nat) (args : Array Value) (ds gs : List (DataW H)) (before : List MemPlace)
    (hval : ∀ (j : Nat) t v, Tryz.f12.params[j]? = some t → args[j]? = some v → Value.okWide Tryz.prog W .any base t v)
    (hW : DataW.Whole enc Tryz.prog Tryz.f12.params.toList Rows.fnBranchingBisimilarSpec.vars false W args.toList ds gs before) :
    Calls Tryz.prog 12 args W fun e W' => ∃ v, e = .returned v ∧ Rows.fnBranchingBisimilarSpec.post enc Tryz.prog Tryz.f12 false true false false W args v W' := by
  refine law_post bulk_sizeOf laidOut_ok (by rw [Tryz.params12]; decide +kernel) rfl (fun ds h => ?_) (by kernel_rfl) Tryz.underlying4 args_ok (fun xs m h _ => ?_) hval hW
  · rw [Tryz.params12] at h
    match ds, h with
    | [_], _ => rfl
  · obtain ⟨c, rfl, hc⟩ := h
    exact lawFnBranchingBisimilar c hc

noncomputable def w0 (os : Os) : World := World.holding Tryz.prog os ⟨#[], #[], []⟩
def zeros : Array Value := #[.slice none 0 0]
theorem reads (os : Os) {H : Type} (enc : TypeId × Value → H) : ∃ places, DataW.whole enc Tryz.prog ((w0 os).forCall (fun _ _ => 0) ⟨#[], zeros, []⟩).memory Tryz.f12.params.toList Rows.fnBranchingBisimilarSpec.vars false zeros.toList 8 = some ([.nil], [], places) :=
  ⟨[], by kernel_rfl⟩

set_option maxRecDepth 100000 in
theorem lifted (os : Os) (started : os.Started) (H : Type) (enc : TypeId × Value → H) (F : Stop.Interp) :
    ReturnsInHanded {} Tryz.checked os 12 .any ((OpenSpec.ofChange Rows.fnBranchingBisimilarSpec).preRow enc Tryz.prog Tryz.f12 Rows.fnBranchingBisimilarRow.domain false Rows.fnBranchingBisimilarRow.laid) (((OpenSpec.ofChange Rows.fnBranchingBisimilarSpec).at F).post enc Tryz.prog Tryz.f12 false true false false) := by
  obtain ⟨places, hx⟩ := reads os enc
  refine returnsInHanded_of_row (C := Tryz.checked) (s := OpenSpec.ofChange Rows.fnBranchingBisimilarSpec) own started (by kernel_rfl) Tryz.func12
    (witness_row_at (enc := enc) (C := Tryz.checked) false (w0 os) zeros rfl (by kernel_rfl) (by kernel_rfl) (by kernel_rfl)
      (OpenSpec.preRow_of_cond 8 hx (by kernel_rfl) (fun k hk => by cases hk) (by kernel_rfl) (laidMetH_nil _ _))) ?_
  intro W base args ds gs before hval hW _ _ _ _ _ _
  exact contract H enc W base args ds gs before hval hW

set_option maxHeartbeats 40000000 in
set_option maxRecDepth 100000 in
theorem closed : joinedFacts Tryz.prog 12 Tryz.f12 (OpenSpec.ofChange Rows.fnBranchingBisimilarSpec).bare Rows.fnBranchingBisimilarRow = true := by
  unfold joinedFacts
  repeat' (with_reducible apply and_mk)
  all_goals (as_aux_lemma => kernel_rfl)
theorem proved : Rows.FnBranchingBisimilarSaid :=
  OpenClaim.holds_of_cond 12 Tryz.f12 rfl rfl rfl rfl rfl rfl rfl ⟨rfl, rfl, rfl, rfl, rfl⟩ rfl rfl rfl rfl rfl (by kernel_rfl) Tryz.func12 closed
    (of_decide_eq_true (by kernel_rfl)) (by unfold Func.isWrapper; first | (rw [if_pos (by decide +kernel)]; kernel_rfl) | (rw [if_neg (by decide +kernel)]; exact ⟨rfl, rfl⟩))
    (fun os started H enc _ F => by rw [OpenClaim.pre_eq_preRow]; exact lifted os started H enc F)
end FnBranchingBisimilar
end Go.Proofs.YtppafngcahgagaaGreat

