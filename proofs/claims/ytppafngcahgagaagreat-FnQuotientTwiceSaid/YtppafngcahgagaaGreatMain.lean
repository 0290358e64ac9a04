/- Quotients are minimal: the bisimulation of a quotient by the bisimulation has a block for each state. The law FnQuotientTwice returns true at every input and leaves its input as it was. No condition. -/
import Derived.Test.YtppafngcahgagaaGreatG0
import Derived.Test.YtppafngcahgagaaGreatG1
import Derived.Test.YtppafngcahgagaaGreatG2
import Derived.Test.YtppafngcahgagaaGreatP0
import Derived.Test.YtppafngcahgagaaGreatP1
import Derived.Test.YtppafngcahgagaaGreatP2
import Derived.Test.YtppafngcahgagaaGreatP3
import Derived.Test.YtppafngcahgagaaGreatP4
import Derived.Test.YtppafngcahgagaaGreatP5
import Derived.Test.YtppafngcahgagaaGreatP6
set_option linter.all false
namespace Go.Proofs.YtppafngcahgagaaGreat
open Go.Gl
attribute [local irreducible] z31 AWP z50 z58 z55 RetS z87

theorem lsT_quo {g : Graph} {l : List Tree} {bl : List Int} {u : Nat} (hu : u < (fstB bl g.st.length).length) : lsT (quoG g bl) l u = lsT g l ((fstB bl g.st.length).getD u 0) := by
  unfold lsT; rw [quoG_st hu]
theorem twice_num {g : Graph} {l : List Tree} (hG : GB g) : mstD (bisF (quoG g (bisF g l)) l) (bisF (quoG g (bisF g l)) l).length = (quoG g (bisF g l)).st.length := by
  have hp := bisF_part g l
  have hs := bisF_stb g l
  have hQ := quoG_GB hG hp
  have e1 : (quoG g (bisF g l)).st.length = (fstB (bisF g l) g.st.length).length := quoS_len _ _ _
  obtain ⟨κ, hκ⟩ := bisF_num (quoG g (bisF g l)) l hQ.1.1
  have hM := bisF_M (quoG g (bisF g l)) l
  have hinj : ∀ a b, a < (quoG g (bisF g l)).st.length → b < (quoG g (bisF g l)).st.length → κ a = κ b → a = b := fun a b ha hb e => by
    have e2 := (numK_getD κ ha hb).2 e
    rw [← hκ, hM] at e2
    rw [e1] at e2 ha hb
    have hs' := bisF_stb (quoG g (bisF g l)) l
    rw [hM, e1] at hs'
    exact quo_discrete hG.inG hp hs (b0 := bis0 g l) (c0 := bis0 (quoG g (bisF g l)) l) (bisF_M g l) (ls := lsT g l) (fun i j hi hj => bis0_iff g l hi hj) (fun u v hu hv => by
      rw [bis0_iff (quoG g (bisF g l)) l (by rw [e1]; exact hu) (by rw [e1]; exact hv), lsT_quo hu, lsT_quo hv]) _ hs' ha hb e2
  rw [z99, hκ]
  have := numF_mstD (fun i k => decide (κ k = κ i)) (quoG g (bisF g l)).st.length _ (Nat.le_refl _)
  rw [show (numK κ (quoG g (bisF g l)).st.length).1 = (numF (fun i k => decide (κ k = κ i)) (quoG g (bisF g l)).st.length).1 from rfl, this]
  have := (numK_inj hinj).2
  rw [show (numF (fun i k => decide (κ k = κ i)) (quoG g (bisF g l)).st.length).2 = (numK κ (quoG g (bisF g l)).st.length).2 from rfl, this]

set_option maxHeartbeats 3200000 in
theorem lawFnQuotientTwice (c : List Int) (hc : CodeOk c) : CallsA Tryz.prog 9 [lst 1 enU c] [] (.bool true) [] := by
  obtain ⟨g, l, ⟨hg, hl⟩, cd⟩ := drawBisimulation_ok c hc
  have hgm := hg.mx
  have hlm := hl.mx
  have hst := hg.st
  have hlen := hc.len
  unfold maxLen at hlen
  have k1 := z80 g hgm l hlm
  have k2 := z118 g hgm l hlm
  have bl := bisR_le g l
  have k3 := wpInts_ok (bisR g l) (bisR g l) (by unfold maxLen; omega) (by unfold maxLen; omega)
  rw [decide_eq_true rfl] at k3
  by_cases h : glB g l = true
  · obtain ⟨hG, hL⟩ := glB_GB h
    have e : bisR g l = bisF g l := by unfold bisR; rw [if_pos h]
    have hp := bisF_part g l
    have hbv := bisF_bv (l := l) hG
    have hQ := quoG_GB hG hp
    have hQd := quoG_d hg hG hp
    have h2 : glB (quoG g (bisF g l)) l = true := by unfold glB at h ⊢; rw [(z81 _).2 hQ]; exact (Bool.and_eq_true_iff.1 h).2
    have hq := quot_ok g hgm hg.el (bisF g l) (by rw [z99]; omega)
    have eq : quoR g (bisF g l) = quoG g (bisF g l) := by unfold quoR; rw [if_pos hbv]
    rw [hbv, eq] at hq
    have k4 := z80 (quoG g (bisF g l)) hQd.mx l hlm
    have e2 : bisR (quoG g (bisF g l)) l = bisF (quoG g (bisF g l)) l := by unfold bisR; rw [if_pos h2]
    rw [e2, h2] at k4
    have hpq := bisF_part (quoG g (bisF g l)) l
    have hql := z99 (quoG g (bisF g l)) l
    rw [← hql] at hpq
    have hq60 := hQ.1
    have k5 := wpBlocks_ok _ (by rw [hql]; omega) hpq
    rw [twice_num hG] at k5
    rw [e, h] at k1 k2
    rw [e] at k3
    generalize bisF g l = B at *
    generalize bisF (quoG g B) l = B2 at *
    generalize quoG g B = q at *
    have ed : decide ((q.st.length : Int) = (B2.length : Int)) = true := by rw [decide_eq_true_iff]; omega
    have ed2 : decide ((B2.length : Int) = (q.st.length : Int)) = true := by rw [decide_eq_true_iff]; omega
    refine z18 z23 Tryz.func9 rfl rfl 85 Tryz.ntmps9 (by simp) ?_
    repeat' ((first | (apply AWP.go ok; rfl) | ((apply z8) <;> intro _) | (apply z12 (cd); rfl; rfl) | (apply z12 (k1); rfl; rfl) | (apply z12 (k2); rfl; rfl) | (apply z12 (k3); rfl; rfl) | (apply z12 (hq); rfl; rfl) | (apply z12 (k4); rfl; rfl) | (apply z12 (k5); rfl; rfl)) <;> conv => whnf)
    all_goals first | (exfalso; omega) | (refine RetS.lay [] [] rfl rfl rfl ?_; refine RetS.done ?_ ?_ <;> (repeat' (first | exact LocLe.refl _ | exact F2.nil)))
    all_goals exact bool_le ed
  · rw [(Bool.not_eq_true _).mp h] at k1 k2
    refine z18 z23 Tryz.func9 rfl rfl 85 Tryz.ntmps9 (by simp) ?_
    repeat' ((first | (apply AWP.go ok; rfl) | ((apply z8) <;> intro _) | (apply z12 (cd); rfl; rfl) | (apply z12 (k1); rfl; rfl) | (apply z12 (k2); rfl; rfl) | (apply z12 (k3); rfl; rfl)) <;> conv => whnf)
    all_goals (refine RetS.lay [] [] rfl rfl rfl ?_; refine RetS.done ?_ ?_ <;> (repeat' (first | exact LocLe.refl _ | exact F2.nil)))
end Go.Proofs.YtppafngcahgagaaGreat

namespace Go.Proofs.YtppafngcahgagaaGreat
open Go.Gl
open Go.ChangeShapes Go.WideShapes Go.ChangeAt Go.RowKit
attribute [local irreducible] z31 AWP z50 z58 z55
namespace FnQuotientTwice
theorem args_ok : ArgsOk Tryz.prog Tryz.f9.params.toList (fun xs _ => ∃ (c : List Int), xs = [lst 1 enU c] ∧ CodeOk c) := by
  rw [Tryz.params9]
  refine ArgsOk.imp (args_cons ad_code (args_nil)) ?_
  rintro xs m ⟨c, _, rfl, hc, rfl⟩
  exact ⟨c, rfl, hc⟩

set_option maxRecDepth 100000 in
theorem contract (H : Type) (enc : TypeId × Value → H) (W : World) (base : Nat) (args : Array Value) (ds gs : List (DataW H)) (before : List MemPlace)
    (hval : ∀ (j : Nat) t v, Tryz.f9.params[j]? = some t → args[j]? = some v → Value.okWide Tryz.prog W .any base t v)
    (hW : DataW.Whole enc Tryz.prog Tryz.f9.params.toList Rows.fnQuotientTwiceSpec.vars false W args.toList ds gs before) :
    Calls Tryz.prog 9 args W fun e W' => ∃ v, e = .returned v ∧ Rows.fnQuotientTwiceSpec.post enc Tryz.prog Tryz.f9 false true false false W args v W' := by
  refine law_post bulk_sizeOf laidOut_ok (by rw [Tryz.params9]; decide +kernel) rfl (fun ds h => ?_) (by kernel_rfl) Tryz.underlying4 args_ok (fun xs m h _ => ?_) hval hW
  · rw [Tryz.params9] at h
    match ds, h with
    | [_], _ => rfl
  · obtain ⟨c, rfl, hc⟩ := h
    exact lawFnQuotientTwice c hc

noncomputable def w0 (os : Os) : World := World.holding Tryz.prog os ⟨#[], #[], []⟩
def zeros : Array Value := #[.slice none 0 0]
theorem reads (os : Os) {H : Type} (enc : TypeId × Value → H) : ∃ places, DataW.whole enc Tryz.prog ((w0 os).forCall (fun _ _ => 0) ⟨#[], zeros, []⟩).memory Tryz.f9.params.toList Rows.fnQuotientTwiceSpec.vars false zeros.toList 8 = some ([.nil], [], places) :=
  ⟨[], by kernel_rfl⟩

set_option maxRecDepth 100000 in
theorem lifted (os : Os) (started : os.Started) (H : Type) (enc : TypeId × Value → H) (F : Stop.Interp) :
    ReturnsInHanded {} Tryz.checked os 9 .any ((OpenSpec.ofChange Rows.fnQuotientTwiceSpec).preRow enc Tryz.prog Tryz.f9 Rows.fnQuotientTwiceRow.domain false Rows.fnQuotientTwiceRow.laid) (((OpenSpec.ofChange Rows.fnQuotientTwiceSpec).at F).post enc Tryz.prog Tryz.f9 false true false false) := by
  obtain ⟨places, hx⟩ := reads os enc
  refine returnsInHanded_of_row (C := Tryz.checked) (s := OpenSpec.ofChange Rows.fnQuotientTwiceSpec) own started (by kernel_rfl) Tryz.func9
    (witness_row_at (enc := enc) (C := Tryz.checked) false (w0 os) zeros rfl (by kernel_rfl) (by kernel_rfl) (by kernel_rfl)
      (OpenSpec.preRow_of_cond 8 hx (by kernel_rfl) (fun k hk => by cases hk) (by kernel_rfl) (laidMetH_nil _ _))) ?_
  intro W base args ds gs before hval hW _ _ _ _ _ _
  exact contract H enc W base args ds gs before hval hW

set_option maxHeartbeats 40000000 in
set_option maxRecDepth 100000 in
theorem closed : joinedFacts Tryz.prog 9 Tryz.f9 (OpenSpec.ofChange Rows.fnQuotientTwiceSpec).bare Rows.fnQuotientTwiceRow = true := by
  unfold joinedFacts
  repeat' (with_reducible apply and_mk)
  all_goals (as_aux_lemma => kernel_rfl)
theorem proved : Rows.FnQuotientTwiceSaid :=
  OpenClaim.holds_of_cond 9 Tryz.f9 rfl rfl rfl rfl rfl rfl rfl ⟨rfl, rfl, rfl, rfl, rfl⟩ rfl rfl rfl rfl rfl (by kernel_rfl) Tryz.func9 closed
    (of_decide_eq_true (by kernel_rfl)) (by unfold Func.isWrapper; first | (rw [if_pos (by decide +kernel)]; kernel_rfl) | (rw [if_neg (by decide +kernel)]; exact ⟨rfl, rfl⟩))
    (fun os started H enc _ F => by rw [OpenClaim.pre_eq_preRow]; exact lifted os started H enc F)
end FnQuotientTwice
end Go.Proofs.YtppafngcahgagaaGreat

