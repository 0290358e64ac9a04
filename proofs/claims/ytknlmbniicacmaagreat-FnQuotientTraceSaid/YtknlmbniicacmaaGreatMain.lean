/- Traces have images: the image of a trace under a stable partition is a trace of the quotient with the same word. The law FnQuotientTrace returns true at every input and leaves its input as it was. No condition. -/
import Derived.Test.YtknlmbniicacmaaGreatG0
import Derived.Test.YtknlmbniicacmaaGreatG1
import Derived.Test.YtknlmbniicacmaaGreatG2
import Derived.Test.YtknlmbniicacmaaGreatG3
import Derived.Test.YtknlmbniicacmaaGreatP0
import Derived.Test.YtknlmbniicacmaaGreatP1
import Derived.Test.YtknlmbniicacmaaGreatP2
import Derived.Test.YtknlmbniicacmaaGreatP3
import Derived.Test.YtknlmbniicacmaaGreatP4
import Derived.Test.YtknlmbniicacmaaGreatP5
import Derived.Test.YtknlmbniicacmaaGreatP6
set_option linter.all false
namespace Go.Proofs.YtknlmbniicacmaaGreat
open Go.Gl
attribute [local irreducible] z35 AWP z65 z78 z74 RetS z97

theorem let_quo {g : Graph} {l : List Tree} {i : Nat} (hi : i < g.st.length) : lsT (quoG g (bisF g l)) l ((bisF g l).getD i 0).toNat = lsT g l i := by
  have hp := bisF_part g l
  have hlt := hp.lt hi
  rw [lsT_quo hlt]
  exact bisF_let g l (hp.fst_lt hlt) hi (hp.rep hi)
theorem word_quo {g : Graph} {l : List Tree} {t : Trace} (h1 : InN g.st.length t.stem) (h2 : InN g.st.length t.loop) : z110 ((quoG g (bisF g l)).st.map (z63 l)) (z110 (bisF g l) t) = z110 (g.st.map (z63 l)) t := by
  have hp := bisF_part g l
  have e1 : (quoG g (bisF g l)).st.length = (fstB (bisF g l) g.st.length).length := quoS_len _ _ _
  have key : ∀ s : Int, 0 ≤ s ∧ s < g.st.length → pick ((quoG g (bisF g l)).st.map (z63 l)) (pick (bisF g l) s) = pick (g.st.map (z63 l)) s := fun s hs => by
    have hi : s.toNat < g.st.length := by omega
    have hlt := hp.lt hi
    unfold pick
    rw [lsT_map (by rw [e1]; exact hlt), lsT_map hi]
    exact let_quo hi
  unfold z110
  simp only [List.map_map]
  congr 1
  · exact List.map_congr_left fun s hs => key s (h1 s hs)
  · exact List.map_congr_left fun s hs => key s (h2 s hs)
theorem map_getD0 {f : Int → Int} {l : List Int} {i : Nat} (h : i < l.length) : (l.map f).getD i 0 = f (l.getD i 0) := by
  rw [z20 (by simpa using h), List.getElem_map, z20 h]
theorem trB_quo {g : Graph} {l : List Tree} {t : Trace} (h : trB g t = true) : trB (quoG g (bisF g l)) (z110 (bisF g l) t) = true := by
  have h0 := h
  unfold trB at h
  simp only [Bool.and_eq_true, decide_eq_true_eq] at h
  obtain ⟨⟨a1, a2⟩, a3, a4, a5⟩ := h
  have hG := (z90 g).1 (path_graph a3)
  have hp := bisF_part g l
  have hs := bisF_stb g l
  have e1 : (quoG g (bisF g l)).st.length = (fstB (bisF g l) g.st.length).length := quoS_len _ _ _
  have hQ := quoG_GB hG hp
  have step : ∀ s u : Int, 0 ≤ s ∧ s < g.st.length → u ∈ g.nx.getD s.toNat [] → pick (bisF g l) u ∈ (quoG g (bisF g l)).nx.getD (pick (bisF g l) s).toNat [] := fun s u h1 h2 =>
    (quoN_step hG.inG hp hs (show s.toNat < g.st.length by omega)).2 ⟨u, h2, rfl⟩
  have hw : (z110 (bisF g l) t).all = t.all.map (pick (bisF g l)) := by unfold Trace.all z110; simp
  have hal : t.all.length = t.stem.length + t.loop.length := by unfold Trace.all; simp
  have hin : ∀ i, i < t.all.length → 0 ≤ t.all.getD i 0 ∧ t.all.getD i 0 < g.st.length := fun i hi => by
    have := path_step a3 i hi
    rw [z20 hi]; exact this
  have hst : ∀ i, i < t.all.length → stepP g t.all i = true := fun i hi => by
    unfold pathB at a3
    rw [Bool.and_eq_true, Bool.and_eq_true, List.all_eq_true] at a3
    exact a3.2.2 i (List.mem_range.2 hi)
  have hlin := (trB_in h0).2.1
  generalize quoG g (bisF g l) = q at *
  unfold trB
  simp only [Bool.and_eq_true, decide_eq_true_eq]
  refine ⟨⟨by simpa [z110] using a1, by simpa [z110] using a2⟩, ?_, ?_, ?_⟩
  · rw [hw]
    refine pathB_true ((z90 _).2 hQ) (by simp; omega) fun i hi => ?_
    have hi : i < t.all.length := by simpa using hi
    have h1 := hin i hi
    have h2 := hst i hi
    have hlt := hp.lt (show (t.all.getD i 0).toNat < g.st.length by omega)
    have hr := hp.rng (t.all.getD i 0).toNat (by omega)
    unfold stepP at h2 ⊢
    rw [map_getD0 hi]
    simp only [Bool.and_eq_true, Bool.or_eq_true, decide_eq_true_eq] at h2 ⊢
    refine ⟨⟨hr.1, by rw [e1]; unfold pick; omega⟩, ?_⟩
    rcases h2.2 with h3 | h3
    · exact .inl h3
    · by_cases hi0 : i = 0
      · exact .inl hi0
      · rw [map_getD0 (by omega)]
        exact .inr (step _ _ (hin (i - 1) (by omega)) h3)
  · rw [hw, map_getD0 (by omega), a4]
    have hr := hp.rng 0 (by have := hG.1.1; omega)
    have e : mstD (bisF g l) 0 = 0 := rfl
    show (bisF g l).getD (0 : Int).toNat 0 = 0
    rw [Int.toNat_zero]
    omega
  · show (t.loop.map (pick (bisF g l))).getD 0 0 ∈ q.nx.getD ((t.loop.map (pick (bisF g l))).getD ((t.loop.map (pick (bisF g l))).length - 1) 0).toNat []
    rw [List.length_map, map_getD0 (show 0 < t.loop.length by omega), map_getD0 (show t.loop.length - 1 < t.loop.length by omega)]
    refine step _ _ ?_ a5
    have := hlin (t.loop.getD (t.loop.length - 1) 0) (by rw [z20 (by omega)]; exact List.getElem_mem _)
    exact this

set_option maxHeartbeats 6400000 in
theorem lawFnQuotientTrace (c : List Int) (hc : CodeOk c) (c2 : List Int) (hc2 : CodeOk c2) : CallsA Tryz.prog 4 [lst 1 enU c, lst 1 enU c2] [] (.bool true) [] := by
  obtain ⟨g, B0, t, ⟨hg, hB, ht1, ht2⟩, cd⟩ := drawQT_ok c hc
  obtain ⟨g9, l, ⟨_, hl⟩, cd2⟩ := drawBisimulation_ok c2 hc2
  have hgm := hg.mx
  have hlm := hl.mx
  have hst := hg.st
  have hlen := hc.len
  have hlen2 := hc2.len
  unfold maxLen at hlen hlen2
  have k1 := implQuotientTrace_ok g hgm B0 (by omega) t (by omega) (by omega)
  have k2 := specQuotientTrace_ok g hgm B0 (by omega) hst t (by omega) (by omega)
  have hq := qtR_le (g := g) (bl := B0) (t := t)
  have k3 := wpInts_ok (qtR g B0 t).stem (qtR g B0 t).stem (by unfold maxLen; omega) (by unfold maxLen; omega)
  have k4 := wpInts_ok (qtR g B0 t).loop (qtR g B0 t).loop (by unfold maxLen; omega) (by unfold maxLen; omega)
  rw [decide_eq_true rfl] at k3 k4
  have k5 := implBisimulation_ok g hgm l hlm
  by_cases h1 : qtB g B0 t = true
  · have htr : trB g t = true := by unfold qtB at h1; exact (Bool.and_eq_true_iff.1 h1).2
    rw [h1] at k1 k2
    generalize qtR g B0 t = X at *
    by_cases h2 : glB g l = true
    · obtain ⟨hG, hL⟩ := glB_GB h2
      have e : bisR g l = bisF g l := by unfold bisR; rw [if_pos h2]
      rw [e, h2] at k5
      have hp := bisF_part g l
      have hbv := bisF_bv (l := l) hG
      have hQ := quoG_GB hG hp
      have hQd := quoG_d hg hG hp
      have hqu := quot_ok g hgm hg.el (bisF g l) (by rw [bisF_len]; omega)
      have eq : quoR g (bisF g l) = quoG g (bisF g l) := by unfold quoR; rw [if_pos hbv]
      rw [hbv, eq] at hqu
      have k6 := implQuotientTrace_ok g hgm (bisF g l) (by rw [bisF_len]; omega) t (by omega) (by omega)
      have e6 : qtB g (bisF g l) t = true := by unfold qtB; rw [hbv, htr]; rfl
      have e7 : qtR g (bisF g l) t = z110 (bisF g l) t := by unfold qtR; rw [if_pos e6]
      rw [e6, e7] at k6
      have hty := trB_quo (l := l) htr
      obtain ⟨i1, i2, i3⟩ := trB_in htr
      have hwq := word_quo (l := l) i1 i2
      have hgl2 : glB (quoG g (bisF g l)) l = true := by
        unfold glB
        unfold glB at h2
        rw [(z90 _).2 hQ, (Bool.and_eq_true_iff.1 h2).2]; rfl
      have ew : twB (quoG g (bisF g l)) l (z110 (bisF g l) t) = twB g l t := by
        unfold twB; rw [hgl2, h2, hty, htr, hwq]
      have et : twT (quoG g (bisF g l)) l (z110 (bisF g l) t) = twT g l t := by
        unfold twT; rw [ew, hwq]
      have s1 : (z110 (bisF g l) t).stem.length ≤ 80 := by simp [z110]; omega
      have s2 : (z110 (bisF g l) t).loop.length ≤ 80 := by simp [z110]; omega
      have k7 : CallsA Tryz.prog 26 [.agg g.cs, lst 3 Tree.cs' l, .agg t.cs] [] (.tup [.agg (twT g l t).cs, .bool (twB g l t)]) [] := (by refine CallsA.settle (implTraceWord_new g hgm l hlm t (by omega) (by omega)) [] [0, 1] rfl rfl rfl ?_ ?_ <;> (repeat' (first | exact LocLe.refl _ | exact F2.nil | apply F2.cons | ((apply z47 rfl rfl rfl); (focus ((repeat ((exact z36 (fun _ => rfl) _))); done)); (focus (((simp; done)); done))) | apply z75 | apply tup_le)))
      have k8 : CallsA Tryz.prog 26 [.agg (quoG g (bisF g l)).cs, lst 3 Tree.cs' l, .agg (z110 (bisF g l) t).cs] [] (.tup [.agg (twT (quoG g (bisF g l)) l (z110 (bisF g l) t)).cs, .bool (twB (quoG g (bisF g l)) l (z110 (bisF g l) t))]) [] := (by refine CallsA.settle (implTraceWord_new (quoG g (bisF g l)) hQd.mx l hlm (z110 (bisF g l) t) (by omega) (by omega)) [] [0, 1] rfl rfl rfl ?_ ?_ <;> (repeat' (first | exact LocLe.refl _ | exact F2.nil | apply F2.cons | ((apply z47 rfl rfl rfl); (focus ((repeat ((exact z36 (fun _ => rfl) _))); done)); (focus (((simp; done)); done))) | apply z75 | apply tup_le)))
      rw [ew, et] at k8
      have k9 := implTrace_ok (quoG g (bisF g l)) hQd.mx (z110 (bisF g l) t) (by omega) (by omega)
      rw [hty] at k9
      obtain ⟨w1, w2⟩ := twT_le (g := g) (l := l) (t := t)
      have k10 := lassoSame_ok (twT g l t) (by unfold maxLen; omega) (by unfold maxLen; omega)
      generalize twT g l t = W at *
      generalize twB g l t = wb at *
      generalize z110 (bisF g l) t = y at *
      generalize quoG g (bisF g l) = q at *
      generalize bisF g l = B at *
      refine z19 z26 Tryz.func4 rfl rfl 151 Tryz.ntmps4 (by simp) ?_
      repeat' ((first | (apply AWP.go ok; rfl) | ((apply z10) <;> intro _) | (apply z11 (cd); rfl; rfl) | (apply z11 (k1); rfl; rfl) | (apply z11 (k2); rfl; rfl) | (apply z11 (k3); rfl; rfl) | (apply z11 (k4); rfl; rfl) | (apply z11 (cd2); rfl; rfl) | (apply z11 (k5); rfl; rfl) | (apply z11 (hqu); rfl; rfl) | (apply z11 (k6); rfl; rfl) | (apply z11 (k7); rfl; rfl) | (apply z11 (k8); rfl; rfl) | (apply z11 (k9); rfl; rfl) | (apply z11 (k10); rfl; rfl)) <;> conv => whnf)
      all_goals first | (exfalso; contradiction) | (refine RetS.lay [] [] rfl rfl rfl ?_; refine RetS.done ?_ ?_ <;> (repeat' (first | exact LocLe.refl _ | exact F2.nil)))
      all_goals (cases wb <;> fail)
    · rw [(Bool.not_eq_true _).mp h2] at k5
      refine z19 z26 Tryz.func4 rfl rfl 151 Tryz.ntmps4 (by simp) ?_
      repeat' ((first | (apply AWP.go ok; rfl) | ((apply z10) <;> intro _) | (apply z11 (cd); rfl; rfl) | (apply z11 (k1); rfl; rfl) | (apply z11 (k2); rfl; rfl) | (apply z11 (k3); rfl; rfl) | (apply z11 (k4); rfl; rfl) | (apply z11 (cd2); rfl; rfl) | (apply z11 (k5); rfl; rfl)) <;> conv => whnf)
      all_goals (refine RetS.lay [] [] rfl rfl rfl ?_; refine RetS.done ?_ ?_ <;> (repeat' (first | exact LocLe.refl _ | exact F2.nil)))
  · rw [(Bool.not_eq_true _).mp h1] at k1 k2
    generalize qtR g B0 t = X at *
    refine z19 z26 Tryz.func4 rfl rfl 151 Tryz.ntmps4 (by simp) ?_
    repeat' ((first | (apply AWP.go ok; rfl) | ((apply z10) <;> intro _) | (apply z11 (cd); rfl; rfl) | (apply z11 (k1); rfl; rfl) | (apply z11 (k2); rfl; rfl) | (apply z11 (k3); rfl; rfl) | (apply z11 (k4); rfl; rfl)) <;> conv => whnf)
    all_goals (refine RetS.lay [] [] rfl rfl rfl ?_; refine RetS.done ?_ ?_ <;> (repeat' (first | exact LocLe.refl _ | exact F2.nil)))
end Go.Proofs.YtknlmbniicacmaaGreat

namespace Go.Proofs.YtknlmbniicacmaaGreat
open Go.Gl
open Go.ChangeShapes Go.WideShapes Go.ChangeAt Go.RowKit
attribute [local irreducible] z35 AWP z65 z78 z74
namespace FnQuotientTrace
theorem args_ok : ArgsOk Tryz.prog Tryz.f4.params.toList (fun xs _ => ∃ (c : List Int) (d : List Int), xs = [lst 1 enU c, lst 1 enU d] ∧ CodeOk c ∧ CodeOk d) := by
  rw [Tryz.params4]
  refine ArgsOk.imp (args_cons ad_code (args_cons ad_code (args_nil))) ?_
  rintro xs m ⟨c, _, rfl, hc, d, _, rfl, hd, rfl⟩
  exact ⟨c, d, rfl, hc, hd⟩

set_option maxRecDepth 100000 in
theorem contract (H : Type) (enc : TypeId × Value → H) (W : World) (base : Nat) (args : Array Value) (ds gs : List (DataW H)) (before : List MemPlace)
    (hval : ∀ (j : Nat) t v, Tryz.f4.params[j]? = some t → args[j]? = some v → Value.okWide Tryz.prog W .any base t v)
    (hW : DataW.Whole enc Tryz.prog Tryz.f4.params.toList Rows.fnQuotientTraceSpec.vars false W args.toList ds gs before) :
    Calls Tryz.prog 4 args W fun e W' => ∃ v, e = .returned v ∧ Rows.fnQuotientTraceSpec.post enc Tryz.prog Tryz.f4 false true false false W args v W' := by
  refine law_post bulk_sizeOf laidOut_ok (by rw [Tryz.params4]; decide +kernel) rfl (fun ds h => ?_) (by kernel_rfl) Tryz.underlying4 args_ok (fun xs m h _ => ?_) hval hW
  · rw [Tryz.params4] at h
    match ds, h with
    | [_, _], _ => rfl
  · obtain ⟨c, d, rfl, hc, hd⟩ := h
    exact lawFnQuotientTrace c hc d hd

noncomputable def w0 (os : Os) : World := World.holding Tryz.prog os ⟨#[], #[], []⟩
def zeros : Array Value := #[.slice none 0 0, .slice none 0 0]
theorem reads (os : Os) {H : Type} (enc : TypeId × Value → H) : ∃ places, DataW.whole enc Tryz.prog ((w0 os).forCall (fun _ _ => 0) ⟨#[], zeros, []⟩).memory Tryz.f4.params.toList Rows.fnQuotientTraceSpec.vars false zeros.toList 8 = some ([.nil, .nil], [], places) :=
  ⟨[], by kernel_rfl⟩

set_option maxRecDepth 100000 in
theorem lifted (os : Os) (started : os.Started) (H : Type) (enc : TypeId × Value → H) (F : Stop.Interp) :
    ReturnsInHanded {} Tryz.checked os 4 .any ((OpenSpec.ofChange Rows.fnQuotientTraceSpec).preRow enc Tryz.prog Tryz.f4 Rows.fnQuotientTraceRow.domain false Rows.fnQuotientTraceRow.laid) (((OpenSpec.ofChange Rows.fnQuotientTraceSpec).at F).post enc Tryz.prog Tryz.f4 false true false false) := by
  obtain ⟨places, hx⟩ := reads os enc
  refine returnsInHanded_of_row (C := Tryz.checked) (s := OpenSpec.ofChange Rows.fnQuotientTraceSpec) own started (by kernel_rfl) Tryz.func4
    (witness_row_at (enc := enc) (C := Tryz.checked) false (w0 os) zeros rfl (by kernel_rfl) (by kernel_rfl) (by kernel_rfl)
      (OpenSpec.preRow_of_cond 8 hx (by kernel_rfl) (fun k hk => by cases hk) (by kernel_rfl) (laidMetH_nil _ _))) ?_
  intro W base args ds gs before hval hW _ _ _ _ _ _
  exact contract H enc W base args ds gs before hval hW

set_option maxHeartbeats 40000000 in
set_option maxRecDepth 100000 in
theorem closed : joinedFacts Tryz.prog 4 Tryz.f4 (OpenSpec.ofChange Rows.fnQuotientTraceSpec).bare Rows.fnQuotientTraceRow = true := by
  unfold joinedFacts
  repeat' (with_reducible apply and_mk)
  all_goals (as_aux_lemma => kernel_rfl)
theorem proved : Rows.FnQuotientTraceSaid :=
  OpenClaim.holds_of_cond 4 Tryz.f4 rfl rfl rfl rfl rfl rfl rfl ⟨rfl, rfl, rfl, rfl, rfl⟩ rfl rfl rfl rfl rfl (by kernel_rfl) Tryz.func4 closed
    (of_decide_eq_true (by kernel_rfl)) (by unfold Func.isWrapper; first | (rw [if_pos (by decide +kernel)]; kernel_rfl) | (rw [if_neg (by decide +kernel)]; exact ⟨rfl, rfl⟩))
    (fun os started H enc _ F => by rw [OpenClaim.pre_eq_preRow]; exact lifted os started H enc F)
end FnQuotientTrace
end Go.Proofs.YtknlmbniicacmaaGreat

