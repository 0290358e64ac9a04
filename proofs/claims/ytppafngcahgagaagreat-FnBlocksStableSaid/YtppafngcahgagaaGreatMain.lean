/- Stability is a fixed point: the partition into single states is stable, and a stable partition is unchanged by refinement. The law FnBlocksStable returns true at every input and leaves its input as it was. No condition. -/
import Derived.Test.YtppafngcahgagaaGreatG0
import Derived.Test.YtppafngcahgagaaGreatG1
import Derived.Test.YtppafngcahgagaaGreatG2
import Derived.Test.YtppafngcahgagaaGreatP0
import Derived.Test.YtppafngcahgagaaGreatP1
import Derived.Test.YtppafngcahgagaaGreatP2
import Derived.Test.YtppafngcahgagaaGreatP3
import Derived.Test.YtppafngcahgagaaGreatP4
import Derived.Test.YtppafngcahgagaaGreatP5
set_option linter.all false
namespace Go.Proofs.YtppafngcahgagaaGreat
open Go.Gl
attribute [local irreducible] z34 AWP z50 z62 z56 RetS z79

theorem single_ref {g : Graph} : refL g (z67 g.st.length) = z67 g.st.length := by
  rw [refL_eq]
  unfold refN
  refine (numK_inj fun a b ha hb e => ?_).1
  unfold keyN at e
  have := (List.cons.inj e).1
  rw [z128 ha, z128 hb] at this
  omega
theorem single_stB {g : Graph} {l : List Tree} : stB g l (z67 g.st.length) = glB g l := by
  unfold stB glB
  rw [single_bv, decide_eq_true single_ref, decide_eq_true]
  · cases z100 l <;> cases z130 g <;> rfl
  · intro i k hk hi e
    rw [z87] at hi
    rw [z128 hi, z128 (by omega)] at e
    omega

set_option maxHeartbeats 3200000 in
theorem lawFnBlocksStable (c : List Int) (hc : CodeOk c) : CallsA Tryz.prog 5 [lst 1 enU c] [] (.bool true) [] := by
  obtain ⟨g, l, B, ⟨hg, hl, hB⟩, cd⟩ := drawBS_ok c hc
  have hgm := hg.mx
  have hlm := hl.mx
  have hst := hg.st
  have hlen := hc.len
  unfold maxLen at hlen
  have k1 := z90 g hgm l hlm B (by omega)
  have k2 := specBlocksStable_ok g hgm l hlm B (by omega) (by omega)
  have k3 := z97 g hgm B (by omega)
  have k4 := specBlocksValid_ok g hgm B (by omega) (by omega)
  have k5 := refineBlocks_ok g hgm B (by omega)
  have k6 := implLabelGraph_ok g hgm l hlm
  have k7 := z90 g hgm l hlm (z67 g.st.length) (by rw [z87]; omega)
  have k8 := wpInts_ok B B (by unfold maxLen; omega) (by unfold maxLen; omega)
  rw [decide_eq_true rfl] at k8
  rw [single_stB] at k7
  have hst1 : stB g l B = true → bvB g B = true ∧ refL g B = B := fun h => by
    unfold stB at h
    simp only [Bool.and_eq_true, decide_eq_true_eq] at h
    exact ⟨h.2.1, h.2.2.1⟩
  have hR : ∃ R, R = (if bvB g B then refL g B else []) ∧ R.length ≤ 100 := ⟨_, rfl, by split; rw [z115]; omega; simp⟩
  obtain ⟨R, hR, hRl⟩ := hR
  rw [← hR] at k5
  have hRB : stB g l B = true → R = B := fun h => by rw [hR, if_pos (hst1 h).1]; exact (hst1 h).2
  have hbv : stB g l B = true → bvB g B = true := fun h => (hst1 h).1
  clear hst1 hR
  generalize glB g l = bg at *
  generalize lgL g l = LL at *
  generalize bvB g B = bv at *
  generalize stB g l B = sb at *
  refine z16 z20 Tryz.func5 rfl rfl 83 Tryz.ntmps5 (by simp) ?_
  cases sb
  · cases bv
    all_goals
      repeat' ((first | (apply AWP.go ok; rfl) | (apply z39; kernel_rfl) | ((apply z11) <;> intro _) | (apply z10 (cd); rfl; rfl) | (apply z10 (k1); rfl; rfl) | (apply z10 (k2); rfl; rfl) | (apply z10 (k3); rfl; rfl) | (apply z10 (k4); rfl; rfl)) <;> conv => whnf)
      all_goals first | (refine RetS.lay [] [] rfl rfl rfl ?_; refine RetS.done ?_ ?_ <;> (repeat' (first | exact LocLe.refl _ | exact F2.nil))) | skip
      refine z104 (fun i : Nat => ([(3, .ptr 0 none 0), (4, lst 3 Tree.cs' l), (5, ints B), (6, .bool false), (7, .sref 1 0 i), (8, .int i)], [.cells 2 [g.cs], .cells 1 ((z67 i).map enI)])) (fun i => i ≤ g.st.length) (fun i => g.st.length - i) 0 (by omega) (by refine SealW.reach [0, 1] [] rfl rfl rfl rfl ?_ ?_ <;> (repeat' (first | exact LocLe.refl _ | exact F2.nil | apply F2.cons | apply ObjLe.box | ((refine z25 rfl ?_ ?_); (focus ((repeat' (exact z43)); done))) | exact True.intro | apply And.intro))) ?_
      intro i hi
      have hsl := z87 i
      by_cases hil : i < g.st.length
      · have hss := single_succ i
        have hsl2 := z87 (i + 1)
        repeat' ((first | (apply AWP.go ok; rfl) | (apply And.intro; first | (unfold inI; omega) | ((try dsimp only); simp only [List.length_map, List.length_take, List.length_append, List.length_replicate, List.length_cons, List.length_nil]; omega) | exact ⟨rfl, z24 rfl z29⟩) | ((apply z11) <;> intro _)) <;> conv => whnf)
        all_goals first | (exfalso; omega) | skip
        all_goals refine z48 (i + 1) (by omega) (by omega) (by refine SealW.reach [0, 3] [] rfl rfl rfl rfl ?_ ?_ <;> (repeat' (first | exact LocLe.refl _ | exact F2.nil | apply F2.cons | apply ObjLe.box | ((refine z35 rfl ?_ ?_); (focus ((repeat' (first | exact z12 (fun _ => rfl) | apply z26)); done))) | exact True.intro | apply And.intro)) <;> ((rw [hss]; (repeat' (first | exact LocLe.refl _ | exact F2.nil | apply F2.cons | (refine z81 ?_ ?_; (focus (omega))))))))
      · obtain rfl : i = g.st.length := by omega
        generalize z67 g.st.length = S at *
        repeat' ((first | ((fail_if_success apply stopAt 12); (fail_if_success apply z127 12); apply AWP.go ok; rfl) | (apply And.intro; omega) | ((apply z11) <;> intro _)) <;> conv => whnf)
        all_goals first | (exfalso; omega) | skip
        refine AWP.reach (SealW.reach (env := [(3, .ptr 0 none 0), (4, lst 3 Tree.cs' l), (5, ints B), (6, .bool false), (7, ints S)]) (objs := [.cells 2 [g.cs]]) [0] [1] rfl rfl rfl rfl ?_ ?_) ?_
        · rw [← hsl]; (repeat' (first | exact LocLe.refl _ | ((apply z37 rfl rfl rfl); (focus ((repeat ((exact z33 (fun _ => rfl) _))); done)); (focus (((simp; done)); done))) | exact True.intro | apply And.intro))
        · (repeat' (first | exact LocLe.refl _ | exact F2.nil | apply F2.cons | apply ObjLe.box))
        conv => whnf
        repeat' ((first | (apply AWP.go ok; rfl) | ((apply z11) <;> intro _) | (apply z10 (k5); rfl; rfl) | (apply z10 (k6); rfl; rfl) | (apply z10 (k7); rfl; rfl)) <;> conv => whnf)
        all_goals first | (exfalso; contradiction) | skip
        all_goals (cases bg <;> (refine RetS.lay [] [] rfl rfl rfl ?_; refine RetS.done ?_ ?_ <;> (repeat' (first | exact LocLe.refl _ | exact F2.nil))))
  · have hb := hbv rfl
    have hr := hRB rfl
    subst hb hr
    repeat' ((first | (apply AWP.go ok; rfl) | (apply z39; kernel_rfl) | ((apply z11) <;> intro _) | (apply z10 (cd); rfl; rfl) | (apply z10 (k1); rfl; rfl) | (apply z10 (k2); rfl; rfl) | (apply z10 (k3); rfl; rfl) | (apply z10 (k4); rfl; rfl)) <;> conv => whnf)
    all_goals first | (refine RetS.lay [] [] rfl rfl rfl ?_; refine RetS.done ?_ ?_ <;> (repeat' (first | exact LocLe.refl _ | exact F2.nil))) | skip
    refine z104 (fun i : Nat => ([(3, .ptr 0 none 0), (4, lst 3 Tree.cs' l), (5, ints R), (6, .bool true), (7, .sref 1 0 i), (8, .int i)], [.cells 2 [g.cs], .cells 1 ((z67 i).map enI)])) (fun i => i ≤ g.st.length) (fun i => g.st.length - i) 0 (by omega) (by refine SealW.reach [0, 1] [] rfl rfl rfl rfl ?_ ?_ <;> (repeat' (first | exact LocLe.refl _ | exact F2.nil | apply F2.cons | apply ObjLe.box | ((refine z25 rfl ?_ ?_); (focus ((repeat' (exact z43)); done))) | exact True.intro | apply And.intro))) ?_
    intro i hi
    have hsl := z87 i
    by_cases hil : i < g.st.length
    · have hss := single_succ i
      have hsl2 := z87 (i + 1)
      repeat' ((first | (apply AWP.go ok; rfl) | (apply And.intro; first | (unfold inI; omega) | ((try dsimp only); simp only [List.length_map, List.length_take, List.length_append, List.length_replicate, List.length_cons, List.length_nil]; omega) | exact ⟨rfl, z24 rfl z29⟩) | ((apply z11) <;> intro _)) <;> conv => whnf)
      all_goals first | (exfalso; omega) | skip
      all_goals refine z48 (i + 1) (by omega) (by omega) (by refine SealW.reach [0, 3] [] rfl rfl rfl rfl ?_ ?_ <;> (repeat' (first | exact LocLe.refl _ | exact F2.nil | apply F2.cons | apply ObjLe.box | ((refine z35 rfl ?_ ?_); (focus ((repeat' (first | exact z12 (fun _ => rfl) | apply z26)); done))) | exact True.intro | apply And.intro)) <;> ((rw [hss]; (repeat' (first | exact LocLe.refl _ | exact F2.nil | apply F2.cons | (refine z81 ?_ ?_; (focus (omega))))))))
    · obtain rfl : i = g.st.length := by omega
      generalize z67 g.st.length = S at *
      repeat' ((first | ((fail_if_success apply stopAt 12); (fail_if_success apply z127 12); apply AWP.go ok; rfl) | (apply And.intro; omega) | ((apply z11) <;> intro _)) <;> conv => whnf)
      all_goals first | (exfalso; omega) | skip
      refine AWP.reach (SealW.reach (env := [(3, .ptr 0 none 0), (4, lst 3 Tree.cs' l), (5, ints R), (6, .bool true), (7, ints S)]) (objs := [.cells 2 [g.cs]]) [0] [1] rfl rfl rfl rfl ?_ ?_) ?_
      · rw [← hsl]; (repeat' (first | exact LocLe.refl _ | ((apply z37 rfl rfl rfl); (focus ((repeat ((exact z33 (fun _ => rfl) _))); done)); (focus (((simp; done)); done))) | exact True.intro | apply And.intro))
      · (repeat' (first | exact LocLe.refl _ | exact F2.nil | apply F2.cons | apply ObjLe.box))
      conv => whnf
      repeat' ((first | (apply AWP.go ok; rfl) | ((apply z11) <;> intro _) | (apply z10 (k5); rfl; rfl) | (apply z10 (k6); rfl; rfl) | (apply z10 (k7); rfl; rfl) | (apply z10 (k8); rfl; rfl)) <;> conv => whnf)
      all_goals first | (exfalso; contradiction) | skip
      all_goals (cases bg <;> (refine RetS.lay [] [] rfl rfl rfl ?_; refine RetS.done ?_ ?_ <;> (repeat' (first | exact LocLe.refl _ | exact F2.nil))))
end Go.Proofs.YtppafngcahgagaaGreat

namespace Go.Proofs.YtppafngcahgagaaGreat
open Go.Gl
open Go.ChangeShapes Go.WideShapes Go.ChangeAt Go.RowKit
attribute [local irreducible] z34 AWP z50 z62 z56
namespace FnBlocksStable
theorem args_ok : ArgsOk Tryz.prog Tryz.f5.params.toList (fun xs _ => ∃ (c : List Int), xs = [lst 1 enU c] ∧ CodeOk c) := by
  rw [Tryz.params5]
  refine ArgsOk.imp (args_cons ad_code (args_nil)) ?_
  rintro xs m ⟨c, _, rfl, hc, rfl⟩
  exact ⟨c, rfl, hc⟩

set_option maxRecDepth 100000 in
theorem contract (H : Type) (enc : TypeId × Value → H) (W : World) (base : Nat) (args : Array Value) (ds gs : List (DataW H)) (before : List MemPlace)
    (hval : ∀ (j : Nat) t v, Tryz.f5.params[j]? = some t → args[j]? = some v → Value.okWide Tryz.prog W .any base t v)
    (hW : DataW.Whole enc Tryz.prog Tryz.f5.params.toList Rows.fnBlocksStableSpec.vars false W args.toList ds gs before) :
    Calls Tryz.prog 5 args W fun e W' => ∃ v, e = .returned v ∧ Rows.fnBlocksStableSpec.post enc Tryz.prog Tryz.f5 false true false false W args v W' := by
  refine law_post bulk_sizeOf laidOut_ok (by rw [Tryz.params5]; decide +kernel) rfl (fun ds h => ?_) (by kernel_rfl) Tryz.underlying4 args_ok (fun xs m h _ => ?_) hval hW
  · rw [Tryz.params5] at h
    match ds, h with
    | [_], _ => rfl
  · obtain ⟨c, rfl, hc⟩ := h
    exact lawFnBlocksStable c hc

noncomputable def w0 (os : Os) : World := World.holding Tryz.prog os ⟨#[], #[], []⟩
def zeros : Array Value := #[.slice none 0 0]
theorem reads (os : Os) {H : Type} (enc : TypeId × Value → H) : ∃ places, DataW.whole enc Tryz.prog ((w0 os).forCall (fun _ _ => 0) ⟨#[], zeros, []⟩).memory Tryz.f5.params.toList Rows.fnBlocksStableSpec.vars false zeros.toList 8 = some ([.nil], [], places) :=
  ⟨[], by kernel_rfl⟩

set_option maxRecDepth 100000 in
theorem lifted (os : Os) (started : os.Started) (H : Type) (enc : TypeId × Value → H) (F : Stop.Interp) :
    ReturnsInHanded {} Tryz.checked os 5 .any ((OpenSpec.ofChange Rows.fnBlocksStableSpec).preRow enc Tryz.prog Tryz.f5 Rows.fnBlocksStableRow.domain false Rows.fnBlocksStableRow.laid) (((OpenSpec.ofChange Rows.fnBlocksStableSpec).at F).post enc Tryz.prog Tryz.f5 false true false false) := by
  obtain ⟨places, hx⟩ := reads os enc
  refine returnsInHanded_of_row (C := Tryz.checked) (s := OpenSpec.ofChange Rows.fnBlocksStableSpec) own started (by kernel_rfl) Tryz.func5
    (witness_row_at (enc := enc) (C := Tryz.checked) false (w0 os) zeros rfl (by kernel_rfl) (by kernel_rfl) (by kernel_rfl)
      (OpenSpec.preRow_of_cond 8 hx (by kernel_rfl) (fun k hk => by cases hk) (by kernel_rfl) (laidMetH_nil _ _))) ?_
  intro W base args ds gs before hval hW _ _ _ _ _ _
  exact contract H enc W base args ds gs before hval hW

set_option maxHeartbeats 40000000 in
set_option maxRecDepth 100000 in
theorem closed : joinedFacts Tryz.prog 5 Tryz.f5 (OpenSpec.ofChange Rows.fnBlocksStableSpec).bare Rows.fnBlocksStableRow = true := by
  unfold joinedFacts
  repeat' (with_reducible apply and_mk)
  all_goals (as_aux_lemma => kernel_rfl)
theorem proved : Rows.FnBlocksStableSaid :=
  OpenClaim.holds_of_cond 5 Tryz.f5 rfl rfl rfl rfl rfl rfl rfl ⟨rfl, rfl, rfl, rfl, rfl⟩ rfl rfl rfl rfl rfl (by kernel_rfl) Tryz.func5 closed
    (of_decide_eq_true (by kernel_rfl)) (by unfold Func.isWrapper; first | (rw [if_pos (by decide +kernel)]; kernel_rfl) | (rw [if_neg (by decide +kernel)]; exact ⟨rfl, rfl⟩))
    (fun os started H enc _ F => by rw [OpenClaim.pre_eq_preRow]; exact lifted os started H enc F)
end FnBlocksStable
end Go.Proofs.YtppafngcahgagaaGreat

