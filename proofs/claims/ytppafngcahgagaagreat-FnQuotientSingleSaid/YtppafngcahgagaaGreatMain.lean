/- Quotients by single states are identities: the quotient by single states is the graph. The law FnQuotientSingle returns true at every input and leaves its input as it was. No condition. -/
import Derived.Test.YtppafngcahgagaaGreatG0
import Derived.Test.YtppafngcahgagaaGreatG1
import Derived.Test.YtppafngcahgagaaGreatG2
import Derived.Test.YtppafngcahgagaaGreatP0
import Derived.Test.YtppafngcahgagaaGreatP1
import Derived.Test.YtppafngcahgagaaGreatP2
import Derived.Test.YtppafngcahgagaaGreatP3
import Derived.Test.YtppafngcahgagaaGreatP4
import Derived.Test.YtppafngcahgagaaGreatP5
set_option linter.all false
namespace Go.Proofs.YtppafngcahgagaaGreat
open Go.Gl
attribute [local irreducible] z34 AWP z50 z62 z56 RetS z79

set_option maxHeartbeats 3200000 in
theorem lawFnQuotientSingle (c : List Int) (hc : CodeOk c) : CallsA Tryz.prog 11 [lst 1 enU c] [] (.bool true) [] := by
  obtain ⟨g, l, ⟨hg, hl⟩, cd⟩ := drawBisimulation_ok c hc
  have hgm := hg.mx
  have hlm := hl.mx
  have hst := hg.st
  have hlen := hc.len
  unfold maxLen at hlen
  have k1 := implBisimulation_ok g hgm l hlm
  have k2 := z120 g hgm l hlm
  have bl := bisR_le g l
  have k3 := wpInts_ok (bisR g l) (bisR g l) (by unfold maxLen; omega) (by unfold maxLen; omega)
  rw [decide_eq_true rfl] at k3
  have hq := quot_ok g hgm hg.el (z67 g.st.length) (by rw [z87]; omega)
  have k4 := specGraphValid_ok g hgm
  have k5 := graphSame_ok g hg
  have hqr : z130 g = true → quoR g (z67 g.st.length) = g := fun h => by
    unfold quoR; rw [if_pos (by rw [single_bv]; exact h)]; exact single_quo ((z82 g).1 h)
  rw [single_bv] at hq
  generalize bisR g l = B at *
  generalize glB g l = bg at *
  generalize hq0 : quoR g (z67 g.st.length) = q at *
  generalize z130 g = gv at *
  have hqg : gv = true → q = g := hqr
  refine z16 z20 Tryz.func11 rfl rfl 74 Tryz.ntmps11 (by simp) ?_
  repeat' ((first | (apply AWP.go ok; rfl) | ((apply z11) <;> intro _) | (apply z10 (cd); rfl; rfl) | (apply z10 (k1); rfl; rfl) | (apply z10 (k2); rfl; rfl)) <;> conv => whnf)
  all_goals first | (refine RetS.lay [] [] rfl rfl rfl ?_; refine RetS.done ?_ ?_ <;> (repeat' (first | exact LocLe.refl _ | exact F2.nil))) | skip
  refine z104 (fun i : Nat => ([(3, .ptr 0 none 0), (5, ints B), (6, .bool bg), (7, ints B), (8, .bool bg), (9, .sref 1 0 i), (10, .int i)], [.cells 2 [g.cs], .cells 1 ((z67 i).map enI)])) (fun i => i ≤ g.st.length) (fun i => g.st.length - i) 0 (by omega) (by refine SealW.reach [0, 1] [] rfl rfl rfl rfl ?_ ?_ <;> (repeat' (first | exact LocLe.refl _ | exact F2.nil | apply F2.cons | apply ObjLe.box | ((refine z25 rfl ?_ ?_); (focus ((repeat' (exact z43)); done))) | exact True.intro | apply And.intro))) ?_
  intro i hi
  have hsl := z87 i
  by_cases hil : i < g.st.length
  · have hss := single_succ i
    have hsl2 := z87 (i + 1)
    repeat' ((first | (apply AWP.go ok; rfl) | (apply And.intro; first | (unfold inI; omega) | ((try dsimp only); simp only [List.length_map, List.length_take, List.length_append, List.length_replicate, List.length_cons, List.length_nil]; omega) | exact ⟨rfl, z24 rfl z29⟩) | ((apply z11) <;> intro _)) <;> conv => whnf)
    all_goals first | (exfalso; omega) | skip
    all_goals refine z48 (i + 1) (by omega) (by omega) (by refine SealW.reach [0, 3] [] rfl rfl rfl rfl ?_ ?_ <;> (repeat' (first | exact LocLe.refl _ | exact F2.nil | apply F2.cons | apply ObjLe.box | ((refine z35 rfl ?_ ?_); (focus ((repeat' (first | exact z12 (fun _ => rfl) | apply z26)); done))) | exact True.intro | apply And.intro)) <;> ((rw [hss]; (repeat' (first | exact LocLe.refl _ | exact F2.nil | apply F2.cons | (refine z81 ?_ ?_; (focus (omega))))))))
  · obtain rfl : i = g.st.length := by omega
    generalize z67 g.st.length = S at *
    repeat' ((first | ((fail_if_success apply stopAt 11); (fail_if_success apply z127 11); apply AWP.go ok; rfl) | (apply And.intro; omega) | ((apply z11) <;> intro _)) <;> conv => whnf)
    all_goals first | (exfalso; omega) | skip
    refine AWP.reach (SealW.reach (env := [(3, .ptr 0 none 0), (5, ints B), (6, .bool bg), (7, ints B), (8, .bool bg), (9, ints S)]) (objs := [.cells 2 [g.cs]]) [0] [1] rfl rfl rfl rfl ?_ ?_) ?_
    · rw [← hsl]; (repeat' (first | exact LocLe.refl _ | ((apply z37 rfl rfl rfl); (focus ((repeat ((exact z33 (fun _ => rfl) _))); done)); (focus (((simp; done)); done))) | exact True.intro | apply And.intro))
    · (repeat' (first | exact LocLe.refl _ | exact F2.nil | apply F2.cons | apply ObjLe.box))
    conv => whnf
    cases gv
    · repeat' ((first | (apply AWP.go ok; rfl) | ((apply z11) <;> intro _) | (apply z10 (hq); rfl; rfl) | (apply z10 (k3); rfl; rfl) | (apply z10 (k4); rfl; rfl)) <;> conv => whnf)
      all_goals first | (exfalso; contradiction) | skip
      all_goals (cases bg <;> (refine RetS.lay [] [] rfl rfl rfl ?_; refine RetS.done ?_ ?_ <;> (repeat' (first | exact LocLe.refl _ | exact F2.nil))))
    · obtain rfl := hqg rfl
      repeat' ((first | (apply AWP.go ok; rfl) | ((apply z11) <;> intro _) | (apply z10 (hq); rfl; rfl) | (apply z10 (k3); rfl; rfl) | (apply z10 (k4); rfl; rfl) | (apply z10 (k5); rfl; rfl)) <;> conv => whnf)
      all_goals first | (exfalso; contradiction) | skip
      all_goals (cases bg <;> (refine RetS.lay [] [] rfl rfl rfl ?_; refine RetS.done ?_ ?_ <;> (repeat' (first | exact LocLe.refl _ | exact F2.nil))))
end Go.Proofs.YtppafngcahgagaaGreat

namespace Go.Proofs.YtppafngcahgagaaGreat
open Go.Gl
open Go.ChangeShapes Go.WideShapes Go.ChangeAt Go.RowKit
attribute [local irreducible] z34 AWP z50 z62 z56
namespace FnQuotientSingle
theorem args_ok : ArgsOk Tryz.prog Tryz.f11.params.toList (fun xs _ => ∃ (c : List Int), xs = [lst 1 enU c] ∧ CodeOk c) := by
  rw [Tryz.params11]
  refine ArgsOk.imp (args_cons ad_code (args_nil)) ?_
  rintro xs m ⟨c, _, rfl, hc, rfl⟩
  exact ⟨c, rfl, hc⟩

set_option maxRecDepth 100000 in
theorem contract (H : Type) (enc : TypeId × Value → H) (W : World) (base : Nat) (args : Array Value) (ds gs : List (DataW H)) (before : List MemPlace)
    (hval : ∀ (j : Nat) t v, Tryz.f11.params[j]? = some t → args[j]? = some v → Value.okWide Tryz.prog W .any base t v)
    (hW : DataW.Whole enc Tryz.prog Tryz.f11.params.toList Rows.fnQuotientSingleSpec.vars false W args.toList ds gs before) :
    Calls Tryz.prog 11 args W fun e W' => ∃ v, e = .returned v ∧ Rows.fnQuotientSingleSpec.post enc Tryz.prog Tryz.f11 false true false false W args v W' := by
  refine law_post bulk_sizeOf laidOut_ok (by rw [Tryz.params11]; decide +kernel) rfl (fun ds h => ?_) (by kernel_rfl) Tryz.underlying4 args_ok (fun xs m h _ => ?_) hval hW
  · rw [Tryz.params11] at h
    match ds, h with
    | [_], _ => rfl
  · obtain ⟨c, rfl, hc⟩ := h
    exact lawFnQuotientSingle c hc

noncomputable def w0 (os : Os) : World := World.holding Tryz.prog os ⟨#[], #[], []⟩
def zeros : Array Value := #[.slice none 0 0]
theorem reads (os : Os) {H : Type} (enc : TypeId × Value → H) : ∃ places, DataW.whole enc Tryz.prog ((w0 os).forCall (fun _ _ => 0) ⟨#[], zeros, []⟩).memory Tryz.f11.params.toList Rows.fnQuotientSingleSpec.vars false zeros.toList 8 = some ([.nil], [], places) :=
  ⟨[], by kernel_rfl⟩

set_option maxRecDepth 100000 in
theorem lifted (os : Os) (started : os.Started) (H : Type) (enc : TypeId × Value → H) (F : Stop.Interp) :
    ReturnsInHanded {} Tryz.checked os 11 .any ((OpenSpec.ofChange Rows.fnQuotientSingleSpec).preRow enc Tryz.prog Tryz.f11 Rows.fnQuotientSingleRow.domain false Rows.fnQuotientSingleRow.laid) (((OpenSpec.ofChange Rows.fnQuotientSingleSpec).at F).post enc Tryz.prog Tryz.f11 false true false false) := by
  obtain ⟨places, hx⟩ := reads os enc
  refine returnsInHanded_of_row (C := Tryz.checked) (s := OpenSpec.ofChange Rows.fnQuotientSingleSpec) own started (by kernel_rfl) Tryz.func11
    (witness_row_at (enc := enc) (C := Tryz.checked) false (w0 os) zeros rfl (by kernel_rfl) (by kernel_rfl) (by kernel_rfl)
      (OpenSpec.preRow_of_cond 8 hx (by kernel_rfl) (fun k hk => by cases hk) (by kernel_rfl) (laidMetH_nil _ _))) ?_
  intro W base args ds gs before hval hW _ _ _ _ _ _
  exact contract H enc W base args ds gs before hval hW

set_option maxHeartbeats 40000000 in
set_option maxRecDepth 100000 in
theorem closed : joinedFacts Tryz.prog 11 Tryz.f11 (OpenSpec.ofChange Rows.fnQuotientSingleSpec).bare Rows.fnQuotientSingleRow = true := by
  unfold joinedFacts
  repeat' (with_reducible apply and_mk)
  all_goals (as_aux_lemma => kernel_rfl)
theorem proved : Rows.FnQuotientSingleSaid :=
  OpenClaim.holds_of_cond 11 Tryz.f11 rfl rfl rfl rfl rfl rfl rfl ⟨rfl, rfl, rfl, rfl, rfl⟩ rfl rfl rfl rfl rfl (by kernel_rfl) Tryz.func11 closed
    (of_decide_eq_true (by kernel_rfl)) (by unfold Func.isWrapper; first | (rw [if_pos (by decide +kernel)]; kernel_rfl) | (rw [if_neg (by decide +kernel)]; exact ⟨rfl, rfl⟩))
    (fun os started H enc _ F => by rw [OpenClaim.pre_eq_preRow]; exact lifted os started H enc F)
end FnQuotientSingle
end Go.Proofs.YtppafngcahgagaaGreat

