/- The program's ProductReach returns what the reference's returns, for all arguments: the law returns true and leaves its arguments as they were. No condition. -/
import Derived.Test.YtcmihlbihppflaaGreatGl0
import Derived.Test.YtcmihlbihppflaaGreatGl1
import Derived.Test.YtcmihlbihppflaaGreatT2
import Derived.Test.YtcmihlbihppflaaGreatT3
import Derived.Test.YtcmihlbihppflaaGreatT4
import Derived.Test.YtcmihlbihppflaaGreatT5
set_option linter.all false
namespace Go.Proofs.YtcmihlbihppflaaGreat
open Go.Gl
open Go.ChangeShapes Go.WideShapes Go.ChangeAt Go.RowKit
attribute [local irreducible] vcCall AWP RetOk Again ordOk
namespace FnExactProductReach
theorem args_ok : ArgsOk Tryz.prog Tryz.f3.params.toList (fun xs _ => ∃ (g : Graph) (l : List Tree) (a : Aut), xs = [.agg g.cs, lst 3 Tree.cs' l, .agg a.cs] ∧ g.mx ∧ Lmx l ∧ a.mx) := by
  rw [Tryz.params3]
  refine ArgsOk.imp (args_cons ad_graph (args_cons ad_exprS (args_cons ad_aut (args_nil)))) ?_
  rintro xs m ⟨g, _, rfl, hg, l, _, rfl, hl, a, _, rfl, ha, rfl⟩
  exact ⟨g, l, a, rfl, hg, hl, ha⟩

set_option maxRecDepth 100000 in
theorem contract (H : Type) (enc : TypeId × Value → H) (W : World) (base : Nat) (args : Array Value) (ds gs : List (DataW H)) (before : List MemPlace)
    (hval : ∀ (j : Nat) t v, Tryz.f3.params[j]? = some t → args[j]? = some v → Value.okWide Tryz.prog W .any base t v)
    (hW : DataW.Whole enc Tryz.prog Tryz.f3.params.toList Rows.fnExactProductReachSpec.vars false W args.toList ds gs before) :
    Calls Tryz.prog 3 args W fun e W' => ∃ v, e = .returned v ∧ Rows.fnExactProductReachSpec.post enc Tryz.prog Tryz.f3 false true false false W args v W' := by
  refine law_post bulk_sizeOf laidOut_ok (by rw [Tryz.params3]; decide +kernel) rfl (fun ds h => ?_) (by kernel_rfl) Tryz.underlying4 args_ok (fun xs m h _ => ?_) hval hW
  · rw [Tryz.params3] at h
    match ds, h with
    | [_, _, _], _ => rfl
  · obtain ⟨g, l, a, rfl, hg, hl, ha⟩ := h
    exact lawFnExactProductReach g hg l hl a ha

noncomputable def w0 (os : Os) : World := World.holding Tryz.prog os ⟨#[], #[], []⟩
def zeros : Array Value := #[.agg #[.slice none 0 0, .slice none 0 0], .slice none 0 0, .agg #[.slice none 0 0, .slice none 0 0, .slice none 0 0]]
theorem reads (os : Os) {H : Type} (enc : TypeId × Value → H) : ∃ places, DataW.whole enc Tryz.prog ((w0 os).forCall (fun _ _ => 0) ⟨#[], zeros, []⟩).memory Tryz.f3.params.toList Rows.fnExactProductReachSpec.vars false zeros.toList 8 = some ([.agg [.nil, .nil], .nil, .agg [.nil, .nil, .nil]], [], places) :=
  ⟨[], by kernel_rfl⟩

set_option maxRecDepth 100000 in
theorem lifted (os : Os) (started : os.Started) (H : Type) (enc : TypeId × Value → H) (F : Stop.Interp) :
    ReturnsInHanded {} Tryz.checked os 3 .any ((OpenSpec.ofChange Rows.fnExactProductReachSpec).preRow enc Tryz.prog Tryz.f3 Rows.fnExactProductReachRow.domain false Rows.fnExactProductReachRow.laid) (((OpenSpec.ofChange Rows.fnExactProductReachSpec).at F).post enc Tryz.prog Tryz.f3 false true false false) := by
  obtain ⟨places, hx⟩ := reads os enc
  refine returnsInHanded_of_row (C := Tryz.checked) (s := OpenSpec.ofChange Rows.fnExactProductReachSpec) own started (by kernel_rfl) Tryz.func3
    (witness_row_at (enc := enc) (C := Tryz.checked) false (w0 os) zeros rfl (by kernel_rfl) (by kernel_rfl) (by kernel_rfl)
      (OpenSpec.preRow_of_cond 8 hx (by kernel_rfl) (fun k hk => by cases hk) (by kernel_rfl) (laidMetH_nil _ _))) ?_
  intro W base args ds gs before hval hW _ _ _ _ _ _
  exact contract H enc W base args ds gs before hval hW

set_option maxHeartbeats 40000000 in
set_option maxRecDepth 100000 in
theorem closed : joinedFacts Tryz.prog 3 Tryz.f3 (OpenSpec.ofChange Rows.fnExactProductReachSpec).bare Rows.fnExactProductReachRow = true := by
  unfold joinedFacts
  repeat' (with_reducible apply and_mk)
  all_goals (as_aux_lemma => kernel_rfl)
theorem proved : Rows.FnExactProductReachSaid :=
  OpenClaim.holds_of_cond 3 Tryz.f3 rfl rfl rfl rfl rfl rfl rfl ⟨rfl, rfl, rfl, rfl, rfl⟩ rfl rfl rfl rfl rfl (by kernel_rfl) Tryz.func3 closed
    (of_decide_eq_true (by kernel_rfl)) (by unfold Func.isWrapper; first | (rw [if_pos (by decide +kernel)]; kernel_rfl) | (rw [if_neg (by decide +kernel)]; exact ⟨rfl, rfl⟩))
    (fun os started H enc _ F => by rw [OpenClaim.pre_eq_preRow]; exact lifted os started H enc F)
end FnExactProductReach
end Go.Proofs.YtcmihlbihppflaaGreat

