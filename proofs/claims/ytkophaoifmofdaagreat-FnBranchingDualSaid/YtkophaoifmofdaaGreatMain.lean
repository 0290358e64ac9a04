/- Path quantifiers are dual. The law FnBranchingDual returns true at every input and leaves its input as it was. No condition. -/
import Derived.Test.YtkophaoifmofdaaGreatG0
import Derived.Test.YtkophaoifmofdaaGreatG1
import Derived.Test.YtkophaoifmofdaaGreatG2
import Derived.Test.YtkophaoifmofdaaGreatP0
import Derived.Test.YtkophaoifmofdaaGreatP1
import Derived.Test.YtkophaoifmofdaaGreatP2
import Derived.Test.YtkophaoifmofdaaGreatP3
import Derived.Test.YtkophaoifmofdaaGreatP8
import Derived.Test.YtkophaoifmofdaaGreatP9
import Derived.Test.YtkophaoifmofdaaGreatP10
import Derived.Test.YtkophaoifmofdaaGreatP11
import Derived.Test.YtkophaoifmofdaaGreatP12
import Derived.Test.YtkophaoifmofdaaGreatP13
set_option linter.all false
namespace Go.Proofs.YtkophaoifmofdaaGreat
open Go.Gl
open Go.ChangeShapes Go.WideShapes Go.ChangeAt Go.RowKit
attribute [local irreducible] z88 AWP z103 z110 z107
namespace FnBranchingDual
theorem args_ok : ArgsOk Tryz.prog Tryz.f4.params.toList (fun xs _ => ∃ (c : List Int), xs = [lst 1 enU c] ∧ CodeOk c) := by
  rw [Tryz.params4]
  refine ArgsOk.imp (args_cons ad_code (args_nil)) ?_
  rintro xs m ⟨c, _, rfl, hc, rfl⟩
  exact ⟨c, rfl, hc⟩

set_option maxRecDepth 100000 in
theorem contract (H : Type) (enc : TypeId × Value → H) (W : World) (base : Nat) (args : Array Value) (ds gs : List (DataW H)) (before : List MemPlace)
    (hval : ∀ (j : Nat) t v, Tryz.f4.params[j]? = some t → args[j]? = some v → Value.okWide Tryz.prog W .any base t v)
    (hW : DataW.Whole enc Tryz.prog Tryz.f4.params.toList Rows.fnBranchingDualSpec.vars false W args.toList ds gs before) :
    Calls Tryz.prog 4 args W fun e W' => ∃ v, e = .returned v ∧ Rows.fnBranchingDualSpec.post enc Tryz.prog Tryz.f4 false true false false W args v W' := by
  refine law_post bulk_sizeOf laidOut_ok (by rw [Tryz.params4]; decide +kernel) rfl (fun ds h => ?_) (by kernel_rfl) Tryz.underlying4 args_ok (fun xs m h _ => ?_) hval hW
  · rw [Tryz.params4] at h
    match ds, h with
    | [_], _ => rfl
  · obtain ⟨c, rfl, hc⟩ := h
    exact lawFnBranchingDual c hc

noncomputable def w0 (os : Os) : World := World.holding Tryz.prog os ⟨#[], #[], []⟩
def zeros : Array Value := #[.slice none 0 0]
theorem reads (os : Os) {H : Type} (enc : TypeId × Value → H) : ∃ places, DataW.whole enc Tryz.prog ((w0 os).forCall (fun _ _ => 0) ⟨#[], zeros, []⟩).memory Tryz.f4.params.toList Rows.fnBranchingDualSpec.vars false zeros.toList 8 = some ([.nil], [], places) :=
  ⟨[], by kernel_rfl⟩

set_option maxRecDepth 100000 in
theorem lifted (os : Os) (started : os.Started) (H : Type) (enc : TypeId × Value → H) (F : Stop.Interp) :
    ReturnsInHanded {} Tryz.checked os 4 .any ((OpenSpec.ofChange Rows.fnBranchingDualSpec).preRow enc Tryz.prog Tryz.f4 Rows.fnBranchingDualRow.domain false Rows.fnBranchingDualRow.laid) (((OpenSpec.ofChange Rows.fnBranchingDualSpec).at F).post enc Tryz.prog Tryz.f4 false true false false) := by
  obtain ⟨places, hx⟩ := reads os enc
  refine returnsInHanded_of_row (C := Tryz.checked) (s := OpenSpec.ofChange Rows.fnBranchingDualSpec) own started (by kernel_rfl) Tryz.func4
    (witness_row_at (enc := enc) (C := Tryz.checked) false (w0 os) zeros rfl (by kernel_rfl) (by kernel_rfl) (by kernel_rfl)
      (OpenSpec.preRow_of_cond 8 hx (by kernel_rfl) (fun k hk => by cases hk) (by kernel_rfl) (laidMetH_nil _ _))) ?_
  intro W base args ds gs before hval hW _ _ _ _ _ _
  exact contract H enc W base args ds gs before hval hW

set_option maxHeartbeats 40000000 in
set_option maxRecDepth 100000 in
theorem closed : joinedFacts Tryz.prog 4 Tryz.f4 (OpenSpec.ofChange Rows.fnBranchingDualSpec).bare Rows.fnBranchingDualRow = true := by
  unfold joinedFacts
  repeat' (with_reducible apply and_mk)
  all_goals (as_aux_lemma => kernel_rfl)
theorem proved : Rows.FnBranchingDualSaid :=
  OpenClaim.holds_of_cond 4 Tryz.f4 rfl rfl rfl rfl rfl rfl rfl ⟨rfl, rfl, rfl, rfl, rfl⟩ rfl rfl rfl rfl rfl (by kernel_rfl) Tryz.func4 closed
    (of_decide_eq_true (by kernel_rfl)) (by unfold Func.isWrapper; first | (rw [if_pos (by decide +kernel)]; kernel_rfl) | (rw [if_neg (by decide +kernel)]; exact ⟨rfl, rfl⟩))
    (fun os started H enc _ F => by rw [OpenClaim.pre_eq_preRow]; exact lifted os started H enc F)
end FnBranchingDual
end Go.Proofs.YtkophaoifmofdaaGreat

