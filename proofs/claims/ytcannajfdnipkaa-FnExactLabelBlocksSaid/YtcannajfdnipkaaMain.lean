/- The program's LabelBlocks returns what the reference's returns, for all arguments: the law returns true and leaves its arguments as they were. No condition. -/
import Derived.Test.YtcannajfdnipkaaGl0
import Derived.Test.YtcannajfdnipkaaGl1
import Derived.Test.YtcannajfdnipkaaT2
import Derived.Test.YtcannajfdnipkaaT3
import Derived.Test.YtcannajfdnipkaaT4
import Derived.Test.YtcannajfdnipkaaT5
set_option linter.all false
namespace Go.Proofs.Ytcannajfdnipkaa
open Go.Gl
open Go.ChangeShapes Go.WideShapes Go.ChangeAt Go.RowKit
attribute [local irreducible] vcCall AWP RetOk Again ordOk
namespace FnExactLabelBlocks
theorem args_ok : ArgsOk Try.prog Try.f3.params.toList (fun xs _ => ∃ (g : Graph) (l : List Tree), xs = [.agg g.cs, lst 3 Tree.cs' l] ∧ g.mx ∧ Lmx l) := by
  rw [Try.params3]
  refine ArgsOk.imp (args_cons ad_graph (args_cons ad_exprS args_nil)) ?_
  rintro xs m ⟨g, _, rfl, hg, l, _, rfl, hl, rfl⟩
  exact ⟨g, l, rfl, hg, hl⟩

set_option maxRecDepth 100000 in
theorem contract (H : Type) (enc : TypeId × Value → H) (W : World) (base : Nat) (args : Array Value) (ds gs : List (DataW H)) (before : List MemPlace)
    (hval : ∀ (j : Nat) t v, Try.f3.params[j]? = some t → args[j]? = some v → Value.okWide Try.prog W .any base t v)
    (hW : DataW.Whole enc Try.prog Try.f3.params.toList Rows.fnExactLabelBlocksSpec.vars false W args.toList ds gs before) :
    Calls Try.prog 3 args W fun e W' => ∃ v, e = .returned v ∧ Rows.fnExactLabelBlocksSpec.post enc Try.prog Try.f3 false true false false W args v W' := by
  refine law_post bulk_sizeOf laidOut_ok (by rw [Try.params3]; decide +kernel) rfl (fun ds h => ?_) (by kernel_rfl) Try.underlying4 args_ok (fun xs m h _ => ?_) hval hW
  · rw [Try.params3] at h
    match ds, h with
    | [_, _], _ => rfl
  · obtain ⟨g, l, rfl, hg, hl⟩ := h
    exact lawLabelBlocks g hg l hl

noncomputable def w0 (os : Os) : World := World.holding Try.prog os ⟨#[], #[], []⟩
def zeros : Array Value := #[.agg #[.slice none 0 0, .slice none 0 0], .slice none 0 0]
theorem reads (os : Os) {H : Type} (enc : TypeId × Value → H) : ∃ places, DataW.whole enc Try.prog ((w0 os).forCall (fun _ _ => 0) ⟨#[], zeros, []⟩).memory Try.f3.params.toList Rows.fnExactLabelBlocksSpec.vars false zeros.toList 8 = some ([.agg [.nil, .nil], .nil], [], places) :=
  ⟨[], by kernel_rfl⟩

set_option maxRecDepth 100000 in
theorem lifted (os : Os) (started : os.Started) (H : Type) (enc : TypeId × Value → H) (F : Stop.Interp) :
    ReturnsInHanded {} Try.checked os 3 .any ((OpenSpec.ofChange Rows.fnExactLabelBlocksSpec).preRow enc Try.prog Try.f3 Rows.fnExactLabelBlocksRow.domain false Rows.fnExactLabelBlocksRow.laid) (((OpenSpec.ofChange Rows.fnExactLabelBlocksSpec).at F).post enc Try.prog Try.f3 false true false false) := by
  obtain ⟨places, hx⟩ := reads os enc
  refine returnsInHanded_of_row (C := Try.checked) (s := OpenSpec.ofChange Rows.fnExactLabelBlocksSpec) own started (by kernel_rfl) Try.func3
    (witness_row_at (enc := enc) (C := Try.checked) false (w0 os) zeros rfl (by kernel_rfl) (by kernel_rfl) (by kernel_rfl)
      (OpenSpec.preRow_of_cond 8 hx (by kernel_rfl) (fun k hk => by cases hk) (by kernel_rfl) (laidMetH_nil _ _))) ?_
  intro W base args ds gs before hval hW _ _ _ _ _ _
  exact contract H enc W base args ds gs before hval hW

theorem proved : Rows.FnExactLabelBlocksSaid :=
  OpenClaim.holds_of_cond 3 Try.f3 rfl rfl rfl rfl rfl rfl rfl ⟨rfl, rfl, rfl, rfl, rfl⟩ rfl rfl rfl rfl rfl (by kernel_rfl) Try.func3 (by kernel_rfl)
    (of_decide_eq_true (by kernel_rfl)) (by unfold Func.isWrapper; first | (rw [if_pos (by decide +kernel)]; kernel_rfl) | (rw [if_neg (by decide +kernel)]; exact ⟨rfl, rfl⟩))
    (fun os started H enc _ F => by rw [OpenClaim.pre_eq_preRow]; exact lifted os started H enc F)
end FnExactLabelBlocks
end Go.Proofs.Ytcannajfdnipkaa

