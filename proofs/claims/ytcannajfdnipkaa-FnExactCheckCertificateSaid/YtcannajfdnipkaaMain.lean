/- The program's CheckCertificate returns what the reference's returns, for all arguments: the law returns true and leaves its arguments as they were. No condition. -/
import Derived.Test.YtcannajfdnipkaaGl0
import Derived.Test.YtcannajfdnipkaaGl1
import Derived.Test.YtcannajfdnipkaaT2
import Derived.Test.YtcannajfdnipkaaT3
import Derived.Test.YtcannajfdnipkaaT4
import Derived.Lib.LaidTab
namespace Go.Proofs.Ytcannajfdnipkaa
open Go.Gl
open Go.ChangeShapes Go.WideShapes Go.ChangeAt Go.RowKit
attribute [local irreducible] vcCall AWP RetOk Again ordOk

theorem own : ownKnob Try.prog.godebug = none := by kernel_rfl

namespace FnExactCheckCertificate
theorem args_ok : ArgsOk Try.prog Try.f7.params.toList (fun xs _ => ∃ (g : Graph) (l : List Tree) (a : Aut) (c : Cert), xs = [.agg g.cs, lst 3 Tree.cs' l, .agg a.cs, .agg c.cs] ∧ g.mx ∧ Lmx l ∧ a.mx ∧ c.mx) := by
  rw [Try.params7]
  refine ArgsOk.imp (args_cons ad_graph (args_cons ad_exprS (args_cons ad_aut (args_cons ad_cert args_nil)))) ?_
  rintro xs m ⟨g, _, rfl, hg, l, _, rfl, hl, a, _, rfl, ha, c, _, rfl, hc, rfl⟩
  exact ⟨g, l, a, c, rfl, hg, hl, ha, hc⟩

set_option maxRecDepth 100000 in
theorem contract (H : Type) (enc : TypeId × Value → H) (W : World) (base : Nat) (args : Array Value) (ds gs : List (DataW H)) (before : List MemPlace)
    (hval : ∀ (j : Nat) t v, Try.f7.params[j]? = some t → args[j]? = some v → Value.okWide Try.prog W .any base t v)
    (hW : DataW.Whole enc Try.prog Try.f7.params.toList Rows.fnExactCheckCertificateSpec.vars false W args.toList ds gs before) :
    Calls Try.prog 7 args W fun e W' => ∃ v, e = .returned v ∧ Rows.fnExactCheckCertificateSpec.post enc Try.prog Try.f7 false true false false W args v W' := by
  refine law_post bulk_sizeOf (by kernel_rfl) (by rw [Try.params7]; decide +kernel) rfl (fun ds h => ?_) (by kernel_rfl) Try.underlying4 args_ok (fun xs m h _ => ?_) hval hW
  · rw [Try.params7] at h
    match ds, h with
    | [_, _, _, _], _ => rfl
  · obtain ⟨g, l, a, c, rfl, hg, hl, ha, hc⟩ := h
    exact lawCheckCertificate g hg l hl a ha c hc

noncomputable def w0 (os : Os) : World := World.holding Try.prog os ⟨#[], #[], []⟩
def zeros : Array Value := #[.agg #[.slice none 0 0, .slice none 0 0], .slice none 0 0, .agg #[.slice none 0 0, .slice none 0 0, .slice none 0 0], .agg #[.slice none 0 0]]
theorem reads (os : Os) {H : Type} (enc : TypeId × Value → H) : ∃ places, DataW.whole enc Try.prog ((w0 os).forCall (fun _ _ => 0) ⟨#[], zeros, []⟩).memory Try.f7.params.toList Rows.fnExactCheckCertificateSpec.vars false zeros.toList 8 = some ([.agg [.nil, .nil], .nil, .agg [.nil, .nil, .nil], .agg [.nil]], [], places) :=
  ⟨[], by kernel_rfl⟩
theorem laid_met (os : Os) : laidMet Try.prog Rows.fnExactCheckCertificateRow.laid ((w0 os).forCall (fun _ _ => 0) ⟨#[], zeros, []⟩).memory :=
  laidMet_of_run' 8 (by kernel_rfl) (by kernel_rfl)

set_option maxRecDepth 100000 in
theorem lifted (os : Os) (started : os.Started) (H : Type) (enc : TypeId × Value → H) (F : Stop.Interp) :
    ReturnsInHanded {} Try.checked os 7 .any ((OpenSpec.ofChange Rows.fnExactCheckCertificateSpec).preRow enc Try.prog Try.f7 Rows.fnExactCheckCertificateRow.domain false Rows.fnExactCheckCertificateRow.laid) (((OpenSpec.ofChange Rows.fnExactCheckCertificateSpec).at F).post enc Try.prog Try.f7 false true false false) := by
  obtain ⟨places, hx⟩ := reads os enc
  refine returnsInHanded_of_row (C := Try.checked) (s := OpenSpec.ofChange Rows.fnExactCheckCertificateSpec) own started (by kernel_rfl) Try.func7
    (witness_row_at (enc := enc) (C := Try.checked) false (w0 os) zeros rfl (by kernel_rfl) (by kernel_rfl) (by kernel_rfl)
      (OpenSpec.preRow_of_cond 8 hx (by kernel_rfl) (fun k hk => by cases hk) (by kernel_rfl) (laid_met os))) ?_
  intro W base args ds gs before hval hW _ _ _ _ _ _
  exact contract H enc W base args ds gs before hval hW

theorem proved : Rows.FnExactCheckCertificateSaid :=
  OpenClaim.holds_of_cond 7 Try.f7 rfl rfl rfl rfl rfl rfl rfl ⟨rfl, rfl, rfl, rfl, rfl⟩ rfl rfl rfl rfl rfl (by kernel_rfl) Try.func7 (by kernel_rfl)
    (of_decide_eq_true (by kernel_rfl)) (by unfold Func.isWrapper; first | (rw [if_pos (by decide +kernel)]; kernel_rfl) | (rw [if_neg (by decide +kernel)]; exact ⟨rfl, rfl⟩))
    (fun os started H enc _ F => by rw [OpenClaim.pre_eq_preRow]; exact lifted os started H enc F)
end FnExactCheckCertificate
end Go.Proofs.Ytcannajfdnipkaa

