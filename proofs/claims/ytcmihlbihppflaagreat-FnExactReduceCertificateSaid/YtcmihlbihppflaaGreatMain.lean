/- The program's ReduceCertificate returns what the reference's returns, for all arguments: the law returns true and leaves its arguments as they were. No condition. -/
import Derived.Test.YtcmihlbihppflaaGreatGl0
import Derived.Test.YtcmihlbihppflaaGreatGl1
import Derived.Test.YtcmihlbihppflaaGreatT2
import Derived.Test.YtcmihlbihppflaaGreatT3
import Derived.Test.YtcmihlbihppflaaGreatT4
import Derived.Test.YtcmihlbihppflaaGreatT5
import Derived.Test.YtcmihlbihppflaaGreatT6
set_option linter.all false
namespace Go.Proofs.YtcmihlbihppflaaGreat
open Go.Gl
open Go.ChangeShapes Go.WideShapes Go.ChangeAt Go.RowKit
attribute [local irreducible] vcCall AWP RetOk Again ordOk
namespace FnExactReduceCertificate
theorem args_ok : ArgsOk Tryz.prog Tryz.f4.params.toList (fun xs _ => ∃ (g : Graph) (l : List Tree) (a : Aut) (c : Cert), xs = [.agg g.cs, lst 3 Tree.cs' l, .agg a.cs, .agg c.cs] ∧ g.mx ∧ Lmx l ∧ a.mx ∧ c.mx) := by
  rw [Tryz.params4]
  refine ArgsOk.imp (args_cons ad_graph (args_cons ad_exprS (args_cons ad_aut (args_cons ad_cert (args_nil))))) ?_
  rintro xs m ⟨g, _, rfl, hg, l, _, rfl, hl, a, _, rfl, ha, c, _, rfl, hc, rfl⟩
  exact ⟨g, l, a, c, rfl, hg, hl, ha, hc⟩

set_option maxRecDepth 100000 in
theorem contract (H : Type) (enc : TypeId × Value → H) (W : World) (base : Nat) (args : Array Value) (ds gs : List (DataW H)) (before : List MemPlace)
    (hval : ∀ (j : Nat) t v, Tryz.f4.params[j]? = some t → args[j]? = some v → Value.okWide Tryz.prog W .any base t v)
    (hW : DataW.Whole enc Tryz.prog Tryz.f4.params.toList Rows.fnExactReduceCertificateSpec.vars false W args.toList ds gs before) :
    Calls Tryz.prog 4 args W fun e W' => ∃ v, e = .returned v ∧ Rows.fnExactReduceCertificateSpec.post enc Tryz.prog Tryz.f4 false true false false W args v W' := by
  refine law_post bulk_sizeOf laidOut_ok (by rw [Tryz.params4]; decide +kernel) rfl (fun ds h => ?_) (by kernel_rfl) Tryz.underlying4 args_ok (fun xs m h _ => ?_) hval hW
  · rw [Tryz.params4] at h
    match ds, h with
    | [_, _, _, _], _ => rfl
  · obtain ⟨g, l, a, c, rfl, hg, hl, ha, hc⟩ := h
    exact lawFnExactReduceCertificate g hg l hl a ha c hc

noncomputable def w0 (os : Os) : World := World.holding Tryz.prog os ⟨#[], #[], []⟩
def zeros : Array Value := #[.agg #[.slice none 0 0, .slice none 0 0], .slice none 0 0, .agg #[.slice none 0 0, .slice none 0 0, .slice none 0 0], .agg #[.slice none 0 0]]
theorem reads (os : Os) {H : Type} (enc : TypeId × Value → H) : ∃ places, DataW.whole enc Tryz.prog ((w0 os).forCall (fun _ _ => 0) ⟨#[], zeros, []⟩).memory Tryz.f4.params.toList Rows.fnExactReduceCertificateSpec.vars false zeros.toList 8 = some ([.agg [.nil, .nil], .nil, .agg [.nil, .nil, .nil], .agg [.nil]], [], places) :=
  ⟨[], by kernel_rfl⟩

set_option maxRecDepth 100000 in
theorem lifted (os : Os) (started : os.Started) (H : Type) (enc : TypeId × Value → H) (F : Stop.Interp) :
    ReturnsInHanded {} Tryz.checked os 4 .any ((OpenSpec.ofChange Rows.fnExactReduceCertificateSpec).preRow enc Tryz.prog Tryz.f4 Rows.fnExactReduceCertificateRow.domain false Rows.fnExactReduceCertificateRow.laid) (((OpenSpec.ofChange Rows.fnExactReduceCertificateSpec).at F).post enc Tryz.prog Tryz.f4 false true false false) := by
  obtain ⟨places, hx⟩ := reads os enc
  refine returnsInHanded_of_row (C := Tryz.checked) (s := OpenSpec.ofChange Rows.fnExactReduceCertificateSpec) own started (by kernel_rfl) Tryz.func4
    (witness_row_at (enc := enc) (C := Tryz.checked) false (w0 os) zeros rfl (by kernel_rfl) (by kernel_rfl) (by kernel_rfl)
      (OpenSpec.preRow_of_cond 8 hx (by kernel_rfl) (fun k hk => by cases hk) (by kernel_rfl) (laidMetH_nil _ _))) ?_
  intro W base args ds gs before hval hW _ _ _ _ _ _
  exact contract H enc W base args ds gs before hval hW

set_option maxHeartbeats 40000000 in
set_option maxRecDepth 100000 in
theorem closed : joinedFacts Tryz.prog 4 Tryz.f4 (OpenSpec.ofChange Rows.fnExactReduceCertificateSpec).bare Rows.fnExactReduceCertificateRow = true := by
  unfold joinedFacts
  repeat' (with_reducible apply and_mk)
  all_goals (as_aux_lemma => kernel_rfl)
theorem proved : Rows.FnExactReduceCertificateSaid :=
  OpenClaim.holds_of_cond 4 Tryz.f4 rfl rfl rfl rfl rfl rfl rfl ⟨rfl, rfl, rfl, rfl, rfl⟩ rfl rfl rfl rfl rfl (by kernel_rfl) Tryz.func4 closed
    (of_decide_eq_true (by kernel_rfl)) (by unfold Func.isWrapper; first | (rw [if_pos (by decide +kernel)]; kernel_rfl) | (rw [if_neg (by decide +kernel)]; exact ⟨rfl, rfl⟩))
    (fun os started H enc _ F => by rw [OpenClaim.pre_eq_preRow]; exact lifted os started H enc F)
end FnExactReduceCertificate
end Go.Proofs.YtcmihlbihppflaaGreat

