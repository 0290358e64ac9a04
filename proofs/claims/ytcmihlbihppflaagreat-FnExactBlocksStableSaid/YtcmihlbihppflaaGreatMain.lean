/- The program's BlocksStable returns what the reference's returns, for all arguments: the law returns true and leaves its arguments as they were. No condition. -/
import Derived.Test.YtcmihlbihppflaaGreatG0
import Derived.Test.YtcmihlbihppflaaGreatG1
import Derived.Test.YtcmihlbihppflaaGreatG2
import Derived.Test.YtcmihlbihppflaaGreatP0
import Derived.Test.YtcmihlbihppflaaGreatP1
import Derived.Test.YtcmihlbihppflaaGreatP2
import Derived.Test.YtcmihlbihppflaaGreatP3
import Derived.Test.YtcmihlbihppflaaGreatP6
import Derived.Test.YtcmihlbihppflaaGreatP7
set_option linter.all false
namespace Go.Proofs.YtcmihlbihppflaaGreat
open Go.Gl
attribute [local irreducible] vcCall AWP RetOk Again ordOk

theorem ad_ints : ArgD Tryz.prog 27 ints (fun b => b.length ≤ maxLen) := (argD_list (enc1 := ints) Tryz.underlying27 od_intS (fun _ => rfl)).imp fun l h => ⟨l, rfl, h.1⟩
set_option maxHeartbeats 3200000 in
theorem lawFnExactBlocksStable (g : Graph) (hg : g.mx) (l : List Tree) (hl : Lmx l) (b : List Int) (hb : b.length ≤ maxLen) : CallsA Tryz.prog 9 [.agg g.cs, lst 3 Tree.cs' l, ints b] [] (.bool true) [] := by
  refine callsA_of tabOk Tryz.func9 rfl rfl 61 Tryz.ntmps9 (by simp) ?_
  repeat' (first | (apply AWP.go ok; rfl; conv => whnf) | (apply ord_mk; kernel_rfl; conv => whnf) | (apply And.intro; (first | omega | (unfold inI; omega) | (dsimp only; omega) | (unfold bitsOk; omega) | ((try dsimp only); simp only [List.length_map, List.length_take, List.length_append, List.length_replicate, List.length_cons, List.length_nil]; omega) | (simp only [btw_iff] at *; first | omega | (unfold inI; omega) | (unfold bitsOk; omega)) | exact stor_map (fun _ => rfl) | exact ⟨rfl, stor_cons rfl stor_nil⟩ | exact ⟨rfl, stor_map (fun _ => rfl) _⟩ | exact ⟨⟨rfl, by omega⟩, stor_map (fun _ => rfl) _⟩); conv => whnf) | (with_reducible apply get_mapN; omega; intro _; conv => whnf) | (with_reducible apply get_mapI; omega; intro _; conv => whnf) | (apply get_mapN; omega; intro _; conv => whnf) | (apply get_fill; omega; conv => whnf) | (apply ex_some; conv => whnf) | (apply get_map; omega; intro _; conv => whnf) | (apply vcG_dec <;> intro _ <;> conv => whnf) | (apply vcG_ndec <;> intro _ <;> conv => whnf) | (apply vcG_not <;> intro _ <;> conv => whnf) | (apply vcG_mk <;> intro _ <;> conv => whnf) | (apply vcIf_dec <;> intro _ <;> conv => whnf) | (apply vcIf_ndec <;> intro _ <;> conv => whnf) | (apply vcIf_not <;> intro _ <;> conv => whnf) | (apply vcIf_mk <;> intro _ <;> conv => whnf) | (apply call_data (szGraphT g hg (1048576) (by omega) (by omega)); rfl; rfl; conv => whnf))
  · exact ret_bool rfl rfl
  · exact ret_bool rfl rfl
  rename_i hz0
  obtain ⟨ez0, bz0⟩ := bud_pos hz0
  rw [ez0]
  repeat' (first | (apply AWP.go ok; rfl; conv => whnf) | (apply ord_mk; kernel_rfl; conv => whnf) | (apply And.intro; (first | omega | (unfold inI; omega) | (dsimp only; omega) | (unfold bitsOk; omega) | ((try dsimp only); simp only [List.length_map, List.length_take, List.length_append, List.length_replicate, List.length_cons, List.length_nil]; omega) | (simp only [btw_iff] at *; first | omega | (unfold inI; omega) | (unfold bitsOk; omega)) | exact stor_map (fun _ => rfl) | exact ⟨rfl, stor_cons rfl stor_nil⟩ | exact ⟨rfl, stor_map (fun _ => rfl) _⟩ | exact ⟨⟨rfl, by omega⟩, stor_map (fun _ => rfl) _⟩); conv => whnf) | (with_reducible apply get_mapN; omega; intro _; conv => whnf) | (with_reducible apply get_mapI; omega; intro _; conv => whnf) | (apply get_mapN; omega; intro _; conv => whnf) | (apply get_fill; omega; conv => whnf) | (apply ex_some; conv => whnf) | (apply get_map; omega; intro _; conv => whnf) | (apply vcG_dec <;> intro _ <;> conv => whnf) | (apply vcG_ndec <;> intro _ <;> conv => whnf) | (apply vcG_not <;> intro _ <;> conv => whnf) | (apply vcG_mk <;> intro _ <;> conv => whnf) | (apply vcIf_dec <;> intro _ <;> conv => whnf) | (apply vcIf_ndec <;> intro _ <;> conv => whnf) | (apply vcIf_not <;> intro _ <;> conv => whnf) | (apply vcIf_mk <;> intro _ <;> conv => whnf) | (apply call_data (szExprST l hl (1048576 - (g.s1 + g.s2 : Nat)) (by omega) (by omega)); rfl; rfl; conv => whnf))
  · exact ret_bool rfl rfl
  rename_i hz1
  obtain ⟨ez1, bz1⟩ := bud_pos hz1
  have okg := Graph.ok_of hg (by omega) (by omega)
  have okl := LabOk.of hl (by omega)
  have okb := IntsOk.of hb (by omega)
  clear ez0 hz0 bz0 ez1 hz1 bz1
  have s1 := specBlocksStable_ok g hg l hl b okb.len okg.st
  have s2 := implBlocksStable_ok g hg l hl b okb.len
  generalize stB g l b = q at *
  repeat' (first | (apply AWP.go ok; rfl; conv => whnf) | (apply ord_mk; kernel_rfl; conv => whnf) | (apply And.intro; (first | omega | (unfold inI; omega) | (dsimp only; omega) | (unfold bitsOk; omega) | ((try dsimp only); simp only [List.length_map, List.length_take, List.length_append, List.length_replicate, List.length_cons, List.length_nil]; omega) | (simp only [btw_iff] at *; first | omega | (unfold inI; omega) | (unfold bitsOk; omega)) | exact stor_map (fun _ => rfl) | exact ⟨rfl, stor_cons rfl stor_nil⟩ | exact ⟨rfl, stor_map (fun _ => rfl) _⟩ | exact ⟨⟨rfl, by omega⟩, stor_map (fun _ => rfl) _⟩); conv => whnf) | (with_reducible apply get_mapN; omega; intro _; conv => whnf) | (with_reducible apply get_mapI; omega; intro _; conv => whnf) | (apply get_mapN; omega; intro _; conv => whnf) | (apply get_fill; omega; conv => whnf) | (apply ex_some; conv => whnf) | (apply get_map; omega; intro _; conv => whnf) | (apply vcG_dec <;> intro _ <;> conv => whnf) | (apply vcG_ndec <;> intro _ <;> conv => whnf) | (apply vcG_not <;> intro _ <;> conv => whnf) | (apply vcG_mk <;> intro _ <;> conv => whnf) | (apply vcIf_dec <;> intro _ <;> conv => whnf) | (apply vcIf_ndec <;> intro _ <;> conv => whnf) | (apply vcIf_not <;> intro _ <;> conv => whnf) | (apply vcIf_mk <;> intro _ <;> conv => whnf) | (apply call_data (toGraphS okg); rfl; rfl; conv => whnf) | (apply call_data (toExprSS okl); rfl; rfl; conv => whnf) | (apply call_data (toIntsS okb); rfl; rfl; conv => whnf) | (apply call_data (s1); rfl; rfl; conv => whnf) | (apply call_data (s2); rfl; rfl; conv => whnf) | (apply call_data (eqGraphT okg); rfl; rfl; conv => whnf) | (apply call_data (eqExprST okl); rfl; rfl; conv => whnf) | (apply call_data (eqIntST b okb.mx); rfl; rfl; conv => whnf))
  all_goals first | kernel_rfl | (exfalso; omega) | (exfalso; simp_all; done) | exact absurd rfl (by assumption) | exact ret_bool rfl rfl | skip
end Go.Proofs.YtcmihlbihppflaaGreat

namespace Go.Proofs.YtcmihlbihppflaaGreat
open Go.Gl
open Go.ChangeShapes Go.WideShapes Go.ChangeAt Go.RowKit
attribute [local irreducible] vcCall AWP RetOk Again ordOk
namespace FnExactBlocksStable
theorem args_ok : ArgsOk Tryz.prog Tryz.f9.params.toList (fun xs _ => ∃ (g : Graph) (l : List Tree) (b : List Int), xs = [.agg g.cs, lst 3 Tree.cs' l, ints b] ∧ g.mx ∧ Lmx l ∧ b.length ≤ maxLen) := by
  rw [Tryz.params9]
  refine ArgsOk.imp (args_cons ad_graph (args_cons ad_exprS (args_cons ad_ints (args_nil)))) ?_
  rintro xs m ⟨g, _, rfl, hg, l, _, rfl, hl, b, _, rfl, hb, rfl⟩
  exact ⟨g, l, b, rfl, hg, hl, hb⟩

set_option maxRecDepth 100000 in
theorem contract (H : Type) (enc : TypeId × Value → H) (W : World) (base : Nat) (args : Array Value) (ds gs : List (DataW H)) (before : List MemPlace)
    (hval : ∀ (j : Nat) t v, Tryz.f9.params[j]? = some t → args[j]? = some v → Value.okWide Tryz.prog W .any base t v)
    (hW : DataW.Whole enc Tryz.prog Tryz.f9.params.toList Rows.fnExactBlocksStableSpec.vars false W args.toList ds gs before) :
    Calls Tryz.prog 9 args W fun e W' => ∃ v, e = .returned v ∧ Rows.fnExactBlocksStableSpec.post enc Tryz.prog Tryz.f9 false true false false W args v W' := by
  refine law_post bulk_sizeOf laidOut_ok (by rw [Tryz.params9]; decide +kernel) rfl (fun ds h => ?_) (by kernel_rfl) Tryz.underlying4 args_ok (fun xs m h _ => ?_) hval hW
  · rw [Tryz.params9] at h
    match ds, h with
    | [_, _, _], _ => rfl
  · obtain ⟨g, l, b, rfl, hg, hl, hb⟩ := h
    exact lawFnExactBlocksStable g hg l hl b hb

noncomputable def w0 (os : Os) : World := World.holding Tryz.prog os ⟨#[], #[], []⟩
def zeros : Array Value := #[.agg #[.slice none 0 0, .slice none 0 0], .slice none 0 0, .slice none 0 0]
theorem reads (os : Os) {H : Type} (enc : TypeId × Value → H) : ∃ places, DataW.whole enc Tryz.prog ((w0 os).forCall (fun _ _ => 0) ⟨#[], zeros, []⟩).memory Tryz.f9.params.toList Rows.fnExactBlocksStableSpec.vars false zeros.toList 8 = some ([.agg [.nil, .nil], .nil, .nil], [], places) :=
  ⟨[], by kernel_rfl⟩

set_option maxRecDepth 100000 in
theorem lifted (os : Os) (started : os.Started) (H : Type) (enc : TypeId × Value → H) (F : Stop.Interp) :
    ReturnsInHanded {} Tryz.checked os 9 .any ((OpenSpec.ofChange Rows.fnExactBlocksStableSpec).preRow enc Tryz.prog Tryz.f9 Rows.fnExactBlocksStableRow.domain false Rows.fnExactBlocksStableRow.laid) (((OpenSpec.ofChange Rows.fnExactBlocksStableSpec).at F).post enc Tryz.prog Tryz.f9 false true false false) := by
  obtain ⟨places, hx⟩ := reads os enc
  refine returnsInHanded_of_row (C := Tryz.checked) (s := OpenSpec.ofChange Rows.fnExactBlocksStableSpec) own started (by kernel_rfl) Tryz.func9
    (witness_row_at (enc := enc) (C := Tryz.checked) false (w0 os) zeros rfl (by kernel_rfl) (by kernel_rfl) (by kernel_rfl)
      (OpenSpec.preRow_of_cond 8 hx (by kernel_rfl) (fun k hk => by cases hk) (by kernel_rfl) (laidMetH_nil _ _))) ?_
  intro W base args ds gs before hval hW _ _ _ _ _ _
  exact contract H enc W base args ds gs before hval hW

set_option maxHeartbeats 40000000 in
set_option maxRecDepth 100000 in
theorem closed : joinedFacts Tryz.prog 9 Tryz.f9 (OpenSpec.ofChange Rows.fnExactBlocksStableSpec).bare Rows.fnExactBlocksStableRow = true := by
  unfold joinedFacts
  repeat' (with_reducible apply and_mk)
  all_goals (as_aux_lemma => kernel_rfl)
theorem proved : Rows.FnExactBlocksStableSaid :=
  OpenClaim.holds_of_cond 9 Tryz.f9 rfl rfl rfl rfl rfl rfl rfl ⟨rfl, rfl, rfl, rfl, rfl⟩ rfl rfl rfl rfl rfl (by kernel_rfl) Tryz.func9 closed
    (of_decide_eq_true (by kernel_rfl)) (by unfold Func.isWrapper; first | (rw [if_pos (by decide +kernel)]; kernel_rfl) | (rw [if_neg (by decide +kernel)]; exact ⟨rfl, rfl⟩))
    (fun os started H enc _ F => by rw [OpenClaim.pre_eq_preRow]; exact lifted os started H enc F)
end FnExactBlocksStable
end Go.Proofs.YtcmihlbihppflaaGreat

