/- The program's CheckBranching returns what the reference's returns, for all arguments: the law returns true and leaves its arguments as they were. No condition. -/
import Derived.Test.YtcannajfdnipkaaGreatG0
import Derived.Test.YtcannajfdnipkaaGreatG1
import Derived.Test.YtcannajfdnipkaaGreatG2
import Derived.Test.YtcannajfdnipkaaGreatP0
import Derived.Test.YtcannajfdnipkaaGreatP1
import Derived.Test.YtcannajfdnipkaaGreatP2
import Derived.Test.YtcannajfdnipkaaGreatP3
import Derived.Test.YtcannajfdnipkaaGreatP4
import Derived.Test.YtcannajfdnipkaaGreatP8
import Derived.Test.YtcannajfdnipkaaGreatP9
set_option linter.all false
namespace Go.Proofs.YtcannajfdnipkaaGreat
open Go.Gl
attribute [local irreducible] vcCall AWP RetOk Again ordOk

set_option maxHeartbeats 3200000 in
theorem lawFnExactCheckBranching (g : Graph) (hg : g.mx) (l : List Tree) (hl : Lmx l) (f : Tree) (hf : f.mx) : CallsA Tryz.prog 3 [.agg g.cs, lst 3 Tree.cs' l, argAgg Tree.cs' f] [] (.bool true) [] := by
  refine callsA_of tabOk Tryz.func3 rfl rfl 63 Tryz.ntmps3 (by simp) ?_
  repeat' (first | (apply AWP.go ok; rfl; conv => whnf) | (apply ord_mk; kernel_rfl; conv => whnf) | (apply And.intro; (first | omega | (unfold inI; omega) | (dsimp only; omega) | (unfold bitsOk; omega) | ((try dsimp only); simp only [List.length_map, List.length_take, List.length_append, List.length_replicate, List.length_cons, List.length_nil]; omega) | (simp only [btw_iff] at *; first | omega | (unfold inI; omega) | (unfold bitsOk; omega)) | exact stor_map (fun _ => rfl) | exact ⟨rfl, stor_cons rfl stor_nil⟩ | exact ⟨rfl, stor_map (fun _ => rfl) _⟩ | exact ⟨⟨rfl, by omega⟩, stor_map (fun _ => rfl) _⟩); conv => whnf) | (with_reducible apply get_mapN; omega; intro _; conv => whnf) | (with_reducible apply get_mapI; omega; intro _; conv => whnf) | (apply get_mapN; omega; intro _; conv => whnf) | (apply get_fill; omega; conv => whnf) | (apply ex_some; conv => whnf) | (apply get_map; omega; intro _; conv => whnf) | (apply vcG_dec <;> intro _ <;> conv => whnf) | (apply vcG_ndec <;> intro _ <;> conv => whnf) | (apply vcG_not <;> intro _ <;> conv => whnf) | (apply vcG_mk <;> intro _ <;> conv => whnf) | (apply vcIf_dec <;> intro _ <;> conv => whnf) | (apply vcIf_ndec <;> intro _ <;> conv => whnf) | (apply vcIf_not <;> intro _ <;> conv => whnf) | (apply vcIf_mk <;> intro _ <;> conv => whnf) | (apply call_data (szGraphT g hg (1048576) (by omega) (by omega)); rfl; rfl; conv => whnf))
  · exact ret_bool rfl rfl
  rename_i hz0
  obtain ⟨ez0, bz0⟩ := bud_pos hz0
  rw [ez0]
  repeat' (first | (apply AWP.go ok; rfl; conv => whnf) | (apply ord_mk; kernel_rfl; conv => whnf) | (apply And.intro; (first | omega | (unfold inI; omega) | (dsimp only; omega) | (unfold bitsOk; omega) | ((try dsimp only); simp only [List.length_map, List.length_take, List.length_append, List.length_replicate, List.length_cons, List.length_nil]; omega) | (simp only [btw_iff] at *; first | omega | (unfold inI; omega) | (unfold bitsOk; omega)) | exact stor_map (fun _ => rfl) | exact ⟨rfl, stor_cons rfl stor_nil⟩ | exact ⟨rfl, stor_map (fun _ => rfl) _⟩ | exact ⟨⟨rfl, by omega⟩, stor_map (fun _ => rfl) _⟩); conv => whnf) | (with_reducible apply get_mapN; omega; intro _; conv => whnf) | (with_reducible apply get_mapI; omega; intro _; conv => whnf) | (apply get_mapN; omega; intro _; conv => whnf) | (apply get_fill; omega; conv => whnf) | (apply ex_some; conv => whnf) | (apply get_map; omega; intro _; conv => whnf) | (apply vcG_dec <;> intro _ <;> conv => whnf) | (apply vcG_ndec <;> intro _ <;> conv => whnf) | (apply vcG_not <;> intro _ <;> conv => whnf) | (apply vcG_mk <;> intro _ <;> conv => whnf) | (apply vcIf_dec <;> intro _ <;> conv => whnf) | (apply vcIf_ndec <;> intro _ <;> conv => whnf) | (apply vcIf_not <;> intro _ <;> conv => whnf) | (apply vcIf_mk <;> intro _ <;> conv => whnf) | (apply call_data (szExprST l hl (1048576 - (g.s1 + g.s2 : Nat)) (by omega) (by omega)); rfl; rfl; conv => whnf))
  · exact ret_bool rfl rfl
  rename_i hz1
  obtain ⟨ez1, bz1⟩ := bud_pos hz1
  rw [ez1]
  repeat' (first | (apply AWP.go ok; rfl; conv => whnf) | (apply ord_mk; kernel_rfl; conv => whnf) | (apply And.intro; (first | omega | (unfold inI; omega) | (dsimp only; omega) | (unfold bitsOk; omega) | ((try dsimp only); simp only [List.length_map, List.length_take, List.length_append, List.length_replicate, List.length_cons, List.length_nil]; omega) | (simp only [btw_iff] at *; first | omega | (unfold inI; omega) | (unfold bitsOk; omega)) | exact stor_map (fun _ => rfl) | exact ⟨rfl, stor_cons rfl stor_nil⟩ | exact ⟨rfl, stor_map (fun _ => rfl) _⟩ | exact ⟨⟨rfl, by omega⟩, stor_map (fun _ => rfl) _⟩); conv => whnf) | (with_reducible apply get_mapN; omega; intro _; conv => whnf) | (with_reducible apply get_mapI; omega; intro _; conv => whnf) | (apply get_mapN; omega; intro _; conv => whnf) | (apply get_fill; omega; conv => whnf) | (apply ex_some; conv => whnf) | (apply get_map; omega; intro _; conv => whnf) | (apply vcG_dec <;> intro _ <;> conv => whnf) | (apply vcG_ndec <;> intro _ <;> conv => whnf) | (apply vcG_not <;> intro _ <;> conv => whnf) | (apply vcG_mk <;> intro _ <;> conv => whnf) | (apply vcIf_dec <;> intro _ <;> conv => whnf) | (apply vcIf_ndec <;> intro _ <;> conv => whnf) | (apply vcIf_not <;> intro _ <;> conv => whnf) | (apply vcIf_mk <;> intro _ <;> conv => whnf) | (apply call_data (szBrT f hf (1048576 - (g.s1 + g.s2 : Nat) - (tot Tree.sz l : Nat)) (by omega) (by omega)); rfl; rfl; conv => whnf))
  · exact ret_bool rfl rfl
  rename_i hz2
  obtain ⟨ez2, bz2⟩ := bud_pos hz2
  have okg := Graph.ok_of hg (by omega) (by omega)
  have okl := LabOk.of hl (by omega)
  have okf := BrOk.of hf (by omega)
  clear ez0 hz0 bz0 ez1 hz1 bz1 ez2 hz2 bz2
  have s1 := specCheckBr_ok g hg l hl f hf
  have s2 := implCheckBr_ok g hg l hl f hf
  generalize cbZ g l f = q at *
  repeat' (first | (apply AWP.go ok; rfl; conv => whnf) | (apply ord_mk; kernel_rfl; conv => whnf) | (apply And.intro; (first | omega | (unfold inI; omega) | (dsimp only; omega) | (unfold bitsOk; omega) | ((try dsimp only); simp only [List.length_map, List.length_take, List.length_append, List.length_replicate, List.length_cons, List.length_nil]; omega) | (simp only [btw_iff] at *; first | omega | (unfold inI; omega) | (unfold bitsOk; omega)) | exact stor_map (fun _ => rfl) | exact ⟨rfl, stor_cons rfl stor_nil⟩ | exact ⟨rfl, stor_map (fun _ => rfl) _⟩ | exact ⟨⟨rfl, by omega⟩, stor_map (fun _ => rfl) _⟩); conv => whnf) | (with_reducible apply get_mapN; omega; intro _; conv => whnf) | (with_reducible apply get_mapI; omega; intro _; conv => whnf) | (apply get_mapN; omega; intro _; conv => whnf) | (apply get_fill; omega; conv => whnf) | (apply ex_some; conv => whnf) | (apply get_map; omega; intro _; conv => whnf) | (apply vcG_dec <;> intro _ <;> conv => whnf) | (apply vcG_ndec <;> intro _ <;> conv => whnf) | (apply vcG_not <;> intro _ <;> conv => whnf) | (apply vcG_mk <;> intro _ <;> conv => whnf) | (apply vcIf_dec <;> intro _ <;> conv => whnf) | (apply vcIf_ndec <;> intro _ <;> conv => whnf) | (apply vcIf_not <;> intro _ <;> conv => whnf) | (apply vcIf_mk <;> intro _ <;> conv => whnf) | (apply call_data (toGraphS okg); rfl; rfl; conv => whnf) | (apply call_data (toExprSS okl); rfl; rfl; conv => whnf) | (apply call_data (toBrS okf); rfl; rfl; conv => whnf) | (apply call_data (s1); rfl; rfl; conv => whnf) | (apply call_data (s2); rfl; rfl; conv => whnf) | (apply call_data (eqGraphT okg); rfl; rfl; conv => whnf) | (apply call_data (eqExprST okl); rfl; rfl; conv => whnf) | (apply call_data (eqBrT okf); rfl; rfl; conv => whnf))
  all_goals first | kernel_rfl | (exfalso; omega) | (exfalso; simp_all; done) | exact absurd rfl (by assumption) | exact ret_bool rfl rfl | skip
end Go.Proofs.YtcannajfdnipkaaGreat

namespace Go.Proofs.YtcannajfdnipkaaGreat
open Go.Gl
open Go.ChangeShapes Go.WideShapes Go.ChangeAt Go.RowKit
attribute [local irreducible] vcCall AWP RetOk Again ordOk
namespace FnExactCheckBranching
theorem args_ok : ArgsOk Tryz.prog Tryz.f3.params.toList (fun xs _ => ∃ (g : Graph) (l : List Tree) (f : Tree), xs = [.agg g.cs, lst 3 Tree.cs' l, argAgg Tree.cs' f] ∧ g.mx ∧ Lmx l ∧ f.mx) := by
  rw [Tryz.params3]
  refine ArgsOk.imp (args_cons ad_graph (args_cons ad_exprS (args_cons ad_branch (args_nil)))) ?_
  rintro xs m ⟨g, _, rfl, hg, l, _, rfl, hl, f, _, rfl, hf, rfl⟩
  exact ⟨g, l, f, rfl, hg, hl, hf⟩

set_option maxRecDepth 100000 in
theorem contract (H : Type) (enc : TypeId × Value → H) (W : World) (base : Nat) (args : Array Value) (ds gs : List (DataW H)) (before : List MemPlace)
    (hval : ∀ (j : Nat) t v, Tryz.f3.params[j]? = some t → args[j]? = some v → Value.okWide Tryz.prog W .any base t v)
    (hW : DataW.Whole enc Tryz.prog Tryz.f3.params.toList Rows.fnExactCheckBranchingSpec.vars false W args.toList ds gs before) :
    Calls Tryz.prog 3 args W fun e W' => ∃ v, e = .returned v ∧ Rows.fnExactCheckBranchingSpec.post enc Tryz.prog Tryz.f3 false true false false W args v W' := by
  refine law_post bulk_sizeOf laidOut_ok (by rw [Tryz.params3]; decide +kernel) rfl (fun ds h => ?_) (by kernel_rfl) Tryz.underlying4 args_ok (fun xs m h _ => ?_) hval hW
  · rw [Tryz.params3] at h
    match ds, h with
    | [_, _, _], _ => rfl
  · obtain ⟨g, l, f, rfl, hg, hl, hf⟩ := h
    exact lawFnExactCheckBranching g hg l hl f hf

noncomputable def w0 (os : Os) : World := World.holding Tryz.prog os ⟨#[], #[], []⟩
def zeros : Array Value := #[.agg #[.slice none 0 0, .slice none 0 0], .slice none 0 0, .agg #[.int .i64 0, .int .i64 0, .slice none 0 0]]
theorem reads (os : Os) {H : Type} (enc : TypeId × Value → H) : ∃ places, DataW.whole enc Tryz.prog ((w0 os).forCall (fun _ _ => 0) ⟨#[], zeros, []⟩).memory Tryz.f3.params.toList Rows.fnExactCheckBranchingSpec.vars false zeros.toList 8 = some ([.agg [.nil, .nil], .nil, .agg [.lit (.int .i64 0), .lit (.int .i64 0), .nil]], [], places) :=
  ⟨[], by kernel_rfl⟩

set_option maxRecDepth 100000 in
theorem lifted (os : Os) (started : os.Started) (H : Type) (enc : TypeId × Value → H) (F : Stop.Interp) :
    ReturnsInHanded {} Tryz.checked os 3 .any ((OpenSpec.ofChange Rows.fnExactCheckBranchingSpec).preRow enc Tryz.prog Tryz.f3 Rows.fnExactCheckBranchingRow.domain false Rows.fnExactCheckBranchingRow.laid) (((OpenSpec.ofChange Rows.fnExactCheckBranchingSpec).at F).post enc Tryz.prog Tryz.f3 false true false false) := by
  obtain ⟨places, hx⟩ := reads os enc
  refine returnsInHanded_of_row (C := Tryz.checked) (s := OpenSpec.ofChange Rows.fnExactCheckBranchingSpec) own started (by kernel_rfl) Tryz.func3
    (witness_row_at (enc := enc) (C := Tryz.checked) false (w0 os) zeros rfl (by kernel_rfl) (by kernel_rfl) (by kernel_rfl)
      (OpenSpec.preRow_of_cond 8 hx (by kernel_rfl) (fun k hk => by cases hk) (by kernel_rfl) (laidMetH_nil _ _))) ?_
  intro W base args ds gs before hval hW _ _ _ _ _ _
  exact contract H enc W base args ds gs before hval hW

set_option maxHeartbeats 40000000 in
set_option maxRecDepth 100000 in
theorem closed : joinedFacts Tryz.prog 3 Tryz.f3 (OpenSpec.ofChange Rows.fnExactCheckBranchingSpec).bare Rows.fnExactCheckBranchingRow = true := by
  unfold joinedFacts
  repeat' (with_reducible apply and_mk)
  all_goals (as_aux_lemma => kernel_rfl)
theorem proved : Rows.FnExactCheckBranchingSaid :=
  OpenClaim.holds_of_cond 3 Tryz.f3 rfl rfl rfl rfl rfl rfl rfl ⟨rfl, rfl, rfl, rfl, rfl⟩ rfl rfl rfl rfl rfl (by kernel_rfl) Tryz.func3 closed
    (of_decide_eq_true (by kernel_rfl)) (by unfold Func.isWrapper; first | (rw [if_pos (by decide +kernel)]; kernel_rfl) | (rw [if_neg (by decide +kernel)]; exact ⟨rfl, rfl⟩))
    (fun os started H enc _ F => by rw [OpenClaim.pre_eq_preRow]; exact lifted os started H enc F)
end FnExactCheckBranching
end Go.Proofs.YtcannajfdnipkaaGreat

