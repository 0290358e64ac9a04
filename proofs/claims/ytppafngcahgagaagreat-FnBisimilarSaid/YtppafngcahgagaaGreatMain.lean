/- Bisimilarity is an equivalence, and bisimilar states satisfy the same atoms. The law FnBisimilar returns true at every input and leaves its input as it was. No condition. -/
import Derived.Test.YtppafngcahgagaaGreatG0
import Derived.Test.YtppafngcahgagaaGreatG1
import Derived.Test.YtppafngcahgagaaGreatG2
import Derived.Test.YtppafngcahgagaaGreatP0
import Derived.Test.YtppafngcahgagaaGreatP1
import Derived.Test.YtppafngcahgagaaGreatP2
import Derived.Test.YtppafngcahgagaaGreatP3
import Derived.Test.YtppafngcahgagaaGreatP4
import Derived.Test.YtppafngcahgagaaGreatP5
import Derived.Test.YtppafngcahgagaaGreatP6
set_option linter.all false
namespace Go.Proofs.YtppafngcahgagaaGreat
open Go.Gl
attribute [local irreducible] z31 AWP z50 z58 z55 RetS z87

theorem bim_symm {g : Graph} {l : List Tree} {i j : Int} : bimB g l i j = bimB g l j i := Bool.eq_iff_iff.2 (by
  rw [z129, z129]
  exact ⟨fun ⟨a, b, c, d⟩ => ⟨a, c, b, d.symm⟩, fun ⟨a, b, c, d⟩ => ⟨a, c, b, d.symm⟩⟩)
theorem bim_cong {g : Graph} {l : List Tree} {i j k : Int} (h : bimB g l i j = true) : bimB g l i k = bimB g l j k := Bool.eq_iff_iff.2 (by
  obtain ⟨a, b, c, d⟩ := z129.1 h
  rw [z129, z129]
  exact ⟨fun ⟨a', b', c', d'⟩ => ⟨a, c, c', d.symm.trans d'⟩, fun ⟨a', b', c', d'⟩ => ⟨a, b, c', d.trans d'⟩⟩)
theorem bim_refl {g : Graph} {l : List Tree} {i j : Int} (h : bimB g l i j = true) : bimB g l i i = true := by
  obtain ⟨a, b, c, d⟩ := z129.1 h
  exact z129.2 ⟨a, b, b, rfl⟩

set_option maxHeartbeats 3200000 in
theorem lawFnBisimilar (c : List Int) (hc : CodeOk c) (d : List Int) (hd : CodeOk d) : CallsA Tryz.prog 7 [lst 1 enU c, lst 1 enU d] [] (.bool true) [] := by
  obtain ⟨g, l, i, j, ⟨hg, hl, hi, hj⟩, cd⟩ := drawBim_ok c hc
  have hgm := hg.mx
  have hlm := hl.mx
  have hst := hg.st
  have hlen := hc.len
  have hlen2 := hd.len
  unfold maxLen at hlen hlen2
  have k1 := z88 g hgm l hlm (by omega) i j hi hj
  have k2 := specBisimilar_ok g hgm l hlm (by omega) i j hi hj
  have k3 := z88 g hgm l hlm (by omega) j i hj hi
  rw [bim_symm] at k3
  by_cases hb : bimB g l i j = true
  · obtain ⟨h1, h2, h3, h4⟩ := z129.1 hb
    obtain ⟨hG, _⟩ := glB_GB h1
    have k4 := z88 g hgm l hlm (by omega) i i hi hi
    rw [bim_refl hb] at k4
    have hlet := bisF_let g l (i := i.toNat) (j := j.toNat) (by omega) (by omega) h4
    unfold lsT at hlet
    have c1 := implLabelGraph_ok g hgm l hlm
    have eL : lgL g l = g.st.map (z39 l) := by unfold lgL; rw [if_pos h1]
    rw [eL, h1] at c1
    have gi : ((g.st.map (z39 l)).map enI)[i.toNat]? = some (enI (z39 l (g.st.getD i.toNat ⟨[], []⟩))) := by rw [List.getElem?_map, List.getElem?_map, List.getElem?_eq_getElem (by omega), z20 (by omega)]; rfl
    have gj : ((g.st.map (z39 l)).map enI)[j.toNat]? = some (enI (z39 l (g.st.getD j.toNat ⟨[], []⟩))) := by rw [List.getElem?_map, List.getElem?_map, List.getElem?_eq_getElem (by omega), z20 (by omega)]; rfl
    rw [← hlet] at gj
    have hLl : (g.st.map (z39 l)).length = g.st.length := by simp
    generalize z39 l (g.st.getD i.toNat ⟨[], []⟩) = z at *
    generalize g.st.map (z39 l) = L at *
    have n1 := hG.1.1
    have q0 := Int.emod_nonneg (d.length : Int) (show (g.st.length : Int) ≠ 0 by omega)
    have q1 := Int.emod_lt_of_pos (d.length : Int) (show (0 : Int) < g.st.length by omega)
    have cB := z88 g hgm l hlm (by omega) i ((d.length : Int) % (g.st.length : Int)) hi (by unfold inI; omega)
    have cB2 := z88 g hgm l hlm (by omega) j ((d.length : Int) % (g.st.length : Int)) hj (by unfold inI; omega)
    rw [← bim_cong hb] at cB2
    generalize bimB g l i ((d.length : Int) % (g.st.length : Int)) = bq at *
    rw [hb] at k1 k2 k3
    cases bq
    all_goals
      refine z18 z23 Tryz.func7 rfl rfl 113 Tryz.ntmps7 (by simp) ?_
      repeat' ((first | (apply AWP.go ok; rfl) | (apply z37; kernel_rfl) | (refine z21 (i := i.toNat) rfl gi ?_) | (refine z21 (i := j.toNat) rfl gj ?_) | (apply And.intro; omega) | ((apply z8) <;> intro _) | (apply z12 (cd); rfl; rfl) | (apply z12 (k1); rfl; rfl) | (apply z12 (k2); rfl; rfl) | (apply z12 (k3); rfl; rfl) | (apply z12 (c1); rfl; rfl) | (apply z12 (k4); rfl; rfl) | (apply z12 (cB); rfl; rfl) | (apply z12 (cB2); rfl; rfl)) <;> conv => whnf)
      all_goals first | (exfalso; omega) | (refine RetS.lay [] [] rfl rfl rfl ?_; refine RetS.done ?_ ?_ <;> (repeat' (first | exact LocLe.refl _ | exact F2.nil)))
  · rw [(Bool.not_eq_true _).mp hb] at k1 k2 k3
    refine z18 z23 Tryz.func7 rfl rfl 113 Tryz.ntmps7 (by simp) ?_
    repeat' ((first | (apply AWP.go ok; rfl) | ((apply z8) <;> intro _) | (apply z12 (cd); rfl; rfl) | (apply z12 (k1); rfl; rfl) | (apply z12 (k2); rfl; rfl) | (apply z12 (k3); rfl; rfl)) <;> conv => whnf)
    all_goals (refine RetS.lay [] [] rfl rfl rfl ?_; refine RetS.done ?_ ?_ <;> (repeat' (first | exact LocLe.refl _ | exact F2.nil)))
end Go.Proofs.YtppafngcahgagaaGreat

namespace Go.Proofs.YtppafngcahgagaaGreat
open Go.Gl
open Go.ChangeShapes Go.WideShapes Go.ChangeAt Go.RowKit
attribute [local irreducible] z31 AWP z50 z58 z55
namespace FnBisimilar
theorem args_ok : ArgsOk Tryz.prog Tryz.f7.params.toList (fun xs _ => ∃ (c : List Int) (d : List Int), xs = [lst 1 enU c, lst 1 enU d] ∧ CodeOk c ∧ CodeOk d) := by
  rw [Tryz.params7]
  refine ArgsOk.imp (args_cons ad_code (args_cons ad_code (args_nil))) ?_
  rintro xs m ⟨c, _, rfl, hc, d, _, rfl, hd, rfl⟩
  exact ⟨c, d, rfl, hc, hd⟩

set_option maxRecDepth 100000 in
theorem contract (H : Type) (enc : TypeId × Value → H) (W : World) (base : Nat) (args : Array Value) (ds gs : List (DataW H)) (before : List MemPlace)
    (hval : ∀ (j : Nat) t v, Tryz.f7.params[j]? = some t → args[j]? = some v → Value.okWide Tryz.prog W .any base t v)
    (hW : DataW.Whole enc Tryz.prog Tryz.f7.params.toList Rows.fnBisimilarSpec.vars false W args.toList ds gs before) :
    Calls Tryz.prog 7 args W fun e W' => ∃ v, e = .returned v ∧ Rows.fnBisimilarSpec.post enc Tryz.prog Tryz.f7 false true false false W args v W' := by
  refine law_post bulk_sizeOf laidOut_ok (by rw [Tryz.params7]; decide +kernel) rfl (fun ds h => ?_) (by kernel_rfl) Tryz.underlying4 args_ok (fun xs m h _ => ?_) hval hW
  · rw [Tryz.params7] at h
    match ds, h with
    | [_, _], _ => rfl
  · obtain ⟨c, d, rfl, hc, hd⟩ := h
    exact lawFnBisimilar c hc d hd

noncomputable def w0 (os : Os) : World := World.holding Tryz.prog os ⟨#[], #[], []⟩
def zeros : Array Value := #[.slice none 0 0, .slice none 0 0]
theorem reads (os : Os) {H : Type} (enc : TypeId × Value → H) : ∃ places, DataW.whole enc Tryz.prog ((w0 os).forCall (fun _ _ => 0) ⟨#[], zeros, []⟩).memory Tryz.f7.params.toList Rows.fnBisimilarSpec.vars false zeros.toList 8 = some ([.nil, .nil], [], places) :=
  ⟨[], by kernel_rfl⟩

set_option maxRecDepth 100000 in
theorem lifted (os : Os) (started : os.Started) (H : Type) (enc : TypeId × Value → H) (F : Stop.Interp) :
    ReturnsInHanded {} Tryz.checked os 7 .any ((OpenSpec.ofChange Rows.fnBisimilarSpec).preRow enc Tryz.prog Tryz.f7 Rows.fnBisimilarRow.domain false Rows.fnBisimilarRow.laid) (((OpenSpec.ofChange Rows.fnBisimilarSpec).at F).post enc Tryz.prog Tryz.f7 false true false false) := by
  obtain ⟨places, hx⟩ := reads os enc
  refine returnsInHanded_of_row (C := Tryz.checked) (s := OpenSpec.ofChange Rows.fnBisimilarSpec) own started (by kernel_rfl) Tryz.func7
    (witness_row_at (enc := enc) (C := Tryz.checked) false (w0 os) zeros rfl (by kernel_rfl) (by kernel_rfl) (by kernel_rfl)
      (OpenSpec.preRow_of_cond 8 hx (by kernel_rfl) (fun k hk => by cases hk) (by kernel_rfl) (laidMetH_nil _ _))) ?_
  intro W base args ds gs before hval hW _ _ _ _ _ _
  exact contract H enc W base args ds gs before hval hW

set_option maxHeartbeats 40000000 in
set_option maxRecDepth 100000 in
theorem closed : joinedFacts Tryz.prog 7 Tryz.f7 (OpenSpec.ofChange Rows.fnBisimilarSpec).bare Rows.fnBisimilarRow = true := by
  unfold joinedFacts
  repeat' (with_reducible apply and_mk)
  all_goals (as_aux_lemma => kernel_rfl)
theorem proved : Rows.FnBisimilarSaid :=
  OpenClaim.holds_of_cond 7 Tryz.f7 rfl rfl rfl rfl rfl rfl rfl ⟨rfl, rfl, rfl, rfl, rfl⟩ rfl rfl rfl rfl rfl (by kernel_rfl) Tryz.func7 closed
    (of_decide_eq_true (by kernel_rfl)) (by unfold Func.isWrapper; first | (rw [if_pos (by decide +kernel)]; kernel_rfl) | (rw [if_neg (by decide +kernel)]; exact ⟨rfl, rfl⟩))
    (fun os started H enc _ F => by rw [OpenClaim.pre_eq_preRow]; exact lifted os started H enc F)
end FnBisimilar
end Go.Proofs.YtppafngcahgagaaGreat

