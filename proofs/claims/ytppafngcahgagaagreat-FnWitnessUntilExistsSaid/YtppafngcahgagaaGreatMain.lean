/- Existential untils have witnesses: a witness exists exactly if the state satisfies the existential until. The law FnWitnessUntilExists returns true at every input and leaves its input as it was. No condition. -/
import Derived.Test.YtppafngcahgagaaGreatG0
import Derived.Test.YtppafngcahgagaaGreatG1
import Derived.Test.YtppafngcahgagaaGreatG2
import Derived.Test.YtppafngcahgagaaGreatP0
import Derived.Test.YtppafngcahgagaaGreatP1
import Derived.Test.YtppafngcahgagaaGreatP2
set_option linter.all false
namespace Go.Proofs.YtppafngcahgagaaGreat
open Go.Gl
attribute [local irreducible] z29 AWP z51 z62 z55 RetS z76

theorem un_lim {g : Graph} {l : List Tree} {f h : Tree} (h0 : okB g l f = true) (hh : okB g l h = true) (h1 : okB g l (.mk 7 0 [f, h]) = true) : brL g l (.mk 7 0 [f, h]) = lim false (unH g.nx false (brL g l f) (brL g l h)) g.st.length := by
  rw [brL_sat h1, brL_sat h0, brL_sat hh]
  exact sat_until _ f h 0

set_option maxHeartbeats 6400000 in
theorem lawFnWitnessUntilExists (c : List Int) (hc : CodeOk c) (d : List Int) (hd : CodeOk d) : CallsA Tryz.prog 4 [lst 1 enU c, lst 1 enU d] [] (.bool true) [] := by
  obtain ⟨g, l, f, ⟨hg, hl, hf⟩, cd⟩ := drawBr_ok c hc
  obtain ⟨g2, l2, h, ⟨hg2, hl2, hh⟩, cd2⟩ := drawBr_ok d hd
  have hgm := hg.mx
  have hst := hg.st
  have hlen := hc.len
  have hlen2 := hd.len
  unfold maxLen at hlen hlen2
  have k1 := br_ok g hg l hl f (by omega)
  have k4 := br_ok g hg l hl h (by omega)
  have k2 := brS_ok g hg l hl f (by omega)
  have k3 := wpBools_ok (brL g l f) (brL g l f) (by have := brL_100 (g := g) (l := l) f; unfold maxLen; omega) (by have := brL_100 (g := g) (l := l) f; unfold maxLen; omega)
  rw [decide_eq_true rfl] at k3
  have n7 := br_new g hg l hl (.mk 7 0 [f, h]) (by rw [sz2]; omega)
  rw [arg2, csk f, csk h] at n7
  rw [Tree.arg_eq] at k1 k2 k4 cd cd2
  by_cases h0 : okB g l f = true
  · by_cases hh0 : okB g l h = true
    · have hS := brL_len h0
      have hS2 := brL_len hh0
      have hG := okB_GB h0
      have z7 := brL_100 (g := g) (l := l) (.mk 7 0 [f, h])
      rw [h0] at k1 k2
      rw [hh0] at k4
      have e7 : okB g l (.mk 7 0 [f, h]) = true → _ := brL_len
      have hx := fun hk => un_lim h0 hh0 hk
      generalize brL g l (.mk 7 0 [f, h]) = X7 at *
      generalize okB g l (.mk 7 0 [f, h]) = b7 at *
      generalize brL g l f = A at *
      generalize brL g l h = B at *
      by_cases h7 : b7 = true
      · have e7' := e7 h7
        have hx' := hx h7
        clear e7 hx
        subst h7
        refine z15 z20 Tryz.func4 rfl rfl 130 Tryz.ntmps4 (by simp) ?_
        repeat' ((first | (apply AWP.go ok; rfl) | ((apply z9) <;> intro _) | (apply z10 (cd); rfl; rfl) | (apply z10 (cd2); rfl; rfl) | (apply z10 (k1); rfl; rfl) | (apply z10 (k4); rfl; rfl) | (apply z10 (k2); rfl; rfl) | (apply z10 (k3); rfl; rfl) | (((apply z6 [] [4] [5] (n7); (focus ((repeat' first | exact z86 | apply z46) <;> rfl)); (focus ((repeat' exact z4) <;> fail)))); rfl; rfl; rfl; rfl; rfl; (focus ((repeat' first | exact z13 | apply z11) <;> (refine z22 ?_; ((exact z8 fun _ => rfl))))); ((refine .inr ⟨rfl, ?_⟩; repeat' first | exact True.intro | apply And.intro | exact z102 (fun _ => rfl) _)))) <;> conv => whnf)
        all_goals first | (refine RetS.lay [] [] rfl rfl rfl ?_; refine RetS.done ?_ ?_ <;> (repeat' (first | exact LocLe.refl _ | exact F2.nil))) | skip
        refine z108 (fun i : Nat => ([(5, .ptr 0 none 0), (11, lst 1 enB A), (13, lst 1 enB B), (17, lst 1 enB X7), (19, .int i)], [.cells 2 [g.cs]])) (fun i => i ≤ X7.length) (fun i => X7.length - i) 0 (by omega) (by refine SealW.reach [0] [5] rfl rfl rfl rfl ?_ ?_ <;> (repeat' (first | exact LocLe.refl _ | exact F2.nil | apply F2.cons | apply ObjLe.box | ((apply z36 rfl rfl rfl); (focus ((repeat ((exact z32 (fun _ => rfl) _))); done)); (focus (((simp; done)); done))) | exact True.intro | apply And.intro))) ?_
        intro i hi
        by_cases hil : i < X7.length
        · obtain ⟨p, hp, hpi, cw⟩ := witU_ok g hgm hG A B hS hS2 i (by omega)
          rw [← hx'] at hpi
          have g7 := z81 (S := X7) (i := i) hil
          generalize gB X7 i = z at *
          cases z
          · have hp0 : p.length = 0 := by have : ¬ 0 < p.length := fun hh => by have := hpi.1 hh; cases this
                                          omega
            have ed : decide ((0 : Int) < (p.length : Int)) = false := by rw [decide_eq_false_iff_not]; omega
            rw [ed] at cw
            repeat' ((first | (apply AWP.go ok; rfl) | (refine z18 (i := i) rfl g7 ?_) | (apply And.intro; first | omega | (unfold inI; omega)) | ((apply z9) <;> intro _) | (apply z10 (cw); rfl; rfl)) <;> conv => whnf)
            all_goals first | (exfalso; omega) | skip
            all_goals refine z58 (i + 1) (by omega) (by omega) (by refine SealW.reach [0] [] rfl rfl rfl rfl ?_ ?_ <;> (repeat' (first | exact LocLe.refl _ | exact F2.nil | apply F2.cons | apply ObjLe.box | exact True.intro | apply And.intro)))
          · have hp0 : 0 < p.length := hpi.2 rfl
            have ed : decide ((0 : Int) < (p.length : Int)) = true := by rw [decide_eq_true_iff]; omega
            rw [ed] at cw
            repeat' ((first | (apply AWP.go ok; rfl) | (refine z18 (i := i) rfl g7 ?_) | (apply And.intro; first | omega | (unfold inI; omega)) | ((apply z9) <;> intro _) | (apply z10 (cw); rfl; rfl)) <;> conv => whnf)
            all_goals first | (exfalso; omega) | skip
            all_goals refine z58 (i + 1) (by omega) (by omega) (by refine SealW.reach [0] [] rfl rfl rfl rfl ?_ ?_ <;> (repeat' (first | exact LocLe.refl _ | exact F2.nil | apply F2.cons | apply ObjLe.box | exact True.intro | apply And.intro)))
        · repeat' ((first | (apply AWP.go ok; rfl) | ((apply z9) <;> intro _)) <;> conv => whnf)
          all_goals first | (exfalso; omega) | skip
          all_goals (refine RetS.lay [] [] rfl rfl rfl ?_; refine RetS.done ?_ ?_ <;> (repeat' (first | exact LocLe.refl _ | exact F2.nil)))
      · rw [(Bool.not_eq_true _).mp h7] at n7
        refine z15 z20 Tryz.func4 rfl rfl 130 Tryz.ntmps4 (by simp) ?_
        repeat' ((first | (apply AWP.go ok; rfl) | ((apply z9) <;> intro _) | (apply z10 (cd); rfl; rfl) | (apply z10 (cd2); rfl; rfl) | (apply z10 (k1); rfl; rfl) | (apply z10 (k4); rfl; rfl) | (apply z10 (k2); rfl; rfl) | (apply z10 (k3); rfl; rfl) | (((apply z6 [] [4] [5] (n7); (focus ((repeat' first | exact z86 | apply z46) <;> rfl)); (focus ((repeat' exact z4) <;> fail)))); rfl; rfl; rfl; rfl; rfl; (focus ((repeat' first | exact z13 | apply z11) <;> (refine z22 ?_; ((exact z8 fun _ => rfl))))); ((refine .inr ⟨rfl, ?_⟩; repeat' first | exact True.intro | apply And.intro | exact z102 (fun _ => rfl) _)))) <;> conv => whnf)
        all_goals (refine RetS.lay [] [] rfl rfl rfl ?_; refine RetS.done ?_ ?_ <;> (repeat' (first | exact LocLe.refl _ | exact F2.nil)))
    · rw [h0] at k1 k2
      rw [(Bool.not_eq_true _).mp hh0] at k4
      generalize brL g l (.mk 7 0 [f, h]) = X7 at *
      generalize okB g l (.mk 7 0 [f, h]) = b7 at *
      generalize brL g l f = A at *
      generalize brL g l h = B at *
      refine z15 z20 Tryz.func4 rfl rfl 130 Tryz.ntmps4 (by simp) ?_
      repeat' ((first | (apply AWP.go ok; rfl) | ((apply z9) <;> intro _) | (apply z10 (cd); rfl; rfl) | (apply z10 (cd2); rfl; rfl) | (apply z10 (k1); rfl; rfl) | (apply z10 (k4); rfl; rfl) | (apply z10 (k2); rfl; rfl) | (apply z10 (k3); rfl; rfl) | (((apply z6 [] [4] [5] (n7); (focus ((repeat' first | exact z86 | apply z46) <;> rfl)); (focus ((repeat' exact z4) <;> fail)))); rfl; rfl; rfl; rfl; rfl; (focus ((repeat' first | exact z13 | apply z11) <;> (refine z22 ?_; ((exact z8 fun _ => rfl))))); ((refine .inr ⟨rfl, ?_⟩; repeat' first | exact True.intro | apply And.intro | exact z102 (fun _ => rfl) _)))) <;> conv => whnf)
      all_goals (refine RetS.lay [] [] rfl rfl rfl ?_; refine RetS.done ?_ ?_ <;> (repeat' (first | exact LocLe.refl _ | exact F2.nil)))
  · rw [(Bool.not_eq_true _).mp h0] at k1 k2
    generalize brL g l (.mk 7 0 [f, h]) = X7 at *
    generalize okB g l (.mk 7 0 [f, h]) = b7 at *
    generalize okB g l h = bh at *
    generalize brL g l f = A at *
    generalize brL g l h = B at *
    refine z15 z20 Tryz.func4 rfl rfl 130 Tryz.ntmps4 (by simp) ?_
    repeat' ((first | (apply AWP.go ok; rfl) | ((apply z9) <;> intro _) | (apply z10 (cd); rfl; rfl) | (apply z10 (cd2); rfl; rfl) | (apply z10 (k1); rfl; rfl) | (apply z10 (k4); rfl; rfl) | (apply z10 (k2); rfl; rfl) | (apply z10 (k3); rfl; rfl) | (((apply z6 [] [4] [5] (n7); (focus ((repeat' first | exact z86 | apply z46) <;> rfl)); (focus ((repeat' exact z4) <;> fail)))); rfl; rfl; rfl; rfl; rfl; (focus ((repeat' first | exact z13 | apply z11) <;> (refine z22 ?_; ((exact z8 fun _ => rfl))))); ((refine .inr ⟨rfl, ?_⟩; repeat' first | exact True.intro | apply And.intro | exact z102 (fun _ => rfl) _)))) <;> conv => whnf)
    all_goals (refine RetS.lay [] [] rfl rfl rfl ?_; refine RetS.done ?_ ?_ <;> (repeat' (first | exact LocLe.refl _ | exact F2.nil)))
end Go.Proofs.YtppafngcahgagaaGreat

namespace Go.Proofs.YtppafngcahgagaaGreat
open Go.Gl
open Go.ChangeShapes Go.WideShapes Go.ChangeAt Go.RowKit
attribute [local irreducible] z29 AWP z51 z62 z55
namespace FnWitnessUntilExists
theorem args_ok : ArgsOk Tryz.prog Tryz.f4.params.toList (fun xs _ => ∃ (c : List Int) (d : List Int), xs = [lst 1 enU c, lst 1 enU d] ∧ CodeOk c ∧ CodeOk d) := by
  rw [Tryz.params4]
  refine ArgsOk.imp (args_cons ad_code (args_cons ad_code (args_nil))) ?_
  rintro xs m ⟨c, _, rfl, hc, d, _, rfl, hd, rfl⟩
  exact ⟨c, d, rfl, hc, hd⟩

set_option maxRecDepth 100000 in
theorem contract (H : Type) (enc : TypeId × Value → H) (W : World) (base : Nat) (args : Array Value) (ds gs : List (DataW H)) (before : List MemPlace)
    (hval : ∀ (j : Nat) t v, Tryz.f4.params[j]? = some t → args[j]? = some v → Value.okWide Tryz.prog W .any base t v)
    (hW : DataW.Whole enc Tryz.prog Tryz.f4.params.toList Rows.fnWitnessUntilExistsSpec.vars false W args.toList ds gs before) :
    Calls Tryz.prog 4 args W fun e W' => ∃ v, e = .returned v ∧ Rows.fnWitnessUntilExistsSpec.post enc Tryz.prog Tryz.f4 false true false false W args v W' := by
  refine law_post bulk_sizeOf laidOut_ok (by rw [Tryz.params4]; decide +kernel) rfl (fun ds h => ?_) (by kernel_rfl) Tryz.underlying4 args_ok (fun xs m h _ => ?_) hval hW
  · rw [Tryz.params4] at h
    match ds, h with
    | [_, _], _ => rfl
  · obtain ⟨c, d, rfl, hc, hd⟩ := h
    exact lawFnWitnessUntilExists c hc d hd

noncomputable def w0 (os : Os) : World := World.holding Tryz.prog os ⟨#[], #[], []⟩
def zeros : Array Value := #[.slice none 0 0, .slice none 0 0]
theorem reads (os : Os) {H : Type} (enc : TypeId × Value → H) : ∃ places, DataW.whole enc Tryz.prog ((w0 os).forCall (fun _ _ => 0) ⟨#[], zeros, []⟩).memory Tryz.f4.params.toList Rows.fnWitnessUntilExistsSpec.vars false zeros.toList 8 = some ([.nil, .nil], [], places) :=
  ⟨[], by kernel_rfl⟩

set_option maxRecDepth 100000 in
theorem lifted (os : Os) (started : os.Started) (H : Type) (enc : TypeId × Value → H) (F : Stop.Interp) :
    ReturnsInHanded {} Tryz.checked os 4 .any ((OpenSpec.ofChange Rows.fnWitnessUntilExistsSpec).preRow enc Tryz.prog Tryz.f4 Rows.fnWitnessUntilExistsRow.domain false Rows.fnWitnessUntilExistsRow.laid) (((OpenSpec.ofChange Rows.fnWitnessUntilExistsSpec).at F).post enc Tryz.prog Tryz.f4 false true false false) := by
  obtain ⟨places, hx⟩ := reads os enc
  refine returnsInHanded_of_row (C := Tryz.checked) (s := OpenSpec.ofChange Rows.fnWitnessUntilExistsSpec) own started (by kernel_rfl) Tryz.func4
    (witness_row_at (enc := enc) (C := Tryz.checked) false (w0 os) zeros rfl (by kernel_rfl) (by kernel_rfl) (by kernel_rfl)
      (OpenSpec.preRow_of_cond 8 hx (by kernel_rfl) (fun k hk => by cases hk) (by kernel_rfl) (laidMetH_nil _ _))) ?_
  intro W base args ds gs before hval hW _ _ _ _ _ _
  exact contract H enc W base args ds gs before hval hW

set_option maxHeartbeats 40000000 in
set_option maxRecDepth 100000 in
theorem closed : joinedFacts Tryz.prog 4 Tryz.f4 (OpenSpec.ofChange Rows.fnWitnessUntilExistsSpec).bare Rows.fnWitnessUntilExistsRow = true := by
  unfold joinedFacts
  repeat' (with_reducible apply and_mk)
  all_goals (as_aux_lemma => kernel_rfl)
theorem proved : Rows.FnWitnessUntilExistsSaid :=
  OpenClaim.holds_of_cond 4 Tryz.f4 rfl rfl rfl rfl rfl rfl rfl ⟨rfl, rfl, rfl, rfl, rfl⟩ rfl rfl rfl rfl rfl (by kernel_rfl) Tryz.func4 closed
    (of_decide_eq_true (by kernel_rfl)) (by unfold Func.isWrapper; first | (rw [if_pos (by decide +kernel)]; kernel_rfl) | (rw [if_neg (by decide +kernel)]; exact ⟨rfl, rfl⟩))
    (fun os started H enc _ F => by rw [OpenClaim.pre_eq_preRow]; exact lifted os started H enc F)
end FnWitnessUntilExists
end Go.Proofs.YtppafngcahgagaaGreat

