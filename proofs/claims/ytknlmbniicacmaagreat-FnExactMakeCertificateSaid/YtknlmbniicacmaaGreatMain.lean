/- The program's MakeCertificate returns what the reference's returns, for all arguments: the law returns true and leaves its arguments as they were. No condition. -/
import Derived.Test.YtknlmbniicacmaaGreatG0
import Derived.Test.YtknlmbniicacmaaGreatG1
import Derived.Test.YtknlmbniicacmaaGreatG2
import Derived.Test.YtknlmbniicacmaaGreatG3
import Derived.Test.YtknlmbniicacmaaGreatP0
import Derived.Test.YtknlmbniicacmaaGreatP1
import Derived.Test.YtknlmbniicacmaaGreatP2
import Derived.Test.YtknlmbniicacmaaGreatP3
import Derived.Test.YtknlmbniicacmaaGreatP4
import Derived.Test.YtknlmbniicacmaaGreatP5
import Derived.Test.YtknlmbniicacmaaGreatP6
import Derived.Test.YtknlmbniicacmaaGreatP7
set_option linter.all false
namespace Go.Proofs.YtknlmbniicacmaaGreat
open Go.Gl
attribute [local irreducible] z22 AWP z46 z54 z51

set_option maxHeartbeats 3200000 in
theorem lawFnExactMakeCertificate (g : Graph) (hg : g.mx) (l : List Tree) (hl : Lmx l) (a : Aut) (ha : a.mx) : CallsA Tryz.prog 7 [.agg g.cs, lst 3 Tree.cs' l, .agg a.cs] [] (.bool true) [] := by
  refine z7 z28 Tryz.func7 rfl rfl 142 Tryz.ntmps7 (by simp) ?_
  repeat' (first | (apply AWP.go ok; rfl; conv => whnf) | (apply z2 <;> intro _ <;> conv => whnf) | (apply z4 (szGraphT g hg (1048576) (by omega) (by omega)); rfl; rfl; conv => whnf))
  · exact z32 rfl rfl
  rename_i hz0
  obtain ⟨ez0, bz0⟩ := bud_pos hz0
  rw [ez0]
  repeat' (first | (apply AWP.go ok; rfl; conv => whnf) | (apply z2 <;> intro _ <;> conv => whnf) | (apply z4 (szExprST l hl (1048576 - (g.s1 + g.s2 : Nat)) (by omega) (by omega)); rfl; rfl; conv => whnf))
  · exact z32 rfl rfl
  rename_i hz1
  obtain ⟨ez1, bz1⟩ := bud_pos hz1
  rw [ez1]
  repeat' (first | (apply AWP.go ok; rfl; conv => whnf) | (apply z2 <;> intro _ <;> conv => whnf) | (apply z4 (szAutT a ha (1048576 - (g.s1 + g.s2 : Nat) - (tot Tree.sz l : Nat)) (by omega) (by omega)); rfl; rfl; conv => whnf))
  · exact z32 rfl rfl
  rename_i hz2
  obtain ⟨ez2, bz2⟩ := bud_pos hz2
  have okg := Graph.ok_of hg (by omega) (by omega)
  have okl := LabOk.of hl (by omega)
  have oka := Aut.ok_of ha (by omega) (by omega) (by omega)
  clear ez0 hz0 bz0 ez1 hz1 bz1 ez2 hz2 bz2
  have s1 := specMake_ok g hg l hl a ha
  have s2 := implMakeC_new g hg l hl a ha
  have hb := mkR_le g l a
  generalize mkOk g l a = q at *
  generalize Cert.mk (mkR g l a) = r at *
  have f0 := eqCertT (c := r) (by unfold Cert.mx maxLen; omega)
  have m0 := markCertT (c := r) ⟨by unfold Cert.mx maxLen; omega, by omega⟩ 1 (by omega) (by omega)
  have h0 := heldCert_ok r.ranks.length 1 (by omega) (by omega) (by omega)
  have mlg := Graph.ml_le okg
  have mll := lml_le okl
  have mla := Aut.ml_le oka
  have mg := markGraphT okg (1) (by omega) (by omega)
  have ml := markExprST okl (1 + g.ml) (by omega) (by omega)
  have ma := markAutT oka (1 + g.ml + (lml l)) (by omega) (by omega)
  repeat' (first | (apply z5; kernel_rfl; conv => whnf) | (apply z4 (toGraphS okg); rfl; rfl; conv => whnf) | (apply z4 (toExprSS okl); rfl; rfl; conv => whnf) | (apply z4 (toAutS oka); rfl; rfl; conv => whnf) | (apply z4 (s1); rfl; rfl; conv => whnf))
  all_goals skip
  repeat' (first | ((fail_if_success apply z69 13); (fail_if_success apply z57 13); apply AWP.go ok; rfl; conv => whnf) | (apply z21 [] [] [3, 4] (toGraphN okg); rfl; (focus ((repeat' (exact z11)) <;> (fail))); rfl; rfl; rfl; rfl; rfl; (focus ((repeat' (first | exact z27 | apply z26)) <;> ((refine z39 ?_; ((exact z0 (fun _ => rfl))))))); (exact .inl rfl); conv => whnf))
  repeat' (first | ((fail_if_success apply z69 14); (fail_if_success apply z57 14); apply AWP.go ok; rfl; conv => whnf) | (apply z21 [] [] [6] (toExprSN okl); rfl; (focus ((repeat' (exact z11)) <;> (fail))); rfl; rfl; rfl; rfl; rfl; (focus ((repeat' (first | exact z27 | apply z26)) <;> ((refine z39 ?_; ((exact z0 (fun _ => rfl))))))); (exact .inl rfl); conv => whnf))
  repeat' (first | ((fail_if_success apply z69 15); (fail_if_success apply z57 15); apply AWP.go ok; rfl; conv => whnf) | (apply z21 [] [] [7, 8, 9] (toAutN oka); rfl; (focus ((repeat' (exact z11)) <;> (fail))); rfl; rfl; rfl; rfl; rfl; (focus ((repeat' (first | exact z27 | apply z26)) <;> ((refine z39 ?_; ((exact z0 (fun _ => rfl))))))); (exact .inl rfl); conv => whnf))
  repeat' (first | ((fail_if_success apply z69 16); (fail_if_success apply z57 16); apply AWP.go ok; rfl; conv => whnf) | (apply z21 [] [3, 4, 6, 7, 8, 9] [11] (s2); (focus ((repeat' (first | exact z89 | apply z72)) <;> (first | exact bor_graph rfl rfl rfl rfl rfl rfl | exact bor_exprS rfl rfl rfl | exact bor_aut rfl rfl rfl rfl rfl rfl rfl rfl rfl))); (focus ((repeat' (exact z11)) <;> (fail))); rfl; rfl; rfl; rfl; rfl; (focus ((repeat' (first | exact z27 | apply z26)) <;> ((refine z39 ?_; ((exact z0 (fun _ => rfl))))))); ((refine .inr ⟨rfl, ?_⟩; repeat' (first | exact True.intro | apply And.intro | exact z50 (fun _ => rfl) _))); conv => whnf))
  repeat' (first | ((fail_if_success apply z69 18); (fail_if_success apply z57 18); apply AWP.go ok; rfl; conv => whnf) | (apply z8 <;> intro _ <;> conv => whnf) | (apply z21 [] [11] [] (f0); (focus ((repeat' (first | exact z89 | apply z72)) <;> (first | exact bor_cert rfl rfl rfl | rfl))); (focus ((repeat' (exact z11)) <;> (fail))); rfl; rfl; rfl; rfl; rfl; (focus ((repeat' (exact z27)) <;> (fail))); ((refine .inr ⟨rfl, ?_⟩; repeat' (exact True.intro))); conv => whnf))
  all_goals first | (exfalso; simp_all; done) | skip
  repeat' (first | ((fail_if_success apply z69 20); (fail_if_success apply z57 20); apply AWP.go ok; rfl; conv => whnf) | (apply z4 (toGraphS okg); rfl; rfl; conv => whnf) | (apply z21 [] [3, 4] [] (eqGraphT okg); (focus ((repeat' (first | exact z89 | apply z72)) <;> (first | exact bor_graph rfl rfl rfl rfl rfl rfl | rfl))); (focus ((repeat' (exact z11)) <;> (fail))); rfl; rfl; rfl; rfl; rfl; (focus ((repeat' (exact z27)) <;> (fail))); ((refine .inr ⟨rfl, ?_⟩; repeat' (first | exact True.intro | apply And.intro))); conv => whnf))
  all_goals first | kernel_rfl | skip
  repeat' (first | ((fail_if_success apply z69 22); (fail_if_success apply z57 22); apply AWP.go ok; rfl; conv => whnf) | (apply z4 (toExprSS okl); rfl; rfl; conv => whnf) | (apply z21 [] [6] [] (eqExprST okl); (focus ((repeat' (first | exact z89 | apply z72)) <;> (first | exact bor_exprS rfl rfl rfl | rfl))); (focus ((repeat' (exact z11)) <;> (fail))); rfl; rfl; rfl; rfl; rfl; (focus ((repeat' (exact z27)) <;> (fail))); ((refine .inr ⟨rfl, ?_⟩; repeat' (exact True.intro))); conv => whnf))
  all_goals skip
  repeat' (first | ((fail_if_success apply z69 24); (fail_if_success apply z57 24); apply AWP.go ok; rfl; conv => whnf) | (apply z4 (toAutS oka); rfl; rfl; conv => whnf) | (apply z21 [] [7, 8, 9] [] (eqAutT oka); (focus ((repeat' (first | exact z89 | apply z72)) <;> (first | exact bor_aut rfl rfl rfl rfl rfl rfl rfl rfl rfl | rfl))); (focus ((repeat' (exact z11)) <;> (fail))); rfl; rfl; rfl; rfl; rfl; (focus ((repeat' (exact z27)) <;> (fail))); ((refine .inr ⟨rfl, ?_⟩; repeat' (first | exact True.intro | apply And.intro))); conv => whnf))
  all_goals first | kernel_rfl | skip
  repeat' (((fail_if_success apply z69 25); (fail_if_success apply z57 25); apply AWP.go ok; rfl; conv => whnf))
  repeat' (first | ((fail_if_success apply z69 26); (fail_if_success apply z57 26); apply AWP.go ok; rfl; conv => whnf) | (apply z21 [3, 4] [] [] (mg); rfl; (focus ((repeat' (first | exact z11 | apply z29)) <;> ((refine z47 rfl ?_; ((exact z0 (fun _ => rfl))))))); rfl; rfl; rfl; rfl; rfl; (focus ((repeat' (first | exact z27 | apply z26)) <;> ((refine z39 ?_; (exact z1 rfl))))); (exact .inl rfl); conv => whnf))
  repeat' (first | ((fail_if_success apply z69 27); (fail_if_success apply z57 27); apply AWP.go ok; rfl; conv => whnf) | (apply z21 [6] [] [] (ml); rfl; (focus ((repeat' (first | exact z11 | apply z29)) <;> ((refine z47 rfl ?_; ((exact z0 (fun _ => rfl))))))); rfl; rfl; rfl; rfl; rfl; (focus ((repeat' (first | exact z27 | apply z26)) <;> ((refine z39 ?_; (exact z1 rfl))))); (exact .inl rfl); conv => whnf))
  repeat' (first | ((fail_if_success apply z69 28); (fail_if_success apply z57 28); apply AWP.go ok; rfl; conv => whnf) | (apply z21 [7, 8, 9] [] [] (ma); rfl; (focus ((repeat' (first | exact z11 | apply z29)) <;> ((refine z47 rfl ?_; ((exact z0 (fun _ => rfl))))))); rfl; rfl; rfl; rfl; rfl; (focus ((repeat' (first | exact z27 | apply z26)) <;> ((refine z39 ?_; (first | exact z1 rfl | exact z0 (fun _ => rfl)))))); (exact .inl rfl); conv => whnf))
  repeat' (first | ((fail_if_success apply z69 30); (fail_if_success apply z57 30); apply AWP.go ok; rfl; conv => whnf) | (apply z8 <;> intro _ <;> conv => whnf) | (apply z21 [] [11] [] (f0); (focus ((repeat' (first | exact z89 | apply z72)) <;> (first | exact bor_cert rfl rfl rfl | rfl))); (focus ((repeat' (exact z11)) <;> (fail))); rfl; rfl; rfl; rfl; rfl; (focus ((repeat' (exact z27)) <;> (fail))); ((refine .inr ⟨rfl, ?_⟩; repeat' (exact True.intro))); conv => whnf))
  all_goals first | (exfalso; simp_all; done) | skip
  repeat' (((fail_if_success apply z69 31); (fail_if_success apply z57 31); apply AWP.go ok; rfl; conv => whnf))
  repeat' (first | ((fail_if_success apply z69 32); (fail_if_success apply z57 32); apply AWP.go ok; rfl; conv => whnf) | (apply z21 [11] [] [] (m0); rfl; (focus ((repeat' (first | exact z11 | apply z29)) <;> ((refine z47 rfl ?_; ((exact z0 (fun _ => rfl))))))); rfl; rfl; rfl; rfl; rfl; (focus ((repeat' (first | exact z27 | apply z26)) <;> ((refine z39 ?_; ((exact z0 (fun _ => rfl))))))); (exact .inl rfl); conv => whnf))
  repeat' (((fail_if_success apply z69 33); (fail_if_success apply z57 33); apply AWP.go ok; rfl; conv => whnf))
  repeat' (first | ((fail_if_success apply z69 34); (fail_if_success apply z57 34); apply AWP.go ok; rfl; conv => whnf) | (apply z8 <;> intro _ <;> conv => whnf) | (apply z21 [] [11] [] (h0); (focus ((repeat' (first | exact z89 | apply z72)) <;> (first | exact bor_certM rfl rfl rfl (marks_len _ _) | rfl))); (focus ((repeat' (exact z11)) <;> (fail))); rfl; rfl; rfl; rfl; rfl; (focus ((repeat' (exact z27)) <;> (fail))); ((refine .inr ⟨rfl, ?_⟩; repeat' (exact True.intro))); conv => whnf))
  repeat' (fail)
  all_goals first | exact absurd rfl (by assumption) | skip
  repeat' (fail)
  all_goals skip
  repeat' (first | ((fail_if_success apply z69 39); (fail_if_success apply z57 39); apply AWP.go ok; rfl; conv => whnf) | (apply z5; kernel_rfl; conv => whnf) | (apply z4 (toGraphS okg); rfl; rfl; conv => whnf) | (apply z4 (toExprSS okl); rfl; rfl; conv => whnf) | (apply z4 (toAutS oka); rfl; rfl; conv => whnf) | (apply z21 [] [] [13] (s2); rfl; (focus ((repeat' (exact z11)) <;> (fail))); rfl; rfl; rfl; rfl; rfl; (focus ((repeat' (first | exact z27 | apply z26)) <;> ((refine z39 ?_; ((exact z0 (fun _ => rfl))))))); (exact .inl rfl); conv => whnf))
  all_goals skip
  repeat' (first | ((fail_if_success apply z69 41); (fail_if_success apply z57 41); apply AWP.go ok; rfl; conv => whnf) | (apply z8 <;> intro _ <;> conv => whnf) | (apply z21 [] [13] [] (f0); (focus ((repeat' (first | exact z89 | apply z72)) <;> (first | exact bor_cert rfl rfl rfl | rfl))); (focus ((repeat' (exact z11)) <;> (fail))); rfl; rfl; rfl; rfl; rfl; (focus ((repeat' (exact z27)) <;> (fail))); ((refine .inr ⟨rfl, ?_⟩; repeat' (exact True.intro))); conv => whnf))
  all_goals first | (exfalso; simp_all; done) | skip
  repeat' (((fail_if_success apply z69 42); (fail_if_success apply z57 42); apply AWP.go ok; rfl; conv => whnf))
  repeat' (first | ((fail_if_success apply z69 43); (fail_if_success apply z57 43); apply AWP.go ok; rfl; conv => whnf) | (apply z8 <;> intro _ <;> conv => whnf) | (apply z21 [] [11] [] (h0); (focus ((repeat' (first | exact z89 | apply z72)) <;> (first | exact bor_certM rfl rfl rfl (marks_len _ _) | rfl))); (focus ((repeat' (exact z11)) <;> (fail))); rfl; rfl; rfl; rfl; rfl; (focus ((repeat' (exact z27)) <;> (fail))); ((refine .inr ⟨rfl, ?_⟩; repeat' (exact True.intro))); conv => whnf))
  repeat' (fail)
  all_goals first | (exfalso; omega) | exact z32 rfl rfl
  repeat' (fail)
  all_goals fail
  repeat' (fail)
  all_goals fail
end Go.Proofs.YtknlmbniicacmaaGreat

namespace Go.Proofs.YtknlmbniicacmaaGreat
open Go.Gl
open Go.ChangeShapes Go.WideShapes Go.ChangeAt Go.RowKit
attribute [local irreducible] z22 AWP z46 z54 z51
namespace FnExactMakeCertificate
theorem args_ok : ArgsOk Tryz.prog Tryz.f7.params.toList (fun xs _ => ∃ (g : Graph) (l : List Tree) (a : Aut), xs = [.agg g.cs, lst 3 Tree.cs' l, .agg a.cs] ∧ g.mx ∧ Lmx l ∧ a.mx) := by
  rw [Tryz.params7]
  refine ArgsOk.imp (args_cons ad_graph (args_cons ad_exprS (args_cons ad_aut (args_nil)))) ?_
  rintro xs m ⟨g, _, rfl, hg, l, _, rfl, hl, a, _, rfl, ha, rfl⟩
  exact ⟨g, l, a, rfl, hg, hl, ha⟩

set_option maxRecDepth 100000 in
theorem contract (H : Type) (enc : TypeId × Value → H) (W : World) (base : Nat) (args : Array Value) (ds gs : List (DataW H)) (before : List MemPlace)
    (hval : ∀ (j : Nat) t v, Tryz.f7.params[j]? = some t → args[j]? = some v → Value.okWide Tryz.prog W .any base t v)
    (hW : DataW.Whole enc Tryz.prog Tryz.f7.params.toList Rows.fnExactMakeCertificateSpec.vars false W args.toList ds gs before) :
    Calls Tryz.prog 7 args W fun e W' => ∃ v, e = .returned v ∧ Rows.fnExactMakeCertificateSpec.post enc Tryz.prog Tryz.f7 false true false false W args v W' := by
  refine law_post bulk_sizeOf laidOut_ok (by rw [Tryz.params7]; decide +kernel) rfl (fun ds h => ?_) (by kernel_rfl) Tryz.underlying4 args_ok (fun xs m h _ => ?_) hval hW
  · rw [Tryz.params7] at h
    match ds, h with
    | [_, _, _], _ => rfl
  · obtain ⟨g, l, a, rfl, hg, hl, ha⟩ := h
    exact lawFnExactMakeCertificate g hg l hl a ha

noncomputable def w0 (os : Os) : World := World.holding Tryz.prog os ⟨#[], #[], []⟩
def zeros : Array Value := #[.agg #[.slice none 0 0, .slice none 0 0], .slice none 0 0, .agg #[.slice none 0 0, .slice none 0 0, .slice none 0 0]]
theorem reads (os : Os) {H : Type} (enc : TypeId × Value → H) : ∃ places, DataW.whole enc Tryz.prog ((w0 os).forCall (fun _ _ => 0) ⟨#[], zeros, []⟩).memory Tryz.f7.params.toList Rows.fnExactMakeCertificateSpec.vars false zeros.toList 8 = some ([.agg [.nil, .nil], .nil, .agg [.nil, .nil, .nil]], [], places) :=
  ⟨[], by kernel_rfl⟩

set_option maxRecDepth 100000 in
theorem lifted (os : Os) (started : os.Started) (H : Type) (enc : TypeId × Value → H) (F : Stop.Interp) :
    ReturnsInHanded {} Tryz.checked os 7 .any ((OpenSpec.ofChange Rows.fnExactMakeCertificateSpec).preRow enc Tryz.prog Tryz.f7 Rows.fnExactMakeCertificateRow.domain false Rows.fnExactMakeCertificateRow.laid) (((OpenSpec.ofChange Rows.fnExactMakeCertificateSpec).at F).post enc Tryz.prog Tryz.f7 false true false false) := by
  obtain ⟨places, hx⟩ := reads os enc
  refine returnsInHanded_of_row (C := Tryz.checked) (s := OpenSpec.ofChange Rows.fnExactMakeCertificateSpec) own started (by kernel_rfl) Tryz.func7
    (witness_row_at (enc := enc) (C := Tryz.checked) false (w0 os) zeros rfl (by kernel_rfl) (by kernel_rfl) (by kernel_rfl)
      (OpenSpec.preRow_of_cond 8 hx (by kernel_rfl) (fun k hk => by cases hk) (by kernel_rfl) (laidMetH_nil _ _))) ?_
  intro W base args ds gs before hval hW _ _ _ _ _ _
  exact contract H enc W base args ds gs before hval hW

set_option maxHeartbeats 40000000 in
set_option maxRecDepth 100000 in
theorem closed : joinedFacts Tryz.prog 7 Tryz.f7 (OpenSpec.ofChange Rows.fnExactMakeCertificateSpec).bare Rows.fnExactMakeCertificateRow = true := by
  unfold joinedFacts
  repeat' (with_reducible apply and_mk)
  all_goals (as_aux_lemma => kernel_rfl)
theorem proved : Rows.FnExactMakeCertificateSaid :=
  OpenClaim.holds_of_cond 7 Tryz.f7 rfl rfl rfl rfl rfl rfl rfl ⟨rfl, rfl, rfl, rfl, rfl⟩ rfl rfl rfl rfl rfl (by kernel_rfl) Tryz.func7 closed
    (of_decide_eq_true (by kernel_rfl)) (by unfold Func.isWrapper; first | (rw [if_pos (by decide +kernel)]; kernel_rfl) | (rw [if_neg (by decide +kernel)]; exact ⟨rfl, rfl⟩))
    (fun os started H enc _ F => by rw [OpenClaim.pre_eq_preRow]; exact lifted os started H enc F)
end FnExactMakeCertificate
end Go.Proofs.YtknlmbniicacmaaGreat

