/- The program's FindTrace returns what the reference's returns, for all arguments: the law returns true and leaves its arguments as they were. No condition. -/
import Derived.Test.YtknlmbniicacmaaGreatG0
import Derived.Test.YtknlmbniicacmaaGreatG1
import Derived.Test.YtknlmbniicacmaaGreatG2
import Derived.Test.YtknlmbniicacmaaGreatG3
import Derived.Test.YtknlmbniicacmaaGreatP0
import Derived.Test.YtknlmbniicacmaaGreatP1
import Derived.Test.YtknlmbniicacmaaGreatP2
import Derived.Test.YtknlmbniicacmaaGreatP3
import Derived.Test.YtknlmbniicacmaaGreatP4
import Derived.Test.YtknlmbniicacmaaGreatP5
import Derived.Test.YtknlmbniicacmaaGreatP6
set_option linter.all false
namespace Go.Proofs.YtknlmbniicacmaaGreat
open Go.Gl
attribute [local irreducible] z15 AWP z44 z49 z46

theorem heldTrace_ok (n m : Nat) (k : Int) (hn : n ≤ 1048576) (hm : m ≤ 1048576) (h0 : 0 ≤ k) (h1 : k ≤ 1000000000) : CallsA Tryz.prog 49 [.agg (Trace.mk (marks k n) (marks (k + n) m)).cs, .int k] [] (.int (k + (n + m : Nat))) [] := by
  have m1 := heldIntS_ok n k hn h0 (by omega)
  have m2 := heldIntS_ok m (k + n) hm (by omega) (by omega)
  rw [show k + (n : Int) + (m : Int) = k + (n + m : Nat) by omega] at m2
  refine z7 z28 Tryz.func49 rfl rfl 18 Tryz.ntmps49 (by simp) ?_
  repeat' (first | (apply AWP.go ok; rfl; conv => whnf) | (apply z2 <;> intro _ <;> conv => whnf) | (apply z4 (m1); rfl; rfl; conv => whnf) | (apply z4 (m2); rfl; rfl; conv => whnf))
  all_goals first | (exfalso; omega) | exact z55 rfl rfl rfl
set_option maxHeartbeats 3200000 in
theorem lawFnExactFindTrace (g : Graph) (hg : g.mx) (l : List Tree) (hl : Lmx l) (a : Aut) (ha : a.mx) : CallsA Tryz.prog 6 [.agg g.cs, lst 3 Tree.cs' l, .agg a.cs] [] (.bool true) [] := by
  refine z7 z28 Tryz.func6 rfl rfl 142 Tryz.ntmps6 (by simp) ?_
  repeat' (first | (apply AWP.go ok; rfl; conv => whnf) | (apply z2 <;> intro _ <;> conv => whnf) | (apply z4 (szGraphT g hg (1048576) (by omega) (by omega)); rfl; rfl; conv => whnf))
  · exact z24 rfl rfl
  rename_i hz0
  obtain ⟨ez0, bz0⟩ := bud_pos hz0
  rw [ez0]
  repeat' (first | (apply AWP.go ok; rfl; conv => whnf) | (apply z2 <;> intro _ <;> conv => whnf) | (apply z4 (szExprST l hl (1048576 - (g.s1 + g.s2 : Nat)) (by omega) (by omega)); rfl; rfl; conv => whnf))
  · exact z24 rfl rfl
  rename_i hz1
  obtain ⟨ez1, bz1⟩ := bud_pos hz1
  rw [ez1]
  repeat' (first | (apply AWP.go ok; rfl; conv => whnf) | (apply z2 <;> intro _ <;> conv => whnf) | (apply z4 (szAutT a ha (1048576 - (g.s1 + g.s2 : Nat) - (tot Tree.sz l : Nat)) (by omega) (by omega)); rfl; rfl; conv => whnf))
  · exact z24 rfl rfl
  rename_i hz2
  obtain ⟨ez2, bz2⟩ := bud_pos hz2
  have okg := Graph.ok_of hg (by omega) (by omega)
  have okl := LabOk.of hl (by omega)
  have oka := Aut.ok_of ha (by omega) (by omega) (by omega)
  clear ez0 hz0 bz0 ez1 hz1 bz1 ez2 hz2 bz2
  have s1 := specFindTrace_ok g hg l hl a ha
  have s2 := implFindTrace_new g hg l hl a ha
  have hb := ftL_le (g := g) (l := l) (a := a)
  generalize ftL g l a = r at *
  generalize (ftO g l a).isSome = q at *
  have okr : r.ok := ⟨⟨by unfold maxLen; omega, by unfold maxLen; omega⟩, by omega, by omega⟩
  have f0 := eqTraceT okr
  have m0 := markTrace_two okr 1 (by omega) (by omega)
  have h0 := heldTrace_ok r.stem.length r.loop.length 1 (by omega) (by omega) (by omega) (by omega)
  have mlg := Graph.ml_le okg
  have mll := lml_le okl
  have mla := Aut.ml_le oka
  have mg := markGraphT okg (1) (by omega) (by omega)
  have ml := markExprST okl (1 + g.ml) (by omega) (by omega)
  have ma := markAutT oka (1 + g.ml + (lml l)) (by omega) (by omega)
  repeat' (first | (apply z3; kernel_rfl; conv => whnf) | (apply z4 (toGraphS okg); rfl; rfl; conv => whnf) | (apply z4 (toExprSS okl); rfl; rfl; conv => whnf) | (apply z4 (toAutS oka); rfl; rfl; conv => whnf) | (apply z4 (s1); rfl; rfl; conv => whnf))
  all_goals skip
  repeat' (first | ((fail_if_success apply z66 13); (fail_if_success apply z54 13); apply AWP.go ok; rfl; conv => whnf) | (apply z19 [] [] [3, 4] (toGraphN okg); rfl; (focus ((repeat' (exact z10)) <;> (fail))); rfl; rfl; rfl; rfl; rfl; (focus ((repeat' (first | exact z29 | apply z25)) <;> ((refine z40 ?_; ((exact z0 (fun _ => rfl))))))); (exact .inl rfl); conv => whnf))
  repeat' (first | ((fail_if_success apply z66 14); (fail_if_success apply z54 14); apply AWP.go ok; rfl; conv => whnf) | (apply z19 [] [] [6] (toExprSN okl); rfl; (focus ((repeat' (exact z10)) <;> (fail))); rfl; rfl; rfl; rfl; rfl; (focus ((repeat' (first | exact z29 | apply z25)) <;> ((refine z40 ?_; ((exact z0 (fun _ => rfl))))))); (exact .inl rfl); conv => whnf))
  repeat' (first | ((fail_if_success apply z66 15); (fail_if_success apply z54 15); apply AWP.go ok; rfl; conv => whnf) | (apply z19 [] [] [7, 8, 9] (toAutN oka); rfl; (focus ((repeat' (exact z10)) <;> (fail))); rfl; rfl; rfl; rfl; rfl; (focus ((repeat' (first | exact z29 | apply z25)) <;> ((refine z40 ?_; ((exact z0 (fun _ => rfl))))))); (exact .inl rfl); conv => whnf))
  repeat' (first | ((fail_if_success apply z66 16); (fail_if_success apply z54 16); apply AWP.go ok; rfl; conv => whnf) | (apply z19 [] [3, 4, 6, 7, 8, 9] [11, 12] (s2); (focus ((repeat' (first | exact z89 | apply z68)) <;> (first | exact bor_graph rfl rfl rfl rfl rfl rfl | exact bor_exprS rfl rfl rfl | exact bor_aut rfl rfl rfl rfl rfl rfl rfl rfl rfl))); (focus ((repeat' (exact z10)) <;> (fail))); rfl; rfl; rfl; rfl; rfl; (focus ((repeat' (first | exact z29 | apply z25)) <;> ((refine z40 ?_; ((exact z0 (fun _ => rfl))))))); ((refine .inr ⟨rfl, ?_⟩; repeat' (first | exact True.intro | apply And.intro | exact z42 (fun _ => rfl) _))); conv => whnf))
  repeat' (first | ((fail_if_success apply z66 18); (fail_if_success apply z54 18); apply AWP.go ok; rfl; conv => whnf) | (apply z9 <;> intro _ <;> conv => whnf) | (apply z19 [] [11, 12] [] (f0); (focus ((repeat' (first | exact z89 | apply z68)) <;> (first | exact bor_two rfl rfl rfl rfl rfl rfl | rfl))); (focus ((repeat' (exact z10)) <;> (fail))); rfl; rfl; rfl; rfl; rfl; (focus ((repeat' (exact z29)) <;> (fail))); ((refine .inr ⟨rfl, ?_⟩; repeat' (exact True.intro))); conv => whnf))
  all_goals first | (exfalso; simp_all; done) | skip
  repeat' (first | ((fail_if_success apply z66 20); (fail_if_success apply z54 20); apply AWP.go ok; rfl; conv => whnf) | (apply z4 (toGraphS okg); rfl; rfl; conv => whnf) | (apply z19 [] [3, 4] [] (eqGraphT okg); (focus ((repeat' (first | exact z89 | apply z68)) <;> (first | exact bor_graph rfl rfl rfl rfl rfl rfl | rfl))); (focus ((repeat' (exact z10)) <;> (fail))); rfl; rfl; rfl; rfl; rfl; (focus ((repeat' (exact z29)) <;> (fail))); ((refine .inr ⟨rfl, ?_⟩; repeat' (first | exact True.intro | apply And.intro))); conv => whnf))
  all_goals first | kernel_rfl | skip
  repeat' (first | ((fail_if_success apply z66 22); (fail_if_success apply z54 22); apply AWP.go ok; rfl; conv => whnf) | (apply z4 (toExprSS okl); rfl; rfl; conv => whnf) | (apply z19 [] [6] [] (eqExprST okl); (focus ((repeat' (first | exact z89 | apply z68)) <;> (first | exact bor_exprS rfl rfl rfl | rfl))); (focus ((repeat' (exact z10)) <;> (fail))); rfl; rfl; rfl; rfl; rfl; (focus ((repeat' (exact z29)) <;> (fail))); ((refine .inr ⟨rfl, ?_⟩; repeat' (exact True.intro))); conv => whnf))
  all_goals skip
  repeat' (first | ((fail_if_success apply z66 24); (fail_if_success apply z54 24); apply AWP.go ok; rfl; conv => whnf) | (apply z4 (toAutS oka); rfl; rfl; conv => whnf) | (apply z19 [] [7, 8, 9] [] (eqAutT oka); (focus ((repeat' (first | exact z89 | apply z68)) <;> (first | exact bor_aut rfl rfl rfl rfl rfl rfl rfl rfl rfl | rfl))); (focus ((repeat' (exact z10)) <;> (fail))); rfl; rfl; rfl; rfl; rfl; (focus ((repeat' (exact z29)) <;> (fail))); ((refine .inr ⟨rfl, ?_⟩; repeat' (first | exact True.intro | apply And.intro))); conv => whnf))
  all_goals first | kernel_rfl | skip
  repeat' (((fail_if_success apply z66 25); (fail_if_success apply z54 25); apply AWP.go ok; rfl; conv => whnf))
  repeat' (first | ((fail_if_success apply z66 26); (fail_if_success apply z54 26); apply AWP.go ok; rfl; conv => whnf) | (apply z19 [3, 4] [] [] (mg); rfl; (focus ((repeat' (first | exact z10 | apply z21)) <;> ((refine z43 rfl ?_; ((exact z0 (fun _ => rfl))))))); rfl; rfl; rfl; rfl; rfl; (focus ((repeat' (first | exact z29 | apply z25)) <;> ((refine z40 ?_; (exact z1 rfl))))); (exact .inl rfl); conv => whnf))
  repeat' (first | ((fail_if_success apply z66 27); (fail_if_success apply z54 27); apply AWP.go ok; rfl; conv => whnf) | (apply z19 [6] [] [] (ml); rfl; (focus ((repeat' (first | exact z10 | apply z21)) <;> ((refine z43 rfl ?_; ((exact z0 (fun _ => rfl))))))); rfl; rfl; rfl; rfl; rfl; (focus ((repeat' (first | exact z29 | apply z25)) <;> ((refine z40 ?_; (exact z1 rfl))))); (exact .inl rfl); conv => whnf))
  repeat' (first | ((fail_if_success apply z66 28); (fail_if_success apply z54 28); apply AWP.go ok; rfl; conv => whnf) | (apply z19 [7, 8, 9] [] [] (ma); rfl; (focus ((repeat' (first | exact z10 | apply z21)) <;> ((refine z43 rfl ?_; ((exact z0 (fun _ => rfl))))))); rfl; rfl; rfl; rfl; rfl; (focus ((repeat' (first | exact z29 | apply z25)) <;> ((refine z40 ?_; (first | exact z1 rfl | exact z0 (fun _ => rfl)))))); (exact .inl rfl); conv => whnf))
  repeat' (first | ((fail_if_success apply z66 30); (fail_if_success apply z54 30); apply AWP.go ok; rfl; conv => whnf) | (apply z9 <;> intro _ <;> conv => whnf) | (apply z19 [] [11, 12] [] (f0); (focus ((repeat' (first | exact z89 | apply z68)) <;> (first | exact bor_two rfl rfl rfl rfl rfl rfl | rfl))); (focus ((repeat' (exact z10)) <;> (fail))); rfl; rfl; rfl; rfl; rfl; (focus ((repeat' (exact z29)) <;> (fail))); ((refine .inr ⟨rfl, ?_⟩; repeat' (exact True.intro))); conv => whnf))
  all_goals first | (exfalso; simp_all; done) | skip
  repeat' (((fail_if_success apply z66 31); (fail_if_success apply z54 31); apply AWP.go ok; rfl; conv => whnf))
  repeat' (first | ((fail_if_success apply z66 32); (fail_if_success apply z54 32); apply AWP.go ok; rfl; conv => whnf) | (apply z19 [11, 12] [] [] (m0); rfl; (focus ((repeat' (first | exact z10 | apply z21)) <;> ((refine z43 rfl ?_; ((exact z0 (fun _ => rfl))))))); rfl; rfl; rfl; rfl; rfl; (focus ((repeat' (first | exact z29 | apply z25)) <;> ((refine z40 ?_; ((exact z0 (fun _ => rfl))))))); (exact .inl rfl); conv => whnf))
  repeat' (((fail_if_success apply z66 33); (fail_if_success apply z54 33); apply AWP.go ok; rfl; conv => whnf))
  repeat' (first | ((fail_if_success apply z66 34); (fail_if_success apply z54 34); apply AWP.go ok; rfl; conv => whnf) | (apply z9 <;> intro _ <;> conv => whnf) | (apply z19 [] [11, 12] [] (h0); (focus ((repeat' (first | exact z89 | apply z68)) <;> (first | exact bor_twoM rfl rfl rfl rfl rfl rfl (marks_len _ _) (marks_len _ _) | rfl))); (focus ((repeat' (exact z10)) <;> (fail))); rfl; rfl; rfl; rfl; rfl; (focus ((repeat' (exact z29)) <;> (fail))); ((refine .inr ⟨rfl, ?_⟩; repeat' (exact True.intro))); conv => whnf))
  repeat' (fail)
  all_goals first | (exfalso; omega) | skip
  repeat' (fail)
  all_goals skip
  repeat' (first | ((fail_if_success apply z66 39); (fail_if_success apply z54 39); apply AWP.go ok; rfl; conv => whnf) | (apply z3; kernel_rfl; conv => whnf) | (apply z4 (toGraphS okg); rfl; rfl; conv => whnf) | (apply z4 (toExprSS okl); rfl; rfl; conv => whnf) | (apply z4 (toAutS oka); rfl; rfl; conv => whnf) | (apply z19 [] [] [14, 15] (s2); rfl; (focus ((repeat' (exact z10)) <;> (fail))); rfl; rfl; rfl; rfl; rfl; (focus ((repeat' (first | exact z29 | apply z25)) <;> ((refine z40 ?_; ((exact z0 (fun _ => rfl))))))); (exact .inl rfl); conv => whnf))
  all_goals skip
  repeat' (first | ((fail_if_success apply z66 41); (fail_if_success apply z54 41); apply AWP.go ok; rfl; conv => whnf) | (apply z9 <;> intro _ <;> conv => whnf) | (apply z19 [] [14, 15] [] (f0); (focus ((repeat' (first | exact z89 | apply z68)) <;> (first | exact bor_two rfl rfl rfl rfl rfl rfl | rfl))); (focus ((repeat' (exact z10)) <;> (fail))); rfl; rfl; rfl; rfl; rfl; (focus ((repeat' (exact z29)) <;> (fail))); ((refine .inr ⟨rfl, ?_⟩; repeat' (exact True.intro))); conv => whnf))
  all_goals first | (exfalso; simp_all; done) | skip
  repeat' (((fail_if_success apply z66 42); (fail_if_success apply z54 42); apply AWP.go ok; rfl; conv => whnf))
  repeat' (first | ((fail_if_success apply z66 43); (fail_if_success apply z54 43); apply AWP.go ok; rfl; conv => whnf) | (apply z9 <;> intro _ <;> conv => whnf) | (apply z19 [] [11, 12] [] (h0); (focus ((repeat' (first | exact z89 | apply z68)) <;> (first | exact bor_twoM rfl rfl rfl rfl rfl rfl (marks_len _ _) (marks_len _ _) | rfl))); (focus ((repeat' (exact z10)) <;> (fail))); rfl; rfl; rfl; rfl; rfl; (focus ((repeat' (exact z29)) <;> (fail))); ((refine .inr ⟨rfl, ?_⟩; repeat' (exact True.intro))); conv => whnf))
  repeat' (fail)
  all_goals first | (exfalso; omega) | exact z24 rfl rfl
  repeat' (fail)
  all_goals fail
  repeat' (fail)
  all_goals fail
end Go.Proofs.YtknlmbniicacmaaGreat

namespace Go.Proofs.YtknlmbniicacmaaGreat
open Go.Gl
open Go.ChangeShapes Go.WideShapes Go.ChangeAt Go.RowKit
attribute [local irreducible] z15 AWP z44 z49 z46
namespace FnExactFindTrace
theorem args_ok : ArgsOk Tryz.prog Tryz.f6.params.toList (fun xs _ => ∃ (g : Graph) (l : List Tree) (a : Aut), xs = [.agg g.cs, lst 3 Tree.cs' l, .agg a.cs] ∧ g.mx ∧ Lmx l ∧ a.mx) := by
  rw [Tryz.params6]
  refine ArgsOk.imp (args_cons ad_graph (args_cons ad_exprS (args_cons ad_aut (args_nil)))) ?_
  rintro xs m ⟨g, _, rfl, hg, l, _, rfl, hl, a, _, rfl, ha, rfl⟩
  exact ⟨g, l, a, rfl, hg, hl, ha⟩

set_option maxRecDepth 100000 in
theorem contract (H : Type) (enc : TypeId × Value → H) (W : World) (base : Nat) (args : Array Value) (ds gs : List (DataW H)) (before : List MemPlace)
    (hval : ∀ (j : Nat) t v, Tryz.f6.params[j]? = some t → args[j]? = some v → Value.okWide Tryz.prog W .any base t v)
    (hW : DataW.Whole enc Tryz.prog Tryz.f6.params.toList Rows.fnExactFindTraceSpec.vars false W args.toList ds gs before) :
    Calls Tryz.prog 6 args W fun e W' => ∃ v, e = .returned v ∧ Rows.fnExactFindTraceSpec.post enc Tryz.prog Tryz.f6 false true false false W args v W' := by
  refine law_post bulk_sizeOf laidOut_ok (by rw [Tryz.params6]; decide +kernel) rfl (fun ds h => ?_) (by kernel_rfl) Tryz.underlying4 args_ok (fun xs m h _ => ?_) hval hW
  · rw [Tryz.params6] at h
    match ds, h with
    | [_, _, _], _ => rfl
  · obtain ⟨g, l, a, rfl, hg, hl, ha⟩ := h
    exact lawFnExactFindTrace g hg l hl a ha

noncomputable def w0 (os : Os) : World := World.holding Tryz.prog os ⟨#[], #[], []⟩
def zeros : Array Value := #[.agg #[.slice none 0 0, .slice none 0 0], .slice none 0 0, .agg #[.slice none 0 0, .slice none 0 0, .slice none 0 0]]
theorem reads (os : Os) {H : Type} (enc : TypeId × Value → H) : ∃ places, DataW.whole enc Tryz.prog ((w0 os).forCall (fun _ _ => 0) ⟨#[], zeros, []⟩).memory Tryz.f6.params.toList Rows.fnExactFindTraceSpec.vars false zeros.toList 8 = some ([.agg [.nil, .nil], .nil, .agg [.nil, .nil, .nil]], [], places) :=
  ⟨[], by kernel_rfl⟩

set_option maxRecDepth 100000 in
theorem lifted (os : Os) (started : os.Started) (H : Type) (enc : TypeId × Value → H) (F : Stop.Interp) :
    ReturnsInHanded {} Tryz.checked os 6 .any ((OpenSpec.ofChange Rows.fnExactFindTraceSpec).preRow enc Tryz.prog Tryz.f6 Rows.fnExactFindTraceRow.domain false Rows.fnExactFindTraceRow.laid) (((OpenSpec.ofChange Rows.fnExactFindTraceSpec).at F).post enc Tryz.prog Tryz.f6 false true false false) := by
  obtain ⟨places, hx⟩ := reads os enc
  refine returnsInHanded_of_row (C := Tryz.checked) (s := OpenSpec.ofChange Rows.fnExactFindTraceSpec) own started (by kernel_rfl) Tryz.func6
    (witness_row_at (enc := enc) (C := Tryz.checked) false (w0 os) zeros rfl (by kernel_rfl) (by kernel_rfl) (by kernel_rfl)
      (OpenSpec.preRow_of_cond 8 hx (by kernel_rfl) (fun k hk => by cases hk) (by kernel_rfl) (laidMetH_nil _ _))) ?_
  intro W base args ds gs before hval hW _ _ _ _ _ _
  exact contract H enc W base args ds gs before hval hW

set_option maxHeartbeats 40000000 in
set_option maxRecDepth 100000 in
theorem closed : joinedFacts Tryz.prog 6 Tryz.f6 (OpenSpec.ofChange Rows.fnExactFindTraceSpec).bare Rows.fnExactFindTraceRow = true := by
  unfold joinedFacts
  repeat' (with_reducible apply and_mk)
  all_goals (as_aux_lemma => kernel_rfl)
theorem proved : Rows.FnExactFindTraceSaid :=
  OpenClaim.holds_of_cond 6 Tryz.f6 rfl rfl rfl rfl rfl rfl rfl ⟨rfl, rfl, rfl, rfl, rfl⟩ rfl rfl rfl rfl rfl (by kernel_rfl) Tryz.func6 closed
    (of_decide_eq_true (by kernel_rfl)) (by unfold Func.isWrapper; first | (rw [if_pos (by decide +kernel)]; kernel_rfl) | (rw [if_neg (by decide +kernel)]; exact ⟨rfl, rfl⟩))
    (fun os started H enc _ F => by rw [OpenClaim.pre_eq_preRow]; exact lifted os started H enc F)
end FnExactFindTrace
end Go.Proofs.YtknlmbniicacmaaGreat

