/- Model checking of systems is exact. The law FnExactCheckSystem returns true at every input and leaves its input as it was. No condition. -/
import Derived.Test.YtnfoijopccdjeaaGreatG0
import Derived.Test.YtnfoijopccdjeaaGreatG1
import Derived.Test.YtnfoijopccdjeaaGreatG2
import Derived.Test.YtnfoijopccdjeaaGreatG3
import Derived.Test.YtnfoijopccdjeaaGreatP0
import Derived.Test.YtnfoijopccdjeaaGreatP1
import Derived.Test.YtnfoijopccdjeaaGreatP2
import Derived.Test.YtnfoijopccdjeaaGreatP3
import Derived.Test.YtnfoijopccdjeaaGreatP4
import Derived.Test.YtnfoijopccdjeaaGreatP5
import Derived.Test.YtnfoijopccdjeaaGreatP6
import Derived.Test.YtnfoijopccdjeaaGreatP7
import Derived.Test.YtnfoijopccdjeaaGreatP8
set_option linter.all false
namespace Go.Proofs.YtnfoijopccdjeaaGreat
open Go.Gl
attribute [local irreducible] z16 AWP z29 z32 z30
theorem z267 {objs:Nat→AObj} {π Bn:List Nat} {o n:Nat} {l:List State} (ho:objs o=.cells 2 (l.map State.co)) (h1:idx π o=none) (h2:inB Bn o=true) (hl:l.length=n):bor objs π Bn (.sref o 0 n)=lst 2 State.cs l:=by
 subst hl;exact z171 ho h1 h2
theorem State.co_plain (s:State):z166 s.co=true:=by
 have h:∀ l:List Int,z201 (l.map enI)=true:=fun l=>z127 (fun _=>rfl) l
 simp only [State.co,z166,AC.plain,h]
theorem z314 {l:List State} (h:∀ t∈l,t.sm):∀ t∈l,t.small:=fun t ht=>⟨by have:=(h t ht).a;omega,by have:=(h t ht).b;omega⟩
theorem sm_sum {l:List State} (h:∀ t∈l,t.sm):(l.map State.sz).sum≤200 * l.length:=by
 induction l with
 |nil=>simp
 |cons t l ih =>
  have h1:=h t (by simp)
  have h2:=ih fun u hu=>h u (by simp [hu])
  have h3:=h1.a
  have h4:=h1.b
  have h5:State.sz t=t.a.length+t.b.length:=rfl
  simp only [List.map_cons,List.sum_cons,y64]
  omega
set_option maxHeartbeats 3200000 in
theorem z295 (s:Sys) (hs:s.mx) (l:List Tree) (hl:Lmx l) (f:Tree) (hf:f.mx):CallsA Tryz.prog 4 [.agg s.cs,lst 3 Tree.cs' l,z20 Tree.cs' f] [] (.bool true) []:=by
 refine z7 z9 Tryz.func4 rfl rfl 179 Tryz.ntmps4 (by simp) ?_
 repeat' (first|(apply y4 ok;rfl;conv=>whnf)|(apply z5<;>intro _<;>conv=>whnf)|(apply z0 (szSysT s hs (1048576) (by omega) (by omega));rfl;rfl;conv=>whnf))
 ·exact z21 rfl rfl
 rename_i hz0
 obtain ⟨ez0,bz0⟩:=z914 hz0
 rw [ez0]
 repeat' (first|(apply y4 ok;rfl;conv=>whnf)|(apply z5<;>intro _<;>conv=>whnf)|(apply z0 (szExprST l hl (1048576 - (s.z1+s.z2:Nat)) (by omega) (by omega));rfl;rfl;conv=>whnf))
 ·exact z21 rfl rfl
 rename_i hz1
 obtain ⟨ez1,bz1⟩:=z914 hz1
 rw [ez1]
 repeat' (first|(apply y4 ok;rfl;conv=>whnf)|(apply z5<;>intro _<;>conv=>whnf)|(apply z0 (szFmT f hf (1048576 - (s.z1+s.z2:Nat) - (tot Tree.sz l:Nat)) (by omega) (by omega));rfl;rfl;conv=>whnf))
 ·exact z21 rfl rfl
 rename_i hz2
 obtain ⟨ez2,bz2⟩:=z914 hz2
 have oks:=SysOk.of hs (by omega)
 have okl:=LabOk.of hl (by omega)
 have okf:=FmOk.of hf (by omega)
 clear ez0 hz0 bz0 ez1 hz1 bz1 ez2 hz2 bz2
 have s1:=z670 s oks.bg l hl f hf
 have s2:=z597 s oks.bg l hl f hf
 obtain ⟨⟨la,sa⟩,lb,sb⟩:=csAB_ok s l f
 generalize csA s l f=A at *
 generalize csB s l f=B at *
 generalize csV s l f=q at *
 have za:=sm_sum sa
 have zb:=sm_sum sb
 have f0:=z803 (l:=A) (by omega) (z314 sa)
 have f1:=z803 (l:=B) (by omega) (z314 sb)
 have m0:=z448 A 1 (by omega) (z314 sa) (by omega) (by omega)
 have m1:=z448 B (1+(A.map State.sz).sum) (by omega) (z314 sb) (by omega) (by omega)
 have h0:=z393 A 1 (by omega) (z314 sa) (by omega) (by omega)
 have h1:=z393 B (1+(A.map State.sz).sum) (by omega) (z314 sb) (by omega) (by omega)
 have mls:=Sys.ml_le oks
 have mll:=lml_le okl
 have mlf:=fmml_le okf
 have ms:=markSysT oks (1) (by omega) (by omega)
 have ml:=z1017 okl (1+s.ml) (by omega) (by omega)
 have mf:=markFmT okf (1+s.ml+(lml l)) (by omega) (by omega)
 repeat' (first|(apply z17;kernel_rfl;conv=>whnf)|(apply z0 (z1096 oks);rfl;rfl;conv=>whnf)|(apply z0 (z657 okl);rfl;rfl;conv=>whnf)|(apply z0 (toFmS okf);rfl;rfl;conv=>whnf)|(apply z0 (s1);rfl;rfl;conv=>whnf))
 repeat' (first|((fail_if_success apply z65 13);(fail_if_success apply z50 13);apply y4 ok;rfl;conv=>whnf)|(apply z35 [] [] [2,3] (toSysN oks);rfl;(focus ((repeat' (exact z14))<;>(fail)));rfl;rfl;rfl;rfl;rfl;(focus ((repeat' (first|exact z12|apply z15))<;>((refine z22 ?_;((exact z4 (fun _=>rfl)))))));(exact .inl rfl);conv=>whnf))
 repeat' (first|((fail_if_success apply z65 14);(fail_if_success apply z50 14);apply y4 ok;rfl;conv=>whnf)|(apply z35 [] [] [5] (toExprSN okl);rfl;(focus ((repeat' (exact z14))<;>(fail)));rfl;rfl;rfl;rfl;rfl;(focus ((repeat' (first|exact z12|apply z15))<;>((refine z22 ?_;((exact z4 (fun _=>rfl)))))));(exact .inl rfl);conv=>whnf))
 repeat' (first|((fail_if_success apply z65 15);(fail_if_success apply z50 15);apply y4 ok;rfl;conv=>whnf)|(apply z35 [] [] [6] (toFmN okf);rfl;(focus ((repeat' (exact z14))<;>(fail)));rfl;rfl;rfl;rfl;rfl;(focus ((repeat' (first|exact z12|apply z15))<;>((refine z22 ?_;((exact z4 (fun _=>rfl)))))));(exact .inl rfl);conv=>whnf))
 repeat' (first|((fail_if_success apply z65 16);(fail_if_success apply z50 16);apply y4 ok;rfl;conv=>whnf)|(apply z28<;>intro _<;>conv=>whnf)|(apply z35 [] [2,3,5,6] [8,9] (s2);(focus ((repeat' (first|exact z48|apply z23))<;>(first|exact z639 rfl rfl rfl rfl rfl rfl|exact z569 rfl rfl rfl|exact z640 rfl rfl rfl)));(focus ((repeat' (exact z14))<;>(fail)));rfl;rfl;rfl;rfl;rfl;(focus ((repeat' (first|exact z12|apply z15))<;>((refine z22 ?_;((exact z4 (fun _=>rfl)))))));((refine .inr ⟨rfl,?_⟩;repeat' (first|exact z127 State.co_plain _|exact True.intro|apply y50)));conv=>whnf))
 repeat' (first|((fail_if_success apply z65 18);(fail_if_success apply z50 18);apply y4 ok;rfl;conv=>whnf)|(apply z35 [] [8] [] (f0);(focus ((repeat' (first|exact z48|apply z23))<;>(first|exact z171 rfl rfl rfl|rfl)));(focus ((repeat' (exact z14))<;>(fail)));rfl;rfl;rfl;rfl;rfl;(focus ((repeat' (exact z12))<;>(fail)));((refine .inr ⟨rfl,?_⟩;repeat' (exact True.intro)));conv=>whnf)|(apply z35 [] [9] [] (f1);(focus ((repeat' (first|exact z48|apply z23))<;>(first|exact z171 rfl rfl rfl|rfl)));(focus ((repeat' (exact z14))<;>(fail)));rfl;rfl;rfl;rfl;rfl;(focus ((repeat' (exact z12))<;>(fail)));((refine .inr ⟨rfl,?_⟩;repeat' (exact True.intro)));conv=>whnf))
 all_goals try (exfalso;omega)
 repeat' (first|((fail_if_success apply z65 20);(fail_if_success apply z50 20);apply y4 ok;rfl;conv=>whnf)|(apply z0 (z1096 oks);rfl;rfl;conv=>whnf)|(apply z35 [] [2,3] [] (eqSysT oks);(focus ((repeat' (first|exact z48|apply z23))<;>(first|exact z639 rfl rfl rfl rfl rfl rfl|rfl)));(focus ((repeat' (exact z14))<;>(fail)));rfl;rfl;rfl;rfl;rfl;(focus ((repeat' (exact z12))<;>(fail)));((refine .inr ⟨rfl,?_⟩;repeat' (first|exact True.intro|apply y50)));conv=>whnf))
 all_goals first|kernel_rfl|skip
 repeat' (first|((fail_if_success apply z65 22);(fail_if_success apply z50 22);apply y4 ok;rfl;conv=>whnf)|(apply z0 (z657 okl);rfl;rfl;conv=>whnf)|(apply z35 [] [5] [] (eqExprST okl);(focus ((repeat' (first|exact z48|apply z23))<;>(first|exact z569 rfl rfl rfl|rfl)));(focus ((repeat' (exact z14))<;>(fail)));rfl;rfl;rfl;rfl;rfl;(focus ((repeat' (exact z12))<;>(fail)));((refine .inr ⟨rfl,?_⟩;repeat' (exact True.intro)));conv=>whnf))
 repeat' (first|((fail_if_success apply z65 24);(fail_if_success apply z50 24);apply y4 ok;rfl;conv=>whnf)|(apply z0 (toFmS okf);rfl;rfl;conv=>whnf)|(apply z35 [] [6] [] (eqFmT okf);(focus ((repeat' (first|exact z48|apply z23))<;>(first|exact z640 rfl rfl rfl|rfl)));(focus ((repeat' (exact z14))<;>(fail)));rfl;rfl;rfl;rfl;rfl;(focus ((repeat' (exact z12))<;>(fail)));((refine .inr ⟨rfl,?_⟩;repeat' (first|exact True.intro|apply y50)));conv=>whnf))
 all_goals first|kernel_rfl|skip
 repeat' (((fail_if_success apply z65 25);(fail_if_success apply z50 25);apply y4 ok;rfl;conv=>whnf))
 repeat' (first|((fail_if_success apply z65 26);(fail_if_success apply z50 26);apply y4 ok;rfl;conv=>whnf)|(apply z35 [2,3] [] [] (ms);rfl;(focus ((repeat' (first|exact z14|apply z27))<;>((refine z41 rfl ?_;((exact z4 (fun _=>rfl)))))));rfl;rfl;rfl;rfl;rfl;(focus ((repeat' (first|exact z12|apply z15))<;>((refine z22 ?_;(first|exact z19 rfl|exact z4 (fun _=>rfl))))));(exact .inl rfl);conv=>whnf))
 repeat' (first|((fail_if_success apply z65 27);(fail_if_success apply z50 27);apply y4 ok;rfl;conv=>whnf)|(apply z35 [5] [] [] (ml);rfl;(focus ((repeat' (first|exact z14|apply z27))<;>((refine z41 rfl ?_;((exact z4 (fun _=>rfl)))))));rfl;rfl;rfl;rfl;rfl;(focus ((repeat' (first|exact z12|apply z15))<;>((refine z22 ?_;(exact z19 rfl)))));(exact .inl rfl);conv=>whnf))
 repeat' (first|((fail_if_success apply z65 28);(fail_if_success apply z50 28);apply y4 ok;rfl;conv=>whnf)|(apply z28<;>intro _<;>conv=>whnf)|(apply z35 [6] [] [] (mf);rfl;(focus ((repeat' (first|exact z14|apply z27))<;>((refine z41 rfl ?_;((exact z4 (fun _=>rfl)))))));rfl;rfl;rfl;rfl;rfl;(focus ((repeat' (first|exact z12|apply z15))<;>((refine z22 ?_;(exact z19 rfl)))));(exact .inl rfl);conv=>whnf))
 repeat' (first|((fail_if_success apply z65 30);(fail_if_success apply z50 30);apply y4 ok;rfl;conv=>whnf)|(apply z35 [] [8] [] (f0);(focus ((repeat' (first|exact z48|apply z23))<;>(first|exact z171 rfl rfl rfl|rfl)));(focus ((repeat' (exact z14))<;>(fail)));rfl;rfl;rfl;rfl;rfl;(focus ((repeat' (exact z12))<;>(fail)));((refine .inr ⟨rfl,?_⟩;repeat' (exact True.intro)));conv=>whnf)|(apply z35 [] [9] [] (f1);(focus ((repeat' (first|exact z48|apply z23))<;>(first|exact z171 rfl rfl rfl|rfl)));(focus ((repeat' (exact z14))<;>(fail)));rfl;rfl;rfl;rfl;rfl;(focus ((repeat' (exact z12))<;>(fail)));((refine .inr ⟨rfl,?_⟩;repeat' (exact True.intro)));conv=>whnf))
 all_goals try (exfalso;omega)
 repeat' (((fail_if_success apply z65 31);(fail_if_success apply z50 31);apply y4 ok;rfl;conv=>whnf))
 repeat' (first|((fail_if_success apply z65 32);(fail_if_success apply z50 32);apply y4 ok;rfl;conv=>whnf)|(apply z35 [8] [] [] (m0);rfl;(focus ((repeat' (first|exact z14|apply z27))<;>((refine z41 rfl ?_;((exact z4 (fun _=>rfl)))))));rfl;rfl;rfl;rfl;rfl;(focus ((repeat' (first|exact z12|apply z15))<;>((refine z22 ?_;((exact z4 (fun _=>rfl)))))));(exact .inl rfl);conv=>whnf))
 repeat' (first|((fail_if_success apply z65 33);(fail_if_success apply z50 33);apply y4 ok;rfl;conv=>whnf)|(apply z35 [9] [] [] (m1);rfl;(focus ((repeat' (first|exact z14|apply z27))<;>((refine z41 rfl ?_;((exact z4 (fun _=>rfl)))))));rfl;rfl;rfl;rfl;rfl;(focus ((repeat' (first|exact z12|apply z15))<;>((refine z22 ?_;((exact z4 (fun _=>rfl)))))));(exact .inl rfl);conv=>whnf))
 repeat' (((fail_if_success apply z65 34);(fail_if_success apply z50 34);apply y4 ok;rfl;conv=>whnf))
 repeat' (first|((fail_if_success apply z65 35);(fail_if_success apply z50 35);apply y4 ok;rfl;conv=>whnf)|(apply z28<;>intro _<;>conv=>whnf)|(apply z35 [] [8] [] (h0);(focus ((repeat' (first|exact z48|apply z23))<;>(first|exact z267 rfl rfl rfl (z536 _ _)|rfl)));(focus ((repeat' (exact z14))<;>(fail)));rfl;rfl;rfl;rfl;rfl;(focus ((repeat' (exact z12))<;>(fail)));((refine .inr ⟨rfl,?_⟩;repeat' (exact True.intro)));conv=>whnf)|(apply z35 [] [9] [] (h1);(focus ((repeat' (first|exact z48|apply z23))<;>(first|exact z267 rfl rfl rfl (z536 _ _)|rfl)));(focus ((repeat' (exact z14))<;>(fail)));rfl;rfl;rfl;rfl;rfl;(focus ((repeat' (exact z12))<;>(fail)));((refine .inr ⟨rfl,?_⟩;repeat' (exact True.intro)));conv=>whnf))
 repeat' (fail)
 all_goals try (exfalso;omega)
 repeat' (fail)
 repeat' (fail)
 repeat' (fail)
 repeat' (first|((fail_if_success apply z65 43);(fail_if_success apply z50 43);apply y4 ok;rfl;conv=>whnf)|(apply z17;kernel_rfl;conv=>whnf)|(apply z28<;>intro _<;>conv=>whnf)|(apply z0 (z1096 oks);rfl;rfl;conv=>whnf)|(apply z0 (z657 okl);rfl;rfl;conv=>whnf)|(apply z0 (toFmS okf);rfl;rfl;conv=>whnf)|(apply z35 [] [] [10,11] (s2);rfl;(focus ((repeat' (exact z14))<;>(fail)));rfl;rfl;rfl;rfl;rfl;(focus ((repeat' (first|exact z12|apply z15))<;>((refine z22 ?_;((exact z4 (fun _=>rfl)))))));(exact .inl rfl);conv=>whnf))
 all_goals try (exfalso;omega)
 repeat' (first|((fail_if_success apply z65 45);(fail_if_success apply z50 45);apply y4 ok;rfl;conv=>whnf)|(apply z35 [] [10] [] (f0);(focus ((repeat' (first|exact z48|apply z23))<;>(first|exact z171 rfl rfl rfl|rfl)));(focus ((repeat' (exact z14))<;>(fail)));rfl;rfl;rfl;rfl;rfl;(focus ((repeat' (exact z12))<;>(fail)));((refine .inr ⟨rfl,?_⟩;repeat' (exact True.intro)));conv=>whnf)|(apply z35 [] [11] [] (f1);(focus ((repeat' (first|exact z48|apply z23))<;>(first|exact z171 rfl rfl rfl|rfl)));(focus ((repeat' (exact z14))<;>(fail)));rfl;rfl;rfl;rfl;rfl;(focus ((repeat' (exact z12))<;>(fail)));((refine .inr ⟨rfl,?_⟩;repeat' (exact True.intro)));conv=>whnf))
 repeat' (((fail_if_success apply z65 46);(fail_if_success apply z50 46);apply y4 ok;rfl;conv=>whnf))
 repeat' (first|((fail_if_success apply z65 47);(fail_if_success apply z50 47);apply y4 ok;rfl;conv=>whnf)|(apply z28<;>intro _<;>conv=>whnf)|(apply z35 [] [8] [] (h0);(focus ((repeat' (first|exact z48|apply z23))<;>(first|exact z267 rfl rfl rfl (z536 _ _)|rfl)));(focus ((repeat' (exact z14))<;>(fail)));rfl;rfl;rfl;rfl;rfl;(focus ((repeat' (exact z12))<;>(fail)));((refine .inr ⟨rfl,?_⟩;repeat' (exact True.intro)));conv=>whnf)|(apply z35 [] [9] [] (h1);(focus ((repeat' (first|exact z48|apply z23))<;>(first|exact z267 rfl rfl rfl (z536 _ _)|rfl)));(focus ((repeat' (exact z14))<;>(fail)));rfl;rfl;rfl;rfl;rfl;(focus ((repeat' (exact z12))<;>(fail)));((refine .inr ⟨rfl,?_⟩;repeat' (exact True.intro)));conv=>whnf))
 repeat' (fail)
 all_goals first|(exfalso;omega)|exact z21 rfl rfl
 repeat' (fail)
 repeat' (fail)
 all_goals fail
 repeat' (fail)
 all_goals fail
 repeat' (fail)
 all_goals fail
end Go.Proofs.YtnfoijopccdjeaaGreat
namespace Go.Proofs.YtnfoijopccdjeaaGreat
open Go.Gl
open Go.ChangeShapes Go.WideShapes Go.ChangeAt Go.RowKit
attribute [local irreducible] z16 AWP z29 z32 z30
namespace FnExactCheckSystem
theorem args_ok:ArgsOk Tryz.prog Tryz.f4.params.toList (fun xs _=>∃ (s:Sys) (l:List Tree) (f:Tree),xs=[.agg s.cs,lst 3 Tree.cs' l,z20 Tree.cs' f]∧s.mx∧Lmx l∧f.mx):=by
 rw [Tryz.params4]
 refine ArgsOk.imp (z574 z1224 (z574 ad_exprS (z574 z1068 (args_nil)))) ?_
 rintro xs m ⟨s,_,rfl,hs,l,_,rfl,hl,f,_,rfl,hf,rfl⟩
 exact ⟨s,l,f,rfl,hs,hl,hf⟩
set_option maxRecDepth 100000 in
theorem contract (H : Type) (enc : TypeId × Value → H) (W : World) (base : Nat) (args : Array Value) (ds gs : List (DataW H)) (before : List MemPlace)
    (hval:∀ (j:Nat) t v,Tryz.f4.params[j]?=some t→args[j]?=some v→Value.okWide Tryz.prog W .any base t v)
    (hW:DataW.Whole enc Tryz.prog Tryz.f4.params.toList Rows.fnExactCheckSystemSpec.vars false W args.toList ds gs before) :
    Calls Tryz.prog 4 args W fun e W'=>∃ v,e=.returned v∧Rows.fnExactCheckSystemSpec.post enc Tryz.prog Tryz.f4 false true false false W args v W':=by
  refine law_post z912 z1019 (by rw [Tryz.params4];decide +kernel) rfl (fun ds h=>?_) (by kernel_rfl) Tryz.underlying4 args_ok (fun xs m h _=>?_) hval hW
  · rw [Tryz.params4] at h
    match ds,h with
    | [_,_,_],_=>rfl
  · obtain ⟨s,l,f,rfl,hs,hl,hf⟩:=h
    exact z295 s hs l hl f hf
noncomputable def w0 (os:Os):World:=World.holding Tryz.prog os ⟨#[],#[],[]⟩
def zeros:Array Value:=#[.agg #[.slice none 0 0,.slice none 0 0],.slice none 0 0,.agg #[.int .i64 0,.int .i64 0,.slice none 0 0]]
theorem reads (os:Os) {H:Type} (enc:TypeId×Value→H):∃ places,DataW.whole enc Tryz.prog ((w0 os).forCall (fun _ _=>0) ⟨#[],zeros,[]⟩).memory Tryz.f4.params.toList Rows.fnExactCheckSystemSpec.vars false zeros.toList 8=some ([.agg [.nil,.nil],.nil,.agg [.lit (.int .i64 0),.lit (.int .i64 0),.nil]],[],places) :=
 ⟨[],by kernel_rfl⟩
set_option maxRecDepth 100000 in
theorem lifted (os : Os) (started : os.Started) (H : Type) (enc : TypeId × Value → H) (F : Stop.Interp) :
    ReturnsInHanded {} Tryz.checked os 4 .any ((OpenSpec.ofChange Rows.fnExactCheckSystemSpec).preRow enc Tryz.prog Tryz.f4 Rows.fnExactCheckSystemRow.domain false Rows.fnExactCheckSystemRow.laid) (((OpenSpec.ofChange Rows.fnExactCheckSystemSpec).at F).post enc Tryz.prog Tryz.f4 false true false false):=by
  obtain ⟨places,hx⟩:=reads os enc
  refine returnsInHanded_of_row (C:=Tryz.checked) (s:=OpenSpec.ofChange Rows.fnExactCheckSystemSpec) own started (by kernel_rfl) Tryz.func4
    (witness_row_at (enc:=enc) (C:=Tryz.checked) false (w0 os) zeros rfl (by kernel_rfl) (by kernel_rfl) (by kernel_rfl)
      (OpenSpec.preRow_of_cond 8 hx (by kernel_rfl) (fun k hk=>by cases hk) (by kernel_rfl) (laidMetH_nil _ _))) ?_
  intro W base args ds gs before hval hW _ _ _ _ _ _
  exact contract H enc W base args ds gs before hval hW
set_option maxHeartbeats 40000000 in
set_option maxRecDepth 100000 in
theorem closed:joinedFacts Tryz.prog 4 Tryz.f4 (OpenSpec.ofChange Rows.fnExactCheckSystemSpec).bare Rows.fnExactCheckSystemRow=true:=by
 unfold joinedFacts
 repeat' (with_reducible apply and_mk)
 all_goals (as_aux_lemma=>kernel_rfl)
theorem proved:Rows.FnExactCheckSystemSaid :=
 OpenClaim.holds_of_cond 4 Tryz.f4 rfl rfl rfl rfl rfl rfl rfl ⟨rfl,rfl,rfl,rfl,rfl⟩ rfl rfl rfl rfl rfl (by kernel_rfl) Tryz.func4 closed
  (of_decide_eq_true (by kernel_rfl)) (by unfold Func.isWrapper;first|(rw [if_pos (by decide +kernel)];kernel_rfl)|(rw [if_neg (by decide +kernel)];exact ⟨rfl,rfl⟩))
  (fun os started H enc _ F=>by rw [OpenClaim.pre_eq_preRow];exact lifted os started H enc F)
end FnExactCheckSystem
end Go.Proofs.YtnfoijopccdjeaaGreat
