/- The program's CertifyFormula returns what the reference's returns, for all arguments: the law returns true and leaves its arguments as they were. No condition. -/
import Derived.Test.YtahhobgjcfionaaGreatG0
import Derived.Test.YtahhobgjcfionaaGreatG1
import Derived.Test.YtahhobgjcfionaaGreatG2
import Derived.Test.YtahhobgjcfionaaGreatG3
import Derived.Test.YtahhobgjcfionaaGreatP0
import Derived.Test.YtahhobgjcfionaaGreatP1
import Derived.Test.YtahhobgjcfionaaGreatP2
import Derived.Test.YtahhobgjcfionaaGreatP3
import Derived.Test.YtahhobgjcfionaaGreatP4
import Derived.Test.YtahhobgjcfionaaGreatP5
import Derived.Test.YtahhobgjcfionaaGreatP6
import Derived.Test.YtahhobgjcfionaaGreatP7
import Derived.Test.YtahhobgjcfionaaGreatP8
set_option linter.all false
namespace Go.Proofs.YtahhobgjcfionaaGreat
open Go.Gl
attribute [local irreducible] z21 AWP z42 z46 z43
set_option maxHeartbeats 3200000 in
theorem z241 (g:Graph) (hg:g.mx) (l:List Tree) (hl:Lmx l) (f:Tree) (hf:f.mx):CallsA Tryz.prog 9 [.agg g.cs,lst 3 Tree.cs' l,z24 Tree.cs' f] [] (.bool true) []:=by
 refine z6 z12 Tryz.func9 rfl rfl 142 Tryz.ntmps9 (by simp) ?_
 repeat' (first|(apply y83 ok;rfl;conv=>whnf)|(apply z2<;>intro _<;>conv=>whnf)|(apply z0 (z634 g hg (1048576) (by omega) (by omega));rfl;rfl;conv=>whnf))
 ·exact z22 rfl rfl
 rename_i hz0
 obtain ⟨ez0,bz0⟩:=z227 hz0
 rw [ez0]
 repeat' (first|(apply y83 ok;rfl;conv=>whnf)|(apply z2<;>intro _<;>conv=>whnf)|(apply z0 (z635 l hl (1048576 - (g.s1+g.s2:Nat)) (by omega) (by omega));rfl;rfl;conv=>whnf))
 ·exact z22 rfl rfl
 rename_i hz1
 obtain ⟨ez1,bz1⟩:=z227 hz1
 rw [ez1]
 repeat' (first|(apply y83 ok;rfl;conv=>whnf)|(apply z2<;>intro _<;>conv=>whnf)|(apply z0 (szFmT f hf (1048576 - (g.s1+g.s2:Nat) - (tot Tree.sz l:Nat)) (by omega) (by omega));rfl;rfl;conv=>whnf))
 ·exact z22 rfl rfl
 rename_i hz2
 obtain ⟨ez2,bz2⟩:=z227 hz2
 have okg:=y8 hg (by omega) (by omega)
 have okl:=LabOk.of hl (by omega)
 have okf:=FmOk.of hf (by omega)
 clear ez0 hz0 bz0 ez1 hz1 bz1 ez2 hz2 bz2
 have s1:=z576 g hg l hl f hf
 have s2:=z549 g hg l hl f hf
 have hb:=cyR_le g l f
 generalize cyB g l f=q at *
 generalize Cert.mk (cyR g l f)=r at *
 have f0:=z1144 (c:=r) (by unfold Cert.mx maxLen;omega)
 have m0:=z1095 (c:=r) ⟨by unfold Cert.mx maxLen;omega,by omega⟩ 1 (by omega) (by omega)
 have h0:=z848 r.ranks.length 1 (by omega) (by omega) (by omega)
 have mlg:=y7 okg
 have mll:=lml_le okl
 have mlf:=z1134 okf
 have mg:=z607 okg (1) (by omega) (by omega)
 have ml:=z608 okl (1+g.ml) (by omega) (by omega)
 have mf:=z1094 okf (1+g.ml+(lml l)) (by omega) (by omega)
 repeat' (first|(apply z7;kernel_rfl;conv=>whnf)|(apply z0 (z254 okg);rfl;rfl;conv=>whnf)|(apply z0 (z255 okl);rfl;rfl;conv=>whnf)|(apply z0 (z801 okf);rfl;rfl;conv=>whnf)|(apply z0 (s1);rfl;rfl;conv=>whnf))
 repeat' (first|((fail_if_success apply z53 13);(fail_if_success apply z38 13);apply y83 ok;rfl;conv=>whnf)|(apply z32 [] [] [3,4] (z883 okg);rfl;(focus ((repeat' (exact z11))<;>(fail)));rfl;rfl;rfl;rfl;rfl;(focus ((repeat' (first|exact z10|apply z14))<;>((refine z26 ?_;((exact z1 (fun _=>rfl)))))));(exact .inl rfl);conv=>whnf))
 repeat' (first|((fail_if_success apply z53 14);(fail_if_success apply z38 14);apply y83 ok;rfl;conv=>whnf)|(apply z32 [] [] [6] (z884 okl);rfl;(focus ((repeat' (exact z11))<;>(fail)));rfl;rfl;rfl;rfl;rfl;(focus ((repeat' (first|exact z10|apply z14))<;>((refine z26 ?_;((exact z1 (fun _=>rfl)))))));(exact .inl rfl);conv=>whnf))
 repeat' (first|((fail_if_success apply z53 15);(fail_if_success apply z38 15);apply y83 ok;rfl;conv=>whnf)|(apply z32 [] [] [7] (toFmN okf);rfl;(focus ((repeat' (exact z11))<;>(fail)));rfl;rfl;rfl;rfl;rfl;(focus ((repeat' (first|exact z10|apply z14))<;>((refine z26 ?_;((exact z1 (fun _=>rfl)))))));(exact .inl rfl);conv=>whnf))
 repeat' (first|((fail_if_success apply z53 16);(fail_if_success apply z38 16);apply y83 ok;rfl;conv=>whnf)|(apply z32 [] [3,4,6,7] [9] (s2);(focus ((repeat' (first|exact z65|apply z36))<;>(first|exact z410 rfl rfl rfl rfl rfl rfl|exact z313 rfl rfl rfl|exact z329 rfl rfl rfl)));(focus ((repeat' (exact z11))<;>(fail)));rfl;rfl;rfl;rfl;rfl;(focus ((repeat' (first|exact z10|apply z14))<;>((refine z26 ?_;((exact z1 (fun _=>rfl)))))));((refine .inr ⟨rfl,?_⟩;repeat' (first|exact True.intro|apply y44|exact z59 (fun _=>rfl) _)));conv=>whnf))
 repeat' (first|((fail_if_success apply z53 18);(fail_if_success apply z38 18);apply y83 ok;rfl;conv=>whnf)|(apply z8<;>intro _<;>conv=>whnf)|(apply z32 [] [9] [] (f0);(focus ((repeat' (first|exact z65|apply z36))<;>(first|exact z500 rfl rfl rfl|rfl)));(focus ((repeat' (exact z11))<;>(fail)));rfl;rfl;rfl;rfl;rfl;(focus ((repeat' (exact z10))<;>(fail)));((refine .inr ⟨rfl,?_⟩;repeat' (exact True.intro)));conv=>whnf))
 all_goals first|(exfalso;simp_all;done)|skip
 repeat' (first|((fail_if_success apply z53 20);(fail_if_success apply z38 20);apply y83 ok;rfl;conv=>whnf)|(apply z0 (z254 okg);rfl;rfl;conv=>whnf)|(apply z32 [] [3,4] [] (z678 okg);(focus ((repeat' (first|exact z65|apply z36))<;>(first|exact z410 rfl rfl rfl rfl rfl rfl|rfl)));(focus ((repeat' (exact z11))<;>(fail)));rfl;rfl;rfl;rfl;rfl;(focus ((repeat' (exact z10))<;>(fail)));((refine .inr ⟨rfl,?_⟩;repeat' (first|exact True.intro|apply y44)));conv=>whnf))
 all_goals first|kernel_rfl|skip
 repeat' (first|((fail_if_success apply z53 22);(fail_if_success apply z38 22);apply y83 ok;rfl;conv=>whnf)|(apply z0 (z255 okl);rfl;rfl;conv=>whnf)|(apply z32 [] [6] [] (z679 okl);(focus ((repeat' (first|exact z65|apply z36))<;>(first|exact z313 rfl rfl rfl|rfl)));(focus ((repeat' (exact z11))<;>(fail)));rfl;rfl;rfl;rfl;rfl;(focus ((repeat' (exact z10))<;>(fail)));((refine .inr ⟨rfl,?_⟩;repeat' (exact True.intro)));conv=>whnf))
 repeat' (first|((fail_if_success apply z53 24);(fail_if_success apply z38 24);apply y83 ok;rfl;conv=>whnf)|(apply z0 (z801 okf);rfl;rfl;conv=>whnf)|(apply z32 [] [7] [] (eqFmT okf);(focus ((repeat' (first|exact z65|apply z36))<;>(first|exact z329 rfl rfl rfl|rfl)));(focus ((repeat' (exact z11))<;>(fail)));rfl;rfl;rfl;rfl;rfl;(focus ((repeat' (exact z10))<;>(fail)));((refine .inr ⟨rfl,?_⟩;repeat' (first|exact True.intro|apply y44)));conv=>whnf))
 all_goals first|kernel_rfl|skip
 repeat' (((fail_if_success apply z53 25);(fail_if_success apply z38 25);apply y83 ok;rfl;conv=>whnf))
 repeat' (first|((fail_if_success apply z53 26);(fail_if_success apply z38 26);apply y83 ok;rfl;conv=>whnf)|(apply z32 [3,4] [] [] (mg);rfl;(focus ((repeat' (first|exact z11|apply z28))<;>((refine z44 rfl ?_;((exact z1 (fun _=>rfl)))))));rfl;rfl;rfl;rfl;rfl;(focus ((repeat' (first|exact z10|apply z14))<;>((refine z26 ?_;(exact z3 rfl)))));(exact .inl rfl);conv=>whnf))
 repeat' (first|((fail_if_success apply z53 27);(fail_if_success apply z38 27);apply y83 ok;rfl;conv=>whnf)|(apply z32 [6] [] [] (ml);rfl;(focus ((repeat' (first|exact z11|apply z28))<;>((refine z44 rfl ?_;((exact z1 (fun _=>rfl)))))));rfl;rfl;rfl;rfl;rfl;(focus ((repeat' (first|exact z10|apply z14))<;>((refine z26 ?_;(exact z3 rfl)))));(exact .inl rfl);conv=>whnf))
 repeat' (first|((fail_if_success apply z53 28);(fail_if_success apply z38 28);apply y83 ok;rfl;conv=>whnf)|(apply z32 [7] [] [] (mf);rfl;(focus ((repeat' (first|exact z11|apply z28))<;>((refine z44 rfl ?_;((exact z1 (fun _=>rfl)))))));rfl;rfl;rfl;rfl;rfl;(focus ((repeat' (first|exact z10|apply z14))<;>((refine z26 ?_;(exact z3 rfl)))));(exact .inl rfl);conv=>whnf))
 repeat' (first|((fail_if_success apply z53 30);(fail_if_success apply z38 30);apply y83 ok;rfl;conv=>whnf)|(apply z8<;>intro _<;>conv=>whnf)|(apply z32 [] [9] [] (f0);(focus ((repeat' (first|exact z65|apply z36))<;>(first|exact z500 rfl rfl rfl|rfl)));(focus ((repeat' (exact z11))<;>(fail)));rfl;rfl;rfl;rfl;rfl;(focus ((repeat' (exact z10))<;>(fail)));((refine .inr ⟨rfl,?_⟩;repeat' (exact True.intro)));conv=>whnf))
 all_goals first|(exfalso;simp_all;done)|skip
 repeat' (((fail_if_success apply z53 31);(fail_if_success apply z38 31);apply y83 ok;rfl;conv=>whnf))
 repeat' (first|((fail_if_success apply z53 32);(fail_if_success apply z38 32);apply y83 ok;rfl;conv=>whnf)|(apply z32 [9] [] [] (m0);rfl;(focus ((repeat' (first|exact z11|apply z28))<;>((refine z44 rfl ?_;((exact z1 (fun _=>rfl)))))));rfl;rfl;rfl;rfl;rfl;(focus ((repeat' (first|exact z10|apply z14))<;>((refine z26 ?_;((exact z1 (fun _=>rfl)))))));(exact .inl rfl);conv=>whnf))
 repeat' (((fail_if_success apply z53 33);(fail_if_success apply z38 33);apply y83 ok;rfl;conv=>whnf))
 repeat' (first|((fail_if_success apply z53 34);(fail_if_success apply z38 34);apply y83 ok;rfl;conv=>whnf)|(apply z8<;>intro _<;>conv=>whnf)|(apply z32 [] [9] [] (h0);(focus ((repeat' (first|exact z65|apply z36))<;>(first|exact z772 rfl rfl rfl (z199 _ _)|rfl)));(focus ((repeat' (exact z11))<;>(fail)));rfl;rfl;rfl;rfl;rfl;(focus ((repeat' (exact z10))<;>(fail)));((refine .inr ⟨rfl,?_⟩;repeat' (exact True.intro)));conv=>whnf))
 repeat' (fail)
 all_goals first|exact absurd rfl (by assumption)|skip
 repeat' (fail)
 repeat' (first|((fail_if_success apply z53 39);(fail_if_success apply z38 39);apply y83 ok;rfl;conv=>whnf)|(apply z7;kernel_rfl;conv=>whnf)|(apply z0 (z254 okg);rfl;rfl;conv=>whnf)|(apply z0 (z255 okl);rfl;rfl;conv=>whnf)|(apply z0 (z801 okf);rfl;rfl;conv=>whnf)|(apply z32 [] [] [11] (s2);rfl;(focus ((repeat' (exact z11))<;>(fail)));rfl;rfl;rfl;rfl;rfl;(focus ((repeat' (first|exact z10|apply z14))<;>((refine z26 ?_;((exact z1 (fun _=>rfl)))))));(exact .inl rfl);conv=>whnf))
 repeat' (first|((fail_if_success apply z53 41);(fail_if_success apply z38 41);apply y83 ok;rfl;conv=>whnf)|(apply z8<;>intro _<;>conv=>whnf)|(apply z32 [] [11] [] (f0);(focus ((repeat' (first|exact z65|apply z36))<;>(first|exact z500 rfl rfl rfl|rfl)));(focus ((repeat' (exact z11))<;>(fail)));rfl;rfl;rfl;rfl;rfl;(focus ((repeat' (exact z10))<;>(fail)));((refine .inr ⟨rfl,?_⟩;repeat' (exact True.intro)));conv=>whnf))
 all_goals first|(exfalso;simp_all;done)|skip
 repeat' (((fail_if_success apply z53 42);(fail_if_success apply z38 42);apply y83 ok;rfl;conv=>whnf))
 repeat' (first|((fail_if_success apply z53 43);(fail_if_success apply z38 43);apply y83 ok;rfl;conv=>whnf)|(apply z8<;>intro _<;>conv=>whnf)|(apply z32 [] [9] [] (h0);(focus ((repeat' (first|exact z65|apply z36))<;>(first|exact z772 rfl rfl rfl (z199 _ _)|rfl)));(focus ((repeat' (exact z11))<;>(fail)));rfl;rfl;rfl;rfl;rfl;(focus ((repeat' (exact z10))<;>(fail)));((refine .inr ⟨rfl,?_⟩;repeat' (exact True.intro)));conv=>whnf))
 repeat' (fail)
 all_goals first|(exfalso;omega)|exact z22 rfl rfl
 repeat' (fail)
 all_goals fail
 repeat' (fail)
 all_goals fail
end Go.Proofs.YtahhobgjcfionaaGreat
namespace Go.Proofs.YtahhobgjcfionaaGreat
open Go.Gl
open Go.ChangeShapes Go.WideShapes Go.ChangeAt Go.RowKit
attribute [local irreducible] z21 AWP z42 z46 z43
namespace FnExactCertifyFormula
theorem args_ok:ArgsOk Tryz.prog Tryz.f9.params.toList (fun xs _=>∃ (g:Graph) (l:List Tree) (f:Tree),xs=[.agg g.cs,lst 3 Tree.cs' l,z24 Tree.cs' f]∧g.mx∧Lmx l∧f.mx):=by
 rw [Tryz.params9]
 refine ArgsOk.imp (z141 z692 (z141 z693 (z141 z450 (z691)))) ?_
 rintro xs m ⟨g,_,rfl,hg,l,_,rfl,hl,f,_,rfl,hf,rfl⟩
 exact ⟨g,l,f,rfl,hg,hl,hf⟩
set_option maxRecDepth 100000 in
theorem contract (H : Type) (enc : TypeId × Value → H) (W : World) (base : Nat) (args : Array Value) (ds gs : List (DataW H)) (before : List MemPlace)
    (hval:∀ (j:Nat) t v,Tryz.f9.params[j]?=some t→args[j]?=some v→Value.okWide Tryz.prog W .any base t v)
    (hW:DataW.Whole enc Tryz.prog Tryz.f9.params.toList Rows.fnExactCertifyFormulaSpec.vars false W args.toList ds gs before) :
    Calls Tryz.prog 9 args W fun e W'=>∃ v,e=.returned v∧Rows.fnExactCertifyFormulaSpec.post enc Tryz.prog Tryz.f9 false true false false W args v W':=by
  refine z661 z361 z439 (by rw [Tryz.params9];decide +kernel) rfl (fun ds h=>?_) (by kernel_rfl) Tryz.underlying4 args_ok (fun xs m h _=>?_) hval hW
  · rw [Tryz.params9] at h
    match ds,h with
    | [_,_,_],_=>rfl
  · obtain ⟨g,l,f,rfl,hg,hl,hf⟩:=h
    exact z241 g hg l hl f hf
noncomputable def w0 (os:Os):World:=World.holding Tryz.prog os ⟨#[],#[],[]⟩
def zeros:Array Value:=#[.agg #[.slice none 0 0,.slice none 0 0],.slice none 0 0,.agg #[.int .i64 0,.int .i64 0,.slice none 0 0]]
theorem reads (os:Os) {H:Type} (enc:TypeId×Value→H):∃ places,DataW.whole enc Tryz.prog ((w0 os).forCall (fun _ _=>0) ⟨#[],zeros,[]⟩).memory Tryz.f9.params.toList Rows.fnExactCertifyFormulaSpec.vars false zeros.toList 8=some ([.agg [.nil,.nil],.nil,.agg [.lit (.int .i64 0),.lit (.int .i64 0),.nil]],[],places) :=
 ⟨[],by kernel_rfl⟩
set_option maxRecDepth 100000 in
theorem lifted (os : Os) (started : os.Started) (H : Type) (enc : TypeId × Value → H) (F : Stop.Interp) :
    ReturnsInHanded {} Tryz.checked os 9 .any ((OpenSpec.ofChange Rows.fnExactCertifyFormulaSpec).preRow enc Tryz.prog Tryz.f9 Rows.fnExactCertifyFormulaRow.domain false Rows.fnExactCertifyFormulaRow.laid) (((OpenSpec.ofChange Rows.fnExactCertifyFormulaSpec).at F).post enc Tryz.prog Tryz.f9 false true false false):=by
  obtain ⟨places,hx⟩:=reads os enc
  refine returnsInHanded_of_row (C:=Tryz.checked) (s:=OpenSpec.ofChange Rows.fnExactCertifyFormulaSpec) own started (by kernel_rfl) Tryz.func9
    (witness_row_at (enc:=enc) (C:=Tryz.checked) false (w0 os) zeros rfl (by kernel_rfl) (by kernel_rfl) (by kernel_rfl)
      (OpenSpec.preRow_of_cond 8 hx (by kernel_rfl) (fun k hk=>by cases hk) (by kernel_rfl) (laidMetH_nil _ _))) ?_
  intro W base args ds gs before hval hW _ _ _ _ _ _
  exact contract H enc W base args ds gs before hval hW
set_option maxHeartbeats 40000000 in
set_option maxRecDepth 100000 in
theorem closed:joinedFacts Tryz.prog 9 Tryz.f9 (OpenSpec.ofChange Rows.fnExactCertifyFormulaSpec).bare Rows.fnExactCertifyFormulaRow=true:=by
 unfold joinedFacts
 repeat' (with_reducible apply z1171)
 all_goals (as_aux_lemma=>kernel_rfl)
theorem proved:Rows.FnExactCertifyFormulaSaid :=
 OpenClaim.holds_of_cond 9 Tryz.f9 rfl rfl rfl rfl rfl rfl rfl ⟨rfl,rfl,rfl,rfl,rfl⟩ rfl rfl rfl rfl rfl (by kernel_rfl) Tryz.func9 closed
  (of_decide_eq_true (by kernel_rfl)) (by unfold Func.isWrapper;first|(rw [if_pos (by decide +kernel)];kernel_rfl)|(rw [if_neg (by decide +kernel)];exact ⟨rfl,rfl⟩))
  (fun os started H enc _ F=>by rw [OpenClaim.pre_eq_preRow];exact lifted os started H enc F)
end FnExactCertifyFormula
end Go.Proofs.YtahhobgjcfionaaGreat
