/- The program's VerifyFormula returns what the reference's returns, for all arguments: the law returns true and leaves its arguments as they were. No condition. -/
import Derived.Test.YtahhobgjcfionaaGreatG0
import Derived.Test.YtahhobgjcfionaaGreatG1
import Derived.Test.YtahhobgjcfionaaGreatG2
import Derived.Test.YtahhobgjcfionaaGreatG3
import Derived.Test.YtahhobgjcfionaaGreatP0
import Derived.Test.YtahhobgjcfionaaGreatP1
import Derived.Test.YtahhobgjcfionaaGreatP2
import Derived.Test.YtahhobgjcfionaaGreatP3
import Derived.Test.YtahhobgjcfionaaGreatP4
import Derived.Test.YtahhobgjcfionaaGreatP5
import Derived.Test.YtahhobgjcfionaaGreatP6
import Derived.Test.YtahhobgjcfionaaGreatP7
import Derived.Test.YtahhobgjcfionaaGreatP8
set_option linter.all false
namespace Go.Proofs.YtahhobgjcfionaaGreat
open Go.Gl
attribute [local irreducible] z21 AWP z42 z46 z43
set_option maxHeartbeats 3200000 in
theorem z262 (g:Graph) (hg:g.mx) (l:List Tree) (hl:Lmx l) (f:Tree) (hf:f.mx) (c:Cert) (hc:c.mx):CallsA Tryz.prog 7 [.agg g.cs,lst 3 Tree.cs' l,z24 Tree.cs' f,.agg c.cs] [] (.bool true) []:=by
 refine z6 z12 Tryz.func7 rfl rfl 81 Tryz.ntmps7 (by simp) ?_
 repeat' (first|(apply y83 ok;rfl;conv=>whnf)|(apply z2<;>intro _<;>conv=>whnf)|(apply z0 (z634 g hg (1048576) (by omega) (by omega));rfl;rfl;conv=>whnf))
 ·exact z22 rfl rfl
 rename_i hz0
 obtain ⟨ez0,bz0⟩:=z227 hz0
 rw [ez0]
 repeat' (first|(apply y83 ok;rfl;conv=>whnf)|(apply z2<;>intro _<;>conv=>whnf)|(apply z0 (z635 l hl (1048576 - (g.s1+g.s2:Nat)) (by omega) (by omega));rfl;rfl;conv=>whnf))
 ·exact z22 rfl rfl
 rename_i hz1
 obtain ⟨ez1,bz1⟩:=z227 hz1
 rw [ez1]
 repeat' (first|(apply y83 ok;rfl;conv=>whnf)|(apply z2<;>intro _<;>conv=>whnf)|(apply z0 (szFmT f hf (1048576 - (g.s1+g.s2:Nat) - (tot Tree.sz l:Nat)) (by omega) (by omega));rfl;rfl;conv=>whnf))
 ·exact z22 rfl rfl
 rename_i hz2
 obtain ⟨ez2,bz2⟩:=z227 hz2
 rw [ez2]
 repeat' (first|(apply y83 ok;rfl;conv=>whnf)|(apply z2<;>intro _<;>conv=>whnf)|(apply z0 (szCertT c hc (1048576 - (g.s1+g.s2:Nat) - (tot Tree.sz l:Nat) - (f.sz:Nat)) (by omega) (by omega));rfl;rfl;conv=>whnf))
 ·exact z22 rfl rfl
 rename_i hz3
 obtain ⟨ez3,bz3⟩:=z227 hz3
 have okg:=y8 hg (by omega) (by omega)
 have okl:=LabOk.of hl (by omega)
 have okf:=FmOk.of hf (by omega)
 have okc:=Cert.ok_of hc (by omega)
 clear ez0 hz0 bz0 ez1 hz1 bz1 ez2 hz2 bz2 ez3 hz3 bz3
 have s1:=z640 g hg l hl f hf c hc
 have s2:=z669 g hg l hl f hf c hc
 generalize vfB g l f c=q at *
 repeat' (first|(apply y83 ok;rfl;conv=>whnf)|(apply z7;kernel_rfl;conv=>whnf)|(apply z8<;>intro _<;>conv=>whnf)|(apply z0 (z254 okg);rfl;rfl;conv=>whnf)|(apply z0 (z255 okl);rfl;rfl;conv=>whnf)|(apply z0 (z801 okf);rfl;rfl;conv=>whnf)|(apply z0 (toCertS okc);rfl;rfl;conv=>whnf)|(apply z0 (s1);rfl;rfl;conv=>whnf)|(apply z0 (s2);rfl;rfl;conv=>whnf)|(apply z0 (z678 okg);rfl;rfl;conv=>whnf)|(apply z0 (z679 okl);rfl;rfl;conv=>whnf)|(apply z0 (eqFmT okf);rfl;rfl;conv=>whnf)|(apply z0 (z1144 okc.mx);rfl;rfl;conv=>whnf))
 all_goals first|(exfalso;simp_all;done)|exact z22 rfl rfl
end Go.Proofs.YtahhobgjcfionaaGreat
namespace Go.Proofs.YtahhobgjcfionaaGreat
open Go.Gl
open Go.ChangeShapes Go.WideShapes Go.ChangeAt Go.RowKit
attribute [local irreducible] z21 AWP z42 z46 z43
namespace FnExactVerifyFormula
theorem args_ok:ArgsOk Tryz.prog Tryz.f7.params.toList (fun xs _=>∃ (g:Graph) (l:List Tree) (f:Tree) (c:Cert),xs=[.agg g.cs,lst 3 Tree.cs' l,z24 Tree.cs' f,.agg c.cs]∧g.mx∧Lmx l∧f.mx∧c.mx):=by
 rw [Tryz.params7]
 refine ArgsOk.imp (z141 z692 (z141 z693 (z141 z450 (z141 ad_cert (z691))))) ?_
 rintro xs m ⟨g,_,rfl,hg,l,_,rfl,hl,f,_,rfl,hf,c,_,rfl,hc,rfl⟩
 exact ⟨g,l,f,c,rfl,hg,hl,hf,hc⟩
set_option maxRecDepth 100000 in
theorem contract (H : Type) (enc : TypeId × Value → H) (W : World) (base : Nat) (args : Array Value) (ds gs : List (DataW H)) (before : List MemPlace)
    (hval:∀ (j:Nat) t v,Tryz.f7.params[j]?=some t→args[j]?=some v→Value.okWide Tryz.prog W .any base t v)
    (hW:DataW.Whole enc Tryz.prog Tryz.f7.params.toList Rows.fnExactVerifyFormulaSpec.vars false W args.toList ds gs before) :
    Calls Tryz.prog 7 args W fun e W'=>∃ v,e=.returned v∧Rows.fnExactVerifyFormulaSpec.post enc Tryz.prog Tryz.f7 false true false false W args v W':=by
  refine z661 z361 z439 (by rw [Tryz.params7];decide +kernel) rfl (fun ds h=>?_) (by kernel_rfl) Tryz.underlying4 args_ok (fun xs m h _=>?_) hval hW
  · rw [Tryz.params7] at h
    match ds,h with
    | [_,_,_,_],_=>rfl
  · obtain ⟨g,l,f,c,rfl,hg,hl,hf,hc⟩:=h
    exact z262 g hg l hl f hf c hc
noncomputable def w0 (os:Os):World:=World.holding Tryz.prog os ⟨#[],#[],[]⟩
def zeros:Array Value:=#[.agg #[.slice none 0 0,.slice none 0 0],.slice none 0 0,.agg #[.int .i64 0,.int .i64 0,.slice none 0 0],.agg #[.slice none 0 0]]
theorem reads (os:Os) {H:Type} (enc:TypeId×Value→H):∃ places,DataW.whole enc Tryz.prog ((w0 os).forCall (fun _ _=>0) ⟨#[],zeros,[]⟩).memory Tryz.f7.params.toList Rows.fnExactVerifyFormulaSpec.vars false zeros.toList 8=some ([.agg [.nil,.nil],.nil,.agg [.lit (.int .i64 0),.lit (.int .i64 0),.nil],.agg [.nil]],[],places) :=
 ⟨[],by kernel_rfl⟩
set_option maxRecDepth 100000 in
theorem lifted (os : Os) (started : os.Started) (H : Type) (enc : TypeId × Value → H) (F : Stop.Interp) :
    ReturnsInHanded {} Tryz.checked os 7 .any ((OpenSpec.ofChange Rows.fnExactVerifyFormulaSpec).preRow enc Tryz.prog Tryz.f7 Rows.fnExactVerifyFormulaRow.domain false Rows.fnExactVerifyFormulaRow.laid) (((OpenSpec.ofChange Rows.fnExactVerifyFormulaSpec).at F).post enc Tryz.prog Tryz.f7 false true false false):=by
  obtain ⟨places,hx⟩:=reads os enc
  refine returnsInHanded_of_row (C:=Tryz.checked) (s:=OpenSpec.ofChange Rows.fnExactVerifyFormulaSpec) own started (by kernel_rfl) Tryz.func7
    (witness_row_at (enc:=enc) (C:=Tryz.checked) false (w0 os) zeros rfl (by kernel_rfl) (by kernel_rfl) (by kernel_rfl)
      (OpenSpec.preRow_of_cond 8 hx (by kernel_rfl) (fun k hk=>by cases hk) (by kernel_rfl) (laidMetH_nil _ _))) ?_
  intro W base args ds gs before hval hW _ _ _ _ _ _
  exact contract H enc W base args ds gs before hval hW
set_option maxHeartbeats 40000000 in
set_option maxRecDepth 100000 in
theorem closed:joinedFacts Tryz.prog 7 Tryz.f7 (OpenSpec.ofChange Rows.fnExactVerifyFormulaSpec).bare Rows.fnExactVerifyFormulaRow=true:=by
 unfold joinedFacts
 repeat' (with_reducible apply z1171)
 all_goals (as_aux_lemma=>kernel_rfl)
theorem proved:Rows.FnExactVerifyFormulaSaid :=
 OpenClaim.holds_of_cond 7 Tryz.f7 rfl rfl rfl rfl rfl rfl rfl ⟨rfl,rfl,rfl,rfl,rfl⟩ rfl rfl rfl rfl rfl (by kernel_rfl) Tryz.func7 closed
  (of_decide_eq_true (by kernel_rfl)) (by unfold Func.isWrapper;first|(rw [if_pos (by decide +kernel)];kernel_rfl)|(rw [if_neg (by decide +kernel)];exact ⟨rfl,rfl⟩))
  (fun os started H enc _ F=>by rw [OpenClaim.pre_eq_preRow];exact lifted os started H enc F)
end FnExactVerifyFormula
end Go.Proofs.YtahhobgjcfionaaGreat
