/- Verification is sound. The law FnVerifyFormula returns true at every input and leaves its input as it was. No condition. -/
import Derived.Test.YtjhgpfaodkchjaaGreatP8
set_option linter.all false
namespace Go.Proofs.YtjhgpfaodkchjaaGreat
open Go.Gl Proofs.Tryz
attribute [local irreducible] z18 AWP z31 z35 z34 RetS z45
theorem vf_vd {g:Graph} {l:List Tree} {f:Tree} {c:Cert} (h:vfB g l f c=true):vdI g l f=0:=by
 unfold vfB at h
 obtain ⟨h1,h2⟩:=Bool.and_eq_true_iff.1 h
 have:cyB g l f=true:=by unfold cyB;rw [h1,certB_gl h2];rfl
 rw [cy_vd] at this
 exact of_decide_eq_true this
theorem cyR_bd (g:Graph) (l:List Tree) (f:Tree):Bd 16000000 (cyR g l f):=by
 unfold cyR
 split
 ·exact z767.2.2
 ·intro x hx;cases hx
set_option maxHeartbeats 6400000 in
theorem z1223 (bs:List Int) (hb:CodeOk bs):∃ (g:Graph) (l:List Tree) (f:Tree) (R:List Int),(g.d∧Lab.d l∧f.sz≤22∧R.length≤3840)∧QQ 16 [lst 1 enU bs] [] (.tup [.agg g.cs,lst 3 Tree.cs' l,z27 Tree.cs' f,.agg [ints R]]) []:=by
 have co:=z1053 bs hb.len
 have hbt:=hb.take
 generalize bs.take 2000=b0 at *
 obtain ⟨l,p1,⟨l1,l2,l3,l4⟩,c1⟩:=z883 b0 hbt 0 ⟨by omega,by omega⟩
 obtain ⟨f0,p2,⟨a1,a2,a3⟩,c2⟩:=z778 b0 hbt p1 ⟨by omega,by omega⟩
 obtain ⟨f,p3,⟨b1,b2,b3⟩,cm⟩:=z888 b0 hbt p2 ⟨by omega,by omega⟩ f0 (by omega)
 obtain ⟨g0,g,p4,p5,cg0,cg,hg,q1,q2⟩:=mutG_ok b0 hbt p3 ⟨by omega,by omega⟩
 have hl:Lab.d l:=⟨l1,l2⟩
 have cC:=z578 g hg.mx l hl.mx f (z101 f (by unfold maxLen;omega))
 have hR:=cyR_le g l f
 have hRl:(cyR g l f).length≤3840:=hR
 have hB:=cyR_bd g l f
 have e:(Cert.mk (cyR g l f)).cs=[ints (cyR g l f)]:=rfl
 rw [e] at cC
 clear e hR
 generalize cyR g l f=R0 at *
 rw [y15 f] at *
 rw [y15 f0] at *
 cases hq:cyB g l f with
 |true =>
  rw [hq] at cC
  obtain ⟨R',p',⟨r1,r2,r3⟩,cb⟩:=z772 b0 hbt p5 ⟨by omega,by omega⟩ R0 (by omega) hB
  refine ⟨g,l,f,R',⟨hg,hl,by omega,r1⟩,?_⟩
  rw [y15 f]
  refine z7 z15 func16 rfl rfl 41 ntmps16 (by simp) ?_
  repeat' ((first|apply y4 ok;rfl|apply z23;kernel_rfl|apply z4 cC;rfl;rfl|(first|apply z37 [] [3] co;rfl;rfl|apply z37 [3] [] c1;rfl;rfl|apply z37 [3] [] c2;rfl;rfl|apply z37 [3] [] cm;rfl;rfl|apply z37 [3] [] cg0;rfl;rfl|apply z37 [3] [] cg;rfl;rfl|apply z37 [3] [] cb;rfl;rfl);rfl)<;>conv=>whnf)
  all_goals (refine rsD [] [] rfl ?_;(repeat' first|exact y86 _|constructor))
 |false =>
  rw [hq] at cC
  obtain ⟨R',p',⟨r1,r2,r3⟩,cb⟩:=z772 b0 hbt p5 ⟨by omega,by omega⟩ [0,0,0,1,-1,2,0,0] (by simp) (by intro x hx;simp at hx;omega)
  refine ⟨g,l,f,R',⟨hg,hl,by omega,r1⟩,?_⟩
  rw [y15 f]
  refine z7 z15 func16 rfl rfl 41 ntmps16 (by simp) ?_
  repeat' ((first|(fail_if_success apply z96 8);(fail_if_success apply z77 8);apply y4 ok;rfl|apply z4 cC;rfl;rfl|(first|apply z37 [] [3] co;rfl;rfl|apply z37 [3] [] c1;rfl;rfl|apply z37 [3] [] c2;rfl;rfl|apply z37 [3] [] cm;rfl;rfl|apply z37 [3] [] cg0;rfl;rfl|apply z37 [3] [] cg;rfl;rfl);rfl)<;>conv=>whnf)
  refine y85 (show Gl.Reach _ _ (mkSt _ [(2,.ptr 0 none 0),(4,.ptr 1 none 0),(5,.ptr 2 none 0),(6,.ptr 3 none 0),(7,lst 3 Tree.cs' l),(8,.ptr 4 none 0),(9,.ptr 5 none 0),(10,.ptr 6 none 0)] [.cells 2 [[.nils,.nils]],.cells 3 [[.int 0,.int 0,.nils]],.cells 1 [[.nils]],rdO b0 p5,.cells 3 [[.int f.kind,.int f.val,lst 3 Tree.cs' f.kids]],.cells 2 [g.cs],.cells 1 [[ints [0,0,0,1,-1,2,0,0]]]]) from (by refine swR [0,1,2,3,4,5,6] [7] rfl rfl ?_;(repeat' first|exact y86 _|apply y87|constructor))) ?_
  repeat' ((first|apply y4 ok;rfl|apply z23;kernel_rfl|apply z37 [3] [] cb;rfl;rfl;rfl)<;>conv=>whnf)
  all_goals (refine rsD [] [] rfl ?_;(repeat' first|exact y86 _|constructor))
set_option maxHeartbeats 12800000 in
theorem z398 (c:List Int) (hc:CodeOk c) (d:List Int) (hd:CodeOk d):QQ 4 [lst 1 enU c,lst 1 enU d] [] (.bool true) []:=by
 obtain ⟨g,l,f,R,⟨hg,hl,hf,hR⟩,cd⟩:=z1223 c hc
 have hgm:=hg.mx
 have hlm:=hl.mx
 have hlen:=hc.len
 have hlen2:=hd.len
 unfold maxLen at hlen hlen2
 have hfm:f.mx:=z101 f (by unfold maxLen;omega)
 have hcm:(Cert.mk R).mx:=by unfold Cert.mx maxLen;have:(Cert.mk R).ranks.length=R.length:=rfl;omega
 have k1:=z691 g hgm l hlm f hfm ⟨R⟩ hcm
 have k2:=z655 g hgm l hlm f hfm ⟨R⟩ hcm
 have e:(Cert.mk R).cs=[ints R]:=rfl
 rw [e] at k1 k2
 clear e
 cases hq:vfB g l f ⟨R⟩ with
 |false =>
  rw [hq] at k1 k2
  rw [y15 f] at *
  refine z7 z15 func4 rfl rfl 88 ntmps4 (by simp) ?_
  repeat' ((first|apply y4 ok;rfl|apply z6<;>intro _|apply z4 cd;rfl;rfl|apply z4 k1;rfl;rfl|apply z4 k2;rfl;rfl)<;>conv=>whnf)
  all_goals (refine rsD [] [] rfl ?_;(repeat' first|exact y86 _|constructor))
 |true =>
  rw [hq] at k1 k2
  have hv:=vf_vd hq
  have k3:=z696 g hgm l hlm f hfm
  have hh:=z721.1 hv
  obtain ⟨hG,_⟩:=glB_GB hh.1.1
  have k9:=z1090 g hg hG d hd
  obtain ⟨b1,b2⟩:=z1092 g.nx d 70 0 [0] (by simp)
  have hw:=fun h=>z1057 (g:=g) (l:=l) (t:=wkT g.nx d 70 0 [0]) (f:=f) hv h
  have he:=fun h=>sf_eq (g:=g) (l:=l) (t:=wkT g.nx d 70 0 [0]) (f:=f) h
  have hl:=fun h=>tw_las (g:=g) (l:=l) (t:=wkT g.nx d 70 0 [0]) h
  generalize wkT g.nx d 70 0 [0]=t at *
  have k5:QQ 18 [.agg g.cs,lst 3 Tree.cs' l,.agg t.cs] [] (.tup [.agg (twT g l t).cs,.bool (twB g l t)]) []:=(by refine y5 (z435 g hgm l hlm t (by omega) (by omega)) [] [0,1] rfl rfl rfl ?_ ?_<;>(repeat' first|exact y86 _|(apply z40 rfl rfl rfl);(focus ((repeat ((exact z30 (fun _=>rfl) _)));done));(focus (((simp;done));done))|apply z41|apply z80|constructor))
  obtain ⟨w1,w2⟩:=twT_le (g:=g) (l:=l) (t:=t)
  have k6:=z1056 (twT g l t) (by omega) (by omega) f hfm
  rw [hh.1.2.1] at k6
  rw [hv] at k3
  generalize vdT g l f=u at *
  rw [y15 f] at *
  cases hb:twB g l t with
  |false =>
   rw [hb] at k5
   generalize sfB (twT g l t) f=q at *
   generalize lasB (twT g l t)=r at *
   generalize twT g l t=W at *
   refine z7 z15 func4 rfl rfl 88 ntmps4 (by simp) ?_
   repeat' ((first|apply y4 ok;rfl|apply z23;kernel_rfl|apply z6<;>intro _|apply z4 cd;rfl;rfl|apply z4 k1;rfl;rfl|apply z4 k2;rfl;rfl|apply z4 k3;rfl;rfl|apply z4 k9;rfl;rfl|apply z4 k5;rfl;rfl|apply z4 k6;rfl;rfl)<;>conv=>whnf)
   all_goals (refine rsD [] [] rfl ?_;(repeat' first|exact y86 _|constructor))
   all_goals exact z920 (by simp)
  |true =>
   rw [hb] at k5
   rw [he hb,hw hb,hl hb] at k6
   generalize twT g l t=W at *
   refine z7 z15 func4 rfl rfl 88 ntmps4 (by simp) ?_
   repeat' ((first|apply y4 ok;rfl|apply z23;kernel_rfl|apply z6<;>intro _|apply z4 cd;rfl;rfl|apply z4 k1;rfl;rfl|apply z4 k2;rfl;rfl|apply z4 k3;rfl;rfl|apply z4 k9;rfl;rfl|apply z4 k5;rfl;rfl|apply z4 k6;rfl;rfl)<;>conv=>whnf)
   all_goals (refine rsD [] [] rfl ?_;(repeat' first|exact y86 _|constructor))
   all_goals exact z920 (by simp)
end Go.Proofs.YtjhgpfaodkchjaaGreat
namespace Go.Proofs.YtjhgpfaodkchjaaGreat
open Go.Gl Proofs.Tryz
open Go.ChangeShapes Go.WideShapes Go.ChangeAt Go.RowKit
attribute [local irreducible] z18 AWP z31 z35 z34
namespace FnVerifyFormula
theorem args_ok:ArgsOk prog Tryz.f4.params.toList (fun xs _=>∃ (c:List Int) (d:List Int),xs=[lst 1 enU c,lst 1 enU d]∧CodeOk c∧CodeOk d):=by
 rw [Tryz.params4]
 refine ArgsOk.imp (z818 z1254 (z818 z1254 args_nil)) ?_
 rintro xs m ⟨c,_,rfl,hc,d,_,rfl,hd,rfl⟩
 exact ⟨c,d,rfl,hc,hd⟩
set_option maxRecDepth 100000 in
theorem contract (H : Type) (enc : TypeId × Value → H) (W : World) (base : Nat) (args : Array Value) (ds gs : List (DataW H)) (before : List MemPlace)
    (hval:∀ (j:Nat) t v,Tryz.f4.params[j]?=some t→args[j]?=some v→Value.okWide prog W .any base t v)
    (hW:DataW.Whole enc prog Tryz.f4.params.toList Rows.fnVerifyFormulaSpec.vars false W args.toList ds gs before) :
    Calls prog 4 args W fun e W'=>∃ v,e=.returned v∧Rows.fnVerifyFormulaSpec.post enc prog Tryz.f4 false true false false W args v W':=by
  refine law_post z916 z1038 (by rw [Tryz.params4];decide +kernel) rfl (fun ds h=>?_) (by kernel_rfl) underlying4 args_ok (fun xs m h _=>?_) hval hW
  · rw [Tryz.params4] at h
    match ds,h with
    | [_,_],_=>rfl
  · obtain ⟨c,d,rfl,hc,hd⟩:=h
    exact z398 c hc d hd
noncomputable def w0 (os:Os):World:=World.holding prog os ⟨#[],#[],[]⟩
def zeros:Array Value:=#[.slice none 0 0,.slice none 0 0]
theorem reads (os:Os) {H:Type} (enc:TypeId×Value→H):∃ places,DataW.whole enc prog ((w0 os).forCall (fun _ _=>0) ⟨#[],zeros,[]⟩).memory Tryz.f4.params.toList Rows.fnVerifyFormulaSpec.vars false zeros.toList 8=some ([.nil,.nil],[],places) :=
 ⟨[],by kernel_rfl⟩
set_option maxRecDepth 100000 in
theorem lifted (os : Os) (started : os.Started) (H : Type) (enc : TypeId × Value → H) (F : Stop.Interp) :
    ReturnsInHanded {} Tryz.checked os 4 .any ((OpenSpec.ofChange Rows.fnVerifyFormulaSpec).preRow enc prog Tryz.f4 Rows.fnVerifyFormulaRow.domain false Rows.fnVerifyFormulaRow.laid) (((OpenSpec.ofChange Rows.fnVerifyFormulaSpec).at F).post enc prog Tryz.f4 false true false false):=by
  obtain ⟨places,hx⟩:=reads os enc
  refine returnsInHanded_of_row (C:=Tryz.checked) (s:=OpenSpec.ofChange Rows.fnVerifyFormulaSpec) own started (by kernel_rfl) func4
    (witness_row_at (enc:=enc) (C:=Tryz.checked) false (w0 os) zeros rfl (by kernel_rfl) (by kernel_rfl) (by kernel_rfl)
      (OpenSpec.preRow_of_cond 8 hx (by kernel_rfl) (fun k hk=>by cases hk) (by kernel_rfl) (laidMetH_nil _ _))) ?_
  intro W base args ds gs before hval hW _ _ _ _ _ _
  exact contract H enc W base args ds gs before hval hW
set_option maxHeartbeats 40000000 in
set_option maxRecDepth 100000 in
theorem closed:joinedFacts prog 4 Tryz.f4 (OpenSpec.ofChange Rows.fnVerifyFormulaSpec).bare Rows.fnVerifyFormulaRow=true:=by
 unfold joinedFacts
 repeat' (with_reducible apply and_mk)
 all_goals (as_aux_lemma=>kernel_rfl)
theorem proved:Rows.FnVerifyFormulaSaid :=
 OpenClaim.holds_of_cond 4 Tryz.f4 rfl rfl rfl rfl rfl rfl rfl ⟨rfl,rfl,rfl,rfl,rfl⟩ rfl rfl rfl rfl rfl (by kernel_rfl) func4 closed
  (of_decide_eq_true (by kernel_rfl)) (by unfold Func.isWrapper;first|rw [if_pos (by decide +kernel)];kernel_rfl|rw [if_neg (by decide +kernel)];exact ⟨rfl,rfl⟩)
  (fun os started H enc _ F=>by rw [OpenClaim.pre_eq_preRow];exact lifted os started H enc F)
end FnVerifyFormula
end Go.Proofs.YtjhgpfaodkchjaaGreat
