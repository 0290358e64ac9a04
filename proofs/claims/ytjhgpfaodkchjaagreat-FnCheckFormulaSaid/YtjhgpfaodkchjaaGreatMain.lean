/- Verdicts of the program are correct along traces and walks. The law FnCheckFormula returns true at every input and leaves its input as it was. No condition. -/
import Derived.Test.YtjhgpfaodkchjaaGreatG0
import Derived.Test.YtjhgpfaodkchjaaGreatG1
import Derived.Test.YtjhgpfaodkchjaaGreatG2
import Derived.Test.YtjhgpfaodkchjaaGreatG3
import Derived.Test.YtjhgpfaodkchjaaGreatP0
import Derived.Test.YtjhgpfaodkchjaaGreatP1
import Derived.Test.YtjhgpfaodkchjaaGreatP2
import Derived.Test.YtjhgpfaodkchjaaGreatP3
import Derived.Test.YtjhgpfaodkchjaaGreatP4
import Derived.Test.YtjhgpfaodkchjaaGreatP5
import Derived.Test.YtjhgpfaodkchjaaGreatP6
import Derived.Test.YtjhgpfaodkchjaaGreatP7
import Derived.Test.YtjhgpfaodkchjaaGreatP8
set_option linter.all false
namespace Go.Proofs.YtjhgpfaodkchjaaGreat
open Go.Gl
attribute [local irreducible] z18 AWP z30 z37 z33 RetS z44
theorem sf_eq {g:Graph} {l:List Tree} {t:Trace} {f:Tree} (h:twB g l t=true):sfB (twT g l t) f=satT g l t f:=by
 have e:twT g l t=z187 (g.st.map (z43 l)) t:=by unfold twT;rw [if_pos h]
 unfold sfB satT
 rw [e]
 have e1:(z187 (g.st.map (z43 l)) t).all.length=t.all.length:=by rw [z636];simp
 have e2:(z187 (g.st.map (z43 l)) t).stem.length=t.stem.length:=by unfold z187;simp
 rw [e1,e2]
theorem tw_las {g:Graph} {l:List Tree} {t:Trace} (h:twB g l t=true):lasB (twT g l t)=true:=by
 have e:twT g l t=z187 (g.st.map (z43 l)) t:=by unfold twT;rw [if_pos h]
 rw [e]
 unfold twB at h
 simp only [y71] at h
 exact h.2.2
set_option maxHeartbeats 12800000 in
theorem z433 (c:List Int) (hc:CodeOk c) (d:List Int) (hd:CodeOk d):CallsA Tryz.prog 5 [lst 1 enU c,lst 1 enU d] [] (.bool true) []:=by
 obtain ⟨g,l,f,⟨hg,hl,hf⟩,cd⟩:=z796 c hc
 have hgm:=hg.mx
 have hlm:=hl.mx
 have hlen:=hc.len
 have hlen2:=hd.len
 unfold maxLen at hlen hlen2
 have hfm:f.mx:=z94 f (by unfold maxLen;omega)
 have k1:=z257 g hgm l hlm f hfm
 have k2:=z375 g hgm l hlm f hfm
 obtain ⟨z1,z2⟩:=vdT_le (g:=g) (l:=l) (f:=f)
 have k3:=z714 (vdT g l f).stem (vdT g l f).stem (by unfold maxLen;omega) (by unfold maxLen;omega)
 have k4:=z714 (vdT g l f).loop (vdT g l f).loop (by unfold maxLen;omega) (by unfold maxLen;omega)
 rw [y82 rfl] at k3 k4
 rcases z1073 g l f with hv|hv|hv|hv
 ·have hh:=z492.1 hv
  obtain ⟨hG,_⟩:=glB_GB hh.1.1
  have k9:=z1068 g hg hG d hd
  obtain ⟨b1,b2⟩:=z1070 g.nx d 70 0 [0] (by simp)
  have hw:=fun h=>z1033 (g:=g) (l:=l) (t:=wkT g.nx d 70 0 [0]) (f:=f) hv h
  have he:=fun h=>sf_eq (g:=g) (l:=l) (t:=wkT g.nx d 70 0 [0]) (f:=f) h
  have hl:=fun h=>tw_las (g:=g) (l:=l) (t:=wkT g.nx d 70 0 [0]) h
  generalize wkT g.nx d 70 0 [0]=t at *
  have k5:CallsA Tryz.prog 18 [.agg g.cs,lst 3 Tree.cs' l,.agg t.cs] [] (.tup [.agg (twT g l t).cs,.bool (twB g l t)]) []:=(by refine y5 (z238 g hgm l hlm t (by omega) (by omega)) [] [0,1] rfl rfl rfl ?_ ?_<;>(repeat' first|exact y86 _|((apply z41 rfl rfl rfl);(focus ((repeat ((exact z34 (fun _=>rfl) _)));done));(focus (((simp;done));done)))|apply z38|apply z80|constructor))
  obtain ⟨w1,w2⟩:=twT_le (g:=g) (l:=l) (t:=t)
  have k6:=z614 (twT g l t) (by omega) (by omega) f hfm
  rw [hh.1.2.1] at k6
  rw [hv] at k1 k2
  generalize vdT g l f=u at *
  rw [y15 f] at *
  cases hb:twB g l t with
  |false =>
   rw [hb] at k5
   generalize sfB (twT g l t) f=q at *
   generalize lasB (twT g l t)=r at *
   generalize twT g l t=W at *
   refine z7 z16 Tryz.func5 rfl rfl 140 Tryz.ntmps5 (by simp) ?_
   repeat' ((first|(apply y4 ok;rfl)|(apply z22;kernel_rfl)|((apply z6)<;>intro _)|(apply z4 (cd);rfl;rfl)|(apply z4 (k1);rfl;rfl)|(apply z4 (k2);rfl;rfl)|(apply z4 (k3);rfl;rfl)|(apply z4 (k4);rfl;rfl)|(apply z4 (k9);rfl;rfl)|(apply z4 (k5);rfl;rfl)|(apply z4 (k6);rfl;rfl))<;>conv=>whnf)
   all_goals (refine rsD [] [] rfl ?_;(repeat' first|exact y86 _|constructor))
   all_goals exact z441 (by simp)
  |true =>
   rw [hb] at k5
   rw [he hb,hw hb,hl hb] at k6
   generalize twT g l t=W at *
   refine z7 z16 Tryz.func5 rfl rfl 140 Tryz.ntmps5 (by simp) ?_
   repeat' ((first|(apply y4 ok;rfl)|(apply z22;kernel_rfl)|((apply z6)<;>intro _)|(apply z4 (cd);rfl;rfl)|(apply z4 (k1);rfl;rfl)|(apply z4 (k2);rfl;rfl)|(apply z4 (k3);rfl;rfl)|(apply z4 (k4);rfl;rfl)|(apply z4 (k9);rfl;rfl)|(apply z4 (k5);rfl;rfl)|(apply z4 (k6);rfl;rfl))<;>conv=>whnf)
   all_goals (refine rsD [] [] rfl ?_;(repeat' first|exact y86 _|constructor))
   all_goals exact z441 (by simp)
 ·have hh:=z274.1 hv
  have k7:=z297 g hgm (vdT g l f) (by omega) (by omega)
  rw [z919 hv] at k7
  have hw:=fun h=>z1041 (g:=g) (l:=l) (f:=f) hv h
  have he:=fun h=>sf_eq (g:=g) (l:=l) (t:=vdT g l f) (f:=f) h
  have hl:=fun h=>tw_las (g:=g) (l:=l) (t:=vdT g l f) h
  rw [hv] at k1 k2
  generalize vdT g l f=t at *
  have k5:CallsA Tryz.prog 18 [.agg g.cs,lst 3 Tree.cs' l,.agg t.cs] [] (.tup [.agg (twT g l t).cs,.bool (twB g l t)]) []:=(by refine y5 (z238 g hgm l hlm t (by omega) (by omega)) [] [0,1] rfl rfl rfl ?_ ?_<;>(repeat' first|exact y86 _|((apply z41 rfl rfl rfl);(focus ((repeat ((exact z34 (fun _=>rfl) _)));done));(focus (((simp;done));done)))|apply z38|apply z80|constructor))
  obtain ⟨w1,w2⟩:=twT_le (g:=g) (l:=l) (t:=t)
  have k6:=z614 (twT g l t) (by omega) (by omega) f hfm
  rw [hh.1.2.1] at k6
  rw [y15 f] at *
  cases hb:twB g l t with
  |false =>
   rw [hb] at k5
   generalize sfB (twT g l t) f=q at *
   generalize lasB (twT g l t)=r at *
   generalize twT g l t=W at *
   refine z7 z16 Tryz.func5 rfl rfl 140 Tryz.ntmps5 (by simp) ?_
   repeat' ((first|(apply y4 ok;rfl)|((apply z6)<;>intro _)|(apply z4 (cd);rfl;rfl)|(apply z4 (k1);rfl;rfl)|(apply z4 (k2);rfl;rfl)|(apply z4 (k3);rfl;rfl)|(apply z4 (k4);rfl;rfl)|(apply z4 (k7);rfl;rfl)|(apply z4 (k5);rfl;rfl)|(apply z4 (k6);rfl;rfl))<;>conv=>whnf)
   all_goals (refine rsD [] [] rfl ?_;(repeat' first|exact y86 _|constructor))
   all_goals exact z441 (by simp)
  |true =>
   rw [hb] at k5
   rw [he hb,hw hb,hl hb] at k6
   generalize twT g l t=W at *
   refine z7 z16 Tryz.func5 rfl rfl 140 Tryz.ntmps5 (by simp) ?_
   repeat' ((first|(apply y4 ok;rfl)|((apply z6)<;>intro _)|(apply z4 (cd);rfl;rfl)|(apply z4 (k1);rfl;rfl)|(apply z4 (k2);rfl;rfl)|(apply z4 (k3);rfl;rfl)|(apply z4 (k4);rfl;rfl)|(apply z4 (k7);rfl;rfl)|(apply z4 (k5);rfl;rfl)|(apply z4 (k6);rfl;rfl))<;>conv=>whnf)
   all_goals (refine rsD [] [] rfl ?_;(repeat' first|exact y86 _|constructor))
   all_goals exact z441 (by simp)
 all_goals
  rw [hv] at k1 k2
  generalize vdT g l f=t at *
  rw [y15 f] at *
  refine z7 z16 Tryz.func5 rfl rfl 140 Tryz.ntmps5 (by simp) ?_
  repeat' ((first|(apply y4 ok;rfl)|((apply z6)<;>intro _)|(apply z4 (cd);rfl;rfl)|(apply z4 (k1);rfl;rfl)|(apply z4 (k2);rfl;rfl)|(apply z4 (k3);rfl;rfl)|(apply z4 (k4);rfl;rfl))<;>conv=>whnf)
  all_goals (refine rsD [] [] rfl ?_;(repeat' first|exact y86 _|constructor))
  all_goals exact z441 (by simp)
end Go.Proofs.YtjhgpfaodkchjaaGreat
namespace Go.Proofs.YtjhgpfaodkchjaaGreat
open Go.Gl
open Go.ChangeShapes Go.WideShapes Go.ChangeAt Go.RowKit
attribute [local irreducible] z18 AWP z30 z37 z33
namespace FnCheckFormula
theorem args_ok:ArgsOk Tryz.prog Tryz.f5.params.toList (fun xs _=>∃ (c:List Int) (d:List Int),xs=[lst 1 enU c,lst 1 enU d]∧CodeOk c∧CodeOk d):=by
 rw [Tryz.params5]
 refine ArgsOk.imp (z559 z910 (z559 z910 (z975))) ?_
 rintro xs m ⟨c,_,rfl,hc,d,_,rfl,hd,rfl⟩
 exact ⟨c,d,rfl,hc,hd⟩
set_option maxRecDepth 100000 in
theorem contract (H : Type) (enc : TypeId × Value → H) (W : World) (base : Nat) (args : Array Value) (ds gs : List (DataW H)) (before : List MemPlace)
    (hval:∀ (j:Nat) t v,Tryz.f5.params[j]?=some t→args[j]?=some v→Value.okWide Tryz.prog W .any base t v)
    (hW:DataW.Whole enc Tryz.prog Tryz.f5.params.toList Rows.fnCheckFormulaSpec.vars false W args.toList ds gs before) :
    Calls Tryz.prog 5 args W fun e W'=>∃ v,e=.returned v∧Rows.fnCheckFormulaSpec.post enc Tryz.prog Tryz.f5 false true false false W args v W':=by
  refine z952 z553 z607 (by rw [Tryz.params5];decide +kernel) rfl (fun ds h=>?_) (by kernel_rfl) Tryz.underlying4 args_ok (fun xs m h _=>?_) hval hW
  · rw [Tryz.params5] at h
    match ds,h with
    | [_,_],_=>rfl
  · obtain ⟨c,d,rfl,hc,hd⟩:=h
    exact z433 c hc d hd
noncomputable def w0 (os:Os):World:=World.holding Tryz.prog os ⟨#[],#[],[]⟩
def zeros:Array Value:=#[.slice none 0 0,.slice none 0 0]
theorem reads (os:Os) {H:Type} (enc:TypeId×Value→H):∃ places,DataW.whole enc Tryz.prog ((w0 os).forCall (fun _ _=>0) ⟨#[],zeros,[]⟩).memory Tryz.f5.params.toList Rows.fnCheckFormulaSpec.vars false zeros.toList 8=some ([.nil,.nil],[],places) :=
 ⟨[],by kernel_rfl⟩
set_option maxRecDepth 100000 in
theorem lifted (os : Os) (started : os.Started) (H : Type) (enc : TypeId × Value → H) (F : Stop.Interp) :
    ReturnsInHanded {} Tryz.checked os 5 .any ((OpenSpec.ofChange Rows.fnCheckFormulaSpec).preRow enc Tryz.prog Tryz.f5 Rows.fnCheckFormulaRow.domain false Rows.fnCheckFormulaRow.laid) (((OpenSpec.ofChange Rows.fnCheckFormulaSpec).at F).post enc Tryz.prog Tryz.f5 false true false false):=by
  obtain ⟨places,hx⟩:=reads os enc
  refine returnsInHanded_of_row (C:=Tryz.checked) (s:=OpenSpec.ofChange Rows.fnCheckFormulaSpec) own started (by kernel_rfl) Tryz.func5
    (witness_row_at (enc:=enc) (C:=Tryz.checked) false (w0 os) zeros rfl (by kernel_rfl) (by kernel_rfl) (by kernel_rfl)
      (OpenSpec.preRow_of_cond 8 hx (by kernel_rfl) (fun k hk=>by cases hk) (by kernel_rfl) (laidMetH_nil _ _))) ?_
  intro W base args ds gs before hval hW _ _ _ _ _ _
  exact contract H enc W base args ds gs before hval hW
set_option maxHeartbeats 40000000 in
set_option maxRecDepth 100000 in
theorem closed:joinedFacts Tryz.prog 5 Tryz.f5 (OpenSpec.ofChange Rows.fnCheckFormulaSpec).bare Rows.fnCheckFormulaRow=true:=by
 unfold joinedFacts
 repeat' (with_reducible apply and_mk)
 all_goals (as_aux_lemma=>kernel_rfl)
theorem proved:Rows.FnCheckFormulaSaid :=
 OpenClaim.holds_of_cond 5 Tryz.f5 rfl rfl rfl rfl rfl rfl rfl ⟨rfl,rfl,rfl,rfl,rfl⟩ rfl rfl rfl rfl rfl (by kernel_rfl) Tryz.func5 closed
  (of_decide_eq_true (by kernel_rfl)) (by unfold Func.isWrapper;first|(rw [if_pos (by decide +kernel)];kernel_rfl)|(rw [if_neg (by decide +kernel)];exact ⟨rfl,rfl⟩))
  (fun os started H enc _ F=>by rw [OpenClaim.pre_eq_preRow];exact lifted os started H enc F)
end FnCheckFormula
end Go.Proofs.YtjhgpfaodkchjaaGreat
