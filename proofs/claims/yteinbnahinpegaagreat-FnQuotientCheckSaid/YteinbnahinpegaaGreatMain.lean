/- Quotients preserve formulas. The law FnQuotientCheck returns true at every input and leaves its input as it was. No condition. -/
import Derived.Test.YteinbnahinpegaaGreatG0
import Derived.Test.YteinbnahinpegaaGreatG1
import Derived.Test.YteinbnahinpegaaGreatG2
import Derived.Test.YteinbnahinpegaaGreatG3
import Derived.Test.YteinbnahinpegaaGreatP0
import Derived.Test.YteinbnahinpegaaGreatP1
import Derived.Test.YteinbnahinpegaaGreatP2
import Derived.Test.YteinbnahinpegaaGreatP3
import Derived.Test.YteinbnahinpegaaGreatP4
import Derived.Test.YteinbnahinpegaaGreatP5
import Derived.Test.YteinbnahinpegaaGreatP6
import Derived.Test.YteinbnahinpegaaGreatP7
set_option linter.all false
namespace Go.Proofs.YteinbnahinpegaaGreat
open Go.Gl
attribute [local irreducible] z20 AWP z30 z35 z34 RetS z42
theorem z1053 {g:Graph} {l:List Tree} {bl:List Int} (h:stB g l bl=true):bvB g bl=true∧GB g∧Part bl g.st.length∧glB g l=true∧Stb g.nx g.st.length (fun i=>bl.getD i 0)∧∀ i j,i < g.st.length→j < g.st.length→bl.getD i 0=bl.getD j 0→lsT g l i=lsT g l j:=by
 unfold stB at h
 simp only [y67,decide_eq_true_eq] at h
 obtain ⟨h1,h2,h3,h4⟩:=h
 obtain ⟨hG,hP,hl⟩:=z1166.1 h2
 have hg:glB g l=true:=by unfold glB;rw [h1,(z103 g).2 hG];rfl
 refine ⟨h2,hG,hP.part hl,hg,Stb.of_ref h3,fun i j hi hj e=>?_⟩
 have key:∀ i j,j < i→i < g.st.length→bl.getD i 0=bl.getD j 0→lsT g l i=lsT g l j:=fun i j hji hi e=>by
  have:=h4 i j hji (by omega) e
  rwa [z650 (by omega),z650 (by omega)] at this
 rcases Nat.lt_trichotomy i j with h|h|h
 ·exact (key j i h hj e.symm).symm
 ·rw [h]
 ·exact key i j h hi e
theorem quo_glB {g:Graph} {l:List Tree} {bl:List Int} (hG:GB g) (hp:Part bl g.st.length):glB g l=glB (quoG g bl) l:=by
 unfold glB
 rw [(z103 g).2 hG,(z103 _).2 (z1086 hG hp)]
set_option maxHeartbeats 6400000 in
theorem z386 (c:List Int) (hc:CodeOk c) (d:List Int) (hd:CodeOk d):CallsA Tryz.prog 3 [lst 1 enU c,lst 1 enU d] [] (.bool true) []:=by
 obtain ⟨g,l,B,⟨hg,hl,hB⟩,cd⟩:=z1154 c hc
 obtain ⟨g',l',f,⟨_,_,hf⟩,ce⟩:=z1153 d hd
 have hgm:=hg.mx
 have hlm:=hl.mx
 have hst:=hg.st
 have hlen:=hc.len
 have hlen2:=hd.len
 unfold maxLen at hlen hlen2
 have hfm:f.mx:=z132 f (by unfold maxLen;omega)
 have k1:=z349 g hgm l hlm B (by omega)
 have k2:=z341 g hgm l hlm B (by omega) (by omega)
 by_cases hs:stB g l B=true
 ·obtain ⟨s1,s2,s3,s4,s5,s6⟩:=z1053 hs
  have k3:=quot_ok g hgm hg.el B (by omega)
  have e:quoR g B=quoG g B:=by unfold quoR;rw [if_pos s1]
  rw [e,s1] at k3
  have hq:=quoG_d hg s2 s3
  have k4:=z390 g hgm l hlm f hfm
  have k5:=z390 (quoG g B) hq.mx l hlm f hfm
  rw [← vd_words (quo_glB s2 s3) (fun _=>quo_word s2 s3 s5 s6) f] at k5
  rw [hs] at k1 k2
  generalize vdI g l f=v at *
  generalize vdT g l f=t at *
  generalize vdT (quoG g B) l f=u at *
  generalize quoG g B=Q at *
  rw [y15 f] at *
  refine z10 z19 Tryz.func3 rfl rfl 84 Tryz.ntmps3 (by simp) ?_
  repeat' ((first|(apply y4 ok;rfl)|((apply z8)<;>intro _)|(apply z6 (cd);rfl;rfl)|(apply z6 (ce);rfl;rfl)|(apply z6 (k1);rfl;rfl)|(apply z6 (k2);rfl;rfl)|(apply z6 (k3);rfl;rfl)|(apply z6 (k4);rfl;rfl)|(apply z6 (k5);rfl;rfl))<;>conv=>whnf)
  all_goals (refine rsD [] [] rfl ?_;(repeat' first|exact y82 _|constructor))
  all_goals exact bool_le (by simp)
 ·rw [(y68 _).mp hs] at k1 k2
  rw [y15 f] at *
  refine z10 z19 Tryz.func3 rfl rfl 84 Tryz.ntmps3 (by simp) ?_
  repeat' ((first|(apply y4 ok;rfl)|((apply z8)<;>intro _)|(apply z6 (cd);rfl;rfl)|(apply z6 (ce);rfl;rfl)|(apply z6 (k1);rfl;rfl)|(apply z6 (k2);rfl;rfl))<;>conv=>whnf)
  all_goals (refine rsD [] [] rfl ?_;(repeat' first|exact y82 _|constructor))
end Go.Proofs.YteinbnahinpegaaGreat
namespace Go.Proofs.YteinbnahinpegaaGreat
open Go.Gl
open Go.ChangeShapes Go.WideShapes Go.ChangeAt Go.RowKit
attribute [local irreducible] z20 AWP z30 z35 z34
namespace FnQuotientCheck
theorem args_ok:ArgsOk Tryz.prog Tryz.f3.params.toList (fun xs _=>∃ (c:List Int) (d:List Int),xs=[lst 1 enU c,lst 1 enU d]∧CodeOk c∧CodeOk d):=by
 rw [Tryz.params3]
 refine ArgsOk.imp (z776 z1186 (z776 z1186 (args_nil))) ?_
 rintro xs m ⟨c,_,rfl,hc,d,_,rfl,hd,rfl⟩
 exact ⟨c,d,rfl,hc,hd⟩
set_option maxRecDepth 100000 in
theorem contract (H : Type) (enc : TypeId × Value → H) (W : World) (base : Nat) (args : Array Value) (ds gs : List (DataW H)) (before : List MemPlace)
    (hval:∀ (j:Nat) t v,Tryz.f3.params[j]?=some t→args[j]?=some v→Value.okWide Tryz.prog W .any base t v)
    (hW:DataW.Whole enc Tryz.prog Tryz.f3.params.toList Rows.fnQuotientCheckSpec.vars false W args.toList ds gs before) :
    Calls Tryz.prog 3 args W fun e W'=>∃ v,e=.returned v∧Rows.fnQuotientCheckSpec.post enc Tryz.prog Tryz.f3 false true false false W args v W':=by
  refine law_post z864 z982 (by rw [Tryz.params3];decide +kernel) rfl (fun ds h=>?_) (by kernel_rfl) Tryz.underlying4 args_ok (fun xs m h _=>?_) hval hW
  · rw [Tryz.params3] at h
    match ds,h with
    | [_,_],_=>rfl
  · obtain ⟨c,d,rfl,hc,hd⟩:=h
    exact z386 c hc d hd
noncomputable def w0 (os:Os):World:=World.holding Tryz.prog os ⟨#[],#[],[]⟩
def zeros:Array Value:=#[.slice none 0 0,.slice none 0 0]
theorem reads (os:Os) {H:Type} (enc:TypeId×Value→H):∃ places,DataW.whole enc Tryz.prog ((w0 os).forCall (fun _ _=>0) ⟨#[],zeros,[]⟩).memory Tryz.f3.params.toList Rows.fnQuotientCheckSpec.vars false zeros.toList 8=some ([.nil,.nil],[],places) :=
 ⟨[],by kernel_rfl⟩
set_option maxRecDepth 100000 in
theorem lifted (os : Os) (started : os.Started) (H : Type) (enc : TypeId × Value → H) (F : Stop.Interp) :
    ReturnsInHanded {} Tryz.checked os 3 .any ((OpenSpec.ofChange Rows.fnQuotientCheckSpec).preRow enc Tryz.prog Tryz.f3 Rows.fnQuotientCheckRow.domain false Rows.fnQuotientCheckRow.laid) (((OpenSpec.ofChange Rows.fnQuotientCheckSpec).at F).post enc Tryz.prog Tryz.f3 false true false false):=by
  obtain ⟨places,hx⟩:=reads os enc
  refine returnsInHanded_of_row (C:=Tryz.checked) (s:=OpenSpec.ofChange Rows.fnQuotientCheckSpec) own started (by kernel_rfl) Tryz.func3
    (witness_row_at (enc:=enc) (C:=Tryz.checked) false (w0 os) zeros rfl (by kernel_rfl) (by kernel_rfl) (by kernel_rfl)
      (OpenSpec.preRow_of_cond 8 hx (by kernel_rfl) (fun k hk=>by cases hk) (by kernel_rfl) (laidMetH_nil _ _))) ?_
  intro W base args ds gs before hval hW _ _ _ _ _ _
  exact contract H enc W base args ds gs before hval hW
set_option maxHeartbeats 40000000 in
set_option maxRecDepth 100000 in
theorem closed:joinedFacts Tryz.prog 3 Tryz.f3 (OpenSpec.ofChange Rows.fnQuotientCheckSpec).bare Rows.fnQuotientCheckRow=true:=by
 unfold joinedFacts
 repeat' (with_reducible apply and_mk)
 all_goals (as_aux_lemma=>kernel_rfl)
theorem proved:Rows.FnQuotientCheckSaid :=
 OpenClaim.holds_of_cond 3 Tryz.f3 rfl rfl rfl rfl rfl rfl rfl ⟨rfl,rfl,rfl,rfl,rfl⟩ rfl rfl rfl rfl rfl (by kernel_rfl) Tryz.func3 closed
  (of_decide_eq_true (by kernel_rfl)) (by unfold Func.isWrapper;first|(rw [if_pos (by decide +kernel)];kernel_rfl)|(rw [if_neg (by decide +kernel)];exact ⟨rfl,rfl⟩))
  (fun os started H enc _ F=>by rw [OpenClaim.pre_eq_preRow];exact lifted os started H enc F)
end FnQuotientCheck
end Go.Proofs.YteinbnahinpegaaGreat
