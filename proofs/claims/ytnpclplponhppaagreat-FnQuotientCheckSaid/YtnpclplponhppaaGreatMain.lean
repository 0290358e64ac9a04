/- Quotients preserve formulas. The law FnQuotientCheck returns true at every input and leaves its input as it was. No condition. -/
import Derived.Test.YtnpclplponhppaaGreatG0
import Derived.Test.YtnpclplponhppaaGreatG1
import Derived.Test.YtnpclplponhppaaGreatG2
import Derived.Test.YtnpclplponhppaaGreatG3
import Derived.Test.YtnpclplponhppaaGreatP0
import Derived.Test.YtnpclplponhppaaGreatP1
import Derived.Test.YtnpclplponhppaaGreatP2
import Derived.Test.YtnpclplponhppaaGreatP3
import Derived.Test.YtnpclplponhppaaGreatP4
import Derived.Test.YtnpclplponhppaaGreatP5
import Derived.Test.YtnpclplponhppaaGreatP6
import Derived.Test.YtnpclplponhppaaGreatP7
set_option linter.all false
namespace Go.Proofs.YtnpclplponhppaaGreat
open Go.Gl
attribute [local irreducible] z21 AWP z36 z42 z39 RetS z47
theorem z1114 {g:Graph} {l:List Tree} {bl:List Int} (h:stB g l bl=true):bvB g bl=true∧GB g∧Part bl g.st.length∧glB g l=true∧Stb g.nx g.st.length (fun i=>bl.getD i 0)∧∀ i j,i < g.st.length→j < g.st.length→bl.getD i 0=bl.getD j 0→lsT g l i=lsT g l j:=by
 unfold stB at h
 simp only [y66,decide_eq_true_eq] at h
 obtain ⟨h1,h2,h3,h4⟩:=h
 obtain ⟨hG,hP,hl⟩:=z926.1 h2
 have hg:glB g l=true:=by unfold glB;rw [h1,(z94 g).2 hG];rfl
 refine ⟨h2,hG,hP.part hl,hg,Stb.of_ref h3,fun i j hi hj e=>?_⟩
 have key:∀ i j,j < i→i < g.st.length→bl.getD i 0=bl.getD j 0→lsT g l i=lsT g l j:=fun i j hji hi e=>by
  have:=h4 i j hji (by omega) e
  rwa [z703 (by omega),z703 (by omega)] at this
 rcases Nat.lt_trichotomy i j with h|h|h
 ·exact (key j i h hj e.symm).symm
 ·rw [h]
 ·exact key i j h hi e
theorem z1149 {g:Graph} {l:List Tree} {bl:List Int} (hG:GB g) (hp:Part bl g.st.length):glB g l=glB (quoG g bl) l:=by
 unfold glB
 rw [(z94 g).2 hG,(z94 _).2 (z1151 hG hp)]
set_option maxHeartbeats 6400000 in
theorem z408 (c:List Int) (hc:CodeOk c) (d:List Int) (hd:CodeOk d):CallsA Tryz.prog 7 [lst 1 enU c,lst 1 enU d] [] (.bool true) []:=by
 obtain ⟨g,l,B,⟨hg,hl,hB⟩,cd⟩:=z1221 c hc
 obtain ⟨g',l',f,⟨_,_,hf⟩,ce⟩:=z825 d hd
 have hgm:=hg.mx
 have hlm:=hl.mx
 have hst:=hg.st
 have hlen:=hc.len
 have hlen2:=hd.len
 unfold maxLen at hlen hlen2
 have hfm:f.mx:=z125 f (by unfold maxLen;omega)
 have k1:=z367 g hgm l hlm B (by omega)
 have k2:=z357 g hgm l hlm B (by omega) (by omega)
 by_cases hs:stB g l B=true
 ·obtain ⟨s1,s2,s3,s4,s5,s6⟩:=z1114 hs
  have k3:=z1148 g hgm hg.el B (by omega)
  have e:quoR g B=quoG g B:=by unfold quoR;rw [if_pos s1]
  rw [e,s1] at k3
  have hq:=quoG_d hg s2 s3
  have k4:=z413 g hgm l hlm f hfm
  have k5:=z413 (quoG g B) hq.mx l hlm f hfm
  rw [← vd_words (z1149 s2 s3) (fun _=>z955 s2 s3 s5 s6) f] at k5
  rw [hs] at k1 k2
  generalize vdI g l f=v at *
  generalize vdT g l f=t at *
  generalize vdT (quoG g B) l f=u at *
  generalize quoG g B=Q at *
  rw [y14 f] at *
  refine z10 z19 Tryz.func7 rfl rfl 84 Tryz.ntmps7 (by simp) ?_
  repeat' ((first|(apply y80 ok;rfl)|((apply z8)<;>intro _)|(apply z7 (cd);rfl;rfl)|(apply z7 (ce);rfl;rfl)|(apply z7 (k1);rfl;rfl)|(apply z7 (k2);rfl;rfl)|(apply z7 (k3);rfl;rfl)|(apply z7 (k4);rfl;rfl)|(apply z7 (k5);rfl;rfl))<;>conv=>whnf)
  all_goals (refine rsD [] [] rfl ?_;(repeat' first|exact y82 _|constructor))
  all_goals exact z1238 (by simp)
 ·rw [(y67 _).mp hs] at k1 k2
  rw [y14 f] at *
  refine z10 z19 Tryz.func7 rfl rfl 84 Tryz.ntmps7 (by simp) ?_
  repeat' ((first|(apply y80 ok;rfl)|((apply z8)<;>intro _)|(apply z7 (cd);rfl;rfl)|(apply z7 (ce);rfl;rfl)|(apply z7 (k1);rfl;rfl)|(apply z7 (k2);rfl;rfl))<;>conv=>whnf)
  all_goals (refine rsD [] [] rfl ?_;(repeat' first|exact y82 _|constructor))
set_option maxHeartbeats 6400000 in
theorem z256 (c:List Int) (hc:CodeOk c) (d:List Int) (hd:CodeOk d):CallsA Tryz.prog 8 [lst 1 enU c,lst 1 enU d] [] (.bool true) []:=by
 obtain ⟨g,l,⟨hg,hl⟩,cd⟩:=z371 c hc
 obtain ⟨g',l',f,⟨_,_,hf⟩,ce⟩:=z825 d hd
 have hgm:=hg.mx
 have hlm:=hl.mx
 have hst:=hg.st
 have hlen:=hc.len
 have hlen2:=hd.len
 unfold maxLen at hlen hlen2
 have hfm:f.mx:=z125 f (by unfold maxLen;omega)
 have k1:=z368 g hgm l hlm
 have k2:=z210 g hgm l hlm
 have bl:=z1244 g l
 have k6:=z1090 (bisR g l) (bisR g l) (by unfold maxLen;omega) (by unfold maxLen;omega)
 rw [y77 rfl] at k6
 rw [y14 f] at *
 by_cases h:glB g l=true
 ·obtain ⟨hG,hL⟩:=glB_GB h
  have e:bisR g l=bisF g l:=by unfold bisR;rw [if_pos h]
  have hp:=z836 g l
  have s5:=bisF_stb g l
  have k3:=z1148 g hgm hg.el (bisR g l) (by omega)
  rw [e] at k1 k2 k3 k6
  have s1:=bisF_bv (l:=l) hG
  have e2:quoR g (bisF g l)=quoG g (bisF g l):=by unfold quoR;rw [if_pos s1]
  rw [e2,s1] at k3
  have hq:=quoG_d hg hG hp
  have k4:=z347 g hgm l hlm f hfm
  have k5:=z347 (quoG g (bisF g l)) hq.mx l hlm f hfm
  have ec:cyB (quoG g (bisF g l)) l f=cyB g l f:=by
   unfold cyB
   rw [mk_words (z1149 hG hp) (fun _=>z955 hG hp s5 (fun i j hi hj=>bisF_let g l hi hj)) (ngA f)]
  rw [ec] at k5
  rw [h] at k1 k2
  rw [y14 f] at k4 k5
  generalize cyB g l f=v at *
  generalize hc1:(Cert.mk (cyR g l f))=t at *
  generalize hc2:(Cert.mk (cyR (quoG g (bisF g l)) l f))=u at *
  clear hc1 hc2
  generalize quoG g (bisF g l)=Q at *
  generalize bisF g l=bl at *
  refine z10 z19 Tryz.func8 rfl rfl 98 Tryz.ntmps8 (by simp) ?_
  repeat' ((first|(apply y80 ok;rfl)|((apply z8)<;>intro _)|(apply z7 (cd);rfl;rfl)|(apply z7 (ce);rfl;rfl)|(apply z7 (k1);rfl;rfl)|(apply z7 (k2);rfl;rfl)|(apply z7 (k6);rfl;rfl)|(apply z7 (k3);rfl;rfl)|(apply z7 (k4);rfl;rfl)|(apply z7 (k5);rfl;rfl))<;>conv=>whnf)
  all_goals (refine rsD [] [] rfl ?_;(repeat' first|exact y82 _|constructor))
  all_goals exact z1238 (by simp)
 ·rw [(y67 _).mp h] at k1 k2
  generalize bisR g l=bl at *
  refine z10 z19 Tryz.func8 rfl rfl 98 Tryz.ntmps8 (by simp) ?_
  repeat' ((first|(apply y80 ok;rfl)|((apply z8)<;>intro _)|(apply z7 (cd);rfl;rfl)|(apply z7 (ce);rfl;rfl)|(apply z7 (k1);rfl;rfl)|(apply z7 (k2);rfl;rfl)|(apply z7 (k6);rfl;rfl))<;>conv=>whnf)
  all_goals (refine rsD [] [] rfl ?_;(repeat' first|exact y82 _|constructor))
end Go.Proofs.YtnpclplponhppaaGreat
namespace Go.Proofs.YtnpclplponhppaaGreat
open Go.Gl
open Go.ChangeShapes Go.WideShapes Go.ChangeAt Go.RowKit
attribute [local irreducible] z21 AWP z36 z42 z39
namespace FnQuotientCheck
theorem args_ok:ArgsOk Tryz.prog Tryz.f7.params.toList (fun xs _=>∃ (c:List Int) (d:List Int),xs=[lst 1 enU c,lst 1 enU d]∧CodeOk c∧CodeOk d):=by
 rw [Tryz.params7]
 refine ArgsOk.imp (z432 z738 (z432 z738 (z1000))) ?_
 rintro xs m ⟨c,_,rfl,hc,d,_,rfl,hd,rfl⟩
 exact ⟨c,d,rfl,hc,hd⟩
set_option maxRecDepth 100000 in
theorem contract (H : Type) (enc : TypeId × Value → H) (W : World) (base : Nat) (args : Array Value) (ds gs : List (DataW H)) (before : List MemPlace)
    (hval:∀ (j:Nat) t v,Tryz.f7.params[j]?=some t→args[j]?=some v→Value.okWide Tryz.prog W .any base t v)
    (hW:DataW.Whole enc Tryz.prog Tryz.f7.params.toList Rows.fnQuotientCheckSpec.vars false W args.toList ds gs before) :
    Calls Tryz.prog 7 args W fun e W'=>∃ v,e=.returned v∧Rows.fnQuotientCheckSpec.post enc Tryz.prog Tryz.f7 false true false false W args v W':=by
  refine z973 z583 z637 (by rw [Tryz.params7];decide +kernel) rfl (fun ds h=>?_) (by kernel_rfl) Tryz.underlying4 args_ok (fun xs m h _=>?_) hval hW
  · rw [Tryz.params7] at h
    match ds,h with
    | [_,_],_=>rfl
  · obtain ⟨c,d,rfl,hc,hd⟩:=h
    exact z408 c hc d hd
noncomputable def w0 (os:Os):World:=World.holding Tryz.prog os ⟨#[],#[],[]⟩
def zeros:Array Value:=#[.slice none 0 0,.slice none 0 0]
theorem reads (os:Os) {H:Type} (enc:TypeId×Value→H):∃ places,DataW.whole enc Tryz.prog ((w0 os).forCall (fun _ _=>0) ⟨#[],zeros,[]⟩).memory Tryz.f7.params.toList Rows.fnQuotientCheckSpec.vars false zeros.toList 8=some ([.nil,.nil],[],places) :=
 ⟨[],by kernel_rfl⟩
set_option maxRecDepth 100000 in
theorem lifted (os : Os) (started : os.Started) (H : Type) (enc : TypeId × Value → H) (F : Stop.Interp) :
    ReturnsInHanded {} Tryz.checked os 7 .any ((OpenSpec.ofChange Rows.fnQuotientCheckSpec).preRow enc Tryz.prog Tryz.f7 Rows.fnQuotientCheckRow.domain false Rows.fnQuotientCheckRow.laid) (((OpenSpec.ofChange Rows.fnQuotientCheckSpec).at F).post enc Tryz.prog Tryz.f7 false true false false):=by
  obtain ⟨places,hx⟩:=reads os enc
  refine returnsInHanded_of_row (C:=Tryz.checked) (s:=OpenSpec.ofChange Rows.fnQuotientCheckSpec) own started (by kernel_rfl) Tryz.func7
    (witness_row_at (enc:=enc) (C:=Tryz.checked) false (w0 os) zeros rfl (by kernel_rfl) (by kernel_rfl) (by kernel_rfl)
      (OpenSpec.preRow_of_cond 8 hx (by kernel_rfl) (fun k hk=>by cases hk) (by kernel_rfl) (laidMetH_nil _ _))) ?_
  intro W base args ds gs before hval hW _ _ _ _ _ _
  exact contract H enc W base args ds gs before hval hW
set_option maxHeartbeats 40000000 in
set_option maxRecDepth 100000 in
theorem closed:joinedFacts Tryz.prog 7 Tryz.f7 (OpenSpec.ofChange Rows.fnQuotientCheckSpec).bare Rows.fnQuotientCheckRow=true:=by
 unfold joinedFacts
 repeat' (with_reducible apply and_mk)
 all_goals (as_aux_lemma=>kernel_rfl)
theorem proved:Rows.FnQuotientCheckSaid :=
 OpenClaim.holds_of_cond 7 Tryz.f7 rfl rfl rfl rfl rfl rfl rfl ⟨rfl,rfl,rfl,rfl,rfl⟩ rfl rfl rfl rfl rfl (by kernel_rfl) Tryz.func7 closed
  (of_decide_eq_true (by kernel_rfl)) (by unfold Func.isWrapper;first|(rw [if_pos (by decide +kernel)];kernel_rfl)|(rw [if_neg (by decide +kernel)];exact ⟨rfl,rfl⟩))
  (fun os started H enc _ F=>by rw [OpenClaim.pre_eq_preRow];exact lifted os started H enc F)
end FnQuotientCheck
end Go.Proofs.YtnpclplponhppaaGreat
