/- Certificates survive quotients. The law FnCertificateQuotient returns true at every input and leaves its input as it was. No condition. -/
import Derived.Test.YtjhgpfaodkchjaaGreatG0
import Derived.Test.YtjhgpfaodkchjaaGreatG1
import Derived.Test.YtjhgpfaodkchjaaGreatG2
import Derived.Test.YtjhgpfaodkchjaaGreatG3
import Derived.Test.YtjhgpfaodkchjaaGreatP0
import Derived.Test.YtjhgpfaodkchjaaGreatP1
import Derived.Test.YtjhgpfaodkchjaaGreatP2
import Derived.Test.YtjhgpfaodkchjaaGreatP3
import Derived.Test.YtjhgpfaodkchjaaGreatP4
import Derived.Test.YtjhgpfaodkchjaaGreatP5
import Derived.Test.YtjhgpfaodkchjaaGreatP6
import Derived.Test.YtjhgpfaodkchjaaGreatP7
set_option linter.all false
namespace Go.Proofs.YtjhgpfaodkchjaaGreat
open Go.Gl
attribute [local irreducible] z20 AWP z31 z38 z34 RetS z45
theorem quo_glB {g:Graph} {l:List Tree} {bl:List Int} (hG:GB g) (hp:Part bl g.st.length):glB g l=glB (quoG g bl) l:=by
 unfold glB
 rw [(z99 g).2 hG,(z99 _).2 (z1086 hG hp)]
set_option maxHeartbeats 6400000 in
theorem z242 (c:List Int) (hc:CodeOk c) (d:List Int) (hd:CodeOk d):CallsA Tryz.prog 7 [lst 1 enU c,lst 1 enU d] [] (.bool true) []:=by
 obtain ⟨g,l,⟨hg,hl⟩,cd⟩:=z355 c hc
 obtain ⟨g',l',f,⟨_,_,hf⟩,ce⟩:=z1159 d hd
 have hgm:=hg.mx
 have hlm:=hl.mx
 have hst:=hg.st
 have hlen:=hc.len
 have hlen2:=hd.len
 unfold maxLen at hlen hlen2
 have hfm:f.mx:=z136 f (by unfold maxLen;omega)
 have k1:=z352 g hgm l hlm
 have k2:=z345 g hgm l hlm
 have bl:=bisR_le g l
 have k6:=z1037 (bisR g l) (bisR g l) (by unfold maxLen;omega) (by unfold maxLen;omega)
 rw [y76 rfl] at k6
 rw [y14 f] at *
 by_cases h:glB g l=true
 ·obtain ⟨hG,hL⟩:=glB_GB h
  have e:bisR g l=bisF g l:=by unfold bisR;rw [if_pos h]
  have hp:=z789 g l
  have s5:=bisF_stb g l
  have k3:=quot_ok g hgm hg.el (bisR g l) (by omega)
  rw [e] at k1 k2 k3 k6
  have s1:=bisF_bv (l:=l) hG
  have e2:quoR g (bisF g l)=quoG g (bisF g l):=by unfold quoR;rw [if_pos s1]
  rw [e2,s1] at k3
  have hq:=quoG_d hg hG hp
  have k4:=z335 g hgm l hlm f hfm
  have k5:=z335 (quoG g (bisF g l)) hq.mx l hlm f hfm
  have ec:cyB (quoG g (bisF g l)) l f=cyB g l f:=by
   unfold cyB
   rw [mk_words (quo_glB hG hp) (fun _=>quo_word hG hp s5 (fun i j hi hj=>bisF_let g l hi hj)) (ngA f)]
  rw [ec] at k5
  rw [h] at k1 k2
  rw [y14 f] at k4 k5
  generalize cyB g l f=v at *
  generalize hc1:(Cert.mk (cyR g l f))=t at *
  generalize hc2:(Cert.mk (cyR (quoG g (bisF g l)) l f))=u at *
  clear hc1 hc2
  generalize quoG g (bisF g l)=Q at *
  generalize bisF g l=bl at *
  refine z10 z19 Tryz.func7 rfl rfl 98 Tryz.ntmps7 (by simp) ?_
  repeat' ((first|(apply y79 ok;rfl)|((apply z7)<;>intro _)|(apply z8 (cd);rfl;rfl)|(apply z8 (ce);rfl;rfl)|(apply z8 (k1);rfl;rfl)|(apply z8 (k2);rfl;rfl)|(apply z8 (k6);rfl;rfl)|(apply z8 (k3);rfl;rfl)|(apply z8 (k4);rfl;rfl)|(apply z8 (k5);rfl;rfl))<;>conv=>whnf)
  all_goals (refine rsD [] [] rfl ?_;(repeat' first|exact y81 _|constructor))
  all_goals exact bool_le (by simp)
 ·rw [(y67 _).mp h] at k1 k2
  generalize bisR g l=bl at *
  refine z10 z19 Tryz.func7 rfl rfl 98 Tryz.ntmps7 (by simp) ?_
  repeat' ((first|(apply y79 ok;rfl)|((apply z7)<;>intro _)|(apply z8 (cd);rfl;rfl)|(apply z8 (ce);rfl;rfl)|(apply z8 (k1);rfl;rfl)|(apply z8 (k2);rfl;rfl)|(apply z8 (k6);rfl;rfl))<;>conv=>whnf)
  all_goals (refine rsD [] [] rfl ?_;(repeat' first|exact y81 _|constructor))
end Go.Proofs.YtjhgpfaodkchjaaGreat
namespace Go.Proofs.YtjhgpfaodkchjaaGreat
open Go.Gl
open Go.ChangeShapes Go.WideShapes Go.ChangeAt Go.RowKit
attribute [local irreducible] z20 AWP z31 z38 z34
namespace FnCertificateQuotient
theorem args_ok:ArgsOk Tryz.prog Tryz.f7.params.toList (fun xs _=>∃ (c:List Int) (d:List Int),xs=[lst 1 enU c,lst 1 enU d]∧CodeOk c∧CodeOk d):=by
 rw [Tryz.params7]
 refine ArgsOk.imp (z793 z1192 (z793 z1192 (args_nil))) ?_
 rintro xs m ⟨c,_,rfl,hc,d,_,rfl,hd,rfl⟩
 exact ⟨c,d,rfl,hc,hd⟩
set_option maxRecDepth 100000 in
theorem contract (H : Type) (enc : TypeId × Value → H) (W : World) (base : Nat) (args : Array Value) (ds gs : List (DataW H)) (before : List MemPlace)
    (hval:∀ (j:Nat) t v,Tryz.f7.params[j]?=some t→args[j]?=some v→Value.okWide Tryz.prog W .any base t v)
    (hW:DataW.Whole enc Tryz.prog Tryz.f7.params.toList Rows.fnCertificateQuotientSpec.vars false W args.toList ds gs before) :
    Calls Tryz.prog 7 args W fun e W'=>∃ v,e=.returned v∧Rows.fnCertificateQuotientSpec.post enc Tryz.prog Tryz.f7 false true false false W args v W':=by
  refine law_post z882 z989 (by rw [Tryz.params7];decide +kernel) rfl (fun ds h=>?_) (by kernel_rfl) Tryz.underlying4 args_ok (fun xs m h _=>?_) hval hW
  · rw [Tryz.params7] at h
    match ds,h with
    | [_,_],_=>rfl
  · obtain ⟨c,d,rfl,hc,hd⟩:=h
    exact z242 c hc d hd
noncomputable def w0 (os:Os):World:=World.holding Tryz.prog os ⟨#[],#[],[]⟩
def zeros:Array Value:=#[.slice none 0 0,.slice none 0 0]
theorem reads (os:Os) {H:Type} (enc:TypeId×Value→H):∃ places,DataW.whole enc Tryz.prog ((w0 os).forCall (fun _ _=>0) ⟨#[],zeros,[]⟩).memory Tryz.f7.params.toList Rows.fnCertificateQuotientSpec.vars false zeros.toList 8=some ([.nil,.nil],[],places) :=
 ⟨[],by kernel_rfl⟩
set_option maxRecDepth 100000 in
theorem lifted (os : Os) (started : os.Started) (H : Type) (enc : TypeId × Value → H) (F : Stop.Interp) :
    ReturnsInHanded {} Tryz.checked os 7 .any ((OpenSpec.ofChange Rows.fnCertificateQuotientSpec).preRow enc Tryz.prog Tryz.f7 Rows.fnCertificateQuotientRow.domain false Rows.fnCertificateQuotientRow.laid) (((OpenSpec.ofChange Rows.fnCertificateQuotientSpec).at F).post enc Tryz.prog Tryz.f7 false true false false):=by
  obtain ⟨places,hx⟩:=reads os enc
  refine returnsInHanded_of_row (C:=Tryz.checked) (s:=OpenSpec.ofChange Rows.fnCertificateQuotientSpec) own started (by kernel_rfl) Tryz.func7
    (witness_row_at (enc:=enc) (C:=Tryz.checked) false (w0 os) zeros rfl (by kernel_rfl) (by kernel_rfl) (by kernel_rfl)
      (OpenSpec.preRow_of_cond 8 hx (by kernel_rfl) (fun k hk=>by cases hk) (by kernel_rfl) (laidMetH_nil _ _))) ?_
  intro W base args ds gs before hval hW _ _ _ _ _ _
  exact contract H enc W base args ds gs before hval hW
set_option maxHeartbeats 40000000 in
set_option maxRecDepth 100000 in
theorem closed:joinedFacts Tryz.prog 7 Tryz.f7 (OpenSpec.ofChange Rows.fnCertificateQuotientSpec).bare Rows.fnCertificateQuotientRow=true:=by
 unfold joinedFacts
 repeat' (with_reducible apply and_mk)
 all_goals (as_aux_lemma=>kernel_rfl)
theorem proved:Rows.FnCertificateQuotientSaid :=
 OpenClaim.holds_of_cond 7 Tryz.f7 rfl rfl rfl rfl rfl rfl rfl ⟨rfl,rfl,rfl,rfl,rfl⟩ rfl rfl rfl rfl rfl (by kernel_rfl) Tryz.func7 closed
  (of_decide_eq_true (by kernel_rfl)) (by unfold Func.isWrapper;first|(rw [if_pos (by decide +kernel)];kernel_rfl)|(rw [if_neg (by decide +kernel)];exact ⟨rfl,rfl⟩))
  (fun os started H enc _ F=>by rw [OpenClaim.pre_eq_preRow];exact lifted os started H enc F)
end FnCertificateQuotient
end Go.Proofs.YtjhgpfaodkchjaaGreat
