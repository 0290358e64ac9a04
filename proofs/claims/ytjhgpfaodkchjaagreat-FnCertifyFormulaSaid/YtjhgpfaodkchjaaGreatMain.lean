/- Formulas that hold are certified. The law FnCertifyFormula returns true at every input and leaves its input as it was. No condition. -/
import Derived.Test.YtjhgpfaodkchjaaGreatG0
import Derived.Test.YtjhgpfaodkchjaaGreatG1
import Derived.Test.YtjhgpfaodkchjaaGreatG2
import Derived.Test.YtjhgpfaodkchjaaGreatG3
import Derived.Test.YtjhgpfaodkchjaaGreatP0
import Derived.Test.YtjhgpfaodkchjaaGreatP1
import Derived.Test.YtjhgpfaodkchjaaGreatP2
import Derived.Test.YtjhgpfaodkchjaaGreatP3
import Derived.Test.YtjhgpfaodkchjaaGreatP4
import Derived.Test.YtjhgpfaodkchjaaGreatP5
import Derived.Test.YtjhgpfaodkchjaaGreatP6
import Derived.Test.YtjhgpfaodkchjaaGreatP7
set_option linter.all false
namespace Go.Proofs.YtjhgpfaodkchjaaGreat
open Go.Gl
attribute [local irreducible] z18 AWP z41 z46 z44 RetS z51
theorem cy_vd (g:Graph) (l:List Tree) (f:Tree):cyB g l f=decide (vdI g l f=0):=by
 rw [Bool.eq_iff_iff,decide_eq_true_eq]
 unfold cyB vdI
 rw [y68]
 by_cases h4:ngS f=true
 ·have hb:=ngB_fm (show ngB f=true by unfold ngS at h4;exact (Bool.and_eq_true_iff.1 h4).1)
  have hv:=z1070 h4
  rw [hb,Bool.and_true,if_pos h4]
  unfold mkOk
  by_cases hg:glB g l=true
  ·have e1:ftO g l (ngA f)=trcO g (g.st.map (z39 l)) (ngA f):=by unfold ftO;rw [if_pos (by rw [hg,hv];rfl)]
   rw [if_pos hg,hg,hv,e1]
   cases trcO g (g.st.map (z39 l)) (ngA f)<;>simp [h4]
  ·rw [if_neg hg,(y69 _).mp hg]
   simp
 ·rw [if_neg h4]
  constructor
  ·rintro ⟨h,_⟩;exact absurd h h4
  ·intro h
   split at h<;>cases h
theorem vf_cy (g:Graph) (l:List Tree) (f:Tree):vfB g l f ⟨cyR g l f⟩=cyB g l f:=by
 unfold vfB cyB cyR
 by_cases h:ngS f=true
 ·rw [if_pos h,h,Bool.true_and,Bool.true_and,Bool.eq_iff_iff]
  exact ⟨certB_gl,mk_cert⟩
 ·rw [(y69 _).mp h];rfl
theorem z982 (bs:List Int) (hb:CodeOk bs):∃ (g:Graph) (l:List Tree) (f:Tree),(g.d∧Lab.d l∧f.sz≤22)∧CallsA Tryz.prog 10 [lst 1 enU bs] [] (.tup [.agg g.cs,lst 3 Tree.cs' l,z25 Tree.cs' f]) []:=by
 obtain ⟨g,l,f,h,cd⟩:=z1120 bs hb
 refine ⟨g,l,f,h,?_⟩
 rw [y14 f] at *
 refine z7 z14 Tryz.func10 rfl rfl 10 Tryz.ntmps10 (by simp) ?_
 repeat' ((first|(apply y81 ok;rfl)|(apply z4 (cd);rfl;rfl))<;>conv=>whnf)
 all_goals (refine rsD [] [] rfl ?_;(repeat' first|exact y83 _|constructor))
theorem z566 (g:Graph) (hg:g.mx) (l:List Tree) (hl:Lmx l) (f:Tree) (hf:f.mx):CallsA Tryz.prog 11 [.agg g.cs,lst 3 Tree.cs' l,z25 Tree.cs' f] [] (.tup [.agg (Cert.mk (cyR g l f)).cs,.bool (cyB g l f)]) []:=(by refine y4 (z528 g hg l hl f hf) [] [0] rfl rfl rfl ?_ ?_<;>(repeat' first|exact y83 _|((apply z43 rfl rfl rfl);(focus ((repeat ((exact z32 (fun _=>rfl) _)));done));(focus (((simp;done));done)))|apply z36|apply z69|constructor))
set_option maxHeartbeats 6400000 in
theorem z341 (c:List Int) (hc:CodeOk c):CallsA Tryz.prog 3 [lst 1 enU c] [] (.bool true) []:=by
 obtain ⟨g,l,f,⟨hg,hl,hf⟩,cd⟩:=z982 c hc
 have hgm:=hg.mx
 have hlm:=hl.mx
 have hlen:=hc.len
 unfold maxLen at hlen
 have hfm:f.mx:=z98 f (by unfold maxLen;omega)
 have hr:=cyR_le g l f
 have hrl:(cyR g l f).length≤3840:=hr
 have k1:=z566 g hgm l hlm f hfm
 have k2:=z557 g hgm l hlm f hfm
 have k3:=z1007 (cyR g l f) (cyR g l f) (by unfold maxLen;omega) (by unfold maxLen;omega)
 rw [y78 rfl] at k3
 have k4:=z652 g hgm l hlm f hfm
 have k5:=z648 g hgm l hlm f hfm ⟨cyR g l f⟩ (by unfold Cert.mx maxLen;omega)
 rw [vf_cy] at k5
 have e:(Cert.mk (cyR g l f)).cs=[ints (cyR g l f)]:=rfl
 rw [e] at k1 k2 k5
 rw [cy_vd] at k1 k2 k5
 clear e hr
 generalize cyR g l f=R at *
 generalize vdI g l f=v at *
 generalize vdT g l f=t at *
 rw [y14 f] at *
 refine z7 z14 Tryz.func3 rfl rfl 66 Tryz.ntmps3 (by simp) ?_
 repeat' ((first|(apply y81 ok;rfl)|((first|apply z6|apply z35)<;>intro _)|(apply z4 (cd);rfl;rfl)|(apply z4 (k1);rfl;rfl)|(apply z4 (k2);rfl;rfl)|(apply z4 (k3);rfl;rfl)|(apply z4 (k4);rfl;rfl)|(apply z4 (k5);rfl;rfl))<;>conv=>whnf)
 all_goals first|(exfalso;contradiction)|(refine rsD [] [] rfl ?_;(repeat' first|exact y83 _|constructor))
 all_goals exact z1139 (by simp)
end Go.Proofs.YtjhgpfaodkchjaaGreat
namespace Go.Proofs.YtjhgpfaodkchjaaGreat
open Go.Gl
open Go.ChangeShapes Go.WideShapes Go.ChangeAt Go.RowKit
attribute [local irreducible] z18 AWP z41 z46 z44
namespace FnCertifyFormula
theorem args_ok:ArgsOk Tryz.prog Tryz.f3.params.toList (fun xs _=>∃ (c:List Int),xs=[lst 1 enU c]∧CodeOk c):=by
 rw [Tryz.params3]
 refine ArgsOk.imp (z1147 ad_code (args_nil)) ?_
 rintro xs m ⟨c,_,rfl,hc,rfl⟩
 exact ⟨c,rfl,hc⟩
set_option maxRecDepth 100000 in
theorem contract (H : Type) (enc : TypeId × Value → H) (W : World) (base : Nat) (args : Array Value) (ds gs : List (DataW H)) (before : List MemPlace)
    (hval:∀ (j:Nat) t v,Tryz.f3.params[j]?=some t→args[j]?=some v→Value.okWide Tryz.prog W .any base t v)
    (hW:DataW.Whole enc Tryz.prog Tryz.f3.params.toList Rows.fnCertifyFormulaSpec.vars false W args.toList ds gs before) :
    Calls Tryz.prog 3 args W fun e W'=>∃ v,e=.returned v∧Rows.fnCertifyFormulaSpec.post enc Tryz.prog Tryz.f3 false true false false W args v W':=by
  refine law_post z855 z954 (by rw [Tryz.params3];decide +kernel) rfl (fun ds h=>?_) (by kernel_rfl) Tryz.underlying4 args_ok (fun xs m h _=>?_) hval hW
  · rw [Tryz.params3] at h
    match ds,h with
    | [_],_=>rfl
  · obtain ⟨c,rfl,hc⟩:=h
    exact z341 c hc
noncomputable def w0 (os:Os):World:=World.holding Tryz.prog os ⟨#[],#[],[]⟩
def zeros:Array Value:=#[.slice none 0 0]
theorem reads (os:Os) {H:Type} (enc:TypeId×Value→H):∃ places,DataW.whole enc Tryz.prog ((w0 os).forCall (fun _ _=>0) ⟨#[],zeros,[]⟩).memory Tryz.f3.params.toList Rows.fnCertifyFormulaSpec.vars false zeros.toList 8=some ([.nil],[],places) :=
 ⟨[],by kernel_rfl⟩
set_option maxRecDepth 100000 in
theorem lifted (os : Os) (started : os.Started) (H : Type) (enc : TypeId × Value → H) (F : Stop.Interp) :
    ReturnsInHanded {} Tryz.checked os 3 .any ((OpenSpec.ofChange Rows.fnCertifyFormulaSpec).preRow enc Tryz.prog Tryz.f3 Rows.fnCertifyFormulaRow.domain false Rows.fnCertifyFormulaRow.laid) (((OpenSpec.ofChange Rows.fnCertifyFormulaSpec).at F).post enc Tryz.prog Tryz.f3 false true false false):=by
  obtain ⟨places,hx⟩:=reads os enc
  refine returnsInHanded_of_row (C:=Tryz.checked) (s:=OpenSpec.ofChange Rows.fnCertifyFormulaSpec) own started (by kernel_rfl) Tryz.func3
    (witness_row_at (enc:=enc) (C:=Tryz.checked) false (w0 os) zeros rfl (by kernel_rfl) (by kernel_rfl) (by kernel_rfl)
      (OpenSpec.preRow_of_cond 8 hx (by kernel_rfl) (fun k hk=>by cases hk) (by kernel_rfl) (laidMetH_nil _ _))) ?_
  intro W base args ds gs before hval hW _ _ _ _ _ _
  exact contract H enc W base args ds gs before hval hW
set_option maxHeartbeats 40000000 in
set_option maxRecDepth 100000 in
theorem closed:joinedFacts Tryz.prog 3 Tryz.f3 (OpenSpec.ofChange Rows.fnCertifyFormulaSpec).bare Rows.fnCertifyFormulaRow=true:=by
 unfold joinedFacts
 repeat' (with_reducible apply and_mk)
 all_goals (as_aux_lemma=>kernel_rfl)
theorem proved:Rows.FnCertifyFormulaSaid :=
 OpenClaim.holds_of_cond 3 Tryz.f3 rfl rfl rfl rfl rfl rfl rfl ⟨rfl,rfl,rfl,rfl,rfl⟩ rfl rfl rfl rfl rfl (by kernel_rfl) Tryz.func3 closed
  (of_decide_eq_true (by kernel_rfl)) (by unfold Func.isWrapper;first|(rw [if_pos (by decide +kernel)];kernel_rfl)|(rw [if_neg (by decide +kernel)];exact ⟨rfl,rfl⟩))
  (fun os started H enc _ F=>by rw [OpenClaim.pre_eq_preRow];exact lifted os started H enc F)
end FnCertifyFormula
end Go.Proofs.YtjhgpfaodkchjaaGreat
