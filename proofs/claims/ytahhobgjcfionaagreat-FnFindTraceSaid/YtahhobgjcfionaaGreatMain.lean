/- The search is sound and complete. The law FnFindTrace returns true at every input and leaves its input as it was. No condition. -/
import Derived.Test.YtahhobgjcfionaaGreatG0
import Derived.Test.YtahhobgjcfionaaGreatG1
import Derived.Test.YtahhobgjcfionaaGreatG2
import Derived.Test.YtahhobgjcfionaaGreatG3
import Derived.Test.YtahhobgjcfionaaGreatP0
import Derived.Test.YtahhobgjcfionaaGreatP1
import Derived.Test.YtahhobgjcfionaaGreatP2
import Derived.Test.YtahhobgjcfionaaGreatP3
import Derived.Test.YtahhobgjcfionaaGreatP4
import Derived.Test.YtahhobgjcfionaaGreatP5
import Derived.Test.YtahhobgjcfionaaGreatP6
import Derived.Test.YtahhobgjcfionaaGreatP7
import Derived.Test.YtahhobgjcfionaaGreatP8
set_option linter.all false
namespace Go.Proofs.YtahhobgjcfionaaGreat
open Go.Gl
attribute [local irreducible] z29 AWP z46 z50 z47 RetS z58
set_option maxHeartbeats 3200000 in
theorem z1126 (bs:List Int) (hb:CodeOk bs):∃ (g:Graph) (l:List Tree) (a:Aut),(g.d∧Lab.d l∧a.sm)∧CallsA Tryz.prog 15 [lst 1 enU bs] [] (.tup [.agg g.cs,lst 3 Tree.cs' l,.agg a.cs]) []:=by
 have co:=z427 bs hb.len
 have hbt:=hb.take
 generalize bs.take 2000=b0 at *
 obtain ⟨l,p1,⟨l1,l2,l3,l4⟩,c1⟩:=z525 b0 hbt 0 ⟨by omega,by omega⟩
 obtain ⟨a0,p2,⟨a1,a2,a3,a4,a5,a6⟩,c2⟩:=z335 b0 hbt p1 ⟨by omega,by omega⟩
 obtain ⟨a',p3,⟨b1,b2,b3⟩,cm⟩:=z347 b0 hbt p2 ⟨by omega,by omega⟩ a0 ⟨a1,a2,a3,a6⟩
 obtain ⟨g0,g,p4,p5,cg0,cg,hg,q1,q2⟩:=z835 b0 hbt p3 ⟨by omega,by omega⟩
 refine ⟨g,l,a',⟨hg,⟨l1,l2⟩,b1⟩,?_⟩
 have c2' : CallsA Tryz.prog 64 [.ptr 0 none 0] [rdO b0 p1] (.agg a0.cs) [rdO b0 p2]:=(by refine y4 (c2) [0] [1,2,3] rfl rfl rfl ?_ ?_<;>(repeat' first|exact y78 _|apply y79|((apply z36 rfl rfl rfl);(focus ((repeat ((exact z31 (fun _=>rfl) _)));done));(focus (((simp;done));done)))|apply z41|constructor))
 have cm' : CallsA Tryz.prog 63 [.ptr 0 none 0,.agg a0.cs] [rdO b0 p2] (.agg a'.cs) [rdO b0 p3]:=(by refine y4 (cm) [0] [1,2,3] rfl rfl rfl ?_ ?_<;>(repeat' first|exact y78 _|apply y79|((apply z36 rfl rfl rfl);(focus ((repeat ((exact z31 (fun _=>rfl) _)));done));(focus (((simp;done));done)))|apply z41|constructor))
 refine z7 z15 Tryz.func15 rfl rfl 22 Tryz.ntmps15 (by simp) ?_
 repeat' ((first|(apply y76 ok;rfl)|(apply z21;kernel_rfl)|((first|(apply z18 [] [2] co;rfl;rfl)|(apply z18 [2] [] c1;rfl;rfl)|(apply z18 [2] [] c2';rfl;rfl)|(apply z18 [2] [] cm';rfl;rfl)|(apply z18 [2] [] cg0;rfl;rfl)|(apply z18 [2] [] cg;rfl;rfl));rfl))<;>conv=>whnf)
 all_goals (refine rsD [] [] rfl ?_;(repeat' first|exact y78 _|constructor))
theorem z834 {g:Graph} {l:List Tree} {a:Aut} (h:(ftO g l a).isSome=false) (t:Trace) (ht:twB g l t=true):(autB a && lasB (twT g l t) && accR a (twT g l t))=false:=by
 by_cases hA:autB a=true
 ·have hgl:glB g l=true:=by unfold twB at ht;exact (Bool.and_eq_true_iff.1 ht).1
  rw [z739 (by
   unfold mkOk
   have h1:(glB g l && autB a)=true:=by rw [hgl,hA];rfl
   unfold ftO at h
   rw [if_pos h1] at h
   rw [h1,h];rfl) t ht,Bool.and_false]
 ·rw [(y64 _).mp hA];rfl
theorem z1046 {g:Graph} {l:List Tree} {a:Aut} (h:(ftO g l a).isSome=true):trB g (ftL g l a)=true∧(twB g l (ftL g l a)=true→(autB a && lasB (twT g l (ftL g l a)) && accR a (twT g l (ftL g l a)))=true):=by
 have h1:(glB g l && autB a)=true:=by
  by_cases h1:(glB g l && autB a)=true
  ·exact h1
  ·unfold ftO at h;rw [if_neg h1] at h;cases h
 obtain ⟨k1,k2⟩:=found_ok h1 h
 refine ⟨k1,fun ht=>?_⟩
 have e:lasB (twT g l (ftL g l a))=true:=by
  unfold twT
  rw [if_pos ht]
  unfold twB at ht
  exact (Bool.and_eq_true_iff.1 (Bool.and_eq_true_iff.1 ht).2).2
 rw [(Bool.and_eq_true_iff.1 h1).2,e,k2 ht];rfl
set_option maxHeartbeats 6400000 in
theorem z571 (c:List Int) (hc:CodeOk c) (d:List Int) (hd:CodeOk d):CallsA Tryz.prog 3 [lst 1 enU c,lst 1 enU d] [] (.bool true) []:=by
 obtain ⟨g,l,a,⟨hg,hl,ha⟩,cd⟩:=z1126 c hc
 have hgm:=hg.mx
 have hlm:=hl.mx
 have hlen:=hc.len
 have hlen2:=hd.len
 unfold maxLen at hlen hlen2
 have ham:=Aut.sm.mx' ha
 have k1:CallsA Tryz.prog 16 [.agg g.cs,lst 3 Tree.cs' l,.agg a.cs] [] (.tup [.agg (ftL g l a).cs,.bool (ftO g l a).isSome]) []:=(by refine y4 (z171 g hgm l hlm a ham) [] [0,1] rfl rfl rfl ?_ ?_<;>(repeat' first|exact y78 _|((apply z36 rfl rfl rfl);(focus ((repeat ((exact z31 (fun _=>rfl) _)));done));(focus (((simp;done));done)))|apply z41|apply z92|constructor))
 have k2:=z457 g hgm l hlm a ham
 obtain ⟨z1,z2⟩:=ftL_le (g:=g) (l:=l) (a:=a)
 have k3:=z695 (ftL g l a).stem (ftL g l a).stem (by unfold maxLen;omega) (by unfold maxLen;omega)
 have k4:=z695 (ftL g l a).loop (ftL g l a).loop (by unfold maxLen;omega) (by unfold maxLen;omega)
 rw [y73 rfl] at k3 k4
 by_cases hf:(ftO g l a).isSome=true
 ·obtain ⟨s1,s2⟩:=z1046 hf
  rw [hf] at k1 k2
  generalize ftL g l a=t at *
  have k5:CallsA Tryz.prog 19 [.agg g.cs,lst 3 Tree.cs' l,.agg t.cs] [] (.tup [.agg (twT g l t).cs,.bool (twB g l t)]) []:=(by refine y4 (z170 g hgm l hlm t (by omega) (by omega)) [] [0,1] rfl rfl rfl ?_ ?_<;>(repeat' first|exact y78 _|((apply z36 rfl rfl rfl);(focus ((repeat ((exact z31 (fun _=>rfl) _)));done));(focus (((simp;done));done)))|apply z41|apply z92|constructor))
  obtain ⟨w1,w2⟩:=z882 (g:=g) (l:=l) (t:=t)
  have k6:=z226 a ham (twT g l t) (by unfold maxLen;omega) (by unfold maxLen;omega)
  have k7:=z451 g hgm t (by omega) (by omega)
  rw [s1] at k7
  generalize (autB a && lasB (twT g l t) && accR a (twT g l t))=rb at *
  generalize (autB a && lasB (twT g l t))=vb at *
  generalize twT g l t=W at *
  generalize twB g l t=wb at *
  refine z7 z15 Tryz.func3 rfl rfl 115 Tryz.ntmps3 (by simp) ?_
  cases wb
  ·cases rb
   all_goals
    repeat' ((first|(apply y76 ok;rfl)|((apply z5)<;>intro _)|(apply z6 (cd);rfl;rfl)|(apply z6 (k1);rfl;rfl)|(apply z6 (k2);rfl;rfl)|(apply z6 (k3);rfl;rfl)|(apply z6 (k4);rfl;rfl)|(apply z6 (k5);rfl;rfl)|(apply z6 (k6);rfl;rfl)|(apply z6 (k7);rfl;rfl))<;>conv=>whnf)
    all_goals (refine rsD [] [] rfl ?_;(repeat' first|exact y78 _|constructor))
  ·obtain rfl:=s2 rfl
   repeat' ((first|(apply y76 ok;rfl)|((apply z5)<;>intro _)|(apply z6 (cd);rfl;rfl)|(apply z6 (k1);rfl;rfl)|(apply z6 (k2);rfl;rfl)|(apply z6 (k3);rfl;rfl)|(apply z6 (k4);rfl;rfl)|(apply z6 (k5);rfl;rfl)|(apply z6 (k6);rfl;rfl)|(apply z6 (k7);rfl;rfl))<;>conv=>whnf)
   all_goals (refine rsD [] [] rfl ?_;(repeat' first|exact y78 _|constructor))
 ·have hf:=(y64 _).mp hf
  rw [hf] at k1 k2
  generalize ftL g l a=t0 at *
  have k8:=z259 g hgm
  by_cases hgb:z206 g=true
  ·rw [hgb] at k8
   have hG:=(z69 g).1 hgb
   have k9:=z693 g hg hG d hd
   obtain ⟨b1,b2⟩:=z796 g.nx d 70 0 [0] (by simp)
   generalize wkT g.nx d 70 0 [0]=t at *
   have k5:CallsA Tryz.prog 19 [.agg g.cs,lst 3 Tree.cs' l,.agg t.cs] [] (.tup [.agg (twT g l t).cs,.bool (twB g l t)]) []:=(by refine y4 (z170 g hgm l hlm t (by omega) (by omega)) [] [0,1] rfl rfl rfl ?_ ?_<;>(repeat' first|exact y78 _|((apply z36 rfl rfl rfl);(focus ((repeat ((exact z31 (fun _=>rfl) _)));done));(focus (((simp;done));done)))|apply z41|apply z92|constructor))
   obtain ⟨w1,w2⟩:=z882 (g:=g) (l:=l) (t:=t)
   have k6:=z226 a ham (twT g l t) (by unfold maxLen;omega) (by unfold maxLen;omega)
   have hno:=z834 hf t
   generalize (autB a && lasB (twT g l t) && accR a (twT g l t))=rb at *
   generalize (autB a && lasB (twT g l t))=vb at *
   generalize twT g l t=W at *
   generalize twB g l t=wb at *
   refine z7 z15 Tryz.func3 rfl rfl 115 Tryz.ntmps3 (by simp) ?_
   cases wb
   ·cases rb
    all_goals
     repeat' ((first|(apply y76 ok;rfl)|(apply z21;kernel_rfl)|((apply z5)<;>intro _)|(apply z6 (cd);rfl;rfl)|(apply z6 (k1);rfl;rfl)|(apply z6 (k2);rfl;rfl)|(apply z6 (k3);rfl;rfl)|(apply z6 (k4);rfl;rfl)|(apply z6 (k8);rfl;rfl)|(apply z6 (k9);rfl;rfl)|(apply z6 (k5);rfl;rfl)|(apply z6 (k6);rfl;rfl))<;>conv=>whnf)
     all_goals (refine rsD [] [] rfl ?_;(repeat' first|exact y78 _|constructor))
   ·obtain rfl:=hno rfl
    repeat' ((first|(apply y76 ok;rfl)|(apply z21;kernel_rfl)|((apply z5)<;>intro _)|(apply z6 (cd);rfl;rfl)|(apply z6 (k1);rfl;rfl)|(apply z6 (k2);rfl;rfl)|(apply z6 (k3);rfl;rfl)|(apply z6 (k4);rfl;rfl)|(apply z6 (k8);rfl;rfl)|(apply z6 (k9);rfl;rfl)|(apply z6 (k5);rfl;rfl)|(apply z6 (k6);rfl;rfl))<;>conv=>whnf)
    all_goals (refine rsD [] [] rfl ?_;(repeat' first|exact y78 _|constructor))
  ·rw [(y64 _).mp hgb] at k8
   refine z7 z15 Tryz.func3 rfl rfl 115 Tryz.ntmps3 (by simp) ?_
   repeat' ((first|(apply y76 ok;rfl)|((apply z5)<;>intro _)|(apply z6 (cd);rfl;rfl)|(apply z6 (k1);rfl;rfl)|(apply z6 (k2);rfl;rfl)|(apply z6 (k3);rfl;rfl)|(apply z6 (k4);rfl;rfl)|(apply z6 (k8);rfl;rfl))<;>conv=>whnf)
   all_goals (refine rsD [] [] rfl ?_;(repeat' first|exact y78 _|constructor))
end Go.Proofs.YtahhobgjcfionaaGreat
namespace Go.Proofs.YtahhobgjcfionaaGreat
open Go.Gl
open Go.ChangeShapes Go.WideShapes Go.ChangeAt Go.RowKit
attribute [local irreducible] z29 AWP z46 z50 z47
namespace FnFindTrace
theorem args_ok:ArgsOk Tryz.prog Tryz.f3.params.toList (fun xs _=>∃ (c:List Int) (d:List Int),xs=[lst 1 enU c,lst 1 enU d]∧CodeOk c∧CodeOk d):=by
 rw [Tryz.params3]
 refine ArgsOk.imp (z304 z554 (z304 z554 (z687))) ?_
 rintro xs m ⟨c,_,rfl,hc,d,_,rfl,hd,rfl⟩
 exact ⟨c,d,rfl,hc,hd⟩
set_option maxRecDepth 100000 in
theorem contract (H : Type) (enc : TypeId × Value → H) (W : World) (base : Nat) (args : Array Value) (ds gs : List (DataW H)) (before : List MemPlace)
    (hval:∀ (j:Nat) t v,Tryz.f3.params[j]?=some t→args[j]?=some v→Value.okWide Tryz.prog W .any base t v)
    (hW:DataW.Whole enc Tryz.prog Tryz.f3.params.toList Rows.fnFindTraceSpec.vars false W args.toList ds gs before) :
    Calls Tryz.prog 3 args W fun e W'=>∃ v,e=.returned v∧Rows.fnFindTraceSpec.post enc Tryz.prog Tryz.f3 false true false false W args v W':=by
  refine z658 z354 z426 (by rw [Tryz.params3];decide +kernel) rfl (fun ds h=>?_) (by kernel_rfl) Tryz.underlying4 args_ok (fun xs m h _=>?_) hval hW
  · rw [Tryz.params3] at h
    match ds,h with
    | [_,_],_=>rfl
  · obtain ⟨c,d,rfl,hc,hd⟩:=h
    exact z571 c hc d hd
noncomputable def w0 (os:Os):World:=World.holding Tryz.prog os ⟨#[],#[],[]⟩
def zeros:Array Value:=#[.slice none 0 0,.slice none 0 0]
theorem reads (os:Os) {H:Type} (enc:TypeId×Value→H):∃ places,DataW.whole enc Tryz.prog ((w0 os).forCall (fun _ _=>0) ⟨#[],zeros,[]⟩).memory Tryz.f3.params.toList Rows.fnFindTraceSpec.vars false zeros.toList 8=some ([.nil,.nil],[],places) :=
 ⟨[],by kernel_rfl⟩
set_option maxRecDepth 100000 in
theorem lifted (os : Os) (started : os.Started) (H : Type) (enc : TypeId × Value → H) (F : Stop.Interp) :
    ReturnsInHanded {} Tryz.checked os 3 .any ((OpenSpec.ofChange Rows.fnFindTraceSpec).preRow enc Tryz.prog Tryz.f3 Rows.fnFindTraceRow.domain false Rows.fnFindTraceRow.laid) (((OpenSpec.ofChange Rows.fnFindTraceSpec).at F).post enc Tryz.prog Tryz.f3 false true false false):=by
  obtain ⟨places,hx⟩:=reads os enc
  refine returnsInHanded_of_row (C:=Tryz.checked) (s:=OpenSpec.ofChange Rows.fnFindTraceSpec) own started (by kernel_rfl) Tryz.func3
    (witness_row_at (enc:=enc) (C:=Tryz.checked) false (w0 os) zeros rfl (by kernel_rfl) (by kernel_rfl) (by kernel_rfl)
      (OpenSpec.preRow_of_cond 8 hx (by kernel_rfl) (fun k hk=>by cases hk) (by kernel_rfl) (laidMetH_nil _ _))) ?_
  intro W base args ds gs before hval hW _ _ _ _ _ _
  exact contract H enc W base args ds gs before hval hW
set_option maxHeartbeats 40000000 in
set_option maxRecDepth 100000 in
theorem closed:joinedFacts Tryz.prog 3 Tryz.f3 (OpenSpec.ofChange Rows.fnFindTraceSpec).bare Rows.fnFindTraceRow=true:=by
 unfold joinedFacts
 repeat' (with_reducible apply z1158)
 all_goals (as_aux_lemma=>kernel_rfl)
theorem proved:Rows.FnFindTraceSaid :=
 OpenClaim.holds_of_cond 3 Tryz.f3 rfl rfl rfl rfl rfl rfl rfl ⟨rfl,rfl,rfl,rfl,rfl⟩ rfl rfl rfl rfl rfl (by kernel_rfl) Tryz.func3 closed
  (of_decide_eq_true (by kernel_rfl)) (by unfold Func.isWrapper;first|(rw [if_pos (by decide +kernel)];kernel_rfl)|(rw [if_neg (by decide +kernel)];exact ⟨rfl,rfl⟩))
  (fun os started H enc _ F=>by rw [OpenClaim.pre_eq_preRow];exact lifted os started H enc F)
end FnFindTrace
end Go.Proofs.YtahhobgjcfionaaGreat
