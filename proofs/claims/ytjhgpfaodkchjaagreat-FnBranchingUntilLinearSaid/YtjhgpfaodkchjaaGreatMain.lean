/- Branching untils agree with linear time. The law FnBranchingUntilLinear returns true at every input and leaves its input as it was. No condition. -/
import Derived.Test.YtjhgpfaodkchjaaGreatG0
import Derived.Test.YtjhgpfaodkchjaaGreatG1
import Derived.Test.YtjhgpfaodkchjaaGreatG2
import Derived.Test.YtjhgpfaodkchjaaGreatG3
import Derived.Test.YtjhgpfaodkchjaaGreatP0
import Derived.Test.YtjhgpfaodkchjaaGreatP1
import Derived.Test.YtjhgpfaodkchjaaGreatP2
import Derived.Test.YtjhgpfaodkchjaaGreatP3
import Derived.Test.YtjhgpfaodkchjaaGreatP4
import Derived.Test.YtjhgpfaodkchjaaGreatP5
import Derived.Test.YtjhgpfaodkchjaaGreatP6
import Derived.Test.YtjhgpfaodkchjaaGreatP7
set_option linter.all false
namespace Go.Proofs.YtjhgpfaodkchjaaGreat
open Go.Gl
attribute [local irreducible] z19 AWP z25 z31 z28 RetS z38
theorem z639 {P:Program} {F:FuncId} {c1 c2:AC} {q a x b y:Int} {R:AC} (h:CallsA P F [c1,c2,z30 Tree.cs' (.mk q 0 [.mk a x [],.mk b y []])] [] R []):CallsA P F [c1,c2,.agg [.int q,.int 0,.list 3 2 [[.int a,.int x,.nils],[.int b,.int y,.nils]]]] [] R []:=by
 rw [y15] at h
 refine h.arg ?_
 (repeat' first|exact y88 _|exact z43|apply z52|(apply z79;rfl)|constructor)
theorem z909 {P:Program} {F:FuncId} {g:Graph} {l:List Tree} {q a x b y:Int} {R:AC} (h:CallsA P F [.agg g.cs,lst 3 Tree.cs' l,z30 Tree.cs' (.mk q 0 [.mk a x [],.mk b y []])] [] R []):CallsA P F [.agg g.cs,lst 3 Tree.cs' l,.agg [.int q,.int 0,.sref 0 0 2]] [.cells 3 [[.int a,.int x,.nils],[.int b,.int y,.nils]]] R [.dead]:=CallsA.eat (z639 h) rfl
set_option maxHeartbeats 6400000 in
theorem z316 (c:List Int) (hc:CodeOk c) (d:List Int) (hd:CodeOk d):CallsA Tryz.prog 8 [lst 1 enU c,lst 1 enU d] [] (.bool true) []:=by
 obtain ⟨g,l,f,⟨hg,hl,hf⟩,cd⟩:=z762 c hc
 have hgm:=hg.mx
 have hlm:=hl.mx
 have hlen:=hc.len
 have hlen2:=hd.len
 unfold maxLen at hlen hlen2
 obtain ⟨k,hk⟩:∃ k,(d.length:Int) % 3=k:=⟨_,rfl⟩
 have hk3:k=0∨k=1∨k=2:=by omega
 have hm1:∀ q,(Tree.mk q 0 [.mk 2 k []]).mx:=fun q=>z106 _ (by simp [Tree.sz,Tree.szs,maxLen])
 have hm2:(Tree.mk 10 0 [.mk 1 0 [],.mk 2 k []]).mx:=z106 _ (by simp [Tree.sz,Tree.szs,maxLen])
 have k1:=z366 (z217 g hgm l hlm _ (hm1 11))
 have k2:=z366 (z321 g hgm l hlm _ (hm1 11))
 have k3:=z366 (z251 g hgm l hlm _ (hm1 10))
 have k4:=z909 (z217 g hgm l hlm _ hm2)
 have k5:=z366 (z251 g hgm l hlm _ (hm1 9))
 rw [ag_plain hk3] at k1 k2
 rw [af_plain hk3] at k4
 generalize vdI g l (.mk 10 0 [.mk 2 k []])=v at *
 generalize vdT g l (.mk 10 0 [.mk 2 k []])=t at *
 generalize vdI g l (.mk 9 0 [.mk 2 k []])=w at *
 generalize vdT g l (.mk 9 0 [.mk 2 k []])=u at *
 rw [y15 f] at *
 refine z7 z17 Tryz.func8 rfl rfl 89 Tryz.ntmps8 (by simp) ?_
 repeat' ((first|((fail_if_success apply z130 5);(fail_if_success apply z96 5);apply y4 ok;rfl)|(apply y45;omega)|((apply z5)<;>intro _)|(apply z6 (cd);rfl;rfl))<;>conv=>whnf)
 all_goals first|(refine rsD [] [] rfl ?_;(repeat' first|exact y88 _|constructor))|skip
 rw [hk]
 repeat' ((first|(apply y4 ok;rfl)|((apply z5)<;>intro _)|((first|(apply z8 [4] [] k1;rfl;rfl)|(apply z8 [5] [] k2;rfl;rfl)|(apply z8 [6] [] k3;rfl;rfl)|(apply z8 [8] [] k4;rfl;rfl)|(apply z8 [9] [] k5;rfl;rfl));rfl;(focus ((repeat' first|exact z13|apply z11)<;>exact z134))))<;>conv=>whnf)
 all_goals first|(exfalso;omega)|(refine rsD [] [] rfl ?_;(repeat' constructor))
 all_goals exact z1153 (by simp)
set_option maxHeartbeats 6400000 in
theorem z215 (c:List Int) (hc:CodeOk c) (d:List Int) (hd:CodeOk d):CallsA Tryz.prog 9 [lst 1 enU c,lst 1 enU d] [] (.bool true) []:=by
 obtain ⟨g,l,f,⟨hg,hl,hf⟩,cd⟩:=z762 c hc
 have hgm:=hg.mx
 have hlm:=hl.mx
 have hlen:=hc.len
 have hlen2:=hd.len
 unfold maxLen at hlen hlen2
 obtain ⟨i,hi⟩:∃ k,(d.length:Int) % 3=k:=⟨_,rfl⟩
 have hi3:i=0∨i=1∨i=2:=by omega
 obtain ⟨k,hk⟩:∃ k,(c.length:Int) % 3=k:=⟨_,rfl⟩
 have hk3:k=0∨k=1∨k=2:=by omega
 have hm2:∀ q,(Tree.mk q 0 [.mk 2 i [],.mk 2 k []]).mx:=fun q=>z106 _ (by simp [Tree.sz,Tree.szs,maxLen])
 have k1:=z639 (z217 g hgm l hlm _ (hm2 10))
 have k2:=z639 (z321 g hgm l hlm _ (hm2 10))
 have k3:=z909 (z251 g hgm l hlm _ (hm2 7))
 rw [au_plain hi3 hk3] at k1 k2
 generalize vdI g l (.mk 7 0 [.mk 2 i [],.mk 2 k []])=v at *
 generalize vdT g l (.mk 7 0 [.mk 2 i [],.mk 2 k []])=t at *
 rw [y15 f] at *
 refine z7 z17 Tryz.func9 rfl rfl 67 Tryz.ntmps9 (by simp) ?_
 repeat' ((first|((fail_if_success apply z130 7);(fail_if_success apply z96 7);apply y4 ok;rfl)|(apply y45;omega)|((apply z5)<;>intro _)|(apply z6 (cd);rfl;rfl))<;>conv=>whnf)
 all_goals first|(refine rsD [] [] rfl ?_;(repeat' first|exact y88 _|constructor))|skip
 rw [hi,hk]
 refine y87 (show Gl.Reach _ _ (mkSt _ [(5,.ptr 0 none 0),(6,lst 3 Tree.cs' l),(8,.int i),(9,.int k),(10,.ptr 1 none 0)] [.cells 2 [g.cs],.cells 3 [[.int 10,.int 0,.list 3 2 [[.int 2,.int i,.nils],[.int 2,.int k,.nils]]]]]) from (by refine swR [0,3] [2] rfl rfl ?_;(repeat' first|exact y88 _|apply y89|constructor))) ?_
 repeat' ((first|(apply y4 ok;rfl)|((apply z5)<;>intro _)|(apply z6 (k1);rfl;rfl)|(apply z6 (k2);rfl;rfl)|(apply z8 [2] [] k3;rfl;rfl;rfl;(focus ((repeat' first|exact z13|apply z11)<;>exact z134))))<;>conv=>whnf)
 all_goals first|(exfalso;omega)|(refine rsD [] [] rfl ?_;(repeat' constructor))
 all_goals exact z1153 (by simp)
end Go.Proofs.YtjhgpfaodkchjaaGreat
namespace Go.Proofs.YtjhgpfaodkchjaaGreat
open Go.Gl
open Go.ChangeShapes Go.WideShapes Go.ChangeAt Go.RowKit
attribute [local irreducible] z19 AWP z25 z31 z28
namespace FnBranchingUntilLinear
theorem args_ok:ArgsOk Tryz.prog Tryz.f9.params.toList (fun xs _=>∃ (c:List Int) (d:List Int),xs=[lst 1 enU c,lst 1 enU d]∧CodeOk c∧CodeOk d):=by
 rw [Tryz.params9]
 refine ArgsOk.imp (z391 z673 (z391 z673 (z934))) ?_
 rintro xs m ⟨c,_,rfl,hc,d,_,rfl,hd,rfl⟩
 exact ⟨c,d,rfl,hc,hd⟩
set_option maxRecDepth 100000 in
theorem contract (H : Type) (enc : TypeId × Value → H) (W : World) (base : Nat) (args : Array Value) (ds gs : List (DataW H)) (before : List MemPlace)
    (hval:∀ (j:Nat) t v,Tryz.f9.params[j]?=some t→args[j]?=some v→Value.okWide Tryz.prog W .any base t v)
    (hW:DataW.Whole enc Tryz.prog Tryz.f9.params.toList Rows.fnBranchingUntilLinearSpec.vars false W args.toList ds gs before) :
    Calls Tryz.prog 9 args W fun e W'=>∃ v,e=.returned v∧Rows.fnBranchingUntilLinearSpec.post enc Tryz.prog Tryz.f9 false true false false W args v W':=by
  refine z910 z531 z584 (by rw [Tryz.params9];decide +kernel) rfl (fun ds h=>?_) (by kernel_rfl) Tryz.underlying4 args_ok (fun xs m h _=>?_) hval hW
  · rw [Tryz.params9] at h
    match ds,h with
    | [_,_],_=>rfl
  · obtain ⟨c,d,rfl,hc,hd⟩:=h
    exact z215 c hc d hd
noncomputable def w0 (os:Os):World:=World.holding Tryz.prog os ⟨#[],#[],[]⟩
def zeros:Array Value:=#[.slice none 0 0,.slice none 0 0]
theorem reads (os:Os) {H:Type} (enc:TypeId×Value→H):∃ places,DataW.whole enc Tryz.prog ((w0 os).forCall (fun _ _=>0) ⟨#[],zeros,[]⟩).memory Tryz.f9.params.toList Rows.fnBranchingUntilLinearSpec.vars false zeros.toList 8=some ([.nil,.nil],[],places) :=
 ⟨[],by kernel_rfl⟩
set_option maxRecDepth 100000 in
theorem lifted (os : Os) (started : os.Started) (H : Type) (enc : TypeId × Value → H) (F : Stop.Interp) :
    ReturnsInHanded {} Tryz.checked os 9 .any ((OpenSpec.ofChange Rows.fnBranchingUntilLinearSpec).preRow enc Tryz.prog Tryz.f9 Rows.fnBranchingUntilLinearRow.domain false Rows.fnBranchingUntilLinearRow.laid) (((OpenSpec.ofChange Rows.fnBranchingUntilLinearSpec).at F).post enc Tryz.prog Tryz.f9 false true false false):=by
  obtain ⟨places,hx⟩:=reads os enc
  refine returnsInHanded_of_row (C:=Tryz.checked) (s:=OpenSpec.ofChange Rows.fnBranchingUntilLinearSpec) own started (by kernel_rfl) Tryz.func9
    (witness_row_at (enc:=enc) (C:=Tryz.checked) false (w0 os) zeros rfl (by kernel_rfl) (by kernel_rfl) (by kernel_rfl)
      (OpenSpec.preRow_of_cond 8 hx (by kernel_rfl) (fun k hk=>by cases hk) (by kernel_rfl) (laidMetH_nil _ _))) ?_
  intro W base args ds gs before hval hW _ _ _ _ _ _
  exact contract H enc W base args ds gs before hval hW
set_option maxHeartbeats 40000000 in
set_option maxRecDepth 100000 in
theorem closed:joinedFacts Tryz.prog 9 Tryz.f9 (OpenSpec.ofChange Rows.fnBranchingUntilLinearSpec).bare Rows.fnBranchingUntilLinearRow=true:=by
 unfold joinedFacts
 repeat' (with_reducible apply and_mk)
 all_goals (as_aux_lemma=>kernel_rfl)
theorem proved:Rows.FnBranchingUntilLinearSaid :=
 OpenClaim.holds_of_cond 9 Tryz.f9 rfl rfl rfl rfl rfl rfl rfl ⟨rfl,rfl,rfl,rfl,rfl⟩ rfl rfl rfl rfl rfl (by kernel_rfl) Tryz.func9 closed
  (of_decide_eq_true (by kernel_rfl)) (by unfold Func.isWrapper;first|(rw [if_pos (by decide +kernel)];kernel_rfl)|(rw [if_neg (by decide +kernel)];exact ⟨rfl,rfl⟩))
  (fun os started H enc _ F=>by rw [OpenClaim.pre_eq_preRow];exact lifted os started H enc F)
end FnBranchingUntilLinear
end Go.Proofs.YtjhgpfaodkchjaaGreat
