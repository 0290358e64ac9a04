/- Persistence implies recurrence. The law FnCheckPersistence returns true at every input and leaves its input as it was. No condition. -/
import Derived.Test.YtahhobgjcfionaaGreatG0
import Derived.Test.YtahhobgjcfionaaGreatG1
import Derived.Test.YtahhobgjcfionaaGreatG2
import Derived.Test.YtahhobgjcfionaaGreatG3
import Derived.Test.YtahhobgjcfionaaGreatP0
import Derived.Test.YtahhobgjcfionaaGreatP1
import Derived.Test.YtahhobgjcfionaaGreatP2
import Derived.Test.YtahhobgjcfionaaGreatP3
import Derived.Test.YtahhobgjcfionaaGreatP4
import Derived.Test.YtahhobgjcfionaaGreatP5
import Derived.Test.YtahhobgjcfionaaGreatP6
import Derived.Test.YtahhobgjcfionaaGreatP7
set_option linter.all false
namespace Go.Proofs.YtahhobgjcfionaaGreat
open Go.Gl
attribute [local irreducible] z18 AWP z34 z39 z38 RetS z43
theorem ngS_of {f:Tree} (h1:ngB f=true) (h2:((negT f).nrm false).fmB=true) (h3:(bscL ((negT f).nrm false)).length≤4):ngS f=true:=by
 have hf:(negT f).fmB=true:=by
  unfold ngB at h1
  exact (Bool.and_eq_true_iff.1 h1).2
 have e:ngT f=negT f:=by unfold ngT;rw [if_pos h1]
 unfold ngS tsB trO
 rw [h1,Bool.true_and,e,if_pos (by unfold bscB;exact y80 ⟨⟨hf,h2⟩,by omega⟩),Option.isSome_map]
 exact trS_some h3 _
theorem gf_ngS {k:Int} (hk:k=0∨k=1∨k=2):(Tree.mk 10 0 [.mk 9 0 [.mk 2 k []]]).fmB=true∧ngS (.mk 10 0 [.mk 9 0 [.mk 2 k []]])=true:=by
 have e1:negT (.mk 10 0 [.mk 9 0 [.mk 2 k []]])=notT (.mk 10 0 [.mk 9 0 [.mk 2 k []]]):=by simp [negT,Tree.kind,notT]
 have e:(negT (.mk 10 0 [.mk 9 0 [.mk 2 k []]])).nrm false=.mk 7 0 [truT,.mk 8 0 [notT truT,notT (.mk 2 k [])]]:=by
  simp [e1,notT,z400,z561,z559,z560]
 refine ⟨?_,ngS_of ?_ ?_ ?_⟩
 ·rcases hk with rfl|rfl|rfl<;>decide
 ·unfold ngB;rw [e1];rcases hk with rfl|rfl|rfl<;>decide
 ·rw [e];rcases hk with rfl|rfl|rfl<;>decide
 ·rw [e]
  simp [bscL,Tree.subs,Tree.subss,addT,z69,Tree.kind,truT,notT,List.filter_cons]
theorem z926 {g:Graph} {l:List Tree} {k:Int} (hk:k=0∨k=1∨k=2) (h:vdI g l (.mk 9 0 [.mk 10 0 [.mk 2 k []]])=0):vdI g l (.mk 10 0 [.mk 9 0 [.mk 2 k []]])=0:=by
 obtain ⟨⟨h1,_,_⟩,h4⟩:=z459.1 h
 obtain ⟨n1,n2⟩:=gf_ngS hk
 refine z459.2 ⟨⟨h1,n1,n2⟩,fun π hp=>(z860 _ _ _ _).2 fun j hj=>(z859 _ _ _ _).2 ?_⟩
 obtain ⟨i,hi,hs⟩:=(z859 _ _ _ _).1 (h4 π hp)
 exact ⟨i+j,by omega,(z860 _ _ _ _).1 hs (i+j) (by omega)⟩
theorem z494 {P:Program} {F:FuncId} {c1 c2:AC} {k q r:Int} {R:AC} (h:CallsA P F [c1,c2,z23 Tree.cs' (.mk q 0 [.mk r 0 [.mk 2 k []]])] [] R []):CallsA P F [c1,c2,.agg [.int q,.int 0,.list 3 1 [[.int r,.int 0,.list 3 1 [[.int 2,.int k,.nils]]]]]] [] R []:=by
 rw [y15] at h
 refine h.arg ?_
 (repeat' first|exact y84 _|exact z29|apply z37|(apply z70;rfl)|constructor)
set_option maxHeartbeats 6400000 in
theorem z273 (c:List Int) (hc:CodeOk c) (d:List Int) (hd:CodeOk d):CallsA Tryz.prog 12 [lst 1 enU c,lst 1 enU d] [] (.bool true) []:=by
 obtain ⟨g,l,f,⟨hg,hl,hf⟩,cd⟩:=z732 c hc
 have hgm:=hg.mx
 have hlm:=hl.mx
 have hlen:=hc.len
 have hlen2:=hd.len
 unfold maxLen at hlen hlen2
 obtain ⟨k,hk⟩:∃ k,(d.length:Int) % 3=k:=⟨_,rfl⟩
 have hk3:k=0∨k=1∨k=2:=by omega
 have hm:∀ q r,(Tree.mk q 0 [.mk r 0 [.mk 2 k []]]).mx:=fun q r=>z86 _ (by simp [Tree.sz,Tree.szs,maxLen])
 have k1:=z494 (z243 g hgm l hlm _ (hm 9 10))
 have k2:=z494 (z345 g hgm l hlm _ (hm 9 10))
 have k3:=z494 (z243 g hgm l hlm _ (hm 10 9))
 have hp:=@z926 g l k hk3
 generalize vdI g l (.mk 9 0 [.mk 10 0 [.mk 2 k []]])=v at *
 generalize vdT g l (.mk 9 0 [.mk 10 0 [.mk 2 k []]])=t at *
 generalize vdI g l (.mk 10 0 [.mk 9 0 [.mk 2 k []]])=w at *
 generalize vdT g l (.mk 10 0 [.mk 9 0 [.mk 2 k []]])=u at *
 refine z7 z14 Tryz.func12 rfl rfl 77 Tryz.ntmps12 (by simp) ?_
 repeat' ((first|((fail_if_success apply z126 7);(fail_if_success apply z94 7);apply y4 ok;rfl)|(apply y42;omega)|((apply z6)<;>intro _)|(apply z4 (cd);rfl;rfl))<;>conv=>whnf)
 all_goals first|(refine rsD [] [] rfl ?_;(repeat' first|exact y84 _|constructor))|skip
 rw [hk]
 refine y83 (show Gl.Reach _ _ (mkSt _ [(5,.ptr 0 none 0),(6,lst 3 Tree.cs' l),(9,.sref 1 0 1),(10,.sref 2 0 1)] [.cells 2 [g.cs],.cells 3 [[.int 10,.int 0,.list 3 1 [[.int 2,.int k,.nils]]]],.cells 3 [[.int 9,.int 0,.list 3 1 [[.int 2,.int k,.nils]]]]]) from (by refine swR [0,3,4] [2] rfl rfl ?_;(repeat' first|exact y84 _|apply y85|constructor))) ?_
 refine y83 (show Gl.Reach _ _ (mkSt _ [(5,.ptr 0 none 0),(6,lst 3 Tree.cs' l),(9,.list 3 1 [[.int 10,.int 0,.list 3 1 [[.int 2,.int k,.nils]]]]),(10,.list 3 1 [[.int 9,.int 0,.list 3 1 [[.int 2,.int k,.nils]]]])] [.cells 2 [g.cs]]) from (by refine swR [0] [1,2] rfl rfl ?_;(repeat' first|exact y84 _|apply y85|constructor))) ?_
 repeat' ((first|(apply y4 ok;rfl)|((first|apply z6|apply z50)<;>intro _)|(apply z4 (k1);rfl;rfl)|(apply z4 (k2);rfl;rfl)|(apply z4 (k3);rfl;rfl))<;>conv=>whnf)
 all_goals first|(exfalso;omega)|(refine rsD [] [] rfl ?_;(repeat' first|exact y84 _|constructor))
 all_goals
  refine z648 ?_
  by_cases hv:v=0
  ·simp [hp hv]
  ·(exfalso;simp_all;done)
end Go.Proofs.YtahhobgjcfionaaGreat
namespace Go.Proofs.YtahhobgjcfionaaGreat
open Go.Gl
open Go.ChangeShapes Go.WideShapes Go.ChangeAt Go.RowKit
attribute [local irreducible] z18 AWP z34 z39 z38
namespace FnCheckPersistence
theorem args_ok:ArgsOk Tryz.prog Tryz.f12.params.toList (fun xs _=>∃ (c:List Int) (d:List Int),xs=[lst 1 enU c,lst 1 enU d]∧CodeOk c∧CodeOk d):=by
 rw [Tryz.params12]
 refine ArgsOk.imp (z383 z649 (z383 z649 (z896))) ?_
 rintro xs m ⟨c,_,rfl,hc,d,_,rfl,hd,rfl⟩
 exact ⟨c,d,rfl,hc,hd⟩
set_option maxRecDepth 100000 in
theorem contract (H : Type) (enc : TypeId × Value → H) (W : World) (base : Nat) (args : Array Value) (ds gs : List (DataW H)) (before : List MemPlace)
    (hval:∀ (j:Nat) t v,Tryz.f12.params[j]?=some t→args[j]?=some v→Value.okWide Tryz.prog W .any base t v)
    (hW:DataW.Whole enc Tryz.prog Tryz.f12.params.toList Rows.fnCheckPersistenceSpec.vars false W args.toList ds gs before) :
    Calls Tryz.prog 12 args W fun e W'=>∃ v,e=.returned v∧Rows.fnCheckPersistenceSpec.post enc Tryz.prog Tryz.f12 false true false false W args v W':=by
  refine z872 z513 z565 (by rw [Tryz.params12];decide +kernel) rfl (fun ds h=>?_) (by kernel_rfl) Tryz.underlying4 args_ok (fun xs m h _=>?_) hval hW
  · rw [Tryz.params12] at h
    match ds,h with
    | [_,_],_=>rfl
  · obtain ⟨c,d,rfl,hc,hd⟩:=h
    exact z273 c hc d hd
noncomputable def w0 (os:Os):World:=World.holding Tryz.prog os ⟨#[],#[],[]⟩
def zeros:Array Value:=#[.slice none 0 0,.slice none 0 0]
theorem reads (os:Os) {H:Type} (enc:TypeId×Value→H):∃ places,DataW.whole enc Tryz.prog ((w0 os).forCall (fun _ _=>0) ⟨#[],zeros,[]⟩).memory Tryz.f12.params.toList Rows.fnCheckPersistenceSpec.vars false zeros.toList 8=some ([.nil,.nil],[],places) :=
 ⟨[],by kernel_rfl⟩
set_option maxRecDepth 100000 in
theorem lifted (os : Os) (started : os.Started) (H : Type) (enc : TypeId × Value → H) (F : Stop.Interp) :
    ReturnsInHanded {} Tryz.checked os 12 .any ((OpenSpec.ofChange Rows.fnCheckPersistenceSpec).preRow enc Tryz.prog Tryz.f12 Rows.fnCheckPersistenceRow.domain false Rows.fnCheckPersistenceRow.laid) (((OpenSpec.ofChange Rows.fnCheckPersistenceSpec).at F).post enc Tryz.prog Tryz.f12 false true false false):=by
  obtain ⟨places,hx⟩:=reads os enc
  refine returnsInHanded_of_row (C:=Tryz.checked) (s:=OpenSpec.ofChange Rows.fnCheckPersistenceSpec) own started (by kernel_rfl) Tryz.func12
    (witness_row_at (enc:=enc) (C:=Tryz.checked) false (w0 os) zeros rfl (by kernel_rfl) (by kernel_rfl) (by kernel_rfl)
      (OpenSpec.preRow_of_cond 8 hx (by kernel_rfl) (fun k hk=>by cases hk) (by kernel_rfl) (laidMetH_nil _ _))) ?_
  intro W base args ds gs before hval hW _ _ _ _ _ _
  exact contract H enc W base args ds gs before hval hW
set_option maxHeartbeats 40000000 in
set_option maxRecDepth 100000 in
theorem closed:joinedFacts Tryz.prog 12 Tryz.f12 (OpenSpec.ofChange Rows.fnCheckPersistenceSpec).bare Rows.fnCheckPersistenceRow=true:=by
 unfold joinedFacts
 repeat' (with_reducible apply and_mk)
 all_goals (as_aux_lemma=>kernel_rfl)
theorem proved:Rows.FnCheckPersistenceSaid :=
 OpenClaim.holds_of_cond 12 Tryz.f12 rfl rfl rfl rfl rfl rfl rfl ⟨rfl,rfl,rfl,rfl,rfl⟩ rfl rfl rfl rfl rfl (by kernel_rfl) Tryz.func12 closed
  (of_decide_eq_true (by kernel_rfl)) (by unfold Func.isWrapper;first|(rw [if_pos (by decide +kernel)];kernel_rfl)|(rw [if_neg (by decide +kernel)];exact ⟨rfl,rfl⟩))
  (fun os started H enc _ F=>by rw [OpenClaim.pre_eq_preRow];exact lifted os started H enc F)
end FnCheckPersistence
end Go.Proofs.YtahhobgjcfionaaGreat
