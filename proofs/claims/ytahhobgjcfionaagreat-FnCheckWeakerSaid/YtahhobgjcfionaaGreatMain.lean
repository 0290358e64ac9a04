/- Disjunctions are weaker. The law FnCheckWeaker returns true at every input and leaves its input as it was. No condition. -/
import Derived.Test.YtahhobgjcfionaaGreatG0
import Derived.Test.YtahhobgjcfionaaGreatG1
import Derived.Test.YtahhobgjcfionaaGreatG2
import Derived.Test.YtahhobgjcfionaaGreatG3
import Derived.Test.YtahhobgjcfionaaGreatP0
import Derived.Test.YtahhobgjcfionaaGreatP1
import Derived.Test.YtahhobgjcfionaaGreatP2
import Derived.Test.YtahhobgjcfionaaGreatP3
import Derived.Test.YtahhobgjcfionaaGreatP4
import Derived.Test.YtahhobgjcfionaaGreatP5
import Derived.Test.YtahhobgjcfionaaGreatP6
import Derived.Test.YtahhobgjcfionaaGreatP7
set_option linter.all false
namespace Go.Proofs.YtahhobgjcfionaaGreat
open Go.Gl
attribute [local irreducible] z18 AWP z35 z39 z37 RetS z44
theorem z1123 {g:Graph} {l:List Tree} {f h:Tree} (h1:vdI g l f < 2) (h2:vdI g l h < 2) (h3:vdI g l (.mk 4 0 [f,h]) < 2):vdI g l (.mk 4 0 [f,h])=0↔vdI g l f=0∧vdI g l h=0:=by
 rw [z216,z216,z216]
 have a1:=z465.1 h1
 have a2:=z465.1 h2
 have a3:=z465.1 h3
 constructor
 ·rintro ⟨_,h⟩
  exact ⟨⟨a1,fun π hp=>((z238 _ _ _ _ _).1 (h π hp)).1⟩,⟨a2,fun π hp=>((z238 _ _ _ _ _).1 (h π hp)).2⟩⟩
 ·rintro ⟨⟨_,h⟩,⟨_,k⟩⟩
  exact ⟨a3,fun π hp=>(z238 _ _ _ _ _).2 ⟨h π hp,k π hp⟩⟩
theorem or_plain {g:Graph} {l:List Tree} {f h:Tree} (h1:vdI g l f=0):vdI g l (.mk 5 0 [f,h])≠1:=by
 intro h2
 obtain ⟨_,k⟩:=z216.1 h1
 obtain ⟨_,π,hp,hn⟩:=z979.1 h2
 exact hn ((z479 _ _ _ _ _).2 (.inl (k π hp)))
theorem z745 (g:Graph) (hg:g.mx) (l:List Tree) (hl:Lmx l) (k:Int) (f h:Tree) (hf:f.sz≤100) (hh:h.sz≤100):CallsA Tryz.prog 47 [.agg g.cs,lst 3 Tree.cs' l,.agg [.int k,.int 0,.list 3 2 [Tree.cs' f,Tree.cs' h]]] [] (.tup [.int (vdI g l (.mk k 0 [f,h])),.agg [.sref 0 0 (vdT g l (.mk k 0 [f,h])).stem.length,.sref 1 0 (vdT g l (.mk k 0 [f,h])).loop.length]]) [.cells 1 ((vdT g l (.mk k 0 [f,h])).stem.map enI),.cells 1 ((vdT g l (.mk k 0 [f,h])).loop.map enI)]:=by
 have:=z319 g hg l hl (.mk k 0 [f,h]) (z81 _ (by rw [z262];unfold maxLen;omega))
 rwa [argB] at this
set_option maxHeartbeats 6400000 in
theorem z620 (c:List Int) (hc:CodeOk c) (d:List Int) (hd:CodeOk d):CallsA Tryz.prog 10 [lst 1 enU c,lst 1 enU d] [] (.bool true) []:=by
  obtain ⟨g,l,f,⟨hg,hl,hf⟩,cd⟩:=z281 c hc
  obtain ⟨g',l',h,⟨_,_,hh⟩,ce⟩:=z281 d hd
  have hgm:=hg.mx
  have hlm:=hl.mx
  have hlen:=hc.len
  have hlen2:=hd.len
  unfold maxLen at hlen hlen2
  have hfm:f.mx:=z81 f (by unfold maxLen;omega)
  have hhm:h.mx:=z81 h (by unfold maxLen;omega)
  have k1:=z144 g hgm l hlm f hfm
  have k2:=z237 g hgm l hlm f hfm
  have k3:=z144 g hgm l hlm h hhm
  have k4:=z745 g hgm l hlm 4 f h (by omega) (by omega)
  have hp:=@z1123 g l f h
  generalize vdI g l f=v at *
  generalize vdI g l h=w at *
  generalize vdI g l (.mk 4 0 [f,h])=x at *
  generalize vdT g l f=t1 at *
  generalize vdT g l h=t2 at *
  generalize vdT g l (.mk 4 0 [f,h])=t3 at *
  refine z7 z14 Tryz.func10 rfl rfl 97 Tryz.ntmps10 (by simp) ?_
  repeat' ((first|(apply y4 ok;rfl)|((first|apply z6|apply z48)<;>intro _)|(apply z4 (cd);rfl;rfl)|(apply z4 (ce);rfl;rfl)|(apply z4 (k1);rfl;rfl)|(apply z4 (k2);rfl;rfl)|(apply z4 (k3);rfl;rfl)|(apply z89 [] [7] [8,9] k4;(focus (rfl));rfl;rfl;(focus ((repeat' first|exact z15|apply z11)<;>(refine z19 ?_;((exact z5 fun _=>rfl)))));((refine .inr ⟨rfl,?_⟩;repeat' first|exact True.intro|apply y42|exact z115 (fun _=>rfl) _))))<;>conv=>whnf)
  all_goals first|(exfalso;omega)|(refine rsD [] [] rfl ?_;(repeat' first|exact y84 _|constructor))
  all_goals
    refine z414 ?_
    first
      | (simp;done)
      | (have hp := hp (by omega) (by omega) (by omega)
         by_cases hv:v=0<;>by_cases hw:w=0<;>simp [hv,hw] at hp ⊢<;>first|exact hp|omega)
set_option maxHeartbeats 6400000 in
theorem z433 (c:List Int) (hc:CodeOk c) (d:List Int) (hd:CodeOk d):CallsA Tryz.prog 13 [lst 1 enU c,lst 1 enU d] [] (.bool true) []:=by
 obtain ⟨g,l,f,⟨hg,hl,hf⟩,cd⟩:=z281 c hc
 obtain ⟨g',l',h,⟨_,_,hh⟩,ce⟩:=z281 d hd
 have hgm:=hg.mx
 have hlm:=hl.mx
 have hlen:=hc.len
 have hlen2:=hd.len
 unfold maxLen at hlen hlen2
 have hfm:f.mx:=z81 f (by unfold maxLen;omega)
 have k1:=z144 g hgm l hlm f hfm
 have k2:=z237 g hgm l hlm f hfm
 have k4:=z745 g hgm l hlm 5 f h (by omega) (by omega)
 have hp:=@or_plain g l f h
 generalize vdI g l f=v at *
 generalize vdI g l (.mk 5 0 [f,h])=x at *
 generalize vdT g l f=t1 at *
 generalize vdT g l (.mk 5 0 [f,h])=t3 at *
 refine z7 z14 Tryz.func13 rfl rfl 72 Tryz.ntmps13 (by simp) ?_
 repeat' ((first|(apply y4 ok;rfl)|((first|apply z6|apply z48)<;>intro _)|(apply z4 (cd);rfl;rfl)|(apply z4 (ce);rfl;rfl)|(apply z4 (k1);rfl;rfl)|(apply z4 (k2);rfl;rfl)|(apply z89 [] [6] [7,8] k4;(focus (rfl));rfl;rfl;(focus ((repeat' first|exact z15|apply z11)<;>(refine z19 ?_;((exact z5 fun _=>rfl)))));((refine .inr ⟨rfl,?_⟩;repeat' first|exact True.intro|apply y42|exact z115 (fun _=>rfl) _))))<;>conv=>whnf)
 all_goals first|(exfalso;omega)|(refine rsD [] [] rfl ?_;(repeat' first|exact y84 _|constructor))
 all_goals
  refine z414 ?_
  first
   |(simp;done)
   |(have hp:=hp (by omega);simp [hp];done)
   |(by_cases hv:v=0<;>simp [hv] at hp ⊢<;>fail)
end Go.Proofs.YtahhobgjcfionaaGreat
namespace Go.Proofs.YtahhobgjcfionaaGreat
open Go.Gl
open Go.ChangeShapes Go.WideShapes Go.ChangeAt Go.RowKit
attribute [local irreducible] z18 AWP z35 z39 z37
namespace FnCheckWeaker
theorem args_ok:ArgsOk Tryz.prog Tryz.f13.params.toList (fun xs _=>∃ (c:List Int) (d:List Int),xs=[lst 1 enU c,lst 1 enU d]∧CodeOk c∧CodeOk d):=by
 rw [Tryz.params13]
 refine ArgsOk.imp (z286 z529 (z286 z529 (z649))) ?_
 rintro xs m ⟨c,_,rfl,hc,d,_,rfl,hd,rfl⟩
 exact ⟨c,d,rfl,hc,hd⟩
set_option maxRecDepth 100000 in
theorem contract (H : Type) (enc : TypeId × Value → H) (W : World) (base : Nat) (args : Array Value) (ds gs : List (DataW H)) (before : List MemPlace)
    (hval:∀ (j:Nat) t v,Tryz.f13.params[j]?=some t→args[j]?=some v→Value.okWide Tryz.prog W .any base t v)
    (hW:DataW.Whole enc Tryz.prog Tryz.f13.params.toList Rows.fnCheckWeakerSpec.vars false W args.toList ds gs before) :
    Calls Tryz.prog 13 args W fun e W'=>∃ v,e=.returned v∧Rows.fnCheckWeakerSpec.post enc Tryz.prog Tryz.f13 false true false false W args v W':=by
  refine z619 z334 z406 (by rw [Tryz.params13];decide +kernel) rfl (fun ds h=>?_) (by kernel_rfl) Tryz.underlying4 args_ok (fun xs m h _=>?_) hval hW
  · rw [Tryz.params13] at h
    match ds,h with
    | [_,_],_=>rfl
  · obtain ⟨c,d,rfl,hc,hd⟩:=h
    exact z433 c hc d hd
noncomputable def w0 (os:Os):World:=World.holding Tryz.prog os ⟨#[],#[],[]⟩
def zeros:Array Value:=#[.slice none 0 0,.slice none 0 0]
theorem reads (os:Os) {H:Type} (enc:TypeId×Value→H):∃ places,DataW.whole enc Tryz.prog ((w0 os).forCall (fun _ _=>0) ⟨#[],zeros,[]⟩).memory Tryz.f13.params.toList Rows.fnCheckWeakerSpec.vars false zeros.toList 8=some ([.nil,.nil],[],places) :=
 ⟨[],by kernel_rfl⟩
set_option maxRecDepth 100000 in
theorem lifted (os : Os) (started : os.Started) (H : Type) (enc : TypeId × Value → H) (F : Stop.Interp) :
    ReturnsInHanded {} Tryz.checked os 13 .any ((OpenSpec.ofChange Rows.fnCheckWeakerSpec).preRow enc Tryz.prog Tryz.f13 Rows.fnCheckWeakerRow.domain false Rows.fnCheckWeakerRow.laid) (((OpenSpec.ofChange Rows.fnCheckWeakerSpec).at F).post enc Tryz.prog Tryz.f13 false true false false):=by
  obtain ⟨places,hx⟩:=reads os enc
  refine returnsInHanded_of_row (C:=Tryz.checked) (s:=OpenSpec.ofChange Rows.fnCheckWeakerSpec) own started (by kernel_rfl) Tryz.func13
    (witness_row_at (enc:=enc) (C:=Tryz.checked) false (w0 os) zeros rfl (by kernel_rfl) (by kernel_rfl) (by kernel_rfl)
      (OpenSpec.preRow_of_cond 8 hx (by kernel_rfl) (fun k hk=>by cases hk) (by kernel_rfl) (laidMetH_nil _ _))) ?_
  intro W base args ds gs before hval hW _ _ _ _ _ _
  exact contract H enc W base args ds gs before hval hW
set_option maxHeartbeats 40000000 in
set_option maxRecDepth 100000 in
theorem closed:joinedFacts Tryz.prog 13 Tryz.f13 (OpenSpec.ofChange Rows.fnCheckWeakerSpec).bare Rows.fnCheckWeakerRow=true:=by
 unfold joinedFacts
 repeat' (with_reducible apply z1124)
 all_goals (as_aux_lemma=>kernel_rfl)
theorem proved:Rows.FnCheckWeakerSaid :=
 OpenClaim.holds_of_cond 13 Tryz.f13 rfl rfl rfl rfl rfl rfl rfl ⟨rfl,rfl,rfl,rfl,rfl⟩ rfl rfl rfl rfl rfl (by kernel_rfl) Tryz.func13 closed
  (of_decide_eq_true (by kernel_rfl)) (by unfold Func.isWrapper;first|(rw [if_pos (by decide +kernel)];kernel_rfl)|(rw [if_neg (by decide +kernel)];exact ⟨rfl,rfl⟩))
  (fun os started H enc _ F=>by rw [OpenClaim.pre_eq_preRow];exact lifted os started H enc F)
end FnCheckWeaker
end Go.Proofs.YtahhobgjcfionaaGreat
