/- Invariants are always-formulas. The law FnCheckAlways returns true at every input and leaves its input as it was. No condition. -/
import Derived.Test.YtnfoijopccdjeaaGreatG0
import Derived.Test.YtnfoijopccdjeaaGreatG1
import Derived.Test.YtnfoijopccdjeaaGreatG2
import Derived.Test.YtnfoijopccdjeaaGreatG3
import Derived.Test.YtnfoijopccdjeaaGreatP0
import Derived.Test.YtnfoijopccdjeaaGreatP1
import Derived.Test.YtnfoijopccdjeaaGreatP2
import Derived.Test.YtnfoijopccdjeaaGreatP3
import Derived.Test.YtnfoijopccdjeaaGreatP4
import Derived.Test.YtnfoijopccdjeaaGreatP5
import Derived.Test.YtnfoijopccdjeaaGreatP6
import Derived.Test.YtnfoijopccdjeaaGreatP7
import Derived.Test.YtnfoijopccdjeaaGreatP8
set_option linter.all false
namespace Go.Proofs.YtnfoijopccdjeaaGreat
open Go.Gl
attribute [local irreducible] z18 AWP z33 z37 z34 RetS z40
theorem z222 {P:Program} {F:FuncId} {s:Sys} {l:List Tree} {q k:Int} {R:AC} (h:CallsA P F [.agg s.cs,lst 3 Tree.cs' l,z20 Tree.cs' (.mk q 0 [.mk 2 k []])] [] R []):CallsA P F [.agg s.cs,lst 3 Tree.cs' l,.agg [.int q,.int 0,.sref 0 0 1]] [.cells 3 [[.int 2,.int k,.nils]]] R [.dead]:=by
 rw [y16] at h
 have h2:CallsA P F [.agg s.cs,lst 3 Tree.cs' l,.agg [.int q,.int 0,.list 3 1 [[.int 2,.int k,.nils]]]] [] R []:=h.arg (by (repeat' first|exact y85 _|exact z26|apply z38|(apply z63;rfl)|constructor))
 exact CallsA.eat h2 rfl
set_option maxHeartbeats 6400000 in
theorem z466 (c:List Int) (hc:CodeOk c):CallsA Tryz.prog 5 [lst 1 enU c] [] (.bool true) []:=by
 obtain ⟨s,l,f,⟨hs,hl,hf⟩,cd⟩:=z800 c hc
 have hlm:=hl.mx
 have hlen:=hc.len
 unfold maxLen at hlen
 have hpm:(Tree.mk 10 0 [.mk 2 0 []]).mx:=z85 _ (by decide)
 have k1:=z400 s hs l hlm _ hpm
 have k2:=z376 s hs l hlm _ hpm
 rcases z802 s l (.mk 10 0 [.mk 2 0 []]) with hv|⟨hv,hb⟩|⟨g,hb,hv,hA,hB,h1,h2⟩
 ·rw [hv] at k1 k2
  generalize csA s l (.mk 10 0 [.mk 2 0 []])=A at *
  generalize csB s l (.mk 10 0 [.mk 2 0 []])=B at *
  rw [y16 f] at *
  refine z7 z14 Tryz.func5 rfl rfl 80 Tryz.ntmps5 (by simp) ?_
  repeat' ((first|(apply y4 ok;rfl)|((apply z6)<;>intro _)|(apply z4 (cd);rfl;rfl)|((first|(apply z8 [3] [] (z222 k1);rfl;rfl)|(apply z8 [4] [] (z222 k2);rfl;rfl));rfl;(focus ((repeat' first|exact z13|apply z11)<;>exact z103))))<;>conv=>whnf)
  all_goals (refine rsD [] [] rfl ?_;(repeat' first|exact y85 _|constructor))
  all_goals exact z138 (by simp)
 ·rw [hv] at k1 k2
  generalize csA s l (.mk 10 0 [.mk 2 0 []])=A at *
  generalize csB s l (.mk 10 0 [.mk 2 0 []])=B at *
  rw [y16 f] at *
  refine z7 z14 Tryz.func5 rfl rfl 80 Tryz.ntmps5 (by simp) ?_
  repeat' ((first|(apply y4 ok;rfl)|((apply z6)<;>intro _)|(apply z4 (cd);rfl;rfl)|((first|(apply z8 [3] [] (z222 k1);rfl;rfl)|(apply z8 [4] [] (z222 k2);rfl;rfl));rfl;(focus ((repeat' first|exact z13|apply z11)<;>exact z103))))<;>conv=>whnf)
  all_goals (refine rsD [] [] rfl ?_;(repeat' first|exact y85 _|constructor))
  all_goals exact z138 (by simp)
 ·have hp:=z820 hb h1
  have hLo:=y8 h1
  have h0l:0 < l.length:=by rw [hLo.1];omega
  have hgood:=hLo.2 _ (y44 h0l)
  have hex:l[0].exprB=true:=by
   simp only [z111,y70,decide_eq_true_eq,y78] at h1
   exact h1.2 _ (y44 h0l)
  have g0:(l.map Tree.cs')[0]?=some (Tree.cs' l[0]):=by rw [y51,y45 h0l];rfl
  have k3:=z905 s hs g hb l[0] hex (hlm.2 _ (y44 h0l))
  have eb:badS l=fun st=>decide (l[0].ev st.b=0):=by
   funext st;unfold badS;rw [z17 h0l]
  rw [← eb] at k3
  have la:=z218 g (vdT g l (.mk 10 0 [.mk 2 0 []])).stem
  have lb:=z218 g (vdT g l (.mk 10 0 [.mk 2 0 []])).loop
  obtain ⟨z1,z2⟩:=z922 (g:=g) (l:=l) (f:=.mk 10 0 [.mk 2 0 []])
  have lp:=z218 g (shL g.nx [0] fun n=>decide (n=idxF (badS l) g.st))
  rw [hv,hA,hB] at k1 k2
  rcases hp with ⟨hv0,hneg⟩|⟨hv1,hpos,hle⟩
  ·have e1:ckV g (badS l)=0:=if_pos hneg
   rw [e1] at k3
   rw [hv0] at k1 k2
   generalize ckP g (badS l)=R at *
   generalize stsL g (vdT g l (.mk 10 0 [.mk 2 0 []])).stem=A at *
   generalize stsL g (vdT g l (.mk 10 0 [.mk 2 0 []])).loop=B at *
   generalize l[0]=e at *
   rw [y16 f] at *
   have k4:CallsA Tryz.prog 28 [.agg s.cs,.agg (Tree.cs' e)] [] _ []:=k3
   refine z7 z14 Tryz.func5 rfl rfl 80 Tryz.ntmps5 (by simp) ?_
   repeat' ((first|(apply y4 ok;rfl)|(apply z23;kernel_rfl)|(refine z15 (i:=0) rfl g0 ?_)|(apply y43;omega)|((apply z6)<;>intro _)|(apply z4 (cd);rfl;rfl)|(apply z4 (k4);rfl;rfl)|((first|(apply z8 [3] [] (z222 k1);rfl;rfl)|(apply z8 [4] [] (z222 k2);rfl;rfl));rfl;(focus ((repeat' first|exact z13|apply z11)<;>exact z103))))<;>conv=>whnf)
   all_goals (refine rsD [] [] rfl ?_;(repeat' first|exact y85 _|constructor))
   all_goals exact z138 (by simp)
  ·have e1:ckV g (badS l)=1:=if_neg (by omega)
   have e2:ckP g (badS l)=stsL g (shL g.nx [0] fun n=>decide (n=idxF (badS l) g.st)):=if_neg (by omega)
   rw [e1,e2] at k3
   rw [hv1] at k1 k2
   rw [← lp,← la,← lb] at hle
   generalize stsL g (shL g.nx [0] fun n=>decide (n=idxF (badS l) g.st))=R at *
   generalize stsL g (vdT g l (.mk 10 0 [.mk 2 0 []])).stem=A at *
   generalize stsL g (vdT g l (.mk 10 0 [.mk 2 0 []])).loop=B at *
   generalize l[0]=e at *
   rw [y16 f] at *
   have k4:CallsA Tryz.prog 28 [.agg s.cs,.agg (Tree.cs' e)] [] _ []:=k3
   refine z7 z14 Tryz.func5 rfl rfl 80 Tryz.ntmps5 (by simp) ?_
   repeat' ((first|(apply y4 ok;rfl)|(apply z23;kernel_rfl)|(refine z15 (i:=0) rfl g0 ?_)|(apply y43;first|omega|(unfold inI;omega))|((apply z6)<;>intro _)|(apply z4 (cd);rfl;rfl)|(apply z4 (k4);rfl;rfl)|((first|(apply z8 [3] [] (z222 k1);rfl;rfl)|(apply z8 [4] [] (z222 k2);rfl;rfl));rfl;(focus ((repeat' first|exact z13|apply z11)<;>exact z103))))<;>conv=>whnf)
   all_goals (refine rsD [] [] rfl ?_;(repeat' first|exact y85 _|constructor))
   all_goals exact z138 (by simp<;>omega)
end Go.Proofs.YtnfoijopccdjeaaGreat
namespace Go.Proofs.YtnfoijopccdjeaaGreat
open Go.Gl
open Go.ChangeShapes Go.WideShapes Go.ChangeAt Go.RowKit
attribute [local irreducible] z18 AWP z33 z37 z34
namespace FnCheckAlways
theorem args_ok:ArgsOk Tryz.prog Tryz.f5.params.toList (fun xs _=>∃ (c:List Int),xs=[lst 1 enU c]∧CodeOk c):=by
 rw [Tryz.params5]
 refine ArgsOk.imp (z817 z1212 (z965)) ?_
 rintro xs m ⟨c,_,rfl,hc,rfl⟩
 exact ⟨c,rfl,hc⟩
set_option maxRecDepth 100000 in
theorem contract (H : Type) (enc : TypeId × Value → H) (W : World) (base : Nat) (args : Array Value) (ds gs : List (DataW H)) (before : List MemPlace)
    (hval:∀ (j:Nat) t v,Tryz.f5.params[j]?=some t→args[j]?=some v→Value.okWide Tryz.prog W .any base t v)
    (hW:DataW.Whole enc Tryz.prog Tryz.f5.params.toList Rows.fnCheckAlwaysSpec.vars false W args.toList ds gs before) :
    Calls Tryz.prog 5 args W fun e W'=>∃ v,e=.returned v∧Rows.fnCheckAlwaysSpec.post enc Tryz.prog Tryz.f5 false true false false W args v W':=by
  refine z945 z564 z614 (by rw [Tryz.params5];decide +kernel) rfl (fun ds h=>?_) (by kernel_rfl) Tryz.underlying4 args_ok (fun xs m h _=>?_) hval hW
  · rw [Tryz.params5] at h
    match ds,h with
    | [_],_=>rfl
  · obtain ⟨c,rfl,hc⟩:=h
    exact z466 c hc
noncomputable def w0 (os:Os):World:=World.holding Tryz.prog os ⟨#[],#[],[]⟩
def zeros:Array Value:=#[.slice none 0 0]
theorem reads (os:Os) {H:Type} (enc:TypeId×Value→H):∃ places,DataW.whole enc Tryz.prog ((w0 os).forCall (fun _ _=>0) ⟨#[],zeros,[]⟩).memory Tryz.f5.params.toList Rows.fnCheckAlwaysSpec.vars false zeros.toList 8=some ([.nil],[],places) :=
 ⟨[],by kernel_rfl⟩
set_option maxRecDepth 100000 in
theorem lifted (os : Os) (started : os.Started) (H : Type) (enc : TypeId × Value → H) (F : Stop.Interp) :
    ReturnsInHanded {} Tryz.checked os 5 .any ((OpenSpec.ofChange Rows.fnCheckAlwaysSpec).preRow enc Tryz.prog Tryz.f5 Rows.fnCheckAlwaysRow.domain false Rows.fnCheckAlwaysRow.laid) (((OpenSpec.ofChange Rows.fnCheckAlwaysSpec).at F).post enc Tryz.prog Tryz.f5 false true false false):=by
  obtain ⟨places,hx⟩:=reads os enc
  refine returnsInHanded_of_row (C:=Tryz.checked) (s:=OpenSpec.ofChange Rows.fnCheckAlwaysSpec) own started (by kernel_rfl) Tryz.func5
    (witness_row_at (enc:=enc) (C:=Tryz.checked) false (w0 os) zeros rfl (by kernel_rfl) (by kernel_rfl) (by kernel_rfl)
      (OpenSpec.preRow_of_cond 8 hx (by kernel_rfl) (fun k hk=>by cases hk) (by kernel_rfl) (laidMetH_nil _ _))) ?_
  intro W base args ds gs before hval hW _ _ _ _ _ _
  exact contract H enc W base args ds gs before hval hW
set_option maxHeartbeats 40000000 in
set_option maxRecDepth 100000 in
theorem closed:joinedFacts Tryz.prog 5 Tryz.f5 (OpenSpec.ofChange Rows.fnCheckAlwaysSpec).bare Rows.fnCheckAlwaysRow=true:=by
 unfold joinedFacts
 repeat' (with_reducible apply and_mk)
 all_goals (as_aux_lemma=>kernel_rfl)
theorem proved:Rows.FnCheckAlwaysSaid :=
 OpenClaim.holds_of_cond 5 Tryz.f5 rfl rfl rfl rfl rfl rfl rfl ⟨rfl,rfl,rfl,rfl,rfl⟩ rfl rfl rfl rfl rfl (by kernel_rfl) Tryz.func5 closed
  (of_decide_eq_true (by kernel_rfl)) (by unfold Func.isWrapper;first|(rw [if_pos (by decide +kernel)];kernel_rfl)|(rw [if_neg (by decide +kernel)];exact ⟨rfl,rfl⟩))
  (fun os started H enc _ F=>by rw [OpenClaim.pre_eq_preRow];exact lifted os started H enc F)
end FnCheckAlways
end Go.Proofs.YtnfoijopccdjeaaGreat
