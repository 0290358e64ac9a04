/- Made certificates are minimal. The law FnCertificateLeast returns true at every input and leaves its input as it was. No condition. -/
import Derived.Test.YtahhobgjcfionaaGreatG0
import Derived.Test.YtahhobgjcfionaaGreatG1
import Derived.Test.YtahhobgjcfionaaGreatG2
import Derived.Test.YtahhobgjcfionaaGreatG3
import Derived.Test.YtahhobgjcfionaaGreatP0
import Derived.Test.YtahhobgjcfionaaGreatP1
import Derived.Test.YtahhobgjcfionaaGreatP2
import Derived.Test.YtahhobgjcfionaaGreatP3
import Derived.Test.YtahhobgjcfionaaGreatP4
import Derived.Test.YtahhobgjcfionaaGreatP5
import Derived.Test.YtahhobgjcfionaaGreatP6
import Derived.Test.YtahhobgjcfionaaGreatP7
import Derived.Test.YtahhobgjcfionaaGreatP8
set_option linter.all false
namespace Go.Proofs.YtahhobgjcfionaaGreat
open Go.Gl
attribute [local irreducible] z29 AWP z46 z50 z47 RetS z58
set_option maxHeartbeats 6400000 in
theorem z291 (c:List Int) (hc:CodeOk c):CallsA Tryz.prog 5 [lst 1 enU c] [] (.bool true) []:=by
 obtain ⟨g,l,a,R,⟨hg,hl,ha,hR⟩,cd⟩:=z1125 c hc
 have hgm:=hg.mx
 have hlm:=hl.mx
 have ham:=Aut.sm.mx' ha
 have hlen:=hc.len
 unfold maxLen at hlen
 have hcm:(Cert.mk R).mx:=by show R.length≤maxLen;unfold maxLen;omega
 have k1:=z209 g hgm l hlm a ham ⟨R⟩ hcm
 have k2:=z152 g hgm l hlm a ham ⟨R⟩ hcm
 have k3:=z852 g hgm l hlm a ham
 change CallsA _ _ [.agg g.cs,lst 3 Tree.cs' l,.agg a.cs,.agg [ints R]] _ _ _ at k1 k2
 change CallsA _ _ _ _ (.tup [.agg [ints (mkR g l a)],_]) _ at k3
 by_cases hcb:z275 g l a ⟨R⟩=true
 ·obtain ⟨h1,h2⟩:=certB_le hcb
  rw [z681 hcb] at k3
  rw [hcb] at k1 k2
  generalize mkR g l a=M at *
  clear hcb
  refine z7 z15 Tryz.func5 rfl rfl 80 Tryz.ntmps5 (by simp) ?_
  repeat' ((first|(apply y76 ok;rfl)|((first|apply z5|apply z37)<;>intro _)|(apply z6 (cd);rfl;rfl)|(apply z6 (k1);rfl;rfl)|(apply z6 (k2);rfl;rfl)|(apply z6 (k3);rfl;rfl))<;>conv=>whnf)
  all_goals first|(exfalso;omega)|(refine rsD [] [] rfl ?_;(repeat' first|exact y78 _|constructor))|skip
  all_goals
   refine z65 (fun i:Nat=>([(6,.ptr 0 none 0),(8,.ptr 1 none 0),(10,.int i)],[.cells 1 [[ints R]],.cells 1 [[ints M]]])) (fun i=>i≤R.length) (fun i=>R.length - i) 0 (y46 _) (by refine swR [2,3] [] rfl rfl ?_;(repeat' first|exact y78 _|apply y79|constructor)) ?_
   intro i hi
   by_cases hi2:i < R.length
   ·have g1:(R.map enI)[i]?=some (enI (R.getD i 0)):=by rw [y44,y38 hi2,z14 hi2];rfl
    have g2:(M.map enI)[i]?=some (enI (M.getD i 0)):=by rw [y44,y38 (by omega),z14 (by omega)];rfl
    have h3:=h2 i hi2
    generalize R.getD i 0=x at *
    generalize M.getD i 0=y at *
    repeat' ((first|(apply y76 ok;rfl)|(apply z21;kernel_rfl)|(refine z12 (i:=i) rfl g2 ?_)|(refine z12 (i:=i) rfl g1 ?_)|(apply y36;first|omega|(unfold inI;omega))|((apply z5)<;>intro _))<;>conv=>whnf)
    all_goals try (exfalso;omega)
    all_goals refine z25 (i+1) hi2 (by omega) (by refine swR [0,1] [] rfl rfl ?_;(repeat' first|exact y78 _|apply y79|constructor))
   ·repeat' ((first|(apply y76 ok;rfl)|(apply z21;kernel_rfl)|(apply y36;omega)|(((with_reducible apply z8;omega));intro _)|((apply z5)<;>intro _))<;>conv=>whnf)
    all_goals first|(exfalso;omega)|(refine rsD [] [] rfl ?_;(repeat' first|exact y78 _|constructor))
 ·rw [(y64 _).mp hcb] at k1 k2
  refine z7 z15 Tryz.func5 rfl rfl 80 Tryz.ntmps5 (by simp) ?_
  repeat' ((first|(apply y76 ok;rfl)|((apply z5)<;>intro _)|(apply z6 (cd);rfl;rfl)|(apply z6 (k1);rfl;rfl)|(apply z6 (k2);rfl;rfl))<;>conv=>whnf)
  all_goals (refine rsD [] [] rfl ?_;(repeat' first|exact y78 _|constructor))
end Go.Proofs.YtahhobgjcfionaaGreat
namespace Go.Proofs.YtahhobgjcfionaaGreat
open Go.Gl
open Go.ChangeShapes Go.WideShapes Go.ChangeAt Go.RowKit
attribute [local irreducible] z29 AWP z46 z50 z47
namespace FnCertificateLeast
theorem args_ok:ArgsOk Tryz.prog Tryz.f5.params.toList (fun xs _=>∃ (c:List Int),xs=[lst 1 enU c]∧CodeOk c):=by
 rw [Tryz.params5]
 refine ArgsOk.imp (z304 z554 (z687)) ?_
 rintro xs m ⟨c,_,rfl,hc,rfl⟩
 exact ⟨c,rfl,hc⟩
set_option maxRecDepth 100000 in
theorem contract (H : Type) (enc : TypeId × Value → H) (W : World) (base : Nat) (args : Array Value) (ds gs : List (DataW H)) (before : List MemPlace)
    (hval:∀ (j:Nat) t v,Tryz.f5.params[j]?=some t→args[j]?=some v→Value.okWide Tryz.prog W .any base t v)
    (hW:DataW.Whole enc Tryz.prog Tryz.f5.params.toList Rows.fnCertificateLeastSpec.vars false W args.toList ds gs before) :
    Calls Tryz.prog 5 args W fun e W'=>∃ v,e=.returned v∧Rows.fnCertificateLeastSpec.post enc Tryz.prog Tryz.f5 false true false false W args v W':=by
  refine z658 z354 z426 (by rw [Tryz.params5];decide +kernel) rfl (fun ds h=>?_) (by kernel_rfl) Tryz.underlying4 args_ok (fun xs m h _=>?_) hval hW
  · rw [Tryz.params5] at h
    match ds,h with
    | [_],_=>rfl
  · obtain ⟨c,rfl,hc⟩:=h
    exact z291 c hc
noncomputable def w0 (os:Os):World:=World.holding Tryz.prog os ⟨#[],#[],[]⟩
def zeros:Array Value:=#[.slice none 0 0]
theorem reads (os:Os) {H:Type} (enc:TypeId×Value→H):∃ places,DataW.whole enc Tryz.prog ((w0 os).forCall (fun _ _=>0) ⟨#[],zeros,[]⟩).memory Tryz.f5.params.toList Rows.fnCertificateLeastSpec.vars false zeros.toList 8=some ([.nil],[],places) :=
 ⟨[],by kernel_rfl⟩
set_option maxRecDepth 100000 in
theorem lifted (os : Os) (started : os.Started) (H : Type) (enc : TypeId × Value → H) (F : Stop.Interp) :
    ReturnsInHanded {} Tryz.checked os 5 .any ((OpenSpec.ofChange Rows.fnCertificateLeastSpec).preRow enc Tryz.prog Tryz.f5 Rows.fnCertificateLeastRow.domain false Rows.fnCertificateLeastRow.laid) (((OpenSpec.ofChange Rows.fnCertificateLeastSpec).at F).post enc Tryz.prog Tryz.f5 false true false false):=by
  obtain ⟨places,hx⟩:=reads os enc
  refine returnsInHanded_of_row (C:=Tryz.checked) (s:=OpenSpec.ofChange Rows.fnCertificateLeastSpec) own started (by kernel_rfl) Tryz.func5
    (witness_row_at (enc:=enc) (C:=Tryz.checked) false (w0 os) zeros rfl (by kernel_rfl) (by kernel_rfl) (by kernel_rfl)
      (OpenSpec.preRow_of_cond 8 hx (by kernel_rfl) (fun k hk=>by cases hk) (by kernel_rfl) (laidMetH_nil _ _))) ?_
  intro W base args ds gs before hval hW _ _ _ _ _ _
  exact contract H enc W base args ds gs before hval hW
set_option maxHeartbeats 40000000 in
set_option maxRecDepth 100000 in
theorem closed:joinedFacts Tryz.prog 5 Tryz.f5 (OpenSpec.ofChange Rows.fnCertificateLeastSpec).bare Rows.fnCertificateLeastRow=true:=by
 unfold joinedFacts
 repeat' (with_reducible apply z1158)
 all_goals (as_aux_lemma=>kernel_rfl)
theorem proved:Rows.FnCertificateLeastSaid :=
 OpenClaim.holds_of_cond 5 Tryz.f5 rfl rfl rfl rfl rfl rfl rfl ⟨rfl,rfl,rfl,rfl,rfl⟩ rfl rfl rfl rfl rfl (by kernel_rfl) Tryz.func5 closed
  (of_decide_eq_true (by kernel_rfl)) (by unfold Func.isWrapper;first|(rw [if_pos (by decide +kernel)];kernel_rfl)|(rw [if_neg (by decide +kernel)];exact ⟨rfl,rfl⟩))
  (fun os started H enc _ F=>by rw [OpenClaim.pre_eq_preRow];exact lifted os started H enc F)
end FnCertificateLeast
end Go.Proofs.YtahhobgjcfionaaGreat
