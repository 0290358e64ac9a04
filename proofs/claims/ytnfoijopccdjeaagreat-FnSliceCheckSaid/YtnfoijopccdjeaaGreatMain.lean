/- Slices preserve formulas. The law FnSliceCheck returns true at every input and leaves its input as it was. No condition. -/
import Derived.Test.YtnfoijopccdjeaaGreatG0
import Derived.Test.YtnfoijopccdjeaaGreatG1
import Derived.Test.YtnfoijopccdjeaaGreatG2
import Derived.Test.YtnfoijopccdjeaaGreatG3
import Derived.Test.YtnfoijopccdjeaaGreatP0
import Derived.Test.YtnfoijopccdjeaaGreatP1
import Derived.Test.YtnfoijopccdjeaaGreatP2
import Derived.Test.YtnfoijopccdjeaaGreatP3
import Derived.Test.YtnfoijopccdjeaaGreatP4
import Derived.Test.YtnfoijopccdjeaaGreatP5
import Derived.Test.YtnfoijopccdjeaaGreatP6
import Derived.Test.YtnfoijopccdjeaaGreatP7
import Derived.Test.YtnfoijopccdjeaaGreatP8
set_option linter.all false
namespace Go.Proofs.YtnfoijopccdjeaaGreat
open Go.Gl
attribute [local irreducible] z18 AWP z30 z36 z32 RetS z38
theorem equalRG (l:List Edge) (hl:l.length≤100000) (f:FuncId) (hf:∀ x∈l,CallsA Tryz.prog f [z24 Edge.cs x,z24 Edge.cs x] [] (.bool true) []):CallsA Tryz.prog 85 [lst 10 Edge.cs l,lst 10 Edge.cs l,.fn (.func f) [] []] [] (.bool true) []:=by
 refine z7 z16 Tryz.func85 rfl (by kernel_rfl) 32 Tryz.ntmps85 (by simp) ?_
 repeat' ((first|(apply y4 ok;rfl)|((apply z52)<;>intro _))<;>conv=>whnf)
 all_goals first|(exfalso;contradiction)|skip
 refine z58 (fun i:Nat=>([(1,lst 10 Edge.cs l),(2,.fn (.func f) [] []),(15,lst 10 Edge.cs l),(16,.int l.length),(17,.int i)],[])) (fun i=>i≤l.length) (fun i=>l.length - i) 0 (by omega) (by refine swR [] [] rfl rfl ?_;(repeat' first|exact y85 _|constructor)) ?_
 intro i hi
 by_cases hil:i < l.length
 ·have gs:(l.map Edge.cs)[i]?=some (Edge.cs l[i]):=by rw [y51,y45 hil];rfl
  have c1:=hf l[i] (y44 hil)
  generalize l[i]=s at *
  repeat' ((first|(apply y4 ok;rfl)|(refine z15 (i:=i) rfl gs ?_)|(apply y43;first|omega|(unfold inI;omega))|((apply z5)<;>intro _)|(apply z6 (c1);rfl;rfl))<;>conv=>whnf)
  all_goals try (exfalso;omega)
  all_goals refine z21 (i+1) (by omega) (by omega) (by refine swR [] [] rfl rfl ?_;(repeat' first|exact y85 _|constructor))
 ·repeat' ((first|(apply y4 ok;rfl)|(apply y43;omega)|(((with_reducible apply z13;omega));intro _)|((apply z5)<;>intro _))<;>conv=>whnf)
  all_goals first|(exfalso;omega)|(refine rsD [] [] rfl ?_;(repeat' first|exact y85 _|constructor))
theorem equalRP (l:List Proc) (hl:l.length≤100000) (f:FuncId) (hf:∀ x∈l,CallsA Tryz.prog f [z24 Proc.cs x,z24 Proc.cs x] [] (.bool true) []):CallsA Tryz.prog 83 [lst 2 Proc.cs l,lst 2 Proc.cs l,.fn (.func f) [] []] [] (.bool true) []:=by
 refine z7 z16 Tryz.func83 rfl (by kernel_rfl) 32 Tryz.ntmps83 (by simp) ?_
 repeat' ((first|(apply y4 ok;rfl)|((apply z52)<;>intro _))<;>conv=>whnf)
 all_goals first|(exfalso;contradiction)|skip
 refine z58 (fun i:Nat=>([(1,lst 2 Proc.cs l),(2,.fn (.func f) [] []),(15,lst 2 Proc.cs l),(16,.int l.length),(17,.int i)],[])) (fun i=>i≤l.length) (fun i=>l.length - i) 0 (by omega) (by refine swR [] [] rfl rfl ?_;(repeat' first|exact y85 _|constructor)) ?_
 intro i hi
 by_cases hil:i < l.length
 ·have gs:(l.map Proc.cs)[i]?=some (Proc.cs l[i]):=by rw [y51,y45 hil];rfl
  have c1:=hf l[i] (y44 hil)
  generalize l[i]=s at *
  repeat' ((first|(apply y4 ok;rfl)|(refine z15 (i:=i) rfl gs ?_)|(apply y43;first|omega|(unfold inI;omega))|((apply z5)<;>intro _)|(apply z6 (c1);rfl;rfl))<;>conv=>whnf)
  all_goals try (exfalso;omega)
  all_goals refine z21 (i+1) (by omega) (by omega) (by refine swR [] [] rfl rfl ?_;(repeat' first|exact y85 _|constructor))
 ·repeat' ((first|(apply y4 ok;rfl)|(apply y43;omega)|(((with_reducible apply z13;omega));intro _)|((apply z5)<;>intro _))<;>conv=>whnf)
  all_goals first|(exfalso;omega)|(refine rsD [] [] rfl ?_;(repeat' first|exact y85 _|constructor))
theorem z845 (p:Proc) (hp:p.s1):CallsA Tryz.prog 84 [z24 Proc.cs p,z24 Proc.cs p] [] (.bool true) []:=by
 have hl:=hp.len
 have c:=equalRG p.es (by omega) 86 (fun e he=>z870 e (hp.el e he))
 unfold z24
 refine z7 z16 Tryz.func84 rfl rfl 17 Tryz.ntmps84 (by simp) ?_
 repeat' ((first|(apply y4 ok;rfl)|((apply z5)<;>intro _)|(apply z6 (c);rfl;rfl))<;>conv=>whnf)
 all_goals first|(exfalso;contradiction)|(refine rsD [] [] rfl ?_;(repeat' first|exact y85 _|constructor))
 all_goals exact z183 (by simp)
theorem z586 (s:Sys) (hs:s.s1):CallsA Tryz.prog 33 [.agg s.cs,.agg s.cs] [] (.bool true) []:=by
 have hl:=hs.len
 have hi:=hs.init
 have c1:=z545 s.init s.init (by unfold maxLen;omega) (by unfold maxLen;omega)
 rw [y81 rfl] at c1
 have c2:=equalRP s.ps (by omega) 84 (fun p hp=>z845 p (hs.el p hp))
 refine z7 z16 Tryz.func33 rfl rfl 17 Tryz.ntmps33 (by simp) ?_
 repeat' ((first|(apply y4 ok;rfl)|(apply z6 (c1);rfl;rfl)|(apply z6 (c2);rfl;rfl))<;>conv=>whnf)
 all_goals (refine rsD [] [] rfl ?_;(repeat' first|exact y85 _|constructor))
set_option maxHeartbeats 3200000 in
theorem z1180 (bs:List Int) (hb:CodeOk bs):∃ (s:Sys) (l:List Tree),(s.s1∧Lab.d l)∧CallsA Tryz.prog 29 [lst 1 enU bs] [] (.tup [.agg s.cs,lst 3 Tree.cs' l]) []:=by
 have co:=z603 bs hb.len
 have hbt:=hb.take
 have cd:∃ (s:Sys) (l:List Tree),(s.s1∧Lab.d l)∧CallsA Tryz.prog 76 [lst 1 enU bs] [] (.tup [.agg s.cs,lst 3 Tree.cs' l]) []:=by
  generalize bs.take 2000=b0 at *
  obtain ⟨l,p1,⟨l1,l2,l3,l4⟩,c1⟩:=z758 b0 hbt 0 ⟨by omega,by omega⟩
  obtain ⟨s0,p4,⟨d1,d2,d3⟩,c3⟩:=z757 b0 hbt p1 ⟨by omega,by omega⟩
  obtain ⟨s,p5,⟨e1,e2,e3⟩,c4⟩:=z859 b0 hbt p4 ⟨by omega,by omega⟩ s0 d1
  refine ⟨s,l,⟨e1,⟨l1,l2⟩⟩,?_⟩
  refine z7 z16 Tryz.func76 rfl rfl 15 Tryz.ntmps76 (by simp) ?_
  repeat' ((first|(apply y4 ok;rfl)|((first|(apply z25 [] [1] co;rfl;rfl)|(apply z25 [1] [] c1;rfl;rfl)|(apply z25 [1] [] c3;rfl;rfl)|(apply z25 [1] [] c4;rfl;rfl));rfl))<;>conv=>whnf)
  all_goals (refine rsD [] [] rfl ?_;(repeat' first|exact y85 _|constructor))
 obtain ⟨s,l,h,c⟩:=cd
 refine ⟨s,l,h,?_⟩
 refine z7 z16 Tryz.func29 rfl rfl 8 Tryz.ntmps29 (by simp) ?_
 repeat' ((first|(apply y4 ok;rfl)|(apply z6 (c);rfl;rfl))<;>conv=>whnf)
 all_goals (refine rsD [] [] rfl ?_;(repeat' first|exact y85 _|constructor))
theorem slS_s1 {s:Sys} (h:s.s1) (v:List Bool):(slS v s).s1:=by
 refine ⟨h.init,by rw [z343];exact h.len,fun p hp=>?_⟩
 obtain ⟨q,hq,rfl⟩:=List.mem_map.1 hp
 have h2:=h.el q hq
 refine ⟨by rw [z834];exact h2.len,fun e he=>?_⟩
 obtain ⟨f,hf,rfl⟩:=List.mem_map.1 he
 have h3:=h2.el f hf
 unfold slE
 split
 ·exact ⟨h3.gd,by show (leaf 0 0).sz≤1000;rw [z82];omega⟩
 ·exact h3
theorem z829 (s:Sys) (l:List Tree) (f:Tree) (h1:sysB s=true) (h2:z85 l=true):csV s l f=2∨csV s l f=csV (slS (s.rel l) s) l f:=by
 have h3:sysB (slS (s.rel l) s)=true:=z1081 (l:=l) h1
 by_cases hf:f.fmB=true
 ·cases hb:z90 s with
  |none =>
   left
   unfold csV
   rw [h1,h2,hf,hb];rfl
  |some g =>
   right
   obtain ⟨g',hb'⟩:=sl_build (z1101 s l) hb
   unfold csV
   rw [h1,h2,hf,h3,hb,hb']
   exact z974 l h2 hb hb' f
 ·right
  have hf:=(y71 _).mp hf
  unfold csV
  rw [h1,h2,hf,h3];rfl
set_option maxHeartbeats 6400000 in
theorem z524 (c:List Int) (hc:CodeOk c) (d:List Int) (hd:CodeOk d):CallsA Tryz.prog 6 [lst 1 enU c,lst 1 enU d] [] (.bool true) []:=by
 obtain ⟨s,l,⟨hs,hl⟩,cd⟩:=z1180 c hc
 obtain ⟨g,l2,f,⟨_,_,hf⟩,ce⟩:=z1181 d hd
 have hlm:=hl.mx
 have hlz:∀ t∈l,t.sz≤1000:=fun t ht=>by have:=hl.el t ht;omega
 have hlen:=hc.len
 have hlen2:=hd.len
 unfold maxLen at hlen hlen2
 have hfm:f.mx:=z109 f (by unfold maxLen;omega)
 cases hv:(sysB s && z85 l) with
 |false =>
  have k1:=z764 s hs l hlm hv
  have k2:=z713 s hs l hlm hv
  have k3:=z586 ⟨[],[]⟩ ⟨by simp,by simp,by simp⟩
  rw [y16 f] at *
  refine z7 z16 Tryz.func6 rfl rfl 95 Tryz.ntmps6 (by simp) ?_
  repeat' ((first|(apply y4 ok;rfl)|((apply z5)<;>intro _)|(apply z6 (cd);rfl;rfl)|(apply z6 (ce);rfl;rfl)|(apply z6 (k1);rfl;rfl)|(apply z6 (k2);rfl;rfl)|(apply z6 (k3);rfl;rfl))<;>conv=>whnf)
  all_goals (refine rsD [] [] rfl ?_;(repeat' first|exact y85 _|constructor))
  all_goals exact z183 (by simp)
 |true =>
  obtain ⟨h1,h2⟩:=Bool.and_eq_true_iff.1 hv
  have k1:=z763 s hs l hlm hlz h1 h2
  have k2:=z712 s hs l hlm hlz h1 h2
  have k3:=z586 (slS (s.rel l) s) (slS_s1 hs _)
  have k4:=z389 s hs l hlm f hfm
  have k5:=z389 (slS (s.rel l) s) (slS_s1 hs _) l hlm f hfm
  have hp:=z829 s l f h1 h2
  generalize slS (s.rel l) s=z at *
  generalize csV s l f=v at *
  generalize csV z l f=w at *
  generalize csA s l f=A at *
  generalize csB s l f=B at *
  generalize csA z l f=A2 at *
  generalize csB z l f=B2 at *
  rw [y16 f] at *
  refine z7 z16 Tryz.func6 rfl rfl 95 Tryz.ntmps6 (by simp) ?_
  repeat' ((first|(apply y4 ok;rfl)|((apply z5)<;>intro _)|(apply z6 (cd);rfl;rfl)|(apply z6 (ce);rfl;rfl)|(apply z6 (k1);rfl;rfl)|(apply z6 (k2);rfl;rfl)|(apply z6 (k3);rfl;rfl)|(apply z6 (k4);rfl;rfl)|(apply z6 (k5);rfl;rfl))<;>conv=>whnf)
  all_goals (refine rsD [] [] rfl ?_;(repeat' first|exact y85 _|constructor))
  all_goals exact z183 (by (simp;omega))
end Go.Proofs.YtnfoijopccdjeaaGreat
namespace Go.Proofs.YtnfoijopccdjeaaGreat
open Go.Gl
open Go.ChangeShapes Go.WideShapes Go.ChangeAt Go.RowKit
attribute [local irreducible] z18 AWP z30 z36 z32
namespace FnSliceCheck
theorem args_ok:ArgsOk Tryz.prog Tryz.f6.params.toList (fun xs _=>∃ (c:List Int) (d:List Int),xs=[lst 1 enU c,lst 1 enU d]∧CodeOk c∧CodeOk d):=by
 rw [Tryz.params6]
 refine ArgsOk.imp (z793 z1214 (z793 z1214 (args_nil))) ?_
 rintro xs m ⟨c,_,rfl,hc,d,_,rfl,hd,rfl⟩
 exact ⟨c,d,rfl,hc,hd⟩
set_option maxRecDepth 100000 in
theorem contract (H : Type) (enc : TypeId × Value → H) (W : World) (base : Nat) (args : Array Value) (ds gs : List (DataW H)) (before : List MemPlace)
    (hval:∀ (j:Nat) t v,Tryz.f6.params[j]?=some t→args[j]?=some v→Value.okWide Tryz.prog W .any base t v)
    (hW:DataW.Whole enc Tryz.prog Tryz.f6.params.toList Rows.fnSliceCheckSpec.vars false W args.toList ds gs before) :
    Calls Tryz.prog 6 args W fun e W'=>∃ v,e=.returned v∧Rows.fnSliceCheckSpec.post enc Tryz.prog Tryz.f6 false true false false W args v W':=by
  refine law_post z883 z992 (by rw [Tryz.params6];decide +kernel) rfl (fun ds h=>?_) (by kernel_rfl) Tryz.underlying4 args_ok (fun xs m h _=>?_) hval hW
  · rw [Tryz.params6] at h
    match ds,h with
    | [_,_],_=>rfl
  · obtain ⟨c,d,rfl,hc,hd⟩:=h
    exact z524 c hc d hd
noncomputable def w0 (os:Os):World:=World.holding Tryz.prog os ⟨#[],#[],[]⟩
def zeros:Array Value:=#[.slice none 0 0,.slice none 0 0]
theorem reads (os:Os) {H:Type} (enc:TypeId×Value→H):∃ places,DataW.whole enc Tryz.prog ((w0 os).forCall (fun _ _=>0) ⟨#[],zeros,[]⟩).memory Tryz.f6.params.toList Rows.fnSliceCheckSpec.vars false zeros.toList 8=some ([.nil,.nil],[],places) :=
 ⟨[],by kernel_rfl⟩
set_option maxRecDepth 100000 in
theorem lifted (os : Os) (started : os.Started) (H : Type) (enc : TypeId × Value → H) (F : Stop.Interp) :
    ReturnsInHanded {} Tryz.checked os 6 .any ((OpenSpec.ofChange Rows.fnSliceCheckSpec).preRow enc Tryz.prog Tryz.f6 Rows.fnSliceCheckRow.domain false Rows.fnSliceCheckRow.laid) (((OpenSpec.ofChange Rows.fnSliceCheckSpec).at F).post enc Tryz.prog Tryz.f6 false true false false):=by
  obtain ⟨places,hx⟩:=reads os enc
  refine returnsInHanded_of_row (C:=Tryz.checked) (s:=OpenSpec.ofChange Rows.fnSliceCheckSpec) own started (by kernel_rfl) Tryz.func6
    (witness_row_at (enc:=enc) (C:=Tryz.checked) false (w0 os) zeros rfl (by kernel_rfl) (by kernel_rfl) (by kernel_rfl)
      (OpenSpec.preRow_of_cond 8 hx (by kernel_rfl) (fun k hk=>by cases hk) (by kernel_rfl) (laidMetH_nil _ _))) ?_
  intro W base args ds gs before hval hW _ _ _ _ _ _
  exact contract H enc W base args ds gs before hval hW
set_option maxHeartbeats 40000000 in
set_option maxRecDepth 100000 in
theorem closed:joinedFacts Tryz.prog 6 Tryz.f6 (OpenSpec.ofChange Rows.fnSliceCheckSpec).bare Rows.fnSliceCheckRow=true:=by
 unfold joinedFacts
 repeat' (with_reducible apply and_mk)
 all_goals (as_aux_lemma=>kernel_rfl)
theorem proved:Rows.FnSliceCheckSaid :=
 OpenClaim.holds_of_cond 6 Tryz.f6 rfl rfl rfl rfl rfl rfl rfl ⟨rfl,rfl,rfl,rfl,rfl⟩ rfl rfl rfl rfl rfl (by kernel_rfl) Tryz.func6 closed
  (of_decide_eq_true (by kernel_rfl)) (by unfold Func.isWrapper;first|(rw [if_pos (by decide +kernel)];kernel_rfl)|(rw [if_neg (by decide +kernel)];exact ⟨rfl,rfl⟩))
  (fun os started H enc _ F=>by rw [OpenClaim.pre_eq_preRow];exact lifted os started H enc F)
end FnSliceCheck
end Go.Proofs.YtnfoijopccdjeaaGreat
