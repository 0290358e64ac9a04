/- A part of the proofs over this program: T144, T225, T145, T226, T146, T147, T227, T148, T149, T228, T229, T150, T151. -/
import Derived.Test.YtnfoijopccdjeaaGreatG0
import Derived.Test.YtnfoijopccdjeaaGreatG1
import Derived.Test.YtnfoijopccdjeaaGreatG2
import Derived.Test.YtnfoijopccdjeaaGreatG3
import Derived.Test.YtnfoijopccdjeaaGreatP0
import Derived.Test.YtnfoijopccdjeaaGreatP1
import Derived.Test.YtnfoijopccdjeaaGreatP2
import Derived.Test.YtnfoijopccdjeaaGreatP3
import Derived.Test.YtnfoijopccdjeaaGreatP4
set_option linter.all false
namespace Go.Proofs.YtnfoijopccdjeaaGreat
open Go.Gl
attribute [local irreducible] z18 AWP z33 z37 z34 RetS z40
theorem z390 (t:Tree) (hs:t.sz≤1000):CallsA Tryz.prog 226 [z20 Tree.cs' t] [] (.tup [z20 Tree.cs' (if t.fmB=true∧(t.nrm false).fmB=true then t.nrm false else dftT),.bool (decide (t.fmB=true∧(t.nrm false).fmB=true))]) []:=by
 have cv:=z106 t (z85 t (by unfold maxLen;omega))
 by_cases h1:t.fmB=true
 ·have hg:=y25 h1
  have cp:=z1148 t hg false
  have hz:=y30 t hg false
  have cw:=z106 (t.nrm false) (z85 _ (by unfold maxLen;omega))
  rw [h1] at cv ⊢
  generalize t.nrm false=u at *
  by_cases h2:u.fmB=true
  ·rw [h2] at cw ⊢
   rw [if_pos ⟨rfl,rfl⟩,y81 ⟨rfl,rfl⟩]
   rw [y16 t] at cv cp ⊢
   rw [y16 u] at cp cw ⊢
   refine z7 z14 Tryz.func226 rfl rfl 16 Tryz.ntmps226 (by simp) ?_
   repeat' ((first|(apply y4 ok;rfl)|(apply z4 (cv);rfl;rfl)|(apply z4 (cp);rfl;rfl)|(apply z4 (cw);rfl;rfl))<;>conv=>whnf)
   all_goals (refine rsD [] [] rfl ?_;(repeat' first|exact y85 _|constructor))
  ·rw [if_neg (fun h=>h2 h.2),y82 (fun h=>h2 h.2)]
   rw [(y71 _).mp h2] at cw
   rw [y16 t] at cv cp ⊢
   rw [y16 u] at cp cw
   refine z7 z14 Tryz.func226 rfl rfl 16 Tryz.ntmps226 (by simp) ?_
   repeat' ((first|(apply y4 ok;rfl)|(apply z4 (cv);rfl;rfl)|(apply z4 (cp);rfl;rfl)|(apply z4 (cw);rfl;rfl))<;>conv=>whnf)
   all_goals (refine rsD [] [] rfl ?_;(repeat' first|exact y85 _|exact z26|apply z38|apply z71|constructor))
 ·rw [if_neg (fun h=>h1 h.1),y82 (fun h=>h1 h.1)]
  rw [(y71 _).mp h1] at cv
  rw [y16 t] at cv ⊢
  refine z7 z14 Tryz.func226 rfl rfl 16 Tryz.ntmps226 (by simp) ?_
  repeat' ((first|(apply y4 ok;rfl)|(apply z4 (cv);rfl;rfl))<;>conv=>whnf)
  all_goals (refine rsD [] [] rfl ?_;(repeat' first|exact y85 _|exact z26|apply z38|apply z71|constructor))
theorem z1172 (a:Tree):a.mx→∀ b:Tree,b.mx→CallsA Tryz.prog 276 [z20 Tree.cs' a,z20 Tree.cs' b] [] (.bool (decide (a=b))) []:=by
 induction a using y28 with|h a ih=>?_
 intro ha b hb
 rw [y29] at ha hb
 have hal:=ha.1
 have hbl:=hb.1
 unfold maxLen at hal hbl
 rw [y16,y16]
 by_cases hk:a.kind=b.kind∧a.val=b.val∧a.kids.length=b.kids.length
 ·obtain ⟨k1,k2,k3⟩:=hk
  have hiff:(a=b)↔∀ i (h:i < a.kids.length) (h2:i < b.kids.length),a.kids[i]=b.kids[i]:=⟨fun e=>by subst e;exact fun _ _ _=>rfl,fun h=>Tree.ext k1 k2 (y74 k3 h)⟩
  have hc:∀ i (h:i < a.kids.length) (h2:i < b.kids.length),CallsA Tryz.prog 276 [z20 Tree.cs' a.kids[i],z20 Tree.cs' b.kids[i]] [] (.bool (decide (a.kids[i]=b.kids[i]))) []:=fun i h h2=>ih _ (y44 _) (ha.2 _ (y44 _)) _ (hb.2 _ (y44 _))
  clear ih
  have hT:(∀ i (h:i < a.kids.length) (h2:i < b.kids.length),a.kids[i]=b.kids[i])→decide (a=b)=true:=fun h=>y81 (hiff.2 h)
  have hF:∀ i (h:i < a.kids.length) (h2:i < b.kids.length),a.kids[i]≠b.kids[i]→decide (a=b)=false:=fun i h h2 hne=>y82 fun e=>hne (hiff.1 e i h h2)
  generalize decide (a=b)=D at *
  clear hiff
  generalize a.kids=A at *
  generalize b.kids=B at *
  refine z7 z14 Tryz.func276 rfl rfl 46 Tryz.ntmps276 (by simp) ?_
  repeat' ((first|(apply y4 ok;rfl)|((apply z53)<;>intro _))<;>conv=>whnf)
  all_goals try (exfalso;omega)
  refine z64 (fun i:Nat=>([(2,.ptr 0 none 0),(3,.ptr 1 none 0),(5,.int i)],[.cells 3 [[.int a.kind,.int a.val,lst 3 Tree.cs' A]],.cells 3 [[.int b.kind,.int b.val,lst 3 Tree.cs' B]]])) (fun i=>i≤A.length∧∀ j (h:j < A.length) (h2:j < B.length),j < i→A[j]=B[j]) (fun i=>A.length - i) 0 ⟨y53 _,fun j _ _ h=>absurd h (Nat.not_lt_zero _)⟩ (by refine swR [0,1] [] rfl rfl ?_;(repeat' first|exact y85 _|apply y86|constructor)) ?_
  rintro i ⟨hi,hj⟩
  by_cases hil:i < A.length
  ·have hil2:i < B.length:=by omega
   have c1:=hc i hil hil2
   have gA:(A.map Tree.cs')[i]?=some (Tree.cs' A[i]):=by rw [y51,y45 hil];rfl
   have gB:(B.map Tree.cs')[i]?=some (Tree.cs' B[i]):=by rw [y51,y45 hil2];rfl
   by_cases he:A[i]=B[i]
   ·rw [y81 he] at c1
    have hj2:∀ j (h:j < A.length) (h2:j < B.length),j < i+1→A[j]=B[j]:=fun j h h2 hji=>by
     rcases y69 j i with h3|h3
     ·exact hj j h h2 h3
     ·obtain rfl:j=i:=by omega
      exact he
    generalize A[i]=x at *
    generalize B[i]=y at *
    repeat' ((first|(apply y4 ok;rfl)|(apply z23;kernel_rfl)|(refine z15 (i:=i) rfl gA ?_)|(refine z15 (i:=i) rfl gB ?_)|(apply y43;first|omega|(unfold inI;omega))|((apply z6)<;>intro _)|(apply z4 (c1);rfl;rfl))<;>conv=>whnf)
    all_goals try (exfalso;omega)
    all_goals refine z27 (i+1) ⟨by omega,hj2⟩ (by omega) (by refine swR [0,1] [] rfl rfl ?_;(repeat' first|exact y85 _|apply y86|constructor))
   ·rw [y82 he] at c1
    have hD:=hF i hil hil2 he
    subst hD
    generalize A[i]=x at *
    generalize B[i]=y at *
    repeat' ((first|(apply y4 ok;rfl)|(apply z23;kernel_rfl)|(refine z15 (i:=i) rfl gA ?_)|(refine z15 (i:=i) rfl gB ?_)|(apply y43;omega)|((apply z6)<;>intro _)|(apply z4 (c1);rfl;rfl))<;>conv=>whnf)
    all_goals try (exfalso;omega)
    all_goals (refine rsD [] [] rfl ?_;(repeat' first|exact y85 _|constructor))
  ·have hD:=hT (fun j h h2=>hj j h h2 (by omega))
   subst hD
   repeat' ((first|(apply y4 ok;rfl)|(apply y43;omega)|(((with_reducible apply z9;omega));intro _)|((apply z6)<;>intro _))<;>conv=>whnf)
   all_goals try (exfalso;omega)
   all_goals (refine rsD [] [] rfl ?_;(repeat' first|exact y85 _|constructor))
 ·rw [y82 (fun e=>hk (by subst e;exact ⟨rfl,rfl,rfl⟩))]
  clear ih
  refine z7 z14 Tryz.func276 rfl rfl 46 Tryz.ntmps276 (by simp) ?_
  repeat' ((first|(apply y4 ok;rfl)|((apply z53)<;>intro _))<;>conv=>whnf)
  all_goals first|(exfalso;omega)|(refine rsD [] [] rfl ?_;(repeat' first|exact y85 _|constructor))
theorem z774 (l:List Tree) (hl:l.length≤1000000) (hm:∀ t∈l,t.mx) (t:Tree) (ht:t.mx):CallsA Tryz.prog 262 [lst 3 Tree.cs' l,z20 Tree.cs' t] [] (.int (idxF (fun x=>decide (x=t)) l)) []:=by
 have hc:∀ i (h:i < l.length),CallsA Tryz.prog 276 [z20 Tree.cs' l[i],z20 Tree.cs' t] [] (.bool (decide (l[i]=t))) []:=fun i h=>z1172 _ (hm _ (y44 _)) _ ht
 rw [y16 t] at *
 refine z7 z14 Tryz.func262 rfl rfl 19 Tryz.ntmps262 (by simp) ?_
 repeat' (((apply y4 ok;rfl))<;>conv=>whnf)
 refine z64 (fun i:Nat=>([(0,lst 3 Tree.cs' l),(3,.ptr 0 none 0),(5,.int i)],[.cells 3 [[.int t.kind,.int t.val,lst 3 Tree.cs' t.kids]]])) (fun i=>i≤l.length∧∀ j (h:j < l.length),j < i→decide (l[j]=t)=false) (fun i=>l.length - i) 0 ⟨y53 _,fun j _ h=>absurd h (Nat.not_lt_zero _)⟩ (by refine swR [0] [] rfl rfl ?_;(repeat' first|exact y85 _|apply y86|constructor)) ?_
 rintro i ⟨hi,hj⟩
 by_cases hil:i < l.length
 ·have c1:=hc i hil
  have gl:(l.map Tree.cs')[i]?=some (Tree.cs' l[i]):=by rw [y51,y45 hil];rfl
  by_cases he:l[i]=t
  ·have e:idxF (fun x=>decide (x=t)) l=i:=z129 hil (y81 he) fun j h h2=>hj j h h2
   rw [e]
   rw [y81 he] at c1
   generalize l[i]=x at *
   repeat' ((first|(apply y4 ok;rfl)|(apply z23;kernel_rfl)|(refine z15 (i:=i) rfl gl ?_)|(apply y43;omega)|((apply z6)<;>intro _)|(apply z4 (c1);rfl;rfl))<;>conv=>whnf)
   all_goals try (exfalso;omega)
   all_goals (refine rsD [] [] rfl ?_;(repeat' first|exact y85 _|constructor))
  ·have hj2:∀ j (h:j < l.length),j < i+1→decide (l[j]=t)=false:=fun j h hji=>by
    rcases y69 j i with h3|h3
    ·exact hj j h h3
    ·obtain rfl:j=i:=by omega
     exact y82 he
   rw [y82 he] at c1
   generalize l[i]=x at *
   repeat' ((first|(apply y4 ok;rfl)|(apply z23;kernel_rfl)|(refine z15 (i:=i) rfl gl ?_)|(apply y43;first|omega|(unfold inI;omega))|((apply z6)<;>intro _)|(apply z4 (c1);rfl;rfl))<;>conv=>whnf)
   all_goals try (exfalso;omega)
   all_goals refine z27 (i+1) ⟨by omega,hj2⟩ (by omega) (by refine swR [0] [] rfl rfl ?_;(repeat' first|exact y85 _|apply y86|constructor))
 ·have e:idxF (fun x=>decide (x=t)) l=-1:=z118 fun j h=>hj j h (by omega)
  rw [e]
  repeat' ((first|(apply y4 ok;rfl)|(apply y43;omega)|(((with_reducible apply z9;omega));intro _)|((apply z6)<;>intro _))<;>conv=>whnf)
  all_goals try (exfalso;omega)
  all_goals (refine rsD [] [] rfl ?_;(repeat' first|exact y85 _|constructor))
theorem z621 (t:Tree) (hg:t.goodF) (hs:t.sz≤1000):CallsA Tryz.prog 187 [z20 Tree.cs' t] [] (.tup [z20 Tree.cs' (if (t.nrm false).fmB=true then t.nrm false else dftT),.bool (t.nrm false).fmB]) []:=by
 have cp:=z1125 t hg false
 have hz:=y30 t hg false
 have cw:=z121 (t.nrm false) (z85 _ (by unfold maxLen;omega))
 generalize t.nrm false=u at *
 rw [y16 t] at *
 rw [y16 u] at *
 by_cases h2:u.fmB=true
 ·rw [if_pos h2,h2,y16 u]
  rw [h2] at cw
  refine z7 z14 Tryz.func187 rfl rfl 12 Tryz.ntmps187 (by simp) ?_
  repeat' ((first|(apply y4 ok;rfl)|(apply z4 (cp);rfl;rfl)|(apply z4 (cw);rfl;rfl))<;>conv=>whnf)
  all_goals (refine rsD [] [] rfl ?_;(repeat' first|exact y85 _|constructor))
 ·rw [if_neg h2,(y71 _).mp h2]
  rw [(y71 _).mp h2] at cw
  refine z7 z14 Tryz.func187 rfl rfl 12 Tryz.ntmps187 (by simp) ?_
  repeat' ((first|(apply y4 ok;rfl)|(apply z4 (cp);rfl;rfl)|(apply z4 (cw);rfl;rfl))<;>conv=>whnf)
  all_goals (refine rsD [] [] rfl ?_;(repeat' first|exact y85 _|exact z26|apply z38|apply z71|constructor))
theorem z1156 (t:Tree) (hs:t.sz≤1000):CallsA Tryz.prog 236 [z20 Tree.cs' t] [] (.tup [z20 Tree.cs' (if t.fmB=true∧(t.nrm false).fmB=true then t.nrm false else dftT),.bool (decide (t.fmB=true∧(t.nrm false).fmB=true))]) []:=by
 have cv:=z121 t (z85 t (by unfold maxLen;omega))
 by_cases h1:t.fmB=true
 ·have cn:=z621 t (y25 h1) hs
  have e:(if t.fmB=true∧(t.nrm false).fmB=true then t.nrm false else dftT)=if (t.nrm false).fmB=true then t.nrm false else dftT:=by simp only [h1,true_and]
  have e2:decide (t.fmB=true∧(t.nrm false).fmB=true)=(t.nrm false).fmB:=by simp [h1]
  rw [e,e2]
  rw [h1] at cv
  clear e e2
  generalize (if (t.nrm false).fmB=true then t.nrm false else dftT)=u at *
  generalize (t.nrm false).fmB=b at *
  rw [y16 t] at cv cn ⊢
  rw [y16 u] at cn ⊢
  refine z7 z14 Tryz.func236 rfl rfl 12 Tryz.ntmps236 (by simp) ?_
  repeat' ((first|(apply y4 ok;rfl)|(apply z4 (cv);rfl;rfl)|(apply z4 (cn);rfl;rfl))<;>conv=>whnf)
  all_goals (refine rsD [] [] rfl ?_;(repeat' first|exact y85 _|constructor))
 ·rw [if_neg (fun h=>h1 h.1),y82 (fun h=>h1 h.1)]
  rw [(y71 _).mp h1] at cv
  rw [y16 t] at cv ⊢
  refine z7 z14 Tryz.func236 rfl rfl 12 Tryz.ntmps236 (by simp) ?_
  repeat' ((first|(apply y4 ok;rfl)|(apply z4 (cv);rfl;rfl))<;>conv=>whnf)
  all_goals (refine rsD [] [] rfl ?_;(repeat' first|exact y85 _|exact z26|apply z38|apply z71|constructor))
theorem z870 (t:Tree) (hg:t.goodF) (hs:t.sz≤1000):CallsA Tryz.prog 185 [z20 Tree.cs' t] [] (z20 Tree.cs' (negT t)) []:=by
 by_cases hk:t.kind=3
 ·have hf:=y23 hg
  cases hf with
  |tr=>simp [Tree.kind] at hk
  |«at» v _ _=>simp [Tree.kind] at hk
  |bin k a b hk2 _ _=>simp only [Tree.kind] at hk;omega
  |un k a _ _ =>
   simp only [Tree.kind] at hk
   subst hk
   have e:negT (.mk 3 0 [a])=a:=by simp [negT,Tree.kind,Tree.kids]
   rw [z341] at hs
   have cc:=z704 a (by omega)
   rw [e,argU 3 0 a]
   refine z7 z14 Tryz.func185 rfl rfl 15 Tryz.ntmps185 (by simp) ?_
   repeat' ((first|(apply y4 ok;rfl)|(refine ⟨_,rfl,?_⟩)|(apply y43;omega)|(apply z4 (cc);rfl;rfl))<;>conv=>whnf)
   all_goals (refine rsD [] [] rfl ?_;(repeat' first|exact y85 _|constructor))
 ·have e:negT t=notT t:=if_neg hk
  have cc:=z704 t (by omega)
  have cf:=z130 3 [t] (by simp)
  rw [e]
  unfold notT
  rw [argU]
  refine z7 z14 Tryz.func185 rfl rfl 15 Tryz.ntmps185 (by simp) ?_
  repeat' ((first|(apply y4 ok;rfl)|(apply y43;omega)|(((with_reducible apply z90;omega));intro _)|((first|apply z6|apply z95)<;>intro _)|(apply z4 (cc);rfl;rfl)|(apply z8 [2] [] cf;rfl;rfl;rfl;(focus ((repeat' first|exact z13|apply z11)<;>exact z103))))<;>conv=>whnf)
  all_goals first|(exfalso;omega)|(refine rsD [] [] rfl ?_;(repeat' first|exact y85 _|constructor))
def ngB (t:Tree):Bool:=t.fmB && (negT t).fmB
def ngT (t:Tree):Tree:=if ngB t=true then negT t else dftT
theorem ngT_sz (t:Tree):(ngT t).sz≤t.sz+1:=by
 unfold ngT
 split
 ·exact z871 t
 ·simp [dftT,z509]
theorem z691 (t:Tree) (hm:t.mx):CallsA Tryz.prog 132 [z20 Tree.cs' t] [] (.tup [z20 Tree.cs' (ngT t),.bool (ngB t)]) []:=by
 have cv:=z121 t hm
 have hz:=z871 t
 unfold ngT ngB
 by_cases h1:t.fmB=true
 ·have hs:=fm_sz h1
  have cn:=z870 t (y25 h1) (by omega)
  have cw:=z121 (negT t) (z85 _ (by unfold maxLen;omega))
  rw [h1,Bool.true_and]
  rw [h1] at cv
  generalize negT t=u at *
  by_cases h2:u.fmB=true
  ·rw [if_pos h2,h2]
   rw [h2] at cw
   rw [y16 t] at cv cn ⊢
   rw [y16 u] at cw cn ⊢
   refine z7 z14 Tryz.func132 rfl rfl 16 Tryz.ntmps132 (by simp) ?_
   repeat' ((first|(apply y4 ok;rfl)|(apply z4 (cv);rfl;rfl)|(apply z4 (cn);rfl;rfl)|(apply z4 (cw);rfl;rfl))<;>conv=>whnf)
   all_goals (refine rsD [] [] rfl ?_;(repeat' first|exact y85 _|constructor))
  ·rw [if_neg h2,(y71 _).mp h2]
   rw [(y71 _).mp h2] at cw
   rw [y16 t] at cv cn ⊢
   rw [y16 u] at cw cn
   refine z7 z14 Tryz.func132 rfl rfl 16 Tryz.ntmps132 (by simp) ?_
   repeat' ((first|(apply y4 ok;rfl)|(apply z4 (cv);rfl;rfl)|(apply z4 (cn);rfl;rfl)|(apply z4 (cw);rfl;rfl))<;>conv=>whnf)
   all_goals (refine rsD [] [] rfl ?_;(repeat' first|exact y85 _|exact z26|apply z38|apply z71|constructor))
 ·rw [(y71 _).mp h1,Bool.false_and,if_neg (by simp)]
  rw [(y71 _).mp h1] at cv
  rw [y16 t] at cv ⊢
  refine z7 z14 Tryz.func132 rfl rfl 16 Tryz.ntmps132 (by simp) ?_
  repeat' ((first|(apply y4 ok;rfl)|(apply z4 (cv);rfl;rfl))<;>conv=>whnf)
  all_goals (refine rsD [] [] rfl ?_;(repeat' first|exact y85 _|exact z26|apply z38|apply z71|constructor))
theorem z657 (t:Tree) (hm:t.mx):CallsA Tryz.prog 177 [z20 Tree.cs' t] [] (.tup [z20 Tree.cs' (ngT t),.bool (ngB t)]) []:=by
 have cv:=z106 t hm
 have hz:=z871 t
 unfold ngT ngB
 by_cases h1:t.fmB=true
 ·have hs:=fm_sz h1
  rw [h1,Bool.true_and]
  by_cases hk:t.kind=3
  ·obtain ⟨a,v,rfl,ha⟩:=fm_kid h1 hk
   have e:negT (.mk 3 v [a])=a:=by simp [negT,Tree.kind,Tree.kids]
   rw [e,if_pos ha,ha]
   rw [h1] at cv
   rw [z341] at hs
   have cc:=z221 (z325 a (by omega))
   rw [argU] at cv ⊢
   refine z7 z14 Tryz.func177 rfl rfl 25 Tryz.ntmps177 (by simp) ?_
   repeat' ((first|(apply y4 ok;rfl)|(refine ⟨_,rfl,?_⟩)|(apply y43;omega)|(apply z4 (cv);rfl;rfl)|(apply z4 (cc);rfl;rfl))<;>conv=>whnf)
   all_goals (refine rsD [] [] rfl ?_;(repeat' first|exact y85 _|constructor))
  ·have e:negT t=notT t:=if_neg hk
   have cc:=z221 (z325 t (by omega))
   have cn:=z482 t
   have cw:=z106 (notT t) (z85 _ (by rw [← e];unfold maxLen;omega))
   rw [h1] at cv
   rw [e]
   generalize notT t=u at *
   by_cases h2:u.fmB=true
   ·rw [if_pos h2,h2]
    rw [h2] at cw
    rw [y16 t] at cv cn cc ⊢
    rw [y16 u] at cw cn ⊢
    refine z7 z14 Tryz.func177 rfl rfl 25 Tryz.ntmps177 (by simp) ?_
    repeat' ((first|(apply y4 ok;rfl)|(apply y43;omega)|(((with_reducible apply z90;omega));intro _)|((apply z6)<;>intro _)|(apply z4 (cv);rfl;rfl)|(apply z4 (cc);rfl;rfl)|(apply z4 (cn);rfl;rfl)|(apply z4 (cw);rfl;rfl))<;>conv=>whnf)
    all_goals first|(exfalso;omega)|(refine rsD [] [] rfl ?_;(repeat' first|exact y85 _|constructor))
   ·rw [if_neg h2,(y71 _).mp h2]
    rw [(y71 _).mp h2] at cw
    rw [y16 t] at cv cn cc ⊢
    rw [y16 u] at cw cn
    refine z7 z14 Tryz.func177 rfl rfl 25 Tryz.ntmps177 (by simp) ?_
    repeat' ((first|(apply y4 ok;rfl)|(apply y43;omega)|(((with_reducible apply z90;omega));intro _)|((apply z6)<;>intro _)|(apply z4 (cv);rfl;rfl)|(apply z4 (cc);rfl;rfl)|(apply z4 (cn);rfl;rfl)|(apply z4 (cw);rfl;rfl))<;>conv=>whnf)
    all_goals first|(exfalso;omega)|(refine rsD [] [] rfl ?_;(repeat' first|exact y85 _|exact z26|apply z38|apply z71|constructor))
 ·rw [(y71 _).mp h1,Bool.false_and,if_neg (by simp)]
  rw [(y71 _).mp h1] at cv
  rw [y16 t] at cv ⊢
  refine z7 z14 Tryz.func177 rfl rfl 25 Tryz.ntmps177 (by simp) ?_
  repeat' ((first|(apply y4 ok;rfl)|(apply z4 (cv);rfl;rfl))<;>conv=>whnf)
  all_goals (refine rsD [] [] rfl ?_;(repeat' first|exact y85 _|exact z26|apply z38|apply z71|constructor))
theorem z1150 (t:Tree) (h:t.sz≤1000000):CallsA Tryz.prog 90 [z20 Tree.cs' t] [] (z20 Tree.cs' t) []:=z221 (z325 t h)
set_option maxHeartbeats 3200000 in
theorem z1147 (t:Tree):t.sz≤1000→∀ (o:List Tree),o.length+t.sz≤2000→(∀ x∈o,x.sz≤1000)→CallsA Tryz.prog 258 [.sref 0 0 o.length,z20 Tree.cs' t] [.cells 3 (o.map Tree.cs')] (.sref 1 0 (t.subs o).length) [.dead,.cells 3 ((t.subs o).map Tree.cs')]:=by
 induction t using y28 with|h t ih=>?_
 intro hs o ho hm
 have hsz:=y38 t
 have hkid:∀ k (h:k < t.kids.length),t.kids[k].sz≤1000:=fun k h=>by have:=z348 Tree.sz (y44 h);omega
 have hpre:∀ k,k≤t.kids.length→(Tree.subss (t.kids.take k) o).length≤o.length+((t.kids.take k).map fun u=>u.sz+1).sum∧∀ x∈Tree.subss (t.kids.take k) o,x.sz≤1000:=by
  intro k
  induction k with
  |zero=>intro _;exact ⟨by simp [Tree.subss],hm⟩
  |succ k ihk =>
   intro hk
   obtain ⟨a1,a2⟩:=ihk (by omega)
   obtain ⟨_,_,_,b4,b5,_⟩:=z195 t.kids[k] (Tree.subss (t.kids.take k) o)
   rw [y37 (by omega)]
   refine ⟨?_,fun x hx=>?_⟩
   ·rw [y50 (by omega),y63,List.sum_append]
    simp only [List.map_cons,List.map_nil,List.sum_cons,List.sum_nil]
    omega
   ·rcases b5 x hx with h|h
    ·exact a2 x h
    ·have:=hkid k (by omega);omega
 have hsum:∀ k,k≤t.kids.length→((t.kids.take k).map fun u=>u.sz+1).sum≤t.sz:=fun k hk=>by
  have h1:∀ l:List Tree,(l.map fun u=>u.sz+1).sum=l.length+(l.map Tree.sz).sum:=by
   intro l
   induction l with
   |nil=>rfl
   |cons a l ih=>simp only [List.map_cons,List.sum_cons,y57,ih];omega
  have h2:=z510 Tree.sz t.kids k
  rw [h1,y48];omega
 rw [y16 t,y35]
 have hl5:t.kids.length≤1000:=by omega
 have hfs:(∀ x∈Tree.subss t.kids o,x.sz≤1000):=by have:=(hpre t.kids.length (y52 _)).2;rwa [y55] at this
 have hfl:(Tree.subss t.kids o).length≤2000:=by have h1:=(hpre t.kids.length (y52 _)).1;have h2:=hsum t.kids.length (y52 _);rw [y55] at h1 h2;omega
 have cF:=z774 (Tree.subss t.kids o) (by omega) (fun x hx=>z85 x (by have:=hfs x hx;unfold maxLen;omega)) t (z85 t (by unfold maxLen;omega))
 have cC:=z1150 t (by omega)
 have hidx:=z192 (fun x=>decide (x=t)) (Tree.subss t.kids o)
 refine z7 z14 Tryz.func258 rfl rfl 30 Tryz.ntmps258 (by simp) ?_
 refine y84 (Reach.rnm 0 rfl) ?_
 conv=>whnf
 repeat' (((apply y4 ok;rfl))<;>conv=>whnf)
 refine z64 (fun x:Nat×List Tree=>([(0,.sref 1 0 x.2.length),(3,.ptr 2 none 0),(5,.int x.1)],[.dead,.cells 3 (x.2.map Tree.cs'),.cells 3 [[.int t.kind,.int t.val,lst 3 Tree.cs' t.kids]]])) (fun x=>x.1≤t.kids.length∧Tree.subss (t.kids.take x.1) o=x.2) (fun x=>t.kids.length - x.1) (0,o) ⟨y53 _,by simp [Tree.subss]⟩ (by refine swR [0,1,2] [] rfl rfl ?_;(repeat' first|exact y85 _|exact z12 _|apply y86|refine z10 rfl (z5 (fun _=>rfl)) ?_|constructor)) ?_
 rintro ⟨i,q⟩ ⟨hi,hq⟩
 dsimp only at hi hq ⊢
 obtain ⟨p1,p2⟩:=hpre i hi
 have p3:=hsum i hi
 rw [hq] at p1 p2
 have hql:q.length≤2000:=by omega
 by_cases hil:i < t.kids.length
 ·have ci:=ih t.kids[i] (y44 _) (hkid i hil) q (by
   have h1:=hsum (i+1) (by omega)
   rw [y50 hil,y63,List.sum_append] at h1
   simp only [List.map_cons,List.map_nil,List.sum_cons,List.sum_nil] at h1
   omega) p2
  have ht:=y37 hil o
  rw [hq] at ht
  have gk:(t.kids.map Tree.cs')[i]?=some (Tree.cs' t.kids[i]):=by rw [y51,y45 hil];rfl
  clear ih cF hidx
  generalize t.kids[i]=u at *
  generalize u.subs q=q' at *
  repeat' ((first|(apply y4 ok;rfl)|(refine z15 (i:=i) rfl gk ?_)|(apply y43;first|omega|(unfold inI;omega))|((apply z6)<;>intro _)|(apply z93 [1] [3] ci;rfl;(focus ((repeat' first|exact z35|apply z44)<;>(refine z59 rfl ?_;((exact z5 fun _=>rfl)))));rfl;(focus ((repeat' first|exact z13|apply z11)<;>first|exact z103|(refine z19 ?_;((exact z5 fun _=>rfl)))))))<;>conv=>whnf)
  all_goals try (exfalso;omega)
  all_goals refine z27 (i+1,q') ⟨by show i+1≤_;omega,ht⟩ (by show t.kids.length - (i+1) < t.kids.length - i;omega) (by refine swR [0,3,2] [] rfl rfl ?_;(repeat' first|exact y85 _|exact z12 _|apply y86|refine z10 rfl (z5 (fun _=>rfl)) ?_|constructor))
 ·obtain rfl:i=t.kids.length:=by omega
  rw [y55] at hq
  rw [hq] at cF hidx ⊢
  unfold addT
  by_cases hin:t∈q
  ·rw [if_pos hin]
   have hx:0≤idxF (fun x=>decide (x=t)) q:=by
    rw [List.any_eq_true.2 ⟨t,hin,by simp⟩] at hidx
    exact of_decide_eq_true hidx
   generalize idxF (fun x=>decide (x=t)) q=z at *
   rw [y16 t] at cF
   repeat' ((first|(apply y4 ok;rfl)|(apply y43;omega)|(((with_reducible apply z9;omega));intro _)|((apply z6)<;>intro _)|(apply z80 [] [1] [] cF;(focus (exact z39 (z194 rfl rfl rfl (by simp) (z24 (fun _=>rfl) _)) (z39 rfl z60)));rfl;rfl;(focus ((repeat' exact z13)<;>fail));((refine .inr ⟨rfl,?_⟩;repeat' exact True.intro))))<;>conv=>whnf)
   all_goals try (exfalso;omega)
   all_goals (refine rsD [0,1] [] rfl ?_;(repeat' first|exact y85 _|exact z12 _|refine z10 rfl (z5 (fun _=>rfl)) ?_|constructor))
  ·rw [if_neg hin]
   have hx:¬ 0≤idxF (fun x=>decide (x=t)) q:=fun h=>by
    rw [y81 h] at hidx
    obtain ⟨x,h1,h2⟩:=List.any_eq_true.1 hidx.symm
    rw [of_decide_eq_true h2] at h1
    exact hin h1
   generalize idxF (fun x=>decide (x=t)) q=z at *
   rw [y16 t] at cC cF
   repeat' ((first|(apply y4 ok;rfl)|(apply y43;first|omega|((try dsimp only);simp only [y49,y48,y47,y46,y57,y58];omega)|exact ⟨rfl,z21 rfl z31⟩)|(((with_reducible apply z9;omega));intro _)|((apply z6)<;>intro _)|(apply z4 (cC);rfl;rfl)|(apply z80 [] [1] [] cF;(focus (exact z39 (z194 rfl rfl rfl (by simp) (z24 (fun _=>rfl) _)) (z39 rfl z60)));rfl;rfl;(focus ((repeat' exact z13)<;>fail));((refine .inr ⟨rfl,?_⟩;repeat' exact True.intro))))<;>conv=>whnf)
   all_goals try (exfalso;omega)
   all_goals (refine rsD [0,4] [] rfl ?_;(repeat' first|exact y85 _|exact z276|(refine z45 ?_;((simp;done)))|((refine z43 rfl ?_ ?_);(focus ((repeat' (first|exact z5 (fun _=>rfl)|apply z28));done)))|(refine z68 ?_ ?_;(focus (omega)))|(apply z63;rfl)|constructor))
@[reducible] def subF:AC:=.fn (.func 278) [] [.ptr 0 none 0,.ptr 1 none 0]
@[reducible] def objsS (o:List Tree):List AObj:=[.cells 1 [[subF]],.cells 1 [[.own 3 (o.map Tree.cs')]]]
set_option maxHeartbeats 6400000 in
theorem z843 (t:Tree):t.sz≤1000→∀ (o:List Tree),o.length+t.sz≤2000→(∀ x∈o,x.sz≤1000)→CallsA Tryz.prog 278 [z20 Tree.cs' t,.ptr 0 none 0,.ptr 1 none 0] (objsS o) (.tup []) (objsS (t.subs o)):=by
 induction t using y28 with|h t ih=>?_
 intro hs o ho hm
 have hsz:=y38 t
 have hkid:∀ k (h:k < t.kids.length),t.kids[k].sz≤1000:=fun k h=>by have:=z348 Tree.sz (y44 h);omega
 have hpre:∀ k,k≤t.kids.length→(Tree.subss (t.kids.take k) o).length≤o.length+((t.kids.take k).map fun u=>u.sz+1).sum∧∀ x∈Tree.subss (t.kids.take k) o,x.sz≤1000:=by
  intro k
  induction k with
  |zero=>intro _;exact ⟨by simp [Tree.subss],hm⟩
  |succ k ihk =>
   intro hk
   obtain ⟨a1,a2⟩:=ihk (by omega)
   obtain ⟨_,_,_,b4,b5,_⟩:=z195 t.kids[k] (Tree.subss (t.kids.take k) o)
   rw [y37 (by omega)]
   refine ⟨?_,fun x hx=>?_⟩
   ·rw [y50 (by omega),y63,List.sum_append]
    simp only [List.map_cons,List.map_nil,List.sum_cons,List.sum_nil]
    omega
   ·rcases b5 x hx with h|h
    ·exact a2 x h
    ·have:=hkid k (by omega);omega
 have hsum:∀ k,k≤t.kids.length→((t.kids.take k).map fun u=>u.sz+1).sum≤t.sz:=fun k hk=>by
  have h1:∀ l:List Tree,(l.map fun u=>u.sz+1).sum=l.length+(l.map Tree.sz).sum:=by
   intro l
   induction l with
   |nil=>rfl
   |cons a l ih=>simp only [List.map_cons,List.sum_cons,y57,ih];omega
  have h2:=z510 Tree.sz t.kids k
  rw [h1,y48];omega
 rw [y35]
 have hl5:t.kids.length≤1000:=by omega
 have hfs:(∀ x∈Tree.subss t.kids o,x.sz≤1000):=by have:=(hpre t.kids.length (y52 _)).2;rwa [y55] at this
 have hfl:(Tree.subss t.kids o).length≤2000:=by have h1:=(hpre t.kids.length (y52 _)).1;have h2:=hsum t.kids.length (y52 _);rw [y55] at h1 h2;omega
 have cF:=z302 (Tree.subss t.kids o) (by omega) (fun x hx=>z85 x (by have:=hfs x hx;unfold maxLen;omega)) t (z85 t (by unfold maxLen;omega))
 have cC:=z704 t (by omega)
 have hidx:=z192 (fun x=>decide (x=t)) (Tree.subss t.kids o)
 have et:=y16 t
 rw [et]
 refine z7 z14 Tryz.func278 rfl rfl 28 Tryz.ntmps278 (by simp) ?_
 repeat' (((apply y4 ok;rfl))<;>conv=>whnf)
 refine z64 (fun x:Nat×List Tree=>([(1,.ptr 0 none 0),(2,.ptr 1 none 0),(3,.ptr 2 none 0),(7,lst 3 Tree.cs' t.kids),(8,.int t.kids.length),(9,.int x.1)],[.cells 1 [[subF]],.cells 1 [[.own 3 (x.2.map Tree.cs')]],.cells 3 [[.int t.kind,.int t.val,lst 3 Tree.cs' t.kids]]])) (fun x=>x.1≤t.kids.length∧Tree.subss (t.kids.take x.1) o=x.2) (fun x=>t.kids.length - x.1) (0,o) ⟨y53 _,by simp [Tree.subss]⟩ (by refine swR [0,1,2] [] rfl rfl ?_;(repeat' first|exact y85 _|apply y86|constructor)) ?_
 rintro ⟨i,q⟩ ⟨hi,hq⟩
 dsimp only at hi hq ⊢
 obtain ⟨p1,p2⟩:=hpre i hi
 have p3:=hsum i hi
 rw [hq] at p1 p2
 have hql:q.length≤2000:=by omega
 by_cases hil:i < t.kids.length
 ·have ci:=ih t.kids[i] (y44 _) (hkid i hil) q (by
   have h1:=hsum (i+1) (by omega)
   rw [y50 hil,y63,List.sum_append] at h1
   simp only [List.map_cons,List.map_nil,List.sum_cons,List.sum_nil] at h1
   omega) p2
  have ht:=y37 hil o
  rw [hq] at ht
  have gk:(t.kids.map Tree.cs')[i]?=some (Tree.cs' t.kids[i]):=by rw [y51,y45 hil];rfl
  clear ih cF hidx
  generalize t.kids[i]=u at *
  generalize u.subs q=q' at *
  repeat' ((first|(apply y4 ok;rfl)|(refine z15 (i:=i) rfl gk ?_)|(apply y43;first|omega|(unfold inI;omega))|((apply z6)<;>intro _)|(apply z55 [0,1] [] ci;rfl;rfl;rfl))<;>conv=>whnf)
  all_goals try (exfalso;omega)
  all_goals refine z27 (i+1,q') ⟨by show i+1≤_;omega,ht⟩ (by show t.kids.length - (i+1) < t.kids.length - i;omega) (by refine swR [0,1,2] [] rfl rfl ?_;(repeat' first|exact y85 _|apply y86|constructor))
 ·obtain rfl:i=t.kids.length:=by omega
  rw [y55] at hq
  rw [hq] at cF hidx ⊢
  unfold addT
  refine y84 (Gl.Reach.expose 1 0 0 rfl rfl rfl (z156 (fun _=>rfl) _) rfl) ?_
  refine y84 (show Gl.Reach _ _ (mkSt _ [(1,.ptr 0 none 0),(2,.ptr 1 none 0),(3,.ptr 2 none 0),(7,lst 3 Tree.cs' t.kids),(8,.int t.kids.length),(9,.int t.kids.length)] [.cells 1 [[subF]],.cells 1 [[.sref 3 0 q.length]],.cells 3 [[.int t.kind,.int t.val,lst 3 Tree.cs' t.kids]],.cells 3 (q.map Tree.cs')]) from (by refine swR [0,1,2,3] [] rfl rfl ?_;(repeat' first|exact y85 _|exact z12 _|(refine z45 ?_;((simp;done)))|apply y86|refine z10 rfl (z5 (fun _=>rfl)) ?_|constructor))) ?_
  by_cases hin:t∈q
  ·rw [if_pos hin]
   have hx:0≤idxF (fun x=>decide (x=t)) q:=by
    rw [List.any_eq_true.2 ⟨t,hin,by simp⟩] at hidx
    exact of_decide_eq_true hidx
   generalize idxF (fun x=>decide (x=t)) q=z at *
   rw [et] at cF
   repeat' ((first|(apply y4 ok;rfl)|(apply y43;omega)|(((with_reducible apply z9;omega));intro _)|((apply z6)<;>intro _)|(apply z80 [] [3] [] cF;(focus (exact z39 (z194 rfl rfl rfl (by simp) (z24 (fun _=>rfl) _)) (z39 rfl z60)));rfl;rfl;(focus ((repeat' exact z13)<;>fail));((refine .inr ⟨rfl,?_⟩;repeat' exact True.intro))))<;>conv=>whnf)
   all_goals try (exfalso;omega)
   all_goals
    refine Gl.RetS.absorb 1 3 0 0 rfl rfl rfl rfl (by simp) rfl (z5 (fun _=>rfl)) ?_
    conv=>whnf
    (refine rsD [0,1] [] rfl ?_;(repeat' first|exact y85 _|apply y86|constructor))
  ·rw [if_neg hin]
   have hx:¬ 0≤idxF (fun x=>decide (x=t)) q:=fun h=>by
    rw [y81 h] at hidx
    obtain ⟨x,h1,h2⟩:=List.any_eq_true.1 hidx.symm
    rw [of_decide_eq_true h2] at h1
    exact hin h1
   generalize idxF (fun x=>decide (x=t)) q=z at *
   rw [et] at cF cC
   have gz:(List.take q.length (List.map Tree.cs' q)++[[AC.raw (Value.int IntKind.i64 0),AC.raw (Value.int IntKind.i64 0),AC.raw (Value.slice none 0 0)]])[q.length]?=some [AC.raw (Value.int IntKind.i64 0),AC.raw (Value.int IntKind.i64 0),AC.raw (Value.slice none 0 0)]:=by
    rw [y56 (by simp),y66 (by simp)];simp
   have e2:((List.take q.length (List.map Tree.cs' q)++[[AC.raw (Value.int IntKind.i64 0),AC.raw (Value.int IntKind.i64 0),AC.raw (Value.slice none 0 0)]]).set q.length (Tree.cs' t))=(q++[t]).map Tree.cs':=by
    rw [y56 (by simp),List.set_append_right _ _ (by simp)];simp
   have ec:Tree.cs' t=[.int t.kind,.int t.val,lst 3 Tree.cs' t.kids]:=AC.agg.inj et
   rw [ec] at e2
   repeat' ((first|(apply y4 ok;rfl)|(apply z23;kernel_rfl)|(refine z15 (i:=q.length) rfl gz ?_)|(apply y43;first|omega|((try dsimp only);simp only [y49,y48,y47,y46,y57,y58];omega)|exact ⟨rfl,z21 rfl z31⟩)|(((with_reducible apply z9;omega));intro _)|((apply z6)<;>intro _)|(apply z4 (cC);rfl;rfl)|(apply z80 [] [3] [] cF;(focus (exact z39 (z194 rfl rfl rfl (by simp) (z24 (fun _=>rfl) _)) (z39 rfl z60)));rfl;rfl;(focus ((repeat' exact z13)<;>fail));((refine .inr ⟨rfl,?_⟩;repeat' exact True.intro))))<;>conv=>whnf)
   all_goals try (exfalso;omega)
   all_goals
    refine Gl.RetS.absorb 1 5 0 0 rfl rfl rfl rfl (by simp) rfl (z406 (by simp) (fun e he=>(z5 (fun _=>rfl)) e (List.mem_of_mem_take he)) rfl) ?_
    conv=>whnf
    (refine rsD [0,1] [] rfl ?_;(repeat' first|exact y85 _|apply y86|constructor))
    all_goals exact y9 (congrArg (AC.own 3) e2)
theorem z841 (t:Tree) (hs:t.sz≤1000):CallsA Tryz.prog 265 [z20 Tree.cs' t] [] (.sref 0 0 (t.subs []).length) [.cells 3 ((t.subs []).map Tree.cs')]:=by
 have cV:=z843 t hs [] (by simp;omega) (fun x hx=>by cases hx)
 have hl:=(z195 t []).2.2.2.1
 simp only [y58,Nat.zero_add] at hl
 generalize t.subs []=L at *
 have cC:=z561 L (by omega)
 rw [y16 t] at *
 refine z7 z14 Tryz.func265 rfl rfl 11 Tryz.ntmps265 (by simp) ?_
 repeat' ((((fail_if_success apply z153 4);(fail_if_success apply z114 4);apply y4 ok;rfl))<;>conv=>whnf)
 refine y84 (show Gl.Reach _ _ (mkSt _ [(1,.ptr 0 none 0),(3,.ptr 1 none 0),(4,.ptr 2 none 0)] [.cells 3 [[.int t.kind,.int t.val,lst 3 Tree.cs' t.kids]],.cells 1 [[.own 3 []]],.cells 1 [[.fn (.func 278) [] [.ptr 2 none 0,.ptr 1 none 0]]]]) from (by refine swR [0,1,2] [] rfl rfl ?_;(repeat' first|exact y85 _|apply y86|constructor)<;>(exact z391))) ?_
 repeat' ((first|((fail_if_success apply z153 5);(fail_if_success apply z114 5);apply y4 ok;rfl)|(apply z55 [2,1] [] cV;rfl;rfl;rfl))<;>conv=>whnf)
 refine y84 (Gl.Reach.expose 1 0 0 rfl rfl rfl (z156 (fun _=>rfl) _) rfl) ?_
 refine y84 (show Gl.Reach _ _ (mkSt _ [(3,.ptr 1 none 0)] [.cells 3 [[.int t.kind,.int t.val,lst 3 Tree.cs' t.kids]],.cells 1 [[.sref 2 0 L.length]],.cells 3 (L.map Tree.cs')]) from (by refine swR [0,1,3] [] rfl rfl ?_;(repeat' first|exact y85 _|exact z12 _|(refine z45 ?_;((simp;done)))|apply y86|refine z10 rfl (z5 (fun _=>rfl)) ?_|constructor))) ?_
 repeat' ((first|(apply y4 ok;rfl)|(apply z93 [2] [] cC;rfl;(focus ((repeat' first|exact z35|apply z44)<;>(refine z59 rfl ?_;((exact z5 fun _=>rfl)))));rfl;(focus ((repeat' first|exact z13|apply z11)<;>(refine z19 ?_;((exact z5 fun _=>rfl)))))))<;>conv=>whnf)
 all_goals (refine rsD [2] [] rfl ?_;(repeat' first|exact y85 _|exact z12 _|refine z10 rfl (z5 (fun _=>rfl)) ?_|constructor))
theorem z1009 (t:Tree):CallsA Tryz.prog 259 [z20 Tree.cs' t] [] (.bool (z74 t)) []:=by
 rw [y16]
 unfold z74
 refine z7 z14 Tryz.func259 rfl rfl 21 Tryz.ntmps259 (by simp) ?_
 repeat' ((first|(apply y4 ok;rfl)|((apply z6)<;>intro _))<;>conv=>whnf)
 all_goals (refine rsL [] [] rfl ?_;refine y12 (z138 ?_) .nil;first|(rw [y81 (by omega)];done)|(rw [decide_eq_decide];omega))
set_option maxHeartbeats 3200000 in
theorem z1203 (t:Tree) (hs:t.sz≤200):CallsA Tryz.prog 225 [z20 Tree.cs' t] [] (.tup [lst 3 Tree.cs' (if bscB t then bscL (t.nrm false) else []),.bool (bscB t)]) []:=by
 have cn:=z390 t (by omega)
 unfold bscB
 by_cases h:t.fmB=true∧(t.nrm false).fmB=true
 ·rw [if_pos h,y81 h] at cn
  have hz:=y30 t (y25 h.1) false
  have hd:decide ((t.fmB=true∧(t.nrm false).fmB=true)∧(bscL (t.nrm false)).length≤5)=decide ((bscL (t.nrm false)).length≤5):=by
   rw [decide_eq_decide];exact ⟨fun h=>h.2,fun h2=>⟨h,h2⟩⟩
  rw [hd]
  clear hd h
  generalize t.nrm false=u at *
  have cS:=(z1147 u (by omega) [] (by simp;omega) (fun x hx=>by cases hx)).arg (args0:=[.nils,z20 Tree.cs' u]) (by (repeat' first|exact y85 _|exact z49|constructor))
  obtain ⟨_,_,_,hl,hz2,_⟩:=z195 u []
  unfold bscL
  simp only [y58,Nat.zero_add] at hl
  generalize u.subs []=L at *
  have hb:∀ k (hk:k < L.length),CallsA Tryz.prog 259 [z20 Tree.cs' L[k]] [] (.bool (z74 L[k])) []:=fun k hk=>z1009 _
  rw [y16 u] at cn cS
  refine z7 z14 Tryz.func225 rfl rfl 43 Tryz.ntmps225 (by simp) ?_
  repeat' ((first|((fail_if_success apply z153 5);(fail_if_success apply z114 5);apply y4 ok;rfl)|(apply z4 (cn);rfl;rfl))<;>conv=>whnf)
  refine y84 (y87 3 rfl) ?_
  repeat' ((first|(apply y4 ok;rfl)|(apply z8 [3] [4] cS;rfl;rfl;rfl;(focus ((repeat' first|exact z13|apply z11)<;>first|exact z103|(refine z19 ?_;((exact z5 fun _=>rfl)))))))<;>conv=>whnf)
  refine z64 (fun x:Nat×List Tree=>([(6,.sref 0 0 x.2.length),(7,.sref 1 0 L.length),(8,.int x.1)],[.cells 3 (x.2.map Tree.cs'),.cells 3 (L.map Tree.cs')])) (fun x=>x.1≤L.length∧(L.take x.1).filter z74=x.2) (fun x=>L.length - x.1) (0,[]) ⟨y53 _,rfl⟩ (by refine swR [2,4] [] rfl rfl ?_;(repeat' first|exact y85 _|exact z12 _|((refine z10 rfl ?_ ?_);(focus ((repeat' (first|exact z30|exact z5 (fun _=>rfl)));done)))|constructor)) ?_
  rintro ⟨k,O⟩ ⟨hk,hO⟩
  dsimp only at hk hO ⊢
  have hOl:O.length≤L.length:=by
   rw [← hO]
   have:=List.length_filter_le z74 (L.take k)
   rw [y48] at this
   omega
  by_cases hkl:k < L.length
  ·have gk:(L.map Tree.cs')[k]?=some (Tree.cs' L[k]):=by rw [y51,y45 hkl];rfl
   have cb:=hb k hkl
   have ht:(L.take (k+1)).filter z74=O++(if z74 L[k]=true then [L[k]] else []):=by
    rw [y50 hkl,List.filter_append,hO]
    congr 1
    by_cases hb:z74 L[k]=true
    ·rw [if_pos hb,List.filter_cons_of_pos hb];rfl
    ·rw [if_neg hb,List.filter_cons_of_neg hb];rfl
   generalize L[k]=y at *
   by_cases hy:z74 y=true
   ·rw [hy] at cb
    rw [if_pos hy] at ht
    repeat' ((first|(apply y4 ok;rfl)|(refine z15 (i:=k) rfl gk ?_)|(apply y43;first|omega|(unfold inI;omega)|((try dsimp only);simp only [y49,y48,y47,y46,y57,y58];omega)|exact ⟨rfl,z21 rfl z31⟩)|((apply z6)<;>intro _)|(apply z4 (cb);rfl;rfl))<;>conv=>whnf)
    all_goals try (exfalso;omega)
    all_goals refine z27 (k+1,O++[y]) ⟨by show k+1≤_;omega,ht⟩ (by show L.length - (k+1) < L.length - k;omega) (by refine swR [3,1] [] rfl rfl ?_;(repeat' first|exact y85 _|exact z12 _|(refine z45 ?_;((simp;done)))|((first|refine z43 rfl ?_ ?_|refine z10 rfl ?_ ?_);(focus ((repeat' (first|exact z5 (fun _=>rfl)|apply z28));done)))|(refine z68 ?_ ?_;(focus (omega)))|constructor))
   ·rw [(y71 _).mp hy] at cb
    rw [if_neg hy,y64] at ht
    repeat' ((first|(apply y4 ok;rfl)|(refine z15 (i:=k) rfl gk ?_)|(apply y43;first|omega|(unfold inI;omega))|((apply z6)<;>intro _)|(apply z4 (cb);rfl;rfl))<;>conv=>whnf)
    all_goals try (exfalso;omega)
    all_goals refine z27 (k+1,O) ⟨by show k+1≤_;omega,ht⟩ (by show L.length - (k+1) < L.length - k;omega) (by refine swR [0,1] [] rfl rfl ?_;(repeat' first|exact y85 _|exact z12 _|refine z10 rfl (z5 (fun _=>rfl)) ?_|constructor))
  ·obtain rfl:k=L.length:=by omega
   rw [y55] at hO
   rw [hO]
   by_cases h5:O.length≤5
   ·rw [y81 h5,if_pos rfl]
    repeat' ((first|(apply y4 ok;rfl)|(apply y43;omega)|(((apply z9;omega));intro _)|((apply z6)<;>intro _))<;>conv=>whnf)
    all_goals try (exfalso;omega)
    all_goals (refine rsD [] [0] rfl ?_;(repeat' first|exact y85 _|((apply z36 rfl rfl rfl);(focus ((repeat ((exact z24 (fun _=>rfl) _)));done));(focus (((simp;done));done)))|apply z71|constructor))
   ·rw [y82 h5,if_neg (by simp)]
    repeat' ((first|(apply y4 ok;rfl)|(apply y43;omega)|(((apply z9;omega));intro _)|((apply z6)<;>intro _))<;>conv=>whnf)
    all_goals try (exfalso;omega)
    all_goals (refine rsD [] [2] rfl ?_;(repeat' first|exact y85 _|constructor))
 ·rw [if_neg h,y82 h] at cn
  have hd:decide ((t.fmB=true∧(t.nrm false).fmB=true)∧(bscL (t.nrm false)).length≤5)=false:=y82 fun h2=>h h2.1
  rw [hd,if_neg (by simp)]
  refine z7 z14 Tryz.func225 rfl rfl 43 Tryz.ntmps225 (by simp) ?_
  repeat' ((first|(apply y4 ok;rfl)|(apply z4 (cn);rfl;rfl))<;>conv=>whnf)
  all_goals (refine rsD [] [2] rfl ?_;(repeat' first|exact y85 _|constructor))
theorem z296 (x a:Int) (h0:0≤x) (h1:x≤31) (h2:0≤a) (h3:a≤5):CallsA Tryz.prog 261 [.int x,.int a] [] (.bool (hasB x a)) []:=by
 have ha:a=0∨a=1∨a=2∨a=3∨a=4∨a=5:=by omega
 have h5:0≤x / 2 ^ a.toNat∧x / 2 ^ a.toNat≤31:=by
  rcases ha with rfl|rfl|rfl|rfl|rfl|rfl<;>simp<;>omega
 have hw:IntKind.u64.wrap a=a:=by
  rcases ha with rfl|rfl|rfl|rfl|rfl|rfl<;>decide
 refine z7 z14 Tryz.func261 rfl rfl 11 Tryz.ntmps261 (by simp) ?_
 repeat' ((first|(apply y4 ok;rfl)|(apply y43;omega))<;>conv=>whnf)
 refine y43 (by unfold z150;omega) ?_
 conv=>whnf
 repeat' (((apply y4 ok;rfl))<;>conv=>whnf)
 all_goals (refine rsD [] [] rfl ?_;(repeat' first|exact y85 _|constructor))
structure BasL (B:List Tree):Prop where
 len:B.length≤5
 nd:B.Nodup
 sz:∀ x∈B,x.sz≤1000
 cl:∀ x∈B,In (·∈B) x
 bk:∀ x∈B,z74 x=true
 av:∀ v,Tree.mk 2 v []∈B→0≤v∧v≤2
theorem BasL.mx {B:List Tree} (h:BasL B):∀ x∈B,x.mx:=fun x hx=>z85 x (by have:=h.sz x hx;unfold maxLen;omega)
set_option maxHeartbeats 3200000 in
theorem z170 (B:List Tree) (hB:BasL B) (s:Int) (s0:0≤s) (s1:s≤31) (t:Tree) (h:In (·∈B) t):t.sz≤1000→CallsA Tryz.prog 228 [lst 3 Tree.cs' B,.int s,z20 Tree.cs' t] [] (.bool (vlB B s t)) []:=by
 have basic:∀ t,t∈B→z74 t=true→CallsA Tryz.prog 228 [lst 3 Tree.cs' B,.int s,z20 Tree.cs' t] [] (.bool (sgB B s t)) []:=fun t ht hb=>by
  have hl:=hB.len
  have cF:=z774 B (by omega) hB.mx t (hB.mx t ht)
  have hp:=z1116 ht
  have cH:=z296 s (plc B t) s0 s1 hp.1 (by omega)
  have e:idxF (fun x=>decide (x=t)) B=plc B t:=rfl
  rw [e] at cF
  unfold sgB
  generalize plc B t=p at *
  unfold z74 at hb
  have hb:=of_decide_eq_true hb
  rw [y16 t] at cF ⊢
  refine z7 z14 Tryz.func228 rfl rfl 62 Tryz.ntmps228 (by simp) ?_
  repeat' ((first|(apply y4 ok;rfl)|(apply y43;omega)|(((with_reducible apply z90;omega));intro _)|((apply z6)<;>intro _)|(apply z4 (cF);rfl;rfl)|(apply z4 (cH);rfl;rfl))<;>conv=>whnf)
  all_goals first|(exfalso;omega)|(refine rsD [] [] rfl ?_;(repeat' first|exact y85 _|constructor))
 unfold vlB
 induction h with
 |tr =>
  intro _
  rw [z501]
  refine z7 z14 Tryz.func228 rfl rfl 62 Tryz.ntmps228 (by simp) ?_
  repeat' (((apply y4 ok;rfl))<;>conv=>whnf)
  all_goals (refine rsD [] [] rfl ?_;(repeat' first|exact y85 _|constructor))
 |«at» v hb=>intro _;rw [z461];exact basic _ hb (by simp [z74,Tree.kind])
 |nt =>
  intro _
  rw [z273,z501]
  have c1:CallsA Tryz.prog 228 [lst 3 Tree.cs' B,.int s,z20 Tree.cs' (.mk 1 0 [])] [] (.bool true) []:=by
   refine z7 z14 Tryz.func228 rfl rfl 62 Tryz.ntmps228 (by simp) ?_
   repeat' (((apply y4 ok;rfl))<;>conv=>whnf)
   all_goals (refine rsD [] [] rfl ?_;(repeat' first|exact y85 _|constructor))
  rw [argU]
  refine z7 z14 Tryz.func228 rfl rfl 62 Tryz.ntmps228 (by simp) ?_
  repeat' ((first|(apply y4 ok;rfl)|(refine ⟨_,rfl,?_⟩)|(apply y43;omega)|(apply z4 (c1);rfl;rfl))<;>conv=>whnf)
  all_goals (refine rsD [] [] rfl ?_;(repeat' first|exact y85 _|constructor))
 |na v hb =>
  intro _
  rw [z273,z461]
  have c1:=basic _ hb (by simp [z74,Tree.kind])
  rw [argU]
  refine z7 z14 Tryz.func228 rfl rfl 62 Tryz.ntmps228 (by simp) ?_
  repeat' ((first|(apply y4 ok;rfl)|(refine ⟨_,rfl,?_⟩)|(apply y43;omega)|(apply z4 (c1);rfl;rfl))<;>conv=>whnf)
  all_goals (refine rsD [] [] rfl ?_;(repeat' first|exact y85 _|constructor))
 |an _ _ iha ihb =>
  rename_i a b _ _
  intro hs
  rw [z340] at hs
  have ca:=iha (by omega)
  have cb:=ihb (by omega)
  rw [z596,argB]
  generalize a.vl (sgB B s)=x at *
  generalize b.vl (sgB B s)=y at *
  cases x
  all_goals
   refine z7 z14 Tryz.func228 rfl rfl 62 Tryz.ntmps228 (by simp) ?_
   repeat' ((first|(apply y4 ok;rfl)|(refine ⟨_,rfl,?_⟩)|(apply y43;omega)|(apply z4 (ca);rfl;rfl)|(apply z4 (cb);rfl;rfl))<;>conv=>whnf)
   all_goals (refine rsD [] [] rfl ?_;(repeat' first|exact y85 _|constructor))
 |or _ _ iha ihb =>
  rename_i a b _ _
  intro hs
  rw [z340] at hs
  have ca:=iha (by omega)
  have cb:=ihb (by omega)
  rw [z971,argB]
  generalize a.vl (sgB B s)=x at *
  generalize b.vl (sgB B s)=y at *
  cases x
  all_goals
   refine z7 z14 Tryz.func228 rfl rfl 62 Tryz.ntmps228 (by simp) ?_
   repeat' ((first|(apply y4 ok;rfl)|(refine ⟨_,rfl,?_⟩)|(apply y43;omega)|(apply z4 (ca);rfl;rfl)|(apply z4 (cb);rfl;rfl))<;>conv=>whnf)
   all_goals (refine rsD [] [] rfl ?_;(repeat' first|exact y85 _|constructor))
 |nx hb _ _=>intro _;rw [z972];exact basic _ hb (by simp [z74,Tree.kind])
 |un hb _ _ _ _=>intro _;rw [z969];exact basic _ hb (by simp [z74,Tree.kind])
 |re hb _ _ _ _=>intro _;rw [z970];exact basic _ hb (by simp [z74,Tree.kind])
set_option maxHeartbeats 3200000 in
theorem z590 (u:Tree) (hs:u.sz≤1000):CallsA Tryz.prog 237 [z20 Tree.cs' u] [] (.sref 0 0 (bscL u).length) [.cells 3 ((bscL u).map Tree.cs')]:=by
 have cS:=z841 u hs
 obtain ⟨_,_,_,hl,hz2,_⟩:=z195 u []
 simp only [y58,Nat.zero_add] at hl
 unfold bscL
 generalize u.subs []=L at *
 rw [y16 u] at *
 refine z7 z14 Tryz.func237 rfl rfl 38 Tryz.ntmps237 (by simp) ?_
 repeat' ((first|(apply y4 ok;rfl)|(apply z8 [] [1] cS;rfl;rfl;rfl;(focus ((repeat' first|exact z13|apply z11)<;>(refine z19 ?_;((exact z5 fun _=>rfl)))))))<;>conv=>whnf)
 refine y84 (y87 3 rfl) ?_
 refine z64 (fun x:Nat×List Tree=>([(3,.sref 0 0 x.2.length),(7,.sref 1 0 L.length),(8,.int L.length),(9,.int x.1)],[.cells 3 (x.2.map Tree.cs'),.cells 3 (L.map Tree.cs')])) (fun x=>x.1≤L.length∧(L.take x.1).filter z74=x.2) (fun x=>L.length - x.1) (0,[]) ⟨y53 _,rfl⟩ (by refine swR [2,1] [] rfl rfl ?_;(repeat' first|exact y85 _|exact z49|exact z12 _|((refine z10 rfl ?_ ?_);(focus ((repeat' (first|exact z30|exact z5 (fun _=>rfl)));done)))|constructor)) ?_
 rintro ⟨k,O⟩ ⟨hk,hO⟩
 dsimp only at hk hO ⊢
 have hOl:O.length≤L.length:=by
  rw [← hO]
  have:=List.length_filter_le z74 (L.take k)
  rw [y48] at this
  omega
 by_cases hkl:k < L.length
 ·have gk:(L.map Tree.cs')[k]?=some (Tree.cs' L[k]):=by rw [y51,y45 hkl];rfl
  have ht:(L.take (k+1)).filter z74=O++(if z74 L[k]=true then [L[k]] else []):=by
   rw [y50 hkl,List.filter_append,hO]
   congr 1
   by_cases hb:z74 L[k]=true
   ·rw [if_pos hb,List.filter_cons_of_pos hb];rfl
   ·rw [if_neg hb,List.filter_cons_of_neg hb];rfl
  generalize L[k]=y at *
  by_cases hy:z74 y=true
  ·rw [if_pos hy] at ht
   have hy:=of_decide_eq_true (show decide _=true from hy)
   repeat' ((first|(apply y4 ok;rfl)|(refine z15 (i:=k) rfl gk ?_)|(apply y43;first|omega|(unfold inI;omega)|((try dsimp only);simp only [y49,y48,y47,y46,y57,y58];omega)|exact ⟨rfl,z21 rfl z31⟩)|((apply z6)<;>intro _))<;>conv=>whnf)
   all_goals try (exfalso;omega)
   all_goals refine z27 (k+1,O++[y]) ⟨by show k+1≤_;omega,ht⟩ (by show L.length - (k+1) < L.length - k;omega) (by refine swR [4,1] [] rfl rfl ?_;(repeat' first|exact y85 _|exact z12 _|(refine z45 ?_;((simp;done)))|((first|refine z43 rfl ?_ ?_|refine z10 rfl ?_ ?_);(focus ((repeat' (first|exact z5 (fun _=>rfl)|apply z28));done)))|(refine z68 ?_ ?_;(focus (omega)))|constructor))
  ·rw [if_neg hy,y64] at ht
   have hy:=of_decide_eq_false (show decide _=false from (y71 _).mp hy)
   repeat' ((first|(apply y4 ok;rfl)|(refine z15 (i:=k) rfl gk ?_)|(apply y43;first|omega|(unfold inI;omega))|((apply z6)<;>intro _))<;>conv=>whnf)
   all_goals try (exfalso;omega)
   all_goals refine z27 (k+1,O) ⟨by show k+1≤_;omega,ht⟩ (by show L.length - (k+1) < L.length - k;omega) (by refine swR [0,1] [] rfl rfl ?_;(repeat' first|exact y85 _|exact z12 _|refine z10 rfl (z5 (fun _=>rfl)) ?_|constructor))
 ·obtain rfl:k=L.length:=by omega
  rw [y55] at hO
  rw [hO]
  have cC:=z561 O (by omega)
  repeat' ((first|(apply y4 ok;rfl)|(apply y43;omega)|(((apply z9;omega));intro _)|((apply z6)<;>intro _)|(apply z93 [0] [] cC;rfl;(focus ((repeat' first|exact z35|apply z44)<;>(refine z59 rfl ?_;((exact z5 fun _=>rfl)))));rfl;(focus ((repeat' first|exact z13|apply z11)<;>(refine z19 ?_;((exact z5 fun _=>rfl)))))))<;>conv=>whnf)
  all_goals try (exfalso;omega)
  all_goals (refine rsD [0] [] rfl ?_;(repeat' first|exact y85 _|exact z12 _|refine z10 rfl (z5 (fun _=>rfl)) ?_|constructor))
theorem z693 (t:Tree) (hs:t.sz≤200):CallsA Tryz.prog 186 [z20 Tree.cs' t] [] (.tup [lst 3 Tree.cs' (if bscB t then bscL (t.nrm false) else []),.bool (bscB t)]) []:=by
 have cn:=z1156 t (by omega)
 unfold bscB
 by_cases h:t.fmB=true∧(t.nrm false).fmB=true
 ·rw [if_pos h,y81 h] at cn
  have hz:=y30 t (y25 h.1) false
  have hd:decide ((t.fmB=true∧(t.nrm false).fmB=true)∧(bscL (t.nrm false)).length≤5)=decide ((bscL (t.nrm false)).length≤5):=by
   rw [decide_eq_decide];exact ⟨fun h=>h.2,fun h2=>⟨h,h2⟩⟩
  rw [hd]
  clear hd h
  generalize t.nrm false=u at *
  have cB:=z590 u (by omega)
  generalize bscL u=O at *
  rw [y16 u] at cn cB
  by_cases h5:O.length≤5
  ·rw [y81 h5,if_pos rfl]
   refine z7 z14 Tryz.func186 rfl rfl 20 Tryz.ntmps186 (by simp) ?_
   repeat' ((first|(apply y4 ok;rfl)|((apply z6)<;>intro _)|(apply z4 (cn);rfl;rfl)|(apply z8 [] [2] cB;rfl;rfl;rfl;(focus ((repeat' first|exact z13|apply z11)<;>(refine z19 ?_;((exact z5 fun _=>rfl)))))))<;>conv=>whnf)
   all_goals try (exfalso;omega)
   all_goals (refine rsD [] [2] rfl ?_;(repeat' first|exact y85 _|((apply z36 rfl rfl rfl);(focus ((repeat ((exact z24 (fun _=>rfl) _)));done));(focus (((simp;done));done)))|apply z71|constructor))
  ·rw [y82 h5,if_neg (by simp)]
   refine z7 z14 Tryz.func186 rfl rfl 20 Tryz.ntmps186 (by simp) ?_
   repeat' ((first|(apply y4 ok;rfl)|((apply z6)<;>intro _)|(apply z4 (cn);rfl;rfl)|(apply z8 [] [2] cB;rfl;rfl;rfl;(focus ((repeat' first|exact z13|apply z11)<;>(refine z19 ?_;((exact z5 fun _=>rfl)))))))<;>conv=>whnf)
   all_goals try (exfalso;omega)
   all_goals (refine rsD [] [] rfl ?_;(repeat' first|exact y85 _|exact z26|apply z71|constructor))
 ·rw [if_neg h,y82 h] at cn
  have hd:decide ((t.fmB=true∧(t.nrm false).fmB=true)∧(bscL (t.nrm false)).length≤5)=false:=y82 fun h2=>h h2.1
  rw [hd,if_neg (by simp)]
  refine z7 z14 Tryz.func186 rfl rfl 20 Tryz.ntmps186 (by simp) ?_
  repeat' ((first|(apply y4 ok;rfl)|(apply z4 (cn);rfl;rfl))<;>conv=>whnf)
  all_goals (refine rsD [] [] rfl ?_;(repeat' first|exact y85 _|exact z26|apply z71|constructor))
theorem csU (k v:Int) (a:Tree):Tree.cs' (.mk k v [a])=[.int k,.int v,.list 3 1 [Tree.cs' a]]:=AC.agg.inj (argU k v a)
theorem csB2 (k v:Int) (a b:Tree):Tree.cs' (.mk k v [a,b])=[.int k,.int v,.list 3 2 [Tree.cs' a,Tree.cs' b]]:=AC.agg.inj (argB k v a b)
inductive FormB (B:List Tree):Tree→Prop
 |at (v:Int):FormB B (.mk 2 v [])
 |nx (a:Tree) (ha:In (·∈B) a) (sa:a.sz≤1000):FormB B (.mk 6 0 [a])
 |un (a b:Tree) (ha:In (·∈B) a) (hb:In (·∈B) b) (sa:a.sz≤1000) (sb:b.sz≤1000):FormB B (.mk 7 0 [a,b])
 |re (a b:Tree) (ha:In (·∈B) a) (hb:In (·∈B) b) (sa:a.sz≤1000) (sb:b.sz≤1000):FormB B (.mk 8 0 [a,b])
theorem BasL.form {B:List Tree} (h:BasL B) {x:Tree} (hx:x∈B):FormB B x:=by
 have h1:=h.cl x hx
 have h2:=h.bk x hx
 have h3:=h.sz x hx
 cases h1 with
 |tr=>simp [z74,Tree.kind] at h2
 |«at» v _=>exact .at v
 |nt=>simp [z74,Tree.kind] at h2
 |na v _=>simp [z74,Tree.kind] at h2
 |an _ _=>simp [z74,Tree.kind] at h2
 |or _ _=>simp [z74,Tree.kind] at h2
 |nx _ ha=>rw [z341] at h3;exact .nx _ ha (by omega)
 |un _ ha hb=>rw [z340] at h3;exact .un _ _ ha hb (by omega) (by omega)
 |re _ ha hb=>rw [z340] at h3;exact .re _ _ ha hb (by omega) (by omega)
theorem z789 {B:List Tree} {s t:Int} (h:∀ i,i < B.length→folI B s t i=true):folB B s t=true:=by
 unfold folB;rw [y78];exact fun i hi=>h i (List.mem_range.1 hi)
theorem z625 {B:List Tree} {s t:Int} {i:Nat} (hi:i < B.length) (h:folI B s t i=false):folB B s t=false:=by
 unfold folB;rw [List.all_eq_false];exact ⟨i,List.mem_range.2 hi,by rw [h];simp⟩
set_option maxHeartbeats 6400000 in
theorem z772 (B:List Tree) (hB:BasL B) (s t:Int) (s0:0≤s) (s1:s≤31) (t0:0≤t) (t1:t≤31):CallsA Tryz.prog 231 [lst 3 Tree.cs' B,.int s,.int t] [] (.bool (folB B s t)) []:=by
 have hl:=hB.len
 refine z7 z14 Tryz.func231 rfl rfl 85 Tryz.ntmps231 (by simp) ?_
 repeat' (((apply y4 ok;rfl))<;>conv=>whnf)
 refine z64 (fun i:Nat=>([(0,lst 3 Tree.cs' B),(1,.int s),(2,.int t),(7,.int i)],[])) (fun i=>i≤B.length∧∀ j,j < i→folI B s t j=true) (fun i=>B.length - i) 0 ⟨y53 _,fun j h=>absurd h (Nat.not_lt_zero _)⟩ (by refine swR [] [] rfl rfl ?_;(repeat' first|exact y85 _|constructor)) ?_
 rintro i ⟨hi,hj⟩
 by_cases hil:i < B.length
 ·have gk:(B.map Tree.cs')[i]?=some (Tree.cs' (B.getD i dftT)):=by rw [y51,y45 hil,z17 hil];rfl
  have hf:=hB.form (x:=B.getD i dftT) (by rw [z17 hil];exact y44 _)
  have cw:=z296 s i s0 s1 (by omega) (by omega)
  have cn:=z296 t i t0 t1 (by omega) (by omega)
  have hI:folI B s t i=(folV B s t (B.getD i dftT) (hasB s i) (hasB t i) == hasB s i):=rfl
  have hT:folI B s t i=true→∀ j,j < i+1→folI B s t j=true:=fun h j hji=>by
   rcases y69 j i with h3|h3
   ·exact hj j h3
   ·obtain rfl:j=i:=by omega
    exact h
  have hF:folI B s t i=false→folB B s t=false:=z625 hil
  rw [hI] at hT hF
  clear hI hj
  generalize B.getD i dftT=f at *
  generalize hasB s i=x at *
  generalize hasB t i=y at *
  cases hf with
  |«at» v =>
   have hT2:=hT (by simp [folV,Tree.kind])
   clear hT hF
   cases x
   all_goals
    repeat' ((first|(apply y4 ok;rfl)|(refine z15 (i:=i) rfl gk ?_)|(apply y43;first|omega|(unfold inI;omega))|((apply z6)<;>intro _)|(apply z4 (cw);rfl;rfl))<;>conv=>whnf)
    all_goals try (exfalso;omega)
    all_goals refine z27 (i+1) ⟨by omega,hT2⟩ (by omega) (by refine swR [] [] rfl rfl ?_;(repeat' first|exact y85 _|constructor))
  |nx a ha sa =>
   have ca:=z170 B hB t t0 t1 a ha sa
   have e:folV B s t (.mk 6 0 [a]) x y=vlB B t a:=by simp [folV,kidV,Tree.kind,Tree.kids]
   rw [e] at hT hF
   rw [csU] at gk
   clear e
   generalize vlB B t a=z at *
   cases x<;>cases z
   all_goals first|have hT:=hT rfl|(have hF:=hF rfl;rw [hF])
   all_goals
    repeat' ((first|(apply y4 ok;rfl)|(refine z15 (i:=i) rfl gk ?_)|(refine ⟨_,rfl,?_⟩)|(apply y43;first|omega|(unfold inI;omega))|((apply z6)<;>intro _)|(apply z4 (cw);rfl;rfl)|(apply z4 (ca);rfl;rfl))<;>conv=>whnf)
    all_goals try (exfalso;omega)
    all_goals first|(refine z27 (i+1) ⟨by omega,hT⟩ (by omega) (by refine swR [] [] rfl rfl ?_;(repeat' first|exact y85 _|constructor)))|(refine rsD [] [] rfl ?_;(repeat' first|exact y85 _|constructor))
  |un a b ha hb sa sb =>
   have ca:=z170 B hB s s0 s1 a ha sa
   have cb:=z170 B hB s s0 s1 b hb sb
   have e:folV B s t (.mk 7 0 [a,b]) x y=(vlB B s b || (vlB B s a && y)):=by simp [folV,kidV,Tree.kind,Tree.kids]
   rw [e] at hT hF
   rw [csB2] at gk
   clear e
   generalize vlB B s a=z at *
   generalize vlB B s b=u at *
   cases x<;>cases y<;>cases z<;>cases u
   all_goals first|have hT:=hT rfl|(have hF:=hF rfl;rw [hF])
   all_goals
    repeat' ((first|(apply y4 ok;rfl)|(refine z15 (i:=i) rfl gk ?_)|(refine ⟨_,rfl,?_⟩)|(apply y43;first|omega|(unfold inI;omega))|((apply z6)<;>intro _)|(apply z4 (cw);rfl;rfl)|(apply z4 (cn);rfl;rfl)|(apply z4 (ca);rfl;rfl)|(apply z4 (cb);rfl;rfl))<;>conv=>whnf)
    all_goals try (exfalso;omega)
    all_goals first|(refine z27 (i+1) ⟨by omega,hT⟩ (by omega) (by refine swR [] [] rfl rfl ?_;(repeat' first|exact y85 _|constructor)))|(refine rsD [] [] rfl ?_;(repeat' first|exact y85 _|constructor))
  |re a b ha hb sa sb =>
   have ca:=z170 B hB s s0 s1 a ha sa
   have cb:=z170 B hB s s0 s1 b hb sb
   have e:folV B s t (.mk 8 0 [a,b]) x y=(vlB B s b && (vlB B s a || y)):=by simp [folV,kidV,Tree.kind,Tree.kids]
   rw [e] at hT hF
   rw [csB2] at gk
   clear e
   generalize vlB B s a=z at *
   generalize vlB B s b=u at *
   cases x<;>cases y<;>cases z<;>cases u
   all_goals first|have hT:=hT rfl|(have hF:=hF rfl;rw [hF])
   all_goals
    repeat' ((first|(apply y4 ok;rfl)|(refine z15 (i:=i) rfl gk ?_)|(refine ⟨_,rfl,?_⟩)|(apply y43;first|omega|(unfold inI;omega))|((apply z6)<;>intro _)|(apply z4 (cw);rfl;rfl)|(apply z4 (cn);rfl;rfl)|(apply z4 (ca);rfl;rfl)|(apply z4 (cb);rfl;rfl))<;>conv=>whnf)
    all_goals try (exfalso;omega)
    all_goals first|(refine z27 (i+1) ⟨by omega,hT⟩ (by omega) (by refine swR [] [] rfl rfl ?_;(repeat' first|exact y85 _|constructor)))|(refine rsD [] [] rfl ?_;(repeat' first|exact y85 _|constructor))
 ·obtain rfl:i=B.length:=by omega
  rw [z789 fun j hji=>hj j hji]
  repeat' ((first|(apply y4 ok;rfl)|(apply y43;omega)|(((with_reducible apply z9;omega));intro _)|((apply z6)<;>intro _))<;>conv=>whnf)
  all_goals first|(exfalso;omega)|(refine rsD [] [] rfl ?_;(repeat' first|exact y85 _|constructor))
theorem z771 (B:List Tree) (hB:BasL B) (s:Int) (s0:0≤s) (s1:s≤31) (u:Nat) (hu:u < B.length) (hk:(B.getD u dftT).kind=7):CallsA Tryz.prog 263 [lst 3 Tree.cs' B,.int s,.int u] [] (.bool (fulB B s u)) []:=by
 have hl:=hB.len
 have gk:(B.map Tree.cs')[u]?=some (Tree.cs' (B.getD u dftT)):=by rw [y51,y45 hu,z17 hu];rfl
 have hf:=hB.form (x:=B.getD u dftT) (by rw [z17 hu];exact y44 _)
 have cw:=z296 s u s0 s1 (by omega) (by omega)
 have e:fulB B s u=(!hasB s u || kidV B s (B.getD u dftT) 1):=rfl
 rw [e]
 generalize B.getD u dftT=f at *
 generalize hasB s u=x at *
 cases hf with
 |«at» v=>simp [Tree.kind] at hk
 |nx a _ _=>simp [Tree.kind] at hk
 |re a b _ _ _ _=>simp [Tree.kind] at hk
 |un a b ha hb sa sb =>
  have cb:=z170 B hB s s0 s1 b hb sb
  rw [csB2] at gk
  have e2:kidV B s (.mk 7 0 [a,b]) 1=vlB B s b:=by simp [kidV,Tree.kids]
  rw [e2]
  clear e e2
  generalize vlB B s b=y at *
  cases x
  all_goals
   refine z7 z14 Tryz.func263 rfl rfl 23 Tryz.ntmps263 (by simp) ?_
   repeat' ((first|(apply y4 ok;rfl)|(refine z15 (i:=u) rfl gk ?_)|(refine ⟨_,rfl,?_⟩)|(apply y43;omega)|(apply z4 (cw);rfl;rfl)|(apply z4 (cb);rfl;rfl))<;>conv=>whnf)
   all_goals (refine rsD [] [] rfl ?_;(repeat' first|exact y85 _|constructor))
def untL (B:List Tree) (i:Nat):List Int:=((List.range i).filter fun i=>decide ((B.getD i dftT).kind=7)).map Int.ofNat
theorem z725 (B:List Tree) (i:Nat):untL B (i+1)=untL B i++(if (B.getD i dftT).kind=7 then [(i:Int)] else []):=by
 unfold untL
 rw [y61,List.filter_append,y63]
 congr 1
 by_cases h:(B.getD i dftT).kind=7
 ·rw [if_pos h,List.filter_cons_of_pos (by simpa using h)];rfl
 ·rw [if_neg h,List.filter_cons_of_neg (by simpa using h)];rfl
theorem z256 (B:List Tree) (i:Nat):(untL B i).length≤i:=by
 unfold untL
 rw [y49]
 have:=List.length_filter_le (fun i=>decide ((B.getD i dftT).kind=7)) (List.range i)
 simpa using this
theorem z877 (B:List Tree) (hl:B.length≤1000):CallsA Tryz.prog 227 [lst 3 Tree.cs' B] [] (ints (untB B)) []:=by
 refine z7 z14 Tryz.func227 rfl rfl 23 Tryz.ntmps227 (by simp) ?_
 repeat' (((apply y4 ok;rfl))<;>conv=>whnf)
 refine z64 (fun x:Nat×List Int=>([(0,lst 3 Tree.cs' B),(3,.sref 0 0 x.2.length),(4,.int x.1)],[.cells 1 (x.2.map enI)])) (fun x=>x.1≤B.length∧untL B x.1=x.2) (fun x=>B.length - x.1) (0,[]) ⟨y53 _,rfl⟩ (by refine swR [0] [] rfl rfl ?_;(repeat' first|exact y85 _|refine z10 rfl (z30) ?_|constructor)) ?_
 rintro ⟨i,U⟩ ⟨hi,hU⟩
 dsimp only at hi hU ⊢
 have hul:=z256 B i
 rw [hU] at hul
 by_cases hil:i < B.length
 ·have gk:(B.map Tree.cs')[i]?=some (Tree.cs' (B.getD i dftT)):=by rw [y51,y45 hil,z17 hil];rfl
  have hs:=z725 B i
  rw [hU] at hs
  generalize B.getD i dftT=f at *
  by_cases hk:f.kind=7
  ·rw [if_pos hk] at hs
   repeat' ((first|(apply y4 ok;rfl)|(refine z15 (i:=i) rfl gk ?_)|(apply y43;first|omega|(unfold inI;omega)|((try dsimp only);simp only [y49,y48,y47,y46,y57,y58];omega)|exact ⟨rfl,z21 rfl z31⟩)|((apply z6)<;>intro _))<;>conv=>whnf)
   all_goals try (exfalso;omega)
   all_goals refine z27 (i+1,U++[(i:Int)]) ⟨by show i+1≤_;omega,hs⟩ (by show B.length - (i+1) < B.length - i;omega) (by refine swR [2] [] rfl rfl ?_;(repeat' first|exact y85 _|(refine z45 ?_;((simp;done)))|((refine z43 rfl ?_ ?_);(focus ((repeat' (first|exact z5 (fun _=>rfl)|apply z28));done)))|(refine z68 ?_ ?_;(focus (omega)))|constructor))
  ·rw [if_neg hk,y64] at hs
   repeat' ((first|(apply y4 ok;rfl)|(refine z15 (i:=i) rfl gk ?_)|(apply y43;first|omega|(unfold inI;omega))|((apply z6)<;>intro _))<;>conv=>whnf)
   all_goals try (exfalso;omega)
   all_goals refine z27 (i+1,U) ⟨by show i+1≤_;omega,hs⟩ (by show B.length - (i+1) < B.length - i;omega) (by refine swR [0] [] rfl rfl ?_;(repeat' first|exact y85 _|exact z12 _|refine z10 rfl (z5 (fun _=>rfl)) ?_|constructor))
 ·obtain rfl:i=B.length:=by omega
  have e:untB B=U:=hU
  rw [e]
  repeat' ((first|(apply y4 ok;rfl)|(apply y43;omega)|(((with_reducible apply z9;omega));intro _)|((apply z6)<;>intro _))<;>conv=>whnf)
  all_goals first|(exfalso;omega)|(refine rsD [] [0] rfl ?_;(repeat' first|exact y85 _|((apply z36 rfl rfl rfl);(focus ((repeat ((exact z24 (fun _=>rfl) _)));done));(focus (((simp;done));done)))|constructor))
theorem z646 {B:List Tree} {x:Int} (h:x∈untB B):∃ u:Nat,x=u∧u < B.length∧(B.getD u dftT).kind=7:=by
 unfold untB at h
 obtain ⟨u,hu,rfl⟩:=List.mem_map.1 h
 obtain ⟨h1,h2⟩:=List.mem_filter.1 hu
 exact ⟨u,rfl,List.mem_range.1 h1,of_decide_eq_true h2⟩
theorem z1008 (B:List Tree) (hB:BasL B) (s:Int) (s0:0≤s) (s1:s≤31) (ph:Nat) (hp:(untB B).length=0∨ph < (untB B).length):CallsA Tryz.prog 229 [lst 3 Tree.cs' B,ints (untB B),.int s,.int ph] [] (.tup [.int (phB B (untB B) s ph).1,.bool (phB B (untB B) s ph).2]) []:=by
 have hl:=hB.len
 have hul:(untB B).length≤B.length:=z256 B B.length
 have hm:=fun x=>@z646 B x
 unfold phB
 generalize untB B=U at *
 by_cases h0:U.length=0
 ·rw [if_pos h0]
  refine z7 z14 Tryz.func229 rfl rfl 28 Tryz.ntmps229 (by simp) ?_
  repeat' ((first|(apply y4 ok;rfl)|(apply y43;omega)|(((with_reducible apply z9;omega));intro _)|((apply z6)<;>intro _))<;>conv=>whnf)
  all_goals first|(exfalso;omega)|(refine rsD [] [] rfl ?_;(repeat' first|exact y85 _|constructor))
 ·rw [if_neg h0]
  have hpl:ph < U.length:=by omega
  have gu:(U.map enI)[ph]?=some (enI (U.getD ph 0)):=by rw [y51,y45 hpl,z17 hpl];rfl
  obtain ⟨u,e,hu,hk⟩:=hm (U.getD ph 0) (by rw [z17 hpl];exact y44 _)
  rw [e] at gu
  have cf:=z771 B hB s s0 s1 u hu hk
  rw [y76,e]
  generalize fulB B s u=z at *
  cases z
  ·refine z7 z14 Tryz.func229 rfl rfl 28 Tryz.ntmps229 (by simp) ?_
   repeat' ((first|(apply y4 ok;rfl)|(refine z15 (i:=ph) rfl gu ?_)|(apply y43;omega)|((apply z6)<;>intro _)|(apply z4 (cf);rfl;rfl))<;>conv=>whnf)
   all_goals first|(exfalso;omega)|(refine rsD [] [] rfl ?_;(repeat' first|exact y85 _|constructor))
  ·refine z7 z14 Tryz.func229 rfl rfl 28 Tryz.ntmps229 (by simp) ?_
   repeat' ((first|(apply y4 ok;rfl)|(refine z15 (i:=ph) rfl gu ?_)|(apply y43;first|omega|(unfold inI;omega))|((apply z6)<;>intro _)|(apply z4 (cf);rfl;rfl))<;>conv=>whnf)
   all_goals try (exfalso;omega)
   all_goals (refine rsD [] [] rfl ?_;(repeat' first|exact y85 _|constructor))
theorem z801 {s:Int} {i:Nat} (s0:0≤s) (s1:s≤31) (hi:i≤5):0≤s / 2 ^ i∧s / 2 ^ i≤31:=by
 have:i=0∨i=1∨i=2∨i=3∨i=4∨i=5:=by omega
 rcases this with rfl|rfl|rfl|rfl|rfl|rfl<;>simp<;>omega
theorem div_bd2 {s a:Int} (s0:0≤s) (s1:s≤31) (h0:0≤a) (h1:a≤5):0≤s / 2 ^ a.toNat∧s / 2 ^ a.toNat≤31:=z801 s0 s1 (by omega)
set_option maxHeartbeats 3200000 in
theorem z268 (B:List Tree) (U:List Int) (hB:BasL B) (s:Int) (s0:0≤s) (s1:s≤31) (t:Tree) (h:In (·∈B) t):t.sz≤1000→CallsA Tryz.prog 188 [.pt [lst 3 Tree.cs' B,ints U],z20 Tree.cs' t,.int s] [] (.bool (vlB B s t)) []:=by
 have hl:=hB.len
 have basic:∀ t,t∈B→CallsA Tryz.prog 188 [.pt [lst 3 Tree.cs' B,ints U],z20 Tree.cs' t,.int s] [] (.bool (sgB B s t)) []:=fun t ht=>by
  have cF:=z302 B (by omega) hB.mx t (hB.mx t ht)
  have hp:=z1116 ht
  have e:idxF (fun x=>decide (x=t)) B=plc B t:=rfl
  rw [e] at cF
  have hd:=div_bd2 s0 s1 hp.1 (show plc B t≤5 by omega)
  unfold sgB
  generalize plc B t=p at *
  rw [y16 t] at cF ⊢
  refine z7 z14 Tryz.func188 rfl rfl 69 Tryz.ntmps188 (by simp) ?_
  repeat' ((first|(apply y4 ok;rfl)|(apply z23;kernel_rfl)|(refine y43 (by unfold z150;omega) ?_)|(apply y43;omega)|(((with_reducible apply z90;omega));intro _)|((apply z6)<;>intro _)|(apply z4 (cF);rfl;rfl))<;>conv=>whnf)
  all_goals first|(exfalso;omega)|(refine rsD [] [] rfl ?_;(repeat' first|exact y85 _|constructor))
 have none:∀ t:Tree,t.sz≤1000→z74 t=false→CallsA Tryz.prog 239 [lst 3 Tree.cs' B,z20 Tree.cs' t] [] (.int (-1)) []:=fun t hs hb=>by
  have cF:=z302 B (by omega) hB.mx t (z85 t (by unfold maxLen;omega))
  have e:idxF (fun x=>decide (x=t)) B=-1:=z118 fun j hj=>y82 fun e=>by have:=hB.bk _ (y44 hj);rw [e,hb] at this;cases this
  rwa [e] at cF
 unfold vlB
 induction h with
 |tr =>
  intro hs
  have cn:=none (.mk 1 0 []) hs rfl
  rw [z501]
  refine z7 z14 Tryz.func188 rfl rfl 69 Tryz.ntmps188 (by simp) ?_
  repeat' ((first|(apply y4 ok;rfl)|(apply z23;kernel_rfl)|(apply z4 (cn);rfl;rfl))<;>conv=>whnf)
  all_goals (refine rsD [] [] rfl ?_;(repeat' first|exact y85 _|constructor))
 |«at» v hb=>intro _;rw [z461];exact basic _ hb
 |nt =>
  intro hs
  have cn:=none (.mk 3 0 [.mk 1 0 []]) hs rfl
  have cn2:=none (.mk 1 0 []) (by simp [z509]) rfl
  rw [z273,z501]
  have c1:CallsA Tryz.prog 188 [.pt [lst 3 Tree.cs' B,ints U],z20 Tree.cs' (.mk 1 0 []),.int s] [] (.bool true) []:=by
   refine z7 z14 Tryz.func188 rfl rfl 69 Tryz.ntmps188 (by simp) ?_
   repeat' ((first|(apply y4 ok;rfl)|(apply z23;kernel_rfl)|(apply z4 (cn2);rfl;rfl))<;>conv=>whnf)
   all_goals (refine rsD [] [] rfl ?_;(repeat' first|exact y85 _|constructor))
  rw [argU] at cn ⊢
  refine z7 z14 Tryz.func188 rfl rfl 69 Tryz.ntmps188 (by simp) ?_
  repeat' ((first|(apply y4 ok;rfl)|(apply z23;kernel_rfl)|(refine ⟨_,rfl,?_⟩)|(apply y43;omega)|(apply z4 (cn);rfl;rfl)|(apply z4 (c1);rfl;rfl))<;>conv=>whnf)
  all_goals (refine rsD [] [] rfl ?_;(repeat' first|exact y85 _|constructor))
 |na v hb =>
  intro hs
  have cn:=none (.mk 3 0 [.mk 2 v []]) hs rfl
  rw [z273,z461]
  have c1:=basic _ hb
  rw [argU] at cn ⊢
  refine z7 z14 Tryz.func188 rfl rfl 69 Tryz.ntmps188 (by simp) ?_
  repeat' ((first|(apply y4 ok;rfl)|(apply z23;kernel_rfl)|(refine ⟨_,rfl,?_⟩)|(apply y43;omega)|(apply z4 (cn);rfl;rfl)|(apply z4 (c1);rfl;rfl))<;>conv=>whnf)
  all_goals (refine rsD [] [] rfl ?_;(repeat' first|exact y85 _|constructor))
 |an _ _ iha ihb =>
  rename_i a b _ _
  intro hs
  have cn:=none (.mk 4 0 [a,b]) hs rfl
  rw [z340] at hs
  have ca:=iha (by omega)
  have cb:=ihb (by omega)
  rw [z596,argB]
  rw [argB] at cn
  generalize a.vl (sgB B s)=x at *
  generalize b.vl (sgB B s)=y at *
  cases x
  all_goals
   refine z7 z14 Tryz.func188 rfl rfl 69 Tryz.ntmps188 (by simp) ?_
   repeat' ((first|(apply y4 ok;rfl)|(apply z23;kernel_rfl)|(refine ⟨_,rfl,?_⟩)|(apply y43;omega)|(apply z4 (cn);rfl;rfl)|(apply z4 (ca);rfl;rfl)|(apply z4 (cb);rfl;rfl))<;>conv=>whnf)
   all_goals (refine rsD [] [] rfl ?_;(repeat' first|exact y85 _|constructor))
 |or _ _ iha ihb =>
  rename_i a b _ _
  intro hs
  have cn:=none (.mk 5 0 [a,b]) hs rfl
  rw [z340] at hs
  have ca:=iha (by omega)
  have cb:=ihb (by omega)
  rw [z971,argB]
  rw [argB] at cn
  generalize a.vl (sgB B s)=x at *
  generalize b.vl (sgB B s)=y at *
  cases x
  all_goals
   refine z7 z14 Tryz.func188 rfl rfl 69 Tryz.ntmps188 (by simp) ?_
   repeat' ((first|(apply y4 ok;rfl)|(apply z23;kernel_rfl)|(refine ⟨_,rfl,?_⟩)|(apply y43;omega)|(apply z4 (cn);rfl;rfl)|(apply z4 (ca);rfl;rfl)|(apply z4 (cb);rfl;rfl))<;>conv=>whnf)
   all_goals (refine rsD [] [] rfl ?_;(repeat' first|exact y85 _|constructor))
 |nx hb _ _=>intro _;rw [z972];exact basic _ hb
 |un hb _ _ _ _=>intro _;rw [z969];exact basic _ hb
 |re hb _ _ _ _=>intro _;rw [z970];exact basic _ hb
set_option maxHeartbeats 6400000 in
theorem z1021 (B:List Tree) (U:List Int) (hB:BasL B) (s t:Int) (s0:0≤s) (s1:s≤31) (t0:0≤t) (t1:t≤31):CallsA Tryz.prog 242 [.pt [lst 3 Tree.cs' B,ints U],.int s,.int t] [] (.bool (folB B s t)) []:=by
 have hl:=hB.len
 refine z7 z14 Tryz.func242 rfl rfl 90 Tryz.ntmps242 (by simp) ?_
 repeat' (((apply y4 ok;rfl))<;>conv=>whnf)
 refine z64 (fun i:Nat=>([(0,.pt [lst 3 Tree.cs' B,ints U]),(1,.int s),(2,.int t),(15,lst 3 Tree.cs' B),(16,.int B.length),(17,.int i)],[])) (fun i=>i≤B.length∧∀ j,j < i→folI B s t j=true) (fun i=>B.length - i) 0 ⟨y53 _,fun j h=>absurd h (Nat.not_lt_zero _)⟩ (by refine swR [] [] rfl rfl ?_;(repeat' first|exact y85 _|constructor)) ?_
 rintro i ⟨hi,hj⟩
 by_cases hil:i < B.length
 ·have gk:(B.map Tree.cs')[i]?=some (Tree.cs' (B.getD i dftT)):=by rw [y51,y45 hil,z17 hil];rfl
  have hf:=hB.form (x:=B.getD i dftT) (by rw [z17 hil];exact y44 _)
  have d1:=z801 (i:=i) s0 s1 (by omega)
  have d2:=z801 (i:=i) t0 t1 (by omega)
  have hI:folI B s t i=(folV B s t (B.getD i dftT) (hasB s i) (hasB t i) == hasB s i):=rfl
  have hT:folI B s t i=true→∀ j,j < i+1→folI B s t j=true:=fun h j hji=>by
   rcases y69 j i with h3|h3
   ·exact hj j h3
   ·obtain rfl:j=i:=by omega
    exact h
  have hF:folI B s t i=false→folB B s t=false:=z625 hil
  rw [hI] at hT hF
  clear hI hj
  generalize B.getD i dftT=f at *
  repeat' ((first|((fail_if_success apply z153 5);(fail_if_success apply z114 5);apply y4 ok;rfl)|(apply z23;kernel_rfl)|(refine z15 (i:=i) rfl gk ?_)|(refine y43 (by unfold z150;(rw [y76];omega)) ?_)|(apply y43;omega)|((apply z6)<;>intro _))<;>conv=>whnf)
  all_goals try (exfalso;omega)
  refine y84 (show Gl.Reach _ _ (mkSt _ [(0,.pt [lst 3 Tree.cs' B,ints U]),(1,.int s),(2,.int t),(8,.ptr 0 none 0),(9,.bool (hasB s i)),(10,.bool (hasB t i)),(15,lst 3 Tree.cs' B),(16,.int B.length),(17,.int i)] [.cells 3 [Tree.cs' f]]) from (by refine swR [0] [] rfl rfl ?_;(repeat' first|exact y85 _|apply y86|constructor))) ?_
  generalize hasB s i=x at *
  generalize hasB t i=y at *
  cases hf with
  |«at» v =>
   have hT2:=hT (by simp [folV,Tree.kind])
   clear hT hF
   cases x
   all_goals
    repeat' ((first|(apply y4 ok;rfl)|(apply y43;(unfold inI;omega)))<;>conv=>whnf)
    all_goals refine z27 (i+1) ⟨by omega,hT2⟩ (by omega) (by refine swR [] [] rfl rfl ?_;(repeat' first|exact y85 _|constructor))
  |nx a ha sa =>
   have ca:=z268 B U hB t t0 t1 a ha sa
   have e:folV B s t (.mk 6 0 [a]) x y=vlB B t a:=by simp [folV,kidV,Tree.kind,Tree.kids]
   rw [e] at hT hF
   rw [csU]
   clear e
   generalize vlB B t a=z at *
   cases x<;>cases z
   all_goals first|have hT:=hT rfl|(have hF:=hF rfl;rw [hF])
   all_goals
    repeat' ((first|(apply y4 ok;rfl)|(refine ⟨_,rfl,?_⟩)|(apply y43;first|omega|(unfold inI;omega))|(apply z4 (ca);rfl;rfl))<;>conv=>whnf)
    all_goals first|(refine z27 (i+1) ⟨by omega,hT⟩ (by omega) (by refine swR [] [] rfl rfl ?_;(repeat' first|exact y85 _|constructor)))|(refine rsD [] [] rfl ?_;(repeat' first|exact y85 _|constructor))
  |un a b ha hb sa sb =>
   have ca:=z268 B U hB s s0 s1 a ha sa
   have cb:=z268 B U hB s s0 s1 b hb sb
   have e:folV B s t (.mk 7 0 [a,b]) x y=(vlB B s b || (vlB B s a && y)):=by simp [folV,kidV,Tree.kind,Tree.kids]
   rw [e] at hT hF
   rw [csB2]
   clear e
   generalize vlB B s a=z at *
   generalize vlB B s b=u at *
   cases x<;>cases y<;>cases z<;>cases u
   all_goals first|have hT:=hT rfl|(have hF:=hF rfl;rw [hF])
   all_goals
    repeat' ((first|(apply y4 ok;rfl)|(refine ⟨_,rfl,?_⟩)|(apply y43;first|omega|(unfold inI;omega))|(apply z4 (ca);rfl;rfl)|(apply z4 (cb);rfl;rfl))<;>conv=>whnf)
    all_goals first|(refine z27 (i+1) ⟨by omega,hT⟩ (by omega) (by refine swR [] [] rfl rfl ?_;(repeat' first|exact y85 _|constructor)))|(refine rsD [] [] rfl ?_;(repeat' first|exact y85 _|constructor))
  |re a b ha hb sa sb =>
   have ca:=z268 B U hB s s0 s1 a ha sa
   have cb:=z268 B U hB s s0 s1 b hb sb
   have e:folV B s t (.mk 8 0 [a,b]) x y=(vlB B s b && (vlB B s a || y)):=by simp [folV,kidV,Tree.kind,Tree.kids]
   rw [e] at hT hF
   rw [csB2]
   clear e
   generalize vlB B s a=z at *
   generalize vlB B s b=u at *
   cases x<;>cases y<;>cases z<;>cases u
   all_goals first|have hT:=hT rfl|(have hF:=hF rfl;rw [hF])
   all_goals
    repeat' ((first|(apply y4 ok;rfl)|(refine ⟨_,rfl,?_⟩)|(apply y43;first|omega|(unfold inI;omega))|(apply z4 (ca);rfl;rfl)|(apply z4 (cb);rfl;rfl))<;>conv=>whnf)
    all_goals first|(refine z27 (i+1) ⟨by omega,hT⟩ (by omega) (by refine swR [] [] rfl rfl ?_;(repeat' first|exact y85 _|constructor)))|(refine rsD [] [] rfl ?_;(repeat' first|exact y85 _|constructor))
 ·obtain rfl:i=B.length:=by omega
  rw [z789 fun j hji=>hj j hji]
  repeat' ((first|(apply y4 ok;rfl)|(apply z23;kernel_rfl)|(apply y43;omega)|((first|(with_reducible apply z9;omega)|(with_reducible apply z90;omega));intro _)|((first|apply z6|apply z53|apply z95)<;>intro _))<;>conv=>whnf)
  all_goals first|(exfalso;omega)|(refine rsD [] [] rfl ?_;(repeat' first|exact y85 _|constructor))
theorem z624 (B:List Tree) (U:List Int) (hB:BasL B) (s:Int) (s0:0≤s) (s1:s≤31) (ph u:Nat) (hph:ph < U.length) (hUl:U.length≤100) (e:U.getD ph 0=u) (hu:u < B.length) (hk:(B.getD u dftT).kind=7):CallsA Tryz.prog 190 [.pt [lst 3 Tree.cs' B,ints U],.int s,.int ph] [] (.bool (fulB B s u)) []:=by
 have hl:=hB.len
 have gu:(U.map enI)[ph]?=some (enI u):=by rw [← e,y51,y45 hph,z17 hph];rfl
 have gk:(B.map Tree.cs')[u]?=some (Tree.cs' (B.getD u dftT)):=by rw [y51,y45 hu,z17 hu];rfl
 have hf:=hB.form (x:=B.getD u dftT) (by rw [z17 hu];exact y44 _)
 have d1:=z801 (i:=u) s0 s1 (by omega)
 have e:fulB B s u=(!hasB s u || kidV B s (B.getD u dftT) 1):=rfl
 have hx:(hasB s u=true→((((s / 2 ^ ((u:Int)).toNat).toNat &&& (1:Int).toNat:Nat):Int))=1)∧(hasB s u=false→((((s / 2 ^ ((u:Int)).toNat).toNat &&& (1:Int).toNat:Nat):Int))=0):=by
  have h1:∀ n:Nat,n &&& 1=n % 2:=fun n=>Nat.and_one_is_mod n
  unfold hasB
  constructor
  ·intro h;exact of_decide_eq_true h
  ·intro h
   have:=of_decide_eq_false h
   rw [show (1:Int).toNat=1 from rfl,h1] at *
   omega
 rw [e]
 generalize B.getD u dftT=f at *
 cases hf with
 |«at» v=>simp [Tree.kind] at hk
 |nx a _ _=>simp [Tree.kind] at hk
 |re a b _ _ _ _=>simp [Tree.kind] at hk
 |un a b ha hb sa sb =>
  have cb:=z268 B U hB s s0 s1 b hb sb
  rw [csB2] at gk
  have e2:kidV B s (.mk 7 0 [a,b]) 1=vlB B s b:=by simp [kidV,Tree.kids]
  rw [e2]
  clear e e2
  generalize vlB B s b=y at *
  generalize hasB s u=x at *
  cases x
  ·have hx:=hx.2 rfl
   refine z7 z14 Tryz.func190 rfl rfl 35 Tryz.ntmps190 (by simp) ?_
   repeat' ((first|(apply y4 ok;rfl)|(refine z15 (i:=ph) rfl gu ?_)|(refine z15 (i:=u) rfl gk ?_)|(refine ⟨_,rfl,?_⟩)|(refine y43 (by unfold z150;(rw [y76];omega)) ?_)|(apply y43;omega)|((apply z6)<;>intro _)|(apply z4 (cb);rfl;rfl))<;>conv=>whnf)
   all_goals try (exfalso;omega)
   all_goals (refine rsD [] [] rfl ?_;(repeat' first|exact y85 _|constructor))
  ·have hx:=hx.1 rfl
   refine z7 z14 Tryz.func190 rfl rfl 35 Tryz.ntmps190 (by simp) ?_
   repeat' ((first|(apply y4 ok;rfl)|(refine z15 (i:=ph) rfl gu ?_)|(refine z15 (i:=u) rfl gk ?_)|(refine ⟨_,rfl,?_⟩)|(refine y43 (by unfold z150;(rw [y76];omega)) ?_)|(apply y43;omega)|((apply z6)<;>intro _)|(apply z4 (cb);rfl;rfl))<;>conv=>whnf)
   all_goals try (exfalso;omega)
   all_goals (refine rsD [] [] rfl ?_;(repeat' first|exact y85 _|constructor))
theorem z333 {B:List Tree} {s:Int} (i:Nat):(List.range (i+1)).foldl (atoI B s) (0,0)=atoI B s ((List.range i).foldl (atoI B s) (0,0)) i:=by
 rw [y61,y62];rfl
theorem z533 {c k:Nat} (h:c < 8) (hk:k≤2):c ||| 2 ^ k < 8:=by
 have:k=0∨k=1∨k=2:=by omega
 rcases this with rfl|rfl|rfl<;>exact Nat.or_lt_two_pow (n:=3) h (by decide)
set_option maxHeartbeats 3200000 in
theorem z878 (B:List Tree) (hB:BasL B) (s:Int) (s0:0≤s) (s1:s≤31):CallsA Tryz.prog 230 [lst 3 Tree.cs' B,.int s] [] (.tup [.int (letB B s).1,.int (letB B s).2]) []:=by
 have hl:=hB.len
 refine z7 z14 Tryz.func230 rfl rfl 44 Tryz.ntmps230 (by simp) ?_
 repeat' (((apply y4 ok;rfl))<;>conv=>whnf)
 refine z64 (fun x:Nat×Nat×Nat=>([(0,lst 3 Tree.cs' B),(1,.int s),(6,.int x.2.1),(7,.int x.2.2),(8,.int x.1)],[])) (fun x=>x.1≤B.length∧(List.range x.1).foldl (atoI B s) (0,0)=x.2∧x.2.1 < 8∧x.2.2 < 8) (fun x=>B.length - x.1) (0,0,0) ⟨y53 _,rfl,by decide,by decide⟩ (by refine swR [] [] rfl rfl ?_;(repeat' first|exact y85 _|constructor)) ?_
 rintro ⟨i,c,v⟩ ⟨hi,hf,hc,hv⟩
 dsimp only at hi hf hc hv ⊢
 by_cases hil:i < B.length
 ·have gk:(B.map Tree.cs')[i]?=some (Tree.cs' (B.getD i dftT)):=by rw [y51,y45 hil,z17 hil];rfl
  have hmem:B.getD i dftT∈B:=by rw [z17 hil];exact y44 _
  have hform:=hB.form hmem
  have cw:=z296 s i s0 s1 (by omega) (by omega)
  have hs:=z333 (B:=B) (s:=s) i
  rw [hf] at hs
  unfold atoI at hs
  dsimp only at hs
  by_cases hk:(B.getD i dftT).kind=2
  ·rw [if_pos hk] at hs
   have hvv:∃ a:Nat,(B.getD i dftT).val=a∧a≤2:=by
    generalize B.getD i dftT=f at *
    cases hform with
    |«at» v=>have:=hB.av v hmem;exact ⟨v.toNat,by simp [Tree.val];omega,by omega⟩
    |nx a _ _=>simp [Tree.kind] at hk
    |un a b _ _ _ _=>simp [Tree.kind] at hk
    |re a b _ _ _ _=>simp [Tree.kind] at hk
   obtain ⟨a,ea,ha⟩:=hvv
   have gk2:(B.map Tree.cs')[i]?=some [.int 2,.int a,.list 3 (B.getD i dftT).kids.length ((B.getD i dftT).kids.map Tree.cs)]:=by rw [gk,← hk,← ea];rfl
   have o1:=z533 hc ha
   have o2:=z533 hv ha
   have e:=z933 a (by omega)
   have hp:=z386 (show a < 3 by omega)
   have hw:IntKind.u64.wrap (a:Int)=a:=by
    have:a=0∨a=1∨a=2:=by omega
    rcases this with rfl|rfl|rfl<;>rfl
   rw [ea,y76] at hs
   clear gk hform hmem hk ea
   generalize hasB s i=z at *
   generalize (B.getD i dftT).kids=ks at *
   cases z
   ·rw [if_neg (by simp)] at hs
    repeat' ((first|(apply y4 ok;rfl)|(refine z15 (i:=i) rfl gk2 ?_)|(apply y43;first|omega|(unfold inI;omega))|((apply z6)<;>intro _))<;>conv=>whnf)
    all_goals try (exfalso;omega)
    refine y43 (by rw [e];unfold z150;omega) ?_
    conv=>whnf
    repeat' ((first|(apply y4 ok;rfl)|(apply y43;(unfold inI;omega))|(apply z4 (cw);rfl;rfl))<;>conv=>whnf)
    all_goals refine z27 (i+1,c ||| 2 ^ a,v) ⟨by show i+1≤_;omega,hs,o1,hv⟩ (by show B.length - (i+1) < B.length - i;omega) (by refine swR [] [] rfl rfl ?_;(repeat' first|exact y85 _|constructor)<;>((rw [e];exact y85 _)))
   ·rw [if_pos rfl] at hs
    repeat' ((first|(apply y4 ok;rfl)|(refine z15 (i:=i) rfl gk2 ?_)|(apply y43;first|omega|(unfold inI;omega))|((apply z6)<;>intro _))<;>conv=>whnf)
    all_goals try (exfalso;omega)
    refine y43 (by rw [e];unfold z150;omega) ?_
    conv=>whnf
    repeat' ((first|(apply y4 ok;rfl)|(refine z15 (i:=i) rfl gk2 ?_)|(apply y43;first|omega|(unfold inI;omega))|(apply z4 (cw);rfl;rfl))<;>conv=>whnf)
    refine y43 (by rw [e];unfold z150;omega) ?_
    conv=>whnf
    repeat' ((first|(apply y4 ok;rfl)|(apply y43;(unfold inI;omega)))<;>conv=>whnf)
    all_goals refine z27 (i+1,c ||| 2 ^ a,v ||| 2 ^ a) ⟨by show i+1≤_;omega,hs,o1,o2⟩ (by show B.length - (i+1) < B.length - i;omega) (by refine swR [] [] rfl rfl ?_;(repeat' first|exact y85 _|constructor)<;>((rw [e];exact y85 _)))
  ·rw [if_neg hk] at hs
   generalize B.getD i dftT=f at *
   repeat' ((first|(apply y4 ok;rfl)|(refine z15 (i:=i) rfl gk ?_)|(apply y43;first|omega|(unfold inI;omega))|((apply z6)<;>intro _)|(apply z4 (cw);rfl;rfl))<;>conv=>whnf)
   all_goals try (exfalso;omega)
   all_goals refine z27 (i+1,c,v) ⟨by show i+1≤_;omega,hs,hc,hv⟩ (by show B.length - (i+1) < B.length - i;omega) (by refine swR [] [] rfl rfl ?_;(repeat' first|exact y85 _|constructor))
 ·obtain rfl:i=B.length:=by omega
  have e:letB B s=(c,v):=hf
  rw [e]
  repeat' ((first|(apply y4 ok;rfl)|(apply y43;omega)|(((with_reducible apply z9;omega));intro _)|((apply z6)<;>intro _))<;>conv=>whnf)
  all_goals first|(exfalso;omega)|(refine rsD [] [] rfl ?_;(repeat' first|exact y85 _|constructor))
theorem z1146 (L:List (List Int)) (hL:L.length≤1000) (hr:∀ r∈L,r.length≤1000) (p:List Int) (hp:p.length≤1000):CallsA Tryz.prog 232 [.sref 0 0 L.length,.sref 1 0 p.length] [.cells 1 (L.map encL),.cells 1 (p.map enI)] (.tup [.sref 2 0 (z117 L p).length,.int (z190 L p)]) [.dead,.dead,.cells 1 ((z117 L p).map encL)]:=by
 have hc:∀ i (h:i < L.length),CallsA Tryz.prog 222 [ints L[i],ints p] [] (.bool (decide (L[i]=p))) []:=fun i h=>z545 _ _ (by have:=hr _ (y44 h);unfold maxLen;omega) (by unfold maxLen;omega)
 refine z7 z14 Tryz.func232 rfl rfl 27 Tryz.ntmps232 (by simp) ?_
 refine y84 (Reach.rnm 0 rfl) ?_
 refine y84 (Reach.rnm 1 rfl) ?_
 conv=>whnf
 repeat' (((apply y4 ok;rfl))<;>conv=>whnf)
 refine z64 (fun i:Nat=>([(0,.sref 2 0 L.length),(1,.sref 3 0 p.length),(6,.int i)],[.dead,.dead,.cells 1 (L.map encL),.cells 1 (p.map enI)])) (fun i=>i≤L.length∧∀ j (h:j < L.length),j < i→L[j]≠p) (fun i=>L.length - i) 0 ⟨y53 _,fun j _ h=>absurd h (Nat.not_lt_zero _)⟩ (by refine swR [0,1,2,3] [] rfl rfl ?_;(repeat' first|exact y85 _|exact z12 _|refine z10 rfl (z5 (fun _=>rfl)) ?_|constructor)) ?_
 rintro i ⟨hi,hj⟩
 by_cases hil:i < L.length
 ·have gk:(L.map encL)[i]?=some (encL L[i]):=by rw [y51,y45 hil];rfl
  have c1:=hc i hil
  by_cases he:L[i]=p
  ·have e1:z117 L p=L:=by unfold z117;rw [if_pos (by rw [← he];exact y44 hil)]
   have e2:z190 L p=i:=by
    unfold z190
    have h1:p∈L:=by rw [← he];exact y44 hil
    have h2:=List.idxOf_lt_length_of_mem h1
    have h3:=List.getElem_idxOf h2
    rcases Nat.lt_trichotomy (L.idxOf p) i with h|h|h
    ·exact absurd h3 (hj _ h2 h)
    ·exact h
    ·exfalso
     have:=List.not_of_lt_findIdx (p:=(· == p)) (xs:=L) (i:=i) (by simpa [List.idxOf] using h)
     simp [he] at this
   rw [e1,e2]
   rw [y81 he] at c1
   generalize L[i]=q at *
   repeat' ((first|(apply y4 ok;rfl)|(refine z15 (i:=i) rfl gk ?_)|(apply y43;omega)|((apply z6)<;>intro _)|(apply z80 [] [3] [] c1;(focus ((repeat' first|exact z60|apply z39)<;>first|exact z105 rfl rfl rfl|rfl));rfl;rfl;(focus ((repeat' exact z13)<;>fail));((refine .inr ⟨rfl,?_⟩;repeat' exact True.intro))))<;>conv=>whnf)
   all_goals try (exfalso;omega)
   all_goals (refine rsD [0,1,2] [] rfl ?_;(repeat' first|exact y85 _|exact z12 _|refine z10 rfl (z5 (fun _=>rfl)) ?_|constructor))
  ·rw [y82 he] at c1
   have hj2:∀ j (h:j < L.length),j < i+1→L[j]≠p:=fun j h hji=>by
    rcases y69 j i with h3|h3
    ·exact hj j h h3
    ·obtain rfl:j=i:=by omega
     exact he
   generalize L[i]=q at *
   repeat' ((first|(apply y4 ok;rfl)|(refine z15 (i:=i) rfl gk ?_)|(apply y43;first|omega|(unfold inI;omega))|((apply z6)<;>intro _)|(apply z80 [] [3] [] c1;(focus ((repeat' first|exact z60|apply z39)<;>first|exact z105 rfl rfl rfl|rfl));rfl;rfl;(focus ((repeat' exact z13)<;>fail));((refine .inr ⟨rfl,?_⟩;repeat' exact True.intro))))<;>conv=>whnf)
   all_goals try (exfalso;omega)
   all_goals refine z27 (i+1) ⟨by omega,hj2⟩ (by omega) (by refine swR [0,1,2,3] [] rfl rfl ?_;(repeat' first|exact y85 _|exact z12 _|refine z10 rfl (z5 (fun _=>rfl)) ?_|constructor))
 ·have hn:p ∉ L:=fun h=>by
   obtain ⟨j,hjl,e⟩:=List.mem_iff_getElem.1 h
   exact hj j hjl (by omega) e
  have e1:z117 L p=L++[p]:=by unfold z117;rw [if_neg hn]
  have e2:z190 L p=L.length:=by unfold z190;exact List.idxOf_eq_length hn
  rw [e1,e2]
  obtain rfl:i=L.length:=by omega
  repeat' ((first|(apply y4 ok;rfl)|(apply y43;first|omega|((try dsimp only);simp only [y49,y48,y47,y46,y57,y58];omega)|exact ⟨rfl,z21 rfl z31⟩)|(((apply z9;omega));intro _)|((apply z6)<;>intro _))<;>conv=>whnf)
  all_goals try (exfalso;omega)
  all_goals (refine rsD [0,1,5] [3] rfl ?_;(repeat' first|exact y85 _|(refine z45 ?_;((simp;done)))|((refine z43 rfl ?_ ?_);(focus ((repeat' (first|exact z5 (fun _=>rfl)|apply z28));done)))|(refine z68 ?_ ?_;(focus (omega)))|((apply z203 rfl rfl rfl);(focus ((repeat ((exact z24 (fun _=>rfl) _)));done));(focus (((simp;done));done)))|apply z71|constructor))
end Go.Proofs.YtnfoijopccdjeaaGreat
