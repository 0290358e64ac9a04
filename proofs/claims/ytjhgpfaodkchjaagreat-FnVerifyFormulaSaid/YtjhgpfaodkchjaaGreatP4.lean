/- A part of the proofs over this program: T144, T225, T145, T180, T226, T146, T147, T227, T148, T149, T228, T229. -/
import Derived.Test.YtjhgpfaodkchjaaGreatP3
set_option linter.all false
namespace Go.Proofs.YtjhgpfaodkchjaaGreat
open Go.Gl Proofs.Tryz
attribute [local irreducible] z18 AWP z31 z35 z34 RetS z45
theorem z392 (t:Tree) (hs:t.sz≤1000):QQ 158 [z27 Tree.cs' t] [] (.tup [z27 Tree.cs' (if t.fmB=true∧(t.nrm false).fmB=true then t.nrm false else dftT),.bool (decide (t.fmB=true∧(t.nrm false).fmB=true))]) []:=by
 have cv:=z141 t (z101 t (by unfold maxLen;omega))
 by_cases h1:t.fmB=true
 ·have hg:=y24 h1
  have cp:=z1192 t hg false
  have hz:=y29 t hg false
  have cw:=z141 (t.nrm false) (z101 _ (by unfold maxLen;omega))
  rw [h1] at cv ⊢
  generalize t.nrm false=u at *
  by_cases h2:u.fmB=true
  ·rw [h2] at cw ⊢
   rw [if_pos ⟨rfl,rfl⟩,y82 ⟨rfl,rfl⟩]
   rw [y15 t] at cv cp ⊢
   rw [y15 u] at cp cw ⊢
   refine z7 z15 func158 rfl rfl 16 ntmps158 (by simp) ?_
   repeat' ((first|apply y4 ok;rfl|apply z4 cv;rfl;rfl|apply z4 cp;rfl;rfl|apply z4 cw;rfl;rfl)<;>conv=>whnf)
   all_goals (refine rsD [] [] rfl ?_;(repeat' first|exact y86 _|constructor))
  ·rw [if_neg (fun h=>h2 h.2),y83 (fun h=>h2 h.2)]
   rw [(y72 _).mp h2] at cw
   rw [y15 t] at cv cp ⊢
   rw [y15 u] at cp cw
   refine z7 z15 func158 rfl rfl 16 ntmps158 (by simp) ?_
   repeat' ((first|apply y4 ok;rfl|apply z4 cv;rfl;rfl|apply z4 cp;rfl;rfl|apply z4 cw;rfl;rfl)<;>conv=>whnf)
   all_goals (refine rsD [] [] rfl ?_;(repeat' first|exact y86 _|exact z43|apply z41|apply z80|constructor))
 ·rw [if_neg (fun h=>h1 h.1),y83 (fun h=>h1 h.1)]
  rw [(y72 _).mp h1] at cv
  rw [y15 t] at cv ⊢
  refine z7 z15 func158 rfl rfl 16 ntmps158 (by simp) ?_
  repeat' ((first|apply y4 ok;rfl|apply z4 cv;rfl;rfl)<;>conv=>whnf)
  all_goals (refine rsD [] [] rfl ?_;(repeat' first|exact y86 _|exact z43|apply z41|apply z80|constructor))
theorem z1214 (a:Tree):a.mx→∀ b:Tree,b.mx→QQ 278 [z27 Tree.cs' a,z27 Tree.cs' b] [] (.bool (decide (a=b))) []:=by
 induction a using y27 with|h a ih=>?_
 intro ha b hb
 rw [y28] at ha hb
 have hal:=ha.1
 have hbl:=hb.1
 unfold maxLen at hal hbl
 rw [y15,y15]
 by_cases hk:a.kind=b.kind∧a.val=b.val∧a.kids.length=b.kids.length
 ·obtain ⟨k1,k2,k3⟩:=hk
  have hiff:(a=b)↔∀ i (h:i < a.kids.length) (h2:i < b.kids.length),a.kids[i]=b.kids[i]:=⟨fun e=>by subst e;exact fun _ _ _=>rfl,fun h=>Tree.ext k1 k2 (y75 k3 h)⟩
  have hc:∀ i (h:i < a.kids.length) (h2:i < b.kids.length),QQ 278 [z27 Tree.cs' a.kids[i],z27 Tree.cs' b.kids[i]] [] (.bool (decide (a.kids[i]=b.kids[i]))) []:=fun i h h2=>ih _ (y44 _) (ha.2 _ (y44 _)) _ (hb.2 _ (y44 _))
  clear ih
  have hT:(∀ i (h:i < a.kids.length) (h2:i < b.kids.length),a.kids[i]=b.kids[i])→decide (a=b)=true:=fun h=>y82 (hiff.2 h)
  have hF:∀ i (h:i < a.kids.length) (h2:i < b.kids.length),a.kids[i]≠b.kids[i]→decide (a=b)=false:=fun i h h2 hne=>y83 fun e=>hne (hiff.1 e i h h2)
  generalize decide (a=b)=D at *
  clear hiff
  generalize a.kids=A at *
  generalize b.kids=B at *
  refine z7 z15 func278 rfl rfl 46 ntmps278 (by simp) ?_
  repeat' ((first|apply y4 ok;rfl|apply z42<;>intro _)<;>conv=>whnf)
  all_goals try (exfalso;omega)
  refine z64 (fun i:Nat=>([(2,.ptr 0 none 0),(3,.ptr 1 none 0),(5,.int i)],[.cells 3 [[.int a.kind,.int a.val,lst 3 Tree.cs' A]],.cells 3 [[.int b.kind,.int b.val,lst 3 Tree.cs' B]]])) (fun i=>i≤A.length∧∀ j (h:j < A.length) (h2:j < B.length),j < i→A[j]=B[j]) (fun i=>A.length - i) 0 ⟨y53 _,fun j _ _ h=>absurd h (Nat.not_lt_zero _)⟩ (by refine swR [0,1] [] rfl rfl ?_;(repeat' first|exact y86 _|apply y87|constructor)) ?_
  rintro i ⟨hi,hj⟩
  by_cases hil:i < A.length
  ·have hil2:i < B.length:=by omega
   have c1:=hc i hil hil2
   have gA:(A.map Tree.cs')[i]?=some (Tree.cs' A[i]):=by rw [y51,y45 hil];rfl
   have gB:(B.map Tree.cs')[i]?=some (Tree.cs' B[i]):=by rw [y51,y45 hil2];rfl
   by_cases he:A[i]=B[i]
   ·rw [y82 he] at c1
    have hj2:∀ j (h:j < A.length) (h2:j < B.length),j < i+1→A[j]=B[j]:=fun j h h2 hji=>by
     rcases y70 j i with h3|h3
     ·exact hj j h h2 h3
     ·obtain rfl:j=i:=by omega
      exact he
    generalize A[i]=x at *
    generalize B[i]=y at *
    repeat' ((first|apply y4 ok;rfl|apply z23;kernel_rfl|refine z13 (i:=i) rfl gA ?_|refine z13 (i:=i) rfl gB ?_|(apply y43;first|omega|unfold inI;omega)|apply z6<;>intro _|apply z4 c1;rfl;rfl)<;>conv=>whnf)
    all_goals try (exfalso;omega)
    all_goals refine z24 (i+1) ⟨by omega,hj2⟩ (by omega) (by refine swR [0,1] [] rfl rfl ?_;(repeat' first|exact y86 _|apply y87|constructor))
   ·rw [y83 he] at c1
    have hD:=hF i hil hil2 he
    subst hD
    generalize A[i]=x at *
    generalize B[i]=y at *
    repeat' ((first|apply y4 ok;rfl|apply z23;kernel_rfl|refine z13 (i:=i) rfl gA ?_|refine z13 (i:=i) rfl gB ?_|apply y43;omega|apply z6<;>intro _|apply z4 c1;rfl;rfl)<;>conv=>whnf)
    all_goals try (exfalso;omega)
    all_goals (refine rsD [] [] rfl ?_;(repeat' first|exact y86 _|constructor))
  ·have hD:=hT (fun j h h2=>hj j h h2 (by omega))
   subst hD
   repeat' ((first|apply y4 ok;rfl|apply y43;omega|((with_reducible apply z8;omega));intro _|apply z6<;>intro _)<;>conv=>whnf)
   all_goals try (exfalso;omega)
   all_goals (refine rsD [] [] rfl ?_;(repeat' first|exact y86 _|constructor))
 ·rw [y83 (fun e=>hk (by subst e;exact ⟨rfl,rfl,rfl⟩))]
  clear ih
  refine z7 z15 func278 rfl rfl 46 ntmps278 (by simp) ?_
  repeat' ((first|apply y4 ok;rfl|apply z42<;>intro _)<;>conv=>whnf)
  all_goals first|exfalso;omega|refine rsD [] [] rfl ?_;(repeat' first|exact y86 _|constructor)
theorem z779 (l:List Tree) (hl:l.length≤1000000) (hm:∀ t∈l,t.mx) (t:Tree) (ht:t.mx):QQ 239 [lst 3 Tree.cs' l,z27 Tree.cs' t] [] (.int (idxF (fun x=>decide (x=t)) l)) []:=by
 have hc:∀ i (h:i < l.length),QQ 278 [z27 Tree.cs' l[i],z27 Tree.cs' t] [] (.bool (decide (l[i]=t))) []:=fun i h=>z1214 _ (hm _ (y44 _)) _ ht
 rw [y15 t] at *
 refine z7 z15 func239 rfl rfl 19 ntmps239 (by simp) ?_
 repeat' (((apply y4 ok;rfl))<;>conv=>whnf)
 refine z64 (fun i:Nat=>([(0,lst 3 Tree.cs' l),(3,.ptr 0 none 0),(5,.int i)],[.cells 3 [[.int t.kind,.int t.val,lst 3 Tree.cs' t.kids]]])) (fun i=>i≤l.length∧∀ j (h:j < l.length),j < i→decide (l[j]=t)=false) (fun i=>l.length - i) 0 ⟨y53 _,fun j _ h=>absurd h (Nat.not_lt_zero _)⟩ (by refine swR [0] [] rfl rfl ?_;(repeat' first|exact y86 _|apply y87|constructor)) ?_
 rintro i ⟨hi,hj⟩
 by_cases hil:i < l.length
 ·have c1:=hc i hil
  have gl:(l.map Tree.cs')[i]?=some (Tree.cs' l[i]):=by rw [y51,y45 hil];rfl
  by_cases he:l[i]=t
  ·have e:idxF (fun x=>decide (x=t)) l=i:=z182 hil (y82 he) fun j h h2=>hj j h h2
   rw [e]
   rw [y82 he] at c1
   generalize l[i]=x at *
   repeat' ((first|apply y4 ok;rfl|apply z23;kernel_rfl|refine z13 (i:=i) rfl gl ?_|apply y43;omega|apply z6<;>intro _|apply z4 c1;rfl;rfl)<;>conv=>whnf)
   all_goals try (exfalso;omega)
   all_goals (refine rsD [] [] rfl ?_;(repeat' first|exact y86 _|constructor))
  ·have hj2:∀ j (h:j < l.length),j < i+1→decide (l[j]=t)=false:=fun j h hji=>by
    rcases y70 j i with h3|h3
    ·exact hj j h h3
    ·obtain rfl:j=i:=by omega
     exact y83 he
   rw [y83 he] at c1
   generalize l[i]=x at *
   repeat' ((first|apply y4 ok;rfl|apply z23;kernel_rfl|refine z13 (i:=i) rfl gl ?_|(apply y43;first|omega|unfold inI;omega)|apply z6<;>intro _|apply z4 c1;rfl;rfl)<;>conv=>whnf)
   all_goals try (exfalso;omega)
   all_goals refine z24 (i+1) ⟨by omega,hj2⟩ (by omega) (by refine swR [0] [] rfl rfl ?_;(repeat' first|exact y86 _|apply y87|constructor))
 ·have e:idxF (fun x=>decide (x=t)) l=-1:=z157 fun j h=>hj j h (by omega)
  rw [e]
  repeat' ((first|apply y4 ok;rfl|apply y43;omega|((with_reducible apply z8;omega));intro _|apply z6<;>intro _)<;>conv=>whnf)
  all_goals try (exfalso;omega)
  all_goals (refine rsD [] [] rfl ?_;(repeat' first|exact y86 _|constructor))
theorem z619 (t:Tree) (hg:t.goodF) (hs:t.sz≤1000):QQ 146 [z27 Tree.cs' t] [] (.tup [z27 Tree.cs' (if (t.nrm false).fmB=true then t.nrm false else dftT),.bool (t.nrm false).fmB]) []:=by
 have cp:=z1164 t hg false
 have hz:=y29 t hg false
 have cw:=z122 (t.nrm false) (z101 _ (by unfold maxLen;omega))
 generalize t.nrm false=u at *
 rw [y15 t] at *
 rw [y15 u] at *
 by_cases h2:u.fmB=true
 ·rw [if_pos h2,h2,y15 u]
  rw [h2] at cw
  refine z7 z15 func146 rfl rfl 12 ntmps146 (by simp) ?_
  repeat' ((first|apply y4 ok;rfl|apply z4 cp;rfl;rfl|apply z4 cw;rfl;rfl)<;>conv=>whnf)
  all_goals (refine rsD [] [] rfl ?_;(repeat' first|exact y86 _|constructor))
 ·rw [if_neg h2,(y72 _).mp h2]
  rw [(y72 _).mp h2] at cw
  refine z7 z15 func146 rfl rfl 12 ntmps146 (by simp) ?_
  repeat' ((first|apply y4 ok;rfl|apply z4 cp;rfl;rfl|apply z4 cw;rfl;rfl)<;>conv=>whnf)
  all_goals (refine rsD [] [] rfl ?_;(repeat' first|exact y86 _|exact z43|apply z41|apply z80|constructor))
theorem z1201 (t:Tree) (hs:t.sz≤1000):QQ 227 [z27 Tree.cs' t] [] (.tup [z27 Tree.cs' (if t.fmB=true∧(t.nrm false).fmB=true then t.nrm false else dftT),.bool (decide (t.fmB=true∧(t.nrm false).fmB=true))]) []:=by
 have cv:=z122 t (z101 t (by unfold maxLen;omega))
 by_cases h1:t.fmB=true
 ·have cn:=z619 t (y24 h1) hs
  have e:(if t.fmB=true∧(t.nrm false).fmB=true then t.nrm false else dftT)=if (t.nrm false).fmB=true then t.nrm false else dftT:=by simp only [h1,true_and]
  have e2:decide (t.fmB=true∧(t.nrm false).fmB=true)=(t.nrm false).fmB:=by simp [h1]
  rw [e,e2]
  rw [h1] at cv
  clear e e2
  generalize (if (t.nrm false).fmB=true then t.nrm false else dftT)=u at *
  generalize (t.nrm false).fmB=b at *
  rw [y15 t] at cv cn ⊢
  rw [y15 u] at cn ⊢
  refine z7 z15 func227 rfl rfl 12 ntmps227 (by simp) ?_
  repeat' ((first|apply y4 ok;rfl|apply z4 cv;rfl;rfl|apply z4 cn;rfl;rfl)<;>conv=>whnf)
  all_goals (refine rsD [] [] rfl ?_;(repeat' first|exact y86 _|constructor))
 ·rw [if_neg (fun h=>h1 h.1),y83 (fun h=>h1 h.1)]
  rw [(y72 _).mp h1] at cv
  rw [y15 t] at cv ⊢
  refine z7 z15 func227 rfl rfl 12 ntmps227 (by simp) ?_
  repeat' ((first|apply y4 ok;rfl|apply z4 cv;rfl;rfl)<;>conv=>whnf)
  all_goals (refine rsD [] [] rfl ?_;(repeat' first|exact y86 _|exact z43|apply z41|apply z80|constructor))
theorem z877 (t:Tree) (hg:t.goodF) (hs:t.sz≤1000):QQ 144 [z27 Tree.cs' t] [] (z27 Tree.cs' (negT t)) []:=by
 by_cases hk:t.kind=3
 ·have hf:=y22 hg
  cases hf with
  |tr=>simp [Tree.kind] at hk
  |«at» v _ _=>simp [Tree.kind] at hk
  |bin k a b hk2 _ _=>simp only [Tree.kind] at hk;omega
  |un k a _ _ =>
   simp only [Tree.kind] at hk
   subst hk
   have e:negT (.mk 3 0 [a])=a:=by simp [negT,Tree.kind,Tree.kids]
   rw [z339] at hs
   have cc:=z705 a (by omega)
   rw [e,argU 3 0 a]
   refine z7 z15 func144 rfl rfl 15 ntmps144 (by simp) ?_
   repeat' ((first|apply y4 ok;rfl|refine ⟨_,rfl,?_⟩|apply y43;omega|apply z4 cc;rfl;rfl)<;>conv=>whnf)
   all_goals (refine rsD [] [] rfl ?_;(repeat' first|exact y86 _|constructor))
 ·have e:negT t=notT t:=if_neg hk
  have cc:=z705 t (by omega)
  have cf:=z131 3 [t] (by simp)
  rw [e]
  unfold notT
  rw [argU]
  refine z7 z15 func144 rfl rfl 15 ntmps144 (by simp) ?_
  repeat' ((first|apply y4 ok;rfl|apply y43;omega|((with_reducible apply z52;omega));intro _|(first|apply z6|apply z82)<;>intro _|apply z4 cc;rfl;rfl|apply z11 [2] [] cf;rfl;rfl;rfl;(focus ((repeat' first|exact z17|apply z16)<;>exact z117)))<;>conv=>whnf)
  all_goals first|exfalso;omega|refine rsD [] [] rfl ?_;(repeat' first|exact y86 _|constructor)
def ngB (t:Tree):Bool:=t.fmB && (negT t).fmB
def ngT (t:Tree):Tree:=if ngB t=true then negT t else dftT
theorem ngT_sz (t:Tree):(ngT t).sz≤t.sz+1:=by
 unfold ngT
 split
 ·exact z878 t
 ·simp [dftT,z502]
theorem z693 (t:Tree) (hm:t.mx):QQ 72 [z27 Tree.cs' t] [] (.tup [z27 Tree.cs' (ngT t),.bool (ngB t)]) []:=by
 have cv:=z122 t hm
 have hz:=z878 t
 unfold ngT ngB
 by_cases h1:t.fmB=true
 ·have hs:=fm_sz h1
  have cn:=z877 t (y24 h1) (by omega)
  have cw:=z122 (negT t) (z101 _ (by unfold maxLen;omega))
  rw [h1,Bool.true_and]
  rw [h1] at cv
  generalize negT t=u at *
  by_cases h2:u.fmB=true
  ·rw [if_pos h2,h2]
   rw [h2] at cw
   rw [y15 t] at cv cn ⊢
   rw [y15 u] at cw cn ⊢
   refine z7 z15 func72 rfl rfl 16 ntmps72 (by simp) ?_
   repeat' ((first|apply y4 ok;rfl|apply z4 cv;rfl;rfl|apply z4 cn;rfl;rfl|apply z4 cw;rfl;rfl)<;>conv=>whnf)
   all_goals (refine rsD [] [] rfl ?_;(repeat' first|exact y86 _|constructor))
  ·rw [if_neg h2,(y72 _).mp h2]
   rw [(y72 _).mp h2] at cw
   rw [y15 t] at cv cn ⊢
   rw [y15 u] at cw cn
   refine z7 z15 func72 rfl rfl 16 ntmps72 (by simp) ?_
   repeat' ((first|apply y4 ok;rfl|apply z4 cv;rfl;rfl|apply z4 cn;rfl;rfl|apply z4 cw;rfl;rfl)<;>conv=>whnf)
   all_goals (refine rsD [] [] rfl ?_;(repeat' first|exact y86 _|exact z43|apply z41|apply z80|constructor))
 ·rw [(y72 _).mp h1,Bool.false_and,if_neg (by simp)]
  rw [(y72 _).mp h1] at cv
  rw [y15 t] at cv ⊢
  refine z7 z15 func72 rfl rfl 16 ntmps72 (by simp) ?_
  repeat' ((first|apply y4 ok;rfl|apply z4 cv;rfl;rfl)<;>conv=>whnf)
  all_goals (refine rsD [] [] rfl ?_;(repeat' first|exact y86 _|exact z43|apply z41|apply z80|constructor))
theorem z656 (t:Tree) (hm:t.mx):QQ 79 [z27 Tree.cs' t] [] (.tup [z27 Tree.cs' (ngT t),.bool (ngB t)]) []:=by
 have cv:=z141 t hm
 have hz:=z878 t
 unfold ngT ngB
 by_cases h1:t.fmB=true
 ·have hs:=fm_sz h1
  rw [h1,Bool.true_and]
  by_cases hk:t.kind=3
  ·obtain ⟨a,v,rfl,ha⟩:=fm_kid h1 hk
   have e:negT (.mk 3 v [a])=a:=by simp [negT,Tree.kind,Tree.kids]
   rw [e,if_pos ha,ha]
   rw [h1] at cv
   rw [z339] at hs
   have cc:=z263 (z324 a (by omega))
   rw [argU] at cv ⊢
   refine z7 z15 func79 rfl rfl 25 ntmps79 (by simp) ?_
   repeat' ((first|apply y4 ok;rfl|refine ⟨_,rfl,?_⟩|apply y43;omega|apply z4 cv;rfl;rfl|apply z4 cc;rfl;rfl)<;>conv=>whnf)
   all_goals (refine rsD [] [] rfl ?_;(repeat' first|exact y86 _|constructor))
  ·have e:negT t=notT t:=if_neg hk
   have cc:=z263 (z324 t (by omega))
   have cn:=z480 t
   have cw:=z141 (notT t) (z101 _ (by rw [← e];unfold maxLen;omega))
   rw [h1] at cv
   rw [e]
   generalize notT t=u at *
   by_cases h2:u.fmB=true
   ·rw [if_pos h2,h2]
    rw [h2] at cw
    rw [y15 t] at cv cn cc ⊢
    rw [y15 u] at cw cn ⊢
    refine z7 z15 func79 rfl rfl 25 ntmps79 (by simp) ?_
    repeat' ((first|apply y4 ok;rfl|apply y43;omega|((with_reducible apply z52;omega));intro _|apply z6<;>intro _|apply z4 cv;rfl;rfl|apply z4 cc;rfl;rfl|apply z4 cn;rfl;rfl|apply z4 cw;rfl;rfl)<;>conv=>whnf)
    all_goals first|exfalso;omega|refine rsD [] [] rfl ?_;(repeat' first|exact y86 _|constructor)
   ·rw [if_neg h2,(y72 _).mp h2]
    rw [(y72 _).mp h2] at cw
    rw [y15 t] at cv cn cc ⊢
    rw [y15 u] at cw cn
    refine z7 z15 func79 rfl rfl 25 ntmps79 (by simp) ?_
    repeat' ((first|apply y4 ok;rfl|apply y43;omega|((with_reducible apply z52;omega));intro _|apply z6<;>intro _|apply z4 cv;rfl;rfl|apply z4 cc;rfl;rfl|apply z4 cn;rfl;rfl|apply z4 cw;rfl;rfl)<;>conv=>whnf)
    all_goals first|exfalso;omega|refine rsD [] [] rfl ?_;(repeat' first|exact y86 _|exact z43|apply z41|apply z80|constructor)
 ·rw [(y72 _).mp h1,Bool.false_and,if_neg (by simp)]
  rw [(y72 _).mp h1] at cv
  rw [y15 t] at cv ⊢
  refine z7 z15 func79 rfl rfl 25 ntmps79 (by simp) ?_
  repeat' ((first|apply y4 ok;rfl|apply z4 cv;rfl;rfl)<;>conv=>whnf)
  all_goals (refine rsD [] [] rfl ?_;(repeat' first|exact y86 _|exact z43|apply z41|apply z80|constructor))
theorem z1194 (t:Tree) (h:t.sz≤1000000):QQ 103 [z27 Tree.cs' t] [] (z27 Tree.cs' t) []:=z263 (z324 t h)
set_option maxHeartbeats 3200000 in
theorem z1191 (t:Tree):t.sz≤1000→∀ (o:List Tree),o.length+t.sz≤2000→(∀ x∈o,x.sz≤1000)→QQ 236 [.sref 0 0 o.length,z27 Tree.cs' t] [.cells 3 (o.map Tree.cs')] (.sref 1 0 (t.subs o).length) [.dead,.cells 3 ((t.subs o).map Tree.cs')]:=by
 induction t using y27 with|h t ih=>?_
 intro hs o ho hm
 have hsz:=y38 t
 have hkid:∀ k (h:k < t.kids.length),t.kids[k].sz≤1000:=fun k h=>by have:=z349 Tree.sz (y44 h);omega
 have hpre:∀ k,k≤t.kids.length→(Tree.subss (t.kids.take k) o).length≤o.length+((t.kids.take k).map fun u=>u.sz+1).sum∧∀ x∈Tree.subss (t.kids.take k) o,x.sz≤1000:=by
  intro k
  induction k with
  |zero=>intro _;exact ⟨by simp [Tree.subss],hm⟩
  |succ k ihk =>
   intro hk
   obtain ⟨a1,a2⟩:=ihk (by omega)
   obtain ⟨_,_,_,b4,b5,_⟩:=z198 t.kids[k] (Tree.subss (t.kids.take k) o)
   rw [y37 (by omega)]
   refine ⟨?_,fun x hx=>?_⟩
   ·rw [y50 (by omega),y64,List.sum_append]
    simp only [List.map_cons,List.map_nil,List.sum_cons,List.sum_nil]
    omega
   ·rcases b5 x hx with h|h
    ·exact a2 x h
    ·have:=hkid k (by omega);omega
 have hsum:∀ k,k≤t.kids.length→((t.kids.take k).map fun u=>u.sz+1).sum≤t.sz:=fun k hk=>by
  have h1:∀ l:List Tree,(l.map fun u=>u.sz+1).sum=l.length+(l.map Tree.sz).sum:=by
   intro l
   induction l with
   |nil=>rfl
   |cons a l ih=>simp only [List.map_cons,List.sum_cons,y58,ih];omega
  have h2:=z503 Tree.sz t.kids k
  rw [h1,y48];omega
 rw [y15 t,y35]
 have hl5:t.kids.length≤1000:=by omega
 have hfs:(∀ x∈Tree.subss t.kids o,x.sz≤1000):=by have:=(hpre t.kids.length (y52 _)).2;rwa [y56] at this
 have hfl:(Tree.subss t.kids o).length≤2000:=by have h1:=(hpre t.kids.length (y52 _)).1;have h2:=hsum t.kids.length (y52 _);rw [y56] at h1 h2;omega
 have cF:=z779 (Tree.subss t.kids o) (by omega) (fun x hx=>z101 x (by have:=hfs x hx;unfold maxLen;omega)) t (z101 t (by unfold maxLen;omega))
 have cC:=z1194 t (by omega)
 have hidx:=z218 (fun x=>decide (x=t)) (Tree.subss t.kids o)
 refine z7 z15 func236 rfl rfl 30 ntmps236 (by simp) ?_
 refine y85 (Reach.rnm 0 rfl) ?_
 conv=>whnf
 repeat' (((apply y4 ok;rfl))<;>conv=>whnf)
 refine z64 (fun x:Nat×List Tree=>([(0,.sref 1 0 x.2.length),(3,.ptr 2 none 0),(5,.int x.1)],[.dead,.cells 3 (x.2.map Tree.cs'),.cells 3 [[.int t.kind,.int t.val,lst 3 Tree.cs' t.kids]]])) (fun x=>x.1≤t.kids.length∧Tree.subss (t.kids.take x.1) o=x.2) (fun x=>t.kids.length - x.1) (0,o) ⟨y53 _,by simp [Tree.subss]⟩ (by refine swR [0,1,2] [] rfl rfl ?_;(repeat' first|exact y86 _|exact z10 _|apply y87|refine z9 rfl (z5 (fun _=>rfl)) ?_|constructor)) ?_
 rintro ⟨i,q⟩ ⟨hi,hq⟩
 dsimp only at hi hq ⊢
 obtain ⟨p1,p2⟩:=hpre i hi
 have p3:=hsum i hi
 rw [hq] at p1 p2
 have hql:q.length≤2000:=by omega
 by_cases hil:i < t.kids.length
 ·have ci:=ih t.kids[i] (y44 _) (hkid i hil) q (by
   have h1:=hsum (i+1) (by omega)
   rw [y50 hil,y64,List.sum_append] at h1
   simp only [List.map_cons,List.map_nil,List.sum_cons,List.sum_nil] at h1
   omega) p2
  have ht:=y37 hil o
  rw [hq] at ht
  have gk:(t.kids.map Tree.cs')[i]?=some (Tree.cs' t.kids[i]):=by rw [y51,y45 hil];rfl
  clear ih cF hidx
  generalize t.kids[i]=u at *
  generalize u.subs q=q' at *
  repeat' ((first|apply y4 ok;rfl|refine z13 (i:=i) rfl gk ?_|(apply y43;first|omega|unfold inI;omega)|apply z6<;>intro _|apply z124 [1] [3] ci;rfl;(focus ((repeat' first|exact z38|apply z48)<;>(refine z65 rfl ?_;((exact z5 fun _=>rfl)))));rfl;(focus ((repeat' first|exact z17|apply z16)<;>first|exact z117|refine z20 ?_;((exact z5 fun _=>rfl)))))<;>conv=>whnf)
  all_goals try (exfalso;omega)
  all_goals refine z24 (i+1,q') ⟨by show i+1≤_;omega,ht⟩ (by show t.kids.length - (i+1) < t.kids.length - i;omega) (by refine swR [0,3,2] [] rfl rfl ?_;(repeat' first|exact y86 _|exact z10 _|apply y87|refine z9 rfl (z5 (fun _=>rfl)) ?_|constructor))
 ·obtain rfl:i=t.kids.length:=by omega
  rw [y56] at hq
  rw [hq] at cF hidx ⊢
  unfold addT
  by_cases hin:t∈q
  ·rw [if_pos hin]
   have hx:0≤idxF (fun x=>decide (x=t)) q:=by
    rw [List.any_eq_true.2 ⟨t,hin,by simp⟩] at hidx
    exact of_decide_eq_true hidx
   generalize idxF (fun x=>decide (x=t)) q=z at *
   rw [y15 t] at cF
   repeat' ((first|apply y4 ok;rfl|apply y43;omega|((with_reducible apply z8;omega));intro _|apply z6<;>intro _|apply z99 [] [1] [] cF;(focus (exact z44 (z161 rfl rfl rfl (by simp) (z30 (fun _=>rfl) _)) (z44 rfl z69)));rfl;rfl;(focus ((repeat' exact z17)<;>fail));((refine .inr ⟨rfl,?_⟩;repeat' exact True.intro)))<;>conv=>whnf)
   all_goals try (exfalso;omega)
   all_goals (refine rsD [0,1] [] rfl ?_;(repeat' first|exact y86 _|exact z10 _|refine z9 rfl (z5 (fun _=>rfl)) ?_|constructor))
  ·rw [if_neg hin]
   have hx:¬ 0≤idxF (fun x=>decide (x=t)) q:=fun h=>by
    rw [y82 h] at hidx
    obtain ⟨x,h1,h2⟩:=List.any_eq_true.1 hidx.symm
    rw [of_decide_eq_true h2] at h1
    exact hin h1
   generalize idxF (fun x=>decide (x=t)) q=z at *
   rw [y15 t] at cC cF
   repeat' ((first|apply y4 ok;rfl|(apply y43;first|omega|(try dsimp only);simp only [y49,y48,y47,y46,y58,y59];omega|exact ⟨rfl,z22 rfl z28⟩)|((with_reducible apply z8;omega));intro _|apply z6<;>intro _|apply z4 cC;rfl;rfl|apply z99 [] [1] [] cF;(focus (exact z44 (z161 rfl rfl rfl (by simp) (z30 (fun _=>rfl) _)) (z44 rfl z69)));rfl;rfl;(focus ((repeat' exact z17)<;>fail));((refine .inr ⟨rfl,?_⟩;repeat' exact True.intro)))<;>conv=>whnf)
   all_goals try (exfalso;omega)
   all_goals (refine rsD [0,4] [] rfl ?_;(repeat' first|exact y86 _|exact z280|refine z50 ?_;((simp;done))|(refine z39 rfl ?_ ?_);(focus ((repeat' (first|exact z5 (fun _=>rfl)|apply z26));done))|refine z86 ?_ ?_;(focus omega)|apply z75;rfl|constructor))
def fnL (N:Nat) (f:Nat→Int):List Int:=(List.range N).map f
theorem z140 (N:Nat) (f:Nat→Int):(fnL N f).length=N:=by simp [fnL]
theorem z190 {N u:Nat} (f:Nat→Int) (h:u < N):((fnL N f).map enI)[u]?=some (enI (f u)):=by
 unfold fnL
 rw [y51,y51,List.getElem?_range h];rfl
theorem fnL_set {N u:Nat} (f:Nat→Int) (x:Int):(fnL N f).set u x=fnL N (upd f u x):=by
 apply y75 (by simp [fnL])
 intro i h1 h2
 rw [List.getElem_set]
 simp only [fnL,List.getElem_map,List.getElem_range]
 split
 ·rename_i e;subst e;rw [z36]
 ·rename_i e;rw [z56 _ _ (fun h=>e h.symm)]
theorem z175 {N u:Nat} (f:Nat→Int) (x:Int):((fnL N f).map enI).set u (enI x)=(fnL N (upd f u x)).map enI:=by rw [← fnL_set,List.map_set]
def natL (l:List Nat):List Int:=l.map fun x:Nat=>(x:Int)
theorem z476 (l:List Nat):(natL l).length=l.length:=by simp [natL]
theorem natL_at {l:List Nat} {i:Nat} (h:i < l.length):((natL l).map enI)[i]?=some (enI (l[i]:Nat)):=by
 unfold natL
 rw [y51,y51,y45 h];rfl
theorem z600 {rows:List (List Int)} {u:Nat} (h:u < rows.length):(rows.map encL)[u]?=some (encL (rows.getD u [])):=by
 rw [y51,y45 h,z14 h];rfl
@[reducible] def visF:AC:=.fn (.func 280) [] [.ptr 0 none 0,.ptr 1 none 0,.ptr 3 none 0,.ptr 5 none 0,.ptr 6 none 0,.ptr 7 none 0,.ptr 8 none 0,.ptr 10 none 0]
@[reducible] def z1160 (rows:List (List Int)) (s:TS):List AObj:=[.cells 1 [[.int s.cnt]],.cells 1 [[.sref 2 0 rows.length]],.cells 1 ((fnL rows.length s.num).map enI),.cells 1 [[.sref 4 0 rows.length]],.cells 1 ((fnL rows.length s.low).map enI),.cells 1 [[.own 1 ((natL s.stk).map enI)]],.cells 1 [[lst 1 encL rows]],.cells 1 [[visF]],.cells 1 [[.sref 9 0 rows.length]],.cells 1 ((fnL rows.length s.part).map enI),.cells 1 [[.int s.prt]]]
set_option maxHeartbeats 12800000 in
theorem z1002 (rows : List (List Int)) (hr : ∀ r ∈ rows, InN rows.length r) (hN : rows.length ≤ 100000) (hrl : ∀ r ∈ rows, r.length ≤ 1000000000) : ∀ (f : Nat) (s : TS) (g : List Nat) (u : Nat), unvN rows.length s.num ≤ f → TI rows s g → s.num u = 0 → u < rows.length → (∀ x ∈ g, RN rows x u) → s.prt ≤ s.cnt →
  QQ 280 [.int (u:Int),.ptr 0 none 0,.ptr 1 none 0,.ptr 3 none 0,.ptr 5 none 0,.ptr 6 none 0,.ptr 7 none 0,.ptr 8 none 0,.ptr 10 none 0] (z1160 rows s) (.tup []) (z1160 rows (z234 rows f u s)):=by
 intro f
 induction f with
 |zero =>
  intro s g u hf _ h0 hu _ _
  have:=z1106 (num:=s.num) hu h0
  omega
 |succ f ih =>
  intro s g u hf hI h0 hu hg hsp
  have hTL:=z1261 hr hf hI h0 hu hg
  have hc0:s.cnt≤100000:=by have:=hI.ct;omega
  have gr:=z600 hu
  have hrow:=z238 hr (u:Int)
  rw [y77] at hrow
  have hrowl:(rows.getD u []).length≤1000000000:=by rw [z14 hu];exact hrl _ (y44 _)
  have hte:z234 rows (f+1) u s=tEnd u ((rows.getD u []).foldl (z373 (z234 rows f) u) (z203 u s)):=rfl
  generalize hR:z234 rows (f+1) u s=R at *
  generalize hrw:rows.getD u []=row at *
  have e1:=z175 (N:=rows.length) (u:=u) s.num (s.cnt+1)
  have e2:=z175 (N:=rows.length) (u:=u) s.low (s.cnt+1)
  have g1:=z190 s.num hu
  have g2:=z190 s.low hu
  have l1:=z140 rows.length s.num
  have l2:=z140 rows.length s.low
  have hsl:s.stk.length≤100000:=by
   have:=z164 rows.length (natL s.stk) ?_ ?_
   ·rw [z476] at this;omega
   ·exact (hI.nd).map _ fun a b h=>by omega
   ·intro x hx
    obtain ⟨y,hy,rfl⟩:=List.mem_map.1 hx
    have:=hI.lt y ((hI.stk y).1 hy).1
    omega
  refine z7 z15 func280 rfl rfl 105 ntmps280 (by simp) ?_
  repeat' ((first|(fail_if_success apply z96 2);(fail_if_success apply z77 2);apply y4 ok;rfl|apply z23;kernel_rfl|refine z13 (i:=u) rfl g1 ?_|refine z13 (i:=u) rfl g2 ?_|(apply y43;first|omega|unfold inI;omega))<;>conv=>whnf)
  refine y85 (Gl.Reach.expose 5 0 0 rfl rfl rfl (z155 (fun _=>rfl) _) rfl) ?_
  conv=>whnf
  repeat' ((first|(fail_if_success apply z96 3);(fail_if_success apply z77 3);apply y4 ok;rfl|refine y43 ?_ ?_;(focus (dsimp only;simp only [y49,z476];omega))|refine z13 (i:=u) rfl gr ?_|(apply y43;first|omega|exact ⟨rfl,z22 rfl z28⟩))<;>conv=>whnf)
  refine y85 (Gl.Reach.absorb 5 13 0 0 rfl rfl rfl rfl (by simp) rfl (z67 (fun e he=>(z5 (fun _=>rfl)) e (List.mem_of_mem_take he)) (z210 rfl z25)) rfl) ?_
  conv=>whnf
  have e3:((natL s.stk).map enI).take ((natL s.stk).map enI).length++[enI (u:Int)]=(natL (s.stk++[u])).map enI:=by
   rw [y56];unfold natL;simp
  obtain ⟨T,hT⟩:∃ T:Nat→TS,T=fun k=>(row.take k).foldl (z373 (z234 rows f) u) (z203 u s):=⟨_,rfl⟩
  have hT0:T 0=z203 u s:=by rw [hT];rfl
  have hTs:∀ k (hk:k < row.length),T (k+1)=z373 (z234 rows f) u (T k) row[k]:=fun k hk=>by
   rw [hT]
   show (row.take (k+1)).foldl _ _=_
   rw [y50 hk,y63];rfl
  have hTn:R=tEnd u (T row.length):=by
   rw [hT,hte]
   show _=tEnd u ((row.take row.length).foldl _ _)
   rw [y56]
  have hTT:∀ k,k≤row.length→TL rows s (T k) g u (row.take k):=fun k hk=>by rw [hT];exact hTL k hk
  clear hT hTL hte hR
  have f1:(T 0).num=upd s.num u (s.cnt+1):=by rw [hT0];rfl
  have f2:(T 0).low=upd s.low u (s.cnt+1):=by rw [hT0];rfl
  have f3:(T 0).stk=s.stk++[u]:=by rw [hT0];rfl
  have f4:(T 0).cnt=s.cnt+1:=by rw [hT0];rfl
  have f5:(T 0).part=s.part:=by rw [hT0];rfl
  have f6:(T 0).prt=s.prt:=by rw [hT0];rfl
  refine z64 (fun k:Nat=>([(0,.int (u:Int)),(1,.ptr 0 none 0),(2,.ptr 1 none 0),(3,.ptr 3 none 0),(4,.ptr 5 none 0),(5,.ptr 6 none 0),(6,.ptr 7 none 0),(7,.ptr 8 none 0),(8,.ptr 10 none 0),(30,ints row),(31,.int row.length),(32,.int k)],[.cells 1 [[.int (T k).cnt]],.cells 1 [[.sref 2 0 rows.length]],.cells 1 ((fnL rows.length (T k).num).map enI),.cells 1 [[.sref 4 0 rows.length]],.cells 1 ((fnL rows.length (T k).low).map enI),.cells 1 [[.own 1 ((natL (T k).stk).map enI)]],.cells 1 [[lst 1 encL rows]],.cells 1 [[visF]],.cells 1 [[.sref 9 0 rows.length]],.cells 1 ((fnL rows.length (T k).part).map enI),.cells 1 [[.int (T k).prt]]])) (fun k=>k≤row.length) (fun k=>row.length - k) 0 (y53 _) (by refine swR [0,1,2,3,4,5,6,7,8,9,10] [] rfl rfl ?_;(repeat' first|exact y86 _|refine z115 ?_;omega|apply y87|refine z60 rfl (z5 (fun _=>rfl)) ?_|refine z9 rfl (z5 (fun _=>rfl)) ?_|constructor)<;>(first|refine z57 ?_;rw [f1];exact e1|refine z57 ?_;rw [f2];exact e2|rw [f5];exact z10 _|rw [f3];refine y9 ?_;rw [← e3];rfl)) ?_
  clear f1 f2 f3 f4 f5 f6 hT0 e1 e2 e3 g1 g2 l1 l2
  intro k hk
  have hL:=hTT k hk
  have hLI:=hL.inv
  have hL2:=hL.num
  have gu1:=z190 (T k).num hu
  have gu2:=z190 (T k).low hu
  have l1:=z140 rows.length (T k).num
  have l2:=z140 rows.length (T k).low
  have l3:=z140 rows.length (T k).part
  by_cases hk2:k < row.length
  ·have hs2:=hTs k hk2
   have gk:(row.map enI)[k]?=some (enI row[k]):=by rw [y51,y45 hk2];rfl
   have hv:=hrow _ (y44 hk2)
   have hvm:row[k]∈rows.getD u []:=by rw [hrw];exact y44 hk2
   generalize row[k]=v at *
   obtain ⟨w,rfl⟩:∃ w:Nat,v=w:=⟨v.toNat,by omega⟩
   have hw:w < rows.length:=by omega
   have gw1:=z190 (T k).num hw
   have gw3:=z190 (T k).part hw
   unfold z373 at hs2
   simp only [y77] at hs2
   have hnx:k+1≤row.length:=hk2
   generalize hS:T k=S at *
   generalize hS2:T (k+1)=S2 at *
   by_cases hw0:S.num w=0
   ·rw [if_pos hw0] at hs2
    have cW:=ih S (u::g) w (by have h1:=hL.cnt;have h2:=hLI.ct;have h3:=hI.ct;omega) hLI hw0 hw (fun x hx=>by
     rcases List.mem_cons.1 hx with rfl|hx
     ·exact .edge hvm
     ·exact (hg x hx).trans (.edge hvm)) (by have:=hL.prt;omega)
    generalize z234 rows f w S=S1 at *
    have hu1:=z190 S1.low hu
    have hw1:=z190 S1.low hw
    have l4:=z140 rows.length S1.low
    have e1:=z175 (N:=rows.length) (u:=u) S1.low (min (S1.low u) (S1.low w))
    have q1:S2.low=upd S1.low u (min (S1.low u) (S1.low w)):=by rw [hs2];rfl
    have q2:S2.num=S1.num:=by rw [hs2];rfl
    have q3:S2.part=S1.part:=by rw [hs2];rfl
    have q4:S2.stk=S1.stk:=by rw [hs2];rfl
    have q5:S2.cnt=S1.cnt:=by rw [hs2];rfl
    have q6:S2.prt=S1.prt:=by rw [hs2];rfl
    repeat' ((first|(fail_if_success apply z96 8);(fail_if_success apply z77 8);apply y4 ok;rfl|apply z23;kernel_rfl|refine z13 (i:=k) rfl gk ?_|refine z13 (i:=w) rfl gw1 ?_|apply y43;omega|((apply z8;omega));intro _|apply z6<;>intro _|apply z124 [0,1,2,3,4,5,6,7,8,9,10] [] cW;rfl;(focus ((repeat' first|exact z38|apply z48)<;>first|rfl|refine z65 rfl ?_;((exact z5 fun _=>rfl))));rfl;(focus ((repeat' first|exact z17|apply z16)<;>first|exact z47 rfl rfl|refine z20 ?_;((exact z5 fun _=>rfl)))))<;>conv=>whnf)
    all_goals try (exfalso;omega)
    repeat' ((first|apply y4 ok;rfl|apply z23;kernel_rfl|refine z13 (i:=u) rfl hu1 ?_|refine z13 (i:=w) rfl hw1 ?_|(apply y43;first|omega|unfold inI;omega))<;>conv=>whnf)
    all_goals refine z24 (k+1) hk2 (by omega) ?_
    all_goals dsimp only
    all_goals rw [hS2,q2,q3,q4,q5,q6,q1]
    all_goals exact (by refine swR [0,1,2,3,4,5,6,7,8,9,10] [] rfl rfl ?_;(repeat' first|exact y86 _|exact z10 _|apply y87|refine z60 rfl (z5 (fun _=>rfl)) ?_|refine z9 rfl (z5 (fun _=>rfl)) ?_|constructor)<;>((refine z57 ?_;exact e1)))
   ·rw [if_neg hw0] at hs2
    by_cases hp0:S.part w < 0
    ·rw [if_pos hp0] at hs2
     have e1:=z175 (N:=rows.length) (u:=u) S.low (min (S.low u) (S.num w))
     have q1:S2.low=upd S.low u (min (S.low u) (S.num w)):=by rw [hs2];rfl
     have q2:S2.num=S.num:=by rw [hs2];rfl
     have q3:S2.part=S.part:=by rw [hs2];rfl
     have q4:S2.stk=S.stk:=by rw [hs2];rfl
     have q5:S2.cnt=S.cnt:=by rw [hs2];rfl
     have q6:S2.prt=S.prt:=by rw [hs2];rfl
     repeat' ((first|apply y4 ok;rfl|apply z23;kernel_rfl|refine z13 (i:=k) rfl gk ?_|refine z13 (i:=w) rfl gw1 ?_|refine z13 (i:=w) rfl gw3 ?_|refine z13 (i:=u) rfl gu2 ?_|(apply y43;first|omega|unfold inI;omega)|((apply z8;omega));intro _|apply z6<;>intro _)<;>conv=>whnf)
     all_goals try (exfalso;omega)
     all_goals refine z24 (k+1) hk2 (by omega) ?_
     all_goals dsimp only
     all_goals rw [hS2,q2,q3,q4,q5,q6,q1]
     all_goals exact (by refine swR [0,1,2,3,4,5,6,7,8,9,10] [] rfl rfl ?_;(repeat' first|exact y86 _|exact z10 _|apply y87|refine z60 rfl (z5 (fun _=>rfl)) ?_|refine z9 rfl (z5 (fun _=>rfl)) ?_|constructor)<;>((refine z57 ?_;exact e1)))
    ·rw [if_neg hp0] at hs2
     repeat' ((first|apply y4 ok;rfl|apply z23;kernel_rfl|refine z13 (i:=k) rfl gk ?_|refine z13 (i:=w) rfl gw1 ?_|refine z13 (i:=w) rfl gw3 ?_|(apply y43;first|omega|unfold inI;omega)|((apply z8;omega));intro _|apply z6<;>intro _)<;>conv=>whnf)
     all_goals try (exfalso;omega)
     all_goals refine z24 (k+1) hk2 (by omega) ?_
     all_goals dsimp only
     all_goals rw [hS2,hs2]
     all_goals exact (by refine swR [0,1,2,3,4,5,6,7,8,9,10] [] rfl rfl ?_;(repeat' first|exact y86 _|exact z10 _|apply y87|refine z9 rfl (z5 (fun _=>rfl)) ?_|constructor))
  ·obtain rfl:k=row.length:=by omega
   have hpf:=hL.pref
   have hsu:u ∉ s.stk:=fun hm=>((hI.stk u).1 hm).1 h0
   have hnd:=hLI.nd
   have hpp:(T row.length).prt≤100001:=by have h1:=hL.prt;have h2:=hLI.ct;have h3:=hI.ct;have h4:=hL.cnt;omega
   generalize hS:T row.length=S at *
   unfold tEnd at hTn
   by_cases he:S.low u=S.num u
   ·rw [if_pos he] at hTn
    obtain ⟨B,hB⟩:=hpf
    have hcut:=z941 (A:=s.stk) (B:=B) hsu
    have hLl:S.stk.length=s.stk.length+1+B.length:=by rw [hB];simp;omega
    have hLs:S.stk.length≤100000:=by
     have:=z164 rows.length (natL S.stk) ?_ ?_
     ·rw [z476] at this;omega
     ·exact hnd.map _ fun a b h=>by omega
     ·intro x hx
      obtain ⟨y,hy,rfl⟩:=List.mem_map.1 hx
      have:=hLI.lt y ((hLI.stk y).1 hy).1
      omega
    have r1:R.stk=S.stk.take s.stk.length:=by
     rw [hTn];show S.stk.takeWhile _=_
     rw [hB,hcut.1];simp
    have r2:R.part=fun x=>if x∈S.stk.drop s.stk.length then (S.prt:Int) else S.part x:=by
     rw [hTn];show (fun x=>if x∈S.stk.dropWhile _ then _ else _)=_
     rw [hB,hcut.2];simp
    have r3:R.num=S.num:=by rw [hTn];rfl
    have r4:R.low=S.low:=by rw [hTn];rfl
    have r5:R.cnt=S.cnt:=by rw [hTn];rfl
    have r6:R.prt=S.prt+1:=by rw [hTn];rfl
    have hat:∀ j (hj:j < S.stk.length),(S.stk[j]=u↔j=s.stk.length):=by
     intro j hj
     have hu2:S.stk[s.stk.length]'(by omega)=u:=by simp [hB]
     constructor
     ·intro e
      have hne:=List.pairwise_iff_getElem.1 (List.nodup_iff_pairwise_ne.1 hnd)
      rcases Nat.lt_trichotomy j s.stk.length with h|h|h
      ·exact absurd (e.trans hu2.symm) (hne j s.stk.length hj (by omega) h)
      ·exact h
      ·exact absurd (hu2.trans e.symm) (hne s.stk.length j (by omega) hj h)
     ·rintro rfl;exact hu2
    have hlt:∀ j (hj:j < S.stk.length),S.stk[j] < rows.length:=fun j hj=>hLI.lt _ ((hLI.stk _).1 (y44 hj)).1
    have sl:=z476 S.stk
    repeat' ((first|(fail_if_success apply z96 14);(fail_if_success apply z77 14);apply y4 ok;rfl|apply z23;kernel_rfl|refine z13 (i:=u) rfl gu1 ?_|refine z13 (i:=u) rfl gu2 ?_|apply y43;omega|(first|with_reducible apply z8;omega|apply z8;omega);intro _|apply z6<;>intro _)<;>conv=>whnf)
    all_goals try (exfalso;omega)
    refine y85 (Gl.Reach.expose 5 0 0 rfl rfl rfl (z155 (fun _=>rfl) _) rfl) ?_
    obtain ⟨pm,hpm⟩:∃ pm:Nat→Nat→Int,pm=fun m x=>if x∈S.stk.drop m then (S.prt:Int) else S.part x:=⟨_,rfl⟩
    have hpm0:pm S.stk.length=S.part:=by rw [hpm];funext x;simp
    have hpmE:pm s.stk.length=R.part:=by rw [hpm,r2]
    have hpmS:∀ m (hm:m < S.stk.length),pm m=upd (pm (m+1)) S.stk[m] S.prt:=by
     intro m hm
     funext x
     by_cases hx:x=S.stk[m]
     ·rw [hx,z36,hpm]
      dsimp only
      rw [if_pos]
      rw [y80 hm]
      exact List.mem_cons_self
     ·rw [z56 _ _ hx,hpm]
      dsimp only
      rw [y80 hm]
      simp only [List.mem_cons,hx,false_or]
    clear hpm
    refine z64 (fun m:Nat=>([(0,.int (u:Int)),(1,.ptr 0 none 0),(2,.ptr 1 none 0),(3,.ptr 3 none 0),(4,.ptr 5 none 0),(5,.ptr 6 none 0),(6,.ptr 7 none 0),(7,.ptr 8 none 0),(8,.ptr 10 none 0),(12,.int ((natL S.stk).getD m (-1)))],[.cells 1 [[.int S.cnt]],.cells 1 [[.sref 2 0 rows.length]],.cells 1 ((fnL rows.length S.num).map enI),.cells 1 [[.sref 4 0 rows.length]],.cells 1 ((fnL rows.length S.low).map enI),.cells 1 [[.sref 11 0 m]],.cells 1 [[lst 1 encL rows]],.cells 1 [[visF]],.cells 1 [[.sref 9 0 rows.length]],.cells 1 ((fnL rows.length (pm m)).map enI),.cells 1 [[.int S.prt]],.cells 1 ((natL S.stk).map enI)])) (fun m=>s.stk.length≤m∧m≤S.stk.length) (fun m=>m) S.stk.length ⟨by omega,y52 _⟩ (by refine swR [0,1,2,3,4,5,6,7,8,9,10,11] [] rfl rfl ?_;(repeat' first|exact y86 _|exact z10 _|refine z50 ?_;((simp;omega))|apply y87|refine z9 rfl (z5 (fun _=>rfl)) ?_|constructor)<;>(first|rw [hpm0];exact z10 _|refine z115 ?_;simp [natL])) ?_
    rintro m ⟨hm1,hm2⟩
    by_cases hm:m=s.stk.length
    ·subst hm
     have htop:(natL S.stk).getD s.stk.length (-1)=(u:Int):=by
      rw [z14 (by rw [sl];omega)]
      unfold natL
      rw [List.getElem_map,(hat _ (by omega)).2 rfl]
     rw [htop]
     repeat' ((first|(fail_if_success apply z96 18);(fail_if_success apply z77 18);apply y4 ok;rfl|apply y43;omega|((apply z8;omega));intro _|apply z42<;>intro _)<;>conv=>whnf)
     all_goals try (exfalso;omega)
     refine y85 (Gl.Reach.trunc 11 s.stk.length rfl rfl) ?_
     refine y85 (Gl.Reach.absorb 5 11 0 0 rfl rfl rfl rfl (by simp [natL];omega) rfl (fun e he=>(z5 (fun _=>rfl)) e (List.mem_of_mem_take he)) rfl) ?_
     conv=>whnf
     repeat' ((first|apply y4 ok;rfl|apply y43;(unfold inI;omega))<;>conv=>whnf)
     have eR:z1160 rows R=[.cells 1 [[.int S.cnt]],.cells 1 [[.sref 2 0 rows.length]],.cells 1 ((fnL rows.length S.num).map enI),.cells 1 [[.sref 4 0 rows.length]],.cells 1 ((fnL rows.length S.low).map enI),.cells 1 [[.own 1 (((natL S.stk).map enI).take s.stk.length)]],.cells 1 [[lst 1 encL rows]],.cells 1 [[visF]],.cells 1 [[.sref 9 0 rows.length]],.cells 1 ((fnL rows.length (pm s.stk.length)).map enI),.cells 1 [[.int ((S.prt+1:Nat):Int)]]]:=by
      unfold z1160
      rw [r1,r3,r4,r5,r6,hpmE]
      simp [natL,List.map_take]
     rw [eR]
     (refine rsD [0,1,2,3,4,5,6,7,8,9,10] [] rfl ?_;(repeat' first|exact y86 _|exact z10 _|apply y87|refine z9 rfl (z5 (fun _=>rfl)) ?_|constructor))
    ·obtain ⟨m,rfl⟩:∃ m',m=m'+1:=⟨m - 1,by omega⟩
     have hmL:m < S.stk.length:=by omega
     have htop:(natL S.stk).getD (m+1) (-1)≠(u:Int):=by
      by_cases h:m+1 < S.stk.length
      ·rw [z14 (by rw [sl];exact h)]
       unfold natL
       rw [List.getElem_map]
       have:=(hat (m+1) h)
       omega
      ·rw [y68,y69 (by rw [sl];omega)]
       show (-1:Int)≠u
       omega
     have hnx:(natL S.stk).getD m (-1)=((S.stk[m]:Nat):Int):=by
      rw [z14 (by rw [sl];exact hmL)]
      unfold natL
      rw [List.getElem_map]
     have gst:=natL_at hmL
     have hwN:=hlt m hmL
     have hps:=hpmS m hmL
     generalize S.stk[m]=w at *
     have gw:=z190 (pm (m+1)) hwN
     have e1:=z175 (N:=rows.length) (u:=w) (pm (m+1)) S.prt
     rw [← hps] at e1
     generalize (natL S.stk).getD (m+1) (-1)=tp at *
     repeat' ((first|apply y4 ok;rfl|refine z13 (i:=m) ?_ gst ?_;(focus omega)|refine z13 (i:=w) rfl gw ?_|(apply y43;first|omega|unfold inI;omega)|apply z42<;>intro _)<;>conv=>whnf)
     all_goals try (exfalso;omega)
     all_goals refine z24 m ⟨by omega,by omega⟩ (by omega) ?_
     all_goals dsimp only
     all_goals rw [hnx]
     all_goals exact (by refine swR [0,1,2,3,4,5,6,7,8,9,10,11] [] rfl rfl ?_;(repeat' first|exact y86 _|exact z10 _|refine z50 ?_;(omega)|apply y87|refine z60 rfl (z5 (fun _=>rfl)) ?_|refine z9 rfl (z5 (fun _=>rfl)) ?_|constructor)<;>((refine z57 ?_;exact e1)))
   ·rw [if_neg he] at hTn
    subst hTn
    repeat' ((first|apply y4 ok;rfl|apply z23;kernel_rfl|refine z13 (i:=u) rfl gu1 ?_|refine z13 (i:=u) rfl gu2 ?_|apply y43;omega|(first|with_reducible apply z8;omega|apply z8;omega);intro _|apply z6<;>intro _)<;>conv=>whnf)
    all_goals try (exfalso;omega)
    all_goals (refine rsD [0,1,2,3,4,5,6,7,8,9,10] [] rfl ?_;(repeat' first|exact y86 _|exact z10 _|apply y87|refine z9 rfl (z5 (fun _=>rfl)) ?_|constructor))
@[reducible] def subF:AC:=.fn (.func 298) [] [.ptr 0 none 0,.ptr 1 none 0]
@[reducible] def objsS (o:List Tree):List AObj:=[.cells 1 [[subF]],.cells 1 [[.own 3 (o.map Tree.cs')]]]
set_option maxHeartbeats 6400000 in
theorem z845 (t:Tree):t.sz≤1000→∀ (o:List Tree),o.length+t.sz≤2000→(∀ x∈o,x.sz≤1000)→QQ 298 [z27 Tree.cs' t,.ptr 0 none 0,.ptr 1 none 0] (objsS o) (.tup []) (objsS (t.subs o)):=by
 induction t using y27 with|h t ih=>?_
 intro hs o ho hm
 have hsz:=y38 t
 have hkid:∀ k (h:k < t.kids.length),t.kids[k].sz≤1000:=fun k h=>by have:=z349 Tree.sz (y44 h);omega
 have hpre:∀ k,k≤t.kids.length→(Tree.subss (t.kids.take k) o).length≤o.length+((t.kids.take k).map fun u=>u.sz+1).sum∧∀ x∈Tree.subss (t.kids.take k) o,x.sz≤1000:=by
  intro k
  induction k with
  |zero=>intro _;exact ⟨by simp [Tree.subss],hm⟩
  |succ k ihk =>
   intro hk
   obtain ⟨a1,a2⟩:=ihk (by omega)
   obtain ⟨_,_,_,b4,b5,_⟩:=z198 t.kids[k] (Tree.subss (t.kids.take k) o)
   rw [y37 (by omega)]
   refine ⟨?_,fun x hx=>?_⟩
   ·rw [y50 (by omega),y64,List.sum_append]
    simp only [List.map_cons,List.map_nil,List.sum_cons,List.sum_nil]
    omega
   ·rcases b5 x hx with h|h
    ·exact a2 x h
    ·have:=hkid k (by omega);omega
 have hsum:∀ k,k≤t.kids.length→((t.kids.take k).map fun u=>u.sz+1).sum≤t.sz:=fun k hk=>by
  have h1:∀ l:List Tree,(l.map fun u=>u.sz+1).sum=l.length+(l.map Tree.sz).sum:=by
   intro l
   induction l with
   |nil=>rfl
   |cons a l ih=>simp only [List.map_cons,List.sum_cons,y58,ih];omega
  have h2:=z503 Tree.sz t.kids k
  rw [h1,y48];omega
 rw [y35]
 have hl5:t.kids.length≤1000:=by omega
 have hfs:(∀ x∈Tree.subss t.kids o,x.sz≤1000):=by have:=(hpre t.kids.length (y52 _)).2;rwa [y56] at this
 have hfl:(Tree.subss t.kids o).length≤2000:=by have h1:=(hpre t.kids.length (y52 _)).1;have h2:=hsum t.kids.length (y52 _);rw [y56] at h1 h2;omega
 have cF:=z302 (Tree.subss t.kids o) (by omega) (fun x hx=>z101 x (by have:=hfs x hx;unfold maxLen;omega)) t (z101 t (by unfold maxLen;omega))
 have cC:=z705 t (by omega)
 have hidx:=z218 (fun x=>decide (x=t)) (Tree.subss t.kids o)
 have et:=y15 t
 rw [et]
 refine z7 z15 func298 rfl rfl 28 ntmps298 (by simp) ?_
 repeat' (((apply y4 ok;rfl))<;>conv=>whnf)
 refine z64 (fun x:Nat×List Tree=>([(1,.ptr 0 none 0),(2,.ptr 1 none 0),(3,.ptr 2 none 0),(7,lst 3 Tree.cs' t.kids),(8,.int t.kids.length),(9,.int x.1)],[.cells 1 [[subF]],.cells 1 [[.own 3 (x.2.map Tree.cs')]],.cells 3 [[.int t.kind,.int t.val,lst 3 Tree.cs' t.kids]]])) (fun x=>x.1≤t.kids.length∧Tree.subss (t.kids.take x.1) o=x.2) (fun x=>t.kids.length - x.1) (0,o) ⟨y53 _,by simp [Tree.subss]⟩ (by refine swR [0,1,2] [] rfl rfl ?_;(repeat' first|exact y86 _|apply y87|constructor)) ?_
 rintro ⟨i,q⟩ ⟨hi,hq⟩
 dsimp only at hi hq ⊢
 obtain ⟨p1,p2⟩:=hpre i hi
 have p3:=hsum i hi
 rw [hq] at p1 p2
 have hql:q.length≤2000:=by omega
 by_cases hil:i < t.kids.length
 ·have ci:=ih t.kids[i] (y44 _) (hkid i hil) q (by
   have h1:=hsum (i+1) (by omega)
   rw [y50 hil,y64,List.sum_append] at h1
   simp only [List.map_cons,List.map_nil,List.sum_cons,List.sum_nil] at h1
   omega) p2
  have ht:=y37 hil o
  rw [hq] at ht
  have gk:(t.kids.map Tree.cs')[i]?=some (Tree.cs' t.kids[i]):=by rw [y51,y45 hil];rfl
  clear ih cF hidx
  generalize t.kids[i]=u at *
  generalize u.subs q=q' at *
  repeat' ((first|apply y4 ok;rfl|refine z13 (i:=i) rfl gk ?_|(apply y43;first|omega|unfold inI;omega)|apply z6<;>intro _|apply z37 [0,1] [] ci;rfl;rfl;rfl)<;>conv=>whnf)
  all_goals try (exfalso;omega)
  all_goals refine z24 (i+1,q') ⟨by show i+1≤_;omega,ht⟩ (by show t.kids.length - (i+1) < t.kids.length - i;omega) (by refine swR [0,1,2] [] rfl rfl ?_;(repeat' first|exact y86 _|apply y87|constructor))
 ·obtain rfl:i=t.kids.length:=by omega
  rw [y56] at hq
  rw [hq] at cF hidx ⊢
  unfold addT
  refine y85 (Gl.Reach.expose 1 0 0 rfl rfl rfl (z155 (fun _=>rfl) _) rfl) ?_
  refine y85 (show Gl.Reach _ _ (mkSt _ [(1,.ptr 0 none 0),(2,.ptr 1 none 0),(3,.ptr 2 none 0),(7,lst 3 Tree.cs' t.kids),(8,.int t.kids.length),(9,.int t.kids.length)] [.cells 1 [[subF]],.cells 1 [[.sref 3 0 q.length]],.cells 3 [[.int t.kind,.int t.val,lst 3 Tree.cs' t.kids]],.cells 3 (q.map Tree.cs')]) from (by refine swR [0,1,2,3] [] rfl rfl ?_;(repeat' first|exact y86 _|exact z10 _|refine z50 ?_;((simp;done))|apply y87|refine z9 rfl (z5 (fun _=>rfl)) ?_|constructor))) ?_
  by_cases hin:t∈q
  ·rw [if_pos hin]
   have hx:0≤idxF (fun x=>decide (x=t)) q:=by
    rw [List.any_eq_true.2 ⟨t,hin,by simp⟩] at hidx
    exact of_decide_eq_true hidx
   generalize idxF (fun x=>decide (x=t)) q=z at *
   rw [et] at cF
   repeat' ((first|apply y4 ok;rfl|apply y43;omega|((with_reducible apply z8;omega));intro _|apply z6<;>intro _|apply z99 [] [3] [] cF;(focus (exact z44 (z161 rfl rfl rfl (by simp) (z30 (fun _=>rfl) _)) (z44 rfl z69)));rfl;rfl;(focus ((repeat' exact z17)<;>fail));((refine .inr ⟨rfl,?_⟩;repeat' exact True.intro)))<;>conv=>whnf)
   all_goals try (exfalso;omega)
   all_goals
    refine Gl.RetS.absorb 1 3 0 0 rfl rfl rfl rfl (by simp) rfl (z5 (fun _=>rfl)) ?_
    conv=>whnf
    (refine rsD [0,1] [] rfl ?_;(repeat' first|exact y86 _|apply y87|constructor))
  ·rw [if_neg hin]
   have hx:¬ 0≤idxF (fun x=>decide (x=t)) q:=fun h=>by
    rw [y82 h] at hidx
    obtain ⟨x,h1,h2⟩:=List.any_eq_true.1 hidx.symm
    rw [of_decide_eq_true h2] at h1
    exact hin h1
   generalize idxF (fun x=>decide (x=t)) q=z at *
   rw [et] at cF cC
   have gz:(List.take q.length (List.map Tree.cs' q)++[[AC.raw (Value.int IntKind.i64 0),AC.raw (Value.int IntKind.i64 0),AC.raw (Value.slice none 0 0)]])[q.length]?=some [AC.raw (Value.int IntKind.i64 0),AC.raw (Value.int IntKind.i64 0),AC.raw (Value.slice none 0 0)]:=by
    rw [y57 (by simp),y67 (by simp)];simp
   have e2:((List.take q.length (List.map Tree.cs' q)++[[AC.raw (Value.int IntKind.i64 0),AC.raw (Value.int IntKind.i64 0),AC.raw (Value.slice none 0 0)]]).set q.length (Tree.cs' t))=(q++[t]).map Tree.cs':=by
    rw [y57 (by simp),List.set_append_right _ _ (by simp)];simp
   have ec:Tree.cs' t=[.int t.kind,.int t.val,lst 3 Tree.cs' t.kids]:=AC.agg.inj et
   rw [ec] at e2
   repeat' ((first|apply y4 ok;rfl|apply z23;kernel_rfl|refine z13 (i:=q.length) rfl gz ?_|(apply y43;first|omega|(try dsimp only);simp only [y49,y48,y47,y46,y58,y59];omega|exact ⟨rfl,z22 rfl z28⟩)|((with_reducible apply z8;omega));intro _|apply z6<;>intro _|apply z4 cC;rfl;rfl|apply z99 [] [3] [] cF;(focus (exact z44 (z161 rfl rfl rfl (by simp) (z30 (fun _=>rfl) _)) (z44 rfl z69)));rfl;rfl;(focus ((repeat' exact z17)<;>fail));((refine .inr ⟨rfl,?_⟩;repeat' exact True.intro)))<;>conv=>whnf)
   all_goals try (exfalso;omega)
   all_goals
    refine Gl.RetS.absorb 1 5 0 0 rfl rfl rfl rfl (by simp) rfl (z405 (by simp) (fun e he=>(z5 (fun _=>rfl)) e (List.mem_of_mem_take he)) rfl) ?_
    conv=>whnf
    (refine rsD [0,1] [] rfl ?_;(repeat' first|exact y86 _|apply y87|constructor))
    all_goals exact y9 (congrArg (AC.own 3) e2)
theorem z844 (t:Tree) (hs:t.sz≤1000):QQ 267 [z27 Tree.cs' t] [] (.sref 0 0 (t.subs []).length) [.cells 3 ((t.subs []).map Tree.cs')]:=by
 have cV:=z845 t hs [] (by simp;omega) (fun x hx=>by cases hx)
 have hl:=(z198 t []).2.2.2.1
 simp only [y59,Nat.zero_add] at hl
 generalize t.subs []=L at *
 have cC:=z555 L (by omega)
 rw [y15 t] at *
 refine z7 z15 func267 rfl rfl 11 ntmps267 (by simp) ?_
 repeat' ((((fail_if_success apply z96 4);(fail_if_success apply z77 4);apply y4 ok;rfl))<;>conv=>whnf)
 refine y85 (show Gl.Reach _ _ (mkSt _ [(1,.ptr 0 none 0),(3,.ptr 1 none 0),(4,.ptr 2 none 0)] [.cells 3 [[.int t.kind,.int t.val,lst 3 Tree.cs' t.kids]],.cells 1 [[.own 3 []]],.cells 1 [[.fn (.func 298) [] [.ptr 2 none 0,.ptr 1 none 0]]]]) from (by refine swR [0,1,2] [] rfl rfl ?_;(repeat' first|exact y86 _|apply y87|constructor)<;>(exact z393))) ?_
 repeat' ((first|(fail_if_success apply z96 5);(fail_if_success apply z77 5);apply y4 ok;rfl|apply z37 [2,1] [] cV;rfl;rfl;rfl)<;>conv=>whnf)
 refine y85 (Gl.Reach.expose 1 0 0 rfl rfl rfl (z155 (fun _=>rfl) _) rfl) ?_
 refine y85 (show Gl.Reach _ _ (mkSt _ [(3,.ptr 1 none 0)] [.cells 3 [[.int t.kind,.int t.val,lst 3 Tree.cs' t.kids]],.cells 1 [[.sref 2 0 L.length]],.cells 3 (L.map Tree.cs')]) from (by refine swR [0,1,3] [] rfl rfl ?_;(repeat' first|exact y86 _|exact z10 _|refine z50 ?_;((simp;done))|apply y87|refine z9 rfl (z5 (fun _=>rfl)) ?_|constructor))) ?_
 repeat' ((first|apply y4 ok;rfl|apply z124 [2] [] cC;rfl;(focus ((repeat' first|exact z38|apply z48)<;>(refine z65 rfl ?_;((exact z5 fun _=>rfl)))));rfl;(focus ((repeat' first|exact z17|apply z16)<;>(refine z20 ?_;((exact z5 fun _=>rfl))))))<;>conv=>whnf)
 all_goals (refine rsD [2] [] rfl ?_;(repeat' first|exact y86 _|exact z10 _|refine z9 rfl (z5 (fun _=>rfl)) ?_|constructor))
theorem z1043 (t:Tree):QQ 237 [z27 Tree.cs' t] [] (.bool (z81 t)) []:=by
 rw [y15]
 unfold z81
 refine z7 z15 func237 rfl rfl 21 ntmps237 (by simp) ?_
 repeat' ((first|apply y4 ok;rfl|apply z6<;>intro _)<;>conv=>whnf)
 all_goals (refine rsL [] [] rfl ?_;refine y12 (z920 ?_) .nil;first|rw [y82 (by omega)];done|rw [decide_eq_decide];omega)
set_option maxHeartbeats 3200000 in
theorem z1245 (t:Tree) (hs:t.sz≤200):QQ 157 [z27 Tree.cs' t] [] (.tup [lst 3 Tree.cs' (if bscB t then bscL (t.nrm false) else []),.bool (bscB t)]) []:=by
 have cn:=z392 t (by omega)
 unfold bscB
 by_cases h:t.fmB=true∧(t.nrm false).fmB=true
 ·rw [if_pos h,y82 h] at cn
  have hz:=y29 t (y24 h.1) false
  have hd:decide ((t.fmB=true∧(t.nrm false).fmB=true)∧(bscL (t.nrm false)).length≤5)=decide ((bscL (t.nrm false)).length≤5):=by
   rw [decide_eq_decide];exact ⟨fun h=>h.2,fun h2=>⟨h,h2⟩⟩
  rw [hd]
  clear hd h
  generalize t.nrm false=u at *
  have cS:=(z1191 u (by omega) [] (by simp;omega) (fun x hx=>by cases hx)).arg (args0:=[.nils,z27 Tree.cs' u]) (by (repeat' first|exact y86 _|exact z49|constructor))
  obtain ⟨_,_,_,hl,hz2,_⟩:=z198 u []
  unfold bscL
  simp only [y59,Nat.zero_add] at hl
  generalize u.subs []=L at *
  have hb:∀ k (hk:k < L.length),QQ 237 [z27 Tree.cs' L[k]] [] (.bool (z81 L[k])) []:=fun k hk=>z1043 _
  rw [y15 u] at cn cS
  refine z7 z15 func157 rfl rfl 43 ntmps157 (by simp) ?_
  repeat' ((first|(fail_if_success apply z96 5);(fail_if_success apply z77 5);apply y4 ok;rfl|apply z4 cn;rfl;rfl)<;>conv=>whnf)
  refine y85 (y88 3 rfl) ?_
  repeat' ((first|apply y4 ok;rfl|apply z11 [3] [4] cS;rfl;rfl;rfl;(focus ((repeat' first|exact z17|apply z16)<;>first|exact z117|refine z20 ?_;((exact z5 fun _=>rfl)))))<;>conv=>whnf)
  refine z64 (fun x:Nat×List Tree=>([(6,.sref 0 0 x.2.length),(7,.sref 1 0 L.length),(8,.int x.1)],[.cells 3 (x.2.map Tree.cs'),.cells 3 (L.map Tree.cs')])) (fun x=>x.1≤L.length∧(L.take x.1).filter z81=x.2) (fun x=>L.length - x.1) (0,[]) ⟨y53 _,rfl⟩ (by refine swR [2,4] [] rfl rfl ?_;(repeat' first|exact y86 _|exact z10 _|(refine z9 rfl ?_ ?_);(focus ((repeat' (first|exact z25|exact z5 (fun _=>rfl)));done))|constructor)) ?_
  rintro ⟨k,O⟩ ⟨hk,hO⟩
  dsimp only at hk hO ⊢
  have hOl:O.length≤L.length:=by
   rw [← hO]
   have:=List.length_filter_le z81 (L.take k)
   rw [y48] at this
   omega
  by_cases hkl:k < L.length
  ·have gk:(L.map Tree.cs')[k]?=some (Tree.cs' L[k]):=by rw [y51,y45 hkl];rfl
   have cb:=hb k hkl
   have ht:(L.take (k+1)).filter z81=O++(if z81 L[k]=true then [L[k]] else []):=by
    rw [y50 hkl,List.filter_append,hO]
    congr 1
    by_cases hb:z81 L[k]=true
    ·rw [if_pos hb,List.filter_cons_of_pos hb];rfl
    ·rw [if_neg hb,List.filter_cons_of_neg hb];rfl
   generalize L[k]=y at *
   by_cases hy:z81 y=true
   ·rw [hy] at cb
    rw [if_pos hy] at ht
    repeat' ((first|apply y4 ok;rfl|refine z13 (i:=k) rfl gk ?_|(apply y43;first|omega|unfold inI;omega|(try dsimp only);simp only [y49,y48,y47,y46,y58,y59];omega|exact ⟨rfl,z22 rfl z28⟩)|apply z6<;>intro _|apply z4 cb;rfl;rfl)<;>conv=>whnf)
    all_goals try (exfalso;omega)
    all_goals refine z24 (k+1,O++[y]) ⟨by show k+1≤_;omega,ht⟩ (by show L.length - (k+1) < L.length - k;omega) (by refine swR [3,1] [] rfl rfl ?_;(repeat' first|exact y86 _|exact z10 _|refine z50 ?_;((simp;done))|(first|refine z39 rfl ?_ ?_|refine z9 rfl ?_ ?_);(focus ((repeat' (first|exact z5 (fun _=>rfl)|apply z26));done))|refine z86 ?_ ?_;(focus omega)|constructor))
   ·rw [(y72 _).mp hy] at cb
    rw [if_neg hy,y65] at ht
    repeat' ((first|apply y4 ok;rfl|refine z13 (i:=k) rfl gk ?_|(apply y43;first|omega|unfold inI;omega)|apply z6<;>intro _|apply z4 cb;rfl;rfl)<;>conv=>whnf)
    all_goals try (exfalso;omega)
    all_goals refine z24 (k+1,O) ⟨by show k+1≤_;omega,ht⟩ (by show L.length - (k+1) < L.length - k;omega) (by refine swR [0,1] [] rfl rfl ?_;(repeat' first|exact y86 _|exact z10 _|refine z9 rfl (z5 (fun _=>rfl)) ?_|constructor))
  ·obtain rfl:k=L.length:=by omega
   rw [y56] at hO
   rw [hO]
   by_cases h5:O.length≤5
   ·rw [y82 h5,if_pos rfl]
    repeat' ((first|apply y4 ok;rfl|apply y43;omega|((apply z8;omega));intro _|apply z6<;>intro _)<;>conv=>whnf)
    all_goals try (exfalso;omega)
    all_goals (refine rsD [] [0] rfl ?_;(repeat' first|exact y86 _|(apply z40 rfl rfl rfl);(focus ((repeat ((exact z30 (fun _=>rfl) _)));done));(focus (((simp;done));done))|apply z80|constructor))
   ·rw [y83 h5,if_neg (by simp)]
    repeat' ((first|apply y4 ok;rfl|apply y43;omega|((apply z8;omega));intro _|apply z6<;>intro _)<;>conv=>whnf)
    all_goals try (exfalso;omega)
    all_goals (refine rsD [] [2] rfl ?_;(repeat' first|exact y86 _|constructor))
 ·rw [if_neg h,y83 h] at cn
  have hd:decide ((t.fmB=true∧(t.nrm false).fmB=true)∧(bscL (t.nrm false)).length≤5)=false:=y83 fun h2=>h h2.1
  rw [hd,if_neg (by simp)]
  refine z7 z15 func157 rfl rfl 43 ntmps157 (by simp) ?_
  repeat' ((first|apply y4 ok;rfl|apply z4 cn;rfl;rfl)<;>conv=>whnf)
  all_goals (refine rsD [] [2] rfl ?_;(repeat' first|exact y86 _|constructor))
theorem z299 (x a:Int) (h0:0≤x) (h1:x≤31) (h2:0≤a) (h3:a≤5):QQ 224 [.int x,.int a] [] (.bool (hasB x a)) []:=by
 have ha:a=0∨a=1∨a=2∨a=3∨a=4∨a=5:=by omega
 have h5:0≤x / 2 ^ a.toNat∧x / 2 ^ a.toNat≤31:=by
  rcases ha with rfl|rfl|rfl|rfl|rfl|rfl<;>simp<;>omega
 have hw:IntKind.u64.wrap a=a:=by
  rcases ha with rfl|rfl|rfl|rfl|rfl|rfl<;>decide
 refine z7 z15 func224 rfl rfl 11 ntmps224 (by simp) ?_
 repeat' ((first|apply y4 ok;rfl|apply y43;omega)<;>conv=>whnf)
 refine y43 (by unfold z100;omega) ?_
 conv=>whnf
 repeat' (((apply y4 ok;rfl))<;>conv=>whnf)
 all_goals (refine rsD [] [] rfl ?_;(repeat' first|exact y86 _|constructor))
structure BasL (B:List Tree):Prop where
 len:B.length≤5
 nd:B.Nodup
 sz:∀ x∈B,x.sz≤1000
 cl:∀ x∈B,In (·∈B) x
 bk:∀ x∈B,z81 x=true
 av:∀ v,Tree.mk 2 v []∈B→0≤v∧v≤2
theorem BasL.mx {B:List Tree} (h:BasL B):∀ x∈B,x.mx:=fun x hx=>z101 x (by have:=h.sz x hx;unfold maxLen;omega)
set_option maxHeartbeats 3200000 in
theorem z171 (B:List Tree) (hB:BasL B) (s:Int) (s0:0≤s) (s1:s≤31) (t:Tree) (h:In (·∈B) t):t.sz≤1000→QQ 160 [lst 3 Tree.cs' B,.int s,z27 Tree.cs' t] [] (.bool (vlB B s t)) []:=by
 have basic:∀ t,t∈B→z81 t=true→QQ 160 [lst 3 Tree.cs' B,.int s,z27 Tree.cs' t] [] (.bool (sgB B s t)) []:=fun t ht hb=>by
  have hl:=hB.len
  have cF:=z779 B (by omega) hB.mx t (hB.mx t ht)
  have hp:=z1152 ht
  have cH:=z299 s (plc B t) s0 s1 hp.1 (by omega)
  have e:idxF (fun x=>decide (x=t)) B=plc B t:=rfl
  rw [e] at cF
  unfold sgB
  generalize plc B t=p at *
  unfold z81 at hb
  have hb:=of_decide_eq_true hb
  rw [y15 t] at cF ⊢
  refine z7 z15 func160 rfl rfl 62 ntmps160 (by simp) ?_
  repeat' ((first|apply y4 ok;rfl|apply y43;omega|((with_reducible apply z52;omega));intro _|apply z6<;>intro _|apply z4 cF;rfl;rfl|apply z4 cH;rfl;rfl)<;>conv=>whnf)
  all_goals first|exfalso;omega|refine rsD [] [] rfl ?_;(repeat' first|exact y86 _|constructor)
 unfold vlB
 induction h with
 |tr =>
  intro _
  rw [z493]
  refine z7 z15 func160 rfl rfl 62 ntmps160 (by simp) ?_
  repeat' (((apply y4 ok;rfl))<;>conv=>whnf)
  all_goals (refine rsD [] [] rfl ?_;(repeat' first|exact y86 _|constructor))
 |«at» v hb=>intro _;rw [z460];exact basic _ hb (by simp [z81,Tree.kind])
 |nt =>
  intro _
  rw [z276,z493]
  have c1:QQ 160 [lst 3 Tree.cs' B,.int s,z27 Tree.cs' (.mk 1 0 [])] [] (.bool true) []:=by
   refine z7 z15 func160 rfl rfl 62 ntmps160 (by simp) ?_
   repeat' (((apply y4 ok;rfl))<;>conv=>whnf)
   all_goals (refine rsD [] [] rfl ?_;(repeat' first|exact y86 _|constructor))
  rw [argU]
  refine z7 z15 func160 rfl rfl 62 ntmps160 (by simp) ?_
  repeat' ((first|apply y4 ok;rfl|refine ⟨_,rfl,?_⟩|apply y43;omega|apply z4 c1;rfl;rfl)<;>conv=>whnf)
  all_goals (refine rsD [] [] rfl ?_;(repeat' first|exact y86 _|constructor))
 |na v hb =>
  intro _
  rw [z276,z460]
  have c1:=basic _ hb (by simp [z81,Tree.kind])
  rw [argU]
  refine z7 z15 func160 rfl rfl 62 ntmps160 (by simp) ?_
  repeat' ((first|apply y4 ok;rfl|refine ⟨_,rfl,?_⟩|apply y43;omega|apply z4 c1;rfl;rfl)<;>conv=>whnf)
  all_goals (refine rsD [] [] rfl ?_;(repeat' first|exact y86 _|constructor))
 |an _ _ iha ihb =>
  rename_i a b _ _
  intro hs
  rw [z338] at hs
  have ca:=iha (by omega)
  have cb:=ihb (by omega)
  rw [z594,argB]
  generalize a.vl (sgB B s)=x at *
  generalize b.vl (sgB B s)=y at *
  cases x
  all_goals
   refine z7 z15 func160 rfl rfl 62 ntmps160 (by simp) ?_
   repeat' ((first|apply y4 ok;rfl|refine ⟨_,rfl,?_⟩|apply y43;omega|apply z4 ca;rfl;rfl|apply z4 cb;rfl;rfl)<;>conv=>whnf)
   all_goals (refine rsD [] [] rfl ?_;(repeat' first|exact y86 _|constructor))
 |or _ _ iha ihb =>
  rename_i a b _ _
  intro hs
  rw [z338] at hs
  have ca:=iha (by omega)
  have cb:=ihb (by omega)
  rw [z1000,argB]
  generalize a.vl (sgB B s)=x at *
  generalize b.vl (sgB B s)=y at *
  cases x
  all_goals
   refine z7 z15 func160 rfl rfl 62 ntmps160 (by simp) ?_
   repeat' ((first|apply y4 ok;rfl|refine ⟨_,rfl,?_⟩|apply y43;omega|apply z4 ca;rfl;rfl|apply z4 cb;rfl;rfl)<;>conv=>whnf)
   all_goals (refine rsD [] [] rfl ?_;(repeat' first|exact y86 _|constructor))
 |nx hb _ _=>intro _;rw [z1001];exact basic _ hb (by simp [z81,Tree.kind])
 |un hb _ _ _ _=>intro _;rw [z998];exact basic _ hb (by simp [z81,Tree.kind])
 |re hb _ _ _ _=>intro _;rw [z999];exact basic _ hb (by simp [z81,Tree.kind])
set_option maxHeartbeats 3200000 in
theorem z586 (u:Tree) (hs:u.sz≤1000):QQ 228 [z27 Tree.cs' u] [] (.sref 0 0 (bscL u).length) [.cells 3 ((bscL u).map Tree.cs')]:=by
 have cS:=z844 u hs
 obtain ⟨_,_,_,hl,hz2,_⟩:=z198 u []
 simp only [y59,Nat.zero_add] at hl
 unfold bscL
 generalize u.subs []=L at *
 rw [y15 u] at *
 refine z7 z15 func228 rfl rfl 38 ntmps228 (by simp) ?_
 repeat' ((first|apply y4 ok;rfl|apply z11 [] [1] cS;rfl;rfl;rfl;(focus ((repeat' first|exact z17|apply z16)<;>(refine z20 ?_;((exact z5 fun _=>rfl))))))<;>conv=>whnf)
 refine y85 (y88 3 rfl) ?_
 refine z64 (fun x:Nat×List Tree=>([(3,.sref 0 0 x.2.length),(7,.sref 1 0 L.length),(8,.int L.length),(9,.int x.1)],[.cells 3 (x.2.map Tree.cs'),.cells 3 (L.map Tree.cs')])) (fun x=>x.1≤L.length∧(L.take x.1).filter z81=x.2) (fun x=>L.length - x.1) (0,[]) ⟨y53 _,rfl⟩ (by refine swR [2,1] [] rfl rfl ?_;(repeat' first|exact y86 _|exact z49|exact z10 _|(refine z9 rfl ?_ ?_);(focus ((repeat' (first|exact z25|exact z5 (fun _=>rfl)));done))|constructor)) ?_
 rintro ⟨k,O⟩ ⟨hk,hO⟩
 dsimp only at hk hO ⊢
 have hOl:O.length≤L.length:=by
  rw [← hO]
  have:=List.length_filter_le z81 (L.take k)
  rw [y48] at this
  omega
 by_cases hkl:k < L.length
 ·have gk:(L.map Tree.cs')[k]?=some (Tree.cs' L[k]):=by rw [y51,y45 hkl];rfl
  have ht:(L.take (k+1)).filter z81=O++(if z81 L[k]=true then [L[k]] else []):=by
   rw [y50 hkl,List.filter_append,hO]
   congr 1
   by_cases hb:z81 L[k]=true
   ·rw [if_pos hb,List.filter_cons_of_pos hb];rfl
   ·rw [if_neg hb,List.filter_cons_of_neg hb];rfl
  generalize L[k]=y at *
  by_cases hy:z81 y=true
  ·rw [if_pos hy] at ht
   have hy:=of_decide_eq_true (show decide _=true from hy)
   repeat' ((first|apply y4 ok;rfl|refine z13 (i:=k) rfl gk ?_|(apply y43;first|omega|unfold inI;omega|(try dsimp only);simp only [y49,y48,y47,y46,y58,y59];omega|exact ⟨rfl,z22 rfl z28⟩)|apply z6<;>intro _)<;>conv=>whnf)
   all_goals try (exfalso;omega)
   all_goals refine z24 (k+1,O++[y]) ⟨by show k+1≤_;omega,ht⟩ (by show L.length - (k+1) < L.length - k;omega) (by refine swR [4,1] [] rfl rfl ?_;(repeat' first|exact y86 _|exact z10 _|refine z50 ?_;((simp;done))|(first|refine z39 rfl ?_ ?_|refine z9 rfl ?_ ?_);(focus ((repeat' (first|exact z5 (fun _=>rfl)|apply z26));done))|refine z86 ?_ ?_;(focus omega)|constructor))
  ·rw [if_neg hy,y65] at ht
   have hy:=of_decide_eq_false (show decide _=false from (y72 _).mp hy)
   repeat' ((first|apply y4 ok;rfl|refine z13 (i:=k) rfl gk ?_|(apply y43;first|omega|unfold inI;omega)|apply z6<;>intro _)<;>conv=>whnf)
   all_goals try (exfalso;omega)
   all_goals refine z24 (k+1,O) ⟨by show k+1≤_;omega,ht⟩ (by show L.length - (k+1) < L.length - k;omega) (by refine swR [0,1] [] rfl rfl ?_;(repeat' first|exact y86 _|exact z10 _|refine z9 rfl (z5 (fun _=>rfl)) ?_|constructor))
 ·obtain rfl:k=L.length:=by omega
  rw [y56] at hO
  rw [hO]
  have cC:=z555 O (by omega)
  repeat' ((first|apply y4 ok;rfl|apply y43;omega|((apply z8;omega));intro _|apply z6<;>intro _|apply z124 [0] [] cC;rfl;(focus ((repeat' first|exact z38|apply z48)<;>(refine z65 rfl ?_;((exact z5 fun _=>rfl)))));rfl;(focus ((repeat' first|exact z17|apply z16)<;>(refine z20 ?_;((exact z5 fun _=>rfl))))))<;>conv=>whnf)
  all_goals try (exfalso;omega)
  all_goals (refine rsD [0] [] rfl ?_;(repeat' first|exact y86 _|exact z10 _|refine z9 rfl (z5 (fun _=>rfl)) ?_|constructor))
theorem z697 (t:Tree) (hs:t.sz≤200):QQ 145 [z27 Tree.cs' t] [] (.tup [lst 3 Tree.cs' (if bscB t then bscL (t.nrm false) else []),.bool (bscB t)]) []:=by
 have cn:=z1201 t (by omega)
 unfold bscB
 by_cases h:t.fmB=true∧(t.nrm false).fmB=true
 ·rw [if_pos h,y82 h] at cn
  have hz:=y29 t (y24 h.1) false
  have hd:decide ((t.fmB=true∧(t.nrm false).fmB=true)∧(bscL (t.nrm false)).length≤5)=decide ((bscL (t.nrm false)).length≤5):=by
   rw [decide_eq_decide];exact ⟨fun h=>h.2,fun h2=>⟨h,h2⟩⟩
  rw [hd]
  clear hd h
  generalize t.nrm false=u at *
  have cB:=z586 u (by omega)
  generalize bscL u=O at *
  rw [y15 u] at cn cB
  by_cases h5:O.length≤5
  ·rw [y82 h5,if_pos rfl]
   refine z7 z15 func145 rfl rfl 20 ntmps145 (by simp) ?_
   repeat' ((first|apply y4 ok;rfl|apply z6<;>intro _|apply z4 cn;rfl;rfl|apply z11 [] [2] cB;rfl;rfl;rfl;(focus ((repeat' first|exact z17|apply z16)<;>(refine z20 ?_;((exact z5 fun _=>rfl))))))<;>conv=>whnf)
   all_goals try (exfalso;omega)
   all_goals (refine rsD [] [2] rfl ?_;(repeat' first|exact y86 _|(apply z40 rfl rfl rfl);(focus ((repeat ((exact z30 (fun _=>rfl) _)));done));(focus (((simp;done));done))|apply z80|constructor))
  ·rw [y83 h5,if_neg (by simp)]
   refine z7 z15 func145 rfl rfl 20 ntmps145 (by simp) ?_
   repeat' ((first|apply y4 ok;rfl|apply z6<;>intro _|apply z4 cn;rfl;rfl|apply z11 [] [2] cB;rfl;rfl;rfl;(focus ((repeat' first|exact z17|apply z16)<;>(refine z20 ?_;((exact z5 fun _=>rfl))))))<;>conv=>whnf)
   all_goals try (exfalso;omega)
   all_goals (refine rsD [] [] rfl ?_;(repeat' first|exact y86 _|exact z43|apply z80|constructor))
 ·rw [if_neg h,y83 h] at cn
  have hd:decide ((t.fmB=true∧(t.nrm false).fmB=true)∧(bscL (t.nrm false)).length≤5)=false:=y83 fun h2=>h h2.1
  rw [hd,if_neg (by simp)]
  refine z7 z15 func145 rfl rfl 20 ntmps145 (by simp) ?_
  repeat' ((first|apply y4 ok;rfl|apply z4 cn;rfl;rfl)<;>conv=>whnf)
  all_goals (refine rsD [] [] rfl ?_;(repeat' first|exact y86 _|exact z43|apply z80|constructor))
theorem csU (k v:Int) (a:Tree):Tree.cs' (.mk k v [a])=[.int k,.int v,.list 3 1 [Tree.cs' a]]:=AC.agg.inj (argU k v a)
theorem csB2 (k v:Int) (a b:Tree):Tree.cs' (.mk k v [a,b])=[.int k,.int v,.list 3 2 [Tree.cs' a,Tree.cs' b]]:=AC.agg.inj (argB k v a b)
inductive FormB (B:List Tree):Tree→Prop
 |at (v:Int):FormB B (.mk 2 v [])
 |nx (a:Tree) (ha:In (·∈B) a) (sa:a.sz≤1000):FormB B (.mk 6 0 [a])
 |un (a b:Tree) (ha:In (·∈B) a) (hb:In (·∈B) b) (sa:a.sz≤1000) (sb:b.sz≤1000):FormB B (.mk 7 0 [a,b])
 |re (a b:Tree) (ha:In (·∈B) a) (hb:In (·∈B) b) (sa:a.sz≤1000) (sb:b.sz≤1000):FormB B (.mk 8 0 [a,b])
theorem BasL.form {B:List Tree} (h:BasL B) {x:Tree} (hx:x∈B):FormB B x:=by
 have h1:=h.cl x hx
 have h2:=h.bk x hx
 have h3:=h.sz x hx
 cases h1 with
 |tr=>simp [z81,Tree.kind] at h2
 |«at» v _=>exact .at v
 |nt=>simp [z81,Tree.kind] at h2
 |na v _=>simp [z81,Tree.kind] at h2
 |an _ _=>simp [z81,Tree.kind] at h2
 |or _ _=>simp [z81,Tree.kind] at h2
 |nx _ ha=>rw [z339] at h3;exact .nx _ ha (by omega)
 |un _ ha hb=>rw [z338] at h3;exact .un _ _ ha hb (by omega) (by omega)
 |re _ ha hb=>rw [z338] at h3;exact .re _ _ ha hb (by omega) (by omega)
theorem z793 {B:List Tree} {s t:Int} (h:∀ i,i < B.length→folI B s t i=true):folB B s t=true:=by
 unfold folB;rw [y79];exact fun i hi=>h i (List.mem_range.1 hi)
theorem z624 {B:List Tree} {s t:Int} {i:Nat} (hi:i < B.length) (h:folI B s t i=false):folB B s t=false:=by
 unfold folB;rw [List.all_eq_false];exact ⟨i,List.mem_range.2 hi,by rw [h];simp⟩
set_option maxHeartbeats 6400000 in
theorem z777 (B:List Tree) (hB:BasL B) (s t:Int) (s0:0≤s) (s1:s≤31) (t0:0≤t) (t1:t≤31):QQ 163 [lst 3 Tree.cs' B,.int s,.int t] [] (.bool (folB B s t)) []:=by
 have hl:=hB.len
 refine z7 z15 func163 rfl rfl 85 ntmps163 (by simp) ?_
 repeat' (((apply y4 ok;rfl))<;>conv=>whnf)
 refine z64 (fun i:Nat=>([(0,lst 3 Tree.cs' B),(1,.int s),(2,.int t),(7,.int i)],[])) (fun i=>i≤B.length∧∀ j,j < i→folI B s t j=true) (fun i=>B.length - i) 0 ⟨y53 _,fun j h=>absurd h (Nat.not_lt_zero _)⟩ (by refine swR [] [] rfl rfl ?_;(repeat' first|exact y86 _|constructor)) ?_
 rintro i ⟨hi,hj⟩
 by_cases hil:i < B.length
 ·have gk:(B.map Tree.cs')[i]?=some (Tree.cs' (B.getD i dftT)):=by rw [y51,y45 hil,z14 hil];rfl
  have hf:=hB.form (x:=B.getD i dftT) (by rw [z14 hil];exact y44 _)
  have cw:=z299 s i s0 s1 (by omega) (by omega)
  have cn:=z299 t i t0 t1 (by omega) (by omega)
  have hI:folI B s t i=(folV B s t (B.getD i dftT) (hasB s i) (hasB t i) == hasB s i):=rfl
  have hT:folI B s t i=true→∀ j,j < i+1→folI B s t j=true:=fun h j hji=>by
   rcases y70 j i with h3|h3
   ·exact hj j h3
   ·obtain rfl:j=i:=by omega
    exact h
  have hF:folI B s t i=false→folB B s t=false:=z624 hil
  rw [hI] at hT hF
  clear hI hj
  generalize B.getD i dftT=f at *
  generalize hasB s i=x at *
  generalize hasB t i=y at *
  cases hf with
  |«at» v =>
   have hT2:=hT (by simp [folV,Tree.kind])
   clear hT hF
   cases x
   all_goals
    repeat' ((first|apply y4 ok;rfl|refine z13 (i:=i) rfl gk ?_|(apply y43;first|omega|unfold inI;omega)|apply z6<;>intro _|apply z4 cw;rfl;rfl)<;>conv=>whnf)
    all_goals try (exfalso;omega)
    all_goals refine z24 (i+1) ⟨by omega,hT2⟩ (by omega) (by refine swR [] [] rfl rfl ?_;(repeat' first|exact y86 _|constructor))
  |nx a ha sa =>
   have ca:=z171 B hB t t0 t1 a ha sa
   have e:folV B s t (.mk 6 0 [a]) x y=vlB B t a:=by simp [folV,kidV,Tree.kind,Tree.kids]
   rw [e] at hT hF
   rw [csU] at gk
   clear e
   generalize vlB B t a=z at *
   cases x<;>cases z
   all_goals first|have hT:=hT rfl|(have hF:=hF rfl;rw [hF])
   all_goals
    repeat' ((first|apply y4 ok;rfl|refine z13 (i:=i) rfl gk ?_|refine ⟨_,rfl,?_⟩|(apply y43;first|omega|unfold inI;omega)|apply z6<;>intro _|apply z4 cw;rfl;rfl|apply z4 ca;rfl;rfl)<;>conv=>whnf)
    all_goals try (exfalso;omega)
    all_goals first|refine z24 (i+1) ⟨by omega,hT⟩ (by omega) (by refine swR [] [] rfl rfl ?_;(repeat' first|exact y86 _|constructor))|refine rsD [] [] rfl ?_;(repeat' first|exact y86 _|constructor)
  |un a b ha hb sa sb =>
   have ca:=z171 B hB s s0 s1 a ha sa
   have cb:=z171 B hB s s0 s1 b hb sb
   have e:folV B s t (.mk 7 0 [a,b]) x y=(vlB B s b || (vlB B s a && y)):=by simp [folV,kidV,Tree.kind,Tree.kids]
   rw [e] at hT hF
   rw [csB2] at gk
   clear e
   generalize vlB B s a=z at *
   generalize vlB B s b=u at *
   cases x<;>cases y<;>cases z<;>cases u
   all_goals first|have hT:=hT rfl|(have hF:=hF rfl;rw [hF])
   all_goals
    repeat' ((first|apply y4 ok;rfl|refine z13 (i:=i) rfl gk ?_|refine ⟨_,rfl,?_⟩|(apply y43;first|omega|unfold inI;omega)|apply z6<;>intro _|apply z4 cw;rfl;rfl|apply z4 cn;rfl;rfl|apply z4 ca;rfl;rfl|apply z4 cb;rfl;rfl)<;>conv=>whnf)
    all_goals try (exfalso;omega)
    all_goals first|refine z24 (i+1) ⟨by omega,hT⟩ (by omega) (by refine swR [] [] rfl rfl ?_;(repeat' first|exact y86 _|constructor))|refine rsD [] [] rfl ?_;(repeat' first|exact y86 _|constructor)
  |re a b ha hb sa sb =>
   have ca:=z171 B hB s s0 s1 a ha sa
   have cb:=z171 B hB s s0 s1 b hb sb
   have e:folV B s t (.mk 8 0 [a,b]) x y=(vlB B s b && (vlB B s a || y)):=by simp [folV,kidV,Tree.kind,Tree.kids]
   rw [e] at hT hF
   rw [csB2] at gk
   clear e
   generalize vlB B s a=z at *
   generalize vlB B s b=u at *
   cases x<;>cases y<;>cases z<;>cases u
   all_goals first|have hT:=hT rfl|(have hF:=hF rfl;rw [hF])
   all_goals
    repeat' ((first|apply y4 ok;rfl|refine z13 (i:=i) rfl gk ?_|refine ⟨_,rfl,?_⟩|(apply y43;first|omega|unfold inI;omega)|apply z6<;>intro _|apply z4 cw;rfl;rfl|apply z4 cn;rfl;rfl|apply z4 ca;rfl;rfl|apply z4 cb;rfl;rfl)<;>conv=>whnf)
    all_goals try (exfalso;omega)
    all_goals first|refine z24 (i+1) ⟨by omega,hT⟩ (by omega) (by refine swR [] [] rfl rfl ?_;(repeat' first|exact y86 _|constructor))|refine rsD [] [] rfl ?_;(repeat' first|exact y86 _|constructor)
 ·obtain rfl:i=B.length:=by omega
  rw [z793 fun j hji=>hj j hji]
  repeat' ((first|apply y4 ok;rfl|apply y43;omega|((with_reducible apply z8;omega));intro _|apply z6<;>intro _)<;>conv=>whnf)
  all_goals first|exfalso;omega|refine rsD [] [] rfl ?_;(repeat' first|exact y86 _|constructor)
theorem z776 (B:List Tree) (hB:BasL B) (s:Int) (s0:0≤s) (s1:s≤31) (u:Nat) (hu:u < B.length) (hk:(B.getD u dftT).kind=7):QQ 240 [lst 3 Tree.cs' B,.int s,.int u] [] (.bool (fulB B s u)) []:=by
 have hl:=hB.len
 have gk:(B.map Tree.cs')[u]?=some (Tree.cs' (B.getD u dftT)):=by rw [y51,y45 hu,z14 hu];rfl
 have hf:=hB.form (x:=B.getD u dftT) (by rw [z14 hu];exact y44 _)
 have cw:=z299 s u s0 s1 (by omega) (by omega)
 have e:fulB B s u=(!hasB s u || kidV B s (B.getD u dftT) 1):=rfl
 rw [e]
 generalize B.getD u dftT=f at *
 generalize hasB s u=x at *
 cases hf with
 |«at» v=>simp [Tree.kind] at hk
 |nx a _ _=>simp [Tree.kind] at hk
 |re a b _ _ _ _=>simp [Tree.kind] at hk
 |un a b ha hb sa sb =>
  have cb:=z171 B hB s s0 s1 b hb sb
  rw [csB2] at gk
  have e2:kidV B s (.mk 7 0 [a,b]) 1=vlB B s b:=by simp [kidV,Tree.kids]
  rw [e2]
  clear e e2
  generalize vlB B s b=y at *
  cases x
  all_goals
   refine z7 z15 func240 rfl rfl 23 ntmps240 (by simp) ?_
   repeat' ((first|apply y4 ok;rfl|refine z13 (i:=u) rfl gk ?_|refine ⟨_,rfl,?_⟩|apply y43;omega|apply z4 cw;rfl;rfl|apply z4 cb;rfl;rfl)<;>conv=>whnf)
   all_goals (refine rsD [] [] rfl ?_;(repeat' first|exact y86 _|constructor))
def untL (B:List Tree) (i:Nat):List Int:=((List.range i).filter fun i=>decide ((B.getD i dftT).kind=7)).map Int.ofNat
theorem z729 (B:List Tree) (i:Nat):untL B (i+1)=untL B i++(if (B.getD i dftT).kind=7 then [(i:Int)] else []):=by
 unfold untL
 rw [y62,List.filter_append,y64]
 congr 1
 by_cases h:(B.getD i dftT).kind=7
 ·rw [if_pos h,List.filter_cons_of_pos (by simpa using h)];rfl
 ·rw [if_neg h,List.filter_cons_of_neg (by simpa using h)];rfl
theorem z256 (B:List Tree) (i:Nat):(untL B i).length≤i:=by
 unfold untL
 rw [y49]
 have:=List.length_filter_le (fun i=>decide ((B.getD i dftT).kind=7)) (List.range i)
 simpa using this
theorem z884 (B:List Tree) (hl:B.length≤1000):QQ 159 [lst 3 Tree.cs' B] [] (ints (untB B)) []:=by
 refine z7 z15 func159 rfl rfl 23 ntmps159 (by simp) ?_
 repeat' (((apply y4 ok;rfl))<;>conv=>whnf)
 refine z64 (fun x:Nat×List Int=>([(0,lst 3 Tree.cs' B),(3,.sref 0 0 x.2.length),(4,.int x.1)],[.cells 1 (x.2.map enI)])) (fun x=>x.1≤B.length∧untL B x.1=x.2) (fun x=>B.length - x.1) (0,[]) ⟨y53 _,rfl⟩ (by refine swR [0] [] rfl rfl ?_;(repeat' first|exact y86 _|refine z9 rfl z25 ?_|constructor)) ?_
 rintro ⟨i,U⟩ ⟨hi,hU⟩
 dsimp only at hi hU ⊢
 have hul:=z256 B i
 rw [hU] at hul
 by_cases hil:i < B.length
 ·have gk:(B.map Tree.cs')[i]?=some (Tree.cs' (B.getD i dftT)):=by rw [y51,y45 hil,z14 hil];rfl
  have hs:=z729 B i
  rw [hU] at hs
  generalize B.getD i dftT=f at *
  by_cases hk:f.kind=7
  ·rw [if_pos hk] at hs
   repeat' ((first|apply y4 ok;rfl|refine z13 (i:=i) rfl gk ?_|(apply y43;first|omega|unfold inI;omega|(try dsimp only);simp only [y49,y48,y47,y46,y58,y59];omega|exact ⟨rfl,z22 rfl z28⟩)|apply z6<;>intro _)<;>conv=>whnf)
   all_goals try (exfalso;omega)
   all_goals refine z24 (i+1,U++[(i:Int)]) ⟨by show i+1≤_;omega,hs⟩ (by show B.length - (i+1) < B.length - i;omega) (by refine swR [2] [] rfl rfl ?_;(repeat' first|exact y86 _|refine z50 ?_;((simp;done))|(refine z39 rfl ?_ ?_);(focus ((repeat' (first|exact z5 (fun _=>rfl)|apply z26));done))|refine z86 ?_ ?_;(focus omega)|constructor))
  ·rw [if_neg hk,y65] at hs
   repeat' ((first|apply y4 ok;rfl|refine z13 (i:=i) rfl gk ?_|(apply y43;first|omega|unfold inI;omega)|apply z6<;>intro _)<;>conv=>whnf)
   all_goals try (exfalso;omega)
   all_goals refine z24 (i+1,U) ⟨by show i+1≤_;omega,hs⟩ (by show B.length - (i+1) < B.length - i;omega) (by refine swR [0] [] rfl rfl ?_;(repeat' first|exact y86 _|exact z10 _|refine z9 rfl (z5 (fun _=>rfl)) ?_|constructor))
 ·obtain rfl:i=B.length:=by omega
  have e:untB B=U:=hU
  rw [e]
  repeat' ((first|apply y4 ok;rfl|apply y43;omega|((with_reducible apply z8;omega));intro _|apply z6<;>intro _)<;>conv=>whnf)
  all_goals first|exfalso;omega|refine rsD [] [0] rfl ?_;(repeat' first|exact y86 _|(apply z40 rfl rfl rfl);(focus ((repeat ((exact z30 (fun _=>rfl) _)));done));(focus (((simp;done));done))|constructor)
theorem z646 {B:List Tree} {x:Int} (h:x∈untB B):∃ u:Nat,x=u∧u < B.length∧(B.getD u dftT).kind=7:=by
 unfold untB at h
 obtain ⟨u,hu,rfl⟩:=List.mem_map.1 h
 obtain ⟨h1,h2⟩:=List.mem_filter.1 hu
 exact ⟨u,rfl,List.mem_range.1 h1,of_decide_eq_true h2⟩
theorem z1042 (B:List Tree) (hB:BasL B) (s:Int) (s0:0≤s) (s1:s≤31) (ph:Nat) (hp:(untB B).length=0∨ph < (untB B).length):QQ 161 [lst 3 Tree.cs' B,ints (untB B),.int s,.int ph] [] (.tup [.int (phB B (untB B) s ph).1,.bool (phB B (untB B) s ph).2]) []:=by
 have hl:=hB.len
 have hul:(untB B).length≤B.length:=z256 B B.length
 have hm:=fun x=>@z646 B x
 unfold phB
 generalize untB B=U at *
 by_cases h0:U.length=0
 ·rw [if_pos h0]
  refine z7 z15 func161 rfl rfl 28 ntmps161 (by simp) ?_
  repeat' ((first|apply y4 ok;rfl|apply y43;omega|((with_reducible apply z8;omega));intro _|apply z6<;>intro _)<;>conv=>whnf)
  all_goals first|exfalso;omega|refine rsD [] [] rfl ?_;(repeat' first|exact y86 _|constructor)
 ·rw [if_neg h0]
  have hpl:ph < U.length:=by omega
  have gu:(U.map enI)[ph]?=some (enI (U.getD ph 0)):=by rw [y51,y45 hpl,z14 hpl];rfl
  obtain ⟨u,e,hu,hk⟩:=hm (U.getD ph 0) (by rw [z14 hpl];exact y44 _)
  rw [e] at gu
  have cf:=z776 B hB s s0 s1 u hu hk
  rw [y77,e]
  generalize fulB B s u=z at *
  cases z
  ·refine z7 z15 func161 rfl rfl 28 ntmps161 (by simp) ?_
   repeat' ((first|apply y4 ok;rfl|refine z13 (i:=ph) rfl gu ?_|apply y43;omega|apply z6<;>intro _|apply z4 cf;rfl;rfl)<;>conv=>whnf)
   all_goals first|exfalso;omega|refine rsD [] [] rfl ?_;(repeat' first|exact y86 _|constructor)
  ·refine z7 z15 func161 rfl rfl 28 ntmps161 (by simp) ?_
   repeat' ((first|apply y4 ok;rfl|refine z13 (i:=ph) rfl gu ?_|(apply y43;first|omega|unfold inI;omega)|apply z6<;>intro _|apply z4 cf;rfl;rfl)<;>conv=>whnf)
   all_goals try (exfalso;omega)
   all_goals (refine rsD [] [] rfl ?_;(repeat' first|exact y86 _|constructor))
theorem z805 {s:Int} {i:Nat} (s0:0≤s) (s1:s≤31) (hi:i≤5):0≤s / 2 ^ i∧s / 2 ^ i≤31:=by
 have:i=0∨i=1∨i=2∨i=3∨i=4∨i=5:=by omega
 rcases this with rfl|rfl|rfl|rfl|rfl|rfl<;>simp<;>omega
theorem div_bd2 {s a:Int} (s0:0≤s) (s1:s≤31) (h0:0≤a) (h1:a≤5):0≤s / 2 ^ a.toNat∧s / 2 ^ a.toNat≤31:=z805 s0 s1 (by omega)
set_option maxHeartbeats 3200000 in
theorem z268 (B:List Tree) (U:List Int) (hB:BasL B) (s:Int) (s0:0≤s) (s1:s≤31) (t:Tree) (h:In (·∈B) t):t.sz≤1000→QQ 147 [.pt [lst 3 Tree.cs' B,ints U],z27 Tree.cs' t,.int s] [] (.bool (vlB B s t)) []:=by
 have hl:=hB.len
 have basic:∀ t,t∈B→QQ 147 [.pt [lst 3 Tree.cs' B,ints U],z27 Tree.cs' t,.int s] [] (.bool (sgB B s t)) []:=fun t ht=>by
  have cF:=z302 B (by omega) hB.mx t (hB.mx t ht)
  have hp:=z1152 ht
  have e:idxF (fun x=>decide (x=t)) B=plc B t:=rfl
  rw [e] at cF
  have hd:=div_bd2 s0 s1 hp.1 (show plc B t≤5 by omega)
  unfold sgB
  generalize plc B t=p at *
  rw [y15 t] at cF ⊢
  refine z7 z15 func147 rfl rfl 69 ntmps147 (by simp) ?_
  repeat' ((first|apply y4 ok;rfl|apply z23;kernel_rfl|refine y43 (by unfold z100;omega) ?_|apply y43;omega|((with_reducible apply z52;omega));intro _|apply z6<;>intro _|apply z4 cF;rfl;rfl)<;>conv=>whnf)
  all_goals first|exfalso;omega|refine rsD [] [] rfl ?_;(repeat' first|exact y86 _|constructor)
 have none:∀ t:Tree,t.sz≤1000→z81 t=false→QQ 230 [lst 3 Tree.cs' B,z27 Tree.cs' t] [] (.int (-1)) []:=fun t hs hb=>by
  have cF:=z302 B (by omega) hB.mx t (z101 t (by unfold maxLen;omega))
  have e:idxF (fun x=>decide (x=t)) B=-1:=z157 fun j hj=>y83 fun e=>by have:=hB.bk _ (y44 hj);rw [e,hb] at this;cases this
  rwa [e] at cF
 unfold vlB
 induction h with
 |tr =>
  intro hs
  have cn:=none (.mk 1 0 []) hs rfl
  rw [z493]
  refine z7 z15 func147 rfl rfl 69 ntmps147 (by simp) ?_
  repeat' ((first|apply y4 ok;rfl|apply z23;kernel_rfl|apply z4 cn;rfl;rfl)<;>conv=>whnf)
  all_goals (refine rsD [] [] rfl ?_;(repeat' first|exact y86 _|constructor))
 |«at» v hb=>intro _;rw [z460];exact basic _ hb
 |nt =>
  intro hs
  have cn:=none (.mk 3 0 [.mk 1 0 []]) hs rfl
  have cn2:=none (.mk 1 0 []) (by simp [z502]) rfl
  rw [z276,z493]
  have c1:QQ 147 [.pt [lst 3 Tree.cs' B,ints U],z27 Tree.cs' (.mk 1 0 []),.int s] [] (.bool true) []:=by
   refine z7 z15 func147 rfl rfl 69 ntmps147 (by simp) ?_
   repeat' ((first|apply y4 ok;rfl|apply z23;kernel_rfl|apply z4 cn2;rfl;rfl)<;>conv=>whnf)
   all_goals (refine rsD [] [] rfl ?_;(repeat' first|exact y86 _|constructor))
  rw [argU] at cn ⊢
  refine z7 z15 func147 rfl rfl 69 ntmps147 (by simp) ?_
  repeat' ((first|apply y4 ok;rfl|apply z23;kernel_rfl|refine ⟨_,rfl,?_⟩|apply y43;omega|apply z4 cn;rfl;rfl|apply z4 c1;rfl;rfl)<;>conv=>whnf)
  all_goals (refine rsD [] [] rfl ?_;(repeat' first|exact y86 _|constructor))
 |na v hb =>
  intro hs
  have cn:=none (.mk 3 0 [.mk 2 v []]) hs rfl
  rw [z276,z460]
  have c1:=basic _ hb
  rw [argU] at cn ⊢
  refine z7 z15 func147 rfl rfl 69 ntmps147 (by simp) ?_
  repeat' ((first|apply y4 ok;rfl|apply z23;kernel_rfl|refine ⟨_,rfl,?_⟩|apply y43;omega|apply z4 cn;rfl;rfl|apply z4 c1;rfl;rfl)<;>conv=>whnf)
  all_goals (refine rsD [] [] rfl ?_;(repeat' first|exact y86 _|constructor))
 |an _ _ iha ihb =>
  rename_i a b _ _
  intro hs
  have cn:=none (.mk 4 0 [a,b]) hs rfl
  rw [z338] at hs
  have ca:=iha (by omega)
  have cb:=ihb (by omega)
  rw [z594,argB]
  rw [argB] at cn
  generalize a.vl (sgB B s)=x at *
  generalize b.vl (sgB B s)=y at *
  cases x
  all_goals
   refine z7 z15 func147 rfl rfl 69 ntmps147 (by simp) ?_
   repeat' ((first|apply y4 ok;rfl|apply z23;kernel_rfl|refine ⟨_,rfl,?_⟩|apply y43;omega|apply z4 cn;rfl;rfl|apply z4 ca;rfl;rfl|apply z4 cb;rfl;rfl)<;>conv=>whnf)
   all_goals (refine rsD [] [] rfl ?_;(repeat' first|exact y86 _|constructor))
 |or _ _ iha ihb =>
  rename_i a b _ _
  intro hs
  have cn:=none (.mk 5 0 [a,b]) hs rfl
  rw [z338] at hs
  have ca:=iha (by omega)
  have cb:=ihb (by omega)
  rw [z1000,argB]
  rw [argB] at cn
  generalize a.vl (sgB B s)=x at *
  generalize b.vl (sgB B s)=y at *
  cases x
  all_goals
   refine z7 z15 func147 rfl rfl 69 ntmps147 (by simp) ?_
   repeat' ((first|apply y4 ok;rfl|apply z23;kernel_rfl|refine ⟨_,rfl,?_⟩|apply y43;omega|apply z4 cn;rfl;rfl|apply z4 ca;rfl;rfl|apply z4 cb;rfl;rfl)<;>conv=>whnf)
   all_goals (refine rsD [] [] rfl ?_;(repeat' first|exact y86 _|constructor))
 |nx hb _ _=>intro _;rw [z1001];exact basic _ hb
 |un hb _ _ _ _=>intro _;rw [z998];exact basic _ hb
 |re hb _ _ _ _=>intro _;rw [z999];exact basic _ hb
set_option maxHeartbeats 6400000 in
theorem z1059 (B:List Tree) (U:List Int) (hB:BasL B) (s t:Int) (s0:0≤s) (s1:s≤31) (t0:0≤t) (t1:t≤31):QQ 233 [.pt [lst 3 Tree.cs' B,ints U],.int s,.int t] [] (.bool (folB B s t)) []:=by
 have hl:=hB.len
 refine z7 z15 func233 rfl rfl 90 ntmps233 (by simp) ?_
 repeat' (((apply y4 ok;rfl))<;>conv=>whnf)
 refine z64 (fun i:Nat=>([(0,.pt [lst 3 Tree.cs' B,ints U]),(1,.int s),(2,.int t),(15,lst 3 Tree.cs' B),(16,.int B.length),(17,.int i)],[])) (fun i=>i≤B.length∧∀ j,j < i→folI B s t j=true) (fun i=>B.length - i) 0 ⟨y53 _,fun j h=>absurd h (Nat.not_lt_zero _)⟩ (by refine swR [] [] rfl rfl ?_;(repeat' first|exact y86 _|constructor)) ?_
 rintro i ⟨hi,hj⟩
 by_cases hil:i < B.length
 ·have gk:(B.map Tree.cs')[i]?=some (Tree.cs' (B.getD i dftT)):=by rw [y51,y45 hil,z14 hil];rfl
  have hf:=hB.form (x:=B.getD i dftT) (by rw [z14 hil];exact y44 _)
  have d1:=z805 (i:=i) s0 s1 (by omega)
  have d2:=z805 (i:=i) t0 t1 (by omega)
  have hI:folI B s t i=(folV B s t (B.getD i dftT) (hasB s i) (hasB t i) == hasB s i):=rfl
  have hT:folI B s t i=true→∀ j,j < i+1→folI B s t j=true:=fun h j hji=>by
   rcases y70 j i with h3|h3
   ·exact hj j h3
   ·obtain rfl:j=i:=by omega
    exact h
  have hF:folI B s t i=false→folB B s t=false:=z624 hil
  rw [hI] at hT hF
  clear hI hj
  generalize B.getD i dftT=f at *
  repeat' ((first|(fail_if_success apply z96 5);(fail_if_success apply z77 5);apply y4 ok;rfl|apply z23;kernel_rfl|refine z13 (i:=i) rfl gk ?_|refine y43 (by unfold z100;(rw [y77];omega)) ?_|apply y43;omega|apply z6<;>intro _)<;>conv=>whnf)
  all_goals try (exfalso;omega)
  refine y85 (show Gl.Reach _ _ (mkSt _ [(0,.pt [lst 3 Tree.cs' B,ints U]),(1,.int s),(2,.int t),(8,.ptr 0 none 0),(9,.bool (hasB s i)),(10,.bool (hasB t i)),(15,lst 3 Tree.cs' B),(16,.int B.length),(17,.int i)] [.cells 3 [Tree.cs' f]]) from (by refine swR [0] [] rfl rfl ?_;(repeat' first|exact y86 _|apply y87|constructor))) ?_
  generalize hasB s i=x at *
  generalize hasB t i=y at *
  cases hf with
  |«at» v =>
   have hT2:=hT (by simp [folV,Tree.kind])
   clear hT hF
   cases x
   all_goals
    repeat' ((first|apply y4 ok;rfl|apply y43;(unfold inI;omega))<;>conv=>whnf)
    all_goals refine z24 (i+1) ⟨by omega,hT2⟩ (by omega) (by refine swR [] [] rfl rfl ?_;(repeat' first|exact y86 _|constructor))
  |nx a ha sa =>
   have ca:=z268 B U hB t t0 t1 a ha sa
   have e:folV B s t (.mk 6 0 [a]) x y=vlB B t a:=by simp [folV,kidV,Tree.kind,Tree.kids]
   rw [e] at hT hF
   rw [csU]
   clear e
   generalize vlB B t a=z at *
   cases x<;>cases z
   all_goals first|have hT:=hT rfl|(have hF:=hF rfl;rw [hF])
   all_goals
    repeat' ((first|apply y4 ok;rfl|refine ⟨_,rfl,?_⟩|(apply y43;first|omega|unfold inI;omega)|apply z4 ca;rfl;rfl)<;>conv=>whnf)
    all_goals first|refine z24 (i+1) ⟨by omega,hT⟩ (by omega) (by refine swR [] [] rfl rfl ?_;(repeat' first|exact y86 _|constructor))|refine rsD [] [] rfl ?_;(repeat' first|exact y86 _|constructor)
  |un a b ha hb sa sb =>
   have ca:=z268 B U hB s s0 s1 a ha sa
   have cb:=z268 B U hB s s0 s1 b hb sb
   have e:folV B s t (.mk 7 0 [a,b]) x y=(vlB B s b || (vlB B s a && y)):=by simp [folV,kidV,Tree.kind,Tree.kids]
   rw [e] at hT hF
   rw [csB2]
   clear e
   generalize vlB B s a=z at *
   generalize vlB B s b=u at *
   cases x<;>cases y<;>cases z<;>cases u
   all_goals first|have hT:=hT rfl|(have hF:=hF rfl;rw [hF])
   all_goals
    repeat' ((first|apply y4 ok;rfl|refine ⟨_,rfl,?_⟩|(apply y43;first|omega|unfold inI;omega)|apply z4 ca;rfl;rfl|apply z4 cb;rfl;rfl)<;>conv=>whnf)
    all_goals first|refine z24 (i+1) ⟨by omega,hT⟩ (by omega) (by refine swR [] [] rfl rfl ?_;(repeat' first|exact y86 _|constructor))|refine rsD [] [] rfl ?_;(repeat' first|exact y86 _|constructor)
  |re a b ha hb sa sb =>
   have ca:=z268 B U hB s s0 s1 a ha sa
   have cb:=z268 B U hB s s0 s1 b hb sb
   have e:folV B s t (.mk 8 0 [a,b]) x y=(vlB B s b && (vlB B s a || y)):=by simp [folV,kidV,Tree.kind,Tree.kids]
   rw [e] at hT hF
   rw [csB2]
   clear e
   generalize vlB B s a=z at *
   generalize vlB B s b=u at *
   cases x<;>cases y<;>cases z<;>cases u
   all_goals first|have hT:=hT rfl|(have hF:=hF rfl;rw [hF])
   all_goals
    repeat' ((first|apply y4 ok;rfl|refine ⟨_,rfl,?_⟩|(apply y43;first|omega|unfold inI;omega)|apply z4 ca;rfl;rfl|apply z4 cb;rfl;rfl)<;>conv=>whnf)
    all_goals first|refine z24 (i+1) ⟨by omega,hT⟩ (by omega) (by refine swR [] [] rfl rfl ?_;(repeat' first|exact y86 _|constructor))|refine rsD [] [] rfl ?_;(repeat' first|exact y86 _|constructor)
 ·obtain rfl:i=B.length:=by omega
  rw [z793 fun j hji=>hj j hji]
  repeat' ((first|apply y4 ok;rfl|apply z23;kernel_rfl|apply y43;omega|(first|with_reducible apply z8;omega|with_reducible apply z52;omega);intro _|(first|apply z6|apply z42|apply z82)<;>intro _)<;>conv=>whnf)
  all_goals first|exfalso;omega|refine rsD [] [] rfl ?_;(repeat' first|exact y86 _|constructor)
theorem z623 (B:List Tree) (U:List Int) (hB:BasL B) (s:Int) (s0:0≤s) (s1:s≤31) (ph u:Nat) (hph:ph < U.length) (hUl:U.length≤100) (e:U.getD ph 0=u) (hu:u < B.length) (hk:(B.getD u dftT).kind=7):QQ 149 [.pt [lst 3 Tree.cs' B,ints U],.int s,.int ph] [] (.bool (fulB B s u)) []:=by
 have hl:=hB.len
 have gu:(U.map enI)[ph]?=some (enI u):=by rw [← e,y51,y45 hph,z14 hph];rfl
 have gk:(B.map Tree.cs')[u]?=some (Tree.cs' (B.getD u dftT)):=by rw [y51,y45 hu,z14 hu];rfl
 have hf:=hB.form (x:=B.getD u dftT) (by rw [z14 hu];exact y44 _)
 have d1:=z805 (i:=u) s0 s1 (by omega)
 have e:fulB B s u=(!hasB s u || kidV B s (B.getD u dftT) 1):=rfl
 have hx:(hasB s u=true→((((s / 2 ^ ((u:Int)).toNat).toNat &&& (1:Int).toNat:Nat):Int))=1)∧(hasB s u=false→((((s / 2 ^ ((u:Int)).toNat).toNat &&& (1:Int).toNat:Nat):Int))=0):=by
  have h1:∀ n:Nat,n &&& 1=n % 2:=fun n=>Nat.and_one_is_mod n
  unfold hasB
  constructor
  ·intro h;exact of_decide_eq_true h
  ·intro h
   have:=of_decide_eq_false h
   rw [show (1:Int).toNat=1 from rfl,h1] at *
   omega
 rw [e]
 generalize B.getD u dftT=f at *
 cases hf with
 |«at» v=>simp [Tree.kind] at hk
 |nx a _ _=>simp [Tree.kind] at hk
 |re a b _ _ _ _=>simp [Tree.kind] at hk
 |un a b ha hb sa sb =>
  have cb:=z268 B U hB s s0 s1 b hb sb
  rw [csB2] at gk
  have e2:kidV B s (.mk 7 0 [a,b]) 1=vlB B s b:=by simp [kidV,Tree.kids]
  rw [e2]
  clear e e2
  generalize vlB B s b=y at *
  generalize hasB s u=x at *
  cases x
  ·have hx:=hx.2 rfl
   refine z7 z15 func149 rfl rfl 35 ntmps149 (by simp) ?_
   repeat' ((first|apply y4 ok;rfl|refine z13 (i:=ph) rfl gu ?_|refine z13 (i:=u) rfl gk ?_|refine ⟨_,rfl,?_⟩|refine y43 (by unfold z100;(rw [y77];omega)) ?_|apply y43;omega|apply z6<;>intro _|apply z4 cb;rfl;rfl)<;>conv=>whnf)
   all_goals try (exfalso;omega)
   all_goals (refine rsD [] [] rfl ?_;(repeat' first|exact y86 _|constructor))
  ·have hx:=hx.1 rfl
   refine z7 z15 func149 rfl rfl 35 ntmps149 (by simp) ?_
   repeat' ((first|apply y4 ok;rfl|refine z13 (i:=ph) rfl gu ?_|refine z13 (i:=u) rfl gk ?_|refine ⟨_,rfl,?_⟩|refine y43 (by unfold z100;(rw [y77];omega)) ?_|apply y43;omega|apply z6<;>intro _|apply z4 cb;rfl;rfl)<;>conv=>whnf)
   all_goals try (exfalso;omega)
   all_goals (refine rsD [] [] rfl ?_;(repeat' first|exact y86 _|constructor))
end Go.Proofs.YtjhgpfaodkchjaaGreat
