/- A part of the proofs over this program: T144, T225, T145, T180, T226, T146, T147, T227, T148, T149, T228, T229. -/
import Derived.Test.YtjhgpfaodkchjaaGreatG0
import Derived.Test.YtjhgpfaodkchjaaGreatG1
import Derived.Test.YtjhgpfaodkchjaaGreatG2
import Derived.Test.YtjhgpfaodkchjaaGreatG3
import Derived.Test.YtjhgpfaodkchjaaGreatP0
import Derived.Test.YtjhgpfaodkchjaaGreatP1
import Derived.Test.YtjhgpfaodkchjaaGreatP2
import Derived.Test.YtjhgpfaodkchjaaGreatP3
set_option linter.all false
namespace Go.Proofs.YtjhgpfaodkchjaaGreat
open Go.Gl
attribute [local irreducible] z18 AWP z41 z46 z44 RetS z51
theorem z368 (t:Tree) (hs:t.sz≤1000):CallsA Tryz.prog 158 [z25 Tree.cs' t] [] (.tup [z25 Tree.cs' (if t.fmB=true∧(t.nrm false).fmB=true then t.nrm false else dftT),.bool (decide (t.fmB=true∧(t.nrm false).fmB=true))]) []:=by
 have cv:=z135 t (z98 t (by unfold maxLen;omega))
 by_cases h1:t.fmB=true
 ·have hg:=y23 h1
  have cp:=z1090 t hg false
  have hz:=y28 t hg false
  have cw:=z135 (t.nrm false) (z98 _ (by unfold maxLen;omega))
  rw [h1] at cv ⊢
  generalize t.nrm false=u at *
  by_cases h2:u.fmB=true
  ·rw [h2] at cw ⊢
   rw [if_pos ⟨rfl,rfl⟩,y78 ⟨rfl,rfl⟩]
   rw [y14 t] at cv cp ⊢
   rw [y14 u] at cp cw ⊢
   refine z7 z14 Tryz.func158 rfl rfl 16 Tryz.ntmps158 (by simp) ?_
   repeat' ((first|(apply y81 ok;rfl)|(apply z4 (cv);rfl;rfl)|(apply z4 (cp);rfl;rfl)|(apply z4 (cw);rfl;rfl))<;>conv=>whnf)
   all_goals (refine rsD [] [] rfl ?_;(repeat' first|exact y83 _|constructor))
  ·rw [if_neg (fun h=>h2 h.2),y79 (fun h=>h2 h.2)]
   rw [(y69 _).mp h2] at cw
   rw [y14 t] at cv cp ⊢
   rw [y14 u] at cp cw
   refine z7 z14 Tryz.func158 rfl rfl 16 Tryz.ntmps158 (by simp) ?_
   repeat' ((first|(apply y81 ok;rfl)|(apply z4 (cv);rfl;rfl)|(apply z4 (cp);rfl;rfl)|(apply z4 (cw);rfl;rfl))<;>conv=>whnf)
   all_goals (refine rsD [] [] rfl ?_;(repeat' first|exact y83 _|exact z38|apply z36|apply z69|constructor))
 ·rw [if_neg (fun h=>h1 h.1),y79 (fun h=>h1 h.1)]
  rw [(y69 _).mp h1] at cv
  rw [y14 t] at cv ⊢
  refine z7 z14 Tryz.func158 rfl rfl 16 Tryz.ntmps158 (by simp) ?_
  repeat' ((first|(apply y81 ok;rfl)|(apply z4 (cv);rfl;rfl))<;>conv=>whnf)
  all_goals (refine rsD [] [] rfl ?_;(repeat' first|exact y83 _|exact z38|apply z36|apply z69|constructor))
theorem z1112 (a:Tree):a.mx→∀ b:Tree,b.mx→CallsA Tryz.prog 278 [z25 Tree.cs' a,z25 Tree.cs' b] [] (.bool (decide (a=b))) []:=by
 induction a using y26 with|h a ih=>?_
 intro ha b hb
 rw [y27] at ha hb
 have hal:=ha.1
 have hbl:=hb.1
 unfold maxLen at hal hbl
 rw [y14,y14]
 by_cases hk:a.kind=b.kind∧a.val=b.val∧a.kids.length=b.kids.length
 ·obtain ⟨k1,k2,k3⟩:=hk
  have hiff:(a=b)↔∀ i (h:i < a.kids.length) (h2:i < b.kids.length),a.kids[i]=b.kids[i]:=⟨fun e=>by subst e;exact fun _ _ _=>rfl,fun h=>Tree.ext k1 k2 (y72 k3 h)⟩
  have hc:∀ i (h:i < a.kids.length) (h2:i < b.kids.length),CallsA Tryz.prog 278 [z25 Tree.cs' a.kids[i],z25 Tree.cs' b.kids[i]] [] (.bool (decide (a.kids[i]=b.kids[i]))) []:=fun i h h2=>ih _ (y42 _) (ha.2 _ (y42 _)) _ (hb.2 _ (y42 _))
  clear ih
  have hT:(∀ i (h:i < a.kids.length) (h2:i < b.kids.length),a.kids[i]=b.kids[i])→decide (a=b)=true:=fun h=>y78 (hiff.2 h)
  have hF:∀ i (h:i < a.kids.length) (h2:i < b.kids.length),a.kids[i]≠b.kids[i]→decide (a=b)=false:=fun i h h2 hne=>y79 fun e=>hne (hiff.1 e i h h2)
  generalize decide (a=b)=D at *
  clear hiff
  generalize a.kids=A at *
  generalize b.kids=B at *
  refine z7 z14 Tryz.func278 rfl rfl 46 Tryz.ntmps278 (by simp) ?_
  repeat' ((first|(apply y81 ok;rfl)|((apply z35)<;>intro _))<;>conv=>whnf)
  all_goals try (exfalso;omega)
  refine z64 (fun i:Nat=>([(2,.ptr 0 none 0),(3,.ptr 1 none 0),(5,.int i)],[.cells 3 [[.int a.kind,.int a.val,lst 3 Tree.cs' A]],.cells 3 [[.int b.kind,.int b.val,lst 3 Tree.cs' B]]])) (fun i=>i≤A.length∧∀ j (h:j < A.length) (h2:j < B.length),j < i→A[j]=B[j]) (fun i=>A.length - i) 0 ⟨y51 _,fun j _ _ h=>absurd h (Nat.not_lt_zero _)⟩ (by refine swR [0,1] [] rfl rfl ?_;(repeat' first|exact y83 _|apply y84|constructor)) ?_
  rintro i ⟨hi,hj⟩
  by_cases hil:i < A.length
  ·have hil2:i < B.length:=by omega
   have c1:=hc i hil hil2
   have gA:(A.map Tree.cs')[i]?=some (Tree.cs' A[i]):=by rw [y49,y43 hil];rfl
   have gB:(B.map Tree.cs')[i]?=some (Tree.cs' B[i]):=by rw [y49,y43 hil2];rfl
   by_cases he:A[i]=B[i]
   ·rw [y78 he] at c1
    have hj2:∀ j (h:j < A.length) (h2:j < B.length),j < i+1→A[j]=B[j]:=fun j h h2 hji=>by
     rcases y67 j i with h3|h3
     ·exact hj j h h2 h3
     ·obtain rfl:j=i:=by omega
      exact he
    generalize A[i]=x at *
    generalize B[i]=y at *
    repeat' ((first|(apply y81 ok;rfl)|(apply z31;kernel_rfl)|(refine z13 (i:=i) rfl gA ?_)|(refine z13 (i:=i) rfl gB ?_)|(apply y41;first|omega|(unfold inI;omega))|((apply z6)<;>intro _)|(apply z4 (c1);rfl;rfl))<;>conv=>whnf)
    all_goals try (exfalso;omega)
    all_goals refine z26 (i+1) ⟨by omega,hj2⟩ (by omega) (by refine swR [0,1] [] rfl rfl ?_;(repeat' first|exact y83 _|apply y84|constructor))
   ·rw [y79 he] at c1
    have hD:=hF i hil hil2 he
    subst hD
    generalize A[i]=x at *
    generalize B[i]=y at *
    repeat' ((first|(apply y81 ok;rfl)|(apply z31;kernel_rfl)|(refine z13 (i:=i) rfl gA ?_)|(refine z13 (i:=i) rfl gB ?_)|(apply y41;omega)|((apply z6)<;>intro _)|(apply z4 (c1);rfl;rfl))<;>conv=>whnf)
    all_goals try (exfalso;omega)
    all_goals (refine rsD [] [] rfl ?_;(repeat' first|exact y83 _|constructor))
  ·have hD:=hT (fun j h h2=>hj j h h2 (by omega))
   subst hD
   repeat' ((first|(apply y81 ok;rfl)|(apply y41;omega)|(((with_reducible apply z9;omega));intro _)|((apply z6)<;>intro _))<;>conv=>whnf)
   all_goals try (exfalso;omega)
   all_goals (refine rsD [] [] rfl ?_;(repeat' first|exact y83 _|constructor))
 ·rw [y79 (fun e=>hk (by subst e;exact ⟨rfl,rfl,rfl⟩))]
  clear ih
  refine z7 z14 Tryz.func278 rfl rfl 46 Tryz.ntmps278 (by simp) ?_
  repeat' ((first|(apply y81 ok;rfl)|((apply z35)<;>intro _))<;>conv=>whnf)
  all_goals first|(exfalso;omega)|(refine rsD [] [] rfl ?_;(repeat' first|exact y83 _|constructor))
theorem z730 (l:List Tree) (hl:l.length≤1000000) (hm:∀ t∈l,t.mx) (t:Tree) (ht:t.mx):CallsA Tryz.prog 239 [lst 3 Tree.cs' l,z25 Tree.cs' t] [] (.int (idxF (fun x=>decide (x=t)) l)) []:=by
 have hc:∀ i (h:i < l.length),CallsA Tryz.prog 278 [z25 Tree.cs' l[i],z25 Tree.cs' t] [] (.bool (decide (l[i]=t))) []:=fun i h=>z1112 _ (hm _ (y42 _)) _ ht
 rw [y14 t] at *
 refine z7 z14 Tryz.func239 rfl rfl 19 Tryz.ntmps239 (by simp) ?_
 repeat' (((apply y81 ok;rfl))<;>conv=>whnf)
 refine z64 (fun i:Nat=>([(0,lst 3 Tree.cs' l),(3,.ptr 0 none 0),(5,.int i)],[.cells 3 [[.int t.kind,.int t.val,lst 3 Tree.cs' t.kids]]])) (fun i=>i≤l.length∧∀ j (h:j < l.length),j < i→decide (l[j]=t)=false) (fun i=>l.length - i) 0 ⟨y51 _,fun j _ h=>absurd h (Nat.not_lt_zero _)⟩ (by refine swR [0] [] rfl rfl ?_;(repeat' first|exact y83 _|apply y84|constructor)) ?_
 rintro i ⟨hi,hj⟩
 by_cases hil:i < l.length
 ·have c1:=hc i hil
  have gl:(l.map Tree.cs')[i]?=some (Tree.cs' l[i]):=by rw [y49,y43 hil];rfl
  by_cases he:l[i]=t
  ·have e:idxF (fun x=>decide (x=t)) l=i:=z179 hil (y78 he) fun j h h2=>hj j h h2
   rw [e]
   rw [y78 he] at c1
   generalize l[i]=x at *
   repeat' ((first|(apply y81 ok;rfl)|(apply z31;kernel_rfl)|(refine z13 (i:=i) rfl gl ?_)|(apply y41;omega)|((apply z6)<;>intro _)|(apply z4 (c1);rfl;rfl))<;>conv=>whnf)
   all_goals try (exfalso;omega)
   all_goals (refine rsD [] [] rfl ?_;(repeat' first|exact y83 _|constructor))
  ·have hj2:∀ j (h:j < l.length),j < i+1→decide (l[j]=t)=false:=fun j h hji=>by
    rcases y67 j i with h3|h3
    ·exact hj j h h3
    ·obtain rfl:j=i:=by omega
     exact y79 he
   rw [y79 he] at c1
   generalize l[i]=x at *
   repeat' ((first|(apply y81 ok;rfl)|(apply z31;kernel_rfl)|(refine z13 (i:=i) rfl gl ?_)|(apply y41;first|omega|(unfold inI;omega))|((apply z6)<;>intro _)|(apply z4 (c1);rfl;rfl))<;>conv=>whnf)
   all_goals try (exfalso;omega)
   all_goals refine z26 (i+1) ⟨by omega,hj2⟩ (by omega) (by refine swR [0] [] rfl rfl ?_;(repeat' first|exact y83 _|apply y84|constructor))
 ·have e:idxF (fun x=>decide (x=t)) l=-1:=z155 fun j h=>hj j h (by omega)
  rw [e]
  repeat' ((first|(apply y81 ok;rfl)|(apply y41;omega)|(((with_reducible apply z9;omega));intro _)|((apply z6)<;>intro _))<;>conv=>whnf)
  all_goals try (exfalso;omega)
  all_goals (refine rsD [] [] rfl ?_;(repeat' first|exact y83 _|constructor))
theorem z590 (t:Tree) (hg:t.goodF) (hs:t.sz≤1000):CallsA Tryz.prog 146 [z25 Tree.cs' t] [] (.tup [z25 Tree.cs' (if (t.nrm false).fmB=true then t.nrm false else dftT),.bool (t.nrm false).fmB]) []:=by
 have cp:=z1067 t hg false
 have hz:=y28 t hg false
 have cw:=z137 (t.nrm false) (z98 _ (by unfold maxLen;omega))
 generalize t.nrm false=u at *
 rw [y14 t] at *
 rw [y14 u] at *
 by_cases h2:u.fmB=true
 ·rw [if_pos h2,h2,y14 u]
  rw [h2] at cw
  refine z7 z14 Tryz.func146 rfl rfl 12 Tryz.ntmps146 (by simp) ?_
  repeat' ((first|(apply y81 ok;rfl)|(apply z4 (cp);rfl;rfl)|(apply z4 (cw);rfl;rfl))<;>conv=>whnf)
  all_goals (refine rsD [] [] rfl ?_;(repeat' first|exact y83 _|constructor))
 ·rw [if_neg h2,(y69 _).mp h2]
  rw [(y69 _).mp h2] at cw
  refine z7 z14 Tryz.func146 rfl rfl 12 Tryz.ntmps146 (by simp) ?_
  repeat' ((first|(apply y81 ok;rfl)|(apply z4 (cp);rfl;rfl)|(apply z4 (cw);rfl;rfl))<;>conv=>whnf)
  all_goals (refine rsD [] [] rfl ?_;(repeat' first|exact y83 _|exact z38|apply z36|apply z69|constructor))
theorem z1099 (t:Tree) (hs:t.sz≤1000):CallsA Tryz.prog 227 [z25 Tree.cs' t] [] (.tup [z25 Tree.cs' (if t.fmB=true∧(t.nrm false).fmB=true then t.nrm false else dftT),.bool (decide (t.fmB=true∧(t.nrm false).fmB=true))]) []:=by
 have cv:=z137 t (z98 t (by unfold maxLen;omega))
 by_cases h1:t.fmB=true
 ·have cn:=z590 t (y23 h1) hs
  have e:(if t.fmB=true∧(t.nrm false).fmB=true then t.nrm false else dftT)=if (t.nrm false).fmB=true then t.nrm false else dftT:=by simp only [h1,true_and]
  have e2:decide (t.fmB=true∧(t.nrm false).fmB=true)=(t.nrm false).fmB:=by simp [h1]
  rw [e,e2]
  rw [h1] at cv
  clear e e2
  generalize (if (t.nrm false).fmB=true then t.nrm false else dftT)=u at *
  generalize (t.nrm false).fmB=b at *
  rw [y14 t] at cv cn ⊢
  rw [y14 u] at cn ⊢
  refine z7 z14 Tryz.func227 rfl rfl 12 Tryz.ntmps227 (by simp) ?_
  repeat' ((first|(apply y81 ok;rfl)|(apply z4 (cv);rfl;rfl)|(apply z4 (cn);rfl;rfl))<;>conv=>whnf)
  all_goals (refine rsD [] [] rfl ?_;(repeat' first|exact y83 _|constructor))
 ·rw [if_neg (fun h=>h1 h.1),y79 (fun h=>h1 h.1)]
  rw [(y69 _).mp h1] at cv
  rw [y14 t] at cv ⊢
  refine z7 z14 Tryz.func227 rfl rfl 12 Tryz.ntmps227 (by simp) ?_
  repeat' ((first|(apply y81 ok;rfl)|(apply z4 (cv);rfl;rfl))<;>conv=>whnf)
  all_goals (refine rsD [] [] rfl ?_;(repeat' first|exact y83 _|exact z38|apply z36|apply z69|constructor))
theorem z820 (t:Tree) (hg:t.goodF) (hs:t.sz≤1000):CallsA Tryz.prog 144 [z25 Tree.cs' t] [] (z25 Tree.cs' (negT t)) []:=by
 by_cases hk:t.kind=3
 ·have hf:=y21 hg
  cases hf with
  |tr=>simp [Tree.kind] at hk
  |«at» v _ _=>simp [Tree.kind] at hk
  |bin k a b hk2 _ _=>simp only [Tree.kind] at hk;omega
  |un k a _ _ =>
   simp only [Tree.kind] at hk
   subst hk
   have e:negT (.mk 3 0 [a])=a:=by simp [negT,Tree.kind,Tree.kids]
   rw [z324] at hs
   have cc:=z661 a (by omega)
   rw [e,argU 3 0 a]
   refine z7 z14 Tryz.func144 rfl rfl 15 Tryz.ntmps144 (by simp) ?_
   repeat' ((first|(apply y81 ok;rfl)|(refine ⟨_,rfl,?_⟩)|(apply y41;omega)|(apply z4 (cc);rfl;rfl))<;>conv=>whnf)
   all_goals (refine rsD [] [] rfl ?_;(repeat' first|exact y83 _|constructor))
 ·have e:negT t=notT t:=if_neg hk
  have cc:=z661 t (by omega)
  have cf:=z122 3 [t] (by simp)
  rw [e]
  unfold notT
  rw [argU]
  refine z7 z14 Tryz.func144 rfl rfl 15 Tryz.ntmps144 (by simp) ?_
  repeat' ((first|(apply y81 ok;rfl)|(apply y41;omega)|(((with_reducible apply z65;omega));intro _)|((first|apply z6|apply z92)<;>intro _)|(apply z4 (cc);rfl;rfl)|(apply z10 [2] [] cf;rfl;rfl;rfl;(focus ((repeat' first|exact z16|apply z15)<;>exact z128))))<;>conv=>whnf)
  all_goals first|(exfalso;omega)|(refine rsD [] [] rfl ?_;(repeat' first|exact y83 _|constructor))
def ngB (t:Tree):Bool:=t.fmB && (negT t).fmB
def ngT (t:Tree):Tree:=if ngB t=true then negT t else dftT
theorem ngT_sz (t:Tree):(ngT t).sz≤t.sz+1:=by
 unfold ngT
 split
 ·exact z821 t
 ·simp [dftT,z485]
theorem z650 (t:Tree) (hm:t.mx):CallsA Tryz.prog 72 [z25 Tree.cs' t] [] (.tup [z25 Tree.cs' (ngT t),.bool (ngB t)]) []:=by
 have cv:=z137 t hm
 have hz:=z821 t
 unfold ngT ngB
 by_cases h1:t.fmB=true
 ·have hs:=fm_sz h1
  have cn:=z820 t (y23 h1) (by omega)
  have cw:=z137 (negT t) (z98 _ (by unfold maxLen;omega))
  rw [h1,Bool.true_and]
  rw [h1] at cv
  generalize negT t=u at *
  by_cases h2:u.fmB=true
  ·rw [if_pos h2,h2]
   rw [h2] at cw
   rw [y14 t] at cv cn ⊢
   rw [y14 u] at cw cn ⊢
   refine z7 z14 Tryz.func72 rfl rfl 16 Tryz.ntmps72 (by simp) ?_
   repeat' ((first|(apply y81 ok;rfl)|(apply z4 (cv);rfl;rfl)|(apply z4 (cn);rfl;rfl)|(apply z4 (cw);rfl;rfl))<;>conv=>whnf)
   all_goals (refine rsD [] [] rfl ?_;(repeat' first|exact y83 _|constructor))
  ·rw [if_neg h2,(y69 _).mp h2]
   rw [(y69 _).mp h2] at cw
   rw [y14 t] at cv cn ⊢
   rw [y14 u] at cw cn
   refine z7 z14 Tryz.func72 rfl rfl 16 Tryz.ntmps72 (by simp) ?_
   repeat' ((first|(apply y81 ok;rfl)|(apply z4 (cv);rfl;rfl)|(apply z4 (cn);rfl;rfl)|(apply z4 (cw);rfl;rfl))<;>conv=>whnf)
   all_goals (refine rsD [] [] rfl ?_;(repeat' first|exact y83 _|exact z38|apply z36|apply z69|constructor))
 ·rw [(y69 _).mp h1,Bool.false_and,if_neg (by simp)]
  rw [(y69 _).mp h1] at cv
  rw [y14 t] at cv ⊢
  refine z7 z14 Tryz.func72 rfl rfl 16 Tryz.ntmps72 (by simp) ?_
  repeat' ((first|(apply y81 ok;rfl)|(apply z4 (cv);rfl;rfl))<;>conv=>whnf)
  all_goals (refine rsD [] [] rfl ?_;(repeat' first|exact y83 _|exact z38|apply z36|apply z69|constructor))
theorem z619 (t:Tree) (hm:t.mx):CallsA Tryz.prog 79 [z25 Tree.cs' t] [] (.tup [z25 Tree.cs' (ngT t),.bool (ngB t)]) []:=by
 have cv:=z135 t hm
 have hz:=z821 t
 unfold ngT ngB
 by_cases h1:t.fmB=true
 ·have hs:=fm_sz h1
  rw [h1,Bool.true_and]
  by_cases hk:t.kind=3
  ·obtain ⟨a,v,rfl,ha⟩:=fm_kid h1 hk
   have e:negT (.mk 3 v [a])=a:=by simp [negT,Tree.kind,Tree.kids]
   rw [e,if_pos ha,ha]
   rw [h1] at cv
   rw [z324] at hs
   have cc:=z250 (z308 a (by omega))
   rw [argU] at cv ⊢
   refine z7 z14 Tryz.func79 rfl rfl 25 Tryz.ntmps79 (by simp) ?_
   repeat' ((first|(apply y81 ok;rfl)|(refine ⟨_,rfl,?_⟩)|(apply y41;omega)|(apply z4 (cv);rfl;rfl)|(apply z4 (cc);rfl;rfl))<;>conv=>whnf)
   all_goals (refine rsD [] [] rfl ?_;(repeat' first|exact y83 _|constructor))
  ·have e:negT t=notT t:=if_neg hk
   have cc:=z250 (z308 t (by omega))
   have cn:=z462 t
   have cw:=z135 (notT t) (z98 _ (by rw [← e];unfold maxLen;omega))
   rw [h1] at cv
   rw [e]
   generalize notT t=u at *
   by_cases h2:u.fmB=true
   ·rw [if_pos h2,h2]
    rw [h2] at cw
    rw [y14 t] at cv cn cc ⊢
    rw [y14 u] at cw cn ⊢
    refine z7 z14 Tryz.func79 rfl rfl 25 Tryz.ntmps79 (by simp) ?_
    repeat' ((first|(apply y81 ok;rfl)|(apply y41;omega)|(((with_reducible apply z65;omega));intro _)|((apply z6)<;>intro _)|(apply z4 (cv);rfl;rfl)|(apply z4 (cc);rfl;rfl)|(apply z4 (cn);rfl;rfl)|(apply z4 (cw);rfl;rfl))<;>conv=>whnf)
    all_goals first|(exfalso;omega)|(refine rsD [] [] rfl ?_;(repeat' first|exact y83 _|constructor))
   ·rw [if_neg h2,(y69 _).mp h2]
    rw [(y69 _).mp h2] at cw
    rw [y14 t] at cv cn cc ⊢
    rw [y14 u] at cw cn
    refine z7 z14 Tryz.func79 rfl rfl 25 Tryz.ntmps79 (by simp) ?_
    repeat' ((first|(apply y81 ok;rfl)|(apply y41;omega)|(((with_reducible apply z65;omega));intro _)|((apply z6)<;>intro _)|(apply z4 (cv);rfl;rfl)|(apply z4 (cc);rfl;rfl)|(apply z4 (cn);rfl;rfl)|(apply z4 (cw);rfl;rfl))<;>conv=>whnf)
    all_goals first|(exfalso;omega)|(refine rsD [] [] rfl ?_;(repeat' first|exact y83 _|exact z38|apply z36|apply z69|constructor))
 ·rw [(y69 _).mp h1,Bool.false_and,if_neg (by simp)]
  rw [(y69 _).mp h1] at cv
  rw [y14 t] at cv ⊢
  refine z7 z14 Tryz.func79 rfl rfl 25 Tryz.ntmps79 (by simp) ?_
  repeat' ((first|(apply y81 ok;rfl)|(apply z4 (cv);rfl;rfl))<;>conv=>whnf)
  all_goals (refine rsD [] [] rfl ?_;(repeat' first|exact y83 _|exact z38|apply z36|apply z69|constructor))
theorem z1092 (t:Tree) (h:t.sz≤1000000):CallsA Tryz.prog 103 [z25 Tree.cs' t] [] (z25 Tree.cs' t) []:=z250 (z308 t h)
set_option maxHeartbeats 3200000 in
theorem z1089 (t:Tree):t.sz≤1000→∀ (o:List Tree),o.length+t.sz≤2000→(∀ x∈o,x.sz≤1000)→CallsA Tryz.prog 236 [.sref 0 0 o.length,z25 Tree.cs' t] [.cells 3 (o.map Tree.cs')] (.sref 1 0 (t.subs o).length) [.dead,.cells 3 ((t.subs o).map Tree.cs')]:=by
 induction t using y26 with|h t ih=>?_
 intro hs o ho hm
 have hsz:=y36 t
 have hkid:∀ k (h:k < t.kids.length),t.kids[k].sz≤1000:=fun k h=>by have:=z331 Tree.sz (y42 h);omega
 have hpre:∀ k,k≤t.kids.length→(Tree.subss (t.kids.take k) o).length≤o.length+((t.kids.take k).map fun u=>u.sz+1).sum∧∀ x∈Tree.subss (t.kids.take k) o,x.sz≤1000:=by
  intro k
  induction k with
  |zero=>intro _;exact ⟨by simp [Tree.subss],hm⟩
  |succ k ihk =>
   intro hk
   obtain ⟨a1,a2⟩:=ihk (by omega)
   obtain ⟨_,_,_,b4,b5,_⟩:=z192 t.kids[k] (Tree.subss (t.kids.take k) o)
   rw [y35 (by omega)]
   refine ⟨?_,fun x hx=>?_⟩
   ·rw [y48 (by omega),y61,List.sum_append]
    simp only [List.map_cons,List.map_nil,List.sum_cons,List.sum_nil]
    omega
   ·rcases b5 x hx with h|h
    ·exact a2 x h
    ·have:=hkid k (by omega);omega
 have hsum:∀ k,k≤t.kids.length→((t.kids.take k).map fun u=>u.sz+1).sum≤t.sz:=fun k hk=>by
  have h1:∀ l:List Tree,(l.map fun u=>u.sz+1).sum=l.length+(l.map Tree.sz).sum:=by
   intro l
   induction l with
   |nil=>rfl
   |cons a l ih=>simp only [List.map_cons,List.sum_cons,y56,ih];omega
  have h2:=z486 Tree.sz t.kids k
  rw [h1,y46];omega
 rw [y14 t,y33]
 have hl5:t.kids.length≤1000:=by omega
 have hfs:(∀ x∈Tree.subss t.kids o,x.sz≤1000):=by have:=(hpre t.kids.length (y50 _)).2;rwa [y54] at this
 have hfl:(Tree.subss t.kids o).length≤2000:=by have h1:=(hpre t.kids.length (y50 _)).1;have h2:=hsum t.kids.length (y50 _);rw [y54] at h1 h2;omega
 have cF:=z730 (Tree.subss t.kids o) (by omega) (fun x hx=>z98 x (by have:=hfs x hx;unfold maxLen;omega)) t (z98 t (by unfold maxLen;omega))
 have cC:=z1092 t (by omega)
 have hidx:=z211 (fun x=>decide (x=t)) (Tree.subss t.kids o)
 refine z7 z14 Tryz.func236 rfl rfl 30 Tryz.ntmps236 (by simp) ?_
 refine y82 (Reach.rnm 0 rfl) ?_
 conv=>whnf
 repeat' (((apply y81 ok;rfl))<;>conv=>whnf)
 refine z64 (fun x:Nat×List Tree=>([(0,.sref 1 0 x.2.length),(3,.ptr 2 none 0),(5,.int x.1)],[.dead,.cells 3 (x.2.map Tree.cs'),.cells 3 [[.int t.kind,.int t.val,lst 3 Tree.cs' t.kids]]])) (fun x=>x.1≤t.kids.length∧Tree.subss (t.kids.take x.1) o=x.2) (fun x=>t.kids.length - x.1) (0,o) ⟨y51 _,by simp [Tree.subss]⟩ (by refine swR [0,1,2] [] rfl rfl ?_;(repeat' first|exact y83 _|exact z11 _|apply y84|refine z8 rfl (z5 (fun _=>rfl)) ?_|constructor)) ?_
 rintro ⟨i,q⟩ ⟨hi,hq⟩
 dsimp only at hi hq ⊢
 obtain ⟨p1,p2⟩:=hpre i hi
 have p3:=hsum i hi
 rw [hq] at p1 p2
 have hql:q.length≤2000:=by omega
 by_cases hil:i < t.kids.length
 ·have ci:=ih t.kids[i] (y42 _) (hkid i hil) q (by
   have h1:=hsum (i+1) (by omega)
   rw [y48 hil,y61,List.sum_append] at h1
   simp only [List.map_cons,List.map_nil,List.sum_cons,List.sum_nil] at h1
   omega) p2
  have ht:=y35 hil o
  rw [hq] at ht
  have gk:(t.kids.map Tree.cs')[i]?=some (Tree.cs' t.kids[i]):=by rw [y49,y43 hil];rfl
  clear ih cF hidx
  generalize t.kids[i]=u at *
  generalize u.subs q=q' at *
  repeat' ((first|(apply y81 ok;rfl)|(refine z13 (i:=i) rfl gk ?_)|(apply y41;first|omega|(unfold inI;omega))|((apply z6)<;>intro _)|(apply z133 [1] [3] ci;rfl;(focus ((repeat' first|exact z45|apply z55)<;>(refine z77 rfl ?_;((exact z5 fun _=>rfl)))));rfl;(focus ((repeat' first|exact z16|apply z15)<;>first|exact z128|(refine z19 ?_;((exact z5 fun _=>rfl)))))))<;>conv=>whnf)
  all_goals try (exfalso;omega)
  all_goals refine z26 (i+1,q') ⟨by show i+1≤_;omega,ht⟩ (by show t.kids.length - (i+1) < t.kids.length - i;omega) (by refine swR [0,3,2] [] rfl rfl ?_;(repeat' first|exact y83 _|exact z11 _|apply y84|refine z8 rfl (z5 (fun _=>rfl)) ?_|constructor))
 ·obtain rfl:i=t.kids.length:=by omega
  rw [y54] at hq
  rw [hq] at cF hidx ⊢
  unfold addT
  by_cases hin:t∈q
  ·rw [if_pos hin]
   have hx:0≤idxF (fun x=>decide (x=t)) q:=by
    rw [List.any_eq_true.2 ⟨t,hin,by simp⟩] at hidx
    exact of_decide_eq_true hidx
   generalize idxF (fun x=>decide (x=t)) q=z at *
   rw [y14 t] at cF
   repeat' ((first|(apply y81 ok;rfl)|(apply y41;omega)|(((with_reducible apply z9;omega));intro _)|((apply z6)<;>intro _)|(apply z95 [] [1] [] cF;(focus (exact z48 (z190 rfl rfl rfl (by simp) (z32 (fun _=>rfl) _)) (z48 rfl z72)));rfl;rfl;(focus ((repeat' exact z16)<;>fail));((refine .inr ⟨rfl,?_⟩;repeat' exact True.intro))))<;>conv=>whnf)
   all_goals try (exfalso;omega)
   all_goals (refine rsD [0,1] [] rfl ?_;(repeat' first|exact y83 _|exact z11 _|refine z8 rfl (z5 (fun _=>rfl)) ?_|constructor))
  ·rw [if_neg hin]
   have hx:¬ 0≤idxF (fun x=>decide (x=t)) q:=fun h=>by
    rw [y78 h] at hidx
    obtain ⟨x,h1,h2⟩:=List.any_eq_true.1 hidx.symm
    rw [of_decide_eq_true h2] at h1
    exact hin h1
   generalize idxF (fun x=>decide (x=t)) q=z at *
   rw [y14 t] at cC cF
   repeat' ((first|(apply y81 ok;rfl)|(apply y41;first|omega|((try dsimp only);simp only [y47,y46,y45,y44,y56,y57];omega)|exact ⟨rfl,z21 rfl z29⟩)|(((with_reducible apply z9;omega));intro _)|((apply z6)<;>intro _)|(apply z4 (cC);rfl;rfl)|(apply z95 [] [1] [] cF;(focus (exact z48 (z190 rfl rfl rfl (by simp) (z32 (fun _=>rfl) _)) (z48 rfl z72)));rfl;rfl;(focus ((repeat' exact z16)<;>fail));((refine .inr ⟨rfl,?_⟩;repeat' exact True.intro))))<;>conv=>whnf)
   all_goals try (exfalso;omega)
   all_goals (refine rsD [0,4] [] rfl ?_;(repeat' first|exact y83 _|exact z265|(refine z50 ?_;((simp;done)))|((refine z33 rfl ?_ ?_);(focus ((repeat' (first|exact z5 (fun _=>rfl)|apply z22));done)))|(refine z76 ?_ ?_;(focus (omega)))|(apply z78;rfl)|constructor))
def fnL (N:Nat) (f:Nat→Int):List Int:=(List.range N).map f
theorem z100 (N:Nat) (f:Nat→Int):(fnL N f).length=N:=by simp [fnL]
theorem z161 {N u:Nat} (f:Nat→Int) (h:u < N):((fnL N f).map enI)[u]?=some (enI (f u)):=by
 unfold fnL
 rw [y49,y49,List.getElem?_range h];rfl
theorem fnL_set {N u:Nat} (f:Nat→Int) (x:Int):(fnL N f).set u x=fnL N (upd f u x):=by
 apply y72 (by simp [fnL])
 intro i h1 h2
 rw [List.getElem_set]
 simp only [fnL,List.getElem_map,List.getElem_range]
 split
 ·rename_i e;subst e;rw [z27]
 ·rename_i e;rw [z47 _ _ (fun h=>e h.symm)]
theorem z141 {N u:Nat} (f:Nat→Int) (x:Int):((fnL N f).map enI).set u (enI x)=(fnL N (upd f u x)).map enI:=by rw [← fnL_set,List.map_set]
def natL (l:List Nat):List Int:=l.map fun x:Nat=>(x:Int)
theorem z458 (l:List Nat):(natL l).length=l.length:=by simp [natL]
theorem natL_at {l:List Nat} {i:Nat} (h:i < l.length):((natL l).map enI)[i]?=some (enI (l[i]:Nat)):=by
 unfold natL
 rw [y49,y49,y43 h];rfl
theorem z499 {rows:List (List Int)} {u:Nat} (h:u < rows.length):(rows.map encL)[u]?=some (encL (rows.getD u [])):=by
 rw [y49,y43 h,z17 h];rfl
@[reducible] def visF:AC:=.fn (.func 280) [] [.ptr 0 none 0,.ptr 1 none 0,.ptr 3 none 0,.ptr 5 none 0,.ptr 6 none 0,.ptr 7 none 0,.ptr 8 none 0,.ptr 10 none 0]
@[reducible] def z1065 (rows:List (List Int)) (s:TS):List AObj:=[.cells 1 [[.int s.cnt]],.cells 1 [[.sref 2 0 rows.length]],.cells 1 ((fnL rows.length s.num).map enI),.cells 1 [[.sref 4 0 rows.length]],.cells 1 ((fnL rows.length s.low).map enI),.cells 1 [[.own 1 ((natL s.stk).map enI)]],.cells 1 [[lst 1 encL rows]],.cells 1 [[visF]],.cells 1 [[.sref 9 0 rows.length]],.cells 1 ((fnL rows.length s.part).map enI),.cells 1 [[.int s.prt]]]
set_option maxHeartbeats 12800000 in
theorem z924 (rows : List (List Int)) (hr : ∀ r ∈ rows, InN rows.length r) (hN : rows.length ≤ 100000) (hrl : ∀ r ∈ rows, r.length ≤ 1000000000) : ∀ (f : Nat) (s : TS) (g : List Nat) (u : Nat), unvN rows.length s.num ≤ f → TI rows s g → s.num u = 0 → u < rows.length → (∀ x ∈ g, RN rows x u) → s.prt ≤ s.cnt →
  CallsA Tryz.prog 280 [.int (u:Int),.ptr 0 none 0,.ptr 1 none 0,.ptr 3 none 0,.ptr 5 none 0,.ptr 6 none 0,.ptr 7 none 0,.ptr 8 none 0,.ptr 10 none 0] (z1065 rows s) (.tup []) (z1065 rows (z224 rows f u s)):=by
 intro f
 induction f with
 |zero =>
  intro s g u hf _ h0 hu _ _
  have:=z1021 (num:=s.num) hu h0
  omega
 |succ f ih =>
  intro s g u hf hI h0 hu hg hsp
  have hTL:=z1161 hr hf hI h0 hu hg
  have hc0:s.cnt≤100000:=by have:=hI.ct;omega
  have gr:=z499 hu
  have hrow:=z198 hr (u:Int)
  rw [y74] at hrow
  have hrowl:(rows.getD u []).length≤1000000000:=by rw [z17 hu];exact hrl _ (y42 _)
  have hte:z224 rows (f+1) u s=tEnd u ((rows.getD u []).foldl (z357 (z224 rows f) u) (z197 u s)):=rfl
  generalize hR:z224 rows (f+1) u s=R at *
  generalize hrw:rows.getD u []=row at *
  have e1:=z141 (N:=rows.length) (u:=u) s.num (s.cnt+1)
  have e2:=z141 (N:=rows.length) (u:=u) s.low (s.cnt+1)
  have g1:=z161 s.num hu
  have g2:=z161 s.low hu
  have l1:=z100 rows.length s.num
  have l2:=z100 rows.length s.low
  have hsl:s.stk.length≤100000:=by
   have:=z146 rows.length (natL s.stk) ?_ ?_
   ·rw [z458] at this;omega
   ·exact (hI.nd).map _ fun a b h=>by omega
   ·intro x hx
    obtain ⟨y,hy,rfl⟩:=List.mem_map.1 hx
    have:=hI.lt y ((hI.stk y).1 hy).1
    omega
  refine z7 z14 Tryz.func280 rfl rfl 105 Tryz.ntmps280 (by simp) ?_
  repeat' ((first|((fail_if_success apply z150 2);(fail_if_success apply z109 2);apply y81 ok;rfl)|(apply z31;kernel_rfl)|(refine z13 (i:=u) rfl g1 ?_)|(refine z13 (i:=u) rfl g2 ?_)|(apply y41;first|omega|(unfold inI;omega)))<;>conv=>whnf)
  refine y82 (Gl.Reach.expose 5 0 0 rfl rfl rfl (z153 (fun _=>rfl) _) rfl) ?_
  conv=>whnf
  repeat' ((first|((fail_if_success apply z150 3);(fail_if_success apply z109 3);apply y81 ok;rfl)|(refine y41 ?_ ?_;(focus (dsimp only;simp only [y47,z458];omega)))|(refine z13 (i:=u) rfl gr ?_)|(apply y41;first|omega|exact ⟨rfl,z21 rfl z29⟩))<;>conv=>whnf)
  refine y82 (Gl.Reach.absorb 5 13 0 0 rfl rfl rfl rfl (by simp) rfl (z97 (fun e he=>(z5 (fun _=>rfl)) e (List.mem_of_mem_take he)) (z204 rfl z24)) rfl) ?_
  conv=>whnf
  have e3:((natL s.stk).map enI).take ((natL s.stk).map enI).length++[enI (u:Int)]=(natL (s.stk++[u])).map enI:=by
   rw [y54];unfold natL;simp
  obtain ⟨T,hT⟩:∃ T:Nat→TS,T=fun k=>(row.take k).foldl (z357 (z224 rows f) u) (z197 u s):=⟨_,rfl⟩
  have hT0:T 0=z197 u s:=by rw [hT];rfl
  have hTs:∀ k (hk:k < row.length),T (k+1)=z357 (z224 rows f) u (T k) row[k]:=fun k hk=>by
   rw [hT]
   show (row.take (k+1)).foldl _ _=_
   rw [y48 hk,y60];rfl
  have hTn:R=tEnd u (T row.length):=by
   rw [hT,hte]
   show _=tEnd u ((row.take row.length).foldl _ _)
   rw [y54]
  have hTT:∀ k,k≤row.length→TL rows s (T k) g u (row.take k):=fun k hk=>by rw [hT];exact hTL k hk
  clear hT hTL hte hR
  have f1:(T 0).num=upd s.num u (s.cnt+1):=by rw [hT0];rfl
  have f2:(T 0).low=upd s.low u (s.cnt+1):=by rw [hT0];rfl
  have f3:(T 0).stk=s.stk++[u]:=by rw [hT0];rfl
  have f4:(T 0).cnt=s.cnt+1:=by rw [hT0];rfl
  have f5:(T 0).part=s.part:=by rw [hT0];rfl
  have f6:(T 0).prt=s.prt:=by rw [hT0];rfl
  refine z64 (fun k:Nat=>([(0,.int (u:Int)),(1,.ptr 0 none 0),(2,.ptr 1 none 0),(3,.ptr 3 none 0),(4,.ptr 5 none 0),(5,.ptr 6 none 0),(6,.ptr 7 none 0),(7,.ptr 8 none 0),(8,.ptr 10 none 0),(30,ints row),(31,.int row.length),(32,.int k)],[.cells 1 [[.int (T k).cnt]],.cells 1 [[.sref 2 0 rows.length]],.cells 1 ((fnL rows.length (T k).num).map enI),.cells 1 [[.sref 4 0 rows.length]],.cells 1 ((fnL rows.length (T k).low).map enI),.cells 1 [[.own 1 ((natL (T k).stk).map enI)]],.cells 1 [[lst 1 encL rows]],.cells 1 [[visF]],.cells 1 [[.sref 9 0 rows.length]],.cells 1 ((fnL rows.length (T k).part).map enI),.cells 1 [[.int (T k).prt]]])) (fun k=>k≤row.length) (fun k=>row.length - k) 0 (y51 _) (by refine swR [0,1,2,3,4,5,6,7,8,9,10] [] rfl rfl ?_;(repeat' first|exact y83 _|(refine z107 ?_;omega)|apply y84|refine z61 rfl (z5 (fun _=>rfl)) ?_|refine z8 rfl (z5 (fun _=>rfl)) ?_|constructor)<;>(first|(refine z49 ?_;rw [f1];exact e1)|(refine z49 ?_;rw [f2];exact e2)|(rw [f5];exact z11 _)|(rw [f3];refine y8 ?_;rw [← e3];rfl))) ?_
  clear f1 f2 f3 f4 f5 f6 hT0 e1 e2 e3 g1 g2 l1 l2
  intro k hk
  have hL:=hTT k hk
  have hLI:=hL.inv
  have hL2:=hL.num
  have gu1:=z161 (T k).num hu
  have gu2:=z161 (T k).low hu
  have l1:=z100 rows.length (T k).num
  have l2:=z100 rows.length (T k).low
  have l3:=z100 rows.length (T k).part
  by_cases hk2:k < row.length
  ·have hs2:=hTs k hk2
   have gk:(row.map enI)[k]?=some (enI row[k]):=by rw [y49,y43 hk2];rfl
   have hv:=hrow _ (y42 hk2)
   have hvm:row[k]∈rows.getD u []:=by rw [hrw];exact y42 hk2
   generalize row[k]=v at *
   obtain ⟨w,rfl⟩:∃ w:Nat,v=w:=⟨v.toNat,by omega⟩
   have hw:w < rows.length:=by omega
   have gw1:=z161 (T k).num hw
   have gw3:=z161 (T k).part hw
   unfold z357 at hs2
   simp only [y74] at hs2
   have hnx:k+1≤row.length:=hk2
   generalize hS:T k=S at *
   generalize hS2:T (k+1)=S2 at *
   by_cases hw0:S.num w=0
   ·rw [if_pos hw0] at hs2
    have cW:=ih S (u::g) w (by have h1:=hL.cnt;have h2:=hLI.ct;have h3:=hI.ct;omega) hLI hw0 hw (fun x hx=>by
     rcases List.mem_cons.1 hx with rfl|hx
     ·exact .edge hvm
     ·exact (hg x hx).trans (.edge hvm)) (by have:=hL.prt;omega)
    generalize z224 rows f w S=S1 at *
    have hu1:=z161 S1.low hu
    have hw1:=z161 S1.low hw
    have l4:=z100 rows.length S1.low
    have e1:=z141 (N:=rows.length) (u:=u) S1.low (min (S1.low u) (S1.low w))
    have q1:S2.low=upd S1.low u (min (S1.low u) (S1.low w)):=by rw [hs2];rfl
    have q2:S2.num=S1.num:=by rw [hs2];rfl
    have q3:S2.part=S1.part:=by rw [hs2];rfl
    have q4:S2.stk=S1.stk:=by rw [hs2];rfl
    have q5:S2.cnt=S1.cnt:=by rw [hs2];rfl
    have q6:S2.prt=S1.prt:=by rw [hs2];rfl
    repeat' ((first|((fail_if_success apply z150 8);(fail_if_success apply z109 8);apply y81 ok;rfl)|(apply z31;kernel_rfl)|(refine z13 (i:=k) rfl gk ?_)|(refine z13 (i:=w) rfl gw1 ?_)|(apply y41;omega)|(((apply z9;omega));intro _)|((apply z6)<;>intro _)|(apply z133 [0,1,2,3,4,5,6,7,8,9,10] [] cW;rfl;(focus ((repeat' first|exact z45|apply z55)<;>first|rfl|(refine z77 rfl ?_;((exact z5 fun _=>rfl)))));rfl;(focus ((repeat' first|exact z16|apply z15)<;>first|exact z52 rfl rfl|(refine z19 ?_;((exact z5 fun _=>rfl)))))))<;>conv=>whnf)
    all_goals try (exfalso;omega)
    repeat' ((first|(apply y81 ok;rfl)|(apply z31;kernel_rfl)|(refine z13 (i:=u) rfl hu1 ?_)|(refine z13 (i:=w) rfl hw1 ?_)|(apply y41;first|omega|(unfold inI;omega)))<;>conv=>whnf)
    all_goals refine z26 (k+1) hk2 (by omega) ?_
    all_goals dsimp only
    all_goals rw [hS2,q2,q3,q4,q5,q6,q1]
    all_goals exact (by refine swR [0,1,2,3,4,5,6,7,8,9,10] [] rfl rfl ?_;(repeat' first|exact y83 _|exact z11 _|apply y84|refine z61 rfl (z5 (fun _=>rfl)) ?_|refine z8 rfl (z5 (fun _=>rfl)) ?_|constructor)<;>((refine z49 ?_;exact e1)))
   ·rw [if_neg hw0] at hs2
    by_cases hp0:S.part w < 0
    ·rw [if_pos hp0] at hs2
     have e1:=z141 (N:=rows.length) (u:=u) S.low (min (S.low u) (S.num w))
     have q1:S2.low=upd S.low u (min (S.low u) (S.num w)):=by rw [hs2];rfl
     have q2:S2.num=S.num:=by rw [hs2];rfl
     have q3:S2.part=S.part:=by rw [hs2];rfl
     have q4:S2.stk=S.stk:=by rw [hs2];rfl
     have q5:S2.cnt=S.cnt:=by rw [hs2];rfl
     have q6:S2.prt=S.prt:=by rw [hs2];rfl
     repeat' ((first|(apply y81 ok;rfl)|(apply z31;kernel_rfl)|(refine z13 (i:=k) rfl gk ?_)|(refine z13 (i:=w) rfl gw1 ?_)|(refine z13 (i:=w) rfl gw3 ?_)|(refine z13 (i:=u) rfl gu2 ?_)|(apply y41;first|omega|(unfold inI;omega))|(((apply z9;omega));intro _)|((apply z6)<;>intro _))<;>conv=>whnf)
     all_goals try (exfalso;omega)
     all_goals refine z26 (k+1) hk2 (by omega) ?_
     all_goals dsimp only
     all_goals rw [hS2,q2,q3,q4,q5,q6,q1]
     all_goals exact (by refine swR [0,1,2,3,4,5,6,7,8,9,10] [] rfl rfl ?_;(repeat' first|exact y83 _|exact z11 _|apply y84|refine z61 rfl (z5 (fun _=>rfl)) ?_|refine z8 rfl (z5 (fun _=>rfl)) ?_|constructor)<;>((refine z49 ?_;exact e1)))
    ·rw [if_neg hp0] at hs2
     repeat' ((first|(apply y81 ok;rfl)|(apply z31;kernel_rfl)|(refine z13 (i:=k) rfl gk ?_)|(refine z13 (i:=w) rfl gw1 ?_)|(refine z13 (i:=w) rfl gw3 ?_)|(apply y41;first|omega|(unfold inI;omega))|(((apply z9;omega));intro _)|((apply z6)<;>intro _))<;>conv=>whnf)
     all_goals try (exfalso;omega)
     all_goals refine z26 (k+1) hk2 (by omega) ?_
     all_goals dsimp only
     all_goals rw [hS2,hs2]
     all_goals exact (by refine swR [0,1,2,3,4,5,6,7,8,9,10] [] rfl rfl ?_;(repeat' first|exact y83 _|exact z11 _|apply y84|refine z8 rfl (z5 (fun _=>rfl)) ?_|constructor))
  ·obtain rfl:k=row.length:=by omega
   have hpf:=hL.pref
   have hsu:u ∉ s.stk:=fun hm=>((hI.stk u).1 hm).1 h0
   have hnd:=hLI.nd
   have hpp:(T row.length).prt≤100001:=by have h1:=hL.prt;have h2:=hLI.ct;have h3:=hI.ct;have h4:=hL.cnt;omega
   generalize hS:T row.length=S at *
   unfold tEnd at hTn
   by_cases he:S.low u=S.num u
   ·rw [if_pos he] at hTn
    obtain ⟨B,hB⟩:=hpf
    have hcut:=z874 (A:=s.stk) (B:=B) hsu
    have hLl:S.stk.length=s.stk.length+1+B.length:=by rw [hB];simp;omega
    have hLs:S.stk.length≤100000:=by
     have:=z146 rows.length (natL S.stk) ?_ ?_
     ·rw [z458] at this;omega
     ·exact hnd.map _ fun a b h=>by omega
     ·intro x hx
      obtain ⟨y,hy,rfl⟩:=List.mem_map.1 hx
      have:=hLI.lt y ((hLI.stk y).1 hy).1
      omega
    have r1:R.stk=S.stk.take s.stk.length:=by
     rw [hTn];show S.stk.takeWhile _=_
     rw [hB,hcut.1];simp
    have r2:R.part=fun x=>if x∈S.stk.drop s.stk.length then (S.prt:Int) else S.part x:=by
     rw [hTn];show (fun x=>if x∈S.stk.dropWhile _ then _ else _)=_
     rw [hB,hcut.2];simp
    have r3:R.num=S.num:=by rw [hTn];rfl
    have r4:R.low=S.low:=by rw [hTn];rfl
    have r5:R.cnt=S.cnt:=by rw [hTn];rfl
    have r6:R.prt=S.prt+1:=by rw [hTn];rfl
    have hat:∀ j (hj:j < S.stk.length),(S.stk[j]=u↔j=s.stk.length):=by
     intro j hj
     have hu2:S.stk[s.stk.length]'(by omega)=u:=by simp [hB]
     constructor
     ·intro e
      have hne:=List.pairwise_iff_getElem.1 (List.nodup_iff_pairwise_ne.1 hnd)
      rcases Nat.lt_trichotomy j s.stk.length with h|h|h
      ·exact absurd (e.trans hu2.symm) (hne j s.stk.length hj (by omega) h)
      ·exact h
      ·exact absurd (hu2.trans e.symm) (hne s.stk.length j (by omega) hj h)
     ·rintro rfl;exact hu2
    have hlt:∀ j (hj:j < S.stk.length),S.stk[j] < rows.length:=fun j hj=>hLI.lt _ ((hLI.stk _).1 (y42 hj)).1
    have sl:=z458 S.stk
    repeat' ((first|((fail_if_success apply z150 14);(fail_if_success apply z109 14);apply y81 ok;rfl)|(apply z31;kernel_rfl)|(refine z13 (i:=u) rfl gu1 ?_)|(refine z13 (i:=u) rfl gu2 ?_)|(apply y41;omega)|((first|(with_reducible apply z9;omega)|(apply z9;omega));intro _)|((apply z6)<;>intro _))<;>conv=>whnf)
    all_goals try (exfalso;omega)
    refine y82 (Gl.Reach.expose 5 0 0 rfl rfl rfl (z153 (fun _=>rfl) _) rfl) ?_
    obtain ⟨pm,hpm⟩:∃ pm:Nat→Nat→Int,pm=fun m x=>if x∈S.stk.drop m then (S.prt:Int) else S.part x:=⟨_,rfl⟩
    have hpm0:pm S.stk.length=S.part:=by rw [hpm];funext x;simp
    have hpmE:pm s.stk.length=R.part:=by rw [hpm,r2]
    have hpmS:∀ m (hm:m < S.stk.length),pm m=upd (pm (m+1)) S.stk[m] S.prt:=by
     intro m hm
     funext x
     by_cases hx:x=S.stk[m]
     ·rw [hx,z27,hpm]
      dsimp only
      rw [if_pos]
      rw [y76 hm]
      exact List.mem_cons_self
     ·rw [z47 _ _ hx,hpm]
      dsimp only
      rw [y76 hm]
      simp only [List.mem_cons,hx,false_or]
    clear hpm
    refine z64 (fun m:Nat=>([(0,.int (u:Int)),(1,.ptr 0 none 0),(2,.ptr 1 none 0),(3,.ptr 3 none 0),(4,.ptr 5 none 0),(5,.ptr 6 none 0),(6,.ptr 7 none 0),(7,.ptr 8 none 0),(8,.ptr 10 none 0),(12,.int ((natL S.stk).getD m (-1)))],[.cells 1 [[.int S.cnt]],.cells 1 [[.sref 2 0 rows.length]],.cells 1 ((fnL rows.length S.num).map enI),.cells 1 [[.sref 4 0 rows.length]],.cells 1 ((fnL rows.length S.low).map enI),.cells 1 [[.sref 11 0 m]],.cells 1 [[lst 1 encL rows]],.cells 1 [[visF]],.cells 1 [[.sref 9 0 rows.length]],.cells 1 ((fnL rows.length (pm m)).map enI),.cells 1 [[.int S.prt]],.cells 1 ((natL S.stk).map enI)])) (fun m=>s.stk.length≤m∧m≤S.stk.length) (fun m=>m) S.stk.length ⟨by omega,y50 _⟩ (by refine swR [0,1,2,3,4,5,6,7,8,9,10,11] [] rfl rfl ?_;(repeat' first|exact y83 _|exact z11 _|(refine z50 ?_;((simp;omega)))|apply y84|refine z8 rfl (z5 (fun _=>rfl)) ?_|constructor)<;>(first|(rw [hpm0];exact z11 _)|(refine z107 ?_;simp [natL]))) ?_
    rintro m ⟨hm1,hm2⟩
    by_cases hm:m=s.stk.length
    ·subst hm
     have htop:(natL S.stk).getD s.stk.length (-1)=(u:Int):=by
      rw [z17 (by rw [sl];omega)]
      unfold natL
      rw [List.getElem_map,(hat _ (by omega)).2 rfl]
     rw [htop]
     repeat' ((first|((fail_if_success apply z150 18);(fail_if_success apply z109 18);apply y81 ok;rfl)|(apply y41;omega)|(((apply z9;omega));intro _)|((apply z35)<;>intro _))<;>conv=>whnf)
     all_goals try (exfalso;omega)
     refine y82 (Gl.Reach.trunc 11 s.stk.length rfl rfl) ?_
     refine y82 (Gl.Reach.absorb 5 11 0 0 rfl rfl rfl rfl (by simp [natL];omega) rfl (fun e he=>(z5 (fun _=>rfl)) e (List.mem_of_mem_take he)) rfl) ?_
     conv=>whnf
     repeat' ((first|(apply y81 ok;rfl)|(apply y41;(unfold inI;omega)))<;>conv=>whnf)
     have eR:z1065 rows R=[.cells 1 [[.int S.cnt]],.cells 1 [[.sref 2 0 rows.length]],.cells 1 ((fnL rows.length S.num).map enI),.cells 1 [[.sref 4 0 rows.length]],.cells 1 ((fnL rows.length S.low).map enI),.cells 1 [[.own 1 (((natL S.stk).map enI).take s.stk.length)]],.cells 1 [[lst 1 encL rows]],.cells 1 [[visF]],.cells 1 [[.sref 9 0 rows.length]],.cells 1 ((fnL rows.length (pm s.stk.length)).map enI),.cells 1 [[.int ((S.prt+1:Nat):Int)]]]:=by
      unfold z1065
      rw [r1,r3,r4,r5,r6,hpmE]
      simp [natL,List.map_take]
     rw [eR]
     (refine rsD [0,1,2,3,4,5,6,7,8,9,10] [] rfl ?_;(repeat' first|exact y83 _|exact z11 _|apply y84|refine z8 rfl (z5 (fun _=>rfl)) ?_|constructor))
    ·obtain ⟨m,rfl⟩:∃ m',m=m'+1:=⟨m - 1,by omega⟩
     have hmL:m < S.stk.length:=by omega
     have htop:(natL S.stk).getD (m+1) (-1)≠(u:Int):=by
      by_cases h:m+1 < S.stk.length
      ·rw [z17 (by rw [sl];exact h)]
       unfold natL
       rw [List.getElem_map]
       have:=(hat (m+1) h)
       omega
      ·rw [y65,y66 (by rw [sl];omega)]
       show (-1:Int)≠u
       omega
     have hnx:(natL S.stk).getD m (-1)=((S.stk[m]:Nat):Int):=by
      rw [z17 (by rw [sl];exact hmL)]
      unfold natL
      rw [List.getElem_map]
     have gst:=natL_at hmL
     have hwN:=hlt m hmL
     have hps:=hpmS m hmL
     generalize S.stk[m]=w at *
     have gw:=z161 (pm (m+1)) hwN
     have e1:=z141 (N:=rows.length) (u:=w) (pm (m+1)) S.prt
     rw [← hps] at e1
     generalize (natL S.stk).getD (m+1) (-1)=tp at *
     repeat' ((first|(apply y81 ok;rfl)|(refine z13 (i:=m) ?_ gst ?_;(focus (omega)))|(refine z13 (i:=w) rfl gw ?_)|(apply y41;first|omega|(unfold inI;omega))|((apply z35)<;>intro _))<;>conv=>whnf)
     all_goals try (exfalso;omega)
     all_goals refine z26 m ⟨by omega,by omega⟩ (by omega) ?_
     all_goals dsimp only
     all_goals rw [hnx]
     all_goals exact (by refine swR [0,1,2,3,4,5,6,7,8,9,10,11] [] rfl rfl ?_;(repeat' first|exact y83 _|exact z11 _|(refine z50 ?_;(omega))|apply y84|refine z61 rfl (z5 (fun _=>rfl)) ?_|refine z8 rfl (z5 (fun _=>rfl)) ?_|constructor)<;>((refine z49 ?_;exact e1)))
   ·rw [if_neg he] at hTn
    subst hTn
    repeat' ((first|(apply y81 ok;rfl)|(apply z31;kernel_rfl)|(refine z13 (i:=u) rfl gu1 ?_)|(refine z13 (i:=u) rfl gu2 ?_)|(apply y41;omega)|((first|(with_reducible apply z9;omega)|(apply z9;omega));intro _)|((apply z6)<;>intro _))<;>conv=>whnf)
    all_goals try (exfalso;omega)
    all_goals (refine rsD [0,1,2,3,4,5,6,7,8,9,10] [] rfl ?_;(repeat' first|exact y83 _|exact z11 _|apply y84|refine z8 rfl (z5 (fun _=>rfl)) ?_|constructor))
@[reducible] def subF:AC:=.fn (.func 298) [] [.ptr 0 none 0,.ptr 1 none 0]
@[reducible] def objsS (o:List Tree):List AObj:=[.cells 1 [[subF]],.cells 1 [[.own 3 (o.map Tree.cs')]]]
set_option maxHeartbeats 6400000 in
theorem z790 (t:Tree):t.sz≤1000→∀ (o:List Tree),o.length+t.sz≤2000→(∀ x∈o,x.sz≤1000)→CallsA Tryz.prog 298 [z25 Tree.cs' t,.ptr 0 none 0,.ptr 1 none 0] (objsS o) (.tup []) (objsS (t.subs o)):=by
 induction t using y26 with|h t ih=>?_
 intro hs o ho hm
 have hsz:=y36 t
 have hkid:∀ k (h:k < t.kids.length),t.kids[k].sz≤1000:=fun k h=>by have:=z331 Tree.sz (y42 h);omega
 have hpre:∀ k,k≤t.kids.length→(Tree.subss (t.kids.take k) o).length≤o.length+((t.kids.take k).map fun u=>u.sz+1).sum∧∀ x∈Tree.subss (t.kids.take k) o,x.sz≤1000:=by
  intro k
  induction k with
  |zero=>intro _;exact ⟨by simp [Tree.subss],hm⟩
  |succ k ihk =>
   intro hk
   obtain ⟨a1,a2⟩:=ihk (by omega)
   obtain ⟨_,_,_,b4,b5,_⟩:=z192 t.kids[k] (Tree.subss (t.kids.take k) o)
   rw [y35 (by omega)]
   refine ⟨?_,fun x hx=>?_⟩
   ·rw [y48 (by omega),y61,List.sum_append]
    simp only [List.map_cons,List.map_nil,List.sum_cons,List.sum_nil]
    omega
   ·rcases b5 x hx with h|h
    ·exact a2 x h
    ·have:=hkid k (by omega);omega
 have hsum:∀ k,k≤t.kids.length→((t.kids.take k).map fun u=>u.sz+1).sum≤t.sz:=fun k hk=>by
  have h1:∀ l:List Tree,(l.map fun u=>u.sz+1).sum=l.length+(l.map Tree.sz).sum:=by
   intro l
   induction l with
   |nil=>rfl
   |cons a l ih=>simp only [List.map_cons,List.sum_cons,y56,ih];omega
  have h2:=z486 Tree.sz t.kids k
  rw [h1,y46];omega
 rw [y33]
 have hl5:t.kids.length≤1000:=by omega
 have hfs:(∀ x∈Tree.subss t.kids o,x.sz≤1000):=by have:=(hpre t.kids.length (y50 _)).2;rwa [y54] at this
 have hfl:(Tree.subss t.kids o).length≤2000:=by have h1:=(hpre t.kids.length (y50 _)).1;have h2:=hsum t.kids.length (y50 _);rw [y54] at h1 h2;omega
 have cF:=z289 (Tree.subss t.kids o) (by omega) (fun x hx=>z98 x (by have:=hfs x hx;unfold maxLen;omega)) t (z98 t (by unfold maxLen;omega))
 have cC:=z661 t (by omega)
 have hidx:=z211 (fun x=>decide (x=t)) (Tree.subss t.kids o)
 have et:=y14 t
 rw [et]
 refine z7 z14 Tryz.func298 rfl rfl 28 Tryz.ntmps298 (by simp) ?_
 repeat' (((apply y81 ok;rfl))<;>conv=>whnf)
 refine z64 (fun x:Nat×List Tree=>([(1,.ptr 0 none 0),(2,.ptr 1 none 0),(3,.ptr 2 none 0),(7,lst 3 Tree.cs' t.kids),(8,.int t.kids.length),(9,.int x.1)],[.cells 1 [[subF]],.cells 1 [[.own 3 (x.2.map Tree.cs')]],.cells 3 [[.int t.kind,.int t.val,lst 3 Tree.cs' t.kids]]])) (fun x=>x.1≤t.kids.length∧Tree.subss (t.kids.take x.1) o=x.2) (fun x=>t.kids.length - x.1) (0,o) ⟨y51 _,by simp [Tree.subss]⟩ (by refine swR [0,1,2] [] rfl rfl ?_;(repeat' first|exact y83 _|apply y84|constructor)) ?_
 rintro ⟨i,q⟩ ⟨hi,hq⟩
 dsimp only at hi hq ⊢
 obtain ⟨p1,p2⟩:=hpre i hi
 have p3:=hsum i hi
 rw [hq] at p1 p2
 have hql:q.length≤2000:=by omega
 by_cases hil:i < t.kids.length
 ·have ci:=ih t.kids[i] (y42 _) (hkid i hil) q (by
   have h1:=hsum (i+1) (by omega)
   rw [y48 hil,y61,List.sum_append] at h1
   simp only [List.map_cons,List.map_nil,List.sum_cons,List.sum_nil] at h1
   omega) p2
  have ht:=y35 hil o
  rw [hq] at ht
  have gk:(t.kids.map Tree.cs')[i]?=some (Tree.cs' t.kids[i]):=by rw [y49,y43 hil];rfl
  clear ih cF hidx
  generalize t.kids[i]=u at *
  generalize u.subs q=q' at *
  repeat' ((first|(apply y81 ok;rfl)|(refine z13 (i:=i) rfl gk ?_)|(apply y41;first|omega|(unfold inI;omega))|((apply z6)<;>intro _)|(apply z40 [0,1] [] ci;rfl;rfl;rfl))<;>conv=>whnf)
  all_goals try (exfalso;omega)
  all_goals refine z26 (i+1,q') ⟨by show i+1≤_;omega,ht⟩ (by show t.kids.length - (i+1) < t.kids.length - i;omega) (by refine swR [0,1,2] [] rfl rfl ?_;(repeat' first|exact y83 _|apply y84|constructor))
 ·obtain rfl:i=t.kids.length:=by omega
  rw [y54] at hq
  rw [hq] at cF hidx ⊢
  unfold addT
  refine y82 (Gl.Reach.expose 1 0 0 rfl rfl rfl (z153 (fun _=>rfl) _) rfl) ?_
  refine y82 (show Gl.Reach _ _ (mkSt _ [(1,.ptr 0 none 0),(2,.ptr 1 none 0),(3,.ptr 2 none 0),(7,lst 3 Tree.cs' t.kids),(8,.int t.kids.length),(9,.int t.kids.length)] [.cells 1 [[subF]],.cells 1 [[.sref 3 0 q.length]],.cells 3 [[.int t.kind,.int t.val,lst 3 Tree.cs' t.kids]],.cells 3 (q.map Tree.cs')]) from (by refine swR [0,1,2,3] [] rfl rfl ?_;(repeat' first|exact y83 _|exact z11 _|(refine z50 ?_;((simp;done)))|apply y84|refine z8 rfl (z5 (fun _=>rfl)) ?_|constructor))) ?_
  by_cases hin:t∈q
  ·rw [if_pos hin]
   have hx:0≤idxF (fun x=>decide (x=t)) q:=by
    rw [List.any_eq_true.2 ⟨t,hin,by simp⟩] at hidx
    exact of_decide_eq_true hidx
   generalize idxF (fun x=>decide (x=t)) q=z at *
   rw [et] at cF
   repeat' ((first|(apply y81 ok;rfl)|(apply y41;omega)|(((with_reducible apply z9;omega));intro _)|((apply z6)<;>intro _)|(apply z95 [] [3] [] cF;(focus (exact z48 (z190 rfl rfl rfl (by simp) (z32 (fun _=>rfl) _)) (z48 rfl z72)));rfl;rfl;(focus ((repeat' exact z16)<;>fail));((refine .inr ⟨rfl,?_⟩;repeat' exact True.intro))))<;>conv=>whnf)
   all_goals try (exfalso;omega)
   all_goals
    refine Gl.RetS.absorb 1 3 0 0 rfl rfl rfl rfl (by simp) rfl (z5 (fun _=>rfl)) ?_
    conv=>whnf
    (refine rsD [0,1] [] rfl ?_;(repeat' first|exact y83 _|apply y84|constructor))
  ·rw [if_neg hin]
   have hx:¬ 0≤idxF (fun x=>decide (x=t)) q:=fun h=>by
    rw [y78 h] at hidx
    obtain ⟨x,h1,h2⟩:=List.any_eq_true.1 hidx.symm
    rw [of_decide_eq_true h2] at h1
    exact hin h1
   generalize idxF (fun x=>decide (x=t)) q=z at *
   rw [et] at cF cC
   have gz:(List.take q.length (List.map Tree.cs' q)++[[AC.raw (Value.int IntKind.i64 0),AC.raw (Value.int IntKind.i64 0),AC.raw (Value.slice none 0 0)]])[q.length]?=some [AC.raw (Value.int IntKind.i64 0),AC.raw (Value.int IntKind.i64 0),AC.raw (Value.slice none 0 0)]:=by
    rw [y55 (by simp),y64 (by simp)];simp
   have e2:((List.take q.length (List.map Tree.cs' q)++[[AC.raw (Value.int IntKind.i64 0),AC.raw (Value.int IntKind.i64 0),AC.raw (Value.slice none 0 0)]]).set q.length (Tree.cs' t))=(q++[t]).map Tree.cs':=by
    rw [y55 (by simp),List.set_append_right _ _ (by simp)];simp
   have ec:Tree.cs' t=[.int t.kind,.int t.val,lst 3 Tree.cs' t.kids]:=AC.agg.inj et
   rw [ec] at e2
   repeat' ((first|(apply y81 ok;rfl)|(apply z31;kernel_rfl)|(refine z13 (i:=q.length) rfl gz ?_)|(apply y41;first|omega|((try dsimp only);simp only [y47,y46,y45,y44,y56,y57];omega)|exact ⟨rfl,z21 rfl z29⟩)|(((with_reducible apply z9;omega));intro _)|((apply z6)<;>intro _)|(apply z4 (cC);rfl;rfl)|(apply z95 [] [3] [] cF;(focus (exact z48 (z190 rfl rfl rfl (by simp) (z32 (fun _=>rfl) _)) (z48 rfl z72)));rfl;rfl;(focus ((repeat' exact z16)<;>fail));((refine .inr ⟨rfl,?_⟩;repeat' exact True.intro))))<;>conv=>whnf)
   all_goals try (exfalso;omega)
   all_goals
    refine Gl.RetS.absorb 1 5 0 0 rfl rfl rfl rfl (by simp) rfl (z383 (by simp) (fun e he=>(z5 (fun _=>rfl)) e (List.mem_of_mem_take he)) rfl) ?_
    conv=>whnf
    (refine rsD [0,1] [] rfl ?_;(repeat' first|exact y83 _|apply y84|constructor))
    all_goals exact y8 (congrArg (AC.own 3) e2)
theorem z789 (t:Tree) (hs:t.sz≤1000):CallsA Tryz.prog 267 [z25 Tree.cs' t] [] (.sref 0 0 (t.subs []).length) [.cells 3 ((t.subs []).map Tree.cs')]:=by
 have cV:=z790 t hs [] (by simp;omega) (fun x hx=>by cases hx)
 have hl:=(z192 t []).2.2.2.1
 simp only [y57,Nat.zero_add] at hl
 generalize t.subs []=L at *
 have cC:=z534 L (by omega)
 rw [y14 t] at *
 refine z7 z14 Tryz.func267 rfl rfl 11 Tryz.ntmps267 (by simp) ?_
 repeat' ((((fail_if_success apply z150 4);(fail_if_success apply z109 4);apply y81 ok;rfl))<;>conv=>whnf)
 refine y82 (show Gl.Reach _ _ (mkSt _ [(1,.ptr 0 none 0),(3,.ptr 1 none 0),(4,.ptr 2 none 0)] [.cells 3 [[.int t.kind,.int t.val,lst 3 Tree.cs' t.kids]],.cells 1 [[.own 3 []]],.cells 1 [[.fn (.func 298) [] [.ptr 2 none 0,.ptr 1 none 0]]]]) from (by refine swR [0,1,2] [] rfl rfl ?_;(repeat' first|exact y83 _|apply y84|constructor)<;>(exact z369))) ?_
 repeat' ((first|((fail_if_success apply z150 5);(fail_if_success apply z109 5);apply y81 ok;rfl)|(apply z40 [2,1] [] cV;rfl;rfl;rfl))<;>conv=>whnf)
 refine y82 (Gl.Reach.expose 1 0 0 rfl rfl rfl (z153 (fun _=>rfl) _) rfl) ?_
 refine y82 (show Gl.Reach _ _ (mkSt _ [(3,.ptr 1 none 0)] [.cells 3 [[.int t.kind,.int t.val,lst 3 Tree.cs' t.kids]],.cells 1 [[.sref 2 0 L.length]],.cells 3 (L.map Tree.cs')]) from (by refine swR [0,1,3] [] rfl rfl ?_;(repeat' first|exact y83 _|exact z11 _|(refine z50 ?_;((simp;done)))|apply y84|refine z8 rfl (z5 (fun _=>rfl)) ?_|constructor))) ?_
 repeat' ((first|(apply y81 ok;rfl)|(apply z133 [2] [] cC;rfl;(focus ((repeat' first|exact z45|apply z55)<;>(refine z77 rfl ?_;((exact z5 fun _=>rfl)))));rfl;(focus ((repeat' first|exact z16|apply z15)<;>(refine z19 ?_;((exact z5 fun _=>rfl)))))))<;>conv=>whnf)
 all_goals (refine rsD [2] [] rfl ?_;(repeat' first|exact y83 _|exact z11 _|refine z8 rfl (z5 (fun _=>rfl)) ?_|constructor))
theorem z959 (t:Tree):CallsA Tryz.prog 237 [z25 Tree.cs' t] [] (.bool (z82 t)) []:=by
 rw [y14]
 unfold z82
 refine z7 z14 Tryz.func237 rfl rfl 21 Tryz.ntmps237 (by simp) ?_
 repeat' ((first|(apply y81 ok;rfl)|((apply z6)<;>intro _))<;>conv=>whnf)
 all_goals (refine rsL [] [] rfl ?_;refine RetS.done (z1139 ?_) .nil;first|(rw [y78 (by omega)];done)|(rw [decide_eq_decide];omega))
set_option maxHeartbeats 3200000 in
theorem z1142 (t:Tree) (hs:t.sz≤200):CallsA Tryz.prog 157 [z25 Tree.cs' t] [] (.tup [lst 3 Tree.cs' (if bscB t then bscL (t.nrm false) else []),.bool (bscB t)]) []:=by
 have cn:=z368 t (by omega)
 unfold bscB
 by_cases h:t.fmB=true∧(t.nrm false).fmB=true
 ·rw [if_pos h,y78 h] at cn
  have hz:=y28 t (y23 h.1) false
  have hd:decide ((t.fmB=true∧(t.nrm false).fmB=true)∧(bscL (t.nrm false)).length≤5)=decide ((bscL (t.nrm false)).length≤5):=by
   rw [decide_eq_decide];exact ⟨fun h=>h.2,fun h2=>⟨h,h2⟩⟩
  rw [hd]
  clear hd h
  generalize t.nrm false=u at *
  have cS:=(z1089 u (by omega) [] (by simp;omega) (fun x hx=>by cases hx)).arg (args0:=[.nils,z25 Tree.cs' u]) (by (repeat' first|exact y83 _|exact z37|constructor))
  obtain ⟨_,_,_,hl,hz2,_⟩:=z192 u []
  unfold bscL
  simp only [y57,Nat.zero_add] at hl
  generalize u.subs []=L at *
  have hb:∀ k (hk:k < L.length),CallsA Tryz.prog 237 [z25 Tree.cs' L[k]] [] (.bool (z82 L[k])) []:=fun k hk=>z959 _
  rw [y14 u] at cn cS
  refine z7 z14 Tryz.func157 rfl rfl 43 Tryz.ntmps157 (by simp) ?_
  repeat' ((first|((fail_if_success apply z150 5);(fail_if_success apply z109 5);apply y81 ok;rfl)|(apply z4 (cn);rfl;rfl))<;>conv=>whnf)
  refine y82 (y85 3 rfl) ?_
  repeat' ((first|(apply y81 ok;rfl)|(apply z10 [3] [4] cS;rfl;rfl;rfl;(focus ((repeat' first|exact z16|apply z15)<;>first|exact z128|(refine z19 ?_;((exact z5 fun _=>rfl)))))))<;>conv=>whnf)
  refine z64 (fun x:Nat×List Tree=>([(6,.sref 0 0 x.2.length),(7,.sref 1 0 L.length),(8,.int x.1)],[.cells 3 (x.2.map Tree.cs'),.cells 3 (L.map Tree.cs')])) (fun x=>x.1≤L.length∧(L.take x.1).filter z82=x.2) (fun x=>L.length - x.1) (0,[]) ⟨y51 _,rfl⟩ (by refine swR [2,4] [] rfl rfl ?_;(repeat' first|exact y83 _|exact z11 _|((refine z8 rfl ?_ ?_);(focus ((repeat' (first|exact z24|exact z5 (fun _=>rfl)));done)))|constructor)) ?_
  rintro ⟨k,O⟩ ⟨hk,hO⟩
  dsimp only at hk hO ⊢
  have hOl:O.length≤L.length:=by
   rw [← hO]
   have:=List.length_filter_le z82 (L.take k)
   rw [y46] at this
   omega
  by_cases hkl:k < L.length
  ·have gk:(L.map Tree.cs')[k]?=some (Tree.cs' L[k]):=by rw [y49,y43 hkl];rfl
   have cb:=hb k hkl
   have ht:(L.take (k+1)).filter z82=O++(if z82 L[k]=true then [L[k]] else []):=by
    rw [y48 hkl,List.filter_append,hO]
    congr 1
    by_cases hb:z82 L[k]=true
    ·rw [if_pos hb,List.filter_cons_of_pos hb];rfl
    ·rw [if_neg hb,List.filter_cons_of_neg hb];rfl
   generalize L[k]=y at *
   by_cases hy:z82 y=true
   ·rw [hy] at cb
    rw [if_pos hy] at ht
    repeat' ((first|(apply y81 ok;rfl)|(refine z13 (i:=k) rfl gk ?_)|(apply y41;first|omega|(unfold inI;omega)|((try dsimp only);simp only [y47,y46,y45,y44,y56,y57];omega)|exact ⟨rfl,z21 rfl z29⟩)|((apply z6)<;>intro _)|(apply z4 (cb);rfl;rfl))<;>conv=>whnf)
    all_goals try (exfalso;omega)
    all_goals refine z26 (k+1,O++[y]) ⟨by show k+1≤_;omega,ht⟩ (by show L.length - (k+1) < L.length - k;omega) (by refine swR [3,1] [] rfl rfl ?_;(repeat' first|exact y83 _|exact z11 _|(refine z50 ?_;((simp;done)))|((first|refine z33 rfl ?_ ?_|refine z8 rfl ?_ ?_);(focus ((repeat' (first|exact z5 (fun _=>rfl)|apply z22));done)))|(refine z76 ?_ ?_;(focus (omega)))|constructor))
   ·rw [(y69 _).mp hy] at cb
    rw [if_neg hy,y62] at ht
    repeat' ((first|(apply y81 ok;rfl)|(refine z13 (i:=k) rfl gk ?_)|(apply y41;first|omega|(unfold inI;omega))|((apply z6)<;>intro _)|(apply z4 (cb);rfl;rfl))<;>conv=>whnf)
    all_goals try (exfalso;omega)
    all_goals refine z26 (k+1,O) ⟨by show k+1≤_;omega,ht⟩ (by show L.length - (k+1) < L.length - k;omega) (by refine swR [0,1] [] rfl rfl ?_;(repeat' first|exact y83 _|exact z11 _|refine z8 rfl (z5 (fun _=>rfl)) ?_|constructor))
  ·obtain rfl:k=L.length:=by omega
   rw [y54] at hO
   rw [hO]
   by_cases h5:O.length≤5
   ·rw [y78 h5,if_pos rfl]
    repeat' ((first|(apply y81 ok;rfl)|(apply y41;omega)|(((apply z9;omega));intro _)|((apply z6)<;>intro _))<;>conv=>whnf)
    all_goals try (exfalso;omega)
    all_goals (refine rsD [] [0] rfl ?_;(repeat' first|exact y83 _|((apply z43 rfl rfl rfl);(focus ((repeat ((exact z32 (fun _=>rfl) _)));done));(focus (((simp;done));done)))|apply z69|constructor))
   ·rw [y79 h5,if_neg (by simp)]
    repeat' ((first|(apply y81 ok;rfl)|(apply y41;omega)|(((apply z9;omega));intro _)|((apply z6)<;>intro _))<;>conv=>whnf)
    all_goals try (exfalso;omega)
    all_goals (refine rsD [] [2] rfl ?_;(repeat' first|exact y83 _|constructor))
 ·rw [if_neg h,y79 h] at cn
  have hd:decide ((t.fmB=true∧(t.nrm false).fmB=true)∧(bscL (t.nrm false)).length≤5)=false:=y79 fun h2=>h h2.1
  rw [hd,if_neg (by simp)]
  refine z7 z14 Tryz.func157 rfl rfl 43 Tryz.ntmps157 (by simp) ?_
  repeat' ((first|(apply y81 ok;rfl)|(apply z4 (cn);rfl;rfl))<;>conv=>whnf)
  all_goals (refine rsD [] [2] rfl ?_;(repeat' first|exact y83 _|constructor))
theorem z285 (x a:Int) (h0:0≤x) (h1:x≤31) (h2:0≤a) (h3:a≤5):CallsA Tryz.prog 224 [.int x,.int a] [] (.bool (hasB x a)) []:=by
 have ha:a=0∨a=1∨a=2∨a=3∨a=4∨a=5:=by omega
 have h5:0≤x / 2 ^ a.toNat∧x / 2 ^ a.toNat≤31:=by
  rcases ha with rfl|rfl|rfl|rfl|rfl|rfl<;>simp<;>omega
 have hw:IntKind.u64.wrap a=a:=by
  rcases ha with rfl|rfl|rfl|rfl|rfl|rfl<;>decide
 refine z7 z14 Tryz.func224 rfl rfl 11 Tryz.ntmps224 (by simp) ?_
 repeat' ((first|(apply y81 ok;rfl)|(apply y41;omega))<;>conv=>whnf)
 refine y41 (by unfold z138;omega) ?_
 conv=>whnf
 repeat' (((apply y81 ok;rfl))<;>conv=>whnf)
 all_goals (refine rsD [] [] rfl ?_;(repeat' first|exact y83 _|constructor))
structure BasL (B:List Tree):Prop where
 len:B.length≤5
 nd:B.Nodup
 sz:∀ x∈B,x.sz≤1000
 cl:∀ x∈B,In (·∈B) x
 bk:∀ x∈B,z82 x=true
 av:∀ v,Tree.mk 2 v []∈B→0≤v∧v≤2
theorem BasL.mx {B:List Tree} (h:BasL B):∀ x∈B,x.mx:=fun x hx=>z98 x (by have:=h.sz x hx;unfold maxLen;omega)
set_option maxHeartbeats 3200000 in
theorem z168 (B:List Tree) (hB:BasL B) (s:Int) (s0:0≤s) (s1:s≤31) (t:Tree) (h:In (·∈B) t):t.sz≤1000→CallsA Tryz.prog 160 [lst 3 Tree.cs' B,.int s,z25 Tree.cs' t] [] (.bool (vlB B s t)) []:=by
 have basic:∀ t,t∈B→z82 t=true→CallsA Tryz.prog 160 [lst 3 Tree.cs' B,.int s,z25 Tree.cs' t] [] (.bool (sgB B s t)) []:=fun t ht hb=>by
  have hl:=hB.len
  have cF:=z730 B (by omega) hB.mx t (hB.mx t ht)
  have hp:=z1058 ht
  have cH:=z285 s (plc B t) s0 s1 hp.1 (by omega)
  have e:idxF (fun x=>decide (x=t)) B=plc B t:=rfl
  rw [e] at cF
  unfold sgB
  generalize plc B t=p at *
  unfold z82 at hb
  have hb:=of_decide_eq_true hb
  rw [y14 t] at cF ⊢
  refine z7 z14 Tryz.func160 rfl rfl 62 Tryz.ntmps160 (by simp) ?_
  repeat' ((first|(apply y81 ok;rfl)|(apply y41;omega)|(((with_reducible apply z65;omega));intro _)|((apply z6)<;>intro _)|(apply z4 (cF);rfl;rfl)|(apply z4 (cH);rfl;rfl))<;>conv=>whnf)
  all_goals first|(exfalso;omega)|(refine rsD [] [] rfl ?_;(repeat' first|exact y83 _|constructor))
 unfold vlB
 induction h with
 |tr =>
  intro _
  rw [vl_tr]
  refine z7 z14 Tryz.func160 rfl rfl 62 Tryz.ntmps160 (by simp) ?_
  repeat' (((apply y81 ok;rfl))<;>conv=>whnf)
  all_goals (refine rsD [] [] rfl ?_;(repeat' first|exact y83 _|constructor))
 |«at» v hb=>intro _;rw [vl_at];exact basic _ hb (by simp [z82,Tree.kind])
 |nt =>
  intro _
  rw [z867,vl_tr]
  have c1:CallsA Tryz.prog 160 [lst 3 Tree.cs' B,.int s,z25 Tree.cs' (.mk 1 0 [])] [] (.bool true) []:=by
   refine z7 z14 Tryz.func160 rfl rfl 62 Tryz.ntmps160 (by simp) ?_
   repeat' (((apply y81 ok;rfl))<;>conv=>whnf)
   all_goals (refine rsD [] [] rfl ?_;(repeat' first|exact y83 _|constructor))
  rw [argU]
  refine z7 z14 Tryz.func160 rfl rfl 62 Tryz.ntmps160 (by simp) ?_
  repeat' ((first|(apply y81 ok;rfl)|(refine ⟨_,rfl,?_⟩)|(apply y41;omega)|(apply z4 (c1);rfl;rfl))<;>conv=>whnf)
  all_goals (refine rsD [] [] rfl ?_;(repeat' first|exact y83 _|constructor))
 |na v hb =>
  intro _
  rw [z867,vl_at]
  have c1:=basic _ hb (by simp [z82,Tree.kind])
  rw [argU]
  refine z7 z14 Tryz.func160 rfl rfl 62 Tryz.ntmps160 (by simp) ?_
  repeat' ((first|(apply y81 ok;rfl)|(refine ⟨_,rfl,?_⟩)|(apply y41;omega)|(apply z4 (c1);rfl;rfl))<;>conv=>whnf)
  all_goals (refine rsD [] [] rfl ?_;(repeat' first|exact y83 _|constructor))
 |an _ _ iha ihb =>
  rename_i a b _ _
  intro hs
  rw [z323] at hs
  have ca:=iha (by omega)
  have cb:=ihb (by omega)
  rw [vl_and,argB]
  generalize a.vl (sgB B s)=x at *
  generalize b.vl (sgB B s)=y at *
  cases x
  all_goals
   refine z7 z14 Tryz.func160 rfl rfl 62 Tryz.ntmps160 (by simp) ?_
   repeat' ((first|(apply y81 ok;rfl)|(refine ⟨_,rfl,?_⟩)|(apply y41;omega)|(apply z4 (ca);rfl;rfl)|(apply z4 (cb);rfl;rfl))<;>conv=>whnf)
   all_goals (refine rsD [] [] rfl ?_;(repeat' first|exact y83 _|constructor))
 |or _ _ iha ihb =>
  rename_i a b _ _
  intro hs
  rw [z323] at hs
  have ca:=iha (by omega)
  have cb:=ihb (by omega)
  rw [vl_or,argB]
  generalize a.vl (sgB B s)=x at *
  generalize b.vl (sgB B s)=y at *
  cases x
  all_goals
   refine z7 z14 Tryz.func160 rfl rfl 62 Tryz.ntmps160 (by simp) ?_
   repeat' ((first|(apply y81 ok;rfl)|(refine ⟨_,rfl,?_⟩)|(apply y41;omega)|(apply z4 (ca);rfl;rfl)|(apply z4 (cb);rfl;rfl))<;>conv=>whnf)
   all_goals (refine rsD [] [] rfl ?_;(repeat' first|exact y83 _|constructor))
 |nx hb _ _=>intro _;rw [vl_nx];exact basic _ hb (by simp [z82,Tree.kind])
 |un hb _ _ _ _=>intro _;rw [vl_un];exact basic _ hb (by simp [z82,Tree.kind])
 |re hb _ _ _ _=>intro _;rw [vl_re];exact basic _ hb (by simp [z82,Tree.kind])
set_option maxHeartbeats 3200000 in
theorem z567 (u:Tree) (hs:u.sz≤1000):CallsA Tryz.prog 228 [z25 Tree.cs' u] [] (.sref 0 0 (bscL u).length) [.cells 3 ((bscL u).map Tree.cs')]:=by
 have cS:=z789 u hs
 obtain ⟨_,_,_,hl,hz2,_⟩:=z192 u []
 simp only [y57,Nat.zero_add] at hl
 unfold bscL
 generalize u.subs []=L at *
 rw [y14 u] at *
 refine z7 z14 Tryz.func228 rfl rfl 38 Tryz.ntmps228 (by simp) ?_
 repeat' ((first|(apply y81 ok;rfl)|(apply z10 [] [1] cS;rfl;rfl;rfl;(focus ((repeat' first|exact z16|apply z15)<;>(refine z19 ?_;((exact z5 fun _=>rfl)))))))<;>conv=>whnf)
 refine y82 (y85 3 rfl) ?_
 refine z64 (fun x:Nat×List Tree=>([(3,.sref 0 0 x.2.length),(7,.sref 1 0 L.length),(8,.int L.length),(9,.int x.1)],[.cells 3 (x.2.map Tree.cs'),.cells 3 (L.map Tree.cs')])) (fun x=>x.1≤L.length∧(L.take x.1).filter z82=x.2) (fun x=>L.length - x.1) (0,[]) ⟨y51 _,rfl⟩ (by refine swR [2,1] [] rfl rfl ?_;(repeat' first|exact y83 _|exact z37|exact z11 _|((refine z8 rfl ?_ ?_);(focus ((repeat' (first|exact z24|exact z5 (fun _=>rfl)));done)))|constructor)) ?_
 rintro ⟨k,O⟩ ⟨hk,hO⟩
 dsimp only at hk hO ⊢
 have hOl:O.length≤L.length:=by
  rw [← hO]
  have:=List.length_filter_le z82 (L.take k)
  rw [y46] at this
  omega
 by_cases hkl:k < L.length
 ·have gk:(L.map Tree.cs')[k]?=some (Tree.cs' L[k]):=by rw [y49,y43 hkl];rfl
  have ht:(L.take (k+1)).filter z82=O++(if z82 L[k]=true then [L[k]] else []):=by
   rw [y48 hkl,List.filter_append,hO]
   congr 1
   by_cases hb:z82 L[k]=true
   ·rw [if_pos hb,List.filter_cons_of_pos hb];rfl
   ·rw [if_neg hb,List.filter_cons_of_neg hb];rfl
  generalize L[k]=y at *
  by_cases hy:z82 y=true
  ·rw [if_pos hy] at ht
   have hy:=of_decide_eq_true (show decide _=true from hy)
   repeat' ((first|(apply y81 ok;rfl)|(refine z13 (i:=k) rfl gk ?_)|(apply y41;first|omega|(unfold inI;omega)|((try dsimp only);simp only [y47,y46,y45,y44,y56,y57];omega)|exact ⟨rfl,z21 rfl z29⟩)|((apply z6)<;>intro _))<;>conv=>whnf)
   all_goals try (exfalso;omega)
   all_goals refine z26 (k+1,O++[y]) ⟨by show k+1≤_;omega,ht⟩ (by show L.length - (k+1) < L.length - k;omega) (by refine swR [4,1] [] rfl rfl ?_;(repeat' first|exact y83 _|exact z11 _|(refine z50 ?_;((simp;done)))|((first|refine z33 rfl ?_ ?_|refine z8 rfl ?_ ?_);(focus ((repeat' (first|exact z5 (fun _=>rfl)|apply z22));done)))|(refine z76 ?_ ?_;(focus (omega)))|constructor))
  ·rw [if_neg hy,y62] at ht
   have hy:=of_decide_eq_false (show decide _=false from (y69 _).mp hy)
   repeat' ((first|(apply y81 ok;rfl)|(refine z13 (i:=k) rfl gk ?_)|(apply y41;first|omega|(unfold inI;omega))|((apply z6)<;>intro _))<;>conv=>whnf)
   all_goals try (exfalso;omega)
   all_goals refine z26 (k+1,O) ⟨by show k+1≤_;omega,ht⟩ (by show L.length - (k+1) < L.length - k;omega) (by refine swR [0,1] [] rfl rfl ?_;(repeat' first|exact y83 _|exact z11 _|refine z8 rfl (z5 (fun _=>rfl)) ?_|constructor))
 ·obtain rfl:k=L.length:=by omega
  rw [y54] at hO
  rw [hO]
  have cC:=z534 O (by omega)
  repeat' ((first|(apply y81 ok;rfl)|(apply y41;omega)|(((apply z9;omega));intro _)|((apply z6)<;>intro _)|(apply z133 [0] [] cC;rfl;(focus ((repeat' first|exact z45|apply z55)<;>(refine z77 rfl ?_;((exact z5 fun _=>rfl)))));rfl;(focus ((repeat' first|exact z16|apply z15)<;>(refine z19 ?_;((exact z5 fun _=>rfl)))))))<;>conv=>whnf)
  all_goals try (exfalso;omega)
  all_goals (refine rsD [0] [] rfl ?_;(repeat' first|exact y83 _|exact z11 _|refine z8 rfl (z5 (fun _=>rfl)) ?_|constructor))
theorem z653 (t:Tree) (hs:t.sz≤200):CallsA Tryz.prog 145 [z25 Tree.cs' t] [] (.tup [lst 3 Tree.cs' (if bscB t then bscL (t.nrm false) else []),.bool (bscB t)]) []:=by
 have cn:=z1099 t (by omega)
 unfold bscB
 by_cases h:t.fmB=true∧(t.nrm false).fmB=true
 ·rw [if_pos h,y78 h] at cn
  have hz:=y28 t (y23 h.1) false
  have hd:decide ((t.fmB=true∧(t.nrm false).fmB=true)∧(bscL (t.nrm false)).length≤5)=decide ((bscL (t.nrm false)).length≤5):=by
   rw [decide_eq_decide];exact ⟨fun h=>h.2,fun h2=>⟨h,h2⟩⟩
  rw [hd]
  clear hd h
  generalize t.nrm false=u at *
  have cB:=z567 u (by omega)
  generalize bscL u=O at *
  rw [y14 u] at cn cB
  by_cases h5:O.length≤5
  ·rw [y78 h5,if_pos rfl]
   refine z7 z14 Tryz.func145 rfl rfl 20 Tryz.ntmps145 (by simp) ?_
   repeat' ((first|(apply y81 ok;rfl)|((apply z6)<;>intro _)|(apply z4 (cn);rfl;rfl)|(apply z10 [] [2] cB;rfl;rfl;rfl;(focus ((repeat' first|exact z16|apply z15)<;>(refine z19 ?_;((exact z5 fun _=>rfl)))))))<;>conv=>whnf)
   all_goals try (exfalso;omega)
   all_goals (refine rsD [] [2] rfl ?_;(repeat' first|exact y83 _|((apply z43 rfl rfl rfl);(focus ((repeat ((exact z32 (fun _=>rfl) _)));done));(focus (((simp;done));done)))|apply z69|constructor))
  ·rw [y79 h5,if_neg (by simp)]
   refine z7 z14 Tryz.func145 rfl rfl 20 Tryz.ntmps145 (by simp) ?_
   repeat' ((first|(apply y81 ok;rfl)|((apply z6)<;>intro _)|(apply z4 (cn);rfl;rfl)|(apply z10 [] [2] cB;rfl;rfl;rfl;(focus ((repeat' first|exact z16|apply z15)<;>(refine z19 ?_;((exact z5 fun _=>rfl)))))))<;>conv=>whnf)
   all_goals try (exfalso;omega)
   all_goals (refine rsD [] [] rfl ?_;(repeat' first|exact y83 _|exact z38|apply z69|constructor))
 ·rw [if_neg h,y79 h] at cn
  have hd:decide ((t.fmB=true∧(t.nrm false).fmB=true)∧(bscL (t.nrm false)).length≤5)=false:=y79 fun h2=>h h2.1
  rw [hd,if_neg (by simp)]
  refine z7 z14 Tryz.func145 rfl rfl 20 Tryz.ntmps145 (by simp) ?_
  repeat' ((first|(apply y81 ok;rfl)|(apply z4 (cn);rfl;rfl))<;>conv=>whnf)
  all_goals (refine rsD [] [] rfl ?_;(repeat' first|exact y83 _|exact z38|apply z69|constructor))
theorem csU (k v:Int) (a:Tree):Tree.cs' (.mk k v [a])=[.int k,.int v,.list 3 1 [Tree.cs' a]]:=AC.agg.inj (argU k v a)
theorem csB2 (k v:Int) (a b:Tree):Tree.cs' (.mk k v [a,b])=[.int k,.int v,.list 3 2 [Tree.cs' a,Tree.cs' b]]:=AC.agg.inj (argB k v a b)
inductive FormB (B:List Tree):Tree→Prop
 |at (v:Int):FormB B (.mk 2 v [])
 |nx (a:Tree) (ha:In (·∈B) a) (sa:a.sz≤1000):FormB B (.mk 6 0 [a])
 |un (a b:Tree) (ha:In (·∈B) a) (hb:In (·∈B) b) (sa:a.sz≤1000) (sb:b.sz≤1000):FormB B (.mk 7 0 [a,b])
 |re (a b:Tree) (ha:In (·∈B) a) (hb:In (·∈B) b) (sa:a.sz≤1000) (sb:b.sz≤1000):FormB B (.mk 8 0 [a,b])
theorem BasL.form {B:List Tree} (h:BasL B) {x:Tree} (hx:x∈B):FormB B x:=by
 have h1:=h.cl x hx
 have h2:=h.bk x hx
 have h3:=h.sz x hx
 cases h1 with
 |tr=>simp [z82,Tree.kind] at h2
 |«at» v _=>exact .at v
 |nt=>simp [z82,Tree.kind] at h2
 |na v _=>simp [z82,Tree.kind] at h2
 |an _ _=>simp [z82,Tree.kind] at h2
 |or _ _=>simp [z82,Tree.kind] at h2
 |nx _ ha=>rw [z324] at h3;exact .nx _ ha (by omega)
 |un _ ha hb=>rw [z323] at h3;exact .un _ _ ha hb (by omega) (by omega)
 |re _ ha hb=>rw [z323] at h3;exact .re _ _ ha hb (by omega) (by omega)
theorem z743 {B:List Tree} {s t:Int} (h:∀ i,i < B.length→folI B s t i=true):folB B s t=true:=by
 unfold folB;rw [y75];exact fun i hi=>h i (List.mem_range.1 hi)
theorem z593 {B:List Tree} {s t:Int} {i:Nat} (hi:i < B.length) (h:folI B s t i=false):folB B s t=false:=by
 unfold folB;rw [List.all_eq_false];exact ⟨i,List.mem_range.2 hi,by rw [h];simp⟩
set_option maxHeartbeats 6400000 in
theorem z728 (B:List Tree) (hB:BasL B) (s t:Int) (s0:0≤s) (s1:s≤31) (t0:0≤t) (t1:t≤31):CallsA Tryz.prog 163 [lst 3 Tree.cs' B,.int s,.int t] [] (.bool (folB B s t)) []:=by
 have hl:=hB.len
 refine z7 z14 Tryz.func163 rfl rfl 85 Tryz.ntmps163 (by simp) ?_
 repeat' (((apply y81 ok;rfl))<;>conv=>whnf)
 refine z64 (fun i:Nat=>([(0,lst 3 Tree.cs' B),(1,.int s),(2,.int t),(7,.int i)],[])) (fun i=>i≤B.length∧∀ j,j < i→folI B s t j=true) (fun i=>B.length - i) 0 ⟨y51 _,fun j h=>absurd h (Nat.not_lt_zero _)⟩ (by refine swR [] [] rfl rfl ?_;(repeat' first|exact y83 _|constructor)) ?_
 rintro i ⟨hi,hj⟩
 by_cases hil:i < B.length
 ·have gk:(B.map Tree.cs')[i]?=some (Tree.cs' (B.getD i dftT)):=by rw [y49,y43 hil,z17 hil];rfl
  have hf:=hB.form (x:=B.getD i dftT) (by rw [z17 hil];exact y42 _)
  have cw:=z285 s i s0 s1 (by omega) (by omega)
  have cn:=z285 t i t0 t1 (by omega) (by omega)
  have hI:folI B s t i=(folV B s t (B.getD i dftT) (hasB s i) (hasB t i) == hasB s i):=rfl
  have hT:folI B s t i=true→∀ j,j < i+1→folI B s t j=true:=fun h j hji=>by
   rcases y67 j i with h3|h3
   ·exact hj j h3
   ·obtain rfl:j=i:=by omega
    exact h
  have hF:folI B s t i=false→folB B s t=false:=z593 hil
  rw [hI] at hT hF
  clear hI hj
  generalize B.getD i dftT=f at *
  generalize hasB s i=x at *
  generalize hasB t i=y at *
  cases hf with
  |«at» v =>
   have hT2:=hT (by simp [folV,Tree.kind])
   clear hT hF
   cases x
   all_goals
    repeat' ((first|(apply y81 ok;rfl)|(refine z13 (i:=i) rfl gk ?_)|(apply y41;first|omega|(unfold inI;omega))|((apply z6)<;>intro _)|(apply z4 (cw);rfl;rfl))<;>conv=>whnf)
    all_goals try (exfalso;omega)
    all_goals refine z26 (i+1) ⟨by omega,hT2⟩ (by omega) (by refine swR [] [] rfl rfl ?_;(repeat' first|exact y83 _|constructor))
  |nx a ha sa =>
   have ca:=z168 B hB t t0 t1 a ha sa
   have e:folV B s t (.mk 6 0 [a]) x y=vlB B t a:=by simp [folV,kidV,Tree.kind,Tree.kids]
   rw [e] at hT hF
   rw [csU] at gk
   clear e
   generalize vlB B t a=z at *
   cases x<;>cases z
   all_goals first|have hT:=hT rfl|(have hF:=hF rfl;rw [hF])
   all_goals
    repeat' ((first|(apply y81 ok;rfl)|(refine z13 (i:=i) rfl gk ?_)|(refine ⟨_,rfl,?_⟩)|(apply y41;first|omega|(unfold inI;omega))|((apply z6)<;>intro _)|(apply z4 (cw);rfl;rfl)|(apply z4 (ca);rfl;rfl))<;>conv=>whnf)
    all_goals try (exfalso;omega)
    all_goals first|(refine z26 (i+1) ⟨by omega,hT⟩ (by omega) (by refine swR [] [] rfl rfl ?_;(repeat' first|exact y83 _|constructor)))|(refine rsD [] [] rfl ?_;(repeat' first|exact y83 _|constructor))
  |un a b ha hb sa sb =>
   have ca:=z168 B hB s s0 s1 a ha sa
   have cb:=z168 B hB s s0 s1 b hb sb
   have e:folV B s t (.mk 7 0 [a,b]) x y=(vlB B s b || (vlB B s a && y)):=by simp [folV,kidV,Tree.kind,Tree.kids]
   rw [e] at hT hF
   rw [csB2] at gk
   clear e
   generalize vlB B s a=z at *
   generalize vlB B s b=u at *
   cases x<;>cases y<;>cases z<;>cases u
   all_goals first|have hT:=hT rfl|(have hF:=hF rfl;rw [hF])
   all_goals
    repeat' ((first|(apply y81 ok;rfl)|(refine z13 (i:=i) rfl gk ?_)|(refine ⟨_,rfl,?_⟩)|(apply y41;first|omega|(unfold inI;omega))|((apply z6)<;>intro _)|(apply z4 (cw);rfl;rfl)|(apply z4 (cn);rfl;rfl)|(apply z4 (ca);rfl;rfl)|(apply z4 (cb);rfl;rfl))<;>conv=>whnf)
    all_goals try (exfalso;omega)
    all_goals first|(refine z26 (i+1) ⟨by omega,hT⟩ (by omega) (by refine swR [] [] rfl rfl ?_;(repeat' first|exact y83 _|constructor)))|(refine rsD [] [] rfl ?_;(repeat' first|exact y83 _|constructor))
  |re a b ha hb sa sb =>
   have ca:=z168 B hB s s0 s1 a ha sa
   have cb:=z168 B hB s s0 s1 b hb sb
   have e:folV B s t (.mk 8 0 [a,b]) x y=(vlB B s b && (vlB B s a || y)):=by simp [folV,kidV,Tree.kind,Tree.kids]
   rw [e] at hT hF
   rw [csB2] at gk
   clear e
   generalize vlB B s a=z at *
   generalize vlB B s b=u at *
   cases x<;>cases y<;>cases z<;>cases u
   all_goals first|have hT:=hT rfl|(have hF:=hF rfl;rw [hF])
   all_goals
    repeat' ((first|(apply y81 ok;rfl)|(refine z13 (i:=i) rfl gk ?_)|(refine ⟨_,rfl,?_⟩)|(apply y41;first|omega|(unfold inI;omega))|((apply z6)<;>intro _)|(apply z4 (cw);rfl;rfl)|(apply z4 (cn);rfl;rfl)|(apply z4 (ca);rfl;rfl)|(apply z4 (cb);rfl;rfl))<;>conv=>whnf)
    all_goals try (exfalso;omega)
    all_goals first|(refine z26 (i+1) ⟨by omega,hT⟩ (by omega) (by refine swR [] [] rfl rfl ?_;(repeat' first|exact y83 _|constructor)))|(refine rsD [] [] rfl ?_;(repeat' first|exact y83 _|constructor))
 ·obtain rfl:i=B.length:=by omega
  rw [z743 fun j hji=>hj j hji]
  repeat' ((first|(apply y81 ok;rfl)|(apply y41;omega)|(((with_reducible apply z9;omega));intro _)|((apply z6)<;>intro _))<;>conv=>whnf)
  all_goals first|(exfalso;omega)|(refine rsD [] [] rfl ?_;(repeat' first|exact y83 _|constructor))
theorem z727 (B:List Tree) (hB:BasL B) (s:Int) (s0:0≤s) (s1:s≤31) (u:Nat) (hu:u < B.length) (hk:(B.getD u dftT).kind=7):CallsA Tryz.prog 240 [lst 3 Tree.cs' B,.int s,.int u] [] (.bool (fulB B s u)) []:=by
 have hl:=hB.len
 have gk:(B.map Tree.cs')[u]?=some (Tree.cs' (B.getD u dftT)):=by rw [y49,y43 hu,z17 hu];rfl
 have hf:=hB.form (x:=B.getD u dftT) (by rw [z17 hu];exact y42 _)
 have cw:=z285 s u s0 s1 (by omega) (by omega)
 have e:fulB B s u=(!hasB s u || kidV B s (B.getD u dftT) 1):=rfl
 rw [e]
 generalize B.getD u dftT=f at *
 generalize hasB s u=x at *
 cases hf with
 |«at» v=>simp [Tree.kind] at hk
 |nx a _ _=>simp [Tree.kind] at hk
 |re a b _ _ _ _=>simp [Tree.kind] at hk
 |un a b ha hb sa sb =>
  have cb:=z168 B hB s s0 s1 b hb sb
  rw [csB2] at gk
  have e2:kidV B s (.mk 7 0 [a,b]) 1=vlB B s b:=by simp [kidV,Tree.kids]
  rw [e2]
  clear e e2
  generalize vlB B s b=y at *
  cases x
  all_goals
   refine z7 z14 Tryz.func240 rfl rfl 23 Tryz.ntmps240 (by simp) ?_
   repeat' ((first|(apply y81 ok;rfl)|(refine z13 (i:=u) rfl gk ?_)|(refine ⟨_,rfl,?_⟩)|(apply y41;omega)|(apply z4 (cw);rfl;rfl)|(apply z4 (cb);rfl;rfl))<;>conv=>whnf)
   all_goals (refine rsD [] [] rfl ?_;(repeat' first|exact y83 _|constructor))
def untL (B:List Tree) (i:Nat):List Int:=((List.range i).filter fun i=>decide ((B.getD i dftT).kind=7)).map Int.ofNat
theorem z688 (B:List Tree) (i:Nat):untL B (i+1)=untL B i++(if (B.getD i dftT).kind=7 then [(i:Int)] else []):=by
 unfold untL
 rw [y59,List.filter_append,y61]
 congr 1
 by_cases h:(B.getD i dftT).kind=7
 ·rw [if_pos h,List.filter_cons_of_pos (by simpa using h)];rfl
 ·rw [if_neg h,List.filter_cons_of_neg (by simpa using h)];rfl
theorem z244 (B:List Tree) (i:Nat):(untL B i).length≤i:=by
 unfold untL
 rw [y47]
 have:=List.length_filter_le (fun i=>decide ((B.getD i dftT).kind=7)) (List.range i)
 simpa using this
theorem z827 (B:List Tree) (hl:B.length≤1000):CallsA Tryz.prog 159 [lst 3 Tree.cs' B] [] (ints (untB B)) []:=by
 refine z7 z14 Tryz.func159 rfl rfl 23 Tryz.ntmps159 (by simp) ?_
 repeat' (((apply y81 ok;rfl))<;>conv=>whnf)
 refine z64 (fun x:Nat×List Int=>([(0,lst 3 Tree.cs' B),(3,.sref 0 0 x.2.length),(4,.int x.1)],[.cells 1 (x.2.map enI)])) (fun x=>x.1≤B.length∧untL B x.1=x.2) (fun x=>B.length - x.1) (0,[]) ⟨y51 _,rfl⟩ (by refine swR [0] [] rfl rfl ?_;(repeat' first|exact y83 _|refine z8 rfl (z24) ?_|constructor)) ?_
 rintro ⟨i,U⟩ ⟨hi,hU⟩
 dsimp only at hi hU ⊢
 have hul:=z244 B i
 rw [hU] at hul
 by_cases hil:i < B.length
 ·have gk:(B.map Tree.cs')[i]?=some (Tree.cs' (B.getD i dftT)):=by rw [y49,y43 hil,z17 hil];rfl
  have hs:=z688 B i
  rw [hU] at hs
  generalize B.getD i dftT=f at *
  by_cases hk:f.kind=7
  ·rw [if_pos hk] at hs
   repeat' ((first|(apply y81 ok;rfl)|(refine z13 (i:=i) rfl gk ?_)|(apply y41;first|omega|(unfold inI;omega)|((try dsimp only);simp only [y47,y46,y45,y44,y56,y57];omega)|exact ⟨rfl,z21 rfl z29⟩)|((apply z6)<;>intro _))<;>conv=>whnf)
   all_goals try (exfalso;omega)
   all_goals refine z26 (i+1,U++[(i:Int)]) ⟨by show i+1≤_;omega,hs⟩ (by show B.length - (i+1) < B.length - i;omega) (by refine swR [2] [] rfl rfl ?_;(repeat' first|exact y83 _|(refine z50 ?_;((simp;done)))|((refine z33 rfl ?_ ?_);(focus ((repeat' (first|exact z5 (fun _=>rfl)|apply z22));done)))|(refine z76 ?_ ?_;(focus (omega)))|constructor))
  ·rw [if_neg hk,y62] at hs
   repeat' ((first|(apply y81 ok;rfl)|(refine z13 (i:=i) rfl gk ?_)|(apply y41;first|omega|(unfold inI;omega))|((apply z6)<;>intro _))<;>conv=>whnf)
   all_goals try (exfalso;omega)
   all_goals refine z26 (i+1,U) ⟨by show i+1≤_;omega,hs⟩ (by show B.length - (i+1) < B.length - i;omega) (by refine swR [0] [] rfl rfl ?_;(repeat' first|exact y83 _|exact z11 _|refine z8 rfl (z5 (fun _=>rfl)) ?_|constructor))
 ·obtain rfl:i=B.length:=by omega
  have e:untB B=U:=hU
  rw [e]
  repeat' ((first|(apply y81 ok;rfl)|(apply y41;omega)|(((with_reducible apply z9;omega));intro _)|((apply z6)<;>intro _))<;>conv=>whnf)
  all_goals first|(exfalso;omega)|(refine rsD [] [0] rfl ?_;(repeat' first|exact y83 _|((apply z43 rfl rfl rfl);(focus ((repeat ((exact z32 (fun _=>rfl) _)));done));(focus (((simp;done));done)))|constructor))
theorem z610 {B:List Tree} {x:Int} (h:x∈untB B):∃ u:Nat,x=u∧u < B.length∧(B.getD u dftT).kind=7:=by
 unfold untB at h
 obtain ⟨u,hu,rfl⟩:=List.mem_map.1 h
 obtain ⟨h1,h2⟩:=List.mem_filter.1 hu
 exact ⟨u,rfl,List.mem_range.1 h1,of_decide_eq_true h2⟩
theorem z958 (B:List Tree) (hB:BasL B) (s:Int) (s0:0≤s) (s1:s≤31) (ph:Nat) (hp:(untB B).length=0∨ph < (untB B).length):CallsA Tryz.prog 161 [lst 3 Tree.cs' B,ints (untB B),.int s,.int ph] [] (.tup [.int (phB B (untB B) s ph).1,.bool (phB B (untB B) s ph).2]) []:=by
 have hl:=hB.len
 have hul:(untB B).length≤B.length:=z244 B B.length
 have hm:=fun x=>@z610 B x
 unfold phB
 generalize untB B=U at *
 by_cases h0:U.length=0
 ·rw [if_pos h0]
  refine z7 z14 Tryz.func161 rfl rfl 28 Tryz.ntmps161 (by simp) ?_
  repeat' ((first|(apply y81 ok;rfl)|(apply y41;omega)|(((with_reducible apply z9;omega));intro _)|((apply z6)<;>intro _))<;>conv=>whnf)
  all_goals first|(exfalso;omega)|(refine rsD [] [] rfl ?_;(repeat' first|exact y83 _|constructor))
 ·rw [if_neg h0]
  have hpl:ph < U.length:=by omega
  have gu:(U.map enI)[ph]?=some (enI (U.getD ph 0)):=by rw [y49,y43 hpl,z17 hpl];rfl
  obtain ⟨u,e,hu,hk⟩:=hm (U.getD ph 0) (by rw [z17 hpl];exact y42 _)
  rw [e] at gu
  have cf:=z727 B hB s s0 s1 u hu hk
  rw [y74,e]
  generalize fulB B s u=z at *
  cases z
  ·refine z7 z14 Tryz.func161 rfl rfl 28 Tryz.ntmps161 (by simp) ?_
   repeat' ((first|(apply y81 ok;rfl)|(refine z13 (i:=ph) rfl gu ?_)|(apply y41;omega)|((apply z6)<;>intro _)|(apply z4 (cf);rfl;rfl))<;>conv=>whnf)
   all_goals first|(exfalso;omega)|(refine rsD [] [] rfl ?_;(repeat' first|exact y83 _|constructor))
  ·refine z7 z14 Tryz.func161 rfl rfl 28 Tryz.ntmps161 (by simp) ?_
   repeat' ((first|(apply y81 ok;rfl)|(refine z13 (i:=ph) rfl gu ?_)|(apply y41;first|omega|(unfold inI;omega))|((apply z6)<;>intro _)|(apply z4 (cf);rfl;rfl))<;>conv=>whnf)
   all_goals try (exfalso;omega)
   all_goals (refine rsD [] [] rfl ?_;(repeat' first|exact y83 _|constructor))
theorem z753 {s:Int} {i:Nat} (s0:0≤s) (s1:s≤31) (hi:i≤5):0≤s / 2 ^ i∧s / 2 ^ i≤31:=by
 have:i=0∨i=1∨i=2∨i=3∨i=4∨i=5:=by omega
 rcases this with rfl|rfl|rfl|rfl|rfl|rfl<;>simp<;>omega
theorem div_bd2 {s a:Int} (s0:0≤s) (s1:s≤31) (h0:0≤a) (h1:a≤5):0≤s / 2 ^ a.toNat∧s / 2 ^ a.toNat≤31:=z753 s0 s1 (by omega)
set_option maxHeartbeats 3200000 in
theorem z254 (B:List Tree) (U:List Int) (hB:BasL B) (s:Int) (s0:0≤s) (s1:s≤31) (t:Tree) (h:In (·∈B) t):t.sz≤1000→CallsA Tryz.prog 147 [.pt [lst 3 Tree.cs' B,ints U],z25 Tree.cs' t,.int s] [] (.bool (vlB B s t)) []:=by
 have hl:=hB.len
 have basic:∀ t,t∈B→CallsA Tryz.prog 147 [.pt [lst 3 Tree.cs' B,ints U],z25 Tree.cs' t,.int s] [] (.bool (sgB B s t)) []:=fun t ht=>by
  have cF:=z289 B (by omega) hB.mx t (hB.mx t ht)
  have hp:=z1058 ht
  have e:idxF (fun x=>decide (x=t)) B=plc B t:=rfl
  rw [e] at cF
  have hd:=div_bd2 s0 s1 hp.1 (show plc B t≤5 by omega)
  unfold sgB
  generalize plc B t=p at *
  rw [y14 t] at cF ⊢
  refine z7 z14 Tryz.func147 rfl rfl 69 Tryz.ntmps147 (by simp) ?_
  repeat' ((first|(apply y81 ok;rfl)|(apply z31;kernel_rfl)|(refine y41 (by unfold z138;omega) ?_)|(apply y41;omega)|(((with_reducible apply z65;omega));intro _)|((apply z6)<;>intro _)|(apply z4 (cF);rfl;rfl))<;>conv=>whnf)
  all_goals first|(exfalso;omega)|(refine rsD [] [] rfl ?_;(repeat' first|exact y83 _|constructor))
 have none:∀ t:Tree,t.sz≤1000→z82 t=false→CallsA Tryz.prog 230 [lst 3 Tree.cs' B,z25 Tree.cs' t] [] (.int (-1)) []:=fun t hs hb=>by
  have cF:=z289 B (by omega) hB.mx t (z98 t (by unfold maxLen;omega))
  have e:idxF (fun x=>decide (x=t)) B=-1:=z155 fun j hj=>y79 fun e=>by have:=hB.bk _ (y42 hj);rw [e,hb] at this;cases this
  rwa [e] at cF
 unfold vlB
 induction h with
 |tr =>
  intro hs
  have cn:=none (.mk 1 0 []) hs rfl
  rw [vl_tr]
  refine z7 z14 Tryz.func147 rfl rfl 69 Tryz.ntmps147 (by simp) ?_
  repeat' ((first|(apply y81 ok;rfl)|(apply z31;kernel_rfl)|(apply z4 (cn);rfl;rfl))<;>conv=>whnf)
  all_goals (refine rsD [] [] rfl ?_;(repeat' first|exact y83 _|constructor))
 |«at» v hb=>intro _;rw [vl_at];exact basic _ hb
 |nt =>
  intro hs
  have cn:=none (.mk 3 0 [.mk 1 0 []]) hs rfl
  have cn2:=none (.mk 1 0 []) (by simp [z485]) rfl
  rw [z867,vl_tr]
  have c1:CallsA Tryz.prog 147 [.pt [lst 3 Tree.cs' B,ints U],z25 Tree.cs' (.mk 1 0 []),.int s] [] (.bool true) []:=by
   refine z7 z14 Tryz.func147 rfl rfl 69 Tryz.ntmps147 (by simp) ?_
   repeat' ((first|(apply y81 ok;rfl)|(apply z31;kernel_rfl)|(apply z4 (cn2);rfl;rfl))<;>conv=>whnf)
   all_goals (refine rsD [] [] rfl ?_;(repeat' first|exact y83 _|constructor))
  rw [argU] at cn ⊢
  refine z7 z14 Tryz.func147 rfl rfl 69 Tryz.ntmps147 (by simp) ?_
  repeat' ((first|(apply y81 ok;rfl)|(apply z31;kernel_rfl)|(refine ⟨_,rfl,?_⟩)|(apply y41;omega)|(apply z4 (cn);rfl;rfl)|(apply z4 (c1);rfl;rfl))<;>conv=>whnf)
  all_goals (refine rsD [] [] rfl ?_;(repeat' first|exact y83 _|constructor))
 |na v hb =>
  intro hs
  have cn:=none (.mk 3 0 [.mk 2 v []]) hs rfl
  rw [z867,vl_at]
  have c1:=basic _ hb
  rw [argU] at cn ⊢
  refine z7 z14 Tryz.func147 rfl rfl 69 Tryz.ntmps147 (by simp) ?_
  repeat' ((first|(apply y81 ok;rfl)|(apply z31;kernel_rfl)|(refine ⟨_,rfl,?_⟩)|(apply y41;omega)|(apply z4 (cn);rfl;rfl)|(apply z4 (c1);rfl;rfl))<;>conv=>whnf)
  all_goals (refine rsD [] [] rfl ?_;(repeat' first|exact y83 _|constructor))
 |an _ _ iha ihb =>
  rename_i a b _ _
  intro hs
  have cn:=none (.mk 4 0 [a,b]) hs rfl
  rw [z323] at hs
  have ca:=iha (by omega)
  have cb:=ihb (by omega)
  rw [vl_and,argB]
  rw [argB] at cn
  generalize a.vl (sgB B s)=x at *
  generalize b.vl (sgB B s)=y at *
  cases x
  all_goals
   refine z7 z14 Tryz.func147 rfl rfl 69 Tryz.ntmps147 (by simp) ?_
   repeat' ((first|(apply y81 ok;rfl)|(apply z31;kernel_rfl)|(refine ⟨_,rfl,?_⟩)|(apply y41;omega)|(apply z4 (cn);rfl;rfl)|(apply z4 (ca);rfl;rfl)|(apply z4 (cb);rfl;rfl))<;>conv=>whnf)
   all_goals (refine rsD [] [] rfl ?_;(repeat' first|exact y83 _|constructor))
 |or _ _ iha ihb =>
  rename_i a b _ _
  intro hs
  have cn:=none (.mk 5 0 [a,b]) hs rfl
  rw [z323] at hs
  have ca:=iha (by omega)
  have cb:=ihb (by omega)
  rw [vl_or,argB]
  rw [argB] at cn
  generalize a.vl (sgB B s)=x at *
  generalize b.vl (sgB B s)=y at *
  cases x
  all_goals
   refine z7 z14 Tryz.func147 rfl rfl 69 Tryz.ntmps147 (by simp) ?_
   repeat' ((first|(apply y81 ok;rfl)|(apply z31;kernel_rfl)|(refine ⟨_,rfl,?_⟩)|(apply y41;omega)|(apply z4 (cn);rfl;rfl)|(apply z4 (ca);rfl;rfl)|(apply z4 (cb);rfl;rfl))<;>conv=>whnf)
   all_goals (refine rsD [] [] rfl ?_;(repeat' first|exact y83 _|constructor))
 |nx hb _ _=>intro _;rw [vl_nx];exact basic _ hb
 |un hb _ _ _ _=>intro _;rw [vl_un];exact basic _ hb
 |re hb _ _ _ _=>intro _;rw [vl_re];exact basic _ hb
set_option maxHeartbeats 6400000 in
theorem z974 (B:List Tree) (U:List Int) (hB:BasL B) (s t:Int) (s0:0≤s) (s1:s≤31) (t0:0≤t) (t1:t≤31):CallsA Tryz.prog 233 [.pt [lst 3 Tree.cs' B,ints U],.int s,.int t] [] (.bool (folB B s t)) []:=by
 have hl:=hB.len
 refine z7 z14 Tryz.func233 rfl rfl 90 Tryz.ntmps233 (by simp) ?_
 repeat' (((apply y81 ok;rfl))<;>conv=>whnf)
 refine z64 (fun i:Nat=>([(0,.pt [lst 3 Tree.cs' B,ints U]),(1,.int s),(2,.int t),(15,lst 3 Tree.cs' B),(16,.int B.length),(17,.int i)],[])) (fun i=>i≤B.length∧∀ j,j < i→folI B s t j=true) (fun i=>B.length - i) 0 ⟨y51 _,fun j h=>absurd h (Nat.not_lt_zero _)⟩ (by refine swR [] [] rfl rfl ?_;(repeat' first|exact y83 _|constructor)) ?_
 rintro i ⟨hi,hj⟩
 by_cases hil:i < B.length
 ·have gk:(B.map Tree.cs')[i]?=some (Tree.cs' (B.getD i dftT)):=by rw [y49,y43 hil,z17 hil];rfl
  have hf:=hB.form (x:=B.getD i dftT) (by rw [z17 hil];exact y42 _)
  have d1:=z753 (i:=i) s0 s1 (by omega)
  have d2:=z753 (i:=i) t0 t1 (by omega)
  have hI:folI B s t i=(folV B s t (B.getD i dftT) (hasB s i) (hasB t i) == hasB s i):=rfl
  have hT:folI B s t i=true→∀ j,j < i+1→folI B s t j=true:=fun h j hji=>by
   rcases y67 j i with h3|h3
   ·exact hj j h3
   ·obtain rfl:j=i:=by omega
    exact h
  have hF:folI B s t i=false→folB B s t=false:=z593 hil
  rw [hI] at hT hF
  clear hI hj
  generalize B.getD i dftT=f at *
  repeat' ((first|((fail_if_success apply z150 5);(fail_if_success apply z109 5);apply y81 ok;rfl)|(apply z31;kernel_rfl)|(refine z13 (i:=i) rfl gk ?_)|(refine y41 (by unfold z138;(rw [y74];omega)) ?_)|(apply y41;omega)|((apply z6)<;>intro _))<;>conv=>whnf)
  all_goals try (exfalso;omega)
  refine y82 (show Gl.Reach _ _ (mkSt _ [(0,.pt [lst 3 Tree.cs' B,ints U]),(1,.int s),(2,.int t),(8,.ptr 0 none 0),(9,.bool (hasB s i)),(10,.bool (hasB t i)),(15,lst 3 Tree.cs' B),(16,.int B.length),(17,.int i)] [.cells 3 [Tree.cs' f]]) from (by refine swR [0] [] rfl rfl ?_;(repeat' first|exact y83 _|apply y84|constructor))) ?_
  generalize hasB s i=x at *
  generalize hasB t i=y at *
  cases hf with
  |«at» v =>
   have hT2:=hT (by simp [folV,Tree.kind])
   clear hT hF
   cases x
   all_goals
    repeat' ((first|(apply y81 ok;rfl)|(apply y41;(unfold inI;omega)))<;>conv=>whnf)
    all_goals refine z26 (i+1) ⟨by omega,hT2⟩ (by omega) (by refine swR [] [] rfl rfl ?_;(repeat' first|exact y83 _|constructor))
  |nx a ha sa =>
   have ca:=z254 B U hB t t0 t1 a ha sa
   have e:folV B s t (.mk 6 0 [a]) x y=vlB B t a:=by simp [folV,kidV,Tree.kind,Tree.kids]
   rw [e] at hT hF
   rw [csU]
   clear e
   generalize vlB B t a=z at *
   cases x<;>cases z
   all_goals first|have hT:=hT rfl|(have hF:=hF rfl;rw [hF])
   all_goals
    repeat' ((first|(apply y81 ok;rfl)|(refine ⟨_,rfl,?_⟩)|(apply y41;first|omega|(unfold inI;omega))|(apply z4 (ca);rfl;rfl))<;>conv=>whnf)
    all_goals first|(refine z26 (i+1) ⟨by omega,hT⟩ (by omega) (by refine swR [] [] rfl rfl ?_;(repeat' first|exact y83 _|constructor)))|(refine rsD [] [] rfl ?_;(repeat' first|exact y83 _|constructor))
  |un a b ha hb sa sb =>
   have ca:=z254 B U hB s s0 s1 a ha sa
   have cb:=z254 B U hB s s0 s1 b hb sb
   have e:folV B s t (.mk 7 0 [a,b]) x y=(vlB B s b || (vlB B s a && y)):=by simp [folV,kidV,Tree.kind,Tree.kids]
   rw [e] at hT hF
   rw [csB2]
   clear e
   generalize vlB B s a=z at *
   generalize vlB B s b=u at *
   cases x<;>cases y<;>cases z<;>cases u
   all_goals first|have hT:=hT rfl|(have hF:=hF rfl;rw [hF])
   all_goals
    repeat' ((first|(apply y81 ok;rfl)|(refine ⟨_,rfl,?_⟩)|(apply y41;first|omega|(unfold inI;omega))|(apply z4 (ca);rfl;rfl)|(apply z4 (cb);rfl;rfl))<;>conv=>whnf)
    all_goals first|(refine z26 (i+1) ⟨by omega,hT⟩ (by omega) (by refine swR [] [] rfl rfl ?_;(repeat' first|exact y83 _|constructor)))|(refine rsD [] [] rfl ?_;(repeat' first|exact y83 _|constructor))
  |re a b ha hb sa sb =>
   have ca:=z254 B U hB s s0 s1 a ha sa
   have cb:=z254 B U hB s s0 s1 b hb sb
   have e:folV B s t (.mk 8 0 [a,b]) x y=(vlB B s b && (vlB B s a || y)):=by simp [folV,kidV,Tree.kind,Tree.kids]
   rw [e] at hT hF
   rw [csB2]
   clear e
   generalize vlB B s a=z at *
   generalize vlB B s b=u at *
   cases x<;>cases y<;>cases z<;>cases u
   all_goals first|have hT:=hT rfl|(have hF:=hF rfl;rw [hF])
   all_goals
    repeat' ((first|(apply y81 ok;rfl)|(refine ⟨_,rfl,?_⟩)|(apply y41;first|omega|(unfold inI;omega))|(apply z4 (ca);rfl;rfl)|(apply z4 (cb);rfl;rfl))<;>conv=>whnf)
    all_goals first|(refine z26 (i+1) ⟨by omega,hT⟩ (by omega) (by refine swR [] [] rfl rfl ?_;(repeat' first|exact y83 _|constructor)))|(refine rsD [] [] rfl ?_;(repeat' first|exact y83 _|constructor))
 ·obtain rfl:i=B.length:=by omega
  rw [z743 fun j hji=>hj j hji]
  repeat' ((first|(apply y81 ok;rfl)|(apply z31;kernel_rfl)|(apply y41;omega)|((first|(with_reducible apply z9;omega)|(with_reducible apply z65;omega));intro _)|((first|apply z6|apply z35|apply z92)<;>intro _))<;>conv=>whnf)
  all_goals first|(exfalso;omega)|(refine rsD [] [] rfl ?_;(repeat' first|exact y83 _|constructor))
theorem z592 (B:List Tree) (U:List Int) (hB:BasL B) (s:Int) (s0:0≤s) (s1:s≤31) (ph u:Nat) (hph:ph < U.length) (hUl:U.length≤100) (e:U.getD ph 0=u) (hu:u < B.length) (hk:(B.getD u dftT).kind=7):CallsA Tryz.prog 149 [.pt [lst 3 Tree.cs' B,ints U],.int s,.int ph] [] (.bool (fulB B s u)) []:=by
 have hl:=hB.len
 have gu:(U.map enI)[ph]?=some (enI u):=by rw [← e,y49,y43 hph,z17 hph];rfl
 have gk:(B.map Tree.cs')[u]?=some (Tree.cs' (B.getD u dftT)):=by rw [y49,y43 hu,z17 hu];rfl
 have hf:=hB.form (x:=B.getD u dftT) (by rw [z17 hu];exact y42 _)
 have d1:=z753 (i:=u) s0 s1 (by omega)
 have e:fulB B s u=(!hasB s u || kidV B s (B.getD u dftT) 1):=rfl
 have hx:(hasB s u=true→((((s / 2 ^ ((u:Int)).toNat).toNat &&& (1:Int).toNat:Nat):Int))=1)∧(hasB s u=false→((((s / 2 ^ ((u:Int)).toNat).toNat &&& (1:Int).toNat:Nat):Int))=0):=by
  have h1:∀ n:Nat,n &&& 1=n % 2:=fun n=>Nat.and_one_is_mod n
  unfold hasB
  constructor
  ·intro h;exact of_decide_eq_true h
  ·intro h
   have:=of_decide_eq_false h
   rw [show (1:Int).toNat=1 from rfl,h1] at *
   omega
 rw [e]
 generalize B.getD u dftT=f at *
 cases hf with
 |«at» v=>simp [Tree.kind] at hk
 |nx a _ _=>simp [Tree.kind] at hk
 |re a b _ _ _ _=>simp [Tree.kind] at hk
 |un a b ha hb sa sb =>
  have cb:=z254 B U hB s s0 s1 b hb sb
  rw [csB2] at gk
  have e2:kidV B s (.mk 7 0 [a,b]) 1=vlB B s b:=by simp [kidV,Tree.kids]
  rw [e2]
  clear e e2
  generalize vlB B s b=y at *
  generalize hasB s u=x at *
  cases x
  ·have hx:=hx.2 rfl
   refine z7 z14 Tryz.func149 rfl rfl 35 Tryz.ntmps149 (by simp) ?_
   repeat' ((first|(apply y81 ok;rfl)|(refine z13 (i:=ph) rfl gu ?_)|(refine z13 (i:=u) rfl gk ?_)|(refine ⟨_,rfl,?_⟩)|(refine y41 (by unfold z138;(rw [y74];omega)) ?_)|(apply y41;omega)|((apply z6)<;>intro _)|(apply z4 (cb);rfl;rfl))<;>conv=>whnf)
   all_goals try (exfalso;omega)
   all_goals (refine rsD [] [] rfl ?_;(repeat' first|exact y83 _|constructor))
  ·have hx:=hx.1 rfl
   refine z7 z14 Tryz.func149 rfl rfl 35 Tryz.ntmps149 (by simp) ?_
   repeat' ((first|(apply y81 ok;rfl)|(refine z13 (i:=ph) rfl gu ?_)|(refine z13 (i:=u) rfl gk ?_)|(refine ⟨_,rfl,?_⟩)|(refine y41 (by unfold z138;(rw [y74];omega)) ?_)|(apply y41;omega)|((apply z6)<;>intro _)|(apply z4 (cb);rfl;rfl))<;>conv=>whnf)
   all_goals try (exfalso;omega)
   all_goals (refine rsD [] [] rfl ?_;(repeat' first|exact y83 _|constructor))
end Go.Proofs.YtjhgpfaodkchjaaGreat
