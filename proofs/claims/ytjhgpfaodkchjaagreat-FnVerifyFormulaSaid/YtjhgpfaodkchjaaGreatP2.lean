/- A part of the proofs over this program: T74, T75, T75K, T75M, T81, T82, T83, T84, T85, T86, T87, T88, T89, T90, T91. -/
import Derived.Test.YtjhgpfaodkchjaaGreatP1
set_option linter.all false
namespace Go.Proofs.YtjhgpfaodkchjaaGreat
open Go.Gl Proofs.Tryz
attribute [local irreducible] z18 AWP z31 z35 z34 RetS z45
theorem z1197 (bs:List Int) (hb:BytesOk bs) (p:Int) (hp:few p):∃ (t:Tree) (p' : Int),(t.sz≤20∧p≤p'∧p'≤p+100)∧QQ 253 [.ptr 0 none 0] [rdO bs p] (z27 Tree.cs' t) [rdO bs p']:=by
 obtain ⟨d,md,cd⟩:=z112 bs hb p (by omega) (by omega) [3,2,3,4] (by decide) (by decide)
 have hd:0≤d∧d≤4:=by simp at md;omega
 obtain ⟨t,q,⟨t1,t2,t3⟩,ct⟩:=z892 bs hb 3 d (p+1) (by omega) (by omega) (by omega) (by omega) (by simp only [drK];omega)
 simp only [drK] at t3
 simp only [drS] at t1
 have cv:=z143 t (z101 t (by unfold maxLen;omega))
 by_cases hv:t.exprB=true
 ·refine ⟨t,q,⟨by omega,by omega,by omega⟩,?_⟩
  rw [hv] at cv
  rw [y15] at *
  refine z7 z15 func253 rfl rfl 15 ntmps253 (by simp) ?_
  repeat' ((first|apply y4 ok;rfl|apply z4 cv;rfl;rfl|(first|apply z11 [0,2] [] cd;rfl;rfl|apply z11 [0] [] ct;rfl;rfl);rfl;(focus ((repeat' first|exact z17|apply z16)<;>first|exact z47 rfl rfl|refine z20 ?_;((exact z5 fun _=>rfl)))))<;>conv=>whnf)
  all_goals (refine rsD [0] [] rfl ?_;(repeat' first|exact y86 _|apply y87|constructor))
 ·obtain ⟨w,⟨lw,uw⟩,cw⟩:=z73 bs hb q 3 (by omega) (by omega) (by omega)
  refine ⟨leaf 2 w,q+1,⟨by rw [z98];omega,by omega,by omega⟩,?_⟩
  rw [(y72 _).mp hv] at cv
  rw [y15] at cv ct
  refine z7 z15 func253 rfl rfl 15 ntmps253 (by simp) ?_
  repeat' ((first|apply y4 ok;rfl|apply z4 cv;rfl;rfl|(first|apply z11 [0,2] [] cd;rfl;rfl|apply z11 [0] [] ct;rfl;rfl|apply z11 [0] [] cw;rfl;rfl);rfl;(focus ((repeat' first|exact z17|apply z16)<;>first|exact z47 rfl rfl|refine z20 ?_;((exact z5 fun _=>rfl)))))<;>conv=>whnf)
  all_goals (refine rsD [0] [] rfl ?_;(repeat' first|exact y86 _|exact z43|apply y87|apply z41|constructor))
mutual
def subZ (t:Tree):Tree:=match t with
 |.mk k v l=>if k=2∧v=-1 then .mk 0 0 [] else .mk k v (z1114 l)
def z1114 (l:List Tree):List Tree:=match l with
 |[]=>[]
 |t::r=>subZ t::z1114 r
end
theorem z945 (l:List Tree):z1114 l=l.map subZ:=by
 induction l with
 |nil=>simp [z1114]
 |cons t l ih=>simp [z1114,ih]
theorem subZ_sz (t:Tree):(subZ t).sz≤t.sz:=by
 induction t using y27 with|h t ih=>?_
 cases t with
 |mk k v l =>
  rw [subZ]
  split
  ·rw [z244];simp
  ·rw [z945,z244,z244]
   simp only [Tree.kids] at ih
   have key:∀ l:List Tree,(∀ u∈l,(subZ u).sz≤u.sz)→((l.map subZ).map Tree.sz).sum≤(l.map Tree.sz).sum:=by
    intro l
    induction l with
    |nil=>intro _;simp
    |cons t l ihl =>
     intro ih
     have h1:=ih t (by simp)
     have h2:=ihl fun u hu=>ih u (by simp [hu])
     simp only [List.map_cons,List.sum_cons]
     omega
   have:=key l ih
   simp only [y49]
   omega
def z831:AC:=.agg [.int 0,.int 0,.nils]
def ownT (t:Tree):AC:=.agg [.int t.kind,.int t.val,.sref 0 0 t.kids.length]
theorem z1007:QQ 180 [z831,.int (-1),z831] [] (ownT (.mk 0 0 [])) [.cells 3 []]:=by
 refine z7 z15 func180 rfl rfl 47 ntmps180 (by simp) ?_
 repeat' (((apply y4 ok;rfl))<;>conv=>whnf)
 refine z97 (fun _:Nat=>([(6,.ptr 0 none 0),(7,.ptr 1 none 0),(8,.int 0),(3,.ptr 2 none 0)],[.cells 3 [[.int 0,.int 0,.nils]],.cells 3 [[.int 0,.int 0,.nils]],.cells 3 [[.int 0,.int 0,.nils]]])) (fun _=>True) (fun _=>0) 0 trivial ⟨[2,3,0],rfl,by decide,rfl,by repeat' (first|exact True.intro|exact ⟨rfl,rfl⟩|apply y43),by repeat' (first|exact True.intro|exact z21 rfl rfl|apply y43)⟩ ?_
 intro k hk
 repeat' (((apply y4 ok;rfl))<;>conv=>whnf)
 all_goals (refine rsL [] [] rfl ?_;refine y89 3 ?_;refine y12 ?_ ?_<;>(repeat' first|exact y86 _|exact z49|apply z41|apply ObjLe.mk|constructor))
theorem z263 {f:FuncId} {args:List AC} {t:Tree} (h:QQ f args [] (ownT t) [.cells 3 (t.kids.map Tree.cs')]):QQ f args [] (z27 Tree.cs' t) []:=by
 rw [y15]
 exact (by refine y5 h [] [0] rfl rfl rfl ?_ ?_<;>(repeat' first|exact y86 _|(apply z40 rfl rfl rfl);(focus ((repeat ((exact z30 (fun _=>rfl) _)));done));(focus (((simp;done));done))|apply z41|constructor))
theorem z891 (t:Tree) (h:t.sz≤1000000):QQ 180 [z27 Tree.cs' t,.int (-1),z831] [] (ownT (subZ t)) [.cells 3 ((subZ t).kids.map Tree.cs')]:=by
 induction t using y27 with|h t ih=>?_
 have hkl:t.kids.length≤1000000:=by rw [y38] at h;omega
 have hks:∀ u∈t.kids,u.sz≤1000000:=fun u hu=>by
  have:=z349 Tree.sz hu
  rw [y38] at h;omega
 rw [y15 t]
 obtain ⟨k,v,l⟩:=t
 simp only [Tree.kind,Tree.val,Tree.kids] at *
 rw [subZ]
 by_cases hz:k=2∧v=-1
 ·obtain ⟨rfl,rfl⟩:=hz
  rw [if_pos ⟨rfl,rfl⟩]
  have c:=z1007
  unfold z831 ownT at *
  refine z7 z15 func180 rfl rfl 47 ntmps180 (by simp) ?_
  repeat' ((first|apply y4 ok;rfl|apply z11 [] [3] c;rfl;rfl;rfl;(focus ((repeat' first|exact z17|apply z16)<;>(refine z20 ?_;(exact z25)))))<;>conv=>whnf)
  all_goals (refine rsD [3] [] rfl ?_;(repeat' first|exact y86 _|refine z9 rfl z25 ?_|constructor))
 ·rw [if_neg hz,z945]
  have hcs:∀ (i:Nat) (hi:i < l.length) (hi2:i < (l.map subZ).length),QQ 180 [z27 Tree.cs' l[i],.int (-1),z831] [] (z27 Tree.cs' (l.map subZ)[i]) []:=fun i hi hi2=>by
   rw [List.getElem_map]
   exact z263 (ih _ (y44 _) (hks _ (y44 _)))
  have hll:(l.map subZ).length=l.length:=y49 ..
  generalize l.map subZ=L at *
  unfold z831 ownT at *
  simp only [Tree.kind,Tree.val,Tree.kids] at *
  rw [hll]
  refine z7 z15 func180 rfl rfl 47 ntmps180 (by simp) ?_
  by_cases h2:k=2
  all_goals
   repeat' ((first|apply y4 ok;rfl|apply z6<;>intro _)<;>conv=>whnf)
   all_goals try (exfalso;omega)
   refine y85 (y88 3 rfl) ?_
   refine z64 (fun i:Nat=>([(1,.int (-1)),(3,.ptr 0 none 0),(5,.ptr 1 none 0),(6,.ptr 2 none 0),(7,.ptr 3 none 0),(8,.int i)],[.cells 3 [[.int k,.int v,lst 3 Tree.cs' l]],.cells 3 [[.int 0,.int 0,.nils]],.cells 3 [[.int 0,.int 0,.nils]],.cells 3 [[.int k,.int v,.sref 4 0 i]],.cells 3 ((L.take i).map Tree.cs')])) (fun i=>i≤l.length) (fun i=>l.length - i) 0 (by omega) (by refine swR [0,1,2,3,4] [] rfl rfl ?_;(repeat' first|exact y86 _|exact z49|apply y87|refine z9 rfl z25 ?_|constructor)) ?_
   intro i hi
   by_cases hil:i < l.length
   ·have hiL:i < L.length:=by omega
    have hc:=hcs i hil hiL
    repeat' ((first|apply y4 ok;rfl|apply z23;kernel_rfl|(apply y43;first|omega|unfold inI;omega|(try dsimp only);simp only [y49,y48,y47,y46,y58,y59];omega|exact ⟨rfl,z22 rfl z28⟩)|((with_reducible apply z8;omega));intro _|apply z6<;>intro _|apply z4 hc;rfl;rfl)<;>conv=>whnf)
    all_goals try (exfalso;omega)
    refine z24 (i+1) (by omega) (by omega) (by refine swR [0,1,2,3,6] [] rfl rfl ?_;(repeat' first|exact y86 _|apply y87|(refine z39 rfl ?_ ?_);(focus ((repeat' (first|exact z5 (fun _=>rfl)|apply z26));done))|refine z134 (by omega) (by omega) ?_|constructor))
   ·have e:i=l.length:=by omega
    subst e
    rw [y57 (show L.length≤l.length by omega)]
    repeat' ((first|apply y4 ok;rfl|apply y43;omega|((with_reducible apply z8;omega));intro _|apply z6<;>intro _)<;>conv=>whnf)
    all_goals try (exfalso;omega)
    all_goals (refine rsD [4] [] rfl ?_;(repeat' first|exact y86 _|exact z10 _|refine z9 rfl (z5 (fun _=>rfl)) ?_|constructor))
theorem z1129 {w n n2:Nat} {α:Type} {f:α→List AC} {l:List α} {x:α} {e:List AC} (hn:n=l.length) (h2:n2=l.length+1) (h:F2 LocLe e (f x)):LocLe (.list w n2 (((l.map f).take n)++[e])) (.list w (l++[x]).length ((l++[x]).map f)):=by
 subst hn
 refine z75 (by simp [h2]) ?_
 rw [y57 (by simp),y64]
 have:∀ (a:List (List AC)) {b c:List AC},F2 LocLe b c→F2 (F2 LocLe) (a++[b]) (a++[c]):=fun a b c h=>by
  induction a with
  |nil=>exact .cons h .nil
  |cons x a ih=>exact .cons (z303 x) ih
 exact this _ h
theorem z745 {n n2:Nat} {l:List Tree} {x:Tree} {e:List AC} (hn:n=l.length) (h2:n2=l.length+1) (h:F2 LocLe e (Tree.cs' x)):LocLe (.list 3 n2 (((l.map Tree.cs').take n)++[e])) (.list 3 (l++[x]).length ((l++[x]).map Tree.cs)):=by
 rw [y18];exact z1129 hn h2 h
set_option maxHeartbeats 1600000 in
theorem z542 (bs:List Int) (hb:BytesOk bs) (p:Int) (hp:few p) (t:Tree) (ht:t.sz≤1000):∃ (t' : Tree) (p' : Int),(t'.sz≤t.sz+1∧p≤p'∧p'≤p+2)∧QQ 102 [.ptr 0 none 0,z27 Tree.cs' t] [rdO bs p] (z27 Tree.cs' t') [rdO bs p']:=by
 have cs:=z891 t (by omega)
 have hsz:=subZ_sz t
 generalize subZ t=u at *
 have hul:u.kids.length≤1000:=by rw [y38] at hsz;omega
 obtain ⟨v,⟨lv,uv⟩,cv⟩:=z73 bs hb p 40 (by omega) (by omega) (by omega)
 rw [y15 t]
 rw [y15 t] at cs
 unfold ownT z831 at cs
 by_cases h0:v=0
 ·subst h0
  obtain ⟨k,mk,ck⟩:=z112 bs hb (p+1) (by omega) (by omega) [0,10,-1,1,2,3,4] (by decide) (by decide)
  refine ⟨.mk k u.val u.kids,p+1+1,⟨by rw [z244];rw [y38] at hsz;omega,by omega,by omega⟩,?_⟩
  refine z7 z15 func102 rfl rfl 35 ntmps102 (by simp) ?_
  repeat' ((first|apply y4 ok;rfl|(first|apply z11 [] [3] cs;rfl;rfl|apply z11 [0] [] cv;rfl;rfl|apply z11 [0,5] [] ck;rfl;rfl);rfl;(focus ((repeat' first|exact z17|apply z16)<;>first|exact z47 rfl rfl|refine z20 ?_;((exact z5 fun _=>rfl)))))<;>conv=>whnf)
  all_goals (refine rsD [0] [3] rfl ?_;(repeat' first|exact y86 _|exact z280|apply y87|(apply z40 rfl rfl rfl);(focus ((repeat ((exact z30 (fun _=>rfl) _)));done));(focus (((simp;done));done))|apply z41|apply z75;rfl|constructor))
 by_cases h1:v=1
 ·subst h1
  obtain ⟨k,mk,ck⟩:=z112 bs hb (p+1) (by omega) (by omega) [-1,4,3,9223372036854775807] (by decide) (by decide)
  refine ⟨.mk u.kind k u.kids,p+1+1,⟨by rw [z244];rw [y38] at hsz;omega,by omega,by omega⟩,?_⟩
  refine z7 z15 func102 rfl rfl 35 ntmps102 (by simp) ?_
  repeat' ((first|apply y4 ok;rfl|(first|apply z11 [] [3] cs;rfl;rfl|apply z11 [0] [] cv;rfl;rfl|apply z11 [0,5] [] ck;rfl;rfl);rfl;(focus ((repeat' first|exact z17|apply z16)<;>first|exact z47 rfl rfl|refine z20 ?_;((exact z5 fun _=>rfl)))))<;>conv=>whnf)
  all_goals (refine rsD [0] [3] rfl ?_;(repeat' first|exact y86 _|exact z280|apply y87|(apply z40 rfl rfl rfl);(focus ((repeat ((exact z30 (fun _=>rfl) _)));done));(focus (((simp;done));done))|apply z41|apply z75;rfl|constructor))
 by_cases h2:v=2
 ·subst h2
  refine ⟨.mk u.kind u.val (u.kids++[leaf 1 0]),p+1,⟨by rw [z244];rw [y38] at hsz;simp [z98];omega,by omega,by omega⟩,?_⟩
  refine z7 z15 func102 rfl rfl 35 ntmps102 (by simp) ?_
  repeat' ((first|apply y4 ok;rfl|(apply y43;first|(try dsimp only);simp only [y49,y48,y47,y46,y58,y59];omega|exact ⟨rfl,z22 rfl z28⟩)|(first|apply z11 [] [3] cs;rfl;rfl|apply z11 [0] [] cv;rfl;rfl);rfl;(focus ((repeat' first|exact z17|apply z16)<;>first|exact z47 rfl rfl|refine z20 ?_;((exact z5 fun _=>rfl)))))<;>conv=>whnf)
  all_goals (refine rsD [0] [6] rfl ?_;(repeat' first|exact y86 _|apply y87|(apply z40 rfl rfl rfl);(focus ((repeat (first|exact z30 (fun _=>rfl) _|apply z179|apply z257|rfl));done));(focus (((simp;done));done))|apply z41|constructor))
  all_goals exact z745 rfl rfl (node_le' z43)
 by_cases h3:v=3
 ·subst h3
  refine ⟨leaf 0 0,p+1,⟨by rw [z98];omega,by omega,by omega⟩,?_⟩
  refine z7 z15 func102 rfl rfl 35 ntmps102 (by simp) ?_
  repeat' ((first|apply y4 ok;rfl|(first|apply z11 [] [3] cs;rfl;rfl|apply z11 [0] [] cv;rfl;rfl);rfl;(focus ((repeat' first|exact z17|apply z16)<;>first|exact z47 rfl rfl|refine z20 ?_;((exact z5 fun _=>rfl)))))<;>conv=>whnf)
  all_goals (refine rsD [0] [] rfl ?_;(repeat' first|exact y86 _|exact z43|apply y87|apply z41|constructor))
 ·refine ⟨.mk u.kind u.val u.kids,p+1,⟨by rw [z244];rw [y38] at hsz;omega,by omega,by omega⟩,?_⟩
  refine z7 z15 func102 rfl rfl 35 ntmps102 (by simp) ?_
  repeat' ((first|apply y4 ok;rfl|apply y43;omega|apply z6<;>intro _|(first|apply z11 [] [3] cs;rfl;rfl|apply z11 [0] [] cv;rfl;rfl);rfl;(focus ((repeat' first|exact z17|apply z16)<;>first|exact z47 rfl rfl|refine z20 ?_;((exact z5 fun _=>rfl)))))<;>conv=>whnf)
  all_goals try (exfalso;omega)
  all_goals (refine rsD [0] [3] rfl ?_;(repeat' first|exact y86 _|exact z280|apply y87|(apply z40 rfl rfl rfl);(focus ((repeat ((exact z30 (fun _=>rfl) _)));done));(focus (((simp;done));done))|apply z41|apply z75;rfl|constructor))
theorem len3 {α:Type} {l:List α} (h:l.length=3):∃ a b c,l=[a,b,c]:=by
 match l,h with
 |[a,b,c],_=>exact ⟨a,b,c,rfl⟩
set_option maxHeartbeats 3200000 in
theorem z774 (bs:List Int) (hb:BytesOk bs) (p:Int) (hp:few1 p):∃ (M:List Tree) (n:Nat) (p' : Int),(n≤M.length∧M.length=3∧(∀ t∈M,t.sz≤5)∧p≤p'∧p'≤p+30)∧QQ 41 [.ptr 0 none 0] [rdO bs p] (.sref 1 0 n) [rdO bs p',.cells 3 (M.map Tree.cs')]:=by
 obtain ⟨M,pf,hM,hp0,hst,hpf⟩:=z510 (fun _ q (t' : Tree) q'=>t'.sz≤3∧∃ t q1,QQ 100 [.ptr 0 none 0] [rdO bs q] (z27 Tree.cs' t) [rdO bs q1]∧((t.kind=1∧∃ w,t'=leaf 2 w∧q'=q1+1∧QQ 101 [.ptr 0 none 0,.int 3] [rdO bs q1] (.int w) [rdO bs (q1+1)])∨(t.kind≠1∧t'=t∧q'=q1))) p 6 3 (fun k q hk h1 h2=>by
  obtain ⟨t,q1,⟨a1,a2,a3⟩,ct⟩:=z616 bs hb q ⟨by omega,by omega⟩
  by_cases ht:t.kind=1
  ·obtain ⟨w,⟨lw,uw⟩,cw⟩:=z73 bs hb q1 3 (by omega) (by omega) (by omega)
   exact ⟨leaf 2 w,q1+1,⟨by rw [z98];omega,t,q1,ct,.inl ⟨ht,w,rfl,rfl,cw⟩⟩,by omega,by omega⟩
  ·exact ⟨t,q1,⟨a1,t,q1,ct,.inr ⟨ht,rfl,rfl⟩⟩,by omega,by omega⟩)
 have hMs:∀ t∈M,t.sz≤3:=fun t ht=>by
  obtain ⟨i,hi,rfl⟩:=List.mem_iff_getElem.1 ht
  exact (hst i hi).1
 have hp3:=hpf 3 (y52 _)
 obtain ⟨v,⟨lv,uv⟩,cv⟩:=z73 bs hb (pf 3) 40 (by omega) (by omega) (by omega)
 have key:∀ (M' : List Tree) (n:Nat) (p' : Int),(v=0→n=2∧M'=M∧p'=pf 3+1)→(v≠0→v≠1→n=3∧M'=M∧p'=pf 3+1)→(v=1→n=3∧∃ a b c u w q1,M=[a,b,c]∧M'=[a,w,c]∧QQ 102 [.ptr 0 none 0,z27 Tree.cs' b] [rdO bs (pf 3+1)] (z27 Tree.cs' u) [rdO bs q1]∧QQ 102 [.ptr 0 none 0,z27 Tree.cs' u] [rdO bs q1] (z27 Tree.cs' w) [rdO bs p'])→QQ 41 [.ptr 0 none 0] [rdO bs p] (.sref 1 0 n) [rdO bs p',.cells 3 (M'.map Tree.cs')]:=by
  intro M' n p' k0 k2 k1
  refine z7 z15 func41 rfl rfl 41 ntmps41 (by simp) ?_
  repeat' (((apply y4 ok;rfl))<;>conv=>whnf)
  rw [← hp0]
  refine z64 (fun i:Nat=>([(0,.ptr 0 none 0),(3,.sref 1 0 i),(4,.int i)],[rdO bs (pf i),.cells 3 ((M.take i).map Tree.cs')])) (fun i=>i≤3) (fun i=>3 - i) 0 (by omega) (by refine swR [0,1] [] rfl rfl ?_;(repeat' first|exact y86 _|apply y87|refine z9 rfl z25 ?_|constructor)) ?_
  intro i hi
  by_cases hil:i < 3
  ·obtain ⟨a1,t,q1,ct,ht⟩:=hst i (by omega)
   have hiM:i < M.length:=by omega
   rw [y15 t] at ct
   rcases ht with ⟨h1,w,h2,h3,cw⟩|⟨h1,h2,h3⟩
   ·repeat' ((first|apply y4 ok;rfl|(apply y43;first|omega|unfold inI;omega|(try dsimp only);simp only [y49,y48,y47,y46,y58,y59];omega|exact ⟨rfl,z22 rfl z28⟩)|apply z6<;>intro _|(first|apply z37 [0] [] ct;rfl;rfl|apply z37 [0] [] cw;rfl;rfl);rfl)<;>conv=>whnf)
    all_goals try (exfalso;omega)
    have e1:M[i].kind=2:=by rw [h2];rfl
    have e2:M[i].val=w:=by rw [h2];rfl
    have e3:M[i].kids=[]:=by rw [h2];rfl
    all_goals refine z24 (i+1) (by omega) (by omega) (by refine swR [0,4] [] rfl rfl ?_;(repeat' first|exact y86 _|refine nils_of ?_;assumption|refine z115 ?_;omega|apply y87|(refine z39 rfl ?_ ?_);(focus ((repeat' (first|exact z5 (fun _=>rfl)|apply z26));done))|refine z134 (by omega) (by omega) ?_|constructor))
   ·subst h2
    repeat' ((first|apply y4 ok;rfl|(apply y43;first|unfold inI;omega|(try dsimp only);simp only [y49,y48,y47,y46,y58,y59];omega|exact ⟨rfl,z22 rfl z28⟩)|apply z6<;>intro _|apply z37 [0] [] ct;rfl;rfl;rfl)<;>conv=>whnf)
    all_goals try (exfalso;omega)
    all_goals refine z24 (i+1) (by omega) (by omega) (by refine swR [0,4] [] rfl rfl ?_;(repeat' first|exact y86 _|exact z280|refine z115 ?_;omega|apply y87|(refine z39 rfl ?_ ?_);(focus ((repeat' (first|exact z5 (fun _=>rfl)|apply z26));done))|refine z134 (by omega) (by omega) ?_|apply z75;rfl|constructor))
  ·have:i=3:=by omega
   subst this
   obtain ⟨a,b,c,rfl⟩:=len3 hM
   by_cases h0:v=0
   ·obtain ⟨rfl,rfl,rfl⟩:=k0 h0
    subst h0
    repeat' ((first|apply y4 ok;rfl|apply y43;omega|apply z37 [0] [] cv;rfl;rfl;rfl)<;>conv=>whnf)
    all_goals (refine rsD [0,1] [] rfl ?_;(repeat' first|exact y86 _|apply y87|refine z9 rfl (z5 (fun _=>rfl)) ?_|constructor))
   by_cases h1:v=1
   ·obtain ⟨rfl,a',b',c',u,w,q1,e,rfl,c1,c2⟩:=k1 h1
    simp only [List.cons.injEq,and_true] at e
    obtain ⟨rfl,rfl,rfl⟩:=e
    subst h1
    rw [y15 u] at c1 c2
    rw [y15 w] at c2
    repeat' ((first|apply y4 ok;rfl|apply y43;omega|apply z107|(first|apply z37 [0] [] cv;rfl;rfl|apply z37 [0] [] c1;rfl;rfl|apply z37 [0] [] c2;rfl;rfl);rfl)<;>conv=>whnf)
    all_goals (refine rsD [0,1] [] rfl ?_;(repeat' first|exact y86 _|exact z280|apply y87|refine z60 rfl (z5 (fun _=>rfl)) ?_|apply z75;rfl|constructor))
   ·obtain ⟨rfl,rfl,rfl⟩:=k2 h0 h1
    repeat' ((first|apply y4 ok;rfl|apply y43;omega|((apply z8;omega));intro _|apply z6<;>intro _|apply z37 [0] [] cv;rfl;rfl;rfl)<;>conv=>whnf)
    all_goals try (exfalso;omega)
    all_goals (refine rsD [0,1] [] rfl ?_;(repeat' first|exact y86 _|apply y87|refine z9 rfl (z5 (fun _=>rfl)) ?_|constructor))
 by_cases h1:v=1
 ·obtain ⟨a,b,c,rfl⟩:=len3 hM
  have hb1:=hMs b (by simp)
  obtain ⟨u,q1,⟨b1,b2,b3⟩,c1⟩:=z542 bs hb (pf 3+1) ⟨by omega,by omega⟩ b (by omega)
  obtain ⟨w,q2,⟨d1,d2,d3⟩,c2⟩:=z542 bs hb q1 ⟨by omega,by omega⟩ u (by omega)
  refine ⟨[a,w,c],3,q2,⟨by simp,by simp,fun t ht=>?_,by omega,by omega⟩,key _ _ _ (fun h=>by omega) (fun _ h=>absurd h1 h) fun _=>⟨rfl,a,b,c,u,w,q1,rfl,rfl,c1,c2⟩⟩
  have ha:=hMs a (by simp)
  have hc:=hMs c (by simp)
  simp only [List.mem_cons,List.not_mem_nil,or_false] at ht
  rcases ht with rfl|rfl|rfl<;>omega
 ·by_cases h0:v=0
  ·exact ⟨M,2,pf 3+1,⟨by omega,hM,fun t ht=>by have:=hMs t ht;omega,by omega,by omega⟩,key _ _ _ (fun _=>⟨rfl,rfl,rfl⟩) (fun h=>absurd h0 h) fun h=>absurd h h1⟩
  ·exact ⟨M,3,pf 3+1,⟨by omega,hM,fun t ht=>by have:=hMs t ht;omega,by omega,by omega⟩,key _ _ _ (fun h=>absurd h h0) (fun _ _=>⟨rfl,rfl,rfl⟩) fun h=>absurd h h1⟩
theorem z883 (bs:List Int) (hb:BytesOk bs) (p:Int) (hp:few1 p):∃ (L:List Tree) (p' : Int),(L.length≤3∧(∀ t∈L,t.sz≤5)∧p≤p'∧p'≤p+30)∧QQ 41 [.ptr 0 none 0] [rdO bs p] (lst 3 Tree.cs' L) [rdO bs p']:=by
 obtain ⟨M,n,p',⟨h1,h2,h3,h4,h5⟩,c⟩:=z774 bs hb p hp
 refine ⟨M.take n,p',⟨by simp;omega,fun t ht=>h3 t (List.mem_of_mem_take ht),h4,h5⟩,?_⟩
 obtain ⟨a,b,d,rfl⟩:=len3 h2
 have hn:n=0∨n=1∨n=2∨n=3:=by simp at h1;omega
 rcases hn with rfl|rfl|rfl|rfl
 all_goals exact (by refine y5 c [0] [1] rfl rfl rfl ?_ ?_<;>(repeat' first|exact y86 _|apply y87|constructor))
theorem Lmx_of {L:List Tree} (h1:L.length≤10) (h2:∀ t∈L,t.sz≤1000):Lmx L:=⟨by unfold maxLen;omega,fun t ht=>z101 t (by have:=h2 t ht;unfold maxLen;omega)⟩
def z249 (n:Nat):List Int:=(List.range n).map Int.ofNat
theorem z327 (n:Nat):(z249 n).length=n:=by simp [z249]
theorem z806 {n i:Nat} (h:i < (z249 n).length):(z249 n)[i]=i:=by simp [z249]
theorem z1047 (n:Nat) (hn:n≤1000000):QQ 183 [.int n] [] (ints (z249 n)) []:=by
 refine z7 z15 func183 rfl rfl 16 ntmps183 (by simp) ?_
 repeat' (((apply y4 ok;rfl))<;>conv=>whnf)
 refine z64 (fun i:Nat=>([(0,.int n),(3,.sref 0 0 i),(4,.int i)],[.cells 1 (((z249 n).take i).map enI)])) (fun i=>i≤n) (fun i=>n - i) 0 (by omega) (by refine swR [0] [] rfl rfl ?_;(repeat' first|exact y86 _|refine z9 rfl z25 ?_|constructor)) ?_
 intro i hi
 by_cases hin:i < n
 ·have hl:i < (z249 n).length:=by rw [z327];exact hin
  have e:=z806 hl
  repeat' ((first|apply y4 ok;rfl|(apply y43;first|unfold inI;omega|(try dsimp only);simp only [y49,y48,y47,y46,y58,y59];omega|exact ⟨rfl,z22 rfl z28⟩)|apply z6<;>intro _)<;>conv=>whnf)
  all_goals try (exfalso;omega)
  all_goals refine z24 (i+1) (by omega) (by omega) (by refine swR [2] [] rfl rfl ?_;(repeat' first|exact y86 _|refine z115 ?_;omega|(refine z39 rfl ?_ ?_);(focus ((repeat' (first|exact z5 (fun _=>rfl)|apply z26));done))|refine z134 (by omega) (by omega) ?_|constructor))
 ·have e:i=n:=by omega
  subst e
  have hl:=z327 i
  rw [y57 (by omega)]
  generalize z249 i=L at *
  repeat' ((first|apply y4 ok;rfl|apply y43;omega|apply z6<;>intro _)<;>conv=>whnf)
  all_goals try (exfalso;omega)
  all_goals (refine rsD [] [0] rfl ?_;(repeat' first|refine z245 ?_;omega|(apply z40 rfl rfl rfl);(focus ((repeat ((exact z30 (fun _=>rfl) _)));done));(focus (((simp;omega));done))|constructor))
structure State.sm (s:State):Prop where
 a:s.a.length≤100
 b:s.b.length≤100
structure Graph.sm (g:Graph):Prop where
 st:g.st.length≤100
 nx:g.nx.length≤100
 el:∀ s∈g.st,s.sm
 row:∀ r∈g.nx,r.length≤1000
theorem Graph.sm.mx {g:Graph} (h:g.sm):g.mx:=by
 have h1:=h.st
 have h2:=h.nx
 refine ⟨?_,by unfold maxLen;omega,fun l hl=>by have:=h.row l hl;unfold maxLen;omega⟩
 have h3:=h.el
 exact ⟨by unfold maxLen;omega,fun s hs=>⟨by have:=(h3 s hs).a;unfold maxLen;omega,by have:=(h3 s hs).b;unfold maxLen;omega⟩⟩
theorem z780 (g : Graph) (hg : g.sm) (path : List Int) (hp : path.length ≤ 100000) (hin : ∀ x ∈ path, 0 ≤ x ∧ x < g.st.length) (S : List State) (hS : S.length = path.length) (he : ∀ i (h : i < path.length) (h2 : i < S.length), g.st[(path[i]).toNat]? = some S[i]) :
    QQ 182 [.agg g.cs,ints path] [] (.sref 0 0 S.length) [.cells 2 (S.map State.cs)]:=by
  refine z7 z15 func182 rfl rfl 36 ntmps182 (by simp) ?_
  repeat' (((apply y4 ok;rfl))<;>conv=>whnf)
  refine z64 (fun i:Nat=>([(1,ints path),(2,.ptr 0 none 0),(5,.sref 1 0 i),(6,.int i)],[.cells 2 [g.cs],.cells 2 ((S.take i).map State.cs)])) (fun i=>i≤path.length) (fun i=>path.length - i) 0 (by omega) (by refine swR [0,1] [] rfl rfl ?_;(repeat' first|exact y86 _|apply y87|refine z9 rfl z25 ?_|constructor)) ?_
  intro i hi
  by_cases hip:i < path.length
  · have hl:i < S.length:=by omega
    have hx:=hin path[i] (y44 _)
    have g0:(path.map enI)[i]?=some (enI path[i]):=by rw [y51,y45 hip];rfl
    have g1:=he i hip hl
    have g2:(g.st.map State.cs)[(path[i]).toNat]?=some (State.cs S[i]):=by rw [y51,g1];rfl
    have hs:=hg.el S[i] (List.mem_of_getElem? g1)
    have ha:=hs.a
    have hb:=hs.b
    generalize path[i]=x at *
    repeat' ((first|apply y4 ok;rfl|apply z23;kernel_rfl|refine z13 (i:=i) rfl g0 ?_|refine z13 (i:=x.toNat) rfl g2 ?_|(apply y43;first|omega|unfold inI;omega|dsimp only;omega|(try dsimp only);simp only [y49,y48,y47,y46,y58,y59];omega|exact z62 (fun _=>rfl)|exact ⟨rfl,z22 rfl z28⟩)|apply z6<;>intro _)<;>conv=>whnf)
    all_goals try (exfalso;omega)
    all_goals refine z24 (i+1) (by omega) (by omega) (by refine swR [0,8] [4,6] rfl rfl ?_;(repeat' first|exact y86 _|refine z245 ?_;omega|apply y87|(refine z39 rfl ?_ ?_);(focus ((repeat' (first|exact z5 (fun _=>rfl)|apply z26));done))|refine z134 (by omega) (by omega) ?_|(apply z89 rfl rfl rfl);(focus ((repeat ((exact z30 (fun _=>rfl) _)));done));(focus (((simp;done));done))|constructor))
  · have e:i=S.length:=by omega
    subst e
    rw [y57 (by omega)]
    repeat' ((first|apply y4 ok;rfl|apply z23;kernel_rfl|apply y43;omega|(first|with_reducible apply z8;omega|with_reducible apply z52;omega);intro _|apply z6<;>intro _)<;>conv=>whnf)
    all_goals try (exfalso;omega)
    all_goals (refine rsD [1] [] rfl ?_;(repeat' first|exact y86 _|exact z10 _|refine z9 rfl (z5 (fun _=>rfl)) ?_|constructor))
theorem z1230 {n:Nat} {x:Int} (h:x∈z249 n):0≤x∧x < n:=by
 unfold z249 at h
 obtain ⟨i,hi,rfl⟩:=List.mem_map.1 h
 have:=List.mem_range.1 hi
 show (0:Int)≤(i:Int)∧(i:Int) < n
 omega
theorem snoc_at {α:Type} (a:List α) (x:α) (k:Nat) (h:a.length=k):(a++[x])[k]?=some x:=by subst h;simp
set_option maxHeartbeats 1600000 in
theorem z1048 (g:Graph) (hg:g.sm):QQ 107 [.agg g.cs] [] (.agg [.sref 0 0 g.st.length,.sref 1 0 g.nx.length]) [.cells 2 (g.st.map State.cs),.cells 1 (g.nx.map z93)]:=by
 have hst:=hg.st
 have hnx:=hg.nx
 have c1:=z1047 g.st.length (by omega)
 have c2:=z780 g hg (z249 g.st.length) (by rw [z327];omega) (fun x hx=>z1230 hx) g.st (by rw [z327]) (fun i h h2=>by rw [z806 h];simp)
 generalize z249 g.st.length=C at *
 refine z7 z15 func107 rfl rfl 32 ntmps107 (by simp) ?_
 repeat' ((first|apply y4 ok;rfl|apply z23;kernel_rfl|apply z4 c1;rfl;rfl|apply z11 [] [2] c2;rfl;rfl;rfl;(focus ((repeat' first|exact z17|apply z16)<;>(refine z20 ?_;((exact z5 fun _=>rfl))))))<;>conv=>whnf)
 refine y85 (y88 1 rfl) ?_
 refine z64 (fun i:Nat=>([(1,.ptr 0 none 0),(2,.ptr 1 none 0),(3,.ptr 3 none 0),(4,.int i)],[.cells 2 [g.cs],.cells 2 [[.nils,.nils]],.cells 2 (g.st.map State.cs),.cells 2 [[.sref 2 0 g.st.length,.sref 4 0 i]],.cells 1 ((g.nx.take i).map z93)])) (fun i=>i≤g.nx.length) (fun i=>g.nx.length - i) 0 (by omega) (by refine swR [0,1,2,3,4] [] rfl rfl ?_;(repeat' first|exact y86 _|exact z49|exact z10 _|apply y87|(refine z9 rfl ?_ ?_);(focus ((repeat' (first|exact z25|exact z5 (fun _=>rfl)));done))|constructor)) ?_
 intro i hi
 by_cases hin:i < g.nx.length
 ·have hr:=hg.row g.nx[i] (y44 _)
  have g0:(g.nx.map encL)[i]?=some (encL g.nx[i]):=by rw [y51,y45 hin];rfl
  have htl:((g.nx.take i).map z93).length=i:=by simp;omega
  have hrow:z93 g.nx[i]=[.own 1 (g.nx[i].map enI)]:=rfl
  have htk:(g.nx.take (i+1)).map z93=(g.nx.take i).map z93++[z93 g.nx[i]]:=by rw [y50 hin,y64];rfl
  generalize hrw:g.nx[i]=row at *
  repeat' ((first|apply y4 ok;rfl|apply z23;kernel_rfl|refine z13 (i:=i) rfl g0 ?_|(apply y43;first|omega|unfold inI;omega|dsimp only;omega|exact z62 (fun _=>rfl)|exact ⟨rfl,z22 rfl z28⟩)|apply z6<;>intro _)<;>conv=>whnf)
  all_goals try (exfalso;omega)
  all_goals refine z24 (i+1) (by omega) (by omega) (by
   refine Gl.Reach.trans (Gl.Reach.absorb (e:=[.sref 6 0 (0+row.length)]) 8 6 i 0 rfl (snoc_at _ _ i (by simp;omega)) rfl rfl (by simp) rfl (z67 z25 (z5 fun _=>rfl)) rfl) ?_
   exact (by refine swR [0,1,2,3,8] [] rfl rfl ?_;(repeat' first|exact y86 _|exact z10 _|apply y87|(first|refine z60 rfl ?_ ?_|refine z9 rfl ?_ ?_);(focus ((repeat' (first|exact z5 (fun _=>rfl)|apply z67|apply z26));done))|refine z9 rfl ?_ ?_;(focus (refine z405 ?_ ?_ rfl<;>first|simp;omega|(apply z26;exact z5 fun _=>rfl)))|refine z860 ?_ ?_;(focus (simp;omega))|refine z134 (by omega) (by omega) ?_|constructor)<;>(rw [hrw];exact y86 _)))
 ·have e:i=g.nx.length:=by omega
  subst e
  rw [y56]
  repeat' ((first|apply y4 ok;rfl|apply z23;kernel_rfl|apply y43;omega|((with_reducible apply z8;omega));intro _|apply z6<;>intro _)<;>conv=>whnf)
  all_goals try (exfalso;omega)
  all_goals (refine rsD [2,4] [] rfl ?_;(repeat' first|exact y86 _|exact z10 _|refine z9 rfl (z5 (fun _=>rfl)) ?_|constructor))
set_option maxHeartbeats 3200000 in
theorem z889 (bs:List Int) (hb:BytesOk bs) (p:Int) (hp:few p) (g:Graph) (hg:g.sm) (h1:1≤g.st.length) (h2:g.nx.length=g.st.length):∃ (g' : Graph) (p' : Int),(g'.st.length≤100∧g'.nx.length≤101∧(∀ s∈g'.st,s.sm)∧(∀ r∈g'.nx,r.length≤1001)∧p≤p'∧p'≤p+3)∧QQ 44 [.ptr 0 none 0,.agg g.cs] [rdO bs p] (.agg g'.cs) [rdO bs p']:=by
 have hst:=hg.st
 have hnx:=hg.nx
 have cc:=z1048 g hg
 obtain ⟨k,⟨k0,k1⟩,ck⟩:=z73 bs hb p g.st.length (by omega) (by omega) (by omega)
 obtain ⟨v,⟨v0,v1⟩,cv⟩:=z73 bs hb (p+1) 50 (by omega) (by omega) (by omega)
 have hks:k.toNat < g.st.length:=by omega
 have hkn:k.toNat < g.nx.length:=by omega
 have hrows:∀ r∈g.nx,r.length≤1001:=fun r hr=>by have:=hg.row r hr;omega
 by_cases e0:v=0
 ·subst e0
  refine ⟨⟨g.st,g.nx++[[0]]⟩,p+1+1,⟨hst,by simp;omega,hg.el,fun r hr=>?_,by omega,by omega⟩,?_⟩
  ·simp only [y54,y55] at hr
   rcases hr with hr|rfl
   ·exact hrows r hr
   ·simp
  refine z7 z15 func44 rfl rfl 62 ntmps44 (by simp) ?_
  repeat' ((first|apply y4 ok;rfl|(apply y43;first|(try dsimp only);simp only [y49,y48,y47,y46,y58,y59];omega|exact ⟨rfl,z22 rfl z28⟩)|(first|apply z11 [] [3,4] cc;rfl;rfl|apply z11 [0] [] ck;rfl;rfl|apply z11 [0] [] cv;rfl;rfl);rfl;(focus ((repeat' first|exact z17|apply z16)<;>first|exact z47 rfl rfl|refine z20 ?_;((exact z5 fun _=>rfl)))))<;>conv=>whnf)
  all_goals (refine RetS.mid [0,3,8] [6] [rdO bs (p+1+1),.cells 2 (g.st.map State.cs),.cells 1 (g.nx.map z93++[encL [0]])] (.agg [.sref 1 0 g.st.length,.sref 2 0 (g.nx.length+1)]) rfl rfl rfl ?_ ?_ ?_;(focus (repeat' (exact y86 _)));(focus (repeat' first|exact y86 _|exact z10 _|apply y87|(first|refine z39 rfl ?_ ?_|refine z9 rfl ?_ ?_);(focus ((repeat' (first|exact z5 (fun _=>rfl)|apply z26));done))|refine app2_le ?_ ?_;(focus (simp;done))|constructor)))
  all_goals (refine rsD [0] [1,2] rfl ?_;(repeat' first|exact y86 _|apply y87|refine app3_le ?_|(apply z40 rfl rfl rfl);(focus ((repeat (first|exact z30 (fun _=>rfl) _|exact z167 _|apply z179|rfl));done));(focus (((simp;done));done))|apply z41|refine z75 ?_ ?_;(focus (simp;done))|constructor))
 by_cases e1:v=1
 ·subst e1
  obtain ⟨x,mx,cx⟩:=z112 bs hb (p+1+1) (by omega) (by omega) [0,-1,60,9223372036854775807] (by decide) (by decide)
  refine ⟨⟨g.st,g.nx.set k.toNat (g.nx[k.toNat]++[x])⟩,p+1+1+1,⟨hst,by simp;omega,hg.el,fun r hr=>?_,by omega,by omega⟩,?_⟩
  ·rcases List.mem_or_eq_of_mem_set hr with h|rfl
   ·exact hrows r h
   ·have:=hg.row g.nx[k.toNat] (y44 _)
    simp;omega
  have hr:=hg.row g.nx[k.toNat] (y44 _)
  have g0:(g.nx.map z93)[k.toNat]?=some (z93 g.nx[k.toNat]):=by rw [y51,y45 hkn];rfl
  generalize g.nx[k.toNat]=row at *
  refine z7 z15 func44 rfl rfl 62 ntmps44 (by simp) ?_
  repeat' ((first|(fail_if_success apply z96 7);(fail_if_success apply z77 7);apply y4 ok;rfl|(first|apply z11 [] [3,4] cc;rfl;rfl|apply z11 [0] [] ck;rfl;rfl|apply z11 [0] [] cv;rfl;rfl);rfl;(focus ((repeat' first|exact z17|apply z16)<;>first|exact z47 rfl rfl|refine z20 ?_;((exact z5 fun _=>rfl)))))<;>conv=>whnf)
  refine y85 (Gl.Reach.exposeD (e:=z93 row) 4 k.toNat 0 rfl g0 rfl rfl) ?_
  conv=>whnf
  repeat' ((first|apply y4 ok;rfl|apply z23;kernel_rfl|refine z698 rfl (by simp;omega) ?_|(apply y43;first|omega|(try dsimp only);simp only [y49,y48,y47,y46,y58,y59];omega|exact ⟨rfl,z22 rfl z28⟩)|apply z11 [0,7] [] cx;rfl;rfl;rfl;(focus ((repeat' first|exact z17|apply z16)<;>first|exact z47 rfl rfl|refine z20 ?_;((exact z5 fun _=>rfl)))))<;>conv=>whnf)
  all_goals (refine RetS.mid [0,3,4] [9] [rdO bs (p+1+1+1),.cells 2 (g.st.map State.cs),.cells 1 ((g.nx.map z93).set k.toNat (encL (row++[x])))] (.agg [.sref 1 0 g.st.length,.sref 2 0 g.nx.length]) rfl rfl rfl ?_ ?_ ?_;(focus (repeat' (exact y86 _)));(focus (repeat' first|exact y86 _|exact z10 _|apply y87|(first|refine z1153 rfl rfl ?_ ?_|refine z9 rfl ?_ ?_);(focus ((repeat' ((exact z5 (fun _=>rfl))));done))|refine set2_le (by omega) ?_|refine z86 ?_ ?_;(focus ((simp;done)))|(apply z89 rfl rfl rfl);(focus ((repeat (first|exact z30 (fun _=>rfl) _|apply z179|apply z257|rfl));done));(focus (((simp;done));done))|refine z75 ?_ ?_;(focus (simp;done))|constructor)))
  all_goals (refine rsD [0] [1,2] rfl ?_;(repeat' first|exact y86 _|apply y87|refine z148 (by omega) ?_|(apply z40 rfl rfl rfl);(focus ((repeat (first|exact z30 (fun _=>rfl) _|exact z167 _|apply z647));done));(focus (((simp;done));done))|apply z41|refine z75 ?_ ?_;(focus (simp;done))|constructor))
 have gs:(g.st.map State.cs)[k.toNat]?=some (State.cs g.st[k.toNat]):=by rw [y51,y45 hks];rfl
 have hsm:=hg.el g.st[k.toNat] (y44 _)
 by_cases e2:v=2
 ·subst e2
  refine ⟨⟨g.st,g.nx.set k.toNat []⟩,p+1+1,⟨hst,by simp;omega,hg.el,fun r hr=>?_,by omega,by omega⟩,?_⟩
  ·rcases List.mem_or_eq_of_mem_set hr with h|rfl
   ·exact hrows r h
   ·simp
  refine z7 z15 func44 rfl rfl 62 ntmps44 (by simp) ?_
  repeat' ((first|apply y4 ok;rfl|apply y43;omega|((apply z8;omega));intro _|(first|apply z11 [] [3,4] cc;rfl;rfl|apply z11 [0] [] ck;rfl;rfl|apply z11 [0] [] cv;rfl;rfl);rfl;(focus ((repeat' first|exact z17|apply z16)<;>first|exact z47 rfl rfl|refine z20 ?_;((exact z5 fun _=>rfl)))))<;>conv=>whnf)
  all_goals (refine RetS.mid [0,3,4] [6] [rdO bs (p+1+1),.cells 2 (g.st.map State.cs),.cells 1 ((g.nx.map z93).set k.toNat (encL []))] (.agg [.sref 1 0 g.st.length,.sref 2 0 g.nx.length]) rfl rfl rfl ?_ ?_ ?_;(focus (repeat' (exact y86 _)));(focus (repeat' first|exact y86 _|exact z10 _|apply y87|refine z60 rfl (z5 (fun _=>rfl)) ?_|refine z9 rfl (z5 (fun _=>rfl)) ?_|constructor)))
  all_goals (refine rsD [0] [1,2] rfl ?_;(repeat' first|exact y86 _|apply y87|refine z148 (by omega) ?_|(apply z40 rfl rfl rfl);(focus ((repeat (first|exact z30 (fun _=>rfl) _|exact z167 _|apply z647));done));(focus (((simp;done));done))|apply z41|refine z75 ?_ ?_;(focus (simp;done))|constructor))
 by_cases e3:v=3
 ·subst e3
  obtain ⟨x,mx,cx⟩:=z112 bs hb (p+1+1) (by omega) (by omega) [4,-1,0] (by decide) (by decide)
  refine ⟨⟨g.st.set k.toNat ⟨g.st[k.toNat].a,[0,0,x]⟩,g.nx⟩,p+1+1+1,⟨by simp;omega,by show g.nx.length≤101;omega,fun s hs=>?_,hrows,by omega,by omega⟩,?_⟩
  ·rcases List.mem_or_eq_of_mem_set hs with h|rfl
   ·exact hg.el s h
   ·exact ⟨hsm.a,by simp⟩
  generalize g.st[k.toNat]=s0 at *
  refine z7 z15 func44 rfl rfl 62 ntmps44 (by simp) ?_
  repeat' ((first|apply y4 ok;rfl|apply z23;kernel_rfl|refine z13 (i:=k.toNat) rfl gs ?_|apply y43;omega|(first|apply z11 [] [3,4] cc;rfl;rfl|apply z11 [0] [] ck;rfl;rfl|apply z11 [0] [] cv;rfl;rfl|apply z11 [0,6] [] cx;rfl;rfl);rfl;(focus ((repeat' first|exact z17|apply z16)<;>first|exact z47 rfl rfl|refine z20 ?_;((exact z5 fun _=>rfl)))))<;>conv=>whnf)
  all_goals (refine RetS.mid [0,3,4] [7] [rdO bs (p+1+1+1),.cells 2 ((g.st.set k.toNat ⟨s0.a,[0,0,x]⟩).map State.cs),.cells 1 (g.nx.map z93)] (.agg [.sref 1 0 g.st.length,.sref 2 0 g.nx.length]) rfl rfl rfl ?_ ?_ ?_;(focus (repeat' (exact y86 _)));(focus (repeat' first|exact y86 _|exact z10 _|apply y87|refine z60 rfl (z5 (fun _=>rfl)) ?_|refine z9 rfl (z5 (fun _=>rfl)) ?_|refine z148 (by omega) ?_|constructor)))
  all_goals (refine rsD [0] [1,2] rfl ?_;(repeat' first|exact y86 _|exact z10 _|apply y87|(apply z40 rfl rfl rfl);(focus ((repeat (first|exact z30 (fun _=>rfl) _|exact z167 _));done));(focus (((simp;done));done))|apply z41|refine z75 ?_ ?_;(focus (simp;done))|constructor))
 by_cases e4:v=4
 ·subst e4
  refine ⟨⟨[],[]⟩,p+1+1,⟨by simp,by simp,by simp,by simp,by omega,by omega⟩,?_⟩
  refine z7 z15 func44 rfl rfl 62 ntmps44 (by simp) ?_
  repeat' ((first|apply y4 ok;rfl|(first|apply z11 [] [3,4] cc;rfl;rfl|apply z11 [0] [] ck;rfl;rfl|apply z11 [0] [] cv;rfl;rfl);rfl;(focus ((repeat' first|exact z17|apply z16)<;>first|exact z47 rfl rfl|refine z20 ?_;((exact z5 fun _=>rfl)))))<;>conv=>whnf)
  all_goals (refine rsD [0] [] rfl ?_;(repeat' first|exact y86 _|exact z43|apply y87|apply z41|constructor))
 ·refine ⟨g,p+1+1,⟨hst,by omega,hg.el,hrows,by omega,by omega⟩,?_⟩
  refine z7 z15 func44 rfl rfl 62 ntmps44 (by simp) ?_
  repeat' ((first|apply y4 ok;rfl|apply y43;omega|((apply z8;omega));intro _|apply z6<;>intro _|(first|apply z11 [] [3,4] cc;rfl;rfl|apply z11 [0] [] ck;rfl;rfl|apply z11 [0] [] cv;rfl;rfl);rfl;(focus ((repeat' first|exact z17|apply z16)<;>first|exact z47 rfl rfl|refine z20 ?_;((exact z5 fun _=>rfl)))))<;>conv=>whnf)
  all_goals try (exfalso;omega)
  all_goals (refine rsD [0] [3,4] rfl ?_;(repeat' first|exact y86 _|apply y87|(apply z40 rfl rfl rfl);(focus ((repeat (first|exact z30 (fun _=>rfl) _|exact z167 _));done));(focus (((simp;done));done))|apply z41|constructor))
structure Edge where
 fr:Int
 to:Int
 gd:Tree
 var:Int
 val:Tree
 sync:Int
def Edge.cs (e:Edge):List AC:=[.int e.fr,.int e.to,.int e.gd.kind,.int e.gd.val,lst 3 Tree.cs' e.gd.kids,.int e.var,.int e.val.kind,.int e.val.val,lst 3 Tree.cs' e.val.kids,.int e.sync]
structure Proc where
 loc:Int
 es:List Edge
def Proc.cs (p:Proc):List AC:=[.int p.loc,lst 10 Edge.cs p.es]
structure Sys where
 init:List Int
 ps:List Proc
def Sys.cs (s:Sys):List AC:=[ints s.init,lst 2 Proc.cs s.ps]
structure Edge.sm (e:Edge):Prop where
 gd:e.gd.sz≤100
 val:e.val.sz≤100
 var : -1≤e.var∧e.var≤2
 sync : -2≤e.sync∧e.sync≤2
structure Proc.sm (p:Proc):Prop where
 loc:0≤p.loc∧p.loc≤100
 len:p.es.length≤10
 el:∀ e∈p.es,e.sm
structure Sys.sm (s:Sys):Prop where
 init:s.init.length≤10
 len:s.ps.length≤10
 el:∀ p∈s.ps,p.sm
structure Edge.s1 (e:Edge):Prop where
 gd:e.gd.sz≤1000
 val:e.val.sz≤1000
structure Proc.s1 (p:Proc):Prop where
 len:p.es.length≤10
 el:∀ e∈p.es,e.s1
structure Sys.s1 (s:Sys):Prop where
 init:s.init.length≤20
 len:s.ps.length≤20
 el:∀ p∈s.ps,p.s1
theorem Edge.sm.s1 {e:Edge} (h:e.sm):e.s1:=⟨by have:=h.gd;omega,by have:=h.val;omega⟩
theorem Proc.sm.s1 {p:Proc} (h:p.sm):p.s1:=⟨h.len,fun e he=>(h.el e he).s1⟩
theorem Sys.sm.s1 {s:Sys} (h:s.sm):s.s1:=⟨by have:=h.init;omega,by have:=h.len;omega,fun p hp=>(h.el p hp).s1⟩
set_option maxHeartbeats 6400000 in
theorem z684 (bs:List Int) (hb:BytesOk bs) (p:Int) (hp:few1 p) (n:Int) (hn:0≤n∧n≤100):∃ (e:Edge) (p' : Int),(e.sm∧p≤p'∧p'≤p+200)∧QQ 189 [.ptr 0 none 0,.int n] [rdO bs p] (.agg e.cs) [rdO bs p']:=by
 obtain ⟨a,⟨la,ua⟩,ca⟩:=z73 bs hb p n (by omega) (by omega) (by omega)
 obtain ⟨b,⟨lb,ub⟩,cb⟩:=z73 bs hb (p+1) n (by omega) (by omega) (by omega)
 obtain ⟨gd,q,⟨g1,g2,g3⟩,cg⟩:=z616 bs hb (p+1+1) ⟨by omega,by omega⟩
 obtain ⟨w,⟨lw,uw⟩,cw⟩:=z73 bs hb q 3 (by omega) (by omega) (by omega)
 rw [y15] at cg
 by_cases hw:w=0
 ·subst hw
  obtain ⟨y,⟨ly,uy⟩,cy⟩:=z73 bs hb (q+1) 4 (by omega) (by omega) (by omega)
  by_cases hy:y=0
  ·subst hy
   obtain ⟨s,ms,cs⟩:=z112 bs hb (q+1+1) (by omega) (by omega) [1,-1,1,-1,2,-2] (by decide) (by decide)
   refine ⟨⟨a,b,gd,-1,leaf 0 0,s⟩,q+1+1+1,⟨⟨by show gd.sz≤100;omega,by (rw [z98];omega),by show -1≤(-1:Int)∧(-1:Int)≤2;omega,by simp at ms;show -2≤s∧s≤2;omega⟩,by omega,by omega⟩,?_⟩
   refine z7 z15 func189 rfl rfl 61 ntmps189 (by simp) ?_
   repeat' ((first|apply y4 ok;rfl|(first|apply z11 [0] [] ca;rfl;rfl|apply z11 [0] [] cb;rfl;rfl|apply z11 [0] [] cg;rfl;rfl|apply z11 [0] [] cw;rfl;rfl|apply z11 [0] [] cy;rfl;rfl|apply z11 [0,3] [] cs;rfl;rfl);rfl;(focus ((repeat' first|exact z17|apply z16)<;>first|exact z47 rfl rfl|refine z20 ?_;((exact z5 fun _=>rfl)))))<;>conv=>whnf)
   all_goals (refine rsD [0] [] rfl ?_;(repeat' first|exact y86 _|exact z43|apply y87|apply z41|constructor))
  ·refine ⟨⟨a,b,gd,-1,leaf 0 0,0⟩,q+1+1,⟨⟨by show gd.sz≤100;omega,by (rw [z98];omega),by show -1≤(-1:Int)∧(-1:Int)≤2;omega,by show -2≤(0:Int)∧(0:Int)≤2;omega⟩,by omega,by omega⟩,?_⟩
   refine z7 z15 func189 rfl rfl 61 ntmps189 (by simp) ?_
   repeat' ((first|apply y4 ok;rfl|apply z6<;>intro _|(first|apply z37 [0] [] ca;rfl;rfl|apply z37 [0] [] cb;rfl;rfl|apply z37 [0] [] cg;rfl;rfl|apply z37 [0] [] cw;rfl;rfl|apply z37 [0] [] cy;rfl;rfl);rfl)<;>conv=>whnf)
   all_goals try (exfalso;omega)
   all_goals (refine rsD [0] [] rfl ?_;(repeat' first|exact y86 _|exact z43|apply y87|apply z41|constructor))
 obtain ⟨x,mx,cx⟩:=z112 bs hb (q+1) (by omega) (by omega) [0,1,0,2] (by decide) (by decide)
 obtain ⟨z,⟨lz,uz⟩,cz⟩:=z73 bs hb (q+1+1) 4 (by omega) (by omega) (by omega)
 by_cases h0:z=0
 ·subst h0
  obtain ⟨k,⟨lk,uk⟩,ck⟩:=z73 bs hb (q+1+1+1) 3 (by omega) (by omega) (by omega)
  obtain ⟨y,⟨ly,uy⟩,cy⟩:=z73 bs hb (q+1+1+1+1) 4 (by omega) (by omega) (by omega)
  by_cases hy:y=0
  ·subst hy
   obtain ⟨s,ms,cs⟩:=z112 bs hb (q+1+1+1+1+1) (by omega) (by omega) [1,-1,1,-1,2,-2] (by decide) (by decide)
   refine ⟨⟨a,b,gd,x,leaf 1 k,s⟩,q+1+1+1+1+1+1,⟨⟨by show gd.sz≤100;omega,by (rw [z98];omega),by simp at mx;show -1≤x∧x≤2;omega,by simp at ms;show -2≤s∧s≤2;omega⟩,by omega,by omega⟩,?_⟩
   refine z7 z15 func189 rfl rfl 61 ntmps189 (by simp) ?_
   repeat' ((first|apply y4 ok;rfl|apply z6<;>intro _|(first|apply z11 [0] [] ca;rfl;rfl|apply z11 [0] [] cb;rfl;rfl|apply z11 [0] [] cg;rfl;rfl|apply z11 [0] [] cw;rfl;rfl|apply z11 [0,3] [] cx;rfl;rfl|apply z11 [0] [] cz;rfl;rfl|apply z11 [0] [] ck;rfl;rfl|apply z11 [0] [] cy;rfl;rfl|apply z11 [0,6] [] cs;rfl;rfl);rfl;(focus ((repeat' first|exact z17|apply z16)<;>first|exact z47 rfl rfl|refine z20 ?_;((exact z5 fun _=>rfl)))))<;>conv=>whnf)
   all_goals try (exfalso;omega)
   all_goals (refine rsD [0] [] rfl ?_;(repeat' first|exact y86 _|exact z43|apply y87|apply z41|constructor))
  ·refine ⟨⟨a,b,gd,x,leaf 1 k,0⟩,q+1+1+1+1+1,⟨⟨by show gd.sz≤100;omega,by (rw [z98];omega),by simp at mx;show -1≤x∧x≤2;omega,by show -2≤(0:Int)∧(0:Int)≤2;omega⟩,by omega,by omega⟩,?_⟩
   refine z7 z15 func189 rfl rfl 61 ntmps189 (by simp) ?_
   repeat' ((first|apply y4 ok;rfl|apply z6<;>intro _|(first|apply z11 [0] [] ca;rfl;rfl|apply z11 [0] [] cb;rfl;rfl|apply z11 [0] [] cg;rfl;rfl|apply z11 [0] [] cw;rfl;rfl|apply z11 [0,3] [] cx;rfl;rfl|apply z11 [0] [] cz;rfl;rfl|apply z11 [0] [] ck;rfl;rfl|apply z11 [0] [] cy;rfl;rfl);rfl;(focus ((repeat' first|exact z17|apply z16)<;>first|exact z47 rfl rfl|refine z20 ?_;((exact z5 fun _=>rfl)))))<;>conv=>whnf)
   all_goals try (exfalso;omega)
   all_goals (refine rsD [0] [] rfl ?_;(repeat' first|exact y86 _|exact z43|apply y87|apply z41|constructor))
 by_cases h1:z=1
 ·subst h1
  obtain ⟨y,⟨ly,uy⟩,cy⟩:=z73 bs hb (q+1+1+1) 4 (by omega) (by omega) (by omega)
  by_cases hy:y=0
  ·subst hy
   obtain ⟨s,ms,cs⟩:=z112 bs hb (q+1+1+1+1) (by omega) (by omega) [1,-1,1,-1,2,-2] (by decide) (by decide)
   refine ⟨⟨a,b,gd,x,.mk 8 0 [leaf 2 x,leaf 1 1],s⟩,q+1+1+1+1+1,⟨⟨by show gd.sz≤100;omega,by (show Tree.sz _≤100;rw [z244];simp [z98]),by simp at mx;show -1≤x∧x≤2;omega,by simp at ms;show -2≤s∧s≤2;omega⟩,by omega,by omega⟩,?_⟩
   refine z7 z15 func189 rfl rfl 61 ntmps189 (by simp) ?_
   repeat' ((first|apply y4 ok;rfl|apply z6<;>intro _|(first|apply z11 [0] [] ca;rfl;rfl|apply z11 [0] [] cb;rfl;rfl|apply z11 [0] [] cg;rfl;rfl|apply z11 [0] [] cw;rfl;rfl|apply z11 [0,3] [] cx;rfl;rfl|apply z11 [0] [] cz;rfl;rfl|apply z11 [0] [] cy;rfl;rfl|apply z11 [0,7] [] cs;rfl;rfl);rfl;(focus ((repeat' first|exact z17|apply z16)<;>first|exact z47 rfl rfl|refine z20 ?_;((exact z5 fun _=>rfl)))))<;>conv=>whnf)
   all_goals try (exfalso;omega)
   all_goals (refine rsD [0] [6] rfl ?_;(repeat' first|exact y86 _|exact z43|apply y87|refine z40 rfl rfl rfl rfl rfl ?_|apply z41|apply z75;rfl|constructor))
  ·refine ⟨⟨a,b,gd,x,.mk 8 0 [leaf 2 x,leaf 1 1],0⟩,q+1+1+1+1,⟨⟨by show gd.sz≤100;omega,by (show Tree.sz _≤100;rw [z244];simp [z98]),by simp at mx;show -1≤x∧x≤2;omega,by show -2≤(0:Int)∧(0:Int)≤2;omega⟩,by omega,by omega⟩,?_⟩
   refine z7 z15 func189 rfl rfl 61 ntmps189 (by simp) ?_
   repeat' ((first|apply y4 ok;rfl|apply z6<;>intro _|(first|apply z11 [0] [] ca;rfl;rfl|apply z11 [0] [] cb;rfl;rfl|apply z11 [0] [] cg;rfl;rfl|apply z11 [0] [] cw;rfl;rfl|apply z11 [0,3] [] cx;rfl;rfl|apply z11 [0] [] cz;rfl;rfl|apply z11 [0] [] cy;rfl;rfl);rfl;(focus ((repeat' first|exact z17|apply z16)<;>first|exact z47 rfl rfl|refine z20 ?_;((exact z5 fun _=>rfl)))))<;>conv=>whnf)
   all_goals try (exfalso;omega)
   all_goals (refine rsD [0] [6] rfl ?_;(repeat' first|exact y86 _|exact z43|apply y87|refine z40 rfl rfl rfl rfl rfl ?_|apply z41|apply z75;rfl|constructor))
 by_cases h2:z=2
 ·subst h2
  obtain ⟨y,⟨ly,uy⟩,cy⟩:=z73 bs hb (q+1+1+1) 4 (by omega) (by omega) (by omega)
  by_cases hy:y=0
  ·subst hy
   obtain ⟨s,ms,cs⟩:=z112 bs hb (q+1+1+1+1) (by omega) (by omega) [1,-1,1,-1,2,-2] (by decide) (by decide)
   refine ⟨⟨a,b,gd,x,.mk 9 0 [leaf 1 1,leaf 2 x],s⟩,q+1+1+1+1+1,⟨⟨by show gd.sz≤100;omega,by (show Tree.sz _≤100;rw [z244];simp [z98]),by simp at mx;show -1≤x∧x≤2;omega,by simp at ms;show -2≤s∧s≤2;omega⟩,by omega,by omega⟩,?_⟩
   refine z7 z15 func189 rfl rfl 61 ntmps189 (by simp) ?_
   repeat' ((first|apply y4 ok;rfl|apply z6<;>intro _|(first|apply z11 [0] [] ca;rfl;rfl|apply z11 [0] [] cb;rfl;rfl|apply z11 [0] [] cg;rfl;rfl|apply z11 [0] [] cw;rfl;rfl|apply z11 [0,3] [] cx;rfl;rfl|apply z11 [0] [] cz;rfl;rfl|apply z11 [0] [] cy;rfl;rfl|apply z11 [0,7] [] cs;rfl;rfl);rfl;(focus ((repeat' first|exact z17|apply z16)<;>first|exact z47 rfl rfl|refine z20 ?_;((exact z5 fun _=>rfl)))))<;>conv=>whnf)
   all_goals try (exfalso;omega)
   all_goals (refine rsD [0] [6] rfl ?_;(repeat' first|exact y86 _|exact z43|apply y87|refine z40 rfl rfl rfl rfl rfl ?_|apply z41|apply z75;rfl|constructor))
  ·refine ⟨⟨a,b,gd,x,.mk 9 0 [leaf 1 1,leaf 2 x],0⟩,q+1+1+1+1,⟨⟨by show gd.sz≤100;omega,by (show Tree.sz _≤100;rw [z244];simp [z98]),by simp at mx;show -1≤x∧x≤2;omega,by show -2≤(0:Int)∧(0:Int)≤2;omega⟩,by omega,by omega⟩,?_⟩
   refine z7 z15 func189 rfl rfl 61 ntmps189 (by simp) ?_
   repeat' ((first|apply y4 ok;rfl|apply z6<;>intro _|(first|apply z11 [0] [] ca;rfl;rfl|apply z11 [0] [] cb;rfl;rfl|apply z11 [0] [] cg;rfl;rfl|apply z11 [0] [] cw;rfl;rfl|apply z11 [0,3] [] cx;rfl;rfl|apply z11 [0] [] cz;rfl;rfl|apply z11 [0] [] cy;rfl;rfl);rfl;(focus ((repeat' first|exact z17|apply z16)<;>first|exact z47 rfl rfl|refine z20 ?_;((exact z5 fun _=>rfl)))))<;>conv=>whnf)
   all_goals try (exfalso;omega)
   all_goals (refine rsD [0] [6] rfl ?_;(repeat' first|exact y86 _|exact z43|apply y87|refine z40 rfl rfl rfl rfl rfl ?_|apply z41|apply z75;rfl|constructor))
 obtain ⟨t,q2,⟨t1,t2,t3⟩,ct⟩:=z1197 bs hb (q+1+1+1) ⟨by omega,by omega⟩
 rw [y15] at ct
 obtain ⟨y,⟨ly,uy⟩,cy⟩:=z73 bs hb q2 4 (by omega) (by omega) (by omega)
 by_cases hy:y=0
 ·subst hy
  obtain ⟨s,ms,cs⟩:=z112 bs hb (q2+1) (by omega) (by omega) [1,-1,1,-1,2,-2] (by decide) (by decide)
  refine ⟨⟨a,b,gd,x,t,s⟩,q2+1+1,⟨⟨by show gd.sz≤100;omega,by show t.sz≤100;omega,by simp at mx;show -1≤x∧x≤2;omega,by simp at ms;show -2≤s∧s≤2;omega⟩,by omega,by omega⟩,?_⟩
  refine z7 z15 func189 rfl rfl 61 ntmps189 (by simp) ?_
  repeat' ((first|apply y4 ok;rfl|apply z6<;>intro _|(first|apply z11 [0] [] ca;rfl;rfl|apply z11 [0] [] cb;rfl;rfl|apply z11 [0] [] cg;rfl;rfl|apply z11 [0] [] cw;rfl;rfl|apply z11 [0,3] [] cx;rfl;rfl|apply z11 [0] [] cz;rfl;rfl|apply z11 [0] [] ct;rfl;rfl|apply z11 [0] [] cy;rfl;rfl|apply z11 [0,6] [] cs;rfl;rfl);rfl;(focus ((repeat' first|exact z17|apply z16)<;>first|exact z47 rfl rfl|refine z20 ?_;((exact z5 fun _=>rfl)))))<;>conv=>whnf)
  all_goals try (exfalso;omega)
  all_goals (refine rsD [0] [] rfl ?_;(repeat' first|exact y86 _|apply y87|constructor))
 ·refine ⟨⟨a,b,gd,x,t,0⟩,q2+1,⟨⟨by show gd.sz≤100;omega,by show t.sz≤100;omega,by simp at mx;show -1≤x∧x≤2;omega,by show -2≤(0:Int)∧(0:Int)≤2;omega⟩,by omega,by omega⟩,?_⟩
  refine z7 z15 func189 rfl rfl 61 ntmps189 (by simp) ?_
  repeat' ((first|apply y4 ok;rfl|apply z6<;>intro _|(first|apply z11 [0] [] ca;rfl;rfl|apply z11 [0] [] cb;rfl;rfl|apply z11 [0] [] cg;rfl;rfl|apply z11 [0] [] cw;rfl;rfl|apply z11 [0,3] [] cx;rfl;rfl|apply z11 [0] [] cz;rfl;rfl|apply z11 [0] [] ct;rfl;rfl|apply z11 [0] [] cy;rfl;rfl);rfl;(focus ((repeat' first|exact z17|apply z16)<;>first|exact z47 rfl rfl|refine z20 ?_;((exact z5 fun _=>rfl)))))<;>conv=>whnf)
  all_goals try (exfalso;omega)
  all_goals (refine rsD [0] [] rfl ?_;(repeat' first|exact y86 _|apply y87|constructor))
def isProc (bs:List Int) (q:Int) (pr:Proc) (q' : Int):Prop:=pr.sm∧∃ (m:Nat) (pf:Nat→Int),
 QQ 104 [.ptr 0 none 0,.sref 1 0 4] [rdO bs q,.cells 1 ([2,3,1,2].map enI)] (.int pr.loc) [rdO bs (q+1),.cells 1 ([2,3,1,2].map enI)] ∧
 QQ 104 [.ptr 0 none 0,.sref 1 0 5] [rdO bs (q+1),.cells 1 ([3,4,2,5,1].map enI)] (.int m) [rdO bs (q+1+1),.cells 1 ([3,4,2,5,1].map enI)] ∧
 m≤5∧pr.es.length=m∧pf 0=q+1+1∧pf m=q'∧∀ k (h:k < pr.es.length),QQ 189 [.ptr 0 none 0,.int pr.loc] [rdO bs (pf k)] (.agg pr.es[k].cs) [rdO bs (pf (k+1))]
theorem proc_ex (bs:List Int) (hb:BytesOk bs) (q:Int) (hq:0≤q∧q≤999980000):∃ pr q',isProc bs q pr q'∧q≤q'∧q'≤q+1010:=by
 obtain ⟨v,mv,cv⟩:=z112 bs hb q (by omega) (by omega) [2,3,1,2] (by decide) (by decide)
 obtain ⟨w,mw,cw⟩:=z112 bs hb (q+1) (by omega) (by omega) [3,4,2,5,1] (by decide) (by decide)
 simp only [List.mem_cons,List.not_mem_nil,or_false] at mv mw
 obtain ⟨m,rfl⟩:∃ m:Nat,w=m:=⟨w.toNat,by omega⟩
 obtain ⟨es,pf,h1,h2,h3,h4⟩:=z510 (fun _ r (e:Edge) r'=>e.sm∧QQ 189 [.ptr 0 none 0,.int v] [rdO bs r] (.agg e.cs) [rdO bs r']) (q+1+1) 200 m (fun k r hk a1 a2=>by
  obtain ⟨e,r',⟨b1,b2,b3⟩,c⟩:=z684 bs hb r ⟨by omega,by omega⟩ v (by omega)
  exact ⟨e,r',⟨b1,c⟩,b2,b3⟩)
 have h5:=h4 m (y52 _)
 refine ⟨⟨v,es⟩,pf m,⟨⟨by show 0≤v∧v≤100;omega,by show es.length≤10;omega,fun e he=>?_⟩,m,pf,cv,cw,by omega,h1,h2,rfl,fun k h=>(h3 k h).2⟩,by omega,by omega⟩
 obtain ⟨i,hi,rfl⟩:=List.mem_iff_getElem.1 he
 exact (h3 i hi).1
set_option maxHeartbeats 6400000 in
theorem z890 (bs:List Int) (hb:BytesOk bs) (p:Int) (hp:few2 p):∃ (s:Sys) (p' : Int),(s.sm∧p≤p'∧p'≤p+4000)∧QQ 109 [.ptr 0 none 0] [rdO bs p] (.agg s.cs) [rdO bs p']:=by
 obtain ⟨a,⟨la,ua⟩,ca⟩:=z73 bs hb p 2 (by omega) (by omega) (by omega)
 obtain ⟨b,mb,cb⟩:=z112 bs hb (p+1) (by omega) (by omega) [0,0,1,3] (by decide) (by decide)
 obtain ⟨w,mw,cw⟩:=z112 bs hb (p+1+1) (by omega) (by omega) [2,1,2,3] (by decide) (by decide)
 simp only [List.mem_cons,List.not_mem_nil,or_false] at mw
 obtain ⟨m,rfl⟩:∃ m:Nat,w=m:=⟨w.toNat,by omega⟩
 obtain ⟨ps,pf,h1,h2,h3,h4⟩:=z510 (fun _ q pr q'=>isProc bs q pr q') (p+1+1+1) 1010 m (fun k r hk a1 a2=>proc_ex bs hb r (by omega))
 have h5:=h4 m (y52 _)
 refine ⟨⟨[a,b,0],ps⟩,pf m,⟨⟨by simp,by show ps.length≤10;omega,fun e he=>?_⟩,by omega,by omega⟩,?_⟩
 ·obtain ⟨i,hi,rfl⟩:=List.mem_iff_getElem.1 he
  exact (h3 i hi).1
 rw [← h2] at cw
 refine z7 z15 func109 rfl rfl 48 ntmps109 (by simp) ?_
 repeat' ((first|apply y4 ok;rfl|(first|apply z11 [0] [] ca;rfl;rfl|apply z11 [0,2] [] cb;rfl;rfl|apply z11 [0,5] [] cw;rfl;rfl);rfl;(focus ((repeat' first|exact z17|apply z16)<;>first|exact z47 rfl rfl|refine z20 ?_;((exact z5 fun _=>rfl)))))<;>conv=>whnf)
 refine y85 (y88 2 rfl) ?_
 refine z64 (fun i:Nat=>([(0,.ptr 0 none 0),(2,.ptr 1 none 0),(3,.ptr 2 none 0),(4,.int (m - i))],[rdO bs (pf i),.cells 2 [[.nils,.nils]],.cells 2 [[ints [a,b,0],.sref 3 0 i]],.cells 2 ((ps.take i).map Proc.cs)])) (fun i=>i≤m) (fun i=>m - i) 0 (by omega) (by refine swR [0,1,4,6] [3] rfl rfl ?_;(repeat' first|exact y86 _|exact z49|apply y87|refine z9 rfl z25 ?_|constructor)) ?_
 intro i hi
 by_cases him:i < m
 ·have hil:i < ps.length:=by omega
  obtain ⟨g1,m2,pf2,c1,c2,g2,g3,g4,g5,g6⟩:=h3 i hil
  rw [← g4] at c2
  have hpi:(ps.take (i+1)).map Proc.cs=(ps.take i).map Proc.cs++[Proc.cs ps[i]]:=by rw [y50 hil,y64];rfl
  repeat' ((first|apply y4 ok;rfl|apply z6<;>intro _|(first|apply z11 [0,4] [] c1;rfl;rfl|apply z11 [0,6] [] c2;rfl;rfl);rfl;(focus ((repeat' first|exact z17|apply z16)<;>first|exact z47 rfl rfl|refine z20 ?_;((exact z5 fun _=>rfl)))))<;>conv=>whnf)
  all_goals try (exfalso;omega)
  refine y85 (y88 10 rfl) ?_
  refine z64 (fun k:Nat=>([(0,.ptr 0 none 0),(2,.ptr 1 none 0),(3,.ptr 2 none 0),(4,.int (m - i)),(5,.ptr 4 none 0),(6,.int (m2 - k))],[rdO bs (pf2 k),.cells 2 [[.nils,.nils]],.cells 2 [[ints [a,b,0],.sref 3 0 i]],.cells 2 ((ps.take i).map Proc.cs),.cells 2 [[.int ps[i].loc,.sref 5 0 k]],.cells 10 ((ps[i].es.take k).map Edge.cs)])) (fun k=>k≤m2) (fun k=>m2 - k) 0 (by omega) (by refine swR [0,1,2,3,5,7] [] rfl rfl ?_;(repeat' first|exact y86 _|exact z49|exact z10 _|apply y87|(refine z9 rfl ?_ ?_);(focus ((repeat' (first|exact z25|exact z5 (fun _=>rfl)));done))|constructor)) ?_
  intro k hk
  by_cases hkm:k < m2
  ·have hke:k < ps[i].es.length:=by omega
   have ce:=g6 k hke
   repeat' ((first|apply y4 ok;rfl|apply z23;kernel_rfl|(apply y43;first|omega|unfold inI;omega|(try dsimp only);simp only [y49,y48,y47,y46,y58,y59];omega|exact ⟨rfl,z22 rfl z28⟩)|apply z6<;>intro _|apply z37 [0] [] ce;rfl;rfl;rfl)<;>conv=>whnf)
   all_goals try (exfalso;omega)
   all_goals refine z24 (k+1) (by omega) (by omega) (by refine swR [0,1,2,3,4,7] [] rfl rfl ?_;(repeat' first|exact y86 _|exact z10 _|refine z115 ?_;omega|apply y87|(first|refine z39 rfl ?_ ?_|refine z9 rfl ?_ ?_);(focus ((repeat' (first|exact z5 (fun _=>rfl)|apply z26));done))|refine z134 (by omega) (by omega) ?_|constructor))
  ·have ek:k=m2:=by omega
   subst ek
   rw [y57 (show ps[i].es.length≤k by omega)]
   repeat' ((first|apply y4 ok;rfl|(apply y43;first|unfold inI;omega|(try dsimp only);simp only [y49,y48,y47,y46,y58,y59];omega|exact ⟨rfl,z22 rfl z28⟩)|apply z6<;>intro _)<;>conv=>whnf)
   all_goals try (exfalso;omega)
   all_goals refine z24 (i+1) (by omega) (by omega) (by refine swR [0,1,2,7] [5] rfl rfl ?_;(repeat' first|exact y86 _|refine z245 ?_;omega|refine z115 ?_;omega|apply y87|(refine z39 rfl ?_ ?_);(focus ((repeat' (first|exact z5 (fun _=>rfl)|apply z26));done))|refine z134 (by omega) (by omega) ?_|(apply z89 rfl rfl rfl);(focus ((repeat ((exact z30 (fun _=>rfl) _)));done));(focus (((simp;omega));done))|constructor))
 ·have e:i=m:=by omega
  subst e
  rw [y57 (show ps.length≤i by omega)]
  repeat' ((first|apply y4 ok;rfl|apply z6<;>intro _)<;>conv=>whnf)
  all_goals try (exfalso;omega)
  all_goals (refine rsD [0] [3] rfl ?_;(repeat' first|exact y86 _|refine z245 ?_;omega|apply y87|(apply z40 rfl rfl rfl);(focus ((repeat ((exact z30 (fun _=>rfl) _)));done));(focus (((simp;omega));done))|apply z41|constructor))
theorem z1107 (n:Nat) (e:List AC):z72 (List.replicate n e)=List.replicate n (z277 e):=by
 induction n with
 |zero=>rfl
 |succ n ih=>simp only [List.replicate_succ,z72,ih]
noncomputable def noneB (t:Tree):Bool:=decide (t.kind=0∧t.val=0∧t.kids.length=0)
theorem z1196 (t:Tree):QQ 311 [z27 Tree.cs' t] [] (.bool (noneB t)) []:=by
 refine z12 z15 func311 rfl rfl 17 ntmps311 (by simp) ?_
 repeat' ((first|apply y4 ok;rfl|apply z6<;>intro _)<;>conv=>whnf)
 all_goals refine z19 rfl ?_
 all_goals unfold noneB
 all_goals first|rw [decide_eq_decide];omega|rw [decide_eq_false_iff_not];omega
noncomputable def z589 (e:Edge) (n:Int):Bool:=decide (0≤e.fr∧e.fr < n∧0≤e.to∧e.to < n∧n≤4) && (e.gd.exprB && (decide (-2≤e.sync∧e.sync≤2∧-1≤e.var∧e.var < 3) && (if e.var < 0 then noneB e.val else e.val.exprB)))
set_option maxHeartbeats 1600000 in
theorem z802 (e:Edge) (he:e.s1) (n:Int):QQ 304 [.agg e.cs,.int n] [] (.bool (z589 e n)) []:=by
 have h1:=he.gd
 have h2:=he.val
 have c1:=z143 e.gd (z101 _ (by unfold maxLen;omega))
 have c2:=z143 e.val (z101 _ (by unfold maxLen;omega))
 have c3:=z1196 e.val
 rw [y15] at c1 c2 c3
 unfold z589
 generalize e.gd.exprB=b1 at *
 generalize e.val.exprB=b2 at *
 generalize noneB e.val=b3 at *
 by_cases ha:0≤e.fr∧e.fr < n∧0≤e.to∧e.to < n∧n≤4
 ·rw [y82 ha]
  by_cases hb : -2≤e.sync∧e.sync≤2∧-1≤e.var∧e.var < 3
  ·rw [y82 hb]
   by_cases hv:e.var < 0
   ·rw [if_pos hv]
    refine z12 z15 func304 rfl rfl 71 ntmps304 (by simp) ?_
    cases b1<;>cases b3
    all_goals
     repeat' ((first|apply y4 ok;rfl|apply z6<;>intro _|apply z4 c1;rfl;rfl|apply z4 c3;rfl;rfl)<;>conv=>whnf)
     all_goals first|exfalso;omega|exact z19 rfl rfl
   ·rw [if_neg hv]
    refine z12 z15 func304 rfl rfl 71 ntmps304 (by simp) ?_
    cases b1<;>cases b2
    all_goals
     repeat' ((first|apply y4 ok;rfl|apply z6<;>intro _|apply z4 c1;rfl;rfl|apply z4 c2;rfl;rfl)<;>conv=>whnf)
     all_goals first|exfalso;omega|exact z19 rfl rfl
  ·rw [y83 hb]
   refine z12 z15 func304 rfl rfl 71 ntmps304 (by simp) ?_
   cases b1
   all_goals
    repeat' ((first|apply y4 ok;rfl|apply z6<;>intro _|apply z4 c1;rfl;rfl)<;>conv=>whnf)
    all_goals first|exfalso;omega|exact z19 rfl rfl
 ·rw [y83 ha]
  refine z12 z15 func304 rfl rfl 71 ntmps304 (by simp) ?_
  repeat' ((first|apply y4 ok;rfl|(first|apply z6|apply z78)<;>intro _|apply z4 c1;rfl;rfl)<;>conv=>whnf)
  all_goals first|exfalso;omega|exact z19 rfl rfl
noncomputable def z583 (p:Proc):Bool:=p.es.all (fun e=>z589 e p.loc) && decide (1≤p.loc∧p.loc≤4∧p.es.length≤6)
theorem z782 (p:Proc) (hp:p.s1):QQ 281 [.agg p.cs] [] (.bool (z583 p)) []:=by
 have hl:=hp.len
 unfold z583
 refine z12 z15 func281 rfl rfl 34 ntmps281 (by simp) ?_
 repeat' (((apply y4 ok;rfl))<;>conv=>whnf)
 refine z97 (fun k:Nat=>([(1,.ptr 0 none 0),(3,.int k)],[.cells 2 [p.cs]])) (fun k=>k≤p.es.length∧p.es.all (fun e=>z589 e p.loc)=(p.es.drop k).all (fun e=>z589 e p.loc)) (fun k=>p.es.length - k) 0 ⟨by omega,rfl⟩ ⟨[0],rfl,by decide,rfl,by repeat' (first|exact True.intro|exact ⟨rfl,rfl⟩|apply y43),by repeat' (first|exact True.intro|exact z21 rfl rfl|apply y43)⟩ ?_
 intro k hk
 by_cases hkl:k < p.es.length
 ·have ce:=z802 p.es[k] (hp.el _ (y44 _)) p.loc
  have e:=z159 (fun e=>z589 e p.loc) p.es k hkl
  rw [e] at hk
  have g0:(p.es.map Edge.cs)[k]?=some (Edge.cs p.es[k]):=by rw [y51,y45 hkl];rfl
  generalize z589 p.es[k] p.loc=b at *
  cases b
  all_goals
   repeat' ((first|apply y4 ok;rfl|apply z23;kernel_rfl|refine z13 (i:=k) rfl g0 ?_|(apply y43;first|omega|unfold inI;omega)|apply z6<;>intro _|apply z4 ce;rfl;rfl)<;>conv=>whnf)
   all_goals try (exfalso;omega)
  ·exact z19 rfl (by rw [hk.2];rfl)
  ·exact z85 (k+1) [0] ⟨by omega,by rw [hk.2,Bool.true_and]⟩ (by omega) ⟨rfl,by decide,rfl,by repeat' (first|exact True.intro|exact ⟨rfl,rfl⟩|apply y43),by repeat' (first|exact True.intro|exact z21 rfl rfl|apply y43)⟩
 ·have e:=z151 (fun e=>z589 e p.loc) p.es k (by omega)
  rw [e] at hk
  repeat' ((first|apply y4 ok;rfl|apply y43;omega|((with_reducible apply z8;omega));intro _|apply z6<;>intro _)<;>conv=>whnf)
  all_goals first|exfalso;omega|(refine z19 rfl ?_;rw [hk.2];simp only [Bool.true_and,Bool.false_and];first|rw [decide_eq_decide];omega|rw [decide_eq_false_iff_not];omega)
noncomputable def sysB (s:Sys):Bool:=s.ps.all z583 && (z423 s.init && decide (1≤s.ps.length∧s.ps.length≤3))
theorem z576 (s:Sys) (hs:s.s1):QQ 248 [.agg s.cs] [] (.bool (sysB s)) []:=by
 have hl:=hs.len
 have hi:=hs.init
 have cv:=z783 s.init (by unfold maxLen;omega)
 unfold sysB
 generalize z423 s.init=vb at *
 refine z12 z15 func248 rfl rfl 33 ntmps248 (by simp) ?_
 repeat' (((apply y4 ok;rfl))<;>conv=>whnf)
 refine z97 (fun k:Nat=>([(1,.ptr 0 none 0),(3,.int k)],[.cells 2 [s.cs]])) (fun k=>k≤s.ps.length∧s.ps.all z583=(s.ps.drop k).all z583) (fun k=>s.ps.length - k) 0 ⟨by omega,rfl⟩ ⟨[0],rfl,by decide,rfl,by repeat' (first|exact True.intro|exact ⟨rfl,rfl⟩|apply y43),by repeat' (first|exact True.intro|exact z21 rfl rfl|apply y43)⟩ ?_
 intro k hk
 by_cases hkl:k < s.ps.length
 ·have ce:=z782 s.ps[k] (hs.el _ (y44 _))
  have e:=z159 z583 s.ps k hkl
  rw [e] at hk
  have g0:(s.ps.map Proc.cs)[k]?=some (Proc.cs s.ps[k]):=by rw [y51,y45 hkl];rfl
  generalize z583 s.ps[k]=b at *
  cases b
  all_goals
   repeat' ((first|apply y4 ok;rfl|refine z13 (i:=k) rfl g0 ?_|(apply y43;first|omega|unfold inI;omega)|apply z6<;>intro _|apply z4 ce;rfl;rfl)<;>conv=>whnf)
   all_goals try (exfalso;omega)
  ·exact z19 rfl (by rw [hk.2];rfl)
  ·exact z85 (k+1) [0] ⟨by omega,by rw [hk.2,Bool.true_and]⟩ (by omega) ⟨rfl,by decide,rfl,by repeat' (first|exact True.intro|exact ⟨rfl,rfl⟩|apply y43),by repeat' (first|exact True.intro|exact z21 rfl rfl|apply y43)⟩
 ·have e:=z151 z583 s.ps k (by omega)
  rw [e] at hk
  cases vb
  all_goals
   repeat' ((first|apply y4 ok;rfl|apply y43;omega|((with_reducible apply z8;omega));intro _|apply z6<;>intro _|apply z4 cv;rfl;rfl)<;>conv=>whnf)
   all_goals first|exfalso;omega|(refine z19 rfl ?_;rw [hk.2];simp only [Bool.true_and,Bool.false_and];first|done|rw [decide_eq_decide];omega|rw [decide_eq_false_iff_not];omega)
theorem z786 (s:Sys) (hs:s.s1):QQ 184 [.agg s.cs] [] (.tup [.agg (if sysB s then (⟨List.replicate s.ps.length 0,s.init⟩:State) else ⟨[],[]⟩).cs,.bool (sysB s)]) []:=by
 have hl:=hs.len
 have hi:=hs.init
 have c:=z576 s hs
 generalize sysB s=b at *
 refine z7 z15 func184 rfl rfl 17 ntmps184 (by simp) ?_
 cases b
 all_goals
  repeat' ((first|apply y4 ok;rfl|apply z23;kernel_rfl|(apply y43;first|dsimp only;omega|exact z62 (fun _=>rfl))|apply z4 c;rfl;rfl)<;>conv=>whnf)
 ·(refine rsD [] [] rfl ?_;(repeat' first|exact y86 _|exact z43|apply z41|apply z80|constructor))
 ·(refine rsD [] [2,4] rfl ?_;(repeat' first|exact y86 _|refine z245 ?_;omega|(apply z40 rfl rfl rfl);(focus ((repeat (first|exact z30 (fun _=>rfl) _|rfl));done));(focus (((simp;done));done))|apply z41|apply z80|refine z75 ?_ ?_;(focus (simp;done))|constructor))
  exact z57 (by rw [z1107,if_pos rfl];simp only [List.map_replicate,y77];rfl)
def Sys.pr (s:Sys) (i:Nat):Proc:=s.ps.getD i ⟨0,[]⟩
def Proc.eg (p:Proc) (k:Nat):Edge:=p.es.getD k ⟨0,0,leaf 0 0,0,leaf 0 0,0⟩
theorem y14 {s:Sys} {i:Nat} (h:i < s.ps.length):(s.ps.map Proc.cs)[i]?=some (s.pr i).cs:=by
 unfold Sys.pr;rw [z14 h,y51,y45 h];rfl
theorem y11 {p:Proc} {k:Nat} (h:k < p.es.length):(p.es.map Edge.cs)[k]?=some (p.eg k).cs:=by
 unfold Proc.eg;rw [z14 h,y51,y45 h];rfl
structure Edge.ok (e:Edge) (n:Int):Prop where
 to:0≤e.to∧e.to < n
 gd:e.gd.good
 var : -1≤e.var∧e.var≤2
 val:0≤e.var→e.val.good
 sync : -2≤e.sync∧e.sync≤2
structure Sys.ok (s:Sys):Prop where
 n1:1≤s.ps.length
 n3:s.ps.length≤3
 ne:∀ i,i < s.ps.length→(s.pr i).es.length≤6
 loc:∀ i,i < s.ps.length→(s.pr i).loc≤4
 eg:∀ i k,i < s.ps.length→k < (s.pr i).es.length→((s.pr i).eg k).ok (s.pr i).loc
 init:ValsOk s.init
theorem Sys.ok_of {s:Sys} (h:sysB s=true):s.ok:=by
 unfold sysB at h
 rw [y71,y71,decide_eq_true_iff,y79] at h
 obtain ⟨h1,h2,h3⟩:=h
 have hp:∀ i,i < s.ps.length→z583 (s.pr i)=true:=fun i hi=>by unfold Sys.pr;rw [z14 hi];exact h1 _ (y44 _)
 have hq:∀ i,i < s.ps.length→(∀ e∈(s.pr i).es,z589 e (s.pr i).loc=true)∧1≤(s.pr i).loc∧(s.pr i).loc≤4∧(s.pr i).es.length≤6:=fun i hi=>by
  have:=hp i hi
  unfold z583 at this
  rw [y71,decide_eq_true_iff,y79] at this
  exact this
 refine ⟨h3.1,h3.2,fun i hi=>(hq i hi).2.2.2,fun i hi=>(hq i hi).2.2.1,fun i k hi hk=>?_,z727 h2⟩
 have he:=(hq i hi).1 ((s.pr i).eg k) (by unfold Proc.eg;rw [z14 hk];exact y44 _)
 unfold z589 at he
 simp only [y71,decide_eq_true_iff] at he
 obtain ⟨a1,a2,a3,a4⟩:=he
 refine ⟨⟨a1.2.2.1,a1.2.2.2.1⟩,y26 a2,⟨a3.2.2.1,by omega⟩,fun hv=>?_,⟨a3.1,a3.2.1⟩⟩
 rw [if_neg (by omega)] at a4
 exact y26 a4
noncomputable def rdyE (e:Edge) (st:State) (i:Nat):Bool:=decide (e.fr=st.a.getD i 0) && decide (e.gd.ev st.b≠0)
structure State.ok (st:State) (s:Sys):Prop where
 a:st.a.length=s.ps.length
 b:ValsOk st.b
theorem z615 (s:Sys) (hs:s.ok) (st:State) (h:st.ok s) (i k:Nat) (hi:i < s.ps.length) (hk:k < (s.pr i).es.length):QQ 249 [.agg s.cs,.agg st.cs,.int i,.int k] [] (.bool (rdyE ((s.pr i).eg k) st i)) []:=by
 have gp:=y14 hi
 have ge:=y11 hk
 have hE:=hs.eg i k hi hk
 have h3:=hs.n3
 have ha:=h.a
 have h6:=hs.ne i hi
 generalize (s.pr i).eg k=e at *
 have hb:=h.b.1
 have ga:(st.a.map enI)[i]?=some (enI (st.a.getD i 0)):=by rw [y51,z14 (show i < st.a.length by omega),y45 (by omega)];rfl
 have ce:=z543 st.b h.b e.gd hE.gd
 rw [y15] at ce
 unfold rdyE
 generalize st.a.getD i 0=x at *
 generalize s.pr i=p at *
 refine z12 z15 func249 rfl rfl 35 ntmps249 (by simp) ?_
 repeat' ((first|apply y4 ok;rfl|apply z23;kernel_rfl|refine z13 (i:=i) rfl gp ?_|refine z13 (i:=k) rfl ge ?_|refine z13 (i:=i) rfl ga ?_|apply y43;omega|apply z6<;>intro _|apply z4 ce;rfl;rfl)<;>conv=>whnf)
 all_goals exact z19 rfl (by simp [*])
structure Stp where
 p:Int
 e:Int
 q:Int
 f:Int
def Stp.cs (x:Stp):List AC:=[.int x.p,.int x.e,.int x.q,.int x.f]
structure Stp.ok (x:Stp) (s:Sys):Prop where
 p:0≤x.p∧x.p < s.ps.length
 e:0≤x.e∧x.e < (s.pr x.p.toNat).es.length
 q : -1≤x.q∧x.q < s.ps.length
 f:0≤x.q→0≤x.f∧x.f < (s.pr x.q.toNat).es.length
open Classical in
noncomputable def z667 (s:Sys) (st:State) (i k:Nat) (j m:Nat):List Stp:=if j≠i∧((s.pr j).eg m).sync=-((s.pr i).eg k).sync∧rdyE ((s.pr j).eg m) st j=true then [⟨i,k,j,m⟩] else []
noncomputable def z668 (s:Sys) (st:State) (i k:Nat):List Stp:=cat s.ps.length fun j=>cat (s.pr j).es.length (z667 s st i k j)
theorem partL_ok {s:Sys} {st:State} {i k:Nat} (hi:i < s.ps.length) (hk:k < (s.pr i).es.length):∀ x∈z668 s st i k,x.ok s:=fun x hx=>by
 obtain ⟨j,hj,hx⟩:=z676 hx
 obtain ⟨m,hm,hx⟩:=z676 hx
 unfold z667 at hx
 split at hx
 ·rw [List.mem_singleton.1 hx]
  exact ⟨⟨by show 0≤(i:Int);omega,by show (i:Int) < _;omega⟩,⟨by show 0≤(k:Int);omega,by show (k:Int) < _;simpa using hk⟩,⟨by show -1≤(j:Int);omega,by show (j:Int) < _;omega⟩,fun _=>⟨by show 0≤(m:Int);omega,by show (m:Int) < _;simpa using hm⟩⟩
 ·cases hx
theorem z754 {s:Sys} (hs:s.ok) {st:State} {i k:Nat} : (z668 s st i k).length≤18:=by
 have h3:=hs.n3
 have:=z709 (n:=s.ps.length) (c:=6) (f:=fun j=>cat (s.pr j).es.length (z667 s st i k j)) (fun j hj=>by
  have h6:=hs.ne j hj
  have:=z709 (n:=(s.pr j).es.length) (c:=1) (f:=z667 s st i k j) (fun m _=>by unfold z667;split<;>simp)
  omega)
 unfold z668
 omega
set_option maxHeartbeats 1600000 in
theorem z683 (s:Sys) (hs:s.ok) (st:State) (h:st.ok s) (i k:Nat) (hi:i < s.ps.length) (hk:k < (s.pr i).es.length):QQ 250 [.agg s.cs,.agg st.cs,.int i,.int k] [] (lst 4 Stp.cs (z668 s st i k)) []:=by
  have gp:=y14 hi
  have ge:=y11 hk
  have h3:=hs.n3
  have h6:=hs.ne i hi
  have hE:=hs.eg i k hi hk
  have hsy:=hE.sync
  have hfin:z668 s st i k=cat s.ps.length (fun j=>cat (s.pr j).es.length (z667 s st i k j)):=rfl
  have hR1:∀ j m,(j≠i∧((s.pr j).eg m).sync=-((s.pr i).eg k).sync∧rdyE ((s.pr j).eg m) st j=true)→z667 s st i k j m=[⟨i,k,j,m⟩]:=fun _ _ h=>if_pos h
  have hR0:∀ j m,¬(j≠i∧((s.pr j).eg m).sync=-((s.pr i).eg k).sync∧rdyE ((s.pr j).eg m) st j=true)→z667 s st i k j m=[]:=fun _ _ h=>if_neg h
  generalize z668 s st i k=FIN at *
  generalize z667 s st i k=R at *
  generalize (s.pr i).eg k=e at *
  generalize hp:s.pr i=p at *
  refine z7 z15 func250 rfl rfl 76 ntmps250 (by simp) ?_
  repeat' ((first|apply y4 ok;rfl|refine z13 (i:=i) rfl gp ?_|refine z13 (i:=k) rfl ge ?_|apply y43;omega)<;>conv=>whnf)
  refine z64 (fun x:Nat×List Stp=>([(2,.int i),(3,.int k),(4,.ptr 0 none 0),(5,.ptr 1 none 0),(9,.sref 2 0 x.2.length),(10,.int e.sync),(11,.int x.1)],[.cells 2 [s.cs],.cells 2 [st.cs],.cells 4 (x.2.map Stp.cs)])) (fun x=>x.1≤s.ps.length∧x.2.length≤6 * x.1∧x.2=cat x.1 fun j=>cat (s.pr j).es.length (R j)) (fun x=>s.ps.length - x.1) (0,[]) ⟨by omega,by simp,rfl⟩ (by refine swR [0,1,2] [] rfl rfl ?_;(repeat' first|exact y86 _|apply y87|refine z9 rfl z25 ?_|constructor)) ?_
  rintro ⟨j,L⟩ ⟨hj,hLl,hL⟩
  simp only at hj hL hLl
  by_cases hjl:j < s.ps.length
  · have gj:=y14 hjl
    have hj6:=hs.ne j hjl
    repeat' ((first|apply y4 ok;rfl|apply z6<;>intro _)<;>conv=>whnf)
    all_goals try (exfalso;omega)
    refine z64 (fun x:Nat×List Stp=>([(2,.int i),(3,.int k),(4,.ptr 0 none 0),(5,.ptr 1 none 0),(9,.sref 2 0 x.2.length),(10,.int e.sync),(11,.int j),(12,.int x.1)],[.cells 2 [s.cs],.cells 2 [st.cs],.cells 4 (x.2.map Stp.cs)])) (fun x=>x.1≤(s.pr j).es.length∧x.2.length≤6 * j+x.1∧x.2=L++cat x.1 (R j)) (fun x=>(s.pr j).es.length - x.1) (0,L) ⟨by omega,by simpa using hLl,by rw [z987,y65]⟩ (by refine swR [0,1,2] [] rfl rfl ?_;(repeat' first|exact y86 _|exact z10 _|apply y87|refine z9 rfl (z5 (fun _=>rfl)) ?_|constructor)) ?_
    rintro ⟨m,M⟩ ⟨hm,hMl,hM⟩
    simp only at hm hM hMl
    by_cases hml:m < (s.pr j).es.length
    · have gm:=y11 hml
      have hl:=z615 s hs st h j m hjl hml
      have hR1m:=hR1 j m
      have hR0m:=hR0 j m
      have hcs:=z413 m (R j)
      have hE2:=(hs.eg j m hjl hml).sync
      generalize (s.pr j).eg m=e2 at *
      generalize rdyE e2 st j=rd at *
      generalize hpj:s.pr j=pj at *
      cases rd
      all_goals
        repeat' ((first|apply y4 ok;rfl|refine z13 (i:=j) rfl gj ?_|refine z13 (i:=m) rfl gm ?_|(apply y43;first|omega|unfold inI;omega|(try dsimp only);simp only [y49,y48,y47,y46,y58,y59];omega|exact ⟨rfl,z22 rfl z28⟩)|(first|apply z6|apply z42)<;>intro _|apply z4 hl;rfl;rfl)<;>conv=>whnf)
        all_goals try (exfalso;omega)
      all_goals first
        | (have hz := hR1m ⟨by omega, by omega, rfl⟩
           refine z24 (m+1,M++[⟨i,k,j,m⟩]) ⟨by omega,by simp;omega,by rw [hM,hcs,hz,List.append_assoc]⟩ (by show pj.es.length - (m+1) < pj.es.length - m;omega) (by refine swR [0,1,4] [] rfl rfl ?_;(repeat' first|exact y86 _|refine z50 ?_;((simp;done))|apply y87|(refine z39 rfl ?_ ?_);(focus ((repeat' (first|exact z5 (fun _=>rfl)|apply z26));done))|refine z86 ?_ ?_;(focus omega)|constructor)))
        | (have hz := hR0m (by rintro ⟨z1, z2, z3⟩; first | exact absurd z3 (by decide) | omega)
           refine z24 (m+1,M) ⟨by omega,by simp;omega,by rw [hM,hcs,hz,y65]⟩ (by show pj.es.length - (m+1) < pj.es.length - m;omega) (by refine swR [0,1,2] [] rfl rfl ?_;(repeat' first|exact y86 _|exact z10 _|apply y87|refine z9 rfl (z5 (fun _=>rfl)) ?_|constructor)))
    · repeat' ((first|apply y4 ok;rfl|refine z13 (i:=j) rfl gj ?_|(apply y43;first|omega|unfold inI;omega)|((with_reducible apply z8;omega));intro _|(first|apply z6|apply z42)<;>intro _)<;>conv=>whnf)
      all_goals try (exfalso;omega)
      have e:m=(s.pr j).es.length:=by omega
      all_goals refine z24 (j+1,M) ⟨by omega,by simp;omega,by rw [hM,hL,e];exact (z413 j fun j=>cat (s.pr j).es.length (R j)).symm⟩ (by show s.ps.length - (j+1) < s.ps.length - j;omega) (by refine swR [0,1,2] [] rfl rfl ?_;(repeat' first|exact y86 _|exact z10 _|apply y87|refine z9 rfl (z5 (fun _=>rfl)) ?_|constructor))
  · have e:j=s.ps.length:=by omega
    have eL:L=FIN:=by rw [hfin,hL,e]
    subst eL
    repeat' ((first|apply y4 ok;rfl|apply z6<;>intro _)<;>conv=>whnf)
    all_goals try (exfalso;omega)
    all_goals (refine rsD [] [2] rfl ?_;(repeat' first|exact y86 _|(apply z40 rfl rfl rfl);(focus ((repeat ((exact z30 (fun _=>rfl) _)));done));(focus (((simp;done));done))|constructor))
end Go.Proofs.YtjhgpfaodkchjaaGreat
namespace Go.Proofs.YtjhgpfaodkchjaaGreat
open Go.Gl Proofs.Tryz
attribute [local irreducible] z18 AWP z31 z35 z34 RetS z45
noncomputable def z461 (s:Sys) (st:State) (j m:Nat):List Stp:=if ((s.pr j).eg m).sync < 0∨rdyE ((s.pr j).eg m) st j=false then [] else if ((s.pr j).eg m).sync=0 then [⟨j,m,-1,-1⟩] else z668 s st j m
noncomputable def z577 (s:Sys) (st:State):List Stp:=cat s.ps.length fun j=>cat (s.pr j).es.length (z461 s st j)
theorem z947 {s:Sys} {st:State} : ∀ x∈z577 s st,x.ok s:=fun x hx=>by
 obtain ⟨j,hj,hx⟩:=z676 hx
 obtain ⟨m,hm,hx⟩:=z676 hx
 unfold z461 at hx
 split at hx
 ·cases hx
 split at hx
 ·rw [List.mem_singleton.1 hx]
  exact ⟨⟨by show 0≤(j:Int);omega,by show (j:Int) < _;omega⟩,⟨by show 0≤(m:Int);omega,by show (m:Int) < _;simpa using hm⟩,⟨by show -1≤(-1:Int);omega,by show (-1:Int) < _;omega⟩,fun h=>absurd (show (0:Int)≤-1 from h) (by decide)⟩
 ·exact partL_ok hj hm x hx
set_option maxHeartbeats 1600000 in
theorem z1049 (s:Sys) (hs:s.ok) (st:State) (h:st.ok s):QQ 185 [.agg s.cs,.agg st.cs] [] (lst 4 Stp.cs (z577 s st)) []:=by
  have h3:=hs.n3
  have hfin:z577 s st=cat s.ps.length (fun j=>cat (s.pr j).es.length (z461 s st j)):=rfl
  have hR0:∀ j m,(((s.pr j).eg m).sync < 0∨rdyE ((s.pr j).eg m) st j=false)→z461 s st j m=[]:=fun _ _ h=>if_pos h
  have hR1:∀ j m,¬(((s.pr j).eg m).sync < 0∨rdyE ((s.pr j).eg m) st j=false)→((s.pr j).eg m).sync=0→z461 s st j m=[⟨j,m,-1,-1⟩]:=fun _ _ h k=>by unfold z461;rw [if_neg h,if_pos k]
  have hR2:∀ j m,¬(((s.pr j).eg m).sync < 0∨rdyE ((s.pr j).eg m) st j=false)→((s.pr j).eg m).sync≠0→z461 s st j m=z668 s st j m:=fun _ _ h k=>by unfold z461;rw [if_neg h,if_neg k]
  generalize z577 s st=FIN at *
  generalize z461 s st=R at *
  refine z7 z15 func185 rfl rfl 64 ntmps185 (by simp) ?_
  repeat' (((apply y4 ok;rfl))<;>conv=>whnf)
  refine z64 (fun x:Nat×List Stp=>([(2,.ptr 0 none 0),(3,.ptr 1 none 0),(5,.sref 2 0 x.2.length),(6,.int x.1)],[.cells 2 [s.cs],.cells 2 [st.cs],.cells 4 (x.2.map Stp.cs)])) (fun x=>x.1≤s.ps.length∧x.2.length≤108 * x.1∧x.2=cat x.1 fun j=>cat (s.pr j).es.length (R j)) (fun x=>s.ps.length - x.1) (0,[]) ⟨by omega,by simp,rfl⟩ (by refine swR [0,1,2] [] rfl rfl ?_;(repeat' first|exact y86 _|apply y87|refine z9 rfl z25 ?_|constructor)) ?_
  rintro ⟨j,L⟩ ⟨hj,hLl,hL⟩
  simp only at hj hL hLl
  by_cases hjl:j < s.ps.length
  · have gj:=y14 hjl
    have hj6:=hs.ne j hjl
    repeat' ((first|apply y4 ok;rfl|apply z6<;>intro _)<;>conv=>whnf)
    all_goals try (exfalso;omega)
    refine z64 (fun x:Nat×List Stp=>([(2,.ptr 0 none 0),(3,.ptr 1 none 0),(5,.sref 2 0 x.2.length),(6,.int j),(7,.int x.1)],[.cells 2 [s.cs],.cells 2 [st.cs],.cells 4 (x.2.map Stp.cs)])) (fun x=>x.1≤(s.pr j).es.length∧x.2.length≤108 * j+18 * x.1∧x.2=L++cat x.1 (R j)) (fun x=>(s.pr j).es.length - x.1) (0,L) ⟨by omega,by simpa using hLl,by rw [z987,y65]⟩ (by refine swR [0,1,2] [] rfl rfl ?_;(repeat' first|exact y86 _|exact z10 _|apply y87|refine z9 rfl (z5 (fun _=>rfl)) ?_|constructor)) ?_
    rintro ⟨m,M⟩ ⟨hm,hMl,hM⟩
    simp only at hm hM hMl
    by_cases hml:m < (s.pr j).es.length
    · have gm:=y11 hml
      have hl:=z615 s hs st h j m hjl hml
      have hP:=z683 s hs st h j m hjl hml
      have hPl:=z754 hs (st:=st) (i:=j) (k:=m)
      have hR0m:=hR0 j m
      have hR1m:=hR1 j m
      have hR2m:=hR2 j m
      have hcs:=z413 m (R j)
      have hE2:=(hs.eg j m hjl hml).sync
      generalize (s.pr j).eg m=e2 at *
      generalize rdyE e2 st j=rd at *
      generalize z668 s st j m=PL at *
      generalize hpj:s.pr j=pj at *
      cases rd
      all_goals
        repeat' ((first|apply y4 ok;rfl|refine z13 (i:=j) rfl gj ?_|refine z13 (i:=m) rfl gm ?_|(apply y43;first|omega|unfold inI;omega|(try dsimp only);simp only [y49,y48,y47,y46,y58,y59];omega|exact z62 (fun _=>rfl)|exact ⟨rfl,z22 rfl z28⟩)|apply z6<;>intro _|apply z4 hl;rfl;rfl|apply z4 hP;rfl;rfl)<;>conv=>whnf)
        all_goals try (exfalso;omega)
      all_goals first
        | (have hz := hR2m (by rintro (z1 | z1) <;> first | omega | exact absurd z1 (by decide)) (by omega)
           refine z24 (m+1,M++PL) ⟨by omega,by simp;omega,by rw [hM,hcs,hz,List.append_assoc]⟩ (by show pj.es.length - (m+1) < pj.es.length - m;omega) (by refine swR [0,1,3] [] rfl rfl ?_;(repeat' first|exact y86 _|refine z50 ?_;((simp;done))|apply y87|(refine z9 rfl ?_ ?_);(focus ((repeat' (first|exact z5 (fun _=>rfl)|apply z67|apply z26));done))|refine appL_le ?_;(omega)|constructor)))
        | (have hz := hR1m (by rintro (z1 | z1) <;> first | omega | exact absurd z1 (by decide)) (by omega)
           refine z24 (m+1,M++[⟨j,m,-1,-1⟩]) ⟨by omega,by simp;omega,by rw [hM,hcs,hz,List.append_assoc]⟩ (by show pj.es.length - (m+1) < pj.es.length - m;omega) (by refine swR [0,1,4] [] rfl rfl ?_;(repeat' first|exact y86 _|refine z50 ?_;((simp;done))|apply y87|(refine z39 rfl ?_ ?_);(focus ((repeat' (first|exact z5 (fun _=>rfl)|apply z26));done))|refine z86 ?_ ?_;(focus omega)|constructor)))
        | (have hz := hR0m (by first | exact .inr rfl | exact .inl (by omega))
           refine z24 (m+1,M) ⟨by omega,by simp;omega,by rw [hM,hcs,hz,y65]⟩ (by show pj.es.length - (m+1) < pj.es.length - m;omega) (by refine swR [0,1,2] [] rfl rfl ?_;(repeat' first|exact y86 _|exact z10 _|apply y87|refine z9 rfl (z5 (fun _=>rfl)) ?_|constructor)))
    · repeat' ((first|apply y4 ok;rfl|refine z13 (i:=j) rfl gj ?_|(apply y43;first|omega|unfold inI;omega)|((with_reducible apply z8;omega));intro _|apply z6<;>intro _)<;>conv=>whnf)
      all_goals try (exfalso;omega)
      have e:m=(s.pr j).es.length:=by omega
      all_goals refine z24 (j+1,M) ⟨by omega,by simp;omega,by rw [hM,hL,e];exact (z413 j fun j=>cat (s.pr j).es.length (R j)).symm⟩ (by show s.ps.length - (j+1) < s.ps.length - j;omega) (by refine swR [0,1,2] [] rfl rfl ?_;(repeat' first|exact y86 _|exact z10 _|apply y87|refine z9 rfl (z5 (fun _=>rfl)) ?_|constructor))
  · have e:j=s.ps.length:=by omega
    have eL:L=FIN:=by rw [hfin,hL,e]
    subst eL
    repeat' ((first|apply y4 ok;rfl|apply z6<;>intro _)<;>conv=>whnf)
    all_goals try (exfalso;omega)
    all_goals (refine rsD [] [2] rfl ?_;(repeat' first|exact y86 _|(apply z40 rfl rfl rfl);(focus ((repeat ((exact z30 (fun _=>rfl) _)));done));(focus (((simp;done));done))|constructor))
noncomputable def z192 (st:State) (i:Nat) (e:Edge):State:=⟨st.a.set i e.to,if 0≤e.var then st.b.set e.var.toNat (e.val.ev st.b) else st.b⟩
theorem z649 {s:Sys} {st:State} (h:st.ok s) {i:Nat} {e:Edge} {n:Int} (he:e.ok n):(z192 st i e).ok s:=by
 refine ⟨by simp [z192,h.a],?_⟩
 unfold z192
 dsimp only
 split
 ·refine ⟨by simp [h.b.1],fun x hx=>?_⟩
  rcases List.mem_or_eq_of_mem_set hx with hx|rfl
  ·exact h.b.2 x hx
  ·exact y19 h.b _ (he.val (by assumption))
 ·exact h.b
theorem z781 (st:State) (e:Edge) (n:Int) (he:e.ok n) (i:Nat) (hi:i < st.a.length) (hl:st.a.length≤10) (hv:ValsOk st.b):QQ 251 [.agg [.sref 0 0 st.a.length,.sref 1 0 st.b.length],.int i,.agg e.cs] [.cells 1 (st.a.map enI),.cells 1 (st.b.map enI)] (.agg [.sref 0 0 st.a.length,.sref 1 0 st.b.length]) [.cells 1 ((z192 st i e).a.map enI),.cells 1 ((z192 st i e).b.map enI)]:=by
 have hb:=hv.1
 have hvar:=he.var
 by_cases h0:0≤e.var
 ·have c:=z543 st.b hv e.val (he.val h0)
  rw [y15] at c
  have hr:=y19 hv e.val (he.val h0)
  have e1:z192 st i e=⟨st.a.set i e.to,st.b.set e.var.toNat (e.val.ev st.b)⟩:=by unfold z192;rw [if_pos h0]
  rw [e1]
  generalize e.val.ev st.b=x at *
  refine z7 z15 func251 rfl rfl 27 ntmps251 (by simp) ?_
  repeat' ((first|apply y4 ok;rfl|apply z23;kernel_rfl|apply y43;omega|((apply z8;omega));intro _|apply z6<;>intro _|apply z99 [] [1] [] c;(focus ((repeat' first|exact z69|apply z44)<;>first|exact z104 rfl rfl rfl|rfl));rfl;rfl;(focus ((repeat' exact z17)<;>fail));((refine .inr ⟨rfl,?_⟩;repeat' first|exact True.intro|apply y43)))<;>conv=>whnf)
  all_goals first|exfalso;omega|exact h0|show e.var.toNat < st.b.length;omega|skip
  all_goals (refine rsD [0,1] [] rfl ?_;(repeat' first|exact y86 _|refine z60 rfl (z5 (fun _=>rfl)) ?_|refine z148 (by omega) ?_|constructor))
 ·have e1:z192 st i e=⟨st.a.set i e.to,st.b⟩:=by unfold z192;rw [if_neg h0]
  rw [e1]
  refine z7 z15 func251 rfl rfl 27 ntmps251 (by simp) ?_
  repeat' ((first|apply y4 ok;rfl|apply y43;omega|((apply z8;omega));intro _|apply z6<;>intro _)<;>conv=>whnf)
  all_goals try (exfalso;omega)
  all_goals (refine rsD [0,1] [] rfl ?_;(repeat' first|exact y86 _|exact z10 _|refine z60 rfl (z5 (fun _=>rfl)) ?_|refine z9 rfl (z5 (fun _=>rfl)) ?_|refine z148 (by omega) ?_|constructor))
noncomputable def z252 (s:Sys) (st:State) (x:Stp):State:=if 0≤x.q then z192 (z192 st x.p.toNat ((s.pr x.p.toNat).eg x.e.toNat)) x.q.toNat ((s.pr x.q.toNat).eg x.f.toNat) else z192 st x.p.toNat ((s.pr x.p.toNat).eg x.e.toNat)
theorem z961 {a:Int} {n:Nat} (h:0≤a) (h2:a < n):∃ m:Nat,a=m∧m < n:=⟨a.toNat,by omega,by omega⟩
theorem z819 {s:Sys} (hs:s.ok) {st:State} (h:st.ok s) {x:Stp} (hx:x.ok s):(z252 s st x).ok s:=by
 have hp:=hx.p
 have he:=hx.e
 have hq:=hx.q
 unfold z252
 have h1:=z649 (i:=x.p.toNat) h (hs.eg x.p.toNat x.e.toNat (by omega) (by omega))
 split
 ·rename_i hq0
  have hf:=hx.f hq0
  exact z649 h1 (hs.eg x.q.toNat x.f.toNat (by omega) (by omega))
 ·exact h1
theorem z731 (st:State) (i:Nat) (e:Edge):(z192 st i e).a.length=st.a.length∧(z192 st i e).b.length=st.b.length:=by
 unfold z192
 constructor
 ·simp
 ·dsimp only;split<;>simp
set_option maxHeartbeats 3200000 in
theorem z1050 (s:Sys) (hs:s.ok) (st:State) (h:st.ok s) (x:Stp) (hx:x.ok s):QQ 186 [.agg s.cs,.agg st.cs,.agg x.cs] [] (.agg (z252 s st x).cs) []:=by
 have hn3:=hs.n3
 have ha:=h.a
 have hb:=h.b.1
 obtain ⟨p,e,q,f⟩:=x
 obtain ⟨hp,he,hq,hf⟩:=hx
 simp only at hp he hq hf
 obtain ⟨pi,rfl,hpi⟩:=z961 hp.1 hp.2
 simp only [y77] at he
 obtain ⟨ei,rfl,hei⟩:=z961 he.1 he.2
 have gp:=y14 hpi
 have ge:=y11 hei
 have hE:=hs.eg pi ei hpi hei
 have hP6:=hs.ne pi hpi
 have c1:=z781 st ((s.pr pi).eg ei) _ hE pi (by omega) (by omega) h.b
 have h1:=z649 (i:=pi) h hE
 have hl1:=z731 st pi ((s.pr pi).eg ei)
 rw [show st.a.length=0+st.a.length by omega,show st.b.length=0+st.b.length by omega] at c1
 by_cases hq0:0≤q
 ·have hf:=hf hq0
  obtain ⟨qi,rfl,hqi⟩:=z961 hq0 hq.2
  simp only [y77] at hf
  obtain ⟨fi,rfl,hfi⟩:=z961 hf.1 hf.2
  have gq:=y14 hqi
  have gf:=y11 hfi
  have hF:=hs.eg qi fi hqi hfi
  have hQ6:=hs.ne qi hqi
  have e0:z252 s st ⟨pi,ei,qi,fi⟩=z192 (z192 st pi ((s.pr pi).eg ei)) qi ((s.pr qi).eg fi):=by unfold z252;rw [if_pos hq0];rfl
  have c2:=z781 (z192 st pi ((s.pr pi).eg ei)) ((s.pr qi).eg fi) _ hF qi (by omega) (by omega) h1.b
  have hl2:=z731 (z192 st pi ((s.pr pi).eg ei)) qi ((s.pr qi).eg fi)
  rw [hl1.1,hl1.2,show st.a.length=0+st.a.length by omega,show st.b.length=0+st.b.length by omega] at c2
  rw [e0]
  generalize z192 (z192 st pi ((s.pr pi).eg ei)) qi ((s.pr qi).eg fi)=s2 at *
  generalize z192 st pi ((s.pr pi).eg ei)=s1 at *
  generalize (s.pr pi).eg ei=ed at *
  generalize (s.pr qi).eg fi=fd at *
  generalize s.pr pi=pp at *
  generalize s.pr qi=qq at *
  refine z7 z15 func186 rfl rfl 51 ntmps186 (by simp) ?_
  repeat' ((first|apply y4 ok;rfl|apply z23;kernel_rfl|refine z13 (i:=pi) rfl gp ?_|refine z13 (i:=ei) rfl ge ?_|refine z13 (i:=qi) rfl gq ?_|refine z13 (i:=fi) rfl gf ?_|(apply y43;first|omega|dsimp only;omega|exact z62 (fun _=>rfl))|(first|apply z124 [5,7] [] c1;rfl;(focus ((repeat' first|exact z38|apply z48)<;>(refine z65 rfl ?_;((exact z5 fun _=>rfl)))))|apply z124 [5,7] [] c2;rfl;(focus ((repeat' first|exact z38|apply z48)<;>(refine z65 rfl ?_;((exact z5 fun _=>rfl))))));rfl;(focus ((repeat' first|exact z17|apply z16)<;>(refine z20 ?_;((exact z5 fun _=>rfl))))))<;>conv=>whnf)
  all_goals (refine rsD [] [5,7] rfl ?_;(repeat' first|refine z245 ?_;omega|(apply z40 rfl rfl rfl);(focus ((repeat ((exact z30 (fun _=>rfl) _)));done));(focus (((simp;omega));done))|apply z41|constructor))
 ·have e0:z252 s st ⟨pi,ei,q,f⟩=z192 st pi ((s.pr pi).eg ei):=by unfold z252;rw [if_neg hq0];rfl
  rw [e0]
  generalize z192 st pi ((s.pr pi).eg ei)=s1 at *
  generalize (s.pr pi).eg ei=ed at *
  generalize s.pr pi=pp at *
  refine z7 z15 func186 rfl rfl 51 ntmps186 (by simp) ?_
  repeat' ((first|apply y4 ok;rfl|apply z23;kernel_rfl|refine z13 (i:=pi) rfl gp ?_|refine z13 (i:=ei) rfl ge ?_|(apply y43;first|omega|dsimp only;omega|exact z62 (fun _=>rfl))|apply z6<;>intro _|apply z124 [5,7] [] c1;rfl;(focus ((repeat' first|exact z38|apply z48)<;>(refine z65 rfl ?_;((exact z5 fun _=>rfl)))));rfl;(focus ((repeat' first|exact z17|apply z16)<;>(refine z20 ?_;((exact z5 fun _=>rfl))))))<;>conv=>whnf)
  all_goals first|exfalso;apply hq0;assumption|skip
  all_goals (refine rsD [] [5,7] rfl ?_;(repeat' first|refine z245 ?_;omega|(apply z40 rfl rfl rfl);(focus ((repeat ((exact z30 (fun _=>rfl) _)));done));(focus (((simp;omega));done))|apply z41|constructor))
theorem z737 (a b:State) (ha:a.sm) (hb:b.sm):QQ 252 [.agg a.cs,.agg b.cs] [] (.bool (decide (a=b))) []:=by
 have h1:=ha.a
 have h2:=ha.b
 have h3:=hb.a
 have h4:=hb.b
 have c1:=z541 a.a b.a (by unfold maxLen;omega) (by unfold maxLen;omega)
 have c2:=z541 a.b b.b (by unfold maxLen;omega) (by unfold maxLen;omega)
 obtain ⟨a1,a2⟩:=a
 obtain ⟨b1,b2⟩:=b
 simp only at *
 have e:decide ((⟨a1,a2⟩:State)=⟨b1,b2⟩)=(decide (a1=b1) && decide (a2=b2)):=by
  by_cases h:a1=b1<;>by_cases k:a2=b2<;>simp [h,k]
 rw [e]
 generalize decide (a1=b1)=p at *
 generalize decide (a2=b2)=q at *
 refine z12 z15 func252 rfl rfl 17 ntmps252 (by simp) ?_
 cases p
 all_goals
  repeat' ((first|apply y4 ok;rfl|apply z4 c1;rfl;rfl|apply z4 c2;rfl;rfl)<;>conv=>whnf)
  all_goals exact z19 rfl rfl
def z335 (t:State):List State→Int→Int
 |[],_=>-1
 |x::r,k=>if x=t then k else z335 t r (k+1)
theorem z904 (t:State):∀ (l:List State) (k:Int),0≤k→-1≤z335 t l k∧z335 t l k < k+l.length:=by
 intro l
 induction l with
 |nil=>intro k h;simp only [z335,y59];omega
 |cons x l ih =>
  intro k h
  simp only [z335,y58]
  split
  ·omega
  ·have:=ih (k+1) (by omega);omega
theorem z1063 (t:State) (l:List State) (k:Nat) (h:k < l.length):z335 t (l.drop k) k=if l[k]=t then (k:Int) else z335 t (l.drop (k+1)) ((k+1:Nat):Int):=by
 rw [y80 h,z335];rfl
theorem z1195 (l:List State) (t:State) (hl:l.length≤1000) (hs:∀ s∈l,s.sm) (ht:t.sm):QQ 187 [lst 2 State.cs l,.agg t.cs] [] (.int (z335 t l 0)) []:=by
 refine z12 z15 func187 rfl rfl 19 ntmps187 (by simp) ?_
 repeat' (((apply y4 ok;rfl))<;>conv=>whnf)
 refine z97 (fun k:Nat=>([(0,lst 2 State.cs l),(3,.ptr 0 none 0),(5,.int k)],[.cells 2 [t.cs]])) (fun k=>k≤l.length∧z335 t l 0=z335 t (l.drop k) k) (fun k=>l.length - k) 0 ⟨by omega,rfl⟩ ⟨[0],rfl,by decide,rfl,by repeat' (first|exact True.intro|exact ⟨rfl,rfl⟩|apply y43),by repeat' (first|exact True.intro|exact z21 rfl rfl|apply y43)⟩ ?_
 intro k hk
 by_cases hkl:k < l.length
 ·have c:=z737 l[k] t (hs _ (y44 _)) ht
  have e:=z1063 t l k hkl
  rw [e] at hk
  have g0:(l.map State.cs)[k]?=some (State.cs l[k]):=by rw [y51,y45 hkl];rfl
  by_cases hx:l[k]=t
  ·rw [if_pos hx] at hk
   rw [y82 hx] at c
   generalize l[k]=x at *
   repeat' ((first|apply y4 ok;rfl|apply z23;kernel_rfl|refine z13 (i:=k) rfl g0 ?_|apply y43;omega|apply z6<;>intro _|apply z4 c;rfl;rfl)<;>conv=>whnf)
   all_goals first|exfalso;omega|exact z520 rfl hk.2
  ·rw [if_neg hx] at hk
   rw [y83 hx] at c
   generalize l[k]=x at *
   repeat' ((first|apply y4 ok;rfl|apply z23;kernel_rfl|refine z13 (i:=k) rfl g0 ?_|(apply y43;first|omega|unfold inI;omega)|apply z6<;>intro _|apply z4 c;rfl;rfl)<;>conv=>whnf)
   all_goals try (exfalso;omega)
   exact z85 (k+1) [0] ⟨by omega,hk.2⟩ (by omega) ⟨rfl,by decide,rfl,by repeat' (first|exact True.intro|exact ⟨rfl,rfl⟩|apply y43),by repeat' (first|exact True.intro|exact z21 rfl rfl|apply y43)⟩
 ·have e:l.drop k=[]:=y84 (by omega)
  rw [e] at hk
  repeat' ((first|apply y4 ok;rfl|apply y43;omega|((with_reducible apply z8;omega));intro _|apply z6<;>intro _)<;>conv=>whnf)
  all_goals first|exfalso;omega|exact z520 rfl hk.2
end Go.Proofs.YtjhgpfaodkchjaaGreat
namespace Go.Proofs.YtjhgpfaodkchjaaGreat
open Go.Gl Proofs.Tryz
attribute [local irreducible] z18 AWP z31 z35 z34 RetS z45
open Classical in
noncomputable def inn (s:Sys) (st0:State):List Stp→List State→List Int→Option (List State×List Int)
 |[],S,N=>some (S,N)
 |x::r,S,N =>
  if z335 (z252 s st0 x) S 0 < 0 then
   (if 60≤(S.length:Int) then none else inn s st0 r (S++[z252 s st0 x]) (if (S.length:Int)∈N then N else N++[(S.length:Int)]))
  else
   (if 60≤z335 (z252 s st0 x) S 0 then none else inn s st0 r S (if z335 (z252 s st0 x) S 0∈N then N else N++[z335 (z252 s st0 x) S 0]))
open Classical in
noncomputable def z751 (L:List Stp) (N:List Int) (i:Nat):List Int:=if L=[] then N++[(i:Int)] else N
noncomputable def grow (s:Sys):Nat→List State→List (List Int)→Nat→Option Graph
 |0,_,_,_=>none
 |f+1,S,G,i=>match S[i]? with
  |none=>some ⟨S,G⟩
  |some st0=>match inn s st0 (z577 s st0) S [] with
   |none=>none
   |some (S',N)=>grow s f S' (G++[z751 (z577 s st0) N i]) (i+1)
theorem State.ok.sm {s:Sys} (hs:s.ok) {st:State} (h:st.ok s):st.sm:=⟨by have:=h.a;have:=hs.n3;omega,by have:=h.b.1;omega⟩
theorem z736 {s:Sys} (hs:s.ok) {st:State} : (z577 s st).length≤324:=by
 have h3:=hs.n3
 have:=z709 (n:=s.ps.length) (c:=108) (f:=fun j=>cat (s.pr j).es.length (z461 s st j)) (fun j hj=>by
  have h6:=hs.ne j hj
  have:=z709 (n:=(s.pr j).es.length) (c:=18) (f:=z461 s st j) (fun m _=>by
   unfold z461
   split
   ·simp
   split
   ·simp
   ·exact z754 hs)
  omega)
 unfold z577
 omega
structure GInv (s:Sys) (S:List State) (G:List (List Int)) (i:Nat):Prop where
 le:i≤S.length
 n:S.length≤60
 one:1≤S.length
 g:G.length=i
 st:∀ t∈S,t.ok s
 row:∀ r∈G,r.length≤400
theorem inn_inv {s:Sys} (hs:s.ok) {st0:State} (h0:st0.ok s):∀ (L:List Stp),(∀ x∈L,x.ok s)→∀ (S:List State) (N:List Int) (S' : List State) (N' : List Int),S.length≤60→(∀ t∈S,t.ok s)→inn s st0 L S N=some (S',N')→S'.length≤60∧S.length≤S'.length∧(∀ t∈S',t.ok s)∧N'.length≤N.length+L.length∧∀ i,i < S.length→S'[i]?=S[i]?:=by
 intro L
 induction L with
 |nil =>
  intro _ S N S' N' h1 h2 h3
  simp only [inn,Option.some.injEq,Prod.mk.injEq] at h3
  obtain ⟨rfl,rfl⟩:=h3
  exact ⟨h1,y52 _,h2,by simp,fun _ _=>rfl⟩
 |cons x L ih =>
  intro hx S N S' N' h1 h2 h3
  have hxo:=z819 hs h0 (hx x (by simp))
  have ih:=ih fun y hy=>hx y (by simp [hy])
  simp only [inn] at h3
  split at h3
  ·split at h3
   ·cases h3
   ·obtain ⟨a1,a2,a3,a4,a5⟩:=ih _ _ S' N' (by simp;omega) (fun t ht=>by
     rcases List.mem_append.1 ht with h|h
     ·exact h2 t h
     ·rw [List.mem_singleton.1 h];exact hxo) h3
    refine ⟨a1,by simp at a2;omega,a3,?_,fun i hi=>by rw [a5 i (by simp;omega),y66 hi]⟩
    simp only [y58]
    split at a4<;>(try simp at a4)<;>omega
  ·split at h3
   ·cases h3
   ·obtain ⟨a1,a2,a3,a4,a5⟩:=ih _ _ S' N' h1 h2 h3
    refine ⟨a1,a2,a3,?_,a5⟩
    simp only [y58]
    split at a4<;>(try simp at a4)<;>omega
theorem grow_inv {s:Sys} (hs:s.ok):∀ (f:Nat) (S:List State) (G:List (List Int)) (i:Nat) (g:Graph),GInv s S G i→grow s f S G i=some g→GInv s g.st g.nx g.st.length:=by
 intro f
 induction f with
 |zero=>intro S G i g _ h;simp [grow] at h
 |succ f ih =>
  intro S G i g hI h
  simp only [grow] at h
  split at h
  ·rename_i hn
   simp only [Option.some.injEq] at h
   subst h
   have:S.length≤i:=List.getElem?_eq_none_iff.1 hn
   have e:i=S.length:=by have:=hI.le;omega
   subst e
   exact hI
  ·rename_i st0 hst
   have hil:=(List.getElem?_eq_some_iff.1 hst).1
   have h0:=hI.st st0 (List.mem_of_getElem? hst)
   split at h
   ·cases h
   ·rename_i S' N hin
    obtain ⟨a1,a2,a3,a4,a5⟩:=inn_inv hs h0 _ (fun x hx=>z947 x hx) _ _ _ _ hI.n hI.st hin
    have hl:=z736 hs (st:=st0)
    refine ih _ _ _ _ ⟨by omega,a1,by have:=hI.one;omega,by simp [hI.g],a3,fun r hr=>?_⟩ h
    rcases List.mem_append.1 hr with h|h
    ·exact hI.row r h
    ·rw [List.mem_singleton.1 h]
     unfold z751
     simp only [y59] at a4
     split<;>(try simp)<;>omega
end Go.Proofs.YtjhgpfaodkchjaaGreat
