/- A part of the proofs over this program: T82, T83, T84, T85, T86, T87, T88, T89, T90, T91, T92. -/
import Derived.Test.YtjhgpfaodkchjaaGreatG0
import Derived.Test.YtjhgpfaodkchjaaGreatG1
import Derived.Test.YtjhgpfaodkchjaaGreatG2
import Derived.Test.YtjhgpfaodkchjaaGreatG3
import Derived.Test.YtjhgpfaodkchjaaGreatP0
import Derived.Test.YtjhgpfaodkchjaaGreatP1
set_option linter.all false
namespace Go.Proofs.YtjhgpfaodkchjaaGreat
open Go.Gl
attribute [local irreducible] z18 AWP z30 z37 z33 RetS z44
theorem z1207 {n:Nat} {x:Int} (h:x∈z242 n):0≤x∧x < n:=by
 unfold z242 at h
 obtain ⟨i,hi,rfl⟩:=List.mem_map.1 h
 have:=List.mem_range.1 hi
 show (0:Int)≤(i:Int)∧(i:Int) < n
 omega
theorem snoc_at {α:Type} (a:List α) (x:α) (k:Nat) (h:a.length=k):(a++[x])[k]?=some x:=by subst h;simp
set_option maxHeartbeats 1600000 in
theorem z1025 (g:Graph) (hg:g.sm):CallsA Tryz.prog 107 [.agg g.cs] [] (.agg [.sref 0 0 g.st.length,.sref 1 0 g.nx.length]) [.cells 2 (g.st.map State.cs),.cells 1 (g.nx.map z89)]:=by
 have hst:=hg.st
 have hnx:=hg.nx
 have c1:=z1024 g.st.length (by omega)
 have c2:=z772 g hg (z242 g.st.length) (by rw [z326];omega) (fun x hx=>z1207 hx) g.st (by rw [z326]) (fun i h h2=>by rw [z798 h];simp)
 generalize z242 g.st.length=C at *
 refine z7 z16 Tryz.func107 rfl rfl 32 Tryz.ntmps107 (by simp) ?_
 repeat' ((first|(apply y4 ok;rfl)|(apply z22;kernel_rfl)|(apply z4 (c1);rfl;rfl)|(apply z10 [] [2] c2;rfl;rfl;rfl;(focus ((repeat' first|exact z17|apply z14)<;>(refine z19 ?_;((exact z5 fun _=>rfl)))))))<;>conv=>whnf)
 refine y85 (y88 1 rfl) ?_
 refine z63 (fun i:Nat=>([(1,.ptr 0 none 0),(2,.ptr 1 none 0),(3,.ptr 3 none 0),(4,.int i)],[.cells 2 [g.cs],.cells 2 [[.nils,.nils]],.cells 2 (g.st.map State.cs),.cells 2 [[.sref 2 0 g.st.length,.sref 4 0 i]],.cells 1 ((g.nx.take i).map z89)])) (fun i=>i≤g.nx.length) (fun i=>g.nx.length - i) 0 (by omega) (by refine swR [0,1,2,3,4] [] rfl rfl ?_;(repeat' first|exact y86 _|exact z48|exact z9 _|apply y87|((refine z8 rfl ?_ ?_);(focus ((repeat' (first|exact z23|exact z5 (fun _=>rfl)));done)))|constructor)) ?_
 intro i hi
 by_cases hin:i < g.nx.length
 ·have hr:=hg.row g.nx[i] (y44 _)
  have g0:(g.nx.map encL)[i]?=some (encL g.nx[i]):=by rw [y51,y45 hin];rfl
  have htl:((g.nx.take i).map z89).length=i:=by simp;omega
  have hrow:z89 g.nx[i]=[.own 1 (g.nx[i].map enI)]:=rfl
  have htk:(g.nx.take (i+1)).map z89=(g.nx.take i).map z89++[z89 g.nx[i]]:=by rw [y50 hin,y64];rfl
  generalize hrw:g.nx[i]=row at *
  repeat' ((first|(apply y4 ok;rfl)|(apply z22;kernel_rfl)|(refine z12 (i:=i) rfl g0 ?_)|(apply y43;first|omega|(unfold inI;omega)|(dsimp only;omega)|exact z66 (fun _=>rfl)|exact ⟨rfl,z20 rfl z27⟩)|((apply z6)<;>intro _))<;>conv=>whnf)
  all_goals try (exfalso;omega)
  all_goals refine z25 (i+1) (by omega) (by omega) (by
   refine Gl.Reach.trans (Gl.Reach.absorb (e:=[.sref 6 0 (0+row.length)]) 8 6 i 0 rfl (snoc_at _ _ i (by simp;omega)) rfl rfl (by simp) rfl (z65 z23 (z5 fun _=>rfl)) rfl) ?_
   exact (by refine swR [0,1,2,3,8] [] rfl rfl ?_;(repeat' first|exact y86 _|exact z9 _|apply y87|((first|refine z58 rfl ?_ ?_|refine z8 rfl ?_ ?_);(focus ((repeat' (first|exact z5 (fun _=>rfl)|apply z65|apply z21));done)))|(refine z8 rfl ?_ ?_;(focus (refine z402 ?_ ?_ rfl<;>first|(simp;omega)|(apply z21;exact z5 fun _=>rfl))))|(refine z847 ?_ ?_;(focus (simp;omega)))|refine z133 (by omega) (by omega) ?_|constructor)<;>(rw [hrw];exact y86 _)))
 ·have e:i=g.nx.length:=by omega
  subst e
  rw [y56]
  repeat' ((first|(apply y4 ok;rfl)|(apply z22;kernel_rfl)|(apply y43;omega)|(((with_reducible apply z11;omega));intro _)|((apply z6)<;>intro _))<;>conv=>whnf)
  all_goals try (exfalso;omega)
  all_goals (refine rsD [2,4] [] rfl ?_;(repeat' first|exact y86 _|exact z9 _|refine z8 rfl (z5 (fun _=>rfl)) ?_|constructor))
set_option maxHeartbeats 3200000 in
theorem z877 (bs:List Int) (hb:BytesOk bs) (p:Int) (hp:few p) (g:Graph) (hg:g.sm) (h1:1≤g.st.length) (h2:g.nx.length=g.st.length):∃ (g' : Graph) (p' : Int),(g'.st.length≤100∧g'.nx.length≤101∧(∀ s∈g'.st,s.sm)∧(∀ r∈g'.nx,r.length≤1001)∧p≤p'∧p'≤p+3)∧CallsA Tryz.prog 44 [.ptr 0 none 0,.agg g.cs] [rdO bs p] (.agg g'.cs) [rdO bs p']:=by
 have hst:=hg.st
 have hnx:=hg.nx
 have cc:=z1025 g hg
 obtain ⟨k,⟨k0,k1⟩,ck⟩:=z74 bs hb p g.st.length (by omega) (by omega) (by omega)
 obtain ⟨v,⟨v0,v1⟩,cv⟩:=z74 bs hb (p+1) 50 (by omega) (by omega) (by omega)
 have hks:k.toNat < g.st.length:=by omega
 have hkn:k.toNat < g.nx.length:=by omega
 have hrows:∀ r∈g.nx,r.length≤1001:=fun r hr=>by have:=hg.row r hr;omega
 by_cases e0:v=0
 ·subst e0
  refine ⟨⟨g.st,g.nx++[[0]]⟩,p+1+1,⟨hst,by simp;omega,hg.el,fun r hr=>?_,by omega,by omega⟩,?_⟩
  ·simp only [y54,y55] at hr
   rcases hr with hr|rfl
   ·exact hrows r hr
   ·simp
  refine z7 z16 Tryz.func44 rfl rfl 62 Tryz.ntmps44 (by simp) ?_
  repeat' ((first|(apply y4 ok;rfl)|(apply y43;first|((try dsimp only);simp only [y49,y48,y47,y46,y58,y59];omega)|exact ⟨rfl,z20 rfl z27⟩)|((first|(apply z10 [] [3,4] cc;rfl;rfl)|(apply z10 [0] [] ck;rfl;rfl)|(apply z10 [0] [] cv;rfl;rfl));rfl;(focus ((repeat' first|exact z17|apply z14)<;>first|exact z47 rfl rfl|(refine z19 ?_;((exact z5 fun _=>rfl)))))))<;>conv=>whnf)
  all_goals (refine RetS.mid [0,3,8] [6] [rdO bs (p+1+1),.cells 2 (g.st.map State.cs),.cells 1 (g.nx.map z89++[encL [0]])] (.agg [.sref 1 0 g.st.length,.sref 2 0 (g.nx.length+1)]) rfl rfl rfl ?_ ?_ ?_;(focus (repeat' (exact y86 _)));(focus (repeat' first|exact y86 _|exact z9 _|apply y87|((first|refine z35 rfl ?_ ?_|refine z8 rfl ?_ ?_);(focus ((repeat' (first|exact z5 (fun _=>rfl)|apply z21));done)))|(refine app2_le ?_ ?_;(focus (simp;done)))|constructor)))
  all_goals (refine rsD [0] [1,2] rfl ?_;(repeat' first|exact y86 _|apply y87|refine app3_le ?_|((apply z41 rfl rfl rfl);(focus ((repeat (first|exact z34 (fun _=>rfl) _|exact z163 _|apply z175|rfl));done));(focus (((simp;done));done)))|apply z38|(refine z73 ?_ ?_;(focus (simp;done)))|constructor))
 by_cases e1:v=1
 ·subst e1
  obtain ⟨x,mx,cx⟩:=z114 bs hb (p+1+1) (by omega) (by omega) [0,-1,60,9223372036854775807] (by decide) (by decide)
  refine ⟨⟨g.st,g.nx.set k.toNat (g.nx[k.toNat]++[x])⟩,p+1+1+1,⟨hst,by simp;omega,hg.el,fun r hr=>?_,by omega,by omega⟩,?_⟩
  ·rcases List.mem_or_eq_of_mem_set hr with h|rfl
   ·exact hrows r h
   ·have:=hg.row g.nx[k.toNat] (y44 _)
    simp;omega
  have hr:=hg.row g.nx[k.toNat] (y44 _)
  have g0:(g.nx.map z89)[k.toNat]?=some (z89 g.nx[k.toNat]):=by rw [y51,y45 hkn];rfl
  generalize g.nx[k.toNat]=row at *
  refine z7 z16 Tryz.func44 rfl rfl 62 Tryz.ntmps44 (by simp) ?_
  repeat' ((first|((fail_if_success apply z93 7);(fail_if_success apply z77 7);apply y4 ok;rfl)|((first|(apply z10 [] [3,4] cc;rfl;rfl)|(apply z10 [0] [] ck;rfl;rfl)|(apply z10 [0] [] cv;rfl;rfl));rfl;(focus ((repeat' first|exact z17|apply z14)<;>first|exact z47 rfl rfl|(refine z19 ?_;((exact z5 fun _=>rfl)))))))<;>conv=>whnf)
  refine y85 (Gl.Reach.exposeD (e:=z89 row) 4 k.toNat 0 rfl g0 rfl rfl) ?_
  conv=>whnf
  repeat' ((first|(apply y4 ok;rfl)|(apply z22;kernel_rfl)|(refine z694 rfl (by simp;omega) ?_)|(apply y43;first|omega|((try dsimp only);simp only [y49,y48,y47,y46,y58,y59];omega)|exact ⟨rfl,z20 rfl z27⟩)|(apply z10 [0,7] [] cx;rfl;rfl;rfl;(focus ((repeat' first|exact z17|apply z14)<;>first|exact z47 rfl rfl|(refine z19 ?_;((exact z5 fun _=>rfl)))))))<;>conv=>whnf)
  all_goals (refine RetS.mid [0,3,4] [9] [rdO bs (p+1+1+1),.cells 2 (g.st.map State.cs),.cells 1 ((g.nx.map z89).set k.toNat (encL (row++[x])))] (.agg [.sref 1 0 g.st.length,.sref 2 0 g.nx.length]) rfl rfl rfl ?_ ?_ ?_;(focus (repeat' (exact y86 _)));(focus (repeat' first|exact y86 _|exact z9 _|apply y87|((first|refine z1130 rfl rfl ?_ ?_|refine z8 rfl ?_ ?_);(focus ((repeat' ((exact z5 (fun _=>rfl))));done)))|refine set2_le (by omega) ?_|(refine z78 ?_ ?_;(focus ((simp;done))))|((apply z85 rfl rfl rfl);(focus ((repeat (first|exact z34 (fun _=>rfl) _|apply z175|apply z248|rfl));done));(focus (((simp;done));done)))|(refine z73 ?_ ?_;(focus (simp;done)))|constructor)))
  all_goals (refine rsD [0] [1,2] rfl ?_;(repeat' first|exact y86 _|apply y87|refine z184 (by omega) ?_|((apply z41 rfl rfl rfl);(focus ((repeat (first|exact z34 (fun _=>rfl) _|exact z163 _|apply z923));done));(focus (((simp;done));done)))|apply z38|(refine z73 ?_ ?_;(focus (simp;done)))|constructor))
 have gs:(g.st.map State.cs)[k.toNat]?=some (State.cs g.st[k.toNat]):=by rw [y51,y45 hks];rfl
 have hsm:=hg.el g.st[k.toNat] (y44 _)
 by_cases e2:v=2
 ·subst e2
  refine ⟨⟨g.st,g.nx.set k.toNat []⟩,p+1+1,⟨hst,by simp;omega,hg.el,fun r hr=>?_,by omega,by omega⟩,?_⟩
  ·rcases List.mem_or_eq_of_mem_set hr with h|rfl
   ·exact hrows r h
   ·simp
  refine z7 z16 Tryz.func44 rfl rfl 62 Tryz.ntmps44 (by simp) ?_
  repeat' ((first|(apply y4 ok;rfl)|(apply y43;omega)|(((apply z11;omega));intro _)|((first|(apply z10 [] [3,4] cc;rfl;rfl)|(apply z10 [0] [] ck;rfl;rfl)|(apply z10 [0] [] cv;rfl;rfl));rfl;(focus ((repeat' first|exact z17|apply z14)<;>first|exact z47 rfl rfl|(refine z19 ?_;((exact z5 fun _=>rfl)))))))<;>conv=>whnf)
  all_goals (refine RetS.mid [0,3,4] [6] [rdO bs (p+1+1),.cells 2 (g.st.map State.cs),.cells 1 ((g.nx.map z89).set k.toNat (encL []))] (.agg [.sref 1 0 g.st.length,.sref 2 0 g.nx.length]) rfl rfl rfl ?_ ?_ ?_;(focus (repeat' (exact y86 _)));(focus (repeat' first|exact y86 _|exact z9 _|apply y87|refine z58 rfl (z5 (fun _=>rfl)) ?_|refine z8 rfl (z5 (fun _=>rfl)) ?_|constructor)))
  all_goals (refine rsD [0] [1,2] rfl ?_;(repeat' first|exact y86 _|apply y87|refine z184 (by omega) ?_|((apply z41 rfl rfl rfl);(focus ((repeat (first|exact z34 (fun _=>rfl) _|exact z163 _|apply z923));done));(focus (((simp;done));done)))|apply z38|(refine z73 ?_ ?_;(focus (simp;done)))|constructor))
 by_cases e3:v=3
 ·subst e3
  obtain ⟨x,mx,cx⟩:=z114 bs hb (p+1+1) (by omega) (by omega) [4,-1,0] (by decide) (by decide)
  refine ⟨⟨g.st.set k.toNat ⟨g.st[k.toNat].a,[0,0,x]⟩,g.nx⟩,p+1+1+1,⟨by simp;omega,by show g.nx.length≤101;omega,fun s hs=>?_,hrows,by omega,by omega⟩,?_⟩
  ·rcases List.mem_or_eq_of_mem_set hs with h|rfl
   ·exact hg.el s h
   ·exact ⟨hsm.a,by simp⟩
  generalize g.st[k.toNat]=s0 at *
  refine z7 z16 Tryz.func44 rfl rfl 62 Tryz.ntmps44 (by simp) ?_
  repeat' ((first|(apply y4 ok;rfl)|(apply z22;kernel_rfl)|(refine z12 (i:=k.toNat) rfl gs ?_)|(apply y43;omega)|((first|(apply z10 [] [3,4] cc;rfl;rfl)|(apply z10 [0] [] ck;rfl;rfl)|(apply z10 [0] [] cv;rfl;rfl)|(apply z10 [0,6] [] cx;rfl;rfl));rfl;(focus ((repeat' first|exact z17|apply z14)<;>first|exact z47 rfl rfl|(refine z19 ?_;((exact z5 fun _=>rfl)))))))<;>conv=>whnf)
  all_goals (refine RetS.mid [0,3,4] [7] [rdO bs (p+1+1+1),.cells 2 ((g.st.set k.toNat ⟨s0.a,[0,0,x]⟩).map State.cs),.cells 1 (g.nx.map z89)] (.agg [.sref 1 0 g.st.length,.sref 2 0 g.nx.length]) rfl rfl rfl ?_ ?_ ?_;(focus (repeat' (exact y86 _)));(focus (repeat' first|exact y86 _|exact z9 _|apply y87|refine z58 rfl (z5 (fun _=>rfl)) ?_|refine z8 rfl (z5 (fun _=>rfl)) ?_|refine z184 (by omega) ?_|constructor)))
  all_goals (refine rsD [0] [1,2] rfl ?_;(repeat' first|exact y86 _|exact z9 _|apply y87|((apply z41 rfl rfl rfl);(focus ((repeat (first|exact z34 (fun _=>rfl) _|exact z163 _));done));(focus (((simp;done));done)))|apply z38|(refine z73 ?_ ?_;(focus (simp;done)))|constructor))
 by_cases e4:v=4
 ·subst e4
  refine ⟨⟨[],[]⟩,p+1+1,⟨by simp,by simp,by simp,by simp,by omega,by omega⟩,?_⟩
  refine z7 z16 Tryz.func44 rfl rfl 62 Tryz.ntmps44 (by simp) ?_
  repeat' ((first|(apply y4 ok;rfl)|((first|(apply z10 [] [3,4] cc;rfl;rfl)|(apply z10 [0] [] ck;rfl;rfl)|(apply z10 [0] [] cv;rfl;rfl));rfl;(focus ((repeat' first|exact z17|apply z14)<;>first|exact z47 rfl rfl|(refine z19 ?_;((exact z5 fun _=>rfl)))))))<;>conv=>whnf)
  all_goals (refine rsD [0] [] rfl ?_;(repeat' first|exact y86 _|exact z36|apply y87|apply z38|constructor))
 ·refine ⟨g,p+1+1,⟨hst,by omega,hg.el,hrows,by omega,by omega⟩,?_⟩
  refine z7 z16 Tryz.func44 rfl rfl 62 Tryz.ntmps44 (by simp) ?_
  repeat' ((first|(apply y4 ok;rfl)|(apply y43;omega)|(((apply z11;omega));intro _)|((apply z6)<;>intro _)|((first|(apply z10 [] [3,4] cc;rfl;rfl)|(apply z10 [0] [] ck;rfl;rfl)|(apply z10 [0] [] cv;rfl;rfl));rfl;(focus ((repeat' first|exact z17|apply z14)<;>first|exact z47 rfl rfl|(refine z19 ?_;((exact z5 fun _=>rfl)))))))<;>conv=>whnf)
  all_goals try (exfalso;omega)
  all_goals (refine rsD [0] [3,4] rfl ?_;(repeat' first|exact y86 _|apply y87|((apply z41 rfl rfl rfl);(focus ((repeat (first|exact z34 (fun _=>rfl) _|exact z163 _));done));(focus (((simp;done));done)))|apply z38|constructor))
structure Edge where
 fr:Int
 to:Int
 gd:Tree
 var:Int
 val:Tree
 sync:Int
def Edge.cs (e:Edge):List AC:=[.int e.fr,.int e.to,.int e.gd.kind,.int e.gd.val,lst 3 Tree.cs' e.gd.kids,.int e.var,.int e.val.kind,.int e.val.val,lst 3 Tree.cs' e.val.kids,.int e.sync]
structure Proc where
 loc:Int
 es:List Edge
def Proc.cs (p:Proc):List AC:=[.int p.loc,lst 10 Edge.cs p.es]
structure Sys where
 init:List Int
 ps:List Proc
def Sys.cs (s:Sys):List AC:=[ints s.init,lst 2 Proc.cs s.ps]
structure Edge.sm (e:Edge):Prop where
 gd:e.gd.sz≤100
 val:e.val.sz≤100
 var : -1≤e.var∧e.var≤2
 sync : -2≤e.sync∧e.sync≤2
structure Proc.sm (p:Proc):Prop where
 loc:0≤p.loc∧p.loc≤100
 len:p.es.length≤10
 el:∀ e∈p.es,e.sm
structure Sys.sm (s:Sys):Prop where
 init:s.init.length≤10
 len:s.ps.length≤10
 el:∀ p∈s.ps,p.sm
structure Edge.s1 (e:Edge):Prop where
 gd:e.gd.sz≤1000
 val:e.val.sz≤1000
structure Proc.s1 (p:Proc):Prop where
 len:p.es.length≤10
 el:∀ e∈p.es,e.s1
structure Sys.s1 (s:Sys):Prop where
 init:s.init.length≤20
 len:s.ps.length≤20
 el:∀ p∈s.ps,p.s1
theorem Edge.sm.s1 {e:Edge} (h:e.sm):e.s1:=⟨by have:=h.gd;omega,by have:=h.val;omega⟩
theorem Proc.sm.s1 {p:Proc} (h:p.sm):p.s1:=⟨h.len,fun e he=>(h.el e he).s1⟩
theorem Sys.sm.s1 {s:Sys} (h:s.sm):s.s1:=⟨by have:=h.init;omega,by have:=h.len;omega,fun p hp=>(h.el p hp).s1⟩
set_option maxHeartbeats 6400000 in
theorem z682 (bs:List Int) (hb:BytesOk bs) (p:Int) (hp:few1 p) (n:Int) (hn:0≤n∧n≤100):∃ (e:Edge) (p' : Int),(e.sm∧p≤p'∧p'≤p+200)∧CallsA Tryz.prog 189 [.ptr 0 none 0,.int n] [rdO bs p] (.agg e.cs) [rdO bs p']:=by
 obtain ⟨a,⟨la,ua⟩,ca⟩:=z74 bs hb p n (by omega) (by omega) (by omega)
 obtain ⟨b,⟨lb,ub⟩,cb⟩:=z74 bs hb (p+1) n (by omega) (by omega) (by omega)
 obtain ⟨gd,q,⟨g1,g2,g3⟩,cg⟩:=z610 bs hb (p+1+1) ⟨by omega,by omega⟩
 obtain ⟨w,⟨lw,uw⟩,cw⟩:=z74 bs hb q 3 (by omega) (by omega) (by omega)
 rw [y15] at cg
 by_cases hw:w=0
 ·subst hw
  obtain ⟨y,⟨ly,uy⟩,cy⟩:=z74 bs hb (q+1) 4 (by omega) (by omega) (by omega)
  by_cases hy:y=0
  ·subst hy
   obtain ⟨s,ms,cs⟩:=z114 bs hb (q+1+1) (by omega) (by omega) [1,-1,1,-1,2,-2] (by decide) (by decide)
   refine ⟨⟨a,b,gd,-1,leaf 0 0,s⟩,q+1+1+1,⟨⟨by show gd.sz≤100;omega,by (rw [z91];omega),by show -1≤(-1:Int)∧(-1:Int)≤2;omega,by simp at ms;show -2≤s∧s≤2;omega⟩,by omega,by omega⟩,?_⟩
   refine z7 z16 Tryz.func189 rfl rfl 61 Tryz.ntmps189 (by simp) ?_
   repeat' ((first|(apply y4 ok;rfl)|((first|(apply z10 [0] [] ca;rfl;rfl)|(apply z10 [0] [] cb;rfl;rfl)|(apply z10 [0] [] cg;rfl;rfl)|(apply z10 [0] [] cw;rfl;rfl)|(apply z10 [0] [] cy;rfl;rfl)|(apply z10 [0,3] [] cs;rfl;rfl));rfl;(focus ((repeat' first|exact z17|apply z14)<;>first|exact z47 rfl rfl|(refine z19 ?_;((exact z5 fun _=>rfl)))))))<;>conv=>whnf)
   all_goals (refine rsD [0] [] rfl ?_;(repeat' first|exact y86 _|exact z36|apply y87|apply z38|constructor))
  ·refine ⟨⟨a,b,gd,-1,leaf 0 0,0⟩,q+1+1,⟨⟨by show gd.sz≤100;omega,by (rw [z91];omega),by show -1≤(-1:Int)∧(-1:Int)≤2;omega,by show -2≤(0:Int)∧(0:Int)≤2;omega⟩,by omega,by omega⟩,?_⟩
   refine z7 z16 Tryz.func189 rfl rfl 61 Tryz.ntmps189 (by simp) ?_
   repeat' ((first|(apply y4 ok;rfl)|((apply z6)<;>intro _)|((first|(apply z40 [0] [] ca;rfl;rfl)|(apply z40 [0] [] cb;rfl;rfl)|(apply z40 [0] [] cg;rfl;rfl)|(apply z40 [0] [] cw;rfl;rfl)|(apply z40 [0] [] cy;rfl;rfl));rfl))<;>conv=>whnf)
   all_goals try (exfalso;omega)
   all_goals (refine rsD [0] [] rfl ?_;(repeat' first|exact y86 _|exact z36|apply y87|apply z38|constructor))
 obtain ⟨x,mx,cx⟩:=z114 bs hb (q+1) (by omega) (by omega) [0,1,0,2] (by decide) (by decide)
 obtain ⟨z,⟨lz,uz⟩,cz⟩:=z74 bs hb (q+1+1) 4 (by omega) (by omega) (by omega)
 by_cases h0:z=0
 ·subst h0
  obtain ⟨k,⟨lk,uk⟩,ck⟩:=z74 bs hb (q+1+1+1) 3 (by omega) (by omega) (by omega)
  obtain ⟨y,⟨ly,uy⟩,cy⟩:=z74 bs hb (q+1+1+1+1) 4 (by omega) (by omega) (by omega)
  by_cases hy:y=0
  ·subst hy
   obtain ⟨s,ms,cs⟩:=z114 bs hb (q+1+1+1+1+1) (by omega) (by omega) [1,-1,1,-1,2,-2] (by decide) (by decide)
   refine ⟨⟨a,b,gd,x,leaf 1 k,s⟩,q+1+1+1+1+1+1,⟨⟨by show gd.sz≤100;omega,by (rw [z91];omega),by simp at mx;show -1≤x∧x≤2;omega,by simp at ms;show -2≤s∧s≤2;omega⟩,by omega,by omega⟩,?_⟩
   refine z7 z16 Tryz.func189 rfl rfl 61 Tryz.ntmps189 (by simp) ?_
   repeat' ((first|(apply y4 ok;rfl)|((apply z6)<;>intro _)|((first|(apply z10 [0] [] ca;rfl;rfl)|(apply z10 [0] [] cb;rfl;rfl)|(apply z10 [0] [] cg;rfl;rfl)|(apply z10 [0] [] cw;rfl;rfl)|(apply z10 [0,3] [] cx;rfl;rfl)|(apply z10 [0] [] cz;rfl;rfl)|(apply z10 [0] [] ck;rfl;rfl)|(apply z10 [0] [] cy;rfl;rfl)|(apply z10 [0,6] [] cs;rfl;rfl));rfl;(focus ((repeat' first|exact z17|apply z14)<;>first|exact z47 rfl rfl|(refine z19 ?_;((exact z5 fun _=>rfl)))))))<;>conv=>whnf)
   all_goals try (exfalso;omega)
   all_goals (refine rsD [0] [] rfl ?_;(repeat' first|exact y86 _|exact z36|apply y87|apply z38|constructor))
  ·refine ⟨⟨a,b,gd,x,leaf 1 k,0⟩,q+1+1+1+1+1,⟨⟨by show gd.sz≤100;omega,by (rw [z91];omega),by simp at mx;show -1≤x∧x≤2;omega,by show -2≤(0:Int)∧(0:Int)≤2;omega⟩,by omega,by omega⟩,?_⟩
   refine z7 z16 Tryz.func189 rfl rfl 61 Tryz.ntmps189 (by simp) ?_
   repeat' ((first|(apply y4 ok;rfl)|((apply z6)<;>intro _)|((first|(apply z10 [0] [] ca;rfl;rfl)|(apply z10 [0] [] cb;rfl;rfl)|(apply z10 [0] [] cg;rfl;rfl)|(apply z10 [0] [] cw;rfl;rfl)|(apply z10 [0,3] [] cx;rfl;rfl)|(apply z10 [0] [] cz;rfl;rfl)|(apply z10 [0] [] ck;rfl;rfl)|(apply z10 [0] [] cy;rfl;rfl));rfl;(focus ((repeat' first|exact z17|apply z14)<;>first|exact z47 rfl rfl|(refine z19 ?_;((exact z5 fun _=>rfl)))))))<;>conv=>whnf)
   all_goals try (exfalso;omega)
   all_goals (refine rsD [0] [] rfl ?_;(repeat' first|exact y86 _|exact z36|apply y87|apply z38|constructor))
 by_cases h1:z=1
 ·subst h1
  obtain ⟨y,⟨ly,uy⟩,cy⟩:=z74 bs hb (q+1+1+1) 4 (by omega) (by omega) (by omega)
  by_cases hy:y=0
  ·subst hy
   obtain ⟨s,ms,cs⟩:=z114 bs hb (q+1+1+1+1) (by omega) (by omega) [1,-1,1,-1,2,-2] (by decide) (by decide)
   refine ⟨⟨a,b,gd,x,.mk 8 0 [leaf 2 x,leaf 1 1],s⟩,q+1+1+1+1+1,⟨⟨by show gd.sz≤100;omega,by (show Tree.sz _≤100;rw [z237];simp [z91]),by simp at mx;show -1≤x∧x≤2;omega,by simp at ms;show -2≤s∧s≤2;omega⟩,by omega,by omega⟩,?_⟩
   refine z7 z16 Tryz.func189 rfl rfl 61 Tryz.ntmps189 (by simp) ?_
   repeat' ((first|(apply y4 ok;rfl)|((apply z6)<;>intro _)|((first|(apply z10 [0] [] ca;rfl;rfl)|(apply z10 [0] [] cb;rfl;rfl)|(apply z10 [0] [] cg;rfl;rfl)|(apply z10 [0] [] cw;rfl;rfl)|(apply z10 [0,3] [] cx;rfl;rfl)|(apply z10 [0] [] cz;rfl;rfl)|(apply z10 [0] [] cy;rfl;rfl)|(apply z10 [0,7] [] cs;rfl;rfl));rfl;(focus ((repeat' first|exact z17|apply z14)<;>first|exact z47 rfl rfl|(refine z19 ?_;((exact z5 fun _=>rfl)))))))<;>conv=>whnf)
   all_goals try (exfalso;omega)
   all_goals (refine rsD [0] [6] rfl ?_;(repeat' first|exact y86 _|exact z36|apply y87|refine z41 rfl rfl rfl rfl rfl ?_|apply z38|(apply z73;rfl)|constructor))
  ·refine ⟨⟨a,b,gd,x,.mk 8 0 [leaf 2 x,leaf 1 1],0⟩,q+1+1+1+1,⟨⟨by show gd.sz≤100;omega,by (show Tree.sz _≤100;rw [z237];simp [z91]),by simp at mx;show -1≤x∧x≤2;omega,by show -2≤(0:Int)∧(0:Int)≤2;omega⟩,by omega,by omega⟩,?_⟩
   refine z7 z16 Tryz.func189 rfl rfl 61 Tryz.ntmps189 (by simp) ?_
   repeat' ((first|(apply y4 ok;rfl)|((apply z6)<;>intro _)|((first|(apply z10 [0] [] ca;rfl;rfl)|(apply z10 [0] [] cb;rfl;rfl)|(apply z10 [0] [] cg;rfl;rfl)|(apply z10 [0] [] cw;rfl;rfl)|(apply z10 [0,3] [] cx;rfl;rfl)|(apply z10 [0] [] cz;rfl;rfl)|(apply z10 [0] [] cy;rfl;rfl));rfl;(focus ((repeat' first|exact z17|apply z14)<;>first|exact z47 rfl rfl|(refine z19 ?_;((exact z5 fun _=>rfl)))))))<;>conv=>whnf)
   all_goals try (exfalso;omega)
   all_goals (refine rsD [0] [6] rfl ?_;(repeat' first|exact y86 _|exact z36|apply y87|refine z41 rfl rfl rfl rfl rfl ?_|apply z38|(apply z73;rfl)|constructor))
 by_cases h2:z=2
 ·subst h2
  obtain ⟨y,⟨ly,uy⟩,cy⟩:=z74 bs hb (q+1+1+1) 4 (by omega) (by omega) (by omega)
  by_cases hy:y=0
  ·subst hy
   obtain ⟨s,ms,cs⟩:=z114 bs hb (q+1+1+1+1) (by omega) (by omega) [1,-1,1,-1,2,-2] (by decide) (by decide)
   refine ⟨⟨a,b,gd,x,.mk 9 0 [leaf 1 1,leaf 2 x],s⟩,q+1+1+1+1+1,⟨⟨by show gd.sz≤100;omega,by (show Tree.sz _≤100;rw [z237];simp [z91]),by simp at mx;show -1≤x∧x≤2;omega,by simp at ms;show -2≤s∧s≤2;omega⟩,by omega,by omega⟩,?_⟩
   refine z7 z16 Tryz.func189 rfl rfl 61 Tryz.ntmps189 (by simp) ?_
   repeat' ((first|(apply y4 ok;rfl)|((apply z6)<;>intro _)|((first|(apply z10 [0] [] ca;rfl;rfl)|(apply z10 [0] [] cb;rfl;rfl)|(apply z10 [0] [] cg;rfl;rfl)|(apply z10 [0] [] cw;rfl;rfl)|(apply z10 [0,3] [] cx;rfl;rfl)|(apply z10 [0] [] cz;rfl;rfl)|(apply z10 [0] [] cy;rfl;rfl)|(apply z10 [0,7] [] cs;rfl;rfl));rfl;(focus ((repeat' first|exact z17|apply z14)<;>first|exact z47 rfl rfl|(refine z19 ?_;((exact z5 fun _=>rfl)))))))<;>conv=>whnf)
   all_goals try (exfalso;omega)
   all_goals (refine rsD [0] [6] rfl ?_;(repeat' first|exact y86 _|exact z36|apply y87|refine z41 rfl rfl rfl rfl rfl ?_|apply z38|(apply z73;rfl)|constructor))
  ·refine ⟨⟨a,b,gd,x,.mk 9 0 [leaf 1 1,leaf 2 x],0⟩,q+1+1+1+1,⟨⟨by show gd.sz≤100;omega,by (show Tree.sz _≤100;rw [z237];simp [z91]),by simp at mx;show -1≤x∧x≤2;omega,by show -2≤(0:Int)∧(0:Int)≤2;omega⟩,by omega,by omega⟩,?_⟩
   refine z7 z16 Tryz.func189 rfl rfl 61 Tryz.ntmps189 (by simp) ?_
   repeat' ((first|(apply y4 ok;rfl)|((apply z6)<;>intro _)|((first|(apply z10 [0] [] ca;rfl;rfl)|(apply z10 [0] [] cb;rfl;rfl)|(apply z10 [0] [] cg;rfl;rfl)|(apply z10 [0] [] cw;rfl;rfl)|(apply z10 [0,3] [] cx;rfl;rfl)|(apply z10 [0] [] cz;rfl;rfl)|(apply z10 [0] [] cy;rfl;rfl));rfl;(focus ((repeat' first|exact z17|apply z14)<;>first|exact z47 rfl rfl|(refine z19 ?_;((exact z5 fun _=>rfl)))))))<;>conv=>whnf)
   all_goals try (exfalso;omega)
   all_goals (refine rsD [0] [6] rfl ?_;(repeat' first|exact y86 _|exact z36|apply y87|refine z41 rfl rfl rfl rfl rfl ?_|apply z38|(apply z73;rfl)|constructor))
 obtain ⟨t,q2,⟨t1,t2,t3⟩,ct⟩:=z1170 bs hb (q+1+1+1) ⟨by omega,by omega⟩
 rw [y15] at ct
 obtain ⟨y,⟨ly,uy⟩,cy⟩:=z74 bs hb (q2) 4 (by omega) (by omega) (by omega)
 by_cases hy:y=0
 ·subst hy
  obtain ⟨s,ms,cs⟩:=z114 bs hb (q2+1) (by omega) (by omega) [1,-1,1,-1,2,-2] (by decide) (by decide)
  refine ⟨⟨a,b,gd,x,t,s⟩,q2+1+1,⟨⟨by show gd.sz≤100;omega,by show t.sz≤100;omega,by simp at mx;show -1≤x∧x≤2;omega,by simp at ms;show -2≤s∧s≤2;omega⟩,by omega,by omega⟩,?_⟩
  refine z7 z16 Tryz.func189 rfl rfl 61 Tryz.ntmps189 (by simp) ?_
  repeat' ((first|(apply y4 ok;rfl)|((apply z6)<;>intro _)|((first|(apply z10 [0] [] ca;rfl;rfl)|(apply z10 [0] [] cb;rfl;rfl)|(apply z10 [0] [] cg;rfl;rfl)|(apply z10 [0] [] cw;rfl;rfl)|(apply z10 [0,3] [] cx;rfl;rfl)|(apply z10 [0] [] cz;rfl;rfl)|(apply z10 [0] [] ct;rfl;rfl)|(apply z10 [0] [] cy;rfl;rfl)|(apply z10 [0,6] [] cs;rfl;rfl));rfl;(focus ((repeat' first|exact z17|apply z14)<;>first|exact z47 rfl rfl|(refine z19 ?_;((exact z5 fun _=>rfl)))))))<;>conv=>whnf)
  all_goals try (exfalso;omega)
  all_goals (refine rsD [0] [] rfl ?_;(repeat' first|exact y86 _|apply y87|constructor))
 ·refine ⟨⟨a,b,gd,x,t,0⟩,q2+1,⟨⟨by show gd.sz≤100;omega,by show t.sz≤100;omega,by simp at mx;show -1≤x∧x≤2;omega,by show -2≤(0:Int)∧(0:Int)≤2;omega⟩,by omega,by omega⟩,?_⟩
  refine z7 z16 Tryz.func189 rfl rfl 61 Tryz.ntmps189 (by simp) ?_
  repeat' ((first|(apply y4 ok;rfl)|((apply z6)<;>intro _)|((first|(apply z10 [0] [] ca;rfl;rfl)|(apply z10 [0] [] cb;rfl;rfl)|(apply z10 [0] [] cg;rfl;rfl)|(apply z10 [0] [] cw;rfl;rfl)|(apply z10 [0,3] [] cx;rfl;rfl)|(apply z10 [0] [] cz;rfl;rfl)|(apply z10 [0] [] ct;rfl;rfl)|(apply z10 [0] [] cy;rfl;rfl));rfl;(focus ((repeat' first|exact z17|apply z14)<;>first|exact z47 rfl rfl|(refine z19 ?_;((exact z5 fun _=>rfl)))))))<;>conv=>whnf)
  all_goals try (exfalso;omega)
  all_goals (refine rsD [0] [] rfl ?_;(repeat' first|exact y86 _|apply y87|constructor))
def isProc (bs:List Int) (q:Int) (pr:Proc) (q' : Int):Prop:=pr.sm∧∃ (m:Nat) (pf:Nat→Int),
 CallsA Tryz.prog 104 [.ptr 0 none 0,.sref 1 0 4] [rdO bs q,.cells 1 ([2,3,1,2].map enI)] (.int pr.loc) [rdO bs (q+1),.cells 1 ([2,3,1,2].map enI)] ∧
 CallsA Tryz.prog 104 [.ptr 0 none 0,.sref 1 0 5] [rdO bs (q+1),.cells 1 ([3,4,2,5,1].map enI)] (.int m) [rdO bs (q+1+1),.cells 1 ([3,4,2,5,1].map enI)] ∧
 m≤5∧pr.es.length=m∧pf 0=q+1+1∧pf m=q'∧∀ k (h:k < pr.es.length),CallsA Tryz.prog 189 [.ptr 0 none 0,.int pr.loc] [rdO bs (pf k)] (.agg pr.es[k].cs) [rdO bs (pf (k+1))]
theorem proc_ex (bs:List Int) (hb:BytesOk bs) (q:Int) (hq:0≤q∧q≤999980000):∃ pr q',isProc bs q pr q'∧q≤q'∧q'≤q+1010:=by
 obtain ⟨v,mv,cv⟩:=z114 bs hb q (by omega) (by omega) [2,3,1,2] (by decide) (by decide)
 obtain ⟨w,mw,cw⟩:=z114 bs hb (q+1) (by omega) (by omega) [3,4,2,5,1] (by decide) (by decide)
 simp only [List.mem_cons,List.not_mem_nil,or_false] at mv mw
 obtain ⟨m,rfl⟩:∃ m:Nat,w=m:=⟨w.toNat,by omega⟩
 obtain ⟨es,pf,h1,h2,h3,h4⟩:=z507 (fun _ r (e:Edge) r'=>e.sm∧CallsA Tryz.prog 189 [.ptr 0 none 0,.int v] [rdO bs r] (.agg e.cs) [rdO bs r']) (q+1+1) 200 m (fun k r hk a1 a2=>by
  obtain ⟨e,r',⟨b1,b2,b3⟩,c⟩:=z682 bs hb r ⟨by omega,by omega⟩ v (by omega)
  exact ⟨e,r',⟨b1,c⟩,b2,b3⟩)
 have h5:=h4 m (y52 _)
 refine ⟨⟨v,es⟩,pf m,⟨⟨by show 0≤v∧v≤100;omega,by show es.length≤10;omega,fun e he=>?_⟩,m,pf,cv,cw,by omega,h1,h2,rfl,fun k h=>(h3 k h).2⟩,by omega,by omega⟩
 obtain ⟨i,hi,rfl⟩:=List.mem_iff_getElem.1 he
 exact (h3 i hi).1
set_option maxHeartbeats 6400000 in
theorem z878 (bs:List Int) (hb:BytesOk bs) (p:Int) (hp:few2 p):∃ (s:Sys) (p' : Int),(s.sm∧p≤p'∧p'≤p+4000)∧CallsA Tryz.prog 109 [.ptr 0 none 0] [rdO bs p] (.agg s.cs) [rdO bs p']:=by
 obtain ⟨a,⟨la,ua⟩,ca⟩:=z74 bs hb p 2 (by omega) (by omega) (by omega)
 obtain ⟨b,mb,cb⟩:=z114 bs hb (p+1) (by omega) (by omega) [0,0,1,3] (by decide) (by decide)
 obtain ⟨w,mw,cw⟩:=z114 bs hb (p+1+1) (by omega) (by omega) [2,1,2,3] (by decide) (by decide)
 simp only [List.mem_cons,List.not_mem_nil,or_false] at mw
 obtain ⟨m,rfl⟩:∃ m:Nat,w=m:=⟨w.toNat,by omega⟩
 obtain ⟨ps,pf,h1,h2,h3,h4⟩:=z507 (fun _ q pr q'=>isProc bs q pr q') (p+1+1+1) 1010 m (fun k r hk a1 a2=>proc_ex bs hb r (by omega))
 have h5:=h4 m (y52 _)
 refine ⟨⟨[a,b,0],ps⟩,pf m,⟨⟨by simp,by show ps.length≤10;omega,fun e he=>?_⟩,by omega,by omega⟩,?_⟩
 ·obtain ⟨i,hi,rfl⟩:=List.mem_iff_getElem.1 he
  exact (h3 i hi).1
 rw [← h2] at cw
 refine z7 z16 Tryz.func109 rfl rfl 48 Tryz.ntmps109 (by simp) ?_
 repeat' ((first|(apply y4 ok;rfl)|((first|(apply z10 [0] [] ca;rfl;rfl)|(apply z10 [0,2] [] cb;rfl;rfl)|(apply z10 [0,5] [] cw;rfl;rfl));rfl;(focus ((repeat' first|exact z17|apply z14)<;>first|exact z47 rfl rfl|(refine z19 ?_;((exact z5 fun _=>rfl)))))))<;>conv=>whnf)
 refine y85 (y88 2 rfl) ?_
 refine z63 (fun i:Nat=>([(0,.ptr 0 none 0),(2,.ptr 1 none 0),(3,.ptr 2 none 0),(4,.int (m - i))],[rdO bs (pf i),.cells 2 [[.nils,.nils]],.cells 2 [[ints [a,b,0],.sref 3 0 i]],.cells 2 ((ps.take i).map Proc.cs)])) (fun i=>i≤m) (fun i=>m - i) 0 (by omega) (by refine swR [0,1,4,6] [3] rfl rfl ?_;(repeat' first|exact y86 _|exact z48|apply y87|refine z8 rfl (z23) ?_|constructor)) ?_
 intro i hi
 by_cases him:i < m
 ·have hil:i < ps.length:=by omega
  obtain ⟨g1,m2,pf2,c1,c2,g2,g3,g4,g5,g6⟩:=h3 i hil
  rw [← g4] at c2
  have hpi:(ps.take (i+1)).map Proc.cs=(ps.take i).map Proc.cs++[Proc.cs ps[i]]:=by rw [y50 hil,y64];rfl
  repeat' ((first|(apply y4 ok;rfl)|((apply z6)<;>intro _)|((first|(apply z10 [0,4] [] c1;rfl;rfl)|(apply z10 [0,6] [] c2;rfl;rfl));rfl;(focus ((repeat' first|exact z17|apply z14)<;>first|exact z47 rfl rfl|(refine z19 ?_;((exact z5 fun _=>rfl)))))))<;>conv=>whnf)
  all_goals try (exfalso;omega)
  refine y85 (y88 10 rfl) ?_
  refine z63 (fun k:Nat=>([(0,.ptr 0 none 0),(2,.ptr 1 none 0),(3,.ptr 2 none 0),(4,.int (m - i)),(5,.ptr 4 none 0),(6,.int (m2 - k))],[rdO bs (pf2 k),.cells 2 [[.nils,.nils]],.cells 2 [[ints [a,b,0],.sref 3 0 i]],.cells 2 ((ps.take i).map Proc.cs),.cells 2 [[.int ps[i].loc,.sref 5 0 k]],.cells 10 ((ps[i].es.take k).map Edge.cs)])) (fun k=>k≤m2) (fun k=>m2 - k) 0 (by omega) (by refine swR [0,1,2,3,5,7] [] rfl rfl ?_;(repeat' first|exact y86 _|exact z48|exact z9 _|apply y87|((refine z8 rfl ?_ ?_);(focus ((repeat' (first|exact z23|exact z5 (fun _=>rfl)));done)))|constructor)) ?_
  intro k hk
  by_cases hkm:k < m2
  ·have hke:k < ps[i].es.length:=by omega
   have ce:=g6 k hke
   repeat' ((first|(apply y4 ok;rfl)|(apply z22;kernel_rfl)|(apply y43;first|omega|(unfold inI;omega)|((try dsimp only);simp only [y49,y48,y47,y46,y58,y59];omega)|exact ⟨rfl,z20 rfl z27⟩)|((apply z6)<;>intro _)|(apply z40 [0] [] ce;rfl;rfl;rfl))<;>conv=>whnf)
   all_goals try (exfalso;omega)
   all_goals refine z25 (k+1) (by omega) (by omega) (by refine swR [0,1,2,3,4,7] [] rfl rfl ?_;(repeat' first|exact y86 _|exact z9 _|(refine z162 ?_;omega)|apply y87|((first|refine z35 rfl ?_ ?_|refine z8 rfl ?_ ?_);(focus ((repeat' (first|exact z5 (fun _=>rfl)|apply z21));done)))|refine z133 (by omega) (by omega) ?_|constructor))
  ·have ek:k=m2:=by omega
   subst ek
   rw [y57 (show ps[i].es.length≤k by omega)]
   repeat' ((first|(apply y4 ok;rfl)|(apply y43;first|(unfold inI;omega)|((try dsimp only);simp only [y49,y48,y47,y46,y58,y59];omega)|exact ⟨rfl,z20 rfl z27⟩)|((apply z6)<;>intro _))<;>conv=>whnf)
   all_goals try (exfalso;omega)
   all_goals refine z25 (i+1) (by omega) (by omega) (by refine swR [0,1,2,7] [5] rfl rfl ?_;(repeat' first|exact y86 _|(refine z292 ?_;omega)|(refine z162 ?_;omega)|apply y87|((refine z35 rfl ?_ ?_);(focus ((repeat' (first|exact z5 (fun _=>rfl)|apply z21));done)))|refine z133 (by omega) (by omega) ?_|((apply z85 rfl rfl rfl);(focus ((repeat ((exact z34 (fun _=>rfl) _)));done));(focus (((simp;omega));done)))|constructor))
 ·have e:i=m:=by omega
  subst e
  rw [y57 (show ps.length≤i by omega)]
  repeat' ((first|(apply y4 ok;rfl)|((apply z6)<;>intro _))<;>conv=>whnf)
  all_goals try (exfalso;omega)
  all_goals (refine rsD [0] [3] rfl ?_;(repeat' first|exact y86 _|(refine z292 ?_;omega)|apply y87|((apply z41 rfl rfl rfl);(focus ((repeat ((exact z34 (fun _=>rfl) _)));done));(focus (((simp;omega));done)))|apply z38|constructor))
theorem z1086 (n:Nat) (e:List AC):z71 (List.replicate n e)=List.replicate n (z265 e):=by
 induction n with
 |zero=>rfl
 |succ n ih=>simp only [List.replicate_succ,z71,ih]
noncomputable def noneB (t:Tree):Bool:=decide (t.kind=0∧t.val=0∧t.kids.length=0)
theorem z1169 (t:Tree):CallsA Tryz.prog 311 [z26 Tree.cs' t] [] (.bool (noneB t)) []:=by
 refine z13 z16 Tryz.func311 rfl rfl 17 Tryz.ntmps311 (by simp) ?_
 repeat' ((first|(apply y4 ok;rfl)|((apply z6)<;>intro _))<;>conv=>whnf)
 all_goals refine z28 rfl ?_
 all_goals unfold noneB
 all_goals first|(rw [decide_eq_decide];omega)|(rw [decide_eq_false_iff_not];omega)
noncomputable def z586 (e:Edge) (n:Int):Bool:=decide (0≤e.fr∧e.fr < n∧0≤e.to∧e.to < n∧n≤4) && (e.gd.exprB && (decide (-2≤e.sync∧e.sync≤2∧-1≤e.var∧e.var < 3) && (if e.var < 0 then noneB e.val else e.val.exprB)))
set_option maxHeartbeats 1600000 in
theorem z793 (e:Edge) (he:e.s1) (n:Int):CallsA Tryz.prog 304 [.agg e.cs,.int n] [] (.bool (z586 e n)) []:=by
 have h1:=he.gd
 have h2:=he.val
 have c1:=z139 e.gd (z94 _ (by unfold maxLen;omega))
 have c2:=z139 e.val (z94 _ (by unfold maxLen;omega))
 have c3:=z1169 e.val
 rw [y15] at c1 c2 c3
 unfold z586
 generalize e.gd.exprB=b1 at *
 generalize e.val.exprB=b2 at *
 generalize noneB e.val=b3 at *
 by_cases ha:0≤e.fr∧e.fr < n∧0≤e.to∧e.to < n∧n≤4
 ·rw [y82 ha]
  by_cases hb : -2≤e.sync∧e.sync≤2∧-1≤e.var∧e.var < 3
  ·rw [y82 hb]
   by_cases hv:e.var < 0
   ·rw [if_pos hv]
    refine z13 z16 Tryz.func304 rfl rfl 71 Tryz.ntmps304 (by simp) ?_
    cases b1<;>cases b3
    all_goals
     repeat' ((first|(apply y4 ok;rfl)|((apply z6)<;>intro _)|(apply z4 (c1);rfl;rfl)|(apply z4 (c3);rfl;rfl))<;>conv=>whnf)
     all_goals first|(exfalso;omega)|exact z28 rfl rfl
   ·rw [if_neg hv]
    refine z13 z16 Tryz.func304 rfl rfl 71 Tryz.ntmps304 (by simp) ?_
    cases b1<;>cases b2
    all_goals
     repeat' ((first|(apply y4 ok;rfl)|((apply z6)<;>intro _)|(apply z4 (c1);rfl;rfl)|(apply z4 (c2);rfl;rfl))<;>conv=>whnf)
     all_goals first|(exfalso;omega)|exact z28 rfl rfl
  ·rw [y83 hb]
   refine z13 z16 Tryz.func304 rfl rfl 71 Tryz.ntmps304 (by simp) ?_
   cases b1
   all_goals
    repeat' ((first|(apply y4 ok;rfl)|((apply z6)<;>intro _)|(apply z4 (c1);rfl;rfl))<;>conv=>whnf)
    all_goals first|(exfalso;omega)|exact z28 rfl rfl
 ·rw [y83 ha]
  refine z13 z16 Tryz.func304 rfl rfl 71 Tryz.ntmps304 (by simp) ?_
  repeat' ((first|(apply y4 ok;rfl)|((first|apply z6|apply z84)<;>intro _)|(apply z4 (c1);rfl;rfl))<;>conv=>whnf)
  all_goals first|(exfalso;omega)|exact z28 rfl rfl
noncomputable def z578 (p:Proc):Bool:=p.es.all (fun e=>z586 e p.loc) && decide (1≤p.loc∧p.loc≤4∧p.es.length≤6)
theorem z774 (p:Proc) (hp:p.s1):CallsA Tryz.prog 281 [.agg p.cs] [] (.bool (z578 p)) []:=by
 have hl:=hp.len
 unfold z578
 refine z13 z16 Tryz.func281 rfl rfl 34 Tryz.ntmps281 (by simp) ?_
 repeat' (((apply y4 ok;rfl))<;>conv=>whnf)
 refine z110 (fun k:Nat=>([(1,.ptr 0 none 0),(3,.int k)],[.cells 2 [p.cs]])) (fun k=>k≤p.es.length∧p.es.all (fun e=>z586 e p.loc)=(p.es.drop k).all (fun e=>z586 e p.loc)) (fun k=>p.es.length - k) 0 ⟨by omega,rfl⟩ ⟨[0],rfl,by decide,rfl,by repeat' (first|exact True.intro|exact ⟨rfl,rfl⟩|apply y43),by repeat' (first|exact True.intro|exact z24 rfl rfl|apply y43)⟩ ?_
 intro k hk
 by_cases hkl:k < p.es.length
 ·have ce:=z793 p.es[k] (hp.el _ (y44 _)) p.loc
  have e:=z156 (fun e=>z586 e p.loc) p.es k hkl
  rw [e] at hk
  have g0:(p.es.map Edge.cs)[k]?=some (Edge.cs p.es[k]):=by rw [y51,y45 hkl];rfl
  generalize z586 p.es[k] p.loc=b at *
  cases b
  all_goals
   repeat' ((first|(apply y4 ok;rfl)|(apply z22;kernel_rfl)|(refine z12 (i:=k) rfl g0 ?_)|(apply y43;first|omega|(unfold inI;omega))|((apply z6)<;>intro _)|(apply z4 (ce);rfl;rfl))<;>conv=>whnf)
   all_goals try (exfalso;omega)
  ·exact z28 rfl (by rw [hk.2];rfl)
  ·exact z98 (k+1) [0] ⟨by omega,by rw [hk.2,Bool.true_and]⟩ (by omega) ⟨rfl,by decide,rfl,by repeat' (first|exact True.intro|exact ⟨rfl,rfl⟩|apply y43),by repeat' (first|exact True.intro|exact z24 rfl rfl|apply y43)⟩
 ·have e:=z146 (fun e=>z586 e p.loc) p.es k (by omega)
  rw [e] at hk
  repeat' ((first|(apply y4 ok;rfl)|(apply y43;omega)|(((with_reducible apply z11;omega));intro _)|((apply z6)<;>intro _))<;>conv=>whnf)
  all_goals first|(exfalso;omega)|(refine z28 rfl ?_;rw [hk.2];simp only [Bool.true_and,Bool.false_and];first|(rw [decide_eq_decide];omega)|(rw [decide_eq_false_iff_not];omega))
noncomputable def sysB (s:Sys):Bool:=s.ps.all z578 && (z420 s.init && decide (1≤s.ps.length∧s.ps.length≤3))
theorem z571 (s:Sys) (hs:s.s1):CallsA Tryz.prog 248 [.agg s.cs] [] (.bool (sysB s)) []:=by
 have hl:=hs.len
 have hi:=hs.init
 have cv:=z775 s.init (by unfold maxLen;omega)
 unfold sysB
 generalize z420 s.init=vb at *
 refine z13 z16 Tryz.func248 rfl rfl 33 Tryz.ntmps248 (by simp) ?_
 repeat' (((apply y4 ok;rfl))<;>conv=>whnf)
 refine z110 (fun k:Nat=>([(1,.ptr 0 none 0),(3,.int k)],[.cells 2 [s.cs]])) (fun k=>k≤s.ps.length∧s.ps.all z578=(s.ps.drop k).all z578) (fun k=>s.ps.length - k) 0 ⟨by omega,rfl⟩ ⟨[0],rfl,by decide,rfl,by repeat' (first|exact True.intro|exact ⟨rfl,rfl⟩|apply y43),by repeat' (first|exact True.intro|exact z24 rfl rfl|apply y43)⟩ ?_
 intro k hk
 by_cases hkl:k < s.ps.length
 ·have ce:=z774 s.ps[k] (hs.el _ (y44 _))
  have e:=z156 z578 s.ps k hkl
  rw [e] at hk
  have g0:(s.ps.map Proc.cs)[k]?=some (Proc.cs s.ps[k]):=by rw [y51,y45 hkl];rfl
  generalize z578 s.ps[k]=b at *
  cases b
  all_goals
   repeat' ((first|(apply y4 ok;rfl)|(refine z12 (i:=k) rfl g0 ?_)|(apply y43;first|omega|(unfold inI;omega))|((apply z6)<;>intro _)|(apply z4 (ce);rfl;rfl))<;>conv=>whnf)
   all_goals try (exfalso;omega)
  ·exact z28 rfl (by rw [hk.2];rfl)
  ·exact z98 (k+1) [0] ⟨by omega,by rw [hk.2,Bool.true_and]⟩ (by omega) ⟨rfl,by decide,rfl,by repeat' (first|exact True.intro|exact ⟨rfl,rfl⟩|apply y43),by repeat' (first|exact True.intro|exact z24 rfl rfl|apply y43)⟩
 ·have e:=z146 z578 s.ps k (by omega)
  rw [e] at hk
  cases vb
  all_goals
   repeat' ((first|(apply y4 ok;rfl)|(apply y43;omega)|(((with_reducible apply z11;omega));intro _)|((apply z6)<;>intro _)|(apply z4 (cv);rfl;rfl))<;>conv=>whnf)
   all_goals first|(exfalso;omega)|(refine z28 rfl ?_;rw [hk.2];simp only [Bool.true_and,Bool.false_and];first|done|(rw [decide_eq_decide];omega)|(rw [decide_eq_false_iff_not];omega))
theorem z778 (s:Sys) (hs:s.s1):CallsA Tryz.prog 184 [.agg s.cs] [] (.tup [.agg (if sysB s then (⟨List.replicate s.ps.length 0,s.init⟩:State) else ⟨[],[]⟩).cs,.bool (sysB s)]) []:=by
 have hl:=hs.len
 have hi:=hs.init
 have c:=z571 s hs
 generalize sysB s=b at *
 refine z7 z16 Tryz.func184 rfl rfl 17 Tryz.ntmps184 (by simp) ?_
 cases b
 all_goals
  repeat' ((first|(apply y4 ok;rfl)|(apply z22;kernel_rfl)|(apply y43;first|(dsimp only;omega)|exact z66 (fun _=>rfl))|(apply z4 (c);rfl;rfl))<;>conv=>whnf)
 ·(refine rsD [] [] rfl ?_;(repeat' first|exact y86 _|exact z36|apply z38|apply z80|constructor))
 ·(refine rsD [] [2,4] rfl ?_;(repeat' first|exact y86 _|(refine z292 ?_;omega)|((apply z41 rfl rfl rfl);(focus ((repeat (first|exact z34 (fun _=>rfl) _|rfl));done));(focus (((simp;done));done)))|apply z38|apply z80|(refine z73 ?_ ?_;(focus (simp;done)))|constructor))
  exact z51 (by rw [z1086,if_pos rfl];simp only [List.map_replicate,y77];rfl)
def Sys.pr (s:Sys) (i:Nat):Proc:=s.ps.getD i ⟨0,[]⟩
def Proc.eg (p:Proc) (k:Nat):Edge:=p.es.getD k ⟨0,0,leaf 0 0,0,leaf 0 0,0⟩
theorem y14 {s:Sys} {i:Nat} (h:i < s.ps.length):(s.ps.map Proc.cs)[i]?=some (s.pr i).cs:=by
 unfold Sys.pr;rw [z15 h,y51,y45 h];rfl
theorem y11 {p:Proc} {k:Nat} (h:k < p.es.length):(p.es.map Edge.cs)[k]?=some (p.eg k).cs:=by
 unfold Proc.eg;rw [z15 h,y51,y45 h];rfl
structure Edge.ok (e:Edge) (n:Int):Prop where
 to:0≤e.to∧e.to < n
 gd:e.gd.good
 var : -1≤e.var∧e.var≤2
 val:0≤e.var→e.val.good
 sync : -2≤e.sync∧e.sync≤2
structure Sys.ok (s:Sys):Prop where
 n1:1≤s.ps.length
 n3:s.ps.length≤3
 ne:∀ i,i < s.ps.length→(s.pr i).es.length≤6
 loc:∀ i,i < s.ps.length→(s.pr i).loc≤4
 eg:∀ i k,i < s.ps.length→k < (s.pr i).es.length→((s.pr i).eg k).ok (s.pr i).loc
 init:ValsOk s.init
theorem Sys.ok_of {s:Sys} (h:sysB s=true):s.ok:=by
 unfold sysB at h
 rw [y71,y71,decide_eq_true_iff,y79] at h
 obtain ⟨h1,h2,h3⟩:=h
 have hp:∀ i,i < s.ps.length→z578 (s.pr i)=true:=fun i hi=>by unfold Sys.pr;rw [z15 hi];exact h1 _ (y44 _)
 have hq:∀ i,i < s.ps.length→(∀ e∈(s.pr i).es,z586 e (s.pr i).loc=true)∧1≤(s.pr i).loc∧(s.pr i).loc≤4∧(s.pr i).es.length≤6:=fun i hi=>by
  have:=hp i hi
  unfold z578 at this
  rw [y71,decide_eq_true_iff,y79] at this
  exact this
 refine ⟨h3.1,h3.2,fun i hi=>(hq i hi).2.2.2,fun i hi=>(hq i hi).2.2.1,fun i k hi hk=>?_,z723 h2⟩
 have he:=(hq i hi).1 ((s.pr i).eg k) (by unfold Proc.eg;rw [z15 hk];exact y44 _)
 unfold z586 at he
 simp only [y71,decide_eq_true_iff] at he
 obtain ⟨a1,a2,a3,a4⟩:=he
 refine ⟨⟨a1.2.2.1,a1.2.2.2.1⟩,y26 a2,⟨a3.2.2.1,by omega⟩,fun hv=>?_,⟨a3.1,a3.2.1⟩⟩
 rw [if_neg (by omega)] at a4
 exact y26 a4
noncomputable def rdyE (e:Edge) (st:State) (i:Nat):Bool:=decide (e.fr=st.a.getD i 0) && decide (e.gd.ev st.b≠0)
structure State.ok (st:State) (s:Sys):Prop where
 a:st.a.length=s.ps.length
 b:ValsOk st.b
theorem z609 (s:Sys) (hs:s.ok) (st:State) (h:st.ok s) (i k:Nat) (hi:i < s.ps.length) (hk:k < (s.pr i).es.length):CallsA Tryz.prog 249 [.agg s.cs,.agg st.cs,.int i,.int k] [] (.bool (rdyE ((s.pr i).eg k) st i)) []:=by
 have gp:=y14 hi
 have ge:=y11 hk
 have hE:=hs.eg i k hi hk
 have h3:=hs.n3
 have ha:=h.a
 have h6:=hs.ne i hi
 generalize (s.pr i).eg k=e at *
 have hb:=h.b.1
 have ga:(st.a.map enI)[i]?=some (enI (st.a.getD i 0)):=by rw [y51,z15 (show i < st.a.length by omega),y45 (by omega)];rfl
 have ce:=z538 st.b h.b e.gd hE.gd
 rw [y15] at ce
 unfold rdyE
 generalize st.a.getD i 0=x at *
 generalize s.pr i=p at *
 refine z13 z16 Tryz.func249 rfl rfl 35 Tryz.ntmps249 (by simp) ?_
 repeat' ((first|(apply y4 ok;rfl)|(apply z22;kernel_rfl)|(refine z12 (i:=i) rfl gp ?_)|(refine z12 (i:=k) rfl ge ?_)|(refine z12 (i:=i) rfl ga ?_)|(apply y43;omega)|((apply z6)<;>intro _)|(apply z4 (ce);rfl;rfl))<;>conv=>whnf)
 all_goals exact z28 rfl (by simp [*])
structure Stp where
 p:Int
 e:Int
 q:Int
 f:Int
def Stp.cs (x:Stp):List AC:=[.int x.p,.int x.e,.int x.q,.int x.f]
structure Stp.ok (x:Stp) (s:Sys):Prop where
 p:0≤x.p∧x.p < s.ps.length
 e:0≤x.e∧x.e < (s.pr x.p.toNat).es.length
 q : -1≤x.q∧x.q < s.ps.length
 f:0≤x.q→0≤x.f∧x.f < (s.pr x.q.toNat).es.length
open Classical in
noncomputable def z664 (s:Sys) (st:State) (i k:Nat) (j m:Nat):List Stp:=if j≠i∧((s.pr j).eg m).sync=-((s.pr i).eg k).sync∧rdyE ((s.pr j).eg m) st j=true then [⟨i,k,j,m⟩] else []
noncomputable def z665 (s:Sys) (st:State) (i k:Nat):List Stp:=cat s.ps.length fun j=>cat (s.pr j).es.length (z664 s st i k j)
theorem partL_ok {s:Sys} {st:State} {i k:Nat} (hi:i < s.ps.length) (hk:k < (s.pr i).es.length):∀ x∈z665 s st i k,x.ok s:=fun x hx=>by
 obtain ⟨j,hj,hx⟩:=z674 hx
 obtain ⟨m,hm,hx⟩:=z674 hx
 unfold z664 at hx
 split at hx
 ·rw [List.mem_singleton.1 hx]
  exact ⟨⟨by show 0≤(i:Int);omega,by show (i:Int) < _;omega⟩,⟨by show 0≤(k:Int);omega,by show (k:Int) < _;simpa using hk⟩,⟨by show -1≤(j:Int);omega,by show (j:Int) < _;omega⟩,fun _=>⟨by show 0≤(m:Int);omega,by show (m:Int) < _;simpa using hm⟩⟩
 ·cases hx
theorem z749 {s:Sys} (hs:s.ok) {st:State} {i k:Nat} : (z665 s st i k).length≤18:=by
 have h3:=hs.n3
 have:=z706 (n:=s.ps.length) (c:=6) (f:=fun j=>cat (s.pr j).es.length (z664 s st i k j)) (fun j hj=>by
  have h6:=hs.ne j hj
  have:=z706 (n:=(s.pr j).es.length) (c:=1) (f:=z664 s st i k j) (fun m _=>by unfold z664;split<;>simp)
  omega)
 unfold z665
 omega
set_option maxHeartbeats 1600000 in
theorem z681 (s:Sys) (hs:s.ok) (st:State) (h:st.ok s) (i k:Nat) (hi:i < s.ps.length) (hk:k < (s.pr i).es.length):CallsA Tryz.prog 250 [.agg s.cs,.agg st.cs,.int i,.int k] [] (lst 4 Stp.cs (z665 s st i k)) []:=by
  have gp:=y14 hi
  have ge:=y11 hk
  have h3:=hs.n3
  have h6:=hs.ne i hi
  have hE:=hs.eg i k hi hk
  have hsy:=hE.sync
  have hfin:z665 s st i k=cat s.ps.length (fun j=>cat (s.pr j).es.length (z664 s st i k j)):=rfl
  have hR1:∀ j m,(j≠i∧((s.pr j).eg m).sync=-((s.pr i).eg k).sync∧rdyE ((s.pr j).eg m) st j=true)→z664 s st i k j m=[⟨i,k,j,m⟩]:=fun _ _ h=>if_pos h
  have hR0:∀ j m,¬(j≠i∧((s.pr j).eg m).sync=-((s.pr i).eg k).sync∧rdyE ((s.pr j).eg m) st j=true)→z664 s st i k j m=[]:=fun _ _ h=>if_neg h
  generalize z665 s st i k=FIN at *
  generalize z664 s st i k=R at *
  generalize (s.pr i).eg k=e at *
  generalize hp:s.pr i=p at *
  refine z7 z16 Tryz.func250 rfl rfl 76 Tryz.ntmps250 (by simp) ?_
  repeat' ((first|(apply y4 ok;rfl)|(refine z12 (i:=i) rfl gp ?_)|(refine z12 (i:=k) rfl ge ?_)|(apply y43;omega))<;>conv=>whnf)
  refine z63 (fun x:Nat×List Stp=>([(2,.int i),(3,.int k),(4,.ptr 0 none 0),(5,.ptr 1 none 0),(9,.sref 2 0 x.2.length),(10,.int e.sync),(11,.int x.1)],[.cells 2 [s.cs],.cells 2 [st.cs],.cells 4 (x.2.map Stp.cs)])) (fun x=>x.1≤s.ps.length∧x.2.length≤6 * x.1∧x.2=cat x.1 fun j=>cat (s.pr j).es.length (R j)) (fun x=>s.ps.length - x.1) (0,[]) ⟨by omega,by simp,rfl⟩ (by refine swR [0,1,2] [] rfl rfl ?_;(repeat' first|exact y86 _|apply y87|refine z8 rfl (z23) ?_|constructor)) ?_
  rintro ⟨j,L⟩ ⟨hj,hLl,hL⟩
  simp only at hj hL hLl
  by_cases hjl:j < s.ps.length
  · have gj:=y14 hjl
    have hj6:=hs.ne j hjl
    repeat' ((first|(apply y4 ok;rfl)|((apply z6)<;>intro _))<;>conv=>whnf)
    all_goals try (exfalso;omega)
    refine z63 (fun x:Nat×List Stp=>([(2,.int i),(3,.int k),(4,.ptr 0 none 0),(5,.ptr 1 none 0),(9,.sref 2 0 x.2.length),(10,.int e.sync),(11,.int j),(12,.int x.1)],[.cells 2 [s.cs],.cells 2 [st.cs],.cells 4 (x.2.map Stp.cs)])) (fun x=>x.1≤(s.pr j).es.length∧x.2.length≤6 * j+x.1∧x.2=L++cat x.1 (R j)) (fun x=>(s.pr j).es.length - x.1) (0,L) ⟨by omega,by simpa using hLl,by rw [z970,y65]⟩ (by refine swR [0,1,2] [] rfl rfl ?_;(repeat' first|exact y86 _|exact z9 _|apply y87|refine z8 rfl (z5 (fun _=>rfl)) ?_|constructor)) ?_
    rintro ⟨m,M⟩ ⟨hm,hMl,hM⟩
    simp only at hm hM hMl
    by_cases hml:m < (s.pr j).es.length
    · have gm:=y11 hml
      have hl:=z609 s hs st h j m hjl hml
      have hR1m:=hR1 j m
      have hR0m:=hR0 j m
      have hcs:=z410 m (R j)
      have hE2:=(hs.eg j m hjl hml).sync
      generalize (s.pr j).eg m=e2 at *
      generalize rdyE e2 st j=rd at *
      generalize hpj:s.pr j=pj at *
      cases rd
      all_goals
        repeat' ((first|(apply y4 ok;rfl)|(refine z12 (i:=j) rfl gj ?_)|(refine z12 (i:=m) rfl gm ?_)|(apply y43;first|omega|(unfold inI;omega)|((try dsimp only);simp only [y49,y48,y47,y46,y58,y59];omega)|exact ⟨rfl,z20 rfl z27⟩)|((first|apply z6|apply z46)<;>intro _)|(apply z4 (hl);rfl;rfl))<;>conv=>whnf)
        all_goals try (exfalso;omega)
      all_goals first
        | (have hz := hR1m ⟨by omega, by omega, rfl⟩
           refine z25 (m+1,M++[⟨i,k,j,m⟩]) ⟨by omega,by simp;omega,by rw [hM,hcs,hz,List.append_assoc]⟩ (by show pj.es.length - (m+1) < pj.es.length - m;omega) (by refine swR [0,1,4] [] rfl rfl ?_;(repeat' first|exact y86 _|(refine z52 ?_;((simp;done)))|apply y87|((refine z35 rfl ?_ ?_);(focus ((repeat' (first|exact z5 (fun _=>rfl)|apply z21));done)))|(refine z78 ?_ ?_;(focus (omega)))|constructor)))
        | (have hz := hR0m (by rintro ⟨z1, z2, z3⟩; first | exact absurd z3 (by decide) | omega)
           refine z25 (m+1,M) ⟨by omega,by simp;omega,by rw [hM,hcs,hz,y65]⟩ (by show pj.es.length - (m+1) < pj.es.length - m;omega) (by refine swR [0,1,2] [] rfl rfl ?_;(repeat' first|exact y86 _|exact z9 _|apply y87|refine z8 rfl (z5 (fun _=>rfl)) ?_|constructor)))
    · repeat' ((first|(apply y4 ok;rfl)|(refine z12 (i:=j) rfl gj ?_)|(apply y43;first|omega|(unfold inI;omega))|(((with_reducible apply z11;omega));intro _)|((first|apply z6|apply z46)<;>intro _))<;>conv=>whnf)
      all_goals try (exfalso;omega)
      have e:m=(s.pr j).es.length:=by omega
      all_goals refine z25 (j+1,M) ⟨by omega,by simp;omega,by rw [hM,hL,e];exact (z410 j fun j=>cat (s.pr j).es.length (R j)).symm⟩ (by show s.ps.length - (j+1) < s.ps.length - j;omega) (by refine swR [0,1,2] [] rfl rfl ?_;(repeat' first|exact y86 _|exact z9 _|apply y87|refine z8 rfl (z5 (fun _=>rfl)) ?_|constructor))
  · have e:j=s.ps.length:=by omega
    have eL:L=FIN:=by rw [hfin,hL,e]
    subst eL
    repeat' ((first|(apply y4 ok;rfl)|((apply z6)<;>intro _))<;>conv=>whnf)
    all_goals try (exfalso;omega)
    all_goals (refine rsD [] [2] rfl ?_;(repeat' first|exact y86 _|((apply z41 rfl rfl rfl);(focus ((repeat ((exact z34 (fun _=>rfl) _)));done));(focus (((simp;done));done)))|constructor))
end Go.Proofs.YtjhgpfaodkchjaaGreat
namespace Go.Proofs.YtjhgpfaodkchjaaGreat
open Go.Gl
attribute [local irreducible] z18 AWP z30 z37 z33 RetS z44
noncomputable def z460 (s:Sys) (st:State) (j m:Nat):List Stp:=if ((s.pr j).eg m).sync < 0∨rdyE ((s.pr j).eg m) st j=false then [] else if ((s.pr j).eg m).sync=0 then [⟨j,m,-1,-1⟩] else z665 s st j m
noncomputable def z572 (s:Sys) (st:State):List Stp:=cat s.ps.length fun j=>cat (s.pr j).es.length (z460 s st j)
theorem z932 {s:Sys} {st:State} : ∀ x∈z572 s st,x.ok s:=fun x hx=>by
 obtain ⟨j,hj,hx⟩:=z674 hx
 obtain ⟨m,hm,hx⟩:=z674 hx
 unfold z460 at hx
 split at hx
 ·cases hx
 split at hx
 ·rw [List.mem_singleton.1 hx]
  exact ⟨⟨by show 0≤(j:Int);omega,by show (j:Int) < _;omega⟩,⟨by show 0≤(m:Int);omega,by show (m:Int) < _;simpa using hm⟩,⟨by show -1≤(-1:Int);omega,by show (-1:Int) < _;omega⟩,fun h=>absurd (show (0:Int)≤-1 from h) (by decide)⟩
 ·exact partL_ok hj hm x hx
set_option maxHeartbeats 1600000 in
theorem z1026 (s:Sys) (hs:s.ok) (st:State) (h:st.ok s):CallsA Tryz.prog 185 [.agg s.cs,.agg st.cs] [] (lst 4 Stp.cs (z572 s st)) []:=by
  have h3:=hs.n3
  have hfin:z572 s st=cat s.ps.length (fun j=>cat (s.pr j).es.length (z460 s st j)):=rfl
  have hR0:∀ j m,(((s.pr j).eg m).sync < 0∨rdyE ((s.pr j).eg m) st j=false)→z460 s st j m=[]:=fun _ _ h=>if_pos h
  have hR1:∀ j m,¬(((s.pr j).eg m).sync < 0∨rdyE ((s.pr j).eg m) st j=false)→((s.pr j).eg m).sync=0→z460 s st j m=[⟨j,m,-1,-1⟩]:=fun _ _ h k=>by unfold z460;rw [if_neg h,if_pos k]
  have hR2:∀ j m,¬(((s.pr j).eg m).sync < 0∨rdyE ((s.pr j).eg m) st j=false)→((s.pr j).eg m).sync≠0→z460 s st j m=z665 s st j m:=fun _ _ h k=>by unfold z460;rw [if_neg h,if_neg k]
  generalize z572 s st=FIN at *
  generalize z460 s st=R at *
  refine z7 z16 Tryz.func185 rfl rfl 64 Tryz.ntmps185 (by simp) ?_
  repeat' (((apply y4 ok;rfl))<;>conv=>whnf)
  refine z63 (fun x:Nat×List Stp=>([(2,.ptr 0 none 0),(3,.ptr 1 none 0),(5,.sref 2 0 x.2.length),(6,.int x.1)],[.cells 2 [s.cs],.cells 2 [st.cs],.cells 4 (x.2.map Stp.cs)])) (fun x=>x.1≤s.ps.length∧x.2.length≤108 * x.1∧x.2=cat x.1 fun j=>cat (s.pr j).es.length (R j)) (fun x=>s.ps.length - x.1) (0,[]) ⟨by omega,by simp,rfl⟩ (by refine swR [0,1,2] [] rfl rfl ?_;(repeat' first|exact y86 _|apply y87|refine z8 rfl (z23) ?_|constructor)) ?_
  rintro ⟨j,L⟩ ⟨hj,hLl,hL⟩
  simp only at hj hL hLl
  by_cases hjl:j < s.ps.length
  · have gj:=y14 hjl
    have hj6:=hs.ne j hjl
    repeat' ((first|(apply y4 ok;rfl)|((apply z6)<;>intro _))<;>conv=>whnf)
    all_goals try (exfalso;omega)
    refine z63 (fun x:Nat×List Stp=>([(2,.ptr 0 none 0),(3,.ptr 1 none 0),(5,.sref 2 0 x.2.length),(6,.int j),(7,.int x.1)],[.cells 2 [s.cs],.cells 2 [st.cs],.cells 4 (x.2.map Stp.cs)])) (fun x=>x.1≤(s.pr j).es.length∧x.2.length≤108 * j+18 * x.1∧x.2=L++cat x.1 (R j)) (fun x=>(s.pr j).es.length - x.1) (0,L) ⟨by omega,by simpa using hLl,by rw [z970,y65]⟩ (by refine swR [0,1,2] [] rfl rfl ?_;(repeat' first|exact y86 _|exact z9 _|apply y87|refine z8 rfl (z5 (fun _=>rfl)) ?_|constructor)) ?_
    rintro ⟨m,M⟩ ⟨hm,hMl,hM⟩
    simp only at hm hM hMl
    by_cases hml:m < (s.pr j).es.length
    · have gm:=y11 hml
      have hl:=z609 s hs st h j m hjl hml
      have hP:=z681 s hs st h j m hjl hml
      have hPl:=z749 hs (st:=st) (i:=j) (k:=m)
      have hR0m:=hR0 j m
      have hR1m:=hR1 j m
      have hR2m:=hR2 j m
      have hcs:=z410 m (R j)
      have hE2:=(hs.eg j m hjl hml).sync
      generalize (s.pr j).eg m=e2 at *
      generalize rdyE e2 st j=rd at *
      generalize z665 s st j m=PL at *
      generalize hpj:s.pr j=pj at *
      cases rd
      all_goals
        repeat' ((first|(apply y4 ok;rfl)|(refine z12 (i:=j) rfl gj ?_)|(refine z12 (i:=m) rfl gm ?_)|(apply y43;first|omega|(unfold inI;omega)|((try dsimp only);simp only [y49,y48,y47,y46,y58,y59];omega)|exact z66 (fun _=>rfl)|exact ⟨rfl,z20 rfl z27⟩)|((apply z6)<;>intro _)|(apply z4 (hl);rfl;rfl)|(apply z4 (hP);rfl;rfl))<;>conv=>whnf)
        all_goals try (exfalso;omega)
      all_goals first
        | (have hz := hR2m (by rintro (z1 | z1) <;> first | omega | exact absurd z1 (by decide)) (by omega)
           refine z25 (m+1,M++PL) ⟨by omega,by simp;omega,by rw [hM,hcs,hz,List.append_assoc]⟩ (by show pj.es.length - (m+1) < pj.es.length - m;omega) (by refine swR [0,1,3] [] rfl rfl ?_;(repeat' first|exact y86 _|(refine z52 ?_;((simp;done)))|apply y87|((refine z8 rfl ?_ ?_);(focus ((repeat' (first|exact z5 (fun _=>rfl)|apply z65|apply z21));done)))|(refine appL_le ?_;(omega))|constructor)))
        | (have hz := hR1m (by rintro (z1 | z1) <;> first | omega | exact absurd z1 (by decide)) (by omega)
           refine z25 (m+1,M++[⟨j,m,-1,-1⟩]) ⟨by omega,by simp;omega,by rw [hM,hcs,hz,List.append_assoc]⟩ (by show pj.es.length - (m+1) < pj.es.length - m;omega) (by refine swR [0,1,4] [] rfl rfl ?_;(repeat' first|exact y86 _|(refine z52 ?_;((simp;done)))|apply y87|((refine z35 rfl ?_ ?_);(focus ((repeat' (first|exact z5 (fun _=>rfl)|apply z21));done)))|(refine z78 ?_ ?_;(focus (omega)))|constructor)))
        | (have hz := hR0m (by first | exact .inr rfl | exact .inl (by omega))
           refine z25 (m+1,M) ⟨by omega,by simp;omega,by rw [hM,hcs,hz,y65]⟩ (by show pj.es.length - (m+1) < pj.es.length - m;omega) (by refine swR [0,1,2] [] rfl rfl ?_;(repeat' first|exact y86 _|exact z9 _|apply y87|refine z8 rfl (z5 (fun _=>rfl)) ?_|constructor)))
    · repeat' ((first|(apply y4 ok;rfl)|(refine z12 (i:=j) rfl gj ?_)|(apply y43;first|omega|(unfold inI;omega))|(((with_reducible apply z11;omega));intro _)|((apply z6)<;>intro _))<;>conv=>whnf)
      all_goals try (exfalso;omega)
      have e:m=(s.pr j).es.length:=by omega
      all_goals refine z25 (j+1,M) ⟨by omega,by simp;omega,by rw [hM,hL,e];exact (z410 j fun j=>cat (s.pr j).es.length (R j)).symm⟩ (by show s.ps.length - (j+1) < s.ps.length - j;omega) (by refine swR [0,1,2] [] rfl rfl ?_;(repeat' first|exact y86 _|exact z9 _|apply y87|refine z8 rfl (z5 (fun _=>rfl)) ?_|constructor))
  · have e:j=s.ps.length:=by omega
    have eL:L=FIN:=by rw [hfin,hL,e]
    subst eL
    repeat' ((first|(apply y4 ok;rfl)|((apply z6)<;>intro _))<;>conv=>whnf)
    all_goals try (exfalso;omega)
    all_goals (refine rsD [] [2] rfl ?_;(repeat' first|exact y86 _|((apply z41 rfl rfl rfl);(focus ((repeat ((exact z34 (fun _=>rfl) _)));done));(focus (((simp;done));done)))|constructor))
noncomputable def z188 (st:State) (i:Nat) (e:Edge):State:=⟨st.a.set i e.to,if 0≤e.var then st.b.set e.var.toNat (e.val.ev st.b) else st.b⟩
theorem z646 {s:Sys} {st:State} (h:st.ok s) {i:Nat} {e:Edge} {n:Int} (he:e.ok n):(z188 st i e).ok s:=by
 refine ⟨by simp [z188,h.a],?_⟩
 unfold z188
 dsimp only
 split
 ·refine ⟨by simp [h.b.1],fun x hx=>?_⟩
  rcases List.mem_or_eq_of_mem_set hx with hx|rfl
  ·exact h.b.2 x hx
  ·exact y19 h.b _ (he.val (by assumption))
 ·exact h.b
theorem z773 (st:State) (e:Edge) (n:Int) (he:e.ok n) (i:Nat) (hi:i < st.a.length) (hl:st.a.length≤10) (hv:ValsOk st.b):CallsA Tryz.prog 251 [.agg [.sref 0 0 st.a.length,.sref 1 0 st.b.length],.int i,.agg e.cs] [.cells 1 (st.a.map enI),.cells 1 (st.b.map enI)] (.agg [.sref 0 0 st.a.length,.sref 1 0 st.b.length]) [.cells 1 ((z188 st i e).a.map enI),.cells 1 ((z188 st i e).b.map enI)]:=by
 have hb:=hv.1
 have hvar:=he.var
 by_cases h0:0≤e.var
 ·have c:=z538 st.b hv e.val (he.val h0)
  rw [y15] at c
  have hr:=y19 hv e.val (he.val h0)
  have e1:z188 st i e=⟨st.a.set i e.to,st.b.set e.var.toNat (e.val.ev st.b)⟩:=by unfold z188;rw [if_pos h0]
  rw [e1]
  generalize e.val.ev st.b=x at *
  refine z7 z16 Tryz.func251 rfl rfl 27 Tryz.ntmps251 (by simp) ?_
  repeat' ((first|(apply y4 ok;rfl)|(apply z22;kernel_rfl)|(apply y43;omega)|(((apply z11;omega));intro _)|((apply z6)<;>intro _)|(apply z96 [] [1] [] c;(focus ((repeat' first|exact z69|apply z42)<;>first|exact z108 rfl rfl rfl|rfl));rfl;rfl;(focus ((repeat' exact z17)<;>fail));((refine .inr ⟨rfl,?_⟩;repeat' first|exact True.intro|apply y43))))<;>conv=>whnf)
  all_goals first|(exfalso;omega)|exact h0|(show e.var.toNat < st.b.length;omega)|skip
  all_goals (refine rsD [0,1] [] rfl ?_;(repeat' first|exact y86 _|refine z58 rfl (z5 (fun _=>rfl)) ?_|refine z184 (by omega) ?_|constructor))
 ·have e1:z188 st i e=⟨st.a.set i e.to,st.b⟩:=by unfold z188;rw [if_neg h0]
  rw [e1]
  refine z7 z16 Tryz.func251 rfl rfl 27 Tryz.ntmps251 (by simp) ?_
  repeat' ((first|(apply y4 ok;rfl)|(apply y43;omega)|(((apply z11;omega));intro _)|((apply z6)<;>intro _))<;>conv=>whnf)
  all_goals try (exfalso;omega)
  all_goals (refine rsD [0,1] [] rfl ?_;(repeat' first|exact y86 _|exact z9 _|refine z58 rfl (z5 (fun _=>rfl)) ?_|refine z8 rfl (z5 (fun _=>rfl)) ?_|refine z184 (by omega) ?_|constructor))
noncomputable def z244 (s:Sys) (st:State) (x:Stp):State:=if 0≤x.q then z188 (z188 st x.p.toNat ((s.pr x.p.toNat).eg x.e.toNat)) x.q.toNat ((s.pr x.q.toNat).eg x.f.toNat) else z188 st x.p.toNat ((s.pr x.p.toNat).eg x.e.toNat)
theorem z946 {a:Int} {n:Nat} (h:0≤a) (h2:a < n):∃ m:Nat,a=m∧m < n:=⟨a.toNat,by omega,by omega⟩
theorem z810 {s:Sys} (hs:s.ok) {st:State} (h:st.ok s) {x:Stp} (hx:x.ok s):(z244 s st x).ok s:=by
 have hp:=hx.p
 have he:=hx.e
 have hq:=hx.q
 unfold z244
 have h1:=z646 (i:=x.p.toNat) h (hs.eg x.p.toNat x.e.toNat (by omega) (by omega))
 split
 ·rename_i hq0
  have hf:=hx.f hq0
  exact z646 h1 (hs.eg x.q.toNat x.f.toNat (by omega) (by omega))
 ·exact h1
theorem z728 (st:State) (i:Nat) (e:Edge):(z188 st i e).a.length=st.a.length∧(z188 st i e).b.length=st.b.length:=by
 unfold z188
 constructor
 ·simp
 ·dsimp only;split<;>simp
set_option maxHeartbeats 3200000 in
theorem z1027 (s:Sys) (hs:s.ok) (st:State) (h:st.ok s) (x:Stp) (hx:x.ok s):CallsA Tryz.prog 186 [.agg s.cs,.agg st.cs,.agg x.cs] [] (.agg (z244 s st x).cs) []:=by
 have hn3:=hs.n3
 have ha:=h.a
 have hb:=h.b.1
 obtain ⟨p,e,q,f⟩:=x
 obtain ⟨hp,he,hq,hf⟩:=hx
 simp only at hp he hq hf
 obtain ⟨pi,rfl,hpi⟩:=z946 hp.1 hp.2
 simp only [y77] at he
 obtain ⟨ei,rfl,hei⟩:=z946 he.1 he.2
 have gp:=y14 hpi
 have ge:=y11 hei
 have hE:=hs.eg pi ei hpi hei
 have hP6:=hs.ne pi hpi
 have c1:=z773 st ((s.pr pi).eg ei) _ hE pi (by omega) (by omega) h.b
 have h1:=z646 (i:=pi) h hE
 have hl1:=z728 st pi ((s.pr pi).eg ei)
 rw [show st.a.length=0+st.a.length by omega,show st.b.length=0+st.b.length by omega] at c1
 by_cases hq0:0≤q
 ·have hf:=hf hq0
  obtain ⟨qi,rfl,hqi⟩:=z946 hq0 hq.2
  simp only [y77] at hf
  obtain ⟨fi,rfl,hfi⟩:=z946 hf.1 hf.2
  have gq:=y14 hqi
  have gf:=y11 hfi
  have hF:=hs.eg qi fi hqi hfi
  have hQ6:=hs.ne qi hqi
  have e0:z244 s st ⟨pi,ei,qi,fi⟩=z188 (z188 st pi ((s.pr pi).eg ei)) qi ((s.pr qi).eg fi):=by unfold z244;rw [if_pos hq0];rfl
  have c2:=z773 (z188 st pi ((s.pr pi).eg ei)) ((s.pr qi).eg fi) _ hF qi (by omega) (by omega) h1.b
  have hl2:=z728 (z188 st pi ((s.pr pi).eg ei)) qi ((s.pr qi).eg fi)
  rw [hl1.1,hl1.2,show st.a.length=0+st.a.length by omega,show st.b.length=0+st.b.length by omega] at c2
  rw [e0]
  generalize z188 (z188 st pi ((s.pr pi).eg ei)) qi ((s.pr qi).eg fi)=s2 at *
  generalize z188 st pi ((s.pr pi).eg ei)=s1 at *
  generalize (s.pr pi).eg ei=ed at *
  generalize (s.pr qi).eg fi=fd at *
  generalize s.pr pi=pp at *
  generalize s.pr qi=qq at *
  refine z7 z16 Tryz.func186 rfl rfl 51 Tryz.ntmps186 (by simp) ?_
  repeat' ((first|(apply y4 ok;rfl)|(apply z22;kernel_rfl)|(refine z12 (i:=pi) rfl gp ?_)|(refine z12 (i:=ei) rfl ge ?_)|(refine z12 (i:=qi) rfl gq ?_)|(refine z12 (i:=fi) rfl gf ?_)|(apply y43;first|omega|(dsimp only;omega)|exact z66 (fun _=>rfl))|((first|(apply z115 [5,7] [] c1;rfl;(focus ((repeat' first|exact z32|apply z45)<;>(refine z59 rfl ?_;((exact z5 fun _=>rfl))))))|(apply z115 [5,7] [] c2;rfl;(focus ((repeat' first|exact z32|apply z45)<;>(refine z59 rfl ?_;((exact z5 fun _=>rfl)))))));rfl;(focus ((repeat' first|exact z17|apply z14)<;>(refine z19 ?_;((exact z5 fun _=>rfl)))))))<;>conv=>whnf)
  all_goals (refine rsD [] [5,7] rfl ?_;(repeat' first|(refine z292 ?_;omega)|((apply z41 rfl rfl rfl);(focus ((repeat ((exact z34 (fun _=>rfl) _)));done));(focus (((simp;omega));done)))|apply z38|constructor))
 ·have e0:z244 s st ⟨pi,ei,q,f⟩=z188 st pi ((s.pr pi).eg ei):=by unfold z244;rw [if_neg hq0];rfl
  rw [e0]
  generalize z188 st pi ((s.pr pi).eg ei)=s1 at *
  generalize (s.pr pi).eg ei=ed at *
  generalize s.pr pi=pp at *
  refine z7 z16 Tryz.func186 rfl rfl 51 Tryz.ntmps186 (by simp) ?_
  repeat' ((first|(apply y4 ok;rfl)|(apply z22;kernel_rfl)|(refine z12 (i:=pi) rfl gp ?_)|(refine z12 (i:=ei) rfl ge ?_)|(apply y43;first|omega|(dsimp only;omega)|exact z66 (fun _=>rfl))|((apply z6)<;>intro _)|(apply z115 [5,7] [] c1;rfl;(focus ((repeat' first|exact z32|apply z45)<;>(refine z59 rfl ?_;((exact z5 fun _=>rfl)))));rfl;(focus ((repeat' first|exact z17|apply z14)<;>(refine z19 ?_;((exact z5 fun _=>rfl)))))))<;>conv=>whnf)
  all_goals first|(exfalso;apply hq0;assumption)|skip
  all_goals (refine rsD [] [5,7] rfl ?_;(repeat' first|(refine z292 ?_;omega)|((apply z41 rfl rfl rfl);(focus ((repeat ((exact z34 (fun _=>rfl) _)));done));(focus (((simp;omega));done)))|apply z38|constructor))
theorem z734 (a b:State) (ha:a.sm) (hb:b.sm):CallsA Tryz.prog 252 [.agg a.cs,.agg b.cs] [] (.bool (decide (a=b))) []:=by
 have h1:=ha.a
 have h2:=ha.b
 have h3:=hb.a
 have h4:=hb.b
 have c1:=z536 a.a b.a (by unfold maxLen;omega) (by unfold maxLen;omega)
 have c2:=z536 a.b b.b (by unfold maxLen;omega) (by unfold maxLen;omega)
 obtain ⟨a1,a2⟩:=a
 obtain ⟨b1,b2⟩:=b
 simp only at *
 have e:decide ((⟨a1,a2⟩:State)=⟨b1,b2⟩)=(decide (a1=b1) && decide (a2=b2)):=by
  by_cases h:a1=b1<;>by_cases k:a2=b2<;>simp [h,k]
 rw [e]
 generalize decide (a1=b1)=p at *
 generalize decide (a2=b2)=q at *
 refine z13 z16 Tryz.func252 rfl rfl 17 Tryz.ntmps252 (by simp) ?_
 cases p
 all_goals
  repeat' ((first|(apply y4 ok;rfl)|(apply z4 (c1);rfl;rfl)|(apply z4 (c2);rfl;rfl))<;>conv=>whnf)
  all_goals exact z28 rfl rfl
def z334 (t:State):List State→Int→Int
 |[],_=>-1
 |x::r,k=>if x=t then k else z334 t r (k+1)
theorem z888 (t:State):∀ (l:List State) (k:Int),0≤k→-1≤z334 t l k∧z334 t l k < k+l.length:=by
 intro l
 induction l with
 |nil=>intro k h;simp only [z334,y59];omega
 |cons x l ih =>
  intro k h
  simp only [z334,y58]
  split
  ·omega
  ·have:=ih (k+1) (by omega);omega
theorem z1039 (t:State) (l:List State) (k:Nat) (h:k < l.length):z334 t (l.drop k) k=if l[k]=t then (k:Int) else z334 t (l.drop (k+1)) ((k+1:Nat):Int):=by
 rw [y80 h,z334];rfl
theorem z1168 (l:List State) (t:State) (hl:l.length≤1000) (hs:∀ s∈l,s.sm) (ht:t.sm):CallsA Tryz.prog 187 [lst 2 State.cs l,.agg t.cs] [] (.int (z334 t l 0)) []:=by
 refine z13 z16 Tryz.func187 rfl rfl 19 Tryz.ntmps187 (by simp) ?_
 repeat' (((apply y4 ok;rfl))<;>conv=>whnf)
 refine z110 (fun k:Nat=>([(0,lst 2 State.cs l),(3,.ptr 0 none 0),(5,.int k)],[.cells 2 [t.cs]])) (fun k=>k≤l.length∧z334 t l 0=z334 t (l.drop k) k) (fun k=>l.length - k) 0 ⟨by omega,rfl⟩ ⟨[0],rfl,by decide,rfl,by repeat' (first|exact True.intro|exact ⟨rfl,rfl⟩|apply y43),by repeat' (first|exact True.intro|exact z24 rfl rfl|apply y43)⟩ ?_
 intro k hk
 by_cases hkl:k < l.length
 ·have c:=z734 l[k] t (hs _ (y44 _)) ht
  have e:=z1039 t l k hkl
  rw [e] at hk
  have g0:(l.map State.cs)[k]?=some (State.cs l[k]):=by rw [y51,y45 hkl];rfl
  by_cases hx:l[k]=t
  ·rw [if_pos hx] at hk
   rw [y82 hx] at c
   generalize l[k]=x at *
   repeat' ((first|(apply y4 ok;rfl)|(apply z22;kernel_rfl)|(refine z12 (i:=k) rfl g0 ?_)|(apply y43;omega)|((apply z6)<;>intro _)|(apply z4 (c);rfl;rfl))<;>conv=>whnf)
   all_goals first|(exfalso;omega)|exact z517 rfl hk.2
  ·rw [if_neg hx] at hk
   rw [y83 hx] at c
   generalize l[k]=x at *
   repeat' ((first|(apply y4 ok;rfl)|(apply z22;kernel_rfl)|(refine z12 (i:=k) rfl g0 ?_)|(apply y43;first|omega|(unfold inI;omega))|((apply z6)<;>intro _)|(apply z4 (c);rfl;rfl))<;>conv=>whnf)
   all_goals try (exfalso;omega)
   exact z98 (k+1) [0] ⟨by omega,hk.2⟩ (by omega) ⟨rfl,by decide,rfl,by repeat' (first|exact True.intro|exact ⟨rfl,rfl⟩|apply y43),by repeat' (first|exact True.intro|exact z24 rfl rfl|apply y43)⟩
 ·have e:l.drop k=[]:=y84 (by omega)
  rw [e] at hk
  repeat' ((first|(apply y4 ok;rfl)|(apply y43;omega)|(((with_reducible apply z11;omega));intro _)|((apply z6)<;>intro _))<;>conv=>whnf)
  all_goals first|(exfalso;omega)|exact z517 rfl hk.2
end Go.Proofs.YtjhgpfaodkchjaaGreat
namespace Go.Proofs.YtjhgpfaodkchjaaGreat
open Go.Gl
attribute [local irreducible] z18 AWP z30 z37 z33 RetS z44
open Classical in
noncomputable def inn (s:Sys) (st0:State):List Stp→List State→List Int→Option (List State×List Int)
 |[],S,N=>some (S,N)
 |x::r,S,N =>
  if z334 (z244 s st0 x) S 0 < 0 then
   (if 60≤(S.length:Int) then none else inn s st0 r (S++[z244 s st0 x]) (if (S.length:Int)∈N then N else N++[(S.length:Int)]))
  else
   (if 60≤z334 (z244 s st0 x) S 0 then none else inn s st0 r S (if z334 (z244 s st0 x) S 0∈N then N else N++[z334 (z244 s st0 x) S 0]))
open Classical in
noncomputable def z746 (L:List Stp) (N:List Int) (i:Nat):List Int:=if L=[] then N++[(i:Int)] else N
noncomputable def grow (s:Sys):Nat→List State→List (List Int)→Nat→Option Graph
 |0,_,_,_=>none
 |f+1,S,G,i=>match S[i]? with
  |none=>some ⟨S,G⟩
  |some st0=>match inn s st0 (z572 s st0) S [] with
   |none=>none
   |some (S',N)=>grow s f S' (G++[z746 (z572 s st0) N i]) (i+1)
theorem State.ok.sm {s:Sys} (hs:s.ok) {st:State} (h:st.ok s):st.sm:=⟨by have:=h.a;have:=hs.n3;omega,by have:=h.b.1;omega⟩
theorem z733 {s:Sys} (hs:s.ok) {st:State} : (z572 s st).length≤324:=by
 have h3:=hs.n3
 have:=z706 (n:=s.ps.length) (c:=108) (f:=fun j=>cat (s.pr j).es.length (z460 s st j)) (fun j hj=>by
  have h6:=hs.ne j hj
  have:=z706 (n:=(s.pr j).es.length) (c:=18) (f:=z460 s st j) (fun m _=>by
   unfold z460
   split
   ·simp
   split
   ·simp
   ·exact z749 hs)
  omega)
 unfold z572
 omega
structure GInv (s:Sys) (S:List State) (G:List (List Int)) (i:Nat):Prop where
 le:i≤S.length
 n:S.length≤60
 one:1≤S.length
 g:G.length=i
 st:∀ t∈S,t.ok s
 row:∀ r∈G,r.length≤400
theorem inn_inv {s:Sys} (hs:s.ok) {st0:State} (h0:st0.ok s):∀ (L:List Stp),(∀ x∈L,x.ok s)→∀ (S:List State) (N:List Int) (S' : List State) (N' : List Int),S.length≤60→(∀ t∈S,t.ok s)→inn s st0 L S N=some (S',N')→S'.length≤60∧S.length≤S'.length∧(∀ t∈S',t.ok s)∧N'.length≤N.length+L.length∧∀ i,i < S.length→S'[i]?=S[i]?:=by
 intro L
 induction L with
 |nil =>
  intro _ S N S' N' h1 h2 h3
  simp only [inn,Option.some.injEq,Prod.mk.injEq] at h3
  obtain ⟨rfl,rfl⟩:=h3
  exact ⟨h1,y52 _,h2,by simp,fun _ _=>rfl⟩
 |cons x L ih =>
  intro hx S N S' N' h1 h2 h3
  have hxo:=z810 hs h0 (hx x (by simp))
  have ih:=ih fun y hy=>hx y (by simp [hy])
  simp only [inn] at h3
  split at h3
  ·split at h3
   ·cases h3
   ·obtain ⟨a1,a2,a3,a4,a5⟩:=ih _ _ S' N' (by simp;omega) (fun t ht=>by
     rcases List.mem_append.1 ht with h|h
     ·exact h2 t h
     ·rw [List.mem_singleton.1 h];exact hxo) h3
    refine ⟨a1,by simp at a2;omega,a3,?_,fun i hi=>by rw [a5 i (by simp;omega),y66 hi]⟩
    simp only [y58]
    split at a4<;>(try simp at a4)<;>omega
  ·split at h3
   ·cases h3
   ·obtain ⟨a1,a2,a3,a4,a5⟩:=ih _ _ S' N' h1 h2 h3
    refine ⟨a1,a2,a3,?_,a5⟩
    simp only [y58]
    split at a4<;>(try simp at a4)<;>omega
theorem grow_inv {s:Sys} (hs:s.ok):∀ (f:Nat) (S:List State) (G:List (List Int)) (i:Nat) (g:Graph),GInv s S G i→grow s f S G i=some g→GInv s g.st g.nx g.st.length:=by
 intro f
 induction f with
 |zero=>intro S G i g _ h;simp [grow] at h
 |succ f ih =>
  intro S G i g hI h
  simp only [grow] at h
  split at h
  ·rename_i hn
   simp only [Option.some.injEq] at h
   subst h
   have:S.length≤i:=List.getElem?_eq_none_iff.1 hn
   have e:i=S.length:=by have:=hI.le;omega
   subst e
   exact hI
  ·rename_i st0 hst
   have hil:=(List.getElem?_eq_some_iff.1 hst).1
   have h0:=hI.st st0 (List.mem_of_getElem? hst)
   split at h
   ·cases h
   ·rename_i S' N hin
    obtain ⟨a1,a2,a3,a4,a5⟩:=inn_inv hs h0 _ (fun x hx=>z932 x hx) _ _ _ _ hI.n hI.st hin
    have hl:=z733 hs (st:=st0)
    refine ih _ _ _ _ ⟨by omega,a1,by have:=hI.one;omega,by simp [hI.g],a3,fun r hr=>?_⟩ h
    rcases List.mem_append.1 hr with h|h
    ·exact hI.row r h
    ·rw [List.mem_singleton.1 h]
     unfold z746
     simp only [y59] at a4
     split<;>(try simp)<;>omega
end Go.Proofs.YtjhgpfaodkchjaaGreat
namespace Go.Proofs.YtjhgpfaodkchjaaGreat
open Go.Gl
attribute [local irreducible] z18 AWP z30 z37 z33 RetS z44
noncomputable def z347 (s:Sys):Option Graph:=if sysB s=true then grow s 61 [⟨List.replicate s.ps.length 0,s.init⟩] [] 0 else none
theorem z634 {q:Bool} : LocLe (.tup [.agg [.nils,.nils],.bool q]) (.tup [.agg (⟨[],[]⟩:Graph).cs,.bool q]):=z80 (.cons (z38 (.cons z36 (.cons z36 .nil))) (.cons (y86 _) .nil))
theorem z440 {objs:Nat→AObj} {π Bn:List Nat} {o:Nat} {l:List State} (ho:objs o=.cells 2 (l.map State.cs)) (h1:idx π o=none) (h2:inB Bn o=true):bor objs π Bn (.sref o 0 l.length)=lst 2 State.cs l :=
 z158 ho h1 h2 (by simp) (z34 (fun _=>rfl) _)
set_option maxHeartbeats 6400000 in
theorem z707 (s:Sys) (hsm:s.s1):CallsA Tryz.prog 108 [.agg s.cs] [] (.tup [.agg ((z347 s).getD ⟨[],[]⟩).cs,.bool (z347 s).isSome]) []:=by
 have c0:=z778 s hsm
 by_cases hv:sysB s=true
 ·have hs:=Sys.ok_of hv
  have hn3:=hs.n3
  have eb:z347 s=grow s 61 [⟨List.replicate s.ps.length 0,s.init⟩] [] 0:=by unfold z347;rw [if_pos hv]
  rw [if_pos hv,hv] at c0
  have hI0:GInv s [⟨List.replicate s.ps.length 0,s.init⟩] [] 0:=⟨by simp,by simp,by simp,rfl,fun t ht=>by
   rw [List.mem_singleton.1 ht]
   exact ⟨by simp,hs.init⟩,by simp⟩
  rw [eb]
  generalize (⟨List.replicate s.ps.length 0,s.init⟩:State)=st1 at *
  generalize hR:grow s 61 [st1] [] 0=R at *
  refine z7 z16 Tryz.func108 rfl rfl 96 Tryz.ntmps108 (by simp) ?_
  repeat' ((first|(apply y4 ok;rfl)|(apply z4 (c0);rfl;rfl))<;>conv=>whnf)
  refine y85 (y88 1 rfl) ?_
  refine z63 (fun x:Nat×List State×List (List Int)=>([(1,.ptr 0 none 0),(2,.ptr 1 none 0),(6,.ptr 2 none 0),(7,.int x.1)],[.cells 2 [s.cs],.cells 2 [[.nils,.nils]],.cells 2 [[.sref 3 0 x.2.1.length,.sref 4 0 x.2.2.length]],.cells 2 (x.2.1.map State.cs),.cells 1 (x.2.2.map encL)])) (fun x=>GInv s x.2.1 x.2.2 x.1∧grow s (61 - x.1) x.2.1 x.2.2 x.1=R) (fun x=>61 - x.1) (0,[st1],[]) ⟨hI0,hR⟩ (by refine swR [0,1,4,3,5] [] rfl rfl ?_;(repeat' first|exact y86 _|exact z48|apply y87|refine z8 rfl (z23) ?_|constructor)) ?_
  rintro ⟨i,S,G⟩ ⟨hI,hg⟩
  simp only at hI hg
  have hS60:=hI.n
  have hGi:=hI.g
  have hile:=hI.le
  by_cases hil:i < S.length
  ·obtain ⟨st0,hst⟩:∃ st0,S[i]?=some st0:=⟨S[i],y45 hil⟩
   have h0:=hI.st st0 (List.mem_of_getElem? hst)
   rw [show 61 - i=(60 - i)+1 by omega,grow,hst] at hg
   dsimp only at hg
   have cS:=z1026 s hs st0 h0
   have hLl:=z733 hs (st:=st0)
   have hLo:∀ x∈z572 s st0,x.ok s:=fun x hx=>z932 x hx
   have gS:(S.map State.cs)[i]?=some (State.cs st0):=by rw [y51,hst];rfl
   generalize z572 s st0=LST at *
   generalize hRIN:inn s st0 LST S []=RIN at *
   repeat' ((first|(apply y4 ok;rfl)|(apply z22;kernel_rfl)|(refine z12 (i:=i) rfl gS ?_)|(apply y43;omega)|((apply z6)<;>intro _)|(apply z4 (cS);rfl;rfl))<;>conv=>whnf)
   all_goals first|(exfalso;dsimp only at *;omega)|skip
   refine z63 (fun x:Nat×List State×List Int=>([(1,.ptr 0 none 0),(2,.ptr 1 none 0),(6,.ptr 2 none 0),(7,.int i),(8,lst 4 Stp.cs LST),(9,.sref 5 0 x.2.2.length),(10,.int x.1)],[.cells 2 [s.cs],.cells 2 [[.nils,.nils]],.cells 2 [[.sref 3 0 x.2.1.length,.sref 4 0 G.length]],.cells 2 (x.2.1.map State.cs),.cells 1 (G.map encL),.cells 1 (x.2.2.map enI)])) (fun x=>x.1≤LST.length∧x.2.1.length≤60∧(∀ t∈x.2.1,t.ok s)∧x.2.1[i]?=some st0∧x.2.2.length≤x.1∧inn s st0 (LST.drop x.1) x.2.1 x.2.2=RIN) (fun x=>LST.length - x.1) (0,S,[]) ⟨by simp,hS60,hI.st,hst,by simp,hRIN⟩ (by refine swR [0,1,2,3,4,5] [] rfl rfl ?_;(repeat' first|exact y86 _|exact z9 _|apply y87|((refine z8 rfl ?_ ?_);(focus ((repeat' (first|exact z23|exact z5 (fun _=>rfl)));done)))|constructor)) ?_
   rintro ⟨k,S',N⟩ ⟨hk,hS',hSo,hSi,hN,hin⟩
   simp only at hk hS' hSo hSi hN hin
   by_cases hkl:k < LST.length
   ·rw [y80 hkl,inn] at hin
    have hx:=hLo LST[k] (y44 _)
    have g1:(LST.map Stp.cs)[k]?=some (Stp.cs LST[k]):=by rw [y51,y45 hkl];rfl
    have c83:=z1027 s hs st0 h0 LST[k] hx
    have hto:=z810 hs h0 hx
    have g0:(S'.map State.cs)[i]?=some (State.cs st0):=by rw [y51,hSi];rfl
    have hiS:i < S'.length:=(List.getElem?_eq_some_iff.1 hSi).1
    generalize z244 s st0 LST[k]=to at *
    have c84:=z1168 S' to (by omega) (fun t ht=>(hSo t ht).sm hs) (hto.sm hs)
    have hfr:=z888 to S' 0 (by omega)
    generalize z334 to S' 0=n at *
    generalize LST[k]=x at *
    have cN:=fun v=>z680 N (by unfold maxLen;omega) v
    by_cases hn:n < 0
    ·rw [if_pos hn] at hin
     by_cases h60:60≤(S'.length:Int)
     ·rw [if_pos h60] at hin
      subst hin
      dsimp only at hg
      subst hg
      repeat' ((first|(apply y4 ok;rfl)|(apply z22;kernel_rfl)|(refine z12 (i:=i) rfl g0 ?_)|(refine z12 (i:=k) rfl g1 ?_)|(apply y43;first|omega|(dsimp only;omega)|((try dsimp only);simp only [y49,y48,y47,y46,y58,y59];omega)|exact ⟨rfl,z20 rfl z27⟩)|((apply z6)<;>intro _)|(apply z4 (c83);rfl;rfl)|(apply z96 [] [3] [] c84;(focus (exact z42 (z440 rfl rfl rfl) (z42 rfl z69)));rfl;rfl;(focus ((repeat' exact z17)<;>fail));((refine .inr ⟨rfl,?_⟩;repeat' exact True.intro))))<;>conv=>whnf)
      all_goals first|(exfalso;omega)|(exfalso;dsimp only at *;omega)|skip
      all_goals refine y13 [] [] rfl rfl rfl ?_
      all_goals exact y12 z634 .nil
     ·rw [if_neg h60] at hin
      have cM:=cN S'.length
      by_cases hm:(S'.length:Int)∈N
      ·rw [if_pos hm] at hin
       rw [y82 hm] at cM
       repeat' ((first|(apply y4 ok;rfl)|(apply z22;kernel_rfl)|(refine z12 (i:=i) rfl g0 ?_)|(refine z12 (i:=k) rfl g1 ?_)|(apply y43;first|omega|(unfold inI;omega)|(dsimp only;omega)|((try dsimp only);simp only [y49,y48,y47,y46,y58,y59];omega)|exact ⟨rfl,z20 rfl z27⟩)|((apply z6)<;>intro _)|(apply z4 (c83);rfl;rfl)|((first|(apply z96 [] [3] [] c84;(focus (exact z42 (z440 rfl rfl rfl) (z42 rfl z69)));rfl)|(apply z96 [] [5] [] cM;(focus ((repeat' first|exact z69|apply z42)<;>first|exact z108 rfl rfl rfl|rfl));rfl));rfl;(focus ((repeat' exact z17)<;>fail));((refine .inr ⟨rfl,?_⟩;repeat' exact True.intro))))<;>conv=>whnf)
       all_goals first|(exfalso;omega)|(exfalso;contradiction)|skip
       all_goals refine z25 (k+1,S'++[to],N) ⟨by omega,by simp;omega,fun t ht=>by rcases List.mem_append.1 ht with h|h;exact hSo t h;rw [List.mem_singleton.1 h];exact hto,by rw [← hSi];exact y66 hiS,by show N.length≤k+1;omega,hin⟩ (by show LST.length - (k+1) < LST.length - k;omega) (by refine swR [0,1,2,8,4,5] [] rfl rfl ?_;(repeat' first|exact y86 _|exact z9 _|(refine z52 ?_;((simp;done)))|apply y87|((first|refine z35 rfl ?_ ?_|refine z8 rfl ?_ ?_);(focus ((repeat' (first|exact z5 (fun _=>rfl)|apply z21));done)))|(refine z78 ?_ ?_;(focus (omega)))|constructor))
      ·rw [if_neg hm] at hin
       rw [y83 hm] at cM
       repeat' ((first|(apply y4 ok;rfl)|(apply z22;kernel_rfl)|(refine z12 (i:=i) rfl g0 ?_)|(refine z12 (i:=k) rfl g1 ?_)|(apply y43;first|omega|(unfold inI;omega)|(dsimp only;omega)|((try dsimp only);simp only [y49,y48,y47,y46,y58,y59];omega)|exact ⟨rfl,z20 rfl z27⟩)|((apply z6)<;>intro _)|(apply z4 (c83);rfl;rfl)|((first|(apply z96 [] [3] [] c84;(focus (exact z42 (z440 rfl rfl rfl) (z42 rfl z69)));rfl)|(apply z96 [] [5] [] cM;(focus ((repeat' first|exact z69|apply z42)<;>first|exact z108 rfl rfl rfl|rfl));rfl));rfl;(focus ((repeat' exact z17)<;>fail));((refine .inr ⟨rfl,?_⟩;repeat' exact True.intro))))<;>conv=>whnf)
       all_goals first|(exfalso;omega)|(exfalso;contradiction)|skip
       all_goals refine z25 (k+1,S'++[to],N++[(S'.length:Int)]) ⟨by omega,by simp;omega,fun t ht=>by rcases List.mem_append.1 ht with h|h;exact hSo t h;rw [List.mem_singleton.1 h];exact hto,by rw [← hSi];exact y66 hiS,by simp;omega,hin⟩ (by show LST.length - (k+1) < LST.length - k;omega) (by refine swR [0,1,2,8,4,10] [] rfl rfl ?_;(repeat' first|exact y86 _|exact z9 _|(refine z52 ?_;((simp;done)))|apply y87|((first|refine z35 rfl ?_ ?_|refine z8 rfl ?_ ?_);(focus ((repeat' (first|exact z5 (fun _=>rfl)|apply z21));done)))|(refine z78 ?_ ?_;(focus (omega)))|constructor))
    ·rw [if_neg hn] at hin
     by_cases h60:60≤n
     ·rw [if_pos h60] at hin
      subst hin
      dsimp only at hg
      subst hg
      repeat' ((first|(apply y4 ok;rfl)|(apply z22;kernel_rfl)|(refine z12 (i:=i) rfl g0 ?_)|(refine z12 (i:=k) rfl g1 ?_)|(apply y43;omega)|((apply z6)<;>intro _)|(apply z4 (c83);rfl;rfl)|(apply z96 [] [3] [] c84;(focus (exact z42 (z440 rfl rfl rfl) (z42 rfl z69)));rfl;rfl;(focus ((repeat' exact z17)<;>fail));((refine .inr ⟨rfl,?_⟩;repeat' exact True.intro))))<;>conv=>whnf)
      all_goals (exfalso;omega)
      all_goals refine y13 [] [] rfl rfl rfl ?_
      all_goals exact y12 z634 .nil
     ·rw [if_neg h60] at hin
      have cM:=cN n
      by_cases hm:n∈N
      ·rw [if_pos hm] at hin
       rw [y82 hm] at cM
       repeat' ((first|(apply y4 ok;rfl)|(apply z22;kernel_rfl)|(refine z12 (i:=i) rfl g0 ?_)|(refine z12 (i:=k) rfl g1 ?_)|(apply y43;first|omega|(unfold inI;omega)|(dsimp only;omega))|((apply z6)<;>intro _)|(apply z4 (c83);rfl;rfl)|((first|(apply z96 [] [3] [] c84;(focus (exact z42 (z440 rfl rfl rfl) (z42 rfl z69)));rfl)|(apply z96 [] [5] [] cM;(focus ((repeat' first|exact z69|apply z42)<;>first|exact z108 rfl rfl rfl|rfl));rfl));rfl;(focus ((repeat' exact z17)<;>fail));((refine .inr ⟨rfl,?_⟩;repeat' exact True.intro))))<;>conv=>whnf)
       all_goals try (exfalso;omega)
       all_goals refine z25 (k+1,S',N) ⟨by omega,hS',hSo,hSi,by show N.length≤k+1;omega,hin⟩ (by show LST.length - (k+1) < LST.length - k;omega) (by refine swR [0,1,2,3,4,5] [] rfl rfl ?_;(repeat' first|exact y86 _|exact z9 _|apply y87|refine z8 rfl (z5 (fun _=>rfl)) ?_|constructor))
      ·rw [if_neg hm] at hin
       rw [y83 hm] at cM
       repeat' ((first|(apply y4 ok;rfl)|(apply z22;kernel_rfl)|(refine z12 (i:=i) rfl g0 ?_)|(refine z12 (i:=k) rfl g1 ?_)|(apply y43;first|omega|(unfold inI;omega)|(dsimp only;omega)|((try dsimp only);simp only [y49,y48,y47,y46,y58,y59];omega)|exact ⟨rfl,z20 rfl z27⟩)|((apply z6)<;>intro _)|(apply z4 (c83);rfl;rfl)|((first|(apply z96 [] [3] [] c84;(focus (exact z42 (z440 rfl rfl rfl) (z42 rfl z69)));rfl)|(apply z96 [] [5] [] cM;(focus ((repeat' first|exact z69|apply z42)<;>first|exact z108 rfl rfl rfl|rfl));rfl));rfl;(focus ((repeat' exact z17)<;>fail));((refine .inr ⟨rfl,?_⟩;repeat' exact True.intro))))<;>conv=>whnf)
       all_goals try (exfalso;omega)
       all_goals refine z25 (k+1,S',N++[n]) ⟨by omega,hS',hSo,hSi,by simp;omega,hin⟩ (by show LST.length - (k+1) < LST.length - k;omega) (by refine swR [0,1,2,3,4,8] [] rfl rfl ?_;(repeat' first|exact y86 _|exact z9 _|(refine z52 ?_;((simp;done)))|apply y87|((first|refine z35 rfl ?_ ?_|refine z8 rfl ?_ ?_);(focus ((repeat' (first|exact z5 (fun _=>rfl)|apply z21));done)))|(refine z78 ?_ ?_;(focus (omega)))|constructor))
   ·rw [y84 (by omega),inn] at hin
    subst hin
    dsimp only at hg
    have hiS:i < S'.length:=(List.getElem?_eq_some_iff.1 hSi).1
    have hnext:GInv s S' (G++[z746 LST N i]) (i+1):=⟨by omega,hS',by omega,by simp [hGi],hSo,fun r hr=>by
     rcases List.mem_append.1 hr with h|h
     ·exact hI.row r h
     ·rw [List.mem_singleton.1 h]
      unfold z746
      split<;>(try simp)<;>omega⟩
    rw [show 60 - i=61 - (i+1) by omega] at hg
    by_cases hz:LST=[]
    ·have er:z746 LST N i=N++[(i:Int)]:=by unfold z746;rw [if_pos hz]
     have hz0:LST.length=0:=by rw [hz];rfl
     rw [er] at hg hnext
     repeat' ((first|(apply y4 ok;rfl)|(apply y43;first|omega|(unfold inI;omega)|(dsimp only;omega)|((try dsimp only);simp only [y49,y48,y47,y46,y58,y59];omega)|exact ⟨rfl,z20 rfl z27⟩)|((first|(with_reducible apply z11;omega)|(apply z11;omega));intro _)|((apply z6)<;>intro _))<;>conv=>whnf)
     all_goals try (exfalso;omega)
     all_goals refine z25 (i+1,S',G++[N++[(i:Int)]]) ⟨hnext,hg⟩ (by show 61 - (i+1) < 61 - i;omega) (by refine swR [0,1,2,3,9] [7] rfl rfl ?_;(repeat' first|exact y86 _|exact z9 _|(refine z52 ?_;((simp;done)))|apply y87|((first|refine z35 rfl ?_ ?_|refine z8 rfl ?_ ?_);(focus ((repeat' (first|exact z5 (fun _=>rfl)|apply z21));done)))|(refine z78 ?_ ?_;(focus (omega)))|((apply z85 rfl rfl rfl);(focus ((repeat (first|exact z34 (fun _=>rfl) _|apply z175|apply z248|rfl));done));(focus (((simp;done));done)))|(refine z73 ?_ ?_;(focus (simp;done)))|constructor))
    ·have er:z746 LST N i=N:=by unfold z746;rw [if_neg hz]
     have hz0:LST.length≠0:=fun h=>hz (y74 h)
     rw [er] at hg hnext
     repeat' ((first|(apply y4 ok;rfl)|(apply y43;first|omega|(unfold inI;omega)|((try dsimp only);simp only [y49,y48,y47,y46,y58,y59];omega)|exact ⟨rfl,z20 rfl z27⟩)|((first|(with_reducible apply z11;omega)|(apply z11;omega));intro _)|((apply z6)<;>intro _))<;>conv=>whnf)
     all_goals try (exfalso;omega)
     all_goals refine z25 (i+1,S',G++[N]) ⟨hnext,hg⟩ (by show 61 - (i+1) < 61 - i;omega) (by refine swR [0,1,2,3,7] [5] rfl rfl ?_;(repeat' first|exact y86 _|exact z9 _|(refine z52 ?_;((simp;done)))|apply y87|((first|refine z35 rfl ?_ ?_|refine z8 rfl ?_ ?_);(focus ((repeat' (first|exact z5 (fun _=>rfl)|apply z21));done)))|(refine z78 ?_ ?_;(focus (omega)))|((apply z85 rfl rfl rfl);(focus ((repeat ((exact z34 (fun _=>rfl) _)));done));(focus (((simp;done));done)))|constructor))
  ·have hn:S[i]?=none:=List.getElem?_eq_none_iff.2 (by omega)
   rw [show 61 - i=(60 - i)+1 by omega,grow,hn] at hg
   dsimp only at hg
   subst hg
   repeat' ((first|(apply y4 ok;rfl)|(apply y43;omega)|(((apply z11;omega));intro _)|((apply z6)<;>intro _))<;>conv=>whnf)
   all_goals first|(exfalso;contradiction)|skip
   all_goals (refine rsD [] [3,4] rfl ?_;(repeat' first|exact y86 _|((apply z41 rfl rfl rfl);(focus ((repeat ((exact z34 (fun _=>rfl) _)));done));(focus (((simp;done));done)))|apply z38|apply z80|constructor))
 ·have eb:z347 s=none:=by unfold z347;rw [if_neg hv]
  rw [if_neg hv,(y72 _).mp hv] at c0
  rw [eb]
  refine z7 z16 Tryz.func108 rfl rfl 96 Tryz.ntmps108 (by simp) ?_
  repeat' ((first|(apply y4 ok;rfl)|(apply z4 (c0);rfl;rfl))<;>conv=>whnf)
  all_goals refine y13 [] [] rfl rfl rfl ?_
  all_goals exact y12 z634 .nil
end Go.Proofs.YtjhgpfaodkchjaaGreat
