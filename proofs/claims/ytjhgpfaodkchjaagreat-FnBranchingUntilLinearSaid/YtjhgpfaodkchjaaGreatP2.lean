/- A part of the proofs over this program: T83, T84, T85, T86, T87, T88, T89, T90, T91, T92. -/
import Derived.Test.YtjhgpfaodkchjaaGreatG0
import Derived.Test.YtjhgpfaodkchjaaGreatG1
import Derived.Test.YtjhgpfaodkchjaaGreatG2
import Derived.Test.YtjhgpfaodkchjaaGreatG3
import Derived.Test.YtjhgpfaodkchjaaGreatP0
import Derived.Test.YtjhgpfaodkchjaaGreatP1
set_option linter.all false
namespace Go.Proofs.YtjhgpfaodkchjaaGreat
open Go.Gl
attribute [local irreducible] z19 AWP z25 z31 z28 RetS z38
set_option maxHeartbeats 3200000 in
theorem z840 (bs:List Int) (hb:BytesOk bs) (p:Int) (hp:few p) (g:Graph) (hg:g.sm) (h1:1≤g.st.length) (h2:g.nx.length=g.st.length):∃ (g' : Graph) (p' : Int),(g'.st.length≤100∧g'.nx.length≤101∧(∀ s∈g'.st,s.sm)∧(∀ r∈g'.nx,r.length≤1001)∧p≤p'∧p'≤p+3)∧CallsA Tryz.prog 44 [.ptr 0 none 0,.agg g.cs] [rdO bs p] (.agg g'.cs) [rdO bs p']:=by
 have hst:=hg.st
 have hnx:=hg.nx
 have cc:=z973 g hg
 obtain ⟨k,⟨k0,k1⟩,ck⟩:=z70 bs hb p g.st.length (by omega) (by omega) (by omega)
 obtain ⟨v,⟨v0,v1⟩,cv⟩:=z70 bs hb (p+1) 50 (by omega) (by omega) (by omega)
 have hks:k.toNat < g.st.length:=by omega
 have hkn:k.toNat < g.nx.length:=by omega
 have hrows:∀ r∈g.nx,r.length≤1001:=fun r hr=>by have:=hg.row r hr;omega
 by_cases e0:v=0
 ·subst e0
  refine ⟨⟨g.st,g.nx++[[0]]⟩,p+1+1,⟨hst,by simp;omega,hg.el,fun r hr=>?_,by omega,by omega⟩,?_⟩
  ·simp only [y56,y57] at hr
   rcases hr with hr|rfl
   ·exact hrows r hr
   ·simp
  refine z7 z17 Tryz.func44 rfl rfl 62 Tryz.ntmps44 (by simp) ?_
  repeat' ((first|(apply y4 ok;rfl)|(apply y45;first|((try dsimp only);simp only [y51,y50,y49,y48,y60,y61];omega)|exact ⟨rfl,z22 rfl z29⟩)|((first|(apply z8 [] [3,4] cc;rfl;rfl)|(apply z8 [0] [] ck;rfl;rfl)|(apply z8 [0] [] cv;rfl;rfl));rfl;(focus ((repeat' first|exact z13|apply z11)<;>first|exact z44 rfl rfl|(refine z21 ?_;((exact z4 fun _=>rfl)))))))<;>conv=>whnf)
  all_goals (refine RetS.mid [0,3,8] [6] [rdO bs (p+1+1),.cells 2 (g.st.map State.cs),.cells 1 (g.nx.map z94++[encL [0]])] (.agg [.sref 1 0 g.st.length,.sref 2 0 (g.nx.length+1)]) rfl rfl rfl ?_ ?_ ?_;(focus (repeat' (exact y88 _)));(focus (repeat' first|exact y88 _|exact z16 _|apply y89|((first|refine z40 rfl ?_ ?_|refine z14 rfl ?_ ?_);(focus ((repeat' (first|exact z4 (fun _=>rfl)|apply z27));done)))|(refine z1167 ?_ ?_;(focus (simp;done)))|constructor)))
  all_goals (refine rsD [0] [1,2] rfl ?_;(repeat' first|exact y88 _|apply y89|refine z1166 ?_|((apply z54 rfl rfl rfl);(focus ((repeat (first|exact z42 (fun _=>rfl) _|exact z154 _|apply z141|rfl));done));(focus (((simp;done));done)))|apply z52|(refine z79 ?_ ?_;(focus (simp;done)))|constructor))
 by_cases e1:v=1
 ·subst e1
  obtain ⟨x,mx,cx⟩:=z102 bs hb (p+1+1) (by omega) (by omega) [0,-1,60,9223372036854775807] (by decide) (by decide)
  refine ⟨⟨g.st,g.nx.set k.toNat (g.nx[k.toNat]++[x])⟩,p+1+1+1,⟨hst,by simp;omega,hg.el,fun r hr=>?_,by omega,by omega⟩,?_⟩
  ·rcases List.mem_or_eq_of_mem_set hr with h|rfl
   ·exact hrows r h
   ·have:=hg.row g.nx[k.toNat] (y46 _)
    simp;omega
  have hr:=hg.row g.nx[k.toNat] (y46 _)
  have g0:(g.nx.map z94)[k.toNat]?=some (z94 g.nx[k.toNat]):=by rw [y53,y47 hkn];rfl
  generalize g.nx[k.toNat]=row at *
  refine z7 z17 Tryz.func44 rfl rfl 62 Tryz.ntmps44 (by simp) ?_
  repeat' ((first|((fail_if_success apply z130 7);(fail_if_success apply z96 7);apply y4 ok;rfl)|((first|(apply z8 [] [3,4] cc;rfl;rfl)|(apply z8 [0] [] ck;rfl;rfl)|(apply z8 [0] [] cv;rfl;rfl));rfl;(focus ((repeat' first|exact z13|apply z11)<;>first|exact z44 rfl rfl|(refine z21 ?_;((exact z4 fun _=>rfl)))))))<;>conv=>whnf)
  refine y87 (Gl.Reach.exposeD (e:=z94 row) 4 k.toNat 0 rfl g0 rfl rfl) ?_
  conv=>whnf
  repeat' ((first|(apply y4 ok;rfl)|(apply z32;kernel_rfl)|(refine z849 rfl (by simp;omega) ?_)|(apply y45;first|omega|((try dsimp only);simp only [y51,y50,y49,y48,y60,y61];omega)|exact ⟨rfl,z22 rfl z29⟩)|(apply z8 [0,7] [] cx;rfl;rfl;rfl;(focus ((repeat' first|exact z13|apply z11)<;>first|exact z44 rfl rfl|(refine z21 ?_;((exact z4 fun _=>rfl)))))))<;>conv=>whnf)
  all_goals (refine RetS.mid [0,3,4] [9] [rdO bs (p+1+1+1),.cells 2 (g.st.map State.cs),.cells 1 ((g.nx.map z94).set k.toNat (encL (row++[x])))] (.agg [.sref 1 0 g.st.length,.sref 2 0 g.nx.length]) rfl rfl rfl ?_ ?_ ?_;(focus (repeat' (exact y88 _)));(focus (repeat' first|exact y88 _|exact z16 _|apply y89|((first|refine z716 rfl rfl ?_ ?_|refine z14 rfl ?_ ?_);(focus ((repeat' ((exact z4 (fun _=>rfl))));done)))|refine z1057 (by omega) ?_|(refine z97 ?_ ?_;(focus ((simp;done))))|((apply z82 rfl rfl rfl);(focus ((repeat (first|exact z42 (fun _=>rfl) _|apply z141|apply z198|rfl));done));(focus (((simp;done));done)))|(refine z79 ?_ ?_;(focus (simp;done)))|constructor)))
  all_goals (refine rsD [0] [1,2] rfl ?_;(repeat' first|exact y88 _|apply y89|refine z577 (by omega) ?_|((apply z54 rfl rfl rfl);(focus ((repeat (first|exact z42 (fun _=>rfl) _|exact z154 _|apply z612));done));(focus (((simp;done));done)))|apply z52|(refine z79 ?_ ?_;(focus (simp;done)))|constructor))
 have gs:(g.st.map State.cs)[k.toNat]?=some (State.cs g.st[k.toNat]):=by rw [y53,y47 hks];rfl
 have hsm:=hg.el g.st[k.toNat] (y46 _)
 by_cases e2:v=2
 ·subst e2
  refine ⟨⟨g.st,g.nx.set k.toNat []⟩,p+1+1,⟨hst,by simp;omega,hg.el,fun r hr=>?_,by omega,by omega⟩,?_⟩
  ·rcases List.mem_or_eq_of_mem_set hr with h|rfl
   ·exact hrows r h
   ·simp
  refine z7 z17 Tryz.func44 rfl rfl 62 Tryz.ntmps44 (by simp) ?_
  repeat' ((first|(apply y4 ok;rfl)|(apply y45;omega)|(((apply z10;omega));intro _)|((first|(apply z8 [] [3,4] cc;rfl;rfl)|(apply z8 [0] [] ck;rfl;rfl)|(apply z8 [0] [] cv;rfl;rfl));rfl;(focus ((repeat' first|exact z13|apply z11)<;>first|exact z44 rfl rfl|(refine z21 ?_;((exact z4 fun _=>rfl)))))))<;>conv=>whnf)
  all_goals (refine RetS.mid [0,3,4] [6] [rdO bs (p+1+1),.cells 2 (g.st.map State.cs),.cells 1 ((g.nx.map z94).set k.toNat (encL []))] (.agg [.sref 1 0 g.st.length,.sref 2 0 g.nx.length]) rfl rfl rfl ?_ ?_ ?_;(focus (repeat' (exact y88 _)));(focus (repeat' first|exact y88 _|exact z16 _|apply y89|refine z73 rfl (z4 (fun _=>rfl)) ?_|refine z14 rfl (z4 (fun _=>rfl)) ?_|constructor)))
  all_goals (refine rsD [0] [1,2] rfl ?_;(repeat' first|exact y88 _|apply y89|refine z577 (by omega) ?_|((apply z54 rfl rfl rfl);(focus ((repeat (first|exact z42 (fun _=>rfl) _|exact z154 _|apply z612));done));(focus (((simp;done));done)))|apply z52|(refine z79 ?_ ?_;(focus (simp;done)))|constructor))
 by_cases e3:v=3
 ·subst e3
  obtain ⟨x,mx,cx⟩:=z102 bs hb (p+1+1) (by omega) (by omega) [4,-1,0] (by decide) (by decide)
  refine ⟨⟨g.st.set k.toNat ⟨g.st[k.toNat].a,[0,0,x]⟩,g.nx⟩,p+1+1+1,⟨by simp;omega,by show g.nx.length≤101;omega,fun s hs=>?_,hrows,by omega,by omega⟩,?_⟩
  ·rcases List.mem_or_eq_of_mem_set hs with h|rfl
   ·exact hg.el s h
   ·exact ⟨hsm.a,by simp⟩
  generalize g.st[k.toNat]=s0 at *
  refine z7 z17 Tryz.func44 rfl rfl 62 Tryz.ntmps44 (by simp) ?_
  repeat' ((first|(apply y4 ok;rfl)|(apply z32;kernel_rfl)|(refine z12 (i:=k.toNat) rfl gs ?_)|(apply y45;omega)|((first|(apply z8 [] [3,4] cc;rfl;rfl)|(apply z8 [0] [] ck;rfl;rfl)|(apply z8 [0] [] cv;rfl;rfl)|(apply z8 [0,6] [] cx;rfl;rfl));rfl;(focus ((repeat' first|exact z13|apply z11)<;>first|exact z44 rfl rfl|(refine z21 ?_;((exact z4 fun _=>rfl)))))))<;>conv=>whnf)
  all_goals (refine RetS.mid [0,3,4] [7] [rdO bs (p+1+1+1),.cells 2 ((g.st.set k.toNat ⟨s0.a,[0,0,x]⟩).map State.cs),.cells 1 (g.nx.map z94)] (.agg [.sref 1 0 g.st.length,.sref 2 0 g.nx.length]) rfl rfl rfl ?_ ?_ ?_;(focus (repeat' (exact y88 _)));(focus (repeat' first|exact y88 _|exact z16 _|apply y89|refine z73 rfl (z4 (fun _=>rfl)) ?_|refine z14 rfl (z4 (fun _=>rfl)) ?_|refine z577 (by omega) ?_|constructor)))
  all_goals (refine rsD [0] [1,2] rfl ?_;(repeat' first|exact y88 _|exact z16 _|apply y89|((apply z54 rfl rfl rfl);(focus ((repeat (first|exact z42 (fun _=>rfl) _|exact z154 _));done));(focus (((simp;done));done)))|apply z52|(refine z79 ?_ ?_;(focus (simp;done)))|constructor))
 by_cases e4:v=4
 ·subst e4
  refine ⟨⟨[],[]⟩,p+1+1,⟨by simp,by simp,by simp,by simp,by omega,by omega⟩,?_⟩
  refine z7 z17 Tryz.func44 rfl rfl 62 Tryz.ntmps44 (by simp) ?_
  repeat' ((first|(apply y4 ok;rfl)|((first|(apply z8 [] [3,4] cc;rfl;rfl)|(apply z8 [0] [] ck;rfl;rfl)|(apply z8 [0] [] cv;rfl;rfl));rfl;(focus ((repeat' first|exact z13|apply z11)<;>first|exact z44 rfl rfl|(refine z21 ?_;((exact z4 fun _=>rfl)))))))<;>conv=>whnf)
  all_goals (refine rsD [0] [] rfl ?_;(repeat' first|exact y88 _|exact z43|apply y89|apply z52|constructor))
 ·refine ⟨g,p+1+1,⟨hst,by omega,hg.el,hrows,by omega,by omega⟩,?_⟩
  refine z7 z17 Tryz.func44 rfl rfl 62 Tryz.ntmps44 (by simp) ?_
  repeat' ((first|(apply y4 ok;rfl)|(apply y45;omega)|(((apply z10;omega));intro _)|((apply z5)<;>intro _)|((first|(apply z8 [] [3,4] cc;rfl;rfl)|(apply z8 [0] [] ck;rfl;rfl)|(apply z8 [0] [] cv;rfl;rfl));rfl;(focus ((repeat' first|exact z13|apply z11)<;>first|exact z44 rfl rfl|(refine z21 ?_;((exact z4 fun _=>rfl)))))))<;>conv=>whnf)
  all_goals try (exfalso;omega)
  all_goals (refine rsD [0] [3,4] rfl ?_;(repeat' first|exact y88 _|apply y89|((apply z54 rfl rfl rfl);(focus ((repeat (first|exact z42 (fun _=>rfl) _|exact z154 _));done));(focus (((simp;done));done)))|apply z52|constructor))
structure Edge where
 fr:Int
 to:Int
 gd:Tree
 var:Int
 val:Tree
 sync:Int
def Edge.cs (e:Edge):List AC:=[.int e.fr,.int e.to,.int e.gd.kind,.int e.gd.val,lst 3 Tree.cs' e.gd.kids,.int e.var,.int e.val.kind,.int e.val.val,lst 3 Tree.cs' e.val.kids,.int e.sync]
structure Proc where
 loc:Int
 es:List Edge
def Proc.cs (p:Proc):List AC:=[.int p.loc,lst 10 Edge.cs p.es]
structure Sys where
 init:List Int
 ps:List Proc
def Sys.cs (s:Sys):List AC:=[ints s.init,lst 2 Proc.cs s.ps]
structure Edge.sm (e:Edge):Prop where
 gd:e.gd.sz≤100
 val:e.val.sz≤100
 var : -1≤e.var∧e.var≤2
 sync : -2≤e.sync∧e.sync≤2
structure Proc.sm (p:Proc):Prop where
 loc:0≤p.loc∧p.loc≤100
 len:p.es.length≤10
 el:∀ e∈p.es,e.sm
structure Sys.sm (s:Sys):Prop where
 init:s.init.length≤10
 len:s.ps.length≤10
 el:∀ p∈s.ps,p.sm
structure Edge.s1 (e:Edge):Prop where
 gd:e.gd.sz≤1000
 val:e.val.sz≤1000
structure Proc.s1 (p:Proc):Prop where
 len:p.es.length≤10
 el:∀ e∈p.es,e.s1
structure Sys.s1 (s:Sys):Prop where
 init:s.init.length≤20
 len:s.ps.length≤20
 el:∀ p∈s.ps,p.s1
theorem Edge.sm.s1 {e:Edge} (h:e.sm):e.s1:=⟨by have:=h.gd;omega,by have:=h.val;omega⟩
theorem Proc.sm.s1 {p:Proc} (h:p.sm):p.s1:=⟨h.len,fun e he=>(h.el e he).s1⟩
theorem Sys.sm.s1 {s:Sys} (h:s.sm):s.s1:=⟨by have:=h.init;omega,by have:=h.len;omega,fun p hp=>(h.el p hp).s1⟩
set_option maxHeartbeats 6400000 in
theorem z644 (bs:List Int) (hb:BytesOk bs) (p:Int) (hp:few1 p) (n:Int) (hn:0≤n∧n≤100):∃ (e:Edge) (p' : Int),(e.sm∧p≤p'∧p'≤p+200)∧CallsA Tryz.prog 189 [.ptr 0 none 0,.int n] [rdO bs p] (.agg e.cs) [rdO bs p']:=by
 obtain ⟨a,⟨la,ua⟩,ca⟩:=z70 bs hb p n (by omega) (by omega) (by omega)
 obtain ⟨b,⟨lb,ub⟩,cb⟩:=z70 bs hb (p+1) n (by omega) (by omega) (by omega)
 obtain ⟨gd,q,⟨g1,g2,g3⟩,cg⟩:=z586 bs hb (p+1+1) ⟨by omega,by omega⟩
 obtain ⟨w,⟨lw,uw⟩,cw⟩:=z70 bs hb q 3 (by omega) (by omega) (by omega)
 rw [y15] at cg
 by_cases hw:w=0
 ·subst hw
  obtain ⟨y,⟨ly,uy⟩,cy⟩:=z70 bs hb (q+1) 4 (by omega) (by omega) (by omega)
  by_cases hy:y=0
  ·subst hy
   obtain ⟨s,ms,cs⟩:=z102 bs hb (q+1+1) (by omega) (by omega) [1,-1,1,-1,2,-2] (by decide) (by decide)
   refine ⟨⟨a,b,gd,-1,leaf 0 0,s⟩,q+1+1+1,⟨⟨by show gd.sz≤100;omega,by (rw [z87];omega),by show -1≤(-1:Int)∧(-1:Int)≤2;omega,by simp at ms;show -2≤s∧s≤2;omega⟩,by omega,by omega⟩,?_⟩
   refine z7 z17 Tryz.func189 rfl rfl 61 Tryz.ntmps189 (by simp) ?_
   repeat' ((first|(apply y4 ok;rfl)|((first|(apply z8 [0] [] ca;rfl;rfl)|(apply z8 [0] [] cb;rfl;rfl)|(apply z8 [0] [] cg;rfl;rfl)|(apply z8 [0] [] cw;rfl;rfl)|(apply z8 [0] [] cy;rfl;rfl)|(apply z8 [0,3] [] cs;rfl;rfl));rfl;(focus ((repeat' first|exact z13|apply z11)<;>first|exact z44 rfl rfl|(refine z21 ?_;((exact z4 fun _=>rfl)))))))<;>conv=>whnf)
   all_goals (refine rsD [0] [] rfl ?_;(repeat' first|exact y88 _|exact z43|apply y89|apply z52|constructor))
  ·refine ⟨⟨a,b,gd,-1,leaf 0 0,0⟩,q+1+1,⟨⟨by show gd.sz≤100;omega,by (rw [z87];omega),by show -1≤(-1:Int)∧(-1:Int)≤2;omega,by show -2≤(0:Int)∧(0:Int)≤2;omega⟩,by omega,by omega⟩,?_⟩
   refine z7 z17 Tryz.func189 rfl rfl 61 Tryz.ntmps189 (by simp) ?_
   repeat' ((first|(apply y4 ok;rfl)|((apply z5)<;>intro _)|((first|(apply z34 [0] [] ca;rfl;rfl)|(apply z34 [0] [] cb;rfl;rfl)|(apply z34 [0] [] cg;rfl;rfl)|(apply z34 [0] [] cw;rfl;rfl)|(apply z34 [0] [] cy;rfl;rfl));rfl))<;>conv=>whnf)
   all_goals try (exfalso;omega)
   all_goals (refine rsD [0] [] rfl ?_;(repeat' first|exact y88 _|exact z43|apply y89|apply z52|constructor))
 obtain ⟨x,mx,cx⟩:=z102 bs hb (q+1) (by omega) (by omega) [0,1,0,2] (by decide) (by decide)
 obtain ⟨z,⟨lz,uz⟩,cz⟩:=z70 bs hb (q+1+1) 4 (by omega) (by omega) (by omega)
 by_cases h0:z=0
 ·subst h0
  obtain ⟨k,⟨lk,uk⟩,ck⟩:=z70 bs hb (q+1+1+1) 3 (by omega) (by omega) (by omega)
  obtain ⟨y,⟨ly,uy⟩,cy⟩:=z70 bs hb (q+1+1+1+1) 4 (by omega) (by omega) (by omega)
  by_cases hy:y=0
  ·subst hy
   obtain ⟨s,ms,cs⟩:=z102 bs hb (q+1+1+1+1+1) (by omega) (by omega) [1,-1,1,-1,2,-2] (by decide) (by decide)
   refine ⟨⟨a,b,gd,x,leaf 1 k,s⟩,q+1+1+1+1+1+1,⟨⟨by show gd.sz≤100;omega,by (rw [z87];omega),by simp at mx;show -1≤x∧x≤2;omega,by simp at ms;show -2≤s∧s≤2;omega⟩,by omega,by omega⟩,?_⟩
   refine z7 z17 Tryz.func189 rfl rfl 61 Tryz.ntmps189 (by simp) ?_
   repeat' ((first|(apply y4 ok;rfl)|((apply z5)<;>intro _)|((first|(apply z8 [0] [] ca;rfl;rfl)|(apply z8 [0] [] cb;rfl;rfl)|(apply z8 [0] [] cg;rfl;rfl)|(apply z8 [0] [] cw;rfl;rfl)|(apply z8 [0,3] [] cx;rfl;rfl)|(apply z8 [0] [] cz;rfl;rfl)|(apply z8 [0] [] ck;rfl;rfl)|(apply z8 [0] [] cy;rfl;rfl)|(apply z8 [0,6] [] cs;rfl;rfl));rfl;(focus ((repeat' first|exact z13|apply z11)<;>first|exact z44 rfl rfl|(refine z21 ?_;((exact z4 fun _=>rfl)))))))<;>conv=>whnf)
   all_goals try (exfalso;omega)
   all_goals (refine rsD [0] [] rfl ?_;(repeat' first|exact y88 _|exact z43|apply y89|apply z52|constructor))
  ·refine ⟨⟨a,b,gd,x,leaf 1 k,0⟩,q+1+1+1+1+1,⟨⟨by show gd.sz≤100;omega,by (rw [z87];omega),by simp at mx;show -1≤x∧x≤2;omega,by show -2≤(0:Int)∧(0:Int)≤2;omega⟩,by omega,by omega⟩,?_⟩
   refine z7 z17 Tryz.func189 rfl rfl 61 Tryz.ntmps189 (by simp) ?_
   repeat' ((first|(apply y4 ok;rfl)|((apply z5)<;>intro _)|((first|(apply z8 [0] [] ca;rfl;rfl)|(apply z8 [0] [] cb;rfl;rfl)|(apply z8 [0] [] cg;rfl;rfl)|(apply z8 [0] [] cw;rfl;rfl)|(apply z8 [0,3] [] cx;rfl;rfl)|(apply z8 [0] [] cz;rfl;rfl)|(apply z8 [0] [] ck;rfl;rfl)|(apply z8 [0] [] cy;rfl;rfl));rfl;(focus ((repeat' first|exact z13|apply z11)<;>first|exact z44 rfl rfl|(refine z21 ?_;((exact z4 fun _=>rfl)))))))<;>conv=>whnf)
   all_goals try (exfalso;omega)
   all_goals (refine rsD [0] [] rfl ?_;(repeat' first|exact y88 _|exact z43|apply y89|apply z52|constructor))
 by_cases h1:z=1
 ·subst h1
  obtain ⟨y,⟨ly,uy⟩,cy⟩:=z70 bs hb (q+1+1+1) 4 (by omega) (by omega) (by omega)
  by_cases hy:y=0
  ·subst hy
   obtain ⟨s,ms,cs⟩:=z102 bs hb (q+1+1+1+1) (by omega) (by omega) [1,-1,1,-1,2,-2] (by decide) (by decide)
   refine ⟨⟨a,b,gd,x,.mk 8 0 [leaf 2 x,leaf 1 1],s⟩,q+1+1+1+1+1,⟨⟨by show gd.sz≤100;omega,by (show Tree.sz _≤100;rw [z231];simp [z87]),by simp at mx;show -1≤x∧x≤2;omega,by simp at ms;show -2≤s∧s≤2;omega⟩,by omega,by omega⟩,?_⟩
   refine z7 z17 Tryz.func189 rfl rfl 61 Tryz.ntmps189 (by simp) ?_
   repeat' ((first|(apply y4 ok;rfl)|((apply z5)<;>intro _)|((first|(apply z8 [0] [] ca;rfl;rfl)|(apply z8 [0] [] cb;rfl;rfl)|(apply z8 [0] [] cg;rfl;rfl)|(apply z8 [0] [] cw;rfl;rfl)|(apply z8 [0,3] [] cx;rfl;rfl)|(apply z8 [0] [] cz;rfl;rfl)|(apply z8 [0] [] cy;rfl;rfl)|(apply z8 [0,7] [] cs;rfl;rfl));rfl;(focus ((repeat' first|exact z13|apply z11)<;>first|exact z44 rfl rfl|(refine z21 ?_;((exact z4 fun _=>rfl)))))))<;>conv=>whnf)
   all_goals try (exfalso;omega)
   all_goals (refine rsD [0] [6] rfl ?_;(repeat' first|exact y88 _|exact z43|apply y89|refine z54 rfl rfl rfl rfl rfl ?_|apply z52|(apply z79;rfl)|constructor))
  ·refine ⟨⟨a,b,gd,x,.mk 8 0 [leaf 2 x,leaf 1 1],0⟩,q+1+1+1+1,⟨⟨by show gd.sz≤100;omega,by (show Tree.sz _≤100;rw [z231];simp [z87]),by simp at mx;show -1≤x∧x≤2;omega,by show -2≤(0:Int)∧(0:Int)≤2;omega⟩,by omega,by omega⟩,?_⟩
   refine z7 z17 Tryz.func189 rfl rfl 61 Tryz.ntmps189 (by simp) ?_
   repeat' ((first|(apply y4 ok;rfl)|((apply z5)<;>intro _)|((first|(apply z8 [0] [] ca;rfl;rfl)|(apply z8 [0] [] cb;rfl;rfl)|(apply z8 [0] [] cg;rfl;rfl)|(apply z8 [0] [] cw;rfl;rfl)|(apply z8 [0,3] [] cx;rfl;rfl)|(apply z8 [0] [] cz;rfl;rfl)|(apply z8 [0] [] cy;rfl;rfl));rfl;(focus ((repeat' first|exact z13|apply z11)<;>first|exact z44 rfl rfl|(refine z21 ?_;((exact z4 fun _=>rfl)))))))<;>conv=>whnf)
   all_goals try (exfalso;omega)
   all_goals (refine rsD [0] [6] rfl ?_;(repeat' first|exact y88 _|exact z43|apply y89|refine z54 rfl rfl rfl rfl rfl ?_|apply z52|(apply z79;rfl)|constructor))
 by_cases h2:z=2
 ·subst h2
  obtain ⟨y,⟨ly,uy⟩,cy⟩:=z70 bs hb (q+1+1+1) 4 (by omega) (by omega) (by omega)
  by_cases hy:y=0
  ·subst hy
   obtain ⟨s,ms,cs⟩:=z102 bs hb (q+1+1+1+1) (by omega) (by omega) [1,-1,1,-1,2,-2] (by decide) (by decide)
   refine ⟨⟨a,b,gd,x,.mk 9 0 [leaf 1 1,leaf 2 x],s⟩,q+1+1+1+1+1,⟨⟨by show gd.sz≤100;omega,by (show Tree.sz _≤100;rw [z231];simp [z87]),by simp at mx;show -1≤x∧x≤2;omega,by simp at ms;show -2≤s∧s≤2;omega⟩,by omega,by omega⟩,?_⟩
   refine z7 z17 Tryz.func189 rfl rfl 61 Tryz.ntmps189 (by simp) ?_
   repeat' ((first|(apply y4 ok;rfl)|((apply z5)<;>intro _)|((first|(apply z8 [0] [] ca;rfl;rfl)|(apply z8 [0] [] cb;rfl;rfl)|(apply z8 [0] [] cg;rfl;rfl)|(apply z8 [0] [] cw;rfl;rfl)|(apply z8 [0,3] [] cx;rfl;rfl)|(apply z8 [0] [] cz;rfl;rfl)|(apply z8 [0] [] cy;rfl;rfl)|(apply z8 [0,7] [] cs;rfl;rfl));rfl;(focus ((repeat' first|exact z13|apply z11)<;>first|exact z44 rfl rfl|(refine z21 ?_;((exact z4 fun _=>rfl)))))))<;>conv=>whnf)
   all_goals try (exfalso;omega)
   all_goals (refine rsD [0] [6] rfl ?_;(repeat' first|exact y88 _|exact z43|apply y89|refine z54 rfl rfl rfl rfl rfl ?_|apply z52|(apply z79;rfl)|constructor))
  ·refine ⟨⟨a,b,gd,x,.mk 9 0 [leaf 1 1,leaf 2 x],0⟩,q+1+1+1+1,⟨⟨by show gd.sz≤100;omega,by (show Tree.sz _≤100;rw [z231];simp [z87]),by simp at mx;show -1≤x∧x≤2;omega,by show -2≤(0:Int)∧(0:Int)≤2;omega⟩,by omega,by omega⟩,?_⟩
   refine z7 z17 Tryz.func189 rfl rfl 61 Tryz.ntmps189 (by simp) ?_
   repeat' ((first|(apply y4 ok;rfl)|((apply z5)<;>intro _)|((first|(apply z8 [0] [] ca;rfl;rfl)|(apply z8 [0] [] cb;rfl;rfl)|(apply z8 [0] [] cg;rfl;rfl)|(apply z8 [0] [] cw;rfl;rfl)|(apply z8 [0,3] [] cx;rfl;rfl)|(apply z8 [0] [] cz;rfl;rfl)|(apply z8 [0] [] cy;rfl;rfl));rfl;(focus ((repeat' first|exact z13|apply z11)<;>first|exact z44 rfl rfl|(refine z21 ?_;((exact z4 fun _=>rfl)))))))<;>conv=>whnf)
   all_goals try (exfalso;omega)
   all_goals (refine rsD [0] [6] rfl ?_;(repeat' first|exact y88 _|exact z43|apply y89|refine z54 rfl rfl rfl rfl rfl ?_|apply z52|(apply z79;rfl)|constructor))
 obtain ⟨t,q2,⟨t1,t2,t3⟩,ct⟩:=z1108 bs hb (q+1+1+1) ⟨by omega,by omega⟩
 rw [y15] at ct
 obtain ⟨y,⟨ly,uy⟩,cy⟩:=z70 bs hb (q2) 4 (by omega) (by omega) (by omega)
 by_cases hy:y=0
 ·subst hy
  obtain ⟨s,ms,cs⟩:=z102 bs hb (q2+1) (by omega) (by omega) [1,-1,1,-1,2,-2] (by decide) (by decide)
  refine ⟨⟨a,b,gd,x,t,s⟩,q2+1+1,⟨⟨by show gd.sz≤100;omega,by show t.sz≤100;omega,by simp at mx;show -1≤x∧x≤2;omega,by simp at ms;show -2≤s∧s≤2;omega⟩,by omega,by omega⟩,?_⟩
  refine z7 z17 Tryz.func189 rfl rfl 61 Tryz.ntmps189 (by simp) ?_
  repeat' ((first|(apply y4 ok;rfl)|((apply z5)<;>intro _)|((first|(apply z8 [0] [] ca;rfl;rfl)|(apply z8 [0] [] cb;rfl;rfl)|(apply z8 [0] [] cg;rfl;rfl)|(apply z8 [0] [] cw;rfl;rfl)|(apply z8 [0,3] [] cx;rfl;rfl)|(apply z8 [0] [] cz;rfl;rfl)|(apply z8 [0] [] ct;rfl;rfl)|(apply z8 [0] [] cy;rfl;rfl)|(apply z8 [0,6] [] cs;rfl;rfl));rfl;(focus ((repeat' first|exact z13|apply z11)<;>first|exact z44 rfl rfl|(refine z21 ?_;((exact z4 fun _=>rfl)))))))<;>conv=>whnf)
  all_goals try (exfalso;omega)
  all_goals (refine rsD [0] [] rfl ?_;(repeat' first|exact y88 _|apply y89|constructor))
 ·refine ⟨⟨a,b,gd,x,t,0⟩,q2+1,⟨⟨by show gd.sz≤100;omega,by show t.sz≤100;omega,by simp at mx;show -1≤x∧x≤2;omega,by show -2≤(0:Int)∧(0:Int)≤2;omega⟩,by omega,by omega⟩,?_⟩
  refine z7 z17 Tryz.func189 rfl rfl 61 Tryz.ntmps189 (by simp) ?_
  repeat' ((first|(apply y4 ok;rfl)|((apply z5)<;>intro _)|((first|(apply z8 [0] [] ca;rfl;rfl)|(apply z8 [0] [] cb;rfl;rfl)|(apply z8 [0] [] cg;rfl;rfl)|(apply z8 [0] [] cw;rfl;rfl)|(apply z8 [0,3] [] cx;rfl;rfl)|(apply z8 [0] [] cz;rfl;rfl)|(apply z8 [0] [] ct;rfl;rfl)|(apply z8 [0] [] cy;rfl;rfl));rfl;(focus ((repeat' first|exact z13|apply z11)<;>first|exact z44 rfl rfl|(refine z21 ?_;((exact z4 fun _=>rfl)))))))<;>conv=>whnf)
  all_goals try (exfalso;omega)
  all_goals (refine rsD [0] [] rfl ?_;(repeat' first|exact y88 _|apply y89|constructor))
def isProc (bs:List Int) (q:Int) (pr:Proc) (q' : Int):Prop:=pr.sm∧∃ (m:Nat) (pf:Nat→Int),
 CallsA Tryz.prog 104 [.ptr 0 none 0,.sref 1 0 4] [rdO bs q,.cells 1 ([2,3,1,2].map enI)] (.int pr.loc) [rdO bs (q+1),.cells 1 ([2,3,1,2].map enI)] ∧
 CallsA Tryz.prog 104 [.ptr 0 none 0,.sref 1 0 5] [rdO bs (q+1),.cells 1 ([3,4,2,5,1].map enI)] (.int m) [rdO bs (q+1+1),.cells 1 ([3,4,2,5,1].map enI)] ∧
 m≤5∧pr.es.length=m∧pf 0=q+1+1∧pf m=q'∧∀ k (h:k < pr.es.length),CallsA Tryz.prog 189 [.ptr 0 none 0,.int pr.loc] [rdO bs (pf k)] (.agg pr.es[k].cs) [rdO bs (pf (k+1))]
theorem proc_ex (bs:List Int) (hb:BytesOk bs) (q:Int) (hq:0≤q∧q≤999980000):∃ pr q',isProc bs q pr q'∧q≤q'∧q'≤q+1010:=by
 obtain ⟨v,mv,cv⟩:=z102 bs hb q (by omega) (by omega) [2,3,1,2] (by decide) (by decide)
 obtain ⟨w,mw,cw⟩:=z102 bs hb (q+1) (by omega) (by omega) [3,4,2,5,1] (by decide) (by decide)
 simp only [List.mem_cons,List.not_mem_nil,or_false] at mv mw
 obtain ⟨m,rfl⟩:∃ m:Nat,w=m:=⟨w.toNat,by omega⟩
 obtain ⟨es,pf,h1,h2,h3,h4⟩:=z493 (fun _ r (e:Edge) r'=>e.sm∧CallsA Tryz.prog 189 [.ptr 0 none 0,.int v] [rdO bs r] (.agg e.cs) [rdO bs r']) (q+1+1) 200 m (fun k r hk a1 a2=>by
  obtain ⟨e,r',⟨b1,b2,b3⟩,c⟩:=z644 bs hb r ⟨by omega,by omega⟩ v (by omega)
  exact ⟨e,r',⟨b1,c⟩,b2,b3⟩)
 have h5:=h4 m (y54 _)
 refine ⟨⟨v,es⟩,pf m,⟨⟨by show 0≤v∧v≤100;omega,by show es.length≤10;omega,fun e he=>?_⟩,m,pf,cv,cw,by omega,h1,h2,rfl,fun k h=>(h3 k h).2⟩,by omega,by omega⟩
 obtain ⟨i,hi,rfl⟩:=List.mem_iff_getElem.1 he
 exact (h3 i hi).1
set_option maxHeartbeats 6400000 in
theorem z841 (bs:List Int) (hb:BytesOk bs) (p:Int) (hp:few2 p):∃ (s:Sys) (p' : Int),(s.sm∧p≤p'∧p'≤p+4000)∧CallsA Tryz.prog 109 [.ptr 0 none 0] [rdO bs p] (.agg s.cs) [rdO bs p']:=by
 obtain ⟨a,⟨la,ua⟩,ca⟩:=z70 bs hb p 2 (by omega) (by omega) (by omega)
 obtain ⟨b,mb,cb⟩:=z102 bs hb (p+1) (by omega) (by omega) [0,0,1,3] (by decide) (by decide)
 obtain ⟨w,mw,cw⟩:=z102 bs hb (p+1+1) (by omega) (by omega) [2,1,2,3] (by decide) (by decide)
 simp only [List.mem_cons,List.not_mem_nil,or_false] at mw
 obtain ⟨m,rfl⟩:∃ m:Nat,w=m:=⟨w.toNat,by omega⟩
 obtain ⟨ps,pf,h1,h2,h3,h4⟩:=z493 (fun _ q pr q'=>isProc bs q pr q') (p+1+1+1) 1010 m (fun k r hk a1 a2=>proc_ex bs hb r (by omega))
 have h5:=h4 m (y54 _)
 refine ⟨⟨[a,b,0],ps⟩,pf m,⟨⟨by simp,by show ps.length≤10;omega,fun e he=>?_⟩,by omega,by omega⟩,?_⟩
 ·obtain ⟨i,hi,rfl⟩:=List.mem_iff_getElem.1 he
  exact (h3 i hi).1
 rw [← h2] at cw
 refine z7 z17 Tryz.func109 rfl rfl 48 Tryz.ntmps109 (by simp) ?_
 repeat' ((first|(apply y4 ok;rfl)|((first|(apply z8 [0] [] ca;rfl;rfl)|(apply z8 [0,2] [] cb;rfl;rfl)|(apply z8 [0,5] [] cw;rfl;rfl));rfl;(focus ((repeat' first|exact z13|apply z11)<;>first|exact z44 rfl rfl|(refine z21 ?_;((exact z4 fun _=>rfl)))))))<;>conv=>whnf)
 refine y87 (y90 2 rfl) ?_
 refine z86 (fun i:Nat=>([(0,.ptr 0 none 0),(2,.ptr 1 none 0),(3,.ptr 2 none 0),(4,.int (m - i))],[rdO bs (pf i),.cells 2 [[.nils,.nils]],.cells 2 [[ints [a,b,0],.sref 3 0 i]],.cells 2 ((ps.take i).map Proc.cs)])) (fun i=>i≤m) (fun i=>m - i) 0 (by omega) (by refine swR [0,1,4,6] [3] rfl rfl ?_;(repeat' first|exact y88 _|exact z46|apply y89|refine z14 rfl (z33) ?_|constructor)) ?_
 intro i hi
 by_cases him:i < m
 ·have hil:i < ps.length:=by omega
  obtain ⟨g1,m2,pf2,c1,c2,g2,g3,g4,g5,g6⟩:=h3 i hil
  rw [← g4] at c2
  have hpi:(ps.take (i+1)).map Proc.cs=(ps.take i).map Proc.cs++[Proc.cs ps[i]]:=by rw [y52 hil,y66];rfl
  repeat' ((first|(apply y4 ok;rfl)|((apply z5)<;>intro _)|((first|(apply z8 [0,4] [] c1;rfl;rfl)|(apply z8 [0,6] [] c2;rfl;rfl));rfl;(focus ((repeat' first|exact z13|apply z11)<;>first|exact z44 rfl rfl|(refine z21 ?_;((exact z4 fun _=>rfl)))))))<;>conv=>whnf)
  all_goals try (exfalso;omega)
  refine y87 (y90 10 rfl) ?_
  refine z86 (fun k:Nat=>([(0,.ptr 0 none 0),(2,.ptr 1 none 0),(3,.ptr 2 none 0),(4,.int (m - i)),(5,.ptr 4 none 0),(6,.int (m2 - k))],[rdO bs (pf2 k),.cells 2 [[.nils,.nils]],.cells 2 [[ints [a,b,0],.sref 3 0 i]],.cells 2 ((ps.take i).map Proc.cs),.cells 2 [[.int ps[i].loc,.sref 5 0 k]],.cells 10 ((ps[i].es.take k).map Edge.cs)])) (fun k=>k≤m2) (fun k=>m2 - k) 0 (by omega) (by refine swR [0,1,2,3,5,7] [] rfl rfl ?_;(repeat' first|exact y88 _|exact z46|exact z16 _|apply y89|((refine z14 rfl ?_ ?_);(focus ((repeat' (first|exact z33|exact z4 (fun _=>rfl)));done)))|constructor)) ?_
  intro k hk
  by_cases hkm:k < m2
  ·have hke:k < ps[i].es.length:=by omega
   have ce:=g6 k hke
   repeat' ((first|(apply y4 ok;rfl)|(apply z32;kernel_rfl)|(apply y45;first|omega|(unfold inI;omega)|((try dsimp only);simp only [y51,y50,y49,y48,y60,y61];omega)|exact ⟨rfl,z22 rfl z29⟩)|((apply z5)<;>intro _)|(apply z34 [0] [] ce;rfl;rfl;rfl))<;>conv=>whnf)
   all_goals try (exfalso;omega)
   all_goals refine z41 (k+1) (by omega) (by omega) (by refine swR [0,1,2,3,4,7] [] rfl rfl ?_;(repeat' first|exact y88 _|exact z16 _|(refine z168 ?_;omega)|apply y89|((first|refine z40 rfl ?_ ?_|refine z14 rfl ?_ ?_);(focus ((repeat' (first|exact z4 (fun _=>rfl)|apply z27));done)))|refine z117 (by omega) (by omega) ?_|constructor))
  ·have ek:k=m2:=by omega
   subst ek
   rw [y59 (show ps[i].es.length≤k by omega)]
   repeat' ((first|(apply y4 ok;rfl)|(apply y45;first|(unfold inI;omega)|((try dsimp only);simp only [y51,y50,y49,y48,y60,y61];omega)|exact ⟨rfl,z22 rfl z29⟩)|((apply z5)<;>intro _))<;>conv=>whnf)
   all_goals try (exfalso;omega)
   all_goals refine z41 (i+1) (by omega) (by omega) (by refine swR [0,1,2,7] [5] rfl rfl ?_;(repeat' first|exact y88 _|(refine z283 ?_;omega)|(refine z168 ?_;omega)|apply y89|((refine z40 rfl ?_ ?_);(focus ((repeat' (first|exact z4 (fun _=>rfl)|apply z27));done)))|refine z117 (by omega) (by omega) ?_|((apply z82 rfl rfl rfl);(focus ((repeat ((exact z42 (fun _=>rfl) _)));done));(focus (((simp;omega));done)))|constructor))
 ·have e:i=m:=by omega
  subst e
  rw [y59 (show ps.length≤i by omega)]
  repeat' ((first|(apply y4 ok;rfl)|((apply z5)<;>intro _))<;>conv=>whnf)
  all_goals try (exfalso;omega)
  all_goals (refine rsD [0] [3] rfl ?_;(repeat' first|exact y88 _|(refine z283 ?_;omega)|apply y89|((apply z54 rfl rfl rfl);(focus ((repeat ((exact z42 (fun _=>rfl) _)));done));(focus (((simp;omega));done)))|apply z52|constructor))
theorem z1033 (n:Nat) (e:List AC):z64 (List.replicate n e)=List.replicate n (z270 e):=by
 induction n with
 |zero=>rfl
 |succ n ih=>simp only [List.replicate_succ,z64,ih]
noncomputable def noneB (t:Tree):Bool:=decide (t.kind=0∧t.val=0∧t.kids.length=0)
theorem z1107 (t:Tree):CallsA Tryz.prog 311 [z30 Tree.cs' t] [] (.bool (noneB t)) []:=by
 refine z9 z17 Tryz.func311 rfl rfl 17 Tryz.ntmps311 (by simp) ?_
 repeat' ((first|(apply y4 ok;rfl)|((apply z5)<;>intro _))<;>conv=>whnf)
 all_goals refine z23 rfl ?_
 all_goals unfold noneB
 all_goals first|(rw [decide_eq_decide];omega)|(rw [decide_eq_false_iff_not];omega)
noncomputable def z563 (e:Edge) (n:Int):Bool:=decide (0≤e.fr∧e.fr < n∧0≤e.to∧e.to < n∧n≤4) && (e.gd.exprB && (decide (-2≤e.sync∧e.sync≤2∧-1≤e.var∧e.var < 3) && (if e.var < 0 then noneB e.val else e.val.exprB)))
set_option maxHeartbeats 1600000 in
theorem z759 (e:Edge) (he:e.s1) (n:Int):CallsA Tryz.prog 304 [.agg e.cs,.int n] [] (.bool (z563 e n)) []:=by
 have h1:=he.gd
 have h2:=he.val
 have c1:=z133 e.gd (z106 _ (by unfold maxLen;omega))
 have c2:=z133 e.val (z106 _ (by unfold maxLen;omega))
 have c3:=z1107 e.val
 rw [y15] at c1 c2 c3
 unfold z563
 generalize e.gd.exprB=b1 at *
 generalize e.val.exprB=b2 at *
 generalize noneB e.val=b3 at *
 by_cases ha:0≤e.fr∧e.fr < n∧0≤e.to∧e.to < n∧n≤4
 ·rw [y84 ha]
  by_cases hb : -2≤e.sync∧e.sync≤2∧-1≤e.var∧e.var < 3
  ·rw [y84 hb]
   by_cases hv:e.var < 0
   ·rw [if_pos hv]
    refine z9 z17 Tryz.func304 rfl rfl 71 Tryz.ntmps304 (by simp) ?_
    cases b1<;>cases b3
    all_goals
     repeat' ((first|(apply y4 ok;rfl)|((apply z5)<;>intro _)|(apply z6 (c1);rfl;rfl)|(apply z6 (c3);rfl;rfl))<;>conv=>whnf)
     all_goals first|(exfalso;omega)|exact z23 rfl rfl
   ·rw [if_neg hv]
    refine z9 z17 Tryz.func304 rfl rfl 71 Tryz.ntmps304 (by simp) ?_
    cases b1<;>cases b2
    all_goals
     repeat' ((first|(apply y4 ok;rfl)|((apply z5)<;>intro _)|(apply z6 (c1);rfl;rfl)|(apply z6 (c2);rfl;rfl))<;>conv=>whnf)
     all_goals first|(exfalso;omega)|exact z23 rfl rfl
  ·rw [y85 hb]
   refine z9 z17 Tryz.func304 rfl rfl 71 Tryz.ntmps304 (by simp) ?_
   cases b1
   all_goals
    repeat' ((first|(apply y4 ok;rfl)|((apply z5)<;>intro _)|(apply z6 (c1);rfl;rfl))<;>conv=>whnf)
    all_goals first|(exfalso;omega)|exact z23 rfl rfl
 ·rw [y85 ha]
  refine z9 z17 Tryz.func304 rfl rfl 71 Tryz.ntmps304 (by simp) ?_
  repeat' ((first|(apply y4 ok;rfl)|((first|apply z5|apply z81)<;>intro _)|(apply z6 (c1);rfl;rfl))<;>conv=>whnf)
  all_goals first|(exfalso;omega)|exact z23 rfl rfl
noncomputable def z553 (p:Proc):Bool:=p.es.all (fun e=>z563 e p.loc) && decide (1≤p.loc∧p.loc≤4∧p.es.length≤6)
theorem z736 (p:Proc) (hp:p.s1):CallsA Tryz.prog 281 [.agg p.cs] [] (.bool (z553 p)) []:=by
 have hl:=hp.len
 unfold z553
 refine z9 z17 Tryz.func281 rfl rfl 34 Tryz.ntmps281 (by simp) ?_
 repeat' (((apply y4 ok;rfl))<;>conv=>whnf)
 refine z80 (fun k:Nat=>([(1,.ptr 0 none 0),(3,.int k)],[.cells 2 [p.cs]])) (fun k=>k≤p.es.length∧p.es.all (fun e=>z563 e p.loc)=(p.es.drop k).all (fun e=>z563 e p.loc)) (fun k=>p.es.length - k) 0 ⟨by omega,rfl⟩ ⟨[0],rfl,by decide,rfl,by repeat' (first|exact True.intro|exact ⟨rfl,rfl⟩|apply y45),by repeat' (first|exact True.intro|exact z15 rfl rfl|apply y45)⟩ ?_
 intro k hk
 by_cases hkl:k < p.es.length
 ·have ce:=z759 p.es[k] (hp.el _ (y46 _)) p.loc
  have e:=z149 (fun e=>z563 e p.loc) p.es k hkl
  rw [e] at hk
  have g0:(p.es.map Edge.cs)[k]?=some (Edge.cs p.es[k]):=by rw [y53,y47 hkl];rfl
  generalize z563 p.es[k] p.loc=b at *
  cases b
  all_goals
   repeat' ((first|(apply y4 ok;rfl)|(apply z32;kernel_rfl)|(refine z12 (i:=k) rfl g0 ?_)|(apply y45;first|omega|(unfold inI;omega))|((apply z5)<;>intro _)|(apply z6 (ce);rfl;rfl))<;>conv=>whnf)
   all_goals try (exfalso;omega)
  ·exact z23 rfl (by rw [hk.2];rfl)
  ·exact z68 (k+1) [0] ⟨by omega,by rw [hk.2,Bool.true_and]⟩ (by omega) ⟨rfl,by decide,rfl,by repeat' (first|exact True.intro|exact ⟨rfl,rfl⟩|apply y45),by repeat' (first|exact True.intro|exact z15 rfl rfl|apply y45)⟩
 ·have e:=z140 (fun e=>z563 e p.loc) p.es k (by omega)
  rw [e] at hk
  repeat' ((first|(apply y4 ok;rfl)|(apply y45;omega)|(((with_reducible apply z10;omega));intro _)|((apply z5)<;>intro _))<;>conv=>whnf)
  all_goals first|(exfalso;omega)|(refine z23 rfl ?_;rw [hk.2];simp only [Bool.true_and,Bool.false_and];first|(rw [decide_eq_decide];omega)|(rw [decide_eq_false_iff_not];omega))
noncomputable def sysB (s:Sys):Bool:=s.ps.all z553 && (z394 s.init && decide (1≤s.ps.length∧s.ps.length≤3))
theorem z547 (s:Sys) (hs:s.s1):CallsA Tryz.prog 248 [.agg s.cs] [] (.bool (sysB s)) []:=by
 have hl:=hs.len
 have hi:=hs.init
 have cv:=z738 s.init (by unfold maxLen;omega)
 unfold sysB
 generalize z394 s.init=vb at *
 refine z9 z17 Tryz.func248 rfl rfl 33 Tryz.ntmps248 (by simp) ?_
 repeat' (((apply y4 ok;rfl))<;>conv=>whnf)
 refine z80 (fun k:Nat=>([(1,.ptr 0 none 0),(3,.int k)],[.cells 2 [s.cs]])) (fun k=>k≤s.ps.length∧s.ps.all z553=(s.ps.drop k).all z553) (fun k=>s.ps.length - k) 0 ⟨by omega,rfl⟩ ⟨[0],rfl,by decide,rfl,by repeat' (first|exact True.intro|exact ⟨rfl,rfl⟩|apply y45),by repeat' (first|exact True.intro|exact z15 rfl rfl|apply y45)⟩ ?_
 intro k hk
 by_cases hkl:k < s.ps.length
 ·have ce:=z736 s.ps[k] (hs.el _ (y46 _))
  have e:=z149 z553 s.ps k hkl
  rw [e] at hk
  have g0:(s.ps.map Proc.cs)[k]?=some (Proc.cs s.ps[k]):=by rw [y53,y47 hkl];rfl
  generalize z553 s.ps[k]=b at *
  cases b
  all_goals
   repeat' ((first|(apply y4 ok;rfl)|(refine z12 (i:=k) rfl g0 ?_)|(apply y45;first|omega|(unfold inI;omega))|((apply z5)<;>intro _)|(apply z6 (ce);rfl;rfl))<;>conv=>whnf)
   all_goals try (exfalso;omega)
  ·exact z23 rfl (by rw [hk.2];rfl)
  ·exact z68 (k+1) [0] ⟨by omega,by rw [hk.2,Bool.true_and]⟩ (by omega) ⟨rfl,by decide,rfl,by repeat' (first|exact True.intro|exact ⟨rfl,rfl⟩|apply y45),by repeat' (first|exact True.intro|exact z15 rfl rfl|apply y45)⟩
 ·have e:=z140 z553 s.ps k (by omega)
  rw [e] at hk
  cases vb
  all_goals
   repeat' ((first|(apply y4 ok;rfl)|(apply y45;omega)|(((with_reducible apply z10;omega));intro _)|((apply z5)<;>intro _)|(apply z6 (cv);rfl;rfl))<;>conv=>whnf)
   all_goals first|(exfalso;omega)|(refine z23 rfl ?_;rw [hk.2];simp only [Bool.true_and,Bool.false_and];first|done|(rw [decide_eq_decide];omega)|(rw [decide_eq_false_iff_not];omega))
theorem z743 (s:Sys) (hs:s.s1):CallsA Tryz.prog 184 [.agg s.cs] [] (.tup [.agg (if sysB s then (⟨List.replicate s.ps.length 0,s.init⟩:State) else ⟨[],[]⟩).cs,.bool (sysB s)]) []:=by
 have hl:=hs.len
 have hi:=hs.init
 have c:=z547 s hs
 generalize sysB s=b at *
 refine z7 z17 Tryz.func184 rfl rfl 17 Tryz.ntmps184 (by simp) ?_
 cases b
 all_goals
  repeat' ((first|(apply y4 ok;rfl)|(apply z32;kernel_rfl)|(apply y45;first|(dsimp only;omega)|exact z75 (fun _=>rfl))|(apply z6 (c);rfl;rfl))<;>conv=>whnf)
 ·(refine rsD [] [] rfl ?_;(repeat' first|exact y88 _|exact z43|apply z52|apply z104|constructor))
 ·(refine rsD [] [2,4] rfl ?_;(repeat' first|exact y88 _|(refine z283 ?_;omega)|((apply z54 rfl rfl rfl);(focus ((repeat (first|exact z42 (fun _=>rfl) _|rfl));done));(focus (((simp;done));done)))|apply z52|apply z104|(refine z79 ?_ ?_;(focus (simp;done)))|constructor))
  exact z61 (by rw [z1033,if_pos rfl];simp only [List.map_replicate,y79];rfl)
def Sys.pr (s:Sys) (i:Nat):Proc:=s.ps.getD i ⟨0,[]⟩
def Proc.eg (p:Proc) (k:Nat):Edge:=p.es.getD k ⟨0,0,leaf 0 0,0,leaf 0 0,0⟩
theorem y14 {s:Sys} {i:Nat} (h:i < s.ps.length):(s.ps.map Proc.cs)[i]?=some (s.pr i).cs:=by
 unfold Sys.pr;rw [z20 h,y53,y47 h];rfl
theorem y11 {p:Proc} {k:Nat} (h:k < p.es.length):(p.es.map Edge.cs)[k]?=some (p.eg k).cs:=by
 unfold Proc.eg;rw [z20 h,y53,y47 h];rfl
structure Edge.ok (e:Edge) (n:Int):Prop where
 to:0≤e.to∧e.to < n
 gd:e.gd.good
 var : -1≤e.var∧e.var≤2
 val:0≤e.var→e.val.good
 sync : -2≤e.sync∧e.sync≤2
structure Sys.ok (s:Sys):Prop where
 n1:1≤s.ps.length
 n3:s.ps.length≤3
 ne:∀ i,i < s.ps.length→(s.pr i).es.length≤6
 loc:∀ i,i < s.ps.length→(s.pr i).loc≤4
 eg:∀ i k,i < s.ps.length→k < (s.pr i).es.length→((s.pr i).eg k).ok (s.pr i).loc
 init:ValsOk s.init
theorem Sys.ok_of {s:Sys} (h:sysB s=true):s.ok:=by
 unfold sysB at h
 rw [y73,y73,decide_eq_true_iff,y81] at h
 obtain ⟨h1,h2,h3⟩:=h
 have hp:∀ i,i < s.ps.length→z553 (s.pr i)=true:=fun i hi=>by unfold Sys.pr;rw [z20 hi];exact h1 _ (y46 _)
 have hq:∀ i,i < s.ps.length→(∀ e∈(s.pr i).es,z563 e (s.pr i).loc=true)∧1≤(s.pr i).loc∧(s.pr i).loc≤4∧(s.pr i).es.length≤6:=fun i hi=>by
  have:=hp i hi
  unfold z553 at this
  rw [y73,decide_eq_true_iff,y81] at this
  exact this
 refine ⟨h3.1,h3.2,fun i hi=>(hq i hi).2.2.2,fun i hi=>(hq i hi).2.2.1,fun i k hi hk=>?_,z687 h2⟩
 have he:=(hq i hi).1 ((s.pr i).eg k) (by unfold Proc.eg;rw [z20 hk];exact y46 _)
 unfold z563 at he
 simp only [y73,decide_eq_true_iff] at he
 obtain ⟨a1,a2,a3,a4⟩:=he
 refine ⟨⟨a1.2.2.1,a1.2.2.2.1⟩,y25 a2,⟨a3.2.2.1,by omega⟩,fun hv=>?_,⟨a3.1,a3.2.1⟩⟩
 rw [if_neg (by omega)] at a4
 exact y25 a4
noncomputable def rdyE (e:Edge) (st:State) (i:Nat):Bool:=decide (e.fr=st.a.getD i 0) && decide (e.gd.ev st.b≠0)
structure State.ok (st:State) (s:Sys):Prop where
 a:st.a.length=s.ps.length
 b:ValsOk st.b
theorem z585 (s:Sys) (hs:s.ok) (st:State) (h:st.ok s) (i k:Nat) (hi:i < s.ps.length) (hk:k < (s.pr i).es.length):CallsA Tryz.prog 249 [.agg s.cs,.agg st.cs,.int i,.int k] [] (.bool (rdyE ((s.pr i).eg k) st i)) []:=by
 have gp:=y14 hi
 have ge:=y11 hk
 have hE:=hs.eg i k hi hk
 have h3:=hs.n3
 have ha:=h.a
 have h6:=hs.ne i hi
 generalize (s.pr i).eg k=e at *
 have hb:=h.b.1
 have ga:(st.a.map enI)[i]?=some (enI (st.a.getD i 0)):=by rw [y53,z20 (show i < st.a.length by omega),y47 (by omega)];rfl
 have ce:=z518 st.b h.b e.gd hE.gd
 rw [y15] at ce
 unfold rdyE
 generalize st.a.getD i 0=x at *
 generalize s.pr i=p at *
 refine z9 z17 Tryz.func249 rfl rfl 35 Tryz.ntmps249 (by simp) ?_
 repeat' ((first|(apply y4 ok;rfl)|(apply z32;kernel_rfl)|(refine z12 (i:=i) rfl gp ?_)|(refine z12 (i:=k) rfl ge ?_)|(refine z12 (i:=i) rfl ga ?_)|(apply y45;omega)|((apply z5)<;>intro _)|(apply z6 (ce);rfl;rfl))<;>conv=>whnf)
 all_goals exact z23 rfl (by simp [*])
structure Stp where
 p:Int
 e:Int
 q:Int
 f:Int
def Stp.cs (x:Stp):List AC:=[.int x.p,.int x.e,.int x.q,.int x.f]
structure Stp.ok (x:Stp) (s:Sys):Prop where
 p:0≤x.p∧x.p < s.ps.length
 e:0≤x.e∧x.e < (s.pr x.p.toNat).es.length
 q : -1≤x.q∧x.q < s.ps.length
 f:0≤x.q→0≤x.f∧x.f < (s.pr x.q.toNat).es.length
open Classical in
noncomputable def z629 (s:Sys) (st:State) (i k:Nat) (j m:Nat):List Stp:=if j≠i∧((s.pr j).eg m).sync=-((s.pr i).eg k).sync∧rdyE ((s.pr j).eg m) st j=true then [⟨i,k,j,m⟩] else []
noncomputable def z630 (s:Sys) (st:State) (i k:Nat):List Stp:=cat s.ps.length fun j=>cat (s.pr j).es.length (z629 s st i k j)
theorem partL_ok {s:Sys} {st:State} {i k:Nat} (hi:i < s.ps.length) (hk:k < (s.pr i).es.length):∀ x∈z630 s st i k,x.ok s:=fun x hx=>by
 obtain ⟨j,hj,hx⟩:=z638 hx
 obtain ⟨m,hm,hx⟩:=z638 hx
 unfold z629 at hx
 split at hx
 ·rw [List.mem_singleton.1 hx]
  exact ⟨⟨by show 0≤(i:Int);omega,by show (i:Int) < _;omega⟩,⟨by show 0≤(k:Int);omega,by show (k:Int) < _;simpa using hk⟩,⟨by show -1≤(j:Int);omega,by show (j:Int) < _;omega⟩,fun _=>⟨by show 0≤(m:Int);omega,by show (m:Int) < _;simpa using hm⟩⟩
 ·cases hx
theorem z717 {s:Sys} (hs:s.ok) {st:State} {i k:Nat} : (z630 s st i k).length≤18:=by
 have h3:=hs.n3
 have:=z667 (n:=s.ps.length) (c:=6) (f:=fun j=>cat (s.pr j).es.length (z629 s st i k j)) (fun j hj=>by
  have h6:=hs.ne j hj
  have:=z667 (n:=(s.pr j).es.length) (c:=1) (f:=z629 s st i k j) (fun m _=>by unfold z629;split<;>simp)
  omega)
 unfold z630
 omega
set_option maxHeartbeats 1600000 in
theorem z643 (s:Sys) (hs:s.ok) (st:State) (h:st.ok s) (i k:Nat) (hi:i < s.ps.length) (hk:k < (s.pr i).es.length):CallsA Tryz.prog 250 [.agg s.cs,.agg st.cs,.int i,.int k] [] (lst 4 Stp.cs (z630 s st i k)) []:=by
  have gp:=y14 hi
  have ge:=y11 hk
  have h3:=hs.n3
  have h6:=hs.ne i hi
  have hE:=hs.eg i k hi hk
  have hsy:=hE.sync
  have hfin:z630 s st i k=cat s.ps.length (fun j=>cat (s.pr j).es.length (z629 s st i k j)):=rfl
  have hR1:∀ j m,(j≠i∧((s.pr j).eg m).sync=-((s.pr i).eg k).sync∧rdyE ((s.pr j).eg m) st j=true)→z629 s st i k j m=[⟨i,k,j,m⟩]:=fun _ _ h=>if_pos h
  have hR0:∀ j m,¬(j≠i∧((s.pr j).eg m).sync=-((s.pr i).eg k).sync∧rdyE ((s.pr j).eg m) st j=true)→z629 s st i k j m=[]:=fun _ _ h=>if_neg h
  generalize z630 s st i k=FIN at *
  generalize z629 s st i k=R at *
  generalize (s.pr i).eg k=e at *
  generalize hp:s.pr i=p at *
  refine z7 z17 Tryz.func250 rfl rfl 76 Tryz.ntmps250 (by simp) ?_
  repeat' ((first|(apply y4 ok;rfl)|(refine z12 (i:=i) rfl gp ?_)|(refine z12 (i:=k) rfl ge ?_)|(apply y45;omega))<;>conv=>whnf)
  refine z86 (fun x:Nat×List Stp=>([(2,.int i),(3,.int k),(4,.ptr 0 none 0),(5,.ptr 1 none 0),(9,.sref 2 0 x.2.length),(10,.int e.sync),(11,.int x.1)],[.cells 2 [s.cs],.cells 2 [st.cs],.cells 4 (x.2.map Stp.cs)])) (fun x=>x.1≤s.ps.length∧x.2.length≤6 * x.1∧x.2=cat x.1 fun j=>cat (s.pr j).es.length (R j)) (fun x=>s.ps.length - x.1) (0,[]) ⟨by omega,by simp,rfl⟩ (by refine swR [0,1,2] [] rfl rfl ?_;(repeat' first|exact y88 _|apply y89|refine z14 rfl (z33) ?_|constructor)) ?_
  rintro ⟨j,L⟩ ⟨hj,hLl,hL⟩
  simp only at hj hL hLl
  by_cases hjl:j < s.ps.length
  · have gj:=y14 hjl
    have hj6:=hs.ne j hjl
    repeat' ((first|(apply y4 ok;rfl)|((apply z5)<;>intro _))<;>conv=>whnf)
    all_goals try (exfalso;omega)
    refine z86 (fun x:Nat×List Stp=>([(2,.int i),(3,.int k),(4,.ptr 0 none 0),(5,.ptr 1 none 0),(9,.sref 2 0 x.2.length),(10,.int e.sync),(11,.int j),(12,.int x.1)],[.cells 2 [s.cs],.cells 2 [st.cs],.cells 4 (x.2.map Stp.cs)])) (fun x=>x.1≤(s.pr j).es.length∧x.2.length≤6 * j+x.1∧x.2=L++cat x.1 (R j)) (fun x=>(s.pr j).es.length - x.1) (0,L) ⟨by omega,by simpa using hLl,by rw [z930,y67]⟩ (by refine swR [0,1,2] [] rfl rfl ?_;(repeat' first|exact y88 _|exact z16 _|apply y89|refine z14 rfl (z4 (fun _=>rfl)) ?_|constructor)) ?_
    rintro ⟨m,M⟩ ⟨hm,hMl,hM⟩
    simp only at hm hM hMl
    by_cases hml:m < (s.pr j).es.length
    · have gm:=y11 hml
      have hl:=z585 s hs st h j m hjl hml
      have hR1m:=hR1 j m
      have hR0m:=hR0 j m
      have hcs:=z384 m (R j)
      have hE2:=(hs.eg j m hjl hml).sync
      generalize (s.pr j).eg m=e2 at *
      generalize rdyE e2 st j=rd at *
      generalize hpj:s.pr j=pj at *
      cases rd
      all_goals
        repeat' ((first|(apply y4 ok;rfl)|(refine z12 (i:=j) rfl gj ?_)|(refine z12 (i:=m) rfl gm ?_)|(apply y45;first|omega|(unfold inI;omega)|((try dsimp only);simp only [y51,y50,y49,y48,y60,y61];omega)|exact ⟨rfl,z22 rfl z29⟩)|((first|apply z5|apply z45)<;>intro _)|(apply z6 (hl);rfl;rfl))<;>conv=>whnf)
        all_goals try (exfalso;omega)
      all_goals first
        | (have hz := hR1m ⟨by omega, by omega, rfl⟩
           refine z41 (m+1,M++[⟨i,k,j,m⟩]) ⟨by omega,by simp;omega,by rw [hM,hcs,hz,List.append_assoc]⟩ (by show pj.es.length - (m+1) < pj.es.length - m;omega) (by refine swR [0,1,4] [] rfl rfl ?_;(repeat' first|exact y88 _|(refine z67 ?_;((simp;done)))|apply y89|((refine z40 rfl ?_ ?_);(focus ((repeat' (first|exact z4 (fun _=>rfl)|apply z27));done)))|(refine z97 ?_ ?_;(focus (omega)))|constructor)))
        | (have hz := hR0m (by rintro ⟨z1, z2, z3⟩; first | exact absurd z3 (by decide) | omega)
           refine z41 (m+1,M) ⟨by omega,by simp;omega,by rw [hM,hcs,hz,y67]⟩ (by show pj.es.length - (m+1) < pj.es.length - m;omega) (by refine swR [0,1,2] [] rfl rfl ?_;(repeat' first|exact y88 _|exact z16 _|apply y89|refine z14 rfl (z4 (fun _=>rfl)) ?_|constructor)))
    · repeat' ((first|(apply y4 ok;rfl)|(refine z12 (i:=j) rfl gj ?_)|(apply y45;first|omega|(unfold inI;omega))|(((with_reducible apply z10;omega));intro _)|((first|apply z5|apply z45)<;>intro _))<;>conv=>whnf)
      all_goals try (exfalso;omega)
      have e:m=(s.pr j).es.length:=by omega
      all_goals refine z41 (j+1,M) ⟨by omega,by simp;omega,by rw [hM,hL,e];exact (z384 j fun j=>cat (s.pr j).es.length (R j)).symm⟩ (by show s.ps.length - (j+1) < s.ps.length - j;omega) (by refine swR [0,1,2] [] rfl rfl ?_;(repeat' first|exact y88 _|exact z16 _|apply y89|refine z14 rfl (z4 (fun _=>rfl)) ?_|constructor))
  · have e:j=s.ps.length:=by omega
    have eL:L=FIN:=by rw [hfin,hL,e]
    subst eL
    repeat' ((first|(apply y4 ok;rfl)|((apply z5)<;>intro _))<;>conv=>whnf)
    all_goals try (exfalso;omega)
    all_goals (refine rsD [] [2] rfl ?_;(repeat' first|exact y88 _|((apply z54 rfl rfl rfl);(focus ((repeat ((exact z42 (fun _=>rfl) _)));done));(focus (((simp;done));done)))|constructor))
end Go.Proofs.YtjhgpfaodkchjaaGreat
namespace Go.Proofs.YtjhgpfaodkchjaaGreat
open Go.Gl
attribute [local irreducible] z19 AWP z25 z31 z28 RetS z38
noncomputable def z435 (s:Sys) (st:State) (j m:Nat):List Stp:=if ((s.pr j).eg m).sync < 0∨rdyE ((s.pr j).eg m) st j=false then [] else if ((s.pr j).eg m).sync=0 then [⟨j,m,-1,-1⟩] else z630 s st j m
noncomputable def z548 (s:Sys) (st:State):List Stp:=cat s.ps.length fun j=>cat (s.pr j).es.length (z435 s st j)
theorem z893 {s:Sys} {st:State} : ∀ x∈z548 s st,x.ok s:=fun x hx=>by
 obtain ⟨j,hj,hx⟩:=z638 hx
 obtain ⟨m,hm,hx⟩:=z638 hx
 unfold z435 at hx
 split at hx
 ·cases hx
 split at hx
 ·rw [List.mem_singleton.1 hx]
  exact ⟨⟨by show 0≤(j:Int);omega,by show (j:Int) < _;omega⟩,⟨by show 0≤(m:Int);omega,by show (m:Int) < _;simpa using hm⟩,⟨by show -1≤(-1:Int);omega,by show (-1:Int) < _;omega⟩,fun h=>absurd (show (0:Int)≤-1 from h) (by decide)⟩
 ·exact partL_ok hj hm x hx
set_option maxHeartbeats 1600000 in
theorem z974 (s:Sys) (hs:s.ok) (st:State) (h:st.ok s):CallsA Tryz.prog 185 [.agg s.cs,.agg st.cs] [] (lst 4 Stp.cs (z548 s st)) []:=by
  have h3:=hs.n3
  have hfin:z548 s st=cat s.ps.length (fun j=>cat (s.pr j).es.length (z435 s st j)):=rfl
  have hR0:∀ j m,(((s.pr j).eg m).sync < 0∨rdyE ((s.pr j).eg m) st j=false)→z435 s st j m=[]:=fun _ _ h=>if_pos h
  have hR1:∀ j m,¬(((s.pr j).eg m).sync < 0∨rdyE ((s.pr j).eg m) st j=false)→((s.pr j).eg m).sync=0→z435 s st j m=[⟨j,m,-1,-1⟩]:=fun _ _ h k=>by unfold z435;rw [if_neg h,if_pos k]
  have hR2:∀ j m,¬(((s.pr j).eg m).sync < 0∨rdyE ((s.pr j).eg m) st j=false)→((s.pr j).eg m).sync≠0→z435 s st j m=z630 s st j m:=fun _ _ h k=>by unfold z435;rw [if_neg h,if_neg k]
  generalize z548 s st=FIN at *
  generalize z435 s st=R at *
  refine z7 z17 Tryz.func185 rfl rfl 64 Tryz.ntmps185 (by simp) ?_
  repeat' (((apply y4 ok;rfl))<;>conv=>whnf)
  refine z86 (fun x:Nat×List Stp=>([(2,.ptr 0 none 0),(3,.ptr 1 none 0),(5,.sref 2 0 x.2.length),(6,.int x.1)],[.cells 2 [s.cs],.cells 2 [st.cs],.cells 4 (x.2.map Stp.cs)])) (fun x=>x.1≤s.ps.length∧x.2.length≤108 * x.1∧x.2=cat x.1 fun j=>cat (s.pr j).es.length (R j)) (fun x=>s.ps.length - x.1) (0,[]) ⟨by omega,by simp,rfl⟩ (by refine swR [0,1,2] [] rfl rfl ?_;(repeat' first|exact y88 _|apply y89|refine z14 rfl (z33) ?_|constructor)) ?_
  rintro ⟨j,L⟩ ⟨hj,hLl,hL⟩
  simp only at hj hL hLl
  by_cases hjl:j < s.ps.length
  · have gj:=y14 hjl
    have hj6:=hs.ne j hjl
    repeat' ((first|(apply y4 ok;rfl)|((apply z5)<;>intro _))<;>conv=>whnf)
    all_goals try (exfalso;omega)
    refine z86 (fun x:Nat×List Stp=>([(2,.ptr 0 none 0),(3,.ptr 1 none 0),(5,.sref 2 0 x.2.length),(6,.int j),(7,.int x.1)],[.cells 2 [s.cs],.cells 2 [st.cs],.cells 4 (x.2.map Stp.cs)])) (fun x=>x.1≤(s.pr j).es.length∧x.2.length≤108 * j+18 * x.1∧x.2=L++cat x.1 (R j)) (fun x=>(s.pr j).es.length - x.1) (0,L) ⟨by omega,by simpa using hLl,by rw [z930,y67]⟩ (by refine swR [0,1,2] [] rfl rfl ?_;(repeat' first|exact y88 _|exact z16 _|apply y89|refine z14 rfl (z4 (fun _=>rfl)) ?_|constructor)) ?_
    rintro ⟨m,M⟩ ⟨hm,hMl,hM⟩
    simp only at hm hM hMl
    by_cases hml:m < (s.pr j).es.length
    · have gm:=y11 hml
      have hl:=z585 s hs st h j m hjl hml
      have hP:=z643 s hs st h j m hjl hml
      have hPl:=z717 hs (st:=st) (i:=j) (k:=m)
      have hR0m:=hR0 j m
      have hR1m:=hR1 j m
      have hR2m:=hR2 j m
      have hcs:=z384 m (R j)
      have hE2:=(hs.eg j m hjl hml).sync
      generalize (s.pr j).eg m=e2 at *
      generalize rdyE e2 st j=rd at *
      generalize z630 s st j m=PL at *
      generalize hpj:s.pr j=pj at *
      cases rd
      all_goals
        repeat' ((first|(apply y4 ok;rfl)|(refine z12 (i:=j) rfl gj ?_)|(refine z12 (i:=m) rfl gm ?_)|(apply y45;first|omega|(unfold inI;omega)|((try dsimp only);simp only [y51,y50,y49,y48,y60,y61];omega)|exact z75 (fun _=>rfl)|exact ⟨rfl,z22 rfl z29⟩)|((apply z5)<;>intro _)|(apply z6 (hl);rfl;rfl)|(apply z6 (hP);rfl;rfl))<;>conv=>whnf)
        all_goals try (exfalso;omega)
      all_goals first
        | (have hz := hR2m (by rintro (z1 | z1) <;> first | omega | exact absurd z1 (by decide)) (by omega)
           refine z41 (m+1,M++PL) ⟨by omega,by simp;omega,by rw [hM,hcs,hz,List.append_assoc]⟩ (by show pj.es.length - (m+1) < pj.es.length - m;omega) (by refine swR [0,1,3] [] rfl rfl ?_;(repeat' first|exact y88 _|(refine z67 ?_;((simp;done)))|apply y89|((refine z14 rfl ?_ ?_);(focus ((repeat' (first|exact z4 (fun _=>rfl)|apply z53|apply z27));done)))|(refine z1165 ?_;(omega))|constructor)))
        | (have hz := hR1m (by rintro (z1 | z1) <;> first | omega | exact absurd z1 (by decide)) (by omega)
           refine z41 (m+1,M++[⟨j,m,-1,-1⟩]) ⟨by omega,by simp;omega,by rw [hM,hcs,hz,List.append_assoc]⟩ (by show pj.es.length - (m+1) < pj.es.length - m;omega) (by refine swR [0,1,4] [] rfl rfl ?_;(repeat' first|exact y88 _|(refine z67 ?_;((simp;done)))|apply y89|((refine z40 rfl ?_ ?_);(focus ((repeat' (first|exact z4 (fun _=>rfl)|apply z27));done)))|(refine z97 ?_ ?_;(focus (omega)))|constructor)))
        | (have hz := hR0m (by first | exact .inr rfl | exact .inl (by omega))
           refine z41 (m+1,M) ⟨by omega,by simp;omega,by rw [hM,hcs,hz,y67]⟩ (by show pj.es.length - (m+1) < pj.es.length - m;omega) (by refine swR [0,1,2] [] rfl rfl ?_;(repeat' first|exact y88 _|exact z16 _|apply y89|refine z14 rfl (z4 (fun _=>rfl)) ?_|constructor)))
    · repeat' ((first|(apply y4 ok;rfl)|(refine z12 (i:=j) rfl gj ?_)|(apply y45;first|omega|(unfold inI;omega))|(((with_reducible apply z10;omega));intro _)|((apply z5)<;>intro _))<;>conv=>whnf)
      all_goals try (exfalso;omega)
      have e:m=(s.pr j).es.length:=by omega
      all_goals refine z41 (j+1,M) ⟨by omega,by simp;omega,by rw [hM,hL,e];exact (z384 j fun j=>cat (s.pr j).es.length (R j)).symm⟩ (by show s.ps.length - (j+1) < s.ps.length - j;omega) (by refine swR [0,1,2] [] rfl rfl ?_;(repeat' first|exact y88 _|exact z16 _|apply y89|refine z14 rfl (z4 (fun _=>rfl)) ?_|constructor))
  · have e:j=s.ps.length:=by omega
    have eL:L=FIN:=by rw [hfin,hL,e]
    subst eL
    repeat' ((first|(apply y4 ok;rfl)|((apply z5)<;>intro _))<;>conv=>whnf)
    all_goals try (exfalso;omega)
    all_goals (refine rsD [] [2] rfl ?_;(repeat' first|exact y88 _|((apply z54 rfl rfl rfl);(focus ((repeat ((exact z42 (fun _=>rfl) _)));done));(focus (((simp;done));done)))|constructor))
noncomputable def z176 (st:State) (i:Nat) (e:Edge):State:=⟨st.a.set i e.to,if 0≤e.var then st.b.set e.var.toNat (e.val.ev st.b) else st.b⟩
theorem z614 {s:Sys} {st:State} (h:st.ok s) {i:Nat} {e:Edge} {n:Int} (he:e.ok n):(z176 st i e).ok s:=by
 refine ⟨by simp [z176,h.a],?_⟩
 unfold z176
 dsimp only
 split
 ·refine ⟨by simp [h.b.1],fun x hx=>?_⟩
  rcases List.mem_or_eq_of_mem_set hx with hx|rfl
  ·exact h.b.2 x hx
  ·exact y18 h.b _ (he.val (by assumption))
 ·exact h.b
theorem z735 (st:State) (e:Edge) (n:Int) (he:e.ok n) (i:Nat) (hi:i < st.a.length) (hl:st.a.length≤10) (hv:ValsOk st.b):CallsA Tryz.prog 251 [.agg [.sref 0 0 st.a.length,.sref 1 0 st.b.length],.int i,.agg e.cs] [.cells 1 (st.a.map enI),.cells 1 (st.b.map enI)] (.agg [.sref 0 0 st.a.length,.sref 1 0 st.b.length]) [.cells 1 ((z176 st i e).a.map enI),.cells 1 ((z176 st i e).b.map enI)]:=by
 have hb:=hv.1
 have hvar:=he.var
 by_cases h0:0≤e.var
 ·have c:=z518 st.b hv e.val (he.val h0)
  rw [y15] at c
  have hr:=y18 hv e.val (he.val h0)
  have e1:z176 st i e=⟨st.a.set i e.to,st.b.set e.var.toNat (e.val.ev st.b)⟩:=by unfold z176;rw [if_pos h0]
  rw [e1]
  generalize e.val.ev st.b=x at *
  refine z7 z17 Tryz.func251 rfl rfl 27 Tryz.ntmps251 (by simp) ?_
  repeat' ((first|(apply y4 ok;rfl)|(apply z32;kernel_rfl)|(apply y45;omega)|(((apply z10;omega));intro _)|((apply z5)<;>intro _)|(apply z95 [] [1] [] c;(focus ((repeat' first|exact z88|apply z51)<;>first|exact z210 rfl rfl rfl|rfl));rfl;rfl;(focus ((repeat' exact z13)<;>fail));((refine .inr ⟨rfl,?_⟩;repeat' first|exact True.intro|apply y45))))<;>conv=>whnf)
  all_goals first|(exfalso;omega)|exact h0|(show e.var.toNat < st.b.length;omega)|skip
  all_goals (refine rsD [0,1] [] rfl ?_;(repeat' first|exact y88 _|refine z73 rfl (z4 (fun _=>rfl)) ?_|refine z577 (by omega) ?_|constructor))
 ·have e1:z176 st i e=⟨st.a.set i e.to,st.b⟩:=by unfold z176;rw [if_neg h0]
  rw [e1]
  refine z7 z17 Tryz.func251 rfl rfl 27 Tryz.ntmps251 (by simp) ?_
  repeat' ((first|(apply y4 ok;rfl)|(apply y45;omega)|(((apply z10;omega));intro _)|((apply z5)<;>intro _))<;>conv=>whnf)
  all_goals try (exfalso;omega)
  all_goals (refine rsD [0,1] [] rfl ?_;(repeat' first|exact y88 _|exact z16 _|refine z73 rfl (z4 (fun _=>rfl)) ?_|refine z14 rfl (z4 (fun _=>rfl)) ?_|refine z577 (by omega) ?_|constructor))
noncomputable def z239 (s:Sys) (st:State) (x:Stp):State:=if 0≤x.q then z176 (z176 st x.p.toNat ((s.pr x.p.toNat).eg x.e.toNat)) x.q.toNat ((s.pr x.q.toNat).eg x.f.toNat) else z176 st x.p.toNat ((s.pr x.p.toNat).eg x.e.toNat)
theorem z905 {a:Int} {n:Nat} (h:0≤a) (h2:a < n):∃ m:Nat,a=m∧m < n:=⟨a.toNat,by omega,by omega⟩
theorem z777 {s:Sys} (hs:s.ok) {st:State} (h:st.ok s) {x:Stp} (hx:x.ok s):(z239 s st x).ok s:=by
 have hp:=hx.p
 have he:=hx.e
 have hq:=hx.q
 unfold z239
 have h1:=z614 (i:=x.p.toNat) h (hs.eg x.p.toNat x.e.toNat (by omega) (by omega))
 split
 ·rename_i hq0
  have hf:=hx.f hq0
  exact z614 h1 (hs.eg x.q.toNat x.f.toNat (by omega) (by omega))
 ·exact h1
theorem z690 (st:State) (i:Nat) (e:Edge):(z176 st i e).a.length=st.a.length∧(z176 st i e).b.length=st.b.length:=by
 unfold z176
 constructor
 ·simp
 ·dsimp only;split<;>simp
set_option maxHeartbeats 3200000 in
theorem z975 (s:Sys) (hs:s.ok) (st:State) (h:st.ok s) (x:Stp) (hx:x.ok s):CallsA Tryz.prog 186 [.agg s.cs,.agg st.cs,.agg x.cs] [] (.agg (z239 s st x).cs) []:=by
 have hn3:=hs.n3
 have ha:=h.a
 have hb:=h.b.1
 obtain ⟨p,e,q,f⟩:=x
 obtain ⟨hp,he,hq,hf⟩:=hx
 simp only at hp he hq hf
 obtain ⟨pi,rfl,hpi⟩:=z905 hp.1 hp.2
 simp only [y79] at he
 obtain ⟨ei,rfl,hei⟩:=z905 he.1 he.2
 have gp:=y14 hpi
 have ge:=y11 hei
 have hE:=hs.eg pi ei hpi hei
 have hP6:=hs.ne pi hpi
 have c1:=z735 st ((s.pr pi).eg ei) _ hE pi (by omega) (by omega) h.b
 have h1:=z614 (i:=pi) h hE
 have hl1:=z690 st pi ((s.pr pi).eg ei)
 rw [show st.a.length=0+st.a.length by omega,show st.b.length=0+st.b.length by omega] at c1
 by_cases hq0:0≤q
 ·have hf:=hf hq0
  obtain ⟨qi,rfl,hqi⟩:=z905 hq0 hq.2
  simp only [y79] at hf
  obtain ⟨fi,rfl,hfi⟩:=z905 hf.1 hf.2
  have gq:=y14 hqi
  have gf:=y11 hfi
  have hF:=hs.eg qi fi hqi hfi
  have hQ6:=hs.ne qi hqi
  have e0:z239 s st ⟨pi,ei,qi,fi⟩=z176 (z176 st pi ((s.pr pi).eg ei)) qi ((s.pr qi).eg fi):=by unfold z239;rw [if_pos hq0];rfl
  have c2:=z735 (z176 st pi ((s.pr pi).eg ei)) ((s.pr qi).eg fi) _ hF qi (by omega) (by omega) h1.b
  have hl2:=z690 (z176 st pi ((s.pr pi).eg ei)) qi ((s.pr qi).eg fi)
  rw [hl1.1,hl1.2,show st.a.length=0+st.a.length by omega,show st.b.length=0+st.b.length by omega] at c2
  rw [e0]
  generalize z176 (z176 st pi ((s.pr pi).eg ei)) qi ((s.pr qi).eg fi)=s2 at *
  generalize z176 st pi ((s.pr pi).eg ei)=s1 at *
  generalize (s.pr pi).eg ei=ed at *
  generalize (s.pr qi).eg fi=fd at *
  generalize s.pr pi=pp at *
  generalize s.pr qi=qq at *
  refine z7 z17 Tryz.func186 rfl rfl 51 Tryz.ntmps186 (by simp) ?_
  repeat' ((first|(apply y4 ok;rfl)|(apply z32;kernel_rfl)|(refine z12 (i:=pi) rfl gp ?_)|(refine z12 (i:=ei) rfl ge ?_)|(refine z12 (i:=qi) rfl gq ?_)|(refine z12 (i:=fi) rfl gf ?_)|(apply y45;first|omega|(dsimp only;omega)|exact z75 (fun _=>rfl))|((first|(apply z150 [5,7] [] c1;rfl;(focus ((repeat' first|exact z47|apply z59)<;>(refine z84 rfl ?_;((exact z4 fun _=>rfl))))))|(apply z150 [5,7] [] c2;rfl;(focus ((repeat' first|exact z47|apply z59)<;>(refine z84 rfl ?_;((exact z4 fun _=>rfl)))))));rfl;(focus ((repeat' first|exact z13|apply z11)<;>(refine z21 ?_;((exact z4 fun _=>rfl)))))))<;>conv=>whnf)
  all_goals (refine rsD [] [5,7] rfl ?_;(repeat' first|(refine z283 ?_;omega)|((apply z54 rfl rfl rfl);(focus ((repeat ((exact z42 (fun _=>rfl) _)));done));(focus (((simp;omega));done)))|apply z52|constructor))
 ·have e0:z239 s st ⟨pi,ei,q,f⟩=z176 st pi ((s.pr pi).eg ei):=by unfold z239;rw [if_neg hq0];rfl
  rw [e0]
  generalize z176 st pi ((s.pr pi).eg ei)=s1 at *
  generalize (s.pr pi).eg ei=ed at *
  generalize s.pr pi=pp at *
  refine z7 z17 Tryz.func186 rfl rfl 51 Tryz.ntmps186 (by simp) ?_
  repeat' ((first|(apply y4 ok;rfl)|(apply z32;kernel_rfl)|(refine z12 (i:=pi) rfl gp ?_)|(refine z12 (i:=ei) rfl ge ?_)|(apply y45;first|omega|(dsimp only;omega)|exact z75 (fun _=>rfl))|((apply z5)<;>intro _)|(apply z150 [5,7] [] c1;rfl;(focus ((repeat' first|exact z47|apply z59)<;>(refine z84 rfl ?_;((exact z4 fun _=>rfl)))));rfl;(focus ((repeat' first|exact z13|apply z11)<;>(refine z21 ?_;((exact z4 fun _=>rfl)))))))<;>conv=>whnf)
  all_goals first|(exfalso;apply hq0;assumption)|skip
  all_goals (refine rsD [] [5,7] rfl ?_;(repeat' first|(refine z283 ?_;omega)|((apply z54 rfl rfl rfl);(focus ((repeat ((exact z42 (fun _=>rfl) _)));done));(focus (((simp;omega));done)))|apply z52|constructor))
theorem z696 (a b:State) (ha:a.sm) (hb:b.sm):CallsA Tryz.prog 252 [.agg a.cs,.agg b.cs] [] (.bool (decide (a=b))) []:=by
 have h1:=ha.a
 have h2:=ha.b
 have h3:=hb.a
 have h4:=hb.b
 have c1:=z737 a.a b.a (by unfold maxLen;omega) (by unfold maxLen;omega)
 have c2:=z737 a.b b.b (by unfold maxLen;omega) (by unfold maxLen;omega)
 obtain ⟨a1,a2⟩:=a
 obtain ⟨b1,b2⟩:=b
 simp only at *
 have e:decide ((⟨a1,a2⟩:State)=⟨b1,b2⟩)=(decide (a1=b1) && decide (a2=b2)):=by
  by_cases h:a1=b1<;>by_cases k:a2=b2<;>simp [h,k]
 rw [e]
 generalize decide (a1=b1)=p at *
 generalize decide (a2=b2)=q at *
 refine z9 z17 Tryz.func252 rfl rfl 17 Tryz.ntmps252 (by simp) ?_
 cases p
 all_goals
  repeat' ((first|(apply y4 ok;rfl)|(apply z6 (c1);rfl;rfl)|(apply z6 (c2);rfl;rfl))<;>conv=>whnf)
  all_goals exact z23 rfl rfl
def z318 (t:State):List State→Int→Int
 |[],_=>-1
 |x::r,k=>if x=t then k else z318 t r (k+1)
theorem z853 (t:State):∀ (l:List State) (k:Int),0≤k→-1≤z318 t l k∧z318 t l k < k+l.length:=by
 intro l
 induction l with
 |nil=>intro k h;simp only [z318,y61];omega
 |cons x l ih =>
  intro k h
  simp only [z318,y60]
  split
  ·omega
  ·have:=ih (k+1) (by omega);omega
theorem z987 (t:State) (l:List State) (k:Nat) (h:k < l.length):z318 t (l.drop k) k=if l[k]=t then (k:Int) else z318 t (l.drop (k+1)) ((k+1:Nat):Int):=by
 rw [y82 h,z318];rfl
theorem z1106 (l:List State) (t:State) (hl:l.length≤1000) (hs:∀ s∈l,s.sm) (ht:t.sm):CallsA Tryz.prog 187 [lst 2 State.cs l,.agg t.cs] [] (.int (z318 t l 0)) []:=by
 refine z9 z17 Tryz.func187 rfl rfl 19 Tryz.ntmps187 (by simp) ?_
 repeat' (((apply y4 ok;rfl))<;>conv=>whnf)
 refine z80 (fun k:Nat=>([(0,lst 2 State.cs l),(3,.ptr 0 none 0),(5,.int k)],[.cells 2 [t.cs]])) (fun k=>k≤l.length∧z318 t l 0=z318 t (l.drop k) k) (fun k=>l.length - k) 0 ⟨by omega,rfl⟩ ⟨[0],rfl,by decide,rfl,by repeat' (first|exact True.intro|exact ⟨rfl,rfl⟩|apply y45),by repeat' (first|exact True.intro|exact z15 rfl rfl|apply y45)⟩ ?_
 intro k hk
 by_cases hkl:k < l.length
 ·have c:=z696 l[k] t (hs _ (y46 _)) ht
  have e:=z987 t l k hkl
  rw [e] at hk
  have g0:(l.map State.cs)[k]?=some (State.cs l[k]):=by rw [y53,y47 hkl];rfl
  by_cases hx:l[k]=t
  ·rw [if_pos hx] at hk
   rw [y84 hx] at c
   generalize l[k]=x at *
   repeat' ((first|(apply y4 ok;rfl)|(apply z32;kernel_rfl)|(refine z12 (i:=k) rfl g0 ?_)|(apply y45;omega)|((apply z5)<;>intro _)|(apply z6 (c);rfl;rfl))<;>conv=>whnf)
   all_goals first|(exfalso;omega)|exact z503 rfl hk.2
  ·rw [if_neg hx] at hk
   rw [y85 hx] at c
   generalize l[k]=x at *
   repeat' ((first|(apply y4 ok;rfl)|(apply z32;kernel_rfl)|(refine z12 (i:=k) rfl g0 ?_)|(apply y45;first|omega|(unfold inI;omega))|((apply z5)<;>intro _)|(apply z6 (c);rfl;rfl))<;>conv=>whnf)
   all_goals try (exfalso;omega)
   exact z68 (k+1) [0] ⟨by omega,hk.2⟩ (by omega) ⟨rfl,by decide,rfl,by repeat' (first|exact True.intro|exact ⟨rfl,rfl⟩|apply y45),by repeat' (first|exact True.intro|exact z15 rfl rfl|apply y45)⟩
 ·have e:l.drop k=[]:=y86 (by omega)
  rw [e] at hk
  repeat' ((first|(apply y4 ok;rfl)|(apply y45;omega)|(((with_reducible apply z10;omega));intro _)|((apply z5)<;>intro _))<;>conv=>whnf)
  all_goals first|(exfalso;omega)|exact z503 rfl hk.2
end Go.Proofs.YtjhgpfaodkchjaaGreat
namespace Go.Proofs.YtjhgpfaodkchjaaGreat
open Go.Gl
attribute [local irreducible] z19 AWP z25 z31 z28 RetS z38
open Classical in
noncomputable def inn (s:Sys) (st0:State):List Stp→List State→List Int→Option (List State×List Int)
 |[],S,N=>some (S,N)
 |x::r,S,N =>
  if z318 (z239 s st0 x) S 0 < 0 then
   (if 60≤(S.length:Int) then none else inn s st0 r (S++[z239 s st0 x]) (if (S.length:Int)∈N then N else N++[(S.length:Int)]))
  else
   (if 60≤z318 (z239 s st0 x) S 0 then none else inn s st0 r S (if z318 (z239 s st0 x) S 0∈N then N else N++[z318 (z239 s st0 x) S 0]))
open Classical in
noncomputable def z708 (L:List Stp) (N:List Int) (i:Nat):List Int:=if L=[] then N++[(i:Int)] else N
noncomputable def grow (s:Sys):Nat→List State→List (List Int)→Nat→Option Graph
 |0,_,_,_=>none
 |f+1,S,G,i=>match S[i]? with
  |none=>some ⟨S,G⟩
  |some st0=>match inn s st0 (z548 s st0) S [] with
   |none=>none
   |some (S',N)=>grow s f S' (G++[z708 (z548 s st0) N i]) (i+1)
theorem State.ok.sm {s:Sys} (hs:s.ok) {st:State} (h:st.ok s):st.sm:=⟨by have:=h.a;have:=hs.n3;omega,by have:=h.b.1;omega⟩
theorem z695 {s:Sys} (hs:s.ok) {st:State} : (z548 s st).length≤324:=by
 have h3:=hs.n3
 have:=z667 (n:=s.ps.length) (c:=108) (f:=fun j=>cat (s.pr j).es.length (z435 s st j)) (fun j hj=>by
  have h6:=hs.ne j hj
  have:=z667 (n:=(s.pr j).es.length) (c:=18) (f:=z435 s st j) (fun m _=>by
   unfold z435
   split
   ·simp
   split
   ·simp
   ·exact z717 hs)
  omega)
 unfold z548
 omega
structure GInv (s:Sys) (S:List State) (G:List (List Int)) (i:Nat):Prop where
 le:i≤S.length
 n:S.length≤60
 one:1≤S.length
 g:G.length=i
 st:∀ t∈S,t.ok s
 row:∀ r∈G,r.length≤400
theorem inn_inv {s:Sys} (hs:s.ok) {st0:State} (h0:st0.ok s):∀ (L:List Stp),(∀ x∈L,x.ok s)→∀ (S:List State) (N:List Int) (S' : List State) (N' : List Int),S.length≤60→(∀ t∈S,t.ok s)→inn s st0 L S N=some (S',N')→S'.length≤60∧S.length≤S'.length∧(∀ t∈S',t.ok s)∧N'.length≤N.length+L.length∧∀ i,i < S.length→S'[i]?=S[i]?:=by
 intro L
 induction L with
 |nil =>
  intro _ S N S' N' h1 h2 h3
  simp only [inn,Option.some.injEq,Prod.mk.injEq] at h3
  obtain ⟨rfl,rfl⟩:=h3
  exact ⟨h1,y54 _,h2,by simp,fun _ _=>rfl⟩
 |cons x L ih =>
  intro hx S N S' N' h1 h2 h3
  have hxo:=z777 hs h0 (hx x (by simp))
  have ih:=ih fun y hy=>hx y (by simp [hy])
  simp only [inn] at h3
  split at h3
  ·split at h3
   ·cases h3
   ·obtain ⟨a1,a2,a3,a4,a5⟩:=ih _ _ S' N' (by simp;omega) (fun t ht=>by
     rcases List.mem_append.1 ht with h|h
     ·exact h2 t h
     ·rw [List.mem_singleton.1 h];exact hxo) h3
    refine ⟨a1,by simp at a2;omega,a3,?_,fun i hi=>by rw [a5 i (by simp;omega),y68 hi]⟩
    simp only [y60]
    split at a4<;>(try simp at a4)<;>omega
  ·split at h3
   ·cases h3
   ·obtain ⟨a1,a2,a3,a4,a5⟩:=ih _ _ S' N' h1 h2 h3
    refine ⟨a1,a2,a3,?_,a5⟩
    simp only [y60]
    split at a4<;>(try simp at a4)<;>omega
theorem grow_inv {s:Sys} (hs:s.ok):∀ (f:Nat) (S:List State) (G:List (List Int)) (i:Nat) (g:Graph),GInv s S G i→grow s f S G i=some g→GInv s g.st g.nx g.st.length:=by
 intro f
 induction f with
 |zero=>intro S G i g _ h;simp [grow] at h
 |succ f ih =>
  intro S G i g hI h
  simp only [grow] at h
  split at h
  ·rename_i hn
   simp only [Option.some.injEq] at h
   subst h
   have:S.length≤i:=List.getElem?_eq_none_iff.1 hn
   have e:i=S.length:=by have:=hI.le;omega
   subst e
   exact hI
  ·rename_i st0 hst
   have hil:=(List.getElem?_eq_some_iff.1 hst).1
   have h0:=hI.st st0 (List.mem_of_getElem? hst)
   split at h
   ·cases h
   ·rename_i S' N hin
    obtain ⟨a1,a2,a3,a4,a5⟩:=inn_inv hs h0 _ (fun x hx=>z893 x hx) _ _ _ _ hI.n hI.st hin
    have hl:=z695 hs (st:=st0)
    refine ih _ _ _ _ ⟨by omega,a1,by have:=hI.one;omega,by simp [hI.g],a3,fun r hr=>?_⟩ h
    rcases List.mem_append.1 hr with h|h
    ·exact hI.row r h
    ·rw [List.mem_singleton.1 h]
     unfold z708
     simp only [y61] at a4
     split<;>(try simp)<;>omega
end Go.Proofs.YtjhgpfaodkchjaaGreat
namespace Go.Proofs.YtjhgpfaodkchjaaGreat
open Go.Gl
attribute [local irreducible] z19 AWP z25 z31 z28 RetS z38
noncomputable def z330 (s:Sys):Option Graph:=if sysB s=true then grow s 61 [⟨List.replicate s.ps.length 0,s.init⟩] [] 0 else none
theorem z603 {q:Bool} : LocLe (.tup [.agg [.nils,.nils],.bool q]) (.tup [.agg (⟨[],[]⟩:Graph).cs,.bool q]):=z104 (.cons (z52 (.cons z43 (.cons z43 .nil))) (.cons (y88 _) .nil))
theorem z417 {objs:Nat→AObj} {π Bn:List Nat} {o:Nat} {l:List State} (ho:objs o=.cells 2 (l.map State.cs)) (h1:idx π o=none) (h2:inB Bn o=true):bor objs π Bn (.sref o 0 l.length)=lst 2 State.cs l :=
 z209 ho h1 h2 (by simp) (z42 (fun _=>rfl) _)
set_option maxHeartbeats 6400000 in
theorem z668 (s:Sys) (hsm:s.s1):CallsA Tryz.prog 108 [.agg s.cs] [] (.tup [.agg ((z330 s).getD ⟨[],[]⟩).cs,.bool (z330 s).isSome]) []:=by
 have c0:=z743 s hsm
 by_cases hv:sysB s=true
 ·have hs:=Sys.ok_of hv
  have hn3:=hs.n3
  have eb:z330 s=grow s 61 [⟨List.replicate s.ps.length 0,s.init⟩] [] 0:=by unfold z330;rw [if_pos hv]
  rw [if_pos hv,hv] at c0
  have hI0:GInv s [⟨List.replicate s.ps.length 0,s.init⟩] [] 0:=⟨by simp,by simp,by simp,rfl,fun t ht=>by
   rw [List.mem_singleton.1 ht]
   exact ⟨by simp,hs.init⟩,by simp⟩
  rw [eb]
  generalize (⟨List.replicate s.ps.length 0,s.init⟩:State)=st1 at *
  generalize hR:grow s 61 [st1] [] 0=R at *
  refine z7 z17 Tryz.func108 rfl rfl 96 Tryz.ntmps108 (by simp) ?_
  repeat' ((first|(apply y4 ok;rfl)|(apply z6 (c0);rfl;rfl))<;>conv=>whnf)
  refine y87 (y90 1 rfl) ?_
  refine z86 (fun x:Nat×List State×List (List Int)=>([(1,.ptr 0 none 0),(2,.ptr 1 none 0),(6,.ptr 2 none 0),(7,.int x.1)],[.cells 2 [s.cs],.cells 2 [[.nils,.nils]],.cells 2 [[.sref 3 0 x.2.1.length,.sref 4 0 x.2.2.length]],.cells 2 (x.2.1.map State.cs),.cells 1 (x.2.2.map encL)])) (fun x=>GInv s x.2.1 x.2.2 x.1∧grow s (61 - x.1) x.2.1 x.2.2 x.1=R) (fun x=>61 - x.1) (0,[st1],[]) ⟨hI0,hR⟩ (by refine swR [0,1,4,3,5] [] rfl rfl ?_;(repeat' first|exact y88 _|exact z46|apply y89|refine z14 rfl (z33) ?_|constructor)) ?_
  rintro ⟨i,S,G⟩ ⟨hI,hg⟩
  simp only at hI hg
  have hS60:=hI.n
  have hGi:=hI.g
  have hile:=hI.le
  by_cases hil:i < S.length
  ·obtain ⟨st0,hst⟩:∃ st0,S[i]?=some st0:=⟨S[i],y47 hil⟩
   have h0:=hI.st st0 (List.mem_of_getElem? hst)
   rw [show 61 - i=(60 - i)+1 by omega,grow,hst] at hg
   dsimp only at hg
   have cS:=z974 s hs st0 h0
   have hLl:=z695 hs (st:=st0)
   have hLo:∀ x∈z548 s st0,x.ok s:=fun x hx=>z893 x hx
   have gS:(S.map State.cs)[i]?=some (State.cs st0):=by rw [y53,hst];rfl
   generalize z548 s st0=LST at *
   generalize hRIN:inn s st0 LST S []=RIN at *
   repeat' ((first|(apply y4 ok;rfl)|(apply z32;kernel_rfl)|(refine z12 (i:=i) rfl gS ?_)|(apply y45;omega)|((apply z5)<;>intro _)|(apply z6 (cS);rfl;rfl))<;>conv=>whnf)
   all_goals first|(exfalso;dsimp only at *;omega)|skip
   refine z86 (fun x:Nat×List State×List Int=>([(1,.ptr 0 none 0),(2,.ptr 1 none 0),(6,.ptr 2 none 0),(7,.int i),(8,lst 4 Stp.cs LST),(9,.sref 5 0 x.2.2.length),(10,.int x.1)],[.cells 2 [s.cs],.cells 2 [[.nils,.nils]],.cells 2 [[.sref 3 0 x.2.1.length,.sref 4 0 G.length]],.cells 2 (x.2.1.map State.cs),.cells 1 (G.map encL),.cells 1 (x.2.2.map enI)])) (fun x=>x.1≤LST.length∧x.2.1.length≤60∧(∀ t∈x.2.1,t.ok s)∧x.2.1[i]?=some st0∧x.2.2.length≤x.1∧inn s st0 (LST.drop x.1) x.2.1 x.2.2=RIN) (fun x=>LST.length - x.1) (0,S,[]) ⟨by simp,hS60,hI.st,hst,by simp,hRIN⟩ (by refine swR [0,1,2,3,4,5] [] rfl rfl ?_;(repeat' first|exact y88 _|exact z16 _|apply y89|((refine z14 rfl ?_ ?_);(focus ((repeat' (first|exact z33|exact z4 (fun _=>rfl)));done)))|constructor)) ?_
   rintro ⟨k,S',N⟩ ⟨hk,hS',hSo,hSi,hN,hin⟩
   simp only at hk hS' hSo hSi hN hin
   by_cases hkl:k < LST.length
   ·rw [y82 hkl,inn] at hin
    have hx:=hLo LST[k] (y46 _)
    have g1:(LST.map Stp.cs)[k]?=some (Stp.cs LST[k]):=by rw [y53,y47 hkl];rfl
    have c83:=z975 s hs st0 h0 LST[k] hx
    have hto:=z777 hs h0 hx
    have g0:(S'.map State.cs)[i]?=some (State.cs st0):=by rw [y53,hSi];rfl
    have hiS:i < S'.length:=(List.getElem?_eq_some_iff.1 hSi).1
    generalize z239 s st0 LST[k]=to at *
    have c84:=z1106 S' to (by omega) (fun t ht=>(hSo t ht).sm hs) (hto.sm hs)
    have hfr:=z853 to S' 0 (by omega)
    generalize z318 to S' 0=n at *
    generalize LST[k]=x at *
    have cN:=fun v=>z1105 N (by unfold maxLen;omega) v
    by_cases hn:n < 0
    ·rw [if_pos hn] at hin
     by_cases h60:60≤(S'.length:Int)
     ·rw [if_pos h60] at hin
      subst hin
      dsimp only at hg
      subst hg
      repeat' ((first|(apply y4 ok;rfl)|(apply z32;kernel_rfl)|(refine z12 (i:=i) rfl g0 ?_)|(refine z12 (i:=k) rfl g1 ?_)|(apply y45;first|omega|(dsimp only;omega)|((try dsimp only);simp only [y51,y50,y49,y48,y60,y61];omega)|exact ⟨rfl,z22 rfl z29⟩)|((apply z5)<;>intro _)|(apply z6 (c83);rfl;rfl)|(apply z95 [] [3] [] c84;(focus (exact z51 (z417 rfl rfl rfl) (z51 rfl z88)));rfl;rfl;(focus ((repeat' exact z13)<;>fail));((refine .inr ⟨rfl,?_⟩;repeat' exact True.intro))))<;>conv=>whnf)
      all_goals first|(exfalso;omega)|(exfalso;dsimp only at *;omega)|skip
      all_goals refine y13 [] [] rfl rfl rfl ?_
      all_goals exact y12 z603 .nil
     ·rw [if_neg h60] at hin
      have cM:=cN S'.length
      by_cases hm:(S'.length:Int)∈N
      ·rw [if_pos hm] at hin
       rw [y84 hm] at cM
       repeat' ((first|(apply y4 ok;rfl)|(apply z32;kernel_rfl)|(refine z12 (i:=i) rfl g0 ?_)|(refine z12 (i:=k) rfl g1 ?_)|(apply y45;first|omega|(unfold inI;omega)|(dsimp only;omega)|((try dsimp only);simp only [y51,y50,y49,y48,y60,y61];omega)|exact ⟨rfl,z22 rfl z29⟩)|((apply z5)<;>intro _)|(apply z6 (c83);rfl;rfl)|((first|(apply z95 [] [3] [] c84;(focus (exact z51 (z417 rfl rfl rfl) (z51 rfl z88)));rfl)|(apply z95 [] [5] [] cM;(focus ((repeat' first|exact z88|apply z51)<;>first|exact z210 rfl rfl rfl|rfl));rfl));rfl;(focus ((repeat' exact z13)<;>fail));((refine .inr ⟨rfl,?_⟩;repeat' exact True.intro))))<;>conv=>whnf)
       all_goals first|(exfalso;omega)|(exfalso;contradiction)|skip
       all_goals refine z41 (k+1,S'++[to],N) ⟨by omega,by simp;omega,fun t ht=>by rcases List.mem_append.1 ht with h|h;exact hSo t h;rw [List.mem_singleton.1 h];exact hto,by rw [← hSi];exact y68 hiS,by show N.length≤k+1;omega,hin⟩ (by show LST.length - (k+1) < LST.length - k;omega) (by refine swR [0,1,2,8,4,5] [] rfl rfl ?_;(repeat' first|exact y88 _|exact z16 _|(refine z67 ?_;((simp;done)))|apply y89|((first|refine z40 rfl ?_ ?_|refine z14 rfl ?_ ?_);(focus ((repeat' (first|exact z4 (fun _=>rfl)|apply z27));done)))|(refine z97 ?_ ?_;(focus (omega)))|constructor))
      ·rw [if_neg hm] at hin
       rw [y85 hm] at cM
       repeat' ((first|(apply y4 ok;rfl)|(apply z32;kernel_rfl)|(refine z12 (i:=i) rfl g0 ?_)|(refine z12 (i:=k) rfl g1 ?_)|(apply y45;first|omega|(unfold inI;omega)|(dsimp only;omega)|((try dsimp only);simp only [y51,y50,y49,y48,y60,y61];omega)|exact ⟨rfl,z22 rfl z29⟩)|((apply z5)<;>intro _)|(apply z6 (c83);rfl;rfl)|((first|(apply z95 [] [3] [] c84;(focus (exact z51 (z417 rfl rfl rfl) (z51 rfl z88)));rfl)|(apply z95 [] [5] [] cM;(focus ((repeat' first|exact z88|apply z51)<;>first|exact z210 rfl rfl rfl|rfl));rfl));rfl;(focus ((repeat' exact z13)<;>fail));((refine .inr ⟨rfl,?_⟩;repeat' exact True.intro))))<;>conv=>whnf)
       all_goals first|(exfalso;omega)|(exfalso;contradiction)|skip
       all_goals refine z41 (k+1,S'++[to],N++[(S'.length:Int)]) ⟨by omega,by simp;omega,fun t ht=>by rcases List.mem_append.1 ht with h|h;exact hSo t h;rw [List.mem_singleton.1 h];exact hto,by rw [← hSi];exact y68 hiS,by simp;omega,hin⟩ (by show LST.length - (k+1) < LST.length - k;omega) (by refine swR [0,1,2,8,4,10] [] rfl rfl ?_;(repeat' first|exact y88 _|exact z16 _|(refine z67 ?_;((simp;done)))|apply y89|((first|refine z40 rfl ?_ ?_|refine z14 rfl ?_ ?_);(focus ((repeat' (first|exact z4 (fun _=>rfl)|apply z27));done)))|(refine z97 ?_ ?_;(focus (omega)))|constructor))
    ·rw [if_neg hn] at hin
     by_cases h60:60≤n
     ·rw [if_pos h60] at hin
      subst hin
      dsimp only at hg
      subst hg
      repeat' ((first|(apply y4 ok;rfl)|(apply z32;kernel_rfl)|(refine z12 (i:=i) rfl g0 ?_)|(refine z12 (i:=k) rfl g1 ?_)|(apply y45;omega)|((apply z5)<;>intro _)|(apply z6 (c83);rfl;rfl)|(apply z95 [] [3] [] c84;(focus (exact z51 (z417 rfl rfl rfl) (z51 rfl z88)));rfl;rfl;(focus ((repeat' exact z13)<;>fail));((refine .inr ⟨rfl,?_⟩;repeat' exact True.intro))))<;>conv=>whnf)
      all_goals (exfalso;omega)
      all_goals refine y13 [] [] rfl rfl rfl ?_
      all_goals exact y12 z603 .nil
     ·rw [if_neg h60] at hin
      have cM:=cN n
      by_cases hm:n∈N
      ·rw [if_pos hm] at hin
       rw [y84 hm] at cM
       repeat' ((first|(apply y4 ok;rfl)|(apply z32;kernel_rfl)|(refine z12 (i:=i) rfl g0 ?_)|(refine z12 (i:=k) rfl g1 ?_)|(apply y45;first|omega|(unfold inI;omega)|(dsimp only;omega))|((apply z5)<;>intro _)|(apply z6 (c83);rfl;rfl)|((first|(apply z95 [] [3] [] c84;(focus (exact z51 (z417 rfl rfl rfl) (z51 rfl z88)));rfl)|(apply z95 [] [5] [] cM;(focus ((repeat' first|exact z88|apply z51)<;>first|exact z210 rfl rfl rfl|rfl));rfl));rfl;(focus ((repeat' exact z13)<;>fail));((refine .inr ⟨rfl,?_⟩;repeat' exact True.intro))))<;>conv=>whnf)
       all_goals try (exfalso;omega)
       all_goals refine z41 (k+1,S',N) ⟨by omega,hS',hSo,hSi,by show N.length≤k+1;omega,hin⟩ (by show LST.length - (k+1) < LST.length - k;omega) (by refine swR [0,1,2,3,4,5] [] rfl rfl ?_;(repeat' first|exact y88 _|exact z16 _|apply y89|refine z14 rfl (z4 (fun _=>rfl)) ?_|constructor))
      ·rw [if_neg hm] at hin
       rw [y85 hm] at cM
       repeat' ((first|(apply y4 ok;rfl)|(apply z32;kernel_rfl)|(refine z12 (i:=i) rfl g0 ?_)|(refine z12 (i:=k) rfl g1 ?_)|(apply y45;first|omega|(unfold inI;omega)|(dsimp only;omega)|((try dsimp only);simp only [y51,y50,y49,y48,y60,y61];omega)|exact ⟨rfl,z22 rfl z29⟩)|((apply z5)<;>intro _)|(apply z6 (c83);rfl;rfl)|((first|(apply z95 [] [3] [] c84;(focus (exact z51 (z417 rfl rfl rfl) (z51 rfl z88)));rfl)|(apply z95 [] [5] [] cM;(focus ((repeat' first|exact z88|apply z51)<;>first|exact z210 rfl rfl rfl|rfl));rfl));rfl;(focus ((repeat' exact z13)<;>fail));((refine .inr ⟨rfl,?_⟩;repeat' exact True.intro))))<;>conv=>whnf)
       all_goals try (exfalso;omega)
       all_goals refine z41 (k+1,S',N++[n]) ⟨by omega,hS',hSo,hSi,by simp;omega,hin⟩ (by show LST.length - (k+1) < LST.length - k;omega) (by refine swR [0,1,2,3,4,8] [] rfl rfl ?_;(repeat' first|exact y88 _|exact z16 _|(refine z67 ?_;((simp;done)))|apply y89|((first|refine z40 rfl ?_ ?_|refine z14 rfl ?_ ?_);(focus ((repeat' (first|exact z4 (fun _=>rfl)|apply z27));done)))|(refine z97 ?_ ?_;(focus (omega)))|constructor))
   ·rw [y86 (by omega),inn] at hin
    subst hin
    dsimp only at hg
    have hiS:i < S'.length:=(List.getElem?_eq_some_iff.1 hSi).1
    have hnext:GInv s S' (G++[z708 LST N i]) (i+1):=⟨by omega,hS',by omega,by simp [hGi],hSo,fun r hr=>by
     rcases List.mem_append.1 hr with h|h
     ·exact hI.row r h
     ·rw [List.mem_singleton.1 h]
      unfold z708
      split<;>(try simp)<;>omega⟩
    rw [show 60 - i=61 - (i+1) by omega] at hg
    by_cases hz:LST=[]
    ·have er:z708 LST N i=N++[(i:Int)]:=by unfold z708;rw [if_pos hz]
     have hz0:LST.length=0:=by rw [hz];rfl
     rw [er] at hg hnext
     repeat' ((first|(apply y4 ok;rfl)|(apply y45;first|omega|(unfold inI;omega)|(dsimp only;omega)|((try dsimp only);simp only [y51,y50,y49,y48,y60,y61];omega)|exact ⟨rfl,z22 rfl z29⟩)|((first|(with_reducible apply z10;omega)|(apply z10;omega));intro _)|((apply z5)<;>intro _))<;>conv=>whnf)
     all_goals try (exfalso;omega)
     all_goals refine z41 (i+1,S',G++[N++[(i:Int)]]) ⟨hnext,hg⟩ (by show 61 - (i+1) < 61 - i;omega) (by refine swR [0,1,2,3,9] [7] rfl rfl ?_;(repeat' first|exact y88 _|exact z16 _|(refine z67 ?_;((simp;done)))|apply y89|((first|refine z40 rfl ?_ ?_|refine z14 rfl ?_ ?_);(focus ((repeat' (first|exact z4 (fun _=>rfl)|apply z27));done)))|(refine z97 ?_ ?_;(focus (omega)))|((apply z82 rfl rfl rfl);(focus ((repeat (first|exact z42 (fun _=>rfl) _|apply z141|apply z198|rfl));done));(focus (((simp;done));done)))|(refine z79 ?_ ?_;(focus (simp;done)))|constructor))
    ·have er:z708 LST N i=N:=by unfold z708;rw [if_neg hz]
     have hz0:LST.length≠0:=fun h=>hz (y76 h)
     rw [er] at hg hnext
     repeat' ((first|(apply y4 ok;rfl)|(apply y45;first|omega|(unfold inI;omega)|((try dsimp only);simp only [y51,y50,y49,y48,y60,y61];omega)|exact ⟨rfl,z22 rfl z29⟩)|((first|(with_reducible apply z10;omega)|(apply z10;omega));intro _)|((apply z5)<;>intro _))<;>conv=>whnf)
     all_goals try (exfalso;omega)
     all_goals refine z41 (i+1,S',G++[N]) ⟨hnext,hg⟩ (by show 61 - (i+1) < 61 - i;omega) (by refine swR [0,1,2,3,7] [5] rfl rfl ?_;(repeat' first|exact y88 _|exact z16 _|(refine z67 ?_;((simp;done)))|apply y89|((first|refine z40 rfl ?_ ?_|refine z14 rfl ?_ ?_);(focus ((repeat' (first|exact z4 (fun _=>rfl)|apply z27));done)))|(refine z97 ?_ ?_;(focus (omega)))|((apply z82 rfl rfl rfl);(focus ((repeat ((exact z42 (fun _=>rfl) _)));done));(focus (((simp;done));done)))|constructor))
  ·have hn:S[i]?=none:=List.getElem?_eq_none_iff.2 (by omega)
   rw [show 61 - i=(60 - i)+1 by omega,grow,hn] at hg
   dsimp only at hg
   subst hg
   repeat' ((first|(apply y4 ok;rfl)|(apply y45;omega)|(((apply z10;omega));intro _)|((apply z5)<;>intro _))<;>conv=>whnf)
   all_goals first|(exfalso;contradiction)|skip
   all_goals (refine rsD [] [3,4] rfl ?_;(repeat' first|exact y88 _|((apply z54 rfl rfl rfl);(focus ((repeat ((exact z42 (fun _=>rfl) _)));done));(focus (((simp;done));done)))|apply z52|apply z104|constructor))
 ·have eb:z330 s=none:=by unfold z330;rw [if_neg hv]
  rw [if_neg hv,(y74 _).mp hv] at c0
  rw [eb]
  refine z7 z17 Tryz.func108 rfl rfl 96 Tryz.ntmps108 (by simp) ?_
  repeat' ((first|(apply y4 ok;rfl)|(apply z6 (c0);rfl;rfl))<;>conv=>whnf)
  all_goals refine y13 [] [] rfl rfl rfl ?_
  all_goals exact y12 z603 .nil
end Go.Proofs.YtjhgpfaodkchjaaGreat
