/- A part of the proofs over this program: T297, T289, T298, T299, T300, T301, T302, T290. -/
import Derived.Test.YtnfoijopccdjeaaGreatG0
import Derived.Test.YtnfoijopccdjeaaGreatG1
import Derived.Test.YtnfoijopccdjeaaGreatG2
import Derived.Test.YtnfoijopccdjeaaGreatG3
import Derived.Test.YtnfoijopccdjeaaGreatP0
import Derived.Test.YtnfoijopccdjeaaGreatP1
import Derived.Test.YtnfoijopccdjeaaGreatP2
import Derived.Test.YtnfoijopccdjeaaGreatP3
import Derived.Test.YtnfoijopccdjeaaGreatP4
import Derived.Test.YtnfoijopccdjeaaGreatP5
import Derived.Test.YtnfoijopccdjeaaGreatP6
import Derived.Test.YtnfoijopccdjeaaGreatP7
set_option linter.all false
namespace Go.Proofs.YtnfoijopccdjeaaGreat
open Go.Gl
attribute [local irreducible] z18 AWP z30 z36 z32 RetS z38
def fgL {α:Type} (f g:α→List AC) (l:List α) (i:Nat):List (List AC):=(l.take i).map f++(l.drop i).map g
theorem z544 {α:Type} (f g:α→List AC) (l:List α):fgL f g l l.length=l.map f:=by unfold fgL;simp
theorem z542 {α:Type} (f g:α→List AC) (l:List α) (i:Nat) (h:i≤l.length):(fgL f g l i).length=l.length:=by unfold fgL;simp;omega
theorem z543 {α:Type} {f g:α→List AC} {l:List α} {i:Nat} (h:i < l.length):(fgL f g l i)[i]?=some (g l[i]):=by
 unfold fgL
 rw [y66 (by rw [y49,y48];omega),y49,y48,Nat.min_eq_left (by omega),Nat.sub_self,y51,List.getElem?_drop,Nat.add_zero,y45 h];rfl
theorem z541 {α:Type} {f g:α→List AC} {l:List α} {i:Nat} (h:i < l.length):(fgL f g l i).set i (f l[i])=fgL f g l (i+1):=by
 unfold fgL
 rw [y50 h,y63,y79 h]
 rw [List.map_cons,List.set_append_right _ _ (by rw [y49,y48];omega),y49,y48,Nat.min_eq_left (by omega),Nat.sub_self]
 simp
theorem z394 {α:Type} {f g:α→List AC} {l:List α} {i:Nat} (hf:∀ a,z298 (f a)=true) (hg:∀ a,z298 (g a)=true):Flat (fgL f g l i):=z92 (z4 hf) (z4 hg)
theorem map_same {α:Type} {f:α→List AC} {l:List α} {k:Nat} {x:α} (h:l[k]?=some x):(l.map f).set k (f x)=l.map f:=by
 refine List.ext_getElem? fun i=>?_
 by_cases e:k=i
 ·subst e
  rw [List.getElem?_set_self (by have:=(List.getElem?_eq_some_iff.1 h).1;simpa using this),y51,h];rfl
 ·rw [List.getElem?_set_ne e]
set_option maxHeartbeats 6400000 in
theorem z668 (s:Sys) (hs:s.s1):CallsA Tryz.prog 80 [.agg s.cs] [] (.agg [.sref 0 0 s.init.length,.sref 1 0 s.ps.length]) [.cells 1 (s.init.map enI),.cells 2 (s.ps.map z39)]:=by
 have hl:=hs.len
 have hi:=hs.init
 have c1:=z191 s.init (by omega)
 have c2:=clP_new s.ps (by omega)
 refine z7 z16 Tryz.func80 rfl rfl 66 Tryz.ntmps80 (by simp) ?_
 repeat' ((first|(apply y4 ok;rfl)|(apply z26;kernel_rfl)|((first|(apply z8 [] [2] c1;rfl;rfl)|(apply z8 [] [3] c2;rfl;rfl));rfl;(focus ((repeat' first|exact z12|apply z11)<;>(refine z17 ?_;((exact z4 fun _=>rfl)))))))<;>conv=>whnf)
 refine z58 (fun i:Nat=>([(2,.ptr 0 none 0),(3,.ptr 3 none 0),(16,lst 2 Proc.cs s.ps),(17,.int s.ps.length),(18,.int i)],[.cells 2 [[.nils,.nils]],.cells 1 (s.init.map enI),.cells 2 (fgL z39 Proc.cs s.ps i),.cells 2 [[.sref 1 0 s.init.length,.sref 2 0 s.ps.length]]])) (fun i=>i≤s.ps.length) (fun i=>s.ps.length - i) 0 (y53 _) (by refine swR [1,2,3,4] [] rfl rfl ?_;(repeat' first|exact y85 _|exact z9 _|apply y86|refine z10 rfl (z4 (fun _=>rfl)) ?_|constructor)) ?_
 intro i hi
 by_cases hil:i < s.ps.length
 ·have gp:(s.ps.map Proc.cs)[i]?=some (Proc.cs s.ps[i]):=by rw [y51,y45 hil];rfl
  have hp:=hs.el _ (y44 hil)
  have hpl:=hp.len
  have g1:=z543 (f:=z39) (g:=Proc.cs) hil
  have hset:=z541 (f:=z39) (g:=Proc.cs) hil
  have hflat:=z394 (l:=s.ps) (i:=i) (f:=z39) (g:=Proc.cs) (fun _=>rfl) (fun _=>rfl)
  have hlen:=z542 z39 Proc.cs s.ps i hi
  have c3:=clG_new s.ps[i].es (by omega)
  generalize s.ps[i]=p at *
  generalize fgL z39 Proc.cs s.ps i=F at *
  have g2:∀ o:Nat,(F.set i [AC.int p.loc,AC.sref o 0 p.es.length])[i]?=some [AC.int p.loc,AC.sref o 0 p.es.length]:=fun o=>by rw [List.getElem?_set_self (by omega)]
  repeat' ((first|(apply y4 ok;rfl)|(apply z26;kernel_rfl)|(refine z15 (i:=i) rfl gp ?_)|(refine z15 (i:=i) rfl g1 ?_)|(apply y43;omega)|((apply z5)<;>intro _)|(apply z8 [] [5] c3;rfl;rfl;rfl;(focus ((repeat' first|exact z12|apply z11)<;>(refine z17 ?_;((exact z4 fun _=>rfl)))))))<;>conv=>whnf)
  all_goals try (exfalso;omega)
  refine z58 (fun k:Nat=>([(2,.ptr 0 none 0),(3,.ptr 3 none 0),(4,.int i),(16,lst 2 Proc.cs s.ps),(17,.int s.ps.length),(18,.int i),(32,lst 10 Edge.cs p.es),(33,.int p.es.length),(34,.int k)],[.cells 2 [[.nils,.nils]],.cells 1 (s.init.map enI),.cells 2 (F.set i [AC.int p.loc,AC.sref 4 0 p.es.length]),.cells 2 [[.sref 1 0 s.init.length,.sref 2 0 s.ps.length]],.cells 10 (p.es.map Edge.cs)])) (fun k=>k≤p.es.length) (fun k=>p.es.length - k) 0 (y53 _) (by refine swR [0,1,2,3,5] [] rfl rfl ?_;(repeat' first|exact y85 _|exact z9 _|apply y86|((first|refine z50 rfl ?_ ?_|refine z10 rfl ?_ ?_);(focus ((repeat' (first|exact z4 (fun _=>rfl)|assumption));done)))|constructor)) ?_
  intro k hk
  by_cases hkl:k < p.es.length
  ·have ge:(p.es.map Edge.cs)[k]?=some (Edge.cs p.es[k]):=by rw [y51,y45 hkl];rfl
   have he:=hp.el _ (y44 hkl)
   have h1:=he.gd
   have h2:=he.val
   have c4:=z951 p.es[k].gd (by omega)
   have c5:=z951 p.es[k].val (by omega)
   have hsame:=map_same (f:=Edge.cs) (y45 hkl)
   generalize p.es[k]=e at *
   rw [y16] at c4 c5
   have hse2:((p.es.map Edge.cs).set k e.cs).set k e.cs=p.es.map Edge.cs:=by rw [hsame,hsame]
   repeat' ((first|(apply y4 ok;rfl)|(apply z26;kernel_rfl)|(refine z15 (i:=k) rfl ge ?_)|(refine z15 (i:=i) rfl (g2 4) ?_)|(refine z537 rfl (by simp;omega) ?_)|(apply y43;first|omega|(unfold inI;omega))|((apply z5)<;>intro _)|(apply z6 (c4);rfl;rfl)|(apply z6 (c5);rfl;rfl))<;>conv=>whnf)
   all_goals try (exfalso;omega)
   all_goals refine z21 (k+1) hkl (by omega) (by refine swR [0,1,2,3,4] [] rfl rfl ?_;(repeat' first|exact y85 _|exact z9 _|apply y86|((first|refine z203 rfl rfl ?_ ?_|refine z50 rfl ?_ ?_|refine z10 rfl ?_ ?_);(focus ((repeat' (first|exact z4 (fun _=>rfl)|assumption));done)))|constructor)<;>((refine z45 ?_;show (List.map Edge.cs p.es).set ((k:Int).toNat+0) e.cs=_;rw [Nat.add_zero,y76];exact hsame)))
  ·have ek:k=p.es.length:=by omega
   repeat' ((first|(apply y4 ok;rfl)|(apply y43;first|omega|(unfold inI;omega))|(((with_reducible apply z13;omega));intro _)|((apply z5)<;>intro _))<;>conv=>whnf)
   all_goals try (exfalso;omega)
   all_goals refine z21 (i+1) hil (by omega) (by
    refine Gl.Reach.trans (Gl.Reach.absorb (e:=[.int p.loc,.sref 4 0 p.es.length]) 2 4 i 1 rfl (g2 4) rfl rfl (by simp) rfl (z4 fun _=>rfl) rfl) ?_
    exact (by refine swR [0,1,2,3] [] rfl rfl ?_;(repeat' first|exact y85 _|exact z9 _|apply y86|((first|refine z203 rfl rfl ?_ ?_|refine z10 rfl ?_ ?_);(focus ((repeat' (first|exact z4 (fun _=>rfl)|assumption));done)))|constructor)<;>((refine z45 ?_;rw [List.set_set];exact hset))))
 ·have e:i=s.ps.length:=by omega
  subst e
  rw [z544]
  repeat' ((first|(apply y4 ok;rfl)|(apply y43;omega)|(((with_reducible apply z13;omega));intro _)|((apply z5)<;>intro _))<;>conv=>whnf)
  all_goals try (exfalso;omega)
  all_goals (refine rsD [1,2] [] rfl ?_;(repeat' first|exact y85 _|exact z9 _|refine z10 rfl (z4 (fun _=>rfl)) ?_|constructor))
theorem z74 (l:List Proc):z65 (l.map z39)=l.map Proc.cs:=by
 rw [z164,List.map_map]
 refine List.map_congr_left fun p _=>?_
 show [AC.int p.loc,AC.list 10 _ (z65 (p.es.map Edge.cs))]=_
 rw [z23 (fun _=>rfl) p.es,y49]
 rfl
theorem z931 (s:Sys) (hs:s.s1):CallsA Tryz.prog 82 [.agg s.cs] [] (.agg [.sref 0 0 (subS s).init.length,.sref 1 0 (subS s).ps.length]) [.cells 1 ((subS s).init.map enI),.cells 2 ((subS s).ps.map z39)]:=by
 have:=z1001 s hs
 rw [show (s.ps.map fun p=>z39 (subP p))=(subS s).ps.map z39 by unfold subS;dsimp only;rw [List.map_map];rfl] at this
 rw [show (subS s).ps.length=s.ps.length by simp [subS]]
 exact this
theorem z719 {s:Sys} (h:s.s1) {k:Nat} {q:Proc} (hq:q.s1):(Sys.mk s.init (s.ps.set k q)).s1 :=
 ⟨h.init,by simpa using h.len,fun p hp=>by rcases List.mem_or_eq_of_mem_set hp with hp|rfl;exact h.el p hp;exact hq⟩
theorem z643 {q:Proc} (h:q.s1) {e:Edge} (he:e.s1):(Proc.mk q.loc (q.es.set 0 e)).s1 :=
 ⟨by simpa using h.len,fun p hp=>by rcases List.mem_or_eq_of_mem_set hp with hp|rfl;exact h.el p hp;exact he⟩
theorem z1063 (q:Proc):z175 (z39 q)=q.cs:=by
 have:=z74 [q]
 simp only [List.map_cons,List.map_nil,z65,List.cons.injEq,and_true] at this
 exact this
theorem z1207 (l:List Proc) (k:Nat) (X:List AC) (q:Proc) (es:List (List AC)) (n:Nat) (he:es=q.es.map Edge.cs):((l.map Proc.cs).set k X).set k (z175 ([AC.int q.loc,AC.sref 6 0 n].set 1 (AC.own 10 es)))=(l.set k q).map Proc.cs:=by
 rw [List.set_set,List.map_set]
 congr 1
 subst he
 exact z1063 q
theorem z306 (l:List Proc) (k:Nat) (X:List AC) (q:Proc) (es:List (List AC)) (n:Nat) (he:es=q.es.map Edge.cs):F2 (F2 LocLe) (((l.map Proc.cs).set k X).set k (z175 ([AC.int q.loc,AC.sref 6 0 n].set 1 (AC.own 10 es)))) ((l.set k q).map Proc.cs):=z45 (z1207 l k X q es n he)
theorem f2_app {a b c d:List (List AC)} (h:F2 (F2 LocLe) a b) (k:F2 (F2 LocLe) c d):F2 (F2 LocLe) (a++c) (b++d):=by
 induction h with
 |nil=>exact k
 |cons h _ ih=>exact .cons h ih
theorem z1131 (l:List Proc) (x:Int):F2 (F2 LocLe) (l.map Proc.cs++[z175 [AC.int x,AC.nils]]) ((l++[(⟨x,[]⟩:Proc)]).map Proc.cs):=by
 rw [y63]
 exact f2_app (z9 _) (.cons (.cons (y85 _) (.cons z41 .nil)) .nil)
theorem z953 (l:List Proc) (k:Nat) (hk:k < l.length) (X:List AC) (q:Proc) (x:Int) (n:Nat):F2 (F2 LocLe) (((l.map Proc.cs).set k X++[z175 [AC.int x,AC.nils]]).set k (z175 ([AC.int q.loc,AC.sref 6 0 n].set 1 (AC.own 10 (q.es.map Edge.cs))))) ((l.set k q++[(⟨x,[]⟩:Proc)]).map Proc.cs):=by
 rw [List.set_append_left _ _ (by simpa using hk),z1207 l k X q _ n rfl]
 exact z1131 _ x
set_option maxHeartbeats 12800000 in
theorem z859 (bs:List Int) (hb:BytesOk bs) (p:Int) (hp:few1 p) (s:Sys) (hs:s.sm):∃ (s' : Sys) (p' : Int),(s'.s1∧p≤p'∧p'≤p+200)∧CallsA Tryz.prog 38 [.ptr 0 none 0,.agg s.cs] [rdO bs p] (.agg s'.cs) [rdO bs p']:=by
 have hlen:=hs.len
 have cc:=z931 s hs.s1
 have hc:=subS_s1 hs.s1
 have hcl:(subS s).ps.length=s.ps.length:=by simp [subS]
 have hci:(subS s).init.length≤10:=hs.init
 generalize subS s=c at *
 obtain ⟨pk,⟨k0,k1⟩,ck⟩:=z63 bs hb p ((s.ps.length:Int)+1) (by omega) (by omega) (by omega)
 obtain ⟨v,⟨v0,v1⟩,cv⟩:=z63 bs hb (p+1) 50 (by omega) (by omega) (by omega)
 have hpz:pk=s.ps.length∨(0≤pk∧pk < s.ps.length):=by omega
 rcases hpz with hpk|⟨h0,h1⟩
 ·subst hpk
  by_cases e0:v=0
  ·subst e0
   refine ⟨⟨c.init++[0],c.ps⟩,p+1+1,⟨⟨by simp;omega,hc.len,hc.el⟩,by omega,by omega⟩,?_⟩
   refine z7 z16 Tryz.func38 rfl rfl 115 Tryz.ntmps38 (by simp) ?_
   repeat' ((first|(apply y4 ok;rfl)|(apply y43;first|omega|(unfold inI;omega)|((try dsimp only);simp only [y49,y48,y47,y46,y57,y58];omega)|exact ⟨rfl,z20 rfl z29⟩)|(((apply z13;omega));intro _)|((apply z5)<;>intro _)|((first|(apply z8 [] [3,4] cc;rfl;rfl)|(apply z8 [0] [] ck;rfl;rfl)|(apply z8 [0] [] cv;rfl;rfl));rfl;(focus ((repeat' first|exact z12|apply z11)<;>first|exact z33 rfl rfl|(refine z17 ?_;((exact z4 fun _=>rfl)))))))<;>conv=>whnf)
   all_goals try (exfalso;omega)
   all_goals refine y13 [0] [7,4] rfl rfl rfl ?_
   all_goals refine y12 (z46 (.cons ?_ (.cons ?_ .nil))) ?_
   all_goals first|((apply z37 rfl rfl rfl);(focus (repeat (first|exact z74 _|exact z23 (fun _=>rfl) _|apply z101|apply z132|rfl)));(focus ((simp;done)));(focus (first|exact y85 _|(refine z66 ?_ ?_;(focus ((simp;done)));(focus ((exact z45 (by rw [y56 (by simp),y63];rfl))))))))|(repeat' first|exact y85 _|apply y86|constructor)
  by_cases e1:v=1
  ·subst e1
   obtain ⟨x,mx,cx⟩:=z87 bs hb (p+1+1) (by omega) (by omega) [0,1,4,5] (by decide) (by decide)
   refine ⟨⟨c.init,c.ps++[⟨x,[]⟩]⟩,p+1+1+1,⟨⟨hc.init,by have:=hc.len;simp at *;omega,fun r hr=>by rcases List.mem_append.1 hr with hr|hr;exact hc.el r hr;rw [List.mem_singleton.1 hr];exact ⟨by simp,by simp⟩⟩,by omega,by omega⟩,?_⟩
   refine z7 z16 Tryz.func38 rfl rfl 115 Tryz.ntmps38 (by simp) ?_
   repeat' ((first|(apply y4 ok;rfl)|(apply z26;kernel_rfl)|(apply y43;first|omega|(unfold inI;omega)|((try dsimp only);simp only [y49,y48,y47,y46,y57,y58];omega)|exact ⟨rfl,z20 rfl z29⟩)|(((apply z13;omega));intro _)|((apply z5)<;>intro _)|((first|(apply z8 [] [3,4] cc;rfl;rfl)|(apply z8 [0] [] ck;rfl;rfl)|(apply z8 [0] [] cv;rfl;rfl)|(apply z8 [0,6] [] cx;rfl;rfl));rfl;(focus ((repeat' first|exact z12|apply z11)<;>first|exact z33 rfl rfl|(refine z17 ?_;((exact z4 fun _=>rfl)))))))<;>conv=>whnf)
   all_goals try (exfalso;omega)
   all_goals refine y13 [0] [3,8] rfl rfl rfl ?_
   all_goals refine y12 (z46 (.cons ?_ (.cons ?_ .nil))) ?_
   all_goals first|((apply z37 rfl rfl rfl);(focus (repeat (first|exact z74 _|exact z23 (fun _=>rfl) _|apply z101|apply z132|rfl)));(focus ((simp;done)));(focus (first|exact y85 _|(refine z66 ?_ ?_;(focus ((simp;done)));(focus ((rw [y56 (by simp)];exact z1131 _ _)))))))|(repeat' first|exact y85 _|apply y86|constructor)
  by_cases e6:v=6
  ·subst e6
   refine ⟨⟨[],[]⟩,p+1+1,⟨⟨by simp,by simp,by simp⟩,by omega,by omega⟩,?_⟩
   refine z7 z16 Tryz.func38 rfl rfl 115 Tryz.ntmps38 (by simp) ?_
   repeat' ((first|(apply y4 ok;rfl)|(apply y43;first|omega|(unfold inI;omega))|(((apply z13;omega));intro _)|((apply z5)<;>intro _)|((first|(apply z8 [] [3,4] cc;rfl;rfl)|(apply z8 [0] [] ck;rfl;rfl)|(apply z8 [0] [] cv;rfl;rfl));rfl;(focus ((repeat' first|exact z12|apply z11)<;>first|exact z33 rfl rfl|(refine z17 ?_;((exact z4 fun _=>rfl)))))))<;>conv=>whnf)
   all_goals try (exfalso;omega)
   all_goals (refine rsD [0] [] rfl ?_;(repeat' first|exact y85 _|exact z41|apply y86|apply z46|constructor))
  refine ⟨c,p+1+1,⟨hc,by omega,by omega⟩,?_⟩
  refine z7 z16 Tryz.func38 rfl rfl 115 Tryz.ntmps38 (by simp) ?_
  repeat' ((first|(apply y4 ok;rfl)|(apply y43;first|omega|(unfold inI;omega))|(((apply z13;omega));intro _)|((apply z5)<;>intro _)|((first|(apply z8 [] [3,4] cc;rfl;rfl)|(apply z8 [0] [] ck;rfl;rfl)|(apply z8 [0] [] cv;rfl;rfl));rfl;(focus ((repeat' first|exact z12|apply z11)<;>first|exact z33 rfl rfl|(refine z17 ?_;((exact z4 fun _=>rfl)))))))<;>conv=>whnf)
  all_goals try (exfalso;omega)
  all_goals refine y13 [0] [3,4] rfl rfl rfl ?_
  all_goals refine y12 (z46 (.cons ?_ (.cons ?_ .nil))) ?_
  all_goals first|((apply z37 rfl rfl rfl);(focus (repeat (first|exact z74 _|exact z23 (fun _=>rfl) _)));(focus ((simp;done)));(focus (exact y85 _)))|(repeat' first|exact y85 _|apply y86|constructor)
 ·obtain ⟨k,rfl⟩:∃ k:Nat,pk=k:=⟨pk.toNat,by omega⟩
  have hk:k < c.ps.length:=by omega
  have g0:(c.ps.map z39)[k]?=some (z39 c.ps[k]):=by rw [y51,y45 hk];rfl
  have hq:=hc.el _ (y44 hk)
  have hql:=hq.len
  have g2:((c.ps.map z39).set k [.int c.ps[k].loc,.sref 6 0 c.ps[k].es.length])[k]?=some [.int c.ps[k].loc,.sref 6 0 c.ps[k].es.length]:=by rw [List.getElem?_set_self (by simpa using hk)]
  generalize c.ps[k]=q at *
  have hcq:=z719 hc hq (k:=k)
  by_cases hm0:q.es.length=0
  ·by_cases e0:v=0
   ·subst e0
    refine ⟨⟨c.init++[0],c.ps.set k q⟩,p+1+1,⟨⟨by simp;omega,hcq.len,hcq.el⟩,by omega,by omega⟩,?_⟩
    refine z7 z16 Tryz.func38 rfl rfl 115 Tryz.ntmps38 (by simp) ?_
    repeat' ((first|((fail_if_success apply z181 3);apply y4 ok;rfl)|(apply y43;(unfold inI;omega))|((first|(apply z8 [] [3,4] cc;rfl;rfl)|(apply z8 [0] [] ck;rfl;rfl));rfl;(focus ((repeat' first|exact z12|apply z11)<;>first|exact z33 rfl rfl|(refine z17 ?_;((exact z4 fun _=>rfl)))))))<;>conv=>whnf)
    refine y84 (Gl.Reach.exposeD (e:=z39 q) 4 k 1 rfl g0 rfl rfl) ?_
    conv=>whnf
    rw [y49]
    repeat' ((first|(apply y4 ok;rfl)|(refine z15 (i:=k) rfl g2 ?_)|(apply y43;first|omega|((try dsimp only);simp only [y49,y48,y47,y46,y57,y58];omega)|exact ⟨rfl,z20 rfl z29⟩)|((apply z5)<;>intro _)|(apply z25 [0] [] cv;rfl;rfl;rfl))<;>conv=>whnf)
    all_goals try (exfalso;omega)
    all_goals refine y89 (e:=[.int q.loc,.sref 6 0 q.es.length]) 4 6 k 1 rfl g2 rfl rfl (by simp) rfl (by (exact z4 fun _=>rfl)) ?_
    all_goals refine y13 [0] [8,4] rfl rfl rfl ?_
    all_goals refine y12 (z46 (.cons ?_ (.cons ?_ .nil))) ?_
    all_goals first|((apply z37 rfl rfl rfl);(focus (repeat (first|exact z74 _|exact z23 (fun _=>rfl) _|apply z101|apply z132|apply z142|rfl)));(focus ((simp;done)));(focus ((refine z66 ?_ ?_;(focus ((simp;done)));(focus (first|exact z306 _ _ _ _ _ _ rfl|exact z45 (by rw [y56 (by simp),y63];rfl)))))))|(repeat' first|exact y85 _|apply y86|constructor)
   by_cases e1:v=1
   ·subst e1
    obtain ⟨x,mx,cx⟩:=z87 bs hb (p+1+1) (by omega) (by omega) [0,1,4,5] (by decide) (by decide)
    have g4:(((c.ps.map z39).set k [.int q.loc,.sref 6 0 q.es.length]).take c.ps.length++[[AC.int x,AC.nils]])[k]?=some [.int q.loc,.sref 6 0 q.es.length]:=by rw [y56 (by simp),y65 (by simpa using hk)];exact g2
    refine ⟨⟨c.init,c.ps.set k q++[⟨x,[]⟩]⟩,p+1+1+1,⟨⟨hcq.init,by have:=hcq.len;simp at *;omega,fun r hr=>by rcases List.mem_append.1 hr with hr|hr;exact hcq.el r hr;rw [List.mem_singleton.1 hr];exact ⟨by simp,by simp⟩⟩,by omega,by omega⟩,?_⟩
    refine z7 z16 Tryz.func38 rfl rfl 115 Tryz.ntmps38 (by simp) ?_
    repeat' ((first|((fail_if_success apply z181 3);apply y4 ok;rfl)|(apply y43;(unfold inI;omega))|((first|(apply z8 [] [3,4] cc;rfl;rfl)|(apply z8 [0] [] ck;rfl;rfl));rfl;(focus ((repeat' first|exact z12|apply z11)<;>first|exact z33 rfl rfl|(refine z17 ?_;((exact z4 fun _=>rfl)))))))<;>conv=>whnf)
    refine y84 (Gl.Reach.exposeD (e:=z39 q) 4 k 1 rfl g0 rfl rfl) ?_
    conv=>whnf
    rw [y49]
    repeat' ((first|(apply y4 ok;rfl)|(apply z26;kernel_rfl)|(refine z15 (i:=k) rfl g2 ?_)|((apply y43;((try dsimp only);simp only [List.length_set,y49,y48,y47,y57,y58];omega)))|(apply y43;first|omega|exact ⟨rfl,z20 rfl z29⟩)|((apply z5)<;>intro _)|((first|(apply z8 [0] [] cv;rfl;rfl)|(apply z8 [0,7] [] cx;rfl;rfl));rfl;(focus ((repeat' first|exact z12|apply z11)<;>first|exact z33 rfl rfl|(refine z17 ?_;((exact z4 fun _=>rfl)))))))<;>conv=>whnf)
    all_goals try (exfalso;omega)
    all_goals refine y89 (e:=[.int q.loc,.sref 6 0 q.es.length]) 9 6 k 1 rfl g4 rfl rfl (by simp) rfl (by (exact z4 fun _=>rfl)) ?_
    all_goals refine y13 [0] [3,9] rfl rfl rfl ?_
    all_goals refine y12 (z46 (.cons ?_ (.cons ?_ .nil))) ?_
    all_goals first|((apply z37 rfl rfl rfl);(focus (repeat (first|exact z74 _|exact z23 (fun _=>rfl) _|apply z101|apply z132|apply z142|rfl)));(focus ((simp;done)));(focus (first|exact y85 _|(refine z66 ?_ ?_;(focus ((simp;done)));(focus ((rw [y56 (by simp)];exact z953 _ _ hk _ _ _ _)))))))|(repeat' first|exact y85 _|apply y86|constructor)
   by_cases e6:v=6
   ·subst e6
    refine ⟨⟨[],[]⟩,p+1+1,⟨⟨by simp,by simp,by simp⟩,by omega,by omega⟩,?_⟩
    refine z7 z16 Tryz.func38 rfl rfl 115 Tryz.ntmps38 (by simp) ?_
    repeat' ((first|((fail_if_success apply z181 3);apply y4 ok;rfl)|(apply y43;(unfold inI;omega))|((first|(apply z8 [] [3,4] cc;rfl;rfl)|(apply z8 [0] [] ck;rfl;rfl));rfl;(focus ((repeat' first|exact z12|apply z11)<;>first|exact z33 rfl rfl|(refine z17 ?_;((exact z4 fun _=>rfl)))))))<;>conv=>whnf)
    refine y84 (Gl.Reach.exposeD (e:=z39 q) 4 k 1 rfl g0 rfl rfl) ?_
    conv=>whnf
    rw [y49]
    repeat' ((first|(apply y4 ok;rfl)|(refine z15 (i:=k) rfl g2 ?_)|(apply y43;omega)|((apply z5)<;>intro _)|(apply z25 [0] [] cv;rfl;rfl;rfl))<;>conv=>whnf)
    all_goals try (exfalso;omega)
    all_goals (refine rsD [0] [] rfl ?_;(repeat' first|exact y85 _|exact z41|apply y86|apply z46|constructor))
   refine ⟨⟨c.init,c.ps.set k q⟩,p+1+1,⟨hcq,by omega,by omega⟩,?_⟩
   refine z7 z16 Tryz.func38 rfl rfl 115 Tryz.ntmps38 (by simp) ?_
   repeat' ((first|((fail_if_success apply z181 3);apply y4 ok;rfl)|(apply y43;(unfold inI;omega))|((first|(apply z8 [] [3,4] cc;rfl;rfl)|(apply z8 [0] [] ck;rfl;rfl));rfl;(focus ((repeat' first|exact z12|apply z11)<;>first|exact z33 rfl rfl|(refine z17 ?_;((exact z4 fun _=>rfl)))))))<;>conv=>whnf)
   refine y84 (Gl.Reach.exposeD (e:=z39 q) 4 k 1 rfl g0 rfl rfl) ?_
   conv=>whnf
   rw [y49]
   repeat' ((first|(apply y4 ok;rfl)|(refine z15 (i:=k) rfl g2 ?_)|(apply y43;omega)|((apply z5)<;>intro _)|(apply z25 [0] [] cv;rfl;rfl;rfl))<;>conv=>whnf)
   all_goals try (exfalso;omega)
   all_goals refine y89 (e:=[.int q.loc,.sref 6 0 q.es.length]) 4 6 k 1 rfl g2 rfl rfl (by simp) rfl (by (exact z4 fun _=>rfl)) ?_
   all_goals refine y13 [0] [3,4] rfl rfl rfl ?_
   all_goals refine y12 (z46 (.cons ?_ (.cons ?_ .nil))) ?_
   all_goals first|((apply z37 rfl rfl rfl);(focus (repeat (first|exact z74 _|exact z23 (fun _=>rfl) _|apply z142)));(focus ((simp;done)));(focus (first|exact y85 _|(refine z66 ?_ ?_;(focus ((simp;done)));(focus (exact z306 _ _ _ _ _ _ rfl))))))|(repeat' first|exact y85 _|apply y86|constructor)
  ·have hes:0 < q.es.length:=by omega
   have ge:(q.es.map Edge.cs)[0]?=some (Edge.cs q.es[0]):=by rw [y51,y45 hes];rfl
   have he0:=hq.el _ (y44 hes)
   generalize q.es[0]=ed at *
   by_cases e0:v=0
   ·subst e0
    refine ⟨⟨c.init++[0],c.ps.set k q⟩,p+1+1,⟨⟨by simp;omega,hcq.len,hcq.el⟩,by omega,by omega⟩,?_⟩
    refine z7 z16 Tryz.func38 rfl rfl 115 Tryz.ntmps38 (by simp) ?_
    repeat' ((first|((fail_if_success apply z181 3);apply y4 ok;rfl)|(apply y43;(unfold inI;omega))|((first|(apply z8 [] [3,4] cc;rfl;rfl)|(apply z8 [0] [] ck;rfl;rfl));rfl;(focus ((repeat' first|exact z12|apply z11)<;>first|exact z33 rfl rfl|(refine z17 ?_;((exact z4 fun _=>rfl)))))))<;>conv=>whnf)
    refine y84 (Gl.Reach.exposeD (e:=z39 q) 4 k 1 rfl g0 rfl rfl) ?_
    conv=>whnf
    rw [y49]
    repeat' ((first|(apply y4 ok;rfl)|(refine z15 (i:=k) rfl g2 ?_)|(apply y43;first|omega|((try dsimp only);simp only [y49,y48,y47,y46,y57,y58];omega)|exact ⟨rfl,z20 rfl z29⟩)|((apply z5)<;>intro _)|(apply z25 [0] [] cv;rfl;rfl;rfl))<;>conv=>whnf)
    all_goals try (exfalso;omega)
    all_goals refine y89 (e:=[.int q.loc,.sref 6 0 q.es.length]) 4 6 k 1 rfl g2 rfl rfl (by simp) rfl (by (exact z4 fun _=>rfl)) ?_
    all_goals refine y13 [0] [8,4] rfl rfl rfl ?_
    all_goals refine y12 (z46 (.cons ?_ (.cons ?_ .nil))) ?_
    all_goals first|((apply z37 rfl rfl rfl);(focus (repeat (first|exact z74 _|exact z23 (fun _=>rfl) _|apply z101|apply z132|apply z142|rfl)));(focus ((simp;done)));(focus ((refine z66 ?_ ?_;(focus ((simp;done)));(focus (first|exact z306 _ _ _ _ _ _ rfl|exact z45 (by rw [y56 (by simp),y63];rfl)))))))|(repeat' first|exact y85 _|apply y86|constructor)
   by_cases e1:v=1
   ·subst e1
    obtain ⟨x,mx,cx⟩:=z87 bs hb (p+1+1) (by omega) (by omega) [0,1,4,5] (by decide) (by decide)
    have g4:(((c.ps.map z39).set k [.int q.loc,.sref 6 0 q.es.length]).take c.ps.length++[[AC.int x,AC.nils]])[k]?=some [.int q.loc,.sref 6 0 q.es.length]:=by rw [y56 (by simp),y65 (by simpa using hk)];exact g2
    refine ⟨⟨c.init,c.ps.set k q++[⟨x,[]⟩]⟩,p+1+1+1,⟨⟨hcq.init,by have:=hcq.len;simp at *;omega,fun r hr=>by rcases List.mem_append.1 hr with hr|hr;exact hcq.el r hr;rw [List.mem_singleton.1 hr];exact ⟨by simp,by simp⟩⟩,by omega,by omega⟩,?_⟩
    refine z7 z16 Tryz.func38 rfl rfl 115 Tryz.ntmps38 (by simp) ?_
    repeat' ((first|((fail_if_success apply z181 3);apply y4 ok;rfl)|(apply y43;(unfold inI;omega))|((first|(apply z8 [] [3,4] cc;rfl;rfl)|(apply z8 [0] [] ck;rfl;rfl));rfl;(focus ((repeat' first|exact z12|apply z11)<;>first|exact z33 rfl rfl|(refine z17 ?_;((exact z4 fun _=>rfl)))))))<;>conv=>whnf)
    refine y84 (Gl.Reach.exposeD (e:=z39 q) 4 k 1 rfl g0 rfl rfl) ?_
    conv=>whnf
    rw [y49]
    repeat' ((first|(apply y4 ok;rfl)|(apply z26;kernel_rfl)|(refine z15 (i:=k) rfl g2 ?_)|((apply y43;((try dsimp only);simp only [List.length_set,y49,y48,y47,y57,y58];omega)))|(apply y43;first|omega|exact ⟨rfl,z20 rfl z29⟩)|((apply z5)<;>intro _)|((first|(apply z8 [0] [] cv;rfl;rfl)|(apply z8 [0,7] [] cx;rfl;rfl));rfl;(focus ((repeat' first|exact z12|apply z11)<;>first|exact z33 rfl rfl|(refine z17 ?_;((exact z4 fun _=>rfl)))))))<;>conv=>whnf)
    all_goals try (exfalso;omega)
    all_goals refine y89 (e:=[.int q.loc,.sref 6 0 q.es.length]) 9 6 k 1 rfl g4 rfl rfl (by simp) rfl (by (exact z4 fun _=>rfl)) ?_
    all_goals refine y13 [0] [3,9] rfl rfl rfl ?_
    all_goals refine y12 (z46 (.cons ?_ (.cons ?_ .nil))) ?_
    all_goals first|((apply z37 rfl rfl rfl);(focus (repeat (first|exact z74 _|exact z23 (fun _=>rfl) _|apply z101|apply z132|apply z142|rfl)));(focus ((simp;done)));(focus (first|exact y85 _|(refine z66 ?_ ?_;(focus ((simp;done)));(focus ((rw [y56 (by simp)];exact z953 _ _ hk _ _ _ _)))))))|(repeat' first|exact y85 _|apply y86|constructor)
   by_cases e6:v=6
   ·subst e6
    refine ⟨⟨[],[]⟩,p+1+1,⟨⟨by simp,by simp,by simp⟩,by omega,by omega⟩,?_⟩
    refine z7 z16 Tryz.func38 rfl rfl 115 Tryz.ntmps38 (by simp) ?_
    repeat' ((first|((fail_if_success apply z181 3);apply y4 ok;rfl)|(apply y43;(unfold inI;omega))|((first|(apply z8 [] [3,4] cc;rfl;rfl)|(apply z8 [0] [] ck;rfl;rfl));rfl;(focus ((repeat' first|exact z12|apply z11)<;>first|exact z33 rfl rfl|(refine z17 ?_;((exact z4 fun _=>rfl)))))))<;>conv=>whnf)
    refine y84 (Gl.Reach.exposeD (e:=z39 q) 4 k 1 rfl g0 rfl rfl) ?_
    conv=>whnf
    rw [y49]
    repeat' ((first|(apply y4 ok;rfl)|(refine z15 (i:=k) rfl g2 ?_)|(apply y43;omega)|((apply z5)<;>intro _)|(apply z25 [0] [] cv;rfl;rfl;rfl))<;>conv=>whnf)
    all_goals try (exfalso;omega)
    all_goals (refine rsD [0] [] rfl ?_;(repeat' first|exact y85 _|exact z41|apply y86|apply z46|constructor))
   by_cases e2:v=2
   ·subst e2
    obtain ⟨t1,p1,⟨q1,q2,q3⟩,ce⟩:=z754 bs hb (p+1+1) ⟨by omega,by omega⟩
    obtain ⟨t2,p2,⟨r1,r2,r3⟩,cm⟩:=z345 bs hb p1 ⟨by omega,by omega⟩ t1 (by omega)
    rw [y16] at ce cm
    rw [y16] at cm
    refine ⟨⟨c.init,c.ps.set k ⟨q.loc,q.es.set 0 ⟨ed.fr,ed.to,t2,ed.var,ed.val,ed.sync⟩⟩⟩,p2,⟨z719 hc (z643 hq ⟨by show t2.sz≤1000;omega,he0.val⟩),by omega,by omega⟩,?_⟩
    refine z7 z16 Tryz.func38 rfl rfl 115 Tryz.ntmps38 (by simp) ?_
    repeat' ((first|((fail_if_success apply z181 3);apply y4 ok;rfl)|(apply y43;(unfold inI;omega))|((first|(apply z8 [] [3,4] cc;rfl;rfl)|(apply z8 [0] [] ck;rfl;rfl));rfl;(focus ((repeat' first|exact z12|apply z11)<;>first|exact z33 rfl rfl|(refine z17 ?_;((exact z4 fun _=>rfl)))))))<;>conv=>whnf)
    refine y84 (Gl.Reach.exposeD (e:=z39 q) 4 k 1 rfl g0 rfl rfl) ?_
    conv=>whnf
    rw [y49]
    repeat' ((first|(apply y4 ok;rfl)|(apply z26;kernel_rfl)|(refine z15 (i:=k) rfl g2 ?_)|(refine z15 (i:=0) rfl ge ?_)|(apply y43;omega)|((apply z5)<;>intro _)|((first|(apply z25 [0] [] cv;rfl;rfl)|(apply z25 [0] [] ce;rfl;rfl)|(apply z25 [0] [] cm;rfl;rfl));rfl))<;>conv=>whnf)
    all_goals try (exfalso;omega)
    all_goals refine y89 (e:=[.int q.loc,.sref 6 0 q.es.length]) 4 6 k 1 rfl g2 rfl rfl (by simp) rfl (by (exact z479 (z4 fun _=>rfl) rfl)) ?_
    all_goals refine y13 [0] [3,4] rfl rfl rfl ?_
    all_goals refine y12 (z46 (.cons ?_ (.cons ?_ .nil))) ?_
    all_goals first|((apply z37 rfl rfl rfl);(focus (repeat (first|exact z74 _|exact z23 (fun _=>rfl) _|apply z142)));(focus ((simp;done)));(focus (first|exact y85 _|(refine z66 ?_ ?_;(focus ((simp;done)));(focus ((exact z306 _ _ _ (⟨q.loc,q.es.set 0 ⟨ed.fr,ed.to,t2,ed.var,ed.val,ed.sync⟩⟩) _ _ (by rw [List.map_set];rfl))))))))|(repeat' first|exact y85 _|apply y86|constructor)
   by_cases e3:v=3
   ·subst e3
    obtain ⟨x,mx,cx⟩:=z87 bs hb (p+1+1) (by omega) (by omega) [-1,3,0,-2] (by decide) (by decide)
    refine ⟨⟨c.init,c.ps.set k ⟨q.loc,q.es.set 0 ⟨ed.fr,ed.to,ed.gd,x,ed.val,ed.sync⟩⟩⟩,p+1+1+1,⟨z719 hc (z643 hq ⟨he0.gd,he0.val⟩),by omega,by omega⟩,?_⟩
    refine z7 z16 Tryz.func38 rfl rfl 115 Tryz.ntmps38 (by simp) ?_
    repeat' ((first|((fail_if_success apply z181 3);apply y4 ok;rfl)|(apply y43;(unfold inI;omega))|((first|(apply z8 [] [3,4] cc;rfl;rfl)|(apply z8 [0] [] ck;rfl;rfl));rfl;(focus ((repeat' first|exact z12|apply z11)<;>first|exact z33 rfl rfl|(refine z17 ?_;((exact z4 fun _=>rfl)))))))<;>conv=>whnf)
    refine y84 (Gl.Reach.exposeD (e:=z39 q) 4 k 1 rfl g0 rfl rfl) ?_
    conv=>whnf
    rw [y49]
    repeat' ((first|(apply y4 ok;rfl)|(apply z26;kernel_rfl)|(refine z15 (i:=k) rfl g2 ?_)|(refine z15 (i:=0) rfl ge ?_)|(apply y43;omega)|((apply z5)<;>intro _)|((first|(apply z8 [0] [] cv;rfl;rfl)|(apply z8 [0,7] [] cx;rfl;rfl));rfl;(focus ((repeat' first|exact z12|apply z11)<;>first|exact z33 rfl rfl|(refine z17 ?_;((exact z4 fun _=>rfl)))))))<;>conv=>whnf)
    all_goals try (exfalso;omega)
    all_goals refine y89 (e:=[.int q.loc,.sref 6 0 q.es.length]) 4 6 k 1 rfl g2 rfl rfl (by simp) rfl (by (exact z479 (z4 fun _=>rfl) rfl)) ?_
    all_goals refine y13 [0] [3,4] rfl rfl rfl ?_
    all_goals refine y12 (z46 (.cons ?_ (.cons ?_ .nil))) ?_
    all_goals first|((apply z37 rfl rfl rfl);(focus (repeat (first|exact z74 _|exact z23 (fun _=>rfl) _|apply z142)));(focus ((simp;done)));(focus (first|exact y85 _|(refine z66 ?_ ?_;(focus ((simp;done)));(focus ((exact z306 _ _ _ (⟨q.loc,q.es.set 0 ⟨ed.fr,ed.to,ed.gd,x,ed.val,ed.sync⟩⟩) _ _ (by rw [List.map_set];rfl))))))))|(repeat' first|exact y85 _|apply y86|constructor)
   by_cases e4:v=4
   ·subst e4
    obtain ⟨x,mx,cx⟩:=z87 bs hb (p+1+1) (by omega) (by omega) [3,-3,2,-9223372036854775808] (by decide) (by decide)
    refine ⟨⟨c.init,c.ps.set k ⟨q.loc,q.es.set 0 ⟨ed.fr,ed.to,ed.gd,ed.var,ed.val,x⟩⟩⟩,p+1+1+1,⟨z719 hc (z643 hq ⟨he0.gd,he0.val⟩),by omega,by omega⟩,?_⟩
    refine z7 z16 Tryz.func38 rfl rfl 115 Tryz.ntmps38 (by simp) ?_
    repeat' ((first|((fail_if_success apply z181 3);apply y4 ok;rfl)|(apply y43;(unfold inI;omega))|((first|(apply z8 [] [3,4] cc;rfl;rfl)|(apply z8 [0] [] ck;rfl;rfl));rfl;(focus ((repeat' first|exact z12|apply z11)<;>first|exact z33 rfl rfl|(refine z17 ?_;((exact z4 fun _=>rfl)))))))<;>conv=>whnf)
    refine y84 (Gl.Reach.exposeD (e:=z39 q) 4 k 1 rfl g0 rfl rfl) ?_
    conv=>whnf
    rw [y49]
    repeat' ((first|(apply y4 ok;rfl)|(apply z26;kernel_rfl)|(refine z15 (i:=k) rfl g2 ?_)|(refine z15 (i:=0) rfl ge ?_)|(apply y43;omega)|((apply z5)<;>intro _)|((first|(apply z8 [0] [] cv;rfl;rfl)|(apply z8 [0,7] [] cx;rfl;rfl));rfl;(focus ((repeat' first|exact z12|apply z11)<;>first|exact z33 rfl rfl|(refine z17 ?_;((exact z4 fun _=>rfl)))))))<;>conv=>whnf)
    all_goals try (exfalso;omega)
    all_goals refine y89 (e:=[.int q.loc,.sref 6 0 q.es.length]) 4 6 k 1 rfl g2 rfl rfl (by simp) rfl (by (exact z479 (z4 fun _=>rfl) rfl)) ?_
    all_goals refine y13 [0] [3,4] rfl rfl rfl ?_
    all_goals refine y12 (z46 (.cons ?_ (.cons ?_ .nil))) ?_
    all_goals first|((apply z37 rfl rfl rfl);(focus (repeat (first|exact z74 _|exact z23 (fun _=>rfl) _|apply z142)));(focus ((simp;done)));(focus (first|exact y85 _|(refine z66 ?_ ?_;(focus ((simp;done)));(focus ((exact z306 _ _ _ (⟨q.loc,q.es.set 0 ⟨ed.fr,ed.to,ed.gd,ed.var,ed.val,x⟩⟩) _ _ (by rw [List.map_set];rfl))))))))|(repeat' first|exact y85 _|apply y86|constructor)
   by_cases e5:v=5
   ·subst e5
    obtain ⟨x,mx,cx⟩:=z87 bs hb (p+1+1) (by omega) (by omega) [-1,4,0,9223372036854775807] (by decide) (by decide)
    refine ⟨⟨c.init,c.ps.set k ⟨q.loc,q.es.set 0 ⟨ed.fr,x,ed.gd,ed.var,ed.val,ed.sync⟩⟩⟩,p+1+1+1,⟨z719 hc (z643 hq ⟨he0.gd,he0.val⟩),by omega,by omega⟩,?_⟩
    refine z7 z16 Tryz.func38 rfl rfl 115 Tryz.ntmps38 (by simp) ?_
    repeat' ((first|((fail_if_success apply z181 3);apply y4 ok;rfl)|(apply y43;(unfold inI;omega))|((first|(apply z8 [] [3,4] cc;rfl;rfl)|(apply z8 [0] [] ck;rfl;rfl));rfl;(focus ((repeat' first|exact z12|apply z11)<;>first|exact z33 rfl rfl|(refine z17 ?_;((exact z4 fun _=>rfl)))))))<;>conv=>whnf)
    refine y84 (Gl.Reach.exposeD (e:=z39 q) 4 k 1 rfl g0 rfl rfl) ?_
    conv=>whnf
    rw [y49]
    repeat' ((first|(apply y4 ok;rfl)|(apply z26;kernel_rfl)|(refine z15 (i:=k) rfl g2 ?_)|(refine z15 (i:=0) rfl ge ?_)|(apply y43;omega)|((apply z5)<;>intro _)|((first|(apply z8 [0] [] cv;rfl;rfl)|(apply z8 [0,7] [] cx;rfl;rfl));rfl;(focus ((repeat' first|exact z12|apply z11)<;>first|exact z33 rfl rfl|(refine z17 ?_;((exact z4 fun _=>rfl)))))))<;>conv=>whnf)
    all_goals try (exfalso;omega)
    all_goals refine y89 (e:=[.int q.loc,.sref 6 0 q.es.length]) 4 6 k 1 rfl g2 rfl rfl (by simp) rfl (by (exact z479 (z4 fun _=>rfl) rfl)) ?_
    all_goals refine y13 [0] [3,4] rfl rfl rfl ?_
    all_goals refine y12 (z46 (.cons ?_ (.cons ?_ .nil))) ?_
    all_goals first|((apply z37 rfl rfl rfl);(focus (repeat (first|exact z74 _|exact z23 (fun _=>rfl) _|apply z142)));(focus ((simp;done)));(focus (first|exact y85 _|(refine z66 ?_ ?_;(focus ((simp;done)));(focus ((exact z306 _ _ _ (⟨q.loc,q.es.set 0 ⟨ed.fr,x,ed.gd,ed.var,ed.val,ed.sync⟩⟩) _ _ (by rw [List.map_set];rfl))))))))|(repeat' first|exact y85 _|apply y86|constructor)
   refine ⟨⟨c.init,c.ps.set k q⟩,p+1+1,⟨hcq,by omega,by omega⟩,?_⟩
   refine z7 z16 Tryz.func38 rfl rfl 115 Tryz.ntmps38 (by simp) ?_
   repeat' ((first|((fail_if_success apply z181 3);apply y4 ok;rfl)|(apply y43;(unfold inI;omega))|((first|(apply z8 [] [3,4] cc;rfl;rfl)|(apply z8 [0] [] ck;rfl;rfl));rfl;(focus ((repeat' first|exact z12|apply z11)<;>first|exact z33 rfl rfl|(refine z17 ?_;((exact z4 fun _=>rfl)))))))<;>conv=>whnf)
   refine y84 (Gl.Reach.exposeD (e:=z39 q) 4 k 1 rfl g0 rfl rfl) ?_
   conv=>whnf
   rw [y49]
   repeat' ((first|(apply y4 ok;rfl)|(refine z15 (i:=k) rfl g2 ?_)|(apply y43;omega)|((apply z5)<;>intro _)|(apply z25 [0] [] cv;rfl;rfl;rfl))<;>conv=>whnf)
   all_goals try (exfalso;omega)
   all_goals refine y89 (e:=[.int q.loc,.sref 6 0 q.es.length]) 4 6 k 1 rfl g2 rfl rfl (by simp) rfl (by (exact z4 fun _=>rfl)) ?_
   all_goals refine y13 [0] [3,4] rfl rfl rfl ?_
   all_goals refine y12 (z46 (.cons ?_ (.cons ?_ .nil))) ?_
   all_goals first|((apply z37 rfl rfl rfl);(focus (repeat (first|exact z74 _|exact z23 (fun _=>rfl) _|apply z142)));(focus ((simp;done)));(focus (first|exact y85 _|(refine z66 ?_ ?_;(focus ((simp;done)));(focus (exact z306 _ _ _ _ _ _ rfl))))))|(repeat' first|exact y85 _|apply y86|constructor)
theorem z708 (t:Tree):t.good→subZ t=t:=by
 induction t using y26 with|h t ih=>?_
 intro hg
 obtain ⟨_,h2,h3,h4⟩:=y24 hg
 obtain ⟨k,v,l⟩:=t
 simp only [Tree.kind,Tree.val,Tree.kids] at *
 rw [subZ,if_neg (by omega),z632]
 congr 1
 have:l.map subZ=l.map id:=List.map_congr_left fun u hu=>ih u hu (h4 u hu)
 rw [this,List.map_id]
theorem z1068 {t:Tree} (h:z420 t=true):subZ t=t:=by
 unfold z420 at h
 obtain ⟨h1,h2,h3⟩:=of_decide_eq_true h
 obtain ⟨k,v,l⟩:=t
 simp only [Tree.kind,Tree.val,Tree.kids] at *
 subst h1 h2
 have:l=[]:=y73 h3
 subst this
 rfl
theorem subS_id {s:Sys} (h:sysB s=true):subS s=s:=by
 unfold sysB at h
 rw [y70,y78] at h
 have h1:s.ps.map subP=s.ps.map id:=List.map_congr_left fun p hp=>by
  have hq:=h.1 p hp
  unfold z257 at hq
  rw [y70,y78] at hq
  have h2:p.es.map subE=p.es.map id:=List.map_congr_left fun e he=>by
   have hf:=hq.1 e he
   unfold z209 at hf
   simp only [y70,decide_eq_true_iff] at hf
   obtain ⟨_,a2,_,a4⟩:=hf
   have e1:=z708 e.gd (y25 a2)
   have e2:subZ e.val=e.val:=by
    by_cases hv:e.var < 0
    ·rw [if_pos hv] at a4;exact z1068 a4
    ·rw [if_neg hv] at a4;exact z708 _ (y25 a4)
   show (⟨e.fr,e.to,subZ e.gd,e.var,subZ e.val,e.sync⟩:Edge)=e
   rw [e1,e2]
  show (⟨p.loc,p.es.map subE⟩:Proc)=p
  rw [h2,List.map_id]
 show (⟨s.init,s.ps.map subP⟩:Sys)=s
 rw [h1,List.map_id]
theorem z1175 {L:List (List AC)} {k k' : Nat} {X Y:List AC} (hk:k'=k) (h:F2 LocLe X Y):F2 (F2 LocLe) (L.set k' X) (L.set k Y):=by
 subst hk
 induction L generalizing k' with
 |nil=>simpa using z9 []
 |cons a L ih =>
  cases k' with
  |zero=>exact .cons h (z9 _)
  |succ k=>exact .cons (z266 _) ih
theorem z1085 {v:List Bool} {e:Edge} (h0:0≤e.var) (hb:v.getD e.var.toNat false=false):slE v e=⟨e.fr,e.to,e.gd,-1,leaf 0 0,e.sync⟩:=if_pos ⟨h0,hb⟩
theorem z462 {v:List Bool} {e:Edge} (h:¬ (0≤e.var∧v.getD e.var.toNat false=false)):slE v e=e:=if_neg h
theorem z464 {L:List (List AC)} {k:Nat} {x:List AC} (h:L[k]?=some x):L.set k x=L:=by
 refine List.ext_getElem? fun i=>?_
 by_cases e:k=i
 ·subst e
  rw [List.getElem?_set_self (List.getElem?_eq_some_iff.1 h).1,h]
 ·rw [List.getElem?_set_ne e]
theorem z897 {q:Bool} : LocLe (.tup [.agg [.nils,.nils],.bool q]) (.tup [.agg (⟨[],[]⟩:Sys).cs,.bool q]):=z93 (.cons (z46 (.cons z41 (.cons z41 .nil))) (.cons (y85 _) .nil))
set_option maxHeartbeats 12800000 in
theorem z712 (s:Sys) (hs1:s.s1) (l:List Tree) (hl:Lmx l) (hz:∀ t∈l,t.sz≤1000) (h1:sysB s=true) (h2:z85 l=true):CallsA Tryz.prog 32 [.agg s.cs,lst 3 Tree.cs' l] [] (.tup [.agg (slS (s.rel l) s).cs,.bool true]) []:=by
 have hs:=y14 h1
 have hlen:=hs1.len
 have c1:=z564 s hs1 l hl hz h1 h2
 have c2:=z931 s hs1
 rw [subS_id h1] at c2
 have hv:=z513 s l
 generalize s.rel l=v at *
 refine z7 z16 Tryz.func32 rfl rfl 74 Tryz.ntmps32 (by simp) ?_
 repeat' ((first|(apply y4 ok;rfl)|(apply z6 (c1);rfl;rfl)|(apply z8 [] [2,3] c2;rfl;rfl;rfl;(focus ((repeat' first|exact z12|apply z11)<;>(refine z17 ?_;((exact z4 fun _=>rfl)))))))<;>conv=>whnf)
 refine z58 (fun i:Nat=>([(4,.ptr 0 none 0),(6,lst 1 enB v),(8,.ptr 3 none 0),(9,.int i)],[.cells 2 [[.nils,.nils]],.cells 1 (s.init.map enI),.cells 2 (fgL (fun p=>z39 (slP v p)) z39 s.ps i),.cells 2 [[.sref 1 0 s.init.length,.sref 2 0 s.ps.length]]])) (fun i=>i≤s.ps.length) (fun i=>s.ps.length - i) 0 (y53 _) (by refine swR [1,2,3,4] [] rfl rfl ?_;(repeat' first|exact y85 _|exact z9 _|apply y86|refine z10 rfl (z4 (fun _=>rfl)) ?_|constructor)) ?_
 intro i hi
 by_cases hil:i < s.ps.length
 ·have hp:=hs1.el _ (y44 hil)
  have hpl:=hp.len
  have hpm:∀ k,k < s.ps[i].es.length→(s.ps[i].eg k).var≤2:=fun k hk=>by
   have e:s.pr i=s.ps[i]:=by unfold Sys.pr;rw [z19 hil]
   have:=(hs.eg i k hil (by rw [e];exact hk)).var
   rw [e] at this;omega
  have g1:=z543 (f:=fun p=>z39 (slP v p)) (g:=z39) hil
  have hset:=z541 (f:=fun p=>z39 (slP v p)) (g:=z39) hil
  have hlen2:=z542 (fun p=>z39 (slP v p)) z39 s.ps i hi
  have hflat:=z394 (l:=s.ps) (i:=i) (f:=fun p=>z39 (slP v p)) (g:=z39) (fun _=>rfl) (fun _=>rfl)
  generalize s.ps[i]=p at *
  generalize fgL (fun p=>z39 (slP v p)) z39 s.ps i=F at *
  have g2:(F.set i [AC.int p.loc,AC.sref 4 0 p.es.length])[i]?=some [AC.int p.loc,AC.sref 4 0 p.es.length]:=by rw [List.getElem?_set_self (by omega)]
  refine y84 (Gl.Reach.exposeD (e:=z39 p) 2 i 1 rfl g1 rfl rfl) ?_
  conv=>whnf
  rw [y49]
  repeat' ((first|(apply y4 ok;rfl)|((apply z5)<;>intro _))<;>conv=>whnf)
  all_goals try (exfalso;omega)
  refine z58 (fun k:Nat=>([(4,.ptr 0 none 0),(6,lst 1 enB v),(8,.ptr 3 none 0),(9,.int i),(10,.int k)],[.cells 2 [[.nils,.nils]],.cells 1 (s.init.map enI),.cells 2 (F.set i [AC.int p.loc,AC.sref 4 0 p.es.length]),.cells 2 [[.sref 1 0 s.init.length,.sref 2 0 s.ps.length]],.cells 10 (fgL (fun e=>(slE v e).cs) Edge.cs p.es k)])) (fun k=>k≤p.es.length) (fun k=>p.es.length - k) 0 (y53 _) (by refine swR [0,1,2,3,4] [] rfl rfl ?_;(repeat' first|exact y85 _|exact z9 _|apply y86|((first|refine z50 rfl ?_ ?_|refine z10 rfl ?_ ?_);(focus ((repeat' (first|exact z4 (fun _=>rfl)|assumption));done)))|constructor)) ?_
  intro k hk
  by_cases hkl:k < p.es.length
  ·have hvar:=hpm k hkl
   have eeg:p.eg k=p.es[k]:=by unfold Proc.eg;rw [z19 hkl]
   rw [eeg] at hvar
   have ge:=z543 (f:=fun e=>(slE v e).cs) (g:=Edge.cs) hkl
   have hse:=z541 (f:=fun e=>(slE v e).cs) (g:=Edge.cs) hkl
   have hfl:=z394 (l:=p.es) (i:=k) (f:=fun e=>(slE v e).cs) (g:=Edge.cs) (fun _=>rfl) (fun _=>rfl)
   have hl2:=z542 (fun e=>(slE v e).cs) Edge.cs p.es k hk
   clear hpm
   generalize p.es[k]=e at *
   generalize fgL (fun e=>(slE v e).cs) Edge.cs p.es k=E at *
   generalize hE2:fgL (fun e=>(slE v e).cs) Edge.cs p.es (k+1)=E2 at *
   by_cases h0:0≤e.var
   ·have hv3:e.var.toNat < v.length:=by omega
    have gv:(v.map enB)[e.var.toNat]?=some (enB (v.getD e.var.toNat false)):=by rw [y51,y45 hv3,z19 hv3];rfl
    cases hb:v.getD e.var.toNat false with
    |false =>
     rw [z1085 h0 hb] at hse
     rw [hb] at gv
     repeat' ((first|(apply y4 ok;rfl)|(apply z26;kernel_rfl)|(refine z15 (i:=i) rfl g2 ?_)|(refine z15 (i:=k) rfl ge ?_)|(refine z15 (i:=e.var.toNat) rfl gv ?_)|(apply y43;first|omega|(unfold inI;omega))|((apply z5)<;>intro _))<;>conv=>whnf)
     all_goals try (exfalso;omega)
     all_goals refine z21 (k+1) hkl (by omega) (by refine swR [0,1,2,3,4] [] rfl rfl ?_;(repeat' first|exact y85 _|exact z9 _|apply y86|((first|refine z50 rfl ?_ ?_|refine z10 rfl ?_ ?_);(focus ((repeat' (first|exact z4 (fun _=>rfl)|assumption));done)))|constructor)<;>((rw [hE2,← hse];refine z1175 (by simp) ?_;repeat' first|exact F2.nil|exact y85 _|exact z41|apply F2.cons)))
    |true =>
     rw [z462 (by rw [hb];simp),z464 ge] at hse
     rw [hb] at gv
     repeat' ((first|(apply y4 ok;rfl)|(refine z15 (i:=i) rfl g2 ?_)|(refine z15 (i:=k) rfl ge ?_)|(refine z15 (i:=e.var.toNat) rfl gv ?_)|(apply y43;first|omega|(unfold inI;omega))|((apply z5)<;>intro _))<;>conv=>whnf)
     all_goals try (exfalso;omega)
     all_goals refine z21 (k+1) hkl (by omega) (by refine swR [0,1,2,3,4] [] rfl rfl ?_;(repeat' first|exact y85 _|exact z9 _|apply y86|((first|refine z50 rfl ?_ ?_|refine z10 rfl ?_ ?_);(focus ((repeat' (first|exact z4 (fun _=>rfl)|assumption));done)))|constructor)<;>((rw [hE2,← hse];exact z9 _)))
   ·rw [z462 (fun h=>h0 h.1),z464 ge] at hse
    repeat' ((first|(apply y4 ok;rfl)|(apply z26;kernel_rfl)|(refine z15 (i:=i) rfl g2 ?_)|(refine z15 (i:=k) rfl ge ?_)|(apply y43;first|omega|(unfold inI;omega))|(((with_reducible apply z144;omega));intro _)|((first|apply z5|apply z100)<;>intro _))<;>conv=>whnf)
    all_goals try (exfalso;omega)
    all_goals refine z21 (k+1) hkl (by omega) (by refine swR [0,1,2,3,4] [] rfl rfl ?_;(repeat' first|exact y85 _|exact z9 _|apply y86|((first|refine z50 rfl ?_ ?_|refine z10 rfl ?_ ?_);(focus ((repeat' (first|exact z4 (fun _=>rfl)|assumption));done)))|constructor)<;>((rw [hE2,← hse];exact z9 _)))
  ·have ek:k=p.es.length:=by omega
   subst ek
   rw [z544]
   have eown:z39 (slP v p)=[AC.int p.loc,AC.own 10 (p.es.map fun e=>(slE v e).cs)]:=by
    unfold z39 slP
    dsimp only
    rw [List.map_map];rfl
   rw [eown] at hset
   repeat' ((first|(apply y4 ok;rfl)|(apply z26;kernel_rfl)|(refine z15 (i:=i) rfl g2 ?_)|(apply y43;first|omega|(unfold inI;omega))|((first|(with_reducible apply z144;omega)|(apply z13;omega));intro _)|((first|apply z5|apply z100)<;>intro _))<;>conv=>whnf)
   all_goals try (exfalso;omega)
   all_goals refine z21 (i+1) hil (by omega) (by
    refine Gl.Reach.trans (Gl.Reach.absorb (e:=[.int p.loc,.sref 4 0 p.es.length]) 2 4 i 1 rfl g2 rfl rfl (by simp) rfl (z4 fun _=>rfl) rfl) ?_
    exact (by refine swR [0,1,2,3] [] rfl rfl ?_;(repeat' first|exact y85 _|exact z9 _|apply y86|((first|refine z203 rfl rfl ?_ ?_|refine z10 rfl ?_ ?_);(focus ((repeat' (first|exact z4 (fun _=>rfl)|assumption));done)))|constructor)<;>((refine z45 ?_;rw [List.set_set];exact hset))))
 ·have e:i=s.ps.length:=by omega
  subst e
  rw [z544,show (s.ps.map fun p=>z39 (slP v p))=(slS v s).ps.map z39 by unfold slS;dsimp only;rw [List.map_map];rfl]
  have hsl:(slS v s).ps.length=s.ps.length:=z343
  have hsi:(slS v s).init=s.init:=rfl
  generalize slS v s=z at *
  rw [← hsl,← hsi]
  repeat' ((first|(apply y4 ok;rfl)|((apply z5)<;>intro _))<;>conv=>whnf)
  all_goals try (exfalso;omega)
  all_goals refine y13 [] [1,2] rfl rfl rfl ?_
  all_goals refine y12 (z93 (.cons (z46 (.cons ?_ (.cons ?_ .nil))) (.cons (y85 _) .nil))) .nil
  all_goals ((apply z37 rfl rfl rfl);(focus (repeat (first|exact z74 _|exact z23 (fun _=>rfl) _)));(focus ((simp;done)));(focus (exact y85 _)))
set_option maxHeartbeats 12800000 in
theorem z763 (s:Sys) (hs1:s.s1) (l:List Tree) (hl:Lmx l) (hz:∀ t∈l,t.sz≤1000) (h1:sysB s=true) (h2:z85 l=true):CallsA Tryz.prog 31 [.agg s.cs,lst 3 Tree.cs' l] [] (.tup [.agg (slS (s.rel l) s).cs,.bool true]) []:=by
 have hs:=y14 h1
 have hlen:=hs1.len
 have c1:=z572 s hs1 l hl hz h1 h2
 have c2:=z668 s hs1
 have hv:=z513 s l
 generalize s.rel l=v at *
 refine z7 z16 Tryz.func31 rfl rfl 64 Tryz.ntmps31 (by simp) ?_
 repeat' ((first|(apply y4 ok;rfl)|(apply z6 (c1);rfl;rfl)|(apply z8 [] [2,3] c2;rfl;rfl;rfl;(focus ((repeat' first|exact z12|apply z11)<;>(refine z17 ?_;((exact z4 fun _=>rfl)))))))<;>conv=>whnf)
 refine z58 (fun i:Nat=>([(4,.ptr 0 none 0),(6,lst 1 enB v),(8,.ptr 3 none 0),(25,.sref 2 0 s.ps.length),(26,.int s.ps.length),(27,.int i)],[.cells 2 [[.nils,.nils]],.cells 1 (s.init.map enI),.cells 2 (fgL (fun p=>z39 (slP v p)) z39 s.ps i),.cells 2 [[.sref 1 0 s.init.length,.sref 2 0 s.ps.length]]])) (fun i=>i≤s.ps.length) (fun i=>s.ps.length - i) 0 (y53 _) (by refine swR [1,2,3,4] [] rfl rfl ?_;(repeat' first|exact y85 _|exact z9 _|apply y86|refine z10 rfl (z4 (fun _=>rfl)) ?_|constructor)) ?_
 intro i hi
 by_cases hil:i < s.ps.length
 ·have hp:=hs1.el _ (y44 hil)
  have hpl:=hp.len
  have hpm:∀ k,k < s.ps[i].es.length→(s.ps[i].eg k).var≤2:=fun k hk=>by
   have e:s.pr i=s.ps[i]:=by unfold Sys.pr;rw [z19 hil]
   have:=(hs.eg i k hil (by rw [e];exact hk)).var
   rw [e] at this;omega
  have g1:=z543 (f:=fun p=>z39 (slP v p)) (g:=z39) hil
  have hset:=z541 (f:=fun p=>z39 (slP v p)) (g:=z39) hil
  have hlen2:=z542 (fun p=>z39 (slP v p)) z39 s.ps i hi
  have hflat:=z394 (l:=s.ps) (i:=i) (f:=fun p=>z39 (slP v p)) (g:=z39) (fun _=>rfl) (fun _=>rfl)
  generalize s.ps[i]=p at *
  generalize fgL (fun p=>z39 (slP v p)) z39 s.ps i=F at *
  have g2:(F.set i [AC.int p.loc,AC.sref 4 0 p.es.length])[i]?=some [AC.int p.loc,AC.sref 4 0 p.es.length]:=by rw [List.getElem?_set_self (by omega)]
  refine y84 (Gl.Reach.exposeD (e:=z39 p) 2 i 1 rfl g1 rfl rfl) ?_
  conv=>whnf
  rw [y49]
  repeat' ((first|(apply y4 ok;rfl)|(refine z15 (i:=i) rfl g2 ?_)|(apply y43;omega)|((apply z5)<;>intro _))<;>conv=>whnf)
  all_goals try (exfalso;omega)
  refine z58 (fun k:Nat=>([(4,.ptr 0 none 0),(6,lst 1 enB v),(8,.ptr 3 none 0),(10,.ptr 5 none 0),(25,.sref 2 0 s.ps.length),(26,.int s.ps.length),(27,.int i),(32,.sref 4 0 p.es.length),(33,.int p.es.length),(34,.int k)],[.cells 2 [[.nils,.nils]],.cells 1 (s.init.map enI),.cells 2 (F.set i [AC.int p.loc,AC.sref 4 0 p.es.length]),.cells 2 [[.sref 1 0 s.init.length,.sref 2 0 s.ps.length]],.cells 10 (fgL (fun e=>(slE v e).cs) Edge.cs p.es k),.cells 2 [[.int p.loc,.sref 4 0 p.es.length]]])) (fun k=>k≤p.es.length) (fun k=>p.es.length - k) 0 (y53 _) (by refine swR [0,1,2,3,4,5] [] rfl rfl ?_;(repeat' first|exact y85 _|exact z9 _|apply y86|((first|refine z50 rfl ?_ ?_|refine z10 rfl ?_ ?_);(focus ((repeat' (first|exact z4 (fun _=>rfl)|assumption));done)))|constructor)) ?_
  intro k hk
  by_cases hkl:k < p.es.length
  ·have hvar:=hpm k hkl
   have eeg:p.eg k=p.es[k]:=by unfold Proc.eg;rw [z19 hkl]
   rw [eeg] at hvar
   have ge:=z543 (f:=fun e=>(slE v e).cs) (g:=Edge.cs) hkl
   have hse:=z541 (f:=fun e=>(slE v e).cs) (g:=Edge.cs) hkl
   have hfl:=z394 (l:=p.es) (i:=k) (f:=fun e=>(slE v e).cs) (g:=Edge.cs) (fun _=>rfl) (fun _=>rfl)
   have hl2:=z542 (fun e=>(slE v e).cs) Edge.cs p.es k hk
   clear hpm
   generalize p.es[k]=e at *
   generalize fgL (fun e=>(slE v e).cs) Edge.cs p.es k=E at *
   generalize hE2:fgL (fun e=>(slE v e).cs) Edge.cs p.es (k+1)=E2 at *
   by_cases h0:0≤e.var
   ·have hv3:e.var.toNat < v.length:=by omega
    have gv:(v.map enB)[e.var.toNat]?=some (enB (v.getD e.var.toNat false)):=by rw [y51,y45 hv3,z19 hv3];rfl
    cases hb:v.getD e.var.toNat false with
    |false =>
     rw [z1085 h0 hb] at hse
     rw [hb] at gv
     repeat' ((first|(apply y4 ok;rfl)|(apply z26;kernel_rfl)|(refine z15 (i:=k) rfl ge ?_)|(refine z15 (i:=e.var.toNat) rfl gv ?_)|(refine z537 rfl (by omega) ?_)|(apply y43;first|omega|(unfold inI;omega))|((apply z5)<;>intro _))<;>conv=>whnf)
     all_goals try (exfalso;omega)
     all_goals refine z21 (k+1) hkl (by omega) (by refine swR [0,1,2,3,4,5] [] rfl rfl ?_;(repeat' first|exact y85 _|exact z9 _|apply y86|((first|refine z203 rfl rfl ?_ ?_|refine z50 rfl ?_ ?_|refine z10 rfl ?_ ?_);(focus ((repeat' (first|exact z4 (fun _=>rfl)|assumption));done)))|constructor)<;>((rw [hE2,← hse];refine z1175 (by simp) ?_;repeat' first|exact F2.nil|exact y85 _|exact z41|apply F2.cons)))
    |true =>
     rw [z462 (by rw [hb];simp),z464 ge] at hse
     rw [hb] at gv
     repeat' ((first|(apply y4 ok;rfl)|(refine z15 (i:=k) rfl ge ?_)|(refine z15 (i:=e.var.toNat) rfl gv ?_)|(apply y43;first|omega|(unfold inI;omega))|((apply z5)<;>intro _))<;>conv=>whnf)
     all_goals try (exfalso;omega)
     all_goals refine z21 (k+1) hkl (by omega) (by refine swR [0,1,2,3,4,5] [] rfl rfl ?_;(repeat' first|exact y85 _|exact z9 _|apply y86|((first|refine z50 rfl ?_ ?_|refine z10 rfl ?_ ?_);(focus ((repeat' (first|exact z4 (fun _=>rfl)|assumption));done)))|constructor)<;>((rw [hE2,← hse];exact z9 _)))
   ·rw [z462 (fun h=>h0 h.1),z464 ge] at hse
    repeat' ((first|(apply y4 ok;rfl)|(refine z15 (i:=k) rfl ge ?_)|(apply y43;first|omega|(unfold inI;omega))|(((with_reducible apply z144;omega));intro _)|((first|apply z5|apply z100)<;>intro _))<;>conv=>whnf)
    all_goals try (exfalso;omega)
    all_goals refine z21 (k+1) hkl (by omega) (by refine swR [0,1,2,3,4,5] [] rfl rfl ?_;(repeat' first|exact y85 _|exact z9 _|apply y86|((first|refine z50 rfl ?_ ?_|refine z10 rfl ?_ ?_);(focus ((repeat' (first|exact z4 (fun _=>rfl)|assumption));done)))|constructor)<;>((rw [hE2,← hse];exact z9 _)))
  ·have ek:k=p.es.length:=by omega
   subst ek
   rw [z544]
   have eown:z39 (slP v p)=[AC.int p.loc,AC.own 10 (p.es.map fun e=>(slE v e).cs)]:=by
    unfold z39 slP
    dsimp only
    rw [List.map_map];rfl
   rw [eown] at hset
   repeat' ((first|(apply y4 ok;rfl)|(apply y43;first|omega|(unfold inI;omega))|((first|(with_reducible apply z144;omega)|(apply z13;omega));intro _)|((first|apply z5|apply z100)<;>intro _))<;>conv=>whnf)
   all_goals try (exfalso;omega)
   all_goals refine z21 (i+1) hil (by omega) (by
    refine Gl.Reach.trans (Gl.Reach.absorb (e:=[.int p.loc,.sref 4 0 p.es.length]) 2 4 i 1 rfl g2 rfl rfl (by simp) rfl (z4 fun _=>rfl) rfl) ?_
    exact (by refine swR [0,1,2,3] [] rfl rfl ?_;(repeat' first|exact y85 _|exact z9 _|apply y86|((first|refine z203 rfl rfl ?_ ?_|refine z10 rfl ?_ ?_);(focus ((repeat' (first|exact z4 (fun _=>rfl)|assumption));done)))|constructor)<;>((refine z45 ?_;rw [List.set_set];exact hset))))
 ·have e:i=s.ps.length:=by omega
  subst e
  rw [z544,show (s.ps.map fun p=>z39 (slP v p))=(slS v s).ps.map z39 by unfold slS;dsimp only;rw [List.map_map];rfl]
  have hsl:(slS v s).ps.length=s.ps.length:=z343
  have hsi:(slS v s).init=s.init:=rfl
  generalize slS v s=z at *
  rw [← hsl,← hsi]
  repeat' ((first|(apply y4 ok;rfl)|(apply y43;omega)|(((apply z13;omega));intro _)|((apply z5)<;>intro _))<;>conv=>whnf)
  all_goals try (exfalso;omega)
  all_goals refine y13 [] [1,2] rfl rfl rfl ?_
  all_goals refine y12 (z93 (.cons (z46 (.cons ?_ (.cons ?_ .nil))) (.cons (y85 _) .nil))) .nil
  all_goals ((apply z37 rfl rfl rfl);(focus (repeat (first|exact z74 _|exact z23 (fun _=>rfl) _)));(focus ((simp;done)));(focus (exact y85 _)))
theorem z764 (s:Sys) (hs1:s.s1) (l:List Tree) (hl:Lmx l) (h:(sysB s && z85 l)=false):CallsA Tryz.prog 31 [.agg s.cs,lst 3 Tree.cs' l] [] (.tup [.agg (⟨[],[]⟩:Sys).cs,.bool false]) []:=by
 have c:=z573 s hs1 l hl h
 refine z7 z16 Tryz.func31 rfl rfl 64 Tryz.ntmps31 (by simp) ?_
 repeat' ((first|(apply y4 ok;rfl)|(apply z6 (c);rfl;rfl))<;>conv=>whnf)
 all_goals refine y13 [] [] rfl rfl rfl ?_
 all_goals exact y12 z897 .nil
theorem z713 (s:Sys) (hs1:s.s1) (l:List Tree) (hl:Lmx l) (h:(sysB s && z85 l)=false):CallsA Tryz.prog 32 [.agg s.cs,lst 3 Tree.cs' l] [] (.tup [.agg (⟨[],[]⟩:Sys).cs,.bool false]) []:=by
 have c:=z565 s hs1 l hl h
 refine z7 z16 Tryz.func32 rfl rfl 74 Tryz.ntmps32 (by simp) ?_
 repeat' ((first|(apply y4 ok;rfl)|(apply z6 (c);rfl;rfl))<;>conv=>whnf)
 all_goals refine y13 [] [] rfl rfl rfl ?_
 all_goals exact y12 z897 .nil
def eqT (x:Int):Tree:=.mk 6 0 [leaf 2 0,leaf 1 x]
theorem eqT_sz (x:Int):(eqT x).sz=2:=by unfold eqT;rw [z231];simp [z82]
set_option maxHeartbeats 3200000 in
theorem z658 (bs:List Int) (hb:BytesOk bs) (p:Int) (hp:few1 p):∃ (M:List Tree) (n:Nat) (p' : Int),(n≤M.length∧M.length=3∧(∀ t∈M,t.sz≤5)∧p≤p'∧p'≤p+40)∧CallsA Tryz.prog 146 [.ptr 0 none 0] [rdO bs p] (.sref 1 0 n) [rdO bs p',.cells 3 (M.map Tree.cs')]:=by
 obtain ⟨M,n,q,⟨h1,h2,h3,h4,h5⟩,c⟩:=z441 bs hb p hp
 obtain ⟨W,pf,hW,hp0,hst,hpf⟩:=z373 (fun _ q (o:Option Int) q'=>match o with
  |none=>∃ w:Int,w≠0∧q'=q+1∧CallsA Tryz.prog 88 [.ptr 0 none 0,.int 2] [rdO bs q] (.int w) [rdO bs (q+1)]
  |some x=>q'=q+1+1∧CallsA Tryz.prog 88 [.ptr 0 none 0,.int 2] [rdO bs q] (.int 0) [rdO bs (q+1)]∧CallsA Tryz.prog 88 [.ptr 0 none 0,.int 3] [rdO bs (q+1)] (.int x) [rdO bs (q+1+1)]) q 2 n (fun k q hk a1 a2=>by
  obtain ⟨w,_,cw⟩:=z63 bs hb q 2 (by omega) (by omega) (by omega)
  obtain ⟨x,_,cx⟩:=z63 bs hb (q+1) 3 (by omega) (by omega) (by omega)
  by_cases hw:w=0
  ·subst hw
   exact ⟨some x,q+1+1,⟨rfl,cw,cx⟩,by omega,by omega⟩
  ·exact ⟨none,q+1,⟨w,hw,rfl,cw⟩,by omega,by omega⟩)
 have hpn:=hpf n (y52 _)
 obtain ⟨N,hNl,hNi⟩:∃ (N:List Tree) (h:N.length=M.length),∀ i (hi:i < M.length),N[i]'(by omega)=match W.getD i none with|some x=>if i < n then eqT x else M[i]|none=>M[i]:=by
  refine ⟨(List.range M.length).map fun j=>match W.getD j none with|some x=>if j < n then eqT x else M.getD j (leaf 0 0)|none=>M.getD j (leaf 0 0),by simp,fun i hi=>?_⟩
  simp only [List.getElem_map,List.getElem_range]
  rw [z19 hi]
 refine ⟨N,n,pf n,⟨by omega,by omega,fun t ht=>?_,by omega,by omega⟩,?_⟩
 ·obtain ⟨i,hi,rfl⟩:=List.mem_iff_getElem.1 ht
  rw [hNi i (by omega)]
  split
  ·split
   ·rw [eqT_sz];omega
   ·exact h3 _ (y44 _)
  ·exact h3 _ (y44 _)
 have hNn:N=N.take n++M.drop n:=by
  apply y74 (by simp [hNl];omega)
  intro i hi hi2
  by_cases hin:i < n
  ·rw [List.getElem_append_left (by simp;omega),List.getElem_take]
  ·rw [List.getElem_append_right (by simp;omega),hNi i (by omega)]
   have e:(match W.getD i none with|some x=>if i < n then eqT x else M[i]'(by omega)|none=>M[i]'(by omega))=M[i]'(by omega):=by
    split
    ·rw [if_neg hin]
    ·rfl
   rw [e]
   simp only [y48,List.getElem_drop]
   congr 1;omega
 rw [hNn]
 rw [← hp0] at c
 refine z7 z16 Tryz.func146 rfl rfl 26 Tryz.ntmps146 (by simp) ?_
 repeat' ((first|(apply y4 ok;rfl)|(apply z8 [0] [1] c;rfl;rfl;rfl;(focus ((repeat' first|exact z12|apply z11)<;>first|exact z33 rfl rfl|(refine z17 ?_;((exact z4 fun _=>rfl)))))))<;>conv=>whnf)
 refine z58 (fun i:Nat=>([(0,.ptr 0 none 0),(3,.sref 1 0 n),(4,.int i)],[rdO bs (pf i),.cells 3 ((N.take i++M.drop i).map Tree.cs')])) (fun i=>i≤n) (fun i=>n - i) 0 (by omega) (by refine swR [0,1] [] rfl rfl ?_;(repeat' first|exact y85 _|exact z9 _|apply y86|refine z10 rfl (z4 (fun _=>rfl)) ?_|constructor)) ?_
 intro i hi
 by_cases hin:i < n
 ·have hs:=hst i (by omega)
  have hiM:i < M.length:=by omega
  have e2:=hNi i hiM
  have hl3:(N.take i++M.drop i).length=3:=by simp;omega
  rw [z19 (show i < W.length by omega)] at e2
  cases hw:W[i]'(by omega) with
  |some x =>
   rw [hw] at hs e2
   obtain ⟨e1,cw,cx⟩:=hs
   dsimp only at e2
   rw [if_pos hin] at e2
   repeat' ((first|(apply y4 ok;rfl)|(apply y43;first|omega|(unfold inI;omega))|(((apply z13;omega));intro _)|((apply z5)<;>intro _)|((first|(apply z25 [0] [] cw;rfl;rfl)|(apply z25 [0] [] cx;rfl;rfl));rfl))<;>conv=>whnf)
   all_goals try (exfalso;omega)
   all_goals refine z21 (i+1) (by omega) (by omega) (by refine swR [0,1] [2] rfl rfl ?_;(repeat' first|exact y85 _|(refine z121 ?_;omega)|apply y86|refine z50 rfl (z4 (fun _=>rfl)) ?_|constructor)<;>(exact mix_le (by omega) hiM hNl (by rw [e2];refine .cons (y85 _) (.cons (y85 _) (.cons ?_ .nil));refine z80 rfl rfl rfl rfl rfl (z66 rfl ?_);repeat' first|exact F2.nil|exact y85 _|exact z41|apply F2.cons)))
  |none =>
   rw [hw] at hs e2
   obtain ⟨w,hw0,e1,cw⟩:=hs
   have e3:=z926 hiM hNl e2
   repeat' ((first|(apply y4 ok;rfl)|(apply y43;(unfold inI;omega))|((apply z5)<;>intro _)|(apply z25 [0] [] cw;rfl;rfl;rfl))<;>conv=>whnf)
   all_goals try (exfalso;omega)
   all_goals refine z21 (i+1) (by omega) (by omega) (by refine swR [0,1] [] rfl rfl ?_;(repeat' first|exact y85 _|(refine z121 ?_;omega)|apply y86|refine z10 rfl (z4 (fun _=>rfl)) ?_|constructor)<;>(exact z45 (by rw [e3])))
 ·have:i=n:=by omega
  subst this
  repeat' ((first|(apply y4 ok;rfl)|((apply z5)<;>intro _))<;>conv=>whnf)
  all_goals try (exfalso;omega)
  all_goals (refine rsD [0,1] [] rfl ?_;(repeat' first|exact y85 _|exact z9 _|apply y86|refine z10 rfl (z4 (fun _=>rfl)) ?_|constructor))
theorem z758 (bs:List Int) (hb:BytesOk bs) (p:Int) (hp:few1 p):∃ (L:List Tree) (p' : Int),(L.length≤3∧(∀ t∈L,t.sz≤5)∧p≤p'∧p'≤p+40)∧CallsA Tryz.prog 146 [.ptr 0 none 0] [rdO bs p] (lst 3 Tree.cs' L) [rdO bs p']:=by
 obtain ⟨M,n,p',⟨h1,h2,h3,h4,h5⟩,c⟩:=z658 bs hb p hp
 refine ⟨M.take n,p',⟨by simp;omega,fun t ht=>h3 t (List.mem_of_mem_take ht),h4,h5⟩,?_⟩
 obtain ⟨a,b,d,rfl⟩:=len3 h2
 have hn:n=0∨n=1∨n=2∨n=3:=by simp at h1;omega
 rcases hn with rfl|rfl|rfl|rfl
 all_goals exact (by refine y5 (c) [0] [1] rfl rfl rfl ?_ ?_<;>(repeat' first|exact y85 _|apply y86|constructor))
set_option maxHeartbeats 6400000 in
theorem z751 (bs:List Int) (hb:BytesOk bs) (p:Int) (hp:few2 p):∃ (s:Sys) (p' : Int),(s.sm∧p≤p'∧p'≤p+4000)∧CallsA Tryz.prog 39 [.ptr 0 none 0] [rdO bs p] (.agg [ints s.init,.sref 1 0 s.ps.length]) [rdO bs p',.cells 2 (s.ps.map z39)]:=by
 obtain ⟨a,⟨la,ua⟩,ca⟩:=z63 bs hb p 2 (by omega) (by omega) (by omega)
 obtain ⟨b,mb,cb⟩:=z87 bs hb (p+1) (by omega) (by omega) [0,0,1,3] (by decide) (by decide)
 obtain ⟨w,mw,cw⟩:=z87 bs hb (p+1+1) (by omega) (by omega) [2,1,2,3] (by decide) (by decide)
 simp only [List.mem_cons,List.not_mem_nil,or_false] at mw
 obtain ⟨m,rfl⟩:∃ m:Nat,w=m:=⟨w.toNat,by omega⟩
 obtain ⟨ps,pf,h1,h2,h3,h4⟩:=z373 (fun _ q pr q'=>z1150 bs q pr q') (p+1+1+1) 1010 m (fun k r hk a1 a2=>z1106 bs hb r (by omega))
 have h5:=h4 m (y52 _)
 refine ⟨⟨[a,b,0],ps⟩,pf m,⟨⟨by simp,by show ps.length≤10;omega,fun e he=>?_⟩,by omega,by omega⟩,?_⟩
 ·obtain ⟨i,hi,rfl⟩:=List.mem_iff_getElem.1 he
  exact (h3 i hi).1
 rw [← h2] at cw
 refine z7 z16 Tryz.func39 rfl rfl 48 Tryz.ntmps39 (by simp) ?_
 repeat' ((first|(apply y4 ok;rfl)|((first|(apply z8 [0] [] ca;rfl;rfl)|(apply z8 [0,2] [] cb;rfl;rfl)|(apply z8 [0,5] [] cw;rfl;rfl));rfl;(focus ((repeat' first|exact z12|apply z11)<;>first|exact z33 rfl rfl|(refine z17 ?_;((exact z4 fun _=>rfl)))))))<;>conv=>whnf)
 refine y84 (y87 2 rfl) ?_
 refine z58 (fun i:Nat=>([(0,.ptr 0 none 0),(2,.ptr 1 none 0),(3,.ptr 2 none 0),(4,.int (m - i))],[rdO bs (pf i),.cells 2 [[.nils,.nils]],.cells 2 [[ints [a,b,0],.sref 3 0 i]],.cells 2 ((ps.take i).map z39)])) (fun i=>i≤m) (fun i=>m - i) 0 (by omega) (by refine swR [0,1,4,6] [3] rfl rfl ?_;(repeat' first|exact y85 _|exact z47|apply y86|refine z10 rfl (z31) ?_|constructor)) ?_
 intro i hi
 by_cases him:i < m
 ·have hil:i < ps.length:=by omega
  obtain ⟨g1,m2,pf2,c1,c2,g2,g3,g4,g5,g6⟩:=h3 i hil
  rw [← g4] at c2
  repeat' ((first|(apply y4 ok;rfl)|((apply z5)<;>intro _)|((first|(apply z8 [0,4] [] c1;rfl;rfl)|(apply z8 [0,6] [] c2;rfl;rfl));rfl;(focus ((repeat' first|exact z12|apply z11)<;>first|exact z33 rfl rfl|(refine z17 ?_;((exact z4 fun _=>rfl)))))))<;>conv=>whnf)
  all_goals try (exfalso;omega)
  refine y84 (y87 10 rfl) ?_
  refine z58 (fun k:Nat=>([(0,.ptr 0 none 0),(2,.ptr 1 none 0),(3,.ptr 2 none 0),(4,.int (m - i)),(5,.ptr 4 none 0),(6,.int (m2 - k))],[rdO bs (pf2 k),.cells 2 [[.nils,.nils]],.cells 2 [[ints [a,b,0],.sref 3 0 i]],.cells 2 ((ps.take i).map z39),.cells 2 [[.int ps[i].loc,.sref 5 0 k]],.cells 10 ((ps[i].es.take k).map Edge.cs)])) (fun k=>k≤m2) (fun k=>m2 - k) 0 (by omega) (by refine swR [0,1,2,3,5,7] [] rfl rfl ?_;(repeat' first|exact y85 _|exact z47|exact z9 _|apply y86|((refine z10 rfl ?_ ?_);(focus ((repeat' (first|exact z31|exact z4 (fun _=>rfl)));done)))|constructor)) ?_
  intro k hk
  by_cases hkm:k < m2
  ·have hke:k < ps[i].es.length:=by omega
   have ce:=g6 k hke
   repeat' ((first|(apply y4 ok;rfl)|(apply z26;kernel_rfl)|(apply y43;first|omega|(unfold inI;omega)|((try dsimp only);simp only [y49,y48,y47,y46,y57,y58];omega)|exact ⟨rfl,z20 rfl z29⟩)|((apply z5)<;>intro _)|(apply z25 [0] [] ce;rfl;rfl;rfl))<;>conv=>whnf)
   all_goals try (exfalso;omega)
   all_goals refine z21 (k+1) (by omega) (by omega) (by refine swR [0,1,2,3,4,7] [] rfl rfl ?_;(repeat' first|exact y85 _|exact z9 _|(refine z121 ?_;omega)|apply y86|((first|refine z40 rfl ?_ ?_|refine z10 rfl ?_ ?_);(focus ((repeat' (first|exact z4 (fun _=>rfl)|apply z22));done)))|refine z106 (by omega) (by omega) ?_|constructor))
  ·have ek:k=m2:=by omega
   subst ek
   rw [y56 (show ps[i].es.length≤k by omega)]
   repeat' ((first|(apply y4 ok;rfl)|(apply y43;first|(unfold inI;omega)|((try dsimp only);simp only [y49,y48,y47,y46,y57,y58];omega)|exact ⟨rfl,z20 rfl z29⟩)|((apply z5)<;>intro _))<;>conv=>whnf)
   all_goals try (exfalso;omega)
   all_goals refine z21 (i+1) (by omega) (by omega) (by
    refine Gl.Reach.trans (Gl.Reach.absorb (e:=[.int ps[i].loc,.sref 5 0 k]) 7 5 i 1 rfl (z828 _ _ i (by simp;omega)) rfl rfl (by rw [y49];exact g3) rfl (z4 fun _=>rfl) rfl) ?_
    exact (by refine swR [0,1,2,7] [] rfl rfl ?_;(repeat' first|exact y85 _|(refine z121 ?_;omega)|apply y86|(refine z10 rfl ?_ ?_;(focus (refine z192 ?_ ?_ rfl<;>first|(simp;omega)|(apply z22;exact z4 fun _=>rfl))))|(refine z342 ?_ ?_;(focus (simp;omega)))|refine z106 (by omega) (by omega) ?_|constructor)<;>(skip)))
 ·have e:i=m:=by omega
  subst e
  rw [y56 (show ps.length≤i by omega)]
  repeat' ((first|(apply y4 ok;rfl)|((apply z5)<;>intro _))<;>conv=>whnf)
  all_goals try (exfalso;omega)
  all_goals (refine rsD [0,3] [] rfl ?_;(repeat' first|exact y85 _|exact z9 _|(refine z60 ?_;((simp;omega)))|apply y86|refine z10 rfl (z4 (fun _=>rfl)) ?_|apply z46|constructor))
theorem z1134 {α:Type} {f:α→List AC} {N M:List α} {i:Nat} (hi:i < M.length) (hl:N.length=M.length):((N.take i++M.drop i).map f)[i]?=some (f M[i]):=by
 rw [y51,y66 (by rw [y48];omega),y48,Nat.min_eq_left (by omega),Nat.sub_self,List.getElem?_drop,Nat.add_zero,y45 hi];rfl
theorem z1133 {α:Type} {N M:List α} {i:Nat} (hi:i≤M.length) (hl:N.length=M.length):(N.take i++M.drop i).length=M.length:=by simp;omega
def gE (e:Edge) (v:Int):Edge:=if 0 < v then ⟨e.fr,e.to,leaf 1 1,e.var,e.val,e.sync⟩ else e
def gP (V:Int→Int) (q:Int) (p:Proc):Proc:=⟨p.loc,(List.range p.es.length).map fun k=>gE (p.eg k) (V (q+(k:Nat)))⟩
def qPos (s:Sys) (q:Int):Nat→Int
 |0=>q
 |i+1=>qPos s q i+((s.pr i).es.length:Nat)
theorem gE_sm {e:Edge} (h:e.sm) (v:Int):(gE e v).sm:=by
 unfold gE
 split
 ·exact ⟨by show (leaf 1 1).sz≤100;rw [z82];omega,h.val,h.var,h.sync⟩
 ·exact h
theorem gP_sm {p:Proc} (h:p.sm) (V:Int→Int) (q:Int):(gP V q p).sm:=by
 refine ⟨h.loc,by simpa [gP] using h.len,fun e he=>?_⟩
 obtain ⟨k,hk,rfl⟩:=List.mem_map.1 he
 exact gE_sm (h.el _ (z775 (List.mem_range.1 hk))) _
theorem z1104 {s:Sys} (h:s.sm) (q:Int):∀ i,i≤s.ps.length→q≤qPos s q i∧qPos s q i≤q+10 * i
 |0,_=>by show q≤q∧q≤q+10 * ((0:Nat):Int);omega
 |i+1,hi=>by
  have ih:=z1104 h q i (by omega)
  have h2:=(h.el _ (z733 (show i < s.ps.length by omega))).len
  show q≤qPos s q i+((s.pr i).es.length:Nat)∧qPos s q i+((s.pr i).es.length:Nat)≤q+10 * ((i+1:Nat):Int)
  omega
set_option maxHeartbeats 6400000 in
theorem z757 (bs:List Int) (hb:BytesOk bs) (p:Int) (hp:few2 p):∃ (s:Sys) (p' : Int),(s.sm∧p≤p'∧p'≤p+5000)∧CallsA Tryz.prog 147 [.ptr 0 none 0] [rdO bs p] (.agg s.cs) [rdO bs p']:=by
 obtain ⟨s,p1,⟨hs,b1,b2⟩,c⟩:=z751 bs hb p hp
 obtain ⟨V,hV⟩:∃ V:Int→Int,∀ q:Int,0≤q→q≤999999000→CallsA Tryz.prog 88 [.ptr 0 none 0,.int 3] [rdO bs q] (.int (V q)) [rdO bs (q+1)]:=by
  have h:∀ q:Int,∃ v:Int,0≤q→q≤999999000→CallsA Tryz.prog 88 [.ptr 0 none 0,.int 3] [rdO bs q] (.int v) [rdO bs (q+1)]:=fun q=>by
   by_cases hq:0≤q∧q≤999999000
   ·obtain ⟨v,_,cv⟩:=z63 bs hb q 3 (by omega) (by omega) (by omega)
    exact ⟨v,fun _ _=>cv⟩
   ·exact ⟨0,fun h1 h2=>absurd ⟨h1,h2⟩ hq⟩
  exact ⟨fun q=>Classical.choose (h q),fun q=>Classical.choose_spec (h q)⟩
 obtain ⟨N,hNl,hNi⟩:∃ (N:List Proc) (h:N.length=s.ps.length),∀ i (hi:i < s.ps.length),N[i]'(by omega)=gP V (qPos s p1 i) s.ps[i]:=by
  refine ⟨(List.range s.ps.length).map fun i=>gP V (qPos s p1 i) (s.pr i),by simp,fun i hi=>?_⟩
  simp only [List.getElem_map,List.getElem_range]
  unfold Sys.pr
  rw [z19 hi]
 have hbd:=z1104 hs p1
 have hn:=hbd s.ps.length (y52 _)
 have hpl:=hs.len
 refine ⟨⟨s.init,N⟩,qPos s p1 s.ps.length,⟨⟨hs.init,by show N.length≤10;omega,fun q hq=>?_⟩,by omega,by omega⟩,?_⟩
 ·obtain ⟨i,hi,rfl⟩:=List.mem_iff_getElem.1 hq
  have hi2:i < N.length:=hi
  rw [hNi i (by omega)]
  exact gP_sm (hs.el _ (y44 _)) V _
 refine z7 z16 Tryz.func147 rfl rfl 40 Tryz.ntmps147 (by simp) ?_
 repeat' ((first|(apply y4 ok;rfl)|(apply z8 [0] [2] c;rfl;rfl;rfl;(focus ((repeat' first|exact z12|apply z11)<;>first|exact z33 rfl rfl|(refine z17 ?_;((exact z4 fun _=>rfl)))))))<;>conv=>whnf)
 refine z58 (fun i:Nat=>([(0,.ptr 0 none 0),(2,.ptr 1 none 0),(3,.ptr 3 none 0),(4,.int i)],[rdO bs (qPos s p1 i),.cells 2 [[.nils,.nils]],.cells 2 ((N.take i++s.ps.drop i).map z39),.cells 2 [[ints s.init,.sref 2 0 s.ps.length]]])) (fun i=>i≤s.ps.length) (fun i=>s.ps.length - i) 0 (y53 _) (by refine swR [0,1,2,3] [] rfl rfl ?_;(repeat' first|exact y85 _|exact z9 _|apply y86|refine z10 rfl (z4 (fun _=>rfl)) ?_|constructor)) ?_
 intro i hi
 by_cases hil:i < s.ps.length
 ·have hq:=hs.el _ (y44 hil)
  have hql:=hq.len
  have hQ:=hbd i hi
  have hQ1:qPos s p1 (i+1)=qPos s p1 i+(s.ps[i].es.length:Nat):=by
   show qPos s p1 i+((s.pr i).es.length:Nat)=_
   unfold Sys.pr;rw [z19 hil]
  have g1:=z1134 (f:=z39) hil hNl
  have hset:=z1132 (f:=z39) hil hNl (e:=z39 (N[i]'(by omega))) rfl
  have hlen2:=z1133 (N:=N) hi hNl
  have hflat:Flat ((N.take i++s.ps.drop i).map z39):=z4 fun _=>rfl
  rw [hNi i hil] at hset
  generalize hF:(N.take i++s.ps.drop i).map z39=F at *
  have hFl:F.length=s.ps.length:=by rw [← hF,y49,hlen2]
  generalize hFZ:(N.take (i+1)++s.ps.drop (i+1)).map z39=FZ at *
  generalize s.ps[i]=q at *
  generalize qPos s p1 i=Q at *
  generalize hQ2:qPos s p1 (i+1)=Q2 at *
  have g2:(F.set i [AC.int q.loc,AC.sref 4 0 q.es.length])[i]?=some [AC.int q.loc,AC.sref 4 0 q.es.length]:=by rw [List.getElem?_set_self (by omega)]
  have hAl:(gP V Q q).es.length=q.es.length:=by simp [gP]
  have hAi:∀ k (hk:k < q.es.length),(gP V Q q).es[k]'(by omega)=gE q.es[k] (V (Q+(k:Nat))):=fun k hk=>by
   simp only [gP,List.getElem_map,List.getElem_range]
   unfold Proc.eg
   rw [z19 hk]
  refine y84 (Gl.Reach.exposeD (e:=z39 q) 2 i 1 rfl g1 rfl rfl) ?_
  conv=>whnf
  rw [y49]
  repeat' ((first|(apply y4 ok;rfl)|((apply z5)<;>intro _))<;>conv=>whnf)
  all_goals try (exfalso;omega)
  refine z58 (fun k:Nat=>([(0,.ptr 0 none 0),(2,.ptr 1 none 0),(3,.ptr 3 none 0),(4,.int i),(5,.int k)],[rdO bs (Q+(k:Nat)),.cells 2 [[.nils,.nils]],.cells 2 (F.set i [AC.int q.loc,AC.sref 4 0 q.es.length]),.cells 2 [[ints s.init,.sref 2 0 s.ps.length]],.cells 10 (((gP V Q q).es.take k++q.es.drop k).map Edge.cs)])) (fun k=>k≤q.es.length) (fun k=>q.es.length - k) 0 (y53 _) (by refine swR [0,1,2,3,4] [] rfl rfl ?_;(repeat' first|exact y85 _|exact z9 _|(refine z121 ?_;omega)|apply y86|((first|refine z50 rfl ?_ ?_|refine z10 rfl ?_ ?_);(focus ((repeat' (first|exact z4 (fun _=>rfl)|assumption));done)))|constructor)<;>((rw [show Q+((0:Nat):Int)=Q by omega];exact y85 _))) ?_
  intro k hk
  by_cases hkl:k < q.es.length
  ·have cv:=hV (Q+(k:Nat)) (by omega) (by omega)
   have ge:=z1134 (f:=Edge.cs) hkl hAl
   have hl3:=z1133 (N:=(gP V Q q).es) hk hAl
   have e2:=hAi k hkl
   generalize V (Q+(k:Nat))=w at *
   by_cases hw:0 < w
   ·have e3:(gP V Q q).es[k]'(by omega)=⟨q.es[k].fr,q.es[k].to,leaf 1 1,q.es[k].var,q.es[k].val,q.es[k].sync⟩:=by rw [e2];exact if_pos hw
    repeat' ((first|(apply y4 ok;rfl)|(refine z15 (i:=i) rfl g2 ?_)|(refine z15 (i:=k) rfl ge ?_)|(apply y43;first|omega|(unfold inI;omega))|((apply z5)<;>intro _)|(apply z25 [0] [] cv;rfl;rfl;rfl))<;>conv=>whnf)
    all_goals try (exfalso;omega)
    all_goals refine z21 (k+1) hkl (by omega) (by refine swR [0,1,2,3,4] [] rfl rfl ?_;(repeat' first|exact y85 _|exact z9 _|(refine z121 ?_;omega)|apply y86|((refine z50 rfl ?_ ?_);(focus ((repeat' (first|exact z4 (fun _=>rfl)|assumption));done)))|constructor)<;>(exact mix_le (by omega) hkl hAl (by rw [e3];repeat' first|exact F2.nil|exact y85 _|exact z41|apply F2.cons)))
   ·have e3:(gP V Q q).es[k]'(by omega)=q.es[k]:=by rw [e2];exact if_neg hw
    have e4:=z926 hkl hAl e3
    repeat' ((first|(apply y4 ok;rfl)|(refine z15 (i:=i) rfl g2 ?_)|(refine z15 (i:=k) rfl ge ?_)|(apply y43;first|omega|(unfold inI;omega))|((apply z5)<;>intro _)|(apply z25 [0] [] cv;rfl;rfl;rfl))<;>conv=>whnf)
    all_goals try (exfalso;omega)
    all_goals refine z21 (k+1) hkl (by omega) (by refine swR [0,1,2,3,4] [] rfl rfl ?_;(repeat' first|exact y85 _|exact z9 _|(refine z121 ?_;omega)|apply y86|((first|refine z50 rfl ?_ ?_|refine z10 rfl ?_ ?_);(focus ((repeat' (first|exact z4 (fun _=>rfl)|assumption));done)))|constructor)<;>(exact z45 (by rw [e4])))
  ·have ek:k=q.es.length:=by omega
   subst ek
   have eA:(gP V Q q).es.take q.es.length++q.es.drop q.es.length=(gP V Q q).es:=by rw [← hAl,y55,hAl,List.drop_length,y64]
   rw [eA]
   have eown:z39 (gP V Q q)=[AC.int q.loc,AC.own 10 ((gP V Q q).es.map Edge.cs)]:=rfl
   rw [eown] at hset
   repeat' ((first|(apply y4 ok;rfl)|(refine z15 (i:=i) rfl g2 ?_)|(apply y43;first|omega|(unfold inI;omega))|((apply z5)<;>intro _))<;>conv=>whnf)
   all_goals try (exfalso;omega)
   all_goals refine z21 (i+1) hil (by omega) (by
    refine Gl.Reach.trans (Gl.Reach.absorb (e:=[.int q.loc,.sref 4 0 q.es.length]) 2 4 i 1 rfl g2 rfl rfl (by rw [y49];exact hAl) rfl (z4 fun _=>rfl) rfl) ?_
    refine swR [0,1,2,3] [] rfl rfl ?_;(repeat' first|exact y85 _|(refine z121 ?_;omega)|apply y86|((refine z203 rfl rfl ?_ ?_);(focus ((repeat' (assumption));done)))|constructor)<;>(rw [hFZ];refine z45 ?_;rw [List.set_set];exact hset))
 ·have e:i=s.ps.length:=by omega
  subst e
  have eA:N.take s.ps.length++s.ps.drop s.ps.length=N:=by rw [← hNl,y55,hNl,List.drop_length,y64]
  rw [eA,← hNl]
  repeat' ((first|(apply y4 ok;rfl)|((apply z5)<;>intro _))<;>conv=>whnf)
  all_goals try (exfalso;omega)
  all_goals refine y13 [0] [2] rfl rfl rfl ?_
  all_goals refine y12 (z46 (.cons (y85 _) (.cons ?_ .nil))) (by (repeat' first|exact y85 _|apply y86|constructor))
  all_goals ((apply z37 rfl rfl rfl);(focus (repeat (exact z74 _)));(focus ((simp;done)));(focus (exact y85 _)))
end Go.Proofs.YtnfoijopccdjeaaGreat
