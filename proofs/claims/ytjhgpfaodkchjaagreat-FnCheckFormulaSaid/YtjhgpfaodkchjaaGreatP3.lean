/- A part of the proofs over this program: T93, T94, T140, T141, T142, T221, T222, T223, T143, T224, T144, T225. -/
import Derived.Test.YtjhgpfaodkchjaaGreatG0
import Derived.Test.YtjhgpfaodkchjaaGreatG1
import Derived.Test.YtjhgpfaodkchjaaGreatG2
import Derived.Test.YtjhgpfaodkchjaaGreatG3
import Derived.Test.YtjhgpfaodkchjaaGreatP0
import Derived.Test.YtjhgpfaodkchjaaGreatP1
import Derived.Test.YtjhgpfaodkchjaaGreatP2
set_option linter.all false
namespace Go.Proofs.YtjhgpfaodkchjaaGreat
open Go.Gl
attribute [local irreducible] z18 AWP z30 z37 z33 RetS z44
def isSt (bs:List Int) (i:Int) (q:Int) (t:State) (q' : Int):Prop:=∃ a b:Int,t=⟨[i % 3],[a,b,0]⟩∧q'=q+1+1 ∧
 CallsA Tryz.prog 101 [.ptr 0 none 0,.int 3] [rdO bs q] (.int a) [rdO bs (q+1)]∧CallsA Tryz.prog 101 [.ptr 0 none 0,.int 2] [rdO bs (q+1)] (.int b) [rdO bs (q+1+1)]
def isRow (bs:List Int) (n:Nat) (q:Int) (r:List Int) (q' : Int):Prop:=∃ a b c:Int,r=(if c=0∧b≠a then [a,b] else [a])∧q'=q+1+1+1 ∧
 CallsA Tryz.prog 101 [.ptr 0 none 0,.int n] [rdO bs q] (.int a) [rdO bs (q+1)]∧CallsA Tryz.prog 101 [.ptr 0 none 0,.int n] [rdO bs (q+1)] (.int b) [rdO bs (q+1+1)] ∧
 CallsA Tryz.prog 101 [.ptr 0 none 0,.int 2] [rdO bs (q+1+1)] (.int c) [rdO bs (q+1+1+1)]
structure Small (bs:List Int) (q q' : Int) (g:Graph) (m:Nat) (pf pg:Nat→Int):Prop where
 num:CallsA Tryz.prog 104 [.ptr 0 none 0,.sref 1 0 6] [rdO bs q,.cells 1 ([3,4,2,5,1,6].map enI)] (.int m) [rdO bs (pf 0),.cells 1 ([3,4,2,5,1,6].map enI)]
 m1:1≤m
 m6:m≤6
 sl:g.st.length=m
 nl:g.nx.length=m
 st:∀ k (h:k < g.st.length),isSt bs (m - k) (pf k) g.st[k] (pf (k+1))
 mid:pf m=pg 0
 row:∀ k (h:k < g.nx.length),isRow bs m (pg k) g.nx[k] (pg (k+1))
 last:pg m=q'
 q0:q≤q'
 q1:q'≤q+40
theorem z935 (bs:List Int) (hb:BytesOk bs) (q:Int) (hq:0≤q∧q≤999990000):∃ g q' m pf pg,Small bs q q' g m pf pg:=by
 obtain ⟨w,mw,cw⟩:=z114 bs hb q (by omega) (by omega) [3,4,2,5,1,6] (by decide) (by decide)
 simp only [List.mem_cons,List.not_mem_nil,or_false] at mw
 obtain ⟨m,rfl⟩:∃ m:Nat,w=m:=⟨w.toNat,by omega⟩
 obtain ⟨S,pf,h1,h2,h3,h4⟩:=z507 (fun k r t r'=>isSt bs (m - k) r t r') (q+1) 2 m (fun k r hk a1 a2=>by
  obtain ⟨a,_,ca⟩:=z74 bs hb r 3 (by omega) (by omega) (by omega)
  obtain ⟨b,_,cb⟩:=z74 bs hb (r+1) 2 (by omega) (by omega) (by omega)
  exact ⟨_,_,⟨a,b,rfl,rfl,ca,cb⟩,by omega,by omega⟩)
 have h5:=h4 m (y52 _)
 obtain ⟨G,pg,g1,g2,g3,g4⟩:=z507 (fun _ r t r'=>isRow bs m r t r') (pf m) 3 m (fun k r hk a1 a2=>by
  obtain ⟨a,_,ca⟩:=z74 bs hb r m (by omega) (by omega) (by omega)
  obtain ⟨b,_,cb⟩:=z74 bs hb (r+1) m (by omega) (by omega) (by omega)
  obtain ⟨c,_,cc⟩:=z74 bs hb (r+1+1) 2 (by omega) (by omega) (by omega)
  exact ⟨_,_,⟨a,b,c,rfl,rfl,ca,cb,cc⟩,by omega,by omega⟩)
 have g5:=g4 m (y52 _)
 exact ⟨⟨S,G⟩,pg m,m,pf,pg,by rw [← h2] at cw;exact cw,by omega,by omega,h1,g1,h3,g2.symm,g3,rfl,by omega,by omega⟩
theorem Small.sm {bs:List Int} {q q' : Int} {g:Graph} {m:Nat} {pf pg:Nat→Int} (h:Small bs q q' g m pf pg):g.sm:=by
 have h1:=h.sl
 have h2:=h.nl
 have h3:=h.m6
 refine ⟨by omega,by omega,fun s hs=>?_,fun r hr=>?_⟩
 ·obtain ⟨i,hi,rfl⟩:=List.mem_iff_getElem.1 hs
  obtain ⟨a,b,e,_⟩:=h.st i hi
  rw [e];exact ⟨by simp,by simp⟩
 ·obtain ⟨i,hi,rfl⟩:=List.mem_iff_getElem.1 hr
  obtain ⟨a,b,c,e,_⟩:=h.row i hi
  rw [e];split<;>simp
set_option maxHeartbeats 6400000 in
theorem z1023 (bs:List Int) (hb:BytesOk bs) (p:Int) (hp:few3 p):∃ (g:Graph) (p' : Int),(g.sm∧1≤g.st.length∧g.nx.length=g.st.length∧p≤p'∧p'≤p+5000)∧CallsA Tryz.prog 45 [.ptr 0 none 0] [rdO bs p] (.agg g.cs) [rdO bs p']:=by
 obtain ⟨v,⟨v0,v1⟩,cv⟩:=z74 bs hb p 3 (by omega) (by omega) (by omega)
 by_cases hv:0 < v
 ·obtain ⟨s,q0,⟨hs,s0,s1⟩,cs⟩:=z878 bs hb (p+1) ⟨by omega,by omega⟩
  have cB:=z707 s hs.s1
  by_cases hr:∃ g,z347 s=some g∧g.st.length≤24
  ·obtain ⟨g,hg,hl⟩:=hr
   have hI:GInv s g.st g.nx g.st.length:=by
    have h:=hg
    unfold z347 at h
    split at h
    ·rename_i hv2
     have hso:=Sys.ok_of hv2
     exact grow_inv hso 61 _ _ 0 g ⟨by simp,by simp,by simp,rfl,fun t ht=>by
      rw [List.mem_singleton.1 ht]
      exact ⟨by simp,hso.init⟩,by simp⟩ h
    ·cases h
   have hso:s.ok:=by
    have h:=hg
    unfold z347 at h
    split at h
    ·exact Sys.ok_of (by assumption)
    ·cases h
   refine ⟨g,q0,⟨⟨by omega,by have:=hI.g;omega,fun t ht=>(hI.st t ht).sm hso,fun r hr=>by have:=hI.row r hr;omega⟩,hI.one,hI.g,by omega,by omega⟩,?_⟩
   rw [hg] at cB
   simp only [Option.getD_some,Option.isSome_some] at cB
   refine z7 z16 Tryz.func45 rfl rfl 88 Tryz.ntmps45 (by simp) ?_
   repeat' ((first|(apply y4 ok;rfl)|((apply z6)<;>intro _)|(apply z4 (cB);rfl;rfl)|((first|(apply z40 [0] [] cv;rfl;rfl)|(apply z40 [0] [] cs;rfl;rfl));rfl))<;>conv=>whnf)
   all_goals try (exfalso;omega)
   all_goals (refine rsD [0] [] rfl ?_;(repeat' first|exact y86 _|apply y87|constructor))
  ·obtain ⟨g,q',m,pf,pg,F⟩:=z935 bs hb q0 (by omega)
   have m1:=F.m1
   have m6:=F.m6
   have sl:=F.sl
   have nl:=F.nl
   have z0:=F.q0
   have z1:=F.q1
   cases hB:z347 s with
   |none =>
    rw [hB] at cB
    simp only [Option.getD_none,Option.isSome_none] at cB
    refine ⟨g,q',⟨F.sm,by omega,by omega,by omega,by omega⟩,?_⟩
    have Fn:=F.num
    refine z7 z16 Tryz.func45 rfl rfl 88 Tryz.ntmps45 (by simp) ?_
    repeat' ((first|(apply y4 ok;rfl)|((apply z6)<;>intro _)|(apply z4 (cB);rfl;rfl)|((first|(apply z10 [0] [] cv;rfl;rfl)|(apply z10 [0] [] cs;rfl;rfl)|(apply z10 [0,4] [] Fn;rfl;rfl));rfl;(focus ((repeat' first|exact z17|apply z14)<;>first|exact z47 rfl rfl|(refine z19 ?_;((exact z5 fun _=>rfl)))))))<;>conv=>whnf)
    all_goals try (exfalso;omega)
    all_goals
     refine y85 (y88 2 rfl) ?_
     refine z63 (fun k:Nat=>([(0,.ptr 0 none 0),(2,.ptr 1 none 0),(5,.ptr 2 none 0),(6,.int (m - k))],[rdO bs (pf k),.cells 2 [[.nils,.nils]],.cells 2 [[.sref 3 0 k,.nils]],.cells 2 ((g.st.take k).map State.cs)])) (fun k=>k≤m) (fun k=>m - k) 0 (by omega) (by refine swR [0,1,3,5] [] rfl rfl ?_;(repeat' first|exact y86 _|exact z48|apply y87|refine z8 rfl (z23) ?_|constructor)) ?_
     intro k hk
     by_cases hkm:k < m
     ·have hkl:k < g.st.length:=by omega
      obtain ⟨a,b,es,eq,ca,cb⟩:=F.st k hkl
      rw [← eq] at cb
      repeat' ((first|(apply y4 ok;rfl)|(apply z22;kernel_rfl)|(apply y43;first|omega|(unfold inI;omega)|((try dsimp only);simp only [y49,y48,y47,y46,y58,y59];omega)|exact ⟨rfl,z20 rfl z27⟩)|((apply z6)<;>intro _)|((first|(apply z40 [0] [] ca;rfl;rfl)|(apply z40 [0] [] cb;rfl;rfl));rfl))<;>conv=>whnf)
      all_goals try (exfalso;omega)
      all_goals refine z25 (k+1) (by omega) (by omega) (by refine swR [0,1,2,7] [4,5] rfl rfl ?_;(repeat' first|exact y86 _|(refine z162 ?_;omega)|apply y87|((refine z35 rfl ?_ ?_);(focus ((repeat' (first|exact z5 (fun _=>rfl)|apply z21));done)))|refine z133 (by omega) (by omega) ?_|refine z85 rfl rfl rfl rfl rfl ?_|constructor)<;>(rw [es];exact y86 _))
     ·have e:k=m:=by omega
      subst e
      rw [y57 (show g.st.length≤k by omega)]
      repeat' ((first|(apply y4 ok;rfl)|(apply y43;omega)|((apply z6)<;>intro _))<;>conv=>whnf)
      all_goals try (exfalso;omega)
      refine y85 (y88 1 rfl) ?_
      have Fm:=F.mid
      rw [Fm]
      refine z63 (fun i:Nat=>([(0,.ptr 0 none 0),(2,.ptr 1 none 0),(5,.ptr 2 none 0),(7,.int i)],[rdO bs (pg i),.cells 2 [[.nils,.nils]],.cells 2 [[.sref 3 0 k,.sref 4 0 i]],.cells 2 (g.st.map State.cs),.cells 1 ((g.nx.take i).map encL)])) (fun i=>i≤k) (fun i=>k - i) 0 (by omega) (by refine swR [0,1,2,3,4] [] rfl rfl ?_;(repeat' first|exact y86 _|exact z48|exact z9 _|apply y87|((refine z8 rfl ?_ ?_);(focus ((repeat' (first|exact z23|exact z5 (fun _=>rfl)));done)))|constructor)) ?_
      intro i hi
      by_cases hik:i < k
      ·have hil:i < g.nx.length:=by omega
       obtain ⟨a,b,c,er,eq,ca,cb,cc⟩:=F.row i hil
       rw [← eq] at cc
       by_cases hc:c=0
       ·by_cases hba:b=a
        ·rw [if_neg (fun h=>h.2 hba)] at er
         repeat' ((first|(apply y4 ok;rfl)|(apply y43;first|omega|(unfold inI;omega)|((try dsimp only);simp only [y49,y48,y47,y46,y58,y59];omega)|exact ⟨rfl,z20 rfl z27⟩)|apply z104|((first|apply z6|apply z46)<;>intro _)|((first|(apply z40 [0] [] ca;rfl;rfl)|(apply z40 [0] [] cb;rfl;rfl)|(apply z40 [0] [] cc;rfl;rfl));rfl))<;>conv=>whnf)
         all_goals try (exfalso;omega)
         all_goals refine z25 (i+1) (by omega) (by omega) (by refine swR [0,1,2,3,7] [5] rfl rfl ?_;(repeat' first|exact y86 _|exact z9 _|apply y87|((first|refine z35 rfl ?_ ?_|refine z8 rfl ?_ ?_);(focus ((repeat' (first|exact z5 (fun _=>rfl)|apply z21));done)))|refine z133 (by omega) (by omega) ?_|refine z85 rfl rfl rfl rfl rfl ?_|constructor)<;>((rw [er];exact y86 _)))
        ·rw [if_pos ⟨hc,hba⟩] at er
         repeat' ((first|(apply y4 ok;rfl)|(apply y43;first|omega|(unfold inI;omega)|((try dsimp only);simp only [y49,y48,y47,y46,y58,y59];omega)|exact ⟨rfl,z20 rfl z27⟩)|apply z104|((first|apply z6|apply z46)<;>intro _)|((first|(apply z40 [0] [] ca;rfl;rfl)|(apply z40 [0] [] cb;rfl;rfl)|(apply z40 [0] [] cc;rfl;rfl));rfl))<;>conv=>whnf)
         all_goals try (exfalso;omega)
         all_goals refine z25 (i+1) (by omega) (by omega) (by refine swR [0,1,2,3,9] [7] rfl rfl ?_;(repeat' first|exact y86 _|exact z9 _|apply y87|((first|refine z35 rfl ?_ ?_|refine z8 rfl ?_ ?_);(focus ((repeat' (first|exact z5 (fun _=>rfl)|apply z21));done)))|refine z133 (by omega) (by omega) ?_|((apply z85 rfl rfl rfl);(focus ((repeat (first|apply z175|apply z248|rfl));done));(focus ((rfl);done)))|constructor)<;>((rw [er];exact y86 _)))
       ·rw [if_neg (fun h=>hc h.1)] at er
        repeat' ((first|(apply y4 ok;rfl)|(apply y43;first|omega|(unfold inI;omega)|((try dsimp only);simp only [y49,y48,y47,y46,y58,y59];omega)|exact ⟨rfl,z20 rfl z27⟩)|apply z104|((first|apply z6|apply z46)<;>intro _)|((first|(apply z40 [0] [] ca;rfl;rfl)|(apply z40 [0] [] cb;rfl;rfl)|(apply z40 [0] [] cc;rfl;rfl));rfl))<;>conv=>whnf)
        all_goals try (exfalso;omega)
        all_goals refine z25 (i+1) (by omega) (by omega) (by refine swR [0,1,2,3,7] [5] rfl rfl ?_;(repeat' first|exact y86 _|exact z9 _|apply y87|((first|refine z35 rfl ?_ ?_|refine z8 rfl ?_ ?_);(focus ((repeat' (first|exact z5 (fun _=>rfl)|apply z21));done)))|refine z133 (by omega) (by omega) ?_|refine z85 rfl rfl rfl rfl rfl ?_|constructor)<;>((rw [er];exact y86 _)))
      ·have e:i=k:=by omega
       subst e
       rw [y57 (show g.nx.length≤i by omega)]
       repeat' ((first|(apply y4 ok;rfl)|((apply z6)<;>intro _))<;>conv=>whnf)
       all_goals try (exfalso;omega)
       all_goals rw [F.last]
       all_goals (refine rsD [0] [3,4] rfl ?_;(repeat' first|exact y86 _|(refine z292 ?_;omega)|apply y87|((apply z41 rfl rfl rfl);(focus ((repeat ((exact z34 (fun _=>rfl) _)));done));(focus (((simp;omega));done)))|apply z38|constructor))
   |some g0 =>
    have hl:¬(g0.st.length≤24):=fun h=>hr ⟨g0,hB,h⟩
    rw [hB] at cB
    simp only [Option.getD_some,Option.isSome_some] at cB
    refine ⟨g,q',⟨F.sm,by omega,by omega,by omega,by omega⟩,?_⟩
    have Fn:=F.num
    refine z7 z16 Tryz.func45 rfl rfl 88 Tryz.ntmps45 (by simp) ?_
    repeat' ((first|(apply y4 ok;rfl)|((apply z6)<;>intro _)|(apply z4 (cB);rfl;rfl)|((first|(apply z10 [0] [] cv;rfl;rfl)|(apply z10 [0] [] cs;rfl;rfl)|(apply z10 [0,4] [] Fn;rfl;rfl));rfl;(focus ((repeat' first|exact z17|apply z14)<;>first|exact z47 rfl rfl|(refine z19 ?_;((exact z5 fun _=>rfl)))))))<;>conv=>whnf)
    all_goals try (exfalso;omega)
    all_goals
     refine y85 (y88 2 rfl) ?_
     refine z63 (fun k:Nat=>([(0,.ptr 0 none 0),(2,.ptr 1 none 0),(5,.ptr 2 none 0),(6,.int (m - k))],[rdO bs (pf k),.cells 2 [[.nils,.nils]],.cells 2 [[.sref 3 0 k,.nils]],.cells 2 ((g.st.take k).map State.cs)])) (fun k=>k≤m) (fun k=>m - k) 0 (by omega) (by refine swR [0,1,3,5] [] rfl rfl ?_;(repeat' first|exact y86 _|exact z48|apply y87|refine z8 rfl (z23) ?_|constructor)) ?_
     intro k hk
     by_cases hkm:k < m
     ·have hkl:k < g.st.length:=by omega
      obtain ⟨a,b,es,eq,ca,cb⟩:=F.st k hkl
      rw [← eq] at cb
      repeat' ((first|(apply y4 ok;rfl)|(apply z22;kernel_rfl)|(apply y43;first|omega|(unfold inI;omega)|((try dsimp only);simp only [y49,y48,y47,y46,y58,y59];omega)|exact ⟨rfl,z20 rfl z27⟩)|((apply z6)<;>intro _)|((first|(apply z40 [0] [] ca;rfl;rfl)|(apply z40 [0] [] cb;rfl;rfl));rfl))<;>conv=>whnf)
      all_goals try (exfalso;omega)
      all_goals refine z25 (k+1) (by omega) (by omega) (by refine swR [0,1,2,7] [4,5] rfl rfl ?_;(repeat' first|exact y86 _|(refine z162 ?_;omega)|apply y87|((refine z35 rfl ?_ ?_);(focus ((repeat' (first|exact z5 (fun _=>rfl)|apply z21));done)))|refine z133 (by omega) (by omega) ?_|refine z85 rfl rfl rfl rfl rfl ?_|constructor)<;>(rw [es];exact y86 _))
     ·have e:k=m:=by omega
      subst e
      rw [y57 (show g.st.length≤k by omega)]
      repeat' ((first|(apply y4 ok;rfl)|(apply y43;omega)|((apply z6)<;>intro _))<;>conv=>whnf)
      all_goals try (exfalso;omega)
      refine y85 (y88 1 rfl) ?_
      have Fm:=F.mid
      rw [Fm]
      refine z63 (fun i:Nat=>([(0,.ptr 0 none 0),(2,.ptr 1 none 0),(5,.ptr 2 none 0),(7,.int i)],[rdO bs (pg i),.cells 2 [[.nils,.nils]],.cells 2 [[.sref 3 0 k,.sref 4 0 i]],.cells 2 (g.st.map State.cs),.cells 1 ((g.nx.take i).map encL)])) (fun i=>i≤k) (fun i=>k - i) 0 (by omega) (by refine swR [0,1,2,3,4] [] rfl rfl ?_;(repeat' first|exact y86 _|exact z48|exact z9 _|apply y87|((refine z8 rfl ?_ ?_);(focus ((repeat' (first|exact z23|exact z5 (fun _=>rfl)));done)))|constructor)) ?_
      intro i hi
      by_cases hik:i < k
      ·have hil:i < g.nx.length:=by omega
       obtain ⟨a,b,c,er,eq,ca,cb,cc⟩:=F.row i hil
       rw [← eq] at cc
       by_cases hc:c=0
       ·by_cases hba:b=a
        ·rw [if_neg (fun h=>h.2 hba)] at er
         repeat' ((first|(apply y4 ok;rfl)|(apply y43;first|omega|(unfold inI;omega)|((try dsimp only);simp only [y49,y48,y47,y46,y58,y59];omega)|exact ⟨rfl,z20 rfl z27⟩)|apply z104|((first|apply z6|apply z46)<;>intro _)|((first|(apply z40 [0] [] ca;rfl;rfl)|(apply z40 [0] [] cb;rfl;rfl)|(apply z40 [0] [] cc;rfl;rfl));rfl))<;>conv=>whnf)
         all_goals try (exfalso;omega)
         all_goals refine z25 (i+1) (by omega) (by omega) (by refine swR [0,1,2,3,7] [5] rfl rfl ?_;(repeat' first|exact y86 _|exact z9 _|apply y87|((first|refine z35 rfl ?_ ?_|refine z8 rfl ?_ ?_);(focus ((repeat' (first|exact z5 (fun _=>rfl)|apply z21));done)))|refine z133 (by omega) (by omega) ?_|refine z85 rfl rfl rfl rfl rfl ?_|constructor)<;>((rw [er];exact y86 _)))
        ·rw [if_pos ⟨hc,hba⟩] at er
         repeat' ((first|(apply y4 ok;rfl)|(apply y43;first|omega|(unfold inI;omega)|((try dsimp only);simp only [y49,y48,y47,y46,y58,y59];omega)|exact ⟨rfl,z20 rfl z27⟩)|apply z104|((first|apply z6|apply z46)<;>intro _)|((first|(apply z40 [0] [] ca;rfl;rfl)|(apply z40 [0] [] cb;rfl;rfl)|(apply z40 [0] [] cc;rfl;rfl));rfl))<;>conv=>whnf)
         all_goals try (exfalso;omega)
         all_goals refine z25 (i+1) (by omega) (by omega) (by refine swR [0,1,2,3,9] [7] rfl rfl ?_;(repeat' first|exact y86 _|exact z9 _|apply y87|((first|refine z35 rfl ?_ ?_|refine z8 rfl ?_ ?_);(focus ((repeat' (first|exact z5 (fun _=>rfl)|apply z21));done)))|refine z133 (by omega) (by omega) ?_|((apply z85 rfl rfl rfl);(focus ((repeat (first|apply z175|apply z248|rfl));done));(focus ((rfl);done)))|constructor)<;>((rw [er];exact y86 _)))
       ·rw [if_neg (fun h=>hc h.1)] at er
        repeat' ((first|(apply y4 ok;rfl)|(apply y43;first|omega|(unfold inI;omega)|((try dsimp only);simp only [y49,y48,y47,y46,y58,y59];omega)|exact ⟨rfl,z20 rfl z27⟩)|apply z104|((first|apply z6|apply z46)<;>intro _)|((first|(apply z40 [0] [] ca;rfl;rfl)|(apply z40 [0] [] cb;rfl;rfl)|(apply z40 [0] [] cc;rfl;rfl));rfl))<;>conv=>whnf)
        all_goals try (exfalso;omega)
        all_goals refine z25 (i+1) (by omega) (by omega) (by refine swR [0,1,2,3,7] [5] rfl rfl ?_;(repeat' first|exact y86 _|exact z9 _|apply y87|((first|refine z35 rfl ?_ ?_|refine z8 rfl ?_ ?_);(focus ((repeat' (first|exact z5 (fun _=>rfl)|apply z21));done)))|refine z133 (by omega) (by omega) ?_|refine z85 rfl rfl rfl rfl rfl ?_|constructor)<;>((rw [er];exact y86 _)))
      ·have e:i=k:=by omega
       subst e
       rw [y57 (show g.nx.length≤i by omega)]
       repeat' ((first|(apply y4 ok;rfl)|((apply z6)<;>intro _))<;>conv=>whnf)
       all_goals try (exfalso;omega)
       all_goals rw [F.last]
       all_goals (refine rsD [0] [3,4] rfl ?_;(repeat' first|exact y86 _|(refine z292 ?_;omega)|apply y87|((apply z41 rfl rfl rfl);(focus ((repeat ((exact z34 (fun _=>rfl) _)));done));(focus (((simp;omega));done)))|apply z38|constructor))
 ·obtain ⟨g,q',m,pf,pg,F⟩:=z935 bs hb (p+1) (by omega)
  have m1:=F.m1
  have m6:=F.m6
  have sl:=F.sl
  have nl:=F.nl
  have z0:=F.q0
  have z1:=F.q1
  refine ⟨g,q',⟨F.sm,by omega,by omega,by omega,by omega⟩,?_⟩
  have Fn:=F.num
  refine z7 z16 Tryz.func45 rfl rfl 88 Tryz.ntmps45 (by simp) ?_
  repeat' ((first|(apply y4 ok;rfl)|((apply z6)<;>intro _)|((first|(apply z10 [0] [] cv;rfl;rfl)|(apply z10 [0,3] [] Fn;rfl;rfl));rfl;(focus ((repeat' first|exact z17|apply z14)<;>first|exact z47 rfl rfl|(refine z19 ?_;((exact z5 fun _=>rfl)))))))<;>conv=>whnf)
  all_goals try (exfalso;omega)
  all_goals
   refine y85 (y88 2 rfl) ?_
   refine z63 (fun k:Nat=>([(0,.ptr 0 none 0),(2,.ptr 1 none 0),(5,.ptr 2 none 0),(6,.int (m - k))],[rdO bs (pf k),.cells 2 [[.nils,.nils]],.cells 2 [[.sref 3 0 k,.nils]],.cells 2 ((g.st.take k).map State.cs)])) (fun k=>k≤m) (fun k=>m - k) 0 (by omega) (by refine swR [0,1,2,4] [] rfl rfl ?_;(repeat' first|exact y86 _|exact z48|apply y87|refine z8 rfl (z23) ?_|constructor)) ?_
   intro k hk
   by_cases hkm:k < m
   ·have hkl:k < g.st.length:=by omega
    obtain ⟨a,b,es,eq,ca,cb⟩:=F.st k hkl
    rw [← eq] at cb
    repeat' ((first|(apply y4 ok;rfl)|(apply z22;kernel_rfl)|(apply y43;first|omega|(unfold inI;omega)|((try dsimp only);simp only [y49,y48,y47,y46,y58,y59];omega)|exact ⟨rfl,z20 rfl z27⟩)|((apply z6)<;>intro _)|((first|(apply z40 [0] [] ca;rfl;rfl)|(apply z40 [0] [] cb;rfl;rfl));rfl))<;>conv=>whnf)
    all_goals try (exfalso;omega)
    all_goals refine z25 (k+1) (by omega) (by omega) (by refine swR [0,1,2,7] [4,5] rfl rfl ?_;(repeat' first|exact y86 _|(refine z162 ?_;omega)|apply y87|((refine z35 rfl ?_ ?_);(focus ((repeat' (first|exact z5 (fun _=>rfl)|apply z21));done)))|refine z133 (by omega) (by omega) ?_|refine z85 rfl rfl rfl rfl rfl ?_|constructor)<;>(rw [es];exact y86 _))
   ·have e:k=m:=by omega
    subst e
    rw [y57 (show g.st.length≤k by omega)]
    repeat' ((first|(apply y4 ok;rfl)|(apply y43;omega)|((apply z6)<;>intro _))<;>conv=>whnf)
    all_goals try (exfalso;omega)
    refine y85 (y88 1 rfl) ?_
    have Fm:=F.mid
    rw [Fm]
    refine z63 (fun i:Nat=>([(0,.ptr 0 none 0),(2,.ptr 1 none 0),(5,.ptr 2 none 0),(7,.int i)],[rdO bs (pg i),.cells 2 [[.nils,.nils]],.cells 2 [[.sref 3 0 k,.sref 4 0 i]],.cells 2 (g.st.map State.cs),.cells 1 ((g.nx.take i).map encL)])) (fun i=>i≤k) (fun i=>k - i) 0 (by omega) (by refine swR [0,1,2,3,4] [] rfl rfl ?_;(repeat' first|exact y86 _|exact z48|exact z9 _|apply y87|((refine z8 rfl ?_ ?_);(focus ((repeat' (first|exact z23|exact z5 (fun _=>rfl)));done)))|constructor)) ?_
    intro i hi
    by_cases hik:i < k
    ·have hil:i < g.nx.length:=by omega
     obtain ⟨a,b,c,er,eq,ca,cb,cc⟩:=F.row i hil
     rw [← eq] at cc
     by_cases hc:c=0
     ·by_cases hba:b=a
      ·rw [if_neg (fun h=>h.2 hba)] at er
       repeat' ((first|(apply y4 ok;rfl)|(apply y43;first|omega|(unfold inI;omega)|((try dsimp only);simp only [y49,y48,y47,y46,y58,y59];omega)|exact ⟨rfl,z20 rfl z27⟩)|apply z104|((first|apply z6|apply z46)<;>intro _)|((first|(apply z40 [0] [] ca;rfl;rfl)|(apply z40 [0] [] cb;rfl;rfl)|(apply z40 [0] [] cc;rfl;rfl));rfl))<;>conv=>whnf)
       all_goals try (exfalso;omega)
       all_goals refine z25 (i+1) (by omega) (by omega) (by refine swR [0,1,2,3,7] [5] rfl rfl ?_;(repeat' first|exact y86 _|exact z9 _|apply y87|((first|refine z35 rfl ?_ ?_|refine z8 rfl ?_ ?_);(focus ((repeat' (first|exact z5 (fun _=>rfl)|apply z21));done)))|refine z133 (by omega) (by omega) ?_|refine z85 rfl rfl rfl rfl rfl ?_|constructor)<;>((rw [er];exact y86 _)))
      ·rw [if_pos ⟨hc,hba⟩] at er
       repeat' ((first|(apply y4 ok;rfl)|(apply y43;first|omega|(unfold inI;omega)|((try dsimp only);simp only [y49,y48,y47,y46,y58,y59];omega)|exact ⟨rfl,z20 rfl z27⟩)|apply z104|((first|apply z6|apply z46)<;>intro _)|((first|(apply z40 [0] [] ca;rfl;rfl)|(apply z40 [0] [] cb;rfl;rfl)|(apply z40 [0] [] cc;rfl;rfl));rfl))<;>conv=>whnf)
       all_goals try (exfalso;omega)
       all_goals refine z25 (i+1) (by omega) (by omega) (by refine swR [0,1,2,3,9] [7] rfl rfl ?_;(repeat' first|exact y86 _|exact z9 _|apply y87|((first|refine z35 rfl ?_ ?_|refine z8 rfl ?_ ?_);(focus ((repeat' (first|exact z5 (fun _=>rfl)|apply z21));done)))|refine z133 (by omega) (by omega) ?_|((apply z85 rfl rfl rfl);(focus ((repeat (first|apply z175|apply z248|rfl));done));(focus ((rfl);done)))|constructor)<;>((rw [er];exact y86 _)))
     ·rw [if_neg (fun h=>hc h.1)] at er
      repeat' ((first|(apply y4 ok;rfl)|(apply y43;first|omega|(unfold inI;omega)|((try dsimp only);simp only [y49,y48,y47,y46,y58,y59];omega)|exact ⟨rfl,z20 rfl z27⟩)|apply z104|((first|apply z6|apply z46)<;>intro _)|((first|(apply z40 [0] [] ca;rfl;rfl)|(apply z40 [0] [] cb;rfl;rfl)|(apply z40 [0] [] cc;rfl;rfl));rfl))<;>conv=>whnf)
      all_goals try (exfalso;omega)
      all_goals refine z25 (i+1) (by omega) (by omega) (by refine swR [0,1,2,3,7] [5] rfl rfl ?_;(repeat' first|exact y86 _|exact z9 _|apply y87|((first|refine z35 rfl ?_ ?_|refine z8 rfl ?_ ?_);(focus ((repeat' (first|exact z5 (fun _=>rfl)|apply z21));done)))|refine z133 (by omega) (by omega) ?_|refine z85 rfl rfl rfl rfl rfl ?_|constructor)<;>((rw [er];exact y86 _)))
    ·have e:i=k:=by omega
     subst e
     rw [y57 (show g.nx.length≤i by omega)]
     repeat' ((first|(apply y4 ok;rfl)|((apply z6)<;>intro _))<;>conv=>whnf)
     all_goals try (exfalso;omega)
     all_goals rw [F.last]
     all_goals (refine rsD [0] [3,4] rfl ?_;(repeat' first|exact y86 _|(refine z292 ?_;omega)|apply y87|((apply z41 rfl rfl rfl);(focus ((repeat ((exact z34 (fun _=>rfl) _)));done));(focus (((simp;omega));done)))|apply z38|constructor))
structure Graph.d (g:Graph):Prop where
 st:g.st.length≤100
 nx:g.nx.length≤101
 el:∀ s∈g.st,s.sm
 row:∀ r∈g.nx,r.length≤1001
theorem Graph.d.mx {g:Graph} (h:g.d):g.mx:=by
 have h1:=h.st
 have h2:=h.nx
 have h3:=h.el
 exact ⟨⟨by unfold maxLen;omega,fun s hs=>⟨by have:=(h3 s hs).a;unfold maxLen;omega,by have:=(h3 s hs).b;unfold maxLen;omega⟩⟩,by unfold maxLen;omega,fun l hl=>by have:=h.row l hl;unfold maxLen;omega⟩
structure Lab.d (l:List Tree):Prop where
 len:l.length≤3
 el:∀ t∈l,t.sz≤5
theorem Lab.d.mx {l:List Tree} (h:Lab.d l):Lmx l:=Lmx_of (by have:=h.len;omega) fun t ht=>by have:=h.el t ht;omega
structure CodeOk (bs:List Int):Prop where
 len:bs.length≤maxLen
 el:∀ x∈bs,0≤x∧x≤255
theorem CodeOk.take {bs:List Int} (h:CodeOk bs):BytesOk (bs.take 2000):=⟨by simp;omega,fun x hx=>h.el x (List.mem_of_mem_take hx)⟩
theorem mutG_ok (bs:List Int) (hb:BytesOk bs) (p:Int) (hp:few3 p):∃ (g0 g:Graph) (p1 p2:Int),CallsA Tryz.prog 45 [.ptr 0 none 0] [rdO bs p] (.agg g0.cs) [rdO bs p1]∧CallsA Tryz.prog 44 [.ptr 0 none 0,.agg g0.cs] [rdO bs p1] (.agg g.cs) [rdO bs p2]∧g.d∧p≤p2∧p2≤p+6000:=by
 obtain ⟨g0,p1,⟨h1,h2,h3,h4,h5⟩,c1⟩:=z1023 bs hb p hp
 obtain ⟨g,p2,⟨k1,k2,k3,k4,k5,k6⟩,c2⟩:=z877 bs hb p1 ⟨by omega,by omega⟩ g0 h1 h2 h3
 exact ⟨g0,g,p1,p2,c1,c2,⟨k1,k2,k3,k4⟩,by omega,by omega⟩
end Go.Proofs.YtjhgpfaodkchjaaGreat
namespace Go.Proofs.YtjhgpfaodkchjaaGreat
open Go.Gl
attribute [local irreducible] z18 AWP z30 z37 z33
theorem z608 (k:Int):CallsA Tryz.prog 181 [.int k] [] (.int (z181 k)) []:=by
 refine z13 z16 Tryz.func181 rfl rfl 17 Tryz.ntmps181 (by simp) ?_
 repeat' (first|(apply y4 ok;rfl;conv=>whnf)|(apply z6<;>intro _<;>conv=>whnf))
 all_goals (refine z55 rfl rfl ?_;unfold z181;first|(rw [if_pos (by omega)];rfl)|(rw [if_neg (by omega),if_pos (by omega)];rfl)|(rw [if_neg (by omega),if_neg (by omega),if_pos (by omega)];rfl)|(rw [if_neg (by omega),if_neg (by omega),if_neg (by omega)];rfl))
theorem z849 (l:List Tree) (d:Int):Tree.shapeFs l d=l.all (fun t=>t.shapeF d):=by
 induction l with
 |nil=>rfl
 |cons t l ih=>simp [Tree.shapeFs,ih]
theorem z377 (t:Tree) (d:Int):t.shapeF d=(decide (1≤d∧(t.kids.length:Int)=z181 t.kind∧0≤t.val∧t.val≤z393 t.kind) && t.kids.all fun t=>t.shapeF (d - 1)):=by
 cases t;simp only [Tree.shapeF,Tree.kids,Tree.kind,Tree.val,z849];rfl
theorem z1021 (t:Tree):t.mx→∀ d:Int,-100≤d→d≤100→CallsA Tryz.prog 123 [z26 Tree.cs' t,.int d] [] (.bool (t.shapeF d)) []:=by
  induction t using y27 with|h t ih=>?_
  intro hm d h0 h1
  rw [y28] at hm
  have hl:=hm.1
  unfold maxLen at hl
  rw [y15,z377]
  refine z13 z16 Tryz.func123 rfl rfl 51 Tryz.ntmps123 (by simp) ?_
  repeat' (first|(apply y4 ok;rfl;conv=>whnf)|(apply z22;kernel_rfl;conv=>whnf)|(apply z6<;>intro _<;>conv=>whnf)|(apply z46<;>intro _<;>conv=>whnf)|(apply z4 (z608 _);rfl;rfl;conv=>whnf))
  all_goals first
    | (refine z28 rfl ?_
       rw [y83]
       · rfl
       · clear ih
         rintro ⟨c1,c2,c3,c4⟩
         unfold z393 at c4
         grind)
    | (have hg : decide (1 ≤ d ∧ (t.kids.length : Int) = z181 t.kind ∧ 0 ≤ t.val ∧ t.val ≤ z393 t.kind) = true := by
         clear ih
         refine y82 ?_
         unfold z393
         grind
       rw [hg,Bool.true_and]
       refine z110 (fun k:Nat=>([(1,.int d),(2,.ptr 0 none 0),(5,.int k)],[.cells 3 [[.int t.kind,.int t.val,lst 3 Tree.cs' t.kids]]])) (fun k=>k≤t.kids.length∧(t.kids.all fun t=>t.shapeF (d - 1))=(t.kids.drop k).all fun t=>t.shapeF (d - 1)) (fun k=>t.kids.length - k) 0 ⟨by omega,rfl⟩ ⟨[0],rfl,by decide,rfl,by repeat' (first|exact True.intro|exact ⟨rfl,rfl⟩|apply y43),by repeat' (first|exact True.intro|exact z24 rfl rfl|apply y43)⟩ ?_
       intro k hk
       repeat' (first|(apply y4 ok;rfl;conv=>whnf)|(apply y43;(first|omega|(unfold inI;omega));conv=>whnf)|(with_reducible apply z11;omega;intro _;conv=>whnf)|(apply z6<;>intro _<;>conv=>whnf)|(apply z84<;>intro _<;>conv=>whnf)|(apply z4 (ih t.kids[k] (y44 _) (hm.2 _ (y44 _)) (d - 1) (by omega) (by omega));rfl;rfl;conv=>whnf))
       · rename_i h1
         exact z28 rfl (by rw [hk.2,z156 _ _ _ (by assumption)];simp [h1])
       · rename_i h1
         exact z98 (k+1) [0] ⟨by omega,by rw [hk.2,z156 _ _ _ (by assumption)];simp [h1]⟩ (by omega) ⟨rfl,by decide,rfl,by repeat' (first|exact True.intro|exact ⟨rfl,rfl⟩|apply y43),by repeat' (first|exact True.intro|exact z24 rfl rfl|apply y43)⟩
       · exact z28 rfl (by rw [hk.2,z146 _ _ _ (by omega)]))
theorem z1208 (t:Tree):∀ d n:Nat,t.shapeF d=true→t.count n≤2 ^ d - 1:=by
 induction t using y27 with|h t ih=>?_
 intro d n h
 rw [z377,y71,decide_eq_true_eq] at h
 obtain ⟨⟨h1,h2,_,_⟩,h3⟩:=h
 rw [y79] at h3
 obtain ⟨d,rfl⟩:∃ e,d=e+1:=⟨d - 1,by omega⟩
 have e:((d+1:Nat):Int) - 1=(d:Nat):=by omega
 rw [e] at h3
 rw [z483]
 have hp:(1:Int)≤2 ^ d:=by exact_mod_cast Nat.one_le_two_pow
 have hq:((2:Int) ^ (d+1))=2 * 2 ^ d:=by rw [Int.pow_succ];omega
 split
 ·rename_i hn
  obtain ⟨n,rfl⟩:∃ e,n=e+1:=⟨n - 1,by omega⟩
  have e:((n+1:Nat):Int) - 1=(n:Nat):=by omega
  rw [e]
  have hl:(t.kids.length:Int)≤2:=by rw [h2];unfold z181;grind
  have hk:∀ u∈t.kids,u.count n≤2 ^ d - 1:=fun u hu=>ih u hu d n (h3 u hu)
  match hkk:t.kids with
  |[]=>simp only [List.map_nil,List.sum_nil];omega
  |[a] =>
   have:=hk a (by simp [hkk])
   simp only [List.map_cons,List.map_nil,List.sum_cons,List.sum_nil];omega
  |[a,b] =>
   have:=hk a (by simp [hkk])
   have:=hk b (by simp [hkk])
   simp only [List.map_cons,List.map_nil,List.sum_cons,List.sum_nil];omega
  |a::b::c::r=>rw [hkk] at hl;simp only [y58] at hl;omega
 ·omega
theorem z799 (t:Tree) (e d:Int) (he:e≤50) (hd:0≤d) (h:t.shapeF e=true):t.count d≤2 ^ 50:=by
 have h1:1≤e:=by
  rw [z377,y71,decide_eq_true_eq] at h;exact h.1.1
 obtain ⟨n,rfl⟩:=Int.eq_ofNat_of_zero_le (show 0≤e by omega)
 obtain ⟨m,rfl⟩:=Int.eq_ofNat_of_zero_le hd
 have h2:=z1208 t n m h
 have h4:(2:Int) ^ n≤2 ^ 50:=by exact_mod_cast Nat.pow_le_pow_right (by omega) (by omega)
 omega
theorem z1022 (t:Tree):t.mx→∀ e d:Int,e≤50→0≤d→d≤50→t.shapeF e=true→CallsA Tryz.prog 124 [z26 Tree.cs' t,.int d] [] (.int (t.count d)) []:=by
 induction t using y27 with|h t ih=>?_
 intro hm e d h0 h1 h2 hs
 rw [y28] at hm
 rw [z377,y71,decide_eq_true_eq,y79] at hs
 obtain ⟨⟨hs1,hs2,_,_⟩,hs3⟩:=hs
 have hl:(t.kids.length:Int)≤2:=by rw [hs2];unfold z181;grind
 rw [y15,z483]
 have hb:0 < d→∀ k,k≤t.kids.length→0≤((t.kids.take k).map fun t=>t.count (d - 1)).sum∧((t.kids.take k).map fun t=>t.count (d - 1)).sum≤k * 2 ^ 50:=by
  intro hd k
  induction k with
  |zero=>intro _;simp
  |succ k ihk =>
   intro hk
   have h1:=ihk (by omega)
   rw [z467 _ _ _ (by omega)]
   have h2:=z799 t.kids[k] (e - 1) (d - 1) (by omega) (by omega) (hs3 _ (y44 _))
   have h3:=Tree.count_pos.1 t.kids[k] (d - 1)
   omega
 refine z13 z16 Tryz.func124 rfl rfl 29 Tryz.ntmps124 (by simp) ?_
 repeat' ((apply y4 ok;rfl;conv=>whnf))
 by_cases hd:0 < d
 ·rw [if_pos hd]
  refine z110 (fun k:Nat=>([(1,.int d),(2,.ptr 0 none 0),(5,.int (1+((t.kids.take k).map fun t=>t.count (d - 1)).sum)),(6,.int k)],[.cells 3 [[.int t.kind,.int t.val,lst 3 Tree.cs' t.kids]]])) (fun k=>k≤t.kids.length) (fun k=>t.kids.length - k) 0 (by omega) ⟨[0],rfl,by decide,rfl,by repeat' (first|exact True.intro|exact ⟨rfl,rfl⟩|apply y43),by repeat' (first|exact True.intro|exact z24 rfl rfl|apply y43)⟩ ?_
  intro k hk
  have hbk:=hb hd k hk
  have hbk1:=fun h=>hb hd (k+1) h
  have hss:=fun h=>z467 (fun t=>t.count (d - 1)) t.kids k h
  repeat' (first|(apply y4 ok;rfl;conv=>whnf)|(apply y43;(first|omega|(unfold inI;omega));conv=>whnf)|(with_reducible apply z11;omega;intro _;conv=>whnf)|(apply z6<;>intro _<;>conv=>whnf)|(apply z4 (ih t.kids[k] (y44 _) (hm.2 _ (y44 _)) (e - 1) (d - 1) (by omega) (by omega) (by omega) (hs3 _ (y44 _)));rfl;rfl;conv=>whnf))
  ·have e1:=hss ‹_›
   have e2:=hbk1 (by omega)
   refine y43 (by unfold inI;omega) ?_
   conv=>whnf
   repeat' (first|(apply y4 ok;rfl;conv=>whnf)|(apply y43;((unfold inI;omega));conv=>whnf))
   exact z98 (k+1) [0] (by omega) (by omega) ⟨rfl,by decide,rfl,⟨⟨rfl,rfl⟩,⟨rfl,rfl⟩,⟨rfl,by rw [e1,← Int.add_assoc];rfl⟩,⟨rfl,rfl⟩,trivial⟩,⟨z24 rfl rfl,trivial⟩⟩
  ·omega
  ·obtain rfl:k=t.kids.length:=by omega
   exact z55 rfl rfl (by rw [y56];rfl)
 ·rw [if_neg hd]
  refine z110 (fun k:Nat=>([(1,.int d),(2,.ptr 0 none 0),(5,.int 1),(6,.int k)],[.cells 3 [[.int t.kind,.int t.val,lst 3 Tree.cs' t.kids]]])) (fun k=>k≤t.kids.length) (fun k=>t.kids.length - k) 0 (by omega) ⟨[0],rfl,by decide,rfl,by repeat' (first|exact True.intro|exact ⟨rfl,rfl⟩|apply y43),by repeat' (first|exact True.intro|exact z24 rfl rfl|apply y43)⟩ ?_
  intro k hk
  repeat' (first|(apply y4 ok;rfl;conv=>whnf)|(apply y43;(omega);conv=>whnf)|(with_reducible apply z11;omega;intro _;conv=>whnf)|(apply z6<;>intro _<;>conv=>whnf))
  ·omega
  ·exact z55 rfl rfl rfl
  ·exact z55 rfl rfl rfl
theorem z122 (t:Tree) (hm:t.mx):CallsA Tryz.prog 53 [z26 Tree.cs' t] [] (.bool t.fmB) []:=by
 rw [y21]
 refine z13 z16 Tryz.func53 rfl rfl 10 Tryz.ntmps53 (by simp) ?_
 repeat' (first|(apply y4 ok;rfl;conv=>whnf)|(apply z90<;>intro _<;>conv=>whnf)|(apply z4 (z1021 t hm 6 (by omega) (by omega));rfl;rfl;conv=>whnf)|(apply z4 (z1022 t hm 6 6 (by omega) (by omega) (by omega) (by assumption));rfl;rfl;conv=>whnf))
 all_goals (refine z28 rfl ?_;(simp [*];done))
end Go.Proofs.YtjhgpfaodkchjaaGreat
namespace Go.Proofs.YtjhgpfaodkchjaaGreat
open Go.Gl
attribute [local irreducible] z18 AWP z30 z37 z33 RetS z44
theorem z398:CallsA Tryz.prog 105 [] [] (.agg [.int 1,.int 0,.list 3 0 []]) []:=by
 refine z7 z16 Tryz.func105 rfl rfl 2 Tryz.ntmps105 (by simp) ?_
 repeat' (((apply y4 ok;rfl))<;>conv=>whnf)
 all_goals (refine rsD [] [] rfl ?_;(repeat' first|exact y86 _|exact z36|apply z38|constructor))
set_option maxHeartbeats 1600000 in
theorem z875 (bs:List Int) (hb:BytesOk bs):∀ (n:Nat) (d p:Int),d≤n+1→n≤100→0≤d→0≤p→p+drK n≤1000000000→∃ (t:Tree) (p' : Int),(t.sz≤drS n∧p≤p'∧p'≤p+drK n)∧CallsA Tryz.prog 106 [.ptr 0 none 0,.int d] [rdO bs p] (z26 Tree.cs' t) [rdO bs p']:=by
 intro n
 induction n with
 |zero =>
  intro d p hd hd1 hd0 hp hq
  rw [drK] at hq ⊢
  obtain ⟨v0,⟨l0,u0⟩,c0⟩:=z74 bs hb p 8 (by omega) (by omega) (by omega)
  by_cases h0:v0=0
  ·subst h0
   refine ⟨leaf 1 0,p+1,⟨by rw [z91];omega,by omega,by omega⟩,?_⟩
   refine z7 z16 Tryz.func106 rfl rfl 43 Tryz.ntmps106 (by simp) ?_
   repeat' ((first|(apply y4 ok;rfl)|((apply z6)<;>intro _)|(apply z4 (z398);rfl;rfl)|(apply z40 [0] [] c0;rfl;rfl;rfl))<;>conv=>whnf)
   all_goals try (exfalso;omega)
   all_goals (refine rsD [0] [] rfl ?_;(repeat' first|exact y86 _|apply y87|constructor))
  ·obtain ⟨v1,m1,c1⟩:=z114 bs hb (p+1) (by omega) (by omega) [0,1,0,2] (by decide) (by decide)
   refine ⟨leaf 2 v1,p+1+1,⟨by rw [z91];omega,by omega,by omega⟩,?_⟩
   refine z7 z16 Tryz.func106 rfl rfl 43 Tryz.ntmps106 (by simp) ?_
   repeat' ((first|(apply y4 ok;rfl)|((apply z6)<;>intro _)|((first|(apply z10 [0] [] c0;rfl;rfl)|(apply z10 [0,2] [] c1;rfl;rfl));rfl;(focus ((repeat' first|exact z17|apply z14)<;>first|exact z47 rfl rfl|(refine z19 ?_;((exact z5 fun _=>rfl)))))))<;>conv=>whnf)
   all_goals try (exfalso;omega)
   all_goals (refine rsD [0] [] rfl ?_;(repeat' first|exact y86 _|exact z36|apply y87|apply z38|constructor))
 |succ n ih =>
  intro d p hd hd1 hd0 hp hq
  have hK:=z1200 n
  by_cases hlt:d < 2
  ·obtain ⟨t,p',h1,h2⟩:=ih d p (by omega) (by omega) hd0 hp (by rw [drK] at hq;omega)
   exact ⟨t,p',⟨by rw [drS];omega,h1.2.1,by rw [drK];omega⟩,h2⟩
  rw [drK] at hq
  rw [drK,drS]
  obtain ⟨w,⟨lw,uw⟩,cw⟩:=z74 bs hb p 5 (by omega) (by omega) (by omega)
  by_cases hw:w=0
  ·subst hw
   obtain ⟨v0,⟨l0,u0⟩,c0⟩:=z74 bs hb (p+1) 8 (by omega) (by omega) (by omega)
   by_cases h0:v0=0
   ·subst h0
    refine ⟨leaf 1 0,p+1+1,⟨by rw [z91];omega,by omega,by omega⟩,?_⟩
    refine z7 z16 Tryz.func106 rfl rfl 43 Tryz.ntmps106 (by simp) ?_
    repeat' ((first|(apply y4 ok;rfl)|((apply z6)<;>intro _)|(apply z4 (z398);rfl;rfl)|((first|(apply z40 [0] [] cw;rfl;rfl)|(apply z40 [0] [] c0;rfl;rfl));rfl))<;>conv=>whnf)
    all_goals try (exfalso;omega)
    all_goals (refine rsD [0] [] rfl ?_;(repeat' first|exact y86 _|apply y87|constructor))
   ·obtain ⟨v1,m1,c1⟩:=z114 bs hb (p+1+1) (by omega) (by omega) [0,1,0,2] (by decide) (by decide)
    refine ⟨leaf 2 v1,p+1+1+1,⟨by rw [z91];omega,by omega,by omega⟩,?_⟩
    refine z7 z16 Tryz.func106 rfl rfl 43 Tryz.ntmps106 (by simp) ?_
    repeat' ((first|(apply y4 ok;rfl)|((apply z6)<;>intro _)|((first|(apply z10 [0] [] cw;rfl;rfl)|(apply z10 [0] [] c0;rfl;rfl)|(apply z10 [0,2] [] c1;rfl;rfl));rfl;(focus ((repeat' first|exact z17|apply z14)<;>first|exact z47 rfl rfl|(refine z19 ?_;((exact z5 fun _=>rfl)))))))<;>conv=>whnf)
    all_goals try (exfalso;omega)
    all_goals (refine rsD [0] [] rfl ?_;(repeat' first|exact y86 _|exact z36|apply y87|apply z38|constructor))
  ·obtain ⟨kd,mk,ck⟩:=z114 bs hb (p+1) (by omega) (by omega) [7,9,10,3,4,5,6,8] (by decide) (by decide)
   have ca:=z608 kd
   have ham:∃ m:Nat,z181 kd=m∧m≤2:=by
    simp only [List.mem_cons,List.not_mem_nil,or_false] at mk
    unfold z181
    rcases mk with rfl|rfl|rfl|rfl|rfl|rfl|rfl|rfl
    all_goals first|exact ⟨2,rfl,by omega⟩|exact ⟨1,rfl,by omega⟩
   obtain ⟨m,em,hm⟩:=ham
   rw [em] at ca
   obtain ⟨ks,pf,hks,hp0,hst,hpf⟩:=z507 (fun k q (t:Tree) q'=>t.sz≤drS n∧CallsA Tryz.prog 106 [.ptr 0 none 0,.int (d - 1)] [rdO bs q] (z26 Tree.cs' t) [rdO bs q']) (p+1+1) (drK n) m (fun k q hk h1 h2=>by
    have:drK n * k≤drK n:=by
     have:k=0∨k=1:=by omega
     rcases this with rfl|rfl<;>simp<;>omega
    obtain ⟨t,q',⟨a1,a2,a3⟩,a4⟩:=ih (d - 1) q (by omega) (by omega) (by omega) (by omega) (by omega)
    exact ⟨t,q',⟨a1,a4⟩,a2,a3⟩)
   have hpm:=hpf m (y52 _)
   have hKm:drK n * m≤2 * drK n:=by
    have:m=0∨m=1∨m=2:=by omega
    rcases this with rfl|rfl|rfl<;>simp<;>omega
   have hsum:(ks.map Tree.sz).sum≤2 * drS n:=by
    have:∀ (l:List Tree),(∀ t∈l,t.sz≤drS n)→(l.map Tree.sz).sum≤l.length * drS n:=by
     intro l
     induction l with
     |nil=>intro _;simp
     |cons t l ih =>
      intro h
      have h1:=h t (by simp)
      have h2:=ih fun u hu=>h u (by simp [hu])
      simp only [List.map_cons,List.sum_cons,y58,Nat.add_mul]
      omega
    have h1:=this ks fun t ht=>by
     obtain ⟨i,hi,rfl⟩:=List.mem_iff_getElem.1 ht
     exact (hst i hi).1
    have h2:ks.length * drS n≤2 * drS n:=Nat.mul_le_mul_right _ (by omega)
    omega
   refine ⟨.mk kd 0 ks,pf m,⟨by rw [z237];omega,by omega,by omega⟩,?_⟩
   refine z7 z16 Tryz.func106 rfl rfl 43 Tryz.ntmps106 (by simp) ?_
   rw [← hp0] at ck
   repeat' ((first|(apply y4 ok;rfl)|((apply z6)<;>intro _)|(apply z4 (ca);rfl;rfl)|((first|(apply z10 [0] [] cw;rfl;rfl)|(apply z10 [0,2] [] ck;rfl;rfl));rfl;(focus ((repeat' first|exact z17|apply z14)<;>first|exact z47 rfl rfl|(refine z19 ?_;((exact z5 fun _=>rfl)))))))<;>conv=>whnf)
   all_goals try (exfalso;omega)
   refine y85 (y88 3 rfl) ?_
   refine z63 (fun k:Nat=>([(0,.ptr 0 none 0),(1,.int d),(4,.ptr 1 none 0),(5,.ptr 2 none 0),(6,.int (m - k))],[rdO bs (pf k),.cells 3 [[.int 0,.int 0,.nils]],.cells 3 [[.int kd,.int 0,.sref 3 0 k]],.cells 3 ((ks.take k).map Tree.cs')])) (fun k=>k≤m) (fun k=>m - k) 0 (by omega) (by refine swR [0,1,3,4] [] rfl rfl ?_;(repeat' first|exact y86 _|exact z48|apply y87|refine z8 rfl (z23) ?_|constructor)) ?_
   intro k hk
   by_cases hkm:k < m
   ·have hc:=(hst k (by omega)).2
    have hkl:k < ks.length:=by omega
    rw [y15] at hc
    repeat' ((first|(apply y4 ok;rfl)|(apply z22;kernel_rfl)|(apply y43;first|(unfold inI;omega)|((try dsimp only);simp only [y49,y48,y47,y46,y58,y59];omega)|exact ⟨rfl,z20 rfl z27⟩)|((apply z6)<;>intro _)|(apply z40 [0] [] hc;rfl;rfl;rfl))<;>conv=>whnf)
    all_goals try (exfalso;omega)
    refine z25 (k+1) (by omega) (by omega) (by refine swR [0,1,2,5] [] rfl rfl ?_;(repeat' first|exact y86 _|exact z268|(refine z162 ?_;omega)|apply y87|((refine z35 rfl ?_ ?_);(focus ((repeat' (first|exact z5 (fun _=>rfl)|apply z21));done)))|refine z133 (by omega) (by omega) ?_|(apply z73;rfl)|constructor))
   ·have:k=m:=by omega
    subst this
    repeat' ((first|(apply y4 ok;rfl)|(apply y43;omega)|((apply z6)<;>intro _))<;>conv=>whnf)
    all_goals try (exfalso;omega)
    all_goals (refine rsD [0] [3] rfl ?_;(repeat' first|exact y86 _|(refine z539 ?_;omega)|apply y87|((apply z41 rfl rfl rfl);(focus ((repeat ((exact z34 (fun _=>rfl) _)));done));(focus (((simp;omega));done)))|apply z38|constructor))
theorem z770 (bs:List Int) (hb:BytesOk bs) (p:Int) (hp:few p):∃ (t:Tree) (p' : Int),(t.sz≤20∧p≤p'∧p'≤p+100)∧CallsA Tryz.prog 43 [.ptr 0 none 0] [rdO bs p] (z26 Tree.cs' t) [rdO bs p']:=by
 obtain ⟨d,md,cd⟩:=z114 bs hb p (by omega) (by omega) [3,2,4,3] (by decide) (by decide)
 have hd:0≤d∧d≤4:=by simp at md;omega
 obtain ⟨t,q,⟨t1,t2,t3⟩,ct⟩:=z875 bs hb 3 d (p+1) (by omega) (by omega) (by omega) (by omega) (by simp only [drK];omega)
 simp only [drK] at t3
 simp only [drS] at t1
 have cv:=z122 t (z94 t (by unfold maxLen;omega))
 by_cases hv:t.fmB=true
 ·refine ⟨t,q,⟨by omega,by omega,by omega⟩,?_⟩
  rw [hv] at cv
  rw [y15] at *
  refine z7 z16 Tryz.func43 rfl rfl 15 Tryz.ntmps43 (by simp) ?_
  repeat' ((first|(apply y4 ok;rfl)|(apply z4 (cv);rfl;rfl)|((first|(apply z10 [0,2] [] cd;rfl;rfl)|(apply z10 [0] [] ct;rfl;rfl));rfl;(focus ((repeat' first|exact z17|apply z14)<;>first|exact z47 rfl rfl|(refine z19 ?_;((exact z5 fun _=>rfl)))))))<;>conv=>whnf)
  all_goals (refine rsD [0] [] rfl ?_;(repeat' first|exact y86 _|apply y87|constructor))
 ·refine ⟨.mk 10 0 [leaf 2 0],q,⟨by rw [z237];simp [z91],by omega,by omega⟩,?_⟩
  rw [(y72 _).mp hv] at cv
  rw [y15] at cv ct
  refine z7 z16 Tryz.func43 rfl rfl 15 Tryz.ntmps43 (by simp) ?_
  repeat' ((first|(apply y4 ok;rfl)|(apply z4 (cv);rfl;rfl)|((first|(apply z10 [0,2] [] cd;rfl;rfl)|(apply z10 [0] [] ct;rfl;rfl));rfl;(focus ((repeat' first|exact z17|apply z14)<;>first|exact z47 rfl rfl|(refine z19 ?_;((exact z5 fun _=>rfl)))))))<;>conv=>whnf)
  all_goals (refine rsD [0] [4] rfl ?_;(repeat' first|exact y86 _|exact z36|apply y87|refine z41 rfl rfl rfl rfl rfl ?_|apply z38|(apply z73;rfl)|constructor))
theorem argU (k v:Int) (a:Tree):z26 Tree.cs' (.mk k v [a])=.agg [.int k,.int v,.list 3 1 [Tree.cs' a]]:=by
 rw [y15]
 show AC.agg [AC.int k,AC.int v,lst 3 Tree.cs' [a]]=_
 rfl
theorem argB (k v:Int) (a b:Tree):z26 Tree.cs' (.mk k v [a,b])=.agg [.int k,.int v,.list 3 2 [Tree.cs' a,Tree.cs' b]]:=by
 rw [y15]
 rfl
theorem z497 (x:Tree):F2 LocLe (z265 [AC.int x.kind,AC.int x.val,lst 3 Tree.cs' x.kids]) (Tree.cs x):=by
 have e:Tree.cs x=[AC.int x.kind,AC.int x.val,lst 3 Tree.cs' x.kids]:=by rw [y18];exact AC.agg.inj (y15 x)
 rw [e];exact z301 _
theorem z474 (t:Tree):CallsA Tryz.prog 156 [z26 Tree.cs' t] [] (z26 Tree.cs' (notT t)) []:=by
 unfold notT
 rw [y15 t,y15]
 refine z7 z16 Tryz.func156 rfl rfl 6 Tryz.ntmps156 (by simp) ?_
 repeat' (((apply y4 ok;rfl))<;>conv=>whnf)
 all_goals (refine rsD [] [2] rfl ?_;(repeat' first|exact y86 _|exact z268|refine z41 rfl rfl rfl rfl rfl ?_|apply z38|(apply z73;rfl)|constructor))
 all_goals exact z497 _
theorem z1166 (k:Int):CallsA Tryz.prog 277 [.int k] [] (.int (z548 k)) []:=by
 unfold z548
 refine z7 z16 Tryz.func277 rfl rfl 10 Tryz.ntmps277 (by simp) ?_
 repeat' ((first|(apply y4 ok;rfl)|((apply z6)<;>intro _))<;>conv=>whnf)
 all_goals (refine rsL [] [] rfl ?_;refine y12 (z162 ?_) .nil;first|(rw [if_pos (by omega)];done)|(rw [if_neg (by omega),if_pos (by omega)];done)|(rw [if_neg (by omega),if_neg (by omega),if_pos (by omega)];done)|(rw [if_neg (by omega),if_neg (by omega),if_neg (by omega)];done))
set_option maxHeartbeats 3200000 in
theorem z1165 (t:Tree):t.goodF→∀ neg:Bool,CallsA Tryz.prog 238 [z26 Tree.cs' t,.bool neg] [] (z26 Tree.cs' (t.nrm neg)) []:=by
 induction t using y27 with|h t ih=>?_
 intro hg neg
 have hT:=z398
 cases y22 hg with
 |tr =>
  rw [z529]
  have cn:=(z474 (.mk 1 0 [])).arg (args0:=[.agg [.int 1,.int 0,.nils]]) (by (repeat' first|exact y86 _|exact z36|apply z38|constructor))
  cases neg
  all_goals
   refine z7 z16 Tryz.func238 rfl rfl 86 Tryz.ntmps238 (by simp) ?_
   repeat' ((first|(apply y4 ok;rfl)|(apply z4 (cn);rfl;rfl))<;>conv=>whnf)
   all_goals (refine rsD [] [] rfl ?_;(repeat' first|exact y86 _|exact z36|apply z38|constructor))
 |«at» v h0 h1 =>
  rw [z754]
  have cn:=(z474 (.mk 2 v [])).arg (args0:=[.agg [.int 2,.int v,.nils]]) (by (repeat' first|exact y86 _|exact z36|apply z38|constructor))
  cases neg
  all_goals
   refine z7 z16 Tryz.func238 rfl rfl 86 Tryz.ntmps238 (by simp) ?_
   repeat' ((first|(apply y4 ok;rfl)|(apply z4 (cn);rfl;rfl))<;>conv=>whnf)
   all_goals (refine rsD [] [] rfl ?_;(repeat' first|exact y86 _|exact z36|apply z38|constructor))
 |un k a hk ha =>
  have ca:=ih a (by simp [Tree.kids]) ha
  clear ih
  have cn:=z474 truT
  rcases hk with rfl|rfl|rfl|rfl
  ·rw [z430,argU 3 0 a]
   have ca:=ca (!neg)
   refine z7 z16 Tryz.func238 rfl rfl 86 Tryz.ntmps238 (by simp) ?_
   repeat' ((first|(apply y4 ok;rfl)|(refine ⟨_,rfl,?_⟩)|(apply y43;omega)|(apply z4 (ca);rfl;rfl))<;>conv=>whnf)
   all_goals (refine rsD [] [] rfl ?_;(repeat' first|exact y86 _|constructor))
  ·rw [z389,argU 6 0 a]
   have ca:=ca neg
   generalize a.nrm neg=x at *
   rw [y15 x] at ca
   refine z7 z16 Tryz.func238 rfl rfl 86 Tryz.ntmps238 (by simp) ?_
   repeat' ((first|(apply y4 ok;rfl)|(refine ⟨_,rfl,?_⟩)|(apply y43;omega)|(apply z4 (ca);rfl;rfl))<;>conv=>whnf)
   all_goals (refine rsD [] [2] rfl ?_;(repeat' first|exact y86 _|refine z41 rfl rfl rfl rfl rfl ?_|apply z38|(apply z73;rfl)|constructor))
   all_goals exact z497 _
  ·rw [z753,argU 9 0 a]
   have ca:=ca neg
   generalize a.nrm neg=x at *
   rw [y15 x] at ca
   cases neg
   all_goals
    refine z7 z16 Tryz.func238 rfl rfl 86 Tryz.ntmps238 (by simp) ?_
    repeat' ((first|(apply y4 ok;rfl)|(apply z22;kernel_rfl)|(refine ⟨_,rfl,?_⟩)|(apply y43;omega)|(apply z4 (ca);rfl;rfl)|(apply z4 (hT);rfl;rfl)|(apply z4 (cn);rfl;rfl))<;>conv=>whnf)
    all_goals (refine rsD [] [3] rfl ?_;(repeat' first|exact y86 _|refine z41 rfl rfl rfl rfl rfl ?_|apply z38|(apply z73;rfl)|constructor))
    all_goals exact z497 _
  ·rw [z755,argU 10 0 a]
   have ca:=ca neg
   generalize a.nrm neg=x at *
   rw [y15 x] at ca
   cases neg
   all_goals
    refine z7 z16 Tryz.func238 rfl rfl 86 Tryz.ntmps238 (by simp) ?_
    repeat' ((first|(apply y4 ok;rfl)|(apply z22;kernel_rfl)|(refine ⟨_,rfl,?_⟩)|(apply y43;omega)|(apply z4 (ca);rfl;rfl)|(apply z4 (hT);rfl;rfl)|(apply z4 (cn);rfl;rfl))<;>conv=>whnf)
    all_goals (refine rsD [] [3] rfl ?_;(repeat' first|exact y86 _|refine z41 rfl rfl rfl rfl rfl ?_|apply z38|(apply z73;rfl)|constructor))
    all_goals exact z497 _
 |bin k a b hk ha hb =>
  have ca:=ih a (by simp [Tree.kids]) ha neg
  have cb:=ih b (by simp [Tree.kids]) hb neg
  clear ih
  have cd:=z1166 k
  rw [z530 _ _ _ _ _ hk,argB k 0 a b]
  generalize a.nrm neg=x at *
  generalize b.nrm neg=y at *
  rw [y15 x] at ca
  rw [y15 y] at cb
  generalize z548 k=k' at *
  cases neg
  all_goals
   refine z7 z16 Tryz.func238 rfl rfl 86 Tryz.ntmps238 (by simp) ?_
   repeat' ((first|(apply y4 ok;rfl)|(apply z22;kernel_rfl)|(refine ⟨_,rfl,?_⟩)|(apply y43;omega)|((first|apply z6|apply z46)<;>intro _)|(apply z4 (ca);rfl;rfl)|(apply z4 (cb);rfl;rfl)|(apply z4 (cd);rfl;rfl))<;>conv=>whnf)
   all_goals try (exfalso;omega)
   all_goals (refine rsD [] [2] rfl ?_;(repeat' first|exact y86 _|refine z41 rfl rfl rfl rfl rfl ?_|apply z38|(apply z73;rfl)|constructor))
   all_goals exact z497 _
end Go.Proofs.YtjhgpfaodkchjaaGreat
namespace Go.Proofs.YtjhgpfaodkchjaaGreat
open Go.Gl
attribute [local irreducible] z18 AWP z30 z37 z33
theorem z896 (l:List Tree) (hl:l.length≤1048576) (hp:0 < l.length):CallsA Tryz.prog 297 [lst 3 Tree.cs' l] [] (.sref 0 0 l.length) [.cells 3 (l.map Tree.cs')]:=by
 refine z13 z16 Tryz.func297 rfl rfl 8 Tryz.ntmps297 (by simp) ?_
 repeat' (first|(apply y4 ok;rfl;conv=>whnf)|(apply y43;(first|omega|(dsimp only;omega)|exact z66 (fun _=>rfl));conv=>whnf))
 exact z111 rfl (z5 fun _=>rfl) (Nat.zero_add _) rfl rfl
theorem z1047 (l:List Tree) (hl:l.length≤1048576):CallsA Tryz.prog 297 [lst 3 Tree.cs' l] [] (.sref 0 0 l.length) [.cells 3 (l.map Tree.cs')]:=by
 by_cases hp:0 < l.length
 ·exact z896 l hl hp
 ·obtain rfl:l=[]:=y74 (by omega)
  refine z208 (z295 Tryz.func297 rfl (by rfl)) fun ad cap=>?_
  cases ad with
  |none =>
   refine CallsA.nils (res:=.nils) (l:=[.cells 3 []]) ?_ (by simp) z318
   refine z13 z16 Tryz.func297 rfl rfl 8 Tryz.ntmps297 (by simp) ?_
   repeat' ((apply y4 ok;rfl;conv=>whnf))
   all_goals exact z55 rfl rfl rfl
  |some p =>
   refine z13 z16 Tryz.func297 rfl rfl 8 Tryz.ntmps297 (by simp) ?_
   repeat' (first|(apply y4 ok;rfl;conv=>whnf)|(apply y43;(omega);conv=>whnf))
   all_goals (exact z111 rfl z23 rfl rfl rfl)
theorem z550 (l:List Tree) (hl:l.length≤1048576):CallsA Tryz.prog 268 [.sref 0 0 l.length] [.cells 3 (l.map Tree.cs')] (.sref 0 0 l.length) [.cells 3 (l.map Tree.cs')]:=by
 refine z13 z16 Tryz.func268 rfl rfl 9 Tryz.ntmps268 (by simp) ?_
 repeat' (first|(apply y4 ok;rfl;conv=>whnf)|(apply y43;(omega);conv=>whnf))
 exact z111 rfl (z5 fun _=>rfl) (by omega) rfl rfl
theorem z171 (l:List Tree) (hl:l.length≤1048576):CallsA Tryz.prog 266 [lst 3 Tree.cs' l] [] (.sref 0 0 l.length) [.cells 3 (l.map Tree.cs')]:=by
 refine z13 z16 Tryz.func266 rfl rfl 6 Tryz.ntmps266 (by simp) ?_
 repeat' (first|(apply y4 ok;rfl;conv=>whnf)|(apply z100 [] [] [0] (z1047 l hl);rfl;(focus ((repeat' (exact z32))<;>(fail)));rfl;rfl;rfl;rfl;rfl;(focus ((repeat' (first|exact z17|apply z14))<;>((refine z19 ?_;((exact z5 (fun _=>rfl)))))));(exact .inl rfl);conv=>whnf)|(apply z100 [0] [] [] (z550 l hl);rfl;(focus ((repeat' (first|exact z32|apply z45))<;>((refine z59 rfl ?_;((exact z5 (fun _=>rfl)))))));rfl;rfl;rfl;rfl;rfl;(focus ((repeat' (first|exact z17|apply z14))<;>((refine z19 ?_;((exact z5 (fun _=>rfl)))))));(exact .inl rfl);conv=>whnf))
 exact z111 rfl (z5 fun _=>rfl) rfl rfl rfl
end Go.Proofs.YtjhgpfaodkchjaaGreat
namespace Go.Proofs.YtjhgpfaodkchjaaGreat
open Go.Gl
attribute [local irreducible] z18 AWP z30 z37 z33 RetS z44
theorem z1034 (k:Int) (l:List Tree) (hl:l.length≤1048576):CallsA Tryz.prog 226 [.int k,lst 3 Tree.cs' l] [] (.agg [.int k,.int 0,lst 3 Tree.cs' l]) []:=by
 have c:=z171 l hl
 refine z7 z16 Tryz.func226 rfl rfl 9 Tryz.ntmps226 (by simp) ?_
 repeat' ((first|(apply y4 ok;rfl)|(apply z10 [] [1] c;rfl;rfl;rfl;(focus ((repeat' first|exact z17|apply z14)<;>(refine z19 ?_;((exact z5 fun _=>rfl)))))))<;>conv=>whnf)
 all_goals (refine rsD [] [1] rfl ?_;(repeat' first|exact y86 _|((apply z41 rfl rfl rfl);(focus ((repeat ((exact z34 (fun _=>rfl) _)));done));(focus (((simp;done));done)))|apply z38|constructor))
theorem z885 (k:Int):CallsA Tryz.prog 226 [.int k,.nils] [] (.agg [.int k,.int 0,.list 3 0 []]) []:=(z1034 k [] (by simp)).arg (by (repeat' first|exact y86 _|exact z36|constructor))
theorem z130 (k:Int) (l:List Tree) (hl:l.length≤1048576):CallsA Tryz.prog 226 [.int k,.sref 0 0 l.length] [.cells 3 (l.map Tree.cs')] (.agg [.int k,.int 0,lst 3 Tree.cs' l]) [.dead]:=by
 have c:=z171 l hl
 refine z7 z16 Tryz.func226 rfl rfl 9 Tryz.ntmps226 (by simp) ?_
 refine y85 (Reach.rnm 0 rfl) ?_
 refine y85 (show Gl.Reach _ _ (mkSt _ [(0,.int k),(1,lst 3 Tree.cs' l)] [.dead]) from (by refine swR [0] [1] rfl rfl ?_;(repeat' first|exact y86 _|((apply z41 rfl rfl rfl);(focus ((repeat ((exact z34 (fun _=>rfl) _)));done));(focus (((simp;done));done)))|constructor))) ?_
 repeat' ((first|(apply y4 ok;rfl)|(apply z10 [] [2] c;rfl;rfl;rfl;(focus ((repeat' first|exact z17|apply z14)<;>(refine z19 ?_;((exact z5 fun _=>rfl)))))))<;>conv=>whnf)
 all_goals (refine rsD [0] [2] rfl ?_;(repeat' first|exact y86 _|((apply z41 rfl rfl rfl);(focus ((repeat ((exact z34 (fun _=>rfl) _)));done));(focus (((simp;done));done)))|apply z38|constructor))
theorem z455 (k kd v:Int):CallsA Tryz.prog 226 [.int k,.sref 0 0 1] [.cells 3 [[.int kd,.int v,.nils]]] (.agg [.int k,.int 0,lst 3 Tree.cs' [.mk kd v []]]) [.dead]:=by
 have c:=z171 [.mk kd v []] (by simp)
 refine z7 z16 Tryz.func226 rfl rfl 9 Tryz.ntmps226 (by simp) ?_
 refine y85 (Reach.rnm 0 rfl) ?_
 refine y85 (show Gl.Reach _ _ (mkSt _ [(0,.int k),(1,lst 3 Tree.cs' [.mk kd v []])] [.dead]) from (by refine swR [0] [1] rfl rfl ?_;(repeat' first|exact y86 _|exact z36|refine z41 rfl rfl rfl rfl rfl ?_|(apply z73;rfl)|constructor))) ?_
 repeat' ((first|(apply y4 ok;rfl)|(apply z40 [] [2] c;rfl;rfl;rfl))<;>conv=>whnf)
 all_goals (refine rsD [0] [2] rfl ?_;(repeat' first|exact y86 _|constructor))
theorem z290 (k v : Int) (l : List Tree) (neg : Bool) (i : Nat) (hi : i < l.length) (x : Tree) (hx : CallsA Tryz.prog 229 [z26 Tree.cs' l[i], .bool neg] [] (z26 Tree.cs' x) []) :
    CallsA Tryz.prog 269 [.int i,.ptr 0 none 0,.ptr 1 none 0] [.cells 3 [[.int k,.int v,lst 3 Tree.cs' l]],.cells 1 [[.bool neg]]] (z26 Tree.cs' x) [.cells 3 [[.int k,.int v,lst 3 Tree.cs' l]],.cells 1 [[.bool neg]]]:=by
  have g:(l.map Tree.cs')[i]?=some (Tree.cs' l[i]):=by rw [y51,y45 hi];rfl
  generalize l[i]=y at *
  refine z7 z16 Tryz.func269 rfl rfl 12 Tryz.ntmps269 (by simp) ?_
  repeat' ((first|(apply y4 ok;rfl)|(apply z22;kernel_rfl)|(refine z12 (i:=i) rfl g ?_)|(apply y43;omega)|(apply z4 (hx);rfl;rfl))<;>conv=>whnf)
  all_goals (refine rsD [0,1] [] rfl ?_;(repeat' first|exact y86 _|apply y87|constructor))
theorem z1013 (a b:Int) (neg:Bool):CallsA Tryz.prog 270 [.int a,.int b,.ptr 0 none 0] [.cells 1 [[.bool neg]]] (.int (if neg then b else a)) [.cells 1 [[.bool neg]]]:=by
 refine z7 z16 Tryz.func270 rfl rfl 9 Tryz.ntmps270 (by simp) ?_
 cases neg
 all_goals
  repeat' (((apply y4 ok;rfl))<;>conv=>whnf)
  all_goals (refine rsD [0] [] rfl ?_;(repeat' first|exact y86 _|apply y87|constructor))
set_option maxHeartbeats 6400000 in
theorem z1141 (t:Tree):t.goodF→∀ neg:Bool,CallsA Tryz.prog 229 [z26 Tree.cs' t,.bool neg] [] (z26 Tree.cs' (t.nrm neg)) []:=by
 induction t using y27 with|h t ih=>?_
 intro hg neg
 have cT:=z885 1
 have cF:=z130 3 [.mk 1 0 []] (by simp)
 cases y22 hg with
 |tr =>
  rw [z529]
  clear ih
  cases neg
  all_goals
   refine z7 z16 Tryz.func229 rfl rfl 99 Tryz.ntmps229 (by simp) ?_
   repeat' ((first|(apply y4 ok;rfl)|(apply z4 (cT);rfl;rfl)|((first|(apply z10 [3] [] cF;rfl;rfl)|(apply z10 [6] [] (z455 3 1 0);rfl;rfl));rfl;(focus ((repeat' first|exact z17|apply z14)<;>exact z106))))<;>conv=>whnf)
   all_goals (refine rsD [] [] rfl ?_;(repeat' first|exact y86 _|exact z36|apply z38|constructor))
 |«at» v h0 h1 =>
  rw [z754]
  clear ih
  cases neg
  all_goals
   refine z7 z16 Tryz.func229 rfl rfl 99 Tryz.ntmps229 (by simp) ?_
   repeat' ((first|(apply y4 ok;rfl)|(apply z4 (cT);rfl;rfl)|((first|(apply z10 [3] [] cF;rfl;rfl)|(apply z10 [6] [] (z455 3 2 v);rfl;rfl));rfl;(focus ((repeat' first|exact z17|apply z14)<;>exact z106))))<;>conv=>whnf)
   all_goals (refine rsD [] [] rfl ?_;(repeat' first|exact y86 _|exact z36|apply z38|constructor))
 |un k a hk ha =>
  have ca:=fun n=>ih a (by simp [Tree.kids]) ha n
  clear ih
  rcases hk with rfl|rfl|rfl|rfl
  ·rw [z430,argU 3 0 a]
   have ca:=ca (!neg)
   refine z7 z16 Tryz.func229 rfl rfl 99 Tryz.ntmps229 (by simp) ?_
   repeat' ((first|(apply y4 ok;rfl)|(apply z22;kernel_rfl)|(refine ⟨_,rfl,?_⟩)|(apply y43;omega)|(apply z4 (cT);rfl;rfl)|(apply z4 (ca);rfl;rfl)|(apply z10 [3] [] cF;rfl;rfl;rfl;(focus ((repeat' first|exact z17|apply z14)<;>exact z106))))<;>conv=>whnf)
   all_goals (refine rsD [] [] rfl ?_;(repeat' first|exact y86 _|constructor))
  ·rw [z389,argU 6 0 a,argU]
   have ck:=z290 6 0 [a] neg 0 (by simp) (a.nrm neg) (ca neg)
   have cf:=z130 6 [a.nrm neg] (by simp)
   generalize a.nrm neg=x at *
   refine z7 z16 Tryz.func229 rfl rfl 99 Tryz.ntmps229 (by simp) ?_
   repeat' ((first|(apply y4 ok;rfl)|(apply z4 (cT);rfl;rfl)|((first|(apply z10 [3] [] cF;rfl;rfl)|(apply z10 [0,1] [] ck;rfl;rfl)|(apply z10 [5] [] cf;rfl;rfl));rfl;(focus ((repeat' first|exact z17|apply z14)<;>first|exact z106|exact z47 rfl rfl))))<;>conv=>whnf)
   all_goals (refine rsD [] [] rfl ?_;(repeat' first|exact y86 _|constructor))
  ·rw [z753,argU 9 0 a]
   have ck:=z290 9 0 [a] neg 0 (by simp) (a.nrm neg) (ca neg)
   have c7:=z130 7 [truT,a.nrm neg] (by simp)
   have c8:=z130 8 [notT truT,a.nrm neg] (by simp)
   generalize a.nrm neg=x at *
   cases neg
   ·rw [if_neg (by simp),argB]
    refine z7 z16 Tryz.func229 rfl rfl 99 Tryz.ntmps229 (by simp) ?_
    repeat' ((first|(apply y4 ok;rfl)|(apply z4 (cT);rfl;rfl)|((first|(apply z10 [3] [] cF;rfl;rfl)|(apply z10 [0,1] [] ck;rfl;rfl)|(apply z10 [5] [] c7;rfl;rfl));rfl;(focus ((repeat' first|exact z17|apply z14)<;>first|exact z106|exact z47 rfl rfl))))<;>conv=>whnf)
    all_goals (refine rsD [] [] rfl ?_;(repeat' first|exact y86 _|constructor))
   ·rw [if_pos rfl,argB]
    refine z7 z16 Tryz.func229 rfl rfl 99 Tryz.ntmps229 (by simp) ?_
    repeat' ((first|(apply y4 ok;rfl)|(apply z22;kernel_rfl)|(apply z4 (cT);rfl;rfl)|((first|(apply z10 [3] [] cF;rfl;rfl)|(apply z10 [0,1] [] ck;rfl;rfl)|(apply z10 [5] [] c8;rfl;rfl));rfl;(focus ((repeat' first|exact z17|apply z14)<;>first|exact z106|exact z47 rfl rfl))))<;>conv=>whnf)
    all_goals (refine rsD [] [] rfl ?_;(repeat' first|exact y86 _|constructor))
  ·rw [z755,argU 10 0 a]
   have ck:=z290 10 0 [a] neg 0 (by simp) (a.nrm neg) (ca neg)
   have c7:=z130 7 [truT,a.nrm neg] (by simp)
   have c8:=z130 8 [notT truT,a.nrm neg] (by simp)
   generalize a.nrm neg=x at *
   cases neg
   ·rw [if_neg (by simp),argB]
    refine z7 z16 Tryz.func229 rfl rfl 99 Tryz.ntmps229 (by simp) ?_
    repeat' ((first|(apply y4 ok;rfl)|(apply z22;kernel_rfl)|(apply z4 (cT);rfl;rfl)|((first|(apply z10 [3] [] cF;rfl;rfl)|(apply z10 [0,1] [] ck;rfl;rfl)|(apply z10 [5] [] c8;rfl;rfl));rfl;(focus ((repeat' first|exact z17|apply z14)<;>first|exact z106|exact z47 rfl rfl))))<;>conv=>whnf)
    all_goals (refine rsD [] [] rfl ?_;(repeat' first|exact y86 _|constructor))
   ·rw [if_pos rfl,argB]
    refine z7 z16 Tryz.func229 rfl rfl 99 Tryz.ntmps229 (by simp) ?_
    repeat' ((first|(apply y4 ok;rfl)|(apply z4 (cT);rfl;rfl)|((first|(apply z10 [3] [] cF;rfl;rfl)|(apply z10 [0,1] [] ck;rfl;rfl)|(apply z10 [5] [] c7;rfl;rfl));rfl;(focus ((repeat' first|exact z17|apply z14)<;>first|exact z106|exact z47 rfl rfl))))<;>conv=>whnf)
    all_goals (refine rsD [] [] rfl ?_;(repeat' first|exact y86 _|constructor))
 |bin k a b hk ha hb =>
  have ca:=z290 k 0 [a,b] neg 0 (by simp) (a.nrm neg) (ih a (by simp [Tree.kids]) ha neg)
  have cb:=z290 k 0 [a,b] neg 1 (by simp) (b.nrm neg) (ih b (by simp [Tree.kids]) hb neg)
  clear ih
  have cf:=z130 (if neg then z548 k else k) [a.nrm neg,b.nrm neg] (by simp)
  have cp:=z1013 k (z548 k) neg
  rw [z530 _ _ _ _ _ hk,argB k 0 a b,argB]
  generalize a.nrm neg=x at *
  generalize b.nrm neg=y at *
  rcases hk with rfl|rfl|rfl|rfl
  all_goals
   refine z7 z16 Tryz.func229 rfl rfl 99 Tryz.ntmps229 (by simp) ?_
   repeat' ((first|(apply y4 ok;rfl)|(apply z4 (cT);rfl;rfl)|((first|(apply z10 [3] [] cF;rfl;rfl)|(apply z10 [0,1] [] ca;rfl;rfl)|(apply z10 [0,1] [] cb;rfl;rfl)|(apply z10 [1] [] cp;rfl;rfl)|(apply z10 [5] [] cf;rfl;rfl));rfl;(focus ((repeat' first|exact z17|apply z14)<;>first|exact z106|exact z47 rfl rfl))))<;>conv=>whnf)
   all_goals (refine rsD [] [] rfl ?_;(repeat' first|exact y86 _|constructor))
theorem z321 (t:Tree) (h:t.sz≤1000000):CallsA Tryz.prog 103 [z26 Tree.cs' t] [] (ownT t) [.cells 3 (t.kids.map Tree.cs')]:=by
 induction t using y27 with|h t ih=>?_
 have hkl:t.kids.length≤1000000:=by rw [y38] at h;omega
 have hks:∀ u∈t.kids,u.sz≤1000000:=fun u hu=>by
  have:=z345 Tree.sz hu
  rw [y38] at h;omega
 rw [y15 t]
 obtain ⟨k,v,l⟩:=t
 simp only [Tree.kind,Tree.val,Tree.kids] at *
 have hcs:∀ (i:Nat) (hi:i < l.length),CallsA Tryz.prog 103 [z26 Tree.cs' l[i]] [] (z26 Tree.cs' l[i]) []:=fun i hi =>
  z253 (ih _ (y44 _) (hks _ (y44 _)))
 unfold ownT
 simp only [Tree.kind,Tree.val,Tree.kids] at *
 refine z7 z16 Tryz.func103 rfl rfl 29 Tryz.ntmps103 (by simp) ?_
 repeat' (((apply y4 ok;rfl))<;>conv=>whnf)
 refine y85 (y88 3 rfl) ?_
 refine z63 (fun i:Nat=>([(1,.ptr 0 none 0),(2,.ptr 1 none 0),(3,.ptr 2 none 0),(4,.int i)],[.cells 3 [[.int k,.int v,lst 3 Tree.cs' l]],.cells 3 [[.int 0,.int 0,.nils]],.cells 3 [[.int k,.int v,.sref 3 0 i]],.cells 3 ((l.take i).map Tree.cs')])) (fun i=>i≤l.length) (fun i=>l.length - i) 0 (by omega) (by refine swR [0,1,2,3] [] rfl rfl ?_;(repeat' first|exact y86 _|exact z48|apply y87|refine z8 rfl (z23) ?_|constructor)) ?_
 intro i hi
 by_cases hil:i < l.length
 ·have hc:=hcs i hil
  repeat' ((first|(apply y4 ok;rfl)|(apply z22;kernel_rfl)|(apply y43;first|omega|(unfold inI;omega)|((try dsimp only);simp only [y49,y48,y47,y46,y58,y59];omega)|exact ⟨rfl,z20 rfl z27⟩)|(((with_reducible apply z11;omega));intro _)|((apply z6)<;>intro _)|(apply z4 (hc);rfl;rfl))<;>conv=>whnf)
  all_goals try (exfalso;omega)
  refine z25 (i+1) (by omega) (by omega) (by refine swR [0,1,2,5] [] rfl rfl ?_;(repeat' first|exact y86 _|apply y87|((refine z35 rfl ?_ ?_);(focus ((repeat' (first|exact z5 (fun _=>rfl)|apply z21));done)))|refine z133 (by omega) (by omega) ?_|constructor))
 ·have e:i=l.length:=by omega
  subst e
  rw [y56]
  repeat' ((first|(apply y4 ok;rfl)|(apply y43;omega)|(((with_reducible apply z11;omega));intro _)|((apply z6)<;>intro _))<;>conv=>whnf)
  all_goals try (exfalso;omega)
  all_goals (refine rsD [3] [] rfl ?_;(repeat' first|exact y86 _|exact z9 _|refine z8 rfl (z5 (fun _=>rfl)) ?_|constructor))
set_option maxHeartbeats 1600000 in
theorem z876 (bs:List Int) (hb:BytesOk bs) (p:Int) (hp:few p) (t:Tree) (ht:t.sz≤1000):∃ (t' : Tree) (p' : Int),(t'.sz≤t.sz+1∧p≤p'∧p'≤p+2)∧CallsA Tryz.prog 42 [.ptr 0 none 0,z26 Tree.cs' t] [rdO bs p] (z26 Tree.cs' t') [rdO bs p']:=by
 have cs:=z321 t (by omega)
 obtain ⟨u,hu⟩:∃ u,u=t:=⟨t,rfl⟩
 have hsz:u.sz≤t.sz:=by rw [hu];exact y52 _
 have cs:CallsA Tryz.prog 103 [z26 Tree.cs' t] [] (ownT u) [.cells 3 (u.kids.map Tree.cs')]:=by rw [hu];exact cs
 clear hu
 have hul:u.kids.length≤1000:=by rw [y38] at hsz;omega
 obtain ⟨v,⟨lv,uv⟩,cv⟩:=z74 bs hb p 50 (by omega) (by omega) (by omega)
 rw [y15 t]
 rw [y15 t] at cs
 unfold ownT at cs
 by_cases h0:v=0
 ·subst h0
  obtain ⟨k,mk,ck⟩:=z114 bs hb (p+1) (by omega) (by omega) [0,11,-1,2,3,4] (by decide) (by decide)
  refine ⟨.mk k u.val u.kids,p+1+1,⟨by rw [z237];rw [y38] at hsz;omega,by omega,by omega⟩,?_⟩
  refine z7 z16 Tryz.func42 rfl rfl 34 Tryz.ntmps42 (by simp) ?_
  repeat' ((first|(apply y4 ok;rfl)|((first|(apply z10 [] [3] cs;rfl;rfl)|(apply z10 [0] [] cv;rfl;rfl)|(apply z10 [0,5] [] ck;rfl;rfl));rfl;(focus ((repeat' first|exact z17|apply z14)<;>first|exact z47 rfl rfl|(refine z19 ?_;((exact z5 fun _=>rfl)))))))<;>conv=>whnf)
  all_goals (refine rsD [0] [3] rfl ?_;(repeat' first|exact y86 _|exact z268|apply y87|((apply z41 rfl rfl rfl);(focus ((repeat ((exact z34 (fun _=>rfl) _)));done));(focus (((simp;done));done)))|apply z38|(apply z73;rfl)|constructor))
 by_cases h1:v=1
 ·subst h1
  obtain ⟨k,mk,ck⟩:=z114 bs hb (p+1) (by omega) (by omega) [-1,3,2,9223372036854775807] (by decide) (by decide)
  refine ⟨.mk u.kind k u.kids,p+1+1,⟨by rw [z237];rw [y38] at hsz;omega,by omega,by omega⟩,?_⟩
  refine z7 z16 Tryz.func42 rfl rfl 34 Tryz.ntmps42 (by simp) ?_
  repeat' ((first|(apply y4 ok;rfl)|((first|(apply z10 [] [3] cs;rfl;rfl)|(apply z10 [0] [] cv;rfl;rfl)|(apply z10 [0,5] [] ck;rfl;rfl));rfl;(focus ((repeat' first|exact z17|apply z14)<;>first|exact z47 rfl rfl|(refine z19 ?_;((exact z5 fun _=>rfl)))))))<;>conv=>whnf)
  all_goals (refine rsD [0] [3] rfl ?_;(repeat' first|exact y86 _|exact z268|apply y87|((apply z41 rfl rfl rfl);(focus ((repeat ((exact z34 (fun _=>rfl) _)));done));(focus (((simp;done));done)))|apply z38|(apply z73;rfl)|constructor))
 by_cases h2:v=2
 ·subst h2
  refine ⟨.mk u.kind u.val (u.kids++[leaf 1 0]),p+1,⟨by rw [z237];rw [y38] at hsz;simp [z91];omega,by omega,by omega⟩,?_⟩
  refine z7 z16 Tryz.func42 rfl rfl 34 Tryz.ntmps42 (by simp) ?_
  repeat' ((first|(apply y4 ok;rfl)|(apply z22;kernel_rfl)|(apply y43;first|((try dsimp only);simp only [y49,y48,y47,y46,y58,y59];omega)|exact ⟨rfl,z20 rfl z27⟩)|(apply z4 (z398);rfl;rfl)|((first|(apply z10 [] [3] cs;rfl;rfl)|(apply z10 [0] [] cv;rfl;rfl));rfl;(focus ((repeat' first|exact z17|apply z14)<;>first|exact z47 rfl rfl|(refine z19 ?_;((exact z5 fun _=>rfl)))))))<;>conv=>whnf)
  all_goals (refine rsD [0] [6] rfl ?_;(repeat' first|exact y86 _|apply y87|((apply z41 rfl rfl rfl);(focus ((repeat (first|exact z34 (fun _=>rfl) _|apply z175|apply z248|rfl));done));(focus (((simp;done));done)))|apply z38|constructor))
  all_goals exact z739 rfl rfl (node_le' (y86 _))
 by_cases h3:v=3
 ·subst h3
  refine ⟨leaf 0 0,p+1,⟨by rw [z91];omega,by omega,by omega⟩,?_⟩
  refine z7 z16 Tryz.func42 rfl rfl 34 Tryz.ntmps42 (by simp) ?_
  repeat' ((first|(apply y4 ok;rfl)|((first|(apply z10 [] [3] cs;rfl;rfl)|(apply z10 [0] [] cv;rfl;rfl));rfl;(focus ((repeat' first|exact z17|apply z14)<;>first|exact z47 rfl rfl|(refine z19 ?_;((exact z5 fun _=>rfl)))))))<;>conv=>whnf)
  all_goals (refine rsD [0] [] rfl ?_;(repeat' first|exact y86 _|exact z36|apply y87|apply z38|constructor))
 ·refine ⟨.mk u.kind u.val u.kids,p+1,⟨by rw [z237];rw [y38] at hsz;omega,by omega,by omega⟩,?_⟩
  refine z7 z16 Tryz.func42 rfl rfl 34 Tryz.ntmps42 (by simp) ?_
  repeat' ((first|(apply y4 ok;rfl)|((apply z6)<;>intro _)|((first|(apply z10 [] [3] cs;rfl;rfl)|(apply z10 [0] [] cv;rfl;rfl));rfl;(focus ((repeat' first|exact z17|apply z14)<;>first|exact z47 rfl rfl|(refine z19 ?_;((exact z5 fun _=>rfl)))))))<;>conv=>whnf)
  all_goals try (exfalso;omega)
  all_goals (refine rsD [0] [3] rfl ?_;(repeat' first|exact y86 _|exact z268|apply y87|((apply z41 rfl rfl rfl);(focus ((repeat ((exact z34 (fun _=>rfl) _)));done));(focus (((simp;done));done)))|apply z38|(apply z73;rfl)|constructor))
theorem z688 (c:Tree) (l:List Tree) (hl:l.length≤maxLen) (p:Tree→Bool) (f:FuncId) (hf:∀ x∈l,CallsA Tryz.prog f [z26 Tree.cs' x,.pt [.int c.kind,.int c.val,lst 3 Tree.cs' c.kids]] [] (.bool (p x)) []):CallsA Tryz.prog 271 [lst 3 Tree.cs' l,.fn (.func f) [] [.pt [.int c.kind,.int c.val,lst 3 Tree.cs' c.kids]]] [] (.int (idxF p l)) []:=by
 unfold maxLen at hl
 refine z13 z16 Tryz.func271 rfl rfl 19 Tryz.ntmps271 (by simp) ?_
 repeat' (((apply y4 ok;rfl))<;>conv=>whnf)
 refine z110 (fun k:Nat=>([(0,lst 3 Tree.cs' l),(1,.fn (.func f) [] [.pt [.int c.kind,.int c.val,lst 3 Tree.cs' c.kids]]),(7,.int l.length),(8,.int k)],[])) (fun k=>k≤l.length∧∀ j (hj:j < l.length),j < k→p l[j]=false) (fun k=>l.length - k) 0 (by simp)
  ⟨[],rfl,by decide,rfl,⟨⟨rfl,rfl⟩,⟨rfl,rfl⟩,⟨rfl,rfl⟩,⟨rfl,rfl⟩,trivial⟩,trivial⟩ ?_
 intro k hk
 repeat' ((first|(apply y4 ok;rfl)|(apply y43;first|omega|(unfold inI;omega))|(((with_reducible apply z11;omega));intro _)|((first|apply z6|apply z90)<;>intro _)|(apply z4 (hf l[k] (y44 _));rfl;rfl))<;>conv=>whnf)
 ·rename_i h h1
  exact z55 rfl rfl (by rw [z178 (by omega) h1 hk.2];rfl)
 ·rename_i h h1
  refine z98 (k+1) [] ⟨by omega,fun j hj hjk=>?_⟩ (by omega) ⟨rfl,by decide,rfl,⟨⟨rfl,rfl⟩,⟨rfl,rfl⟩,⟨rfl,rfl⟩,⟨rfl,rfl⟩,trivial⟩,trivial⟩
  rcases y70 j k with h2|h2
  ·exact hk.2 j hj h2
  ·obtain rfl:j=k:=by omega
   exact h1
 ·exact z55 rfl rfl (by rw [z152 fun j hj=>hk.2 j hj (by omega)];rfl)
theorem z1196 (A B : List Tree) (hA : A.length ≤ maxLen) (hB : B.length ≤ maxLen) (f : FuncId) (hf : ∀ i (h : i < A.length) (h2 : i < B.length), CallsA Tryz.prog f [z26 Tree.cs' A[i], z26 Tree.cs' B[i]] [] (.bool (decide (A[i] = B[i]))) []) :
    CallsA Tryz.prog 299 [lst 3 Tree.cs' A,lst 3 Tree.cs' B,.fn (.func f) [] []] [] (.bool (decide (A=B))) []:=by
  unfold maxLen at hA hB
  by_cases hl:A.length=B.length
  · have hT:(∀ i (h:i < A.length) (h2:i < B.length),A[i]=B[i])→decide (A=B)=true:=fun h=>y82 (y75 hl h)
    have hF:∀ i (h:i < A.length) (h2:i < B.length),A[i]≠B[i]→decide (A=B)=false:=fun i h h2 hne=>y83 fun e=>hne (by subst e;rfl)
    generalize decide (A=B)=D at *
    refine z7 z16 Tryz.func299 rfl (by kernel_rfl) 32 Tryz.ntmps299 (by simp) ?_
    repeat' ((first|(apply y4 ok;rfl)|((apply z46)<;>intro _))<;>conv=>whnf)
    all_goals try (exfalso;omega)
    refine z63 (fun i:Nat=>([(0,lst 3 Tree.cs' A),(1,lst 3 Tree.cs' B),(2,.fn (.func f) [] []),(15,lst 3 Tree.cs' A),(16,.int A.length),(17,.int i)],[])) (fun i=>i≤A.length∧∀ j (h:j < A.length) (h2:j < B.length),j < i→A[j]=B[j]) (fun i=>A.length - i) 0 ⟨y53 _,fun j _ _ h=>absurd h (Nat.not_lt_zero _)⟩ (by refine swR [] [] rfl rfl ?_;(repeat' first|exact y86 _|constructor)) ?_
    rintro i ⟨hi,hj⟩
    by_cases hil:i < A.length
    · have hil2:i < B.length:=by omega
      have c1:=hf i hil hil2
      have gA:(A.map Tree.cs')[i]?=some (Tree.cs' A[i]):=by rw [y51,y45 hil];rfl
      have gB:(B.map Tree.cs')[i]?=some (Tree.cs' B[i]):=by rw [y51,y45 hil2];rfl
      by_cases he:A[i]=B[i]
      · rw [y82 he] at c1
        have hj2:∀ j (h:j < A.length) (h2:j < B.length),j < i+1→A[j]=B[j]:=fun j h h2 hji=>by
          rcases y70 j i with h3|h3
          · exact hj j h h2 h3
          · obtain rfl:j=i:=by omega
            exact he
        generalize A[i]=x at *
        generalize B[i]=y at *
        repeat' ((first|(apply y4 ok;rfl)|(refine z12 (i:=i) rfl gA ?_)|(refine z12 (i:=i) rfl gB ?_)|(apply y43;first|omega|(unfold inI;omega))|((apply z6)<;>intro _)|(apply z4 (c1);rfl;rfl))<;>conv=>whnf)
        all_goals try (exfalso;omega)
        all_goals refine z25 (i+1) ⟨by omega,hj2⟩ (by omega) (by refine swR [] [] rfl rfl ?_;(repeat' first|exact y86 _|constructor))
      · rw [y83 he] at c1
        have hD:=hF i hil hil2 he
        subst hD
        generalize A[i]=x at *
        generalize B[i]=y at *
        repeat' ((first|(apply y4 ok;rfl)|(refine z12 (i:=i) rfl gA ?_)|(refine z12 (i:=i) rfl gB ?_)|(apply y43;omega)|((apply z6)<;>intro _)|(apply z4 (c1);rfl;rfl))<;>conv=>whnf)
        all_goals try (exfalso;omega)
        all_goals (refine rsD [] [] rfl ?_;(repeat' first|exact y86 _|constructor))
    · have hD:=hT (fun j h h2=>hj j h h2 (by omega))
      subst hD
      repeat' ((first|(apply y4 ok;rfl)|(apply y43;omega)|(((with_reducible apply z11;omega));intro _)|((apply z6)<;>intro _))<;>conv=>whnf)
      all_goals try (exfalso;omega)
      all_goals (refine rsD [] [] rfl ?_;(repeat' first|exact y86 _|constructor))
  · rw [y83 (fun e=>hl (by rw [e]))]
    refine z7 z16 Tryz.func299 rfl (by kernel_rfl) 32 Tryz.ntmps299 (by simp) ?_
    repeat' ((first|(apply y4 ok;rfl)|((apply z46)<;>intro _))<;>conv=>whnf)
    all_goals first|(exfalso;omega)|(refine rsD [] [] rfl ?_;(repeat' first|exact y86 _|constructor))
theorem z691 (a:Tree):a.mx→∀ b:Tree,b.mx→CallsA Tryz.prog 273 [z26 Tree.cs' a,z26 Tree.cs' b] [] (.bool (decide (a=b))) []:=by
 induction a using y27 with|h a ih=>?_
 intro ha b hb
 rw [y28] at ha hb
 have cE:=z1196 a.kids b.kids ha.1 hb.1 273 (fun i h h2=>ih _ (y44 _) (ha.2 _ (y44 _)) _ (hb.2 _ (y44 _)))
 clear ih
 rw [y15,y15]
 by_cases hk:a.kind=b.kind∧a.val=b.val
 ·obtain ⟨k1,k2⟩:=hk
  have e:decide (a.kids=b.kids)=decide (a=b):=decide_eq_decide.2 ⟨fun h=>Tree.ext k1 k2 h,fun h=>by rw [h]⟩
  rw [e] at cE
  generalize decide (a=b)=D at *
  cases D
  all_goals
   refine z7 z16 Tryz.func273 rfl rfl 24 Tryz.ntmps273 (by simp) ?_
   repeat' ((first|(apply y4 ok;rfl)|((apply z6)<;>intro _)|(apply z4 (cE);rfl;rfl))<;>conv=>whnf)
   all_goals try (exfalso;omega)
   all_goals (refine rsD [] [] rfl ?_;(repeat' first|exact y86 _|constructor))
 ·rw [y83 (fun e=>hk (by subst e;exact ⟨rfl,rfl⟩))]
  clear cE
  refine z7 z16 Tryz.func273 rfl rfl 24 Tryz.ntmps273 (by simp) ?_
  repeat' ((first|(apply y4 ok;rfl)|((apply z6)<;>intro _))<;>conv=>whnf)
  all_goals first|(exfalso;omega)|(refine rsD [] [] rfl ?_;(repeat' first|exact y86 _|constructor))
theorem z300 (l:List Tree) (hl:l.length≤1000000) (hm:∀ t∈l,t.mx) (t:Tree) (ht:t.mx):CallsA Tryz.prog 230 [lst 3 Tree.cs' l,z26 Tree.cs' t] [] (.int (idxF (fun x=>decide (x=t)) l)) []:=by
 have cI:=z688 t l (by unfold maxLen;omega) (fun x=>decide (x=t)) 272 (fun x hx=>by
  have cS:=z691 x (hm x hx) t ht
  rw [y15 t] at cS
  refine z7 z16 Tryz.func272 rfl rfl 7 Tryz.ntmps272 (by simp) ?_
  rw [y15 x] at cS ⊢
  repeat' ((first|(apply y4 ok;rfl)|(apply z4 (cS);rfl;rfl))<;>conv=>whnf)
  all_goals (refine rsD [] [] rfl ?_;(repeat' first|exact y86 _|constructor)))
 rw [y15 t]
 refine z7 z16 Tryz.func230 rfl rfl 8 Tryz.ntmps230 (by simp) ?_
 repeat' ((first|(apply y4 ok;rfl)|(apply z96 [] [0] [] cI;(focus ((repeat' first|exact z69|apply z42)<;>rfl));rfl;rfl;(focus ((repeat' exact z17)<;>fail));((refine .inr ⟨rfl,?_⟩;repeat' exact True.intro))))<;>conv=>whnf)
 all_goals (refine rsD [] [] rfl ?_;(repeat' first|exact y86 _|constructor))
theorem z1209 (t:Tree) (h:t.sz≤1000000):CallsA Tryz.prog 225 [z26 Tree.cs' t] [] (ownT t) [.cells 3 (t.kids.map Tree.cs')]:=by
 induction t using y27 with|h t ih=>?_
 have hkl:t.kids.length≤1000000:=by rw [y38] at h;omega
 have hks:∀ u∈t.kids,u.sz≤1000000:=fun u hu=>by
  have:=z345 Tree.sz hu
  rw [y38] at h;omega
 rw [y15 t]
 obtain ⟨k,v,l⟩:=t
 simp only [Tree.kind,Tree.val,Tree.kids] at *
 have hcs:∀ (i:Nat) (hi:i < l.length),CallsA Tryz.prog 225 [z26 Tree.cs' l[i]] [] (z26 Tree.cs' l[i]) []:=fun i hi =>
  z253 (ih _ (y44 _) (hks _ (y44 _)))
 have cC:=z171 l (by omega)
 unfold ownT
 simp only [Tree.kind,Tree.val,Tree.kids] at *
 refine z7 z16 Tryz.func225 rfl rfl 30 Tryz.ntmps225 (by simp) ?_
 repeat' ((first|(apply y4 ok;rfl)|(apply z22;kernel_rfl)|(apply z10 [] [2] cC;rfl;rfl;rfl;(focus ((repeat' first|exact z17|apply z14)<;>(refine z19 ?_;((exact z5 fun _=>rfl)))))))<;>conv=>whnf)
 refine z63 (fun i:Nat=>([(1,.ptr 0 none 0),(2,.ptr 1 none 0),(3,.ptr 3 none 0),(15,lst 3 Tree.cs' l),(16,.int l.length),(17,.int i)],[.cells 3 [[.int k,.int v,lst 3 Tree.cs' l]],.cells 3 [[.int 0,.int 0,.nils]],.cells 3 (l.map Tree.cs'),.cells 3 [[.int k,.int v,.sref 2 0 l.length]]])) (fun i=>i≤l.length) (fun i=>l.length - i) 0 (by omega) (by refine swR [0,1,2,3] [] rfl rfl ?_;(repeat' first|exact y86 _|exact z9 _|apply y87|refine z8 rfl (z5 (fun _=>rfl)) ?_|constructor)) ?_
 intro i hi
 by_cases hil:i < l.length
 ·have hc:=hcs i hil
  have gk:(l.map Tree.cs')[i]?=some (Tree.cs' l[i]):=by rw [y51,y45 hil];rfl
  have hset:(l.map Tree.cs').set i (Tree.cs' l[i])=l.map Tree.cs':=by
   apply y75 (by simp)
   intro j h1 h2
   rw [List.getElem_set]
   split
   ·rename_i e;subst e;simp
   ·rfl
  generalize l[i]=x at *
  repeat' ((first|(apply y4 ok;rfl)|(apply z22;kernel_rfl)|(refine z12 (i:=i) rfl gk ?_)|(apply y43;first|omega|(unfold inI;omega))|((apply z6)<;>intro _)|(apply z4 (hc);rfl;rfl))<;>conv=>whnf)
  all_goals try (exfalso;omega)
  all_goals refine z25 (i+1) (by omega) (by omega) (by refine swR [0,1,2,3] [] rfl rfl ?_;(repeat' first|exact y86 _|apply y87|refine z58 rfl (z5 (fun _=>rfl)) ?_|constructor)<;>((refine z51 ?_;exact hset)))
 ·have e:i=l.length:=by omega
  subst e
  repeat' ((first|(apply y4 ok;rfl)|(apply y43;omega)|(((with_reducible apply z11;omega));intro _)|((apply z6)<;>intro _))<;>conv=>whnf)
  all_goals try (exfalso;omega)
  all_goals (refine rsD [2] [] rfl ?_;(repeat' first|exact y86 _|exact z9 _|refine z8 rfl (z5 (fun _=>rfl)) ?_|constructor))
theorem z703 (t:Tree) (h:t.sz≤1000000):CallsA Tryz.prog 225 [z26 Tree.cs' t] [] (z26 Tree.cs' t) []:=z253 (z1209 t h)
theorem z390 (t:Tree) (hs:t.sz≤1000):CallsA Tryz.prog 158 [z26 Tree.cs' t] [] (.tup [z26 Tree.cs' (if t.fmB=true∧(t.nrm false).fmB=true then t.nrm false else dftT),.bool (decide (t.fmB=true∧(t.nrm false).fmB=true))]) []:=by
 have cv:=z122 t (z94 t (by unfold maxLen;omega))
 by_cases h1:t.fmB=true
 ·have hg:=y24 h1
  have cp:=z1165 t hg false
  have hz:=y29 t hg false
  have cw:=z122 (t.nrm false) (z94 _ (by unfold maxLen;omega))
  rw [h1] at cv ⊢
  generalize t.nrm false=u at *
  by_cases h2:u.fmB=true
  ·rw [h2] at cw ⊢
   rw [if_pos ⟨rfl,rfl⟩,y82 ⟨rfl,rfl⟩]
   rw [y15 t] at cv cp ⊢
   rw [y15 u] at cp cw ⊢
   refine z7 z16 Tryz.func158 rfl rfl 16 Tryz.ntmps158 (by simp) ?_
   repeat' ((first|(apply y4 ok;rfl)|(apply z4 (cv);rfl;rfl)|(apply z4 (cp);rfl;rfl)|(apply z4 (cw);rfl;rfl))<;>conv=>whnf)
   all_goals (refine rsD [] [] rfl ?_;(repeat' first|exact y86 _|constructor))
  ·rw [if_neg (fun h=>h2 h.2),y83 (fun h=>h2 h.2)]
   rw [(y72 _).mp h2] at cw
   rw [y15 t] at cv cp ⊢
   rw [y15 u] at cp cw
   refine z7 z16 Tryz.func158 rfl rfl 16 Tryz.ntmps158 (by simp) ?_
   repeat' ((first|(apply y4 ok;rfl)|(apply z4 (cv);rfl;rfl)|(apply z4 (cp);rfl;rfl)|(apply z4 (cw);rfl;rfl))<;>conv=>whnf)
   all_goals (refine rsD [] [] rfl ?_;(repeat' first|exact y86 _|exact z36|apply z38|apply z80|constructor))
 ·rw [if_neg (fun h=>h1 h.1),y83 (fun h=>h1 h.1)]
  rw [(y72 _).mp h1] at cv
  rw [y15 t] at cv ⊢
  refine z7 z16 Tryz.func158 rfl rfl 16 Tryz.ntmps158 (by simp) ?_
  repeat' ((first|(apply y4 ok;rfl)|(apply z4 (cv);rfl;rfl))<;>conv=>whnf)
  all_goals (refine rsD [] [] rfl ?_;(repeat' first|exact y86 _|exact z36|apply z38|apply z80|constructor))
theorem z1189 (a:Tree):a.mx→∀ b:Tree,b.mx→CallsA Tryz.prog 278 [z26 Tree.cs' a,z26 Tree.cs' b] [] (.bool (decide (a=b))) []:=by
 induction a using y27 with|h a ih=>?_
 intro ha b hb
 rw [y28] at ha hb
 have hal:=ha.1
 have hbl:=hb.1
 unfold maxLen at hal hbl
 rw [y15,y15]
 by_cases hk:a.kind=b.kind∧a.val=b.val∧a.kids.length=b.kids.length
 ·obtain ⟨k1,k2,k3⟩:=hk
  have hiff:(a=b)↔∀ i (h:i < a.kids.length) (h2:i < b.kids.length),a.kids[i]=b.kids[i]:=⟨fun e=>by subst e;exact fun _ _ _=>rfl,fun h=>Tree.ext k1 k2 (y75 k3 h)⟩
  have hc:∀ i (h:i < a.kids.length) (h2:i < b.kids.length),CallsA Tryz.prog 278 [z26 Tree.cs' a.kids[i],z26 Tree.cs' b.kids[i]] [] (.bool (decide (a.kids[i]=b.kids[i]))) []:=fun i h h2=>ih _ (y44 _) (ha.2 _ (y44 _)) _ (hb.2 _ (y44 _))
  clear ih
  have hT:(∀ i (h:i < a.kids.length) (h2:i < b.kids.length),a.kids[i]=b.kids[i])→decide (a=b)=true:=fun h=>y82 (hiff.2 h)
  have hF:∀ i (h:i < a.kids.length) (h2:i < b.kids.length),a.kids[i]≠b.kids[i]→decide (a=b)=false:=fun i h h2 hne=>y83 fun e=>hne (hiff.1 e i h h2)
  generalize decide (a=b)=D at *
  clear hiff
  generalize a.kids=A at *
  generalize b.kids=B at *
  refine z7 z16 Tryz.func278 rfl rfl 46 Tryz.ntmps278 (by simp) ?_
  repeat' ((first|(apply y4 ok;rfl)|((apply z46)<;>intro _))<;>conv=>whnf)
  all_goals try (exfalso;omega)
  refine z63 (fun i:Nat=>([(2,.ptr 0 none 0),(3,.ptr 1 none 0),(5,.int i)],[.cells 3 [[.int a.kind,.int a.val,lst 3 Tree.cs' A]],.cells 3 [[.int b.kind,.int b.val,lst 3 Tree.cs' B]]])) (fun i=>i≤A.length∧∀ j (h:j < A.length) (h2:j < B.length),j < i→A[j]=B[j]) (fun i=>A.length - i) 0 ⟨y53 _,fun j _ _ h=>absurd h (Nat.not_lt_zero _)⟩ (by refine swR [0,1] [] rfl rfl ?_;(repeat' first|exact y86 _|apply y87|constructor)) ?_
  rintro i ⟨hi,hj⟩
  by_cases hil:i < A.length
  ·have hil2:i < B.length:=by omega
   have c1:=hc i hil hil2
   have gA:(A.map Tree.cs')[i]?=some (Tree.cs' A[i]):=by rw [y51,y45 hil];rfl
   have gB:(B.map Tree.cs')[i]?=some (Tree.cs' B[i]):=by rw [y51,y45 hil2];rfl
   by_cases he:A[i]=B[i]
   ·rw [y82 he] at c1
    have hj2:∀ j (h:j < A.length) (h2:j < B.length),j < i+1→A[j]=B[j]:=fun j h h2 hji=>by
     rcases y70 j i with h3|h3
     ·exact hj j h h2 h3
     ·obtain rfl:j=i:=by omega
      exact he
    generalize A[i]=x at *
    generalize B[i]=y at *
    repeat' ((first|(apply y4 ok;rfl)|(apply z22;kernel_rfl)|(refine z12 (i:=i) rfl gA ?_)|(refine z12 (i:=i) rfl gB ?_)|(apply y43;first|omega|(unfold inI;omega))|((apply z6)<;>intro _)|(apply z4 (c1);rfl;rfl))<;>conv=>whnf)
    all_goals try (exfalso;omega)
    all_goals refine z25 (i+1) ⟨by omega,hj2⟩ (by omega) (by refine swR [0,1] [] rfl rfl ?_;(repeat' first|exact y86 _|apply y87|constructor))
   ·rw [y83 he] at c1
    have hD:=hF i hil hil2 he
    subst hD
    generalize A[i]=x at *
    generalize B[i]=y at *
    repeat' ((first|(apply y4 ok;rfl)|(apply z22;kernel_rfl)|(refine z12 (i:=i) rfl gA ?_)|(refine z12 (i:=i) rfl gB ?_)|(apply y43;omega)|((apply z6)<;>intro _)|(apply z4 (c1);rfl;rfl))<;>conv=>whnf)
    all_goals try (exfalso;omega)
    all_goals (refine rsD [] [] rfl ?_;(repeat' first|exact y86 _|constructor))
  ·have hD:=hT (fun j h h2=>hj j h h2 (by omega))
   subst hD
   repeat' ((first|(apply y4 ok;rfl)|(apply y43;omega)|(((with_reducible apply z11;omega));intro _)|((apply z6)<;>intro _))<;>conv=>whnf)
   all_goals try (exfalso;omega)
   all_goals (refine rsD [] [] rfl ?_;(repeat' first|exact y86 _|constructor))
 ·rw [y83 (fun e=>hk (by subst e;exact ⟨rfl,rfl,rfl⟩))]
  clear ih
  refine z7 z16 Tryz.func278 rfl rfl 46 Tryz.ntmps278 (by simp) ?_
  repeat' ((first|(apply y4 ok;rfl)|((apply z46)<;>intro _))<;>conv=>whnf)
  all_goals first|(exfalso;omega)|(refine rsD [] [] rfl ?_;(repeat' first|exact y86 _|constructor))
theorem z771 (l:List Tree) (hl:l.length≤1000000) (hm:∀ t∈l,t.mx) (t:Tree) (ht:t.mx):CallsA Tryz.prog 239 [lst 3 Tree.cs' l,z26 Tree.cs' t] [] (.int (idxF (fun x=>decide (x=t)) l)) []:=by
 have hc:∀ i (h:i < l.length),CallsA Tryz.prog 278 [z26 Tree.cs' l[i],z26 Tree.cs' t] [] (.bool (decide (l[i]=t))) []:=fun i h=>z1189 _ (hm _ (y44 _)) _ ht
 rw [y15 t] at *
 refine z7 z16 Tryz.func239 rfl rfl 19 Tryz.ntmps239 (by simp) ?_
 repeat' (((apply y4 ok;rfl))<;>conv=>whnf)
 refine z63 (fun i:Nat=>([(0,lst 3 Tree.cs' l),(3,.ptr 0 none 0),(5,.int i)],[.cells 3 [[.int t.kind,.int t.val,lst 3 Tree.cs' t.kids]]])) (fun i=>i≤l.length∧∀ j (h:j < l.length),j < i→decide (l[j]=t)=false) (fun i=>l.length - i) 0 ⟨y53 _,fun j _ h=>absurd h (Nat.not_lt_zero _)⟩ (by refine swR [0] [] rfl rfl ?_;(repeat' first|exact y86 _|apply y87|constructor)) ?_
 rintro i ⟨hi,hj⟩
 by_cases hil:i < l.length
 ·have c1:=hc i hil
  have gl:(l.map Tree.cs')[i]?=some (Tree.cs' l[i]):=by rw [y51,y45 hil];rfl
  by_cases he:l[i]=t
  ·have e:idxF (fun x=>decide (x=t)) l=i:=z178 hil (y82 he) fun j h h2=>hj j h h2
   rw [e]
   rw [y82 he] at c1
   generalize l[i]=x at *
   repeat' ((first|(apply y4 ok;rfl)|(apply z22;kernel_rfl)|(refine z12 (i:=i) rfl gl ?_)|(apply y43;omega)|((apply z6)<;>intro _)|(apply z4 (c1);rfl;rfl))<;>conv=>whnf)
   all_goals try (exfalso;omega)
   all_goals (refine rsD [] [] rfl ?_;(repeat' first|exact y86 _|constructor))
  ·have hj2:∀ j (h:j < l.length),j < i+1→decide (l[j]=t)=false:=fun j h hji=>by
    rcases y70 j i with h3|h3
    ·exact hj j h h3
    ·obtain rfl:j=i:=by omega
     exact y83 he
   rw [y83 he] at c1
   generalize l[i]=x at *
   repeat' ((first|(apply y4 ok;rfl)|(apply z22;kernel_rfl)|(refine z12 (i:=i) rfl gl ?_)|(apply y43;first|omega|(unfold inI;omega))|((apply z6)<;>intro _)|(apply z4 (c1);rfl;rfl))<;>conv=>whnf)
   all_goals try (exfalso;omega)
   all_goals refine z25 (i+1) ⟨by omega,hj2⟩ (by omega) (by refine swR [0] [] rfl rfl ?_;(repeat' first|exact y86 _|apply y87|constructor))
 ·have e:idxF (fun x=>decide (x=t)) l=-1:=z152 fun j h=>hj j h (by omega)
  rw [e]
  repeat' ((first|(apply y4 ok;rfl)|(apply y43;omega)|(((with_reducible apply z11;omega));intro _)|((apply z6)<;>intro _))<;>conv=>whnf)
  all_goals try (exfalso;omega)
  all_goals (refine rsD [] [] rfl ?_;(repeat' first|exact y86 _|constructor))
theorem z615 (t:Tree) (hg:t.goodF) (hs:t.sz≤1000):CallsA Tryz.prog 146 [z26 Tree.cs' t] [] (.tup [z26 Tree.cs' (if (t.nrm false).fmB=true then t.nrm false else dftT),.bool (t.nrm false).fmB]) []:=by
 have cp:=z1141 t hg false
 have hz:=y29 t hg false
 have cw:=z123 (t.nrm false) (z94 _ (by unfold maxLen;omega))
 generalize t.nrm false=u at *
 rw [y15 t] at *
 rw [y15 u] at *
 by_cases h2:u.fmB=true
 ·rw [if_pos h2,h2,y15 u]
  rw [h2] at cw
  refine z7 z16 Tryz.func146 rfl rfl 12 Tryz.ntmps146 (by simp) ?_
  repeat' ((first|(apply y4 ok;rfl)|(apply z4 (cp);rfl;rfl)|(apply z4 (cw);rfl;rfl))<;>conv=>whnf)
  all_goals (refine rsD [] [] rfl ?_;(repeat' first|exact y86 _|constructor))
 ·rw [if_neg h2,(y72 _).mp h2]
  rw [(y72 _).mp h2] at cw
  refine z7 z16 Tryz.func146 rfl rfl 12 Tryz.ntmps146 (by simp) ?_
  repeat' ((first|(apply y4 ok;rfl)|(apply z4 (cp);rfl;rfl)|(apply z4 (cw);rfl;rfl))<;>conv=>whnf)
  all_goals (refine rsD [] [] rfl ?_;(repeat' first|exact y86 _|exact z36|apply z38|apply z80|constructor))
theorem z1174 (t:Tree) (hs:t.sz≤1000):CallsA Tryz.prog 227 [z26 Tree.cs' t] [] (.tup [z26 Tree.cs' (if t.fmB=true∧(t.nrm false).fmB=true then t.nrm false else dftT),.bool (decide (t.fmB=true∧(t.nrm false).fmB=true))]) []:=by
 have cv:=z123 t (z94 t (by unfold maxLen;omega))
 by_cases h1:t.fmB=true
 ·have cn:=z615 t (y24 h1) hs
  have e:(if t.fmB=true∧(t.nrm false).fmB=true then t.nrm false else dftT)=if (t.nrm false).fmB=true then t.nrm false else dftT:=by simp only [h1,true_and]
  have e2:decide (t.fmB=true∧(t.nrm false).fmB=true)=(t.nrm false).fmB:=by simp [h1]
  rw [e,e2]
  rw [h1] at cv
  clear e e2
  generalize (if (t.nrm false).fmB=true then t.nrm false else dftT)=u at *
  generalize (t.nrm false).fmB=b at *
  rw [y15 t] at cv cn ⊢
  rw [y15 u] at cn ⊢
  refine z7 z16 Tryz.func227 rfl rfl 12 Tryz.ntmps227 (by simp) ?_
  repeat' ((first|(apply y4 ok;rfl)|(apply z4 (cv);rfl;rfl)|(apply z4 (cn);rfl;rfl))<;>conv=>whnf)
  all_goals (refine rsD [] [] rfl ?_;(repeat' first|exact y86 _|constructor))
 ·rw [if_neg (fun h=>h1 h.1),y83 (fun h=>h1 h.1)]
  rw [(y72 _).mp h1] at cv
  rw [y15 t] at cv ⊢
  refine z7 z16 Tryz.func227 rfl rfl 12 Tryz.ntmps227 (by simp) ?_
  repeat' ((first|(apply y4 ok;rfl)|(apply z4 (cv);rfl;rfl))<;>conv=>whnf)
  all_goals (refine rsD [] [] rfl ?_;(repeat' first|exact y86 _|exact z36|apply z38|apply z80|constructor))
theorem z865 (t:Tree) (hg:t.goodF) (hs:t.sz≤1000):CallsA Tryz.prog 144 [z26 Tree.cs' t] [] (z26 Tree.cs' (negT t)) []:=by
 by_cases hk:t.kind=3
 ·have hf:=y22 hg
  cases hf with
  |tr=>simp [Tree.kind] at hk
  |«at» v _ _=>simp [Tree.kind] at hk
  |bin k a b hk2 _ _=>simp only [Tree.kind] at hk;omega
  |un k a _ _ =>
   simp only [Tree.kind] at hk
   subst hk
   have e:negT (.mk 3 0 [a])=a:=by simp [negT,Tree.kind,Tree.kids]
   rw [z337] at hs
   have cc:=z703 a (by omega)
   rw [e,argU 3 0 a]
   refine z7 z16 Tryz.func144 rfl rfl 15 Tryz.ntmps144 (by simp) ?_
   repeat' ((first|(apply y4 ok;rfl)|(refine ⟨_,rfl,?_⟩)|(apply y43;omega)|(apply z4 (cc);rfl;rfl))<;>conv=>whnf)
   all_goals (refine rsD [] [] rfl ?_;(repeat' first|exact y86 _|constructor))
 ·have e:negT t=notT t:=if_neg hk
  have cc:=z703 t (by omega)
  have cf:=z130 3 [t] (by simp)
  rw [e]
  unfold notT
  rw [argU]
  refine z7 z16 Tryz.func144 rfl rfl 15 Tryz.ntmps144 (by simp) ?_
  repeat' ((first|(apply y4 ok;rfl)|(apply y43;omega)|(((with_reducible apply z67;omega));intro _)|((first|apply z6|apply z90)<;>intro _)|(apply z4 (cc);rfl;rfl)|(apply z10 [2] [] cf;rfl;rfl;rfl;(focus ((repeat' first|exact z17|apply z14)<;>exact z106))))<;>conv=>whnf)
  all_goals first|(exfalso;omega)|(refine rsD [] [] rfl ?_;(repeat' first|exact y86 _|constructor))
def ngB (t:Tree):Bool:=t.fmB && (negT t).fmB
def ngT (t:Tree):Tree:=if ngB t=true then negT t else dftT
theorem ngT_sz (t:Tree):(ngT t).sz≤t.sz+1:=by
 unfold ngT
 split
 ·exact z866 t
 ·simp [dftT,z499]
theorem z690 (t:Tree) (hm:t.mx):CallsA Tryz.prog 72 [z26 Tree.cs' t] [] (.tup [z26 Tree.cs' (ngT t),.bool (ngB t)]) []:=by
 have cv:=z123 t hm
 have hz:=z866 t
 unfold ngT ngB
 by_cases h1:t.fmB=true
 ·have hs:=fm_sz h1
  have cn:=z865 t (y24 h1) (by omega)
  have cw:=z123 (negT t) (z94 _ (by unfold maxLen;omega))
  rw [h1,Bool.true_and]
  rw [h1] at cv
  generalize negT t=u at *
  by_cases h2:u.fmB=true
  ·rw [if_pos h2,h2]
   rw [h2] at cw
   rw [y15 t] at cv cn ⊢
   rw [y15 u] at cw cn ⊢
   refine z7 z16 Tryz.func72 rfl rfl 16 Tryz.ntmps72 (by simp) ?_
   repeat' ((first|(apply y4 ok;rfl)|(apply z4 (cv);rfl;rfl)|(apply z4 (cn);rfl;rfl)|(apply z4 (cw);rfl;rfl))<;>conv=>whnf)
   all_goals (refine rsD [] [] rfl ?_;(repeat' first|exact y86 _|constructor))
  ·rw [if_neg h2,(y72 _).mp h2]
   rw [(y72 _).mp h2] at cw
   rw [y15 t] at cv cn ⊢
   rw [y15 u] at cw cn
   refine z7 z16 Tryz.func72 rfl rfl 16 Tryz.ntmps72 (by simp) ?_
   repeat' ((first|(apply y4 ok;rfl)|(apply z4 (cv);rfl;rfl)|(apply z4 (cn);rfl;rfl)|(apply z4 (cw);rfl;rfl))<;>conv=>whnf)
   all_goals (refine rsD [] [] rfl ?_;(repeat' first|exact y86 _|exact z36|apply z38|apply z80|constructor))
 ·rw [(y72 _).mp h1,Bool.false_and,if_neg (by simp)]
  rw [(y72 _).mp h1] at cv
  rw [y15 t] at cv ⊢
  refine z7 z16 Tryz.func72 rfl rfl 16 Tryz.ntmps72 (by simp) ?_
  repeat' ((first|(apply y4 ok;rfl)|(apply z4 (cv);rfl;rfl))<;>conv=>whnf)
  all_goals (refine rsD [] [] rfl ?_;(repeat' first|exact y86 _|exact z36|apply z38|apply z80|constructor))
theorem z656 (t:Tree) (hm:t.mx):CallsA Tryz.prog 79 [z26 Tree.cs' t] [] (.tup [z26 Tree.cs' (ngT t),.bool (ngB t)]) []:=by
 have cv:=z122 t hm
 have hz:=z866 t
 unfold ngT ngB
 by_cases h1:t.fmB=true
 ·have hs:=fm_sz h1
  rw [h1,Bool.true_and]
  by_cases hk:t.kind=3
  ·obtain ⟨a,v,rfl,ha⟩:=fm_kid h1 hk
   have e:negT (.mk 3 v [a])=a:=by simp [negT,Tree.kind,Tree.kids]
   rw [e,if_pos ha,ha]
   rw [h1] at cv
   rw [z337] at hs
   have cc:=z253 (z321 a (by omega))
   rw [argU] at cv ⊢
   refine z7 z16 Tryz.func79 rfl rfl 25 Tryz.ntmps79 (by simp) ?_
   repeat' ((first|(apply y4 ok;rfl)|(refine ⟨_,rfl,?_⟩)|(apply y43;omega)|(apply z4 (cv);rfl;rfl)|(apply z4 (cc);rfl;rfl))<;>conv=>whnf)
   all_goals (refine rsD [] [] rfl ?_;(repeat' first|exact y86 _|constructor))
  ·have e:negT t=notT t:=if_neg hk
   have cc:=z253 (z321 t (by omega))
   have cn:=z474 t
   have cw:=z122 (notT t) (z94 _ (by rw [← e];unfold maxLen;omega))
   rw [h1] at cv
   rw [e]
   generalize notT t=u at *
   by_cases h2:u.fmB=true
   ·rw [if_pos h2,h2]
    rw [h2] at cw
    rw [y15 t] at cv cn cc ⊢
    rw [y15 u] at cw cn ⊢
    refine z7 z16 Tryz.func79 rfl rfl 25 Tryz.ntmps79 (by simp) ?_
    repeat' ((first|(apply y4 ok;rfl)|(apply y43;omega)|(((with_reducible apply z67;omega));intro _)|((apply z6)<;>intro _)|(apply z4 (cv);rfl;rfl)|(apply z4 (cc);rfl;rfl)|(apply z4 (cn);rfl;rfl)|(apply z4 (cw);rfl;rfl))<;>conv=>whnf)
    all_goals first|(exfalso;omega)|(refine rsD [] [] rfl ?_;(repeat' first|exact y86 _|constructor))
   ·rw [if_neg h2,(y72 _).mp h2]
    rw [(y72 _).mp h2] at cw
    rw [y15 t] at cv cn cc ⊢
    rw [y15 u] at cw cn
    refine z7 z16 Tryz.func79 rfl rfl 25 Tryz.ntmps79 (by simp) ?_
    repeat' ((first|(apply y4 ok;rfl)|(apply y43;omega)|(((with_reducible apply z67;omega));intro _)|((apply z6)<;>intro _)|(apply z4 (cv);rfl;rfl)|(apply z4 (cc);rfl;rfl)|(apply z4 (cn);rfl;rfl)|(apply z4 (cw);rfl;rfl))<;>conv=>whnf)
    all_goals first|(exfalso;omega)|(refine rsD [] [] rfl ?_;(repeat' first|exact y86 _|exact z36|apply z38|apply z80|constructor))
 ·rw [(y72 _).mp h1,Bool.false_and,if_neg (by simp)]
  rw [(y72 _).mp h1] at cv
  rw [y15 t] at cv ⊢
  refine z7 z16 Tryz.func79 rfl rfl 25 Tryz.ntmps79 (by simp) ?_
  repeat' ((first|(apply y4 ok;rfl)|(apply z4 (cv);rfl;rfl))<;>conv=>whnf)
  all_goals (refine rsD [] [] rfl ?_;(repeat' first|exact y86 _|exact z36|apply z38|apply z80|constructor))
end Go.Proofs.YtjhgpfaodkchjaaGreat
