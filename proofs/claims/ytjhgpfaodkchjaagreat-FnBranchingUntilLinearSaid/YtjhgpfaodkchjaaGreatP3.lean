/- A part of the proofs over this program: T93, T94, T140, T141, T142, T221, T222, T223, T143, T224, T144, T225, T145, T180, T226, T146, T147, T227, T148, T149, T228. -/
import Derived.Test.YtjhgpfaodkchjaaGreatG0
import Derived.Test.YtjhgpfaodkchjaaGreatG1
import Derived.Test.YtjhgpfaodkchjaaGreatG2
import Derived.Test.YtjhgpfaodkchjaaGreatG3
import Derived.Test.YtjhgpfaodkchjaaGreatP0
import Derived.Test.YtjhgpfaodkchjaaGreatP1
import Derived.Test.YtjhgpfaodkchjaaGreatP2
set_option linter.all false
namespace Go.Proofs.YtjhgpfaodkchjaaGreat
open Go.Gl
attribute [local irreducible] z19 AWP z25 z31 z28 RetS z38
def isSt (bs:List Int) (i:Int) (q:Int) (t:State) (q' : Int):Prop:=∃ a b:Int,t=⟨[i % 3],[a,b,0]⟩∧q'=q+1+1 ∧
 CallsA Tryz.prog 101 [.ptr 0 none 0,.int 3] [rdO bs q] (.int a) [rdO bs (q+1)]∧CallsA Tryz.prog 101 [.ptr 0 none 0,.int 2] [rdO bs (q+1)] (.int b) [rdO bs (q+1+1)]
def isRow (bs:List Int) (n:Nat) (q:Int) (r:List Int) (q' : Int):Prop:=∃ a b c:Int,r=(if c=0∧b≠a then [a,b] else [a])∧q'=q+1+1+1 ∧
 CallsA Tryz.prog 101 [.ptr 0 none 0,.int n] [rdO bs q] (.int a) [rdO bs (q+1)]∧CallsA Tryz.prog 101 [.ptr 0 none 0,.int n] [rdO bs (q+1)] (.int b) [rdO bs (q+1+1)] ∧
 CallsA Tryz.prog 101 [.ptr 0 none 0,.int 2] [rdO bs (q+1+1)] (.int c) [rdO bs (q+1+1+1)]
structure Small (bs:List Int) (q q' : Int) (g:Graph) (m:Nat) (pf pg:Nat→Int):Prop where
 num:CallsA Tryz.prog 104 [.ptr 0 none 0,.sref 1 0 6] [rdO bs q,.cells 1 ([3,4,2,5,1,6].map enI)] (.int m) [rdO bs (pf 0),.cells 1 ([3,4,2,5,1,6].map enI)]
 m1:1≤m
 m6:m≤6
 sl:g.st.length=m
 nl:g.nx.length=m
 st:∀ k (h:k < g.st.length),isSt bs (m - k) (pf k) g.st[k] (pf (k+1))
 mid:pf m=pg 0
 row:∀ k (h:k < g.nx.length),isRow bs m (pg k) g.nx[k] (pg (k+1))
 last:pg m=q'
 q0:q≤q'
 q1:q'≤q+40
theorem z895 (bs:List Int) (hb:BytesOk bs) (q:Int) (hq:0≤q∧q≤999990000):∃ g q' m pf pg,Small bs q q' g m pf pg:=by
 obtain ⟨w,mw,cw⟩:=z102 bs hb q (by omega) (by omega) [3,4,2,5,1,6] (by decide) (by decide)
 simp only [List.mem_cons,List.not_mem_nil,or_false] at mw
 obtain ⟨m,rfl⟩:∃ m:Nat,w=m:=⟨w.toNat,by omega⟩
 obtain ⟨S,pf,h1,h2,h3,h4⟩:=z493 (fun k r t r'=>isSt bs (m - k) r t r') (q+1) 2 m (fun k r hk a1 a2=>by
  obtain ⟨a,_,ca⟩:=z70 bs hb r 3 (by omega) (by omega) (by omega)
  obtain ⟨b,_,cb⟩:=z70 bs hb (r+1) 2 (by omega) (by omega) (by omega)
  exact ⟨_,_,⟨a,b,rfl,rfl,ca,cb⟩,by omega,by omega⟩)
 have h5:=h4 m (y54 _)
 obtain ⟨G,pg,g1,g2,g3,g4⟩:=z493 (fun _ r t r'=>isRow bs m r t r') (pf m) 3 m (fun k r hk a1 a2=>by
  obtain ⟨a,_,ca⟩:=z70 bs hb r m (by omega) (by omega) (by omega)
  obtain ⟨b,_,cb⟩:=z70 bs hb (r+1) m (by omega) (by omega) (by omega)
  obtain ⟨c,_,cc⟩:=z70 bs hb (r+1+1) 2 (by omega) (by omega) (by omega)
  exact ⟨_,_,⟨a,b,c,rfl,rfl,ca,cb,cc⟩,by omega,by omega⟩)
 have g5:=g4 m (y54 _)
 exact ⟨⟨S,G⟩,pg m,m,pf,pg,by rw [← h2] at cw;exact cw,by omega,by omega,h1,g1,h3,g2.symm,g3,rfl,by omega,by omega⟩
theorem Small.sm {bs:List Int} {q q' : Int} {g:Graph} {m:Nat} {pf pg:Nat→Int} (h:Small bs q q' g m pf pg):g.sm:=by
 have h1:=h.sl
 have h2:=h.nl
 have h3:=h.m6
 refine ⟨by omega,by omega,fun s hs=>?_,fun r hr=>?_⟩
 ·obtain ⟨i,hi,rfl⟩:=List.mem_iff_getElem.1 hs
  obtain ⟨a,b,e,_⟩:=h.st i hi
  rw [e];exact ⟨by simp,by simp⟩
 ·obtain ⟨i,hi,rfl⟩:=List.mem_iff_getElem.1 hr
  obtain ⟨a,b,c,e,_⟩:=h.row i hi
  rw [e];split<;>simp
set_option maxHeartbeats 6400000 in
theorem z971 (bs:List Int) (hb:BytesOk bs) (p:Int) (hp:few3 p):∃ (g:Graph) (p' : Int),(g.sm∧1≤g.st.length∧g.nx.length=g.st.length∧p≤p'∧p'≤p+5000)∧CallsA Tryz.prog 45 [.ptr 0 none 0] [rdO bs p] (.agg g.cs) [rdO bs p']:=by
 obtain ⟨v,⟨v0,v1⟩,cv⟩:=z70 bs hb p 3 (by omega) (by omega) (by omega)
 by_cases hv:0 < v
 ·obtain ⟨s,q0,⟨hs,s0,s1⟩,cs⟩:=z841 bs hb (p+1) ⟨by omega,by omega⟩
  have cB:=z668 s hs.s1
  by_cases hr:∃ g,z330 s=some g∧g.st.length≤24
  ·obtain ⟨g,hg,hl⟩:=hr
   have hI:GInv s g.st g.nx g.st.length:=by
    have h:=hg
    unfold z330 at h
    split at h
    ·rename_i hv2
     have hso:=Sys.ok_of hv2
     exact grow_inv hso 61 _ _ 0 g ⟨by simp,by simp,by simp,rfl,fun t ht=>by
      rw [List.mem_singleton.1 ht]
      exact ⟨by simp,hso.init⟩,by simp⟩ h
    ·cases h
   have hso:s.ok:=by
    have h:=hg
    unfold z330 at h
    split at h
    ·exact Sys.ok_of (by assumption)
    ·cases h
   refine ⟨g,q0,⟨⟨by omega,by have:=hI.g;omega,fun t ht=>(hI.st t ht).sm hso,fun r hr=>by have:=hI.row r hr;omega⟩,hI.one,hI.g,by omega,by omega⟩,?_⟩
   rw [hg] at cB
   simp only [Option.getD_some,Option.isSome_some] at cB
   refine z7 z17 Tryz.func45 rfl rfl 88 Tryz.ntmps45 (by simp) ?_
   repeat' ((first|(apply y4 ok;rfl)|((apply z5)<;>intro _)|(apply z6 (cB);rfl;rfl)|((first|(apply z34 [0] [] cv;rfl;rfl)|(apply z34 [0] [] cs;rfl;rfl));rfl))<;>conv=>whnf)
   all_goals try (exfalso;omega)
   all_goals (refine rsD [0] [] rfl ?_;(repeat' first|exact y88 _|apply y89|constructor))
  ·obtain ⟨g,q',m,pf,pg,F⟩:=z895 bs hb q0 (by omega)
   have m1:=F.m1
   have m6:=F.m6
   have sl:=F.sl
   have nl:=F.nl
   have z0:=F.q0
   have z1:=F.q1
   cases hB:z330 s with
   |none =>
    rw [hB] at cB
    simp only [Option.getD_none,Option.isSome_none] at cB
    refine ⟨g,q',⟨F.sm,by omega,by omega,by omega,by omega⟩,?_⟩
    have Fn:=F.num
    refine z7 z17 Tryz.func45 rfl rfl 88 Tryz.ntmps45 (by simp) ?_
    repeat' ((first|(apply y4 ok;rfl)|((apply z5)<;>intro _)|(apply z6 (cB);rfl;rfl)|((first|(apply z8 [0] [] cv;rfl;rfl)|(apply z8 [0] [] cs;rfl;rfl)|(apply z8 [0,4] [] Fn;rfl;rfl));rfl;(focus ((repeat' first|exact z13|apply z11)<;>first|exact z44 rfl rfl|(refine z21 ?_;((exact z4 fun _=>rfl)))))))<;>conv=>whnf)
    all_goals try (exfalso;omega)
    all_goals
     refine y87 (y90 2 rfl) ?_
     refine z86 (fun k:Nat=>([(0,.ptr 0 none 0),(2,.ptr 1 none 0),(5,.ptr 2 none 0),(6,.int (m - k))],[rdO bs (pf k),.cells 2 [[.nils,.nils]],.cells 2 [[.sref 3 0 k,.nils]],.cells 2 ((g.st.take k).map State.cs)])) (fun k=>k≤m) (fun k=>m - k) 0 (by omega) (by refine swR [0,1,3,5] [] rfl rfl ?_;(repeat' first|exact y88 _|exact z46|apply y89|refine z14 rfl (z33) ?_|constructor)) ?_
     intro k hk
     by_cases hkm:k < m
     ·have hkl:k < g.st.length:=by omega
      obtain ⟨a,b,es,eq,ca,cb⟩:=F.st k hkl
      rw [← eq] at cb
      repeat' ((first|(apply y4 ok;rfl)|(apply z32;kernel_rfl)|(apply y45;first|omega|(unfold inI;omega)|((try dsimp only);simp only [y51,y50,y49,y48,y60,y61];omega)|exact ⟨rfl,z22 rfl z29⟩)|((apply z5)<;>intro _)|((first|(apply z34 [0] [] ca;rfl;rfl)|(apply z34 [0] [] cb;rfl;rfl));rfl))<;>conv=>whnf)
      all_goals try (exfalso;omega)
      all_goals refine z41 (k+1) (by omega) (by omega) (by refine swR [0,1,2,7] [4,5] rfl rfl ?_;(repeat' first|exact y88 _|(refine z168 ?_;omega)|apply y89|((refine z40 rfl ?_ ?_);(focus ((repeat' (first|exact z4 (fun _=>rfl)|apply z27));done)))|refine z117 (by omega) (by omega) ?_|refine z82 rfl rfl rfl rfl rfl ?_|constructor)<;>(rw [es];exact y88 _))
     ·have e:k=m:=by omega
      subst e
      rw [y59 (show g.st.length≤k by omega)]
      repeat' ((first|(apply y4 ok;rfl)|(apply y45;omega)|((apply z5)<;>intro _))<;>conv=>whnf)
      all_goals try (exfalso;omega)
      refine y87 (y90 1 rfl) ?_
      have Fm:=F.mid
      rw [Fm]
      refine z86 (fun i:Nat=>([(0,.ptr 0 none 0),(2,.ptr 1 none 0),(5,.ptr 2 none 0),(7,.int i)],[rdO bs (pg i),.cells 2 [[.nils,.nils]],.cells 2 [[.sref 3 0 k,.sref 4 0 i]],.cells 2 (g.st.map State.cs),.cells 1 ((g.nx.take i).map encL)])) (fun i=>i≤k) (fun i=>k - i) 0 (by omega) (by refine swR [0,1,2,3,4] [] rfl rfl ?_;(repeat' first|exact y88 _|exact z46|exact z16 _|apply y89|((refine z14 rfl ?_ ?_);(focus ((repeat' (first|exact z33|exact z4 (fun _=>rfl)));done)))|constructor)) ?_
      intro i hi
      by_cases hik:i < k
      ·have hil:i < g.nx.length:=by omega
       obtain ⟨a,b,c,er,eq,ca,cb,cc⟩:=F.row i hil
       rw [← eq] at cc
       by_cases hc:c=0
       ·by_cases hba:b=a
        ·rw [if_neg (fun h=>h.2 hba)] at er
         repeat' ((first|(apply y4 ok;rfl)|(apply y45;first|omega|(unfold inI;omega)|((try dsimp only);simp only [y51,y50,y49,y48,y60,y61];omega)|exact ⟨rfl,z22 rfl z29⟩)|apply z107|((first|apply z5|apply z45)<;>intro _)|((first|(apply z34 [0] [] ca;rfl;rfl)|(apply z34 [0] [] cb;rfl;rfl)|(apply z34 [0] [] cc;rfl;rfl));rfl))<;>conv=>whnf)
         all_goals try (exfalso;omega)
         all_goals refine z41 (i+1) (by omega) (by omega) (by refine swR [0,1,2,3,7] [5] rfl rfl ?_;(repeat' first|exact y88 _|exact z16 _|apply y89|((first|refine z40 rfl ?_ ?_|refine z14 rfl ?_ ?_);(focus ((repeat' (first|exact z4 (fun _=>rfl)|apply z27));done)))|refine z117 (by omega) (by omega) ?_|refine z82 rfl rfl rfl rfl rfl ?_|constructor)<;>((rw [er];exact y88 _)))
        ·rw [if_pos ⟨hc,hba⟩] at er
         repeat' ((first|(apply y4 ok;rfl)|(apply y45;first|omega|(unfold inI;omega)|((try dsimp only);simp only [y51,y50,y49,y48,y60,y61];omega)|exact ⟨rfl,z22 rfl z29⟩)|apply z107|((first|apply z5|apply z45)<;>intro _)|((first|(apply z34 [0] [] ca;rfl;rfl)|(apply z34 [0] [] cb;rfl;rfl)|(apply z34 [0] [] cc;rfl;rfl));rfl))<;>conv=>whnf)
         all_goals try (exfalso;omega)
         all_goals refine z41 (i+1) (by omega) (by omega) (by refine swR [0,1,2,3,9] [7] rfl rfl ?_;(repeat' first|exact y88 _|exact z16 _|apply y89|((first|refine z40 rfl ?_ ?_|refine z14 rfl ?_ ?_);(focus ((repeat' (first|exact z4 (fun _=>rfl)|apply z27));done)))|refine z117 (by omega) (by omega) ?_|((apply z82 rfl rfl rfl);(focus ((repeat (first|apply z141|apply z198|rfl));done));(focus ((rfl);done)))|constructor)<;>((rw [er];exact y88 _)))
       ·rw [if_neg (fun h=>hc h.1)] at er
        repeat' ((first|(apply y4 ok;rfl)|(apply y45;first|omega|(unfold inI;omega)|((try dsimp only);simp only [y51,y50,y49,y48,y60,y61];omega)|exact ⟨rfl,z22 rfl z29⟩)|apply z107|((first|apply z5|apply z45)<;>intro _)|((first|(apply z34 [0] [] ca;rfl;rfl)|(apply z34 [0] [] cb;rfl;rfl)|(apply z34 [0] [] cc;rfl;rfl));rfl))<;>conv=>whnf)
        all_goals try (exfalso;omega)
        all_goals refine z41 (i+1) (by omega) (by omega) (by refine swR [0,1,2,3,7] [5] rfl rfl ?_;(repeat' first|exact y88 _|exact z16 _|apply y89|((first|refine z40 rfl ?_ ?_|refine z14 rfl ?_ ?_);(focus ((repeat' (first|exact z4 (fun _=>rfl)|apply z27));done)))|refine z117 (by omega) (by omega) ?_|refine z82 rfl rfl rfl rfl rfl ?_|constructor)<;>((rw [er];exact y88 _)))
      ·have e:i=k:=by omega
       subst e
       rw [y59 (show g.nx.length≤i by omega)]
       repeat' ((first|(apply y4 ok;rfl)|((apply z5)<;>intro _))<;>conv=>whnf)
       all_goals try (exfalso;omega)
       all_goals rw [F.last]
       all_goals (refine rsD [0] [3,4] rfl ?_;(repeat' first|exact y88 _|(refine z283 ?_;omega)|apply y89|((apply z54 rfl rfl rfl);(focus ((repeat ((exact z42 (fun _=>rfl) _)));done));(focus (((simp;omega));done)))|apply z52|constructor))
   |some g0 =>
    have hl:¬(g0.st.length≤24):=fun h=>hr ⟨g0,hB,h⟩
    rw [hB] at cB
    simp only [Option.getD_some,Option.isSome_some] at cB
    refine ⟨g,q',⟨F.sm,by omega,by omega,by omega,by omega⟩,?_⟩
    have Fn:=F.num
    refine z7 z17 Tryz.func45 rfl rfl 88 Tryz.ntmps45 (by simp) ?_
    repeat' ((first|(apply y4 ok;rfl)|((apply z5)<;>intro _)|(apply z6 (cB);rfl;rfl)|((first|(apply z8 [0] [] cv;rfl;rfl)|(apply z8 [0] [] cs;rfl;rfl)|(apply z8 [0,4] [] Fn;rfl;rfl));rfl;(focus ((repeat' first|exact z13|apply z11)<;>first|exact z44 rfl rfl|(refine z21 ?_;((exact z4 fun _=>rfl)))))))<;>conv=>whnf)
    all_goals try (exfalso;omega)
    all_goals
     refine y87 (y90 2 rfl) ?_
     refine z86 (fun k:Nat=>([(0,.ptr 0 none 0),(2,.ptr 1 none 0),(5,.ptr 2 none 0),(6,.int (m - k))],[rdO bs (pf k),.cells 2 [[.nils,.nils]],.cells 2 [[.sref 3 0 k,.nils]],.cells 2 ((g.st.take k).map State.cs)])) (fun k=>k≤m) (fun k=>m - k) 0 (by omega) (by refine swR [0,1,3,5] [] rfl rfl ?_;(repeat' first|exact y88 _|exact z46|apply y89|refine z14 rfl (z33) ?_|constructor)) ?_
     intro k hk
     by_cases hkm:k < m
     ·have hkl:k < g.st.length:=by omega
      obtain ⟨a,b,es,eq,ca,cb⟩:=F.st k hkl
      rw [← eq] at cb
      repeat' ((first|(apply y4 ok;rfl)|(apply z32;kernel_rfl)|(apply y45;first|omega|(unfold inI;omega)|((try dsimp only);simp only [y51,y50,y49,y48,y60,y61];omega)|exact ⟨rfl,z22 rfl z29⟩)|((apply z5)<;>intro _)|((first|(apply z34 [0] [] ca;rfl;rfl)|(apply z34 [0] [] cb;rfl;rfl));rfl))<;>conv=>whnf)
      all_goals try (exfalso;omega)
      all_goals refine z41 (k+1) (by omega) (by omega) (by refine swR [0,1,2,7] [4,5] rfl rfl ?_;(repeat' first|exact y88 _|(refine z168 ?_;omega)|apply y89|((refine z40 rfl ?_ ?_);(focus ((repeat' (first|exact z4 (fun _=>rfl)|apply z27));done)))|refine z117 (by omega) (by omega) ?_|refine z82 rfl rfl rfl rfl rfl ?_|constructor)<;>(rw [es];exact y88 _))
     ·have e:k=m:=by omega
      subst e
      rw [y59 (show g.st.length≤k by omega)]
      repeat' ((first|(apply y4 ok;rfl)|(apply y45;omega)|((apply z5)<;>intro _))<;>conv=>whnf)
      all_goals try (exfalso;omega)
      refine y87 (y90 1 rfl) ?_
      have Fm:=F.mid
      rw [Fm]
      refine z86 (fun i:Nat=>([(0,.ptr 0 none 0),(2,.ptr 1 none 0),(5,.ptr 2 none 0),(7,.int i)],[rdO bs (pg i),.cells 2 [[.nils,.nils]],.cells 2 [[.sref 3 0 k,.sref 4 0 i]],.cells 2 (g.st.map State.cs),.cells 1 ((g.nx.take i).map encL)])) (fun i=>i≤k) (fun i=>k - i) 0 (by omega) (by refine swR [0,1,2,3,4] [] rfl rfl ?_;(repeat' first|exact y88 _|exact z46|exact z16 _|apply y89|((refine z14 rfl ?_ ?_);(focus ((repeat' (first|exact z33|exact z4 (fun _=>rfl)));done)))|constructor)) ?_
      intro i hi
      by_cases hik:i < k
      ·have hil:i < g.nx.length:=by omega
       obtain ⟨a,b,c,er,eq,ca,cb,cc⟩:=F.row i hil
       rw [← eq] at cc
       by_cases hc:c=0
       ·by_cases hba:b=a
        ·rw [if_neg (fun h=>h.2 hba)] at er
         repeat' ((first|(apply y4 ok;rfl)|(apply y45;first|omega|(unfold inI;omega)|((try dsimp only);simp only [y51,y50,y49,y48,y60,y61];omega)|exact ⟨rfl,z22 rfl z29⟩)|apply z107|((first|apply z5|apply z45)<;>intro _)|((first|(apply z34 [0] [] ca;rfl;rfl)|(apply z34 [0] [] cb;rfl;rfl)|(apply z34 [0] [] cc;rfl;rfl));rfl))<;>conv=>whnf)
         all_goals try (exfalso;omega)
         all_goals refine z41 (i+1) (by omega) (by omega) (by refine swR [0,1,2,3,7] [5] rfl rfl ?_;(repeat' first|exact y88 _|exact z16 _|apply y89|((first|refine z40 rfl ?_ ?_|refine z14 rfl ?_ ?_);(focus ((repeat' (first|exact z4 (fun _=>rfl)|apply z27));done)))|refine z117 (by omega) (by omega) ?_|refine z82 rfl rfl rfl rfl rfl ?_|constructor)<;>((rw [er];exact y88 _)))
        ·rw [if_pos ⟨hc,hba⟩] at er
         repeat' ((first|(apply y4 ok;rfl)|(apply y45;first|omega|(unfold inI;omega)|((try dsimp only);simp only [y51,y50,y49,y48,y60,y61];omega)|exact ⟨rfl,z22 rfl z29⟩)|apply z107|((first|apply z5|apply z45)<;>intro _)|((first|(apply z34 [0] [] ca;rfl;rfl)|(apply z34 [0] [] cb;rfl;rfl)|(apply z34 [0] [] cc;rfl;rfl));rfl))<;>conv=>whnf)
         all_goals try (exfalso;omega)
         all_goals refine z41 (i+1) (by omega) (by omega) (by refine swR [0,1,2,3,9] [7] rfl rfl ?_;(repeat' first|exact y88 _|exact z16 _|apply y89|((first|refine z40 rfl ?_ ?_|refine z14 rfl ?_ ?_);(focus ((repeat' (first|exact z4 (fun _=>rfl)|apply z27));done)))|refine z117 (by omega) (by omega) ?_|((apply z82 rfl rfl rfl);(focus ((repeat (first|apply z141|apply z198|rfl));done));(focus ((rfl);done)))|constructor)<;>((rw [er];exact y88 _)))
       ·rw [if_neg (fun h=>hc h.1)] at er
        repeat' ((first|(apply y4 ok;rfl)|(apply y45;first|omega|(unfold inI;omega)|((try dsimp only);simp only [y51,y50,y49,y48,y60,y61];omega)|exact ⟨rfl,z22 rfl z29⟩)|apply z107|((first|apply z5|apply z45)<;>intro _)|((first|(apply z34 [0] [] ca;rfl;rfl)|(apply z34 [0] [] cb;rfl;rfl)|(apply z34 [0] [] cc;rfl;rfl));rfl))<;>conv=>whnf)
        all_goals try (exfalso;omega)
        all_goals refine z41 (i+1) (by omega) (by omega) (by refine swR [0,1,2,3,7] [5] rfl rfl ?_;(repeat' first|exact y88 _|exact z16 _|apply y89|((first|refine z40 rfl ?_ ?_|refine z14 rfl ?_ ?_);(focus ((repeat' (first|exact z4 (fun _=>rfl)|apply z27));done)))|refine z117 (by omega) (by omega) ?_|refine z82 rfl rfl rfl rfl rfl ?_|constructor)<;>((rw [er];exact y88 _)))
      ·have e:i=k:=by omega
       subst e
       rw [y59 (show g.nx.length≤i by omega)]
       repeat' ((first|(apply y4 ok;rfl)|((apply z5)<;>intro _))<;>conv=>whnf)
       all_goals try (exfalso;omega)
       all_goals rw [F.last]
       all_goals (refine rsD [0] [3,4] rfl ?_;(repeat' first|exact y88 _|(refine z283 ?_;omega)|apply y89|((apply z54 rfl rfl rfl);(focus ((repeat ((exact z42 (fun _=>rfl) _)));done));(focus (((simp;omega));done)))|apply z52|constructor))
 ·obtain ⟨g,q',m,pf,pg,F⟩:=z895 bs hb (p+1) (by omega)
  have m1:=F.m1
  have m6:=F.m6
  have sl:=F.sl
  have nl:=F.nl
  have z0:=F.q0
  have z1:=F.q1
  refine ⟨g,q',⟨F.sm,by omega,by omega,by omega,by omega⟩,?_⟩
  have Fn:=F.num
  refine z7 z17 Tryz.func45 rfl rfl 88 Tryz.ntmps45 (by simp) ?_
  repeat' ((first|(apply y4 ok;rfl)|((apply z5)<;>intro _)|((first|(apply z8 [0] [] cv;rfl;rfl)|(apply z8 [0,3] [] Fn;rfl;rfl));rfl;(focus ((repeat' first|exact z13|apply z11)<;>first|exact z44 rfl rfl|(refine z21 ?_;((exact z4 fun _=>rfl)))))))<;>conv=>whnf)
  all_goals try (exfalso;omega)
  all_goals
   refine y87 (y90 2 rfl) ?_
   refine z86 (fun k:Nat=>([(0,.ptr 0 none 0),(2,.ptr 1 none 0),(5,.ptr 2 none 0),(6,.int (m - k))],[rdO bs (pf k),.cells 2 [[.nils,.nils]],.cells 2 [[.sref 3 0 k,.nils]],.cells 2 ((g.st.take k).map State.cs)])) (fun k=>k≤m) (fun k=>m - k) 0 (by omega) (by refine swR [0,1,2,4] [] rfl rfl ?_;(repeat' first|exact y88 _|exact z46|apply y89|refine z14 rfl (z33) ?_|constructor)) ?_
   intro k hk
   by_cases hkm:k < m
   ·have hkl:k < g.st.length:=by omega
    obtain ⟨a,b,es,eq,ca,cb⟩:=F.st k hkl
    rw [← eq] at cb
    repeat' ((first|(apply y4 ok;rfl)|(apply z32;kernel_rfl)|(apply y45;first|omega|(unfold inI;omega)|((try dsimp only);simp only [y51,y50,y49,y48,y60,y61];omega)|exact ⟨rfl,z22 rfl z29⟩)|((apply z5)<;>intro _)|((first|(apply z34 [0] [] ca;rfl;rfl)|(apply z34 [0] [] cb;rfl;rfl));rfl))<;>conv=>whnf)
    all_goals try (exfalso;omega)
    all_goals refine z41 (k+1) (by omega) (by omega) (by refine swR [0,1,2,7] [4,5] rfl rfl ?_;(repeat' first|exact y88 _|(refine z168 ?_;omega)|apply y89|((refine z40 rfl ?_ ?_);(focus ((repeat' (first|exact z4 (fun _=>rfl)|apply z27));done)))|refine z117 (by omega) (by omega) ?_|refine z82 rfl rfl rfl rfl rfl ?_|constructor)<;>(rw [es];exact y88 _))
   ·have e:k=m:=by omega
    subst e
    rw [y59 (show g.st.length≤k by omega)]
    repeat' ((first|(apply y4 ok;rfl)|(apply y45;omega)|((apply z5)<;>intro _))<;>conv=>whnf)
    all_goals try (exfalso;omega)
    refine y87 (y90 1 rfl) ?_
    have Fm:=F.mid
    rw [Fm]
    refine z86 (fun i:Nat=>([(0,.ptr 0 none 0),(2,.ptr 1 none 0),(5,.ptr 2 none 0),(7,.int i)],[rdO bs (pg i),.cells 2 [[.nils,.nils]],.cells 2 [[.sref 3 0 k,.sref 4 0 i]],.cells 2 (g.st.map State.cs),.cells 1 ((g.nx.take i).map encL)])) (fun i=>i≤k) (fun i=>k - i) 0 (by omega) (by refine swR [0,1,2,3,4] [] rfl rfl ?_;(repeat' first|exact y88 _|exact z46|exact z16 _|apply y89|((refine z14 rfl ?_ ?_);(focus ((repeat' (first|exact z33|exact z4 (fun _=>rfl)));done)))|constructor)) ?_
    intro i hi
    by_cases hik:i < k
    ·have hil:i < g.nx.length:=by omega
     obtain ⟨a,b,c,er,eq,ca,cb,cc⟩:=F.row i hil
     rw [← eq] at cc
     by_cases hc:c=0
     ·by_cases hba:b=a
      ·rw [if_neg (fun h=>h.2 hba)] at er
       repeat' ((first|(apply y4 ok;rfl)|(apply y45;first|omega|(unfold inI;omega)|((try dsimp only);simp only [y51,y50,y49,y48,y60,y61];omega)|exact ⟨rfl,z22 rfl z29⟩)|apply z107|((first|apply z5|apply z45)<;>intro _)|((first|(apply z34 [0] [] ca;rfl;rfl)|(apply z34 [0] [] cb;rfl;rfl)|(apply z34 [0] [] cc;rfl;rfl));rfl))<;>conv=>whnf)
       all_goals try (exfalso;omega)
       all_goals refine z41 (i+1) (by omega) (by omega) (by refine swR [0,1,2,3,7] [5] rfl rfl ?_;(repeat' first|exact y88 _|exact z16 _|apply y89|((first|refine z40 rfl ?_ ?_|refine z14 rfl ?_ ?_);(focus ((repeat' (first|exact z4 (fun _=>rfl)|apply z27));done)))|refine z117 (by omega) (by omega) ?_|refine z82 rfl rfl rfl rfl rfl ?_|constructor)<;>((rw [er];exact y88 _)))
      ·rw [if_pos ⟨hc,hba⟩] at er
       repeat' ((first|(apply y4 ok;rfl)|(apply y45;first|omega|(unfold inI;omega)|((try dsimp only);simp only [y51,y50,y49,y48,y60,y61];omega)|exact ⟨rfl,z22 rfl z29⟩)|apply z107|((first|apply z5|apply z45)<;>intro _)|((first|(apply z34 [0] [] ca;rfl;rfl)|(apply z34 [0] [] cb;rfl;rfl)|(apply z34 [0] [] cc;rfl;rfl));rfl))<;>conv=>whnf)
       all_goals try (exfalso;omega)
       all_goals refine z41 (i+1) (by omega) (by omega) (by refine swR [0,1,2,3,9] [7] rfl rfl ?_;(repeat' first|exact y88 _|exact z16 _|apply y89|((first|refine z40 rfl ?_ ?_|refine z14 rfl ?_ ?_);(focus ((repeat' (first|exact z4 (fun _=>rfl)|apply z27));done)))|refine z117 (by omega) (by omega) ?_|((apply z82 rfl rfl rfl);(focus ((repeat (first|apply z141|apply z198|rfl));done));(focus ((rfl);done)))|constructor)<;>((rw [er];exact y88 _)))
     ·rw [if_neg (fun h=>hc h.1)] at er
      repeat' ((first|(apply y4 ok;rfl)|(apply y45;first|omega|(unfold inI;omega)|((try dsimp only);simp only [y51,y50,y49,y48,y60,y61];omega)|exact ⟨rfl,z22 rfl z29⟩)|apply z107|((first|apply z5|apply z45)<;>intro _)|((first|(apply z34 [0] [] ca;rfl;rfl)|(apply z34 [0] [] cb;rfl;rfl)|(apply z34 [0] [] cc;rfl;rfl));rfl))<;>conv=>whnf)
      all_goals try (exfalso;omega)
      all_goals refine z41 (i+1) (by omega) (by omega) (by refine swR [0,1,2,3,7] [5] rfl rfl ?_;(repeat' first|exact y88 _|exact z16 _|apply y89|((first|refine z40 rfl ?_ ?_|refine z14 rfl ?_ ?_);(focus ((repeat' (first|exact z4 (fun _=>rfl)|apply z27));done)))|refine z117 (by omega) (by omega) ?_|refine z82 rfl rfl rfl rfl rfl ?_|constructor)<;>((rw [er];exact y88 _)))
    ·have e:i=k:=by omega
     subst e
     rw [y59 (show g.nx.length≤i by omega)]
     repeat' ((first|(apply y4 ok;rfl)|((apply z5)<;>intro _))<;>conv=>whnf)
     all_goals try (exfalso;omega)
     all_goals rw [F.last]
     all_goals (refine rsD [0] [3,4] rfl ?_;(repeat' first|exact y88 _|(refine z283 ?_;omega)|apply y89|((apply z54 rfl rfl rfl);(focus ((repeat ((exact z42 (fun _=>rfl) _)));done));(focus (((simp;omega));done)))|apply z52|constructor))
structure Graph.d (g:Graph):Prop where
 st:g.st.length≤100
 nx:g.nx.length≤101
 el:∀ s∈g.st,s.sm
 row:∀ r∈g.nx,r.length≤1001
theorem Graph.d.mx {g:Graph} (h:g.d):g.mx:=by
 have h1:=h.st
 have h2:=h.nx
 have h3:=h.el
 exact ⟨⟨by unfold maxLen;omega,fun s hs=>⟨by have:=(h3 s hs).a;unfold maxLen;omega,by have:=(h3 s hs).b;unfold maxLen;omega⟩⟩,by unfold maxLen;omega,fun l hl=>by have:=h.row l hl;unfold maxLen;omega⟩
structure Lab.d (l:List Tree):Prop where
 len:l.length≤3
 el:∀ t∈l,t.sz≤5
theorem Lab.d.mx {l:List Tree} (h:Lab.d l):Lmx l:=Lmx_of (by have:=h.len;omega) fun t ht=>by have:=h.el t ht;omega
structure CodeOk (bs:List Int):Prop where
 len:bs.length≤maxLen
 el:∀ x∈bs,0≤x∧x≤255
theorem CodeOk.take {bs:List Int} (h:CodeOk bs):BytesOk (bs.take 2000):=⟨by simp;omega,fun x hx=>h.el x (List.mem_of_mem_take hx)⟩
theorem mutG_ok (bs:List Int) (hb:BytesOk bs) (p:Int) (hp:few3 p):∃ (g0 g:Graph) (p1 p2:Int),CallsA Tryz.prog 45 [.ptr 0 none 0] [rdO bs p] (.agg g0.cs) [rdO bs p1]∧CallsA Tryz.prog 44 [.ptr 0 none 0,.agg g0.cs] [rdO bs p1] (.agg g.cs) [rdO bs p2]∧g.d∧p≤p2∧p2≤p+6000:=by
 obtain ⟨g0,p1,⟨h1,h2,h3,h4,h5⟩,c1⟩:=z971 bs hb p hp
 obtain ⟨g,p2,⟨k1,k2,k3,k4,k5,k6⟩,c2⟩:=z840 bs hb p1 ⟨by omega,by omega⟩ g0 h1 h2 h3
 exact ⟨g0,g,p1,p2,c1,c2,⟨k1,k2,k3,k4⟩,by omega,by omega⟩
end Go.Proofs.YtjhgpfaodkchjaaGreat
namespace Go.Proofs.YtjhgpfaodkchjaaGreat
open Go.Gl
attribute [local irreducible] z19 AWP z25 z31 z28
end Go.Proofs.YtjhgpfaodkchjaaGreat
namespace Go.Proofs.YtjhgpfaodkchjaaGreat
open Go.Gl
attribute [local irreducible] z19 AWP z25 z31 z28 RetS z38
theorem argU (k v:Int) (a:Tree):z30 Tree.cs' (.mk k v [a])=.agg [.int k,.int v,.list 3 1 [Tree.cs' a]]:=by
 rw [y15]
 show AC.agg [AC.int k,AC.int v,lst 3 Tree.cs' [a]]=_
 rfl
theorem argB (k v:Int) (a b:Tree):z30 Tree.cs' (.mk k v [a,b])=.agg [.int k,.int v,.list 3 2 [Tree.cs' a,Tree.cs' b]]:=by
 rw [y15]
 rfl
end Go.Proofs.YtjhgpfaodkchjaaGreat
namespace Go.Proofs.YtjhgpfaodkchjaaGreat
open Go.Gl
attribute [local irreducible] z19 AWP z25 z31 z28
theorem z863 (l:List Tree) (hl:l.length≤1048576) (hp:0 < l.length):CallsA Tryz.prog 297 [lst 3 Tree.cs' l] [] (.sref 0 0 l.length) [.cells 3 (l.map Tree.cs')]:=by
 refine z9 z17 Tryz.func297 rfl rfl 8 Tryz.ntmps297 (by simp) ?_
 repeat' (first|(apply y4 ok;rfl;conv=>whnf)|(apply y45;(first|omega|(dsimp only;omega)|exact z75 (fun _=>rfl));conv=>whnf))
 exact z72 rfl (z4 fun _=>rfl) (Nat.zero_add _) rfl rfl
theorem z992 (l:List Tree) (hl:l.length≤1048576):CallsA Tryz.prog 297 [lst 3 Tree.cs' l] [] (.sref 0 0 l.length) [.cells 3 (l.map Tree.cs')]:=by
 by_cases hp:0 < l.length
 ·exact z863 l hl hp
 ·obtain rfl:l=[]:=y76 (by omega)
  refine z195 (z284 Tryz.func297 rfl (by rfl)) fun ad cap=>?_
  cases ad with
  |none =>
   refine CallsA.nils (res:=.nils) (l:=[.cells 3 []]) ?_ (by simp) z364
   refine z9 z17 Tryz.func297 rfl rfl 8 Tryz.ntmps297 (by simp) ?_
   repeat' ((apply y4 ok;rfl;conv=>whnf))
   all_goals exact z39 rfl rfl rfl
  |some p =>
   refine z9 z17 Tryz.func297 rfl rfl 8 Tryz.ntmps297 (by simp) ?_
   repeat' (first|(apply y4 ok;rfl;conv=>whnf)|(apply y45;(omega);conv=>whnf))
   all_goals (exact z72 rfl z33 rfl rfl rfl)
theorem z528 (l:List Tree) (hl:l.length≤1048576):CallsA Tryz.prog 268 [.sref 0 0 l.length] [.cells 3 (l.map Tree.cs')] (.sref 0 0 l.length) [.cells 3 (l.map Tree.cs')]:=by
 refine z9 z17 Tryz.func268 rfl rfl 9 Tryz.ntmps268 (by simp) ?_
 repeat' (first|(apply y4 ok;rfl;conv=>whnf)|(apply y45;(omega);conv=>whnf))
 exact z72 rfl (z4 fun _=>rfl) (by omega) rfl rfl
theorem z159 (l:List Tree) (hl:l.length≤1048576):CallsA Tryz.prog 266 [lst 3 Tree.cs' l] [] (.sref 0 0 l.length) [.cells 3 (l.map Tree.cs')]:=by
 refine z9 z17 Tryz.func266 rfl rfl 6 Tryz.ntmps266 (by simp) ?_
 repeat' (first|(apply y4 ok;rfl;conv=>whnf)|(apply z92 [] [] [0] (z992 l hl);rfl;(focus ((repeat' (exact z47))<;>(fail)));rfl;rfl;rfl;rfl;rfl;(focus ((repeat' (first|exact z13|apply z11))<;>((refine z21 ?_;((exact z4 (fun _=>rfl)))))));(exact .inl rfl);conv=>whnf)|(apply z92 [0] [] [] (z528 l hl);rfl;(focus ((repeat' (first|exact z47|apply z59))<;>((refine z84 rfl ?_;((exact z4 (fun _=>rfl)))))));rfl;rfl;rfl;rfl;rfl;(focus ((repeat' (first|exact z13|apply z11))<;>((refine z21 ?_;((exact z4 (fun _=>rfl)))))));(exact .inl rfl);conv=>whnf))
 exact z72 rfl (z4 fun _=>rfl) rfl rfl rfl
end Go.Proofs.YtjhgpfaodkchjaaGreat
namespace Go.Proofs.YtjhgpfaodkchjaaGreat
open Go.Gl
attribute [local irreducible] z19 AWP z25 z31 z28 RetS z38
theorem z981 (k:Int) (l:List Tree) (hl:l.length≤1048576):CallsA Tryz.prog 226 [.int k,lst 3 Tree.cs' l] [] (.agg [.int k,.int 0,lst 3 Tree.cs' l]) []:=by
 have c:=z159 l hl
 refine z7 z17 Tryz.func226 rfl rfl 9 Tryz.ntmps226 (by simp) ?_
 repeat' ((first|(apply y4 ok;rfl)|(apply z8 [] [1] c;rfl;rfl;rfl;(focus ((repeat' first|exact z13|apply z11)<;>(refine z21 ?_;((exact z4 fun _=>rfl)))))))<;>conv=>whnf)
 all_goals (refine rsD [] [1] rfl ?_;(repeat' first|exact y88 _|((apply z54 rfl rfl rfl);(focus ((repeat ((exact z42 (fun _=>rfl) _)));done));(focus (((simp;done));done)))|apply z52|constructor))
theorem z850 (k:Int):CallsA Tryz.prog 226 [.int k,.nils] [] (.agg [.int k,.int 0,.list 3 0 []]) []:=(z981 k [] (by simp)).arg (by (repeat' first|exact y88 _|exact z43|constructor))
theorem z120 (k:Int) (l:List Tree) (hl:l.length≤1048576):CallsA Tryz.prog 226 [.int k,.sref 0 0 l.length] [.cells 3 (l.map Tree.cs')] (.agg [.int k,.int 0,lst 3 Tree.cs' l]) [.dead]:=by
 have c:=z159 l hl
 refine z7 z17 Tryz.func226 rfl rfl 9 Tryz.ntmps226 (by simp) ?_
 refine y87 (Reach.rnm 0 rfl) ?_
 refine y87 (show Gl.Reach _ _ (mkSt _ [(0,.int k),(1,lst 3 Tree.cs' l)] [.dead]) from (by refine swR [0] [1] rfl rfl ?_;(repeat' first|exact y88 _|((apply z54 rfl rfl rfl);(focus ((repeat ((exact z42 (fun _=>rfl) _)));done));(focus (((simp;done));done)))|constructor))) ?_
 repeat' ((first|(apply y4 ok;rfl)|(apply z8 [] [2] c;rfl;rfl;rfl;(focus ((repeat' first|exact z13|apply z11)<;>(refine z21 ?_;((exact z4 fun _=>rfl)))))))<;>conv=>whnf)
 all_goals (refine rsD [0] [2] rfl ?_;(repeat' first|exact y88 _|((apply z54 rfl rfl rfl);(focus ((repeat ((exact z42 (fun _=>rfl) _)));done));(focus (((simp;done));done)))|apply z52|constructor))
theorem z430 (k kd v:Int):CallsA Tryz.prog 226 [.int k,.sref 0 0 1] [.cells 3 [[.int kd,.int v,.nils]]] (.agg [.int k,.int 0,lst 3 Tree.cs' [.mk kd v []]]) [.dead]:=by
 have c:=z159 [.mk kd v []] (by simp)
 refine z7 z17 Tryz.func226 rfl rfl 9 Tryz.ntmps226 (by simp) ?_
 refine y87 (Reach.rnm 0 rfl) ?_
 refine y87 (show Gl.Reach _ _ (mkSt _ [(0,.int k),(1,lst 3 Tree.cs' [.mk kd v []])] [.dead]) from (by refine swR [0] [1] rfl rfl ?_;(repeat' first|exact y88 _|exact z43|refine z54 rfl rfl rfl rfl rfl ?_|(apply z79;rfl)|constructor))) ?_
 repeat' ((first|(apply y4 ok;rfl)|(apply z34 [] [2] c;rfl;rfl;rfl))<;>conv=>whnf)
 all_goals (refine rsD [0] [2] rfl ?_;(repeat' first|exact y88 _|constructor))
theorem z280 (k v : Int) (l : List Tree) (neg : Bool) (i : Nat) (hi : i < l.length) (x : Tree) (hx : CallsA Tryz.prog 229 [z30 Tree.cs' l[i], .bool neg] [] (z30 Tree.cs' x) []) :
    CallsA Tryz.prog 269 [.int i,.ptr 0 none 0,.ptr 1 none 0] [.cells 3 [[.int k,.int v,lst 3 Tree.cs' l]],.cells 1 [[.bool neg]]] (z30 Tree.cs' x) [.cells 3 [[.int k,.int v,lst 3 Tree.cs' l]],.cells 1 [[.bool neg]]]:=by
  have g:(l.map Tree.cs')[i]?=some (Tree.cs' l[i]):=by rw [y53,y47 hi];rfl
  generalize l[i]=y at *
  refine z7 z17 Tryz.func269 rfl rfl 12 Tryz.ntmps269 (by simp) ?_
  repeat' ((first|(apply y4 ok;rfl)|(apply z32;kernel_rfl)|(refine z12 (i:=i) rfl g ?_)|(apply y45;omega)|(apply z6 (hx);rfl;rfl))<;>conv=>whnf)
  all_goals (refine rsD [0,1] [] rfl ?_;(repeat' first|exact y88 _|apply y89|constructor))
theorem z966 (a b:Int) (neg:Bool):CallsA Tryz.prog 270 [.int a,.int b,.ptr 0 none 0] [.cells 1 [[.bool neg]]] (.int (if neg then b else a)) [.cells 1 [[.bool neg]]]:=by
 refine z7 z17 Tryz.func270 rfl rfl 9 Tryz.ntmps270 (by simp) ?_
 cases neg
 all_goals
  repeat' (((apply y4 ok;rfl))<;>conv=>whnf)
  all_goals (refine rsD [0] [] rfl ?_;(repeat' first|exact y88 _|apply y89|constructor))
set_option maxHeartbeats 6400000 in
theorem z1083 (t:Tree):t.goodF→∀ neg:Bool,CallsA Tryz.prog 229 [z30 Tree.cs' t,.bool neg] [] (z30 Tree.cs' (t.nrm neg)) []:=by
 induction t using y26 with|h t ih=>?_
 intro hg neg
 have cT:=z850 1
 have cF:=z120 3 [.mk 1 0 []] (by simp)
 cases y21 hg with
 |tr =>
  rw [z903]
  clear ih
  cases neg
  all_goals
   refine z7 z17 Tryz.func229 rfl rfl 99 Tryz.ntmps229 (by simp) ?_
   repeat' ((first|(apply y4 ok;rfl)|(apply z6 (cT);rfl;rfl)|((first|(apply z8 [3] [] cF;rfl;rfl)|(apply z8 [6] [] (z430 3 1 0);rfl;rfl));rfl;(focus ((repeat' first|exact z13|apply z11)<;>exact z134))))<;>conv=>whnf)
   all_goals (refine rsD [] [] rfl ?_;(repeat' first|exact y88 _|exact z43|apply z52|constructor))
 |«at» v h0 h1 =>
  rw [z580]
  clear ih
  cases neg
  all_goals
   refine z7 z17 Tryz.func229 rfl rfl 99 Tryz.ntmps229 (by simp) ?_
   repeat' ((first|(apply y4 ok;rfl)|(apply z6 (cT);rfl;rfl)|((first|(apply z8 [3] [] cF;rfl;rfl)|(apply z8 [6] [] (z430 3 2 v);rfl;rfl));rfl;(focus ((repeat' first|exact z13|apply z11)<;>exact z134))))<;>conv=>whnf)
   all_goals (refine rsD [] [] rfl ?_;(repeat' first|exact y88 _|exact z43|apply z52|constructor))
 |un k a hk ha =>
  have ca:=fun n=>ih a (by simp [Tree.kids]) ha n
  clear ih
  rcases hk with rfl|rfl|rfl|rfl
  ·rw [z405,argU 3 0 a]
   have ca:=ca (!neg)
   refine z7 z17 Tryz.func229 rfl rfl 99 Tryz.ntmps229 (by simp) ?_
   repeat' ((first|(apply y4 ok;rfl)|(apply z32;kernel_rfl)|(refine ⟨_,rfl,?_⟩)|(apply y45;omega)|(apply z6 (cT);rfl;rfl)|(apply z6 (ca);rfl;rfl)|(apply z8 [3] [] cF;rfl;rfl;rfl;(focus ((repeat' first|exact z13|apply z11)<;>exact z134))))<;>conv=>whnf)
   all_goals (refine rsD [] [] rfl ?_;(repeat' first|exact y88 _|constructor))
  ·rw [z456,argU 6 0 a,argU]
   have ck:=z280 6 0 [a] neg 0 (by simp) (a.nrm neg) (ca neg)
   have cf:=z120 6 [a.nrm neg] (by simp)
   generalize a.nrm neg=x at *
   refine z7 z17 Tryz.func229 rfl rfl 99 Tryz.ntmps229 (by simp) ?_
   repeat' ((first|(apply y4 ok;rfl)|(apply z6 (cT);rfl;rfl)|((first|(apply z8 [3] [] cF;rfl;rfl)|(apply z8 [0,1] [] ck;rfl;rfl)|(apply z8 [5] [] cf;rfl;rfl));rfl;(focus ((repeat' first|exact z13|apply z11)<;>first|exact z134|exact z44 rfl rfl))))<;>conv=>whnf)
   all_goals (refine rsD [] [] rfl ?_;(repeat' first|exact y88 _|constructor))
  ·rw [z722,argU 9 0 a]
   have ck:=z280 9 0 [a] neg 0 (by simp) (a.nrm neg) (ca neg)
   have c7:=z120 7 [truT,a.nrm neg] (by simp)
   have c8:=z120 8 [notT truT,a.nrm neg] (by simp)
   generalize a.nrm neg=x at *
   cases neg
   ·rw [if_neg (by simp),argB]
    refine z7 z17 Tryz.func229 rfl rfl 99 Tryz.ntmps229 (by simp) ?_
    repeat' ((first|(apply y4 ok;rfl)|(apply z6 (cT);rfl;rfl)|((first|(apply z8 [3] [] cF;rfl;rfl)|(apply z8 [0,1] [] ck;rfl;rfl)|(apply z8 [5] [] c7;rfl;rfl));rfl;(focus ((repeat' first|exact z13|apply z11)<;>first|exact z134|exact z44 rfl rfl))))<;>conv=>whnf)
    all_goals (refine rsD [] [] rfl ?_;(repeat' first|exact y88 _|constructor))
   ·rw [if_pos rfl,argB]
    refine z7 z17 Tryz.func229 rfl rfl 99 Tryz.ntmps229 (by simp) ?_
    repeat' ((first|(apply y4 ok;rfl)|(apply z32;kernel_rfl)|(apply z6 (cT);rfl;rfl)|((first|(apply z8 [3] [] cF;rfl;rfl)|(apply z8 [0,1] [] ck;rfl;rfl)|(apply z8 [5] [] c8;rfl;rfl));rfl;(focus ((repeat' first|exact z13|apply z11)<;>first|exact z134|exact z44 rfl rfl))))<;>conv=>whnf)
    all_goals (refine rsD [] [] rfl ?_;(repeat' first|exact y88 _|constructor))
  ·rw [z723,argU 10 0 a]
   have ck:=z280 10 0 [a] neg 0 (by simp) (a.nrm neg) (ca neg)
   have c7:=z120 7 [truT,a.nrm neg] (by simp)
   have c8:=z120 8 [notT truT,a.nrm neg] (by simp)
   generalize a.nrm neg=x at *
   cases neg
   ·rw [if_neg (by simp),argB]
    refine z7 z17 Tryz.func229 rfl rfl 99 Tryz.ntmps229 (by simp) ?_
    repeat' ((first|(apply y4 ok;rfl)|(apply z32;kernel_rfl)|(apply z6 (cT);rfl;rfl)|((first|(apply z8 [3] [] cF;rfl;rfl)|(apply z8 [0,1] [] ck;rfl;rfl)|(apply z8 [5] [] c8;rfl;rfl));rfl;(focus ((repeat' first|exact z13|apply z11)<;>first|exact z134|exact z44 rfl rfl))))<;>conv=>whnf)
    all_goals (refine rsD [] [] rfl ?_;(repeat' first|exact y88 _|constructor))
   ·rw [if_pos rfl,argB]
    refine z7 z17 Tryz.func229 rfl rfl 99 Tryz.ntmps229 (by simp) ?_
    repeat' ((first|(apply y4 ok;rfl)|(apply z6 (cT);rfl;rfl)|((first|(apply z8 [3] [] cF;rfl;rfl)|(apply z8 [0,1] [] ck;rfl;rfl)|(apply z8 [5] [] c7;rfl;rfl));rfl;(focus ((repeat' first|exact z13|apply z11)<;>first|exact z134|exact z44 rfl rfl))))<;>conv=>whnf)
    all_goals (refine rsD [] [] rfl ?_;(repeat' first|exact y88 _|constructor))
 |bin k a b hk ha hb =>
  have ca:=z280 k 0 [a,b] neg 0 (by simp) (a.nrm neg) (ih a (by simp [Tree.kids]) ha neg)
  have cb:=z280 k 0 [a,b] neg 1 (by simp) (b.nrm neg) (ih b (by simp [Tree.kids]) hb neg)
  clear ih
  have cf:=z120 (if neg then z664 k else k) [a.nrm neg,b.nrm neg] (by simp)
  have cp:=z966 k (z664 k) neg
  rw [z510 _ _ _ _ _ hk,argB k 0 a b,argB]
  generalize a.nrm neg=x at *
  generalize b.nrm neg=y at *
  rcases hk with rfl|rfl|rfl|rfl
  all_goals
   refine z7 z17 Tryz.func229 rfl rfl 99 Tryz.ntmps229 (by simp) ?_
   repeat' ((first|(apply y4 ok;rfl)|(apply z6 (cT);rfl;rfl)|((first|(apply z8 [3] [] cF;rfl;rfl)|(apply z8 [0,1] [] ca;rfl;rfl)|(apply z8 [0,1] [] cb;rfl;rfl)|(apply z8 [1] [] cp;rfl;rfl)|(apply z8 [5] [] cf;rfl;rfl));rfl;(focus ((repeat' first|exact z13|apply z11)<;>first|exact z134|exact z44 rfl rfl))))<;>conv=>whnf)
   all_goals (refine rsD [] [] rfl ?_;(repeat' first|exact y88 _|constructor))
theorem z650 (c:Tree) (l:List Tree) (hl:l.length≤maxLen) (p:Tree→Bool) (f:FuncId) (hf:∀ x∈l,CallsA Tryz.prog f [z30 Tree.cs' x,.pt [.int c.kind,.int c.val,lst 3 Tree.cs' c.kids]] [] (.bool (p x)) []):CallsA Tryz.prog 271 [lst 3 Tree.cs' l,.fn (.func f) [] [.pt [.int c.kind,.int c.val,lst 3 Tree.cs' c.kids]]] [] (.int (idxF p l)) []:=by
 unfold maxLen at hl
 refine z9 z17 Tryz.func271 rfl rfl 19 Tryz.ntmps271 (by simp) ?_
 repeat' (((apply y4 ok;rfl))<;>conv=>whnf)
 refine z80 (fun k:Nat=>([(0,lst 3 Tree.cs' l),(1,.fn (.func f) [] [.pt [.int c.kind,.int c.val,lst 3 Tree.cs' c.kids]]),(7,.int l.length),(8,.int k)],[])) (fun k=>k≤l.length∧∀ j (hj:j < l.length),j < k→p l[j]=false) (fun k=>l.length - k) 0 (by simp)
  ⟨[],rfl,by decide,rfl,⟨⟨rfl,rfl⟩,⟨rfl,rfl⟩,⟨rfl,rfl⟩,⟨rfl,rfl⟩,trivial⟩,trivial⟩ ?_
 intro k hk
 repeat' ((first|(apply y4 ok;rfl)|(apply y45;first|omega|(unfold inI;omega))|(((with_reducible apply z10;omega));intro _)|((first|apply z5|apply z74)<;>intro _)|(apply z6 (hf l[k] (y46 _));rfl;rfl))<;>conv=>whnf)
 ·rename_i h h1
  exact z39 rfl rfl (by rw [z169 (by omega) h1 hk.2];rfl)
 ·rename_i h h1
  refine z68 (k+1) [] ⟨by omega,fun j hj hjk=>?_⟩ (by omega) ⟨rfl,by decide,rfl,⟨⟨rfl,rfl⟩,⟨rfl,rfl⟩,⟨rfl,rfl⟩,⟨rfl,rfl⟩,trivial⟩,trivial⟩
  rcases y72 j k with h2|h2
  ·exact hk.2 j hj h2
  ·obtain rfl:j=k:=by omega
   exact h1
 ·exact z39 rfl rfl (by rw [z146 fun j hj=>hk.2 j hj (by omega)];rfl)
theorem z1133 (A B : List Tree) (hA : A.length ≤ maxLen) (hB : B.length ≤ maxLen) (f : FuncId) (hf : ∀ i (h : i < A.length) (h2 : i < B.length), CallsA Tryz.prog f [z30 Tree.cs' A[i], z30 Tree.cs' B[i]] [] (.bool (decide (A[i] = B[i]))) []) :
    CallsA Tryz.prog 299 [lst 3 Tree.cs' A,lst 3 Tree.cs' B,.fn (.func f) [] []] [] (.bool (decide (A=B))) []:=by
  unfold maxLen at hA hB
  by_cases hl:A.length=B.length
  · have hT:(∀ i (h:i < A.length) (h2:i < B.length),A[i]=B[i])→decide (A=B)=true:=fun h=>y84 (y77 hl h)
    have hF:∀ i (h:i < A.length) (h2:i < B.length),A[i]≠B[i]→decide (A=B)=false:=fun i h h2 hne=>y85 fun e=>hne (by subst e;rfl)
    generalize decide (A=B)=D at *
    refine z7 z17 Tryz.func299 rfl (by kernel_rfl) 32 Tryz.ntmps299 (by simp) ?_
    repeat' ((first|(apply y4 ok;rfl)|((apply z45)<;>intro _))<;>conv=>whnf)
    all_goals try (exfalso;omega)
    refine z86 (fun i:Nat=>([(0,lst 3 Tree.cs' A),(1,lst 3 Tree.cs' B),(2,.fn (.func f) [] []),(15,lst 3 Tree.cs' A),(16,.int A.length),(17,.int i)],[])) (fun i=>i≤A.length∧∀ j (h:j < A.length) (h2:j < B.length),j < i→A[j]=B[j]) (fun i=>A.length - i) 0 ⟨y55 _,fun j _ _ h=>absurd h (Nat.not_lt_zero _)⟩ (by refine swR [] [] rfl rfl ?_;(repeat' first|exact y88 _|constructor)) ?_
    rintro i ⟨hi,hj⟩
    by_cases hil:i < A.length
    · have hil2:i < B.length:=by omega
      have c1:=hf i hil hil2
      have gA:(A.map Tree.cs')[i]?=some (Tree.cs' A[i]):=by rw [y53,y47 hil];rfl
      have gB:(B.map Tree.cs')[i]?=some (Tree.cs' B[i]):=by rw [y53,y47 hil2];rfl
      by_cases he:A[i]=B[i]
      · rw [y84 he] at c1
        have hj2:∀ j (h:j < A.length) (h2:j < B.length),j < i+1→A[j]=B[j]:=fun j h h2 hji=>by
          rcases y72 j i with h3|h3
          · exact hj j h h2 h3
          · obtain rfl:j=i:=by omega
            exact he
        generalize A[i]=x at *
        generalize B[i]=y at *
        repeat' ((first|(apply y4 ok;rfl)|(refine z12 (i:=i) rfl gA ?_)|(refine z12 (i:=i) rfl gB ?_)|(apply y45;first|omega|(unfold inI;omega))|((apply z5)<;>intro _)|(apply z6 (c1);rfl;rfl))<;>conv=>whnf)
        all_goals try (exfalso;omega)
        all_goals refine z41 (i+1) ⟨by omega,hj2⟩ (by omega) (by refine swR [] [] rfl rfl ?_;(repeat' first|exact y88 _|constructor))
      · rw [y85 he] at c1
        have hD:=hF i hil hil2 he
        subst hD
        generalize A[i]=x at *
        generalize B[i]=y at *
        repeat' ((first|(apply y4 ok;rfl)|(refine z12 (i:=i) rfl gA ?_)|(refine z12 (i:=i) rfl gB ?_)|(apply y45;omega)|((apply z5)<;>intro _)|(apply z6 (c1);rfl;rfl))<;>conv=>whnf)
        all_goals try (exfalso;omega)
        all_goals (refine rsD [] [] rfl ?_;(repeat' first|exact y88 _|constructor))
    · have hD:=hT (fun j h h2=>hj j h h2 (by omega))
      subst hD
      repeat' ((first|(apply y4 ok;rfl)|(apply y45;omega)|(((with_reducible apply z10;omega));intro _)|((apply z5)<;>intro _))<;>conv=>whnf)
      all_goals try (exfalso;omega)
      all_goals (refine rsD [] [] rfl ?_;(repeat' first|exact y88 _|constructor))
  · rw [y85 (fun e=>hl (by rw [e]))]
    refine z7 z17 Tryz.func299 rfl (by kernel_rfl) 32 Tryz.ntmps299 (by simp) ?_
    repeat' ((first|(apply y4 ok;rfl)|((apply z45)<;>intro _))<;>conv=>whnf)
    all_goals first|(exfalso;omega)|(refine rsD [] [] rfl ?_;(repeat' first|exact y88 _|constructor))
theorem z653 (a:Tree):a.mx→∀ b:Tree,b.mx→CallsA Tryz.prog 273 [z30 Tree.cs' a,z30 Tree.cs' b] [] (.bool (decide (a=b))) []:=by
 induction a using y26 with|h a ih=>?_
 intro ha b hb
 rw [y27] at ha hb
 have cE:=z1133 a.kids b.kids ha.1 hb.1 273 (fun i h h2=>ih _ (y46 _) (ha.2 _ (y46 _)) _ (hb.2 _ (y46 _)))
 clear ih
 rw [y15,y15]
 by_cases hk:a.kind=b.kind∧a.val=b.val
 ·obtain ⟨k1,k2⟩:=hk
  have e:decide (a.kids=b.kids)=decide (a=b):=decide_eq_decide.2 ⟨fun h=>Tree.ext k1 k2 h,fun h=>by rw [h]⟩
  rw [e] at cE
  generalize decide (a=b)=D at *
  cases D
  all_goals
   refine z7 z17 Tryz.func273 rfl rfl 24 Tryz.ntmps273 (by simp) ?_
   repeat' ((first|(apply y4 ok;rfl)|((apply z5)<;>intro _)|(apply z6 (cE);rfl;rfl))<;>conv=>whnf)
   all_goals try (exfalso;omega)
   all_goals (refine rsD [] [] rfl ?_;(repeat' first|exact y88 _|constructor))
 ·rw [y85 (fun e=>hk (by subst e;exact ⟨rfl,rfl⟩))]
  clear cE
  refine z7 z17 Tryz.func273 rfl rfl 24 Tryz.ntmps273 (by simp) ?_
  repeat' ((first|(apply y4 ok;rfl)|((apply z5)<;>intro _))<;>conv=>whnf)
  all_goals first|(exfalso;omega)|(refine rsD [] [] rfl ?_;(repeat' first|exact y88 _|constructor))
theorem z287 (l:List Tree) (hl:l.length≤1000000) (hm:∀ t∈l,t.mx) (t:Tree) (ht:t.mx):CallsA Tryz.prog 230 [lst 3 Tree.cs' l,z30 Tree.cs' t] [] (.int (idxF (fun x=>decide (x=t)) l)) []:=by
 have cI:=z650 t l (by unfold maxLen;omega) (fun x=>decide (x=t)) 272 (fun x hx=>by
  have cS:=z653 x (hm x hx) t ht
  rw [y15 t] at cS
  refine z7 z17 Tryz.func272 rfl rfl 7 Tryz.ntmps272 (by simp) ?_
  rw [y15 x] at cS ⊢
  repeat' ((first|(apply y4 ok;rfl)|(apply z6 (cS);rfl;rfl))<;>conv=>whnf)
  all_goals (refine rsD [] [] rfl ?_;(repeat' first|exact y88 _|constructor)))
 rw [y15 t]
 refine z7 z17 Tryz.func230 rfl rfl 8 Tryz.ntmps230 (by simp) ?_
 repeat' ((first|(apply y4 ok;rfl)|(apply z95 [] [0] [] cI;(focus ((repeat' first|exact z88|apply z51)<;>rfl));rfl;rfl;(focus ((repeat' exact z13)<;>fail));((refine .inr ⟨rfl,?_⟩;repeat' exact True.intro))))<;>conv=>whnf)
 all_goals (refine rsD [] [] rfl ?_;(repeat' first|exact y88 _|constructor))
theorem z1142 (t:Tree) (h:t.sz≤1000000):CallsA Tryz.prog 225 [z30 Tree.cs' t] [] (ownT t) [.cells 3 (t.kids.map Tree.cs')]:=by
 induction t using y26 with|h t ih=>?_
 have hkl:t.kids.length≤1000000:=by rw [y38] at h;omega
 have hks:∀ u∈t.kids,u.sz≤1000000:=fun u hu=>by
  have:=z370 Tree.sz hu
  rw [y38] at h;omega
 rw [y15 t]
 obtain ⟨k,v,l⟩:=t
 simp only [Tree.kind,Tree.val,Tree.kids] at *
 have hcs:∀ (i:Nat) (hi:i < l.length),CallsA Tryz.prog 225 [z30 Tree.cs' l[i]] [] (z30 Tree.cs' l[i]) []:=fun i hi =>
  z454 (ih _ (y46 _) (hks _ (y46 _)))
 have cC:=z159 l (by omega)
 unfold ownT
 simp only [Tree.kind,Tree.val,Tree.kids] at *
 refine z7 z17 Tryz.func225 rfl rfl 30 Tryz.ntmps225 (by simp) ?_
 repeat' ((first|(apply y4 ok;rfl)|(apply z32;kernel_rfl)|(apply z8 [] [2] cC;rfl;rfl;rfl;(focus ((repeat' first|exact z13|apply z11)<;>(refine z21 ?_;((exact z4 fun _=>rfl)))))))<;>conv=>whnf)
 refine z86 (fun i:Nat=>([(1,.ptr 0 none 0),(2,.ptr 1 none 0),(3,.ptr 3 none 0),(15,lst 3 Tree.cs' l),(16,.int l.length),(17,.int i)],[.cells 3 [[.int k,.int v,lst 3 Tree.cs' l]],.cells 3 [[.int 0,.int 0,.nils]],.cells 3 (l.map Tree.cs'),.cells 3 [[.int k,.int v,.sref 2 0 l.length]]])) (fun i=>i≤l.length) (fun i=>l.length - i) 0 (by omega) (by refine swR [0,1,2,3] [] rfl rfl ?_;(repeat' first|exact y88 _|exact z16 _|apply y89|refine z14 rfl (z4 (fun _=>rfl)) ?_|constructor)) ?_
 intro i hi
 by_cases hil:i < l.length
 ·have hc:=hcs i hil
  have gk:(l.map Tree.cs')[i]?=some (Tree.cs' l[i]):=by rw [y53,y47 hil];rfl
  have hset:(l.map Tree.cs').set i (Tree.cs' l[i])=l.map Tree.cs':=by
   apply y77 (by simp)
   intro j h1 h2
   rw [List.getElem_set]
   split
   ·rename_i e;subst e;simp
   ·rfl
  generalize l[i]=x at *
  repeat' ((first|(apply y4 ok;rfl)|(apply z32;kernel_rfl)|(refine z12 (i:=i) rfl gk ?_)|(apply y45;first|omega|(unfold inI;omega))|((apply z5)<;>intro _)|(apply z6 (hc);rfl;rfl))<;>conv=>whnf)
  all_goals try (exfalso;omega)
  all_goals refine z41 (i+1) (by omega) (by omega) (by refine swR [0,1,2,3] [] rfl rfl ?_;(repeat' first|exact y88 _|apply y89|refine z73 rfl (z4 (fun _=>rfl)) ?_|constructor)<;>((refine z61 ?_;exact hset)))
 ·have e:i=l.length:=by omega
  subst e
  repeat' ((first|(apply y4 ok;rfl)|(apply y45;omega)|(((with_reducible apply z10;omega));intro _)|((apply z5)<;>intro _))<;>conv=>whnf)
  all_goals try (exfalso;omega)
  all_goals (refine rsD [2] [] rfl ?_;(repeat' first|exact y88 _|exact z16 _|refine z14 rfl (z4 (fun _=>rfl)) ?_|constructor))
theorem z665 (t:Tree) (h:t.sz≤1000000):CallsA Tryz.prog 225 [z30 Tree.cs' t] [] (z30 Tree.cs' t) []:=z454 (z1142 t h)
theorem z589 (t:Tree) (hg:t.goodF) (hs:t.sz≤1000):CallsA Tryz.prog 146 [z30 Tree.cs' t] [] (.tup [z30 Tree.cs' (if (t.nrm false).fmB=true then t.nrm false else dftT),.bool (t.nrm false).fmB]) []:=by
 have cp:=z1083 t hg false
 have hz:=y28 t hg false
 have cw:=z132 (t.nrm false) (z106 _ (by unfold maxLen;omega))
 generalize t.nrm false=u at *
 rw [y15 t] at *
 rw [y15 u] at *
 by_cases h2:u.fmB=true
 ·rw [if_pos h2,h2,y15 u]
  rw [h2] at cw
  refine z7 z17 Tryz.func146 rfl rfl 12 Tryz.ntmps146 (by simp) ?_
  repeat' ((first|(apply y4 ok;rfl)|(apply z6 (cp);rfl;rfl)|(apply z6 (cw);rfl;rfl))<;>conv=>whnf)
  all_goals (refine rsD [] [] rfl ?_;(repeat' first|exact y88 _|constructor))
 ·rw [if_neg h2,(y74 _).mp h2]
  rw [(y74 _).mp h2] at cw
  refine z7 z17 Tryz.func146 rfl rfl 12 Tryz.ntmps146 (by simp) ?_
  repeat' ((first|(apply y4 ok;rfl)|(apply z6 (cp);rfl;rfl)|(apply z6 (cw);rfl;rfl))<;>conv=>whnf)
  all_goals (refine rsD [] [] rfl ?_;(repeat' first|exact y88 _|exact z43|apply z52|apply z104|constructor))
theorem z1114 (t:Tree) (hs:t.sz≤1000):CallsA Tryz.prog 227 [z30 Tree.cs' t] [] (.tup [z30 Tree.cs' (if t.fmB=true∧(t.nrm false).fmB=true then t.nrm false else dftT),.bool (decide (t.fmB=true∧(t.nrm false).fmB=true))]) []:=by
 have cv:=z132 t (z106 t (by unfold maxLen;omega))
 by_cases h1:t.fmB=true
 ·have cn:=z589 t (y23 h1) hs
  have e:(if t.fmB=true∧(t.nrm false).fmB=true then t.nrm false else dftT)=if (t.nrm false).fmB=true then t.nrm false else dftT:=by simp only [h1,true_and]
  have e2:decide (t.fmB=true∧(t.nrm false).fmB=true)=(t.nrm false).fmB:=by simp [h1]
  rw [e,e2]
  rw [h1] at cv
  clear e e2
  generalize (if (t.nrm false).fmB=true then t.nrm false else dftT)=u at *
  generalize (t.nrm false).fmB=b at *
  rw [y15 t] at cv cn ⊢
  rw [y15 u] at cn ⊢
  refine z7 z17 Tryz.func227 rfl rfl 12 Tryz.ntmps227 (by simp) ?_
  repeat' ((first|(apply y4 ok;rfl)|(apply z6 (cv);rfl;rfl)|(apply z6 (cn);rfl;rfl))<;>conv=>whnf)
  all_goals (refine rsD [] [] rfl ?_;(repeat' first|exact y88 _|constructor))
 ·rw [if_neg (fun h=>h1 h.1),y85 (fun h=>h1 h.1)]
  rw [(y74 _).mp h1] at cv
  rw [y15 t] at cv ⊢
  refine z7 z17 Tryz.func227 rfl rfl 12 Tryz.ntmps227 (by simp) ?_
  repeat' ((first|(apply y4 ok;rfl)|(apply z6 (cv);rfl;rfl))<;>conv=>whnf)
  all_goals (refine rsD [] [] rfl ?_;(repeat' first|exact y88 _|exact z43|apply z52|apply z104|constructor))
theorem z836 (t:Tree) (hg:t.goodF) (hs:t.sz≤1000):CallsA Tryz.prog 144 [z30 Tree.cs' t] [] (z30 Tree.cs' (negT t)) []:=by
 by_cases hk:t.kind=3
 ·have hf:=y21 hg
  cases hf with
  |tr=>simp [Tree.kind] at hk
  |«at» v _ _=>simp [Tree.kind] at hk
  |bin k a b hk2 _ _=>simp only [Tree.kind] at hk;omega
  |un k a _ _ =>
   simp only [Tree.kind] at hk
   subst hk
   have e:negT (.mk 3 0 [a])=a:=by simp [negT,Tree.kind,Tree.kids]
   rw [z351] at hs
   have cc:=z665 a (by omega)
   rw [e,argU 3 0 a]
   refine z7 z17 Tryz.func144 rfl rfl 15 Tryz.ntmps144 (by simp) ?_
   repeat' ((first|(apply y4 ok;rfl)|(refine ⟨_,rfl,?_⟩)|(apply y45;omega)|(apply z6 (cc);rfl;rfl))<;>conv=>whnf)
   all_goals (refine rsD [] [] rfl ?_;(repeat' first|exact y88 _|constructor))
 ·have e:negT t=notT t:=if_neg hk
  have cc:=z665 t (by omega)
  have cf:=z120 3 [t] (by simp)
  rw [e]
  unfold notT
  rw [argU]
  refine z7 z17 Tryz.func144 rfl rfl 15 Tryz.ntmps144 (by simp) ?_
  repeat' ((first|(apply y4 ok;rfl)|(apply y45;omega)|(((with_reducible apply z127;omega));intro _)|((first|apply z5|apply z74)<;>intro _)|(apply z6 (cc);rfl;rfl)|(apply z8 [2] [] cf;rfl;rfl;rfl;(focus ((repeat' first|exact z13|apply z11)<;>exact z134))))<;>conv=>whnf)
  all_goals first|(exfalso;omega)|(refine rsD [] [] rfl ?_;(repeat' first|exact y88 _|constructor))
def ngB (t:Tree):Bool:=t.fmB && (negT t).fmB
def ngT (t:Tree):Tree:=if ngB t=true then negT t else dftT
theorem ngT_sz (t:Tree):(ngT t).sz≤t.sz+1:=by
 unfold ngT
 split
 ·exact z1090 t
 ·simp [dftT,z484]
theorem z652 (t:Tree) (hm:t.mx):CallsA Tryz.prog 72 [z30 Tree.cs' t] [] (.tup [z30 Tree.cs' (ngT t),.bool (ngB t)]) []:=by
 have cv:=z132 t hm
 have hz:=z1090 t
 unfold ngT ngB
 by_cases h1:t.fmB=true
 ·have hs:=fm_sz h1
  have cn:=z836 t (y23 h1) (by omega)
  have cw:=z132 (negT t) (z106 _ (by unfold maxLen;omega))
  rw [h1,Bool.true_and]
  rw [h1] at cv
  generalize negT t=u at *
  by_cases h2:u.fmB=true
  ·rw [if_pos h2,h2]
   rw [h2] at cw
   rw [y15 t] at cv cn ⊢
   rw [y15 u] at cw cn ⊢
   refine z7 z17 Tryz.func72 rfl rfl 16 Tryz.ntmps72 (by simp) ?_
   repeat' ((first|(apply y4 ok;rfl)|(apply z6 (cv);rfl;rfl)|(apply z6 (cn);rfl;rfl)|(apply z6 (cw);rfl;rfl))<;>conv=>whnf)
   all_goals (refine rsD [] [] rfl ?_;(repeat' first|exact y88 _|constructor))
  ·rw [if_neg h2,(y74 _).mp h2]
   rw [(y74 _).mp h2] at cw
   rw [y15 t] at cv cn ⊢
   rw [y15 u] at cw cn
   refine z7 z17 Tryz.func72 rfl rfl 16 Tryz.ntmps72 (by simp) ?_
   repeat' ((first|(apply y4 ok;rfl)|(apply z6 (cv);rfl;rfl)|(apply z6 (cn);rfl;rfl)|(apply z6 (cw);rfl;rfl))<;>conv=>whnf)
   all_goals (refine rsD [] [] rfl ?_;(repeat' first|exact y88 _|exact z43|apply z52|apply z104|constructor))
 ·rw [(y74 _).mp h1,Bool.false_and,if_neg (by simp)]
  rw [(y74 _).mp h1] at cv
  rw [y15 t] at cv ⊢
  refine z7 z17 Tryz.func72 rfl rfl 16 Tryz.ntmps72 (by simp) ?_
  repeat' ((first|(apply y4 ok;rfl)|(apply z6 (cv);rfl;rfl))<;>conv=>whnf)
  all_goals (refine rsD [] [] rfl ?_;(repeat' first|exact y88 _|exact z43|apply z52|apply z104|constructor))
def fnL (N:Nat) (f:Nat→Int):List Int:=(List.range N).map f
theorem z113 (N:Nat) (f:Nat→Int):(fnL N f).length=N:=by simp [fnL]
theorem z170 {N u:Nat} (f:Nat→Int) (h:u < N):((fnL N f).map enI)[u]?=some (enI (f u)):=by
 unfold fnL
 rw [y53,y53,List.getElem?_range h];rfl
theorem fnL_set {N u:Nat} (f:Nat→Int) (x:Int):(fnL N f).set u x=fnL N (upd f u x):=by
 apply y77 (by simp [fnL])
 intro i h1 h2
 rw [List.getElem_set]
 simp only [fnL,List.getElem_map,List.getElem_range]
 split
 ·rename_i e;subst e;rw [z26]
 ·rename_i e;rw [z49 _ _ (fun h=>e h.symm)]
theorem z148 {N u:Nat} (f:Nat→Int) (x:Int):((fnL N f).map enI).set u (enI x)=(fnL N (upd f u x)).map enI:=by rw [← fnL_set,List.map_set]
def natL (l:List Nat):List Int:=l.map fun x:Nat=>(x:Int)
theorem z457 (l:List Nat):(natL l).length=l.length:=by simp [natL]
theorem natL_at {l:List Nat} {i:Nat} (h:i < l.length):((natL l).map enI)[i]?=some (enI (l[i]:Nat)):=by
 unfold natL
 rw [y53,y53,y47 h];rfl
theorem z502 {rows:List (List Int)} {u:Nat} (h:u < rows.length):(rows.map encL)[u]?=some (encL (rows.getD u [])):=by
 rw [y53,y47 h,z20 h];rfl
@[reducible] def visF:AC:=.fn (.func 280) [] [.ptr 0 none 0,.ptr 1 none 0,.ptr 3 none 0,.ptr 5 none 0,.ptr 6 none 0,.ptr 7 none 0,.ptr 8 none 0,.ptr 10 none 0]
@[reducible] def z1078 (rows:List (List Int)) (s:TS):List AObj:=[.cells 1 [[.int s.cnt]],.cells 1 [[.sref 2 0 rows.length]],.cells 1 ((fnL rows.length s.num).map enI),.cells 1 [[.sref 4 0 rows.length]],.cells 1 ((fnL rows.length s.low).map enI),.cells 1 [[.own 1 ((natL s.stk).map enI)]],.cells 1 [[lst 1 encL rows]],.cells 1 [[visF]],.cells 1 [[.sref 9 0 rows.length]],.cells 1 ((fnL rows.length s.part).map enI),.cells 1 [[.int s.prt]]]
set_option maxHeartbeats 12800000 in
theorem z938 (rows : List (List Int)) (hr : ∀ r ∈ rows, InN rows.length r) (hN : rows.length ≤ 100000) (hrl : ∀ r ∈ rows, r.length ≤ 1000000000) : ∀ (f : Nat) (s : TS) (g : List Nat) (u : Nat), unvN rows.length s.num ≤ f → TI rows s g → s.num u = 0 → u < rows.length → (∀ x ∈ g, RN rows x u) → s.prt ≤ s.cnt →
  CallsA Tryz.prog 280 [.int (u:Int),.ptr 0 none 0,.ptr 1 none 0,.ptr 3 none 0,.ptr 5 none 0,.ptr 6 none 0,.ptr 7 none 0,.ptr 8 none 0,.ptr 10 none 0] (z1078 rows s) (.tup []) (z1078 rows (z221 rows f u s)):=by
 intro f
 induction f with
 |zero =>
  intro s g u hf _ h0 hu _ _
  have:=z1031 (num:=s.num) hu h0
  omega
 |succ f ih =>
  intro s g u hf hI h0 hu hg hsp
  have hTL:=z1177 hr hf hI h0 hu hg
  have hc0:s.cnt≤100000:=by have:=hI.ct;omega
  have gr:=z502 hu
  have hrow:=z226 hr (u:Int)
  rw [y79] at hrow
  have hrowl:(rows.getD u []).length≤1000000000:=by rw [z20 hu];exact hrl _ (y46 _)
  have hte:z221 rows (f+1) u s=tEnd u ((rows.getD u []).foldl (z350 (z221 rows f) u) (z186 u s)):=rfl
  generalize hR:z221 rows (f+1) u s=R at *
  generalize hrw:rows.getD u []=row at *
  have e1:=z148 (N:=rows.length) (u:=u) s.num (s.cnt+1)
  have e2:=z148 (N:=rows.length) (u:=u) s.low (s.cnt+1)
  have g1:=z170 s.num hu
  have g2:=z170 s.low hu
  have l1:=z113 rows.length s.num
  have l2:=z113 rows.length s.low
  have hsl:s.stk.length≤100000:=by
   have:=z188 rows.length (natL s.stk) ?_ ?_
   ·rw [z457] at this;omega
   ·exact (hI.nd).map _ fun a b h=>by omega
   ·intro x hx
    obtain ⟨y,hy,rfl⟩:=List.mem_map.1 hx
    have:=hI.lt y ((hI.stk y).1 hy).1
    omega
  refine z7 z17 Tryz.func280 rfl rfl 105 Tryz.ntmps280 (by simp) ?_
  repeat' ((first|((fail_if_success apply z130 2);(fail_if_success apply z96 2);apply y4 ok;rfl)|(apply z32;kernel_rfl)|(refine z12 (i:=u) rfl g1 ?_)|(refine z12 (i:=u) rfl g2 ?_)|(apply y45;first|omega|(unfold inI;omega)))<;>conv=>whnf)
  refine y87 (Gl.Reach.expose 5 0 0 rfl rfl rfl (z158 (fun _=>rfl) _) rfl) ?_
  conv=>whnf
  repeat' ((first|((fail_if_success apply z130 3);(fail_if_success apply z96 3);apply y4 ok;rfl)|(refine y45 ?_ ?_;(focus (dsimp only;simp only [y51,z457];omega)))|(refine z12 (i:=u) rfl gr ?_)|(apply y45;first|omega|exact ⟨rfl,z22 rfl z29⟩))<;>conv=>whnf)
  refine y87 (Gl.Reach.absorb 5 13 0 0 rfl rfl rfl rfl (by simp) rfl (z53 (fun e he=>(z4 (fun _=>rfl)) e (List.mem_of_mem_take he)) (z194 rfl z33)) rfl) ?_
  conv=>whnf
  have e3:((natL s.stk).map enI).take ((natL s.stk).map enI).length++[enI (u:Int)]=(natL (s.stk++[u])).map enI:=by
   rw [y58];unfold natL;simp
  obtain ⟨T,hT⟩:∃ T:Nat→TS,T=fun k=>(row.take k).foldl (z350 (z221 rows f) u) (z186 u s):=⟨_,rfl⟩
  have hT0:T 0=z186 u s:=by rw [hT];rfl
  have hTs:∀ k (hk:k < row.length),T (k+1)=z350 (z221 rows f) u (T k) row[k]:=fun k hk=>by
   rw [hT]
   show (row.take (k+1)).foldl _ _=_
   rw [y52 hk,y65];rfl
  have hTn:R=tEnd u (T row.length):=by
   rw [hT,hte]
   show _=tEnd u ((row.take row.length).foldl _ _)
   rw [y58]
  have hTT:∀ k,k≤row.length→TL rows s (T k) g u (row.take k):=fun k hk=>by rw [hT];exact hTL k hk
  clear hT hTL hte hR
  have f1:(T 0).num=upd s.num u (s.cnt+1):=by rw [hT0];rfl
  have f2:(T 0).low=upd s.low u (s.cnt+1):=by rw [hT0];rfl
  have f3:(T 0).stk=s.stk++[u]:=by rw [hT0];rfl
  have f4:(T 0).cnt=s.cnt+1:=by rw [hT0];rfl
  have f5:(T 0).part=s.part:=by rw [hT0];rfl
  have f6:(T 0).prt=s.prt:=by rw [hT0];rfl
  refine z86 (fun k:Nat=>([(0,.int (u:Int)),(1,.ptr 0 none 0),(2,.ptr 1 none 0),(3,.ptr 3 none 0),(4,.ptr 5 none 0),(5,.ptr 6 none 0),(6,.ptr 7 none 0),(7,.ptr 8 none 0),(8,.ptr 10 none 0),(30,ints row),(31,.int row.length),(32,.int k)],[.cells 1 [[.int (T k).cnt]],.cells 1 [[.sref 2 0 rows.length]],.cells 1 ((fnL rows.length (T k).num).map enI),.cells 1 [[.sref 4 0 rows.length]],.cells 1 ((fnL rows.length (T k).low).map enI),.cells 1 [[.own 1 ((natL (T k).stk).map enI)]],.cells 1 [[lst 1 encL rows]],.cells 1 [[visF]],.cells 1 [[.sref 9 0 rows.length]],.cells 1 ((fnL rows.length (T k).part).map enI),.cells 1 [[.int (T k).prt]]])) (fun k=>k≤row.length) (fun k=>row.length - k) 0 (y55 _) (by refine swR [0,1,2,3,4,5,6,7,8,9,10] [] rfl rfl ?_;(repeat' first|exact y88 _|(refine z168 ?_;omega)|apply y89|refine z73 rfl (z4 (fun _=>rfl)) ?_|refine z14 rfl (z4 (fun _=>rfl)) ?_|constructor)<;>(first|(refine z61 ?_;rw [f1];exact e1)|(refine z61 ?_;rw [f2];exact e2)|(rw [f5];exact z16 _)|(rw [f3];refine y9 ?_;rw [← e3];rfl))) ?_
  clear f1 f2 f3 f4 f5 f6 hT0 e1 e2 e3 g1 g2 l1 l2
  intro k hk
  have hL:=hTT k hk
  have hLI:=hL.inv
  have hL2:=hL.num
  have gu1:=z170 (T k).num hu
  have gu2:=z170 (T k).low hu
  have l1:=z113 rows.length (T k).num
  have l2:=z113 rows.length (T k).low
  have l3:=z113 rows.length (T k).part
  by_cases hk2:k < row.length
  ·have hs2:=hTs k hk2
   have gk:(row.map enI)[k]?=some (enI row[k]):=by rw [y53,y47 hk2];rfl
   have hv:=hrow _ (y46 hk2)
   have hvm:row[k]∈rows.getD u []:=by rw [hrw];exact y46 hk2
   generalize row[k]=v at *
   obtain ⟨w,rfl⟩:∃ w:Nat,v=w:=⟨v.toNat,by omega⟩
   have hw:w < rows.length:=by omega
   have gw1:=z170 (T k).num hw
   have gw3:=z170 (T k).part hw
   unfold z350 at hs2
   simp only [y79] at hs2
   have hnx:k+1≤row.length:=hk2
   generalize hS:T k=S at *
   generalize hS2:T (k+1)=S2 at *
   by_cases hw0:S.num w=0
   ·rw [if_pos hw0] at hs2
    have cW:=ih S (u::g) w (by have h1:=hL.cnt;have h2:=hLI.ct;have h3:=hI.ct;omega) hLI hw0 hw (fun x hx=>by
     rcases List.mem_cons.1 hx with rfl|hx
     ·exact .edge hvm
     ·exact (hg x hx).trans (.edge hvm)) (by have:=hL.prt;omega)
    generalize z221 rows f w S=S1 at *
    have hu1:=z170 S1.low hu
    have hw1:=z170 S1.low hw
    have l4:=z113 rows.length S1.low
    have e1:=z148 (N:=rows.length) (u:=u) S1.low (min (S1.low u) (S1.low w))
    have q1:S2.low=upd S1.low u (min (S1.low u) (S1.low w)):=by rw [hs2];rfl
    have q2:S2.num=S1.num:=by rw [hs2];rfl
    have q3:S2.part=S1.part:=by rw [hs2];rfl
    have q4:S2.stk=S1.stk:=by rw [hs2];rfl
    have q5:S2.cnt=S1.cnt:=by rw [hs2];rfl
    have q6:S2.prt=S1.prt:=by rw [hs2];rfl
    repeat' ((first|((fail_if_success apply z130 8);(fail_if_success apply z96 8);apply y4 ok;rfl)|(apply z32;kernel_rfl)|(refine z12 (i:=k) rfl gk ?_)|(refine z12 (i:=w) rfl gw1 ?_)|(apply y45;omega)|(((apply z10;omega));intro _)|((apply z5)<;>intro _)|(apply z150 [0,1,2,3,4,5,6,7,8,9,10] [] cW;rfl;(focus ((repeat' first|exact z47|apply z59)<;>first|rfl|(refine z84 rfl ?_;((exact z4 fun _=>rfl)))));rfl;(focus ((repeat' first|exact z13|apply z11)<;>first|exact z44 rfl rfl|(refine z21 ?_;((exact z4 fun _=>rfl)))))))<;>conv=>whnf)
    all_goals try (exfalso;omega)
    repeat' ((first|(apply y4 ok;rfl)|(apply z32;kernel_rfl)|(refine z12 (i:=u) rfl hu1 ?_)|(refine z12 (i:=w) rfl hw1 ?_)|(apply y45;first|omega|(unfold inI;omega)))<;>conv=>whnf)
    all_goals refine z41 (k+1) hk2 (by omega) ?_
    all_goals dsimp only
    all_goals rw [hS2,q2,q3,q4,q5,q6,q1]
    all_goals exact (by refine swR [0,1,2,3,4,5,6,7,8,9,10] [] rfl rfl ?_;(repeat' first|exact y88 _|exact z16 _|apply y89|refine z73 rfl (z4 (fun _=>rfl)) ?_|refine z14 rfl (z4 (fun _=>rfl)) ?_|constructor)<;>((refine z61 ?_;exact e1)))
   ·rw [if_neg hw0] at hs2
    by_cases hp0:S.part w < 0
    ·rw [if_pos hp0] at hs2
     have e1:=z148 (N:=rows.length) (u:=u) S.low (min (S.low u) (S.num w))
     have q1:S2.low=upd S.low u (min (S.low u) (S.num w)):=by rw [hs2];rfl
     have q2:S2.num=S.num:=by rw [hs2];rfl
     have q3:S2.part=S.part:=by rw [hs2];rfl
     have q4:S2.stk=S.stk:=by rw [hs2];rfl
     have q5:S2.cnt=S.cnt:=by rw [hs2];rfl
     have q6:S2.prt=S.prt:=by rw [hs2];rfl
     repeat' ((first|(apply y4 ok;rfl)|(apply z32;kernel_rfl)|(refine z12 (i:=k) rfl gk ?_)|(refine z12 (i:=w) rfl gw1 ?_)|(refine z12 (i:=w) rfl gw3 ?_)|(refine z12 (i:=u) rfl gu2 ?_)|(apply y45;first|omega|(unfold inI;omega))|(((apply z10;omega));intro _)|((apply z5)<;>intro _))<;>conv=>whnf)
     all_goals try (exfalso;omega)
     all_goals refine z41 (k+1) hk2 (by omega) ?_
     all_goals dsimp only
     all_goals rw [hS2,q2,q3,q4,q5,q6,q1]
     all_goals exact (by refine swR [0,1,2,3,4,5,6,7,8,9,10] [] rfl rfl ?_;(repeat' first|exact y88 _|exact z16 _|apply y89|refine z73 rfl (z4 (fun _=>rfl)) ?_|refine z14 rfl (z4 (fun _=>rfl)) ?_|constructor)<;>((refine z61 ?_;exact e1)))
    ·rw [if_neg hp0] at hs2
     repeat' ((first|(apply y4 ok;rfl)|(apply z32;kernel_rfl)|(refine z12 (i:=k) rfl gk ?_)|(refine z12 (i:=w) rfl gw1 ?_)|(refine z12 (i:=w) rfl gw3 ?_)|(apply y45;first|omega|(unfold inI;omega))|(((apply z10;omega));intro _)|((apply z5)<;>intro _))<;>conv=>whnf)
     all_goals try (exfalso;omega)
     all_goals refine z41 (k+1) hk2 (by omega) ?_
     all_goals dsimp only
     all_goals rw [hS2,hs2]
     all_goals exact (by refine swR [0,1,2,3,4,5,6,7,8,9,10] [] rfl rfl ?_;(repeat' first|exact y88 _|exact z16 _|apply y89|refine z14 rfl (z4 (fun _=>rfl)) ?_|constructor))
  ·obtain rfl:k=row.length:=by omega
   have hpf:=hL.pref
   have hsu:u ∉ s.stk:=fun hm=>((hI.stk u).1 hm).1 h0
   have hnd:=hLI.nd
   have hpp:(T row.length).prt≤100001:=by have h1:=hL.prt;have h2:=hLI.ct;have h3:=hI.ct;have h4:=hL.cnt;omega
   generalize hS:T row.length=S at *
   unfold tEnd at hTn
   by_cases he:S.low u=S.num u
   ·rw [if_pos he] at hTn
    obtain ⟨B,hB⟩:=hpf
    have hcut:=z890 (A:=s.stk) (B:=B) hsu
    have hLl:S.stk.length=s.stk.length+1+B.length:=by rw [hB];simp;omega
    have hLs:S.stk.length≤100000:=by
     have:=z188 rows.length (natL S.stk) ?_ ?_
     ·rw [z457] at this;omega
     ·exact hnd.map _ fun a b h=>by omega
     ·intro x hx
      obtain ⟨y,hy,rfl⟩:=List.mem_map.1 hx
      have:=hLI.lt y ((hLI.stk y).1 hy).1
      omega
    have r1:R.stk=S.stk.take s.stk.length:=by
     rw [hTn];show S.stk.takeWhile _=_
     rw [hB,hcut.1];simp
    have r2:R.part=fun x=>if x∈S.stk.drop s.stk.length then (S.prt:Int) else S.part x:=by
     rw [hTn];show (fun x=>if x∈S.stk.dropWhile _ then _ else _)=_
     rw [hB,hcut.2];simp
    have r3:R.num=S.num:=by rw [hTn];rfl
    have r4:R.low=S.low:=by rw [hTn];rfl
    have r5:R.cnt=S.cnt:=by rw [hTn];rfl
    have r6:R.prt=S.prt+1:=by rw [hTn];rfl
    have hat:∀ j (hj:j < S.stk.length),(S.stk[j]=u↔j=s.stk.length):=by
     intro j hj
     have hu2:S.stk[s.stk.length]'(by omega)=u:=by simp [hB]
     constructor
     ·intro e
      have hne:=List.pairwise_iff_getElem.1 (List.nodup_iff_pairwise_ne.1 hnd)
      rcases Nat.lt_trichotomy j s.stk.length with h|h|h
      ·exact absurd (e.trans hu2.symm) (hne j s.stk.length hj (by omega) h)
      ·exact h
      ·exact absurd (hu2.trans e.symm) (hne s.stk.length j (by omega) hj h)
     ·rintro rfl;exact hu2
    have hlt:∀ j (hj:j < S.stk.length),S.stk[j] < rows.length:=fun j hj=>hLI.lt _ ((hLI.stk _).1 (y46 hj)).1
    have sl:=z457 S.stk
    repeat' ((first|((fail_if_success apply z130 14);(fail_if_success apply z96 14);apply y4 ok;rfl)|(apply z32;kernel_rfl)|(refine z12 (i:=u) rfl gu1 ?_)|(refine z12 (i:=u) rfl gu2 ?_)|(apply y45;omega)|((first|(with_reducible apply z10;omega)|(apply z10;omega));intro _)|((apply z5)<;>intro _))<;>conv=>whnf)
    all_goals try (exfalso;omega)
    refine y87 (Gl.Reach.expose 5 0 0 rfl rfl rfl (z158 (fun _=>rfl) _) rfl) ?_
    obtain ⟨pm,hpm⟩:∃ pm:Nat→Nat→Int,pm=fun m x=>if x∈S.stk.drop m then (S.prt:Int) else S.part x:=⟨_,rfl⟩
    have hpm0:pm S.stk.length=S.part:=by rw [hpm];funext x;simp
    have hpmE:pm s.stk.length=R.part:=by rw [hpm,r2]
    have hpmS:∀ m (hm:m < S.stk.length),pm m=upd (pm (m+1)) S.stk[m] S.prt:=by
     intro m hm
     funext x
     by_cases hx:x=S.stk[m]
     ·rw [hx,z26,hpm]
      dsimp only
      rw [if_pos]
      rw [y82 hm]
      exact List.mem_cons_self
     ·rw [z49 _ _ hx,hpm]
      dsimp only
      rw [y82 hm]
      simp only [List.mem_cons,hx,false_or]
    clear hpm
    refine z86 (fun m:Nat=>([(0,.int (u:Int)),(1,.ptr 0 none 0),(2,.ptr 1 none 0),(3,.ptr 3 none 0),(4,.ptr 5 none 0),(5,.ptr 6 none 0),(6,.ptr 7 none 0),(7,.ptr 8 none 0),(8,.ptr 10 none 0),(12,.int ((natL S.stk).getD m (-1)))],[.cells 1 [[.int S.cnt]],.cells 1 [[.sref 2 0 rows.length]],.cells 1 ((fnL rows.length S.num).map enI),.cells 1 [[.sref 4 0 rows.length]],.cells 1 ((fnL rows.length S.low).map enI),.cells 1 [[.sref 11 0 m]],.cells 1 [[lst 1 encL rows]],.cells 1 [[visF]],.cells 1 [[.sref 9 0 rows.length]],.cells 1 ((fnL rows.length (pm m)).map enI),.cells 1 [[.int S.prt]],.cells 1 ((natL S.stk).map enI)])) (fun m=>s.stk.length≤m∧m≤S.stk.length) (fun m=>m) S.stk.length ⟨by omega,y54 _⟩ (by refine swR [0,1,2,3,4,5,6,7,8,9,10,11] [] rfl rfl ?_;(repeat' first|exact y88 _|exact z16 _|(refine z67 ?_;((simp;omega)))|apply y89|refine z14 rfl (z4 (fun _=>rfl)) ?_|constructor)<;>(first|(rw [hpm0];exact z16 _)|(refine z168 ?_;simp [natL]))) ?_
    rintro m ⟨hm1,hm2⟩
    by_cases hm:m=s.stk.length
    ·subst hm
     have htop:(natL S.stk).getD s.stk.length (-1)=(u:Int):=by
      rw [z20 (by rw [sl];omega)]
      unfold natL
      rw [List.getElem_map,(hat _ (by omega)).2 rfl]
     rw [htop]
     repeat' ((first|((fail_if_success apply z130 18);(fail_if_success apply z96 18);apply y4 ok;rfl)|(apply y45;omega)|(((apply z10;omega));intro _)|((apply z45)<;>intro _))<;>conv=>whnf)
     all_goals try (exfalso;omega)
     refine y87 (Gl.Reach.trunc 11 s.stk.length rfl rfl) ?_
     refine y87 (Gl.Reach.absorb 5 11 0 0 rfl rfl rfl rfl (by simp [natL];omega) rfl (fun e he=>(z4 (fun _=>rfl)) e (List.mem_of_mem_take he)) rfl) ?_
     conv=>whnf
     repeat' ((first|(apply y4 ok;rfl)|(apply y45;(unfold inI;omega)))<;>conv=>whnf)
     have eR:z1078 rows R=[.cells 1 [[.int S.cnt]],.cells 1 [[.sref 2 0 rows.length]],.cells 1 ((fnL rows.length S.num).map enI),.cells 1 [[.sref 4 0 rows.length]],.cells 1 ((fnL rows.length S.low).map enI),.cells 1 [[.own 1 (((natL S.stk).map enI).take s.stk.length)]],.cells 1 [[lst 1 encL rows]],.cells 1 [[visF]],.cells 1 [[.sref 9 0 rows.length]],.cells 1 ((fnL rows.length (pm s.stk.length)).map enI),.cells 1 [[.int ((S.prt+1:Nat):Int)]]]:=by
      unfold z1078
      rw [r1,r3,r4,r5,r6,hpmE]
      simp [natL,List.map_take]
     rw [eR]
     (refine rsD [0,1,2,3,4,5,6,7,8,9,10] [] rfl ?_;(repeat' first|exact y88 _|exact z16 _|apply y89|refine z14 rfl (z4 (fun _=>rfl)) ?_|constructor))
    ·obtain ⟨m,rfl⟩:∃ m',m=m'+1:=⟨m - 1,by omega⟩
     have hmL:m < S.stk.length:=by omega
     have htop:(natL S.stk).getD (m+1) (-1)≠(u:Int):=by
      by_cases h:m+1 < S.stk.length
      ·rw [z20 (by rw [sl];exact h)]
       unfold natL
       rw [List.getElem_map]
       have:=(hat (m+1) h)
       omega
      ·rw [y70,y71 (by rw [sl];omega)]
       show (-1:Int)≠u
       omega
     have hnx:(natL S.stk).getD m (-1)=((S.stk[m]:Nat):Int):=by
      rw [z20 (by rw [sl];exact hmL)]
      unfold natL
      rw [List.getElem_map]
     have gst:=natL_at hmL
     have hwN:=hlt m hmL
     have hps:=hpmS m hmL
     generalize S.stk[m]=w at *
     have gw:=z170 (pm (m+1)) hwN
     have e1:=z148 (N:=rows.length) (u:=w) (pm (m+1)) S.prt
     rw [← hps] at e1
     generalize (natL S.stk).getD (m+1) (-1)=tp at *
     repeat' ((first|(apply y4 ok;rfl)|(refine z12 (i:=m) ?_ gst ?_;(focus (omega)))|(refine z12 (i:=w) rfl gw ?_)|(apply y45;first|omega|(unfold inI;omega))|((apply z45)<;>intro _))<;>conv=>whnf)
     all_goals try (exfalso;omega)
     all_goals refine z41 m ⟨by omega,by omega⟩ (by omega) ?_
     all_goals dsimp only
     all_goals rw [hnx]
     all_goals exact (by refine swR [0,1,2,3,4,5,6,7,8,9,10,11] [] rfl rfl ?_;(repeat' first|exact y88 _|exact z16 _|(refine z67 ?_;(omega))|apply y89|refine z73 rfl (z4 (fun _=>rfl)) ?_|refine z14 rfl (z4 (fun _=>rfl)) ?_|constructor)<;>((refine z61 ?_;exact e1)))
   ·rw [if_neg he] at hTn
    subst hTn
    repeat' ((first|(apply y4 ok;rfl)|(apply z32;kernel_rfl)|(refine z12 (i:=u) rfl gu1 ?_)|(refine z12 (i:=u) rfl gu2 ?_)|(apply y45;omega)|((first|(with_reducible apply z10;omega)|(apply z10;omega));intro _)|((apply z5)<;>intro _))<;>conv=>whnf)
    all_goals try (exfalso;omega)
    all_goals (refine rsD [0,1,2,3,4,5,6,7,8,9,10] [] rfl ?_;(repeat' first|exact y88 _|exact z16 _|apply y89|refine z14 rfl (z4 (fun _=>rfl)) ?_|constructor))
@[reducible] def subF:AC:=.fn (.func 298) [] [.ptr 0 none 0,.ptr 1 none 0]
@[reducible] def objsS (o:List Tree):List AObj:=[.cells 1 [[subF]],.cells 1 [[.own 3 (o.map Tree.cs')]]]
set_option maxHeartbeats 6400000 in
theorem z803 (t:Tree):t.sz≤1000→∀ (o:List Tree),o.length+t.sz≤2000→(∀ x∈o,x.sz≤1000)→CallsA Tryz.prog 298 [z30 Tree.cs' t,.ptr 0 none 0,.ptr 1 none 0] (objsS o) (.tup []) (objsS (t.subs o)):=by
 induction t using y26 with|h t ih=>?_
 intro hs o ho hm
 have hsz:=y38 t
 have hkid:∀ k (h:k < t.kids.length),t.kids[k].sz≤1000:=fun k h=>by have:=z370 Tree.sz (y46 h);omega
 have hpre:∀ k,k≤t.kids.length→(Tree.subss (t.kids.take k) o).length≤o.length+((t.kids.take k).map fun u=>u.sz+1).sum∧∀ x∈Tree.subss (t.kids.take k) o,x.sz≤1000:=by
  intro k
  induction k with
  |zero=>intro _;exact ⟨by simp [Tree.subss],hm⟩
  |succ k ihk =>
   intro hk
   obtain ⟨a1,a2⟩:=ihk (by omega)
   obtain ⟨_,_,_,b4,b5,_⟩:=z299 t.kids[k] (Tree.subss (t.kids.take k) o)
   rw [y37 (by omega)]
   refine ⟨?_,fun x hx=>?_⟩
   ·rw [y52 (by omega),y66,List.sum_append]
    simp only [List.map_cons,List.map_nil,List.sum_cons,List.sum_nil]
    omega
   ·rcases b5 x hx with h|h
    ·exact a2 x h
    ·have:=hkid k (by omega);omega
 have hsum:∀ k,k≤t.kids.length→((t.kids.take k).map fun u=>u.sz+1).sum≤t.sz:=fun k hk=>by
  have h1:∀ l:List Tree,(l.map fun u=>u.sz+1).sum=l.length+(l.map Tree.sz).sum:=by
   intro l
   induction l with
   |nil=>rfl
   |cons a l ih=>simp only [List.map_cons,List.sum_cons,y60,ih];omega
  have h2:=z800 Tree.sz t.kids k
  rw [h1,y50];omega
 rw [y35]
 have hl5:t.kids.length≤1000:=by omega
 have hfs:(∀ x∈Tree.subss t.kids o,x.sz≤1000):=by have:=(hpre t.kids.length (y54 _)).2;rwa [y58] at this
 have hfl:(Tree.subss t.kids o).length≤2000:=by have h1:=(hpre t.kids.length (y54 _)).1;have h2:=hsum t.kids.length (y54 _);rw [y58] at h1 h2;omega
 have cF:=z287 (Tree.subss t.kids o) (by omega) (fun x hx=>z106 x (by have:=hfs x hx;unfold maxLen;omega)) t (z106 t (by unfold maxLen;omega))
 have cC:=z665 t (by omega)
 have hidx:=z205 (fun x=>decide (x=t)) (Tree.subss t.kids o)
 have et:=y15 t
 rw [et]
 refine z7 z17 Tryz.func298 rfl rfl 28 Tryz.ntmps298 (by simp) ?_
 repeat' (((apply y4 ok;rfl))<;>conv=>whnf)
 refine z86 (fun x:Nat×List Tree=>([(1,.ptr 0 none 0),(2,.ptr 1 none 0),(3,.ptr 2 none 0),(7,lst 3 Tree.cs' t.kids),(8,.int t.kids.length),(9,.int x.1)],[.cells 1 [[subF]],.cells 1 [[.own 3 (x.2.map Tree.cs')]],.cells 3 [[.int t.kind,.int t.val,lst 3 Tree.cs' t.kids]]])) (fun x=>x.1≤t.kids.length∧Tree.subss (t.kids.take x.1) o=x.2) (fun x=>t.kids.length - x.1) (0,o) ⟨y55 _,by simp [Tree.subss]⟩ (by refine swR [0,1,2] [] rfl rfl ?_;(repeat' first|exact y88 _|apply y89|constructor)) ?_
 rintro ⟨i,q⟩ ⟨hi,hq⟩
 dsimp only at hi hq ⊢
 obtain ⟨p1,p2⟩:=hpre i hi
 have p3:=hsum i hi
 rw [hq] at p1 p2
 have hql:q.length≤2000:=by omega
 by_cases hil:i < t.kids.length
 ·have ci:=ih t.kids[i] (y46 _) (hkid i hil) q (by
   have h1:=hsum (i+1) (by omega)
   rw [y52 hil,y66,List.sum_append] at h1
   simp only [List.map_cons,List.map_nil,List.sum_cons,List.sum_nil] at h1
   omega) p2
  have ht:=y37 hil o
  rw [hq] at ht
  have gk:(t.kids.map Tree.cs')[i]?=some (Tree.cs' t.kids[i]):=by rw [y53,y47 hil];rfl
  clear ih cF hidx
  generalize t.kids[i]=u at *
  generalize u.subs q=q' at *
  repeat' ((first|(apply y4 ok;rfl)|(refine z12 (i:=i) rfl gk ?_)|(apply y45;first|omega|(unfold inI;omega))|((apply z5)<;>intro _)|(apply z34 [0,1] [] ci;rfl;rfl;rfl))<;>conv=>whnf)
  all_goals try (exfalso;omega)
  all_goals refine z41 (i+1,q') ⟨by show i+1≤_;omega,ht⟩ (by show t.kids.length - (i+1) < t.kids.length - i;omega) (by refine swR [0,1,2] [] rfl rfl ?_;(repeat' first|exact y88 _|apply y89|constructor))
 ·obtain rfl:i=t.kids.length:=by omega
  rw [y58] at hq
  rw [hq] at cF hidx ⊢
  unfold addT
  refine y87 (Gl.Reach.expose 1 0 0 rfl rfl rfl (z158 (fun _=>rfl) _) rfl) ?_
  refine y87 (show Gl.Reach _ _ (mkSt _ [(1,.ptr 0 none 0),(2,.ptr 1 none 0),(3,.ptr 2 none 0),(7,lst 3 Tree.cs' t.kids),(8,.int t.kids.length),(9,.int t.kids.length)] [.cells 1 [[subF]],.cells 1 [[.sref 3 0 q.length]],.cells 3 [[.int t.kind,.int t.val,lst 3 Tree.cs' t.kids]],.cells 3 (q.map Tree.cs')]) from (by refine swR [0,1,2,3] [] rfl rfl ?_;(repeat' first|exact y88 _|exact z16 _|(refine z67 ?_;((simp;done)))|apply y89|refine z14 rfl (z4 (fun _=>rfl)) ?_|constructor))) ?_
  by_cases hin:t∈q
  ·rw [if_pos hin]
   have hx:0≤idxF (fun x=>decide (x=t)) q:=by
    rw [List.any_eq_true.2 ⟨t,hin,by simp⟩] at hidx
    exact of_decide_eq_true hidx
   generalize idxF (fun x=>decide (x=t)) q=z at *
   rw [et] at cF
   repeat' ((first|(apply y4 ok;rfl)|(apply y45;omega)|(((with_reducible apply z10;omega));intro _)|((apply z5)<;>intro _)|(apply z95 [] [3] [] cF;(focus (exact z51 (z209 rfl rfl rfl (by simp) (z42 (fun _=>rfl) _)) (z51 rfl z88)));rfl;rfl;(focus ((repeat' exact z13)<;>fail));((refine .inr ⟨rfl,?_⟩;repeat' exact True.intro))))<;>conv=>whnf)
   all_goals try (exfalso;omega)
   all_goals
    refine Gl.RetS.absorb 1 3 0 0 rfl rfl rfl rfl (by simp) rfl (z4 (fun _=>rfl)) ?_
    conv=>whnf
    (refine rsD [0,1] [] rfl ?_;(repeat' first|exact y88 _|apply y89|constructor))
  ·rw [if_neg hin]
   have hx:¬ 0≤idxF (fun x=>decide (x=t)) q:=fun h=>by
    rw [y84 h] at hidx
    obtain ⟨x,h1,h2⟩:=List.any_eq_true.1 hidx.symm
    rw [of_decide_eq_true h2] at h1
    exact hin h1
   generalize idxF (fun x=>decide (x=t)) q=z at *
   rw [et] at cF cC
   have gz:(List.take q.length (List.map Tree.cs' q)++[[AC.raw (Value.int IntKind.i64 0),AC.raw (Value.int IntKind.i64 0),AC.raw (Value.slice none 0 0)]])[q.length]?=some [AC.raw (Value.int IntKind.i64 0),AC.raw (Value.int IntKind.i64 0),AC.raw (Value.slice none 0 0)]:=by
    rw [y59 (by simp),y69 (by simp)];simp
   have e2:((List.take q.length (List.map Tree.cs' q)++[[AC.raw (Value.int IntKind.i64 0),AC.raw (Value.int IntKind.i64 0),AC.raw (Value.slice none 0 0)]]).set q.length (Tree.cs' t))=(q++[t]).map Tree.cs':=by
    rw [y59 (by simp),List.set_append_right _ _ (by simp)];simp
   have ec:Tree.cs' t=[.int t.kind,.int t.val,lst 3 Tree.cs' t.kids]:=AC.agg.inj et
   rw [ec] at e2
   repeat' ((first|(apply y4 ok;rfl)|(apply z32;kernel_rfl)|(refine z12 (i:=q.length) rfl gz ?_)|(apply y45;first|omega|((try dsimp only);simp only [y51,y50,y49,y48,y60,y61];omega)|exact ⟨rfl,z22 rfl z29⟩)|(((with_reducible apply z10;omega));intro _)|((apply z5)<;>intro _)|(apply z6 (cC);rfl;rfl)|(apply z95 [] [3] [] cF;(focus (exact z51 (z209 rfl rfl rfl (by simp) (z42 (fun _=>rfl) _)) (z51 rfl z88)));rfl;rfl;(focus ((repeat' exact z13)<;>fail));((refine .inr ⟨rfl,?_⟩;repeat' exact True.intro))))<;>conv=>whnf)
   all_goals try (exfalso;omega)
   all_goals
    refine Gl.RetS.absorb 1 5 0 0 rfl rfl rfl rfl (by simp) rfl (z256 (by simp) (fun e he=>(z4 (fun _=>rfl)) e (List.mem_of_mem_take he)) rfl) ?_
    conv=>whnf
    (refine rsD [0,1] [] rfl ?_;(repeat' first|exact y88 _|apply y89|constructor))
    all_goals exact y9 (congrArg (AC.own 3) e2)
theorem z802 (t:Tree) (hs:t.sz≤1000):CallsA Tryz.prog 267 [z30 Tree.cs' t] [] (.sref 0 0 (t.subs []).length) [.cells 3 ((t.subs []).map Tree.cs')]:=by
 have cV:=z803 t hs [] (by simp;omega) (fun x hx=>by cases hx)
 have hl:=(z299 t []).2.2.2.1
 simp only [y61,Nat.zero_add] at hl
 generalize t.subs []=L at *
 have cC:=z528 L (by omega)
 rw [y15 t] at *
 refine z7 z17 Tryz.func267 rfl rfl 11 Tryz.ntmps267 (by simp) ?_
 repeat' ((((fail_if_success apply z130 4);(fail_if_success apply z96 4);apply y4 ok;rfl))<;>conv=>whnf)
 refine y87 (show Gl.Reach _ _ (mkSt _ [(1,.ptr 0 none 0),(3,.ptr 1 none 0),(4,.ptr 2 none 0)] [.cells 3 [[.int t.kind,.int t.val,lst 3 Tree.cs' t.kids]],.cells 1 [[.own 3 []]],.cells 1 [[.fn (.func 298) [] [.ptr 2 none 0,.ptr 1 none 0]]]]) from (by refine swR [0,1,2] [] rfl rfl ?_;(repeat' first|exact y88 _|apply y89|constructor)<;>(exact z304))) ?_
 repeat' ((first|((fail_if_success apply z130 5);(fail_if_success apply z96 5);apply y4 ok;rfl)|(apply z34 [2,1] [] cV;rfl;rfl;rfl))<;>conv=>whnf)
 refine y87 (Gl.Reach.expose 1 0 0 rfl rfl rfl (z158 (fun _=>rfl) _) rfl) ?_
 refine y87 (show Gl.Reach _ _ (mkSt _ [(3,.ptr 1 none 0)] [.cells 3 [[.int t.kind,.int t.val,lst 3 Tree.cs' t.kids]],.cells 1 [[.sref 2 0 L.length]],.cells 3 (L.map Tree.cs')]) from (by refine swR [0,1,3] [] rfl rfl ?_;(repeat' first|exact y88 _|exact z16 _|(refine z67 ?_;((simp;done)))|apply y89|refine z14 rfl (z4 (fun _=>rfl)) ?_|constructor))) ?_
 repeat' ((first|(apply y4 ok;rfl)|(apply z150 [2] [] cC;rfl;(focus ((repeat' first|exact z47|apply z59)<;>(refine z84 rfl ?_;((exact z4 fun _=>rfl)))));rfl;(focus ((repeat' first|exact z13|apply z11)<;>(refine z21 ?_;((exact z4 fun _=>rfl)))))))<;>conv=>whnf)
 all_goals (refine rsD [2] [] rfl ?_;(repeat' first|exact y88 _|exact z16 _|refine z14 rfl (z4 (fun _=>rfl)) ?_|constructor))
structure BasL (B:List Tree):Prop where
 len:B.length≤5
 nd:B.Nodup
 sz:∀ x∈B,x.sz≤1000
 cl:∀ x∈B,In (·∈B) x
 bk:∀ x∈B,z91 x=true
 av:∀ v,Tree.mk 2 v []∈B→0≤v∧v≤2
theorem BasL.mx {B:List Tree} (h:BasL B):∀ x∈B,x.mx:=fun x hx=>z106 x (by have:=h.sz x hx;unfold maxLen;omega)
set_option maxHeartbeats 3200000 in
theorem z560 (u:Tree) (hs:u.sz≤1000):CallsA Tryz.prog 228 [z30 Tree.cs' u] [] (.sref 0 0 (bscL u).length) [.cells 3 ((bscL u).map Tree.cs')]:=by
 have cS:=z802 u hs
 obtain ⟨_,_,_,hl,hz2,_⟩:=z299 u []
 simp only [y61,Nat.zero_add] at hl
 unfold bscL
 generalize u.subs []=L at *
 rw [y15 u] at *
 refine z7 z17 Tryz.func228 rfl rfl 38 Tryz.ntmps228 (by simp) ?_
 repeat' ((first|(apply y4 ok;rfl)|(apply z8 [] [1] cS;rfl;rfl;rfl;(focus ((repeat' first|exact z13|apply z11)<;>(refine z21 ?_;((exact z4 fun _=>rfl)))))))<;>conv=>whnf)
 refine y87 (y90 3 rfl) ?_
 refine z86 (fun x:Nat×List Tree=>([(3,.sref 0 0 x.2.length),(7,.sref 1 0 L.length),(8,.int L.length),(9,.int x.1)],[.cells 3 (x.2.map Tree.cs'),.cells 3 (L.map Tree.cs')])) (fun x=>x.1≤L.length∧(L.take x.1).filter z91=x.2) (fun x=>L.length - x.1) (0,[]) ⟨y55 _,rfl⟩ (by refine swR [2,1] [] rfl rfl ?_;(repeat' first|exact y88 _|exact z46|exact z16 _|((refine z14 rfl ?_ ?_);(focus ((repeat' (first|exact z33|exact z4 (fun _=>rfl)));done)))|constructor)) ?_
 rintro ⟨k,O⟩ ⟨hk,hO⟩
 dsimp only at hk hO ⊢
 have hOl:O.length≤L.length:=by
  rw [← hO]
  have:=List.length_filter_le z91 (L.take k)
  rw [y50] at this
  omega
 by_cases hkl:k < L.length
 ·have gk:(L.map Tree.cs')[k]?=some (Tree.cs' L[k]):=by rw [y53,y47 hkl];rfl
  have ht:(L.take (k+1)).filter z91=O++(if z91 L[k]=true then [L[k]] else []):=by
   rw [y52 hkl,List.filter_append,hO]
   congr 1
   by_cases hb:z91 L[k]=true
   ·rw [if_pos hb,List.filter_cons_of_pos hb];rfl
   ·rw [if_neg hb,List.filter_cons_of_neg hb];rfl
  generalize L[k]=y at *
  by_cases hy:z91 y=true
  ·rw [if_pos hy] at ht
   have hy:=of_decide_eq_true (show decide _=true from hy)
   repeat' ((first|(apply y4 ok;rfl)|(refine z12 (i:=k) rfl gk ?_)|(apply y45;first|omega|(unfold inI;omega)|((try dsimp only);simp only [y51,y50,y49,y48,y60,y61];omega)|exact ⟨rfl,z22 rfl z29⟩)|((apply z5)<;>intro _))<;>conv=>whnf)
   all_goals try (exfalso;omega)
   all_goals refine z41 (k+1,O++[y]) ⟨by show k+1≤_;omega,ht⟩ (by show L.length - (k+1) < L.length - k;omega) (by refine swR [4,1] [] rfl rfl ?_;(repeat' first|exact y88 _|exact z16 _|(refine z67 ?_;((simp;done)))|((first|refine z40 rfl ?_ ?_|refine z14 rfl ?_ ?_);(focus ((repeat' (first|exact z4 (fun _=>rfl)|apply z27));done)))|(refine z97 ?_ ?_;(focus (omega)))|constructor))
  ·rw [if_neg hy,y67] at ht
   have hy:=of_decide_eq_false (show decide _=false from (y74 _).mp hy)
   repeat' ((first|(apply y4 ok;rfl)|(refine z12 (i:=k) rfl gk ?_)|(apply y45;first|omega|(unfold inI;omega))|((apply z5)<;>intro _))<;>conv=>whnf)
   all_goals try (exfalso;omega)
   all_goals refine z41 (k+1,O) ⟨by show k+1≤_;omega,ht⟩ (by show L.length - (k+1) < L.length - k;omega) (by refine swR [0,1] [] rfl rfl ?_;(repeat' first|exact y88 _|exact z16 _|refine z14 rfl (z4 (fun _=>rfl)) ?_|constructor))
 ·obtain rfl:k=L.length:=by omega
  rw [y58] at hO
  rw [hO]
  have cC:=z528 O (by omega)
  repeat' ((first|(apply y4 ok;rfl)|(apply y45;omega)|(((apply z10;omega));intro _)|((apply z5)<;>intro _)|(apply z150 [0] [] cC;rfl;(focus ((repeat' first|exact z47|apply z59)<;>(refine z84 rfl ?_;((exact z4 fun _=>rfl)))));rfl;(focus ((repeat' first|exact z13|apply z11)<;>(refine z21 ?_;((exact z4 fun _=>rfl)))))))<;>conv=>whnf)
  all_goals try (exfalso;omega)
  all_goals (refine rsD [0] [] rfl ?_;(repeat' first|exact y88 _|exact z16 _|refine z14 rfl (z4 (fun _=>rfl)) ?_|constructor))
theorem z655 (t:Tree) (hs:t.sz≤200):CallsA Tryz.prog 145 [z30 Tree.cs' t] [] (.tup [lst 3 Tree.cs' (if bscB t then bscL (t.nrm false) else []),.bool (bscB t)]) []:=by
 have cn:=z1114 t (by omega)
 unfold bscB
 by_cases h:t.fmB=true∧(t.nrm false).fmB=true
 ·rw [if_pos h,y84 h] at cn
  have hz:=y28 t (y23 h.1) false
  have hd:decide ((t.fmB=true∧(t.nrm false).fmB=true)∧(bscL (t.nrm false)).length≤5)=decide ((bscL (t.nrm false)).length≤5):=by
   rw [decide_eq_decide];exact ⟨fun h=>h.2,fun h2=>⟨h,h2⟩⟩
  rw [hd]
  clear hd h
  generalize t.nrm false=u at *
  have cB:=z560 u (by omega)
  generalize bscL u=O at *
  rw [y15 u] at cn cB
  by_cases h5:O.length≤5
  ·rw [y84 h5,if_pos rfl]
   refine z7 z17 Tryz.func145 rfl rfl 20 Tryz.ntmps145 (by simp) ?_
   repeat' ((first|(apply y4 ok;rfl)|((apply z5)<;>intro _)|(apply z6 (cn);rfl;rfl)|(apply z8 [] [2] cB;rfl;rfl;rfl;(focus ((repeat' first|exact z13|apply z11)<;>(refine z21 ?_;((exact z4 fun _=>rfl)))))))<;>conv=>whnf)
   all_goals try (exfalso;omega)
   all_goals (refine rsD [] [2] rfl ?_;(repeat' first|exact y88 _|((apply z54 rfl rfl rfl);(focus ((repeat ((exact z42 (fun _=>rfl) _)));done));(focus (((simp;done));done)))|apply z104|constructor))
  ·rw [y85 h5,if_neg (by simp)]
   refine z7 z17 Tryz.func145 rfl rfl 20 Tryz.ntmps145 (by simp) ?_
   repeat' ((first|(apply y4 ok;rfl)|((apply z5)<;>intro _)|(apply z6 (cn);rfl;rfl)|(apply z8 [] [2] cB;rfl;rfl;rfl;(focus ((repeat' first|exact z13|apply z11)<;>(refine z21 ?_;((exact z4 fun _=>rfl)))))))<;>conv=>whnf)
   all_goals try (exfalso;omega)
   all_goals (refine rsD [] [] rfl ?_;(repeat' first|exact y88 _|exact z43|apply z104|constructor))
 ·rw [if_neg h,y85 h] at cn
  have hd:decide ((t.fmB=true∧(t.nrm false).fmB=true)∧(bscL (t.nrm false)).length≤5)=false:=y85 fun h2=>h h2.1
  rw [hd,if_neg (by simp)]
  refine z7 z17 Tryz.func145 rfl rfl 20 Tryz.ntmps145 (by simp) ?_
  repeat' ((first|(apply y4 ok;rfl)|(apply z6 (cn);rfl;rfl))<;>conv=>whnf)
  all_goals (refine rsD [] [] rfl ?_;(repeat' first|exact y88 _|exact z43|apply z104|constructor))
theorem csU (k v:Int) (a:Tree):Tree.cs' (.mk k v [a])=[.int k,.int v,.list 3 1 [Tree.cs' a]]:=AC.agg.inj (argU k v a)
theorem csB2 (k v:Int) (a b:Tree):Tree.cs' (.mk k v [a,b])=[.int k,.int v,.list 3 2 [Tree.cs' a,Tree.cs' b]]:=AC.agg.inj (argB k v a b)
inductive FormB (B:List Tree):Tree→Prop
 |at (v:Int):FormB B (.mk 2 v [])
 |nx (a:Tree) (ha:In (·∈B) a) (sa:a.sz≤1000):FormB B (.mk 6 0 [a])
 |un (a b:Tree) (ha:In (·∈B) a) (hb:In (·∈B) b) (sa:a.sz≤1000) (sb:b.sz≤1000):FormB B (.mk 7 0 [a,b])
 |re (a b:Tree) (ha:In (·∈B) a) (hb:In (·∈B) b) (sa:a.sz≤1000) (sb:b.sz≤1000):FormB B (.mk 8 0 [a,b])
theorem BasL.form {B:List Tree} (h:BasL B) {x:Tree} (hx:x∈B):FormB B x:=by
 have h1:=h.cl x hx
 have h2:=h.bk x hx
 have h3:=h.sz x hx
 cases h1 with
 |tr=>simp [z91,Tree.kind] at h2
 |«at» v _=>exact .at v
 |nt=>simp [z91,Tree.kind] at h2
 |na v _=>simp [z91,Tree.kind] at h2
 |an _ _=>simp [z91,Tree.kind] at h2
 |or _ _=>simp [z91,Tree.kind] at h2
 |nx _ ha=>rw [z351] at h3;exact .nx _ ha (by omega)
 |un _ ha hb=>rw [z421] at h3;exact .un _ _ ha hb (by omega) (by omega)
 |re _ ha hb=>rw [z421] at h3;exact .re _ _ ha hb (by omega) (by omega)
theorem z1125 {B:List Tree} {s t:Int} (h:∀ i,i < B.length→folI B s t i=true):folB B s t=true:=by
 unfold folB;rw [y81];exact fun i hi=>h i (List.mem_range.1 hi)
theorem z983 {B:List Tree} {s t:Int} {i:Nat} (hi:i < B.length) (h:folI B s t i=false):folB B s t=false:=by
 unfold folB;rw [List.all_eq_false];exact ⟨i,List.mem_range.2 hi,by rw [h];simp⟩
def untL (B:List Tree) (i:Nat):List Int:=((List.range i).filter fun i=>decide ((B.getD i dftT).kind=7)).map Int.ofNat
theorem z1032 (B:List Tree) (i:Nat):untL B (i+1)=untL B i++(if (B.getD i dftT).kind=7 then [(i:Int)] else []):=by
 unfold untL
 rw [y64,List.filter_append,y66]
 congr 1
 by_cases h:(B.getD i dftT).kind=7
 ·rw [if_pos h,List.filter_cons_of_pos (by simpa using h)];rfl
 ·rw [if_neg h,List.filter_cons_of_neg (by simpa using h)];rfl
theorem z449 (B:List Tree) (i:Nat):(untL B i).length≤i:=by
 unfold untL
 rw [y51]
 have:=List.length_filter_le (fun i=>decide ((B.getD i dftT).kind=7)) (List.range i)
 simpa using this
theorem z886 {B:List Tree} {x:Int} (h:x∈untB B):∃ u:Nat,x=u∧u < B.length∧(B.getD u dftT).kind=7:=by
 unfold untB at h
 obtain ⟨u,hu,rfl⟩:=List.mem_map.1 h
 obtain ⟨h1,h2⟩:=List.mem_filter.1 hu
 exact ⟨u,rfl,List.mem_range.1 h1,of_decide_eq_true h2⟩
theorem z763 {s:Int} {i:Nat} (s0:0≤s) (s1:s≤31) (hi:i≤5):0≤s / 2 ^ i∧s / 2 ^ i≤31:=by
 have:i=0∨i=1∨i=2∨i=3∨i=4∨i=5:=by omega
 rcases this with rfl|rfl|rfl|rfl|rfl|rfl<;>simp<;>omega
theorem div_bd2 {s a:Int} (s0:0≤s) (s1:s≤31) (h0:0≤a) (h1:a≤5):0≤s / 2 ^ a.toNat∧s / 2 ^ a.toNat≤31:=z763 s0 s1 (by omega)
set_option maxHeartbeats 3200000 in
theorem z253 (B:List Tree) (U:List Int) (hB:BasL B) (s:Int) (s0:0≤s) (s1:s≤31) (t:Tree) (h:In (·∈B) t):t.sz≤1000→CallsA Tryz.prog 147 [.pt [lst 3 Tree.cs' B,ints U],z30 Tree.cs' t,.int s] [] (.bool (vlB B s t)) []:=by
 have hl:=hB.len
 have basic:∀ t,t∈B→CallsA Tryz.prog 147 [.pt [lst 3 Tree.cs' B,ints U],z30 Tree.cs' t,.int s] [] (.bool (sgB B s t)) []:=fun t ht=>by
  have cF:=z287 B (by omega) hB.mx t (hB.mx t ht)
  have hp:=plc_mem ht
  have e:idxF (fun x=>decide (x=t)) B=plc B t:=rfl
  rw [e] at cF
  have hd:=div_bd2 s0 s1 hp.1 (show plc B t≤5 by omega)
  unfold sgB
  generalize plc B t=p at *
  rw [y15 t] at cF ⊢
  refine z7 z17 Tryz.func147 rfl rfl 69 Tryz.ntmps147 (by simp) ?_
  repeat' ((first|(apply y4 ok;rfl)|(apply z32;kernel_rfl)|(refine y45 (by unfold z111;omega) ?_)|(apply y45;omega)|(((with_reducible apply z127;omega));intro _)|((apply z5)<;>intro _)|(apply z6 (cF);rfl;rfl))<;>conv=>whnf)
  all_goals first|(exfalso;omega)|(refine rsD [] [] rfl ?_;(repeat' first|exact y88 _|constructor))
 have none:∀ t:Tree,t.sz≤1000→z91 t=false→CallsA Tryz.prog 230 [lst 3 Tree.cs' B,z30 Tree.cs' t] [] (.int (-1)) []:=fun t hs hb=>by
  have cF:=z287 B (by omega) hB.mx t (z106 t (by unfold maxLen;omega))
  have e:idxF (fun x=>decide (x=t)) B=-1:=z146 fun j hj=>y85 fun e=>by have:=hB.bk _ (y46 hj);rw [e,hb] at this;cases this
  rwa [e] at cF
 unfold vlB
 induction h with
 |tr =>
  intro hs
  have cn:=none (.mk 1 0 []) hs rfl
  rw [z605]
  refine z7 z17 Tryz.func147 rfl rfl 69 Tryz.ntmps147 (by simp) ?_
  repeat' ((first|(apply y4 ok;rfl)|(apply z32;kernel_rfl)|(apply z6 (cn);rfl;rfl))<;>conv=>whnf)
  all_goals (refine rsD [] [] rfl ?_;(repeat' first|exact y88 _|constructor))
 |«at» v hb=>intro _;rw [z545];exact basic _ hb
 |nt =>
  intro hs
  have cn:=none (.mk 3 0 [.mk 1 0 []]) hs rfl
  have cn2:=none (.mk 1 0 []) (by simp [z484]) rfl
  rw [z320,z605]
  have c1:CallsA Tryz.prog 147 [.pt [lst 3 Tree.cs' B,ints U],z30 Tree.cs' (.mk 1 0 []),.int s] [] (.bool true) []:=by
   refine z7 z17 Tryz.func147 rfl rfl 69 Tryz.ntmps147 (by simp) ?_
   repeat' ((first|(apply y4 ok;rfl)|(apply z32;kernel_rfl)|(apply z6 (cn2);rfl;rfl))<;>conv=>whnf)
   all_goals (refine rsD [] [] rfl ?_;(repeat' first|exact y88 _|constructor))
  rw [argU] at cn ⊢
  refine z7 z17 Tryz.func147 rfl rfl 69 Tryz.ntmps147 (by simp) ?_
  repeat' ((first|(apply y4 ok;rfl)|(apply z32;kernel_rfl)|(refine ⟨_,rfl,?_⟩)|(apply y45;omega)|(apply z6 (cn);rfl;rfl)|(apply z6 (c1);rfl;rfl))<;>conv=>whnf)
  all_goals (refine rsD [] [] rfl ?_;(repeat' first|exact y88 _|constructor))
 |na v hb =>
  intro hs
  have cn:=none (.mk 3 0 [.mk 2 v []]) hs rfl
  rw [z320,z545]
  have c1:=basic _ hb
  rw [argU] at cn ⊢
  refine z7 z17 Tryz.func147 rfl rfl 69 Tryz.ntmps147 (by simp) ?_
  repeat' ((first|(apply y4 ok;rfl)|(apply z32;kernel_rfl)|(refine ⟨_,rfl,?_⟩)|(apply y45;omega)|(apply z6 (cn);rfl;rfl)|(apply z6 (c1);rfl;rfl))<;>conv=>whnf)
  all_goals (refine rsD [] [] rfl ?_;(repeat' first|exact y88 _|constructor))
 |an _ _ iha ihb =>
  rename_i a b _ _
  intro hs
  have cn:=none (.mk 4 0 [a,b]) hs rfl
  rw [z421] at hs
  have ca:=iha (by omega)
  have cb:=ihb (by omega)
  rw [z678,argB]
  rw [argB] at cn
  generalize a.vl (sgB B s)=x at *
  generalize b.vl (sgB B s)=y at *
  cases x
  all_goals
   refine z7 z17 Tryz.func147 rfl rfl 69 Tryz.ntmps147 (by simp) ?_
   repeat' ((first|(apply y4 ok;rfl)|(apply z32;kernel_rfl)|(refine ⟨_,rfl,?_⟩)|(apply y45;omega)|(apply z6 (cn);rfl;rfl)|(apply z6 (ca);rfl;rfl)|(apply z6 (cb);rfl;rfl))<;>conv=>whnf)
   all_goals (refine rsD [] [] rfl ?_;(repeat' first|exact y88 _|constructor))
 |or _ _ iha ihb =>
  rename_i a b _ _
  intro hs
  have cn:=none (.mk 5 0 [a,b]) hs rfl
  rw [z421] at hs
  have ca:=iha (by omega)
  have cb:=ihb (by omega)
  rw [z1014,argB]
  rw [argB] at cn
  generalize a.vl (sgB B s)=x at *
  generalize b.vl (sgB B s)=y at *
  cases x
  all_goals
   refine z7 z17 Tryz.func147 rfl rfl 69 Tryz.ntmps147 (by simp) ?_
   repeat' ((first|(apply y4 ok;rfl)|(apply z32;kernel_rfl)|(refine ⟨_,rfl,?_⟩)|(apply y45;omega)|(apply z6 (cn);rfl;rfl)|(apply z6 (ca);rfl;rfl)|(apply z6 (cb);rfl;rfl))<;>conv=>whnf)
   all_goals (refine rsD [] [] rfl ?_;(repeat' first|exact y88 _|constructor))
 |nx hb _ _=>intro _;rw [z1015];exact basic _ hb
 |un hb _ _ _ _=>intro _;rw [z1012];exact basic _ hb
 |re hb _ _ _ _=>intro _;rw [z1013];exact basic _ hb
end Go.Proofs.YtjhgpfaodkchjaaGreat
