/- A part of the proofs over this program: T93, T94, T140, T141, T142, T221, T222, T223, T143, T224, T144, T225, T145, T180, T226, T146, T147, T227. -/
import Derived.Test.YtahhobgjcfionaaGreatG0
import Derived.Test.YtahhobgjcfionaaGreatG1
import Derived.Test.YtahhobgjcfionaaGreatG2
import Derived.Test.YtahhobgjcfionaaGreatG3
import Derived.Test.YtahhobgjcfionaaGreatP0
import Derived.Test.YtahhobgjcfionaaGreatP1
import Derived.Test.YtahhobgjcfionaaGreatP2
set_option linter.all false
namespace Go.Proofs.YtahhobgjcfionaaGreat
open Go.Gl
attribute [local irreducible] z19 AWP z36 z44 z39 RetS z47
def isSt (bs:List Int) (i:Int) (q:Int) (t:State) (q' : Int):Prop:=∃ a b:Int,t=⟨[i % 3],[a,b,0]⟩∧q'=q+1+1 ∧
 CallsA Tryz.prog 92 [.ptr 0 none 0,.int 3] [rdO bs q] (.int a) [rdO bs (q+1)]∧CallsA Tryz.prog 92 [.ptr 0 none 0,.int 2] [rdO bs (q+1)] (.int b) [rdO bs (q+1+1)]
def isRow (bs:List Int) (n:Nat) (q:Int) (r:List Int) (q' : Int):Prop:=∃ a b c:Int,r=(if c=0∧b≠a then [a,b] else [a])∧q'=q+1+1+1 ∧
 CallsA Tryz.prog 92 [.ptr 0 none 0,.int n] [rdO bs q] (.int a) [rdO bs (q+1)]∧CallsA Tryz.prog 92 [.ptr 0 none 0,.int n] [rdO bs (q+1)] (.int b) [rdO bs (q+1+1)] ∧
 CallsA Tryz.prog 92 [.ptr 0 none 0,.int 2] [rdO bs (q+1+1)] (.int c) [rdO bs (q+1+1+1)]
structure Small (bs:List Int) (q q' : Int) (g:Graph) (m:Nat) (pf pg:Nat→Int):Prop where
 num:CallsA Tryz.prog 133 [.ptr 0 none 0,.sref 1 0 6] [rdO bs q,.cells 1 ([3,4,2,5,1,6].map enI)] (.int m) [rdO bs (pf 0),.cells 1 ([3,4,2,5,1,6].map enI)]
 m1:1≤m
 m6:m≤6
 sl:g.st.length=m
 nl:g.nx.length=m
 st:∀ k (h:k < g.st.length),isSt bs (m - k) (pf k) g.st[k] (pf (k+1))
 mid:pf m=pg 0
 row:∀ k (h:k < g.nx.length),isRow bs m (pg k) g.nx[k] (pg (k+1))
 last:pg m=q'
 q0:q≤q'
 q1:q'≤q+40
theorem z823 (bs:List Int) (hb:BytesOk bs) (q:Int) (hq:0≤q∧q≤999990000):∃ g q' m pf pg,Small bs q q' g m pf pg:=by
 obtain ⟨w,mw,cw⟩:=z91 bs hb q (by omega) (by omega) [3,4,2,5,1,6] (by decide) (by decide)
 simp only [List.mem_cons,List.not_mem_nil,or_false] at mw
 obtain ⟨m,rfl⟩:∃ m:Nat,w=m:=⟨w.toNat,by omega⟩
 obtain ⟨S,pf,h1,h2,h3,h4⟩:=z309 (fun k r t r'=>isSt bs (m - k) r t r') (q+1) 2 m (fun k r hk a1 a2=>by
  obtain ⟨a,_,ca⟩:=z60 bs hb r 3 (by omega) (by omega) (by omega)
  obtain ⟨b,_,cb⟩:=z60 bs hb (r+1) 2 (by omega) (by omega) (by omega)
  exact ⟨_,_,⟨a,b,rfl,rfl,ca,cb⟩,by omega,by omega⟩)
 have h5:=h4 m (y45 _)
 obtain ⟨G,pg,g1,g2,g3,g4⟩:=z309 (fun _ r t r'=>isRow bs m r t r') (pf m) 3 m (fun k r hk a1 a2=>by
  obtain ⟨a,_,ca⟩:=z60 bs hb r m (by omega) (by omega) (by omega)
  obtain ⟨b,_,cb⟩:=z60 bs hb (r+1) m (by omega) (by omega) (by omega)
  obtain ⟨c,_,cc⟩:=z60 bs hb (r+1+1) 2 (by omega) (by omega) (by omega)
  exact ⟨_,_,⟨a,b,c,rfl,rfl,ca,cb,cc⟩,by omega,by omega⟩)
 have g5:=g4 m (y45 _)
 exact ⟨⟨S,G⟩,pg m,m,pf,pg,by rw [← h2] at cw;exact cw,by omega,by omega,h1,g1,h3,g2.symm,g3,rfl,by omega,by omega⟩
theorem Small.sm {bs:List Int} {q q' : Int} {g:Graph} {m:Nat} {pf pg:Nat→Int} (h:Small bs q q' g m pf pg):g.sm:=by
 have h1:=h.sl
 have h2:=h.nl
 have h3:=h.m6
 refine ⟨by omega,by omega,fun s hs=>?_,fun r hr=>?_⟩
 ·obtain ⟨i,hi,rfl⟩:=List.mem_iff_getElem.1 hs
  obtain ⟨a,b,e,_⟩:=h.st i hi
  rw [e];exact ⟨by simp,by simp⟩
 ·obtain ⟨i,hi,rfl⟩:=List.mem_iff_getElem.1 hr
  obtain ⟨a,b,c,e,_⟩:=h.row i hi
  rw [e];split<;>simp
set_option maxHeartbeats 6400000 in
theorem z903 (bs:List Int) (hb:BytesOk bs) (p:Int) (hp:few3 p):∃ (g:Graph) (p' : Int),(g.sm∧1≤g.st.length∧g.nx.length=g.st.length∧p≤p'∧p'≤p+5000)∧CallsA Tryz.prog 66 [.ptr 0 none 0] [rdO bs p] (.agg g.cs) [rdO bs p']:=by
 obtain ⟨v,⟨v0,v1⟩,cv⟩:=z60 bs hb p 3 (by omega) (by omega) (by omega)
 by_cases hv:0 < v
 ·obtain ⟨s,q0,⟨hs,s0,s1⟩,cs⟩:=z783 bs hb (p+1) ⟨by omega,by omega⟩
  have cB:=z626 s hs
  by_cases hr:∃ g,z316 s=some g∧g.st.length≤24
  ·obtain ⟨g,hg,hl⟩:=hr
   have hI:GInv s g.st g.nx g.st.length:=by
    have h:=hg
    unfold z316 at h
    split at h
    ·rename_i hv2
     have hso:=Sys.ok_of hv2
     exact grow_inv hso 61 _ _ 0 g ⟨by simp,by simp,by simp,rfl,fun t ht=>by
      rw [List.mem_singleton.1 ht]
      exact ⟨by simp,hso.init⟩,by simp⟩ h
    ·cases h
   have hso:s.ok:=by
    have h:=hg
    unfold z316 at h
    split at h
    ·exact Sys.ok_of (by assumption)
    ·cases h
   refine ⟨g,q0,⟨⟨by omega,by have:=hI.g;omega,fun t ht=>(hI.st t ht).sm hso,fun r hr=>by have:=hI.row r hr;omega⟩,hI.one,hI.g,by omega,by omega⟩,?_⟩
   rw [hg] at cB
   simp only [Option.getD_some,Option.isSome_some] at cB
   refine z7 z16 Tryz.func66 rfl rfl 88 Tryz.ntmps66 (by simp) ?_
   repeat' ((first|(apply y76 ok;rfl)|((apply z5)<;>intro _)|(apply z6 (cB);rfl;rfl)|((first|(apply z22 [0] [] cv;rfl;rfl)|(apply z22 [0] [] cs;rfl;rfl));rfl))<;>conv=>whnf)
   all_goals try (exfalso;omega)
   all_goals (refine rsD [0] [] rfl ?_;(repeat' first|exact y78 _|apply y79|constructor))
  ·obtain ⟨g,q',m,pf,pg,F⟩:=z823 bs hb q0 (by omega)
   have m1:=F.m1
   have m6:=F.m6
   have sl:=F.sl
   have nl:=F.nl
   have z0:=F.q0
   have z1:=F.q1
   cases hB:z316 s with
   |none =>
    rw [hB] at cB
    simp only [Option.getD_none,Option.isSome_none] at cB
    refine ⟨g,q',⟨F.sm,by omega,by omega,by omega,by omega⟩,?_⟩
    have Fn:=F.num
    refine z7 z16 Tryz.func66 rfl rfl 88 Tryz.ntmps66 (by simp) ?_
    repeat' ((first|(apply y76 ok;rfl)|((apply z5)<;>intro _)|(apply z6 (cB);rfl;rfl)|((first|(apply z11 [0] [] cv;rfl;rfl)|(apply z11 [0] [] cs;rfl;rfl)|(apply z11 [0,4] [] Fn;rfl;rfl));rfl;(focus ((repeat' first|exact z15|apply z14)<;>first|exact z46 rfl rfl|(refine z21 ?_;((exact z4 fun _=>rfl)))))))<;>conv=>whnf)
    all_goals try (exfalso;omega)
    all_goals
     refine y77 (y80 2 rfl) ?_
     refine z65 (fun k:Nat=>([(0,.ptr 0 none 0),(2,.ptr 1 none 0),(5,.ptr 2 none 0),(6,.int (m - k))],[rdO bs (pf k),.cells 2 [[.nils,.nils]],.cells 2 [[.sref 3 0 k,.nils]],.cells 2 ((g.st.take k).map State.cs)])) (fun k=>k≤m) (fun k=>m - k) 0 (by omega) (by refine swR [0,1,3,5] [] rfl rfl ?_;(repeat' first|exact y78 _|exact z48|apply y79|refine z10 rfl (z32) ?_|constructor)) ?_
     intro k hk
     by_cases hkm:k < m
     ·have hkl:k < g.st.length:=by omega
      obtain ⟨a,b,es,eq,ca,cb⟩:=F.st k hkl
      rw [← eq] at cb
      repeat' ((first|(apply y76 ok;rfl)|(apply z31;kernel_rfl)|(apply y36;first|omega|(unfold inI;omega)|((try dsimp only);simp only [y42,y41,y40,y39,y51,y52];omega)|exact ⟨rfl,z18 rfl z25⟩)|((apply z5)<;>intro _)|((first|(apply z22 [0] [] ca;rfl;rfl)|(apply z22 [0] [] cb;rfl;rfl));rfl))<;>conv=>whnf)
      all_goals try (exfalso;omega)
      all_goals refine z23 (k+1) (by omega) (by omega) (by refine swR [0,1,2,7] [4,5] rfl rfl ?_;(repeat' first|exact y78 _|(refine z101 ?_;omega)|apply y79|((refine z27 rfl ?_ ?_);(focus ((repeat' (first|exact z4 (fun _=>rfl)|apply z17));done)))|refine z106 (by omega) (by omega) ?_|refine z76 rfl rfl rfl rfl rfl ?_|constructor)<;>(rw [es];exact y78 _))
     ·have e:k=m:=by omega
      subst e
      rw [y50 (show g.st.length≤k by omega)]
      repeat' ((first|(apply y76 ok;rfl)|(apply y36;omega)|((apply z5)<;>intro _))<;>conv=>whnf)
      all_goals try (exfalso;omega)
      refine y77 (y80 1 rfl) ?_
      have Fm:=F.mid
      rw [Fm]
      refine z65 (fun i:Nat=>([(0,.ptr 0 none 0),(2,.ptr 1 none 0),(5,.ptr 2 none 0),(7,.int i)],[rdO bs (pg i),.cells 2 [[.nils,.nils]],.cells 2 [[.sref 3 0 k,.sref 4 0 i]],.cells 2 (g.st.map State.cs),.cells 1 ((g.nx.take i).map encL)])) (fun i=>i≤k) (fun i=>k - i) 0 (by omega) (by refine swR [0,1,2,3,4] [] rfl rfl ?_;(repeat' first|exact y78 _|exact z48|exact z9 _|apply y79|((refine z10 rfl ?_ ?_);(focus ((repeat' (first|exact z32|exact z4 (fun _=>rfl)));done)))|constructor)) ?_
      intro i hi
      by_cases hik:i < k
      ·have hil:i < g.nx.length:=by omega
       obtain ⟨a,b,c,er,eq,ca,cb,cc⟩:=F.row i hil
       rw [← eq] at cc
       by_cases hc:c=0
       ·by_cases hba:b=a
        ·rw [if_neg (fun h=>h.2 hba)] at er
         repeat' ((first|(apply y76 ok;rfl)|(apply y36;first|omega|(unfold inI;omega)|((try dsimp only);simp only [y42,y41,y40,y39,y51,y52];omega)|exact ⟨rfl,z18 rfl z25⟩)|apply z128|((first|apply z5|apply z40)<;>intro _)|((first|(apply z22 [0] [] ca;rfl;rfl)|(apply z22 [0] [] cb;rfl;rfl)|(apply z22 [0] [] cc;rfl;rfl));rfl))<;>conv=>whnf)
         all_goals try (exfalso;omega)
         all_goals refine z23 (i+1) (by omega) (by omega) (by refine swR [0,1,2,3,7] [5] rfl rfl ?_;(repeat' first|exact y78 _|exact z9 _|apply y79|((first|refine z27 rfl ?_ ?_|refine z10 rfl ?_ ?_);(focus ((repeat' (first|exact z4 (fun _=>rfl)|apply z17));done)))|refine z106 (by omega) (by omega) ?_|refine z76 rfl rfl rfl rfl rfl ?_|constructor)<;>((rw [er];exact y78 _)))
        ·rw [if_pos ⟨hc,hba⟩] at er
         repeat' ((first|(apply y76 ok;rfl)|(apply y36;first|omega|(unfold inI;omega)|((try dsimp only);simp only [y42,y41,y40,y39,y51,y52];omega)|exact ⟨rfl,z18 rfl z25⟩)|apply z128|((first|apply z5|apply z40)<;>intro _)|((first|(apply z22 [0] [] ca;rfl;rfl)|(apply z22 [0] [] cb;rfl;rfl)|(apply z22 [0] [] cc;rfl;rfl));rfl))<;>conv=>whnf)
         all_goals try (exfalso;omega)
         all_goals refine z23 (i+1) (by omega) (by omega) (by refine swR [0,1,2,3,9] [7] rfl rfl ?_;(repeat' first|exact y78 _|exact z9 _|apply y79|((first|refine z27 rfl ?_ ?_|refine z10 rfl ?_ ?_);(focus ((repeat' (first|exact z4 (fun _=>rfl)|apply z17));done)))|refine z106 (by omega) (by omega) ?_|((apply z76 rfl rfl rfl);(focus ((repeat (first|apply z182|apply z288|rfl));done));(focus ((rfl);done)))|constructor)<;>((rw [er];exact y78 _)))
       ·rw [if_neg (fun h=>hc h.1)] at er
        repeat' ((first|(apply y76 ok;rfl)|(apply y36;first|omega|(unfold inI;omega)|((try dsimp only);simp only [y42,y41,y40,y39,y51,y52];omega)|exact ⟨rfl,z18 rfl z25⟩)|apply z128|((first|apply z5|apply z40)<;>intro _)|((first|(apply z22 [0] [] ca;rfl;rfl)|(apply z22 [0] [] cb;rfl;rfl)|(apply z22 [0] [] cc;rfl;rfl));rfl))<;>conv=>whnf)
        all_goals try (exfalso;omega)
        all_goals refine z23 (i+1) (by omega) (by omega) (by refine swR [0,1,2,3,7] [5] rfl rfl ?_;(repeat' first|exact y78 _|exact z9 _|apply y79|((first|refine z27 rfl ?_ ?_|refine z10 rfl ?_ ?_);(focus ((repeat' (first|exact z4 (fun _=>rfl)|apply z17));done)))|refine z106 (by omega) (by omega) ?_|refine z76 rfl rfl rfl rfl rfl ?_|constructor)<;>((rw [er];exact y78 _)))
      ·have e:i=k:=by omega
       subst e
       rw [y50 (show g.nx.length≤i by omega)]
       repeat' ((first|(apply y76 ok;rfl)|((apply z5)<;>intro _))<;>conv=>whnf)
       all_goals try (exfalso;omega)
       all_goals rw [F.last]
       all_goals (refine rsD [0] [3,4] rfl ?_;(repeat' first|exact y78 _|(refine z270 ?_;omega)|apply y79|((apply z45 rfl rfl rfl);(focus ((repeat ((exact z37 (fun _=>rfl) _)));done));(focus (((simp;omega));done)))|apply z42|constructor))
   |some g0 =>
    have hl:¬(g0.st.length≤24):=fun h=>hr ⟨g0,hB,h⟩
    rw [hB] at cB
    simp only [Option.getD_some,Option.isSome_some] at cB
    refine ⟨g,q',⟨F.sm,by omega,by omega,by omega,by omega⟩,?_⟩
    have Fn:=F.num
    refine z7 z16 Tryz.func66 rfl rfl 88 Tryz.ntmps66 (by simp) ?_
    repeat' ((first|(apply y76 ok;rfl)|((apply z5)<;>intro _)|(apply z6 (cB);rfl;rfl)|((first|(apply z11 [0] [] cv;rfl;rfl)|(apply z11 [0] [] cs;rfl;rfl)|(apply z11 [0,4] [] Fn;rfl;rfl));rfl;(focus ((repeat' first|exact z15|apply z14)<;>first|exact z46 rfl rfl|(refine z21 ?_;((exact z4 fun _=>rfl)))))))<;>conv=>whnf)
    all_goals try (exfalso;omega)
    all_goals
     refine y77 (y80 2 rfl) ?_
     refine z65 (fun k:Nat=>([(0,.ptr 0 none 0),(2,.ptr 1 none 0),(5,.ptr 2 none 0),(6,.int (m - k))],[rdO bs (pf k),.cells 2 [[.nils,.nils]],.cells 2 [[.sref 3 0 k,.nils]],.cells 2 ((g.st.take k).map State.cs)])) (fun k=>k≤m) (fun k=>m - k) 0 (by omega) (by refine swR [0,1,3,5] [] rfl rfl ?_;(repeat' first|exact y78 _|exact z48|apply y79|refine z10 rfl (z32) ?_|constructor)) ?_
     intro k hk
     by_cases hkm:k < m
     ·have hkl:k < g.st.length:=by omega
      obtain ⟨a,b,es,eq,ca,cb⟩:=F.st k hkl
      rw [← eq] at cb
      repeat' ((first|(apply y76 ok;rfl)|(apply z31;kernel_rfl)|(apply y36;first|omega|(unfold inI;omega)|((try dsimp only);simp only [y42,y41,y40,y39,y51,y52];omega)|exact ⟨rfl,z18 rfl z25⟩)|((apply z5)<;>intro _)|((first|(apply z22 [0] [] ca;rfl;rfl)|(apply z22 [0] [] cb;rfl;rfl));rfl))<;>conv=>whnf)
      all_goals try (exfalso;omega)
      all_goals refine z23 (k+1) (by omega) (by omega) (by refine swR [0,1,2,7] [4,5] rfl rfl ?_;(repeat' first|exact y78 _|(refine z101 ?_;omega)|apply y79|((refine z27 rfl ?_ ?_);(focus ((repeat' (first|exact z4 (fun _=>rfl)|apply z17));done)))|refine z106 (by omega) (by omega) ?_|refine z76 rfl rfl rfl rfl rfl ?_|constructor)<;>(rw [es];exact y78 _))
     ·have e:k=m:=by omega
      subst e
      rw [y50 (show g.st.length≤k by omega)]
      repeat' ((first|(apply y76 ok;rfl)|(apply y36;omega)|((apply z5)<;>intro _))<;>conv=>whnf)
      all_goals try (exfalso;omega)
      refine y77 (y80 1 rfl) ?_
      have Fm:=F.mid
      rw [Fm]
      refine z65 (fun i:Nat=>([(0,.ptr 0 none 0),(2,.ptr 1 none 0),(5,.ptr 2 none 0),(7,.int i)],[rdO bs (pg i),.cells 2 [[.nils,.nils]],.cells 2 [[.sref 3 0 k,.sref 4 0 i]],.cells 2 (g.st.map State.cs),.cells 1 ((g.nx.take i).map encL)])) (fun i=>i≤k) (fun i=>k - i) 0 (by omega) (by refine swR [0,1,2,3,4] [] rfl rfl ?_;(repeat' first|exact y78 _|exact z48|exact z9 _|apply y79|((refine z10 rfl ?_ ?_);(focus ((repeat' (first|exact z32|exact z4 (fun _=>rfl)));done)))|constructor)) ?_
      intro i hi
      by_cases hik:i < k
      ·have hil:i < g.nx.length:=by omega
       obtain ⟨a,b,c,er,eq,ca,cb,cc⟩:=F.row i hil
       rw [← eq] at cc
       by_cases hc:c=0
       ·by_cases hba:b=a
        ·rw [if_neg (fun h=>h.2 hba)] at er
         repeat' ((first|(apply y76 ok;rfl)|(apply y36;first|omega|(unfold inI;omega)|((try dsimp only);simp only [y42,y41,y40,y39,y51,y52];omega)|exact ⟨rfl,z18 rfl z25⟩)|apply z128|((first|apply z5|apply z40)<;>intro _)|((first|(apply z22 [0] [] ca;rfl;rfl)|(apply z22 [0] [] cb;rfl;rfl)|(apply z22 [0] [] cc;rfl;rfl));rfl))<;>conv=>whnf)
         all_goals try (exfalso;omega)
         all_goals refine z23 (i+1) (by omega) (by omega) (by refine swR [0,1,2,3,7] [5] rfl rfl ?_;(repeat' first|exact y78 _|exact z9 _|apply y79|((first|refine z27 rfl ?_ ?_|refine z10 rfl ?_ ?_);(focus ((repeat' (first|exact z4 (fun _=>rfl)|apply z17));done)))|refine z106 (by omega) (by omega) ?_|refine z76 rfl rfl rfl rfl rfl ?_|constructor)<;>((rw [er];exact y78 _)))
        ·rw [if_pos ⟨hc,hba⟩] at er
         repeat' ((first|(apply y76 ok;rfl)|(apply y36;first|omega|(unfold inI;omega)|((try dsimp only);simp only [y42,y41,y40,y39,y51,y52];omega)|exact ⟨rfl,z18 rfl z25⟩)|apply z128|((first|apply z5|apply z40)<;>intro _)|((first|(apply z22 [0] [] ca;rfl;rfl)|(apply z22 [0] [] cb;rfl;rfl)|(apply z22 [0] [] cc;rfl;rfl));rfl))<;>conv=>whnf)
         all_goals try (exfalso;omega)
         all_goals refine z23 (i+1) (by omega) (by omega) (by refine swR [0,1,2,3,9] [7] rfl rfl ?_;(repeat' first|exact y78 _|exact z9 _|apply y79|((first|refine z27 rfl ?_ ?_|refine z10 rfl ?_ ?_);(focus ((repeat' (first|exact z4 (fun _=>rfl)|apply z17));done)))|refine z106 (by omega) (by omega) ?_|((apply z76 rfl rfl rfl);(focus ((repeat (first|apply z182|apply z288|rfl));done));(focus ((rfl);done)))|constructor)<;>((rw [er];exact y78 _)))
       ·rw [if_neg (fun h=>hc h.1)] at er
        repeat' ((first|(apply y76 ok;rfl)|(apply y36;first|omega|(unfold inI;omega)|((try dsimp only);simp only [y42,y41,y40,y39,y51,y52];omega)|exact ⟨rfl,z18 rfl z25⟩)|apply z128|((first|apply z5|apply z40)<;>intro _)|((first|(apply z22 [0] [] ca;rfl;rfl)|(apply z22 [0] [] cb;rfl;rfl)|(apply z22 [0] [] cc;rfl;rfl));rfl))<;>conv=>whnf)
        all_goals try (exfalso;omega)
        all_goals refine z23 (i+1) (by omega) (by omega) (by refine swR [0,1,2,3,7] [5] rfl rfl ?_;(repeat' first|exact y78 _|exact z9 _|apply y79|((first|refine z27 rfl ?_ ?_|refine z10 rfl ?_ ?_);(focus ((repeat' (first|exact z4 (fun _=>rfl)|apply z17));done)))|refine z106 (by omega) (by omega) ?_|refine z76 rfl rfl rfl rfl rfl ?_|constructor)<;>((rw [er];exact y78 _)))
      ·have e:i=k:=by omega
       subst e
       rw [y50 (show g.nx.length≤i by omega)]
       repeat' ((first|(apply y76 ok;rfl)|((apply z5)<;>intro _))<;>conv=>whnf)
       all_goals try (exfalso;omega)
       all_goals rw [F.last]
       all_goals (refine rsD [0] [3,4] rfl ?_;(repeat' first|exact y78 _|(refine z270 ?_;omega)|apply y79|((apply z45 rfl rfl rfl);(focus ((repeat ((exact z37 (fun _=>rfl) _)));done));(focus (((simp;omega));done)))|apply z42|constructor))
 ·obtain ⟨g,q',m,pf,pg,F⟩:=z823 bs hb (p+1) (by omega)
  have m1:=F.m1
  have m6:=F.m6
  have sl:=F.sl
  have nl:=F.nl
  have z0:=F.q0
  have z1:=F.q1
  refine ⟨g,q',⟨F.sm,by omega,by omega,by omega,by omega⟩,?_⟩
  have Fn:=F.num
  refine z7 z16 Tryz.func66 rfl rfl 88 Tryz.ntmps66 (by simp) ?_
  repeat' ((first|(apply y76 ok;rfl)|((apply z5)<;>intro _)|((first|(apply z11 [0] [] cv;rfl;rfl)|(apply z11 [0,3] [] Fn;rfl;rfl));rfl;(focus ((repeat' first|exact z15|apply z14)<;>first|exact z46 rfl rfl|(refine z21 ?_;((exact z4 fun _=>rfl)))))))<;>conv=>whnf)
  all_goals try (exfalso;omega)
  all_goals
   refine y77 (y80 2 rfl) ?_
   refine z65 (fun k:Nat=>([(0,.ptr 0 none 0),(2,.ptr 1 none 0),(5,.ptr 2 none 0),(6,.int (m - k))],[rdO bs (pf k),.cells 2 [[.nils,.nils]],.cells 2 [[.sref 3 0 k,.nils]],.cells 2 ((g.st.take k).map State.cs)])) (fun k=>k≤m) (fun k=>m - k) 0 (by omega) (by refine swR [0,1,2,4] [] rfl rfl ?_;(repeat' first|exact y78 _|exact z48|apply y79|refine z10 rfl (z32) ?_|constructor)) ?_
   intro k hk
   by_cases hkm:k < m
   ·have hkl:k < g.st.length:=by omega
    obtain ⟨a,b,es,eq,ca,cb⟩:=F.st k hkl
    rw [← eq] at cb
    repeat' ((first|(apply y76 ok;rfl)|(apply z31;kernel_rfl)|(apply y36;first|omega|(unfold inI;omega)|((try dsimp only);simp only [y42,y41,y40,y39,y51,y52];omega)|exact ⟨rfl,z18 rfl z25⟩)|((apply z5)<;>intro _)|((first|(apply z22 [0] [] ca;rfl;rfl)|(apply z22 [0] [] cb;rfl;rfl));rfl))<;>conv=>whnf)
    all_goals try (exfalso;omega)
    all_goals refine z23 (k+1) (by omega) (by omega) (by refine swR [0,1,2,7] [4,5] rfl rfl ?_;(repeat' first|exact y78 _|(refine z101 ?_;omega)|apply y79|((refine z27 rfl ?_ ?_);(focus ((repeat' (first|exact z4 (fun _=>rfl)|apply z17));done)))|refine z106 (by omega) (by omega) ?_|refine z76 rfl rfl rfl rfl rfl ?_|constructor)<;>(rw [es];exact y78 _))
   ·have e:k=m:=by omega
    subst e
    rw [y50 (show g.st.length≤k by omega)]
    repeat' ((first|(apply y76 ok;rfl)|(apply y36;omega)|((apply z5)<;>intro _))<;>conv=>whnf)
    all_goals try (exfalso;omega)
    refine y77 (y80 1 rfl) ?_
    have Fm:=F.mid
    rw [Fm]
    refine z65 (fun i:Nat=>([(0,.ptr 0 none 0),(2,.ptr 1 none 0),(5,.ptr 2 none 0),(7,.int i)],[rdO bs (pg i),.cells 2 [[.nils,.nils]],.cells 2 [[.sref 3 0 k,.sref 4 0 i]],.cells 2 (g.st.map State.cs),.cells 1 ((g.nx.take i).map encL)])) (fun i=>i≤k) (fun i=>k - i) 0 (by omega) (by refine swR [0,1,2,3,4] [] rfl rfl ?_;(repeat' first|exact y78 _|exact z48|exact z9 _|apply y79|((refine z10 rfl ?_ ?_);(focus ((repeat' (first|exact z32|exact z4 (fun _=>rfl)));done)))|constructor)) ?_
    intro i hi
    by_cases hik:i < k
    ·have hil:i < g.nx.length:=by omega
     obtain ⟨a,b,c,er,eq,ca,cb,cc⟩:=F.row i hil
     rw [← eq] at cc
     by_cases hc:c=0
     ·by_cases hba:b=a
      ·rw [if_neg (fun h=>h.2 hba)] at er
       repeat' ((first|(apply y76 ok;rfl)|(apply y36;first|omega|(unfold inI;omega)|((try dsimp only);simp only [y42,y41,y40,y39,y51,y52];omega)|exact ⟨rfl,z18 rfl z25⟩)|apply z128|((first|apply z5|apply z40)<;>intro _)|((first|(apply z22 [0] [] ca;rfl;rfl)|(apply z22 [0] [] cb;rfl;rfl)|(apply z22 [0] [] cc;rfl;rfl));rfl))<;>conv=>whnf)
       all_goals try (exfalso;omega)
       all_goals refine z23 (i+1) (by omega) (by omega) (by refine swR [0,1,2,3,7] [5] rfl rfl ?_;(repeat' first|exact y78 _|exact z9 _|apply y79|((first|refine z27 rfl ?_ ?_|refine z10 rfl ?_ ?_);(focus ((repeat' (first|exact z4 (fun _=>rfl)|apply z17));done)))|refine z106 (by omega) (by omega) ?_|refine z76 rfl rfl rfl rfl rfl ?_|constructor)<;>((rw [er];exact y78 _)))
      ·rw [if_pos ⟨hc,hba⟩] at er
       repeat' ((first|(apply y76 ok;rfl)|(apply y36;first|omega|(unfold inI;omega)|((try dsimp only);simp only [y42,y41,y40,y39,y51,y52];omega)|exact ⟨rfl,z18 rfl z25⟩)|apply z128|((first|apply z5|apply z40)<;>intro _)|((first|(apply z22 [0] [] ca;rfl;rfl)|(apply z22 [0] [] cb;rfl;rfl)|(apply z22 [0] [] cc;rfl;rfl));rfl))<;>conv=>whnf)
       all_goals try (exfalso;omega)
       all_goals refine z23 (i+1) (by omega) (by omega) (by refine swR [0,1,2,3,9] [7] rfl rfl ?_;(repeat' first|exact y78 _|exact z9 _|apply y79|((first|refine z27 rfl ?_ ?_|refine z10 rfl ?_ ?_);(focus ((repeat' (first|exact z4 (fun _=>rfl)|apply z17));done)))|refine z106 (by omega) (by omega) ?_|((apply z76 rfl rfl rfl);(focus ((repeat (first|apply z182|apply z288|rfl));done));(focus ((rfl);done)))|constructor)<;>((rw [er];exact y78 _)))
     ·rw [if_neg (fun h=>hc h.1)] at er
      repeat' ((first|(apply y76 ok;rfl)|(apply y36;first|omega|(unfold inI;omega)|((try dsimp only);simp only [y42,y41,y40,y39,y51,y52];omega)|exact ⟨rfl,z18 rfl z25⟩)|apply z128|((first|apply z5|apply z40)<;>intro _)|((first|(apply z22 [0] [] ca;rfl;rfl)|(apply z22 [0] [] cb;rfl;rfl)|(apply z22 [0] [] cc;rfl;rfl));rfl))<;>conv=>whnf)
      all_goals try (exfalso;omega)
      all_goals refine z23 (i+1) (by omega) (by omega) (by refine swR [0,1,2,3,7] [5] rfl rfl ?_;(repeat' first|exact y78 _|exact z9 _|apply y79|((first|refine z27 rfl ?_ ?_|refine z10 rfl ?_ ?_);(focus ((repeat' (first|exact z4 (fun _=>rfl)|apply z17));done)))|refine z106 (by omega) (by omega) ?_|refine z76 rfl rfl rfl rfl rfl ?_|constructor)<;>((rw [er];exact y78 _)))
    ·have e:i=k:=by omega
     subst e
     rw [y50 (show g.nx.length≤i by omega)]
     repeat' ((first|(apply y76 ok;rfl)|((apply z5)<;>intro _))<;>conv=>whnf)
     all_goals try (exfalso;omega)
     all_goals rw [F.last]
     all_goals (refine rsD [0] [3,4] rfl ?_;(repeat' first|exact y78 _|(refine z270 ?_;omega)|apply y79|((apply z45 rfl rfl rfl);(focus ((repeat ((exact z37 (fun _=>rfl) _)));done));(focus (((simp;omega));done)))|apply z42|constructor))
structure Graph.d (g:Graph):Prop where
 st:g.st.length≤100
 nx:g.nx.length≤101
 el:∀ s∈g.st,s.sm
 row:∀ r∈g.nx,r.length≤1001
theorem Graph.d.mx {g:Graph} (h:g.d):g.mx:=by
 have h1:=h.st
 have h2:=h.nx
 have h3:=h.el
 exact ⟨⟨by unfold maxLen;omega,fun s hs=>⟨by have:=(h3 s hs).a;unfold maxLen;omega,by have:=(h3 s hs).b;unfold maxLen;omega⟩⟩,by unfold maxLen;omega,fun l hl=>by have:=h.row l hl;unfold maxLen;omega⟩
structure Lab.d (l:List Tree):Prop where
 len:l.length≤3
 el:∀ t∈l,t.sz≤5
theorem Lab.d.mx {l:List Tree} (h:Lab.d l):Lmx l:=Lmx_of (by have:=h.len;omega) fun t ht=>by have:=h.el t ht;omega
structure CodeOk (bs:List Int):Prop where
 len:bs.length≤maxLen
 el:∀ x∈bs,0≤x∧x≤255
theorem CodeOk.take {bs:List Int} (h:CodeOk bs):BytesOk (bs.take 2000):=⟨by simp;omega,fun x hx=>h.el x (List.mem_of_mem_take hx)⟩
theorem z1015 (bs:List Int) (hb:BytesOk bs) (p:Int) (hp:few3 p):∃ (g0 g:Graph) (p1 p2:Int),CallsA Tryz.prog 66 [.ptr 0 none 0] [rdO bs p] (.agg g0.cs) [rdO bs p1]∧CallsA Tryz.prog 65 [.ptr 0 none 0,.agg g0.cs] [rdO bs p1] (.agg g.cs) [rdO bs p2]∧g.d∧p≤p2∧p2≤p+6000:=by
 obtain ⟨g0,p1,⟨h1,h2,h3,h4,h5⟩,c1⟩:=z903 bs hb p hp
 obtain ⟨g,p2,⟨k1,k2,k3,k4,k5,k6⟩,c2⟩:=z782 bs hb p1 ⟨by omega,by omega⟩ g0 h1 h2 h3
 exact ⟨g0,g,p1,p2,c1,c2,⟨k1,k2,k3,k4⟩,by omega,by omega⟩
end Go.Proofs.YtahhobgjcfionaaGreat
namespace Go.Proofs.YtahhobgjcfionaaGreat
open Go.Gl
attribute [local irreducible] z19 AWP z36 z44 z39
theorem z551 (k:Int):CallsA Tryz.prog 229 [.int k] [] (.int (z203 k)) []:=by
 refine z13 z16 Tryz.func229 rfl rfl 17 Tryz.ntmps229 (by simp) ?_
 repeat' (first|(apply y76 ok;rfl;conv=>whnf)|(apply z5<;>intro _<;>conv=>whnf))
 all_goals (refine z53 rfl rfl ?_;unfold z203;first|(rw [if_pos (by omega)];rfl)|(rw [if_neg (by omega),if_pos (by omega)];rfl)|(rw [if_neg (by omega),if_neg (by omega),if_pos (by omega)];rfl)|(rw [if_neg (by omega),if_neg (by omega),if_neg (by omega)];rfl))
theorem z757 (l:List Tree) (d:Int):Tree.shapeFs l d=l.all (fun t=>t.shapeF d):=by
 induction l with
 |nil=>rfl
 |cons t l ih=>simp [Tree.shapeFs,ih]
theorem z340 (t:Tree) (d:Int):t.shapeF d=(decide (1≤d∧(t.kids.length:Int)=z203 t.kind∧0≤t.val∧t.val≤z480 t.kind) && t.kids.all fun t=>t.shapeF (d - 1)):=by
 cases t;simp only [Tree.shapeF,Tree.kids,Tree.kind,Tree.val,z757];rfl
theorem z900 (t:Tree):t.mx→∀ d:Int,-100≤d→d≤100→CallsA Tryz.prog 179 [z51 Tree.cs' t,.int d] [] (.bool (t.shapeF d)) []:=by
  induction t using y24 with|h t ih=>?_
  intro hm d h0 h1
  rw [y25] at hm
  have hl:=hm.1
  unfold maxLen at hl
  rw [y14,z340]
  refine z13 z16 Tryz.func179 rfl rfl 51 Tryz.ntmps179 (by simp) ?_
  repeat' (first|(apply y76 ok;rfl;conv=>whnf)|(apply z31;kernel_rfl;conv=>whnf)|(apply z5<;>intro _<;>conv=>whnf)|(apply z40<;>intro _<;>conv=>whnf)|(apply z6 (z551 _);rfl;rfl;conv=>whnf))
  all_goals first
    | (refine z29 rfl ?_
       rw [y74]
       · rfl
       · clear ih
         rintro ⟨c1,c2,c3,c4⟩
         unfold z480 at c4
         grind)
    | (have hg : decide (1 ≤ d ∧ (t.kids.length : Int) = z203 t.kind ∧ 0 ≤ t.val ∧ t.val ≤ z480 t.kind) = true := by
         clear ih
         refine y73 ?_
         unfold z480
         grind
       rw [hg,Bool.true_and]
       refine z97 (fun k:Nat=>([(1,.int d),(2,.ptr 0 none 0),(5,.int k)],[.cells 3 [[.int t.kind,.int t.val,lst 3 Tree.cs' t.kids]]])) (fun k=>k≤t.kids.length∧(t.kids.all fun t=>t.shapeF (d - 1))=(t.kids.drop k).all fun t=>t.shapeF (d - 1)) (fun k=>t.kids.length - k) 0 ⟨by omega,rfl⟩ ⟨[0],rfl,by decide,rfl,by repeat' (first|exact True.intro|exact ⟨rfl,rfl⟩|apply y36),by repeat' (first|exact True.intro|exact z30 rfl rfl|apply y36)⟩ ?_
       intro k hk
       repeat' (first|(apply y76 ok;rfl;conv=>whnf)|(apply y36;(first|omega|(unfold inI;omega));conv=>whnf)|(with_reducible apply z8;omega;intro _;conv=>whnf)|(apply z5<;>intro _<;>conv=>whnf)|(apply z93<;>intro _<;>conv=>whnf)|(apply z6 (ih t.kids[k] (y37 _) (hm.2 _ (y37 _)) (d - 1) (by omega) (by omega));rfl;rfl;conv=>whnf))
       · rename_i h1
         exact z29 rfl (by rw [hk.2,z146 _ _ _ (by assumption)];simp [h1])
       · rename_i h1
         exact z86 (k+1) [0] ⟨by omega,by rw [hk.2,z146 _ _ _ (by assumption)];simp [h1]⟩ (by omega) ⟨rfl,by decide,rfl,by repeat' (first|exact True.intro|exact ⟨rfl,rfl⟩|apply y36),by repeat' (first|exact True.intro|exact z30 rfl rfl|apply y36)⟩
       · exact z29 rfl (by rw [hk.2,z138 _ _ _ (by omega)]))
theorem z1067 (t:Tree):∀ d n:Nat,t.shapeF d=true→t.count n≤2 ^ d - 1:=by
 induction t using y24 with|h t ih=>?_
 intro d n h
 rw [z340,y63,decide_eq_true_eq] at h
 obtain ⟨⟨h1,h2,_,_⟩,h3⟩:=h
 rw [y70] at h3
 obtain ⟨d,rfl⟩:∃ e,d=e+1:=⟨d - 1,by omega⟩
 have e:((d+1:Nat):Int) - 1=(d:Nat):=by omega
 rw [e] at h3
 rw [z441]
 have hp:(1:Int)≤2 ^ d:=by exact_mod_cast Nat.one_le_two_pow
 have hq:((2:Int) ^ (d+1))=2 * 2 ^ d:=by rw [Int.pow_succ];omega
 split
 ·rename_i hn
  obtain ⟨n,rfl⟩:∃ e,n=e+1:=⟨n - 1,by omega⟩
  have e:((n+1:Nat):Int) - 1=(n:Nat):=by omega
  rw [e]
  have hl:(t.kids.length:Int)≤2:=by rw [h2];unfold z203;grind
  have hk:∀ u∈t.kids,u.count n≤2 ^ d - 1:=fun u hu=>ih u hu d n (h3 u hu)
  match hkk:t.kids with
  |[]=>simp only [List.map_nil,List.sum_nil];omega
  |[a] =>
   have:=hk a (by simp [hkk])
   simp only [List.map_cons,List.map_nil,List.sum_cons,List.sum_nil];omega
  |[a,b] =>
   have:=hk a (by simp [hkk])
   have:=hk b (by simp [hkk])
   simp only [List.map_cons,List.map_nil,List.sum_cons,List.sum_nil];omega
  |a::b::c::r=>rw [hkk] at hl;simp only [y51] at hl;omega
 ·omega
theorem z709 (t:Tree) (e d:Int) (he:e≤50) (hd:0≤d) (h:t.shapeF e=true):t.count d≤2 ^ 50:=by
 have h1:1≤e:=by
  rw [z340,y63,decide_eq_true_eq] at h;exact h.1.1
 obtain ⟨n,rfl⟩:=Int.eq_ofNat_of_zero_le (show 0≤e by omega)
 obtain ⟨m,rfl⟩:=Int.eq_ofNat_of_zero_le hd
 have h2:=z1067 t n m h
 have h4:(2:Int) ^ n≤2 ^ 50:=by exact_mod_cast Nat.pow_le_pow_right (by omega) (by omega)
 omega
theorem z901 (t:Tree):t.mx→∀ e d:Int,e≤50→0≤d→d≤50→t.shapeF e=true→CallsA Tryz.prog 180 [z51 Tree.cs' t,.int d] [] (.int (t.count d)) []:=by
 induction t using y24 with|h t ih=>?_
 intro hm e d h0 h1 h2 hs
 rw [y25] at hm
 rw [z340,y63,decide_eq_true_eq,y70] at hs
 obtain ⟨⟨hs1,hs2,_,_⟩,hs3⟩:=hs
 have hl:(t.kids.length:Int)≤2:=by rw [hs2];unfold z203;grind
 rw [y14,z441]
 have hb:0 < d→∀ k,k≤t.kids.length→0≤((t.kids.take k).map fun t=>t.count (d - 1)).sum∧((t.kids.take k).map fun t=>t.count (d - 1)).sum≤k * 2 ^ 50:=by
  intro hd k
  induction k with
  |zero=>intro _;simp
  |succ k ihk =>
   intro hk
   have h1:=ihk (by omega)
   rw [z426 _ _ _ (by omega)]
   have h2:=z709 t.kids[k] (e - 1) (d - 1) (by omega) (by omega) (hs3 _ (y37 _))
   have h3:=Tree.count_pos.1 t.kids[k] (d - 1)
   omega
 refine z13 z16 Tryz.func180 rfl rfl 29 Tryz.ntmps180 (by simp) ?_
 repeat' ((apply y76 ok;rfl;conv=>whnf))
 by_cases hd:0 < d
 ·rw [if_pos hd]
  refine z97 (fun k:Nat=>([(1,.int d),(2,.ptr 0 none 0),(5,.int (1+((t.kids.take k).map fun t=>t.count (d - 1)).sum)),(6,.int k)],[.cells 3 [[.int t.kind,.int t.val,lst 3 Tree.cs' t.kids]]])) (fun k=>k≤t.kids.length) (fun k=>t.kids.length - k) 0 (by omega) ⟨[0],rfl,by decide,rfl,by repeat' (first|exact True.intro|exact ⟨rfl,rfl⟩|apply y36),by repeat' (first|exact True.intro|exact z30 rfl rfl|apply y36)⟩ ?_
  intro k hk
  have hbk:=hb hd k hk
  have hbk1:=fun h=>hb hd (k+1) h
  have hss:=fun h=>z426 (fun t=>t.count (d - 1)) t.kids k h
  repeat' (first|(apply y76 ok;rfl;conv=>whnf)|(apply y36;(first|omega|(unfold inI;omega));conv=>whnf)|(with_reducible apply z8;omega;intro _;conv=>whnf)|(apply z5<;>intro _<;>conv=>whnf)|(apply z6 (ih t.kids[k] (y37 _) (hm.2 _ (y37 _)) (e - 1) (d - 1) (by omega) (by omega) (by omega) (hs3 _ (y37 _)));rfl;rfl;conv=>whnf))
  ·have e1:=hss ‹_›
   have e2:=hbk1 (by omega)
   refine y36 (by unfold inI;omega) ?_
   conv=>whnf
   repeat' (first|(apply y76 ok;rfl;conv=>whnf)|(apply y36;((unfold inI;omega));conv=>whnf))
   exact z86 (k+1) [0] (by omega) (by omega) ⟨rfl,by decide,rfl,⟨⟨rfl,rfl⟩,⟨rfl,rfl⟩,⟨rfl,by rw [e1,← Int.add_assoc];rfl⟩,⟨rfl,rfl⟩,trivial⟩,⟨z30 rfl rfl,trivial⟩⟩
  ·omega
  ·obtain rfl:k=t.kids.length:=by omega
   exact z53 rfl rfl (by rw [y49];rfl)
 ·rw [if_neg hd]
  refine z97 (fun k:Nat=>([(1,.int d),(2,.ptr 0 none 0),(5,.int 1),(6,.int k)],[.cells 3 [[.int t.kind,.int t.val,lst 3 Tree.cs' t.kids]]])) (fun k=>k≤t.kids.length) (fun k=>t.kids.length - k) 0 (by omega) ⟨[0],rfl,by decide,rfl,by repeat' (first|exact True.intro|exact ⟨rfl,rfl⟩|apply y36),by repeat' (first|exact True.intro|exact z30 rfl rfl|apply y36)⟩ ?_
  intro k hk
  repeat' (first|(apply y76 ok;rfl;conv=>whnf)|(apply y36;(omega);conv=>whnf)|(with_reducible apply z8;omega;intro _;conv=>whnf)|(apply z5<;>intro _<;>conv=>whnf))
  ·omega
  ·exact z53 rfl rfl rfl
  ·exact z53 rfl rfl rfl
theorem z205 (t:Tree) (hm:t.mx):CallsA Tryz.prog 121 [z51 Tree.cs' t] [] (.bool t.fmB) []:=by
 rw [y18]
 refine z13 z16 Tryz.func121 rfl rfl 10 Tryz.ntmps121 (by simp) ?_
 repeat' (first|(apply y76 ok;rfl;conv=>whnf)|(apply z107<;>intro _<;>conv=>whnf)|(apply z6 (z900 t hm 6 (by omega) (by omega));rfl;rfl;conv=>whnf)|(apply z6 (z901 t hm 6 6 (by omega) (by omega) (by omega) (by assumption));rfl;rfl;conv=>whnf))
 all_goals (refine z29 rfl ?_;(simp [*];done))
end Go.Proofs.YtahhobgjcfionaaGreat
namespace Go.Proofs.YtahhobgjcfionaaGreat
open Go.Gl
attribute [local irreducible] z19 AWP z36 z44 z39 RetS z47
theorem z489:CallsA Tryz.prog 183 [] [] (.agg [.int 1,.int 0,.list 3 0 []]) []:=by
 refine z7 z16 Tryz.func183 rfl rfl 2 Tryz.ntmps183 (by simp) ?_
 repeat' (((apply y76 ok;rfl))<;>conv=>whnf)
 all_goals (refine rsD [] [] rfl ?_;(repeat' first|exact y78 _|exact z52|apply z42|constructor))
set_option maxHeartbeats 1600000 in
theorem z781 (bs:List Int) (hb:BytesOk bs):∀ (n:Nat) (d p:Int),d≤n+1→n≤100→0≤d→0≤p→p+drK n≤1000000000→∃ (t:Tree) (p' : Int),(t.sz≤drS n∧p≤p'∧p'≤p+drK n)∧CallsA Tryz.prog 184 [.ptr 0 none 0,.int d] [rdO bs p] (z51 Tree.cs' t) [rdO bs p']:=by
 intro n
 induction n with
 |zero =>
  intro d p hd hd1 hd0 hp hq
  rw [drK] at hq ⊢
  obtain ⟨v0,⟨l0,u0⟩,c0⟩:=z60 bs hb p 8 (by omega) (by omega) (by omega)
  by_cases h0:v0=0
  ·subst h0
   refine ⟨leaf 1 0,p+1,⟨by rw [z90];omega,by omega,by omega⟩,?_⟩
   refine z7 z16 Tryz.func184 rfl rfl 43 Tryz.ntmps184 (by simp) ?_
   repeat' ((first|(apply y76 ok;rfl)|((apply z5)<;>intro _)|(apply z6 (z489);rfl;rfl)|(apply z22 [0] [] c0;rfl;rfl;rfl))<;>conv=>whnf)
   all_goals try (exfalso;omega)
   all_goals (refine rsD [0] [] rfl ?_;(repeat' first|exact y78 _|apply y79|constructor))
  ·obtain ⟨v1,m1,c1⟩:=z91 bs hb (p+1) (by omega) (by omega) [0,1,0,2] (by decide) (by decide)
   refine ⟨leaf 2 v1,p+1+1,⟨by rw [z90];omega,by omega,by omega⟩,?_⟩
   refine z7 z16 Tryz.func184 rfl rfl 43 Tryz.ntmps184 (by simp) ?_
   repeat' ((first|(apply y76 ok;rfl)|((apply z5)<;>intro _)|((first|(apply z11 [0] [] c0;rfl;rfl)|(apply z11 [0,2] [] c1;rfl;rfl));rfl;(focus ((repeat' first|exact z15|apply z14)<;>first|exact z46 rfl rfl|(refine z21 ?_;((exact z4 fun _=>rfl)))))))<;>conv=>whnf)
   all_goals try (exfalso;omega)
   all_goals (refine rsD [0] [] rfl ?_;(repeat' first|exact y78 _|exact z52|apply y79|apply z42|constructor))
 |succ n ih =>
  intro d p hd hd1 hd0 hp hq
  have hK:=z1061 n
  by_cases hlt:d < 2
  ·obtain ⟨t,p',h1,h2⟩:=ih d p (by omega) (by omega) hd0 hp (by rw [drK] at hq;omega)
   exact ⟨t,p',⟨by rw [drS];omega,h1.2.1,by rw [drK];omega⟩,h2⟩
  rw [drK] at hq
  rw [drK,drS]
  obtain ⟨w,⟨lw,uw⟩,cw⟩:=z60 bs hb p 5 (by omega) (by omega) (by omega)
  by_cases hw:w=0
  ·subst hw
   obtain ⟨v0,⟨l0,u0⟩,c0⟩:=z60 bs hb (p+1) 8 (by omega) (by omega) (by omega)
   by_cases h0:v0=0
   ·subst h0
    refine ⟨leaf 1 0,p+1+1,⟨by rw [z90];omega,by omega,by omega⟩,?_⟩
    refine z7 z16 Tryz.func184 rfl rfl 43 Tryz.ntmps184 (by simp) ?_
    repeat' ((first|(apply y76 ok;rfl)|((apply z5)<;>intro _)|(apply z6 (z489);rfl;rfl)|((first|(apply z22 [0] [] cw;rfl;rfl)|(apply z22 [0] [] c0;rfl;rfl));rfl))<;>conv=>whnf)
    all_goals try (exfalso;omega)
    all_goals (refine rsD [0] [] rfl ?_;(repeat' first|exact y78 _|apply y79|constructor))
   ·obtain ⟨v1,m1,c1⟩:=z91 bs hb (p+1+1) (by omega) (by omega) [0,1,0,2] (by decide) (by decide)
    refine ⟨leaf 2 v1,p+1+1+1,⟨by rw [z90];omega,by omega,by omega⟩,?_⟩
    refine z7 z16 Tryz.func184 rfl rfl 43 Tryz.ntmps184 (by simp) ?_
    repeat' ((first|(apply y76 ok;rfl)|((apply z5)<;>intro _)|((first|(apply z11 [0] [] cw;rfl;rfl)|(apply z11 [0] [] c0;rfl;rfl)|(apply z11 [0,2] [] c1;rfl;rfl));rfl;(focus ((repeat' first|exact z15|apply z14)<;>first|exact z46 rfl rfl|(refine z21 ?_;((exact z4 fun _=>rfl)))))))<;>conv=>whnf)
    all_goals try (exfalso;omega)
    all_goals (refine rsD [0] [] rfl ?_;(repeat' first|exact y78 _|exact z52|apply y79|apply z42|constructor))
  ·obtain ⟨kd,mk,ck⟩:=z91 bs hb (p+1) (by omega) (by omega) [7,9,10,3,4,5,6,8] (by decide) (by decide)
   have ca:=z551 kd
   have ham:∃ m:Nat,z203 kd=m∧m≤2:=by
    simp only [List.mem_cons,List.not_mem_nil,or_false] at mk
    unfold z203
    rcases mk with rfl|rfl|rfl|rfl|rfl|rfl|rfl|rfl
    all_goals first|exact ⟨2,rfl,by omega⟩|exact ⟨1,rfl,by omega⟩
   obtain ⟨m,em,hm⟩:=ham
   rw [em] at ca
   obtain ⟨ks,pf,hks,hp0,hst,hpf⟩:=z309 (fun k q (t:Tree) q'=>t.sz≤drS n∧CallsA Tryz.prog 184 [.ptr 0 none 0,.int (d - 1)] [rdO bs q] (z51 Tree.cs' t) [rdO bs q']) (p+1+1) (drK n) m (fun k q hk h1 h2=>by
    have:drK n * k≤drK n:=by
     have:k=0∨k=1:=by omega
     rcases this with rfl|rfl<;>simp<;>omega
    obtain ⟨t,q',⟨a1,a2,a3⟩,a4⟩:=ih (d - 1) q (by omega) (by omega) (by omega) (by omega) (by omega)
    exact ⟨t,q',⟨a1,a4⟩,a2,a3⟩)
   have hpm:=hpf m (y45 _)
   have hKm:drK n * m≤2 * drK n:=by
    have:m=0∨m=1∨m=2:=by omega
    rcases this with rfl|rfl|rfl<;>simp<;>omega
   have hsum:(ks.map Tree.sz).sum≤2 * drS n:=by
    have:∀ (l:List Tree),(∀ t∈l,t.sz≤drS n)→(l.map Tree.sz).sum≤l.length * drS n:=by
     intro l
     induction l with
     |nil=>intro _;simp
     |cons t l ih =>
      intro h
      have h1:=h t (by simp)
      have h2:=ih fun u hu=>h u (by simp [hu])
      simp only [List.map_cons,List.sum_cons,y51,Nat.add_mul]
      omega
    have h1:=this ks fun t ht=>by
     obtain ⟨i,hi,rfl⟩:=List.mem_iff_getElem.1 ht
     exact (hst i hi).1
    have h2:ks.length * drS n≤2 * drS n:=Nat.mul_le_mul_right _ (by omega)
    omega
   refine ⟨.mk kd 0 ks,pf m,⟨by rw [z305];omega,by omega,by omega⟩,?_⟩
   refine z7 z16 Tryz.func184 rfl rfl 43 Tryz.ntmps184 (by simp) ?_
   rw [← hp0] at ck
   repeat' ((first|(apply y76 ok;rfl)|((apply z5)<;>intro _)|(apply z6 (ca);rfl;rfl)|((first|(apply z11 [0] [] cw;rfl;rfl)|(apply z11 [0,2] [] ck;rfl;rfl));rfl;(focus ((repeat' first|exact z15|apply z14)<;>first|exact z46 rfl rfl|(refine z21 ?_;((exact z4 fun _=>rfl)))))))<;>conv=>whnf)
   all_goals try (exfalso;omega)
   refine y77 (y80 3 rfl) ?_
   refine z65 (fun k:Nat=>([(0,.ptr 0 none 0),(1,.int d),(4,.ptr 1 none 0),(5,.ptr 2 none 0),(6,.int (m - k))],[rdO bs (pf k),.cells 3 [[.int 0,.int 0,.nils]],.cells 3 [[.int kd,.int 0,.sref 3 0 k]],.cells 3 ((ks.take k).map Tree.cs')])) (fun k=>k≤m) (fun k=>m - k) 0 (by omega) (by refine swR [0,1,3,4] [] rfl rfl ?_;(repeat' first|exact y78 _|exact z48|apply y79|refine z10 rfl (z32) ?_|constructor)) ?_
   intro k hk
   by_cases hkm:k < m
   ·have hc:=(hst k (by omega)).2
    have hkl:k < ks.length:=by omega
    rw [y14] at hc
    repeat' ((first|(apply y76 ok;rfl)|(apply z31;kernel_rfl)|(apply y36;first|(unfold inI;omega)|((try dsimp only);simp only [y42,y41,y40,y39,y51,y52];omega)|exact ⟨rfl,z18 rfl z25⟩)|((apply z5)<;>intro _)|(apply z22 [0] [] hc;rfl;rfl;rfl))<;>conv=>whnf)
    all_goals try (exfalso;omega)
    refine z23 (k+1) (by omega) (by omega) (by refine swR [0,1,2,5] [] rfl rfl ?_;(repeat' first|exact y78 _|exact z357|(refine z101 ?_;omega)|apply y79|((refine z27 rfl ?_ ?_);(focus ((repeat' (first|exact z4 (fun _=>rfl)|apply z17));done)))|refine z106 (by omega) (by omega) ?_|(apply z81;rfl)|constructor))
   ·have:k=m:=by omega
    subst this
    repeat' ((first|(apply y76 ok;rfl)|(apply y36;omega)|((apply z5)<;>intro _))<;>conv=>whnf)
    all_goals try (exfalso;omega)
    all_goals (refine rsD [0] [3] rfl ?_;(repeat' first|exact y78 _|(refine z493 ?_;omega)|apply y79|((apply z45 rfl rfl rfl);(focus ((repeat ((exact z37 (fun _=>rfl) _)));done));(focus (((simp;omega));done)))|apply z42|constructor))
theorem z686 (bs:List Int) (hb:BytesOk bs) (p:Int) (hp:few p):∃ (t:Tree) (p' : Int),(t.sz≤20∧p≤p'∧p'≤p+100)∧CallsA Tryz.prog 129 [.ptr 0 none 0] [rdO bs p] (z51 Tree.cs' t) [rdO bs p']:=by
 obtain ⟨d,md,cd⟩:=z91 bs hb p (by omega) (by omega) [3,2,4,3] (by decide) (by decide)
 have hd:0≤d∧d≤4:=by simp at md;omega
 obtain ⟨t,q,⟨t1,t2,t3⟩,ct⟩:=z781 bs hb 3 d (p+1) (by omega) (by omega) (by omega) (by omega) (by simp only [drK];omega)
 simp only [drK] at t3
 simp only [drS] at t1
 have cv:=z205 t (z162 t (by unfold maxLen;omega))
 by_cases hv:t.fmB=true
 ·refine ⟨t,q,⟨by omega,by omega,by omega⟩,?_⟩
  rw [hv] at cv
  rw [y14] at *
  refine z7 z16 Tryz.func129 rfl rfl 15 Tryz.ntmps129 (by simp) ?_
  repeat' ((first|(apply y76 ok;rfl)|(apply z6 (cv);rfl;rfl)|((first|(apply z11 [0,2] [] cd;rfl;rfl)|(apply z11 [0] [] ct;rfl;rfl));rfl;(focus ((repeat' first|exact z15|apply z14)<;>first|exact z46 rfl rfl|(refine z21 ?_;((exact z4 fun _=>rfl)))))))<;>conv=>whnf)
  all_goals (refine rsD [0] [] rfl ?_;(repeat' first|exact y78 _|apply y79|constructor))
 ·refine ⟨.mk 10 0 [leaf 2 0],q,⟨by rw [z305];simp [z90],by omega,by omega⟩,?_⟩
  rw [(y64 _).mp hv] at cv
  rw [y14] at cv ct
  refine z7 z16 Tryz.func129 rfl rfl 15 Tryz.ntmps129 (by simp) ?_
  repeat' ((first|(apply y76 ok;rfl)|(apply z6 (cv);rfl;rfl)|((first|(apply z11 [0,2] [] cd;rfl;rfl)|(apply z11 [0] [] ct;rfl;rfl));rfl;(focus ((repeat' first|exact z15|apply z14)<;>first|exact z46 rfl rfl|(refine z21 ?_;((exact z4 fun _=>rfl)))))))<;>conv=>whnf)
  all_goals (refine rsD [0] [4] rfl ?_;(repeat' first|exact y78 _|exact z52|apply y79|refine z45 rfl rfl rfl rfl rfl ?_|apply z42|(apply z81;rfl)|constructor))
theorem argU (k v:Int) (a:Tree):z51 Tree.cs' (.mk k v [a])=.agg [.int k,.int v,.list 3 1 [Tree.cs' a]]:=by
 rw [y14]
 show AC.agg [AC.int k,AC.int v,lst 3 Tree.cs' [a]]=_
 rfl
theorem argB (k v:Int) (a b:Tree):z51 Tree.cs' (.mk k v [a,b])=.agg [.int k,.int v,.list 3 2 [Tree.cs' a,Tree.cs' b]]:=by
 rw [y14]
 rfl
theorem z452 (x:Tree):F2 LocLe (z253 [AC.int x.kind,AC.int x.val,lst 3 Tree.cs' x.kids]) (Tree.cs x):=by
 have e:Tree.cs x=[AC.int x.kind,AC.int x.val,lst 3 Tree.cs' x.kids]:=by rw [y15];exact AC.agg.inj (y14 x)
 rw [e];exact z277 _
theorem z608 (t:Tree):CallsA Tryz.prog 221 [z51 Tree.cs' t] [] (z51 Tree.cs' (notT t)) []:=by
 unfold notT
 rw [y14 t,y14]
 refine z7 z16 Tryz.func221 rfl rfl 6 Tryz.ntmps221 (by simp) ?_
 repeat' (((apply y76 ok;rfl))<;>conv=>whnf)
 all_goals (refine rsD [] [2] rfl ?_;(repeat' first|exact y78 _|exact z357|refine z45 rfl rfl rfl rfl rfl ?_|apply z42|(apply z81;rfl)|constructor))
 all_goals exact z452 _
theorem z1031 (k:Int):CallsA Tryz.prog 262 [.int k] [] (.int (z1060 k)) []:=by
 unfold z1060
 refine z7 z16 Tryz.func262 rfl rfl 10 Tryz.ntmps262 (by simp) ?_
 repeat' ((first|(apply y76 ok;rfl)|((apply z5)<;>intro _))<;>conv=>whnf)
 all_goals (refine rsL [] [] rfl ?_;refine RetS.done (z101 ?_) .nil;first|(rw [if_pos (by omega)];done)|(rw [if_neg (by omega),if_pos (by omega)];done)|(rw [if_neg (by omega),if_neg (by omega),if_pos (by omega)];done)|(rw [if_neg (by omega),if_neg (by omega),if_neg (by omega)];done))
set_option maxHeartbeats 3200000 in
theorem z1030 (t:Tree):t.goodF→∀ neg:Bool,CallsA Tryz.prog 234 [z51 Tree.cs' t,.bool neg] [] (z51 Tree.cs' (t.nrm neg)) []:=by
 induction t using y24 with|h t ih=>?_
 intro hg neg
 have hT:=z489
 cases y19 hg with
 |tr =>
  rw [z1007]
  have cn:=(z608 (.mk 1 0 [])).arg (args0:=[.agg [.int 1,.int 0,.nils]]) (by (repeat' first|exact y78 _|exact z52|apply z42|constructor))
  cases neg
  all_goals
   refine z7 z16 Tryz.func234 rfl rfl 86 Tryz.ntmps234 (by simp) ?_
   repeat' ((first|(apply y76 ok;rfl)|(apply z6 (cn);rfl;rfl))<;>conv=>whnf)
   all_goals (refine rsD [] [] rfl ?_;(repeat' first|exact y78 _|exact z52|apply z42|constructor))
 |«at» v h0 h1 =>
  rw [z1009]
  have cn:=(z608 (.mk 2 v [])).arg (args0:=[.agg [.int 2,.int v,.nils]]) (by (repeat' first|exact y78 _|exact z52|apply z42|constructor))
  cases neg
  all_goals
   refine z7 z16 Tryz.func234 rfl rfl 86 Tryz.ntmps234 (by simp) ?_
   repeat' ((first|(apply y76 ok;rfl)|(apply z6 (cn);rfl;rfl))<;>conv=>whnf)
   all_goals (refine rsD [] [] rfl ?_;(repeat' first|exact y78 _|exact z52|apply z42|constructor))
 |un k a hk ha =>
  have ca:=ih a (by simp [Tree.kids]) ha
  clear ih
  have cn:=z608 truT
  rcases hk with rfl|rfl|rfl|rfl
  ·rw [z770,argU 3 0 a]
   have ca:=ca (!neg)
   refine z7 z16 Tryz.func234 rfl rfl 86 Tryz.ntmps234 (by simp) ?_
   repeat' ((first|(apply y76 ok;rfl)|(refine ⟨_,rfl,?_⟩)|(apply y36;omega)|(apply z6 (ca);rfl;rfl))<;>conv=>whnf)
   all_goals (refine rsD [] [] rfl ?_;(repeat' first|exact y78 _|constructor))
  ·rw [z597,argU 6 0 a]
   have ca:=ca neg
   generalize a.nrm neg=x at *
   rw [y14 x] at ca
   refine z7 z16 Tryz.func234 rfl rfl 86 Tryz.ntmps234 (by simp) ?_
   repeat' ((first|(apply y76 ok;rfl)|(refine ⟨_,rfl,?_⟩)|(apply y36;omega)|(apply z6 (ca);rfl;rfl))<;>conv=>whnf)
   all_goals (refine rsD [] [2] rfl ?_;(repeat' first|exact y78 _|refine z45 rfl rfl rfl rfl rfl ?_|apply z42|(apply z81;rfl)|constructor))
   all_goals exact z452 _
  ·rw [z1008,argU 9 0 a]
   have ca:=ca neg
   generalize a.nrm neg=x at *
   rw [y14 x] at ca
   cases neg
   all_goals
    refine z7 z16 Tryz.func234 rfl rfl 86 Tryz.ntmps234 (by simp) ?_
    repeat' ((first|(apply y76 ok;rfl)|(apply z31;kernel_rfl)|(refine ⟨_,rfl,?_⟩)|(apply y36;omega)|(apply z6 (ca);rfl;rfl)|(apply z6 (hT);rfl;rfl)|(apply z6 (cn);rfl;rfl))<;>conv=>whnf)
    all_goals (refine rsD [] [3] rfl ?_;(repeat' first|exact y78 _|refine z45 rfl rfl rfl rfl rfl ?_|apply z42|(apply z81;rfl)|constructor))
    all_goals exact z452 _
  ·rw [z1010,argU 10 0 a]
   have ca:=ca neg
   generalize a.nrm neg=x at *
   rw [y14 x] at ca
   cases neg
   all_goals
    refine z7 z16 Tryz.func234 rfl rfl 86 Tryz.ntmps234 (by simp) ?_
    repeat' ((first|(apply y76 ok;rfl)|(apply z31;kernel_rfl)|(refine ⟨_,rfl,?_⟩)|(apply y36;omega)|(apply z6 (ca);rfl;rfl)|(apply z6 (hT);rfl;rfl)|(apply z6 (cn);rfl;rfl))<;>conv=>whnf)
    all_goals (refine rsD [] [3] rfl ?_;(repeat' first|exact y78 _|refine z45 rfl rfl rfl rfl rfl ?_|apply z42|(apply z81;rfl)|constructor))
    all_goals exact z452 _
 |bin k a b hk ha hb =>
  have ca:=ih a (by simp [Tree.kids]) ha neg
  have cb:=ih b (by simp [Tree.kids]) hb neg
  clear ih
  have cd:=z1031 k
  rw [z771 _ _ _ _ _ hk,argB k 0 a b]
  generalize a.nrm neg=x at *
  generalize b.nrm neg=y at *
  rw [y14 x] at ca
  rw [y14 y] at cb
  generalize z1060 k=k' at *
  cases neg
  all_goals
   refine z7 z16 Tryz.func234 rfl rfl 86 Tryz.ntmps234 (by simp) ?_
   repeat' ((first|(apply y76 ok;rfl)|(apply z31;kernel_rfl)|(refine ⟨_,rfl,?_⟩)|(apply y36;omega)|((first|apply z5|apply z40)<;>intro _)|(apply z6 (ca);rfl;rfl)|(apply z6 (cb);rfl;rfl)|(apply z6 (cd);rfl;rfl))<;>conv=>whnf)
   all_goals try (exfalso;omega)
   all_goals (refine rsD [] [2] rfl ?_;(repeat' first|exact y78 _|refine z45 rfl rfl rfl rfl rfl ?_|apply z42|(apply z81;rfl)|constructor))
   all_goals exact z452 _
end Go.Proofs.YtahhobgjcfionaaGreat
namespace Go.Proofs.YtahhobgjcfionaaGreat
open Go.Gl
attribute [local irreducible] z19 AWP z36 z44 z39
end Go.Proofs.YtahhobgjcfionaaGreat
namespace Go.Proofs.YtahhobgjcfionaaGreat
open Go.Gl
attribute [local irreducible] z19 AWP z36 z44 z39 RetS z47
theorem z902 (t:Tree) (h:t.sz≤1000000):CallsA Tryz.prog 182 [z51 Tree.cs' t] [] (ownT t) [.cells 3 (t.kids.map Tree.cs')]:=by
 induction t using y24 with|h t ih=>?_
 have hkl:t.kids.length≤1000000:=by rw [y33] at h;omega
 have hks:∀ u∈t.kids,u.sz≤1000000:=fun u hu=>by
  have:=z410 Tree.sz hu
  rw [y33] at h;omega
 rw [y14 t]
 obtain ⟨k,v,l⟩:=t
 simp only [Tree.kind,Tree.val,Tree.kids] at *
 have hcs:∀ (i:Nat) (hi:i < l.length),CallsA Tryz.prog 182 [z51 Tree.cs' l[i]] [] (z51 Tree.cs' l[i]) []:=fun i hi =>
  z595 (ih _ (y37 _) (hks _ (y37 _)))
 unfold ownT
 simp only [Tree.kind,Tree.val,Tree.kids] at *
 refine z7 z16 Tryz.func182 rfl rfl 29 Tryz.ntmps182 (by simp) ?_
 repeat' (((apply y76 ok;rfl))<;>conv=>whnf)
 refine y77 (y80 3 rfl) ?_
 refine z65 (fun i:Nat=>([(1,.ptr 0 none 0),(2,.ptr 1 none 0),(3,.ptr 2 none 0),(4,.int i)],[.cells 3 [[.int k,.int v,lst 3 Tree.cs' l]],.cells 3 [[.int 0,.int 0,.nils]],.cells 3 [[.int k,.int v,.sref 3 0 i]],.cells 3 ((l.take i).map Tree.cs')])) (fun i=>i≤l.length) (fun i=>l.length - i) 0 (by omega) (by refine swR [0,1,2,3] [] rfl rfl ?_;(repeat' first|exact y78 _|exact z48|apply y79|refine z10 rfl (z32) ?_|constructor)) ?_
 intro i hi
 by_cases hil:i < l.length
 ·have hc:=hcs i hil
  repeat' ((first|(apply y76 ok;rfl)|(apply z31;kernel_rfl)|(apply y36;first|omega|(unfold inI;omega)|((try dsimp only);simp only [y42,y41,y40,y39,y51,y52];omega)|exact ⟨rfl,z18 rfl z25⟩)|(((with_reducible apply z8;omega));intro _)|((apply z5)<;>intro _)|(apply z6 (hc);rfl;rfl))<;>conv=>whnf)
  all_goals try (exfalso;omega)
  refine z23 (i+1) (by omega) (by omega) (by refine swR [0,1,2,5] [] rfl rfl ?_;(repeat' first|exact y78 _|apply y79|((refine z27 rfl ?_ ?_);(focus ((repeat' (first|exact z4 (fun _=>rfl)|apply z17));done)))|refine z106 (by omega) (by omega) ?_|constructor))
 ·have e:i=l.length:=by omega
  subst e
  rw [y49]
  repeat' ((first|(apply y76 ok;rfl)|(apply y36;omega)|(((with_reducible apply z8;omega));intro _)|((apply z5)<;>intro _))<;>conv=>whnf)
  all_goals try (exfalso;omega)
  all_goals (refine rsD [3] [] rfl ?_;(repeat' first|exact y78 _|exact z9 _|refine z10 rfl (z4 (fun _=>rfl)) ?_|constructor))
theorem z347 (t:Tree) (hs:t.sz≤1000):CallsA Tryz.prog 189 [z51 Tree.cs' t] [] (.tup [z51 Tree.cs' (if t.fmB=true∧(t.nrm false).fmB=true then t.nrm false else dftT),.bool (decide (t.fmB=true∧(t.nrm false).fmB=true))]) []:=by
 have cv:=z205 t (z162 t (by unfold maxLen;omega))
 by_cases h1:t.fmB=true
 ·have hg:=y21 h1
  have cp:=z1030 t hg false
  have hz:=y26 t hg false
  have cw:=z205 (t.nrm false) (z162 _ (by unfold maxLen;omega))
  rw [h1] at cv ⊢
  generalize t.nrm false=u at *
  by_cases h2:u.fmB=true
  ·rw [h2] at cw ⊢
   rw [if_pos ⟨rfl,rfl⟩,y73 ⟨rfl,rfl⟩]
   rw [y14 t] at cv cp ⊢
   rw [y14 u] at cp cw ⊢
   refine z7 z16 Tryz.func189 rfl rfl 16 Tryz.ntmps189 (by simp) ?_
   repeat' ((first|(apply y76 ok;rfl)|(apply z6 (cv);rfl;rfl)|(apply z6 (cp);rfl;rfl)|(apply z6 (cw);rfl;rfl))<;>conv=>whnf)
   all_goals (refine rsD [] [] rfl ?_;(repeat' first|exact y78 _|constructor))
  ·rw [if_neg (fun h=>h2 h.2),y74 (fun h=>h2 h.2)]
   rw [(y64 _).mp h2] at cw
   rw [y14 t] at cv cp ⊢
   rw [y14 u] at cp cw
   refine z7 z16 Tryz.func189 rfl rfl 16 Tryz.ntmps189 (by simp) ?_
   repeat' ((first|(apply y76 ok;rfl)|(apply z6 (cv);rfl;rfl)|(apply z6 (cp);rfl;rfl)|(apply z6 (cw);rfl;rfl))<;>conv=>whnf)
   all_goals (refine rsD [] [] rfl ?_;(repeat' first|exact y78 _|exact z52|apply z42|apply z88|constructor))
 ·rw [if_neg (fun h=>h1 h.1),y74 (fun h=>h1 h.1)]
  rw [(y64 _).mp h1] at cv
  rw [y14 t] at cv ⊢
  refine z7 z16 Tryz.func189 rfl rfl 16 Tryz.ntmps189 (by simp) ?_
  repeat' ((first|(apply y76 ok;rfl)|(apply z6 (cv);rfl;rfl))<;>conv=>whnf)
  all_goals (refine rsD [] [] rfl ?_;(repeat' first|exact y78 _|exact z52|apply z42|apply z88|constructor))
theorem z1054 (a:Tree):a.mx→∀ b:Tree,b.mx→CallsA Tryz.prog 263 [z51 Tree.cs' a,z51 Tree.cs' b] [] (.bool (decide (a=b))) []:=by
 induction a using y24 with|h a ih=>?_
 intro ha b hb
 rw [y25] at ha hb
 have hal:=ha.1
 have hbl:=hb.1
 unfold maxLen at hal hbl
 rw [y14,y14]
 by_cases hk:a.kind=b.kind∧a.val=b.val∧a.kids.length=b.kids.length
 ·obtain ⟨k1,k2,k3⟩:=hk
  have hiff:(a=b)↔∀ i (h:i < a.kids.length) (h2:i < b.kids.length),a.kids[i]=b.kids[i]:=⟨fun e=>by subst e;exact fun _ _ _=>rfl,fun h=>Tree.ext k1 k2 (y67 k3 h)⟩
  have hc:∀ i (h:i < a.kids.length) (h2:i < b.kids.length),CallsA Tryz.prog 263 [z51 Tree.cs' a.kids[i],z51 Tree.cs' b.kids[i]] [] (.bool (decide (a.kids[i]=b.kids[i]))) []:=fun i h h2=>ih _ (y37 _) (ha.2 _ (y37 _)) _ (hb.2 _ (y37 _))
  clear ih
  have hT:(∀ i (h:i < a.kids.length) (h2:i < b.kids.length),a.kids[i]=b.kids[i])→decide (a=b)=true:=fun h=>y73 (hiff.2 h)
  have hF:∀ i (h:i < a.kids.length) (h2:i < b.kids.length),a.kids[i]≠b.kids[i]→decide (a=b)=false:=fun i h h2 hne=>y74 fun e=>hne (hiff.1 e i h h2)
  generalize decide (a=b)=D at *
  clear hiff
  generalize a.kids=A at *
  generalize b.kids=B at *
  refine z7 z16 Tryz.func263 rfl rfl 46 Tryz.ntmps263 (by simp) ?_
  repeat' ((first|(apply y76 ok;rfl)|((apply z40)<;>intro _))<;>conv=>whnf)
  all_goals try (exfalso;omega)
  refine z65 (fun i:Nat=>([(2,.ptr 0 none 0),(3,.ptr 1 none 0),(5,.int i)],[.cells 3 [[.int a.kind,.int a.val,lst 3 Tree.cs' A]],.cells 3 [[.int b.kind,.int b.val,lst 3 Tree.cs' B]]])) (fun i=>i≤A.length∧∀ j (h:j < A.length) (h2:j < B.length),j < i→A[j]=B[j]) (fun i=>A.length - i) 0 ⟨y46 _,fun j _ _ h=>absurd h (Nat.not_lt_zero _)⟩ (by refine swR [0,1] [] rfl rfl ?_;(repeat' first|exact y78 _|apply y79|constructor)) ?_
  rintro i ⟨hi,hj⟩
  by_cases hil:i < A.length
  ·have hil2:i < B.length:=by omega
   have c1:=hc i hil hil2
   have gA:(A.map Tree.cs')[i]?=some (Tree.cs' A[i]):=by rw [y44,y38 hil];rfl
   have gB:(B.map Tree.cs')[i]?=some (Tree.cs' B[i]):=by rw [y44,y38 hil2];rfl
   by_cases he:A[i]=B[i]
   ·rw [y73 he] at c1
    have hj2:∀ j (h:j < A.length) (h2:j < B.length),j < i+1→A[j]=B[j]:=fun j h h2 hji=>by
     rcases y62 j i with h3|h3
     ·exact hj j h h2 h3
     ·obtain rfl:j=i:=by omega
      exact he
    generalize A[i]=x at *
    generalize B[i]=y at *
    repeat' ((first|(apply y76 ok;rfl)|(apply z31;kernel_rfl)|(refine z12 (i:=i) rfl gA ?_)|(refine z12 (i:=i) rfl gB ?_)|(apply y36;first|omega|(unfold inI;omega))|((apply z5)<;>intro _)|(apply z6 (c1);rfl;rfl))<;>conv=>whnf)
    all_goals try (exfalso;omega)
    all_goals refine z23 (i+1) ⟨by omega,hj2⟩ (by omega) (by refine swR [0,1] [] rfl rfl ?_;(repeat' first|exact y78 _|apply y79|constructor))
   ·rw [y74 he] at c1
    have hD:=hF i hil hil2 he
    subst hD
    generalize A[i]=x at *
    generalize B[i]=y at *
    repeat' ((first|(apply y76 ok;rfl)|(apply z31;kernel_rfl)|(refine z12 (i:=i) rfl gA ?_)|(refine z12 (i:=i) rfl gB ?_)|(apply y36;omega)|((apply z5)<;>intro _)|(apply z6 (c1);rfl;rfl))<;>conv=>whnf)
    all_goals try (exfalso;omega)
    all_goals (refine rsD [] [] rfl ?_;(repeat' first|exact y78 _|constructor))
  ·have hD:=hT (fun j h h2=>hj j h h2 (by omega))
   subst hD
   repeat' ((first|(apply y76 ok;rfl)|(apply y36;omega)|(((with_reducible apply z8;omega));intro _)|((apply z5)<;>intro _))<;>conv=>whnf)
   all_goals try (exfalso;omega)
   all_goals (refine rsD [] [] rfl ?_;(repeat' first|exact y78 _|constructor))
 ·rw [y74 (fun e=>hk (by subst e;exact ⟨rfl,rfl,rfl⟩))]
  clear ih
  refine z7 z16 Tryz.func263 rfl rfl 46 Tryz.ntmps263 (by simp) ?_
  repeat' ((first|(apply y76 ok;rfl)|((apply z40)<;>intro _))<;>conv=>whnf)
  all_goals first|(exfalso;omega)|(refine rsD [] [] rfl ?_;(repeat' first|exact y78 _|constructor))
theorem z687 (l:List Tree) (hl:l.length≤1000000) (hm:∀ t∈l,t.mx) (t:Tree) (ht:t.mx):CallsA Tryz.prog 236 [lst 3 Tree.cs' l,z51 Tree.cs' t] [] (.int (idxF (fun x=>decide (x=t)) l)) []:=by
 have hc:∀ i (h:i < l.length),CallsA Tryz.prog 263 [z51 Tree.cs' l[i],z51 Tree.cs' t] [] (.bool (decide (l[i]=t))) []:=fun i h=>z1054 _ (hm _ (y37 _)) _ ht
 rw [y14 t] at *
 refine z7 z16 Tryz.func236 rfl rfl 19 Tryz.ntmps236 (by simp) ?_
 repeat' (((apply y76 ok;rfl))<;>conv=>whnf)
 refine z65 (fun i:Nat=>([(0,lst 3 Tree.cs' l),(3,.ptr 0 none 0),(5,.int i)],[.cells 3 [[.int t.kind,.int t.val,lst 3 Tree.cs' t.kids]]])) (fun i=>i≤l.length∧∀ j (h:j < l.length),j < i→decide (l[j]=t)=false) (fun i=>l.length - i) 0 ⟨y46 _,fun j _ h=>absurd h (Nat.not_lt_zero _)⟩ (by refine swR [0] [] rfl rfl ?_;(repeat' first|exact y78 _|apply y79|constructor)) ?_
 rintro i ⟨hi,hj⟩
 by_cases hil:i < l.length
 ·have c1:=hc i hil
  have gl:(l.map Tree.cs')[i]?=some (Tree.cs' l[i]):=by rw [y44,y38 hil];rfl
  by_cases he:l[i]=t
  ·have e:idxF (fun x=>decide (x=t)) l=i:=z189 hil (y73 he) fun j h h2=>hj j h h2
   rw [e]
   rw [y73 he] at c1
   generalize l[i]=x at *
   repeat' ((first|(apply y76 ok;rfl)|(apply z31;kernel_rfl)|(refine z12 (i:=i) rfl gl ?_)|(apply y36;omega)|((apply z5)<;>intro _)|(apply z6 (c1);rfl;rfl))<;>conv=>whnf)
   all_goals try (exfalso;omega)
   all_goals (refine rsD [] [] rfl ?_;(repeat' first|exact y78 _|constructor))
  ·have hj2:∀ j (h:j < l.length),j < i+1→decide (l[j]=t)=false:=fun j h hji=>by
    rcases y62 j i with h3|h3
    ·exact hj j h h3
    ·obtain rfl:j=i:=by omega
     exact y74 he
   rw [y74 he] at c1
   generalize l[i]=x at *
   repeat' ((first|(apply y76 ok;rfl)|(apply z31;kernel_rfl)|(refine z12 (i:=i) rfl gl ?_)|(apply y36;first|omega|(unfold inI;omega))|((apply z5)<;>intro _)|(apply z6 (c1);rfl;rfl))<;>conv=>whnf)
   all_goals try (exfalso;omega)
   all_goals refine z23 (i+1) ⟨by omega,hj2⟩ (by omega) (by refine swR [0] [] rfl rfl ?_;(repeat' first|exact y78 _|apply y79|constructor))
 ·have e:idxF (fun x=>decide (x=t)) l=-1:=z190 fun j h=>hj j h (by omega)
  rw [e]
  repeat' ((first|(apply y76 ok;rfl)|(apply y36;omega)|(((with_reducible apply z8;omega));intro _)|((apply z5)<;>intro _))<;>conv=>whnf)
  all_goals try (exfalso;omega)
  all_goals (refine rsD [] [] rfl ?_;(repeat' first|exact y78 _|constructor))
theorem z1032 (t:Tree) (h:t.sz≤1000000):CallsA Tryz.prog 182 [z51 Tree.cs' t] [] (z51 Tree.cs' t) []:=z595 (z902 t h)
set_option maxHeartbeats 3200000 in
theorem z1029 (t:Tree):t.sz≤1000→∀ (o:List Tree),o.length+t.sz≤2000→(∀ x∈o,x.sz≤1000)→CallsA Tryz.prog 232 [.sref 0 0 o.length,z51 Tree.cs' t] [.cells 3 (o.map Tree.cs')] (.sref 1 0 (t.subs o).length) [.dead,.cells 3 ((t.subs o).map Tree.cs')]:=by
 induction t using y24 with|h t ih=>?_
 intro hs o ho hm
 have hsz:=y33 t
 have hkid:∀ k (h:k < t.kids.length),t.kids[k].sz≤1000:=fun k h=>by have:=z410 Tree.sz (y37 h);omega
 have hpre:∀ k,k≤t.kids.length→(Tree.subss (t.kids.take k) o).length≤o.length+((t.kids.take k).map fun u=>u.sz+1).sum∧∀ x∈Tree.subss (t.kids.take k) o,x.sz≤1000:=by
  intro k
  induction k with
  |zero=>intro _;exact ⟨by simp [Tree.subss],hm⟩
  |succ k ihk =>
   intro hk
   obtain ⟨a1,a2⟩:=ihk (by omega)
   obtain ⟨_,_,_,b4,b5,_⟩:=z376 t.kids[k] (Tree.subss (t.kids.take k) o)
   rw [y32 (by omega)]
   refine ⟨?_,fun x hx=>?_⟩
   ·rw [y43 (by omega),y56,List.sum_append]
    simp only [List.map_cons,List.map_nil,List.sum_cons,List.sum_nil]
    omega
   ·rcases b5 x hx with h|h
    ·exact a2 x h
    ·have:=hkid k (by omega);omega
 have hsum:∀ k,k≤t.kids.length→((t.kids.take k).map fun u=>u.sz+1).sum≤t.sz:=fun k hk=>by
  have h1:∀ l:List Tree,(l.map fun u=>u.sz+1).sum=l.length+(l.map Tree.sz).sum:=by
   intro l
   induction l with
   |nil=>rfl
   |cons a l ih=>simp only [List.map_cons,List.sum_cons,y51,ih];omega
  have h2:=z742 Tree.sz t.kids k
  rw [h1,y41];omega
 rw [y14 t,y30]
 have hl5:t.kids.length≤1000:=by omega
 have hfs:(∀ x∈Tree.subss t.kids o,x.sz≤1000):=by have:=(hpre t.kids.length (y45 _)).2;rwa [y49] at this
 have hfl:(Tree.subss t.kids o).length≤2000:=by have h1:=(hpre t.kids.length (y45 _)).1;have h2:=hsum t.kids.length (y45 _);rw [y49] at h1 h2;omega
 have cF:=z687 (Tree.subss t.kids o) (by omega) (fun x hx=>z162 x (by have:=hfs x hx;unfold maxLen;omega)) t (z162 t (by unfold maxLen;omega))
 have cC:=z1032 t (by omega)
 have hidx:=z243 (fun x=>decide (x=t)) (Tree.subss t.kids o)
 refine z7 z16 Tryz.func232 rfl rfl 30 Tryz.ntmps232 (by simp) ?_
 refine y77 (Reach.rnm 0 rfl) ?_
 conv=>whnf
 repeat' (((apply y76 ok;rfl))<;>conv=>whnf)
 refine z65 (fun x:Nat×List Tree=>([(0,.sref 1 0 x.2.length),(3,.ptr 2 none 0),(5,.int x.1)],[.dead,.cells 3 (x.2.map Tree.cs'),.cells 3 [[.int t.kind,.int t.val,lst 3 Tree.cs' t.kids]]])) (fun x=>x.1≤t.kids.length∧Tree.subss (t.kids.take x.1) o=x.2) (fun x=>t.kids.length - x.1) (0,o) ⟨y46 _,by simp [Tree.subss]⟩ (by refine swR [0,1,2] [] rfl rfl ?_;(repeat' first|exact y78 _|exact z9 _|apply y79|refine z10 rfl (z4 (fun _=>rfl)) ?_|constructor)) ?_
 rintro ⟨i,q⟩ ⟨hi,hq⟩
 dsimp only at hi hq ⊢
 obtain ⟨p1,p2⟩:=hpre i hi
 have p3:=hsum i hi
 rw [hq] at p1 p2
 have hql:q.length≤2000:=by omega
 by_cases hil:i < t.kids.length
 ·have ci:=ih t.kids[i] (y37 _) (hkid i hil) q (by
   have h1:=hsum (i+1) (by omega)
   rw [y43 hil,y56,List.sum_append] at h1
   simp only [List.map_cons,List.map_nil,List.sum_cons,List.sum_nil] at h1
   omega) p2
  have ht:=y32 hil o
  rw [hq] at ht
  have gk:(t.kids.map Tree.cs')[i]?=some (Tree.cs' t.kids[i]):=by rw [y44,y38 hil];rfl
  clear ih cF hidx
  generalize t.kids[i]=u at *
  generalize u.subs q=q' at *
  repeat' ((first|(apply y76 ok;rfl)|(refine z12 (i:=i) rfl gk ?_)|(apply y36;first|omega|(unfold inI;omega))|((apply z5)<;>intro _)|(apply z147 [1] [3] ci;rfl;(focus ((repeat' first|exact z55|apply z71)<;>(refine z82 rfl ?_;((exact z4 fun _=>rfl)))));rfl;(focus ((repeat' first|exact z15|apply z14)<;>first|exact z589|(refine z21 ?_;((exact z4 fun _=>rfl)))))))<;>conv=>whnf)
  all_goals try (exfalso;omega)
  all_goals refine z23 (i+1,q') ⟨by show i+1≤_;omega,ht⟩ (by show t.kids.length - (i+1) < t.kids.length - i;omega) (by refine swR [0,3,2] [] rfl rfl ?_;(repeat' first|exact y78 _|exact z9 _|apply y79|refine z10 rfl (z4 (fun _=>rfl)) ?_|constructor))
 ·obtain rfl:i=t.kids.length:=by omega
  rw [y49] at hq
  rw [hq] at cF hidx ⊢
  unfold addT
  by_cases hin:t∈q
  ·rw [if_pos hin]
   have hx:0≤idxF (fun x=>decide (x=t)) q:=by
    rw [List.any_eq_true.2 ⟨t,hin,by simp⟩] at hidx
    exact of_decide_eq_true hidx
   generalize idxF (fun x=>decide (x=t)) q=z at *
   rw [y14 t] at cF
   repeat' ((first|(apply y76 ok;rfl)|(apply y36;omega)|(((with_reducible apply z8;omega));intro _)|((apply z5)<;>intro _)|(apply z99 [] [1] [] cF;(focus (exact z54 (z300 rfl rfl rfl (by simp) (z37 (fun _=>rfl) _)) (z54 rfl z78)));rfl;rfl;(focus ((repeat' exact z15)<;>fail));((refine .inr ⟨rfl,?_⟩;repeat' exact True.intro))))<;>conv=>whnf)
   all_goals try (exfalso;omega)
   all_goals (refine rsD [0,1] [] rfl ?_;(repeat' first|exact y78 _|exact z9 _|refine z10 rfl (z4 (fun _=>rfl)) ?_|constructor))
  ·rw [if_neg hin]
   have hx:¬ 0≤idxF (fun x=>decide (x=t)) q:=fun h=>by
    rw [y73 h] at hidx
    obtain ⟨x,h1,h2⟩:=List.any_eq_true.1 hidx.symm
    rw [of_decide_eq_true h2] at h1
    exact hin h1
   generalize idxF (fun x=>decide (x=t)) q=z at *
   rw [y14 t] at cC cF
   repeat' ((first|(apply y76 ok;rfl)|(apply y36;first|omega|((try dsimp only);simp only [y42,y41,y40,y39,y51,y52];omega)|exact ⟨rfl,z18 rfl z25⟩)|(((with_reducible apply z8;omega));intro _)|((apply z5)<;>intro _)|(apply z6 (cC);rfl;rfl)|(apply z99 [] [1] [] cF;(focus (exact z54 (z300 rfl rfl rfl (by simp) (z37 (fun _=>rfl) _)) (z54 rfl z78)));rfl;rfl;(focus ((repeat' exact z15)<;>fail));((refine .inr ⟨rfl,?_⟩;repeat' exact True.intro))))<;>conv=>whnf)
   all_goals try (exfalso;omega)
   all_goals (refine rsD [0,4] [] rfl ?_;(repeat' first|exact y78 _|exact z357|(refine z34 ?_;((simp;done)))|((refine z27 rfl ?_ ?_);(focus ((repeat' (first|exact z4 (fun _=>rfl)|apply z17));done)))|(refine z69 ?_ ?_;(focus (omega)))|(apply z81;rfl)|constructor))
def fnL (N:Nat) (f:Nat→Int):List Int:=(List.range N).map f
theorem z95 (N:Nat) (f:Nat→Int):(fnL N f).length=N:=by simp [fnL]
theorem z152 {N u:Nat} (f:Nat→Int) (h:u < N):((fnL N f).map enI)[u]?=some (enI (f u)):=by
 unfold fnL
 rw [y44,y44,List.getElem?_range h];rfl
theorem fnL_set {N u:Nat} (f:Nat→Int) (x:Int):(fnL N f).set u x=fnL N (upd f u x):=by
 apply y67 (by simp [fnL])
 intro i h1 h2
 rw [List.getElem_set]
 simp only [fnL,List.getElem_map,List.getElem_range]
 split
 ·rename_i e;subst e;rw [z24]
 ·rename_i e;rw [z43 _ _ (fun h=>e h.symm)]
theorem z131 {N u:Nat} (f:Nat→Int) (x:Int):((fnL N f).map enI).set u (enI x)=(fnL N (upd f u x)).map enI:=by rw [← fnL_set,List.map_set]
def natL (l:List Nat):List Int:=l.map fun x:Nat=>(x:Int)
theorem z430 (l:List Nat):(natL l).length=l.length:=by simp [natL]
theorem natL_at {l:List Nat} {i:Nat} (h:i < l.length):((natL l).map enI)[i]?=some (enI (l[i]:Nat)):=by
 unfold natL
 rw [y44,y44,y38 h];rfl
theorem z467 {rows:List (List Int)} {u:Nat} (h:u < rows.length):(rows.map encL)[u]?=some (encL (rows.getD u [])):=by
 rw [y44,y38 h,z20 h];rfl
@[reducible] def visF:AC:=.fn (.func 245) [] [.ptr 0 none 0,.ptr 1 none 0,.ptr 3 none 0,.ptr 5 none 0,.ptr 6 none 0,.ptr 7 none 0,.ptr 8 none 0,.ptr 10 none 0]
@[reducible] def z1004 (rows:List (List Int)) (s:TS):List AObj:=[.cells 1 [[.int s.cnt]],.cells 1 [[.sref 2 0 rows.length]],.cells 1 ((fnL rows.length s.num).map enI),.cells 1 [[.sref 4 0 rows.length]],.cells 1 ((fnL rows.length s.low).map enI),.cells 1 [[.own 1 ((natL s.stk).map enI)]],.cells 1 [[lst 1 encL rows]],.cells 1 [[visF]],.cells 1 [[.sref 9 0 rows.length]],.cells 1 ((fnL rows.length s.part).map enI),.cells 1 [[.int s.prt]]]
set_option maxHeartbeats 12800000 in
theorem z865 (rows : List (List Int)) (hr : ∀ r ∈ rows, InN rows.length r) (hN : rows.length ≤ 100000) (hrl : ∀ r ∈ rows, r.length ≤ 1000000000) : ∀ (f : Nat) (s : TS) (g : List Nat) (u : Nat), unvN rows.length s.num ≤ f → TI rows s g → s.num u = 0 → u < rows.length → (∀ x ∈ g, RN rows x u) → s.prt ≤ s.cnt →
  CallsA Tryz.prog 245 [.int (u:Int),.ptr 0 none 0,.ptr 1 none 0,.ptr 3 none 0,.ptr 5 none 0,.ptr 6 none 0,.ptr 7 none 0,.ptr 8 none 0,.ptr 10 none 0] (z1004 rows s) (.tup []) (z1004 rows (z213 rows f u s)):=by
 intro f
 induction f with
 |zero =>
  intro s g u hf _ h0 hu _ _
  have:=z956 (num:=s.num) hu h0
  omega
 |succ f ih =>
  intro s g u hf hI h0 hu hg hsp
  have hTL:=z1099 hr hf hI h0 hu hg
  have hc0:s.cnt≤100000:=by have:=hI.ct;omega
  have gr:=z467 hu
  have hrow:=z197 hr (u:Int)
  rw [y69] at hrow
  have hrowl:(rows.getD u []).length≤1000000000:=by rw [z20 hu];exact hrl _ (y37 _)
  have hte:z213 rows (f+1) u s=tEnd u ((rows.getD u []).foldl (z337 (z213 rows f) u) (z183 u s)):=rfl
  generalize hR:z213 rows (f+1) u s=R at *
  generalize hrw:rows.getD u []=row at *
  have e1:=z131 (N:=rows.length) (u:=u) s.num (s.cnt+1)
  have e2:=z131 (N:=rows.length) (u:=u) s.low (s.cnt+1)
  have g1:=z152 s.num hu
  have g2:=z152 s.low hu
  have l1:=z95 rows.length s.num
  have l2:=z95 rows.length s.low
  have hsl:s.stk.length≤100000:=by
   have:=z129 rows.length (natL s.stk) ?_ ?_
   ·rw [z430] at this;omega
   ·exact (hI.nd).map _ fun a b h=>by omega
   ·intro x hx
    obtain ⟨y,hy,rfl⟩:=List.mem_map.1 hx
    have:=hI.lt y ((hI.stk y).1 hy).1
    omega
  refine z7 z16 Tryz.func245 rfl rfl 105 Tryz.ntmps245 (by simp) ?_
  repeat' ((first|((fail_if_success apply z151 2);(fail_if_success apply z112 2);apply y76 ok;rfl)|(apply z31;kernel_rfl)|(refine z12 (i:=u) rfl g1 ?_)|(refine z12 (i:=u) rfl g2 ?_)|(apply y36;first|omega|(unfold inI;omega)))<;>conv=>whnf)
  refine y77 (Gl.Reach.expose 5 0 0 rfl rfl rfl (z239 (fun _=>rfl) _) rfl) ?_
  conv=>whnf
  repeat' ((first|((fail_if_success apply z151 3);(fail_if_success apply z112 3);apply y76 ok;rfl)|(refine y36 ?_ ?_;(focus (dsimp only;simp only [y42,z430];omega)))|(refine z12 (i:=u) rfl gr ?_)|(apply y36;first|omega|exact ⟨rfl,z18 rfl z25⟩))<;>conv=>whnf)
  refine y77 (Gl.Reach.absorb 5 13 0 0 rfl rfl rfl rfl (by simp) rfl (z92 (fun e he=>(z4 (fun _=>rfl)) e (List.mem_of_mem_take he)) (z223 rfl z32)) rfl) ?_
  conv=>whnf
  have e3:((natL s.stk).map enI).take ((natL s.stk).map enI).length++[enI (u:Int)]=(natL (s.stk++[u])).map enI:=by
   rw [y49];unfold natL;simp
  obtain ⟨T,hT⟩:∃ T:Nat→TS,T=fun k=>(row.take k).foldl (z337 (z213 rows f) u) (z183 u s):=⟨_,rfl⟩
  have hT0:T 0=z183 u s:=by rw [hT];rfl
  have hTs:∀ k (hk:k < row.length),T (k+1)=z337 (z213 rows f) u (T k) row[k]:=fun k hk=>by
   rw [hT]
   show (row.take (k+1)).foldl _ _=_
   rw [y43 hk,y55];rfl
  have hTn:R=tEnd u (T row.length):=by
   rw [hT,hte]
   show _=tEnd u ((row.take row.length).foldl _ _)
   rw [y49]
  have hTT:∀ k,k≤row.length→TL rows s (T k) g u (row.take k):=fun k hk=>by rw [hT];exact hTL k hk
  clear hT hTL hte hR
  have f1:(T 0).num=upd s.num u (s.cnt+1):=by rw [hT0];rfl
  have f2:(T 0).low=upd s.low u (s.cnt+1):=by rw [hT0];rfl
  have f3:(T 0).stk=s.stk++[u]:=by rw [hT0];rfl
  have f4:(T 0).cnt=s.cnt+1:=by rw [hT0];rfl
  have f5:(T 0).part=s.part:=by rw [hT0];rfl
  have f6:(T 0).prt=s.prt:=by rw [hT0];rfl
  refine z65 (fun k:Nat=>([(0,.int (u:Int)),(1,.ptr 0 none 0),(2,.ptr 1 none 0),(3,.ptr 3 none 0),(4,.ptr 5 none 0),(5,.ptr 6 none 0),(6,.ptr 7 none 0),(7,.ptr 8 none 0),(8,.ptr 10 none 0),(30,ints row),(31,.int row.length),(32,.int k)],[.cells 1 [[.int (T k).cnt]],.cells 1 [[.sref 2 0 rows.length]],.cells 1 ((fnL rows.length (T k).num).map enI),.cells 1 [[.sref 4 0 rows.length]],.cells 1 ((fnL rows.length (T k).low).map enI),.cells 1 [[.own 1 ((natL (T k).stk).map enI)]],.cells 1 [[lst 1 encL rows]],.cells 1 [[visF]],.cells 1 [[.sref 9 0 rows.length]],.cells 1 ((fnL rows.length (T k).part).map enI),.cells 1 [[.int (T k).prt]]])) (fun k=>k≤row.length) (fun k=>row.length - k) 0 (y46 _) (by refine swR [0,1,2,3,4,5,6,7,8,9,10] [] rfl rfl ?_;(repeat' first|exact y78 _|(refine z101 ?_;omega)|apply y79|refine z41 rfl (z4 (fun _=>rfl)) ?_|refine z10 rfl (z4 (fun _=>rfl)) ?_|constructor)<;>(first|(refine z26 ?_;rw [f1];exact e1)|(refine z26 ?_;rw [f2];exact e2)|(rw [f5];exact z9 _)|(rw [f3];refine y8 ?_;rw [← e3];rfl))) ?_
  clear f1 f2 f3 f4 f5 f6 hT0 e1 e2 e3 g1 g2 l1 l2
  intro k hk
  have hL:=hTT k hk
  have hLI:=hL.inv
  have hL2:=hL.num
  have gu1:=z152 (T k).num hu
  have gu2:=z152 (T k).low hu
  have l1:=z95 rows.length (T k).num
  have l2:=z95 rows.length (T k).low
  have l3:=z95 rows.length (T k).part
  by_cases hk2:k < row.length
  ·have hs2:=hTs k hk2
   have gk:(row.map enI)[k]?=some (enI row[k]):=by rw [y44,y38 hk2];rfl
   have hv:=hrow _ (y37 hk2)
   have hvm:row[k]∈rows.getD u []:=by rw [hrw];exact y37 hk2
   generalize row[k]=v at *
   obtain ⟨w,rfl⟩:∃ w:Nat,v=w:=⟨v.toNat,by omega⟩
   have hw:w < rows.length:=by omega
   have gw1:=z152 (T k).num hw
   have gw3:=z152 (T k).part hw
   unfold z337 at hs2
   simp only [y69] at hs2
   have hnx:k+1≤row.length:=hk2
   generalize hS:T k=S at *
   generalize hS2:T (k+1)=S2 at *
   by_cases hw0:S.num w=0
   ·rw [if_pos hw0] at hs2
    have cW:=ih S (u::g) w (by have h1:=hL.cnt;have h2:=hLI.ct;have h3:=hI.ct;omega) hLI hw0 hw (fun x hx=>by
     rcases List.mem_cons.1 hx with rfl|hx
     ·exact .edge hvm
     ·exact (hg x hx).trans (.edge hvm)) (by have:=hL.prt;omega)
    generalize z213 rows f w S=S1 at *
    have hu1:=z152 S1.low hu
    have hw1:=z152 S1.low hw
    have l4:=z95 rows.length S1.low
    have e1:=z131 (N:=rows.length) (u:=u) S1.low (min (S1.low u) (S1.low w))
    have q1:S2.low=upd S1.low u (min (S1.low u) (S1.low w)):=by rw [hs2];rfl
    have q2:S2.num=S1.num:=by rw [hs2];rfl
    have q3:S2.part=S1.part:=by rw [hs2];rfl
    have q4:S2.stk=S1.stk:=by rw [hs2];rfl
    have q5:S2.cnt=S1.cnt:=by rw [hs2];rfl
    have q6:S2.prt=S1.prt:=by rw [hs2];rfl
    repeat' ((first|((fail_if_success apply z151 8);(fail_if_success apply z112 8);apply y76 ok;rfl)|(apply z31;kernel_rfl)|(refine z12 (i:=k) rfl gk ?_)|(refine z12 (i:=w) rfl gw1 ?_)|(apply y36;omega)|(((apply z8;omega));intro _)|((apply z5)<;>intro _)|(apply z147 [0,1,2,3,4,5,6,7,8,9,10] [] cW;rfl;(focus ((repeat' first|exact z55|apply z71)<;>first|rfl|(refine z82 rfl ?_;((exact z4 fun _=>rfl)))));rfl;(focus ((repeat' first|exact z15|apply z14)<;>first|exact z46 rfl rfl|(refine z21 ?_;((exact z4 fun _=>rfl)))))))<;>conv=>whnf)
    all_goals try (exfalso;omega)
    repeat' ((first|(apply y76 ok;rfl)|(apply z31;kernel_rfl)|(refine z12 (i:=u) rfl hu1 ?_)|(refine z12 (i:=w) rfl hw1 ?_)|(apply y36;first|omega|(unfold inI;omega)))<;>conv=>whnf)
    all_goals refine z23 (k+1) hk2 (by omega) ?_
    all_goals dsimp only
    all_goals rw [hS2,q2,q3,q4,q5,q6,q1]
    all_goals exact (by refine swR [0,1,2,3,4,5,6,7,8,9,10] [] rfl rfl ?_;(repeat' first|exact y78 _|exact z9 _|apply y79|refine z41 rfl (z4 (fun _=>rfl)) ?_|refine z10 rfl (z4 (fun _=>rfl)) ?_|constructor)<;>((refine z26 ?_;exact e1)))
   ·rw [if_neg hw0] at hs2
    by_cases hp0:S.part w < 0
    ·rw [if_pos hp0] at hs2
     have e1:=z131 (N:=rows.length) (u:=u) S.low (min (S.low u) (S.num w))
     have q1:S2.low=upd S.low u (min (S.low u) (S.num w)):=by rw [hs2];rfl
     have q2:S2.num=S.num:=by rw [hs2];rfl
     have q3:S2.part=S.part:=by rw [hs2];rfl
     have q4:S2.stk=S.stk:=by rw [hs2];rfl
     have q5:S2.cnt=S.cnt:=by rw [hs2];rfl
     have q6:S2.prt=S.prt:=by rw [hs2];rfl
     repeat' ((first|(apply y76 ok;rfl)|(apply z31;kernel_rfl)|(refine z12 (i:=k) rfl gk ?_)|(refine z12 (i:=w) rfl gw1 ?_)|(refine z12 (i:=w) rfl gw3 ?_)|(refine z12 (i:=u) rfl gu2 ?_)|(apply y36;first|omega|(unfold inI;omega))|(((apply z8;omega));intro _)|((apply z5)<;>intro _))<;>conv=>whnf)
     all_goals try (exfalso;omega)
     all_goals refine z23 (k+1) hk2 (by omega) ?_
     all_goals dsimp only
     all_goals rw [hS2,q2,q3,q4,q5,q6,q1]
     all_goals exact (by refine swR [0,1,2,3,4,5,6,7,8,9,10] [] rfl rfl ?_;(repeat' first|exact y78 _|exact z9 _|apply y79|refine z41 rfl (z4 (fun _=>rfl)) ?_|refine z10 rfl (z4 (fun _=>rfl)) ?_|constructor)<;>((refine z26 ?_;exact e1)))
    ·rw [if_neg hp0] at hs2
     repeat' ((first|(apply y76 ok;rfl)|(apply z31;kernel_rfl)|(refine z12 (i:=k) rfl gk ?_)|(refine z12 (i:=w) rfl gw1 ?_)|(refine z12 (i:=w) rfl gw3 ?_)|(apply y36;first|omega|(unfold inI;omega))|(((apply z8;omega));intro _)|((apply z5)<;>intro _))<;>conv=>whnf)
     all_goals try (exfalso;omega)
     all_goals refine z23 (k+1) hk2 (by omega) ?_
     all_goals dsimp only
     all_goals rw [hS2,hs2]
     all_goals exact (by refine swR [0,1,2,3,4,5,6,7,8,9,10] [] rfl rfl ?_;(repeat' first|exact y78 _|exact z9 _|apply y79|refine z10 rfl (z4 (fun _=>rfl)) ?_|constructor))
  ·obtain rfl:k=row.length:=by omega
   have hpf:=hL.pref
   have hsu:u ∉ s.stk:=fun hm=>((hI.stk u).1 hm).1 h0
   have hnd:=hLI.nd
   have hpp:(T row.length).prt≤100001:=by have h1:=hL.prt;have h2:=hLI.ct;have h3:=hI.ct;have h4:=hL.cnt;omega
   generalize hS:T row.length=S at *
   unfold tEnd at hTn
   by_cases he:S.low u=S.num u
   ·rw [if_pos he] at hTn
    obtain ⟨B,hB⟩:=hpf
    have hcut:=z817 (A:=s.stk) (B:=B) hsu
    have hLl:S.stk.length=s.stk.length+1+B.length:=by rw [hB];simp;omega
    have hLs:S.stk.length≤100000:=by
     have:=z129 rows.length (natL S.stk) ?_ ?_
     ·rw [z430] at this;omega
     ·exact hnd.map _ fun a b h=>by omega
     ·intro x hx
      obtain ⟨y,hy,rfl⟩:=List.mem_map.1 hx
      have:=hLI.lt y ((hLI.stk y).1 hy).1
      omega
    have r1:R.stk=S.stk.take s.stk.length:=by
     rw [hTn];show S.stk.takeWhile _=_
     rw [hB,hcut.1];simp
    have r2:R.part=fun x=>if x∈S.stk.drop s.stk.length then (S.prt:Int) else S.part x:=by
     rw [hTn];show (fun x=>if x∈S.stk.dropWhile _ then _ else _)=_
     rw [hB,hcut.2];simp
    have r3:R.num=S.num:=by rw [hTn];rfl
    have r4:R.low=S.low:=by rw [hTn];rfl
    have r5:R.cnt=S.cnt:=by rw [hTn];rfl
    have r6:R.prt=S.prt+1:=by rw [hTn];rfl
    have hat:∀ j (hj:j < S.stk.length),(S.stk[j]=u↔j=s.stk.length):=by
     intro j hj
     have hu2:S.stk[s.stk.length]'(by omega)=u:=by simp [hB]
     constructor
     ·intro e
      have hne:=List.pairwise_iff_getElem.1 (List.nodup_iff_pairwise_ne.1 hnd)
      rcases Nat.lt_trichotomy j s.stk.length with h|h|h
      ·exact absurd (e.trans hu2.symm) (hne j s.stk.length hj (by omega) h)
      ·exact h
      ·exact absurd (hu2.trans e.symm) (hne s.stk.length j (by omega) hj h)
     ·rintro rfl;exact hu2
    have hlt:∀ j (hj:j < S.stk.length),S.stk[j] < rows.length:=fun j hj=>hLI.lt _ ((hLI.stk _).1 (y37 hj)).1
    have sl:=z430 S.stk
    repeat' ((first|((fail_if_success apply z151 14);(fail_if_success apply z112 14);apply y76 ok;rfl)|(apply z31;kernel_rfl)|(refine z12 (i:=u) rfl gu1 ?_)|(refine z12 (i:=u) rfl gu2 ?_)|(apply y36;omega)|((first|(with_reducible apply z8;omega)|(apply z8;omega));intro _)|((apply z5)<;>intro _))<;>conv=>whnf)
    all_goals try (exfalso;omega)
    refine y77 (Gl.Reach.expose 5 0 0 rfl rfl rfl (z239 (fun _=>rfl) _) rfl) ?_
    obtain ⟨pm,hpm⟩:∃ pm:Nat→Nat→Int,pm=fun m x=>if x∈S.stk.drop m then (S.prt:Int) else S.part x:=⟨_,rfl⟩
    have hpm0:pm S.stk.length=S.part:=by rw [hpm];funext x;simp
    have hpmE:pm s.stk.length=R.part:=by rw [hpm,r2]
    have hpmS:∀ m (hm:m < S.stk.length),pm m=upd (pm (m+1)) S.stk[m] S.prt:=by
     intro m hm
     funext x
     by_cases hx:x=S.stk[m]
     ·rw [hx,z24,hpm]
      dsimp only
      rw [if_pos]
      rw [y71 hm]
      exact List.mem_cons_self
     ·rw [z43 _ _ hx,hpm]
      dsimp only
      rw [y71 hm]
      simp only [List.mem_cons,hx,false_or]
    clear hpm
    refine z65 (fun m:Nat=>([(0,.int (u:Int)),(1,.ptr 0 none 0),(2,.ptr 1 none 0),(3,.ptr 3 none 0),(4,.ptr 5 none 0),(5,.ptr 6 none 0),(6,.ptr 7 none 0),(7,.ptr 8 none 0),(8,.ptr 10 none 0),(12,.int ((natL S.stk).getD m (-1)))],[.cells 1 [[.int S.cnt]],.cells 1 [[.sref 2 0 rows.length]],.cells 1 ((fnL rows.length S.num).map enI),.cells 1 [[.sref 4 0 rows.length]],.cells 1 ((fnL rows.length S.low).map enI),.cells 1 [[.sref 11 0 m]],.cells 1 [[lst 1 encL rows]],.cells 1 [[visF]],.cells 1 [[.sref 9 0 rows.length]],.cells 1 ((fnL rows.length (pm m)).map enI),.cells 1 [[.int S.prt]],.cells 1 ((natL S.stk).map enI)])) (fun m=>s.stk.length≤m∧m≤S.stk.length) (fun m=>m) S.stk.length ⟨by omega,y45 _⟩ (by refine swR [0,1,2,3,4,5,6,7,8,9,10,11] [] rfl rfl ?_;(repeat' first|exact y78 _|exact z9 _|(refine z34 ?_;((simp;omega)))|apply y79|refine z10 rfl (z4 (fun _=>rfl)) ?_|constructor)<;>(first|(rw [hpm0];exact z9 _)|(refine z101 ?_;simp [natL]))) ?_
    rintro m ⟨hm1,hm2⟩
    by_cases hm:m=s.stk.length
    ·subst hm
     have htop:(natL S.stk).getD s.stk.length (-1)=(u:Int):=by
      rw [z20 (by rw [sl];omega)]
      unfold natL
      rw [List.getElem_map,(hat _ (by omega)).2 rfl]
     rw [htop]
     repeat' ((first|((fail_if_success apply z151 18);(fail_if_success apply z112 18);apply y76 ok;rfl)|(apply y36;omega)|(((apply z8;omega));intro _)|((apply z40)<;>intro _))<;>conv=>whnf)
     all_goals try (exfalso;omega)
     refine y77 (Gl.Reach.trunc 11 s.stk.length rfl rfl) ?_
     refine y77 (Gl.Reach.absorb 5 11 0 0 rfl rfl rfl rfl (by simp [natL];omega) rfl (fun e he=>(z4 (fun _=>rfl)) e (List.mem_of_mem_take he)) rfl) ?_
     conv=>whnf
     repeat' ((first|(apply y76 ok;rfl)|(apply y36;(unfold inI;omega)))<;>conv=>whnf)
     have eR:z1004 rows R=[.cells 1 [[.int S.cnt]],.cells 1 [[.sref 2 0 rows.length]],.cells 1 ((fnL rows.length S.num).map enI),.cells 1 [[.sref 4 0 rows.length]],.cells 1 ((fnL rows.length S.low).map enI),.cells 1 [[.own 1 (((natL S.stk).map enI).take s.stk.length)]],.cells 1 [[lst 1 encL rows]],.cells 1 [[visF]],.cells 1 [[.sref 9 0 rows.length]],.cells 1 ((fnL rows.length (pm s.stk.length)).map enI),.cells 1 [[.int ((S.prt+1:Nat):Int)]]]:=by
      unfold z1004
      rw [r1,r3,r4,r5,r6,hpmE]
      simp [natL,List.map_take]
     rw [eR]
     (refine rsD [0,1,2,3,4,5,6,7,8,9,10] [] rfl ?_;(repeat' first|exact y78 _|exact z9 _|apply y79|refine z10 rfl (z4 (fun _=>rfl)) ?_|constructor))
    ·obtain ⟨m,rfl⟩:∃ m',m=m'+1:=⟨m - 1,by omega⟩
     have hmL:m < S.stk.length:=by omega
     have htop:(natL S.stk).getD (m+1) (-1)≠(u:Int):=by
      by_cases h:m+1 < S.stk.length
      ·rw [z20 (by rw [sl];exact h)]
       unfold natL
       rw [List.getElem_map]
       have:=(hat (m+1) h)
       omega
      ·rw [y60,y61 (by rw [sl];omega)]
       show (-1:Int)≠u
       omega
     have hnx:(natL S.stk).getD m (-1)=((S.stk[m]:Nat):Int):=by
      rw [z20 (by rw [sl];exact hmL)]
      unfold natL
      rw [List.getElem_map]
     have gst:=natL_at hmL
     have hwN:=hlt m hmL
     have hps:=hpmS m hmL
     generalize S.stk[m]=w at *
     have gw:=z152 (pm (m+1)) hwN
     have e1:=z131 (N:=rows.length) (u:=w) (pm (m+1)) S.prt
     rw [← hps] at e1
     generalize (natL S.stk).getD (m+1) (-1)=tp at *
     repeat' ((first|(apply y76 ok;rfl)|(refine z12 (i:=m) ?_ gst ?_;(focus (omega)))|(refine z12 (i:=w) rfl gw ?_)|(apply y36;first|omega|(unfold inI;omega))|((apply z40)<;>intro _))<;>conv=>whnf)
     all_goals try (exfalso;omega)
     all_goals refine z23 m ⟨by omega,by omega⟩ (by omega) ?_
     all_goals dsimp only
     all_goals rw [hnx]
     all_goals exact (by refine swR [0,1,2,3,4,5,6,7,8,9,10,11] [] rfl rfl ?_;(repeat' first|exact y78 _|exact z9 _|(refine z34 ?_;(omega))|apply y79|refine z41 rfl (z4 (fun _=>rfl)) ?_|refine z10 rfl (z4 (fun _=>rfl)) ?_|constructor)<;>((refine z26 ?_;exact e1)))
   ·rw [if_neg he] at hTn
    subst hTn
    repeat' ((first|(apply y76 ok;rfl)|(apply z31;kernel_rfl)|(refine z12 (i:=u) rfl gu1 ?_)|(refine z12 (i:=u) rfl gu2 ?_)|(apply y36;omega)|((first|(with_reducible apply z8;omega)|(apply z8;omega));intro _)|((apply z5)<;>intro _))<;>conv=>whnf)
    all_goals try (exfalso;omega)
    all_goals (refine rsD [0,1,2,3,4,5,6,7,8,9,10] [] rfl ?_;(repeat' first|exact y78 _|exact z9 _|apply y79|refine z10 rfl (z4 (fun _=>rfl)) ?_|constructor))
theorem z899 (t:Tree):CallsA Tryz.prog 233 [z51 Tree.cs' t] [] (.bool (z89 t)) []:=by
 rw [y14]
 unfold z89
 refine z7 z16 Tryz.func233 rfl rfl 21 Tryz.ntmps233 (by simp) ?_
 repeat' ((first|(apply y76 ok;rfl)|((apply z5)<;>intro _))<;>conv=>whnf)
 all_goals (refine rsL [] [] rfl ?_;refine RetS.done (z803 ?_) .nil;first|(rw [y73 (by omega)];done)|(rw [decide_eq_decide];omega))
set_option maxHeartbeats 3200000 in
theorem z1079 (t:Tree) (hs:t.sz≤200):CallsA Tryz.prog 188 [z51 Tree.cs' t] [] (.tup [lst 3 Tree.cs' (if bscB t then bscL (t.nrm false) else []),.bool (bscB t)]) []:=by
 have cn:=z347 t (by omega)
 unfold bscB
 by_cases h:t.fmB=true∧(t.nrm false).fmB=true
 ·rw [if_pos h,y73 h] at cn
  have hz:=y26 t (y21 h.1) false
  have hd:decide ((t.fmB=true∧(t.nrm false).fmB=true)∧(bscL (t.nrm false)).length≤5)=decide ((bscL (t.nrm false)).length≤5):=by
   rw [decide_eq_decide];exact ⟨fun h=>h.2,fun h2=>⟨h,h2⟩⟩
  rw [hd]
  clear hd h
  generalize t.nrm false=u at *
  have cS:=(z1029 u (by omega) [] (by simp;omega) (fun x hx=>by cases hx)).arg (args0:=[.nils,z51 Tree.cs' u]) (by (repeat' first|exact y78 _|exact z48|constructor))
  obtain ⟨_,_,_,hl,hz2,_⟩:=z376 u []
  unfold bscL
  simp only [y52,Nat.zero_add] at hl
  generalize u.subs []=L at *
  have hb:∀ k (hk:k < L.length),CallsA Tryz.prog 233 [z51 Tree.cs' L[k]] [] (.bool (z89 L[k])) []:=fun k hk=>z899 _
  rw [y14 u] at cn cS
  refine z7 z16 Tryz.func188 rfl rfl 43 Tryz.ntmps188 (by simp) ?_
  repeat' ((first|((fail_if_success apply z151 5);(fail_if_success apply z112 5);apply y76 ok;rfl)|(apply z6 (cn);rfl;rfl))<;>conv=>whnf)
  refine y77 (y80 3 rfl) ?_
  repeat' ((first|(apply y76 ok;rfl)|(apply z11 [3] [4] cS;rfl;rfl;rfl;(focus ((repeat' first|exact z15|apply z14)<;>first|exact z589|(refine z21 ?_;((exact z4 fun _=>rfl)))))))<;>conv=>whnf)
  refine z65 (fun x:Nat×List Tree=>([(6,.sref 0 0 x.2.length),(7,.sref 1 0 L.length),(8,.int x.1)],[.cells 3 (x.2.map Tree.cs'),.cells 3 (L.map Tree.cs')])) (fun x=>x.1≤L.length∧(L.take x.1).filter z89=x.2) (fun x=>L.length - x.1) (0,[]) ⟨y46 _,rfl⟩ (by refine swR [2,4] [] rfl rfl ?_;(repeat' first|exact y78 _|exact z9 _|((refine z10 rfl ?_ ?_);(focus ((repeat' (first|exact z32|exact z4 (fun _=>rfl)));done)))|constructor)) ?_
  rintro ⟨k,O⟩ ⟨hk,hO⟩
  dsimp only at hk hO ⊢
  have hOl:O.length≤L.length:=by
   rw [← hO]
   have:=List.length_filter_le z89 (L.take k)
   rw [y41] at this
   omega
  by_cases hkl:k < L.length
  ·have gk:(L.map Tree.cs')[k]?=some (Tree.cs' L[k]):=by rw [y44,y38 hkl];rfl
   have cb:=hb k hkl
   have ht:(L.take (k+1)).filter z89=O++(if z89 L[k]=true then [L[k]] else []):=by
    rw [y43 hkl,List.filter_append,hO]
    congr 1
    by_cases hb:z89 L[k]=true
    ·rw [if_pos hb,List.filter_cons_of_pos hb];rfl
    ·rw [if_neg hb,List.filter_cons_of_neg hb];rfl
   generalize L[k]=y at *
   by_cases hy:z89 y=true
   ·rw [hy] at cb
    rw [if_pos hy] at ht
    repeat' ((first|(apply y76 ok;rfl)|(refine z12 (i:=k) rfl gk ?_)|(apply y36;first|omega|(unfold inI;omega)|((try dsimp only);simp only [y42,y41,y40,y39,y51,y52];omega)|exact ⟨rfl,z18 rfl z25⟩)|((apply z5)<;>intro _)|(apply z6 (cb);rfl;rfl))<;>conv=>whnf)
    all_goals try (exfalso;omega)
    all_goals refine z23 (k+1,O++[y]) ⟨by show k+1≤_;omega,ht⟩ (by show L.length - (k+1) < L.length - k;omega) (by refine swR [3,1] [] rfl rfl ?_;(repeat' first|exact y78 _|exact z9 _|(refine z34 ?_;((simp;done)))|((first|refine z27 rfl ?_ ?_|refine z10 rfl ?_ ?_);(focus ((repeat' (first|exact z4 (fun _=>rfl)|apply z17));done)))|(refine z69 ?_ ?_;(focus (omega)))|constructor))
   ·rw [(y64 _).mp hy] at cb
    rw [if_neg hy,y57] at ht
    repeat' ((first|(apply y76 ok;rfl)|(refine z12 (i:=k) rfl gk ?_)|(apply y36;first|omega|(unfold inI;omega))|((apply z5)<;>intro _)|(apply z6 (cb);rfl;rfl))<;>conv=>whnf)
    all_goals try (exfalso;omega)
    all_goals refine z23 (k+1,O) ⟨by show k+1≤_;omega,ht⟩ (by show L.length - (k+1) < L.length - k;omega) (by refine swR [0,1] [] rfl rfl ?_;(repeat' first|exact y78 _|exact z9 _|refine z10 rfl (z4 (fun _=>rfl)) ?_|constructor))
  ·obtain rfl:k=L.length:=by omega
   rw [y49] at hO
   rw [hO]
   by_cases h5:O.length≤5
   ·rw [y73 h5,if_pos rfl]
    repeat' ((first|(apply y76 ok;rfl)|(apply y36;omega)|(((apply z8;omega));intro _)|((apply z5)<;>intro _))<;>conv=>whnf)
    all_goals try (exfalso;omega)
    all_goals (refine rsD [] [0] rfl ?_;(repeat' first|exact y78 _|((apply z45 rfl rfl rfl);(focus ((repeat ((exact z37 (fun _=>rfl) _)));done));(focus (((simp;done));done)))|apply z88|constructor))
   ·rw [y74 h5,if_neg (by simp)]
    repeat' ((first|(apply y76 ok;rfl)|(apply y36;omega)|(((apply z8;omega));intro _)|((apply z5)<;>intro _))<;>conv=>whnf)
    all_goals try (exfalso;omega)
    all_goals (refine rsD [] [2] rfl ?_;(repeat' first|exact y78 _|constructor))
 ·rw [if_neg h,y74 h] at cn
  have hd:decide ((t.fmB=true∧(t.nrm false).fmB=true)∧(bscL (t.nrm false)).length≤5)=false:=y74 fun h2=>h h2.1
  rw [hd,if_neg (by simp)]
  refine z7 z16 Tryz.func188 rfl rfl 43 Tryz.ntmps188 (by simp) ?_
  repeat' ((first|(apply y76 ok;rfl)|(apply z6 (cn);rfl;rfl))<;>conv=>whnf)
  all_goals (refine rsD [] [2] rfl ?_;(repeat' first|exact y78 _|constructor))
theorem z274 (x a:Int) (h0:0≤x) (h1:x≤31) (h2:0≤a) (h3:a≤5):CallsA Tryz.prog 235 [.int x,.int a] [] (.bool (hasB x a)) []:=by
 have ha:a=0∨a=1∨a=2∨a=3∨a=4∨a=5:=by omega
 have h5:0≤x / 2 ^ a.toNat∧x / 2 ^ a.toNat≤31:=by
  rcases ha with rfl|rfl|rfl|rfl|rfl|rfl<;>simp<;>omega
 have hw:IntKind.u64.wrap a=a:=by
  rcases ha with rfl|rfl|rfl|rfl|rfl|rfl<;>decide
 refine z7 z16 Tryz.func235 rfl rfl 11 Tryz.ntmps235 (by simp) ?_
 repeat' ((first|(apply y76 ok;rfl)|(apply y36;omega))<;>conv=>whnf)
 refine y36 (by unfold z153;omega) ?_
 conv=>whnf
 repeat' (((apply y76 ok;rfl))<;>conv=>whnf)
 all_goals (refine rsD [] [] rfl ?_;(repeat' first|exact y78 _|constructor))
structure BasL (B:List Tree):Prop where
 len:B.length≤5
 nd:B.Nodup
 sz:∀ x∈B,x.sz≤1000
 cl:∀ x∈B,In (·∈B) x
 bk:∀ x∈B,z89 x=true
 av:∀ v,Tree.mk 2 v []∈B→0≤v∧v≤2
theorem BasL.mx {B:List Tree} (h:BasL B):∀ x∈B,x.mx:=fun x hx=>z162 x (by have:=h.sz x hx;unfold maxLen;omega)
set_option maxHeartbeats 3200000 in
theorem z158 (B:List Tree) (hB:BasL B) (s:Int) (s0:0≤s) (s1:s≤31) (t:Tree) (h:In (·∈B) t):t.sz≤1000→CallsA Tryz.prog 191 [lst 3 Tree.cs' B,.int s,z51 Tree.cs' t] [] (.bool (vlB B s t)) []:=by
 have basic:∀ t,t∈B→z89 t=true→CallsA Tryz.prog 191 [lst 3 Tree.cs' B,.int s,z51 Tree.cs' t] [] (.bool (sgB B s t)) []:=fun t ht hb=>by
  have hl:=hB.len
  have cF:=z687 B (by omega) hB.mx t (hB.mx t ht)
  have hp:=plc_mem ht
  have cH:=z274 s (plc B t) s0 s1 hp.1 (by omega)
  have e:idxF (fun x=>decide (x=t)) B=plc B t:=rfl
  rw [e] at cF
  unfold sgB
  generalize plc B t=p at *
  unfold z89 at hb
  have hb:=of_decide_eq_true hb
  rw [y14 t] at cF ⊢
  refine z7 z16 Tryz.func191 rfl rfl 62 Tryz.ntmps191 (by simp) ?_
  repeat' ((first|(apply y76 ok;rfl)|(apply y36;omega)|(((with_reducible apply z87;omega));intro _)|((apply z5)<;>intro _)|(apply z6 (cF);rfl;rfl)|(apply z6 (cH);rfl;rfl))<;>conv=>whnf)
  all_goals first|(exfalso;omega)|(refine rsD [] [] rfl ?_;(repeat' first|exact y78 _|constructor))
 unfold vlB
 induction h with
 |tr =>
  intro _
  rw [vl_tr]
  refine z7 z16 Tryz.func191 rfl rfl 62 Tryz.ntmps191 (by simp) ?_
  repeat' (((apply y76 ok;rfl))<;>conv=>whnf)
  all_goals (refine rsD [] [] rfl ?_;(repeat' first|exact y78 _|constructor))
 |«at» v hb=>intro _;rw [vl_at];exact basic _ hb (by simp [z89,Tree.kind])
 |nt =>
  intro _
  rw [vl_not,vl_tr]
  have c1:CallsA Tryz.prog 191 [lst 3 Tree.cs' B,.int s,z51 Tree.cs' (.mk 1 0 [])] [] (.bool true) []:=by
   refine z7 z16 Tryz.func191 rfl rfl 62 Tryz.ntmps191 (by simp) ?_
   repeat' (((apply y76 ok;rfl))<;>conv=>whnf)
   all_goals (refine rsD [] [] rfl ?_;(repeat' first|exact y78 _|constructor))
  rw [argU]
  refine z7 z16 Tryz.func191 rfl rfl 62 Tryz.ntmps191 (by simp) ?_
  repeat' ((first|(apply y76 ok;rfl)|(refine ⟨_,rfl,?_⟩)|(apply y36;omega)|(apply z6 (c1);rfl;rfl))<;>conv=>whnf)
  all_goals (refine rsD [] [] rfl ?_;(repeat' first|exact y78 _|constructor))
 |na v hb =>
  intro _
  rw [vl_not,vl_at]
  have c1:=basic _ hb (by simp [z89,Tree.kind])
  rw [argU]
  refine z7 z16 Tryz.func191 rfl rfl 62 Tryz.ntmps191 (by simp) ?_
  repeat' ((first|(apply y76 ok;rfl)|(refine ⟨_,rfl,?_⟩)|(apply y36;omega)|(apply z6 (c1);rfl;rfl))<;>conv=>whnf)
  all_goals (refine rsD [] [] rfl ?_;(repeat' first|exact y78 _|constructor))
 |an _ _ iha ihb =>
  rename_i a b _ _
  intro hs
  rw [z403] at hs
  have ca:=iha (by omega)
  have cb:=ihb (by omega)
  rw [vl_and,argB]
  generalize a.vl (sgB B s)=x at *
  generalize b.vl (sgB B s)=y at *
  cases x
  all_goals
   refine z7 z16 Tryz.func191 rfl rfl 62 Tryz.ntmps191 (by simp) ?_
   repeat' ((first|(apply y76 ok;rfl)|(refine ⟨_,rfl,?_⟩)|(apply y36;omega)|(apply z6 (ca);rfl;rfl)|(apply z6 (cb);rfl;rfl))<;>conv=>whnf)
   all_goals (refine rsD [] [] rfl ?_;(repeat' first|exact y78 _|constructor))
 |or _ _ iha ihb =>
  rename_i a b _ _
  intro hs
  rw [z403] at hs
  have ca:=iha (by omega)
  have cb:=ihb (by omega)
  rw [vl_or,argB]
  generalize a.vl (sgB B s)=x at *
  generalize b.vl (sgB B s)=y at *
  cases x
  all_goals
   refine z7 z16 Tryz.func191 rfl rfl 62 Tryz.ntmps191 (by simp) ?_
   repeat' ((first|(apply y76 ok;rfl)|(refine ⟨_,rfl,?_⟩)|(apply y36;omega)|(apply z6 (ca);rfl;rfl)|(apply z6 (cb);rfl;rfl))<;>conv=>whnf)
   all_goals (refine rsD [] [] rfl ?_;(repeat' first|exact y78 _|constructor))
 |nx hb _ _=>intro _;rw [vl_nx];exact basic _ hb (by simp [z89,Tree.kind])
 |un hb _ _ _ _=>intro _;rw [vl_un];exact basic _ hb (by simp [z89,Tree.kind])
 |re hb _ _ _ _=>intro _;rw [vl_re];exact basic _ hb (by simp [z89,Tree.kind])
end Go.Proofs.YtahhobgjcfionaaGreat
