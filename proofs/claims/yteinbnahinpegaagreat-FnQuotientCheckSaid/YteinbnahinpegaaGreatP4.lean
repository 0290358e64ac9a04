/- A part of the proofs over this program: T49, T124, T132, T128, T50, T133, T134, T125, T220, T140, T141, T142, T221, T222, T223, T143, T224, T144. -/
import Derived.Test.YteinbnahinpegaaGreatG0
import Derived.Test.YteinbnahinpegaaGreatG1
import Derived.Test.YteinbnahinpegaaGreatG2
import Derived.Test.YteinbnahinpegaaGreatG3
import Derived.Test.YteinbnahinpegaaGreatP0
import Derived.Test.YteinbnahinpegaaGreatP1
import Derived.Test.YteinbnahinpegaaGreatP2
import Derived.Test.YteinbnahinpegaaGreatP3
set_option linter.all false
namespace Go.Proofs.YteinbnahinpegaaGreat
open Go.Gl
attribute [local irreducible] z20 AWP z30 z35 z34
theorem z366 (g:Graph) (hg:g.mx) (bl:List Int) (hl:bl.length≤1048576) (hst:g.st.length≤1048576):CallsA Tryz.prog 31 [.agg g.cs,ints bl] [] (.bool (bvB g bl)) []:=by
 have c1:=z239 g hg
 unfold bvB
 generalize z223 g=q at *
 refine z12 z19 Tryz.func31 rfl rfl 45 Tryz.ntmps31 (by simp) ?_
 cases q
 ·repeat' (first|(apply y4 ok;rfl;conv=>whnf)|(apply z6 (c1);rfl;rfl;conv=>whnf))
  all_goals exact z24 rfl rfl
 by_cases hlen:(bl.length:Int)=g.st.length
 ·repeat' (first|(apply y4 ok;rfl;conv=>whnf)|(apply z41<;>intro _<;>conv=>whnf)|(apply z6 (c1);rfl;rfl;conv=>whnf))
  all_goals first|(exfalso;simp_all;done)|skip
  rw [y78 hlen]
  refine z97 (fun i:Nat=>([(1,ints bl),(5,.int (mst bl i)),(6,.int i)],[])) (fun i=>i≤bl.length∧∀ j (h:j < bl.length),j < i→0≤bl[j]∧bl[j]≤mst bl j) (fun i=>bl.length - i) 0 ⟨by omega,fun j _ h=>by omega⟩ ⟨[],rfl,by decide,rfl,⟨⟨rfl,rfl⟩,⟨rfl,rfl⟩,⟨rfl,rfl⟩,trivial⟩,trivial⟩ ?_
  rintro i ⟨hi1,hi2⟩
  have hm:=z729 bl i
  by_cases hil:i < bl.length
  ·have em:mst bl (i+1)=if bl[i]=mst bl i then mst bl i+1 else mst bl i:=by rw [mst,z13 hil]
   have hgi:(bl.map enI)[i]?=some (enI bl[i]):=by rw [y47,y41 hil];rfl
   by_cases hb:0≤bl[i]∧bl[i]≤mst bl i
   ·have hok:∀ j (h:j < bl.length),j < i+1→0≤bl[j]∧bl[j]≤mst bl j:=fun j hj hji=>by
     rcases y66 j i with h3|h3
     ·exact hi2 j hj h3
     ·obtain rfl:j=i:=by omega
      exact hb
    by_cases he:bl[i]=mst bl i
    ·rw [if_pos he] at em
     repeat' (first|(apply y4 ok;rfl;conv=>whnf)|(refine z21 (i:=i) rfl hgi ?_;conv=>whnf)|(apply y39;(first|omega|(unfold inI;omega));conv=>whnf)|(apply z8<;>intro _<;>conv=>whnf))
     all_goals try (exfalso;omega)
     exact z81 (i+1) [] ⟨by omega,hok⟩ (by omega) ⟨rfl,by decide,rfl,⟨⟨rfl,rfl⟩,⟨rfl,z299 em.symm⟩,⟨rfl,rfl⟩,trivial⟩,trivial⟩
    ·rw [if_neg he] at em
     repeat' (first|(apply y4 ok;rfl;conv=>whnf)|(refine z21 (i:=i) rfl hgi ?_;conv=>whnf)|(apply y39;(first|omega|(unfold inI;omega));conv=>whnf)|(apply z8<;>intro _<;>conv=>whnf))
     all_goals try (exfalso;omega)
     exact z81 (i+1) [] ⟨by omega,hok⟩ (by omega) ⟨rfl,by decide,rfl,⟨⟨rfl,rfl⟩,⟨rfl,z299 em.symm⟩,⟨rfl,rfl⟩,trivial⟩,trivial⟩
   ·have hno:¬ PartP bl:=fun h=>hb (h i hil)
    repeat' (first|(apply y4 ok;rfl;conv=>whnf)|(refine z21 (i:=i) rfl hgi ?_;conv=>whnf)|(apply y39;(omega);conv=>whnf)|(apply z8<;>intro _<;>conv=>whnf))
    all_goals try (exfalso;omega)
    all_goals exact z24 rfl (by rw [y79 hno];rfl)
  ·have hp:PartP bl:=fun j hj=>hi2 j hj (by omega)
   repeat' (first|(apply y4 ok;rfl;conv=>whnf)|(apply y39;(omega);conv=>whnf)|(with_reducible apply z15;omega;intro _;conv=>whnf)|(apply z8<;>intro _<;>conv=>whnf))
   all_goals try (exfalso;omega)
   exact z24 rfl (by rw [y78 hp];rfl)
 ·rw [y79 hlen,Bool.and_false]
  repeat' (first|(apply y4 ok;rfl;conv=>whnf)|(apply z41<;>intro _<;>conv=>whnf)|(apply z6 (c1);rfl;rfl;conv=>whnf))
  all_goals first|(exfalso;simp_all;done)|skip
  all_goals exact z24 rfl rfl
def LetP (bl ls:List Int):Prop:=∀ i k:Nat,k < i→i < bl.length→bl.getD i 0=bl.getD k 0→ls.getD i 0=ls.getD k 0
noncomputable instance {bl ls:List Int} : Decidable (LetP bl ls):=Classical.propDecidable _
noncomputable def stB (g:Graph) (l:List Tree) (bl:List Int):Bool:=z150 l && (bvB g bl && (decide (refL g bl=bl) && decide (LetP bl (g.st.map (z49 l)))))
theorem z667 (bl:List Int) (i:Nat) (hi:i < bl.length):∃ f,∃ hf:f≤i,bl[f]=bl[i]∧idxF (fun x=>decide (bl[i]=x)) bl=f:=by
 rcases z478 (p:=fun k=>decide (bl[i]=bl.getD k 0)) (i:=i+1) with h|⟨k,h1,h2,h3⟩
 ·have:=h i (by omega)
  rw [z13 hi] at this;simp at this
 ·have hk:k < bl.length:=by omega
  rw [z13 hk] at h2
  refine ⟨k,by omega,(of_decide_eq_true h2).symm,z177 hk h2 fun j hj hjk=>?_⟩
  have:=h3 j hjk
  rw [z13 hj] at this;exact this
set_option maxHeartbeats 1600000 in
theorem z349 (g:Graph) (hg:g.mx) (l:List Tree) (hl:Lmx l) (bl:List Int) (hb:bl.length≤1048576):CallsA Tryz.prog 7 [.agg g.cs,lst 3 Tree.cs' l,ints bl] [] (.bool (stB g l bl)) []:=by
 have c1:=z221 g hg bl hb
 have c2:=z233 l hl.1 hl.2
 unfold stB
 by_cases hv:bvB g bl=true
 ·have hG:=(z103 g).1 (by unfold bvB at hv;exact (Bool.and_eq_true_iff.1 hv).1)
  have hbl:bl.length=g.st.length:=by
   have:(bl.length:Int)=g.st.length:=by unfold bvB at hv;exact of_decide_eq_true (Bool.and_eq_true_iff.1 (Bool.and_eq_true_iff.1 hv).2).2
   omega
  have hg1:=hG.1
  have c3:=z992 (z967 g hG bl hbl) (z257 _ _)
  have c4:=z755 (refL g bl) bl (by rw [z257];unfold maxLen;omega) (by unfold maxLen;omega)
  rw [hv] at c1 ⊢
  by_cases h2:z150 l=true
  ·have c5:=z911 g hG.vals hG.1.2 l (y8 h2)
   have hls:(g.st.map (z49 l)).length=bl.length:=by rw [y45,hbl]
   rw [h2] at c2 ⊢
   generalize g.st.map (z49 l)=ls at *
   refine z12 z19 Tryz.func7 rfl rfl 49 Tryz.ntmps7 (by simp) ?_
   by_cases h3:refL g bl=bl
   ·rw [y78 h3] at c4 ⊢
    repeat' (first|(apply y4 ok;rfl;conv=>whnf)|(apply z6 (c1);rfl;rfl;conv=>whnf)|(apply z6 (c2);rfl;rfl;conv=>whnf)|(apply z6 (c3);rfl;rfl;conv=>whnf)|(apply z6 (c4);rfl;rfl;conv=>whnf)|(apply z6 (c5);rfl;rfl;conv=>whnf))
    refine z97 (fun i:Nat=>([(2,ints bl),(7,ints ls),(30,ints bl),(31,.int bl.length),(32,.int i)],[])) (fun i=>i≤bl.length∧∀ j f (hj:j < bl.length) (hf:f≤j),j < i→bl[f]=bl[j]→idxF (fun x=>decide (bl[j]=x)) bl=f→ls.getD f 0=ls.getD j 0) (fun i=>bl.length - i) 0 ⟨by omega,fun j f hj hf h=>by omega⟩ ⟨[],rfl,by decide,rfl,⟨⟨rfl,rfl⟩,⟨rfl,rfl⟩,⟨rfl,rfl⟩,⟨rfl,rfl⟩,⟨rfl,rfl⟩,trivial⟩,trivial⟩ ?_
    rintro i ⟨hi1,hi2⟩
    by_cases hil:i < bl.length
    ·obtain ⟨f,hf,e1,e2⟩:=z667 bl i hil
     have c6:=z347 bl (by unfold maxLen;omega) bl[i]
     rw [e2] at c6
     have g1:(bl.map enI)[i]?=some (enI bl[i]):=by rw [y47,y41 hil];rfl
     have g2:(ls.map enI)[i]?=some (enI ls[i]):=by rw [y47,y41 (by omega)];rfl
     have g3:(ls.map enI)[f]?=some (enI ls[f]):=by rw [y47,y41 (by omega)];rfl
     by_cases he:ls[f]=ls[i]
     ·repeat' (first|(apply y4 ok;rfl;conv=>whnf)|(apply z37;kernel_rfl;conv=>whnf)|(refine z21 (i:=f) rfl g3 ?_;conv=>whnf)|(refine z21 (i:=i) rfl g2 ?_;conv=>whnf)|(refine z21 (i:=i) rfl g1 ?_;conv=>whnf)|(apply y39;(first|omega|(unfold inI;omega));conv=>whnf)|(apply z8<;>intro _<;>conv=>whnf)|(apply z41<;>intro _<;>conv=>whnf)|(apply z6 (c6);rfl;rfl;conv=>whnf))
      all_goals try (exfalso;omega)
      refine z81 (i+1) [] ⟨by omega,fun j f' hj hf' hji h5 h6=>?_⟩ (by omega) ⟨rfl,by decide,rfl,⟨⟨rfl,rfl⟩,⟨rfl,rfl⟩,⟨rfl,rfl⟩,⟨rfl,rfl⟩,⟨rfl,rfl⟩,trivial⟩,trivial⟩
      rcases y66 j i with h7|h7
      ·exact hi2 j f' hj hf' h7 h5 h6
      ·obtain rfl:j=i:=by omega
       have:f'=f:=by rw [e2] at h6;omega
       subst this
       rw [z13 (by omega),z13 (by omega)];exact he
     ·have hno:¬ LetP bl ls:=fun h=>by
       have hne:f≠i:=by rintro rfl;exact he rfl
       have:=h i f (by omega) hil (by rw [z13 hil,z13 (by omega),e1])
       rw [z13 (by omega),z13 (by omega)] at this
       exact he this.symm
      repeat' (first|(apply y4 ok;rfl;conv=>whnf)|(apply z37;kernel_rfl;conv=>whnf)|(refine z21 (i:=f) rfl g3 ?_;conv=>whnf)|(refine z21 (i:=i) rfl g2 ?_;conv=>whnf)|(refine z21 (i:=i) rfl g1 ?_;conv=>whnf)|(apply y39;(omega);conv=>whnf)|(apply z8<;>intro _<;>conv=>whnf)|(apply z41<;>intro _<;>conv=>whnf)|(apply z6 (c6);rfl;rfl;conv=>whnf))
      all_goals try (exfalso;omega)
      exact z24 rfl (by rw [y79 hno];rfl)
    ·have hyes:LetP bl ls:=fun i' k hk hi' he=>by
      rw [z13 hi',z13 (by omega)] at he
      obtain ⟨f,hf,e1,e2⟩:=z667 bl i' hi'
      obtain ⟨f',hf',e1',e2'⟩:=z667 bl k (by omega)
      have hff:f=f':=by
       rw [he] at e2
       rw [e2] at e2';omega
      subst hff
      rw [← hi2 i' f hi' hf (by omega) e1 e2,← hi2 k f (by omega) hf' (by omega) e1' e2']
     repeat' (first|(apply y4 ok;rfl;conv=>whnf)|(apply y39;(omega);conv=>whnf)|(with_reducible apply z15;omega;intro _;conv=>whnf)|(apply z8<;>intro _<;>conv=>whnf))
     all_goals try (exfalso;omega)
     exact z24 rfl (by rw [y78 hyes];rfl)
   ·rw [y79 h3] at c4 ⊢
    repeat' (first|(apply y4 ok;rfl;conv=>whnf)|(apply z6 (c1);rfl;rfl;conv=>whnf)|(apply z6 (c2);rfl;rfl;conv=>whnf)|(apply z6 (c3);rfl;rfl;conv=>whnf)|(apply z6 (c4);rfl;rfl;conv=>whnf))
    all_goals exact z24 rfl rfl
  ·have h2:=(y68 _).mp h2
   rw [h2] at c2 ⊢
   refine z12 z19 Tryz.func7 rfl rfl 49 Tryz.ntmps7 (by simp) ?_
   repeat' (first|(apply y4 ok;rfl;conv=>whnf)|(apply z6 (c1);rfl;rfl;conv=>whnf)|(apply z6 (c2);rfl;rfl;conv=>whnf))
   all_goals exact z24 rfl rfl
 ·have hv:=(y68 _).mp hv
  rw [hv] at c1 ⊢
  rw [Bool.false_and,Bool.and_false]
  refine z12 z19 Tryz.func7 rfl rfl 49 Tryz.ntmps7 (by simp) ?_
  repeat' (first|(apply y4 ok;rfl;conv=>whnf)|(apply z6 (c1);rfl;rfl;conv=>whnf))
  all_goals exact z24 rfl rfl
end Go.Proofs.YteinbnahinpegaaGreat
namespace Go.Proofs.YteinbnahinpegaaGreat
open Go.Gl
attribute [local irreducible] z20 AWP z30 z35 z34 RetS z42
theorem Part.P {bl:List Int} (h:Part bl bl.length):PartP bl:=fun i hi=>by
 have:=h.rng i hi
 rw [z13 hi] at this
 rw [mst_eq];exact this
theorem z1085 {g:Graph} {bl:List Int} {b:Nat} (hb:b < (fstB bl g.st.length).length):(quoG g bl).st.getD b ⟨[],[]⟩=g.st.getD ((fstB bl g.st.length).getD b 0) ⟨[],[]⟩:=by
 show (quoS g bl g.st.length).getD b _=_
 unfold quoS
 rw [z13 (by simpa using hb),List.getElem_map,z13 hb]
theorem z650 {g:Graph} {l:List Tree} {i:Nat} (h:i < g.st.length):(g.st.map (z49 l)).getD i 0=lsT g l i:=by
 unfold lsT;rw [z13 (by simpa using h),List.getElem_map,z13 h]
theorem z944 {l:List Int} (h:1≤l.length):1≤(z85 [] l).length:=by
 have hm:l[0]∈z85 [] l:=z162.2 (.inr (y40 h))
 exact List.length_pos_of_mem hm
theorem z1086 {g:Graph} (hG:GB g) {bl:List Int} (hp:Part bl g.st.length):GB (quoG g bl):=by
 have hin:=quoN_in hG.inG hp
 have hl:=z477 bl g.st.length
 have h60:=hG.1
 have e1:(quoG g bl).st.length=(fstB bl g.st.length).length:=z463 _ _ _
 have e2:(quoG g bl).nx.length=(fstB bl g.st.length).length:=z464 _ _ _
 have hpos:0 < (fstB bl g.st.length).length:=by
  have:=hp.lt (show 0 < g.st.length by omega)
  omega
 refine ⟨⟨by omega,by omega⟩,by omega,fun b hb h1 h2=>?_⟩
 have hbm:b < (fstB bl g.st.length).length:=by omega
 have hf:=hp.fst_lt hbm
 have e3:(quoG g bl).nx[b]=z85 [] ((g.nx.getD ((fstB bl g.st.length).getD b 0) []).map fun p:Int=>bl.getD p.toNat 0):=by
  have e:(quoG g bl).nx.getD b []=z85 [] ((g.nx.getD ((fstB bl g.st.length).getD b 0) []).map fun p:Int=>bl.getD p.toNat 0):=by
   show (quoN g.nx g.st.length bl).getD b []=_
   unfold quoN
   rw [z13 (by simpa using hbm),List.getElem_map,z13 hbm]
  rw [← e,z13 h1]
 have hrow:=GB.row hG ((fstB bl g.st.length).getD b 0) (by have:=hG.2.1;omega)
 rw [← z13 (d:=[])] at hrow
 have hnd:(quoG g bl).nx[b].Nodup:=by rw [e3];exact z174 List.nodup_nil
 have hinb:=hin _ (y40 h1)
 have hle:=z219 _ _ hnd hinb
 refine ⟨by rw [e3];exact z944 (by simp;exact hrow.1),by rw [e1];exact hle,?_,fun i hi hi2=>⟨?_,?_⟩⟩
 ·have e4:(quoG g bl).st[b]=g.st.getD ((fstB bl g.st.length).getD b 0) ⟨[],[]⟩:=by rw [← z1085 hbm,z13 h2]
  rw [e4,z13 hf]
  exact valsB_of (hG.vals _ (y40 hf))
 ·have:=hinb _ (y40 hi)
  have e5:((quoG g bl).st.length:Int)=((fstB bl g.st.length).length:Int):=by omega
  exact ⟨this.1,by have h6:=this.2;rw [e5];exact Int.le_sub_one_of_lt h6⟩
 ·intro hm
  obtain ⟨j,hj,e⟩:=List.mem_iff_getElem.1 hm
  rw [List.getElem_take] at e
  have hj' : j < i:=by simp at hj;omega
  have:=List.pairwise_iff_getElem.1 hnd j i (by omega) hi hj'
  exact this e
theorem quoG_d {g:Graph} (hg:g.d) (hG:GB g) {bl:List Int} (hp:Part bl g.st.length):(quoG g bl).d:=by
 have hQ:=z1086 hG hp
 have h1:=hQ.1.2
 have h2:=hQ.2.1
 refine ⟨by omega,by omega,fun s hs=>?_,fun r hr=>?_⟩
 ·have hs:s∈quoS g bl g.st.length:=hs
  unfold quoS at hs
  obtain ⟨i,hi,rfl⟩:=List.mem_map.1 hs
  have:=z845 hi
  rw [z13 this]
  exact hg.el _ (y40 _)
 ·obtain ⟨i,hi,rfl⟩:=List.mem_iff_getElem.1 hr
  have:=(GB.row hQ i hi).2.1
  omega
inductive TailB (bs:List Int) (n:Nat) (B0:List Int) (q:Int):List Int→Int→Prop
 |c0 (h1:CallsA Tryz.prog 58 [.ptr 0 none 0,.int 20] [rdO bs q] (.int 0) [rdO bs (q+1)]):TailB bs n B0 q (B0++[0]) (q+1)
 |c1 (j : Nat) (x : Int) (hj : j < B0.length) (h1 : CallsA Tryz.prog 58 [.ptr 0 none 0, .int 20] [rdO bs q] (.int 1) [rdO bs (q + 1)])
   (h2:CallsA Tryz.prog 58 [.ptr 0 none 0,.int B0.length] [rdO bs (q+1)] (.int j) [rdO bs (q+1+1)])
   (h3:CallsA Tryz.prog 60 [.ptr 0 none 0,.sref 1 0 4] [rdO bs (q+1+1),.cells 1 ([-1,0,60,1].map enI)] (.int x) [rdO bs (q+1+1+1),.cells 1 ([-1,0,60,1].map enI)]):TailB bs n B0 q (B0.set j x) (q+1+1+1)
 |c2 (hl:B0.length=0) (h1:CallsA Tryz.prog 58 [.ptr 0 none 0,.int 20] [rdO bs q] (.int 1) [rdO bs (q+1)]):TailB bs n B0 q B0 (q+1)
 |c3 (h1:CallsA Tryz.prog 58 [.ptr 0 none 0,.int 20] [rdO bs q] (.int 2) [rdO bs (q+1)]):TailB bs n B0 q (z225 n) (q+1)
 |c4 (v:Int) (v0:v≠0) (v1:v≠1) (v2:v≠2) (h1:CallsA Tryz.prog 58 [.ptr 0 none 0,.int 20] [rdO bs q] (.int v) [rdO bs (q+1)]):TailB bs n B0 q B0 (q+1)
theorem tailB_ex (bs:List Int) (hb:BytesOk bs) (n:Nat) (hn:n≤100) (B0:List Int) (hB:B0.length≤100) (q:Int) (h0:0≤q) (h1:q≤999999000):∃ B p',TailB bs n B0 q B p'∧B.length≤101∧q≤p'∧p'≤q+3:=by
 obtain ⟨v,⟨v0,v1⟩,c1⟩:=z69 bs hb q 20 (by omega) (by omega) (by omega)
 by_cases e0:v=0
 ·subst e0;exact ⟨_,_,.c0 c1,by simp;omega,by omega,by omega⟩
 by_cases e1:v=1
 ·subst e1
  by_cases hl:B0.length=0
  ·exact ⟨_,_,.c2 hl c1,by omega,by omega,by omega⟩
  ·obtain ⟨j,⟨j0,j1⟩,c2⟩:=z69 bs hb (q+1) B0.length (by omega) (by omega) (by omega)
   obtain ⟨x,_,c3⟩:=z108 bs hb (q+1+1) (by omega) (by omega) [-1,0,60,1] (by decide) (by decide)
   obtain ⟨j,rfl⟩:∃ k:Nat,j=k:=⟨j.toNat,by omega⟩
   exact ⟨_,_,.c1 j x (by have:=j1 (by omega);omega) c1 c2 c3,by simp;omega,by omega,by omega⟩
 by_cases e2:v=2
 ·subst e2;exact ⟨_,_,.c3 c1,by rw [z248];omega,by omega,by omega⟩
 ·exact ⟨_,_,.c4 v e0 e1 e2 c1,by omega,by omega,by omega⟩
structure KeysB (bs:List Int) (n:Nat) (q:Int) (K:List Int) (pf:Nat→Int):Prop where
 len:K.length=n
 p0:pf 0=q
 st:∀ k (hk:k < K.length),CallsA Tryz.prog 58 [.ptr 0 none 0,.int 3] [rdO bs (pf k)] (.int K[k]) [rdO bs (pf (k+1))]
 bd:q≤pf n∧pf n≤q+n
theorem z912 (bs:List Int) (hb:BytesOk bs) (n:Nat) (hn:n≤100) (q:Int) (h0:0≤q) (h1:q≤999990000):∃ K pf,KeysB bs n q K pf:=by
 obtain ⟨K,pf,e1,e2,e3,e4⟩:=z370 (fun _ p a p'=>CallsA Tryz.prog 58 [.ptr 0 none 0,.int 3] [rdO bs p] (.int a) [rdO bs p']) q 1 n (fun k p hk h2 h3=>by
  obtain ⟨v,_,c⟩:=z69 bs hb p 3 (by omega) (by omega) (by omega)
  exact ⟨v,p+1,c,by omega,by omega⟩)
 have:=e4 n (y48 _)
 exact ⟨K,pf,e1,e2,e3,by omega,by omega⟩
def keyL (K:List Int):List (List Int):=K.map fun a=>[a]
theorem z745 {K:List Int} {k:Nat} (h:k < K.length):keyL (K.take (k+1))=keyL (K.take k)++[[K[k]]]:=by
 unfold keyL;rw [y46 h,y60];rfl
inductive HeadB (bs:List Int) (g:Graph) (l:List Tree) (p:Int):List Int→Int→Prop
 |c0 (v:Int) (hv:v≠0) (h:glB g l=true) (p1:CallsA Tryz.prog 58 [.ptr 0 none 0,.int 3] [rdO bs p] (.int v) [rdO bs (p+1)]):HeadB bs g l p (bisR g l) (p+1)
 |c1 (h:glB g l=true) (p1:CallsA Tryz.prog 58 [.ptr 0 none 0,.int 3] [rdO bs p] (.int 0) [rdO bs (p+1)]) (K:List Int) (pf:Nat→Int) (hK:KeysB bs g.st.length (p+1) K pf):HeadB bs g l p (numF (z344 (keyL K)) (keyL K).length).1 (pf g.st.length)
 |c2 (h:glB g l=false) (K:List Int) (pf:Nat→Int) (hK:KeysB bs g.st.length p K pf):HeadB bs g l p (numF (z344 (keyL K)) (keyL K).length).1 (pf g.st.length)
theorem headB_ex (bs:List Int) (hb:BytesOk bs) (g:Graph) (hg:g.d) (l:List Tree) (p:Int) (h0:0≤p) (h1:p≤999980000):∃ B q,HeadB bs g l p B q∧B.length≤100∧p≤q∧q≤p+101:=by
 have hst:=hg.st
 by_cases h:glB g l=true
 ·obtain ⟨v,_,c1⟩:=z69 bs hb p 3 (by omega) (by omega) (by omega)
  by_cases hv:v=0
  ·subst hv
   obtain ⟨K,pf,hK⟩:=z912 bs hb g.st.length (by omega) (p+1) (by omega) (by omega)
   have:=hK.bd
   have hl:=hK.len
   exact ⟨_,_,.c1 h c1 K pf hK,by rw [z78];unfold keyL;simp;omega,by omega,by omega⟩
  ·exact ⟨_,_,.c0 v hv h c1,by have:=bisR_le g l;omega,by omega,by omega⟩
 ·obtain ⟨K,pf,hK⟩:=z912 bs hb g.st.length (by omega) p (by omega) (by omega)
  have:=hK.bd
  have hl:=hK.len
  exact ⟨_,_,.c2 ((y68 _).mp h) K pf hK,by rw [z78];unfold keyL;simp;omega,by omega,by omega⟩
set_option maxHeartbeats 6400000 in
theorem z744 (bs:List Int) (hb:BytesOk bs) (p:Int) (h0:0≤p) (h1:p≤999980000) (g:Graph) (hg:g.d) (l:List Tree) (hl:Lab.d l):∃ (B:List Int) (p' : Int),(B.length≤101∧p≤p'∧p'≤p+200)∧CallsA Tryz.prog 20 [.ptr 0 none 0,.agg g.cs,lst 3 Tree.cs' l] [rdO bs p] (ints B) [rdO bs p']:=by
 obtain ⟨B0,q,hH,hB0,q0,q1⟩:=headB_ex bs hb g hg l p h0 h1
 obtain ⟨B,p',hT,hB,p0,p1'⟩:=tailB_ex bs hb g.st.length hg.st B0 hB0 q (by omega) (by omega)
 refine ⟨B,p',⟨hB,by omega,by omega⟩,?_⟩
 have hst:=hg.st
 have cB:=z342 g hg.mx l hl.mx
 have cC:=z588 g.st.length (by omega)
 rcases hH with ⟨v,hv,h,p1⟩|⟨h,p1,K,pf,hK⟩|⟨h,K,pf,hK⟩
 ·rw [h] at cB
  generalize bisR g l=B0 at *
  refine z10 z19 Tryz.func20 rfl rfl 73 Tryz.ntmps20 (by simp) ?_
  repeat' ((first|(apply y4 ok;rfl)|((apply z8)<;>intro _)|(apply z6 (cB);rfl;rfl)|(apply z29 [0] [] p1;rfl;rfl;rfl))<;>conv=>whnf)
  all_goals try (exfalso;omega)
  rcases hT with ⟨a1⟩|⟨j,x,hj,a1,a2,a3⟩|⟨hl,a1⟩|⟨a1⟩|⟨v',v0,v1,v2,a1⟩
  ·repeat' ((first|(apply y4 ok;rfl)|(apply y39;first|(dsimp only;omega)|((try dsimp only);simp only [y45,y44,y43,y42,y54,y55];omega)|exact z106 (fun _=>rfl)|exact ⟨rfl,z25 rfl z32⟩)|(apply z29 [0] [] a1;rfl;rfl;rfl))<;>conv=>whnf)
   all_goals (refine rsD [0] [5] rfl ?_;(repeat' first|exact y82 _|apply y83|(refine z100 ?_ ?_;(focus (omega)))|((apply z48 rfl rfl rfl);(focus ((repeat (first|exact z38 (fun _=>rfl) _|apply z119|apply z166|rfl));done));(focus (((simp;done));done)))|(refine z79 ?_ ?_;(focus (simp;done)))|constructor))
  ·have gl:(B0.set j x).length=B0.length:=by simp
   have gx:((([]:List (List AC)).take 0)++B0.map enI)[j]?=some (enI (B0.getD j 0)):=by rw [List.take_nil,List.nil_append,y47,y41 hj,z13 hj];rfl
   have gs:((([]:List (List AC)).take 0)++B0.map enI).set j (enI x)=(B0.set j x).map enI:=by rw [List.take_nil,List.nil_append,List.map_set]
   rw [show B0.length=0+B0.length by omega] at a2
   repeat' ((first|(apply y4 ok;rfl)|(refine z21 (i:=j) rfl gx ?_)|(apply y39;first|omega|(dsimp only;omega)|exact z106 (fun _=>rfl))|((apply z8)<;>intro _)|((first|(apply z11 [0] [] a1;rfl;rfl)|(apply z11 [0] [] a2;rfl;rfl)|(apply z11 [0,4] [] a3;rfl;rfl));rfl;(focus ((repeat' first|exact z17|apply z14)<;>first|exact z45 rfl rfl|(refine z23 ?_;((exact z7 fun _=>rfl)))))))<;>conv=>whnf)
   all_goals try (exfalso;omega)
   all_goals (refine rsD [0] [3] rfl ?_;(repeat' first|exact y82 _|apply y83|refine z438 (by omega) ?_|((apply z48 rfl rfl rfl);(focus ((repeat (first|exact z38 (fun _=>rfl) _|apply z356));done));(focus (((simp;done));done)))|(refine z79 ?_ ?_;(focus (simp;done)))|constructor))
  ·repeat' ((first|(apply y4 ok;rfl)|(apply y39;omega)|((apply z8)<;>intro _)|(apply z29 [0] [] a1;rfl;rfl;rfl))<;>conv=>whnf)
   all_goals try (exfalso;omega)
   all_goals (refine rsD [0] [] rfl ?_;(repeat' first|exact y82 _|apply y83|constructor))
  ·repeat' ((first|(apply y4 ok;rfl)|(apply z6 (cC);rfl;rfl)|(apply z29 [0] [] a1;rfl;rfl;rfl))<;>conv=>whnf)
   all_goals (refine rsD [0] [] rfl ?_;(repeat' first|exact y82 _|apply y83|constructor))
  ·repeat' ((first|(apply y4 ok;rfl)|(apply y39;omega)|((apply z8)<;>intro _)|(apply z29 [0] [] a1;rfl;rfl;rfl))<;>conv=>whnf)
   all_goals try (exfalso;omega)
   all_goals (refine rsD [0] [] rfl ?_;(repeat' first|exact y82 _|apply y83|constructor))
 ·rw [h] at cB
  have e0:=hK.p0
  refine z10 z19 Tryz.func20 rfl rfl 73 Tryz.ntmps20 (by simp) ?_
  repeat' ((first|(apply y4 ok;rfl)|(apply z6 (cB);rfl;rfl)|(apply z29 [0] [] p1;rfl;rfl;rfl))<;>conv=>whnf)
  rw [← e0]
  have kl:=hK.len
  have cN:=z992 (z193 (keyL K) (by unfold keyL;simp;omega) (fun r hr=>by unfold keyL at hr;obtain ⟨a,_,rfl⟩:=List.mem_map.1 hr;unfold maxLen;simp)) (z78 _ _)
  have hkl:∀ k,k≤K.length→(keyL (K.take k)).length=k:=fun k hk=>by unfold keyL;simp;omega
  generalize (numF (z344 (keyL K)) (keyL K).length).1=B0 at *
  refine z92 (fun x:Nat×List (List Int)=>([(0,.ptr 0 none 0),(4,.ptr 1 none 0),(9,.sref 2 0 x.2.length),(10,.int x.1)],[rdO bs (pf x.1),.cells 2 [g.cs],.cells 1 (x.2.map encL)])) (fun x=>x.1≤g.st.length∧keyL (K.take x.1)=x.2) (fun x=>g.st.length - x.1) (0,[]) ⟨y49 _,rfl⟩ (by refine swR [0,1,2] [] rfl rfl ?_;(repeat' first|exact y82 _|apply y83|refine z16 rfl (z36) ?_|constructor)) ?_
  rintro ⟨k,L⟩ ⟨hk,hL⟩
  dsimp only at hk hL ⊢
  have hk2:=hkl k (by omega)
  rw [hL] at hk2
  by_cases hkn:k < g.st.length
  ·have hkK:k < K.length:=by omega
   have cp:=hK.st k hkK
   have kt:=z745 hkK
   rw [hL] at kt
   generalize K[k]=a at cp kt
   repeat' ((first|(apply y4 ok;rfl)|(apply y39;first|(unfold inI;omega)|((try dsimp only);simp only [y45,y44,y43,y42,y54,y55];omega)|exact ⟨rfl,z25 rfl z32⟩)|((apply z8)<;>intro _)|(apply z29 [0] [] cp;rfl;rfl;rfl))<;>conv=>whnf)
   all_goals try (exfalso;omega)
   all_goals refine z44 (k+1,L++[[a]]) ⟨by show k+1≤_;omega,kt⟩ (by show g.st.length - (k+1) < g.st.length - k;omega) (by refine swR [0,1,5] [3] rfl rfl ?_;(repeat' first|exact y82 _|(refine z72 ?_;((simp;done)))|apply y83|((refine z47 rfl ?_ ?_);(focus ((repeat' (first|exact z7 (fun _=>rfl)|apply z33));done)))|(refine z100 ?_ ?_;(focus (omega)))|constructor)<;>(trace_state))
  obtain rfl:k=g.st.length:=by omega
  rw [← kl,y52] at hL
  subst hL
  repeat' ((first|((fail_if_success apply z114 8);(fail_if_success apply z96 8);apply y4 ok;rfl)|((apply z8)<;>intro _))<;>conv=>whnf)
  all_goals try (exfalso;omega)
  refine y81 (SealW.reach (env:=[(0,.ptr 0 none 0),(4,.ptr 1 none 0),(9,lst 1 encL (keyL K))]) (objs:=[rdO bs (pf g.st.length),.cells 2 [g.cs]]) [0,1] [2] rfl rfl rfl rfl ?_ ?_) ?_
  ·(repeat' first|exact y82 _|((apply z48 rfl rfl rfl);(focus ((repeat ((exact z38 (fun _=>rfl) _)));done));(focus (((simp;done));done)))|constructor)
  ·(repeat' first|exact y82 _|apply y83|constructor)
  conv=>whnf
  repeat' ((first|(apply y4 ok;rfl)|(apply z6 (cN);rfl;rfl))<;>conv=>whnf)
  rcases hT with ⟨a1⟩|⟨j,x,hj,a1,a2,a3⟩|⟨hl,a1⟩|⟨a1⟩|⟨v',v0,v1,v2,a1⟩
  ·repeat' ((first|(apply y4 ok;rfl)|(apply y39;first|(dsimp only;omega)|((try dsimp only);simp only [y45,y44,y43,y42,y54,y55];omega)|exact z106 (fun _=>rfl)|exact ⟨rfl,z25 rfl z32⟩)|(apply z29 [0] [] a1;rfl;rfl;rfl))<;>conv=>whnf)
   all_goals (refine rsD [0] [5] rfl ?_;(repeat' first|exact y82 _|apply y83|(refine z100 ?_ ?_;(focus (omega)))|((apply z48 rfl rfl rfl);(focus ((repeat (first|exact z38 (fun _=>rfl) _|apply z119|apply z166|rfl));done));(focus (((simp;done));done)))|(refine z79 ?_ ?_;(focus (simp;done)))|constructor))
  ·have gl:(B0.set j x).length=B0.length:=by simp
   have gx:((([]:List (List AC)).take 0)++B0.map enI)[j]?=some (enI (B0.getD j 0)):=by rw [List.take_nil,List.nil_append,y47,y41 hj,z13 hj];rfl
   have gs:((([]:List (List AC)).take 0)++B0.map enI).set j (enI x)=(B0.set j x).map enI:=by rw [List.take_nil,List.nil_append,List.map_set]
   rw [show B0.length=0+B0.length by omega] at a2
   repeat' ((first|(apply y4 ok;rfl)|(refine z21 (i:=j) rfl gx ?_)|(apply y39;first|omega|(dsimp only;omega)|exact z106 (fun _=>rfl))|((apply z8)<;>intro _)|((first|(apply z11 [0] [] a1;rfl;rfl)|(apply z11 [0] [] a2;rfl;rfl)|(apply z11 [0,4] [] a3;rfl;rfl));rfl;(focus ((repeat' first|exact z17|apply z14)<;>first|exact z45 rfl rfl|(refine z23 ?_;((exact z7 fun _=>rfl)))))))<;>conv=>whnf)
   all_goals try (exfalso;omega)
   all_goals (refine rsD [0] [3] rfl ?_;(repeat' first|exact y82 _|apply y83|refine z438 (by omega) ?_|((apply z48 rfl rfl rfl);(focus ((repeat (first|exact z38 (fun _=>rfl) _|apply z356));done));(focus (((simp;done));done)))|(refine z79 ?_ ?_;(focus (simp;done)))|constructor))
  ·repeat' ((first|(apply y4 ok;rfl)|(apply y39;omega)|((apply z8)<;>intro _)|(apply z29 [0] [] a1;rfl;rfl;rfl))<;>conv=>whnf)
   all_goals try (exfalso;omega)
   all_goals (refine rsD [0] [] rfl ?_;(repeat' first|exact y82 _|apply y83|constructor))
  ·repeat' ((first|(apply y4 ok;rfl)|(apply z6 (cC);rfl;rfl)|(apply z29 [0] [] a1;rfl;rfl;rfl))<;>conv=>whnf)
   all_goals (refine rsD [0] [] rfl ?_;(repeat' first|exact y82 _|apply y83|constructor))
  ·repeat' ((first|(apply y4 ok;rfl)|(apply y39;omega)|((apply z8)<;>intro _)|(apply z29 [0] [] a1;rfl;rfl;rfl))<;>conv=>whnf)
   all_goals try (exfalso;omega)
   all_goals (refine rsD [0] [] rfl ?_;(repeat' first|exact y82 _|apply y83|constructor))
 ·rw [h] at cB
  have e0:=hK.p0
  rw [← e0]
  refine z10 z19 Tryz.func20 rfl rfl 73 Tryz.ntmps20 (by simp) ?_
  repeat' ((first|(apply y4 ok;rfl)|(apply z6 (cB);rfl;rfl))<;>conv=>whnf)
  have kl:=hK.len
  have cN:=z992 (z193 (keyL K) (by unfold keyL;simp;omega) (fun r hr=>by unfold keyL at hr;obtain ⟨a,_,rfl⟩:=List.mem_map.1 hr;unfold maxLen;simp)) (z78 _ _)
  have hkl:∀ k,k≤K.length→(keyL (K.take k)).length=k:=fun k hk=>by unfold keyL;simp;omega
  generalize (numF (z344 (keyL K)) (keyL K).length).1=B0 at *
  refine z92 (fun x:Nat×List (List Int)=>([(0,.ptr 0 none 0),(4,.ptr 1 none 0),(9,.sref 2 0 x.2.length),(10,.int x.1)],[rdO bs (pf x.1),.cells 2 [g.cs],.cells 1 (x.2.map encL)])) (fun x=>x.1≤g.st.length∧keyL (K.take x.1)=x.2) (fun x=>g.st.length - x.1) (0,[]) ⟨y49 _,rfl⟩ (by refine swR [0,1,2] [] rfl rfl ?_;(repeat' first|exact y82 _|apply y83|refine z16 rfl (z36) ?_|constructor)) ?_
  rintro ⟨k,L⟩ ⟨hk,hL⟩
  dsimp only at hk hL ⊢
  have hk2:=hkl k (by omega)
  rw [hL] at hk2
  by_cases hkn:k < g.st.length
  ·have hkK:k < K.length:=by omega
   have cp:=hK.st k hkK
   have kt:=z745 hkK
   rw [hL] at kt
   generalize K[k]=a at cp kt
   repeat' ((first|(apply y4 ok;rfl)|(apply y39;first|(unfold inI;omega)|((try dsimp only);simp only [y45,y44,y43,y42,y54,y55];omega)|exact ⟨rfl,z25 rfl z32⟩)|((apply z8)<;>intro _)|(apply z29 [0] [] cp;rfl;rfl;rfl))<;>conv=>whnf)
   all_goals try (exfalso;omega)
   all_goals refine z44 (k+1,L++[[a]]) ⟨by show k+1≤_;omega,kt⟩ (by show g.st.length - (k+1) < g.st.length - k;omega) (by refine swR [0,1,5] [3] rfl rfl ?_;(repeat' first|exact y82 _|(refine z72 ?_;((simp;done)))|apply y83|((refine z47 rfl ?_ ?_);(focus ((repeat' (first|exact z7 (fun _=>rfl)|apply z33));done)))|(refine z100 ?_ ?_;(focus (omega)))|constructor)<;>(trace_state))
  obtain rfl:k=g.st.length:=by omega
  rw [← kl,y52] at hL
  subst hL
  repeat' ((first|((fail_if_success apply z114 8);(fail_if_success apply z96 8);apply y4 ok;rfl)|((apply z8)<;>intro _))<;>conv=>whnf)
  all_goals try (exfalso;omega)
  refine y81 (SealW.reach (env:=[(0,.ptr 0 none 0),(4,.ptr 1 none 0),(9,lst 1 encL (keyL K))]) (objs:=[rdO bs (pf g.st.length),.cells 2 [g.cs]]) [0,1] [2] rfl rfl rfl rfl ?_ ?_) ?_
  ·(repeat' first|exact y82 _|((apply z48 rfl rfl rfl);(focus ((repeat ((exact z38 (fun _=>rfl) _)));done));(focus (((simp;done));done)))|constructor)
  ·(repeat' first|exact y82 _|apply y83|constructor)
  conv=>whnf
  repeat' ((first|(apply y4 ok;rfl)|(apply z6 (cN);rfl;rfl))<;>conv=>whnf)
  rcases hT with ⟨a1⟩|⟨j,x,hj,a1,a2,a3⟩|⟨hl,a1⟩|⟨a1⟩|⟨v',v0,v1,v2,a1⟩
  ·repeat' ((first|(apply y4 ok;rfl)|(apply y39;first|(dsimp only;omega)|((try dsimp only);simp only [y45,y44,y43,y42,y54,y55];omega)|exact z106 (fun _=>rfl)|exact ⟨rfl,z25 rfl z32⟩)|(apply z29 [0] [] a1;rfl;rfl;rfl))<;>conv=>whnf)
   all_goals (refine rsD [0] [5] rfl ?_;(repeat' first|exact y82 _|apply y83|(refine z100 ?_ ?_;(focus (omega)))|((apply z48 rfl rfl rfl);(focus ((repeat (first|exact z38 (fun _=>rfl) _|apply z119|apply z166|rfl));done));(focus (((simp;done));done)))|(refine z79 ?_ ?_;(focus (simp;done)))|constructor))
  ·have gl:(B0.set j x).length=B0.length:=by simp
   have gx:((([]:List (List AC)).take 0)++B0.map enI)[j]?=some (enI (B0.getD j 0)):=by rw [List.take_nil,List.nil_append,y47,y41 hj,z13 hj];rfl
   have gs:((([]:List (List AC)).take 0)++B0.map enI).set j (enI x)=(B0.set j x).map enI:=by rw [List.take_nil,List.nil_append,List.map_set]
   rw [show B0.length=0+B0.length by omega] at a2
   repeat' ((first|(apply y4 ok;rfl)|(refine z21 (i:=j) rfl gx ?_)|(apply y39;first|omega|(dsimp only;omega)|exact z106 (fun _=>rfl))|((apply z8)<;>intro _)|((first|(apply z11 [0] [] a1;rfl;rfl)|(apply z11 [0] [] a2;rfl;rfl)|(apply z11 [0,4] [] a3;rfl;rfl));rfl;(focus ((repeat' first|exact z17|apply z14)<;>first|exact z45 rfl rfl|(refine z23 ?_;((exact z7 fun _=>rfl)))))))<;>conv=>whnf)
   all_goals try (exfalso;omega)
   all_goals (refine rsD [0] [3] rfl ?_;(repeat' first|exact y82 _|apply y83|refine z438 (by omega) ?_|((apply z48 rfl rfl rfl);(focus ((repeat (first|exact z38 (fun _=>rfl) _|apply z356));done));(focus (((simp;done));done)))|(refine z79 ?_ ?_;(focus (simp;done)))|constructor))
  ·repeat' ((first|(apply y4 ok;rfl)|(apply y39;omega)|((apply z8)<;>intro _)|(apply z29 [0] [] a1;rfl;rfl;rfl))<;>conv=>whnf)
   all_goals try (exfalso;omega)
   all_goals (refine rsD [0] [] rfl ?_;(repeat' first|exact y82 _|apply y83|constructor))
  ·repeat' ((first|(apply y4 ok;rfl)|(apply z6 (cC);rfl;rfl)|(apply z29 [0] [] a1;rfl;rfl;rfl))<;>conv=>whnf)
   all_goals (refine rsD [0] [] rfl ?_;(repeat' first|exact y82 _|apply y83|constructor))
  ·repeat' ((first|(apply y4 ok;rfl)|(apply y39;omega)|((apply z8)<;>intro _)|(apply z29 [0] [] a1;rfl;rfl;rfl))<;>conv=>whnf)
   all_goals try (exfalso;omega)
   all_goals (refine rsD [0] [] rfl ?_;(repeat' first|exact y82 _|apply y83|constructor))
end Go.Proofs.YteinbnahinpegaaGreat
namespace Go.Proofs.YteinbnahinpegaaGreat
open Go.Gl
attribute [local irreducible] z20 AWP z30 z35 z34
set_option maxHeartbeats 1600000 in
theorem z341 (g:Graph) (hg:g.mx) (l:List Tree) (hl:Lmx l) (bl:List Int) (hb:bl.length≤1048576) (hst:g.st.length≤1048576):CallsA Tryz.prog 8 [.agg g.cs,lst 3 Tree.cs' l,ints bl] [] (.bool (stB g l bl)) []:=by
 have c0:=z238 g hg l hl
 have c1:=z366 g hg bl hb hst
 unfold stB
 by_cases hv:bvB g bl=true
 ·have h0:z223 g=true:=by unfold bvB at hv;exact (Bool.and_eq_true_iff.1 hv).1
  have hG:=(z103 g).1 h0
  have hbl:bl.length=g.st.length:=by
   have:(bl.length:Int)=g.st.length:=by unfold bvB at hv;exact of_decide_eq_true (Bool.and_eq_true_iff.1 (Bool.and_eq_true_iff.1 hv).2).2
   omega
  have hg1:=hG.1
  have c3:=z992 (z388 g hG bl hbl) (z257 _ _)
  have c4:=z293 (refL g bl) bl (by rw [z257];unfold maxLen;omega) (by unfold maxLen;omega)
  rw [hv] at c1 ⊢
  have hgl:glB g l=z150 l:=by unfold glB;rw [h0];rfl
  rw [hgl] at c0
  by_cases h2:z150 l=true
  ·have hls:(g.st.map (z49 l)).length=bl.length:=by rw [y45,hbl]
   rw [if_pos h2,h2] at c0
   rw [h2]
   generalize g.st.map (z49 l)=ls at *
   refine z12 z19 Tryz.func8 rfl rfl 64 Tryz.ntmps8 (by simp) ?_
   by_cases h3:refL g bl=bl
   ·rw [y78 h3] at c4 ⊢
    repeat' (first|(apply y4 ok;rfl;conv=>whnf)|(apply z6 (c0);rfl;rfl;conv=>whnf)|(apply z6 (c1);rfl;rfl;conv=>whnf)|(apply z6 (c3);rfl;rfl;conv=>whnf)|(apply z6 (c4);rfl;rfl;conv=>whnf))
    refine z97 (fun i:Nat=>([(2,ints bl),(7,ints ls),(9,.int i)],[])) (fun i=>i≤bl.length∧∀ j k:Nat,k < j→j < i→bl.getD j 0=bl.getD k 0→ls.getD j 0=ls.getD k 0) (fun i=>bl.length - i) 0 ⟨by omega,fun j k hk hj=>by omega⟩ ⟨[],rfl,by decide,rfl,⟨⟨rfl,rfl⟩,⟨rfl,rfl⟩,⟨rfl,rfl⟩,trivial⟩,trivial⟩ ?_
    rintro i ⟨hi1,hi2⟩
    by_cases hil:i < bl.length
    ·repeat' (first|(apply y4 ok;rfl;conv=>whnf)|(apply z8<;>intro _<;>conv=>whnf))
     all_goals try (exfalso;omega)
     refine z97 (fun k:Nat=>([(2,ints bl),(7,ints ls),(9,.int i),(10,.int k)],[])) (fun k=>k≤i∧∀ k',k' < k→bl.getD i 0=bl.getD k' 0→ls.getD i 0=ls.getD k' 0) (fun k=>i - k) 0 ⟨by omega,fun k' hk=>by omega⟩ ⟨[],rfl,by decide,rfl,⟨⟨rfl,rfl⟩,⟨rfl,rfl⟩,⟨rfl,rfl⟩,⟨rfl,rfl⟩,trivial⟩,trivial⟩ ?_
     rintro k ⟨hk1,hk2⟩
     by_cases hki:k < i
     ·have g1:(bl.map enI)[i]?=some (enI bl[i]):=by rw [y47,y41 hil];rfl
      have g2:(bl.map enI)[k]?=some (enI bl[k]):=by rw [y47,y41 (by omega)];rfl
      have g3:(ls.map enI)[i]?=some (enI ls[i]):=by rw [y47,y41 (by omega)];rfl
      have g4:(ls.map enI)[k]?=some (enI ls[k]):=by rw [y47,y41 (by omega)];rfl
      have e1:bl.getD i 0=bl[i]:=z13 hil
      have e2:bl.getD k 0=bl[k]:=z13 (by omega)
      have e3:ls.getD i 0=ls[i]:=z13 (by omega)
      have e4:ls.getD k 0=ls[k]:=z13 (by omega)
      by_cases hbad:bl[i]=bl[k]∧ls[i]≠ls[k]
      ·have hno:¬ LetP bl ls:=fun h=>hbad.2 (by rw [← e3,← e4];exact h i k hki hil (by rw [e1,e2];exact hbad.1))
       repeat' (first|(apply y4 ok;rfl;conv=>whnf)|(apply z37;kernel_rfl;conv=>whnf)|(refine z21 (i:=k) rfl g4 ?_;conv=>whnf)|(refine z21 (i:=i) rfl g3 ?_;conv=>whnf)|(refine z21 (i:=k) rfl g2 ?_;conv=>whnf)|(refine z21 (i:=i) rfl g1 ?_;conv=>whnf)|(apply y39;(omega);conv=>whnf)|(apply z8<;>intro _<;>conv=>whnf)|(apply z41<;>intro _<;>conv=>whnf))
       all_goals try (exfalso;omega)
       exact z24 rfl (by rw [y79 hno];rfl)
      ·have hok:∀ k',k' < k+1→bl.getD i 0=bl.getD k' 0→ls.getD i 0=ls.getD k' 0:=fun k' hk' he=>by
        rcases y66 k' k with h7|h7
        ·exact hk2 k' h7 he
        ·obtain rfl:k'=k:=by omega
         rw [e3,e4]
         rw [e1,e2] at he
         exact Decidable.byContradiction fun h=>hbad ⟨he,h⟩
       repeat' (first|(apply y4 ok;rfl;conv=>whnf)|(apply z37;kernel_rfl;conv=>whnf)|(refine z21 (i:=k) rfl g4 ?_;conv=>whnf)|(refine z21 (i:=i) rfl g3 ?_;conv=>whnf)|(refine z21 (i:=k) rfl g2 ?_;conv=>whnf)|(refine z21 (i:=i) rfl g1 ?_;conv=>whnf)|(apply y39;(first|omega|(unfold inI;omega));conv=>whnf)|(apply z8<;>intro _<;>conv=>whnf)|(apply z41<;>intro _<;>conv=>whnf))
       all_goals try (exfalso;omega)
       all_goals exact z81 (k+1) [] ⟨by omega,hok⟩ (by omega) ⟨rfl,by decide,rfl,⟨⟨rfl,rfl⟩,⟨rfl,rfl⟩,⟨rfl,rfl⟩,⟨rfl,rfl⟩,trivial⟩,trivial⟩
     ·repeat' (first|(apply y4 ok;rfl;conv=>whnf)|(apply z37;kernel_rfl;conv=>whnf)|(apply y39;(first|omega|(unfold inI;omega));conv=>whnf)|(with_reducible apply z15;omega;intro _;conv=>whnf)|(apply z8<;>intro _<;>conv=>whnf)|(apply z41<;>intro _<;>conv=>whnf))
      all_goals try (exfalso;omega)
      refine z81 (i+1) [] ⟨by omega,fun j k' hk' hj he=>?_⟩ (by omega) ⟨rfl,by decide,rfl,⟨⟨rfl,rfl⟩,⟨rfl,rfl⟩,⟨rfl,rfl⟩,trivial⟩,trivial⟩
      rcases y66 j i with h7|h7
      ·exact hi2 j k' hk' h7 he
      ·obtain rfl:j=i:=by omega
       exact hk2 k' (by omega) he
    ·have hyes:LetP bl ls:=fun i' k hk hi' he=>hi2 i' k hk (by omega) he
     repeat' (first|(apply y4 ok;rfl;conv=>whnf)|(apply z8<;>intro _<;>conv=>whnf))
     all_goals try (exfalso;omega)
     exact z24 rfl (by rw [y78 hyes];rfl)
   ·rw [y79 h3] at c4 ⊢
    repeat' (first|(apply y4 ok;rfl;conv=>whnf)|(apply z6 (c0);rfl;rfl;conv=>whnf)|(apply z6 (c1);rfl;rfl;conv=>whnf)|(apply z6 (c3);rfl;rfl;conv=>whnf)|(apply z6 (c4);rfl;rfl;conv=>whnf))
    all_goals exact z24 rfl rfl
  ·have h2:=(y68 _).mp h2
   rw [h2] at c0 ⊢
   refine z12 z19 Tryz.func8 rfl rfl 64 Tryz.ntmps8 (by simp) ?_
   repeat' (first|(apply y4 ok;rfl;conv=>whnf)|(apply z6 (c0);rfl;rfl;conv=>whnf))
   all_goals exact z24 rfl rfl
 ·have hv:=(y68 _).mp hv
  rw [hv] at c1 ⊢
  rw [Bool.false_and,Bool.and_false]
  refine z12 z19 Tryz.func8 rfl rfl 64 Tryz.ntmps8 (by simp) ?_
  repeat' (first|(apply y4 ok;rfl;conv=>whnf)|(apply z109<;>intro _<;>conv=>whnf)|(apply z6 (c0);rfl;rfl;conv=>whnf)|(apply z6 (c1);rfl;rfl;conv=>whnf))
  all_goals exact z24 rfl rfl
structure IntsOk (b:List Int):Prop where
 mx:b.length≤maxLen
 len:b.length≤1048576
theorem IntsOk.of {b:List Int} (h:b.length≤maxLen) (h1:b.length≤1048576):IntsOk b:=⟨h,h1⟩
end Go.Proofs.YteinbnahinpegaaGreat
namespace Go.Proofs.YteinbnahinpegaaGreat
open Go.Gl
attribute [local irreducible] z20 AWP z30 z35 z34 RetS z42
theorem z1154 (bs:List Int) (hb:CodeOk bs):∃ (g:Graph) (l:List Tree) (B:List Int),(g.d∧Lab.d l∧B.length≤101)∧CallsA Tryz.prog 5 [lst 1 enU bs] [] (.tup [.agg g.cs,lst 3 Tree.cs' l,ints B]) []:=by
 have co:=z592 bs hb.len
 obtain ⟨M,n,p1,⟨a1,a2,a3,a4,a5⟩,c1⟩:=z655 (bs.take 2000) hb.take 0 ⟨by omega,by omega⟩
 obtain ⟨g0,g,p2,p3,c2,c3,hg,_,_⟩:=z1108 (bs.take 2000) hb.take p1 ⟨by omega,by omega⟩
 have hl:Lab.d (M.take n):=⟨by simp;omega,fun t ht=>a3 t (List.mem_of_mem_take ht)⟩
 obtain ⟨B,p4,⟨b1,b2,b3⟩,c4⟩:=z744 (bs.take 2000) hb.take p3 (by omega) (by omega) g hg (M.take n) hl
 generalize hL:M.take n=L at *
 refine ⟨g,L,B,⟨hg,hl,b1⟩,?_⟩
 generalize bs.take 2000=b0 at *
 obtain ⟨x,y,z,rfl⟩:=len3 a2
 have hn:n=0∨n=1∨n=2∨n=3:=by simp at a1;omega
 rcases hn with rfl|rfl|rfl|rfl
 all_goals
  refine z10 z19 Tryz.func5 rfl rfl 22 Tryz.ntmps5 (by simp) ?_
  repeat' ((first|((fail_if_success apply z114 4);(fail_if_success apply z96 4);apply y4 ok;rfl)|((first|(apply z11 [] [1] co;rfl;rfl)|(apply z11 [1] [2] c1;rfl;rfl)|(apply z11 [1] [] c2;rfl;rfl)|(apply z11 [1] [] c3;rfl;rfl));rfl;(focus ((repeat' first|exact z17|apply z14)<;>first|exact z45 rfl rfl|(refine z23 ?_;((exact z7 fun _=>rfl)))))))<;>conv=>whnf)
  refine y81 (SealW.reach (env:=[(2,.ptr 0 none 0),(5,.ptr 1 none 0),(6,lst 3 Tree.cs' L),(7,.ptr 2 none 0)]) (objs:=[.cells 2 [[.nils,.nils]],rdO b0 p3,.cells 2 [g.cs]]) [0,1,3] [2] rfl rfl rfl rfl ?_ ?_) ?_
  ·subst hL;(repeat' first|exact y82 _|constructor)
  ·(repeat' first|exact y82 _|apply y83|constructor)
  conv=>whnf
  repeat' ((first|(apply y4 ok;rfl)|(apply z37;kernel_rfl)|(apply z29 [1] [] c4;rfl;rfl;rfl))<;>conv=>whnf)
  all_goals (refine rsD [] [] rfl ?_;(repeat' first|exact y82 _|constructor))
theorem lsT_quo {g:Graph} {l:List Tree} {bl:List Int} {u:Nat} (hu:u < (fstB bl g.st.length).length):lsT (quoG g bl) l u=lsT g l ((fstB bl g.st.length).getD u 0):=by
 unfold lsT;rw [z1085 hu]
end Go.Proofs.YteinbnahinpegaaGreat
namespace Go.Proofs.YteinbnahinpegaaGreat
open Go.Gl
attribute [local irreducible] z20 AWP z30 z35 z34
theorem z455 {d : Int} (l : List Tree) (hl : l.length ≤ maxLen) (p : Tree → Int → Bool) (nx : Tree → Int → Int) (okS : Int → Prop) (hok : ∀ x s, okS s → p x s = false → okS (nx x s)) (f : FuncId) (s : Int) (h0 : okS s)
    (hf:∀ x∈l,∀ s,okS s→CallsA Tryz.prog f [z40 Tree.cs' x,.pt [.int d],.ptr 1 none 0] [.cells 1 [[.int s]],.cells 1 [[.ptr 0 none 0]]] (.bool (p x s)) [.cells 1 [[.int (nx x s)]],.cells 1 [[.ptr 0 none 0]]]) :
    CallsA Tryz.prog 226 [lst 3 Tree.cs' l,.fn (.func f) [] [.pt [.int d],.ptr 1 none 0]] [.cells 1 [[.int s]],.cells 1 [[.ptr 0 none 0]]] (.int (idxS p nx l s 0).1) [.cells 1 [[.int (idxS p nx l s 0).2]],.cells 1 [[.ptr 0 none 0]]]:=by
  unfold maxLen at hl
  refine z12 z19 Tryz.func226 rfl rfl 19 Tryz.ntmps226 (by simp) ?_
  repeat' ((apply y4 ok;rfl;conv=>whnf))
  refine z97 (fun x:Nat×Int=>([(0,lst 3 Tree.cs' l),(1,.fn (.func f) [] [.pt [.int d],.ptr 1 none 0]),(7,.int l.length),(8,.int x.1)],[.cells 1 [[.int x.2]],.cells 1 [[.ptr 0 none 0]]])) (fun x=>x.1≤l.length∧okS x.2∧idxS p nx l s 0=idxS p nx (l.drop x.1) x.2 x.1) (fun x=>l.length - x.1) (0,s) ⟨by omega,h0,rfl⟩
    ⟨[0,1],rfl,by decide,rfl,⟨⟨rfl,rfl⟩,⟨rfl,rfl⟩,⟨rfl,rfl⟩,⟨rfl,rfl⟩,trivial⟩,⟨z27 rfl rfl,z27 rfl rfl,trivial⟩⟩ ?_
  rintro ⟨k,t⟩ ⟨hk1,hk2,hk3⟩
  dsimp only at hk1 hk2 hk3
  repeat' (first|(apply y4 ok;rfl;conv=>whnf)|(apply y39;(first|omega|(unfold inI;omega));conv=>whnf)|(with_reducible apply z15;omega;intro _;conv=>whnf)|(apply z8<;>intro _<;>conv=>whnf)|(apply z110<;>intro _<;>conv=>whnf)|(apply z86 [0,1] [] [] (hf l[k] (y40 _) t hk2);rfl;(focus ((repeat' (first|exact z43|apply z64))<;>(rfl)));rfl;rfl;rfl;rfl;rfl;(focus ((repeat' (first|exact z17|apply z14))<;>(exact z45 rfl rfl)));(exact .inl rfl);conv=>whnf))
  · rename_i h hkl h1
    rw [y76 hkl,idxS,if_pos h1] at hk3
    rw [hk3]
    exact z95 [0,1] (by decide) rfl rfl rfl ⟨z27 rfl rfl,z27 rfl rfl,trivial⟩
  · rename_i h hkl h1
    rw [y76 hkl,idxS,if_neg (by rw [h1];simp)] at hk3
    exact z81 (k+1,nx l[k] t) [0,1] ⟨by dsimp only;omega,hok _ _ hk2 h1,hk3⟩ (by dsimp only;omega) ⟨rfl,by decide,rfl,⟨⟨rfl,rfl⟩,⟨rfl,rfl⟩,⟨rfl,rfl⟩,⟨rfl,rfl⟩,trivial⟩,⟨z27 rfl rfl,z27 rfl rfl,trivial⟩⟩
  · rw [y80 (by omega),idxS] at hk3
    rw [hk3]
    exact z95 [0,1] (by decide) rfl rfl rfl ⟨z27 rfl rfl,z27 rfl rfl,trivial⟩
theorem z766 {d : Int} (l : List Tree) (hl : l.length ≤ maxLen) (p : Tree → Int → Bool) (nx : Tree → Int → Int) (okS : Int → Prop) (hok : ∀ x s, okS s → p x s = false → okS (nx x s)) (f : FuncId) (s : Int) (h0 : okS s)
    (hf:∀ x∈l,∀ s,okS s→CallsA Tryz.prog f [z40 Tree.cs' x,.pt [.int d],.ptr 1 none 0] [.cells 1 [[.int s]],.cells 1 [[.ptr 0 none 0]]] (.bool (p x s)) [.cells 1 [[.int (nx x s)]],.cells 1 [[.ptr 0 none 0]]]) :
    CallsA Tryz.prog 194 [lst 3 Tree.cs' l,.fn (.func f) [] [.pt [.int d],.ptr 1 none 0]] [.cells 1 [[.int s]],.cells 1 [[.ptr 0 none 0]]] (.bool (decide (0≤(idxS p nx l s 0).1))) [.cells 1 [[.int (idxS p nx l s 0).2]],.cells 1 [[.ptr 0 none 0]]]:=by
  refine z12 z19 Tryz.func194 rfl rfl 9 Tryz.ntmps194 (by simp) ?_
  repeat' (first|(apply y4 ok;rfl;conv=>whnf)|(apply z86 [0,1] [] [] (z455 (d:=d) l hl p nx okS hok f s h0 hf);rfl;(focus ((repeat' (first|exact z43|apply z64))<;>(rfl)));rfl;rfl;rfl;rfl;rfl;(focus ((repeat' (first|exact z17|apply z14))<;>(exact z45 rfl rfl)));(exact .inl rfl);conv=>whnf))
  exact z95 [0,1] (by decide) rfl rfl rfl ⟨z27 rfl rfl,z27 rfl rfl,trivial⟩
theorem z829 (k:Int):CallsA Tryz.prog 193 [.int k] [] (.int (if k=1∨k=2 then 0 else if k=4∨k=5∨k=7∨k=8 then 2 else 1)) []:=by
 refine z12 z19 Tryz.func193 rfl rfl 12 Tryz.ntmps193 (by simp) ?_
 repeat' (first|(apply y4 ok;rfl;conv=>whnf)|(apply z8<;>intro _<;>conv=>whnf))
 all_goals (refine z50 rfl rfl ?_;first|(rw [if_pos (by omega)];rfl)|(rw [if_neg (by omega),if_pos (by omega)];rfl)|(rw [if_neg (by omega),if_neg (by omega)];rfl))
theorem walkF_ok (t:Tree):t.mx→∀ d n:Int,0≤d→d≤100→0≤n→n≤12→CallsA Tryz.prog 139 [z40 Tree.cs' t,.int d,.ptr 0 none 0] [.cells 1 [[.int n]]] (.bool (t.walkF d n).2) [.cells 1 [[.int (t.walkF d n).1]]]:=by
  induction t using y25 with|h t ih=>?_
  intro hm d n hd0 hd1 h0 h1
  rw [y26] at hm
  have hs:=Tree.walkF_spec.1
  have hk:d≤6→n+1≤12→CallsA Tryz.prog 194 [lst 3 Tree.cs' t.kids,.fn (.func 195) [] [.pt [.int d],.ptr 1 none 0]] [.cells 1 [[.int (n+1)]],.cells 1 [[.ptr 0 none 0]]] (.bool (!(Tree.walkFs t.kids (d+1) (n+1)).2)) [.cells 1 [[.int (Tree.walkFs t.kids (d+1) (n+1)).1]],.cells 1 [[.ptr 0 none 0]]]:=by
    intro hd hn
    have h:=z766 (d:=d) t.kids hm.1 (fun x s=>!(x.walkF (d+1) s).2) (fun x s=>(x.walkF (d+1) s).1) (fun s=>0≤s∧s≤12) (fun x s h1 h2=>by
      obtain ⟨a1,a2,a3,a4⟩:=hs x (d+1) s h1.1 h1.2
      have h3:(x.walkF (d+1) s).2=true:=by simpa using h2
      have:=(a1.1 h3).2
      rw [← a2 h3] at this
      exact ⟨by omega,this⟩) 195 (n+1) ⟨by omega,by omega⟩ (fun x hx s h=>by
        have hc:=ih x hx (hm.2 x hx) (d+1) s (by omega) (by omega) h.1 h.2
        refine z12 z19 Tryz.func195 rfl rfl 11 Tryz.ntmps195 (by simp) ?_
        repeat' (first|(apply y4 ok;rfl;conv=>whnf)|(apply y39;((unfold inI;omega));conv=>whnf)|(apply z86 [0] [] [] (hc);rfl;(focus ((repeat' (first|exact z43|apply z64))<;>(rfl)));rfl;rfl;rfl;rfl;rfl;(focus ((repeat' (first|exact z17|apply z14))<;>(exact z45 rfl rfl)));(exact .inl rfl);conv=>whnf))
        exact z95 [0,1] (by decide) rfl rfl rfl ⟨z27 rfl rfl,z27 rfl rfl,trivial⟩)
    rw [y38 (d+1) t.kids (n+1) 0,Bool.not_not]
    exact h
  have hk2:=fun h1 h2=>by
    have:=hk h1 h2
    unfold lst at this
    rw [← y16] at this
    exact this
  refine z12 z19 Tryz.func139 rfl rfl 51 Tryz.ntmps139 (by simp) ?_
  repeat' (first|(apply y4 ok;rfl;conv=>whnf)|(apply z37;kernel_rfl;conv=>whnf)|(apply y39;((unfold inI;omega));conv=>whnf)|(apply z8<;>intro _<;>conv=>whnf)|(apply z41<;>intro _<;>conv=>whnf)|(apply z109<;>intro _<;>conv=>whnf)|(apply z6 (z348 _ 1 10);rfl;rfl;conv=>whnf)|(apply z6 (z348 _ 0 2);rfl;rfl;conv=>whnf)|(apply z6 (z348 _ 0 0);rfl;rfl;conv=>whnf)|(apply z6 (z829 t.kind);rfl;rfl;conv=>whnf)|(apply z86 [0,3] [2] [] (hk2 (by omega) (by omega));rfl;(focus ((repeat' (first|exact z43|apply z64))<;>(rfl)));rfl;rfl;rfl;rfl;rfl;(focus ((repeat' (first|exact z17|apply z14))<;>(exact z45 rfl rfl)));((refine .inr ⟨rfl,?_⟩;repeat' (first|exact True.intro|apply y39|exact rfl)));conv=>whnf))
  all_goals first
    | (have e : t.walkF d n = (n + 1, false) := by
        rw [y37,if_neg]
        clear hk hk2 hs ih
        rintro ⟨c1,c2,c3,c4,c5⟩
        try simp only [z303,z141] at *
        unfold z381 at c4
        unfold z179 at c5
        grind
       rw [e]
       exact z95 [0] (by decide) rfl rfl rfl ⟨z27 rfl rfl,trivial⟩)
    | (have e : t.walkF d n = Tree.walkFs t.kids (d + 1) (n + 1) := by
        rw [y37,if_pos]
        clear hk hk2 hs ih
        try simp only [z303,z141] at *
        unfold z381 z179
        grind
       rw [e]
       refine z95 [0] (by decide) rfl rfl ?_ ⟨z27 rfl rfl,trivial⟩
       show AC.raw (.bool (!!_))=_
       rw [Bool.not_not];rfl)
theorem z998 (t:Tree) (hm:t.mx):CallsA Tryz.prog 93 [z40 Tree.cs' t] [] (.int (if t.fmB=true then (t.walkF 1 0).1 else 0)) []:=by
 have hk:=walkF_ok t hm 1 0 (by omega) (by omega) (by omega) (by omega)
 unfold Tree.fmB
 refine z12 z19 Tryz.func93 rfl rfl 8 Tryz.ntmps93 (by simp) ?_
 repeat' (first|(apply y4 ok;rfl;conv=>whnf)|(apply z109<;>intro _<;>conv=>whnf)|(apply z86 [1] [] [] (hk);rfl;(focus ((repeat' (first|exact z43|apply z64))<;>(rfl)));rfl;rfl;rfl;rfl;rfl;(focus ((repeat' (first|exact z17|apply z14))<;>(exact z45 rfl rfl)));(exact .inl rfl);conv=>whnf))
 all_goals exact z508 rfl (by simp [*])
theorem z137 (t:Tree) (hm:t.mx):CallsA Tryz.prog 41 [z40 Tree.cs' t] [] (.bool t.fmB) []:=by
 have hk:=z998 t hm
 have e:decide (0 < if t.fmB=true then (t.walkF 1 0).1 else 0)=t.fmB:=by
  by_cases h:t.fmB=true
  ·have h2:=(Tree.walkF_spec.1 t 1 0 (by omega) (by omega)).2.1 h
   have h3:=Tree.count_pos.1 t (7 - 1)
   rw [h,if_pos rfl];exact y78 (by omega)
  ·rw [if_neg h,(y68 _).mp h];rfl
 refine z12 z19 Tryz.func41 rfl rfl 6 Tryz.ntmps41 (by simp) ?_
 repeat' (first|(apply y4 ok;rfl;conv=>whnf)|(apply z6 (hk);rfl;rfl;conv=>whnf))
 all_goals exact z24 rfl e.symm
theorem z587 (k:Int):CallsA Tryz.prog 123 [.int k] [] (.int (z179 k)) []:=by
 refine z12 z19 Tryz.func123 rfl rfl 17 Tryz.ntmps123 (by simp) ?_
 repeat' (first|(apply y4 ok;rfl;conv=>whnf)|(apply z8<;>intro _<;>conv=>whnf))
 all_goals (refine z50 rfl rfl ?_;unfold z179;first|(rw [if_pos (by omega)];rfl)|(rw [if_neg (by omega),if_pos (by omega)];rfl)|(rw [if_neg (by omega),if_neg (by omega),if_pos (by omega)];rfl)|(rw [if_neg (by omega),if_neg (by omega),if_neg (by omega)];rfl))
theorem z817 (l:List Tree) (d:Int):Tree.shapeFs l d=l.all (fun t=>t.shapeF d):=by
 induction l with
 |nil=>rfl
 |cons t l ih=>simp [Tree.shapeFs,ih]
theorem z368 (t:Tree) (d:Int):t.shapeF d=(decide (1≤d∧(t.kids.length:Int)=z179 t.kind∧0≤t.val∧t.val≤z381 t.kind) && t.kids.all fun t=>t.shapeF (d - 1)):=by
 cases t;simp only [Tree.shapeF,Tree.kids,Tree.kind,Tree.val,z817];rfl
theorem z983 (t:Tree):t.mx→∀ d:Int,-100≤d→d≤100→CallsA Tryz.prog 124 [z40 Tree.cs' t,.int d] [] (.bool (t.shapeF d)) []:=by
  induction t using y25 with|h t ih=>?_
  intro hm d h0 h1
  rw [y26] at hm
  have hl:=hm.1
  unfold maxLen at hl
  rw [y15,z368]
  refine z12 z19 Tryz.func124 rfl rfl 51 Tryz.ntmps124 (by simp) ?_
  repeat' (first|(apply y4 ok;rfl;conv=>whnf)|(apply z37;kernel_rfl;conv=>whnf)|(apply z8<;>intro _<;>conv=>whnf)|(apply z41<;>intro _<;>conv=>whnf)|(apply z6 (z587 _);rfl;rfl;conv=>whnf))
  all_goals first
    | (refine z24 rfl ?_
       rw [y79]
       · rfl
       · clear ih
         rintro ⟨c1,c2,c3,c4⟩
         unfold z381 at c4
         grind)
    | (have hg : decide (1 ≤ d ∧ (t.kids.length : Int) = z179 t.kind ∧ 0 ≤ t.val ∧ t.val ≤ z381 t.kind) = true := by
         clear ih
         refine y78 ?_
         unfold z381
         grind
       rw [hg,Bool.true_and]
       refine z97 (fun k:Nat=>([(1,.int d),(2,.ptr 0 none 0),(5,.int k)],[.cells 3 [[.int t.kind,.int t.val,lst 3 Tree.cs' t.kids]]])) (fun k=>k≤t.kids.length∧(t.kids.all fun t=>t.shapeF (d - 1))=(t.kids.drop k).all fun t=>t.shapeF (d - 1)) (fun k=>t.kids.length - k) 0 ⟨by omega,rfl⟩ ⟨[0],rfl,by decide,rfl,by repeat' (first|exact True.intro|exact ⟨rfl,rfl⟩|apply y39),by repeat' (first|exact True.intro|exact z27 rfl rfl|apply y39)⟩ ?_
       intro k hk
       repeat' (first|(apply y4 ok;rfl;conv=>whnf)|(apply y39;(first|omega|(unfold inI;omega));conv=>whnf)|(with_reducible apply z15;omega;intro _;conv=>whnf)|(apply z8<;>intro _<;>conv=>whnf)|(apply z109<;>intro _<;>conv=>whnf)|(apply z6 (ih t.kids[k] (y40 _) (hm.2 _ (y40 _)) (d - 1) (by omega) (by omega));rfl;rfl;conv=>whnf))
       · rename_i h1
         exact z24 rfl (by rw [hk.2,z156 _ _ _ (by assumption)];simp [h1])
       · rename_i h1
         exact z81 (k+1) [0] ⟨by omega,by rw [hk.2,z156 _ _ _ (by assumption)];simp [h1]⟩ (by omega) ⟨rfl,by decide,rfl,by repeat' (first|exact True.intro|exact ⟨rfl,rfl⟩|apply y39),by repeat' (first|exact True.intro|exact z27 rfl rfl|apply y39)⟩
       · exact z24 rfl (by rw [hk.2,z146 _ _ _ (by omega)]))
theorem z1159 (t:Tree):∀ d n:Nat,t.shapeF d=true→t.count n≤2 ^ d - 1:=by
 induction t using y25 with|h t ih=>?_
 intro d n h
 rw [z368,y67,decide_eq_true_eq] at h
 obtain ⟨⟨h1,h2,_,_⟩,h3⟩:=h
 rw [y75] at h3
 obtain ⟨d,rfl⟩:∃ e,d=e+1:=⟨d - 1,by omega⟩
 have e:((d+1:Nat):Int) - 1=(d:Nat):=by omega
 rw [e] at h3
 rw [z480]
 have hp:(1:Int)≤2 ^ d:=by exact_mod_cast Nat.one_le_two_pow
 have hq:((2:Int) ^ (d+1))=2 * 2 ^ d:=by rw [Int.pow_succ];omega
 split
 ·rename_i hn
  obtain ⟨n,rfl⟩:∃ e,n=e+1:=⟨n - 1,by omega⟩
  have e:((n+1:Nat):Int) - 1=(n:Nat):=by omega
  rw [e]
  have hl:(t.kids.length:Int)≤2:=by rw [h2];unfold z179;grind
  have hk:∀ u∈t.kids,u.count n≤2 ^ d - 1:=fun u hu=>ih u hu d n (h3 u hu)
  match hkk:t.kids with
  |[]=>simp only [List.map_nil,List.sum_nil];omega
  |[a] =>
   have:=hk a (by simp [hkk])
   simp only [List.map_cons,List.map_nil,List.sum_cons,List.sum_nil];omega
  |[a,b] =>
   have:=hk a (by simp [hkk])
   have:=hk b (by simp [hkk])
   simp only [List.map_cons,List.map_nil,List.sum_cons,List.sum_nil];omega
  |a::b::c::r=>rw [hkk] at hl;simp only [y54] at hl;omega
 ·omega
theorem z764 (t:Tree) (e d:Int) (he:e≤50) (hd:0≤d) (h:t.shapeF e=true):t.count d≤2 ^ 50:=by
 have h1:1≤e:=by
  rw [z368,y67,decide_eq_true_eq] at h;exact h.1.1
 obtain ⟨n,rfl⟩:=Int.eq_ofNat_of_zero_le (show 0≤e by omega)
 obtain ⟨m,rfl⟩:=Int.eq_ofNat_of_zero_le hd
 have h2:=z1159 t n m h
 have h4:(2:Int) ^ n≤2 ^ 50:=by exact_mod_cast Nat.pow_le_pow_right (by omega) (by omega)
 omega
theorem z984 (t:Tree):t.mx→∀ e d:Int,e≤50→0≤d→d≤50→t.shapeF e=true→CallsA Tryz.prog 125 [z40 Tree.cs' t,.int d] [] (.int (t.count d)) []:=by
 induction t using y25 with|h t ih=>?_
 intro hm e d h0 h1 h2 hs
 rw [y26] at hm
 rw [z368,y67,decide_eq_true_eq,y75] at hs
 obtain ⟨⟨hs1,hs2,_,_⟩,hs3⟩:=hs
 have hl:(t.kids.length:Int)≤2:=by rw [hs2];unfold z179;grind
 rw [y15,z480]
 have hb:0 < d→∀ k,k≤t.kids.length→0≤((t.kids.take k).map fun t=>t.count (d - 1)).sum∧((t.kids.take k).map fun t=>t.count (d - 1)).sum≤k * 2 ^ 50:=by
  intro hd k
  induction k with
  |zero=>intro _;simp
  |succ k ihk =>
   intro hk
   have h1:=ihk (by omega)
   rw [z459 _ _ _ (by omega)]
   have h2:=z764 t.kids[k] (e - 1) (d - 1) (by omega) (by omega) (hs3 _ (y40 _))
   have h3:=Tree.count_pos.1 t.kids[k] (d - 1)
   omega
 refine z12 z19 Tryz.func125 rfl rfl 29 Tryz.ntmps125 (by simp) ?_
 repeat' ((apply y4 ok;rfl;conv=>whnf))
 by_cases hd:0 < d
 ·rw [if_pos hd]
  refine z97 (fun k:Nat=>([(1,.int d),(2,.ptr 0 none 0),(5,.int (1+((t.kids.take k).map fun t=>t.count (d - 1)).sum)),(6,.int k)],[.cells 3 [[.int t.kind,.int t.val,lst 3 Tree.cs' t.kids]]])) (fun k=>k≤t.kids.length) (fun k=>t.kids.length - k) 0 (by omega) ⟨[0],rfl,by decide,rfl,by repeat' (first|exact True.intro|exact ⟨rfl,rfl⟩|apply y39),by repeat' (first|exact True.intro|exact z27 rfl rfl|apply y39)⟩ ?_
  intro k hk
  have hbk:=hb hd k hk
  have hbk1:=fun h=>hb hd (k+1) h
  have hss:=fun h=>z459 (fun t=>t.count (d - 1)) t.kids k h
  repeat' (first|(apply y4 ok;rfl;conv=>whnf)|(apply y39;(first|omega|(unfold inI;omega));conv=>whnf)|(with_reducible apply z15;omega;intro _;conv=>whnf)|(apply z8<;>intro _<;>conv=>whnf)|(apply z6 (ih t.kids[k] (y40 _) (hm.2 _ (y40 _)) (e - 1) (d - 1) (by omega) (by omega) (by omega) (hs3 _ (y40 _)));rfl;rfl;conv=>whnf))
  ·have e1:=hss ‹_›
   have e2:=hbk1 (by omega)
   refine y39 (by unfold inI;omega) ?_
   conv=>whnf
   repeat' (first|(apply y4 ok;rfl;conv=>whnf)|(apply y39;((unfold inI;omega));conv=>whnf))
   exact z81 (k+1) [0] (by omega) (by omega) ⟨rfl,by decide,rfl,⟨⟨rfl,rfl⟩,⟨rfl,rfl⟩,⟨rfl,by rw [e1,← Int.add_assoc];rfl⟩,⟨rfl,rfl⟩,trivial⟩,⟨z27 rfl rfl,trivial⟩⟩
  ·omega
  ·obtain rfl:k=t.kids.length:=by omega
   exact z50 rfl rfl (by rw [y52];rfl)
 ·rw [if_neg hd]
  refine z97 (fun k:Nat=>([(1,.int d),(2,.ptr 0 none 0),(5,.int 1),(6,.int k)],[.cells 3 [[.int t.kind,.int t.val,lst 3 Tree.cs' t.kids]]])) (fun k=>k≤t.kids.length) (fun k=>t.kids.length - k) 0 (by omega) ⟨[0],rfl,by decide,rfl,by repeat' (first|exact True.intro|exact ⟨rfl,rfl⟩|apply y39),by repeat' (first|exact True.intro|exact z27 rfl rfl|apply y39)⟩ ?_
  intro k hk
  repeat' (first|(apply y4 ok;rfl;conv=>whnf)|(apply y39;(omega);conv=>whnf)|(with_reducible apply z15;omega;intro _;conv=>whnf)|(apply z8<;>intro _<;>conv=>whnf))
  ·omega
  ·exact z50 rfl rfl rfl
  ·exact z50 rfl rfl rfl
theorem z553 (t:Tree) (hm:t.mx):CallsA Tryz.prog 71 [z40 Tree.cs' t] [] (.bool t.fmB) []:=by
 rw [y19]
 refine z12 z19 Tryz.func71 rfl rfl 10 Tryz.ntmps71 (by simp) ?_
 repeat' (first|(apply y4 ok;rfl;conv=>whnf)|(apply z110<;>intro _<;>conv=>whnf)|(apply z6 (z983 t hm 6 (by omega) (by omega));rfl;rfl;conv=>whnf)|(apply z6 (z984 t hm 6 6 (by omega) (by omega) (by omega) (by assumption));rfl;rfl;conv=>whnf))
 all_goals (refine z24 rfl ?_;(simp [*];done))
end Go.Proofs.YteinbnahinpegaaGreat
namespace Go.Proofs.YteinbnahinpegaaGreat
open Go.Gl
attribute [local irreducible] z20 AWP z30 z35 z34 RetS z42
theorem z521:CallsA Tryz.prog 69 [] [] (.agg [.int 1,.int 0,.list 3 0 []]) []:=by
 refine z10 z19 Tryz.func69 rfl rfl 2 Tryz.ntmps69 (by simp) ?_
 repeat' (((apply y4 ok;rfl))<;>conv=>whnf)
 all_goals (refine rsD [] [] rfl ?_;(repeat' first|exact y82 _|exact z52|apply z60|constructor))
set_option maxHeartbeats 1600000 in
theorem z836 (bs:List Int) (hb:BytesOk bs):∀ (n:Nat) (d p:Int),d≤n+1→n≤100→0≤d→0≤p→p+drK n≤1000000000→∃ (t:Tree) (p' : Int),(t.sz≤drS n∧p≤p'∧p'≤p+drK n)∧CallsA Tryz.prog 70 [.ptr 0 none 0,.int d] [rdO bs p] (z40 Tree.cs' t) [rdO bs p']:=by
 intro n
 induction n with
 |zero =>
  intro d p hd hd1 hd0 hp hq
  rw [drK] at hq ⊢
  obtain ⟨v0,⟨l0,u0⟩,c0⟩:=z69 bs hb p 8 (by omega) (by omega) (by omega)
  by_cases h0:v0=0
  ·subst h0
   refine ⟨leaf 1 0,p+1,⟨by rw [z94];omega,by omega,by omega⟩,?_⟩
   refine z10 z19 Tryz.func70 rfl rfl 43 Tryz.ntmps70 (by simp) ?_
   repeat' ((first|(apply y4 ok;rfl)|((apply z8)<;>intro _)|(apply z6 (z521);rfl;rfl)|(apply z29 [0] [] c0;rfl;rfl;rfl))<;>conv=>whnf)
   all_goals try (exfalso;omega)
   all_goals (refine rsD [0] [] rfl ?_;(repeat' first|exact y82 _|apply y83|constructor))
  ·obtain ⟨v1,m1,c1⟩:=z108 bs hb (p+1) (by omega) (by omega) [0,1,0,2] (by decide) (by decide)
   refine ⟨leaf 2 v1,p+1+1,⟨by rw [z94];omega,by omega,by omega⟩,?_⟩
   refine z10 z19 Tryz.func70 rfl rfl 43 Tryz.ntmps70 (by simp) ?_
   repeat' ((first|(apply y4 ok;rfl)|((apply z8)<;>intro _)|((first|(apply z11 [0] [] c0;rfl;rfl)|(apply z11 [0,2] [] c1;rfl;rfl));rfl;(focus ((repeat' first|exact z17|apply z14)<;>first|exact z45 rfl rfl|(refine z23 ?_;((exact z7 fun _=>rfl)))))))<;>conv=>whnf)
   all_goals try (exfalso;omega)
   all_goals (refine rsD [0] [] rfl ?_;(repeat' first|exact y82 _|exact z52|apply y83|apply z60|constructor))
 |succ n ih =>
  intro d p hd hd1 hd0 hp hq
  have hK:=z1155 n
  by_cases hlt:d < 2
  ·obtain ⟨t,p',h1,h2⟩:=ih d p (by omega) (by omega) hd0 hp (by rw [drK] at hq;omega)
   exact ⟨t,p',⟨by rw [drS];omega,h1.2.1,by rw [drK];omega⟩,h2⟩
  rw [drK] at hq
  rw [drK,drS]
  obtain ⟨w,⟨lw,uw⟩,cw⟩:=z69 bs hb p 5 (by omega) (by omega) (by omega)
  by_cases hw:w=0
  ·subst hw
   obtain ⟨v0,⟨l0,u0⟩,c0⟩:=z69 bs hb (p+1) 8 (by omega) (by omega) (by omega)
   by_cases h0:v0=0
   ·subst h0
    refine ⟨leaf 1 0,p+1+1,⟨by rw [z94];omega,by omega,by omega⟩,?_⟩
    refine z10 z19 Tryz.func70 rfl rfl 43 Tryz.ntmps70 (by simp) ?_
    repeat' ((first|(apply y4 ok;rfl)|((apply z8)<;>intro _)|(apply z6 (z521);rfl;rfl)|((first|(apply z29 [0] [] cw;rfl;rfl)|(apply z29 [0] [] c0;rfl;rfl));rfl))<;>conv=>whnf)
    all_goals try (exfalso;omega)
    all_goals (refine rsD [0] [] rfl ?_;(repeat' first|exact y82 _|apply y83|constructor))
   ·obtain ⟨v1,m1,c1⟩:=z108 bs hb (p+1+1) (by omega) (by omega) [0,1,0,2] (by decide) (by decide)
    refine ⟨leaf 2 v1,p+1+1+1,⟨by rw [z94];omega,by omega,by omega⟩,?_⟩
    refine z10 z19 Tryz.func70 rfl rfl 43 Tryz.ntmps70 (by simp) ?_
    repeat' ((first|(apply y4 ok;rfl)|((apply z8)<;>intro _)|((first|(apply z11 [0] [] cw;rfl;rfl)|(apply z11 [0] [] c0;rfl;rfl)|(apply z11 [0,2] [] c1;rfl;rfl));rfl;(focus ((repeat' first|exact z17|apply z14)<;>first|exact z45 rfl rfl|(refine z23 ?_;((exact z7 fun _=>rfl)))))))<;>conv=>whnf)
    all_goals try (exfalso;omega)
    all_goals (refine rsD [0] [] rfl ?_;(repeat' first|exact y82 _|exact z52|apply y83|apply z60|constructor))
  ·obtain ⟨kd,mk,ck⟩:=z108 bs hb (p+1) (by omega) (by omega) [7,9,10,3,4,5,6,8] (by decide) (by decide)
   have ca:=z587 kd
   have ham:∃ m:Nat,z179 kd=m∧m≤2:=by
    simp only [List.mem_cons,List.not_mem_nil,or_false] at mk
    unfold z179
    rcases mk with rfl|rfl|rfl|rfl|rfl|rfl|rfl|rfl
    all_goals first|exact ⟨2,rfl,by omega⟩|exact ⟨1,rfl,by omega⟩
   obtain ⟨m,em,hm⟩:=ham
   rw [em] at ca
   obtain ⟨ks,pf,hks,hp0,hst,hpf⟩:=z370 (fun k q (t:Tree) q'=>t.sz≤drS n∧CallsA Tryz.prog 70 [.ptr 0 none 0,.int (d - 1)] [rdO bs q] (z40 Tree.cs' t) [rdO bs q']) (p+1+1) (drK n) m (fun k q hk h1 h2=>by
    have:drK n * k≤drK n:=by
     have:k=0∨k=1:=by omega
     rcases this with rfl|rfl<;>simp<;>omega
    obtain ⟨t,q',⟨a1,a2,a3⟩,a4⟩:=ih (d - 1) q (by omega) (by omega) (by omega) (by omega) (by omega)
    exact ⟨t,q',⟨a1,a4⟩,a2,a3⟩)
   have hpm:=hpf m (y48 _)
   have hKm:drK n * m≤2 * drK n:=by
    have:m=0∨m=1∨m=2:=by omega
    rcases this with rfl|rfl|rfl<;>simp<;>omega
   have hsum:(ks.map Tree.sz).sum≤2 * drS n:=by
    have:∀ (l:List Tree),(∀ t∈l,t.sz≤drS n)→(l.map Tree.sz).sum≤l.length * drS n:=by
     intro l
     induction l with
     |nil=>intro _;simp
     |cons t l ih =>
      intro h
      have h1:=h t (by simp)
      have h2:=ih fun u hu=>h u (by simp [hu])
      simp only [List.map_cons,List.sum_cons,y54,Nat.add_mul]
      omega
    have h1:=this ks fun t ht=>by
     obtain ⟨i,hi,rfl⟩:=List.mem_iff_getElem.1 ht
     exact (hst i hi).1
    have h2:ks.length * drS n≤2 * drS n:=Nat.mul_le_mul_right _ (by omega)
    omega
   refine ⟨.mk kd 0 ks,pf m,⟨by rw [z244];omega,by omega,by omega⟩,?_⟩
   refine z10 z19 Tryz.func70 rfl rfl 43 Tryz.ntmps70 (by simp) ?_
   rw [← hp0] at ck
   repeat' ((first|(apply y4 ok;rfl)|((apply z8)<;>intro _)|(apply z6 (ca);rfl;rfl)|((first|(apply z11 [0] [] cw;rfl;rfl)|(apply z11 [0,2] [] ck;rfl;rfl));rfl;(focus ((repeat' first|exact z17|apply z14)<;>first|exact z45 rfl rfl|(refine z23 ?_;((exact z7 fun _=>rfl)))))))<;>conv=>whnf)
   all_goals try (exfalso;omega)
   refine y81 (y84 3 rfl) ?_
   refine z92 (fun k:Nat=>([(0,.ptr 0 none 0),(1,.int d),(4,.ptr 1 none 0),(5,.ptr 2 none 0),(6,.int (m - k))],[rdO bs (pf k),.cells 3 [[.int 0,.int 0,.nils]],.cells 3 [[.int kd,.int 0,.sref 3 0 k]],.cells 3 ((ks.take k).map Tree.cs')])) (fun k=>k≤m) (fun k=>m - k) 0 (by omega) (by refine swR [0,1,3,4] [] rfl rfl ?_;(repeat' first|exact y82 _|exact z57|apply y83|refine z16 rfl (z36) ?_|constructor)) ?_
   intro k hk
   by_cases hkm:k < m
   ·have hc:=(hst k (by omega)).2
    have hkl:k < ks.length:=by omega
    rw [y15] at hc
    repeat' ((first|(apply y4 ok;rfl)|(apply z37;kernel_rfl)|(apply y39;first|(unfold inI;omega)|((try dsimp only);simp only [y45,y44,y43,y42,y54,y55];omega)|exact ⟨rfl,z25 rfl z32⟩)|((apply z8)<;>intro _)|(apply z29 [0] [] hc;rfl;rfl;rfl))<;>conv=>whnf)
    all_goals try (exfalso;omega)
    refine z44 (k+1) (by omega) (by omega) (by refine swR [0,1,2,5] [] rfl rfl ?_;(repeat' first|exact y82 _|exact z333|(refine z152 ?_;omega)|apply y83|((refine z47 rfl ?_ ?_);(focus ((repeat' (first|exact z7 (fun _=>rfl)|apply z33));done)))|refine z127 (by omega) (by omega) ?_|(apply z79;rfl)|constructor))
   ·have:k=m:=by omega
    subst this
    repeat' ((first|(apply y4 ok;rfl)|(apply y39;omega)|((apply z8)<;>intro _))<;>conv=>whnf)
    all_goals try (exfalso;omega)
    all_goals (refine rsD [0] [3] rfl ?_;(repeat' first|exact y82 _|(refine z524 ?_;omega)|apply y83|((apply z48 rfl rfl rfl);(focus ((repeat ((exact z38 (fun _=>rfl) _)));done));(focus (((simp;omega));done)))|apply z60|constructor))
theorem z736 (bs:List Int) (hb:BytesOk bs) (p:Int) (hp:few p):∃ (t:Tree) (p' : Int),(t.sz≤20∧p≤p'∧p'≤p+100)∧CallsA Tryz.prog 23 [.ptr 0 none 0] [rdO bs p] (z40 Tree.cs' t) [rdO bs p']:=by
 obtain ⟨d,md,cd⟩:=z108 bs hb p (by omega) (by omega) [3,2,4,3] (by decide) (by decide)
 have hd:0≤d∧d≤4:=by simp at md;omega
 obtain ⟨t,q,⟨t1,t2,t3⟩,ct⟩:=z836 bs hb 3 d (p+1) (by omega) (by omega) (by omega) (by omega) (by simp only [drK];omega)
 simp only [drK] at t3
 simp only [drS] at t1
 have cv:=z553 t (z132 t (by unfold maxLen;omega))
 by_cases hv:t.fmB=true
 ·refine ⟨t,q,⟨by omega,by omega,by omega⟩,?_⟩
  rw [hv] at cv
  rw [y15] at *
  refine z10 z19 Tryz.func23 rfl rfl 15 Tryz.ntmps23 (by simp) ?_
  repeat' ((first|(apply y4 ok;rfl)|(apply z6 (cv);rfl;rfl)|((first|(apply z11 [0,2] [] cd;rfl;rfl)|(apply z11 [0] [] ct;rfl;rfl));rfl;(focus ((repeat' first|exact z17|apply z14)<;>first|exact z45 rfl rfl|(refine z23 ?_;((exact z7 fun _=>rfl)))))))<;>conv=>whnf)
  all_goals (refine rsD [0] [] rfl ?_;(repeat' first|exact y82 _|apply y83|constructor))
 ·refine ⟨.mk 10 0 [leaf 2 0],q,⟨by rw [z244];simp [z94],by omega,by omega⟩,?_⟩
  rw [(y68 _).mp hv] at cv
  rw [y15] at cv ct
  refine z10 z19 Tryz.func23 rfl rfl 15 Tryz.ntmps23 (by simp) ?_
  repeat' ((first|(apply y4 ok;rfl)|(apply z6 (cv);rfl;rfl)|((first|(apply z11 [0,2] [] cd;rfl;rfl)|(apply z11 [0] [] ct;rfl;rfl));rfl;(focus ((repeat' first|exact z17|apply z14)<;>first|exact z45 rfl rfl|(refine z23 ?_;((exact z7 fun _=>rfl)))))))<;>conv=>whnf)
  all_goals (refine rsD [0] [4] rfl ?_;(repeat' first|exact y82 _|exact z52|apply y83|refine z48 rfl rfl rfl rfl rfl ?_|apply z60|(apply z79;rfl)|constructor))
theorem argU (k v:Int) (a:Tree):z40 Tree.cs' (.mk k v [a])=.agg [.int k,.int v,.list 3 1 [Tree.cs' a]]:=by
 rw [y15]
 show AC.agg [AC.int k,AC.int v,lst 3 Tree.cs' [a]]=_
 rfl
theorem argB (k v:Int) (a b:Tree):z40 Tree.cs' (.mk k v [a,b])=.agg [.int k,.int v,.list 3 2 [Tree.cs' a,Tree.cs' b]]:=by
 rw [y15]
 rfl
end Go.Proofs.YteinbnahinpegaaGreat
namespace Go.Proofs.YteinbnahinpegaaGreat
open Go.Gl
attribute [local irreducible] z20 AWP z30 z35 z34
theorem z860 (l:List Tree) (hl:l.length≤1048576) (hp:0 < l.length):CallsA Tryz.prog 243 [lst 3 Tree.cs' l] [] (.sref 0 0 l.length) [.cells 3 (l.map Tree.cs')]:=by
 refine z12 z19 Tryz.func243 rfl rfl 8 Tryz.ntmps243 (by simp) ?_
 repeat' (first|(apply y4 ok;rfl;conv=>whnf)|(apply y39;(first|omega|(dsimp only;omega)|exact z106 (fun _=>rfl));conv=>whnf))
 exact z99 rfl (z7 fun _=>rfl) (Nat.zero_add _) rfl rfl
theorem z1008 (l:List Tree) (hl:l.length≤1048576):CallsA Tryz.prog 243 [lst 3 Tree.cs' l] [] (.sref 0 0 l.length) [.cells 3 (l.map Tree.cs')]:=by
 by_cases hp:0 < l.length
 ·exact z860 l hl hp
 ·obtain rfl:l=[]:=y70 (by omega)
  refine z213 (z208 Tryz.func243 rfl (by rfl)) fun ad cap=>?_
  cases ad with
  |none =>
   refine CallsA.nils (res:=.nils) (l:=[.cells 3 []]) ?_ (by simp) z467
   refine z12 z19 Tryz.func243 rfl rfl 8 Tryz.ntmps243 (by simp) ?_
   repeat' ((apply y4 ok;rfl;conv=>whnf))
   all_goals exact z50 rfl rfl rfl
  |some p =>
   refine z12 z19 Tryz.func243 rfl rfl 8 Tryz.ntmps243 (by simp) ?_
   repeat' (first|(apply y4 ok;rfl;conv=>whnf)|(apply y39;(omega);conv=>whnf))
   all_goals (exact z99 rfl z36 rfl rfl rfl)
theorem z536 (l:List Tree) (hl:l.length≤1048576):CallsA Tryz.prog 229 [.sref 0 0 l.length] [.cells 3 (l.map Tree.cs')] (.sref 0 0 l.length) [.cells 3 (l.map Tree.cs')]:=by
 refine z12 z19 Tryz.func229 rfl rfl 9 Tryz.ntmps229 (by simp) ?_
 repeat' (first|(apply y4 ok;rfl;conv=>whnf)|(apply y39;(omega);conv=>whnf))
 exact z99 rfl (z7 fun _=>rfl) (by omega) rfl rfl
theorem z169 (l:List Tree) (hl:l.length≤1048576):CallsA Tryz.prog 227 [lst 3 Tree.cs' l] [] (.sref 0 0 l.length) [.cells 3 (l.map Tree.cs')]:=by
 refine z12 z19 Tryz.func227 rfl rfl 6 Tryz.ntmps227 (by simp) ?_
 repeat' (first|(apply y4 ok;rfl;conv=>whnf)|(apply z86 [] [] [0] (z1008 l hl);rfl;(focus ((repeat' (exact z43))<;>(fail)));rfl;rfl;rfl;rfl;rfl;(focus ((repeat' (first|exact z17|apply z14))<;>((refine z23 ?_;((exact z7 (fun _=>rfl)))))));(exact .inl rfl);conv=>whnf)|(apply z86 [0] [] [] (z536 l hl);rfl;(focus ((repeat' (first|exact z43|apply z64))<;>((refine z88 rfl ?_;((exact z7 (fun _=>rfl)))))));rfl;rfl;rfl;rfl;rfl;(focus ((repeat' (first|exact z17|apply z14))<;>((refine z23 ?_;((exact z7 (fun _=>rfl)))))));(exact .inl rfl);conv=>whnf))
 exact z99 rfl (z7 fun _=>rfl) rfl rfl rfl
end Go.Proofs.YteinbnahinpegaaGreat
namespace Go.Proofs.YteinbnahinpegaaGreat
open Go.Gl
attribute [local irreducible] z20 AWP z30 z35 z34 RetS z42
theorem z995 (k:Int) (l:List Tree) (hl:l.length≤1048576):CallsA Tryz.prog 197 [.int k,lst 3 Tree.cs' l] [] (.agg [.int k,.int 0,lst 3 Tree.cs' l]) []:=by
 have c:=z169 l hl
 refine z10 z19 Tryz.func197 rfl rfl 9 Tryz.ntmps197 (by simp) ?_
 repeat' ((first|(apply y4 ok;rfl)|(apply z11 [] [1] c;rfl;rfl;rfl;(focus ((repeat' first|exact z17|apply z14)<;>(refine z23 ?_;((exact z7 fun _=>rfl)))))))<;>conv=>whnf)
 all_goals (refine rsD [] [1] rfl ?_;(repeat' first|exact y82 _|((apply z48 rfl rfl rfl);(focus ((repeat ((exact z38 (fun _=>rfl) _)));done));(focus (((simp;done));done)))|apply z60|constructor))
theorem z848 (k:Int):CallsA Tryz.prog 197 [.int k,.nils] [] (.agg [.int k,.int 0,.list 3 0 []]) []:=(z995 k [] (by simp)).arg (by (repeat' first|exact y82 _|exact z52|constructor))
theorem z123 (k:Int) (l:List Tree) (hl:l.length≤1048576):CallsA Tryz.prog 197 [.int k,.sref 0 0 l.length] [.cells 3 (l.map Tree.cs')] (.agg [.int k,.int 0,lst 3 Tree.cs' l]) [.dead]:=by
 have c:=z169 l hl
 refine z10 z19 Tryz.func197 rfl rfl 9 Tryz.ntmps197 (by simp) ?_
 refine y81 (Reach.rnm 0 rfl) ?_
 refine y81 (show Gl.Reach _ _ (mkSt _ [(0,.int k),(1,lst 3 Tree.cs' l)] [.dead]) from (by refine swR [0] [1] rfl rfl ?_;(repeat' first|exact y82 _|((apply z48 rfl rfl rfl);(focus ((repeat ((exact z38 (fun _=>rfl) _)));done));(focus (((simp;done));done)))|constructor))) ?_
 repeat' ((first|(apply y4 ok;rfl)|(apply z11 [] [2] c;rfl;rfl;rfl;(focus ((repeat' first|exact z17|apply z14)<;>(refine z23 ?_;((exact z7 fun _=>rfl)))))))<;>conv=>whnf)
 all_goals (refine rsD [0] [2] rfl ?_;(repeat' first|exact y82 _|((apply z48 rfl rfl rfl);(focus ((repeat ((exact z38 (fun _=>rfl) _)));done));(focus (((simp;done));done)))|apply z60|constructor))
theorem z443 (k kd v:Int):CallsA Tryz.prog 197 [.int k,.sref 0 0 1] [.cells 3 [[.int kd,.int v,.nils]]] (.agg [.int k,.int 0,lst 3 Tree.cs' [.mk kd v []]]) [.dead]:=by
 have c:=z169 [.mk kd v []] (by simp)
 refine z10 z19 Tryz.func197 rfl rfl 9 Tryz.ntmps197 (by simp) ?_
 refine y81 (Reach.rnm 0 rfl) ?_
 refine y81 (show Gl.Reach _ _ (mkSt _ [(0,.int k),(1,lst 3 Tree.cs' [.mk kd v []])] [.dead]) from (by refine swR [0] [1] rfl rfl ?_;(repeat' first|exact y82 _|exact z52|refine z48 rfl rfl rfl rfl rfl ?_|(apply z79;rfl)|constructor))) ?_
 repeat' ((first|(apply y4 ok;rfl)|(apply z29 [] [2] c;rfl;rfl;rfl))<;>conv=>whnf)
 all_goals (refine rsD [0] [2] rfl ?_;(repeat' first|exact y82 _|constructor))
theorem z290 (k v : Int) (l : List Tree) (neg : Bool) (i : Nat) (hi : i < l.length) (x : Tree) (hx : CallsA Tryz.prog 200 [z40 Tree.cs' l[i], .bool neg] [] (z40 Tree.cs' x) []) :
    CallsA Tryz.prog 230 [.int i,.ptr 0 none 0,.ptr 1 none 0] [.cells 3 [[.int k,.int v,lst 3 Tree.cs' l]],.cells 1 [[.bool neg]]] (z40 Tree.cs' x) [.cells 3 [[.int k,.int v,lst 3 Tree.cs' l]],.cells 1 [[.bool neg]]]:=by
  have g:(l.map Tree.cs')[i]?=some (Tree.cs' l[i]):=by rw [y47,y41 hi];rfl
  generalize l[i]=y at *
  refine z10 z19 Tryz.func230 rfl rfl 12 Tryz.ntmps230 (by simp) ?_
  repeat' ((first|(apply y4 ok;rfl)|(apply z37;kernel_rfl)|(refine z21 (i:=i) rfl g ?_)|(apply y39;omega)|(apply z6 (hx);rfl;rfl))<;>conv=>whnf)
  all_goals (refine rsD [0,1] [] rfl ?_;(repeat' first|exact y82 _|apply y83|constructor))
theorem z977 (a b:Int) (neg:Bool):CallsA Tryz.prog 231 [.int a,.int b,.ptr 0 none 0] [.cells 1 [[.bool neg]]] (.int (if neg then b else a)) [.cells 1 [[.bool neg]]]:=by
 refine z10 z19 Tryz.func231 rfl rfl 9 Tryz.ntmps231 (by simp) ?_
 cases neg
 all_goals
  repeat' (((apply y4 ok;rfl))<;>conv=>whnf)
  all_goals (refine rsD [0] [] rfl ?_;(repeat' first|exact y82 _|apply y83|constructor))
set_option maxHeartbeats 6400000 in
theorem z1100 (t:Tree):t.goodF→∀ neg:Bool,CallsA Tryz.prog 200 [z40 Tree.cs' t,.bool neg] [] (z40 Tree.cs' (t.nrm neg)) []:=by
 induction t using y25 with|h t ih=>?_
 intro hg neg
 have cT:=z848 1
 have cF:=z123 3 [.mk 1 0 []] (by simp)
 cases y20 hg with
 |tr =>
  rw [z902]
  clear ih
  cases neg
  all_goals
   refine z10 z19 Tryz.func200 rfl rfl 99 Tryz.ntmps200 (by simp) ?_
   repeat' ((first|(apply y4 ok;rfl)|(apply z6 (cT);rfl;rfl)|((first|(apply z11 [3] [] cF;rfl;rfl)|(apply z11 [6] [] (z443 3 1 0);rfl;rfl));rfl;(focus ((repeat' first|exact z17|apply z14)<;>exact z167))))<;>conv=>whnf)
   all_goals (refine rsD [] [] rfl ?_;(repeat' first|exact y82 _|exact z52|apply z60|constructor))
 |«at» v h0 h1 =>
  rw [z904]
  clear ih
  cases neg
  all_goals
   refine z10 z19 Tryz.func200 rfl rfl 99 Tryz.ntmps200 (by simp) ?_
   repeat' ((first|(apply y4 ok;rfl)|(apply z6 (cT);rfl;rfl)|((first|(apply z11 [3] [] cF;rfl;rfl)|(apply z11 [6] [] (z443 3 2 v);rfl;rfl));rfl;(focus ((repeat' first|exact z17|apply z14)<;>exact z167))))<;>conv=>whnf)
   all_goals (refine rsD [] [] rfl ?_;(repeat' first|exact y82 _|exact z52|apply z60|constructor))
 |un k a hk ha =>
  have ca:=fun n=>ih a (by simp [Tree.kids]) ha n
  clear ih
  rcases hk with rfl|rfl|rfl|rfl
  ·rw [z645,argU 3 0 a]
   have ca:=ca (!neg)
   refine z10 z19 Tryz.func200 rfl rfl 99 Tryz.ntmps200 (by simp) ?_
   repeat' ((first|(apply y4 ok;rfl)|(apply z37;kernel_rfl)|(refine ⟨_,rfl,?_⟩)|(apply y39;omega)|(apply z6 (cT);rfl;rfl)|(apply z6 (ca);rfl;rfl)|(apply z11 [3] [] cF;rfl;rfl;rfl;(focus ((repeat' first|exact z17|apply z14)<;>exact z167))))<;>conv=>whnf)
   all_goals (refine rsD [] [] rfl ?_;(repeat' first|exact y82 _|constructor))
  ·rw [z466,argU 6 0 a,argU]
   have ck:=z290 6 0 [a] neg 0 (by simp) (a.nrm neg) (ca neg)
   have cf:=z123 6 [a.nrm neg] (by simp)
   generalize a.nrm neg=x at *
   refine z10 z19 Tryz.func200 rfl rfl 99 Tryz.ntmps200 (by simp) ?_
   repeat' ((first|(apply y4 ok;rfl)|(apply z6 (cT);rfl;rfl)|((first|(apply z11 [3] [] cF;rfl;rfl)|(apply z11 [0,1] [] ck;rfl;rfl)|(apply z11 [5] [] cf;rfl;rfl));rfl;(focus ((repeat' first|exact z17|apply z14)<;>first|exact z167|exact z45 rfl rfl))))<;>conv=>whnf)
   all_goals (refine rsD [] [] rfl ?_;(repeat' first|exact y82 _|constructor))
  ·rw [z903,argU 9 0 a]
   have ck:=z290 9 0 [a] neg 0 (by simp) (a.nrm neg) (ca neg)
   have c7:=z123 7 [truT,a.nrm neg] (by simp)
   have c8:=z123 8 [notT truT,a.nrm neg] (by simp)
   generalize a.nrm neg=x at *
   cases neg
   ·rw [if_neg (by simp),argB]
    refine z10 z19 Tryz.func200 rfl rfl 99 Tryz.ntmps200 (by simp) ?_
    repeat' ((first|(apply y4 ok;rfl)|(apply z6 (cT);rfl;rfl)|((first|(apply z11 [3] [] cF;rfl;rfl)|(apply z11 [0,1] [] ck;rfl;rfl)|(apply z11 [5] [] c7;rfl;rfl));rfl;(focus ((repeat' first|exact z17|apply z14)<;>first|exact z167|exact z45 rfl rfl))))<;>conv=>whnf)
    all_goals (refine rsD [] [] rfl ?_;(repeat' first|exact y82 _|constructor))
   ·rw [if_pos rfl,argB]
    refine z10 z19 Tryz.func200 rfl rfl 99 Tryz.ntmps200 (by simp) ?_
    repeat' ((first|(apply y4 ok;rfl)|(apply z37;kernel_rfl)|(apply z6 (cT);rfl;rfl)|((first|(apply z11 [3] [] cF;rfl;rfl)|(apply z11 [0,1] [] ck;rfl;rfl)|(apply z11 [5] [] c8;rfl;rfl));rfl;(focus ((repeat' first|exact z17|apply z14)<;>first|exact z167|exact z45 rfl rfl))))<;>conv=>whnf)
    all_goals (refine rsD [] [] rfl ?_;(repeat' first|exact y82 _|constructor))
  ·rw [z905,argU 10 0 a]
   have ck:=z290 10 0 [a] neg 0 (by simp) (a.nrm neg) (ca neg)
   have c7:=z123 7 [truT,a.nrm neg] (by simp)
   have c8:=z123 8 [notT truT,a.nrm neg] (by simp)
   generalize a.nrm neg=x at *
   cases neg
   ·rw [if_neg (by simp),argB]
    refine z10 z19 Tryz.func200 rfl rfl 99 Tryz.ntmps200 (by simp) ?_
    repeat' ((first|(apply y4 ok;rfl)|(apply z37;kernel_rfl)|(apply z6 (cT);rfl;rfl)|((first|(apply z11 [3] [] cF;rfl;rfl)|(apply z11 [0,1] [] ck;rfl;rfl)|(apply z11 [5] [] c8;rfl;rfl));rfl;(focus ((repeat' first|exact z17|apply z14)<;>first|exact z167|exact z45 rfl rfl))))<;>conv=>whnf)
    all_goals (refine rsD [] [] rfl ?_;(repeat' first|exact y82 _|constructor))
   ·rw [if_pos rfl,argB]
    refine z10 z19 Tryz.func200 rfl rfl 99 Tryz.ntmps200 (by simp) ?_
    repeat' ((first|(apply y4 ok;rfl)|(apply z6 (cT);rfl;rfl)|((first|(apply z11 [3] [] cF;rfl;rfl)|(apply z11 [0,1] [] ck;rfl;rfl)|(apply z11 [5] [] c7;rfl;rfl));rfl;(focus ((repeat' first|exact z17|apply z14)<;>first|exact z167|exact z45 rfl rfl))))<;>conv=>whnf)
    all_goals (refine rsD [] [] rfl ?_;(repeat' first|exact y82 _|constructor))
 |bin k a b hk ha hb =>
  have ca:=z290 k 0 [a,b] neg 0 (by simp) (a.nrm neg) (ih a (by simp [Tree.kids]) ha neg)
  have cb:=z290 k 0 [a,b] neg 1 (by simp) (b.nrm neg) (ih b (by simp [Tree.kids]) hb neg)
  clear ih
  have cf:=z123 (if neg then z760 k else k) [a.nrm neg,b.nrm neg] (by simp)
  have cp:=z977 k (z760 k) neg
  rw [z646 _ _ _ _ _ hk,argB k 0 a b,argB]
  generalize a.nrm neg=x at *
  generalize b.nrm neg=y at *
  rcases hk with rfl|rfl|rfl|rfl
  all_goals
   refine z10 z19 Tryz.func200 rfl rfl 99 Tryz.ntmps200 (by simp) ?_
   repeat' ((first|(apply y4 ok;rfl)|(apply z6 (cT);rfl;rfl)|((first|(apply z11 [3] [] cF;rfl;rfl)|(apply z11 [0,1] [] ca;rfl;rfl)|(apply z11 [0,1] [] cb;rfl;rfl)|(apply z11 [1] [] cp;rfl;rfl)|(apply z11 [5] [] cf;rfl;rfl));rfl;(focus ((repeat' first|exact z17|apply z14)<;>first|exact z167|exact z45 rfl rfl))))<;>conv=>whnf)
   all_goals (refine rsD [] [] rfl ?_;(repeat' first|exact y82 _|constructor))
theorem z985 (t:Tree) (h:t.sz≤1000000):CallsA Tryz.prog 68 [z40 Tree.cs' t] [] (ownT t) [.cells 3 (t.kids.map Tree.cs')]:=by
 induction t using y25 with|h t ih=>?_
 have hkl:t.kids.length≤1000000:=by rw [y34] at h;omega
 have hks:∀ u∈t.kids,u.sz≤1000000:=fun u hu=>by
  have:=z385 Tree.sz hu
  rw [y34] at h;omega
 rw [y15 t]
 obtain ⟨k,v,l⟩:=t
 simp only [Tree.kind,Tree.val,Tree.kids] at *
 have hcs:∀ (i:Nat) (hi:i < l.length),CallsA Tryz.prog 68 [z40 Tree.cs' l[i]] [] (z40 Tree.cs' l[i]) []:=fun i hi =>
  z465 (ih _ (y40 _) (hks _ (y40 _)))
 unfold ownT
 simp only [Tree.kind,Tree.val,Tree.kids] at *
 refine z10 z19 Tryz.func68 rfl rfl 29 Tryz.ntmps68 (by simp) ?_
 repeat' (((apply y4 ok;rfl))<;>conv=>whnf)
 refine y81 (y84 3 rfl) ?_
 refine z92 (fun i:Nat=>([(1,.ptr 0 none 0),(2,.ptr 1 none 0),(3,.ptr 2 none 0),(4,.int i)],[.cells 3 [[.int k,.int v,lst 3 Tree.cs' l]],.cells 3 [[.int 0,.int 0,.nils]],.cells 3 [[.int k,.int v,.sref 3 0 i]],.cells 3 ((l.take i).map Tree.cs')])) (fun i=>i≤l.length) (fun i=>l.length - i) 0 (by omega) (by refine swR [0,1,2,3] [] rfl rfl ?_;(repeat' first|exact y82 _|exact z57|apply y83|refine z16 rfl (z36) ?_|constructor)) ?_
 intro i hi
 by_cases hil:i < l.length
 ·have hc:=hcs i hil
  repeat' ((first|(apply y4 ok;rfl)|(apply z37;kernel_rfl)|(apply y39;first|omega|(unfold inI;omega)|((try dsimp only);simp only [y45,y44,y43,y42,y54,y55];omega)|exact ⟨rfl,z25 rfl z32⟩)|(((with_reducible apply z15;omega));intro _)|((apply z8)<;>intro _)|(apply z6 (hc);rfl;rfl))<;>conv=>whnf)
  all_goals try (exfalso;omega)
  refine z44 (i+1) (by omega) (by omega) (by refine swR [0,1,2,5] [] rfl rfl ?_;(repeat' first|exact y82 _|apply y83|((refine z47 rfl ?_ ?_);(focus ((repeat' (first|exact z7 (fun _=>rfl)|apply z33));done)))|refine z127 (by omega) (by omega) ?_|constructor))
 ·have e:i=l.length:=by omega
  subst e
  rw [y52]
  repeat' ((first|(apply y4 ok;rfl)|(apply y39;omega)|(((with_reducible apply z15;omega));intro _)|((apply z8)<;>intro _))<;>conv=>whnf)
  all_goals try (exfalso;omega)
  all_goals (refine rsD [3] [] rfl ?_;(repeat' first|exact y82 _|exact z18 _|refine z16 rfl (z7 (fun _=>rfl)) ?_|constructor))
set_option maxHeartbeats 1600000 in
theorem z837 (bs:List Int) (hb:BytesOk bs) (p:Int) (hp:few p) (t:Tree) (ht:t.sz≤1000):∃ (t' : Tree) (p' : Int),(t'.sz≤t.sz+1∧p≤p'∧p'≤p+2)∧CallsA Tryz.prog 22 [.ptr 0 none 0,z40 Tree.cs' t] [rdO bs p] (z40 Tree.cs' t') [rdO bs p']:=by
 have cs:=z985 t (by omega)
 obtain ⟨u,hu⟩:∃ u,u=t:=⟨t,rfl⟩
 have hsz:u.sz≤t.sz:=by rw [hu];exact y48 _
 have cs:CallsA Tryz.prog 68 [z40 Tree.cs' t] [] (ownT u) [.cells 3 (u.kids.map Tree.cs')]:=by rw [hu];exact cs
 clear hu
 have hul:u.kids.length≤1000:=by rw [y34] at hsz;omega
 obtain ⟨v,⟨lv,uv⟩,cv⟩:=z69 bs hb p 50 (by omega) (by omega) (by omega)
 rw [y15 t]
 rw [y15 t] at cs
 unfold ownT at cs
 by_cases h0:v=0
 ·subst h0
  obtain ⟨k,mk,ck⟩:=z108 bs hb (p+1) (by omega) (by omega) [0,11,-1,2,3,4] (by decide) (by decide)
  refine ⟨.mk k u.val u.kids,p+1+1,⟨by rw [z244];rw [y34] at hsz;omega,by omega,by omega⟩,?_⟩
  refine z10 z19 Tryz.func22 rfl rfl 34 Tryz.ntmps22 (by simp) ?_
  repeat' ((first|(apply y4 ok;rfl)|((first|(apply z11 [] [3] cs;rfl;rfl)|(apply z11 [0] [] cv;rfl;rfl)|(apply z11 [0,5] [] ck;rfl;rfl));rfl;(focus ((repeat' first|exact z17|apply z14)<;>first|exact z45 rfl rfl|(refine z23 ?_;((exact z7 fun _=>rfl)))))))<;>conv=>whnf)
  all_goals (refine rsD [0] [3] rfl ?_;(repeat' first|exact y82 _|exact z333|apply y83|((apply z48 rfl rfl rfl);(focus ((repeat ((exact z38 (fun _=>rfl) _)));done));(focus (((simp;done));done)))|apply z60|(apply z79;rfl)|constructor))
 by_cases h1:v=1
 ·subst h1
  obtain ⟨k,mk,ck⟩:=z108 bs hb (p+1) (by omega) (by omega) [-1,3,2,9223372036854775807] (by decide) (by decide)
  refine ⟨.mk u.kind k u.kids,p+1+1,⟨by rw [z244];rw [y34] at hsz;omega,by omega,by omega⟩,?_⟩
  refine z10 z19 Tryz.func22 rfl rfl 34 Tryz.ntmps22 (by simp) ?_
  repeat' ((first|(apply y4 ok;rfl)|((first|(apply z11 [] [3] cs;rfl;rfl)|(apply z11 [0] [] cv;rfl;rfl)|(apply z11 [0,5] [] ck;rfl;rfl));rfl;(focus ((repeat' first|exact z17|apply z14)<;>first|exact z45 rfl rfl|(refine z23 ?_;((exact z7 fun _=>rfl)))))))<;>conv=>whnf)
  all_goals (refine rsD [0] [3] rfl ?_;(repeat' first|exact y82 _|exact z333|apply y83|((apply z48 rfl rfl rfl);(focus ((repeat ((exact z38 (fun _=>rfl) _)));done));(focus (((simp;done));done)))|apply z60|(apply z79;rfl)|constructor))
 by_cases h2:v=2
 ·subst h2
  refine ⟨.mk u.kind u.val (u.kids++[leaf 1 0]),p+1,⟨by rw [z244];rw [y34] at hsz;simp [z94];omega,by omega,by omega⟩,?_⟩
  refine z10 z19 Tryz.func22 rfl rfl 34 Tryz.ntmps22 (by simp) ?_
  repeat' ((first|(apply y4 ok;rfl)|(apply z37;kernel_rfl)|(apply y39;first|((try dsimp only);simp only [y45,y44,y43,y42,y54,y55];omega)|exact ⟨rfl,z25 rfl z32⟩)|(apply z6 (z521);rfl;rfl)|((first|(apply z11 [] [3] cs;rfl;rfl)|(apply z11 [0] [] cv;rfl;rfl));rfl;(focus ((repeat' first|exact z17|apply z14)<;>first|exact z45 rfl rfl|(refine z23 ?_;((exact z7 fun _=>rfl)))))))<;>conv=>whnf)
  all_goals (refine rsD [0] [6] rfl ?_;(repeat' first|exact y82 _|apply y83|((apply z48 rfl rfl rfl);(focus ((repeat (first|exact z38 (fun _=>rfl) _|apply z119|apply z166|rfl));done));(focus (((simp;done));done)))|apply z60|constructor))
  all_goals exact z707 rfl rfl (node_le' (y82 _))
 by_cases h3:v=3
 ·subst h3
  refine ⟨leaf 0 0,p+1,⟨by rw [z94];omega,by omega,by omega⟩,?_⟩
  refine z10 z19 Tryz.func22 rfl rfl 34 Tryz.ntmps22 (by simp) ?_
  repeat' ((first|(apply y4 ok;rfl)|((first|(apply z11 [] [3] cs;rfl;rfl)|(apply z11 [0] [] cv;rfl;rfl));rfl;(focus ((repeat' first|exact z17|apply z14)<;>first|exact z45 rfl rfl|(refine z23 ?_;((exact z7 fun _=>rfl)))))))<;>conv=>whnf)
  all_goals (refine rsD [0] [] rfl ?_;(repeat' first|exact y82 _|exact z52|apply y83|apply z60|constructor))
 ·refine ⟨.mk u.kind u.val u.kids,p+1,⟨by rw [z244];rw [y34] at hsz;omega,by omega,by omega⟩,?_⟩
  refine z10 z19 Tryz.func22 rfl rfl 34 Tryz.ntmps22 (by simp) ?_
  repeat' ((first|(apply y4 ok;rfl)|((apply z8)<;>intro _)|((first|(apply z11 [] [3] cs;rfl;rfl)|(apply z11 [0] [] cv;rfl;rfl));rfl;(focus ((repeat' first|exact z17|apply z14)<;>first|exact z45 rfl rfl|(refine z23 ?_;((exact z7 fun _=>rfl)))))))<;>conv=>whnf)
  all_goals try (exfalso;omega)
  all_goals (refine rsD [0] [3] rfl ?_;(repeat' first|exact y82 _|exact z333|apply y83|((apply z48 rfl rfl rfl);(focus ((repeat ((exact z38 (fun _=>rfl) _)));done));(focus (((simp;done));done)))|apply z60|(apply z79;rfl)|constructor))
theorem z660 (c:Tree) (l:List Tree) (hl:l.length≤maxLen) (p:Tree→Bool) (f:FuncId) (hf:∀ x∈l,CallsA Tryz.prog f [z40 Tree.cs' x,.pt [.int c.kind,.int c.val,lst 3 Tree.cs' c.kids]] [] (.bool (p x)) []):CallsA Tryz.prog 226 [lst 3 Tree.cs' l,.fn (.func f) [] [.pt [.int c.kind,.int c.val,lst 3 Tree.cs' c.kids]]] [] (.int (idxF p l)) []:=by
 unfold maxLen at hl
 refine z12 z19 Tryz.func226 rfl rfl 19 Tryz.ntmps226 (by simp) ?_
 repeat' (((apply y4 ok;rfl))<;>conv=>whnf)
 refine z97 (fun k:Nat=>([(0,lst 3 Tree.cs' l),(1,.fn (.func f) [] [.pt [.int c.kind,.int c.val,lst 3 Tree.cs' c.kids]]),(7,.int l.length),(8,.int k)],[])) (fun k=>k≤l.length∧∀ j (hj:j < l.length),j < k→p l[j]=false) (fun k=>l.length - k) 0 (by simp)
  ⟨[],rfl,by decide,rfl,⟨⟨rfl,rfl⟩,⟨rfl,rfl⟩,⟨rfl,rfl⟩,⟨rfl,rfl⟩,trivial⟩,trivial⟩ ?_
 intro k hk
 repeat' ((first|(apply y4 ok;rfl)|(apply y39;first|omega|(unfold inI;omega))|(((with_reducible apply z15;omega));intro _)|((first|apply z8|apply z110)<;>intro _)|(apply z6 (hf l[k] (y40 _));rfl;rfl))<;>conv=>whnf)
 ·rename_i h h1
  exact z50 rfl rfl (by rw [z177 (by omega) h1 hk.2];rfl)
 ·rename_i h h1
  refine z81 (k+1) [] ⟨by omega,fun j hj hjk=>?_⟩ (by omega) ⟨rfl,by decide,rfl,⟨⟨rfl,rfl⟩,⟨rfl,rfl⟩,⟨rfl,rfl⟩,⟨rfl,rfl⟩,trivial⟩,trivial⟩
  rcases y66 j k with h2|h2
  ·exact hk.2 j hj h2
  ·obtain rfl:j=k:=by omega
   exact h1
 ·exact z50 rfl rfl (by rw [z178 fun j hj=>hk.2 j hj (by omega)];rfl)
theorem z1150 (A B : List Tree) (hA : A.length ≤ maxLen) (hB : B.length ≤ maxLen) (f : FuncId) (hf : ∀ i (h : i < A.length) (h2 : i < B.length), CallsA Tryz.prog f [z40 Tree.cs' A[i], z40 Tree.cs' B[i]] [] (.bool (decide (A[i] = B[i]))) []) :
    CallsA Tryz.prog 245 [lst 3 Tree.cs' A,lst 3 Tree.cs' B,.fn (.func f) [] []] [] (.bool (decide (A=B))) []:=by
  unfold maxLen at hA hB
  by_cases hl:A.length=B.length
  · have hT:(∀ i (h:i < A.length) (h2:i < B.length),A[i]=B[i])→decide (A=B)=true:=fun h=>y78 (y71 hl h)
    have hF:∀ i (h:i < A.length) (h2:i < B.length),A[i]≠B[i]→decide (A=B)=false:=fun i h h2 hne=>y79 fun e=>hne (by subst e;rfl)
    generalize decide (A=B)=D at *
    refine z10 z19 Tryz.func245 rfl (by kernel_rfl) 32 Tryz.ntmps245 (by simp) ?_
    repeat' ((first|(apply y4 ok;rfl)|((apply z41)<;>intro _))<;>conv=>whnf)
    all_goals try (exfalso;omega)
    refine z92 (fun i:Nat=>([(0,lst 3 Tree.cs' A),(1,lst 3 Tree.cs' B),(2,.fn (.func f) [] []),(15,lst 3 Tree.cs' A),(16,.int A.length),(17,.int i)],[])) (fun i=>i≤A.length∧∀ j (h:j < A.length) (h2:j < B.length),j < i→A[j]=B[j]) (fun i=>A.length - i) 0 ⟨y49 _,fun j _ _ h=>absurd h (Nat.not_lt_zero _)⟩ (by refine swR [] [] rfl rfl ?_;(repeat' first|exact y82 _|constructor)) ?_
    rintro i ⟨hi,hj⟩
    by_cases hil:i < A.length
    · have hil2:i < B.length:=by omega
      have c1:=hf i hil hil2
      have gA:(A.map Tree.cs')[i]?=some (Tree.cs' A[i]):=by rw [y47,y41 hil];rfl
      have gB:(B.map Tree.cs')[i]?=some (Tree.cs' B[i]):=by rw [y47,y41 hil2];rfl
      by_cases he:A[i]=B[i]
      · rw [y78 he] at c1
        have hj2:∀ j (h:j < A.length) (h2:j < B.length),j < i+1→A[j]=B[j]:=fun j h h2 hji=>by
          rcases y66 j i with h3|h3
          · exact hj j h h2 h3
          · obtain rfl:j=i:=by omega
            exact he
        generalize A[i]=x at *
        generalize B[i]=y at *
        repeat' ((first|(apply y4 ok;rfl)|(refine z21 (i:=i) rfl gA ?_)|(refine z21 (i:=i) rfl gB ?_)|(apply y39;first|omega|(unfold inI;omega))|((apply z8)<;>intro _)|(apply z6 (c1);rfl;rfl))<;>conv=>whnf)
        all_goals try (exfalso;omega)
        all_goals refine z44 (i+1) ⟨by omega,hj2⟩ (by omega) (by refine swR [] [] rfl rfl ?_;(repeat' first|exact y82 _|constructor))
      · rw [y79 he] at c1
        have hD:=hF i hil hil2 he
        subst hD
        generalize A[i]=x at *
        generalize B[i]=y at *
        repeat' ((first|(apply y4 ok;rfl)|(refine z21 (i:=i) rfl gA ?_)|(refine z21 (i:=i) rfl gB ?_)|(apply y39;omega)|((apply z8)<;>intro _)|(apply z6 (c1);rfl;rfl))<;>conv=>whnf)
        all_goals try (exfalso;omega)
        all_goals (refine rsD [] [] rfl ?_;(repeat' first|exact y82 _|constructor))
    · have hD:=hT (fun j h h2=>hj j h h2 (by omega))
      subst hD
      repeat' ((first|(apply y4 ok;rfl)|(apply y39;omega)|(((with_reducible apply z15;omega));intro _)|((apply z8)<;>intro _))<;>conv=>whnf)
      all_goals try (exfalso;omega)
      all_goals (refine rsD [] [] rfl ?_;(repeat' first|exact y82 _|constructor))
  · rw [y79 (fun e=>hl (by rw [e]))]
    refine z10 z19 Tryz.func245 rfl (by kernel_rfl) 32 Tryz.ntmps245 (by simp) ?_
    repeat' ((first|(apply y4 ok;rfl)|((apply z41)<;>intro _))<;>conv=>whnf)
    all_goals first|(exfalso;omega)|(refine rsD [] [] rfl ?_;(repeat' first|exact y82 _|constructor))
theorem z663 (a:Tree):a.mx→∀ b:Tree,b.mx→CallsA Tryz.prog 233 [z40 Tree.cs' a,z40 Tree.cs' b] [] (.bool (decide (a=b))) []:=by
 induction a using y25 with|h a ih=>?_
 intro ha b hb
 rw [y26] at ha hb
 have cE:=z1150 a.kids b.kids ha.1 hb.1 233 (fun i h h2=>ih _ (y40 _) (ha.2 _ (y40 _)) _ (hb.2 _ (y40 _)))
 clear ih
 rw [y15,y15]
 by_cases hk:a.kind=b.kind∧a.val=b.val
 ·obtain ⟨k1,k2⟩:=hk
  have e:decide (a.kids=b.kids)=decide (a=b):=decide_eq_decide.2 ⟨fun h=>Tree.ext k1 k2 h,fun h=>by rw [h]⟩
  rw [e] at cE
  generalize decide (a=b)=D at *
  cases D
  all_goals
   refine z10 z19 Tryz.func233 rfl rfl 24 Tryz.ntmps233 (by simp) ?_
   repeat' ((first|(apply y4 ok;rfl)|((apply z8)<;>intro _)|(apply z6 (cE);rfl;rfl))<;>conv=>whnf)
   all_goals try (exfalso;omega)
   all_goals (refine rsD [] [] rfl ?_;(repeat' first|exact y82 _|constructor))
 ·rw [y79 (fun e=>hk (by subst e;exact ⟨rfl,rfl⟩))]
  clear cE
  refine z10 z19 Tryz.func233 rfl rfl 24 Tryz.ntmps233 (by simp) ?_
  repeat' ((first|(apply y4 ok;rfl)|((apply z8)<;>intro _))<;>conv=>whnf)
  all_goals first|(exfalso;omega)|(refine rsD [] [] rfl ?_;(repeat' first|exact y82 _|constructor))
theorem z297 (l:List Tree) (hl:l.length≤1000000) (hm:∀ t∈l,t.mx) (t:Tree) (ht:t.mx):CallsA Tryz.prog 201 [lst 3 Tree.cs' l,z40 Tree.cs' t] [] (.int (idxF (fun x=>decide (x=t)) l)) []:=by
 have cI:=z660 t l (by unfold maxLen;omega) (fun x=>decide (x=t)) 232 (fun x hx=>by
  have cS:=z663 x (hm x hx) t ht
  rw [y15 t] at cS
  refine z10 z19 Tryz.func232 rfl rfl 7 Tryz.ntmps232 (by simp) ?_
  rw [y15 x] at cS ⊢
  repeat' ((first|(apply y4 ok;rfl)|(apply z6 (cS);rfl;rfl))<;>conv=>whnf)
  all_goals (refine rsD [] [] rfl ?_;(repeat' first|exact y82 _|constructor)))
 rw [y15 t]
 refine z10 z19 Tryz.func201 rfl rfl 8 Tryz.ntmps201 (by simp) ?_
 repeat' ((first|(apply y4 ok;rfl)|(apply z112 [] [0] [] cI;(focus ((repeat' first|exact z84|apply z55)<;>rfl));rfl;rfl;(focus ((repeat' exact z17)<;>fail));((refine .inr ⟨rfl,?_⟩;repeat' exact True.intro))))<;>conv=>whnf)
 all_goals (refine rsD [] [] rfl ?_;(repeat' first|exact y82 _|constructor))
theorem z1160 (t:Tree) (h:t.sz≤1000000):CallsA Tryz.prog 196 [z40 Tree.cs' t] [] (ownT t) [.cells 3 (t.kids.map Tree.cs')]:=by
 induction t using y25 with|h t ih=>?_
 have hkl:t.kids.length≤1000000:=by rw [y34] at h;omega
 have hks:∀ u∈t.kids,u.sz≤1000000:=fun u hu=>by
  have:=z385 Tree.sz hu
  rw [y34] at h;omega
 rw [y15 t]
 obtain ⟨k,v,l⟩:=t
 simp only [Tree.kind,Tree.val,Tree.kids] at *
 have hcs:∀ (i:Nat) (hi:i < l.length),CallsA Tryz.prog 196 [z40 Tree.cs' l[i]] [] (z40 Tree.cs' l[i]) []:=fun i hi =>
  z465 (ih _ (y40 _) (hks _ (y40 _)))
 have cC:=z169 l (by omega)
 unfold ownT
 simp only [Tree.kind,Tree.val,Tree.kids] at *
 refine z10 z19 Tryz.func196 rfl rfl 30 Tryz.ntmps196 (by simp) ?_
 repeat' ((first|(apply y4 ok;rfl)|(apply z37;kernel_rfl)|(apply z11 [] [2] cC;rfl;rfl;rfl;(focus ((repeat' first|exact z17|apply z14)<;>(refine z23 ?_;((exact z7 fun _=>rfl)))))))<;>conv=>whnf)
 refine z92 (fun i:Nat=>([(1,.ptr 0 none 0),(2,.ptr 1 none 0),(3,.ptr 3 none 0),(15,lst 3 Tree.cs' l),(16,.int l.length),(17,.int i)],[.cells 3 [[.int k,.int v,lst 3 Tree.cs' l]],.cells 3 [[.int 0,.int 0,.nils]],.cells 3 (l.map Tree.cs'),.cells 3 [[.int k,.int v,.sref 2 0 l.length]]])) (fun i=>i≤l.length) (fun i=>l.length - i) 0 (by omega) (by refine swR [0,1,2,3] [] rfl rfl ?_;(repeat' first|exact y82 _|exact z18 _|apply y83|refine z16 rfl (z7 (fun _=>rfl)) ?_|constructor)) ?_
 intro i hi
 by_cases hil:i < l.length
 ·have hc:=hcs i hil
  have gk:(l.map Tree.cs')[i]?=some (Tree.cs' l[i]):=by rw [y47,y41 hil];rfl
  have hset:(l.map Tree.cs').set i (Tree.cs' l[i])=l.map Tree.cs':=by
   apply y71 (by simp)
   intro j h1 h2
   rw [List.getElem_set]
   split
   ·rename_i e;subst e;simp
   ·rfl
  generalize l[i]=x at *
  repeat' ((first|(apply y4 ok;rfl)|(apply z37;kernel_rfl)|(refine z21 (i:=i) rfl gk ?_)|(apply y39;first|omega|(unfold inI;omega))|((apply z8)<;>intro _)|(apply z6 (hc);rfl;rfl))<;>conv=>whnf)
  all_goals try (exfalso;omega)
  all_goals refine z44 (i+1) (by omega) (by omega) (by refine swR [0,1,2,3] [] rfl rfl ?_;(repeat' first|exact y82 _|apply y83|refine z80 rfl (z7 (fun _=>rfl)) ?_|constructor)<;>((refine z68 ?_;exact hset)))
 ·have e:i=l.length:=by omega
  subst e
  repeat' ((first|(apply y4 ok;rfl)|(apply y39;omega)|(((with_reducible apply z15;omega));intro _)|((apply z8)<;>intro _))<;>conv=>whnf)
  all_goals try (exfalso;omega)
  all_goals (refine rsD [2] [] rfl ?_;(repeat' first|exact y82 _|exact z18 _|refine z16 rfl (z7 (fun _=>rfl)) ?_|constructor))
theorem z673 (t:Tree) (h:t.sz≤1000000):CallsA Tryz.prog 196 [z40 Tree.cs' t] [] (z40 Tree.cs' t) []:=z465 (z1160 t h)
end Go.Proofs.YteinbnahinpegaaGreat
