/- A part of the proofs over this program: T120, T44, T45, T46, T47, T48, T121, T49, T124, T132, T128, T50, T133, T134, T125. -/
import Derived.Test.YtnpclplponhppaaGreatG0
import Derived.Test.YtnpclplponhppaaGreatG1
import Derived.Test.YtnpclplponhppaaGreatG2
import Derived.Test.YtnpclplponhppaaGreatG3
import Derived.Test.YtnpclplponhppaaGreatP0
import Derived.Test.YtnpclplponhppaaGreatP1
import Derived.Test.YtnpclplponhppaaGreatP2
set_option linter.all false
namespace Go.Proofs.YtnpclplponhppaaGreat
open Go.Gl
attribute [local irreducible] z21 AWP z36 z42 z39 RetS z47
theorem mst_eq (bl:List Int) (i:Nat):mst bl i=mstD bl i:=by
 induction i with
 |zero=>rfl
 |succ i ih=>rw [mst,mstD,ih]
theorem PartP.part {bl:List Int} {n:Nat} (h:PartP bl) (hn:bl.length=n):Part bl n:=⟨fun i hi=>by
 have:=h i (by omega)
 rw [mst_eq] at this
 rw [z13 (by omega)];exact this⟩
theorem z926 {g:Graph} {bl:List Int} : bvB g bl=true↔GB g∧PartP bl∧bl.length=g.st.length:=by
 unfold bvB
 rw [y66,y66,decide_eq_true_iff,decide_eq_true_iff,z94]
 constructor
 ·rintro ⟨a,b,c⟩;exact ⟨a,b,by omega⟩
 ·rintro ⟨a,b,c⟩;exact ⟨a,b,by omega⟩
def quoS (g:Graph) (bl:List Int) (n:Nat):List State:=(fstB bl n).map fun j=>g.st.getD j ⟨[],[]⟩
def quoG (g:Graph) (bl:List Int):Graph:=⟨quoS g bl g.st.length,quoN g.nx g.st.length bl⟩
noncomputable def quoR (g:Graph) (bl:List Int):Graph:=if bvB g bl then quoG g bl else ⟨[],[]⟩
theorem z495 (g:Graph) (bl:List Int) (n:Nat):(quoS g bl n).length=(fstB bl n).length:=by simp [quoS]
theorem z1229 (l:List State) (hl:l.length≤1048576):CallsA Tryz.prog 107 [lst 2 State.cs l] [] (lst 2 State.cs l) []:=by
 refine z12 z19 Tryz.func107 rfl rfl 9 Tryz.ntmps107 (by simp) ?_
 repeat' ((first|(apply y80 ok;rfl)|(apply y38;omega))<;>conv=>whnf)
 refine z56 rfl rfl ?_
 show AC.list 2 _ _=lst 2 State.cs l
 rw [show AC.list 2 ((l.length:Int).toNat - (0:Int).toNat) (((l.map State.cs).drop (0:Int).toNat).take ((l.length:Int).toNat - (0:Int).toNat))=_ from z204 2 State.cs l l.length (y47 _),y51]
theorem z923 (l:List (List Int)) (hl:l.length≤1048576):CallsA Tryz.prog 108 [lst 1 encL l] [] (lst 1 encL l) []:=by
 refine z12 z19 Tryz.func108 rfl rfl 9 Tryz.ntmps108 (by simp) ?_
 repeat' ((first|(apply y80 ok;rfl)|(apply y38;omega))<;>conv=>whnf)
 refine z56 rfl rfl ?_
 show AC.list 1 _ _=lst 1 encL l
 rw [show AC.list 1 ((l.length:Int).toNat - (0:Int).toNat) (((l.map encL).drop (0:Int).toNat).take ((l.length:Int).toNat - (0:Int).toNat))=_ from z204 1 encL l l.length (y47 _),y51]
theorem z829 (s:State) (hs:s.sm):CallsA Tryz.prog 105 [z44 State.cs s] [] (z44 State.cs s) []:=by
 have h1:=hs.a
 have h2:=hs.b
 have c1:=z308 s.a (by omega)
 have c2:=z308 s.b (by omega)
 refine z10 z19 Tryz.func105 rfl rfl 10 Tryz.ntmps105 (by simp) ?_
 repeat' ((first|(apply y80 ok;rfl)|(apply z35;kernel_rfl)|(apply z7 (c1);rfl;rfl)|(apply z7 (c2);rfl;rfl))<;>conv=>whnf)
 all_goals (refine rsD [] [] rfl ?_;(repeat' first|exact y82 _|constructor))
theorem z1194 {bl:List Int} {i:Nat} (hi:i < bl.length):idxF (fun x=>decide (bl[i]=x)) bl=(i:Int)↔∀ k,k < i→bl.getD k 0≠bl.getD i 0:=by
 unfold idxF
 have hx:∃ k,bl.findIdx? (fun x=>decide (bl[i]=x))=some k:=by
  cases h:bl.findIdx? (fun x=>decide (bl[i]=x)) with
  |some k=>exact ⟨k,rfl⟩
  |none =>
   have:=List.findIdx?_eq_none_iff.1 h bl[i] (y39 hi)
   simp at this
 obtain ⟨k,hk⟩:=hx
 rw [hk]
 obtain ⟨h1,h2,h3⟩:=List.findIdx?_eq_some_iff_getElem.1 hk
 simp only [decide_eq_true_eq] at h2
 constructor
 ·intro e j hj
  have e:k=i:=by have e:(k:Int)=i:=e;omega
  subst e
  rw [z13 (by omega),z13 hi]
  have:=h3 j hj
  simp only [decide_eq_true_eq] at this
  exact fun e=>this e.symm
 ·intro h
  have hki:k≤i:=by
   rcases y65 i k with h4|h4
   ·have:=h3 i h4
    simp at this
   ·exact h4
  rcases y65 k i with h4|h4
  ·have:=h k h4
   rw [z13 h1,z13 hi] at this
   exact absurd h2.symm this
  ·show (k:Int)=i
   omega
theorem z1008 (out l:List Int):(z88 out l).length≤out.length+l.length:=by
 induction l generalizing out with
 |nil=>exact y47 _
 |cons x l ih =>
  have:=ih (z168 out x)
  have h2:(z168 out x).length≤out.length+1:=by unfold z168;split<;>simp
  show (z88 (z168 out x) l).length≤_
  simp only [y53]
  omega
set_option maxHeartbeats 3200000 in
theorem z1148 (g:Graph) (hg:g.mx) (hgd:∀ s∈g.st,s.sm) (bl:List Int) (hb:bl.length≤1048576):CallsA Tryz.prog 33 [.agg g.cs,ints bl] [] (.tup [.agg (quoR g bl).cs,.bool (bvB g bl)]) []:=by
 have cv:=z230 g hg bl hb
 unfold quoR
 by_cases hv:bvB g bl=true
 ·rw [if_pos hv]
  rw [hv] at cv ⊢
  obtain ⟨hG,hp,hbl⟩:=z926.1 hv
  have hP:=hp.part hbl
  have h60:=hG.1.2
  have hnx:g.nx.length=g.st.length:=hG.2.1
  have c8:=z1229 (quoS g bl g.st.length) (by rw [z495];have:=z509 bl g.st.length;omega)
  have c9:=z923 (quoN g.nx g.st.length bl) (by rw [z496];have:=z509 bl g.st.length;omega)
  refine z10 z19 Tryz.func33 rfl rfl 76 Tryz.ntmps33 (by simp) ?_
  repeat' ((first|(apply y80 ok;rfl)|(apply z7 (cv);rfl;rfl))<;>conv=>whnf)
  refine y81 (y84 2 rfl) ?_
  refine y81 (y84 1 rfl) ?_
  refine z84 (fun x:Nat×List State×List (List Int)=>([(1,ints bl),(2,.ptr 0 none 0),(4,.ptr 1 none 0),(6,.ptr 2 none 0),(17,ints bl),(18,.int g.st.length),(19,.int x.1)],[.cells 2 [g.cs],.cells 2 [[.nils,.nils]],.cells 2 [[.sref 3 0 x.2.1.length,.sref 4 0 x.2.2.length]],.cells 2 (x.2.1.map State.cs),.cells 1 (x.2.2.map encL)])) (fun x=>x.1≤g.st.length∧quoS g bl x.1=x.2.1∧quoN g.nx x.1 bl=x.2.2) (fun x=>g.st.length - x.1) (0,[],[]) ⟨y48 _,rfl,rfl⟩ (by refine swR [0,1,2,3,4] [] rfl rfl ?_;(repeat' first|exact y82 _|exact z55|(refine z153 ?_;omega)|apply y83|refine z16 rfl (z33) ?_|constructor)) ?_
  rintro ⟨i,A,R⟩ ⟨hi,qA,qR⟩
  dsimp only at hi qA qR ⊢
  by_cases hil:i < g.st.length
  ·have hfl:=z509 bl i
   have sl:=z495 g bl i
   have nl:=z496 g.nx i bl
   rw [qA] at sl
   rw [qR] at nl
   have cI:=z365 bl (by unfold maxLen;omega) (bl.getD i 0)
   have hif:=z1194 (bl:=bl) (i:=i) (by omega)
   have gb:(bl.map enI)[i]?=some (enI (bl.getD i 0)):=by rw [y46,y40 (by omega),z13 (by omega)];rfl
   rw [← z13 (d:=0) (show i < bl.length by omega)] at hif
   by_cases hf:∀ k,k < i→bl.getD k 0≠bl.getD i 0
   ·have es:quoS g bl (i+1)=A++[g.st.getD i ⟨[],[]⟩]:=by
     rw [← qA];unfold quoS;rw [z310,if_pos hf,y59];rfl
    have en:quoN g.nx (i+1) bl=R++[z88 [] ((g.nx.getD i []).map (pick bl))]:=by
     rw [← qR];unfold quoN;rw [z310,if_pos hf,y59];rfl
    have hid:=hif.2 hf
    generalize idxF (fun x=>decide (bl.getD i 0=x)) bl=q at *
    subst hid
    have gr:(g.nx.map encL)[i]?=some (encL (g.nx.getD i [])):=by rw [y46,y40 (by omega),z13 (by omega)];rfl
    have hgs:(g.st.map State.cs)[i]?=some (State.cs (g.st.getD i ⟨[],[]⟩)):=by rw [y46,y40 hil,z13 hil];rfl
    have hsm:(g.st.getD i ⟨[],[]⟩).sm:=by rw [z13 hil];exact hgd _ (y39 _)
    have cst:=z829 _ hsm
    obtain ⟨r1,r2,r3⟩:=GB.row hG i (by omega)
    rw [← z13 (d:=[]) (show i < g.nx.length by omega)] at r1 r2 r3
    generalize g.nx.getD i []=row at *
    generalize g.st.getD i ⟨[],[]⟩=s at *
    have cp:=z632 bl row (by omega) (by rw [hbl];exact r3) hb
    have hpl:(row.map (pick bl)).length=row.length:=by simp
    generalize row.map (pick bl)=P at *
    generalize bl.getD i 0=b at *
    repeat' ((first|(apply y80 ok;rfl)|(refine z20 (i:=i) rfl gb ?_)|(refine z20 (i:=i) rfl gr ?_)|(apply y38;omega)|((first|apply z8|apply z34)<;>intro _)|(apply z7 (cI);rfl;rfl)|(apply z11 [] [5] cp;rfl;rfl;rfl;(focus ((repeat' first|exact z18|apply z15)<;>(refine z23 ?_;((exact z6 fun _=>rfl)))))))<;>conv=>whnf)
    all_goals try (exfalso;omega)
    refine y81 (y84 1 rfl) ?_
    refine z84 (fun x:Nat×List Int=>([(1,ints bl),(2,.ptr 0 none 0),(4,.ptr 1 none 0),(6,.ptr 2 none 0),(7,.int i),(9,.sref 6 0 x.2.length),(17,ints bl),(18,.int g.st.length),(19,.int i),(35,.sref 5 0 row.length),(36,.int row.length),(37,.int x.1)],[.cells 2 [g.cs],.cells 2 [[.nils,.nils]],.cells 2 [[.sref 3 0 A.length,.sref 4 0 R.length]],.cells 2 (A.map State.cs),.cells 1 (R.map encL),.cells 1 (P.map enI),.cells 1 (x.2.map enI)])) (fun x=>x.1≤row.length∧z88 [] (P.take x.1)=x.2) (fun x=>row.length - x.1) (0,[]) ⟨y48 _,rfl⟩ (by refine swR [0,1,2,3,4,5,6] [] rfl rfl ?_;(repeat' first|exact y82 _|exact z55|exact z17 _|apply y83|((refine z16 rfl ?_ ?_);(focus ((repeat' (first|exact z33|exact z6 (fun _=>rfl)));done)))|constructor)) ?_
    rintro ⟨k,N⟩ ⟨hk,qN⟩
    dsimp only at hk qN ⊢
    have hvl:N.length≤60:=by
     have:=z1008 [] (P.take k)
     rw [qN] at this
     simp only [y54,y43] at this
     omega
    by_cases hkl:k < row.length
    ·have hkP:k < P.length:=by omega
     have gp:(P.map enI)[k]?=some (enI P[k]):=by rw [y46,y40 hkP];rfl
     have ev:=z352 (out:=[]) hkP
     have cC:=z144 N (by unfold maxLen;omega) P[k]
     rw [qN] at ev
     generalize P[k]=x at *
     unfold z168 at ev
     by_cases hx:x∈N
     ·rw [if_pos hx] at ev
      rw [y77 hx] at cC
      repeat' ((first|(apply y80 ok;rfl)|(refine z20 (i:=k) rfl gp ?_)|(apply y38;first|omega|(unfold inI;omega))|(((with_reducible apply z14;omega));intro _)|((apply z8)<;>intro _)|(apply z115 [] [6] [] cC;(focus ((repeat' first|exact z81|apply z52)<;>first|exact z165 rfl rfl rfl|rfl));rfl;rfl;(focus ((repeat' exact z18)<;>fail));((refine .inr ⟨rfl,?_⟩;repeat' exact True.intro))))<;>conv=>whnf)
      all_goals try (exfalso;omega)
      all_goals refine z45 (k+1,N) ⟨by show k+1≤_;omega,ev⟩ (by show row.length - (k+1) < row.length - k;omega) (by refine swR [0,1,2,3,4,5,6] [] rfl rfl ?_;(repeat' first|exact y82 _|exact z17 _|apply y83|refine z16 rfl (z6 (fun _=>rfl)) ?_|constructor))
     ·rw [if_neg hx] at ev
      rw [y78 hx] at cC
      repeat' ((first|(apply y80 ok;rfl)|(refine z20 (i:=k) rfl gp ?_)|(apply y38;first|omega|(unfold inI;omega)|((try dsimp only);simp only [y44,y43,y42,y41,y53,y54];omega)|exact ⟨rfl,z24 rfl z31⟩)|(((with_reducible apply z14;omega));intro _)|((apply z8)<;>intro _)|(apply z115 [] [6] [] cC;(focus ((repeat' first|exact z81|apply z52)<;>first|exact z165 rfl rfl rfl|rfl));rfl;rfl;(focus ((repeat' exact z18)<;>fail));((refine .inr ⟨rfl,?_⟩;repeat' exact True.intro))))<;>conv=>whnf)
      all_goals try (exfalso;omega)
      all_goals refine z45 (k+1,N++[x]) ⟨by show k+1≤_;omega,ev⟩ (by show row.length - (k+1) < row.length - k;omega) (by refine swR [0,1,2,3,4,5,8] [] rfl rfl ?_;(repeat' first|exact y82 _|exact z17 _|(refine z71 ?_;((simp;done)))|apply y83|((first|refine z48 rfl ?_ ?_|refine z16 rfl ?_ ?_);(focus ((repeat' (first|exact z6 (fun _=>rfl)|apply z32));done)))|(refine z95 ?_ ?_;(focus (omega)))|constructor))
    ·obtain rfl:k=row.length:=by omega
     rw [← hpl,y51] at qN
     rw [qN] at en
     have cl:=z652 N (by omega)
     repeat' ((first|((fail_if_success apply z116 15);(fail_if_success apply z101 15);apply y80 ok;rfl)|(apply y38;omega)|(((apply z14;omega));intro _)|((apply z8)<;>intro _))<;>conv=>whnf)
     all_goals try (exfalso;omega)
     refine y81 (SealW.reach (env:=[(1,ints bl),(2,.ptr 0 none 0),(4,.ptr 1 none 0),(6,.ptr 2 none 0),(7,.int i),(9,ints N),(17,ints bl),(18,.int g.st.length),(19,.int i)]) (objs:=[.cells 2 [g.cs],.cells 2 [[.nils,.nils]],.cells 2 [[.sref 3 0 A.length,.sref 4 0 R.length]],.cells 2 (A.map State.cs),.cells 1 (R.map encL)]) [0,1,2,3,4] [6] rfl rfl rfl rfl ?_ ?_) ?_
     ·(repeat' first|exact y82 _|((apply z49 rfl rfl rfl);(focus ((repeat ((exact z38 (fun _=>rfl) _)));done));(focus (((simp;done));done)))|constructor)
     ·(repeat' first|exact y82 _|exact z17 _|apply y83|refine z16 rfl (z6 (fun _=>rfl)) ?_|constructor)
     conv=>whnf
     repeat' ((first|(apply y80 ok;rfl)|(apply z35;kernel_rfl)|(refine z20 (i:=i) rfl hgs ?_)|(apply y38;first|omega|(unfold inI;omega)|((try dsimp only);simp only [y44,y43,y42,y41,y53,y54];omega)|exact ⟨rfl,z24 rfl z31⟩)|(apply z7 (cst);rfl;rfl)|(apply z7 (cl);rfl;rfl))<;>conv=>whnf)
     all_goals refine z45 (i+1,A++[s],R++[N]) ⟨by show i+1≤_;omega,es,en⟩ (by show g.st.length - (i+1) < g.st.length - i;omega) (by refine swR [0,1,2,6,8] [] rfl rfl ?_;(repeat' first|exact y82 _|(refine z71 ?_;((simp;done)))|apply y83|((refine z48 rfl ?_ ?_);(focus ((repeat' (first|exact z6 (fun _=>rfl)|apply z32));done)))|(refine z95 ?_ ?_;(focus (omega)))|constructor))
   ·have es:quoS g bl (i+1)=A:=by
     rw [← qA];unfold quoS;rw [z310,if_neg hf,y60]
    have en:quoN g.nx (i+1) bl=R:=by
     rw [← qR];unfold quoN;rw [z310,if_neg hf,y60]
    have hid:¬ idxF (fun x=>decide (bl.getD i 0=x)) bl=(i:Int):=fun h=>hf (hif.1 h)
    generalize idxF (fun x=>decide (bl.getD i 0=x)) bl=q at *
    repeat' ((first|(apply y80 ok;rfl)|(refine z20 (i:=i) rfl gb ?_)|(apply y38;first|omega|(unfold inI;omega))|(((with_reducible apply z14;omega));intro _)|((first|apply z8|apply z34)<;>intro _)|(apply z7 (cI);rfl;rfl))<;>conv=>whnf)
    all_goals try (exfalso;omega)
    all_goals refine z45 (i+1,A,R) ⟨by show i+1≤_;omega,es,en⟩ (by show g.st.length - (i+1) < g.st.length - i;omega) (by refine swR [0,1,2,3,4] [] rfl rfl ?_;(repeat' first|exact y82 _|exact z17 _|apply y83|refine z16 rfl (z6 (fun _=>rfl)) ?_|constructor))
  ·obtain rfl:i=g.st.length:=by omega
   rw [qA] at c8
   rw [qR] at c9
   have eq:quoG g bl=⟨A,R⟩:=by unfold quoG;rw [qA,qR]
   rw [eq]
   repeat' ((first|((fail_if_success apply z116 18);(fail_if_success apply z101 18);apply y80 ok;rfl)|(apply y38;omega)|(((with_reducible apply z14;omega));intro _)|((apply z8)<;>intro _))<;>conv=>whnf)
   all_goals try (exfalso;omega)
   refine y81 (SealW.reach (env:=[(4,.ptr 0 none 0),(6,.ptr 1 none 0)]) (objs:=[.cells 2 [[.nils,.nils]],.cells 2 [[lst 2 State.cs A,lst 1 encL R]]]) [1,2] [3,4] rfl rfl rfl rfl ?_ ?_) ?_
   ·(repeat' first|exact y82 _|constructor)
   ·(repeat' first|exact y82 _|apply y83|((apply z49 rfl rfl rfl);(focus ((repeat ((exact z38 (fun _=>rfl) _)));done));(focus (((simp;done));done)))|constructor)
   conv=>whnf
   repeat' ((first|(apply y80 ok;rfl)|(apply z35;kernel_rfl)|(apply z7 (c8);rfl;rfl)|(apply z7 (c9);rfl;rfl))<;>conv=>whnf)
   all_goals (refine rsD [] [] rfl ?_;(repeat' first|exact y82 _|constructor))
 ·rw [if_neg hv]
  rw [(y67 _).mp hv] at cv ⊢
  refine z10 z19 Tryz.func33 rfl rfl 76 Tryz.ntmps33 (by simp) ?_
  repeat' ((first|(apply y80 ok;rfl)|(apply z7 (cv);rfl;rfl))<;>conv=>whnf)
  all_goals (refine rsD [] [] rfl ?_;(repeat' first|exact y82 _|exact z58|apply z62|apply z103|constructor))
end Go.Proofs.YtnpclplponhppaaGreat
namespace Go.Proofs.YtnpclplponhppaaGreat
open Go.Gl
attribute [local irreducible] z21 AWP z36 z42 z39
theorem z212 {Q Q' : List Int} {x:Int} {n:Nat} {e:List AC} (hn:n=Q.length) (h:Q'=Q++[x]) (he:e=enI x):((Q.map enI).take n)++[e]=Q'.map enI:=by
 subst h hn he
 rw [y52 (by simp),y59];rfl
theorem push_two {Q Q' : List Int} {x y:Int} {n m:Nat} {e f:List AC} (hn:n=Q.length) (hm:m=n+1) (h:Q'=(Q++[x])++[y]) (he:e=enI x) (hf:f=enI y):((((Q.map enI).take n)++[e]).take m)++[f]=Q'.map enI:=by
 rw [z212 hn (rfl:Q++[x]=Q++[x]) he]
 exact z212 (by subst hm hn;simp) h hf
theorem insS_at {l:List Int} {n:Int} (h:Asc l) (hn:n ∉ l):∃ p,p≤l.length∧(∀ k (hk:k < l.length),k < p→l[k] < n)∧(∀ k (hk:k < l.length),p≤k→n < l[k])∧insS l n=l.take p++n::l.drop p:=by
 induction l with
 |nil=>exact ⟨0,y47 _,fun k hk=>by simp at hk,fun k hk=>by simp at hk,rfl⟩
 |cons x r ih =>
  have h1:=List.pairwise_cons.1 h
  have hx:x≠n:=fun e=>hn (by simp [e])
  by_cases hlt:n < x
  ·refine ⟨0,y48 _,fun k hk h0=>by omega,fun k hk _=>?_,by rw [insS,if_neg hx,if_pos hlt];rfl⟩
   match k with
   |0=>exact hlt
   |k+1 =>
    have:=h1.1 ((x::r)[k+1]) (by simp)
    omega
  ·obtain ⟨p,p1,p2,p3,p4⟩:=ih h1.2 (fun h=>hn (by simp [h]))
   refine ⟨p+1,by simpa using p1,fun k hk hkp=>?_,fun k hk hkp=>?_,by rw [insS,if_neg hx,if_neg hlt,p4];rfl⟩
   ·match k with
    |0=>show x < n;omega
    |k+1=>exact p2 k (by simpa using hk) (by omega)
   ·match k with
    |0=>omega
    |k+1=>exact p3 k (by simpa using hk) (by omega)
def sOut (l:List Int) (n:Int) (p i:Nat):List Int:=if i≤p then l.take i else l.take p++n::(l.take i).drop p
theorem sOut_len {l:List Int} {n:Int} {p i:Nat} (hp:p≤l.length) (hi:i≤l.length):(sOut l n p i).length≤l.length+1:=by
 unfold sOut;split<;>simp<;>omega
theorem z879 {l:List Int} {n:Int} {p i:Nat} (hi:i < l.length) (h:i < p):sOut l n p (i+1)=sOut l n p i++[l[i]]:=by
 unfold sOut
 rw [if_pos (by omega),if_pos (by omega),y45 hi]
theorem sOut_at {l:List Int} {n:Int} {p:Nat} (hi:p < l.length):sOut l n p (p+1)=(sOut l n p p++[n])++[l[p]]:=by
 unfold sOut
 rw [if_neg (by omega),if_pos (y47 _),y45 hi,List.drop_append_of_le_length (by simp;omega),List.drop_of_length_le (by simp;omega)]
 simp
theorem z878 {l:List Int} {n:Int} {p i:Nat} (hi:i < l.length) (h:p < i):sOut l n p (i+1)=sOut l n p i++[l[i]]:=by
 unfold sOut
 rw [if_neg (by omega),if_neg (by omega),y45 hi,List.drop_append_of_le_length (by simp;omega)]
 simp
theorem z805 (l:List Int) (n:Int) (h:Asc l) (hl:l.length≤1048576):CallsA Tryz.prog 264 [ints l,.int n] [] (ints (insS l n)) []:=by
 by_cases hn:n∈l
 ·rw [insS_old h hn]
  obtain ⟨j,hj,rfl⟩:=List.mem_iff_getElem.1 hn
  have hlt:∀ k (hk:k < l.length),k < j→l[k] < l[j]:=fun k hk hkj=>List.pairwise_iff_getElem.1 h k j hk hj hkj
  refine z12 z19 Tryz.func264 rfl rfl 50 Tryz.ntmps264 (by simp) ?_
  repeat' ((apply y80 ok;rfl;conv=>whnf))
  refine z92 (fun i:Nat=>([(0,ints l),(1,.int l[j]),(5,.sref 0 0 i),(6,.bool false),(7,.int i)],[.cells 1 ((l.take i).map enI)])) (fun i=>i≤j) (fun i=>l.length - i) 0 (by omega) ⟨[0],rfl,by decide,rfl,⟨⟨rfl,rfl⟩,⟨rfl,rfl⟩,⟨rfl,rfl⟩,⟨rfl,rfl⟩,⟨rfl,rfl⟩,trivial⟩,⟨z41 rfl (z6 fun _=>rfl),trivial⟩⟩ ?_
  intro i hi
  by_cases hij:i=j
  ·subst hij
   repeat' (first|(apply y80 ok;rfl;conv=>whnf)|(apply y38;(omega);conv=>whnf)|(with_reducible apply z14;omega;intro _;conv=>whnf)|(apply z8<;>intro _<;>conv=>whnf))
   all_goals try (exfalso;omega)
   exact z56 rfl rfl rfl
  ·have h1:=hlt i (by omega) (by omega)
   repeat' (first|(apply y80 ok;rfl;conv=>whnf)|(apply y38;(first|omega|(unfold inI;omega)|((try dsimp only);simp only [y44,y43,y42,y41,y53,y54];omega)|exact ⟨rfl,z24 rfl z31⟩);conv=>whnf)|(with_reducible apply z14;omega;intro _;conv=>whnf)|(apply z8<;>intro _<;>conv=>whnf))
   all_goals try (exfalso;omega)
   exact z80 (i+1) [2] (by omega) (by omega) ⟨rfl,by decide,rfl,⟨⟨rfl,rfl⟩,⟨rfl,rfl⟩,⟨rfl,rfl⟩,⟨rfl,rfl⟩,⟨rfl,rfl⟩,trivial⟩,⟨z693 (by omega) _ rfl rfl rfl (fun _=>rfl),trivial⟩⟩
 ·obtain ⟨p,p1,p2,p3,p4⟩:=insS_at h hn
  rw [p4]
  refine z1051 (n:=(l.take p++n::l.drop p).length) ?_ rfl
  refine z12 z19 Tryz.func264 rfl rfl 50 Tryz.ntmps264 (by simp) ?_
  repeat' ((apply y80 ok;rfl;conv=>whnf))
  refine z92 (fun i:Nat=>([(0,ints l),(1,.int n),(5,.sref 0 0 (sOut l n p i).length),(6,.bool (decide (p < i))),(7,.int i)],[.cells 1 ((sOut l n p i).map enI)])) (fun i=>i≤l.length) (fun i=>l.length - i) 0 (by omega) ⟨[0],rfl,by decide,rfl,⟨⟨rfl,rfl⟩,⟨rfl,rfl⟩,⟨rfl,z329 (by simp [sOut]) rfl⟩,⟨rfl,rfl⟩,⟨rfl,rfl⟩,trivial⟩,⟨z41 (z67 (by simp [sOut])) (z6 fun _=>rfl),trivial⟩⟩ ?_
  intro i hi
  have hsl:=sOut_len (n:=n) p1 hi
  by_cases hil:i < l.length
  ·have hne:l[i]≠n:=fun e=>hn (e ▸ y39 _)
   by_cases h1:i < p
   ·have h2:=p2 i hil h1
    have h3:=z879 (n:=n) hil h1
    repeat' (first|(apply y80 ok;rfl;conv=>whnf)|(apply y38;(first|omega|(unfold inI;omega)|((try dsimp only);simp only [y44,y43,y42,y41,y53,y54];omega)|exact ⟨rfl,z24 rfl z31⟩);conv=>whnf)|(with_reducible apply z14;omega;intro _;conv=>whnf)|(apply z8<;>intro _<;>conv=>whnf)|(apply z34<;>intro _<;>conv=>whnf))
    all_goals try (exfalso;omega)
    exact z80 (i+1) [2] (by omega) (by omega) ⟨rfl,by decide,rfl,⟨⟨rfl,rfl⟩,⟨rfl,rfl⟩,⟨rfl,z329 (by rw [h3];simp) rfl⟩,⟨rfl,by rw [y78 (show ¬ p < i by omega),y78 (show ¬ p < i+1 by omega)];rfl⟩,⟨rfl,rfl⟩,trivial⟩,⟨z41 (z67 (z212 rfl h3 rfl)) (z6 fun _=>rfl),trivial⟩⟩
   ·have h2:=p3 i hil (by omega)
    by_cases h4:i=p
    ·subst h4
     have h3:=sOut_at (n:=n) hil
     repeat' (first|(apply y80 ok;rfl;conv=>whnf)|(apply y38;(first|omega|(unfold inI;omega)|((try dsimp only);simp only [y44,y43,y42,y41,y53,y54];omega)|exact ⟨rfl,z24 rfl z31⟩);conv=>whnf)|(with_reducible apply z14;omega;intro _;conv=>whnf)|(apply z8<;>intro _<;>conv=>whnf)|(apply z34<;>intro _<;>conv=>whnf))
     all_goals try (exfalso;omega)
     exact z80 (i+1) [4] (by omega) (by omega) ⟨rfl,by decide,rfl,⟨⟨rfl,rfl⟩,⟨rfl,rfl⟩,⟨rfl,z329 (by rw [h3];simp) rfl⟩,⟨rfl,by rw [y77 (show i < i+1 by omega)];rfl⟩,⟨rfl,rfl⟩,trivial⟩,⟨z41 (z67 (push_two rfl rfl h3 rfl rfl)) (z6 fun _=>rfl),trivial⟩⟩
    ·have h3:=z878 (n:=n) hil (show p < i by omega)
     repeat' (first|(apply y80 ok;rfl;conv=>whnf)|(apply y38;(first|omega|(unfold inI;omega)|((try dsimp only);simp only [y44,y43,y42,y41,y53,y54];omega)|exact ⟨rfl,z24 rfl z31⟩);conv=>whnf)|(with_reducible apply z14;omega;intro _;conv=>whnf)|(apply z8<;>intro _<;>conv=>whnf)|(apply z34<;>intro _<;>conv=>whnf))
     all_goals try (exfalso;omega)
     exact z80 (i+1) [2] (by omega) (by omega) ⟨rfl,by decide,rfl,⟨⟨rfl,rfl⟩,⟨rfl,rfl⟩,⟨rfl,z329 (by rw [h3];simp) rfl⟩,⟨rfl,by rw [y77 (show p < i by omega),y77 (show p < i+1 by omega)];rfl⟩,⟨rfl,rfl⟩,trivial⟩,⟨z41 (z67 (z212 rfl h3 rfl)) (z6 fun _=>rfl),trivial⟩⟩
  ·obtain rfl:i=l.length:=by omega
   by_cases h1:p < l.length
   ·have e:sOut l n p l.length=l.take p++n::l.drop p:=by unfold sOut;rw [if_neg (by omega),y51]
    repeat' (first|(apply y80 ok;rfl;conv=>whnf)|(apply y38;(omega);conv=>whnf)|(with_reducible apply z14;omega;intro _;conv=>whnf)|(apply z8<;>intro _<;>conv=>whnf)|(apply z34<;>intro _<;>conv=>whnf))
    all_goals try (exfalso;omega)
    rw [e]
    exact z100 rfl (z6 fun _=>rfl) rfl rfl rfl
   ·have e:sOut l n p l.length++[n]=l.take p++n::l.drop p:=by unfold sOut;rw [if_pos (by omega),y52 (y47 _),y52 (by omega),List.drop_of_length_le (by omega)]
    repeat' (first|(apply y80 ok;rfl;conv=>whnf)|(apply y38;(first|omega|((try dsimp only);simp only [y44,y43,y42,y41,y53,y54];omega)|exact ⟨rfl,z24 rfl z31⟩);conv=>whnf)|(with_reducible apply z14;omega;intro _;conv=>whnf)|(apply z8<;>intro _<;>conv=>whnf)|(apply z34<;>intro _<;>conv=>whnf))
    all_goals try (exfalso;omega)
    exact z100 rfl (z6 fun _=>rfl) (by rw [← e];simp) rfl (z212 rfl e.symm rfl)
theorem z906 (g:Graph) (hG:GB g) (bl:List Int) (hb:bl.length=g.st.length) (i:Nat) (hi:i < g.nx.length):CallsA Tryz.prog 224 [.agg g.cs,ints bl,.int i] [] (ints (z437 (g.nx[i].map (pick bl)))) []:=by
 obtain ⟨r1,r2,r3⟩:=hG.row i hi
 have hg1:=hG.1
 generalize hrow:g.nx[i]=row at r1 r2 r3
 rw [← sortD_eq]
 refine z12 z19 Tryz.func224 rfl rfl 34 Tryz.ntmps224 (by simp) ?_
 repeat' (((fail_if_success apply z116 2);(fail_if_success apply z101 2);apply y80 ok;rfl;conv=>whnf))
 refine y81 (SealL.reach (π:=[0]) (Bn:=[1]) (env:=[(1,ints bl),(2,.int i),(3,.ptr 0 none 0),(7,ints []),(8,.int (0:Nat))]) (objs:=[.cells 2 [[lst 2 State.cs g.st,lst 1 encL g.nx]]]) ⟨rfl,rfl,by simp,rfl,fun o ho=>by cases List.mem_singleton.1 ho;rfl,⟨rfl,rfl,rfl,rfl,rfl,trivial⟩,rfl⟩) ?_
 conv=>whnf
 repeat' (fail)
 refine z92 (fun k:Nat=>([(1,ints bl),(2,.int i),(3,.ptr 0 none 0),(7,ints (((row.take k).map (pick bl)).foldl insS [])),(8,.int k)],[.cells 2 [[lst 2 State.cs g.st,lst 1 encL g.nx]]])) (fun k=>k≤row.length) (fun k=>row.length - k) 0 (by omega) ⟨[0],rfl,by decide,rfl,⟨⟨rfl,rfl⟩,⟨rfl,rfl⟩,⟨rfl,rfl⟩,⟨rfl,rfl⟩,⟨rfl,rfl⟩,trivial⟩,⟨z27 rfl rfl,trivial⟩⟩ ?_
 intro k hk
 have hgr:(g.nx.map encL)[i]?=some (encL row):=by rw [y46,y40 hi,hrow];rfl
 have hasc:=(z649 (l:=(row.take k).map (pick bl)) (out:=[]) (by simp [Asc])).1
 have hln:=z615 ((row.take k).map (pick bl)) []
 rw [y44,y43] at hln
 simp only [y54] at hln
 by_cases hkl:k < row.length
 ·have hx:=r3 row[k] (y39 _)
  have hxb:row[k].toNat < bl.length:=by omega
  have c1:=z805 _ bl[row[k].toNat] hasc (by omega)
  have e:((row.take (k+1)).map (pick bl)).foldl insS []=insS (((row.take k).map (pick bl)).foldl insS []) bl[row[k].toNat]:=by
   rw [y45 hkl,y59,y58]
   show insS _ (pick bl row[k])=_
   unfold pick;rw [z13 hxb]
  repeat' (first|(apply y80 ok;rfl;conv=>whnf)|(refine z20 (i:=i) (by rfl) hgr ?_;conv=>whnf)|(apply y38;(first|omega|(unfold inI;omega));conv=>whnf)|(with_reducible apply z14;omega;intro _;conv=>whnf)|(with_reducible apply z140;omega;intro _;conv=>whnf)|(apply z8<;>intro _<;>conv=>whnf)|(apply z7 (c1);rfl;rfl;conv=>whnf))
  all_goals try (exfalso;omega)
  exact z80 (k+1) [0] (by omega) (by omega) ⟨rfl,by decide,rfl,⟨⟨rfl,rfl⟩,⟨rfl,rfl⟩,⟨rfl,rfl⟩,⟨rfl,by rw [e];rfl⟩,⟨rfl,rfl⟩,trivial⟩,⟨z27 rfl rfl,trivial⟩⟩
 ·repeat' (first|(apply y80 ok;rfl;conv=>whnf)|(refine z20 (i:=i) (by rfl) hgr ?_;conv=>whnf)|(apply y38;(omega);conv=>whnf)|(with_reducible apply z14;omega;intro _;conv=>whnf)|(with_reducible apply z140;omega;intro _;conv=>whnf)|(apply z8<;>intro _<;>conv=>whnf))
  all_goals try (exfalso;omega)
  rw [y52 (by omega)]
  exact z56 rfl rfl rfl
def aft (g:Graph) (bl:List Int) (i:Nat):List Int:=z437 ((g.nx.getD i []).map (pick bl))
def keyA (g:Graph) (bl:List Int) (i:Nat):List Int:=bl.getD i 0::aft g bl i
def refL (g:Graph) (bl:List Int):List Int:=(numK (keyA g bl) g.st.length).1
theorem z175 (g:Graph) (bl:List Int):(refL g bl).length=g.st.length:=z198 _
theorem z767 (l:List Int):(z437 l).length≤l.length:=by
 unfold z437 Lib.compact
 have:∀ (z:List Int) m,(Lib.compactUpTo z.toArray m).length≤m:=by
  intro z m
  induction m with
  |zero=>simp [Lib.compactUpTo]
  |succ m ih=>rw [Lib.compactUpTo_succ];split<;>simp<;>omega
 have:=this (l.mergeSort fun x y=>decide (x≤y)) (l.mergeSort fun x y=>decide (x≤y)).length
 rw [List.length_mergeSort] at this
 rw [List.length_mergeSort];exact this
theorem z410 (g:Graph) (hG:GB g) (bl:List Int) (hb:bl.length=g.st.length):CallsA Tryz.prog 104 [.agg g.cs,ints bl] [] (.sref 0 0 g.st.length) [.cells 1 ((refL g bl).map enI)]:=by
 have hg1:=hG.1
 have hg2:=hG.2.1
 have hkl:((List.range bl.length).map (keyA g bl)).length=g.st.length:=by simp [hb]
 have hk60:∀ i (hi:i < g.nx.length),(aft g bl i).length≤60:=fun i hi=>by
  have h1:=z767 ((g.nx.getD i []).map (pick bl))
  have h2:=(hG.row i hi).2.1
  rw [z13 hi,y44] at h1
  unfold aft
  rw [z13 hi];omega
 have c2:=z199 ((List.range bl.length).map (keyA g bl)) (by rw [hkl];omega) (fun r hr=>by
  obtain ⟨i,hi,rfl⟩:=List.mem_map.1 hr
  have:=hk60 i (by have:=List.mem_range.1 hi;omega)
  unfold maxLen keyA
  simp only [y53];omega)
 have e2:(numF (z359 ((List.range bl.length).map (keyA g bl))) ((List.range bl.length).map (keyA g bl)).length).1=refL g bl:=by
  rw [hkl]
  unfold refL numK
  rw [z254]
  intro i k hki hi
  unfold z359
  rw [z13 (by rw [hkl];omega),z13 (by rw [hkl];omega)]
  simp
 rw [e2,hkl] at c2
 refine z12 z19 Tryz.func104 rfl rfl 29 Tryz.ntmps104 (by simp) ?_
 repeat' ((apply y80 ok;rfl;conv=>whnf))
 refine z92 (fun i:Nat=>([(1,ints bl),(2,.ptr 0 none 0),(5,.sref 1 0 i),(6,.int i)],[.cells 2 [[lst 2 State.cs g.st,lst 1 encL g.nx]],.cells 1 (((List.range bl.length).take i).map fun i=>z91 (keyA g bl i))])) (fun i=>i≤bl.length) (fun i=>bl.length - i) 0 (by omega) ⟨[0,1],rfl,by decide,rfl,⟨⟨rfl,rfl⟩,⟨rfl,rfl⟩,⟨rfl,rfl⟩,⟨rfl,rfl⟩,trivial⟩,⟨z27 rfl rfl,z41 rfl (z6 fun _=>rfl),trivial⟩⟩ ?_
 intro i hi
 by_cases hil:i < bl.length
 ·have hin:i < g.nx.length:=by omega
  have hir:i < (List.range bl.length).length:=by simpa using hil
  have c1:=z906 g hG bl hb i hin
  have ea:z437 (g.nx[i].map (pick bl))=aft g bl i:=by unfold aft;rw [z13 hin]
  have h60:=hk60 i hin
  rw [ea] at c1
  have ek:keyA g bl i=bl[i]::aft g bl i:=by unfold keyA;rw [z13 hil]
  repeat' (first|((fail_if_success apply z116 4);(fail_if_success apply z101 4);apply y80 ok;rfl;conv=>whnf)|(apply z35;kernel_rfl;conv=>whnf)|(apply y38;(first|omega|((try dsimp only);simp only [y44,y43,y42,y41,y53,y54];omega)|exact z109 (fun _=>rfl)|exact ⟨rfl,z24 rfl z31⟩);conv=>whnf)|(with_reducible apply z14;omega;intro _;conv=>whnf)|(apply z8<;>intro _<;>conv=>whnf)|(apply z7 (c1);rfl;rfl;conv=>whnf))
  all_goals try (exfalso;omega)
  refine y81 (Gl.Reach.absorb 5 3 i 0 rfl (z1001 (z1251 (by omega) rfl)) rfl rfl (by simp;omega) rfl (z87 (z220 rfl z33) (z6 fun _=>rfl)) rfl) ?_
  conv=>whnf
  repeat' (first|(apply y80 ok;rfl;conv=>whnf)|(apply y38;((unfold inI;omega));conv=>whnf))
  refine z80 (i+1) [0,5] (by omega) (by omega) ⟨rfl,by decide,rfl,⟨⟨rfl,rfl⟩,⟨rfl,rfl⟩,⟨rfl,rfl⟩,⟨rfl,rfl⟩,trivial⟩,⟨z27 rfl rfl,z41 (z67 (z1252 hir rfl ?_)) (z6 fun _=>rfl),trivial⟩⟩
  simp only [List.getElem_range]
  rw [ek];rfl
 ·obtain rfl:i=bl.length:=by omega
  rw [y52 (by simp)]
  repeat' (first|(apply y80 ok;rfl;conv=>whnf)|(apply y38;(omega);conv=>whnf)|(with_reducible apply z14;omega;intro _;conv=>whnf)|(apply z8<;>intro _<;>conv=>whnf)|(apply z74 [] [1] [2] (c2);(focus (exact z52 (z997 (l:=(List.range bl.length).map (keyA g bl)) (by show AObj.cells 1 _=_;rw [List.map_map];rfl) rfl rfl (by simp)) z81));(focus ((repeat' (exact z37))<;>(fail)));rfl;rfl;rfl;rfl;rfl;(focus ((repeat' (first|exact z18|apply z15))<;>((refine z23 ?_;((exact z6 (fun _=>rfl)))))));((refine .inr ⟨rfl,?_⟩;repeat' (first|exact True.intro|apply y38|exact z104 (fun _=>rfl) _)));conv=>whnf))
  all_goals try (exfalso;omega)
  exact z100 rfl (z6 fun _=>rfl) rfl rfl rfl
theorem z908 (c:List Int) (d:List (List Int)) (n:Nat) (hn:n≤1048576) (same:Nat→Nat→Bool) (f:FuncId) (hf:∀ i k:Nat,k < i→i < n→CallsA Tryz.prog f [.int i,.int k,.pt [ints c],.pt [lst 1 encL d]] [] (.bool (same i k)) []):CallsA Tryz.prog 222 [.int n,.fn (.func f) [] [.pt [ints c],.pt [lst 1 encL d]]] [] (.sref 0 0 n) [.cells 1 ((numF same n).1.map enI)]:=by
 have hlen:=z77 same n
 have hfl:∀ i,Flat (((numF same n).1.take i).map enI++List.replicate ((numF same n).1.length - i) [AC.int 0]):=fun i=>z87 (z6 fun _=>rfl) (z70 rfl)
 refine z12 z19 Tryz.func222 rfl rfl 46 Tryz.ntmps222 (by simp) ?_
 repeat' (first|(apply y80 ok;rfl;conv=>whnf)|(apply y38;((dsimp only;omega));conv=>whnf))
 refine z92 (fun i:Nat=>([(1,.fn (.func f) [] [.pt [ints c],.pt [lst 1 encL d]]),(5,.sref 0 0 n),(6,.int ((numF same i).2:Int)),(12,.int n),(13,.int i)],[.cells 1 (((numF same n).1.take i).map enI++List.replicate ((numF same n).1.length - i) [AC.int 0])])) (fun i=>i≤n) (fun i=>n - i) 0 (by omega) ⟨[0],rfl,by decide,rfl,⟨⟨rfl,rfl⟩,⟨rfl,rfl⟩,⟨rfl,rfl⟩,⟨rfl,rfl⟩,⟨rfl,rfl⟩,trivial⟩,⟨z41 (z67 (by rw [hlen];rfl)) (hfl 0),trivial⟩⟩ ?_
 intro i hi
 by_cases hin:i < n
 ·have hc:=(z553 same i).2
  have hF:i < (((numF same n).1.take i).map enI++List.replicate ((numF same n).1.length - i) [AC.int 0]).length:=by rw [z721 (by omega)];omega
  repeat' (first|(apply y80 ok;rfl;conv=>whnf)|(apply y38;(omega);conv=>whnf)|(apply z280;omega;conv=>whnf)|(apply z8<;>intro _<;>conv=>whnf))
  all_goals try (exfalso;omega)
  refine z92 (fun k:Nat=>([(1,.fn (.func f) [] [.pt [ints c],.pt [lst 1 encL d]]),(5,.sref 0 0 n),(6,.int ((numF same i).2:Int)),(12,.int n),(13,.int i),(7,.int i),(20,.int i),(21,.int k)],[.cells 1 ((((numF same n).1.take i).map enI++List.replicate ((numF same n).1.length - i) [AC.int 0]).set i [AC.int ((numF same i).2:Int)])])) (fun k=>k≤i∧∀ j,j < k→same i j=false) (fun k=>i - k) 0 ⟨by omega,fun j hj=>by omega⟩ ⟨[0],rfl,by decide,rfl,⟨⟨rfl,rfl⟩,⟨rfl,rfl⟩,⟨rfl,rfl⟩,⟨rfl,rfl⟩,⟨rfl,rfl⟩,⟨rfl,rfl⟩,⟨rfl,rfl⟩,⟨rfl,rfl⟩,trivial⟩,⟨z41 rfl (z511 (hfl i) rfl),trivial⟩⟩ ?_
  rintro k ⟨hk1,hk2⟩
  generalize hFF:(((numF same n).1.take i).map enI++List.replicate ((numF same n).1.length - i) [AC.int 0])=F at hF
  by_cases hki:k < i
  ·have hg:(F.set i [AC.int ((numF same i).2:Int)])[k]?=some (enI ((numF same n).1[k]'(by omega))):=by rw [← hFF];exact z983 hki (by omega)
   have hlt:=numF_lt' (same:=same) (n:=n) hi hki
   repeat' (first|(apply y80 ok;rfl;conv=>whnf)|(apply z369;(exact y72 i);(first|exact hF|(rw [List.length_set];exact hF));conv=>whnf)|(apply z20;(exact y72 k);exact hg;conv=>whnf)|(apply y38;(first|omega|(unfold inI;omega));conv=>whnf)|(apply z8<;>intro _<;>conv=>whnf)|(apply z106<;>intro _<;>conv=>whnf)|(apply z7 (hf i k hki hin);rfl;rfl;conv=>whnf))
   all_goals try (exfalso;omega)
   ·rename_i hs
    obtain ⟨h3,h4⟩:=z121 hin hki (by assumption) hk2
    exact z80 (i+1) [0] (by omega) (by omega) ⟨rfl,by decide,rfl,⟨⟨rfl,rfl⟩,⟨rfl,rfl⟩,⟨rfl,z241 (by rw [h4])⟩,⟨rfl,rfl⟩,⟨rfl,rfl⟩,trivial⟩,⟨z41 (z67 (by rw [← hFF];exact z575 (by omega) rfl (by rw [h3];rfl))) (hfl _),trivial⟩⟩
   ·refine z80 (k+1) [0] ⟨by omega,fun j hj=>?_⟩ (by omega) ⟨rfl,by decide,rfl,⟨⟨rfl,rfl⟩,⟨rfl,rfl⟩,⟨rfl,rfl⟩,⟨rfl,rfl⟩,⟨rfl,rfl⟩,⟨rfl,rfl⟩,⟨rfl,rfl⟩,⟨rfl,rfl⟩,trivial⟩,⟨z41 rfl (z511 (hFF ▸ hfl i) rfl),trivial⟩⟩
    rcases y65 j k with h3|h3
    ·exact hk2 j h3
    ·obtain rfl:j=k:=by omega
     assumption
  ·obtain rfl:k=i:=by omega
   obtain ⟨h3,h4⟩:=z130 hin hk2
   repeat' (first|(apply y80 ok;rfl;conv=>whnf)|(apply z369;(exact y72 k);exact hF;conv=>whnf)|(apply y38;(first|omega|(unfold inI;omega));conv=>whnf)|(apply z8<;>intro _<;>conv=>whnf))
   all_goals try (exfalso;omega)
   exact z80 (k+1) [0] (by omega) (by omega) ⟨rfl,by decide,rfl,⟨⟨rfl,rfl⟩,⟨rfl,rfl⟩,⟨rfl,z241 (by rw [h4];simp)⟩,⟨rfl,rfl⟩,⟨rfl,rfl⟩,trivial⟩,⟨z41 (z67 (by rw [← hFF,← z512 (f:=enI) _ _ _ (by omega),h3];rfl)) (hfl _),trivial⟩⟩
 ·repeat' (first|(apply y80 ok;rfl;conv=>whnf)|(apply y38;(omega);conv=>whnf)|(apply z280;omega;conv=>whnf)|(apply z8<;>intro _<;>conv=>whnf))
  all_goals try (exfalso;omega)
  obtain rfl:i=n:=by omega
  exact z273 rfl (z6 fun _=>rfl) rfl (by rw [y52 (by omega),hlen,Nat.sub_self];simp)
def z1135 (bl:List Int) (sets:List (List Int)) (i k:Nat):Bool:=decide (bl.getD i 0=bl.getD k 0) && decide (sets.getD i []=sets.getD k [])
theorem z1028 (bl:List Int) (sets:List (List Int)) (hs:∀ s∈sets,s.length≤maxLen) (i k:Nat) (hk:k < i) (hi:i < bl.length) (hi2:i < sets.length):CallsA Tryz.prog 223 [.int i,.int k,.pt [ints bl],.pt [lst 1 encL sets]] [] (.bool (z1135 bl sets i k)) []:=by
 have c1:=z576 sets[i] sets[k] (hs _ (y39 _)) (hs _ (y39 _))
 unfold z1135
 rw [z13 hi,z13 (by omega),z13 hi2,z13 (by omega)]
 have g1:(sets.map encL)[i]?=some (encL sets[i]):=by rw [y46,y40 hi2];rfl
 have g2:(sets.map encL)[k]?=some (encL sets[k]):=by rw [y46,y40 (by omega)];rfl
 have g3:(bl.map enI)[i]?=some (enI bl[i]):=by rw [y46,y40 hi];rfl
 have g4:(bl.map enI)[k]?=some (enI bl[k]):=by rw [y46,y40 (by omega)];rfl
 generalize sets[i]=si at *
 generalize sets[k]=sk at *
 generalize bl[i]=bi at *
 generalize bl[k]=bk at *
 refine z12 z19 Tryz.func223 rfl rfl 27 Tryz.ntmps223 (by simp) ?_
 repeat' (first|(apply y80 ok;rfl;conv=>whnf)|(apply z35;kernel_rfl;conv=>whnf)|(refine z20 (i:=k) rfl g4 ?_;conv=>whnf)|(refine z20 (i:=i) rfl g3 ?_;conv=>whnf)|(refine z20 (i:=k) rfl g2 ?_;conv=>whnf)|(refine z20 (i:=i) rfl g1 ?_;conv=>whnf)|(apply y38;(omega);conv=>whnf)|(apply z8<;>intro _<;>conv=>whnf)|(apply z7 (c1);rfl;rfl;conv=>whnf))
 ·rename_i h
  exact z25 rfl (by rw [y77 h];rfl)
 ·rename_i h
  exact z25 rfl (by rw [y78 h];rfl)
theorem z1203 {α:Type} {f:α→List AC} {l:List α} {z:List AC} {k n:Nat} {K:List AC→Prop} (hn:n=k) (h:k < l.length) (kk:K z):∃ e,((l.take k).map f++List.replicate (l.length - k) z)[n]?=some e∧K e :=
 ⟨z,by subst hn;exact z984 _ _ _ _ h,kk⟩
theorem bor_fnC {objs:Nat→AObj} {π Bn:List Nat} {f:Fn} {caps caps' : List AC} (h:borL objs π Bn caps=caps'):bor objs π Bn (.fn f [] caps)=.fn f [] caps':=by
 simp only [bor,borL,h]
theorem z928 {objs:Nat→AObj} {π Bn:List Nat} {o w:Nat} {l:List (List Int)} (ho:objs o=.cells w [[.own 1 (l.map z91)]]) (h1:idx π o=none) (h2:inB Bn o=true):bor objs π Bn (.ptr o none 0)=.pt [lst 1 encL l]:=by
 simp only [bor,h1,h2,ho]
 show AC.pt [AC.list 1 (l.map z91).length (z75 (l.map z91))]=_
 rw [z152,y44];rfl
theorem z629 (g:Graph) (hG:GB g) (bl:List Int) (hb:bl.length=g.st.length):CallsA Tryz.prog 100 [.agg g.cs,ints bl] [] (.sref 0 0 g.st.length) [.cells 1 ((refL g bl).map enI)]:=by
 have hg1:=hG.1
 have hg2:=hG.2.1
 have hsl:∀ s∈(List.range g.nx.length).map (aft g bl),s.length≤maxLen:=fun s hs=>by
  obtain ⟨i,hi,rfl⟩:=List.mem_map.1 hs
  have hi:=List.mem_range.1 hi
  have h1:=z767 ((g.nx.getD i []).map (pick bl))
  have h2:=(hG.row i hi).2.1
  rw [z13 hi,y44] at h1
  unfold aft maxLen
  rw [z13 hi];omega
 have c4:=z908 bl ((List.range g.nx.length).map (aft g bl)) bl.length (by omega) (z1135 bl ((List.range g.nx.length).map (aft g bl))) 223 (fun i k hk hi=>z1028 bl _ hsl i k hk hi (by simp;omega))
 have e4:(numF (z1135 bl ((List.range g.nx.length).map (aft g bl))) bl.length).1=refL g bl:=by
  unfold refL numK
  rw [hb,z254]
  intro i k hki hi
  unfold z1135 keyA
  rw [z13 (l:=(List.range g.nx.length).map (aft g bl)) (by simp;omega),z13 (l:=(List.range g.nx.length).map (aft g bl)) (by simp;omega)]
  simp only [List.getElem_map,List.getElem_range]
  rw [← Bool.decide_and]
  simp only [decide_eq_decide,List.cons.injEq]
  constructor
  ·rintro ⟨h1,h2⟩;exact ⟨h1.symm,h2.symm⟩
  ·rintro ⟨h1,h2⟩;exact ⟨h1.symm,h2.symm⟩
 rw [e4] at c4
 refine z12 z19 Tryz.func100 rfl rfl 35 Tryz.ntmps100 (by simp) ?_
 repeat' (first|(apply y80 ok;rfl;conv=>whnf)|(apply y38;((dsimp only;omega));conv=>whnf))
 refine y81 (Gl.Reach.weaken (es':=List.replicate bl.length [.own 1 []]) 2 rfl (by rw [y41,y41];rfl) z360 rfl) ?_
 conv=>whnf
 refine z92 (fun i:Nat=>([(3,.ptr 0 none 0),(5,.ptr 1 none 0),(13,lst 1 encL g.nx),(14,.int g.nx.length),(15,.int i)],[.cells 1 [[ints bl]],.cells 1 [[.sref 2 0 bl.length]],.cells 1 (((List.range g.nx.length).take i).map (fun j=>z91 (aft g bl j))++List.replicate ((List.range g.nx.length).length - i) [.own 1 []])])) (fun i=>i≤g.nx.length) (fun i=>g.nx.length - i) 0 (by omega) ⟨[1,3,2],rfl,by decide,rfl,⟨⟨rfl,rfl⟩,⟨rfl,rfl⟩,⟨rfl,rfl⟩,⟨rfl,rfl⟩,⟨rfl,rfl⟩,trivial⟩,⟨z27 rfl rfl,z27 rfl rfl,z41 (z67 (by rw [List.length_range,hg2,hb];rfl)) (z87 (z6 fun _=>rfl) (z70 rfl)),trivial⟩⟩ ?_
 intro i hi
 by_cases hil:i < g.nx.length
 ·obtain ⟨r1,r2,r3⟩:=hG.row i hil
  have hir:i < (List.range g.nx.length).length:=by simpa using hil
  have hgr:(g.nx.map encL)[i]?=some (encL g.nx[i]):=by rw [y46,y40 hil];rfl
  have ea:z437 (g.nx[i].map (pick bl))=aft g bl i:=by unfold aft;rw [z13 hil]
  generalize g.nx[i]=row at *
  have c1:=z632 bl row (by omega) (by rw [hb];exact r3) (by omega)
  have c2:=sort_ok (row.map (pick bl)) (by simp;omega) (by simp;omega)
  have c3:=z1067 ((row.map (pick bl)).mergeSort fun x y=>decide (x≤y)) (by rw [List.length_mergeSort];simp;omega) (by rw [List.length_mergeSort];simp;omega)
  rw [y44] at c2
  rw [List.length_mergeSort,y44] at c3
  have e3:Lib.compact ((row.map (pick bl)).mergeSort fun x y=>decide (x≤y))=aft g bl i:=ea
  rw [e3] at c3
  repeat' (first|((fail_if_success apply z116 8);(fail_if_success apply z101 8);apply y80 ok;rfl;conv=>whnf)|(apply z35;kernel_rfl;conv=>whnf)|(refine z1203 rfl hir ?_;conv=>whnf)|(refine z20 (i:=i) rfl hgr ?_;conv=>whnf)|(apply y38;(omega);conv=>whnf)|(apply z8<;>intro _<;>conv=>whnf)|(apply z74 [] [] [3] (c1);rfl;(focus ((repeat' (exact z37))<;>(fail)));rfl;rfl;rfl;rfl;rfl;(focus ((repeat' (first|exact z18|apply z15))<;>((refine z23 ?_;((exact z6 (fun _=>rfl)))))));(exact .inl rfl);conv=>whnf)|(apply z74 [3] [] [] (c2);rfl;(focus ((repeat' (first|exact z37|apply z63))<;>((refine z83 rfl ?_;((exact z6 (fun _=>rfl)))))));rfl;rfl;rfl;rfl;rfl;(focus ((repeat' (first|exact z18|apply z15))<;>((refine z23 ?_;((exact z6 (fun _=>rfl)))))));(exact .inl rfl);conv=>whnf)|(apply z74 [3] [] [] (c3);rfl;(focus ((repeat' (first|exact z37|apply z63))<;>((refine z83 rfl ?_;((exact z6 (fun _=>rfl)))))));rfl;rfl;rfl;rfl;rfl;(focus ((repeat' (first|exact z18|apply z15))<;>((refine z23 ?_;((exact z6 (fun _=>rfl)))))));(exact .inl rfl);conv=>whnf))
  all_goals try (exfalso;omega)
  refine y81 (Gl.Reach.absorb 2 3 i 0 rfl (z1200 rfl (by rw [z721 (by omega)];exact hir)) rfl rfl (by simp) rfl (z6 fun _=>rfl) rfl) ?_
  conv=>whnf
  repeat' (first|(apply y80 ok;rfl;conv=>whnf)|(apply y38;((unfold inI;omega));conv=>whnf))
  exact z80 (i+1) [0,1,2] (by omega) (by omega) ⟨rfl,by decide,rfl,⟨⟨rfl,rfl⟩,⟨rfl,rfl⟩,⟨rfl,rfl⟩,⟨rfl,rfl⟩,⟨rfl,rfl⟩,trivial⟩,⟨z27 rfl rfl,z27 rfl rfl,z41 (z67 (z575 hir rfl (by rw [List.getElem_range];rfl))) (z87 (z6 fun _=>rfl) (z70 rfl)),trivial⟩⟩
 ·repeat' (first|((fail_if_success apply z116 9);(fail_if_success apply z101 9);apply y80 ok;rfl;conv=>whnf)|(apply y38;(omega);conv=>whnf)|(with_reducible apply z14;omega;intro _;conv=>whnf)|(apply z8<;>intro _<;>conv=>whnf))
  all_goals try (exfalso;omega)
  have e5:((List.range g.nx.length).take i).map (fun j=>z91 (aft g bl j))++List.replicate ((List.range g.nx.length).length - i) [AC.own 1 []]=((List.range g.nx.length).map (aft g bl)).map z91:=by
   rw [y52 (by simp;omega),List.map_map,show (List.range g.nx.length).length - i=0 by simp;omega]
   simp
  rw [e5]
  refine y81 (Gl.Reach.absorb 1 2 0 0 rfl rfl rfl rfl (by simp;omega) rfl (z6 fun _=>rfl) rfl) ?_
  conv=>whnf
  repeat' (first|(apply y80 ok;rfl;conv=>whnf)|(apply z74 [] [0,1] [3] (c4);(focus (exact z52 rfl (z52 (bor_fnC (z52 rfl (z52 (z928 rfl rfl rfl) z81))) z81)));(focus ((repeat' (exact z37))<;>(fail)));rfl;rfl;rfl;rfl;rfl;(focus ((repeat' (first|exact z18|apply z15))<;>((refine z23 ?_;((exact z6 (fun _=>rfl)))))));((refine .inr ⟨rfl,?_⟩;repeat' (first|exact True.intro|apply y38|exact z104 (fun _=>rfl) _)));conv=>whnf))
  exact z100 rfl (z6 fun _=>rfl) hb rfl rfl
def bisN (g:Graph) (b:List Int):Nat→List Int
 |0=>b
 |k+1=>refL g (bisN g b k)
def bis0 (g:Graph) (l:List Tree):List Int:=(numF (z480 (g.st.map (z43 l))) g.st.length).1
def bisF (g:Graph) (l:List Tree):List Int:=bisN g (bis0 g l) g.st.length
theorem z732 (g:Graph) (b:List Int) (hb:b.length=g.st.length) (k:Nat):(bisN g b k).length=g.st.length:=by
 cases k with
 |zero=>exact hb
 |succ k=>exact z175 _ _
def BK (g:Graph) (b:List Int) (k:Nat):Prop:=∃ κ:Nat→List Int,bisN g b k=(numK κ g.st.length).1∧k≤(numK κ g.st.length).2
theorem numK_cnt {K:Type} [DecidableEq K] (κ:Nat→K) (n:Nat):(numK κ n).2≤n:=(z553 _ n).2
theorem BK.le {g:Graph} {b:List Int} {k:Nat} (h:BK g b k):k≤g.st.length:=by
 obtain ⟨κ,_,h2⟩:=h
 have:=numK_cnt κ g.st.length;omega
theorem BK.step {g:Graph} {b:List Int} {k:Nat} (h:BK g b k) (hne:bisN g b (k+1)≠bisN g b k):BK g b (k+1):=by
 obtain ⟨κ,h1,h2⟩:=h
 refine ⟨keyA g (bisN g b k),rfl,?_⟩
 obtain ⟨h3,h4,_⟩:=z1035 (κ:=κ) (κ':=keyA g (bisN g b k)) (n:=g.st.length) (fun x y hx hy he=>by
  have h5:(bisN g b k).getD x 0=(bisN g b k).getD y 0:=(List.cons.inj he).1
  rw [h1] at h5
  rw [z13 (by rw [z198];exact hx),z13 (by rw [z198];exact hy)] at h5
  exact (z694 (κ:=κ) (n:=g.st.length) g.st.length (y47 _) x y hx hy).1 h5) g.st.length (y47 _)
 rcases y65 k (numK (keyA g (bisN g b k)) g.st.length).2 with h|h
 ·exact h
 ·exfalso
  refine hne ?_
  show (numK (keyA g (bisN g b k)) g.st.length).1=_
  rw [h1] at h4 ⊢
  rw [h1] at h3 h
  exact h4 (by omega)
theorem z586 {g:Graph} {b:List Int} {k:Nat} (h:bisN g b (k+1)=bisN g b k):∀ j,k≤j→bisN g b j=bisN g b k:=by
  intro j hj
  induction j with
  | zero => obtain rfl : k = 0 := by omega
            rfl
  | succ j ih =>
    rcases y65 j k with h1|h1
    · obtain rfl:k=j+1:=by omega
      rfl
    · rw [bisN,ih h1];exact h
theorem BK.zero (g:Graph) (l:List Tree):BK g (bis0 g l) 0:=by
 refine ⟨fun i=>[(g.st.map (z43 l)).getD i 0],?_,y48 _⟩
 show (numF _ _).1=(numF _ _).1
 rw [z254]
 intro i k _ _
 unfold z480
 simp [eq_comm]
theorem BK.end {g:Graph} {l:List Tree} {k:Nat} (h:BK g (bis0 g l) k) (he:refL g (bisN g (bis0 g l) k)=bisN g (bis0 g l) k):bisN g (bis0 g l) k=bisF g l :=
 (z586 he _ h.le).symm
theorem z1243 (g:Graph) (hG:GB g) (l:List Tree) (hL:z126 l):CallsA Tryz.prog 110 [.agg g.cs,lst 3 Tree.cs' l] [] (.sref 0 0 g.st.length) [.cells 1 ((bisF g l).map enI)]:=by
 have c1:=z560 g hG.vals hG.1.2 l hL
 have hb0:(bis0 g l).length=g.st.length:=z77 _ _
 have hg1:=hG.1
 refine z12 z19 Tryz.func110 rfl rfl 18 Tryz.ntmps110 (by simp) ?_
 repeat' (first|(apply y80 ok;rfl;conv=>whnf)|(apply z74 [] [] [1] (c1);rfl;(focus ((repeat' (exact z37))<;>(fail)));rfl;rfl;rfl;rfl;rfl;(focus ((repeat' (first|exact z18|apply z15))<;>((refine z23 ?_;((exact z6 (fun _=>rfl)))))));(exact .inl rfl);conv=>whnf))
 refine z92 (fun k:Nat=>([(2,.ptr 0 none 0),(5,.sref 1 0 g.st.length)],[.cells 2 [[lst 2 State.cs g.st,lst 1 encL g.nx]],.cells 1 ((bisN g (bis0 g l) k).map enI)])) (BK g (bis0 g l)) (fun k=>g.st.length+1 - k) 0 (BK.zero g l) ⟨[0,1],rfl,by decide,rfl,⟨⟨rfl,rfl⟩,⟨rfl,rfl⟩,trivial⟩,⟨z27 rfl rfl,z41 rfl (z6 fun _=>rfl),trivial⟩⟩ ?_
 intro k hk
 have hkl:=z732 g _ hb0 k
 have hkle:=hk.le
 have c2:=z629 g hG (bisN g (bis0 g l) k) hkl
 have c3:=z576 (refL g (bisN g (bis0 g l) k)) (bisN g (bis0 g l) k) (by rw [z175];unfold maxLen;omega) (by rw [hkl];unfold maxLen;omega)
 by_cases he:refL g (bisN g (bis0 g l) k)=bisN g (bis0 g l) k
 ·have hend:=hk.end he
  repeat' (first|(apply y80 ok;rfl;conv=>whnf)|(apply z8<;>intro _<;>conv=>whnf)|(apply z74 [] [1] [2] (c2);(focus (exact z52 rfl (z52 (z263 rfl rfl rfl hkl) z81)));(focus ((repeat' (exact z37))<;>(fail)));rfl;rfl;rfl;rfl;rfl;(focus ((repeat' (first|exact z18|apply z15))<;>((refine z23 ?_;((exact z6 (fun _=>rfl)))))));((refine .inr ⟨rfl,?_⟩;repeat' (first|exact True.intro|apply y38|exact z104 (fun _=>rfl) _)));conv=>whnf)|(apply z74 [] [2,1] [] (c3);(focus (exact z52 (z263 rfl rfl rfl (z175 _ _)) (z52 (z263 rfl rfl rfl hkl) z81)));(focus ((repeat' (exact z37))<;>(fail)));rfl;rfl;rfl;rfl;rfl;(focus ((repeat' (exact z18))<;>(fail)));((refine .inr ⟨rfl,?_⟩;repeat' (exact True.intro)));conv=>whnf))
  all_goals first|(exfalso;exact absurd he (by assumption))|skip
  rw [he,hend]
  exact z100 rfl (z6 fun _=>rfl) rfl rfl rfl
 ·repeat' (first|(apply y80 ok;rfl;conv=>whnf)|(apply z8<;>intro _<;>conv=>whnf)|(apply z74 [] [1] [2] (c2);(focus (exact z52 rfl (z52 (z263 rfl rfl rfl hkl) z81)));(focus ((repeat' (exact z37))<;>(fail)));rfl;rfl;rfl;rfl;rfl;(focus ((repeat' (first|exact z18|apply z15))<;>((refine z23 ?_;((exact z6 (fun _=>rfl)))))));((refine .inr ⟨rfl,?_⟩;repeat' (first|exact True.intro|apply y38|exact z104 (fun _=>rfl) _)));conv=>whnf)|(apply z74 [] [2,1] [] (c3);(focus (exact z52 (z263 rfl rfl rfl (z175 _ _)) (z52 (z263 rfl rfl rfl hkl) z81)));(focus ((repeat' (exact z37))<;>(fail)));rfl;rfl;rfl;rfl;rfl;(focus ((repeat' (exact z18))<;>(fail)));((refine .inr ⟨rfl,?_⟩;repeat' (exact True.intro)));conv=>whnf))
  all_goals first|(exfalso;exact absurd (by assumption) he)|skip
  have hs:=hk.step he
  have:=hs.le
  exact z80 (k+1) [0,2] hs (by omega) ⟨rfl,by decide,rfl,⟨⟨rfl,rfl⟩,⟨rfl,rfl⟩,trivial⟩,⟨z27 rfl rfl,z41 rfl (z6 fun _=>rfl),trivial⟩⟩
noncomputable def bisR (g:Graph) (l:List Tree):List Int:=if glB g l then bisF g l else []
theorem z515 (g:Graph) (l:List Tree):(bisF g l).length=g.st.length:=z732 g _ (z77 _ _) _
theorem z1244 (g:Graph) (l:List Tree):(bisR g l).length≤g.st.length:=by
 unfold bisR;split
 ·rw [z515];omega
 ·simp
theorem z335 (g:Graph) (hg:g.mx) (l:List Tree) (hl:Lmx l):CallsA Tryz.prog 35 [.agg g.cs,lst 3 Tree.cs' l] [] (.tup [.sref 0 0 (bisR g l).length,.bool (glB g l)]) [.cells 1 ((bisR g l).map enI)]:=by
 have c1:=z200 g hg
 have c2:=z178 l hl.1 hl.2
 by_cases h:glB g l=true
 ·have h1:z217 g=true:=by unfold glB at h;exact (Bool.and_eq_true_iff.1 h).1
  have h2:z148 l=true:=by unfold glB at h;exact (Bool.and_eq_true_iff.1 h).2
  have hG:=(z94 g).1 h1
  have hL:=y7 h2
  have c3:=z1243 g hG l hL
  have e:bisR g l=bisF g l:=by unfold bisR;rw [if_pos h]
  rw [e,z515,h]
  rw [h1] at c1
  rw [h2] at c2
  refine z12 z19 Tryz.func35 rfl rfl 17 Tryz.ntmps35 (by simp) ?_
  repeat' (first|(apply y80 ok;rfl;conv=>whnf)|(apply z7 (c1);rfl;rfl;conv=>whnf)|(apply z7 (c2);rfl;rfl;conv=>whnf)|(apply z74 [] [] [1] (c3);rfl;(focus ((repeat' (exact z37))<;>(fail)));rfl;rfl;rfl;rfl;rfl;(focus ((repeat' (first|exact z18|apply z15))<;>((refine z23 ?_;((exact z6 (fun _=>rfl)))))));(exact .inl rfl);conv=>whnf))
  exact z96 [1] (by decide) rfl rfl rfl ⟨z41 rfl (z6 fun _=>rfl),trivial⟩
 ·have h:=(y67 _).mp h
  have e:bisR g l=[]:=by unfold bisR;rw [h];rfl
  rw [e,h]
  refine CallsA.nils (res:=.tup [.nils,.bool false]) ?_ (by simp) (tup_sref z402)
  refine z12 z19 Tryz.func35 rfl rfl 17 Tryz.ntmps35 (by simp) ?_
  repeat' (first|(apply y80 ok;rfl;conv=>whnf)|(apply z102<;>intro _<;>conv=>whnf)|(apply z7 (c1);rfl;rfl;conv=>whnf)|(apply z7 (c2);rfl;rfl;conv=>whnf))
  all_goals first|exact z56 rfl rfl rfl|(exfalso;unfold glB at h;simp_all;done)
theorem z368 (g:Graph) (hg:g.mx) (l:List Tree) (hl:Lmx l):CallsA Tryz.prog 35 [.agg g.cs,lst 3 Tree.cs' l] [] (.tup [ints (bisR g l),.bool (glB g l)]) []:=by
 have:=(z335 g hg l hl).keepT (L:=(bisR g l).map enI) (z141 _ _) (by simp) rfl
 exact this
theorem z210 (g:Graph) (hg:g.mx) (l:List Tree) (hl:Lmx l):CallsA Tryz.prog 36 [.agg g.cs,lst 3 Tree.cs' l] [] (.tup [ints (bisR g l),.bool (glB g l)]) []:=by
 have c1:=z387 g hg l hl
 by_cases h:glB g l=true
 ·have h1:z217 g=true:=by unfold glB at h;exact (Bool.and_eq_true_iff.1 h).1
  have hG:=(z94 g).1 h1
  have e:bisR g l=bisF g l:=by unfold bisR;rw [if_pos h]
  have e2:lblB g l=bis0 g l:=by unfold lblB;rw [if_pos h];rfl
  have hb0:(bis0 g l).length=g.st.length:=z77 _ _
  have hg1:=hG.1
  rw [h,e2] at c1
  rw [e,h]
  refine z12 z19 Tryz.func36 rfl rfl 26 Tryz.ntmps36 (by simp) ?_
  repeat' (first|(apply y80 ok;rfl;conv=>whnf)|(apply z7 (c1);rfl;rfl;conv=>whnf))
  refine z92 (fun k:Nat=>([(2,.ptr 0 none 0),(6,ints (bisN g (bis0 g l) k))],[.cells 2 [[lst 2 State.cs g.st,lst 1 encL g.nx]]])) (BK g (bis0 g l)) (fun k=>g.st.length+1 - k) 0 (BK.zero g l) ⟨[0],rfl,by decide,rfl,⟨⟨rfl,rfl⟩,⟨rfl,rfl⟩,trivial⟩,⟨z27 rfl rfl,trivial⟩⟩ ?_
  intro k hk
  have hkl:=z732 g _ hb0 k
  have hkle:=hk.le
  have c2:=z1051 (z410 g hG (bisN g (bis0 g l) k) hkl) (z175 _ _)
  have c3:=z307 (refL g (bisN g (bis0 g l) k)) (bisN g (bis0 g l) k) (by rw [z175];unfold maxLen;omega) (by rw [hkl];unfold maxLen;omega)
  by_cases he:refL g (bisN g (bis0 g l) k)=bisN g (bis0 g l) k
  ·have hend:=hk.end he
   repeat' (first|(apply y80 ok;rfl;conv=>whnf)|(apply z8<;>intro _<;>conv=>whnf)|(apply z7 (c2);rfl;rfl;conv=>whnf)|(apply z7 (c3);rfl;rfl;conv=>whnf))
   all_goals first|(exfalso;exact absurd he (by assumption))|skip
   rw [hend]
   exact z56 rfl rfl rfl
  ·repeat' (first|(apply y80 ok;rfl;conv=>whnf)|(apply z8<;>intro _<;>conv=>whnf)|(apply z7 (c2);rfl;rfl;conv=>whnf)|(apply z7 (c3);rfl;rfl;conv=>whnf))
   all_goals first|(exfalso;exact absurd (by assumption) he)|skip
   have hs:=hk.step he
   have:=hs.le
   exact z80 (k+1) [0] hs (by omega) ⟨rfl,by decide,rfl,⟨⟨rfl,rfl⟩,⟨rfl,rfl⟩,trivial⟩,⟨z27 rfl rfl,trivial⟩⟩
 ·have h:=(y67 _).mp h
  have e:bisR g l=[]:=by unfold bisR;rw [h];rfl
  rw [h] at c1
  rw [e,h]
  refine z12 z19 Tryz.func36 rfl rfl 26 Tryz.ntmps36 (by simp) ?_
  repeat' (first|(apply y80 ok;rfl;conv=>whnf)|(apply z7 (c1);rfl;rfl;conv=>whnf))
  all_goals exact z628 rfl rfl (z671 z528)
end Go.Proofs.YtnpclplponhppaaGreat
namespace Go.Proofs.YtnpclplponhppaaGreat
open Go.Gl
attribute [local irreducible] z21 AWP z36 z42 z39 RetS z47
theorem bisN_eq (g:Graph) (b:List Int) (k:Nat):bisN g b k=bisM g.nx g.st.length b k:=by
 induction k with
 |zero=>rfl
 |succ k ih=>rw [bisN,bisM,ih];rfl
def lsT (g:Graph) (l:List Tree) (i:Nat):Int:=z43 l (g.st.getD i ⟨[],[]⟩)
theorem z1024 (l:List Int) (n:Nat):numF (z480 l) n=numK (fun k=>l.getD k 0) n:=by
 unfold numK
 refine z254 fun i k _ _=>?_
 unfold z480
 rw [decide_eq_decide]
 exact eq_comm
theorem bis0_iff (g:Graph) (l:List Tree) {i j:Nat} (hi:i < g.st.length) (hj:j < g.st.length):(bis0 g l).getD i 0=(bis0 g l).getD j 0↔lsT g l i=lsT g l j:=by
 unfold bis0 lsT
 rw [z1024,z790 _ hi hj,z13 (by simpa using hi),z13 (by simpa using hj),z13 hi,z13 hj,List.getElem_map,List.getElem_map]
theorem z998 (g:Graph) (l:List Tree):refL g (bisF g l)=bisF g l:=by
 have h:∃ k,k≤g.st.length∧bisN g (bis0 g l) (k+1)=bisN g (bis0 g l) k:=by
  refine y73 fun hn=>?_
  have hb:∀ k,k≤g.st.length+1→BK g (bis0 g l) k:=by
   intro k
   induction k with
   |zero=>exact fun _=>BK.zero g l
   |succ k ih=>exact fun hk=>(ih (by omega)).step fun e=>hn ⟨k,by omega,e⟩
  have:=(hb _ (y47 _)).le
  omega
 obtain ⟨k,hk,e⟩:=h
 unfold bisF
 rw [z586 e _ hk]
 exact e
theorem bisF_M (g:Graph) (l:List Tree):bisF g l=bisM g.nx g.st.length (bis0 g l) g.st.length:=bisN_eq _ _ _
theorem bisF_stb (g:Graph) (l:List Tree):Stb g.nx g.st.length (fun i=>(bisF g l).getD i 0):=Stb.of_ref (z998 g l)
theorem z836 (g:Graph) (l:List Tree):Part (bisF g l) g.st.length:=by
 refine ⟨?_⟩
 rw [← z998]
 exact z1036 _ _
theorem bisF_let (g:Graph) (l:List Tree) {i j:Nat} (hi:i < g.st.length) (hj:j < g.st.length) (e:(bisF g l).getD i 0=(bisF g l).getD j 0):lsT g l i=lsT g l j:=by
 rw [bisF_M] at e
 exact (bis0_iff g l hi hj).1 (z1076 hi hj _ e)
theorem GB.inG {g:Graph} (h:GB g):∀ r∈g.nx,InN g.st.length r:=fun r hr=>by
 obtain ⟨i,hi,rfl⟩:=List.mem_iff_getElem.1 hr
 exact (GB.row h i hi).2.2
theorem glB_GB {g:Graph} {l:List Tree} (h:glB g l=true):GB g∧z126 l:=by
 unfold glB at h
 obtain ⟨h1,h2⟩:=Bool.and_eq_true_iff.1 h
 exact ⟨(z94 g).1 h1,y7 h2⟩
end Go.Proofs.YtnpclplponhppaaGreat
namespace Go.Proofs.YtnpclplponhppaaGreat
open Go.Gl
attribute [local irreducible] z21 AWP z36 z42 z39
theorem z388 (g:Graph) (hg:g.mx) (bl:List Int) (hl:bl.length≤1048576) (hst:g.st.length≤1048576):CallsA Tryz.prog 102 [.agg g.cs,ints bl] [] (.bool (bvB g bl)) []:=by
 have c1:=z247 g hg
 unfold bvB
 generalize z217 g=q at *
 refine z12 z19 Tryz.func102 rfl rfl 45 Tryz.ntmps102 (by simp) ?_
 cases q
 ·repeat' (first|(apply y80 ok;rfl;conv=>whnf)|(apply z7 (c1);rfl;rfl;conv=>whnf))
  all_goals exact z25 rfl rfl
 by_cases hlen:(bl.length:Int)=g.st.length
 ·repeat' (first|(apply y80 ok;rfl;conv=>whnf)|(apply z34<;>intro _<;>conv=>whnf)|(apply z7 (c1);rfl;rfl;conv=>whnf))
  all_goals first|(exfalso;simp_all;done)|skip
  rw [y77 hlen]
  refine z92 (fun i:Nat=>([(1,ints bl),(5,.int (mst bl i)),(6,.int i)],[])) (fun i=>i≤bl.length∧∀ j (h:j < bl.length),j < i→0≤bl[j]∧bl[j]≤mst bl j) (fun i=>bl.length - i) 0 ⟨by omega,fun j _ h=>by omega⟩ ⟨[],rfl,by decide,rfl,⟨⟨rfl,rfl⟩,⟨rfl,rfl⟩,⟨rfl,rfl⟩,trivial⟩,trivial⟩ ?_
  rintro i ⟨hi1,hi2⟩
  have hm:=z793 bl i
  by_cases hil:i < bl.length
  ·have em:mst bl (i+1)=if bl[i]=mst bl i then mst bl i+1 else mst bl i:=by rw [mst,z13 hil]
   have hgi:(bl.map enI)[i]?=some (enI bl[i]):=by rw [y46,y40 hil];rfl
   by_cases hb:0≤bl[i]∧bl[i]≤mst bl i
   ·have hok:∀ j (h:j < bl.length),j < i+1→0≤bl[j]∧bl[j]≤mst bl j:=fun j hj hji=>by
     rcases y65 j i with h3|h3
     ·exact hi2 j hj h3
     ·obtain rfl:j=i:=by omega
      exact hb
    by_cases he:bl[i]=mst bl i
    ·rw [if_pos he] at em
     repeat' (first|(apply y80 ok;rfl;conv=>whnf)|(refine z20 (i:=i) rfl hgi ?_;conv=>whnf)|(apply y38;(first|omega|(unfold inI;omega));conv=>whnf)|(apply z8<;>intro _<;>conv=>whnf))
     all_goals try (exfalso;omega)
     exact z80 (i+1) [] ⟨by omega,hok⟩ (by omega) ⟨rfl,by decide,rfl,⟨⟨rfl,rfl⟩,⟨rfl,z241 em.symm⟩,⟨rfl,rfl⟩,trivial⟩,trivial⟩
    ·rw [if_neg he] at em
     repeat' (first|(apply y80 ok;rfl;conv=>whnf)|(refine z20 (i:=i) rfl hgi ?_;conv=>whnf)|(apply y38;(first|omega|(unfold inI;omega));conv=>whnf)|(apply z8<;>intro _<;>conv=>whnf))
     all_goals try (exfalso;omega)
     exact z80 (i+1) [] ⟨by omega,hok⟩ (by omega) ⟨rfl,by decide,rfl,⟨⟨rfl,rfl⟩,⟨rfl,z241 em.symm⟩,⟨rfl,rfl⟩,trivial⟩,trivial⟩
   ·have hno:¬ PartP bl:=fun h=>hb (h i hil)
    repeat' (first|(apply y80 ok;rfl;conv=>whnf)|(refine z20 (i:=i) rfl hgi ?_;conv=>whnf)|(apply y38;(omega);conv=>whnf)|(apply z8<;>intro _<;>conv=>whnf))
    all_goals try (exfalso;omega)
    all_goals exact z25 rfl (by rw [y78 hno];rfl)
  ·have hp:PartP bl:=fun j hj=>hi2 j hj (by omega)
   repeat' (first|(apply y80 ok;rfl;conv=>whnf)|(apply y38;(omega);conv=>whnf)|(with_reducible apply z14;omega;intro _;conv=>whnf)|(apply z8<;>intro _<;>conv=>whnf))
   all_goals try (exfalso;omega)
   exact z25 rfl (by rw [y77 hp];rfl)
 ·rw [y78 hlen,Bool.and_false]
  repeat' (first|(apply y80 ok;rfl;conv=>whnf)|(apply z34<;>intro _<;>conv=>whnf)|(apply z7 (c1);rfl;rfl;conv=>whnf))
  all_goals first|(exfalso;simp_all;done)|skip
  all_goals exact z25 rfl rfl
def LetP (bl ls:List Int):Prop:=∀ i k:Nat,k < i→i < bl.length→bl.getD i 0=bl.getD k 0→ls.getD i 0=ls.getD k 0
noncomputable instance {bl ls:List Int} : Decidable (LetP bl ls):=Classical.propDecidable _
noncomputable def stB (g:Graph) (l:List Tree) (bl:List Int):Bool:=z148 l && (bvB g bl && (decide (refL g bl=bl) && decide (LetP bl (g.st.map (z43 l)))))
theorem z719 (bl:List Int) (i:Nat) (hi:i < bl.length):∃ f,∃ hf:f≤i,bl[f]=bl[i]∧idxF (fun x=>decide (bl[i]=x)) bl=f:=by
 rcases z328 (p:=fun k=>decide (bl[i]=bl.getD k 0)) (i:=i+1) with h|⟨k,h1,h2,h3⟩
 ·have:=h i (by omega)
  rw [z13 hi] at this;simp at this
 ·have hk:k < bl.length:=by omega
  rw [z13 hk] at h2
  refine ⟨k,by omega,(of_decide_eq_true h2).symm,z188 hk h2 fun j hj hjk=>?_⟩
  have:=h3 j hjk
  rw [z13 hj] at this;exact this
set_option maxHeartbeats 1600000 in
theorem z367 (g:Graph) (hg:g.mx) (l:List Tree) (hl:Lmx l) (bl:List Int) (hb:bl.length≤1048576):CallsA Tryz.prog 31 [.agg g.cs,lst 3 Tree.cs' l,ints bl] [] (.bool (stB g l bl)) []:=by
 have c1:=z230 g hg bl hb
 have c2:=z178 l hl.1 hl.2
 unfold stB
 by_cases hv:bvB g bl=true
 ·have hG:=(z94 g).1 (by unfold bvB at hv;exact (Bool.and_eq_true_iff.1 hv).1)
  have hbl:bl.length=g.st.length:=by
   have:(bl.length:Int)=g.st.length:=by unfold bvB at hv;exact of_decide_eq_true (Bool.and_eq_true_iff.1 (Bool.and_eq_true_iff.1 hv).2).2
   omega
  have hg1:=hG.1
  have c3:=z1051 (z629 g hG bl hbl) (z175 _ _)
  have c4:=z576 (refL g bl) bl (by rw [z175];unfold maxLen;omega) (by unfold maxLen;omega)
  rw [hv] at c1 ⊢
  by_cases h2:z148 l=true
  ·have c5:=z705 g hG.vals hG.1.2 l (y7 h2)
   have hls:(g.st.map (z43 l)).length=bl.length:=by rw [y44,hbl]
   rw [h2] at c2 ⊢
   generalize g.st.map (z43 l)=ls at *
   refine z12 z19 Tryz.func31 rfl rfl 49 Tryz.ntmps31 (by simp) ?_
   by_cases h3:refL g bl=bl
   ·rw [y77 h3] at c4 ⊢
    repeat' (first|(apply y80 ok;rfl;conv=>whnf)|(apply z7 (c1);rfl;rfl;conv=>whnf)|(apply z7 (c2);rfl;rfl;conv=>whnf)|(apply z7 (c3);rfl;rfl;conv=>whnf)|(apply z7 (c4);rfl;rfl;conv=>whnf)|(apply z7 (c5);rfl;rfl;conv=>whnf))
    refine z92 (fun i:Nat=>([(2,ints bl),(7,ints ls),(30,ints bl),(31,.int bl.length),(32,.int i)],[])) (fun i=>i≤bl.length∧∀ j f (hj:j < bl.length) (hf:f≤j),j < i→bl[f]=bl[j]→idxF (fun x=>decide (bl[j]=x)) bl=f→ls.getD f 0=ls.getD j 0) (fun i=>bl.length - i) 0 ⟨by omega,fun j f hj hf h=>by omega⟩ ⟨[],rfl,by decide,rfl,⟨⟨rfl,rfl⟩,⟨rfl,rfl⟩,⟨rfl,rfl⟩,⟨rfl,rfl⟩,⟨rfl,rfl⟩,trivial⟩,trivial⟩ ?_
    rintro i ⟨hi1,hi2⟩
    by_cases hil:i < bl.length
    ·obtain ⟨f,hf,e1,e2⟩:=z719 bl i hil
     have c6:=z365 bl (by unfold maxLen;omega) bl[i]
     rw [e2] at c6
     have g1:(bl.map enI)[i]?=some (enI bl[i]):=by rw [y46,y40 hil];rfl
     have g2:(ls.map enI)[i]?=some (enI ls[i]):=by rw [y46,y40 (by omega)];rfl
     have g3:(ls.map enI)[f]?=some (enI ls[f]):=by rw [y46,y40 (by omega)];rfl
     by_cases he:ls[f]=ls[i]
     ·repeat' (first|(apply y80 ok;rfl;conv=>whnf)|(apply z35;kernel_rfl;conv=>whnf)|(refine z20 (i:=f) rfl g3 ?_;conv=>whnf)|(refine z20 (i:=i) rfl g2 ?_;conv=>whnf)|(refine z20 (i:=i) rfl g1 ?_;conv=>whnf)|(apply y38;(first|omega|(unfold inI;omega));conv=>whnf)|(apply z8<;>intro _<;>conv=>whnf)|(apply z34<;>intro _<;>conv=>whnf)|(apply z7 (c6);rfl;rfl;conv=>whnf))
      all_goals try (exfalso;omega)
      refine z80 (i+1) [] ⟨by omega,fun j f' hj hf' hji h5 h6=>?_⟩ (by omega) ⟨rfl,by decide,rfl,⟨⟨rfl,rfl⟩,⟨rfl,rfl⟩,⟨rfl,rfl⟩,⟨rfl,rfl⟩,⟨rfl,rfl⟩,trivial⟩,trivial⟩
      rcases y65 j i with h7|h7
      ·exact hi2 j f' hj hf' h7 h5 h6
      ·obtain rfl:j=i:=by omega
       have:f'=f:=by rw [e2] at h6;omega
       subst this
       rw [z13 (by omega),z13 (by omega)];exact he
     ·have hno:¬ LetP bl ls:=fun h=>by
       have hne:f≠i:=by rintro rfl;exact he rfl
       have:=h i f (by omega) hil (by rw [z13 hil,z13 (by omega),e1])
       rw [z13 (by omega),z13 (by omega)] at this
       exact he this.symm
      repeat' (first|(apply y80 ok;rfl;conv=>whnf)|(apply z35;kernel_rfl;conv=>whnf)|(refine z20 (i:=f) rfl g3 ?_;conv=>whnf)|(refine z20 (i:=i) rfl g2 ?_;conv=>whnf)|(refine z20 (i:=i) rfl g1 ?_;conv=>whnf)|(apply y38;(omega);conv=>whnf)|(apply z8<;>intro _<;>conv=>whnf)|(apply z34<;>intro _<;>conv=>whnf)|(apply z7 (c6);rfl;rfl;conv=>whnf))
      all_goals try (exfalso;omega)
      exact z25 rfl (by rw [y78 hno];rfl)
    ·have hyes:LetP bl ls:=fun i' k hk hi' he=>by
      rw [z13 hi',z13 (by omega)] at he
      obtain ⟨f,hf,e1,e2⟩:=z719 bl i' hi'
      obtain ⟨f',hf',e1',e2'⟩:=z719 bl k (by omega)
      have hff:f=f':=by
       rw [he] at e2
       rw [e2] at e2';omega
      subst hff
      rw [← hi2 i' f hi' hf (by omega) e1 e2,← hi2 k f (by omega) hf' (by omega) e1' e2']
     repeat' (first|(apply y80 ok;rfl;conv=>whnf)|(apply y38;(omega);conv=>whnf)|(with_reducible apply z14;omega;intro _;conv=>whnf)|(apply z8<;>intro _<;>conv=>whnf))
     all_goals try (exfalso;omega)
     exact z25 rfl (by rw [y77 hyes];rfl)
   ·rw [y78 h3] at c4 ⊢
    repeat' (first|(apply y80 ok;rfl;conv=>whnf)|(apply z7 (c1);rfl;rfl;conv=>whnf)|(apply z7 (c2);rfl;rfl;conv=>whnf)|(apply z7 (c3);rfl;rfl;conv=>whnf)|(apply z7 (c4);rfl;rfl;conv=>whnf))
    all_goals exact z25 rfl rfl
  ·have h2:=(y67 _).mp h2
   rw [h2] at c2 ⊢
   refine z12 z19 Tryz.func31 rfl rfl 49 Tryz.ntmps31 (by simp) ?_
   repeat' (first|(apply y80 ok;rfl;conv=>whnf)|(apply z7 (c1);rfl;rfl;conv=>whnf)|(apply z7 (c2);rfl;rfl;conv=>whnf))
   all_goals exact z25 rfl rfl
 ·have hv:=(y67 _).mp hv
  rw [hv] at c1 ⊢
  rw [Bool.false_and,Bool.and_false]
  refine z12 z19 Tryz.func31 rfl rfl 49 Tryz.ntmps31 (by simp) ?_
  repeat' (first|(apply y80 ok;rfl;conv=>whnf)|(apply z7 (c1);rfl;rfl;conv=>whnf))
  all_goals exact z25 rfl rfl
end Go.Proofs.YtnpclplponhppaaGreat
namespace Go.Proofs.YtnpclplponhppaaGreat
open Go.Gl
attribute [local irreducible] z21 AWP z36 z42 z39 RetS z47
theorem Part.P {bl:List Int} (h:Part bl bl.length):PartP bl:=fun i hi=>by
 have:=h.rng i hi
 rw [z13 hi] at this
 rw [mst_eq];exact this
theorem bisF_bv {g:Graph} {l:List Tree} (hG:GB g):bvB g (bisF g l)=true:=by
 refine z926.2 ⟨hG,?_,z515 g l⟩
 have:=z836 g l
 rw [← z515 g l] at this
 exact Part.P this
theorem z1150 {g:Graph} {bl:List Int} {b:Nat} (hb:b < (fstB bl g.st.length).length):(quoG g bl).st.getD b ⟨[],[]⟩=g.st.getD ((fstB bl g.st.length).getD b 0) ⟨[],[]⟩:=by
 show (quoS g bl g.st.length).getD b _=_
 unfold quoS
 rw [z13 (by simpa using hb),List.getElem_map,z13 hb]
theorem z703 {g:Graph} {l:List Tree} {i:Nat} (h:i < g.st.length):(g.st.map (z43 l)).getD i 0=lsT g l i:=by
 unfold lsT;rw [z13 (by simpa using h),List.getElem_map,z13 h]
theorem z1007 {l:List Int} (h:1≤l.length):1≤(z88 [] l).length:=by
 have hm:l[0]∈z88 [] l:=z170.2 (.inr (y39 h))
 exact List.length_pos_of_mem hm
theorem z1151 {g:Graph} (hG:GB g) {bl:List Int} (hp:Part bl g.st.length):GB (quoG g bl):=by
 have hin:=quoN_in hG.inG hp
 have hl:=z509 bl g.st.length
 have h60:=hG.1
 have e1:(quoG g bl).st.length=(fstB bl g.st.length).length:=z495 _ _ _
 have e2:(quoG g bl).nx.length=(fstB bl g.st.length).length:=z496 _ _ _
 have hpos:0 < (fstB bl g.st.length).length:=by
  have:=hp.lt (show 0 < g.st.length by omega)
  omega
 refine ⟨⟨by omega,by omega⟩,by omega,fun b hb h1 h2=>?_⟩
 have hbm:b < (fstB bl g.st.length).length:=by omega
 have hf:=hp.fst_lt hbm
 have e3:(quoG g bl).nx[b]=z88 [] ((g.nx.getD ((fstB bl g.st.length).getD b 0) []).map fun p:Int=>bl.getD p.toNat 0):=by
  have e:(quoG g bl).nx.getD b []=z88 [] ((g.nx.getD ((fstB bl g.st.length).getD b 0) []).map fun p:Int=>bl.getD p.toNat 0):=by
   show (quoN g.nx g.st.length bl).getD b []=_
   unfold quoN
   rw [z13 (by simpa using hbm),List.getElem_map,z13 hbm]
  rw [← e,z13 h1]
 have hrow:=GB.row hG ((fstB bl g.st.length).getD b 0) (by have:=hG.2.1;omega)
 rw [← z13 (d:=[])] at hrow
 have hnd:(quoG g bl).nx[b].Nodup:=by rw [e3];exact z185 List.nodup_nil
 have hinb:=hin _ (y39 h1)
 have hle:=z187 _ _ hnd hinb
 refine ⟨by rw [e3];exact z1007 (by simp;exact hrow.1),by rw [e1];exact hle,?_,fun i hi hi2=>⟨?_,?_⟩⟩
 ·have e4:(quoG g bl).st[b]=g.st.getD ((fstB bl g.st.length).getD b 0) ⟨[],[]⟩:=by rw [← z1150 hbm,z13 h2]
  rw [e4,z13 hf]
  exact valsB_of (hG.vals _ (y39 hf))
 ·have:=hinb _ (y39 hi)
  have e5:((quoG g bl).st.length:Int)=((fstB bl g.st.length).length:Int):=by omega
  exact ⟨this.1,by have h6:=this.2;rw [e5];exact Int.le_sub_one_of_lt h6⟩
 ·intro hm
  obtain ⟨j,hj,e⟩:=List.mem_iff_getElem.1 hm
  rw [List.getElem_take] at e
  have hj' : j < i:=by simp at hj;omega
  have:=List.pairwise_iff_getElem.1 hnd j i (by omega) hi hj'
  exact this e
theorem quoG_d {g:Graph} (hg:g.d) (hG:GB g) {bl:List Int} (hp:Part bl g.st.length):(quoG g bl).d:=by
 have hQ:=z1151 hG hp
 have h1:=hQ.1.2
 have h2:=hQ.2.1
 refine ⟨by omega,by omega,fun s hs=>?_,fun r hr=>?_⟩
 ·have hs:s∈quoS g bl g.st.length:=hs
  unfold quoS at hs
  obtain ⟨i,hi,rfl⟩:=List.mem_map.1 hs
  have:=z910 hi
  rw [z13 this]
  exact hg.el _ (y39 _)
 ·obtain ⟨i,hi,rfl⟩:=List.mem_iff_getElem.1 hr
  have:=(GB.row hQ i hi).2.1
  omega
theorem z371 (bs:List Int) (hb:CodeOk bs):∃ (g:Graph) (l:List Tree),(g.d∧Lab.d l)∧CallsA Tryz.prog 34 [lst 1 enU bs] [] (.tup [.agg g.cs,lst 3 Tree.cs' l]) []:=by
 obtain ⟨g,l,h,c⟩:=z420 bs hb
 refine ⟨g,l,h,?_⟩
 refine z10 z19 Tryz.func34 rfl rfl 8 Tryz.ntmps34 (by simp) ?_
 repeat' ((first|(apply y80 ok;rfl)|(apply z7 (c);rfl;rfl))<;>conv=>whnf)
 all_goals (refine rsD [] [] rfl ?_;(repeat' first|exact y82 _|constructor))
inductive TailB (bs:List Int) (n:Nat) (B0:List Int) (q:Int):List Int→Int→Prop
 |c0 (h1:CallsA Tryz.prog 191 [.ptr 0 none 0,.int 20] [rdO bs q] (.int 0) [rdO bs (q+1)]):TailB bs n B0 q (B0++[0]) (q+1)
 |c1 (j : Nat) (x : Int) (hj : j < B0.length) (h1 : CallsA Tryz.prog 191 [.ptr 0 none 0, .int 20] [rdO bs q] (.int 1) [rdO bs (q + 1)])
   (h2:CallsA Tryz.prog 191 [.ptr 0 none 0,.int B0.length] [rdO bs (q+1)] (.int j) [rdO bs (q+1+1)])
   (h3:CallsA Tryz.prog 194 [.ptr 0 none 0,.sref 1 0 4] [rdO bs (q+1+1),.cells 1 ([-1,0,60,1].map enI)] (.int x) [rdO bs (q+1+1+1),.cells 1 ([-1,0,60,1].map enI)]):TailB bs n B0 q (B0.set j x) (q+1+1+1)
 |c2 (hl:B0.length=0) (h1:CallsA Tryz.prog 191 [.ptr 0 none 0,.int 20] [rdO bs q] (.int 1) [rdO bs (q+1)]):TailB bs n B0 q B0 (q+1)
 |c3 (h1:CallsA Tryz.prog 191 [.ptr 0 none 0,.int 20] [rdO bs q] (.int 2) [rdO bs (q+1)]):TailB bs n B0 q (z233 n) (q+1)
 |c4 (v:Int) (v0:v≠0) (v1:v≠1) (v2:v≠2) (h1:CallsA Tryz.prog 191 [.ptr 0 none 0,.int 20] [rdO bs q] (.int v) [rdO bs (q+1)]):TailB bs n B0 q B0 (q+1)
theorem tailB_ex (bs:List Int) (hb:BytesOk bs) (n:Nat) (hn:n≤100) (B0:List Int) (hB:B0.length≤100) (q:Int) (h0:0≤q) (h1:q≤999999000):∃ B p',TailB bs n B0 q B p'∧B.length≤101∧q≤p'∧p'≤q+3:=by
 obtain ⟨v,⟨v0,v1⟩,c1⟩:=z72 bs hb q 20 (by omega) (by omega) (by omega)
 by_cases e0:v=0
 ·subst e0;exact ⟨_,_,.c0 c1,by simp;omega,by omega,by omega⟩
 by_cases e1:v=1
 ·subst e1
  by_cases hl:B0.length=0
  ·exact ⟨_,_,.c2 hl c1,by omega,by omega,by omega⟩
  ·obtain ⟨j,⟨j0,j1⟩,c2⟩:=z72 bs hb (q+1) B0.length (by omega) (by omega) (by omega)
   obtain ⟨x,_,c3⟩:=z113 bs hb (q+1+1) (by omega) (by omega) [-1,0,60,1] (by decide) (by decide)
   obtain ⟨j,rfl⟩:∃ k:Nat,j=k:=⟨j.toNat,by omega⟩
   exact ⟨_,_,.c1 j x (by have:=j1 (by omega);omega) c1 c2 c3,by simp;omega,by omega,by omega⟩
 by_cases e2:v=2
 ·subst e2;exact ⟨_,_,.c3 c1,by rw [z262];omega,by omega,by omega⟩
 ·exact ⟨_,_,.c4 v e0 e1 e2 c1,by omega,by omega,by omega⟩
structure KeysB (bs:List Int) (n:Nat) (q:Int) (K:List Int) (pf:Nat→Int):Prop where
 len:K.length=n
 p0:pf 0=q
 st:∀ k (hk:k < K.length),CallsA Tryz.prog 191 [.ptr 0 none 0,.int 3] [rdO bs (pf k)] (.int K[k]) [rdO bs (pf (k+1))]
 bd:q≤pf n∧pf n≤q+n
theorem z974 (bs:List Int) (hb:BytesOk bs) (n:Nat) (hn:n≤100) (q:Int) (h0:0≤q) (h1:q≤999990000):∃ K pf,KeysB bs n q K pf:=by
 obtain ⟨K,pf,e1,e2,e3,e4⟩:=z391 (fun _ p a p'=>CallsA Tryz.prog 191 [.ptr 0 none 0,.int 3] [rdO bs p] (.int a) [rdO bs p']) q 1 n (fun k p hk h2 h3=>by
  obtain ⟨v,_,c⟩:=z72 bs hb p 3 (by omega) (by omega) (by omega)
  exact ⟨v,p+1,c,by omega,by omega⟩)
 have:=e4 n (y47 _)
 exact ⟨K,pf,e1,e2,e3,by omega,by omega⟩
def keyL (K:List Int):List (List Int):=K.map fun a=>[a]
theorem z808 {K:List Int} {k:Nat} (h:k < K.length):keyL (K.take (k+1))=keyL (K.take k)++[[K[k]]]:=by
 unfold keyL;rw [y45 h,y59];rfl
inductive HeadB (bs:List Int) (g:Graph) (l:List Tree) (p:Int):List Int→Int→Prop
 |c0 (v:Int) (hv:v≠0) (h:glB g l=true) (p1:CallsA Tryz.prog 191 [.ptr 0 none 0,.int 3] [rdO bs p] (.int v) [rdO bs (p+1)]):HeadB bs g l p (bisR g l) (p+1)
 |c1 (h:glB g l=true) (p1:CallsA Tryz.prog 191 [.ptr 0 none 0,.int 3] [rdO bs p] (.int 0) [rdO bs (p+1)]) (K:List Int) (pf:Nat→Int) (hK:KeysB bs g.st.length (p+1) K pf):HeadB bs g l p (numF (z359 (keyL K)) (keyL K).length).1 (pf g.st.length)
 |c2 (h:glB g l=false) (K:List Int) (pf:Nat→Int) (hK:KeysB bs g.st.length p K pf):HeadB bs g l p (numF (z359 (keyL K)) (keyL K).length).1 (pf g.st.length)
theorem headB_ex (bs:List Int) (hb:BytesOk bs) (g:Graph) (hg:g.d) (l:List Tree) (p:Int) (h0:0≤p) (h1:p≤999980000):∃ B q,HeadB bs g l p B q∧B.length≤100∧p≤q∧q≤p+101:=by
 have hst:=hg.st
 by_cases h:glB g l=true
 ·obtain ⟨v,_,c1⟩:=z72 bs hb p 3 (by omega) (by omega) (by omega)
  by_cases hv:v=0
  ·subst hv
   obtain ⟨K,pf,hK⟩:=z974 bs hb g.st.length (by omega) (p+1) (by omega) (by omega)
   have:=hK.bd
   have hl:=hK.len
   exact ⟨_,_,.c1 h c1 K pf hK,by rw [z77];unfold keyL;simp;omega,by omega,by omega⟩
  ·exact ⟨_,_,.c0 v hv h c1,by have:=z1244 g l;omega,by omega,by omega⟩
 ·obtain ⟨K,pf,hK⟩:=z974 bs hb g.st.length (by omega) p (by omega) (by omega)
  have:=hK.bd
  have hl:=hK.len
  exact ⟨_,_,.c2 ((y67 _).mp h) K pf hK,by rw [z77];unfold keyL;simp;omega,by omega,by omega⟩
set_option maxHeartbeats 6400000 in
theorem z807 (bs:List Int) (hb:BytesOk bs) (p:Int) (h0:0≤p) (h1:p≤999980000) (g:Graph) (hg:g.d) (l:List Tree) (hl:Lab.d l):∃ (B:List Int) (p' : Int),(B.length≤101∧p≤p'∧p'≤p+200)∧CallsA Tryz.prog 97 [.ptr 0 none 0,.agg g.cs,lst 3 Tree.cs' l] [rdO bs p] (ints B) [rdO bs p']:=by
 obtain ⟨B0,q,hH,hB0,q0,q1⟩:=headB_ex bs hb g hg l p h0 h1
 obtain ⟨B,p',hT,hB,p0,p1'⟩:=tailB_ex bs hb g.st.length hg.st B0 hB0 q (by omega) (by omega)
 refine ⟨B,p',⟨hB,by omega,by omega⟩,?_⟩
 have hst:=hg.st
 have cB:=z210 g hg.mx l hl.mx
 have cC:=z639 g.st.length (by omega)
 rcases hH with ⟨v,hv,h,p1⟩|⟨h,p1,K,pf,hK⟩|⟨h,K,pf,hK⟩
 ·rw [h] at cB
  generalize bisR g l=B0 at *
  refine z10 z19 Tryz.func97 rfl rfl 73 Tryz.ntmps97 (by simp) ?_
  repeat' ((first|(apply y80 ok;rfl)|((apply z8)<;>intro _)|(apply z7 (cB);rfl;rfl)|(apply z30 [0] [] p1;rfl;rfl;rfl))<;>conv=>whnf)
  all_goals try (exfalso;omega)
  rcases hT with ⟨a1⟩|⟨j,x,hj,a1,a2,a3⟩|⟨hl,a1⟩|⟨a1⟩|⟨v',v0,v1,v2,a1⟩
  ·repeat' ((first|(apply y80 ok;rfl)|(apply y38;first|(dsimp only;omega)|((try dsimp only);simp only [y44,y43,y42,y41,y53,y54];omega)|exact z109 (fun _=>rfl)|exact ⟨rfl,z24 rfl z31⟩)|(apply z30 [0] [] a1;rfl;rfl;rfl))<;>conv=>whnf)
   all_goals (refine rsD [0] [5] rfl ?_;(repeat' first|exact y82 _|apply y83|(refine z95 ?_ ?_;(focus (omega)))|((apply z49 rfl rfl rfl);(focus ((repeat (first|exact z38 (fun _=>rfl) _|apply z127|apply z173|rfl));done));(focus (((simp;done));done)))|(refine z85 ?_ ?_;(focus (simp;done)))|constructor))
  ·have gl:(B0.set j x).length=B0.length:=by simp
   have gx:((([]:List (List AC)).take 0)++B0.map enI)[j]?=some (enI (B0.getD j 0)):=by rw [List.take_nil,List.nil_append,y46,y40 hj,z13 hj];rfl
   have gs:((([]:List (List AC)).take 0)++B0.map enI).set j (enI x)=(B0.set j x).map enI:=by rw [List.take_nil,List.nil_append,List.map_set]
   rw [show B0.length=0+B0.length by omega] at a2
   repeat' ((first|(apply y80 ok;rfl)|(refine z20 (i:=j) rfl gx ?_)|(apply y38;first|omega|(dsimp only;omega)|exact z109 (fun _=>rfl))|((apply z8)<;>intro _)|((first|(apply z11 [0] [] a1;rfl;rfl)|(apply z11 [0] [] a2;rfl;rfl)|(apply z11 [0,4] [] a3;rfl;rfl));rfl;(focus ((repeat' first|exact z18|apply z15)<;>first|exact z50 rfl rfl|(refine z23 ?_;((exact z6 fun _=>rfl)))))))<;>conv=>whnf)
   all_goals try (exfalso;omega)
   all_goals (refine rsD [0] [3] rfl ?_;(repeat' first|exact y82 _|apply y83|refine z300 (by omega) ?_|((apply z49 rfl rfl rfl);(focus ((repeat (first|exact z38 (fun _=>rfl) _|apply z378));done));(focus (((simp;done));done)))|(refine z85 ?_ ?_;(focus (simp;done)))|constructor))
  ·repeat' ((first|(apply y80 ok;rfl)|(apply y38;omega)|((apply z8)<;>intro _)|(apply z30 [0] [] a1;rfl;rfl;rfl))<;>conv=>whnf)
   all_goals try (exfalso;omega)
   all_goals (refine rsD [0] [] rfl ?_;(repeat' first|exact y82 _|apply y83|constructor))
  ·repeat' ((first|(apply y80 ok;rfl)|(apply z7 (cC);rfl;rfl)|(apply z30 [0] [] a1;rfl;rfl;rfl))<;>conv=>whnf)
   all_goals (refine rsD [0] [] rfl ?_;(repeat' first|exact y82 _|apply y83|constructor))
  ·repeat' ((first|(apply y80 ok;rfl)|(apply y38;omega)|((apply z8)<;>intro _)|(apply z30 [0] [] a1;rfl;rfl;rfl))<;>conv=>whnf)
   all_goals try (exfalso;omega)
   all_goals (refine rsD [0] [] rfl ?_;(repeat' first|exact y82 _|apply y83|constructor))
 ·rw [h] at cB
  have e0:=hK.p0
  refine z10 z19 Tryz.func97 rfl rfl 73 Tryz.ntmps97 (by simp) ?_
  repeat' ((first|(apply y80 ok;rfl)|(apply z7 (cB);rfl;rfl)|(apply z30 [0] [] p1;rfl;rfl;rfl))<;>conv=>whnf)
  rw [← e0]
  have kl:=hK.len
  have cN:=z1051 (z199 (keyL K) (by unfold keyL;simp;omega) (fun r hr=>by unfold keyL at hr;obtain ⟨a,_,rfl⟩:=List.mem_map.1 hr;unfold maxLen;simp)) (z77 _ _)
  have hkl:∀ k,k≤K.length→(keyL (K.take k)).length=k:=fun k hk=>by unfold keyL;simp;omega
  generalize (numF (z359 (keyL K)) (keyL K).length).1=B0 at *
  refine z84 (fun x:Nat×List (List Int)=>([(0,.ptr 0 none 0),(4,.ptr 1 none 0),(9,.sref 2 0 x.2.length),(10,.int x.1)],[rdO bs (pf x.1),.cells 2 [g.cs],.cells 1 (x.2.map encL)])) (fun x=>x.1≤g.st.length∧keyL (K.take x.1)=x.2) (fun x=>g.st.length - x.1) (0,[]) ⟨y48 _,rfl⟩ (by refine swR [0,1,2] [] rfl rfl ?_;(repeat' first|exact y82 _|apply y83|refine z16 rfl (z33) ?_|constructor)) ?_
  rintro ⟨k,L⟩ ⟨hk,hL⟩
  dsimp only at hk hL ⊢
  have hk2:=hkl k (by omega)
  rw [hL] at hk2
  by_cases hkn:k < g.st.length
  ·have hkK:k < K.length:=by omega
   have cp:=hK.st k hkK
   have kt:=z808 hkK
   rw [hL] at kt
   generalize K[k]=a at cp kt
   repeat' ((first|(apply y80 ok;rfl)|(apply y38;first|(unfold inI;omega)|((try dsimp only);simp only [y44,y43,y42,y41,y53,y54];omega)|exact ⟨rfl,z24 rfl z31⟩)|((apply z8)<;>intro _)|(apply z30 [0] [] cp;rfl;rfl;rfl))<;>conv=>whnf)
   all_goals try (exfalso;omega)
   all_goals refine z45 (k+1,L++[[a]]) ⟨by show k+1≤_;omega,kt⟩ (by show g.st.length - (k+1) < g.st.length - k;omega) (by refine swR [0,1,5] [3] rfl rfl ?_;(repeat' first|exact y82 _|(refine z71 ?_;((simp;done)))|apply y83|((refine z48 rfl ?_ ?_);(focus ((repeat' (first|exact z6 (fun _=>rfl)|apply z32));done)))|(refine z95 ?_ ?_;(focus (omega)))|constructor)<;>(trace_state))
  obtain rfl:k=g.st.length:=by omega
  rw [← kl,y51] at hL
  subst hL
  repeat' ((first|((fail_if_success apply z116 8);(fail_if_success apply z101 8);apply y80 ok;rfl)|((apply z8)<;>intro _))<;>conv=>whnf)
  all_goals try (exfalso;omega)
  refine y81 (SealW.reach (env:=[(0,.ptr 0 none 0),(4,.ptr 1 none 0),(9,lst 1 encL (keyL K))]) (objs:=[rdO bs (pf g.st.length),.cells 2 [g.cs]]) [0,1] [2] rfl rfl rfl rfl ?_ ?_) ?_
  ·(repeat' first|exact y82 _|((apply z49 rfl rfl rfl);(focus ((repeat ((exact z38 (fun _=>rfl) _)));done));(focus (((simp;done));done)))|constructor)
  ·(repeat' first|exact y82 _|apply y83|constructor)
  conv=>whnf
  repeat' ((first|(apply y80 ok;rfl)|(apply z7 (cN);rfl;rfl))<;>conv=>whnf)
  rcases hT with ⟨a1⟩|⟨j,x,hj,a1,a2,a3⟩|⟨hl,a1⟩|⟨a1⟩|⟨v',v0,v1,v2,a1⟩
  ·repeat' ((first|(apply y80 ok;rfl)|(apply y38;first|(dsimp only;omega)|((try dsimp only);simp only [y44,y43,y42,y41,y53,y54];omega)|exact z109 (fun _=>rfl)|exact ⟨rfl,z24 rfl z31⟩)|(apply z30 [0] [] a1;rfl;rfl;rfl))<;>conv=>whnf)
   all_goals (refine rsD [0] [5] rfl ?_;(repeat' first|exact y82 _|apply y83|(refine z95 ?_ ?_;(focus (omega)))|((apply z49 rfl rfl rfl);(focus ((repeat (first|exact z38 (fun _=>rfl) _|apply z127|apply z173|rfl));done));(focus (((simp;done));done)))|(refine z85 ?_ ?_;(focus (simp;done)))|constructor))
  ·have gl:(B0.set j x).length=B0.length:=by simp
   have gx:((([]:List (List AC)).take 0)++B0.map enI)[j]?=some (enI (B0.getD j 0)):=by rw [List.take_nil,List.nil_append,y46,y40 hj,z13 hj];rfl
   have gs:((([]:List (List AC)).take 0)++B0.map enI).set j (enI x)=(B0.set j x).map enI:=by rw [List.take_nil,List.nil_append,List.map_set]
   rw [show B0.length=0+B0.length by omega] at a2
   repeat' ((first|(apply y80 ok;rfl)|(refine z20 (i:=j) rfl gx ?_)|(apply y38;first|omega|(dsimp only;omega)|exact z109 (fun _=>rfl))|((apply z8)<;>intro _)|((first|(apply z11 [0] [] a1;rfl;rfl)|(apply z11 [0] [] a2;rfl;rfl)|(apply z11 [0,4] [] a3;rfl;rfl));rfl;(focus ((repeat' first|exact z18|apply z15)<;>first|exact z50 rfl rfl|(refine z23 ?_;((exact z6 fun _=>rfl)))))))<;>conv=>whnf)
   all_goals try (exfalso;omega)
   all_goals (refine rsD [0] [3] rfl ?_;(repeat' first|exact y82 _|apply y83|refine z300 (by omega) ?_|((apply z49 rfl rfl rfl);(focus ((repeat (first|exact z38 (fun _=>rfl) _|apply z378));done));(focus (((simp;done));done)))|(refine z85 ?_ ?_;(focus (simp;done)))|constructor))
  ·repeat' ((first|(apply y80 ok;rfl)|(apply y38;omega)|((apply z8)<;>intro _)|(apply z30 [0] [] a1;rfl;rfl;rfl))<;>conv=>whnf)
   all_goals try (exfalso;omega)
   all_goals (refine rsD [0] [] rfl ?_;(repeat' first|exact y82 _|apply y83|constructor))
  ·repeat' ((first|(apply y80 ok;rfl)|(apply z7 (cC);rfl;rfl)|(apply z30 [0] [] a1;rfl;rfl;rfl))<;>conv=>whnf)
   all_goals (refine rsD [0] [] rfl ?_;(repeat' first|exact y82 _|apply y83|constructor))
  ·repeat' ((first|(apply y80 ok;rfl)|(apply y38;omega)|((apply z8)<;>intro _)|(apply z30 [0] [] a1;rfl;rfl;rfl))<;>conv=>whnf)
   all_goals try (exfalso;omega)
   all_goals (refine rsD [0] [] rfl ?_;(repeat' first|exact y82 _|apply y83|constructor))
 ·rw [h] at cB
  have e0:=hK.p0
  rw [← e0]
  refine z10 z19 Tryz.func97 rfl rfl 73 Tryz.ntmps97 (by simp) ?_
  repeat' ((first|(apply y80 ok;rfl)|(apply z7 (cB);rfl;rfl))<;>conv=>whnf)
  have kl:=hK.len
  have cN:=z1051 (z199 (keyL K) (by unfold keyL;simp;omega) (fun r hr=>by unfold keyL at hr;obtain ⟨a,_,rfl⟩:=List.mem_map.1 hr;unfold maxLen;simp)) (z77 _ _)
  have hkl:∀ k,k≤K.length→(keyL (K.take k)).length=k:=fun k hk=>by unfold keyL;simp;omega
  generalize (numF (z359 (keyL K)) (keyL K).length).1=B0 at *
  refine z84 (fun x:Nat×List (List Int)=>([(0,.ptr 0 none 0),(4,.ptr 1 none 0),(9,.sref 2 0 x.2.length),(10,.int x.1)],[rdO bs (pf x.1),.cells 2 [g.cs],.cells 1 (x.2.map encL)])) (fun x=>x.1≤g.st.length∧keyL (K.take x.1)=x.2) (fun x=>g.st.length - x.1) (0,[]) ⟨y48 _,rfl⟩ (by refine swR [0,1,2] [] rfl rfl ?_;(repeat' first|exact y82 _|apply y83|refine z16 rfl (z33) ?_|constructor)) ?_
  rintro ⟨k,L⟩ ⟨hk,hL⟩
  dsimp only at hk hL ⊢
  have hk2:=hkl k (by omega)
  rw [hL] at hk2
  by_cases hkn:k < g.st.length
  ·have hkK:k < K.length:=by omega
   have cp:=hK.st k hkK
   have kt:=z808 hkK
   rw [hL] at kt
   generalize K[k]=a at cp kt
   repeat' ((first|(apply y80 ok;rfl)|(apply y38;first|(unfold inI;omega)|((try dsimp only);simp only [y44,y43,y42,y41,y53,y54];omega)|exact ⟨rfl,z24 rfl z31⟩)|((apply z8)<;>intro _)|(apply z30 [0] [] cp;rfl;rfl;rfl))<;>conv=>whnf)
   all_goals try (exfalso;omega)
   all_goals refine z45 (k+1,L++[[a]]) ⟨by show k+1≤_;omega,kt⟩ (by show g.st.length - (k+1) < g.st.length - k;omega) (by refine swR [0,1,5] [3] rfl rfl ?_;(repeat' first|exact y82 _|(refine z71 ?_;((simp;done)))|apply y83|((refine z48 rfl ?_ ?_);(focus ((repeat' (first|exact z6 (fun _=>rfl)|apply z32));done)))|(refine z95 ?_ ?_;(focus (omega)))|constructor)<;>(trace_state))
  obtain rfl:k=g.st.length:=by omega
  rw [← kl,y51] at hL
  subst hL
  repeat' ((first|((fail_if_success apply z116 8);(fail_if_success apply z101 8);apply y80 ok;rfl)|((apply z8)<;>intro _))<;>conv=>whnf)
  all_goals try (exfalso;omega)
  refine y81 (SealW.reach (env:=[(0,.ptr 0 none 0),(4,.ptr 1 none 0),(9,lst 1 encL (keyL K))]) (objs:=[rdO bs (pf g.st.length),.cells 2 [g.cs]]) [0,1] [2] rfl rfl rfl rfl ?_ ?_) ?_
  ·(repeat' first|exact y82 _|((apply z49 rfl rfl rfl);(focus ((repeat ((exact z38 (fun _=>rfl) _)));done));(focus (((simp;done));done)))|constructor)
  ·(repeat' first|exact y82 _|apply y83|constructor)
  conv=>whnf
  repeat' ((first|(apply y80 ok;rfl)|(apply z7 (cN);rfl;rfl))<;>conv=>whnf)
  rcases hT with ⟨a1⟩|⟨j,x,hj,a1,a2,a3⟩|⟨hl,a1⟩|⟨a1⟩|⟨v',v0,v1,v2,a1⟩
  ·repeat' ((first|(apply y80 ok;rfl)|(apply y38;first|(dsimp only;omega)|((try dsimp only);simp only [y44,y43,y42,y41,y53,y54];omega)|exact z109 (fun _=>rfl)|exact ⟨rfl,z24 rfl z31⟩)|(apply z30 [0] [] a1;rfl;rfl;rfl))<;>conv=>whnf)
   all_goals (refine rsD [0] [5] rfl ?_;(repeat' first|exact y82 _|apply y83|(refine z95 ?_ ?_;(focus (omega)))|((apply z49 rfl rfl rfl);(focus ((repeat (first|exact z38 (fun _=>rfl) _|apply z127|apply z173|rfl));done));(focus (((simp;done));done)))|(refine z85 ?_ ?_;(focus (simp;done)))|constructor))
  ·have gl:(B0.set j x).length=B0.length:=by simp
   have gx:((([]:List (List AC)).take 0)++B0.map enI)[j]?=some (enI (B0.getD j 0)):=by rw [List.take_nil,List.nil_append,y46,y40 hj,z13 hj];rfl
   have gs:((([]:List (List AC)).take 0)++B0.map enI).set j (enI x)=(B0.set j x).map enI:=by rw [List.take_nil,List.nil_append,List.map_set]
   rw [show B0.length=0+B0.length by omega] at a2
   repeat' ((first|(apply y80 ok;rfl)|(refine z20 (i:=j) rfl gx ?_)|(apply y38;first|omega|(dsimp only;omega)|exact z109 (fun _=>rfl))|((apply z8)<;>intro _)|((first|(apply z11 [0] [] a1;rfl;rfl)|(apply z11 [0] [] a2;rfl;rfl)|(apply z11 [0,4] [] a3;rfl;rfl));rfl;(focus ((repeat' first|exact z18|apply z15)<;>first|exact z50 rfl rfl|(refine z23 ?_;((exact z6 fun _=>rfl)))))))<;>conv=>whnf)
   all_goals try (exfalso;omega)
   all_goals (refine rsD [0] [3] rfl ?_;(repeat' first|exact y82 _|apply y83|refine z300 (by omega) ?_|((apply z49 rfl rfl rfl);(focus ((repeat (first|exact z38 (fun _=>rfl) _|apply z378));done));(focus (((simp;done));done)))|(refine z85 ?_ ?_;(focus (simp;done)))|constructor))
  ·repeat' ((first|(apply y80 ok;rfl)|(apply y38;omega)|((apply z8)<;>intro _)|(apply z30 [0] [] a1;rfl;rfl;rfl))<;>conv=>whnf)
   all_goals try (exfalso;omega)
   all_goals (refine rsD [0] [] rfl ?_;(repeat' first|exact y82 _|apply y83|constructor))
  ·repeat' ((first|(apply y80 ok;rfl)|(apply z7 (cC);rfl;rfl)|(apply z30 [0] [] a1;rfl;rfl;rfl))<;>conv=>whnf)
   all_goals (refine rsD [0] [] rfl ?_;(repeat' first|exact y82 _|apply y83|constructor))
  ·repeat' ((first|(apply y80 ok;rfl)|(apply y38;omega)|((apply z8)<;>intro _)|(apply z30 [0] [] a1;rfl;rfl;rfl))<;>conv=>whnf)
   all_goals try (exfalso;omega)
   all_goals (refine rsD [0] [] rfl ?_;(repeat' first|exact y82 _|apply y83|constructor))
end Go.Proofs.YtnpclplponhppaaGreat
namespace Go.Proofs.YtnpclplponhppaaGreat
open Go.Gl
attribute [local irreducible] z21 AWP z36 z42 z39
set_option maxHeartbeats 1600000 in
theorem z357 (g:Graph) (hg:g.mx) (l:List Tree) (hl:Lmx l) (bl:List Int) (hb:bl.length≤1048576) (hst:g.st.length≤1048576):CallsA Tryz.prog 32 [.agg g.cs,lst 3 Tree.cs' l,ints bl] [] (.bool (stB g l bl)) []:=by
 have c0:=z246 g hg l hl
 have c1:=z388 g hg bl hb hst
 unfold stB
 by_cases hv:bvB g bl=true
 ·have h0:z217 g=true:=by unfold bvB at hv;exact (Bool.and_eq_true_iff.1 hv).1
  have hG:=(z94 g).1 h0
  have hbl:bl.length=g.st.length:=by
   have:(bl.length:Int)=g.st.length:=by unfold bvB at hv;exact of_decide_eq_true (Bool.and_eq_true_iff.1 (Bool.and_eq_true_iff.1 hv).2).2
   omega
  have hg1:=hG.1
  have c3:=z1051 (z410 g hG bl hbl) (z175 _ _)
  have c4:=z307 (refL g bl) bl (by rw [z175];unfold maxLen;omega) (by unfold maxLen;omega)
  rw [hv] at c1 ⊢
  have hgl:glB g l=z148 l:=by unfold glB;rw [h0];rfl
  rw [hgl] at c0
  by_cases h2:z148 l=true
  ·have hls:(g.st.map (z43 l)).length=bl.length:=by rw [y44,hbl]
   rw [if_pos h2,h2] at c0
   rw [h2]
   generalize g.st.map (z43 l)=ls at *
   refine z12 z19 Tryz.func32 rfl rfl 64 Tryz.ntmps32 (by simp) ?_
   by_cases h3:refL g bl=bl
   ·rw [y77 h3] at c4 ⊢
    repeat' (first|(apply y80 ok;rfl;conv=>whnf)|(apply z7 (c0);rfl;rfl;conv=>whnf)|(apply z7 (c1);rfl;rfl;conv=>whnf)|(apply z7 (c3);rfl;rfl;conv=>whnf)|(apply z7 (c4);rfl;rfl;conv=>whnf))
    refine z92 (fun i:Nat=>([(2,ints bl),(7,ints ls),(9,.int i)],[])) (fun i=>i≤bl.length∧∀ j k:Nat,k < j→j < i→bl.getD j 0=bl.getD k 0→ls.getD j 0=ls.getD k 0) (fun i=>bl.length - i) 0 ⟨by omega,fun j k hk hj=>by omega⟩ ⟨[],rfl,by decide,rfl,⟨⟨rfl,rfl⟩,⟨rfl,rfl⟩,⟨rfl,rfl⟩,trivial⟩,trivial⟩ ?_
    rintro i ⟨hi1,hi2⟩
    by_cases hil:i < bl.length
    ·repeat' (first|(apply y80 ok;rfl;conv=>whnf)|(apply z8<;>intro _<;>conv=>whnf))
     all_goals try (exfalso;omega)
     refine z92 (fun k:Nat=>([(2,ints bl),(7,ints ls),(9,.int i),(10,.int k)],[])) (fun k=>k≤i∧∀ k',k' < k→bl.getD i 0=bl.getD k' 0→ls.getD i 0=ls.getD k' 0) (fun k=>i - k) 0 ⟨by omega,fun k' hk=>by omega⟩ ⟨[],rfl,by decide,rfl,⟨⟨rfl,rfl⟩,⟨rfl,rfl⟩,⟨rfl,rfl⟩,⟨rfl,rfl⟩,trivial⟩,trivial⟩ ?_
     rintro k ⟨hk1,hk2⟩
     by_cases hki:k < i
     ·have g1:(bl.map enI)[i]?=some (enI bl[i]):=by rw [y46,y40 hil];rfl
      have g2:(bl.map enI)[k]?=some (enI bl[k]):=by rw [y46,y40 (by omega)];rfl
      have g3:(ls.map enI)[i]?=some (enI ls[i]):=by rw [y46,y40 (by omega)];rfl
      have g4:(ls.map enI)[k]?=some (enI ls[k]):=by rw [y46,y40 (by omega)];rfl
      have e1:bl.getD i 0=bl[i]:=z13 hil
      have e2:bl.getD k 0=bl[k]:=z13 (by omega)
      have e3:ls.getD i 0=ls[i]:=z13 (by omega)
      have e4:ls.getD k 0=ls[k]:=z13 (by omega)
      by_cases hbad:bl[i]=bl[k]∧ls[i]≠ls[k]
      ·have hno:¬ LetP bl ls:=fun h=>hbad.2 (by rw [← e3,← e4];exact h i k hki hil (by rw [e1,e2];exact hbad.1))
       repeat' (first|(apply y80 ok;rfl;conv=>whnf)|(apply z35;kernel_rfl;conv=>whnf)|(refine z20 (i:=k) rfl g4 ?_;conv=>whnf)|(refine z20 (i:=i) rfl g3 ?_;conv=>whnf)|(refine z20 (i:=k) rfl g2 ?_;conv=>whnf)|(refine z20 (i:=i) rfl g1 ?_;conv=>whnf)|(apply y38;(omega);conv=>whnf)|(apply z8<;>intro _<;>conv=>whnf)|(apply z34<;>intro _<;>conv=>whnf))
       all_goals try (exfalso;omega)
       exact z25 rfl (by rw [y78 hno];rfl)
      ·have hok:∀ k',k' < k+1→bl.getD i 0=bl.getD k' 0→ls.getD i 0=ls.getD k' 0:=fun k' hk' he=>by
        rcases y65 k' k with h7|h7
        ·exact hk2 k' h7 he
        ·obtain rfl:k'=k:=by omega
         rw [e3,e4]
         rw [e1,e2] at he
         exact Decidable.byContradiction fun h=>hbad ⟨he,h⟩
       repeat' (first|(apply y80 ok;rfl;conv=>whnf)|(apply z35;kernel_rfl;conv=>whnf)|(refine z20 (i:=k) rfl g4 ?_;conv=>whnf)|(refine z20 (i:=i) rfl g3 ?_;conv=>whnf)|(refine z20 (i:=k) rfl g2 ?_;conv=>whnf)|(refine z20 (i:=i) rfl g1 ?_;conv=>whnf)|(apply y38;(first|omega|(unfold inI;omega));conv=>whnf)|(apply z8<;>intro _<;>conv=>whnf)|(apply z34<;>intro _<;>conv=>whnf))
       all_goals try (exfalso;omega)
       all_goals exact z80 (k+1) [] ⟨by omega,hok⟩ (by omega) ⟨rfl,by decide,rfl,⟨⟨rfl,rfl⟩,⟨rfl,rfl⟩,⟨rfl,rfl⟩,⟨rfl,rfl⟩,trivial⟩,trivial⟩
     ·repeat' (first|(apply y80 ok;rfl;conv=>whnf)|(apply z35;kernel_rfl;conv=>whnf)|(apply y38;(first|omega|(unfold inI;omega));conv=>whnf)|(with_reducible apply z14;omega;intro _;conv=>whnf)|(apply z8<;>intro _<;>conv=>whnf)|(apply z34<;>intro _<;>conv=>whnf))
      all_goals try (exfalso;omega)
      refine z80 (i+1) [] ⟨by omega,fun j k' hk' hj he=>?_⟩ (by omega) ⟨rfl,by decide,rfl,⟨⟨rfl,rfl⟩,⟨rfl,rfl⟩,⟨rfl,rfl⟩,trivial⟩,trivial⟩
      rcases y65 j i with h7|h7
      ·exact hi2 j k' hk' h7 he
      ·obtain rfl:j=i:=by omega
       exact hk2 k' (by omega) he
    ·have hyes:LetP bl ls:=fun i' k hk hi' he=>hi2 i' k hk (by omega) he
     repeat' (first|(apply y80 ok;rfl;conv=>whnf)|(apply z8<;>intro _<;>conv=>whnf))
     all_goals try (exfalso;omega)
     exact z25 rfl (by rw [y77 hyes];rfl)
   ·rw [y78 h3] at c4 ⊢
    repeat' (first|(apply y80 ok;rfl;conv=>whnf)|(apply z7 (c0);rfl;rfl;conv=>whnf)|(apply z7 (c1);rfl;rfl;conv=>whnf)|(apply z7 (c3);rfl;rfl;conv=>whnf)|(apply z7 (c4);rfl;rfl;conv=>whnf))
    all_goals exact z25 rfl rfl
  ·have h2:=(y67 _).mp h2
   rw [h2] at c0 ⊢
   refine z12 z19 Tryz.func32 rfl rfl 64 Tryz.ntmps32 (by simp) ?_
   repeat' (first|(apply y80 ok;rfl;conv=>whnf)|(apply z7 (c0);rfl;rfl;conv=>whnf))
   all_goals exact z25 rfl rfl
 ·have hv:=(y67 _).mp hv
  rw [hv] at c1 ⊢
  rw [Bool.false_and,Bool.and_false]
  refine z12 z19 Tryz.func32 rfl rfl 64 Tryz.ntmps32 (by simp) ?_
  repeat' (first|(apply y80 ok;rfl;conv=>whnf)|(apply z102<;>intro _<;>conv=>whnf)|(apply z7 (c0);rfl;rfl;conv=>whnf)|(apply z7 (c1);rfl;rfl;conv=>whnf))
  all_goals exact z25 rfl rfl
structure IntsOk (b:List Int):Prop where
 mx:b.length≤maxLen
 len:b.length≤1048576
theorem IntsOk.of {b:List Int} (h:b.length≤maxLen) (h1:b.length≤1048576):IntsOk b:=⟨h,h1⟩
end Go.Proofs.YtnpclplponhppaaGreat
namespace Go.Proofs.YtnpclplponhppaaGreat
open Go.Gl
attribute [local irreducible] z21 AWP z36 z42 z39 RetS z47
theorem z1221 (bs:List Int) (hb:CodeOk bs):∃ (g:Graph) (l:List Tree) (B:List Int),(g.d∧Lab.d l∧B.length≤101)∧CallsA Tryz.prog 30 [lst 1 enU bs] [] (.tup [.agg g.cs,lst 3 Tree.cs' l,ints B]) []:=by
 have co:=z450 bs hb.len
 obtain ⟨M,n,p1,⟨a1,a2,a3,a4,a5⟩,c1⟩:=z411 (bs.take 2000) hb.take 0 ⟨by omega,by omega⟩
 obtain ⟨g0,g,p2,p3,c2,c3,hg,_,_⟩:=z895 (bs.take 2000) hb.take p1 ⟨by omega,by omega⟩
 have hl:Lab.d (M.take n):=⟨by simp;omega,fun t ht=>a3 t (List.mem_of_mem_take ht)⟩
 obtain ⟨B,p4,⟨b1,b2,b3⟩,c4⟩:=z807 (bs.take 2000) hb.take p3 (by omega) (by omega) g hg (M.take n) hl
 generalize hL:M.take n=L at *
 refine ⟨g,L,B,⟨hg,hl,b1⟩,?_⟩
 generalize bs.take 2000=b0 at *
 obtain ⟨x,y,z,rfl⟩:=len3 a2
 have hn:n=0∨n=1∨n=2∨n=3:=by simp at a1;omega
 rcases hn with rfl|rfl|rfl|rfl
 all_goals
  refine z10 z19 Tryz.func30 rfl rfl 22 Tryz.ntmps30 (by simp) ?_
  repeat' ((first|((fail_if_success apply z116 4);(fail_if_success apply z101 4);apply y80 ok;rfl)|((first|(apply z11 [] [1] co;rfl;rfl)|(apply z11 [1] [2] c1;rfl;rfl)|(apply z11 [1] [] c2;rfl;rfl)|(apply z11 [1] [] c3;rfl;rfl));rfl;(focus ((repeat' first|exact z18|apply z15)<;>first|exact z50 rfl rfl|(refine z23 ?_;((exact z6 fun _=>rfl)))))))<;>conv=>whnf)
  refine y81 (SealW.reach (env:=[(2,.ptr 0 none 0),(5,.ptr 1 none 0),(6,lst 3 Tree.cs' L),(7,.ptr 2 none 0)]) (objs:=[.cells 2 [[.nils,.nils]],rdO b0 p3,.cells 2 [g.cs]]) [0,1,3] [2] rfl rfl rfl rfl ?_ ?_) ?_
  ·subst hL;(repeat' first|exact y82 _|constructor)
  ·(repeat' first|exact y82 _|apply y83|constructor)
  conv=>whnf
  repeat' ((first|(apply y80 ok;rfl)|(apply z35;kernel_rfl)|(apply z30 [1] [] c4;rfl;rfl;rfl))<;>conv=>whnf)
  all_goals (refine rsD [] [] rfl ?_;(repeat' first|exact y82 _|constructor))
theorem lsT_quo {g:Graph} {l:List Tree} {bl:List Int} {u:Nat} (hu:u < (fstB bl g.st.length).length):lsT (quoG g bl) l u=lsT g l ((fstB bl g.st.length).getD u 0):=by
 unfold lsT;rw [z1150 hu]
end Go.Proofs.YtnpclplponhppaaGreat
