/- A part of the proofs over this program: T158, T159, T160, T94W, T29, T94K, T161, T186, T162, T163, T164, T170, T201, T29A, T29C, T202, T55F, T62F, T55G, T62G, T240, T187, T238, T33P, T67, T68, T210, T166, T204, T212, T98, T43R, T211, T214, T242, T243, T244. -/
import Derived.Test.YtjhgpfaodkchjaaGreatG0
import Derived.Test.YtjhgpfaodkchjaaGreatG1
import Derived.Test.YtjhgpfaodkchjaaGreatG2
import Derived.Test.YtjhgpfaodkchjaaGreatG3
import Derived.Test.YtjhgpfaodkchjaaGreatP0
import Derived.Test.YtjhgpfaodkchjaaGreatP1
import Derived.Test.YtjhgpfaodkchjaaGreatP2
import Derived.Test.YtjhgpfaodkchjaaGreatP3
import Derived.Test.YtjhgpfaodkchjaaGreatP4
import Derived.Test.YtjhgpfaodkchjaaGreatP5
import Derived.Test.YtjhgpfaodkchjaaGreatP6
import Derived.Test.YtjhgpfaodkchjaaGreatRows
import Derived.WalkKit
import Derived.ProofKit
import Derived.Deep.DeepHandedRow
import Derived.Lib.LaidTab
set_option linter.all false
namespace Go.Proofs.YtjhgpfaodkchjaaGreat
open Go.Gl
attribute [local irreducible] z18 AWP z41 z46 z44 RetS z51
theorem rowAt {rows:List (List Int)} {v:Int} (hv:0≤v∧v < rows.length):(rows.map encL)[v.toNat]?=some (encL (rows.getD v.toNat [])):=by
 rw [y49,y43 (by omega),z17 (by omega)];rfl
theorem rowLen {rows:List (List Int)} {M:Nat} (hrl:∀ r∈rows,r.length≤M) (v:Int):(rows.getD v.toNat []).length≤M:=by
 by_cases h:v.toNat < rows.length
 ·rw [z17 h];exact hrl _ (y42 _)
 ·rw [y65,y66 (by omega)];exact y51 _
set_option maxHeartbeats 3200000 in
theorem z956 (rows:List (List Int)) (v:Int) (hr:∀ r∈rows,InN rows.length r) (hv:0≤v∧v < rows.length) (hN:rows.length≤100000) (hrl:∀ r∈rows,r.length≤1000000000):CallsA Tryz.prog 126 [lst 1 encL rows,.int v] [] (ints (cycL rows v)) []:=by
 have hg:=rowAt hv
 have hl:=fun w=>rowLen hrl w
 have c1:=z640 (rows.getD v.toNat []) (by have:=hl v;unfold maxLen;omega) v
 have hlv:=hl v
 have c2:=z437 rows [v] hr (z330 hv) (by simp) hN hrl
 have hQ:=z699 hr (z330 hv) (by simp)
 have hB:=z877 hr (z330 hv) (by simp)
 have hPl:=z1031 hr (z330 hv) (by simp)
 have hQl:=z794 hr (z330 hv) (by simp)
 have c3:=fun k hk=>z726 (srP rows [v]) (by omega) rows.length _ (hB k hk) (by omega)
 unfold cycL
 by_cases h:v∈rows.getD v.toNat []
 ·rw [if_pos h]
  rw [y78 h] at c1
  generalize rows.getD v.toNat []=r0 at *
  refine z7 z14 Tryz.func126 rfl rfl 45 Tryz.ntmps126 (by simp) ?_
  repeat' ((first|(apply y81 ok;rfl)|(refine z13 (i:=v.toNat) (by simp) hg ?_)|(apply y41;omega)|(apply z4 (c1);rfl;rfl))<;>conv=>whnf)
  all_goals (refine rsD [] [0] rfl ?_;(repeat' first|exact y83 _|constructor))
 ·rw [if_neg h]
  rw [y79 h] at c1
  generalize hr0:rows.getD v.toNat []=r0 at hg c1 hlv
  generalize srQ rows [v]=Q at *
  generalize srP rows [v]=P at *
  generalize hR:cycT rows P v Q=R
  refine z7 z14 Tryz.func126 rfl rfl 45 Tryz.ntmps126 (by simp) ?_
  repeat' ((first|(apply y81 ok;rfl)|(refine z13 (i:=v.toNat) (by simp) hg ?_)|(apply y41;omega)|(apply z4 (c1);rfl;rfl)|(apply z95 [] [0] [1,2] c2;(focus ((repeat' first|exact z72|apply z48)<;>rfl));rfl;rfl;(focus ((repeat' first|exact z16|apply z15)<;>(refine z19 ?_;((exact z5 fun _=>rfl)))));((refine .inr ⟨rfl,?_⟩;repeat' first|exact True.intro|apply y41|exact z166 (fun _=>rfl) _))))<;>conv=>whnf)
  refine z64 (fun i:Nat=>([(0,lst 1 encL rows),(1,.int v),(5,ints P),(6,ints Q),(7,.int i)],[])) (fun i=>i≤Q.length∧cycT rows P v (Q.drop i)=R) (fun i=>Q.length - i) 0 ⟨y51 _,hR⟩ (by refine swR [] [1,2] rfl rfl ?_;(repeat' first|exact y83 _|((apply z43 rfl rfl rfl);(focus ((repeat ((exact z32 (fun _=>rfl) _)));done));(focus (((simp;done));done)))|constructor)) ?_
  rintro i ⟨hi1,hi2⟩
  by_cases hi3:i < Q.length
  ·have hq:=hQ _ (y42 hi3)
   have hgq:=rowAt hq
   have c4:=z640 (rows.getD Q[i].toNat []) (by have:=hl Q[i];unfold maxLen;omega) v
   have hlq:=hl Q[i]
   have c5:=c3 i hi3
   rw [y76 hi3,cycT] at hi2
   have hgi:(Q.map enI)[i]?=some (enI Q[i]):=by rw [y49,y43 hi3];rfl
   generalize Q[i]=u at *
   by_cases hm:v∈rows.getD u.toNat []
   ·rw [if_pos hm] at hi2
    rw [y78 hm] at c4
    subst hi2
    generalize rows.getD u.toNat []=r1 at *
    repeat' ((first|(apply y81 ok;rfl)|(refine z13 (i:=u.toNat) (by simp) hgq ?_)|(refine z13 (i:=i) (by simp) hgi ?_)|(apply y41;omega)|((apply z6)<;>intro _)|(apply z4 (c4);rfl;rfl)|(apply z4 (c5);rfl;rfl))<;>conv=>whnf)
    all_goals try (exfalso;omega)
    all_goals (refine rsD [] [] rfl ?_;(repeat' first|exact y83 _|constructor))
   ·rw [if_neg hm] at hi2
    rw [y79 hm] at c4
    generalize rows.getD u.toNat []=r1 at *
    repeat' ((first|(apply y81 ok;rfl)|(refine z13 (i:=u.toNat) (by simp) hgq ?_)|(refine z13 (i:=i) (by simp) hgi ?_)|(apply y41;first|omega|(unfold inI;omega))|((apply z6)<;>intro _)|(apply z4 (c4);rfl;rfl))<;>conv=>whnf)
    all_goals try (exfalso;omega)
    all_goals refine z26 (i+1) ⟨hi3,hi2⟩ (by omega) (by refine swR [] [] rfl rfl ?_;(repeat' first|exact y83 _|constructor))
  ·have e:Q.length=i:=by omega
   subst e
   rw [List.drop_length,cycT] at hi2
   subst hi2
   repeat' ((first|(apply y81 ok;rfl)|(apply y41;omega)|((first|(with_reducible apply z9;omega)|(with_reducible apply z65;omega));intro _)|((apply z6)<;>intro _))<;>conv=>whnf)
   all_goals try (exfalso;omega)
   all_goals (refine rsD [] [0] rfl ?_;(repeat' first|exact y83 _|constructor))
theorem z519 (l:List Int) (n:Nat) (hl:l.length≤1000000) (hn:1≤n) (h0:∀ x∈l,0≤x) (h1:∀ x∈l,x≤1000000000):CallsA Tryz.prog 128 [ints l,.int n] [] (.sref 0 0 l.length) [.cells 1 ((stL l n).map enI)]:=by
 refine z7 z14 Tryz.func128 rfl rfl 24 Tryz.ntmps128 (by simp) ?_
 repeat' (((apply y81 ok;rfl))<;>conv=>whnf)
 refine z64 (fun x:Nat×List Int=>([(0,ints l),(1,.int n),(5,.sref 0 0 x.2.length),(6,.int x.1)],[.cells 1 (x.2.map enI)])) (fun x=>x.1≤l.length∧x.2.length=x.1∧x.2=stL (l.take x.1) n) (fun x=>l.length - x.1) (0,[]) ⟨y51 _,rfl,rfl⟩ (by refine swR [0] [] rfl rfl ?_;(repeat' first|exact y83 _|refine z8 rfl (z24) ?_|constructor)) ?_
 rintro ⟨i,F⟩ ⟨hi1,hF1,hF2⟩
 dsimp only at hi1 hF1 hF2 ⊢
 by_cases hi2:i < l.length
 ·have a0:=h0 _ (y42 hi2)
  have a1:=h1 _ (y42 hi2)
  have a2:0≤l[i] / (n:Int):=Int.ediv_nonneg a0 (by omega)
  have a3:l[i] / (n:Int)≤l[i]:=Int.ediv_le_self _ a0
  have hF3:stL (l.take (i+1)) n=F++[l[i] / n]:=by rw [hF2,stL,y48 hi2,y61];rfl
  repeat' ((first|(apply y81 ok;rfl)|(apply y41;first|omega|(unfold inI;omega)|((try dsimp only);simp only [y47,y46,y45,y44,y56,y57];omega)|exact ⟨rfl,z21 rfl z29⟩)|(((with_reducible apply z9;omega));intro _)|((apply z6)<;>intro _))<;>conv=>whnf)
  all_goals try (exfalso;omega)
  all_goals refine z26 (i+1,F++[l[i] / n]) ⟨hi2,by rw [y45,hF1];rfl,hF3.symm⟩ (by show l.length - (i+1) < l.length - i;omega) (by refine swR [2] [] rfl rfl ?_;(repeat' first|exact y83 _|(refine z50 ?_;((simp;done)))|((refine z33 rfl ?_ ?_);(focus ((repeat' (first|exact z5 (fun _=>rfl)|apply z22));done)))|(refine z76 ?_ ?_;(focus (omega)))|constructor))
 ·have e:l.length=i:=by omega
  subst e
  rw [y54] at hF2
  subst hF2
  repeat' ((first|(apply y81 ok;rfl)|(apply y41;omega)|(((with_reducible apply z9;omega));intro _)|((apply z6)<;>intro _))<;>conv=>whnf)
  all_goals try (exfalso;omega)
  all_goals (refine rsD [0] [] rfl ?_;(repeat' first|exact z11 _|(refine z50 ?_;(omega))|refine z8 rfl (z5 (fun _=>rfl)) ?_|constructor))
theorem IniP.nd {l:List Int} {n:Int} (h:IniP l n l.length):l.Nodup:=by
 have hs:∀ d i (hi:i+d+1 < l.length),l[i] < l[i+d+1]:=by
  intro d
  induction d with
  |zero=>intro i hi;exact (h (i+1) hi hi).2 i rfl
  |succ d ih =>
   intro i hi
   have h1:=ih i (by omega)
   have h2:=(h (i+(d+1)+1) hi hi).2 (i+d+1) (by omega)
   omega
 rw [List.nodup_iff_pairwise_ne,List.pairwise_iff_getElem]
 intro i j hi hj hij
 have:=hs (j - i - 1) i (by omega)
 have e:i+(j - i - 1)+1=j:=by omega
 simp only [e] at this
 omega
noncomputable def trcO (g:Graph) (ls:List Int) (a:Aut):Option (List Int×List Int):=(finS (z30 g ls a) a.ini a.acc).map fun x=>(stL (x.1.take (x.1.length - 1)) a.acc.length,stL x.2 a.acc.length)
noncomputable def trcL (g:Graph) (ls:List Int) (a:Aut):List Int×List Int:=(trcO g ls a).getD ([],[])
set_option maxHeartbeats 6400000 in
theorem z1086 (g:Graph) (hG:GB g) (ls:List Int) (hls:ls.length=g.st.length) (hlr:∀ x∈ls,0≤x∧x≤7) (a:Aut) (hA:AutP a):CallsA Tryz.prog 54 [.agg g.cs,ints ls,.agg a.cs] [] (.tup [.agg [ints (trcL g ls a).1,ints (trcL g ls a).2],.bool (trcO g ls a).isSome]) []:=by
 have k2:=z438 g hG ls hls hlr a hA
 obtain ⟨f1,f2,f3,f4,f5⟩:=z165 hG hA ls
 have hlen:(z30 g ls a).length=g.st.length * a.acc.length:=by unfold z30;rw [z75,Nat.mul_comm]
 have hnd:=hA.2.2.1.nd
 have hac:=hA.1
 unfold trcL trcO finS
 generalize z30 g ls a=rows at *
 have k3:=z824 rows a.ini f1 f2 hnd (by omega) f4
 have hQ:=z699 f1 f2 hnd
 have hB:=z877 f1 f2 hnd
 have hPl:=z1031 f1 f2 hnd
 have hQl:=z794 f1 f2 hnd
 have hPle:=z1027 f1 f2 hnd rows.length
 have k4:=fun v hv=>z956 rows v f1 hv (by omega) f4
 have k5:=fun k hk=>z726 (srP rows a.ini) (by omega) rows.length _ (hB k hk) (by omega)
 have n4:=fun v hv=>z1124 f1 (v:=v) hv
 have m4:=fun v hv=>z1125 f1 (v:=v) hv
 change ∀ y∈srP rows a.ini,y≤(rows.length:Int) at hPle
 generalize srQ rows a.ini=Q at *
 generalize srP rows a.ini=P at *
 generalize hR:finT rows a.acc P Q=R
 refine z7 z14 Tryz.func54 rfl rfl 72 Tryz.ntmps54 (by simp) ?_
 repeat' ((first|(apply y81 ok;rfl)|(apply z4 (k2);rfl;rfl)|(apply z4 (k3);rfl;rfl))<;>conv=>whnf)
 refine z64 (fun i:Nat=>([(5,.ptr 0 none 0),(6,.ptr 1 none 0),(8,.int a.acc.length),(9,lst 1 encL rows),(10,ints P),(11,ints Q),(12,.int i)],[.cells 3 [a.cs],.cells 2 [[.nils,.nils]]])) (fun i=>i≤Q.length∧finT rows a.acc P (Q.drop i)=R) (fun i=>Q.length - i) 0 ⟨y51 _,hR⟩ (by refine swR [1,2] [] rfl rfl ?_;(repeat' first|exact y83 _|apply y84|constructor)) ?_
 rintro i ⟨hi1,hi2⟩
 by_cases hi3:i < Q.length
 ·have hq:=hQ _ (y42 hi3)
  have c5:=k5 i hi3
  rw [y76 hi3,finT] at hi2
  have hgi:(Q.map enI)[i]?=some (enI Q[i]):=by rw [y49,y43 hi3];rfl
  generalize Q[i]=u at *
  have hm0:0≤u % (a.acc.length:Int):=Int.emod_nonneg _ (by omega)
  have hm1:u % (a.acc.length:Int) < a.acc.length:=Int.emod_lt_of_pos _ (by omega)
  have hga:(a.acc.map enB)[(u % (a.acc.length:Int)).toNat]?=some (enB (a.acc.getD (u % (a.acc.length:Int)).toNat false)):=by
   rw [y49,y43 (by omega),z17 (by omega)];rfl
  have c4:=k4 u hq
  have l4:=z660 rows u
  have b1:=z540 P rows.length u []
  simp only [y57,Nat.add_zero] at b1
  have b2:=z539 P rows.length u []
  have b3:=z916 (P:=P) rows.length u [] hq.1 (fun x hx=>by cases hx)
  have b4:=z917 hPle rows.length u [] (by omega) (by omega) (fun x hx=>by cases hx)
  have n5:=n4 u hq
  have m5:=m4 u hq
  generalize bkw P rows.length u []=b at *
  generalize cycL rows u=c at *
  have c6:=z519 (b.take (b.length - 1)) a.acc.length (by rw [y46];omega) (by omega) (fun x hx=>b3 x (List.mem_of_mem_take hx)) (fun x hx=>by have:=b4 x (List.mem_of_mem_take hx);omega)
  rw [show (b.take (b.length - 1)).length=b.length - 1 by rw [y46];omega] at c6
  have eL:AC.list 1 (((b.length:Int) - 1).toNat - Int.toNat 0) (List.take (((b.length:Int) - 1).toNat - Int.toNat 0) (List.drop (Int.toNat 0) (List.map enI b)))=ints (b.take (b.length - 1)):=by
   rw [show ((b.length:Int) - 1).toNat - Int.toNat 0=b.length - 1 by rw [show Int.toNat 0=0 from rfl];omega]
   show _=AC.list 1 (b.take (b.length - 1)).length ((b.take (b.length - 1)).map enI)
   rw [show (b.take (b.length - 1)).length=b.length - 1 by rw [y46];omega,List.map_take];rfl
  rw [← eL] at c6
  have hs1:(stL (b.take (b.length - 1)) a.acc.length).length=b.length - 1:=by rw [stL,y47,y46];omega
  have hs2:(stL c a.acc.length).length=c.length:=by rw [stL,y47]
  have c7:=z519 c a.acc.length (by omega) (by omega) n5 (fun x hx=>by have:=m5 x hx;omega)
  generalize a.acc.getD (u % (a.acc.length:Int)).toNat false=z at *
  cases z
  ·rw [if_neg (by simp)] at hi2
   repeat' ((first|(apply y81 ok;rfl)|(apply z31;kernel_rfl)|(refine z13 (i:=i) (by simp) hgi ?_)|(refine z13 (i:=(u % (a.acc.length:Int)).toNat) (by simp) hga ?_)|(apply y41;first|omega|(unfold inI;omega))|((apply z6)<;>intro _))<;>conv=>whnf)
   all_goals try (exfalso;omega)
   all_goals refine z26 (i+1) ⟨hi3,hi2⟩ (by omega) (by refine swR [0,1] [] rfl rfl ?_;(repeat' first|exact y83 _|apply y84|constructor))
  ·rw [if_pos rfl] at hi2
   by_cases hc:0 < c.length
   ·rw [if_pos hc] at hi2
    subst hi2
    repeat' ((first|(apply y81 ok;rfl)|(apply z31;kernel_rfl)|(refine z13 (i:=i) (by simp) hgi ?_)|(refine z13 (i:=(u % (a.acc.length:Int)).toNat) (by simp) hga ?_)|(apply y41;first|omega|(unfold inI;omega))|((apply z6)<;>intro _)|(apply z4 (c4);rfl;rfl)|(apply z4 (c5);rfl;rfl)|((first|(apply z10 [] [2] c6;rfl;rfl)|(apply z10 [] [3] c7;rfl;rfl));rfl;(focus ((repeat' first|exact z16|apply z15)<;>(refine z19 ?_;((exact z5 fun _=>rfl)))))))<;>conv=>whnf)
    all_goals try (exfalso;omega)
    all_goals (refine rsD [] [2,3] rfl ?_;(repeat' first|exact y83 _|(refine z282 ?_;omega)|((apply z43 rfl rfl rfl);(focus ((repeat ((exact z32 (fun _=>rfl) _)));done));(focus (((simp;omega));done)))|apply z36|apply z69|constructor))
   ·rw [if_neg hc] at hi2
    repeat' ((first|(apply y81 ok;rfl)|(apply z31;kernel_rfl)|(refine z13 (i:=i) (by simp) hgi ?_)|(refine z13 (i:=(u % (a.acc.length:Int)).toNat) (by simp) hga ?_)|(apply y41;first|omega|(unfold inI;omega))|((apply z6)<;>intro _)|(apply z4 (c4);rfl;rfl)|(apply z4 (c5);rfl;rfl))<;>conv=>whnf)
    all_goals try (exfalso;omega)
    all_goals refine z26 (i+1) ⟨hi3,hi2⟩ (by omega) (by refine swR [0,1] [] rfl rfl ?_;(repeat' first|exact y83 _|apply y84|constructor))
 ·have e:Q.length=i:=by omega
  subst e
  rw [List.drop_length,finT] at hi2
  subst hi2
  repeat' ((first|(apply y81 ok;rfl)|(apply z31;kernel_rfl)|(apply y41;omega)|((first|(with_reducible apply z9;omega)|(with_reducible apply z65;omega));intro _)|((first|apply z6|apply z92)<;>intro _))<;>conv=>whnf)
  all_goals try (exfalso;omega)
  all_goals (refine rsD [] [] rfl ?_;(repeat' first|exact y83 _|exact z38|apply z36|apply z69|constructor))
set_option maxHeartbeats 3200000 in
theorem z1085 (R row:List Int) (z:Bool) {M:Int} (hB:Bd M R) (hM:0≤M) (hM2:M≤1000000000) (hr:InN R.length row) (hRl:R.length≤100000) (hrl:row.length≤1000000000):CallsA Tryz.prog 167 [ints row,ints R,.bool z] [] (.int (rkOf R z row)) []:=by
 refine z7 z14 Tryz.func167 rfl rfl 31 Tryz.ntmps167 (by simp) ?_
 repeat' (((apply y81 ok;rfl))<;>conv=>whnf)
 refine z64 (fun i:Nat=>([(0,ints row),(1,ints R),(2,.bool z),(7,.int ((row.take i).foldl (z229 R z) 0)),(8,.int i)],[])) (fun i=>i≤row.length) (fun i=>row.length - i) 0 (y51 _) (by refine swR [] [] rfl rfl ?_;(repeat' first|exact y83 _|constructor)) ?_
 intro i hi
 by_cases hi2:i < row.length
 ·have hx:=hr _ (y42 hi2)
  have hb:=hB.getD hM row[i].toNat
  have ho:=z500 hB hM (z:=z) (row.take i) 0 ⟨by omega,by omega⟩
  have hs:(row.take (i+1)).foldl (z229 R z) 0=z229 R z ((row.take i).foldl (z229 R z) 0) row[i]:=by rw [y48 hi2,y60];rfl
  have hg:(row.map enI)[i]?=some (enI row[i]):=by rw [y49,y43 hi2];rfl
  have hg2:(R.map enI)[row[i].toNat]?=some (enI (R.getD row[i].toNat 0)):=by rw [y49,y43 (by omega),z17 (by omega)];rfl
  generalize (row.take i).foldl (z229 R z) 0=o at *
  generalize row[i]=v at *
  rw [show z229 R z o v=(if o < R.getD v.toNat 0+(if z=true then 1 else 0) then R.getD v.toNat 0+(if z=true then 1 else 0) else o) from rfl] at hs
  generalize R.getD v.toNat 0=r at *
  cases z
  ·simp only [if_neg (show ¬ false=true by simp),Int.add_zero] at hs
   by_cases hlt:o < r
   ·rw [if_pos hlt] at hs
    repeat' ((first|(apply y81 ok;rfl)|(refine z13 (i:=i) (by simp) hg ?_)|(refine z13 (i:=v.toNat) (by simp) hg2 ?_)|(apply y41;first|omega|(unfold inI;omega))|((apply z6)<;>intro _))<;>conv=>whnf)
    all_goals try (exfalso;omega)
    all_goals refine z26 (i+1) hi2 (by omega) (by refine swR [] [] rfl rfl ?_;(repeat' first|exact y83 _|(refine z107 ?_;omega)|constructor)<;>((rw [hs];exact y83 _)))
   ·rw [if_neg hlt] at hs
    repeat' ((first|(apply y81 ok;rfl)|(refine z13 (i:=i) (by simp) hg ?_)|(refine z13 (i:=v.toNat) (by simp) hg2 ?_)|(apply y41;first|omega|(unfold inI;omega))|((apply z6)<;>intro _))<;>conv=>whnf)
    all_goals try (exfalso;omega)
    all_goals refine z26 (i+1) hi2 (by omega) (by refine swR [] [] rfl rfl ?_;(repeat' first|exact y83 _|(refine z107 ?_;omega)|constructor)<;>((rw [hs];exact y83 _)))
  ·simp only [if_pos] at hs
   by_cases hlt:o < r+1
   ·rw [if_pos hlt] at hs
    repeat' ((first|(apply y81 ok;rfl)|(refine z13 (i:=i) (by simp) hg ?_)|(refine z13 (i:=v.toNat) (by simp) hg2 ?_)|(apply y41;first|omega|(unfold inI;omega))|((apply z6)<;>intro _))<;>conv=>whnf)
    all_goals try (exfalso;omega)
    all_goals refine z26 (i+1) hi2 (by omega) (by refine swR [] [] rfl rfl ?_;(repeat' first|exact y83 _|(refine z107 ?_;omega)|constructor)<;>((rw [hs];exact y83 _)))
   ·rw [if_neg hlt] at hs
    repeat' ((first|(apply y81 ok;rfl)|(refine z13 (i:=i) (by simp) hg ?_)|(refine z13 (i:=v.toNat) (by simp) hg2 ?_)|(apply y41;first|omega|(unfold inI;omega))|((apply z6)<;>intro _))<;>conv=>whnf)
    all_goals try (exfalso;omega)
    all_goals refine z26 (i+1) hi2 (by omega) (by refine swR [] [] rfl rfl ?_;(repeat' first|exact y83 _|(refine z107 ?_;omega)|constructor)<;>((rw [hs];exact y83 _)))
 ·have e:row.length=i:=by omega
  subst e
  rw [y54]
  repeat' ((first|(apply y81 ok;rfl)|(apply y41;omega)|((first|(with_reducible apply z9;omega)|(with_reducible apply z65;omega));intro _)|((first|apply z6|apply z92)<;>intro _))<;>conv=>whnf)
  all_goals try (exfalso;omega)
  all_goals (refine rsD [] [] rfl ?_;(repeat' first|exact y83 _|constructor))
set_option maxHeartbeats 12800000 in
theorem z955 (rows:List (List Int)) (a:Aut) (hr:∀ r∈rows,InN rows.length r) (hi:InN rows.length a.ini) (hac:1≤a.acc.length∧a.acc.length≤64) (hN:rows.length≤3840) (hrl:∀ r∈rows,r.length≤1000000000) (hil:a.ini.length≤1048576):CallsA Tryz.prog 82 [lst 1 encL rows,.agg a.cs] [] (.sref 0 0 rows.length) [.cells 1 ((z563 rows a.ini a.acc).map enI)]:=by
 have c1:=z957 rows a.ini hr hi (by omega) hrl hil
 have hQn:=z299 hr hi rows.length
 have hQi:=z395 hr hi rows.length
 change (bfsL rows a.ini).length≤rows.length at hQn
 change InN rows.length (bfsL rows a.ini) at hQi
 have hml:=z372 rows a.ini a.acc
 unfold z563 at *
 generalize bfsL rows a.ini=nodes at *
 refine z7 z14 Tryz.func82 rfl rfl 89 Tryz.ntmps82 (by simp) ?_
 repeat' ((first|(apply y81 ok;rfl)|(apply z4 (c1);rfl;rfl))<;>conv=>whnf)
 refine z64 (fun x:Nat×List Int=>([(0,lst 1 encL rows),(3,.ptr 0 none 0),(5,.int a.acc.length),(6,ints nodes),(7,.sref 1 0 x.2.length),(8,.int x.1)],[.cells 3 [a.cs],.cells 1 (x.2.map enI)])) (fun x=>x.1≤rows.length∧x.2.length=x.1∧x.2=z843 x.1) (fun x=>rows.length - x.1) (0,[]) ⟨y51 _,rfl,rfl⟩ (by refine swR [0,1] [] rfl rfl ?_;(repeat' first|exact y83 _|apply y84|refine z8 rfl (z24) ?_|constructor)) ?_
 rintro ⟨i,F⟩ ⟨hF1,hFl,hF2⟩
 dsimp only at hF1 hFl hF2 ⊢
 by_cases hi2:i < rows.length
 ·repeat' ((first|(apply y81 ok;rfl)|(apply y41;first|(unfold inI;omega)|((try dsimp only);simp only [y47,y46,y45,y44,y56,y57];omega)|exact ⟨rfl,z21 rfl z29⟩)|((apply z6)<;>intro _))<;>conv=>whnf)
  all_goals try (exfalso;omega)
  all_goals refine z26 (i+1,F++[-1]) ⟨hi2,by rw [y45,hFl];rfl,by show _=z843 (i+1);rw [z595,← hF2]⟩ (by show rows.length - (i+1) < _;omega) (by refine swR [0,3] [] rfl rfl ?_;(repeat' first|exact y83 _|(refine z50 ?_;((simp;done)))|apply y84|((refine z33 rfl ?_ ?_);(focus ((repeat' (first|exact z5 (fun _=>rfl)|apply z22));done)))|(refine z76 ?_ ?_;(focus (omega)))|constructor))
 have e:rows.length=i:=by omega
 have hz0:z397 rows.length (nodes.take 0)=F:=by rw [hF2,← e];rfl
 subst e
 clear hF1 hF2 hi2
 repeat' ((first|(apply y81 ok;rfl)|(apply y41;omega)|((apply z6)<;>intro _))<;>conv=>whnf)
 all_goals try (exfalso;omega)
 refine z64 (fun x:Nat×List Int=>([(0,lst 1 encL rows),(3,.ptr 0 none 0),(5,.int a.acc.length),(6,ints nodes),(7,.sref 1 0 x.2.length),(9,.int x.1)],[.cells 3 [a.cs],.cells 1 (x.2.map enI)])) (fun x=>x.1≤nodes.length∧z397 rows.length (nodes.take x.1)=x.2) (fun x=>nodes.length - x.1) (0,F) ⟨y51 _,hz0⟩ (by refine swR [0,1] [] rfl rfl ?_;(repeat' first|exact y83 _|exact z11 _|apply y84|refine z8 rfl (z5 (fun _=>rfl)) ?_|constructor)) ?_
 clear hz0 hFl F
 rintro ⟨i,R⟩ ⟨hi1,hR⟩
 dsimp only at hi1 hR ⊢
 have hRl:=z472 rows.length (nodes.take i)
 rw [hR] at hRl
 by_cases hi2:i < nodes.length
 ·have hx:=hQi _ (y42 hi2)
  have hs:=z923 (N:=rows.length) hi2
  rw [hR] at hs
  repeat' ((first|(apply y81 ok;rfl)|(apply y41;first|omega|(unfold inI;omega))|((first|(with_reducible apply z9;omega)|(apply z9;omega));intro _)|((apply z6)<;>intro _))<;>conv=>whnf)
  all_goals try (exfalso;omega)
  all_goals refine z26 (i+1,R.set nodes[i].toNat 0) ⟨hi2,hs⟩ (by show nodes.length - (i+1) < _;omega) (by refine swR [0,1] [] rfl rfl ?_;(repeat' first|exact y83 _|(refine z50 ?_;((simp;done)))|apply y84|refine z61 rfl (z5 (fun _=>rfl)) ?_|refine z278 (by omega) ?_|constructor))
 have e:nodes.length=i:=by omega
 subst e
 rw [y54] at hR
 have hbd:=z865 rows.length nodes
 rw [hR] at hbd hml ⊢
 clear hi2 hi1 hR
 generalize hRR:z120 rows a.acc nodes (nodes.length+2) R true=RR at *
 have hrevl:nodes.reverse.length=nodes.length:=List.length_reverse
 repeat' ((first|(apply y81 ok;rfl)|(apply y41;omega)|((first|(with_reducible apply z9;omega)|(apply z9;omega));intro _)|((apply z6)<;>intro _))<;>conv=>whnf)
 all_goals try (exfalso;omega)
 refine z64 (fun x:Nat×List Int×Bool=>([(0,lst 1 encL rows),(3,.ptr 0 none 0),(5,.int a.acc.length),(6,ints nodes),(7,.sref 1 0 x.2.1.length),(10,.bool x.2.2),(11,.int x.1)],[.cells 3 [a.cs],.cells 1 (x.2.1.map enI)])) (fun x=>x.1≤nodes.length+2∧x.2.1.length=rows.length∧Bd (4000 * x.1) x.2.1∧z120 rows a.acc nodes (nodes.length+2 - x.1) x.2.1 x.2.2=RR) (fun x=>nodes.length+2 - x.1) (0,R,true) ⟨y51 _,hRl,hbd,hRR⟩ (by refine swR [0,1] [] rfl rfl ?_;(repeat' first|exact y83 _|exact z11 _|apply y84|refine z8 rfl (z5 (fun _=>rfl)) ?_|constructor)) ?_
 clear hRR hbd hRl R
 rintro ⟨r,R,ch⟩ ⟨hr1,hRl,hbd,hRR⟩
 dsimp only at hr1 hRl hbd hRR ⊢
 have hend:∀ f,z120 rows a.acc nodes f R false=R:=fun f=>by cases f<;>rfl
 cases ch
 ·rw [hend] at hRR
  subst hRR
  repeat' (((apply y81 ok;rfl))<;>conv=>whnf)
  all_goals (refine rsD [1] [] rfl ?_;(repeat' first|exact z11 _|(refine z50 ?_;(omega))|refine z8 rfl (z5 (fun _=>rfl)) ?_|constructor))
 by_cases hr2:r≤nodes.length+1
 ·rw [show nodes.length+2 - r=(nodes.length+1 - r)+1 by omega,z120,if_pos rfl] at hRR
  repeat' ((first|(apply y81 ok;rfl)|(apply y41;(unfold inI;omega))|((apply z6)<;>intro _))<;>conv=>whnf)
  all_goals try (exfalso;omega)
  refine z64 (fun y:Nat×List Int×Bool=>([(0,lst 1 encL rows),(3,.ptr 0 none 0),(5,.int a.acc.length),(6,ints nodes),(7,.sref 1 0 y.2.1.length),(10,.bool y.2.2),(11,.int r),(12,.int ((nodes.length:Int) - 1 - y.1))],[.cells 3 [a.cs],.cells 1 (y.2.1.map enI)])) (fun y=>y.1≤nodes.length∧(nodes.reverse.take y.1).foldl (z268 rows a.acc) (R,false)=(y.2.1,y.2.2)) (fun y=>nodes.length - y.1) (0,R,false) ⟨y51 _,rfl⟩ (by refine swR [0,1] [] rfl rfl ?_;(repeat' first|exact y83 _|exact z11 _|(refine z107 ?_;omega)|apply y84|refine z8 rfl (z5 (fun _=>rfl)) ?_|constructor)) ?_
  rintro ⟨k,R',c'⟩ ⟨hk,hV⟩
  dsimp only at hk hV ⊢
  have hb':=z815 (rows:=rows) (acc:=a.acc) (nodes.reverse.take k) (R,false) hbd (by omega)
  have hl':=z454 (rows:=rows) (acc:=a.acc) (nodes.reverse.take k) (R,false)
  rw [hV] at hb' hl'
  rw [show (nodes.reverse.take k).length=k by rw [y46];omega] at hb'
  dsimp only at hb' hl'
  rw [hRl] at hl'
  by_cases hk2:k < nodes.length
  ·have hkr:k < nodes.reverse.length:=by omega
   have hn2:nodes.length - 1 - k < nodes.length:=by omega
   have hrev:nodes.reverse[k]=nodes[nodes.length - 1 - k]:=by rw [List.getElem_reverse]
   have hs:(nodes.reverse.take (k+1)).foldl (z268 rows a.acc) (R,false)=z268 rows a.acc (R',c') nodes[nodes.length - 1 - k]:=by
    rw [y48 hkr,y60,hV,hrev];rfl
   have hu:=hQi _ (y42 hn2)
   have hgn:(nodes.map enI)[nodes.length - 1 - k]?=some (enI nodes[nodes.length - 1 - k]):=by rw [y49,y43 hn2];rfl
   generalize nodes[nodes.length - 1 - k]=u at *
   have hgr:=rowAt hu
   have hm0:0≤u % (a.acc.length:Int):=Int.emod_nonneg _ (by omega)
   have hm1:u % (a.acc.length:Int) < a.acc.length:=Int.emod_lt_of_pos _ (by omega)
   have hga:(a.acc.map enB)[(u % (a.acc.length:Int)).toNat]?=some (enB (a.acc.getD (u % (a.acc.length:Int)).toNat false)):=by
    rw [y49,y43 (by omega),z17 (by omega)];rfl
   have hgR:(R'.map enI)[u.toNat]?=some (enI (R'.getD u.toNat 0)):=by rw [y49,y43 (by omega),z17 (by omega)];rfl
   have hrow:InN R'.length (rows.getD u.toNat []):=by rw [hl'];exact z198 hr u
   have hrowl:=rowLen hrl u
   have hbg:=hb'.getD (by omega) u.toNat
   have c5:=z1085 R' (rows.getD u.toNat []) (a.acc.getD (u % (a.acc.length:Int)).toNat false) hb' (by omega) (by omega) hrow (by omega) hrowl
   have hrk:=z1051 hb' (by omega) (a.acc.getD (u % (a.acc.length:Int)).toNat false) (rows.getD u.toNat [])
   rw [show z268 rows a.acc (R',c') u=(if R'.getD u.toNat 0 < rkOf R' (a.acc.getD (u % (a.acc.length:Int)).toNat false) (rows.getD u.toNat []) then (R'.set u.toNat (rkOf R' (a.acc.getD (u % (a.acc.length:Int)).toNat false) (rows.getD u.toNat [])),true) else (R',c')) from rfl] at hs
   generalize rkOf R' (a.acc.getD (u % (a.acc.length:Int)).toNat false) (rows.getD u.toNat [])=w at *
   generalize a.acc.getD (u % (a.acc.length:Int)).toNat false=z at *
   generalize rows.getD u.toNat []=row at *
   by_cases hlt:R'.getD u.toNat 0 < w
   ·rw [if_pos hlt] at hs
    generalize R'.getD u.toNat 0=y at *
    repeat' ((first|(apply y81 ok;rfl)|(refine z13 (i:=nodes.length - 1 - k) (by omega) hgn ?_)|(refine z13 (i:=u.toNat) (by simp) hgr ?_)|(refine z13 (i:=u.toNat) (by simp) hgR ?_)|(refine z13 (i:=(u % (a.acc.length:Int)).toNat) (by simp) hga ?_)|(apply y41;first|omega|(unfold inI;omega))|((apply z6)<;>intro _)|(apply z95 [] [1] [] c5;(focus ((repeat' first|exact z72|apply z48)<;>first|exact z117 rfl rfl rfl|rfl));rfl;rfl;(focus ((repeat' exact z16)<;>fail));((refine .inr ⟨rfl,?_⟩;repeat' first|exact True.intro|apply y41))))<;>conv=>whnf)
    all_goals first|(exfalso;omega)|kernel_rfl|skip
    all_goals refine z26 (k+1,R'.set u.toNat w,true) ⟨hk2,hs⟩ (by show nodes.length - (k+1) < _;omega) (by refine swR [0,1] [] rfl rfl ?_;(repeat' first|exact y83 _|(refine z107 ?_;omega)|(refine z50 ?_;((simp;done)))|apply y84|refine z61 rfl (z5 (fun _=>rfl)) ?_|refine z278 (by omega) ?_|constructor))
   ·rw [if_neg hlt] at hs
    generalize R'.getD u.toNat 0=y at *
    repeat' ((first|(apply y81 ok;rfl)|(refine z13 (i:=nodes.length - 1 - k) (by omega) hgn ?_)|(refine z13 (i:=u.toNat) (by simp) hgr ?_)|(refine z13 (i:=u.toNat) (by simp) hgR ?_)|(refine z13 (i:=(u % (a.acc.length:Int)).toNat) (by simp) hga ?_)|(apply y41;first|omega|(unfold inI;omega))|((apply z6)<;>intro _)|(apply z95 [] [1] [] c5;(focus ((repeat' first|exact z72|apply z48)<;>first|exact z117 rfl rfl rfl|rfl));rfl;rfl;(focus ((repeat' exact z16)<;>fail));((refine .inr ⟨rfl,?_⟩;repeat' first|exact True.intro|apply y41))))<;>conv=>whnf)
    all_goals first|(exfalso;omega)|kernel_rfl|skip
    all_goals refine z26 (k+1,R',c') ⟨hk2,hs⟩ (by show nodes.length - (k+1) < _;omega) (by refine swR [0,1] [] rfl rfl ?_;(repeat' first|exact y83 _|exact z11 _|(refine z107 ?_;omega)|apply y84|refine z8 rfl (z5 (fun _=>rfl)) ?_|constructor))
  ·have e:nodes.length=k:=by omega
   rw [y55 (by omega)] at hV
   rw [show z416 rows a.acc nodes R=(R',c') from hV] at hRR
   repeat' ((first|(apply y81 ok;rfl)|(apply y41;first|omega|(unfold inI;omega))|(((with_reducible apply z65;omega));intro _)|((apply z6)<;>intro _))<;>conv=>whnf)
   all_goals try (exfalso;omega)
   all_goals refine z26 (r+1,R',c') ⟨by show r+1≤nodes.length+2;omega,hl',hb'.mono (by show 4000 * (r:Int)+k≤4000 * ((r+1:Nat):Int);omega),by rw [show nodes.length+2 - (r+1)=nodes.length+1 - r by omega];exact hRR⟩ (by show nodes.length+2 - (r+1) < _;omega) (by refine swR [0,1] [] rfl rfl ?_;(repeat' first|exact y83 _|exact z11 _|apply y84|refine z8 rfl (z5 (fun _=>rfl)) ?_|constructor))
 ·rw [show nodes.length+2 - r=0 by omega,z120] at hRR
  subst hRR
  repeat' ((first|(apply y81 ok;rfl)|(apply y41;first|omega|(unfold inI;omega))|((apply z6)<;>intro _))<;>conv=>whnf)
  all_goals try (exfalso;omega)
  all_goals (refine rsD [1] [] rfl ?_;(repeat' first|exact z11 _|(refine z50 ?_;(omega))|refine z8 rfl (z5 (fun _=>rfl)) ?_|constructor))
end Go.Proofs.YtjhgpfaodkchjaaGreat
namespace Go.Proofs.YtjhgpfaodkchjaaGreat
open Go.Gl
attribute [local irreducible] z18
theorem z1007 (a b:List Int) (ha:a.length≤maxLen) (hb:b.length≤maxLen):CallsA Tryz.prog 13 [lst 1 enI a,lst 1 enI b] [] (.bool (decide (a=b))) []:=by
 unfold maxLen at ha hb
 refine z12 z14 Tryz.func13 rfl rfl 26 Tryz.ntmps13 (by simp) ?_
 repeat (refine y81 ok _ _ _ _ _ rfl ?_)
 refine z35 (fun h=>?_) (fun h=>?_)
 ·repeat (refine y81 ok _ _ _ _ _ rfl ?_)
  have hne:a≠b:=by rintro rfl;exact h rfl
  rw [y79 hne]
  exact ⟨[],by decide,rfl,rfl,y3 rfl,trivial⟩
 ·have hl:a.length=b.length:=by omega
  repeat (refine y81 ok _ _ _ _ _ rfl ?_)
  refine z670 (fun k:Nat=>([(0,lst 1 enI a),(1,lst 1 enI b),(5,.int k)],[])) (fun k=>k≤a.length∧a.take k=b.take k) (fun k=>a.length - k) 0 (by simp)
   ⟨[],rfl,by decide,rfl,⟨⟨rfl,rfl⟩,⟨rfl,rfl⟩,⟨rfl,rfl⟩,trivial⟩,trivial⟩ ?_
  intro k hk
  repeat (refine y81 ok _ _ _ _ _ rfl ?_)
  refine z6 (fun h=>?_) (fun h=>?_)
  ·have hka:k < a.length:=by omega
   repeat (first|refine y81 ok _ _ _ _ _ rfl ?_|refine y41 (by omega) ?_)
   refine ⟨_,z340 _ _ _ (by omega),?_⟩
   repeat ((refine y41 (by omega) ?_))
   refine ⟨_,z340 _ _ _ (by omega),?_⟩
   repeat (first|refine y81 ok _ _ _ _ _ rfl ?_|refine z31 (by kernel_rfl) ?_)
   refine z35 (fun h=>?_) (fun h=>?_)
   ·repeat (refine y81 ok _ _ _ _ _ rfl ?_)
    have hne:a≠b:=by rintro rfl;exact h rfl
    rw [y79 hne]
    exact ⟨[],by decide,rfl,rfl,y3 rfl,trivial⟩
   ·repeat (first|refine y81 ok _ _ _ _ _ rfl ?_|refine y41 (by first|omega|(unfold inI;omega)) ?_)
    refine ⟨k+1,[],⟨by omega,?_⟩,by omega,rfl,by decide,rfl,⟨⟨rfl,rfl⟩,⟨rfl,rfl⟩,⟨rfl,rfl⟩,trivial⟩,trivial⟩
    have h' : a[k]=b[k]:=h
    rw [y48 hka,y48 (by omega),hk.2,h']
  ·repeat (refine y81 ok _ _ _ _ _ rfl ?_)
   have he:a=b:=by
    have:=hk.2
    rwa [y55 (by omega),y55 (by omega)] at this
   rw [y78 he]
   exact ⟨[],by decide,rfl,rfl,y3 rfl,trivial⟩
end Go.Proofs.YtjhgpfaodkchjaaGreat
namespace Go.Proofs.YtjhgpfaodkchjaaGreat
open Go.Gl
attribute [local irreducible] z18 AWP z41 z46 z44
section
open Go.ChangeShapes Go.WideShapes Go.ChangeAt Go.RowKit
theorem and_mk {a b:Bool} (h:a=true) (k:b=true):(a && b)=true:=by rw [h,k];rfl
theorem own:ownKnob Tryz.prog.godebug=none:=by kernel_rfl
theorem z954:laidOutB Tryz.prog=true:=by kernel_rfl
end
end Go.Proofs.YtjhgpfaodkchjaaGreat
namespace Go.Proofs.YtjhgpfaodkchjaaGreat
open Go.Gl
attribute [local irreducible] z18 AWP z41 z46 z44
theorem ad_code:ArgD Tryz.prog 22 (lst 1 enU) CodeOk :=
 (z1148 (enc1:=lst 1 enU) Tryz.underlying22 (od_list 1 (encL:=fun l=>[lst 1 enU l]) Tryz.underlying22 (by kernel_rfl) (by decide) (od_byte (enc:=enU) Tryz.underlying5 (fun _=>rfl)) (fun _=>rfl)) (fun _=>rfl)).imp fun l h=>⟨l,rfl,h.1,fun x hx=>by
  have:=h.2 x hx
  have h1:IntKind.min .u8=0:=by decide
  have h2:IntKind.max .u8=255:=by decide
  simpa [Lit.wf,h1,h2] using this⟩
end Go.Proofs.YtjhgpfaodkchjaaGreat
namespace Go.Proofs.YtjhgpfaodkchjaaGreat
open Go.Gl
attribute [local irreducible] z18 AWP z41 z46 z44 RetS z51
noncomputable def mkOk (g:Graph) (l:List Tree) (a:Aut):Bool:=(glB g l && autB a) && !(trcO g (g.st.map (z39 l)) a).isSome
noncomputable def mkR (g:Graph) (l:List Tree) (a:Aut):List Int:=if mkOk g l a=true then z563 (z30 g (g.st.map (z39 l)) a) a.ini a.acc else []
theorem z1075 {g:Graph} {l:List Tree} {a:Aut} : (mkOk g l a=true→(mkR g l a).length=(prB g l a).length)∧(mkR g l a).length≤3840∧Bd 16000000 (mkR g l a):=by
 unfold mkR prB
 by_cases h:mkOk g l a=true
 ·have h1:(glB g l && autB a)=true:=by unfold mkOk at h;exact (Bool.and_eq_true_iff.1 h).1
  obtain ⟨h2,h3⟩:=Bool.and_eq_true_iff.1 h1
  obtain ⟨f1,f2,f3,f4,f5⟩:=z165 ((z114 g).1 (by unfold glB at h2;exact (Bool.and_eq_true_iff.1 h2).1)) (z130.1 h3) (g.st.map (z39 l))
  rw [if_pos h,if_pos h1,z372,z414]
  refine ⟨fun _=>rfl,f3,?_⟩
  have hQn:=z299 f1 f2 (z30 g (g.st.map (z39 l)) a).length
  have hb:=z712 (rows:=z30 g (g.st.map (z39 l)) a) (acc:=a.acc) (nodes:=bfsL (z30 g (g.st.map (z39 l)) a) a.ini) ((bfsL (z30 g (g.st.map (z39 l)) a) a.ini).length+2) _ true (z865 (z30 g (g.st.map (z39 l)) a).length (bfsL (z30 g (g.st.map (z39 l)) a) a.ini)) (by omega) (by unfold bfsL;omega)
  exact hb.mono (by unfold bfsL;omega)
 ·rw [if_neg h]
  exact ⟨fun h'=>absurd h' h,y51 _,fun x hx=>by cases hx⟩
set_option maxHeartbeats 3200000 in
theorem z700 (g:Graph) (hg:g.mx) (l:List Tree) (hl:Lmx l) (a:Aut) (ha:a.mx):CallsA Tryz.prog 34 [.agg g.cs,lst 3 Tree.cs' l,.agg a.cs] [] (.tup [.agg [.sref 0 0 (mkR g l a).length],.bool (mkOk g l a)]) [.cells 1 ((mkR g l a).map enI)]:=by
 have k0:=z404 g hg l hl
 have k1:=z274 a ha
 by_cases hgl:(glB g l && autB a)=true
 ·obtain ⟨h1,hab⟩:=Bool.and_eq_true_iff.1 hgl
  have hG:=(z114 g).1 (by unfold glB at h1;exact (Bool.and_eq_true_iff.1 h1).1)
  have hL:=y7 (by unfold glB at h1;exact (Bool.and_eq_true_iff.1 h1).2)
  have hA:=z130.1 hab
  have k2:=z438 g hG (g.st.map (z39 l)) (by simp) (fun x hx=>by
   obtain ⟨s,_,rfl⟩:=List.mem_map.1 hx
   exact z283 hL s) a hA
  have k3:=z1086 g hG (g.st.map (z39 l)) (by simp) (fun x hx=>by
   obtain ⟨s,_,rfl⟩:=List.mem_map.1 hx
   exact z283 hL s) a hA
  obtain ⟨f1,f2,f3,f4,f5⟩:=z165 hG hA (g.st.map (z39 l))
  have k4:=z955 (z30 g (g.st.map (z39 l)) a) a f1 f2 hA.1 f3 f4 f5
  have hml:=z372 (z30 g (g.st.map (z39 l)) a) a.ini a.acc
  rw [if_pos h1,h1] at k0
  rw [hab] at k1
  unfold mkR mkOk
  rw [hgl,Bool.true_and]
  generalize g.st.map (z39 l)=ls at *
  generalize (trcO g ls a).isSome=tb at *
  generalize trcL g ls a=tl at *
  generalize z563 (z30 g ls a) a.ini a.acc=RR at *
  generalize z30 g ls a=rows at *
  cases tb
  ·show CallsA _ _ _ _ (.tup [.agg [.sref 0 0 RR.length],.bool true]) [.cells 1 (RR.map enI)]
   rw [hml]
   refine z7 z14 Tryz.func34 rfl rfl 42 Tryz.ntmps34 (by simp) ?_
   repeat' ((first|(apply y81 ok;rfl)|(apply z31;kernel_rfl)|(apply z4 (k0);rfl;rfl)|(apply z4 (k1);rfl;rfl)|(apply z4 (k2);rfl;rfl)|(apply z4 (k3);rfl;rfl)|(apply z10 [] [4] k4;rfl;rfl;rfl;(focus ((repeat' first|exact z16|apply z15)<;>(refine z19 ?_;((exact z5 fun _=>rfl)))))))<;>conv=>whnf)
   all_goals (refine rsD [4] [] rfl ?_;(repeat' first|exact y83 _|exact z11 _|refine z8 rfl (z5 (fun _=>rfl)) ?_|constructor))
  ·show CallsA _ _ _ _ (.tup [.agg [.sref 0 0 0],.bool false]) [.cells 1 []]
   refine z7 z14 Tryz.func34 rfl rfl 42 Tryz.ntmps34 (by simp) ?_
   repeat' ((first|(apply y81 ok;rfl)|(apply z4 (k0);rfl;rfl)|(apply z4 (k1);rfl;rfl)|(apply z4 (k3);rfl;rfl))<;>conv=>whnf)
   all_goals (refine y86 1 ?_;refine rsD [4] [] rfl ?_;(repeat' first|exact y83 _|exact z37|refine z8 rfl (z24) ?_|apply z36|apply z69|constructor))
 ·have e:mkOk g l a=false:=by unfold mkOk;rw [(y69 _).mp hgl];rfl
  have e2:mkR g l a=[]:=by unfold mkR;rw [e];rfl
  rw [e,e2]
  show CallsA _ _ _ _ (.tup [.agg [.sref 0 0 0],.bool false]) [.cells 1 []]
  generalize (if glB g l=true then g.st.map (z39 l) else [])=ls at *
  refine z7 z14 Tryz.func34 rfl rfl 42 Tryz.ntmps34 (by simp) ?_
  cases hb1:glB g l
  ·rw [hb1] at k0
   repeat' ((first|(apply y81 ok;rfl)|(apply z4 (k0);rfl;rfl))<;>conv=>whnf)
   all_goals (refine y86 1 ?_;refine rsD [3] [] rfl ?_;(repeat' first|exact y83 _|exact z37|refine z8 rfl (z24) ?_|apply z36|apply z69|constructor))
  ·rw [hb1] at k0 hgl
   have hb2:autB a=false:=by simpa using hgl
   rw [hb2] at k1
   repeat' ((first|(apply y81 ok;rfl)|(apply z4 (k0);rfl;rfl)|(apply z4 (k1);rfl;rfl))<;>conv=>whnf)
   all_goals (refine y86 1 ?_;refine rsD [3] [] rfl ?_;(repeat' first|exact y83 _|exact z37|refine z8 rfl (z24) ?_|apply z36|apply z69|constructor))
theorem z656 (a:Aut) (hA:AutP a) (x:Int) (h0:0≤x):CallsA Tryz.prog 96 [.int x,.pt a.cs,.pt [.int a.acc.length]] [] (.bool (a.acc.getD (x % a.acc.length).toNat false)) []:=by
 have hac:=hA.1
 have hm0:0≤x % (a.acc.length:Int):=Int.emod_nonneg _ (by omega)
 have hm1:x % (a.acc.length:Int) < a.acc.length:=Int.emod_lt_of_pos _ (by omega)
 have hga:(a.acc.map enB)[(x % (a.acc.length:Int)).toNat]?=some (enB (a.acc.getD (x % (a.acc.length:Int)).toNat false)):=by
  rw [y49,y43 (by omega),z17 (by omega)];rfl
 refine z7 z14 Tryz.func96 rfl rfl 12 Tryz.ntmps96 (by simp) ?_
 repeat' ((first|(apply y81 ok;rfl)|(apply z31;kernel_rfl)|(refine z13 (i:=(x % (a.acc.length:Int)).toNat) rfl hga ?_)|(apply y41;omega))<;>conv=>whnf)
 all_goals (refine rsD [] [] rfl ?_;(repeat' first|exact y83 _|constructor))
set_option maxHeartbeats 1600000 in
theorem z333 (l:List Int) (n:Nat) (hl:l.length≤1000000) (hn:1≤n) (h0:∀ x∈l,0≤x) (h1:∀ x∈l,x≤1000000000):CallsA Tryz.prog 97 [ints l,.pt [.int n]] [] (.sref 0 0 l.length) [.cells 1 ((stL l n).map enI)]:=by
 refine z7 z14 Tryz.func97 rfl rfl 25 Tryz.ntmps97 (by simp) ?_
 repeat' ((first|(apply y81 ok;rfl)|(apply y41;(dsimp only;omega)))<;>conv=>whnf)
 obtain ⟨qm,hqm⟩:∃ qm:Nat→Nat→Int,qm=fun i j=>if j < i then l.getD j 0 / n else 0:=⟨_,rfl⟩
 have q0:qm 0=fun _=>0:=by rw [hqm];rfl
 have qE:fnL l.length (qm l.length)=stL l n:=by
  apply y72 (by simp [fnL,stL])
  intro i h1 h2
  have hi' : i < l.length:=by rw [z100] at h1;exact h1
  rw [z422,hqm]
  dsimp only
  rw [if_pos hi',z17 hi'];simp [stL]
 have qS:∀ i (h:i < l.length),qm (i+1)=upd (qm i) i (l[i] / n):=fun i h=>by
  funext j
  by_cases h2:j=i
  ·subst h2;rw [z27,hqm];dsimp only;rw [if_pos (by omega),z17 h]
  ·rw [z47 _ _ h2,hqm];dsimp only;split<;>split<;>first|rfl|omega
 clear hqm
 refine z64 (fun i:Nat=>([(1,.pt [.int n]),(4,.sref 0 0 l.length),(10,ints l),(11,.int l.length),(12,.int i)],[.cells 1 ((fnL l.length (qm i)).map enI)])) (fun i=>i≤l.length) (fun i=>l.length - i) 0 (y51 _) (by refine swR [0] [] rfl rfl ?_;(repeat' first|exact y83 _|refine z8 rfl (z79 rfl) ?_|constructor)<;>((refine z49 ?_;rw [q0];exact z310 _))) ?_
 intro i hi
 by_cases hi2:i < l.length
 ·have g1:=z161 (qm i) hi2
  have l1:=z100 l.length (qm i)
  have e1:=z141 (N:=l.length) (u:=i) (qm i) (l[i] / n)
  rw [← qS i hi2] at e1
  have gk:(l.map enI)[i]?=some (enI l[i]):=by rw [y49,y43 hi2];rfl
  have b0:=h0 _ (y42 hi2)
  have b1:=h1 _ (y42 hi2)
  generalize l[i]=v at *
  have d0:0≤v / (n:Int):=Int.ediv_nonneg b0 (by omega)
  have d1:v / (n:Int)≤v:=Int.ediv_le_self _ b0
  repeat' ((first|(apply y81 ok;rfl)|(refine z13 (i:=i) rfl gk ?_)|(refine z13 (i:=i) rfl g1 ?_)|(apply y41;first|omega|(unfold inI;omega))|((apply z6)<;>intro _))<;>conv=>whnf)
  all_goals try (exfalso;omega)
  all_goals refine z26 (i+1) hi2 (by omega) (by refine swR [0] [] rfl rfl ?_;(repeat' first|exact y83 _|refine z61 rfl (z5 (fun _=>rfl)) ?_|constructor)<;>((refine z49 ?_;exact e1)))
 obtain rfl:i=l.length:=by omega
 rw [qE]
 repeat' ((first|(apply y81 ok;rfl)|(apply y41;omega)|((first|(with_reducible apply z9;omega)|(apply z9;omega));intro _)|((apply z6)<;>intro _))<;>conv=>whnf)
 all_goals try (exfalso;omega)
 all_goals (refine rsD [0] [] rfl ?_;(repeat' first|exact y83 _|exact z11 _|refine z8 rfl (z5 (fun _=>rfl)) ?_|constructor))
noncomputable def ftO (g:Graph) (l:List Tree) (a:Aut):Option (List Int×List Int):=if (glB g l && autB a)=true then trcO g (g.st.map (z39 l)) a else none
noncomputable def ftL (g:Graph) (l:List Tree) (a:Aut):Trace:=let t:=(ftO g l a).getD ([],[]);⟨t.1,t.2⟩
set_option maxHeartbeats 6400000 in
theorem z233 (g:Graph) (hg:g.mx) (l:List Tree) (hl:Lmx l) (a:Aut) (ha:a.mx):CallsA Tryz.prog 38 [.agg g.cs,lst 3 Tree.cs' l,.agg a.cs] [] (.tup [.agg [.sref 0 0 (ftL g l a).stem.length,.sref 1 0 (ftL g l a).loop.length],.bool (ftO g l a).isSome]) [.cells 1 ((ftL g l a).stem.map enI),.cells 1 ((ftL g l a).loop.map enI)]:=by
 have k0:=z425 g hg l hl a ha
 by_cases hgl:(glB g l && autB a)=true
 ·rw [hgl] at k0
  obtain ⟨h1,hab⟩:=Bool.and_eq_true_iff.1 hgl
  have hG:=(z114 g).1 (by unfold glB at h1;exact (Bool.and_eq_true_iff.1 h1).1)
  have hL:=y7 (by unfold glB at h1;exact (Bool.and_eq_true_iff.1 h1).2)
  have hA:=z130.1 hab
  have k1:=z415 g hG l hL a hA
  obtain ⟨f1,f2,f3,f4,f5⟩:=z165 hG hA (g.st.map (z39 l))
  have hnd:=hA.2.2.1.nd
  have hac:=hA.1
  have k2:=z1081 (z30 g (g.st.map (z39 l)) a) a.ini f1 f2 hnd (by omega) f4 (fun v=>a.acc.getD (v % a.acc.length).toNat false) 96 a.cs [.int a.acc.length] (fun x h0 _=>z656 a hA x h0)
  unfold ftL ftO
  rw [if_pos hgl]
  unfold lasR at k2
  unfold trcO
  rw [z461 f1 f2 hnd] at k2
  have hlen:(z30 g (g.st.map (z39 l)) a).length=g.st.length * a.acc.length:=by unfold z30;rw [z75,Nat.mul_comm]
  have hF:∀ p q,finS (z30 g (g.st.map (z39 l)) a) a.ini a.acc=some (p,q)→(∀ x∈p,0≤x∧x≤100000)∧(∀ x∈q,0≤x∧x≤100000)∧p.length≤100000∧q.length≤100000:=by
   intro p q h
   rw [← z461 f1 f2 hnd] at h
   obtain ⟨b1,b2,b3,b4,_⟩:=lasL_bd f1 f2 hnd h
   exact ⟨fun x hx=>by have:=b1 x hx;omega,fun x hx=>by have:=b2 x hx;omega,by omega,by omega⟩
  generalize z30 g (g.st.map (z39 l)) a=rows at *
  cases hfin:finS rows a.ini a.acc with
  |none =>
   rw [hfin] at k2
   change CallsA _ _ _ _ (.tup [.sref 0 0 0,.sref 1 0 0,.bool false]) [.cells 1 [],.cells 1 []] at k2
   show CallsA _ _ _ _ (.tup [.agg [.sref 0 0 0,.sref 1 0 0],.bool false]) [.cells 1 [],.cells 1 []]
   refine z7 z14 Tryz.func38 rfl rfl 50 Tryz.ntmps38 (by simp) ?_
   repeat' ((first|(apply y81 ok;rfl)|(apply z4 (k0);rfl;rfl)|(apply z4 (k1);rfl;rfl)|(apply z95 [] [1,3] [4,5] k2;(focus ((repeat' first|exact z72|apply z48)<;>rfl));rfl;rfl;(focus ((repeat' first|exact z16|apply z15)<;>(refine z19 ?_;(exact z24))));((refine .inr ⟨rfl,?_⟩;repeat' first|exact True.intro|apply y41|exact rfl))))<;>conv=>whnf)
   all_goals (refine y86 1 ?_;refine y86 1 ?_;refine rsD [6,7] [] rfl ?_;(repeat' first|exact y83 _|exact z37|refine z8 rfl (z24) ?_|apply z36|apply z69|constructor))
  |some pq =>
   obtain ⟨p,q⟩:=pq
   rw [hfin] at k2
   obtain ⟨b1,b2,b3,b4⟩:=hF p q hfin
   change CallsA _ _ _ _ (.tup [.sref 0 0 (p.take (p.length - 1)).length,.sref 1 0 q.length,.bool true]) [.cells 1 ((p.take (p.length - 1)).map enI),.cells 1 (q.map enI)] at k2
   have s1:=z333 (p.take (p.length - 1)) a.acc.length (by rw [y46];omega) (by omega) (fun x hx=>(b1 x (List.mem_of_mem_take hx)).1) (fun x hx=>by have:=(b1 x (List.mem_of_mem_take hx)).2;omega)
   have s2:=z333 q a.acc.length (by omega) (by omega) (fun x hx=>(b2 x hx).1) (fun x hx=>by have:=(b2 x hx).2;omega)
   have e1:(stL (p.take (p.length - 1)) a.acc.length).length=(p.take (p.length - 1)).length:=by simp [stL]
   have e2:(stL q a.acc.length).length=q.length:=by simp [stL]
   show CallsA _ _ _ _ (.tup [.agg [.sref 0 0 (stL (p.take (p.length - 1)) a.acc.length).length,.sref 1 0 (stL q a.acc.length).length],.bool true]) [.cells 1 ((stL (p.take (p.length - 1)) a.acc.length).map enI),.cells 1 ((stL q a.acc.length).map enI)]
   rw [e1,e2]
   generalize stL (p.take (p.length - 1)) a.acc.length=S1 at *
   generalize stL q a.acc.length=S2 at *
   generalize p.take (p.length - 1)=p' at *
   refine z7 z14 Tryz.func38 rfl rfl 50 Tryz.ntmps38 (by simp) ?_
   repeat' ((first|(apply y81 ok;rfl)|(apply z4 (k0);rfl;rfl)|(apply z4 (k1);rfl;rfl)|((first|(apply z95 [] [1,3] [4,5] k2;(focus ((repeat' first|exact z72|apply z48)<;>rfl));rfl)|(apply z95 [] [3,4] [6] s1;(focus ((repeat' first|exact z72|apply z48)<;>first|exact z117 rfl rfl rfl|rfl));rfl)|(apply z95 [] [3,5] [7] s2;(focus ((repeat' first|exact z72|apply z48)<;>first|exact z117 rfl rfl rfl|rfl));rfl));rfl;(focus ((repeat' first|exact z16|apply z15)<;>(refine z19 ?_;((exact z5 fun _=>rfl)))));((refine .inr ⟨rfl,?_⟩;repeat' first|exact True.intro|apply y41|exact z166 (fun _=>rfl) _))))<;>conv=>whnf)
   all_goals (refine rsD [6,7] [] rfl ?_;(repeat' first|exact y83 _|exact z11 _|refine z8 rfl (z5 (fun _=>rfl)) ?_|constructor))
 ·have hgl:=(y69 _).mp hgl
  rw [hgl] at k0
  have e1:ftO g l a=none:=by unfold ftO;rw [hgl];rfl
  unfold ftL
  rw [e1]
  show CallsA _ _ _ _ (.tup [.agg [.sref 0 0 0,.sref 1 0 0],.bool false]) [.cells 1 [],.cells 1 []]
  refine z7 z14 Tryz.func38 rfl rfl 50 Tryz.ntmps38 (by simp) ?_
  repeat' ((first|(apply y81 ok;rfl)|(apply z4 (k0);rfl;rfl))<;>conv=>whnf)
  all_goals (refine y86 1 ?_;refine y86 1 ?_;refine rsD [3,4] [] rfl ?_;(repeat' first|exact y83 _|exact z37|refine z8 rfl (z24) ?_|apply z36|apply z69|constructor))
def z1162 (rows:List (List Int)) (ini:List Int) (acc:List Bool):Prop:=∀ x,RP rows ini x→Cyc rows x→acc.getD (x % acc.length).toNat false=false
theorem z1151 (acc:List Bool) {x:Int} (hx:0≤x):acc.getD (x % acc.length).toNat false=acc.getD (x.toNat % acc.length) false:=by
 obtain ⟨i,rfl⟩:∃ i:Nat,x=i:=⟨x.toNat,by omega⟩
 rw [← Int.natCast_emod,y74,y74]
section
variable {rows:List (List Int)} {ini:List Int} {acc:List Bool} {R:List Int}
theorem cert_nn (hr:∀ r∈rows,InN rows.length r) (hi:InN rows.length ini) (h:z574 rows ini acc rows.length R) {x:Int} (hx:RP rows ini x):0≤rk R x:=by
 obtain ⟨h1,h2,h3,h4⟩:=h
 induction hx with
 |base hb=>exact h3 _ hb
 |step hx e ih =>
  rename_i x y
  have hxN:=RP.in hr hi hx
  have e1:rk R x=R[x.toNat]'(by omega):=by unfold rk;rw [z17 (by omega)]
  rw [e1] at ih
  exact (h4 x.toNat (by omega) ih y e).1
theorem z759 (hr:∀ r∈rows,InN rows.length r) (hi:InN rows.length ini) (h:z574 rows ini acc rows.length R) {x y:Int} (hx:RP rows ini x) (e:y∈rows.getD x.toNat []):rk R y+wtA acc x≤rk R x:=by
 have h0:=cert_nn hr hi h hx
 obtain ⟨h1,h2,h3,h4⟩:=h
 have hxN:=RP.in hr hi hx
 have e1:rk R x=R[x.toNat]'(by omega):=by unfold rk;rw [z17 (by omega)]
 rw [e1] at h0 ⊢
 have:=(h4 x.toNat (by omega) h0 y e).2
 unfold wtA
 rw [z1151 acc hxN.1]
 unfold less at this
 split at this<;>split<;>simp_all<;>omega
theorem z1132 (hr:∀ r∈rows,InN rows.length r) (hi:InN rows.length ini) (h:z574 rows ini acc rows.length R) {x y:Int} (hx:RP rows ini x) (hy:RP rows [x] y):rk R y≤rk R x:=by
 induction hy with
 |base hb=>rw [List.mem_singleton.1 hb];exact Int.le_refl _
 |@step a b h1 e ih =>
  have h3:=z759 hr hi h (RP.trans0 hx h1) e
  have h4:=wtA_nn acc a
  omega
theorem z988 (hr:∀ r∈rows,InN rows.length r) (hi:InN rows.length ini) (h:z574 rows ini acc rows.length R):z1162 rows ini acc:=by
 rintro x hx ⟨y,hy,hyx⟩
 have h1:=z759 hr hi h hx hy
 have h2:=z1132 hr hi h (.step hx hy) hyx
 have h3:wtA acc x=0:=by have:=wtA_nn acc x;omega
 unfold wtA at h3
 split at h3
 ·omega
 ·simp_all
theorem z671 (k:Nat):∀ u,Wt rows acc k u≤k:=by
 induction k with
 |zero=>intro u;exact Int.le_refl _
 |succ k ih =>
  intro u
  rw [Wt]
  refine z194 (by omega) fun v hv=>?_
  have:=ih v
  have:wtA acc u≤1:=by unfold wtA;split<;>omega
  omega
theorem z411 (z:Int):(rkL rows ini acc z).length=rows.length:=by simp [rkL]
theorem z809 (z:Int) {u:Int} (hu:0≤u∧u < rows.length):rk (rkL rows ini acc z) u=if RP rows ini u then Wt rows acc (bfsL rows ini).length u else z:=by
 unfold rk
 rw [z17 (by rw [z411];omega)]
 simp only [rkL,List.getElem_map,List.getElem_range,Int.toNat_of_nonneg hu.1]
theorem z1052 (z:Int) {i:Nat} (hi:i < rows.length):(rkL rows ini acc z).getD i 0=if RP rows ini (i:Int) then Wt rows acc (bfsL rows ini).length i else z:=by
 have:=z809 (rows:=rows) (ini:=ini) (acc:=acc) z (u:=(i:Int)) ⟨by omega,by omega⟩
 unfold rk at this
 rwa [y74] at this
theorem rkL_cert (hr:∀ r∈rows,InN rows.length r) (hi:InN rows.length ini) (hno:z1162 rows ini acc) (hN:rows.length≤4000):z574 rows ini acc rows.length (rkL rows ini acc (-1)):=by
 have hm:=z299 hr hi rows.length
 refine ⟨z411 _,fun x hx=>?_,fun x hx=>?_,fun i hil h0 y hy=>?_⟩
 ·obtain ⟨i,hil,rfl⟩:=List.mem_iff_getElem.1 hx
  have hil' : i < rows.length:=by rw [z411] at hil;exact hil
  rw [← z17 (d:=0) hil,z1052 _ hil']
  split
  ·have h1:=z672 (rows:=rows) (acc:=acc) (bfsL rows ini).length (i:Int)
   have h2:=z671 (rows:=rows) (acc:=acc) (bfsL rows ini).length (i:Int)
   unfold bfsL at h1 h2 ⊢
   omega
  ·omega
 ·rw [z809 _ (hi x hx),if_pos (.base hx)]
  exact z672 _ _
 ·have hil' : i < rows.length:=by rw [z411] at hil;exact hil
  have hiy:=z198 hr (i:Int) y (by rw [y74];exact hy)
  rw [← z17 (d:=0) hil,z1052 _ hil'] at h0 ⊢
  split at h0
  ·rename_i hp
   rw [if_pos hp]
   have hpy:RP rows ini y:=.step hp (by rw [y74];exact hy)
   rw [z809 _ hiy,if_pos hpy]
   refine ⟨z672 _ _,?_⟩
   have h1:=z1153 hr hi hno hp
   have h2:Wt rows acc (bfsL rows ini).length y+wtA acc i≤Wt rows acc ((bfsL rows ini).length+1) i:=(z96 (fun v=>Wt rows acc (bfsL rows ini).length v+wtA acc i) (rows.getD (i:Int).toNat []) 0).2 y (by rw [y74];exact hy)
   rw [h1] at h2
   unfold wtA at h2
   rw [z1151 acc (by omega),y74] at h2
   unfold less
   split at h2<;>split<;>simp_all<;>omega
  ·omega
end
end Go.Proofs.YtjhgpfaodkchjaaGreat
namespace Go.Proofs.YtjhgpfaodkchjaaGreat
open Go.Gl
attribute [local irreducible] z18 AWP z41 z46 z44 RetS z51
attribute [local irreducible] EndR
theorem z691 {g:Graph} {ls:List Int} {a:Aut} (hr:∀ r∈z30 g ls a,InN (z30 g ls a).length r) (hi:InN (z30 g ls a).length a.ini) (hn:a.ini.Nodup) (h:trcO g ls a=none):z1162 (z30 g ls a) a.ini a.acc:=by
 unfold trcO at h
 rw [Option.map_eq_none_iff,← z461 hr hi hn,z723] at h
 intro x hx hc
 have hxN:=RP.in hr hi hx
 have:=h x ((z143 hr hi x).2 hx)
 cases hb:a.acc.getD (x % a.acc.length).toNat false with
 |false=>rfl
 |true =>
  exfalso
  apply this
  refine ⟨hb,z385.2 ?_⟩
  rw [Int.toNat_of_nonneg hxN.1];exact hc
set_option maxHeartbeats 6400000 in
theorem z740 (g:Graph) (hg:g.mx) (l:List Tree) (hl:Lmx l) (a:Aut) (ha:a.mx):CallsA Tryz.prog 32 [.agg g.cs,lst 3 Tree.cs' l,.agg a.cs] [] (.tup [.agg [.sref 0 0 (mkR g l a).length],.bool (mkOk g l a)]) [.cells 1 ((mkR g l a).map enI)]:=by
 have k0:=z425 g hg l hl a ha
 by_cases hgl:(glB g l && autB a)=true
 ·rw [hgl] at k0
  obtain ⟨h1,hab⟩:=Bool.and_eq_true_iff.1 hgl
  have hG:=(z114 g).1 (by unfold glB at h1;exact (Bool.and_eq_true_iff.1 h1).1)
  have hL:=y7 (by unfold glB at h1;exact (Bool.and_eq_true_iff.1 h1).2)
  have hA:=z130.1 hab
  have k1:CallsA Tryz.prog 38 [.agg g.cs,lst 3 Tree.cs' l,.agg a.cs] [] (.tup [.agg (ftL g l a).cs,.bool (ftO g l a).isSome]) []:=(by refine y4 (z233 g hg l hl a ha) [] [0,1] rfl rfl rfl ?_ ?_<;>(repeat' first|exact y83 _|((apply z43 rfl rfl rfl);(focus ((repeat ((exact z32 (fun _=>rfl) _)));done));(focus (((simp;done));done)))|apply z36|apply z69|constructor))
  have k2:=z415 g hG l hL a hA
  obtain ⟨f1,f2,f3,f4,f5⟩:=z165 hG hA (g.st.map (z39 l))
  have hnd:=hA.2.2.1.nd
  have hac:=hA.1
  have hft:ftO g l a=trcO g (g.st.map (z39 l)) a:=by unfold ftO;rw [if_pos hgl]
  have hmk:mkOk g l a=!(trcO g (g.st.map (z39 l)) a).isSome:=by unfold mkOk;rw [hgl];rfl
  have hno:=z691 (g:=g) (ls:=g.st.map (z39 l)) (a:=a) f1 f2 hnd
  have hmR:mkR g l a=if mkOk g l a=true then z563 (z30 g (g.st.map (z39 l)) a) a.ini a.acc else []:=rfl
  rw [hft] at k1
  rw [hmk] at hmR ⊢
  generalize ftL g l a=tl at *
  generalize mkR g l a=MR at *
  generalize trcO g (g.st.map (z39 l)) a=tO at *
  cases tO with
  |some p =>
   have e:MR=[]:=hmR
   subst e
   show CallsA _ _ _ _ (.tup [.agg [.sref 0 0 0],.bool false]) [.cells 1 []]
   refine z7 z14 Tryz.func32 rfl rfl 122 Tryz.ntmps32 (by simp) ?_
   repeat' ((first|(apply y81 ok;rfl)|(apply z4 (k0);rfl;rfl)|(apply z4 (k1);rfl;rfl))<;>conv=>whnf)
   all_goals (refine y86 1 ?_;refine rsD [4] [] rfl ?_;(repeat' first|exact y83 _|exact z37|refine z8 rfl (z24) ?_|apply z36|apply z69|constructor))
  |none =>
   have hno:=hno rfl
   have e:MR=z563 (z30 g (g.st.map (z39 l)) a) a.ini a.acc:=hmR
   rw [z898 f1 f2 hno] at e
   subst e
   generalize hrows:z30 g (g.st.map (z39 l)) a=rows at *
   clear hmR hmk hft hrows
   have k3':=z626 rows a.ini f1 f2 (by omega) f4 f5
   rw [← z414 rows a.ini] at k3'
   have k3:CallsA Tryz.prog 76 [lst 1 encL rows,ints a.ini] [] (lst 1 enB (z209 rows a.ini)) []:=(by refine y4 (k3') [] [0] rfl rfl rfl ?_ ?_<;>(repeat' first|exact y83 _|((apply z43 rfl rfl rfl);(focus ((repeat ((exact z32 (fun _=>rfl) _)));done));(focus (((simp;done));done)))|constructor))
   clear k3'
   have k4:CallsA Tryz.prog 77 [lst 1 encL rows,ints a.ini] [] (ints (bfsL rows a.ini)) []:=(by refine y4 (z715 rows a.ini f1 f2 (by omega) f4 (by omega)) [] [0] rfl rfl rfl ?_ ?_<;>(repeat' first|exact y83 _|((apply z43 rfl rfl rfl);(focus ((repeat ((exact z32 (fun _=>rfl) _)));done));(focus (((simp;done));done)))|constructor))
   have hQl:=z299 f1 f2 rows.length
   show CallsA _ _ _ _ (.tup [.agg [.sref 0 0 (rkL rows a.ini a.acc (-1)).length],.bool true]) [.cells 1 ((rkL rows a.ini a.acc (-1)).map enI)]
   refine z7 z14 Tryz.func32 rfl rfl 122 Tryz.ntmps32 (by simp) ?_
   repeat' ((first|(apply y81 ok;rfl)|(apply y41;(dsimp only;omega))|(apply z4 (k0);rfl;rfl)|(apply z4 (k1);rfl;rfl)|(apply z4 (k2);rfl;rfl)|(apply z4 (k3);rfl;rfl)|(apply z4 (k4);rfl;rfl))<;>conv=>whnf)
   have hQ4:(bfsL rows a.ini).length≤3840:=by unfold bfsL;omega
   have k5:=back_ok (bfsL rows a.ini) (by unfold maxLen;omega)
   have hRI:=RoundI.init (rows:=rows) (ini:=a.ini) (acc:=a.acc) f1 f2
   refine z64 (fun x:Nat×List Int×Bool=>([(5,.ptr 0 none 0),(6,.ptr 1 none 0),(10,.ptr 2 none 0),(11,.ptr 3 none 0),(13,lst 1 enB (z209 rows a.ini)),(14,.ptr 5 none 0),(15,ints (bfsL rows a.ini)),(16,.ptr 6 none 0)],[.cells 3 [a.cs],.cells 1 [[.nils]],.cells 1 [[.int a.acc.length]],.cells 1 [[lst 1 encL rows]],.cells 1 (x.2.1.map enI),.cells 1 [[.sref 4 0 rows.length]],.cells 1 [[.bool x.2.2]]])) (fun x=>RoundI rows a.ini a.acc x.1 x.2.1 x.2.2) (fun x=>match x.2.2 with
    |true=>(bfsL rows a.ini).length+1 - x.1+1
    |false=>0) (0,List.replicate rows.length 0,true) hRI (by refine swR [1,2,4,5,6,7,8] [] rfl rfl ?_;(repeat' first|exact y83 _|apply y84|refine z8 rfl (z79 rfl) ?_|constructor)<;>((refine z49 ?_;rw [y74,List.map_replicate];rfl))) ?_
   rintro ⟨t,R,c⟩ hI
   dsimp only at hI
   dsimp only
   have hRl:=hI.rk.len
   cases c with
   |false =>
    obtain ⟨qm,hqm⟩:∃ qm:Nat→Nat→Int,qm=fun (i j:Nat)=>if j < i∧¬ RP rows a.ini (j:Int) then -1 else R.getD j 0:=⟨_,rfl⟩
    have q0:fnL rows.length (qm 0)=R:=by
     apply y72 (by rw [z100];exact hRl.symm)
     intro i h1 h2
     rw [z422,hqm]
     dsimp only
     rw [if_neg (by omega),z17 h2]
    have qE:fnL rows.length (qm rows.length)=rkL rows a.ini a.acc (-1):=by
     apply y72 (by rw [z100,z411])
     intro i h1 h2
     have hi' : i < rows.length:=by rw [z100] at h1;exact h1
     rw [z422,← z17 (d:=0) h2,z1052 _ hi',hqm]
     dsimp only
     by_cases hp:RP rows a.ini (i:Int)
     ·rw [if_neg (by simp [hp]),if_pos hp]
      have:=hI.fin rfl (i:Int) hp
      rwa [y74] at this
     ·rw [if_pos ⟨hi',hp⟩,if_neg hp]
    have qT:∀ i:Nat,¬ RP rows a.ini (i:Int)→qm (i+1)=upd (qm i) i (-1):=fun i hp=>by
     funext j
     by_cases h2:j=i
     ·subst h2;rw [z27,hqm];dsimp only;rw [if_pos ⟨by omega,hp⟩]
     ·rw [z47 _ _ h2,hqm];dsimp only
      by_cases h3:j < i
      ·simp only [show j < i+1 by omega,h3]
      ·simp only [show ¬ j < i+1 by omega,h3]
    have qF:∀ i:Nat,RP rows a.ini (i:Int)→qm (i+1)=qm i:=fun i hp=>by
     funext j
     rw [hqm];dsimp only
     by_cases h2:j=i
     ·subst h2;rw [if_neg (by simp [hp]),if_neg (by simp [hp])]
     ·by_cases h3:j < i
      ·simp only [show j < i+1 by omega,h3]
      ·simp only [show ¬ j < i+1 by omega,h3]
    clear hqm
    have hbl:=z414 rows a.ini
    repeat' (((apply y81 ok;rfl))<;>conv=>whnf)
    refine z64 (fun i:Nat=>([(6,.ptr 0 none 0),(13,lst 1 enB (z209 rows a.ini)),(14,.ptr 1 none 0),(107,.int rows.length),(108,.int i)],[.cells 1 [[.nils]],.cells 1 [[.sref 2 0 rows.length]],.cells 1 ((fnL rows.length (qm i)).map enI)])) (fun i=>i≤rows.length) (fun i=>rows.length - i) 0 (y51 _) (by refine swR [1,5,4] [] rfl rfl ?_;(repeat' first|exact y83 _|apply y84|refine z8 rfl (z5 (fun _=>rfl)) ?_|constructor)<;>((refine z49 ?_;rw [q0]))) ?_
    intro i hi
    by_cases hil:i < rows.length
    ·have gm:((z209 rows a.ini).map enB)[i]?=some (enB (decide (RP rows a.ini (i:Int)))):=by
      rw [y49,y43 (by omega)]
      simp [z209]
     have g1:=z161 (qm i) hil
     have l1:=z100 rows.length (qm i)
     by_cases hp:RP rows a.ini (i:Int)
     ·rw [y78 hp] at gm
      have e:=qF i hp
      generalize z209 rows a.ini=rb at *
      repeat' ((first|(apply y81 ok;rfl)|(refine z13 (i:=i) rfl gm ?_)|(apply y41;first|omega|(unfold inI;omega))|((apply z6)<;>intro _))<;>conv=>whnf)
      all_goals try (exfalso;omega)
      all_goals refine z26 (i+1) hil (by show rows.length - (i+1) < rows.length - i;omega) (by refine swR [0,1,2] [] rfl rfl ?_;(repeat' first|exact y83 _|apply y84|refine z8 rfl (z5 (fun _=>rfl)) ?_|constructor)<;>((rw [e];(repeat' (exact z11 _)))))
     ·rw [y79 hp] at gm
      have e1:=z141 (N:=rows.length) (u:=i) (qm i) (-1)
      rw [← qT i hp] at e1
      generalize z209 rows a.ini=rb at *
      repeat' ((first|(apply y81 ok;rfl)|(refine z13 (i:=i) rfl gm ?_)|(refine z13 (i:=i) rfl g1 ?_)|(apply y41;first|omega|(unfold inI;omega))|((apply z6)<;>intro _))<;>conv=>whnf)
      all_goals try (exfalso;omega)
      all_goals refine z26 (i+1) hil (by show rows.length - (i+1) < rows.length - i;omega) (by refine swR [0,1,2] [] rfl rfl ?_;(repeat' first|exact y83 _|apply y84|refine z61 rfl (z5 (fun _=>rfl)) ?_|constructor)<;>((refine z49 ?_;exact e1)))
    obtain rfl:i=rows.length:=by omega
    rw [qE,z411]
    repeat' ((first|(apply y81 ok;rfl)|(apply y41;omega)|((first|(with_reducible apply z9;omega)|(apply z9;omega));intro _)|((first|apply z6|apply z89)<;>intro _))<;>conv=>whnf)
    all_goals try (exfalso;omega)
    all_goals (refine rsD [2] [] rfl ?_;(repeat' first|exact y83 _|exact z11 _|refine z8 rfl (z5 (fun _=>rfl)) ?_|constructor))
   |true =>
    have hps:=hI.pass f1 f2 hno
    have hlt:=hI.lt rfl
    repeat' ((first|(apply y81 ok;rfl)|(apply z40 [] [7] k5;rfl;rfl;rfl))<;>conv=>whnf)
    refine y82 (SealW.reach (env:=[(5,.ptr 1 none 0),(6,.ptr 2 none 0),(10,.ptr 3 none 0),(11,.ptr 4 none 0),(13,lst 1 enB (z209 rows a.ini)),(14,.ptr 6 none 0),(15,ints (bfsL rows a.ini)),(16,.ptr 7 none 0),(59,.fn (.func 155) [] [.ptr 0 none 0])]) (objs:=[.cells 1 [[ints (bfsL rows a.ini)]],.cells 3 [a.cs],.cells 1 [[.nils]],.cells 1 [[.int a.acc.length]],.cells 1 [[lst 1 encL rows]],.cells 1 (R.map enI),.cells 1 [[.sref 5 0 rows.length]],.cells 1 [[.bool false]]]) [7,0,1,2,3,4,5,6] [] rfl rfl rfl rfl ?_ ?_) ?_
    ·(repeat' first|exact y83 _|constructor)
    ·(repeat' first|exact y83 _|exact z11 _|apply y84|refine z8 rfl (z5 (fun _=>rfl)) ?_|constructor)
    refine z669 (M:=8) (L:=bfsL rows a.ini) back1 ⟨_,_,Tryz.func155,rfl,rfl⟩ rfl (Nat.le_of_ble_eq_true rfl) (Nat.le_of_ble_eq_true rfl) (by unfold maxLen;omega) (by kernel_rfl) (by decide)
     (fun x:List Int×Bool=>[.cells 3 [a.cs],.cells 1 [[.nils]],.cells 1 [[.int a.acc.length]],.cells 1 [[lst 1 encL rows]],.cells 1 (x.1.map enI),.cells 1 [[.sref 5 0 rows.length]],.cells 1 [[.bool x.2]]])
     (fun k x=>pst rows a.acc (bfsL rows a.ini) R k=x) (R,false) rfl (fun _=>rfl) (z888 _ _) ?_ ?_
    ·intro k x hk hx
     have hpi:=pst_inv (acc:=a.acc) f1 f2 hno hI.rk (k+1)
     have hpg:=z627 f1 f2 hRl hI.gr ((bfsL rows a.ini).length - (k+1)) (k+1) (by omega)
     have hst:=z887 (rows:=rows) (acc:=a.acc) (R:=R) hk
     rw [hx] at hpi hpg hst
     obtain ⟨R1,c1⟩:=x
     dsimp only at hpi hpg ⊢
     have hu:=(z143 f1 f2 _).1 (y42 hk)
     generalize (bfsL rows a.ini)[k]=u at *
     have huN:=RP.in f1 f2 hu
     have hRl1:=hpi.len
     rw [z453] at hst
     dsimp only at hst
     have hgu:=hpg u hu
     have hle:=z1049 (acc:=a.acc) (R:=R1) hu hpi.hi
     have hWs:=z671 (rows:=rows) (acc:=a.acc) ((bfsL rows a.ini).length+1) u
     have hrowR:∀ v∈rows.getD u.toNat [],RP rows a.ini v:=fun v hv=>.step hu hv
     have hv0:∀ v∈rows.getD u.toNat [],0≤R1.getD v.toNat 0∧R1.getD v.toNat 0≤4000:=fun v hv=>by
      have h1:=hpi.lo v (hrowR v hv)
      have h2:=hpi.hi v (hrowR v hv)
      have h3:=z672 (rows:=rows) (acc:=a.acc) t v
      have h4:=z671 (rows:=rows) (acc:=a.acc) (bfsL rows a.ini).length v
      omega
     have hrk:rkU rows a.acc R1 u=rkP R1 (rows.getD u.toNat [])+(if a.acc.getD (u % a.acc.length).toNat false=true∧0 < (rows.getD u.toNat []).length then 1 else 0):=rk_impl fun v hv=>(hv0 v hv).1
     have hm0:0≤u % (a.acc.length:Int):=Int.emod_nonneg _ (by omega)
     have hm1:u % (a.acc.length:Int) < a.acc.length:=Int.emod_lt_of_pos _ (by omega)
     have ga:(a.acc.map enB)[(u % (a.acc.length:Int)).toNat]?=some (enB (a.acc.getD (u % (a.acc.length:Int)).toNat false)):=by
      rw [y49,y43 (by omega),z17 (by omega)];rfl
     have grow:(rows.map encL)[u.toNat]?=some (encL (rows.getD u.toNat [])):=by
      rw [y49,y43 (by omega),z17 (by omega)];rfl
     have gu:(R1.map enI)[u.toNat]?=some (enI (R1.getD u.toNat 0)):=by
      rw [y49,y43 (by omega),z17 (by omega)];rfl
     have hrb:(rows.getD u.toNat []).length≤1000000000:=by rw [z17 (by omega)];exact f4 _ (y42 _)
     have hrN:∀ v∈rows.getD u.toNat [],0≤v∧v < rows.length:=fun v hv=>RP.in f1 f2 (hrowR v hv)
     clear hrowR hle hpg hpi hx hps hI hRI hQl
     rw [hrk] at hst hgu
     clear hrk
     generalize rows.getD u.toNat []=row at *
     generalize a.acc.getD (u % (a.acc.length:Int)).toNat false=z at *
     have hpr:∀ j,0≤rkP R1 (row.take j)∧rkP R1 (row.take j)≤4000:=fun j=>⟨(z96 _ _ _).1,z194 (by omega) fun v hv=>(hv0 v (List.mem_of_mem_take hv)).2⟩
     repeat' ((first|(apply y81 ok;rfl)|(refine z13 (i:=u.toNat) rfl grow ?_)|(apply y41;omega))<;>conv=>whnf)
     refine z64 (fun j:Nat=>([(5,.ptr 1 none 0),(10,.ptr 3 none 0),(11,.ptr 4 none 0),(14,.ptr 6 none 0),(16,.ptr 7 none 0),(18,.int u),(19,.int (rkP R1 (row.take j))),(65,ints row),(66,.int row.length),(67,.int j)],[.cells 1 [[ints (bfsL rows a.ini)]],.cells 3 [a.cs],.cells 1 [[.nils]],.cells 1 [[.int a.acc.length]],.cells 1 [[lst 1 encL rows]],.cells 1 (R1.map enI),.cells 1 [[.sref 5 0 rows.length]],.cells 1 [[.bool c1]]])) (fun j=>j≤row.length) (fun j=>row.length - j) 0 (y51 _) (by refine swR [0,1,2,3,4,5,6,7] [] rfl rfl ?_;(repeat' first|exact y83 _|exact z11 _|apply y84|refine z8 rfl (z5 (fun _=>rfl)) ?_|constructor)) ?_
     intro j hj
     by_cases hjl:j < row.length
     ·have gv:(row.map enI)[j]?=some (enI row[j]):=by rw [y49,y43 hjl];rfl
      have hvN:=hrN _ (y42 hjl)
      have gR:(R1.map enI)[(row[j]).toNat]?=some (enI (R1.getD (row[j]).toNat 0)):=by
       rw [y49,y43 (by omega),z17 (by omega)];rfl
      have ht:=rkP_take (R:=R1) hjl
      have hp1:=hpr j
      have hv1:=hv0 _ (y42 hjl)
      generalize row[j]=v at *
      generalize rkP R1 (row.take j)=q1 at *
      generalize R1.getD v.toNat 0=rv at *
      repeat' ((first|(apply y81 ok;rfl)|(apply z31;kernel_rfl)|(refine z13 (i:=j) rfl gv ?_)|(refine z13 (i:=v.toNat) rfl gR ?_)|(apply y41;first|omega|(unfold inI;omega))|((first|(with_reducible apply z65;omega)|(apply z9;omega));intro _)|((first|apply z6|apply z35|apply z92)<;>intro _))<;>conv=>whnf)
      all_goals try (exfalso;omega)
      all_goals refine z26 (j+1) (by show j+1≤_;omega) (by show row.length - (j+1) < row.length - j;omega) (by refine swR [0,1,2,3,4,5,6,7] [] rfl rfl ?_;(repeat' first|exact y83 _|exact z11 _|(refine z107 ?_;omega)|apply y84|refine z8 rfl (z5 (fun _=>rfl)) ?_|constructor)<;>((rw [ht];(repeat' (fail)))))
     obtain rfl:j=row.length:=by omega
     rw [y54]
     have hp1:=hpr row.length
     rw [y54] at hp1
     clear hpr hv0 hrN
     generalize rkP R1 row=q at *
     have gs:∀ v,(R1.map enI).set u.toNat (enI v)=(R1.set u.toNat v).map enI:=fun v=>by rw [List.map_set]
     generalize R1.getD u.toNat 0=ru at *
     by_cases hz:z=true∧0 < row.length
     ·rw [if_pos hz] at hst hgu
      obtain ⟨rfl,hrl⟩:=hz
      by_cases hc:ru < q+1
      ·rw [if_pos hc] at hst
       have gs1:=gs (q+1)
       repeat' ((first|(apply y81 ok;rfl)|(apply z31;kernel_rfl)|(refine z13 (i:=u.toNat) rfl grow ?_)|(refine z13 (i:=(u % (a.acc.length:Int)).toNat) rfl ga ?_)|(refine z13 (i:=u.toNat) rfl gu ?_)|(apply y41;first|omega|(unfold inI;omega))|((first|(with_reducible apply z9;omega)|(apply z9;omega));intro _)|((first|apply z6|apply z35)<;>intro _))<;>conv=>whnf)
       all_goals try (exfalso;omega)
       all_goals exact EndR.mk (R1.set u.toNat (q+1),true) hst (by refine swR [0,1,2,3,4,5,6,7] [] rfl rfl ?_;(repeat' first|exact y83 _|apply y84|refine z61 rfl (z5 (fun _=>rfl)) ?_|refine z278 (by omega) ?_|constructor)<;>((refine z49 ?_;exact gs1)))
      ·rw [if_neg hc] at hst
       repeat' ((first|(apply y81 ok;rfl)|(apply z31;kernel_rfl)|(refine z13 (i:=u.toNat) rfl grow ?_)|(refine z13 (i:=(u % (a.acc.length:Int)).toNat) rfl ga ?_)|(refine z13 (i:=u.toNat) rfl gu ?_)|(apply y41;first|omega|(unfold inI;omega))|((first|(with_reducible apply z9;omega)|(apply z9;omega));intro _)|((first|apply z6|apply z35)<;>intro _))<;>conv=>whnf)
       all_goals try (exfalso;omega)
       all_goals exact EndR.mk (R1,c1) hst (by refine swR [0,1,2,3,4,5,6,7] [] rfl rfl ?_;(repeat' first|exact y83 _|exact z11 _|apply y84|refine z8 rfl (z5 (fun _=>rfl)) ?_|constructor))
     ·rw [if_neg hz,Int.add_zero] at hst hgu
      cases z with
      |true =>
       have hrl:row.length=0:=by
        rcases Nat.eq_zero_or_pos row.length with h|h
        ·exact h
        ·exact absurd ⟨rfl,h⟩ hz
       by_cases hc:ru < q
       ·rw [if_pos hc] at hst
        have gs1:=gs (q)
        repeat' ((first|(apply y81 ok;rfl)|(apply z31;kernel_rfl)|(refine z13 (i:=u.toNat) rfl grow ?_)|(refine z13 (i:=(u % (a.acc.length:Int)).toNat) rfl ga ?_)|(refine z13 (i:=u.toNat) rfl gu ?_)|(apply y41;omega)|((first|(with_reducible apply z9;omega)|(apply z9;omega));intro _)|((first|apply z6|apply z35)<;>intro _))<;>conv=>whnf)
        all_goals try (exfalso;omega)
        all_goals exact EndR.mk (R1.set u.toNat (q),true) hst (by refine swR [0,1,2,3,4,5,6,7] [] rfl rfl ?_;(repeat' first|exact y83 _|apply y84|refine z61 rfl (z5 (fun _=>rfl)) ?_|refine z278 (by omega) ?_|constructor)<;>((refine z49 ?_;exact gs1)))
       ·rw [if_neg hc] at hst
        repeat' ((first|(apply y81 ok;rfl)|(apply z31;kernel_rfl)|(refine z13 (i:=u.toNat) rfl grow ?_)|(refine z13 (i:=(u % (a.acc.length:Int)).toNat) rfl ga ?_)|(refine z13 (i:=u.toNat) rfl gu ?_)|(apply y41;omega)|((first|(with_reducible apply z9;omega)|(apply z9;omega));intro _)|((first|apply z6|apply z35)<;>intro _))<;>conv=>whnf)
        all_goals try (exfalso;omega)
        all_goals exact EndR.mk (R1,c1) hst (by refine swR [0,1,2,3,4,5,6,7] [] rfl rfl ?_;(repeat' first|exact y83 _|exact z11 _|apply y84|refine z8 rfl (z5 (fun _=>rfl)) ?_|constructor))
      |false =>
       by_cases hc:ru < q
       ·rw [if_pos hc] at hst
        have gs1:=gs (q)
        repeat' ((first|(apply y81 ok;rfl)|(apply z31;kernel_rfl)|(refine z13 (i:=(u % (a.acc.length:Int)).toNat) rfl ga ?_)|(refine z13 (i:=u.toNat) rfl gu ?_)|(apply y41;omega)|((first|(with_reducible apply z9;omega)|(apply z9;omega));intro _)|((first|apply z6|apply z35)<;>intro _))<;>conv=>whnf)
        all_goals try (exfalso;omega)
        all_goals exact EndR.mk (R1.set u.toNat (q),true) hst (by refine swR [0,1,2,3,4,5,6,7] [] rfl rfl ?_;(repeat' first|exact y83 _|apply y84|refine z61 rfl (z5 (fun _=>rfl)) ?_|refine z278 (by omega) ?_|constructor)<;>((refine z49 ?_;exact gs1)))
       ·rw [if_neg hc] at hst
        repeat' ((first|(apply y81 ok;rfl)|(apply z31;kernel_rfl)|(refine z13 (i:=(u % (a.acc.length:Int)).toNat) rfl ga ?_)|(refine z13 (i:=u.toNat) rfl gu ?_)|(apply y41;omega)|((first|(with_reducible apply z9;omega)|(apply z9;omega));intro _)|((first|apply z6|apply z35)<;>intro _))<;>conv=>whnf)
        all_goals try (exfalso;omega)
        all_goals exact EndR.mk (R1,c1) hst (by refine swR [0,1,2,3,4,5,6,7] [] rfl rfl ?_;(repeat' first|exact y83 _|exact z11 _|apply y84|refine z8 rfl (z5 (fun _=>rfl)) ?_|constructor))
    ·intro x hx
     rw [z886] at hx
     rw [hx] at hps
     obtain ⟨R1,c1⟩:=x
     dsimp only at hps ⊢
     conv=>whnf
     repeat' (((apply y81 ok;rfl))<;>conv=>whnf)
     have hμ:∀ c:Bool,(match c with
      |true=>(bfsL rows a.ini).length+1 - (t+1)+1
      |false=>0) < (bfsL rows a.ini).length+1 - t+1:=by
      intro c
      cases c
      ·show 0 < _;omega
      ·show (bfsL rows a.ini).length+1 - (t+1)+1 < _;omega
     all_goals refine z26 (t+1,R1,c1) hps (hμ c1) (by refine swR [1,2,3,4,5,6,8] [] rfl rfl ?_;(repeat' first|exact y83 _|exact z11 _|apply y84|refine z8 rfl (z5 (fun _=>rfl)) ?_|constructor))
 ·have e:mkOk g l a=false:=by unfold mkOk;rw [(y69 _).mp hgl];rfl
  have e2:mkR g l a=[]:=by unfold mkR;rw [e];rfl
  rw [e,e2]
  rw [(y69 _).mp hgl] at k0
  show CallsA _ _ _ _ (.tup [.agg [.sref 0 0 0],.bool false]) [.cells 1 []]
  refine z7 z14 Tryz.func32 rfl rfl 122 Tryz.ntmps32 (by simp) ?_
  repeat' ((first|(apply y81 ok;rfl)|(apply z4 (k0);rfl;rfl))<;>conv=>whnf)
  all_goals (refine y86 1 ?_;refine rsD [3] [] rfl ?_;(repeat' first|exact y83 _|exact z37|refine z8 rfl (z24) ?_|apply z36|apply z69|constructor))
end Go.Proofs.YtjhgpfaodkchjaaGreat
namespace Go.Proofs.YtjhgpfaodkchjaaGreat
open Go.Gl
attribute [local irreducible] z18 AWP z41 z46 z44
end Go.Proofs.YtjhgpfaodkchjaaGreat
namespace Go.Proofs.YtjhgpfaodkchjaaGreat
open Go.Gl
attribute [local irreducible] z18 AWP z41 z46 z44 RetS z51
theorem z796 (g:Graph) (hg:g.mx) (l:List Tree) (hl:Lmx l) (a:Aut) (ha:a.mx):CallsA Tryz.prog 34 [.agg g.cs,lst 3 Tree.cs' l,.agg a.cs] [] (.tup [.agg (Cert.mk (mkR g l a)).cs,.bool (mkOk g l a)]) []:=(by refine y4 (z700 g hg l hl a ha) [] [0] rfl rfl rfl ?_ ?_<;>(repeat' first|exact y83 _|((apply z43 rfl rfl rfl);(focus ((repeat ((exact z32 (fun _=>rfl) _)));done));(focus (((simp;done));done)))|apply z36|apply z69|constructor))
end Go.Proofs.YtjhgpfaodkchjaaGreat
namespace Go.Proofs.YtjhgpfaodkchjaaGreat
open Go.Gl
section
attribute [local irreducible] z18
end
end Go.Proofs.YtjhgpfaodkchjaaGreat
namespace Go.Proofs.YtjhgpfaodkchjaaGreat
open Go.Gl
attribute [local irreducible] z18 AWP z41 z46 z44
structure FmOk (t:Tree):Prop where
 mx:t.mx
 sz:t.sz≤1048576
theorem FmOk.of {t:Tree} (h:t.mx) (h1:t.sz≤1048576):FmOk t:=⟨h,h1⟩
end Go.Proofs.YtjhgpfaodkchjaaGreat
namespace Go.Proofs.YtjhgpfaodkchjaaGreat
open Go.Gl
section
attribute [local irreducible] z18 AWP z41 z46 z44
end
end Go.Proofs.YtjhgpfaodkchjaaGreat
namespace Go.Proofs.YtjhgpfaodkchjaaGreat
open Go.Gl
attribute [local irreducible] z18 AWP z41 z46 z44
end Go.Proofs.YtjhgpfaodkchjaaGreat
namespace Go.Proofs.YtjhgpfaodkchjaaGreat
open Go.Gl
attribute [local irreducible] z18 AWP z41 z46 z44 RetS z51
noncomputable def cyB (g:Graph) (l:List Tree) (f:Tree):Bool:=ngS f && mkOk g l (ngA f)
noncomputable def cyR (g:Graph) (l:List Tree) (f:Tree):List Int:=if ngS f=true then mkR g l (ngA f) else []
theorem cyR_le (g:Graph) (l:List Tree) (f:Tree):(Cert.mk (cyR g l f)).ranks.length≤3840:=by
 show (cyR g l f).length≤3840
 unfold cyR
 split
 ·exact z1075.2.1
 ·simp
theorem z528 (g:Graph) (hg:g.mx) (l:List Tree) (hl:Lmx l) (f:Tree) (hf:f.mx):CallsA Tryz.prog 11 [.agg g.cs,lst 3 Tree.cs' l,z25 Tree.cs' f] [] (.tup [.agg [.sref 0 0 (Cert.mk (cyR g l f)).ranks.length],.bool (cyB g l f)]) [.cells 1 ((Cert.mk (cyR g l f)).ranks.map enI)]:=by
 have cN:=z219 f hf
 have cM:=z740 g hg l hl (ngA f) (z894 f)
 show CallsA _ _ _ _ (.tup [.agg [.sref 0 0 (cyR g l f).length],_]) [.cells 1 ((cyR g l f).map enI)]
 unfold cyB cyR
 generalize mkOk g l (ngA f)=q at *
 generalize mkR g l (ngA f)=R at *
 generalize ngA f=a at *
 generalize ngS f=z at *
 rw [y14 f] at *
 cases z
 ·refine z7 z14 Tryz.func11 rfl rfl 24 Tryz.ntmps11 (by simp) ?_
  repeat' ((first|(apply y81 ok;rfl)|(apply z4 (cN);rfl;rfl))<;>conv=>whnf)
  all_goals (refine y86 1 ?_;refine rsD [4] [] rfl ?_;(repeat' first|exact y83 _|exact z37|refine z8 rfl (z24) ?_|apply z36|apply z69|constructor))
 ·refine z7 z14 Tryz.func11 rfl rfl 24 Tryz.ntmps11 (by simp) ?_
  repeat' ((first|(apply y81 ok;rfl)|(apply z4 (cN);rfl;rfl)|(apply z10 [] [4] cM;rfl;rfl;rfl;(focus ((repeat' first|exact z16|apply z15)<;>(refine z19 ?_;((exact z5 fun _=>rfl)))))))<;>conv=>whnf)
  all_goals (refine rsD [4] [] rfl ?_;(repeat' first|exact y83 _|exact z11 _|refine z8 rfl (z5 (fun _=>rfl)) ?_|constructor))
theorem z557 (g:Graph) (hg:g.mx) (l:List Tree) (hl:Lmx l) (f:Tree) (hf:f.mx):CallsA Tryz.prog 12 [.agg g.cs,lst 3 Tree.cs' l,z25 Tree.cs' f] [] (.tup [.agg (Cert.mk (cyR g l f)).cs,.bool (cyB g l f)]) []:=by
 have cN:=z556 f hf
 have cM:=z796 g hg l hl (ngA f) (z894 f)
 show CallsA _ _ _ _ (.tup [.agg [ints (cyR g l f)],_]) []
 unfold cyB cyR
 have e:(Cert.mk (mkR g l (ngA f))).cs=[ints (mkR g l (ngA f))]:=rfl
 rw [e] at cM
 clear e
 generalize mkOk g l (ngA f)=q at *
 generalize mkR g l (ngA f)=R at *
 generalize ngA f=a at *
 generalize ngS f=z at *
 rw [y14 f] at *
 cases z
 ·show CallsA _ _ _ _ (.tup [.agg [.list 1 0 []],_]) []
  refine z7 z14 Tryz.func12 rfl rfl 24 Tryz.ntmps12 (by simp) ?_
  repeat' ((first|(apply y81 ok;rfl)|(apply z4 (cN);rfl;rfl))<;>conv=>whnf)
  all_goals (refine rsD [] [] rfl ?_;(repeat' first|exact y83 _|exact z38|apply z36|apply z69|constructor))
 ·refine z7 z14 Tryz.func12 rfl rfl 24 Tryz.ntmps12 (by simp) ?_
  repeat' ((first|(apply y81 ok;rfl)|(apply z4 (cN);rfl;rfl)|(apply z4 (cM);rfl;rfl))<;>conv=>whnf)
  all_goals (refine rsD [] [] rfl ?_;(repeat' first|exact y83 _|constructor))
theorem z1104 {B:List Tree} {U:List Int} {n0:Nat} : ∀ (f i:Nat) (x y:TrS),f+i=65→ExI B U n0 i x→goS B U f i x=some y→∃ j,ExI B U n0 j y∧j≤64∧y.L.length≤j
 |0,i,x,y,_,_,h=>by simp [goS] at h
 |f+1,i,x,y,he,hI,h=>by
  rw [goS] at h
  split at h
  ·rename_i hi
   split at h
   ·cases h
   ·exact z1104 f (i+1) _ y (by omega) (hI.step hi).1 h
  ·cases h
   exact ⟨i,hI,by omega,by omega⟩
theorem z1025 (t:Tree) (hs:t.sz≤200) (h:tsB t=true):autB (trA t)=true:=by
 unfold tsB at h
 unfold trA
 unfold trO at *
 by_cases hb:bscB t=true
 ·rw [if_pos hb] at *
  obtain ⟨⟨ht,hn⟩,h5⟩:=of_decide_eq_true (show decide _=true from hb)
  obtain ⟨hB,_,_⟩:=z668 ht hn h5 hs
  generalize t.nrm false=g at *
  generalize bscL g=B at *
  cases hS:trS B g with
  |none=>rw [hS] at h;cases h
  |some y =>
   have hI0:ExI B (untB B) (iniS B g).length 0 ⟨iniS B g,[],[]⟩:=⟨z738 B g,y50 _,rfl,y51 _,y51 _,by show (iniS B g).length≤(iniS B g).length+0 * _;omega,fun e he=>by cases he⟩
   obtain ⟨j,hI,hj,hl⟩:=z1104 65 0 _ y rfl hI0 hS
   show autB (z482 (iniS B g).length y)=true
   unfold z482
   by_cases h0:y.L.length=0
   ·rw [if_pos h0]
    have h1:=hI.base
    have e1:(iniS B g).length=0:=by omega
    have h2:=hI.edl
    have h3:=hI.le
    have hj0:j=0:=by omega
    rw [hj0,Nat.zero_mul] at h2
    have e2:y.ed=[]:=y71 (by omega)
    rw [e1,e2,z130]
    exact ⟨⟨by decide,by decide⟩,by decide,fun i hi _=>by simp [numI] at hi,fun e he=>by cases he⟩
   ·rw [if_neg h0]
    by_cases h1:1≤(iniS B g).length
    ·exact ExI.valid hB hI h1 hj hl
    ·exfalso
     have e1:iniS B g=[]:=y71 (by omega)
     have:trS B g=some ⟨[],[],[]⟩:=by unfold trS;rw [e1];rfl
     rw [this] at hS
     cases hS
     exact h0 rfl
 ·rw [if_neg hb] at h;cases h
theorem z1070 {t:Tree} (h:ngS t=true):autB (ngA t)=true:=by
 unfold ngS at h
 rw [y68] at h
 unfold ngA
 rw [if_pos h.1]
 exact z1025 _ (by have:=z513 h.1;omega) h.2
noncomputable def vdI (g:Graph) (l:List Tree) (f:Tree):Int:=if (glB g l && f.fmB)=true then (if ngS f=true then (if (ftO g l (ngA f)).isSome=true then 1 else 0) else 2) else 3
noncomputable def vdT (g:Graph) (l:List Tree) (f:Tree):Trace:=if (glB g l && f.fmB)=true then (if ngS f=true then ftL g l (ngA f) else ⟨[],[]⟩) else ⟨[],[]⟩
theorem ftL_none {g:Graph} {l:List Tree} {a:Aut} (h:(ftO g l a).isSome=false):ftL g l a=⟨[],[]⟩:=by
 unfold ftL
 cases hf:ftO g l a with
 |none=>rfl
 |some x=>rw [hf] at h;cases h
set_option maxHeartbeats 3200000 in
theorem z565 (g:Graph) (hg:g.mx) (l:List Tree) (hl:Lmx l) (f:Tree) (hf:f.mx):CallsA Tryz.prog 14 [.agg g.cs,lst 3 Tree.cs' l,z25 Tree.cs' f] [] (.tup [.int (vdI g l f),.agg [.sref 0 0 (vdT g l f).stem.length,.sref 1 0 (vdT g l f).loop.length]]) [.cells 1 ((vdT g l f).stem.map enI),.cells 1 ((vdT g l f).loop.map enI)]:=by
 have c1:=z378 g hg
 have c2:=z332 l hl.1 hl.2
 have c3:=z137 f hf
 have cN:=z219 f hf
 have cF:=z233 g hg l hl (ngA f) (z894 f)
 have hno:=@ftL_none g l (ngA f)
 unfold vdI vdT
 unfold glB
 generalize ftL g l (ngA f)=tl at *
 generalize (ftO g l (ngA f)).isSome=tb at *
 generalize ngA f=a at *
 generalize ngS f=z at *
 rw [y14 f] at *
 generalize z379 g=b1 at *
 generalize z218 l=b2 at *
 generalize f.fmB=b3 at *
 cases b1
 ·refine z7 z14 Tryz.func14 rfl rfl 44 Tryz.ntmps14 (by simp) ?_
  repeat' ((first|(apply y81 ok;rfl)|(apply z4 (c1);rfl;rfl))<;>conv=>whnf)
  all_goals (refine y86 1 ?_;refine y86 1 ?_;refine rsD [3,4] [] rfl ?_;(repeat' first|exact y83 _|exact z37|refine z8 rfl (z24) ?_|apply z36|apply z69|constructor))
 cases b2
 ·refine z7 z14 Tryz.func14 rfl rfl 44 Tryz.ntmps14 (by simp) ?_
  repeat' ((first|(apply y81 ok;rfl)|(apply z4 (c1);rfl;rfl)|(apply z4 (c2);rfl;rfl))<;>conv=>whnf)
  all_goals (refine y86 1 ?_;refine y86 1 ?_;refine rsD [3,4] [] rfl ?_;(repeat' first|exact y83 _|exact z37|refine z8 rfl (z24) ?_|apply z36|apply z69|constructor))
 cases b3
 ·refine z7 z14 Tryz.func14 rfl rfl 44 Tryz.ntmps14 (by simp) ?_
  repeat' ((first|(apply y81 ok;rfl)|(apply z4 (c1);rfl;rfl)|(apply z4 (c2);rfl;rfl)|(apply z4 (c3);rfl;rfl))<;>conv=>whnf)
  all_goals (refine y86 1 ?_;refine y86 1 ?_;refine rsD [3,4] [] rfl ?_;(repeat' first|exact y83 _|exact z37|refine z8 rfl (z24) ?_|apply z36|apply z69|constructor))
 cases z
 ·refine z7 z14 Tryz.func14 rfl rfl 44 Tryz.ntmps14 (by simp) ?_
  repeat' ((first|(apply y81 ok;rfl)|(apply z4 (c1);rfl;rfl)|(apply z4 (c2);rfl;rfl)|(apply z4 (c3);rfl;rfl)|(apply z4 (cN);rfl;rfl))<;>conv=>whnf)
  all_goals (refine y86 1 ?_;refine y86 1 ?_;refine rsD [4,5] [] rfl ?_;(repeat' first|exact y83 _|exact z37|refine z8 rfl (z24) ?_|apply z36|apply z69|constructor))
 cases tb
 ·have hno:=hno rfl
  subst hno
  refine z7 z14 Tryz.func14 rfl rfl 44 Tryz.ntmps14 (by simp) ?_
  repeat' ((first|(apply y81 ok;rfl)|(apply z4 (c1);rfl;rfl)|(apply z4 (c2);rfl;rfl)|(apply z4 (c3);rfl;rfl)|(apply z4 (cN);rfl;rfl)|(apply z10 [] [4,5] cF;rfl;rfl;rfl;(focus ((repeat' first|exact z16|apply z15)<;>(refine z19 ?_;((exact z5 fun _=>rfl)))))))<;>conv=>whnf)
  all_goals (refine rsD [4,5] [] rfl ?_;(repeat' first|exact y83 _|exact z37|refine z8 rfl (z24) ?_|apply z36|apply z69|constructor))
 ·refine z7 z14 Tryz.func14 rfl rfl 44 Tryz.ntmps14 (by simp) ?_
  repeat' ((first|(apply y81 ok;rfl)|(apply z31;kernel_rfl)|(apply z4 (c1);rfl;rfl)|(apply z4 (c2);rfl;rfl)|(apply z4 (c3);rfl;rfl)|(apply z4 (cN);rfl;rfl)|(apply z10 [] [4,5] cF;rfl;rfl;rfl;(focus ((repeat' first|exact z16|apply z15)<;>(refine z19 ?_;((exact z5 fun _=>rfl)))))))<;>conv=>whnf)
  all_goals (refine rsD [4,5] [] rfl ?_;(repeat' first|exact y83 _|exact z11 _|refine z8 rfl (z5 (fun _=>rfl)) ?_|constructor))
end Go.Proofs.YtjhgpfaodkchjaaGreat
namespace Go.Proofs.YtjhgpfaodkchjaaGreat
open Go.Gl
attribute [local irreducible] z18 AWP z41 z46 z44
def pick (bl:List Int) (p:Int):Int:=bl.getD p.toNat 0
end Go.Proofs.YtjhgpfaodkchjaaGreat
namespace Go.Proofs.YtjhgpfaodkchjaaGreat
open Go.Gl
attribute [local irreducible] z18 AWP z41 z46 z44 RetS z51
def nxW (N s:Nat) (i:Nat):Int:=if i+1=N then (s:Int) else ((i+1:Nat):Int)
def pushW (a:Aut) (word:List Int) (s i:Nat):List (Nat×Int):=a.ed.flatMap (z319 a.acc.length i (word.getD i 0) (nxW word.length s i))
def accW (a:Aut) (word:List Int) (s:Nat):List (List Int):=build (word.length * a.acc.length) ((List.range word.length).flatMap (pushW a word s))
theorem nxW_in {N s i:Nat} (hs:s < N) (hi:i < N):0≤nxW N s i∧nxW N s i≤N - 1:=by unfold nxW;split<;>omega
theorem z1068 {g:Graph} {ls:List Int} {a:Aut} (hr:∀ r∈z30 g ls a,InN (z30 g ls a).length r) (hi:InN (z30 g ls a).length a.ini) (hn:a.ini.Nodup) (h:z1162 (z30 g ls a) a.ini a.acc):trcO g ls a=none:=by
 unfold trcO
 rw [Option.map_eq_none_iff,← z461 hr hi hn,z723]
 rintro v hv ⟨h1,h2⟩
 have hvN:=z395 hr hi _ v hv
 have hc:=z385.1 h2
 rw [Int.toNat_of_nonneg hvN.1] at hc
 have:=h v ((z143 hr hi v).1 hv) hc
 rw [h1] at this;cases this
structure MkF (g:Graph) (l:List Tree) (a:Aut):Prop where
 gl:(glB g l && autB a)=true
 f1:∀ r∈z30 g (g.st.map (z39 l)) a,InN (z30 g (g.st.map (z39 l)) a).length r
 f2:InN (z30 g (g.st.map (z39 l)) a).length a.ini
 f3:(z30 g (g.st.map (z39 l)) a).length≤3840
 len:(z30 g (g.st.map (z39 l)) a).length=g.st.length * a.acc.length
 no:z1162 (z30 g (g.st.map (z39 l)) a) a.ini a.acc
 eq:mkR g l a=rkL (z30 g (g.st.map (z39 l)) a) a.ini a.acc (-1)
theorem mk_facts {g:Graph} {l:List Tree} {a:Aut} (h:mkOk g l a=true):MkF g l a:=by
 have h0:=h
 unfold mkOk at h
 obtain ⟨h1,h2⟩:=Bool.and_eq_true_iff.1 h
 obtain ⟨h3,hab⟩:=Bool.and_eq_true_iff.1 h1
 have hG:=(z114 g).1 (by unfold glB at h3;exact (Bool.and_eq_true_iff.1 h3).1)
 have hA:=z130.1 hab
 obtain ⟨f1,f2,f3,f4,f5⟩:=z165 hG hA (g.st.map (z39 l))
 have hno:=z691 (g:=g) (ls:=g.st.map (z39 l)) (a:=a) f1 f2 hA.2.2.1.nd (by
  cases ht:trcO g (g.st.map (z39 l)) a with
  |none=>rfl
  |some p=>rw [ht] at h2;cases h2)
 refine ⟨h1,f1,f2,f3,by unfold z30;rw [z75,Nat.mul_comm],hno,?_⟩
 unfold mkR
 rw [if_pos h0,z898 f1 f2 hno]
theorem certB_gl {g:Graph} {l:List Tree} {a:Aut} {c:Cert} (h:z536 g l a c=true):mkOk g l a=true:=by
 unfold z536 at h
 obtain ⟨h1,h2⟩:=Bool.and_eq_true_iff.1 h
 obtain ⟨h3,hab⟩:=Bool.and_eq_true_iff.1 h1
 have hG:=(z114 g).1 (by unfold glB at h3;exact (Bool.and_eq_true_iff.1 h3).1)
 have hA:=z130.1 hab
 obtain ⟨f1,f2,f3,f4,f5⟩:=z165 hG hA (g.st.map (z39 l))
 have h2:=of_decide_eq_true h2
 rw [show g.st.length * a.acc.length=(z30 g (g.st.map (z39 l)) a).length by unfold z30;rw [z75,Nat.mul_comm]] at h2
 unfold mkOk
 rw [h1,z1068 f1 f2 hA.2.2.1.nd (z988 f1 f2 h2)];rfl
theorem mk_cert {g:Graph} {l:List Tree} {a:Aut} (h:mkOk g l a=true):z536 g l a ⟨mkR g l a⟩=true:=by
 have F:=mk_facts h
 unfold z536
 rw [F.gl,Bool.true_and]
 refine y78 ?_
 show z574 _ _ _ _ (mkR g l a)
 rw [F.eq,← F.len]
 exact rkL_cert F.f1 F.f2 F.no (by have:=F.f3;omega)
theorem z762 {N:Nat} {ps:List (Nat×Int)} {r:Nat} {y:Int} : y∈(build N ps).getD r []↔r < N∧(r,y)∈ps:=by
 by_cases h:r < N
 ·rw [z17 (by rw [z75];exact h),z392 (by rw [z75];exact h)]
  simp only [List.mem_map,List.mem_filter,beq_iff_eq,h,true_and]
  constructor
  ·rintro ⟨⟨p,v⟩,⟨h1,h2⟩,h3⟩
   dsimp only at h2 h3
   subst h2;subst h3;exact h1
  ·intro h1;exact ⟨(r,y),⟨h1,rfl⟩,rfl⟩
 ·have e:(build N ps).getD r []=[]:=by rw [y65,y66 (by rw [z75];omega)];rfl
  rw [e];simp [h]
section
variable {g:Graph} {ls:List Int} {a:Aut} {t:Trace}
end
end Go.Proofs.YtjhgpfaodkchjaaGreat
namespace Go.Proofs.YtjhgpfaodkchjaaGreat
open Go.Gl
attribute [local irreducible] z18 AWP z41 z46 z44 RetS z51
end Go.Proofs.YtjhgpfaodkchjaaGreat
namespace Go.Proofs.YtjhgpfaodkchjaaGreat
open Go.Gl
attribute [local irreducible] z18 AWP z41 z46 z44
theorem GB.row {g:Graph} (h:GB g):∀ i (hi:i < g.nx.length),1≤g.nx[i].length∧g.nx[i].length≤60∧InN g.st.length g.nx[i]:=fun i hi=>by
 obtain ⟨⟨g1,g2⟩,g3,g4⟩:=h
 have h4:=g4 i hi hi (by omega)
 refine ⟨by have:=h4.2.1;omega,by have:=h4.2.1;omega,fun x hx=>?_⟩
 obtain ⟨j,hj,rfl⟩:=List.mem_iff_getElem.1 hx
 have:=(h4.2.2.2 j hj hj).1
 omega
end Go.Proofs.YtjhgpfaodkchjaaGreat
namespace Go.Proofs.YtjhgpfaodkchjaaGreat
open Go.Gl
attribute [local irreducible] z18 AWP z41 z46 z44 RetS z51
theorem prod_inv {g:Graph} {ls:List Int} {a:Aut} {x y:Int} (hx:0≤x) (h:y∈(z30 g ls a).getD x.toNat []) (hA:AutP a):∃ (i:Nat) (to:Int) (e:Trans),i < g.st.length∧to∈g.nx.getD i []∧e∈a.ed∧onB e (ls.getD i 0)=true∧x / a.acc.length=i∧x % a.acc.length=e.src∧y / a.acc.length=to∧y % a.acc.length=e.dst:=by
 unfold z30 at h
 obtain ⟨_,h⟩:=z762.1 h
 unfold z506 at h
 obtain ⟨i,hi,h⟩:=List.mem_flatMap.1 h
 unfold z447 at h
 obtain ⟨to,hto,h⟩:=List.mem_flatMap.1 h
 unfold z507 at h
 obtain ⟨e,he,h⟩:=List.mem_flatMap.1 h
 unfold z319 at h
 split at h
 ·rename_i hon
  simp only [y53,Prod.mk.injEq] at h
  obtain ⟨h1,h2⟩:=h
  have hE:=hA.2.2.2 e he
  unfold z384 at hE
  have hac:=hA.1
  have hn:(a.acc.length:Int)≠0:=by omega
  have hm:((i * a.acc.length:Nat):Int)=(i:Int) * a.acc.length:=by simp
  have hxe:x=(i:Int) * a.acc.length+e.src:=by omega
  have d1:∀ (b q:Int),0≤q→q < a.acc.length→(b * a.acc.length+q) / (a.acc.length:Int)=b∧(b * a.acc.length+q) % (a.acc.length:Int)=q:=fun b q q0 q1 =>
   ⟨by rw [Int.add_comm,Int.add_mul_ediv_right _ _ hn,Int.ediv_eq_zero_of_lt q0 q1,Int.zero_add],by rw [Int.add_comm,Int.add_mul_emod_self_right,Int.emod_eq_of_lt q0 q1]⟩
  have k1:=d1 i e.src hE.1.1 (by omega)
  have k2:=d1 to e.dst hE.2.1.1 (by omega)
  exact ⟨i,to,e,List.mem_range.1 hi,hto,he,hon,by rw [hxe];exact k1.1,by rw [hxe];exact k1.2,by rw [h2];exact k2.1,by rw [h2];exact k2.2⟩
 ·cases h
structure FndP (g:Graph) (ls:List Int) (a:Aut) (s q:List Int):Prop where
 inn:∀ x∈s++q,0≤x
 path:PathP (z30 g ls a) (s++q)
 ini:(s++q).getD 0 0∈a.ini
 pos:0 < q.length
 back:q.getD 0 0∈(z30 g ls a).getD (q.getD (q.length - 1) 0).toNat []
 acc:a.acc.getD (q.getD 0 0 % a.acc.length).toNat false=true
section
variable {g:Graph} {ls:List Int} {a:Aut} {s q:List Int}
theorem FndP.step (h:FndP g ls a s q) {k:Nat} (hk:k < (s++q).length):(s++q).getD (nxW (s++q).length s.length k).toNat 0∈(z30 g ls a).getD ((s++q).getD k 0).toNat []:=by
 have hl:(s++q).length=s.length+q.length:=by simp
 have hsq:∀ j,(s++q).getD (s.length+j) 0=q.getD j 0:=fun j=>by
  rw [y65,y65,y64 (by omega),show s.length+j - s.length=j by omega]
 have hp:=h.pos
 unfold nxW
 split
 ·rename_i e
  rw [y74,show s.length=s.length+0 by omega,hsq,show k=s.length+(q.length - 1) by omega,hsq]
  exact h.back
 ·rw [y74];exact h.path k (by omega)
theorem FndP.word (hA:AutP a) (h:FndP g ls a s q) {w:List Int} (hw:w.length=(s++q).length) (hwl:∀ k,k < w.length→w.getD k 0=ls.getD ((s++q).getD k 0 / a.acc.length).toNat 0):∃ x,RP (accW a w s.length) a.ini x∧Cyc (accW a w s.length) x∧a.acc.getD (x % a.acc.length).toNat false=true:=by
 have hac:=hA.1
 have hn:(a.acc.length:Int)≠0:=by omega
 have hl:(s++q).length=s.length+q.length:=by simp
 have hp:=h.pos
 have hsq0:(s++q).getD s.length 0=q.getD 0 0:=by
  rw [y65,y65,y64 (y50 _),Nat.sub_self]
 obtain ⟨P,hP⟩:∃ P:Nat→Int,P=fun (k:Nat)=>(k:Int) * a.acc.length+(s++q).getD k 0 % a.acc.length:=⟨_,rfl⟩
 have hP0:∀ k,0≤P k:=fun k=>by
  rw [hP]
  have:=Int.mul_nonneg (show (0:Int)≤k by omega) (show (0:Int)≤a.acc.length by omega)
  have:=Int.emod_nonneg ((s++q).getD k 0) hn
  dsimp only;omega
 have hPm:∀ k,P k % (a.acc.length:Int)=(s++q).getD k 0 % a.acc.length:=fun k=>by
  rw [hP];dsimp only
  rw [Int.add_comm,Int.add_mul_emod_self_right,Int.emod_emod_of_dvd _ (Int.dvd_refl _)]
 have edge:∀ k,k < w.length→P (nxW w.length s.length k).toNat∈(accW a w s.length).getD (P k).toNat []:=fun k hk=>by
  have hst:=h.step (k:=k) (by omega)
  rw [← hw] at hst
  have hx0:=h.inn ((s++q).getD k 0) (by rw [z17 (by omega)];exact y42 _)
  obtain ⟨i,to,e,h1,h2,h3,h4,h5,h6,h7,h8⟩:=prod_inv hx0 hst hA
  have hE:=hA.2.2.2 e h3
  unfold z384 at hE
  have hnx:=nxW_in (N:=w.length) (s:=s.length) (i:=k) (by omega) hk
  have hon:onB e (w.getD k 0)=true:=by rw [hwl k hk,h5,y74];exact h4
  have hm:((k * a.acc.length:Nat):Int)=(k:Int) * a.acc.length:=by simp
  have e1:(P k).toNat=k * a.acc.length+e.src.toNat:=by
   rw [hP];dsimp only;rw [h6];omega
  have e2:P (nxW w.length s.length k).toNat=nxW w.length s.length k * a.acc.length+e.dst:=by
   rw [hP];dsimp only;rw [h8,Int.toNat_of_nonneg hnx.1]
  rw [e1,e2]
  unfold accW
  refine z762.2 ⟨?_,List.mem_flatMap.2 ⟨k,List.mem_range.2 hk,?_⟩⟩
  ·have h9:(k+1) * a.acc.length≤w.length * a.acc.length:=Nat.mul_le_mul_right _ hk
   rw [Nat.add_mul,Nat.one_mul] at h9
   omega
  ·unfold pushW
   refine List.mem_flatMap.2 ⟨e,h3,?_⟩
   unfold z319
   rw [if_pos hon];simp
 have rp:∀ k,k < w.length→RP (accW a w s.length) a.ini (P k):=by
  intro k
  induction k with
  |zero =>
   intro _
   refine .base ?_
   have hi:=h.ini
   obtain ⟨j,hj,e⟩:=List.mem_iff_getElem.1 hi
   have h5:=(hA.2.2.1 j hj hj).1
   rw [e] at h5
   have:P 0=(s++q).getD 0 0:=by rw [hP];dsimp only;rw [Int.emod_eq_of_lt h5.1 (by omega)];simp
   rw [this];exact hi
  |succ k ih =>
   intro hk
   have:=edge k (by omega)
   unfold nxW at this
   rw [if_neg (by omega),y74] at this
   exact .step (ih (by omega)) this
 have round:∀ d k,k+d+1=w.length→s.length≤k→RP (accW a w s.length) [P k] (P s.length):=by
  intro d
  induction d with
  |zero =>
   intro k hk _
   have:=edge k (by omega)
   unfold nxW at this
   rw [if_pos (by omega),y74] at this
   exact .step (.base (by simp)) this
  |succ d ih =>
   intro k hk hs
   have:=edge k (by omega)
   unfold nxW at this
   rw [if_neg (by omega),y74] at this
   exact RP.trans (.base (by simp)) this (ih (k+1) (by omega) (by omega))
 refine ⟨P s.length,rp _ (by omega),⟨_,edge s.length (by omega),?_⟩,by rw [hPm,hsq0];exact h.acc⟩
 unfold nxW
 split
 ·rw [y74];exact .base (by simp)
 ·rw [y74];exact round (w.length - (s.length+1) - 1) (s.length+1) (by omega) (by omega)
end
end Go.Proofs.YtjhgpfaodkchjaaGreat
namespace Go.Proofs.YtjhgpfaodkchjaaGreat
open Go.Gl
attribute [local irreducible] z18 AWP z41 z46 z44
def GPath (g:Graph) (π:Nat→Int):Prop:=π 0=0∧∀ k,π (k+1)∈g.nx.getD (π k).toNat []
theorem GPath.inn {g:Graph} (hG:GB g) {π:Nat→Int} (h:GPath g π):∀ k,0≤π k∧π k < g.st.length
 |0=>by have:=hG.1;rw [h.1];omega
 |k+1=>by
  have ih:=GPath.inn hG h k
  have hl:=hG.2.1
  have h1:=h.2 k
  rw [z17 (by omega)] at h1
  exact (hG.row _ (by omega)).2.2 _ h1
end Go.Proofs.YtjhgpfaodkchjaaGreat
namespace Go.Proofs.YtjhgpfaodkchjaaGreat
open Go.Gl
attribute [local irreducible] z18 AWP z41 z46 z44 RetS z51
set_option maxHeartbeats 3200000 in
theorem z1120 (bs:List Int) (hb:CodeOk bs):∃ (g:Graph) (l:List Tree) (f:Tree),(g.d∧Lab.d l∧f.sz≤22)∧CallsA Tryz.prog 21 [lst 1 enU bs] [] (.tup [.agg g.cs,lst 3 Tree.cs' l,z25 Tree.cs' f]) []:=by
 have co:=z969 bs hb.len
 have hbt:=hb.take
 generalize bs.take 2000=b0 at *
 obtain ⟨l,p1,⟨l1,l2,l3,l4⟩,c1⟩:=z826 b0 hbt 0 ⟨by omega,by omega⟩
 obtain ⟨f0,p2,⟨a1,a2,a3⟩,c2⟩:=z729 b0 hbt p1 ⟨by omega,by omega⟩
 obtain ⟨f,p3,⟨b1,b2,b3⟩,cm⟩:=z831 b0 hbt p2 ⟨by omega,by omega⟩ f0 (by omega)
 obtain ⟨g0,g,p4,p5,cg0,cg,hg,q1,q2⟩:=mutG_ok b0 hbt p3 ⟨by omega,by omega⟩
 refine ⟨g,l,f,⟨hg,⟨l1,l2⟩,by omega⟩,?_⟩
 rw [y14 f] at *
 rw [y14 f0] at *
 refine z7 z14 Tryz.func21 rfl rfl 22 Tryz.ntmps21 (by simp) ?_
 repeat' ((first|(apply y81 ok;rfl)|(apply z31;kernel_rfl)|((first|(apply z40 [] [2] co;rfl;rfl)|(apply z40 [2] [] c1;rfl;rfl)|(apply z40 [2] [] c2;rfl;rfl)|(apply z40 [2] [] cm;rfl;rfl)|(apply z40 [2] [] cg0;rfl;rfl)|(apply z40 [2] [] cg;rfl;rfl));rfl))<;>conv=>whnf)
 all_goals (refine rsD [] [] rfl ?_;(repeat' first|exact y83 _|constructor))
theorem z652 (g:Graph) (hg:g.mx) (l:List Tree) (hl:Lmx l) (f:Tree) (hf:f.mx):CallsA Tryz.prog 14 [.agg g.cs,lst 3 Tree.cs' l,z25 Tree.cs' f] [] (.tup [.int (vdI g l f),.agg (vdT g l f).cs]) []:=(by refine y4 (z565 g hg l hl f hf) [] [0,1] rfl rfl rfl ?_ ?_<;>(repeat' first|exact y83 _|((apply z43 rfl rfl rfl);(focus ((repeat ((exact z32 (fun _=>rfl) _)));done));(focus (((simp;done));done)))|apply z36|apply z69|constructor))
end Go.Proofs.YtjhgpfaodkchjaaGreat
