/- A part of the proofs over this program: T158, T159, T160, T94W, T29, T94K, T161, T186, T162, T163, T164, T170, T201, T29A, T29C, T202, T166. -/
import Derived.Test.YtahhobgjcfionaaGreatG0
import Derived.Test.YtahhobgjcfionaaGreatG1
import Derived.Test.YtahhobgjcfionaaGreatG2
import Derived.Test.YtahhobgjcfionaaGreatG3
import Derived.Test.YtahhobgjcfionaaGreatP0
import Derived.Test.YtahhobgjcfionaaGreatP1
import Derived.Test.YtahhobgjcfionaaGreatP2
import Derived.Test.YtahhobgjcfionaaGreatP3
import Derived.Test.YtahhobgjcfionaaGreatP4
import Derived.Test.YtahhobgjcfionaaGreatP5
import Derived.Test.YtahhobgjcfionaaGreatP6
import Derived.Test.YtahhobgjcfionaaGreatRows
import Derived.WalkKit
import Derived.ProofKit
import Derived.Deep.DeepHandedRow
import Derived.Lib.LaidTab
set_option linter.all false
namespace Go.Proofs.YtahhobgjcfionaaGreat
open Go.Gl
attribute [local irreducible] z29 AWP z46 z50 z47 RetS z58
theorem rowAt {rows:List (List Int)} {v:Int} (hv:0≤v∧v < rows.length):(rows.map encL)[v.toNat]?=some (encL (rows.getD v.toNat [])):=by
 rw [y44,y38 (by omega),z14 (by omega)];rfl
theorem rowLen {rows:List (List Int)} {M:Nat} (hrl:∀ r∈rows,r.length≤M) (v:Int):(rows.getD v.toNat []).length≤M:=by
 by_cases h:v.toNat < rows.length
 ·rw [z14 h];exact hrl _ (y37 _)
 ·rw [y60,y61 (by omega)];exact y46 _
set_option maxHeartbeats 3200000 in
theorem z969 (rows:List (List Int)) (v:Int) (hr:∀ r∈rows,InN rows.length r) (hv:0≤v∧v < rows.length) (hN:rows.length≤100000) (hrl:∀ r∈rows,r.length≤1000000000):CallsA Tryz.prog 149 [lst 1 encL rows,.int v] [] (ints (cycL rows v)) []:=by
 have hg:=rowAt hv
 have hl:=fun w=>rowLen hrl w
 have c1:=z662 (rows.getD v.toNat []) (by have:=hl v;unfold maxLen;omega) v
 have hlv:=hl v
 have c2:=z450 rows [v] hr (z286 hv) (by simp) hN hrl
 have hQ:=z581 hr (z286 hv) (by simp)
 have hB:=z632 hr (z286 hv) (by simp)
 have hPl:=z1038 hr (z286 hv) (by simp)
 have hQl:=z810 hr (z286 hv) (by simp)
 have c3:=fun k hk=>z747 (srP rows [v]) (by omega) rows.length _ (hB k hk) (by omega)
 unfold cycL
 by_cases h:v∈rows.getD v.toNat []
 ·rw [if_pos h]
  rw [y73 h] at c1
  generalize rows.getD v.toNat []=r0 at *
  refine z7 z15 Tryz.func149 rfl rfl 45 Tryz.ntmps149 (by simp) ?_
  repeat' ((first|(apply y76 ok;rfl)|(refine z12 (i:=v.toNat) (by simp) hg ?_)|(apply y36;omega)|(apply z6 (c1);rfl;rfl))<;>conv=>whnf)
  all_goals (refine rsD [] [0] rfl ?_;(repeat' first|exact y78 _|constructor))
 ·rw [if_neg h]
  rw [y74 h] at c1
  generalize hr0:rows.getD v.toNat []=r0 at hg c1 hlv
  generalize srQ rows [v]=Q at *
  generalize srP rows [v]=P at *
  generalize hR:cycT rows P v Q=R
  refine z7 z15 Tryz.func149 rfl rfl 45 Tryz.ntmps149 (by simp) ?_
  repeat' ((first|(apply y76 ok;rfl)|(refine z12 (i:=v.toNat) (by simp) hg ?_)|(apply y36;omega)|(apply z6 (c1);rfl;rfl)|(apply z112 [] [0] [1,2] c2;(focus ((repeat' first|exact z84|apply z56)<;>rfl));rfl;rfl;(focus ((repeat' first|exact z17|apply z16)<;>(refine z23 ?_;((exact z4 fun _=>rfl)))));((refine .inr ⟨rfl,?_⟩;repeat' first|exact True.intro|apply y36|exact z121 (fun _=>rfl) _))))<;>conv=>whnf)
  refine z65 (fun i:Nat=>([(0,lst 1 encL rows),(1,.int v),(5,ints P),(6,ints Q),(7,.int i)],[])) (fun i=>i≤Q.length∧cycT rows P v (Q.drop i)=R) (fun i=>Q.length - i) 0 ⟨y46 _,hR⟩ (by refine swR [] [1,2] rfl rfl ?_;(repeat' first|exact y78 _|((apply z36 rfl rfl rfl);(focus ((repeat ((exact z31 (fun _=>rfl) _)));done));(focus (((simp;done));done)))|constructor)) ?_
  rintro i ⟨hi1,hi2⟩
  by_cases hi3:i < Q.length
  ·have hq:=hQ _ (y37 hi3)
   have hgq:=rowAt hq
   have c4:=z662 (rows.getD Q[i].toNat []) (by have:=hl Q[i];unfold maxLen;omega) v
   have hlq:=hl Q[i]
   have c5:=c3 i hi3
   rw [y71 hi3,cycT] at hi2
   have hgi:(Q.map enI)[i]?=some (enI Q[i]):=by rw [y44,y38 hi3];rfl
   generalize Q[i]=u at *
   by_cases hm:v∈rows.getD u.toNat []
   ·rw [if_pos hm] at hi2
    rw [y73 hm] at c4
    subst hi2
    generalize rows.getD u.toNat []=r1 at *
    repeat' ((first|(apply y76 ok;rfl)|(refine z12 (i:=u.toNat) (by simp) hgq ?_)|(refine z12 (i:=i) (by simp) hgi ?_)|(apply y36;omega)|((apply z5)<;>intro _)|(apply z6 (c4);rfl;rfl)|(apply z6 (c5);rfl;rfl))<;>conv=>whnf)
    all_goals try (exfalso;omega)
    all_goals (refine rsD [] [] rfl ?_;(repeat' first|exact y78 _|constructor))
   ·rw [if_neg hm] at hi2
    rw [y74 hm] at c4
    generalize rows.getD u.toNat []=r1 at *
    repeat' ((first|(apply y76 ok;rfl)|(refine z12 (i:=u.toNat) (by simp) hgq ?_)|(refine z12 (i:=i) (by simp) hgi ?_)|(apply y36;first|omega|(unfold inI;omega))|((apply z5)<;>intro _)|(apply z6 (c4);rfl;rfl))<;>conv=>whnf)
    all_goals try (exfalso;omega)
    all_goals refine z25 (i+1) ⟨hi3,hi2⟩ (by omega) (by refine swR [] [] rfl rfl ?_;(repeat' first|exact y78 _|constructor))
  ·have e:Q.length=i:=by omega
   subst e
   rw [List.drop_length,cycT] at hi2
   subst hi2
   repeat' ((first|(apply y76 ok;rfl)|(apply y36;omega)|((first|(with_reducible apply z8;omega)|(with_reducible apply z55;omega));intro _)|((apply z5)<;>intro _))<;>conv=>whnf)
   all_goals try (exfalso;omega)
   all_goals (refine rsD [] [0] rfl ?_;(repeat' first|exact y78 _|constructor))
theorem z524 (l:List Int) (n:Nat) (hl:l.length≤1000000) (hn:1≤n) (h0:∀ x∈l,0≤x) (h1:∀ x∈l,x≤1000000000):CallsA Tryz.prog 151 [ints l,.int n] [] (.sref 0 0 l.length) [.cells 1 ((stL l n).map enI)]:=by
 refine z7 z15 Tryz.func151 rfl rfl 24 Tryz.ntmps151 (by simp) ?_
 repeat' (((apply y76 ok;rfl))<;>conv=>whnf)
 refine z65 (fun x:Nat×List Int=>([(0,ints l),(1,.int n),(5,.sref 0 0 x.2.length),(6,.int x.1)],[.cells 1 (x.2.map enI)])) (fun x=>x.1≤l.length∧x.2.length=x.1∧x.2=stL (l.take x.1) n) (fun x=>l.length - x.1) (0,[]) ⟨y46 _,rfl,rfl⟩ (by refine swR [0] [] rfl rfl ?_;(repeat' first|exact y78 _|refine z10 rfl (z34) ?_|constructor)) ?_
 rintro ⟨i,F⟩ ⟨hi1,hF1,hF2⟩
 dsimp only at hi1 hF1 hF2 ⊢
 by_cases hi2:i < l.length
 ·have a0:=h0 _ (y37 hi2)
  have a1:=h1 _ (y37 hi2)
  have a2:0≤l[i] / (n:Int):=Int.ediv_nonneg a0 (by omega)
  have a3:l[i] / (n:Int)≤l[i]:=Int.ediv_le_self _ a0
  have hF3:stL (l.take (i+1)) n=F++[l[i] / n]:=by rw [hF2,stL,y43 hi2,y56];rfl
  repeat' ((first|(apply y76 ok;rfl)|(apply y36;first|omega|(unfold inI;omega)|((try dsimp only);simp only [y42,y41,y40,y39,y51,y52];omega)|exact ⟨rfl,z19 rfl z26⟩)|(((with_reducible apply z8;omega));intro _)|((apply z5)<;>intro _))<;>conv=>whnf)
  all_goals try (exfalso;omega)
  all_goals refine z25 (i+1,F++[l[i] / n]) ⟨hi2,by rw [y40,hF1];rfl,hF3.symm⟩ (by show l.length - (i+1) < l.length - i;omega) (by refine swR [2] [] rfl rfl ?_;(repeat' first|exact y78 _|(refine z38 ?_;((simp;done)))|((refine z33 rfl ?_ ?_);(focus ((repeat' (first|exact z4 (fun _=>rfl)|apply z22));done)))|(refine z76 ?_ ?_;(focus (omega)))|constructor))
 ·have e:l.length=i:=by omega
  subst e
  rw [y49] at hF2
  subst hF2
  repeat' ((first|(apply y76 ok;rfl)|(apply y36;omega)|(((with_reducible apply z8;omega));intro _)|((apply z5)<;>intro _))<;>conv=>whnf)
  all_goals try (exfalso;omega)
  all_goals (refine rsD [0] [] rfl ?_;(repeat' first|exact z9 _|(refine z38 ?_;(omega))|refine z10 rfl (z4 (fun _=>rfl)) ?_|constructor))
theorem IniP.nd {l:List Int} {n:Int} (h:IniP l n l.length):l.Nodup:=by
 have hs:∀ d i (hi:i+d+1 < l.length),l[i] < l[i+d+1]:=by
  intro d
  induction d with
  |zero=>intro i hi;exact (h (i+1) hi hi).2 i rfl
  |succ d ih =>
   intro i hi
   have h1:=ih i (by omega)
   have h2:=(h (i+(d+1)+1) hi hi).2 (i+d+1) (by omega)
   omega
 rw [List.nodup_iff_pairwise_ne,List.pairwise_iff_getElem]
 intro i j hi hj hij
 have:=hs (j - i - 1) i (by omega)
 have e:i+(j - i - 1)+1=j:=by omega
 simp only [e] at this
 omega
noncomputable def trcO (g:Graph) (ls:List Int) (a:Aut):Option (List Int×List Int):=(finS (z27 g ls a) a.ini a.acc).map fun x=>(stL (x.1.take (x.1.length - 1)) a.acc.length,stL x.2 a.acc.length)
noncomputable def trcL (g:Graph) (ls:List Int) (a:Aut):List Int×List Int:=(trcO g ls a).getD ([],[])
set_option maxHeartbeats 6400000 in
theorem z746 (g:Graph) (hG:GB g) (ls:List Int) (hls:ls.length=g.st.length) (hlr:∀ x∈ls,0≤x∧x≤7) (a:Aut) (hA:AutP a):CallsA Tryz.prog 74 [.agg g.cs,ints ls,.agg a.cs] [] (.tup [.agg [ints (trcL g ls a).1,ints (trcL g ls a).2],.bool (trcO g ls a).isSome]) []:=by
 have k2:=z215 g hG ls hls hlr a hA
 obtain ⟨f1,f2,f3,f4,f5⟩:=z117 hG hA ls
 have hlen:(z27 g ls a).length=g.st.length * a.acc.length:=by unfold z27;rw [z71,Nat.mul_comm]
 have hnd:=hA.2.2.1.nd
 have hac:=hA.1
 unfold trcL trcO finS
 generalize z27 g ls a=rows at *
 have k3:=z839 rows a.ini f1 f2 hnd (by omega) f4
 have hQ:=z581 f1 f2 hnd
 have hB:=z632 f1 f2 hnd
 have hPl:=z1038 f1 f2 hnd
 have hQl:=z810 f1 f2 hnd
 have hPle:=z1034 f1 f2 hnd rows.length
 have k4:=fun v hv=>z969 rows v f1 hv (by omega) f4
 have k5:=fun k hk=>z747 (srP rows a.ini) (by omega) rows.length _ (hB k hk) (by omega)
 have n4:=fun v hv=>z1133 f1 (v:=v) hv
 have m4:=fun v hv=>z1134 f1 (v:=v) hv
 change ∀ y∈srP rows a.ini,y≤(rows.length:Int) at hPle
 generalize srQ rows a.ini=Q at *
 generalize srP rows a.ini=P at *
 generalize hR:finT rows a.acc P Q=R
 refine z7 z15 Tryz.func74 rfl rfl 72 Tryz.ntmps74 (by simp) ?_
 repeat' ((first|(apply y76 ok;rfl)|(apply z6 (k2);rfl;rfl)|(apply z6 (k3);rfl;rfl))<;>conv=>whnf)
 refine z65 (fun i:Nat=>([(5,.ptr 0 none 0),(6,.ptr 1 none 0),(8,.int a.acc.length),(9,lst 1 encL rows),(10,ints P),(11,ints Q),(12,.int i)],[.cells 3 [a.cs],.cells 2 [[.nils,.nils]]])) (fun i=>i≤Q.length∧finT rows a.acc P (Q.drop i)=R) (fun i=>Q.length - i) 0 ⟨y46 _,hR⟩ (by refine swR [1,2] [] rfl rfl ?_;(repeat' first|exact y78 _|apply y79|constructor)) ?_
 rintro i ⟨hi1,hi2⟩
 by_cases hi3:i < Q.length
 ·have hq:=hQ _ (y37 hi3)
  have c5:=k5 i hi3
  rw [y71 hi3,finT] at hi2
  have hgi:(Q.map enI)[i]?=some (enI Q[i]):=by rw [y44,y38 hi3];rfl
  generalize Q[i]=u at *
  have hm0:0≤u % (a.acc.length:Int):=Int.emod_nonneg _ (by omega)
  have hm1:u % (a.acc.length:Int) < a.acc.length:=Int.emod_lt_of_pos _ (by omega)
  have hga:(a.acc.map enB)[(u % (a.acc.length:Int)).toNat]?=some (enB (a.acc.getD (u % (a.acc.length:Int)).toNat false)):=by
   rw [y44,y38 (by omega),z14 (by omega)];rfl
  have c4:=k4 u hq
  have l4:=z675 rows u
  have b1:=z548 P rows.length u []
  simp only [y52,Nat.add_zero] at b1
  have b2:=z547 P rows.length u []
  have b3:=z930 (P:=P) rows.length u [] hq.1 (fun x hx=>by cases hx)
  have b4:=z931 hPle rows.length u [] (by omega) (by omega) (fun x hx=>by cases hx)
  have n5:=n4 u hq
  have m5:=m4 u hq
  generalize bkw P rows.length u []=b at *
  generalize cycL rows u=c at *
  have c6:=z524 (b.take (b.length - 1)) a.acc.length (by rw [y41];omega) (by omega) (fun x hx=>b3 x (List.mem_of_mem_take hx)) (fun x hx=>by have:=b4 x (List.mem_of_mem_take hx);omega)
  rw [show (b.take (b.length - 1)).length=b.length - 1 by rw [y41];omega] at c6
  have eL:AC.list 1 (((b.length:Int) - 1).toNat - Int.toNat 0) (List.take (((b.length:Int) - 1).toNat - Int.toNat 0) (List.drop (Int.toNat 0) (List.map enI b)))=ints (b.take (b.length - 1)):=by
   rw [show ((b.length:Int) - 1).toNat - Int.toNat 0=b.length - 1 by rw [show Int.toNat 0=0 from rfl];omega]
   show _=AC.list 1 (b.take (b.length - 1)).length ((b.take (b.length - 1)).map enI)
   rw [show (b.take (b.length - 1)).length=b.length - 1 by rw [y41];omega,List.map_take];rfl
  rw [← eL] at c6
  have hs1:(stL (b.take (b.length - 1)) a.acc.length).length=b.length - 1:=by rw [stL,y42,y41];omega
  have hs2:(stL c a.acc.length).length=c.length:=by rw [stL,y42]
  have c7:=z524 c a.acc.length (by omega) (by omega) n5 (fun x hx=>by have:=m5 x hx;omega)
  generalize a.acc.getD (u % (a.acc.length:Int)).toNat false=z at *
  cases z
  ·rw [if_neg (by simp)] at hi2
   repeat' ((first|(apply y76 ok;rfl)|(apply z21;kernel_rfl)|(refine z12 (i:=i) (by simp) hgi ?_)|(refine z12 (i:=(u % (a.acc.length:Int)).toNat) (by simp) hga ?_)|(apply y36;first|omega|(unfold inI;omega))|((apply z5)<;>intro _))<;>conv=>whnf)
   all_goals try (exfalso;omega)
   all_goals refine z25 (i+1) ⟨hi3,hi2⟩ (by omega) (by refine swR [0,1] [] rfl rfl ?_;(repeat' first|exact y78 _|apply y79|constructor))
  ·rw [if_pos rfl] at hi2
   by_cases hc:0 < c.length
   ·rw [if_pos hc] at hi2
    subst hi2
    repeat' ((first|(apply y76 ok;rfl)|(apply z21;kernel_rfl)|(refine z12 (i:=i) (by simp) hgi ?_)|(refine z12 (i:=(u % (a.acc.length:Int)).toNat) (by simp) hga ?_)|(apply y36;first|omega|(unfold inI;omega))|((apply z5)<;>intro _)|(apply z6 (c4);rfl;rfl)|(apply z6 (c5);rfl;rfl)|((first|(apply z11 [] [2] c6;rfl;rfl)|(apply z11 [] [3] c7;rfl;rfl));rfl;(focus ((repeat' first|exact z17|apply z16)<;>(refine z23 ?_;((exact z4 fun _=>rfl)))))))<;>conv=>whnf)
    all_goals try (exfalso;omega)
    all_goals (refine rsD [] [2,3] rfl ?_;(repeat' first|exact y78 _|(refine z239 ?_;omega)|((apply z36 rfl rfl rfl);(focus ((repeat ((exact z31 (fun _=>rfl) _)));done));(focus (((simp;omega));done)))|apply z41|apply z92|constructor))
   ·rw [if_neg hc] at hi2
    repeat' ((first|(apply y76 ok;rfl)|(apply z21;kernel_rfl)|(refine z12 (i:=i) (by simp) hgi ?_)|(refine z12 (i:=(u % (a.acc.length:Int)).toNat) (by simp) hga ?_)|(apply y36;first|omega|(unfold inI;omega))|((apply z5)<;>intro _)|(apply z6 (c4);rfl;rfl)|(apply z6 (c5);rfl;rfl))<;>conv=>whnf)
    all_goals try (exfalso;omega)
    all_goals refine z25 (i+1) ⟨hi3,hi2⟩ (by omega) (by refine swR [0,1] [] rfl rfl ?_;(repeat' first|exact y78 _|apply y79|constructor))
 ·have e:Q.length=i:=by omega
  subst e
  rw [List.drop_length,finT] at hi2
  subst hi2
  repeat' ((first|(apply y76 ok;rfl)|(apply z21;kernel_rfl)|(apply y36;omega)|((first|(with_reducible apply z8;omega)|(with_reducible apply z55;omega));intro _)|((first|apply z5|apply z87)<;>intro _))<;>conv=>whnf)
  all_goals try (exfalso;omega)
  all_goals (refine rsD [] [] rfl ?_;(repeat' first|exact y78 _|exact z53|apply z41|apply z92|constructor))
set_option maxHeartbeats 3200000 in
theorem z1090 (R row:List Int) (z:Bool) {M:Int} (hB:Bd M R) (hM:0≤M) (hM2:M≤1000000000) (hr:InN R.length row) (hRl:R.length≤100000) (hrl:row.length≤1000000000):CallsA Tryz.prog 171 [ints row,ints R,.bool z] [] (.int (rkOf R z row)) []:=by
 refine z7 z15 Tryz.func171 rfl rfl 31 Tryz.ntmps171 (by simp) ?_
 repeat' (((apply y76 ok;rfl))<;>conv=>whnf)
 refine z65 (fun i:Nat=>([(0,ints row),(1,ints R),(2,.bool z),(7,.int ((row.take i).foldl (z236 R z) 0)),(8,.int i)],[])) (fun i=>i≤row.length) (fun i=>row.length - i) 0 (y46 _) (by refine swR [] [] rfl rfl ?_;(repeat' first|exact y78 _|constructor)) ?_
 intro i hi
 by_cases hi2:i < row.length
 ·have hx:=hr _ (y37 hi2)
  have hb:=hB.getD hM row[i].toNat
  have ho:=z506 hB hM (z:=z) (row.take i) 0 ⟨by omega,by omega⟩
  have hs:(row.take (i+1)).foldl (z236 R z) 0=z236 R z ((row.take i).foldl (z236 R z) 0) row[i]:=by rw [y43 hi2,y55];rfl
  have hg:(row.map enI)[i]?=some (enI row[i]):=by rw [y44,y38 hi2];rfl
  have hg2:(R.map enI)[row[i].toNat]?=some (enI (R.getD row[i].toNat 0)):=by rw [y44,y38 (by omega),z14 (by omega)];rfl
  generalize (row.take i).foldl (z236 R z) 0=o at *
  generalize row[i]=v at *
  rw [show z236 R z o v=(if o < R.getD v.toNat 0+(if z=true then 1 else 0) then R.getD v.toNat 0+(if z=true then 1 else 0) else o) from rfl] at hs
  generalize R.getD v.toNat 0=r at *
  cases z
  ·simp only [if_neg (show ¬ false=true by simp),Int.add_zero] at hs
   by_cases hlt:o < r
   ·rw [if_pos hlt] at hs
    repeat' ((first|(apply y76 ok;rfl)|(refine z12 (i:=i) (by simp) hg ?_)|(refine z12 (i:=v.toNat) (by simp) hg2 ?_)|(apply y36;first|omega|(unfold inI;omega))|((apply z5)<;>intro _))<;>conv=>whnf)
    all_goals try (exfalso;omega)
    all_goals refine z25 (i+1) hi2 (by omega) (by refine swR [] [] rfl rfl ?_;(repeat' first|exact y78 _|(refine z105 ?_;omega)|constructor)<;>((rw [hs];exact y78 _)))
   ·rw [if_neg hlt] at hs
    repeat' ((first|(apply y76 ok;rfl)|(refine z12 (i:=i) (by simp) hg ?_)|(refine z12 (i:=v.toNat) (by simp) hg2 ?_)|(apply y36;first|omega|(unfold inI;omega))|((apply z5)<;>intro _))<;>conv=>whnf)
    all_goals try (exfalso;omega)
    all_goals refine z25 (i+1) hi2 (by omega) (by refine swR [] [] rfl rfl ?_;(repeat' first|exact y78 _|(refine z105 ?_;omega)|constructor)<;>((rw [hs];exact y78 _)))
  ·simp only [if_pos] at hs
   by_cases hlt:o < r+1
   ·rw [if_pos hlt] at hs
    repeat' ((first|(apply y76 ok;rfl)|(refine z12 (i:=i) (by simp) hg ?_)|(refine z12 (i:=v.toNat) (by simp) hg2 ?_)|(apply y36;first|omega|(unfold inI;omega))|((apply z5)<;>intro _))<;>conv=>whnf)
    all_goals try (exfalso;omega)
    all_goals refine z25 (i+1) hi2 (by omega) (by refine swR [] [] rfl rfl ?_;(repeat' first|exact y78 _|(refine z105 ?_;omega)|constructor)<;>((rw [hs];exact y78 _)))
   ·rw [if_neg hlt] at hs
    repeat' ((first|(apply y76 ok;rfl)|(refine z12 (i:=i) (by simp) hg ?_)|(refine z12 (i:=v.toNat) (by simp) hg2 ?_)|(apply y36;first|omega|(unfold inI;omega))|((apply z5)<;>intro _))<;>conv=>whnf)
    all_goals try (exfalso;omega)
    all_goals refine z25 (i+1) hi2 (by omega) (by refine swR [] [] rfl rfl ?_;(repeat' first|exact y78 _|(refine z105 ?_;omega)|constructor)<;>((rw [hs];exact y78 _)))
 ·have e:row.length=i:=by omega
  subst e
  rw [y49]
  repeat' ((first|(apply y76 ok;rfl)|(apply y36;omega)|((first|(with_reducible apply z8;omega)|(with_reducible apply z55;omega));intro _)|((first|apply z5|apply z87)<;>intro _))<;>conv=>whnf)
  all_goals try (exfalso;omega)
  all_goals (refine rsD [] [] rfl ?_;(repeat' first|exact y78 _|constructor))
set_option maxHeartbeats 12800000 in
theorem z968 (rows:List (List Int)) (a:Aut) (hr:∀ r∈rows,InN rows.length r) (hi:InN rows.length a.ini) (hac:1≤a.acc.length∧a.acc.length≤64) (hN:rows.length≤3840) (hrl:∀ r∈rows,r.length≤1000000000) (hil:a.ini.length≤1048576):CallsA Tryz.prog 102 [lst 1 encL rows,.agg a.cs] [] (.sref 0 0 rows.length) [.cells 1 ((z570 rows a.ini a.acc).map enI)]:=by
 have c1:=z594 rows a.ini hr hi (by omega) hrl hil
 have hQn:=z302 hr hi rows.length
 have hQi:=z303 hr hi rows.length
 change (bfsL rows a.ini).length≤rows.length at hQn
 change InN rows.length (bfsL rows a.ini) at hQi
 have hml:=z379 rows a.ini a.acc
 unfold z570 at *
 generalize bfsL rows a.ini=nodes at *
 refine z7 z15 Tryz.func102 rfl rfl 89 Tryz.ntmps102 (by simp) ?_
 repeat' ((first|(apply y76 ok;rfl)|(apply z6 (c1);rfl;rfl))<;>conv=>whnf)
 refine z65 (fun x:Nat×List Int=>([(0,lst 1 encL rows),(3,.ptr 0 none 0),(5,.int a.acc.length),(6,ints nodes),(7,.sref 1 0 x.2.length),(8,.int x.1)],[.cells 3 [a.cs],.cells 1 (x.2.map enI)])) (fun x=>x.1≤rows.length∧x.2.length=x.1∧x.2=z859 x.1) (fun x=>rows.length - x.1) (0,[]) ⟨y46 _,rfl,rfl⟩ (by refine swR [0,1] [] rfl rfl ?_;(repeat' first|exact y78 _|apply y79|refine z10 rfl (z34) ?_|constructor)) ?_
 rintro ⟨i,F⟩ ⟨hF1,hFl,hF2⟩
 dsimp only at hF1 hFl hF2 ⊢
 by_cases hi2:i < rows.length
 ·repeat' ((first|(apply y76 ok;rfl)|(apply y36;first|(unfold inI;omega)|((try dsimp only);simp only [y42,y41,y40,y39,y51,y52];omega)|exact ⟨rfl,z19 rfl z26⟩)|((apply z5)<;>intro _))<;>conv=>whnf)
  all_goals try (exfalso;omega)
  all_goals refine z25 (i+1,F++[-1]) ⟨hi2,by rw [y40,hFl];rfl,by show _=z859 (i+1);rw [z602,← hF2]⟩ (by show rows.length - (i+1) < _;omega) (by refine swR [0,3] [] rfl rfl ?_;(repeat' first|exact y78 _|(refine z38 ?_;((simp;done)))|apply y79|((refine z33 rfl ?_ ?_);(focus ((repeat' (first|exact z4 (fun _=>rfl)|apply z22));done)))|(refine z76 ?_ ?_;(focus (omega)))|constructor))
 have e:rows.length=i:=by omega
 have hz0:z401 rows.length (nodes.take 0)=F:=by rw [hF2,← e];rfl
 subst e
 clear hF1 hF2 hi2
 repeat' ((first|(apply y76 ok;rfl)|(apply y36;omega)|((apply z5)<;>intro _))<;>conv=>whnf)
 all_goals try (exfalso;omega)
 refine z65 (fun x:Nat×List Int=>([(0,lst 1 encL rows),(3,.ptr 0 none 0),(5,.int a.acc.length),(6,ints nodes),(7,.sref 1 0 x.2.length),(9,.int x.1)],[.cells 3 [a.cs],.cells 1 (x.2.map enI)])) (fun x=>x.1≤nodes.length∧z401 rows.length (nodes.take x.1)=x.2) (fun x=>nodes.length - x.1) (0,F) ⟨y46 _,hz0⟩ (by refine swR [0,1] [] rfl rfl ?_;(repeat' first|exact y78 _|exact z9 _|apply y79|refine z10 rfl (z4 (fun _=>rfl)) ?_|constructor)) ?_
 clear hz0 hFl F
 rintro ⟨i,R⟩ ⟨hi1,hR⟩
 dsimp only at hi1 hR ⊢
 have hRl:=z478 rows.length (nodes.take i)
 rw [hR] at hRl
 by_cases hi2:i < nodes.length
 ·have hx:=hQi _ (y37 hi2)
  have hs:=z939 (N:=rows.length) hi2
  rw [hR] at hs
  repeat' ((first|(apply y76 ok;rfl)|(apply y36;first|omega|(unfold inI;omega))|((first|(with_reducible apply z8;omega)|(apply z8;omega));intro _)|((apply z5)<;>intro _))<;>conv=>whnf)
  all_goals try (exfalso;omega)
  all_goals refine z25 (i+1,R.set nodes[i].toNat 0) ⟨hi2,hs⟩ (by show nodes.length - (i+1) < _;omega) (by refine swR [0,1] [] rfl rfl ?_;(repeat' first|exact y78 _|(refine z38 ?_;((simp;done)))|apply y79|refine z43 rfl (z4 (fun _=>rfl)) ?_|refine z163 (by omega) ?_|constructor))
 have e:nodes.length=i:=by omega
 subst e
 rw [y49] at hR
 have hbd:=z875 rows.length nodes
 rw [hR] at hbd hml ⊢
 clear hi2 hi1 hR
 generalize hRR:z131 rows a.acc nodes (nodes.length+2) R true=RR at *
 have hrevl:nodes.reverse.length=nodes.length:=List.length_reverse
 repeat' ((first|(apply y76 ok;rfl)|(apply y36;omega)|((first|(with_reducible apply z8;omega)|(apply z8;omega));intro _)|((apply z5)<;>intro _))<;>conv=>whnf)
 all_goals try (exfalso;omega)
 refine z65 (fun x:Nat×List Int×Bool=>([(0,lst 1 encL rows),(3,.ptr 0 none 0),(5,.int a.acc.length),(6,ints nodes),(7,.sref 1 0 x.2.1.length),(10,.bool x.2.2),(11,.int x.1)],[.cells 3 [a.cs],.cells 1 (x.2.1.map enI)])) (fun x=>x.1≤nodes.length+2∧x.2.1.length=rows.length∧Bd (4000 * x.1) x.2.1∧z131 rows a.acc nodes (nodes.length+2 - x.1) x.2.1 x.2.2=RR) (fun x=>nodes.length+2 - x.1) (0,R,true) ⟨y46 _,hRl,hbd,hRR⟩ (by refine swR [0,1] [] rfl rfl ?_;(repeat' first|exact y78 _|exact z9 _|apply y79|refine z10 rfl (z4 (fun _=>rfl)) ?_|constructor)) ?_
 clear hRR hbd hRl R
 rintro ⟨r,R,ch⟩ ⟨hr1,hRl,hbd,hRR⟩
 dsimp only at hr1 hRl hbd hRR ⊢
 have hend:∀ f,z131 rows a.acc nodes f R false=R:=fun f=>by cases f<;>rfl
 cases ch
 ·rw [hend] at hRR
  subst hRR
  repeat' (((apply y76 ok;rfl))<;>conv=>whnf)
  all_goals (refine rsD [1] [] rfl ?_;(repeat' first|exact z9 _|(refine z38 ?_;(omega))|refine z10 rfl (z4 (fun _=>rfl)) ?_|constructor))
 by_cases hr2:r≤nodes.length+1
 ·rw [show nodes.length+2 - r=(nodes.length+1 - r)+1 by omega,z131,if_pos rfl] at hRR
  repeat' ((first|(apply y76 ok;rfl)|(apply y36;(unfold inI;omega))|((apply z5)<;>intro _))<;>conv=>whnf)
  all_goals try (exfalso;omega)
  refine z65 (fun y:Nat×List Int×Bool=>([(0,lst 1 encL rows),(3,.ptr 0 none 0),(5,.int a.acc.length),(6,ints nodes),(7,.sref 1 0 y.2.1.length),(10,.bool y.2.2),(11,.int r),(12,.int ((nodes.length:Int) - 1 - y.1))],[.cells 3 [a.cs],.cells 1 (y.2.1.map enI)])) (fun y=>y.1≤nodes.length∧(nodes.reverse.take y.1).foldl (z274 rows a.acc) (R,false)=(y.2.1,y.2.2)) (fun y=>nodes.length - y.1) (0,R,false) ⟨y46 _,rfl⟩ (by refine swR [0,1] [] rfl rfl ?_;(repeat' first|exact y78 _|exact z9 _|(refine z105 ?_;omega)|apply y79|refine z10 rfl (z4 (fun _=>rfl)) ?_|constructor)) ?_
  rintro ⟨k,R',c'⟩ ⟨hk,hV⟩
  dsimp only at hk hV ⊢
  have hb':=z829 (rows:=rows) (acc:=a.acc) (nodes.reverse.take k) (R,false) hbd (by omega)
  have hl':=z466 (rows:=rows) (acc:=a.acc) (nodes.reverse.take k) (R,false)
  rw [hV] at hb' hl'
  rw [show (nodes.reverse.take k).length=k by rw [y41];omega] at hb'
  dsimp only at hb' hl'
  rw [hRl] at hl'
  by_cases hk2:k < nodes.length
  ·have hkr:k < nodes.reverse.length:=by omega
   have hn2:nodes.length - 1 - k < nodes.length:=by omega
   have hrev:nodes.reverse[k]=nodes[nodes.length - 1 - k]:=by rw [List.getElem_reverse]
   have hs:(nodes.reverse.take (k+1)).foldl (z274 rows a.acc) (R,false)=z274 rows a.acc (R',c') nodes[nodes.length - 1 - k]:=by
    rw [y43 hkr,y55,hV,hrev];rfl
   have hu:=hQi _ (y37 hn2)
   have hgn:(nodes.map enI)[nodes.length - 1 - k]?=some (enI nodes[nodes.length - 1 - k]):=by rw [y44,y38 hn2];rfl
   generalize nodes[nodes.length - 1 - k]=u at *
   have hgr:=rowAt hu
   have hm0:0≤u % (a.acc.length:Int):=Int.emod_nonneg _ (by omega)
   have hm1:u % (a.acc.length:Int) < a.acc.length:=Int.emod_lt_of_pos _ (by omega)
   have hga:(a.acc.map enB)[(u % (a.acc.length:Int)).toNat]?=some (enB (a.acc.getD (u % (a.acc.length:Int)).toNat false)):=by
    rw [y44,y38 (by omega),z14 (by omega)];rfl
   have hgR:(R'.map enI)[u.toNat]?=some (enI (R'.getD u.toNat 0)):=by rw [y44,y38 (by omega),z14 (by omega)];rfl
   have hrow:InN R'.length (rows.getD u.toNat []):=by rw [hl'];exact z182 hr u
   have hrowl:=rowLen hrl u
   have hbg:=hb'.getD (by omega) u.toNat
   have c5:=z1090 R' (rows.getD u.toNat []) (a.acc.getD (u % (a.acc.length:Int)).toNat false) hb' (by omega) (by omega) hrow (by omega) hrowl
   have hrk:=z1061 hb' (by omega) (a.acc.getD (u % (a.acc.length:Int)).toNat false) (rows.getD u.toNat [])
   rw [show z274 rows a.acc (R',c') u=(if R'.getD u.toNat 0 < rkOf R' (a.acc.getD (u % (a.acc.length:Int)).toNat false) (rows.getD u.toNat []) then (R'.set u.toNat (rkOf R' (a.acc.getD (u % (a.acc.length:Int)).toNat false) (rows.getD u.toNat [])),true) else (R',c')) from rfl] at hs
   generalize rkOf R' (a.acc.getD (u % (a.acc.length:Int)).toNat false) (rows.getD u.toNat [])=w at *
   generalize a.acc.getD (u % (a.acc.length:Int)).toNat false=z at *
   generalize rows.getD u.toNat []=row at *
   by_cases hlt:R'.getD u.toNat 0 < w
   ·rw [if_pos hlt] at hs
    generalize R'.getD u.toNat 0=y at *
    repeat' ((first|(apply y76 ok;rfl)|(refine z12 (i:=nodes.length - 1 - k) (by omega) hgn ?_)|(refine z12 (i:=u.toNat) (by simp) hgr ?_)|(refine z12 (i:=u.toNat) (by simp) hgR ?_)|(refine z12 (i:=(u % (a.acc.length:Int)).toNat) (by simp) hga ?_)|(apply y36;first|omega|(unfold inI;omega))|((apply z5)<;>intro _)|(apply z112 [] [1] [] c5;(focus ((repeat' first|exact z84|apply z56)<;>first|exact z102 rfl rfl rfl|rfl));rfl;rfl;(focus ((repeat' exact z17)<;>fail));((refine .inr ⟨rfl,?_⟩;repeat' first|exact True.intro|apply y36))))<;>conv=>whnf)
    all_goals first|(exfalso;omega)|kernel_rfl|skip
    all_goals refine z25 (k+1,R'.set u.toNat w,true) ⟨hk2,hs⟩ (by show nodes.length - (k+1) < _;omega) (by refine swR [0,1] [] rfl rfl ?_;(repeat' first|exact y78 _|(refine z105 ?_;omega)|(refine z38 ?_;((simp;done)))|apply y79|refine z43 rfl (z4 (fun _=>rfl)) ?_|refine z163 (by omega) ?_|constructor))
   ·rw [if_neg hlt] at hs
    generalize R'.getD u.toNat 0=y at *
    repeat' ((first|(apply y76 ok;rfl)|(refine z12 (i:=nodes.length - 1 - k) (by omega) hgn ?_)|(refine z12 (i:=u.toNat) (by simp) hgr ?_)|(refine z12 (i:=u.toNat) (by simp) hgR ?_)|(refine z12 (i:=(u % (a.acc.length:Int)).toNat) (by simp) hga ?_)|(apply y36;first|omega|(unfold inI;omega))|((apply z5)<;>intro _)|(apply z112 [] [1] [] c5;(focus ((repeat' first|exact z84|apply z56)<;>first|exact z102 rfl rfl rfl|rfl));rfl;rfl;(focus ((repeat' exact z17)<;>fail));((refine .inr ⟨rfl,?_⟩;repeat' first|exact True.intro|apply y36))))<;>conv=>whnf)
    all_goals first|(exfalso;omega)|kernel_rfl|skip
    all_goals refine z25 (k+1,R',c') ⟨hk2,hs⟩ (by show nodes.length - (k+1) < _;omega) (by refine swR [0,1] [] rfl rfl ?_;(repeat' first|exact y78 _|exact z9 _|(refine z105 ?_;omega)|apply y79|refine z10 rfl (z4 (fun _=>rfl)) ?_|constructor))
  ·have e:nodes.length=k:=by omega
   rw [y50 (by omega)] at hV
   rw [show z421 rows a.acc nodes R=(R',c') from hV] at hRR
   repeat' ((first|(apply y76 ok;rfl)|(apply y36;first|omega|(unfold inI;omega))|(((with_reducible apply z55;omega));intro _)|((apply z5)<;>intro _))<;>conv=>whnf)
   all_goals try (exfalso;omega)
   all_goals refine z25 (r+1,R',c') ⟨by show r+1≤nodes.length+2;omega,hl',hb'.mono (by show 4000 * (r:Int)+k≤4000 * ((r+1:Nat):Int);omega),by rw [show nodes.length+2 - (r+1)=nodes.length+1 - r by omega];exact hRR⟩ (by show nodes.length+2 - (r+1) < _;omega) (by refine swR [0,1] [] rfl rfl ?_;(repeat' first|exact y78 _|exact z9 _|apply y79|refine z10 rfl (z4 (fun _=>rfl)) ?_|constructor))
 ·rw [show nodes.length+2 - r=0 by omega,z131] at hRR
  subst hRR
  repeat' ((first|(apply y76 ok;rfl)|(apply y36;first|omega|(unfold inI;omega))|((apply z5)<;>intro _))<;>conv=>whnf)
  all_goals try (exfalso;omega)
  all_goals (refine rsD [1] [] rfl ?_;(repeat' first|exact z9 _|(refine z38 ?_;(omega))|refine z10 rfl (z4 (fun _=>rfl)) ?_|constructor))
end Go.Proofs.YtahhobgjcfionaaGreat
namespace Go.Proofs.YtahhobgjcfionaaGreat
open Go.Gl
attribute [local irreducible] z29
theorem z695 (a b:List Int) (ha:a.length≤maxLen) (hb:b.length≤maxLen):CallsA Tryz.prog 18 [lst 1 enI a,lst 1 enI b] [] (.bool (decide (a=b))) []:=by
 unfold maxLen at ha hb
 refine z13 z15 Tryz.func18 rfl rfl 26 Tryz.ntmps18 (by simp) ?_
 repeat (refine y76 ok _ _ _ _ _ rfl ?_)
 refine z37 (fun h=>?_) (fun h=>?_)
 ·repeat (refine y76 ok _ _ _ _ _ rfl ?_)
  have hne:a≠b:=by rintro rfl;exact h rfl
  rw [y74 hne]
  exact ⟨[],by decide,rfl,rfl,y3 rfl,trivial⟩
 ·have hl:a.length=b.length:=by omega
  repeat (refine y76 ok _ _ _ _ _ rfl ?_)
  refine z686 (fun k:Nat=>([(0,lst 1 enI a),(1,lst 1 enI b),(5,.int k)],[])) (fun k=>k≤a.length∧a.take k=b.take k) (fun k=>a.length - k) 0 (by simp)
   ⟨[],rfl,by decide,rfl,⟨⟨rfl,rfl⟩,⟨rfl,rfl⟩,⟨rfl,rfl⟩,trivial⟩,trivial⟩ ?_
  intro k hk
  repeat (refine y76 ok _ _ _ _ _ rfl ?_)
  refine z5 (fun h=>?_) (fun h=>?_)
  ·have hka:k < a.length:=by omega
   repeat (first|refine y76 ok _ _ _ _ _ rfl ?_|refine y36 (by omega) ?_)
   refine ⟨_,z346 _ _ _ (by omega),?_⟩
   repeat ((refine y36 (by omega) ?_))
   refine ⟨_,z346 _ _ _ (by omega),?_⟩
   repeat (first|refine y76 ok _ _ _ _ _ rfl ?_|refine z21 (by kernel_rfl) ?_)
   refine z37 (fun h=>?_) (fun h=>?_)
   ·repeat (refine y76 ok _ _ _ _ _ rfl ?_)
    have hne:a≠b:=by rintro rfl;exact h rfl
    rw [y74 hne]
    exact ⟨[],by decide,rfl,rfl,y3 rfl,trivial⟩
   ·repeat (first|refine y76 ok _ _ _ _ _ rfl ?_|refine y36 (by first|omega|(unfold inI;omega)) ?_)
    refine ⟨k+1,[],⟨by omega,?_⟩,by omega,rfl,by decide,rfl,⟨⟨rfl,rfl⟩,⟨rfl,rfl⟩,⟨rfl,rfl⟩,trivial⟩,trivial⟩
    have h' : a[k]=b[k]:=h
    rw [y43 hka,y43 (by omega),hk.2,h']
  ·repeat (refine y76 ok _ _ _ _ _ rfl ?_)
   have he:a=b:=by
    have:=hk.2
    rwa [y50 (by omega),y50 (by omega)] at this
   rw [y73 he]
   exact ⟨[],by decide,rfl,rfl,y3 rfl,trivial⟩
end Go.Proofs.YtahhobgjcfionaaGreat
namespace Go.Proofs.YtahhobgjcfionaaGreat
open Go.Gl
attribute [local irreducible] z29 AWP z46 z50 z47
section
open Go.ChangeShapes Go.WideShapes Go.ChangeAt Go.RowKit
theorem z1158 {a b:Bool} (h:a=true) (k:b=true):(a && b)=true:=by rw [h,k];rfl
theorem own:ownKnob Tryz.prog.godebug=none:=by kernel_rfl
theorem z426:laidOutB Tryz.prog=true:=by kernel_rfl
end
end Go.Proofs.YtahhobgjcfionaaGreat
namespace Go.Proofs.YtahhobgjcfionaaGreat
open Go.Gl
attribute [local irreducible] z29 AWP z46 z50 z47
theorem z554:ArgD Tryz.prog 22 (lst 1 enU) CodeOk :=
 (z1155 (enc1:=lst 1 enU) Tryz.underlying22 (od_list 1 (encL:=fun l=>[lst 1 enU l]) Tryz.underlying22 (by kernel_rfl) (by decide) (od_byte (enc:=enU) Tryz.underlying5 (fun _=>rfl)) (fun _=>rfl)) (fun _=>rfl)).imp fun l h=>⟨l,rfl,h.1,fun x hx=>by
  have:=h.2 x hx
  have h1:IntKind.min .u8=0:=by decide
  have h2:IntKind.max .u8=255:=by decide
  simpa [Lit.wf,h1,h2] using this⟩
end Go.Proofs.YtahhobgjcfionaaGreat
namespace Go.Proofs.YtahhobgjcfionaaGreat
open Go.Gl
attribute [local irreducible] z29 AWP z46 z50 z47 RetS z58
noncomputable def mkOk (g:Graph) (l:List Tree) (a:Aut):Bool:=(glB g l && autB a) && !(trcO g (g.st.map (z28 l)) a).isSome
noncomputable def mkR (g:Graph) (l:List Tree) (a:Aut):List Int:=if mkOk g l a=true then z570 (z27 g (g.st.map (z28 l)) a) a.ini a.acc else []
theorem z740 {g:Graph} {l:List Tree} {a:Aut} : (mkOk g l a=true→(mkR g l a).length=(prB g l a).length)∧(mkR g l a).length≤3840∧Bd 16000000 (mkR g l a):=by
 unfold mkR prB
 by_cases h:mkOk g l a=true
 ·have h1:(glB g l && autB a)=true:=by unfold mkOk at h;exact (Bool.and_eq_true_iff.1 h).1
  obtain ⟨h2,h3⟩:=Bool.and_eq_true_iff.1 h1
  obtain ⟨f1,f2,f3,f4,f5⟩:=z117 ((z69 g).1 (by unfold glB at h2;exact (Bool.and_eq_true_iff.1 h2).1)) (z96.1 h3) (g.st.map (z28 l))
  rw [if_pos h,if_pos h1,z379,z167]
  refine ⟨fun _=>rfl,f3,?_⟩
  have hQn:=z302 f1 f2 (z27 g (g.st.map (z28 l)) a).length
  have hb:=z726 (rows:=z27 g (g.st.map (z28 l)) a) (acc:=a.acc) (nodes:=bfsL (z27 g (g.st.map (z28 l)) a) a.ini) ((bfsL (z27 g (g.st.map (z28 l)) a) a.ini).length+2) _ true (z875 (z27 g (g.st.map (z28 l)) a).length (bfsL (z27 g (g.st.map (z28 l)) a) a.ini)) (by omega) (by unfold bfsL;omega)
  exact hb.mono (by unfold bfsL;omega)
 ·rw [if_neg h]
  exact ⟨fun h'=>absurd h' h,y46 _,fun x hx=>by cases hx⟩
set_option maxHeartbeats 3200000 in
theorem z442 (g:Graph) (hg:g.mx) (l:List Tree) (hl:Lmx l) (a:Aut) (ha:a.mx):CallsA Tryz.prog 30 [.agg g.cs,lst 3 Tree.cs' l,.agg a.cs] [] (.tup [.agg [.sref 0 0 (mkR g l a).length],.bool (mkOk g l a)]) [.cells 1 ((mkR g l a).map enI)]:=by
 have k0:=z115 g hg l hl
 have k1:=z95 a ha
 by_cases hgl:(glB g l && autB a)=true
 ·obtain ⟨h1,hab⟩:=Bool.and_eq_true_iff.1 hgl
  have hG:=(z69 g).1 (by unfold glB at h1;exact (Bool.and_eq_true_iff.1 h1).1)
  have hL:=y7 (by unfold glB at h1;exact (Bool.and_eq_true_iff.1 h1).2)
  have hA:=z96.1 hab
  have k2:=z215 g hG (g.st.map (z28 l)) (by simp) (fun x hx=>by
   obtain ⟨s,_,rfl⟩:=List.mem_map.1 hx
   exact z148 hL s) a hA
  have k3:=z746 g hG (g.st.map (z28 l)) (by simp) (fun x hx=>by
   obtain ⟨s,_,rfl⟩:=List.mem_map.1 hx
   exact z148 hL s) a hA
  obtain ⟨f1,f2,f3,f4,f5⟩:=z117 hG hA (g.st.map (z28 l))
  have k4:=z968 (z27 g (g.st.map (z28 l)) a) a f1 f2 hA.1 f3 f4 f5
  have hml:=z379 (z27 g (g.st.map (z28 l)) a) a.ini a.acc
  rw [if_pos h1,h1] at k0
  rw [hab] at k1
  unfold mkR mkOk
  rw [hgl,Bool.true_and]
  generalize g.st.map (z28 l)=ls at *
  generalize (trcO g ls a).isSome=tb at *
  generalize trcL g ls a=tl at *
  generalize z570 (z27 g ls a) a.ini a.acc=RR at *
  generalize z27 g ls a=rows at *
  cases tb
  ·show CallsA _ _ _ _ (.tup [.agg [.sref 0 0 RR.length],.bool true]) [.cells 1 (RR.map enI)]
   rw [hml]
   refine z7 z15 Tryz.func30 rfl rfl 42 Tryz.ntmps30 (by simp) ?_
   repeat' ((first|(apply y76 ok;rfl)|(apply z21;kernel_rfl)|(apply z6 (k0);rfl;rfl)|(apply z6 (k1);rfl;rfl)|(apply z6 (k2);rfl;rfl)|(apply z6 (k3);rfl;rfl)|(apply z11 [] [4] k4;rfl;rfl;rfl;(focus ((repeat' first|exact z17|apply z16)<;>(refine z23 ?_;((exact z4 fun _=>rfl)))))))<;>conv=>whnf)
   all_goals (refine rsD [4] [] rfl ?_;(repeat' first|exact y78 _|exact z9 _|refine z10 rfl (z4 (fun _=>rfl)) ?_|constructor))
  ·show CallsA _ _ _ _ (.tup [.agg [.sref 0 0 0],.bool false]) [.cells 1 []]
   refine z7 z15 Tryz.func30 rfl rfl 42 Tryz.ntmps30 (by simp) ?_
   repeat' ((first|(apply y76 ok;rfl)|(apply z6 (k0);rfl;rfl)|(apply z6 (k1);rfl;rfl)|(apply z6 (k3);rfl;rfl))<;>conv=>whnf)
   all_goals (refine y82 1 ?_;refine rsD [4] [] rfl ?_;(repeat' first|exact y78 _|exact z48|refine z10 rfl (z34) ?_|apply z41|apply z92|constructor))
 ·have e:mkOk g l a=false:=by unfold mkOk;rw [(y64 _).mp hgl];rfl
  have e2:mkR g l a=[]:=by unfold mkR;rw [e];rfl
  rw [e,e2]
  show CallsA _ _ _ _ (.tup [.agg [.sref 0 0 0],.bool false]) [.cells 1 []]
  generalize (if glB g l=true then g.st.map (z28 l) else [])=ls at *
  refine z7 z15 Tryz.func30 rfl rfl 42 Tryz.ntmps30 (by simp) ?_
  cases hb1:glB g l
  ·rw [hb1] at k0
   repeat' ((first|(apply y76 ok;rfl)|(apply z6 (k0);rfl;rfl))<;>conv=>whnf)
   all_goals (refine y82 1 ?_;refine rsD [3] [] rfl ?_;(repeat' first|exact y78 _|exact z48|refine z10 rfl (z34) ?_|apply z41|apply z92|constructor))
  ·rw [hb1] at k0 hgl
   have hb2:autB a=false:=by simpa using hgl
   rw [hb2] at k1
   repeat' ((first|(apply y76 ok;rfl)|(apply z6 (k0);rfl;rfl)|(apply z6 (k1);rfl;rfl))<;>conv=>whnf)
   all_goals (refine y82 1 ?_;refine rsD [3] [] rfl ?_;(repeat' first|exact y78 _|exact z48|refine z10 rfl (z34) ?_|apply z41|apply z92|constructor))
theorem z671 (a:Aut) (hA:AutP a) (x:Int) (h0:0≤x):CallsA Tryz.prog 70 [.int x,.pt a.cs,.pt [.int a.acc.length]] [] (.bool (a.acc.getD (x % a.acc.length).toNat false)) []:=by
 have hac:=hA.1
 have hm0:0≤x % (a.acc.length:Int):=Int.emod_nonneg _ (by omega)
 have hm1:x % (a.acc.length:Int) < a.acc.length:=Int.emod_lt_of_pos _ (by omega)
 have hga:(a.acc.map enB)[(x % (a.acc.length:Int)).toNat]?=some (enB (a.acc.getD (x % (a.acc.length:Int)).toNat false)):=by
  rw [y44,y38 (by omega),z14 (by omega)];rfl
 refine z7 z15 Tryz.func70 rfl rfl 12 Tryz.ntmps70 (by simp) ?_
 repeat' ((first|(apply y76 ok;rfl)|(apply z21;kernel_rfl)|(refine z12 (i:=(x % (a.acc.length:Int)).toNat) rfl hga ?_)|(apply y36;omega))<;>conv=>whnf)
 all_goals (refine rsD [] [] rfl ?_;(repeat' first|exact y78 _|constructor))
set_option maxHeartbeats 1600000 in
theorem z336 (l:List Int) (n:Nat) (hl:l.length≤1000000) (hn:1≤n) (h0:∀ x∈l,0≤x) (h1:∀ x∈l,x≤1000000000):CallsA Tryz.prog 71 [ints l,.pt [.int n]] [] (.sref 0 0 l.length) [.cells 1 ((stL l n).map enI)]:=by
 refine z7 z15 Tryz.func71 rfl rfl 25 Tryz.ntmps71 (by simp) ?_
 repeat' ((first|(apply y76 ok;rfl)|(apply y36;(dsimp only;omega)))<;>conv=>whnf)
 obtain ⟨qm,hqm⟩:∃ qm:Nat→Nat→Int,qm=fun i j=>if j < i then l.getD j 0 / n else 0:=⟨_,rfl⟩
 have q0:qm 0=fun _=>0:=by rw [hqm];rfl
 have qE:fnL l.length (qm l.length)=stL l n:=by
  apply y67 (by simp [fnL,stL])
  intro i h1 h2
  have hi' : i < l.length:=by rw [z107] at h1;exact h1
  rw [z431,hqm]
  dsimp only
  rw [if_pos hi',z14 hi'];simp [stL]
 have qS:∀ i (h:i < l.length),qm (i+1)=upd (qm i) i (l[i] / n):=fun i h=>by
  funext j
  by_cases h2:j=i
  ·subst h2;rw [z32,hqm];dsimp only;rw [if_pos (by omega),z14 h]
  ·rw [z45 _ _ h2,hqm];dsimp only;split<;>split<;>first|rfl|omega
 clear hqm
 refine z65 (fun i:Nat=>([(1,.pt [.int n]),(4,.sref 0 0 l.length),(10,ints l),(11,.int l.length),(12,.int i)],[.cells 1 ((fnL l.length (qm i)).map enI)])) (fun i=>i≤l.length) (fun i=>l.length - i) 0 (y46 _) (by refine swR [0] [] rfl rfl ?_;(repeat' first|exact y78 _|refine z10 rfl (z42 rfl) ?_|constructor)<;>((refine z30 ?_;rw [q0];exact z317 _))) ?_
 intro i hi
 by_cases hi2:i < l.length
 ·have g1:=z164 (qm i) hi2
  have l1:=z107 l.length (qm i)
  have e1:=z142 (N:=l.length) (u:=i) (qm i) (l[i] / n)
  rw [← qS i hi2] at e1
  have gk:(l.map enI)[i]?=some (enI l[i]):=by rw [y44,y38 hi2];rfl
  have b0:=h0 _ (y37 hi2)
  have b1:=h1 _ (y37 hi2)
  generalize l[i]=v at *
  have d0:0≤v / (n:Int):=Int.ediv_nonneg b0 (by omega)
  have d1:v / (n:Int)≤v:=Int.ediv_le_self _ b0
  repeat' ((first|(apply y76 ok;rfl)|(refine z12 (i:=i) rfl gk ?_)|(refine z12 (i:=i) rfl g1 ?_)|(apply y36;first|omega|(unfold inI;omega))|((apply z5)<;>intro _))<;>conv=>whnf)
  all_goals try (exfalso;omega)
  all_goals refine z25 (i+1) hi2 (by omega) (by refine swR [0] [] rfl rfl ?_;(repeat' first|exact y78 _|refine z43 rfl (z4 (fun _=>rfl)) ?_|constructor)<;>((refine z30 ?_;exact e1)))
 obtain rfl:i=l.length:=by omega
 rw [qE]
 repeat' ((first|(apply y76 ok;rfl)|(apply y36;omega)|((first|(with_reducible apply z8;omega)|(apply z8;omega));intro _)|((apply z5)<;>intro _))<;>conv=>whnf)
 all_goals try (exfalso;omega)
 all_goals (refine rsD [0] [] rfl ?_;(repeat' first|exact y78 _|exact z9 _|refine z10 rfl (z4 (fun _=>rfl)) ?_|constructor))
noncomputable def ftO (g:Graph) (l:List Tree) (a:Aut):Option (List Int×List Int):=if (glB g l && autB a)=true then trcO g (g.st.map (z28 l)) a else none
noncomputable def ftL (g:Graph) (l:List Tree) (a:Aut):Trace:=let t:=(ftO g l a).getD ([],[]);⟨t.1,t.2⟩
set_option maxHeartbeats 6400000 in
theorem z171 (g:Graph) (hg:g.mx) (l:List Tree) (hl:Lmx l) (a:Aut) (ha:a.mx):CallsA Tryz.prog 16 [.agg g.cs,lst 3 Tree.cs' l,.agg a.cs] [] (.tup [.agg [.sref 0 0 (ftL g l a).stem.length,.sref 1 0 (ftL g l a).loop.length],.bool (ftO g l a).isSome]) [.cells 1 ((ftL g l a).stem.map enI),.cells 1 ((ftL g l a).loop.map enI)]:=by
 have k0:=z435 g hg l hl a ha
 by_cases hgl:(glB g l && autB a)=true
 ·rw [hgl] at k0
  obtain ⟨h1,hab⟩:=Bool.and_eq_true_iff.1 hgl
  have hG:=(z69 g).1 (by unfold glB at h1;exact (Bool.and_eq_true_iff.1 h1).1)
  have hL:=y7 (by unfold glB at h1;exact (Bool.and_eq_true_iff.1 h1).2)
  have hA:=z96.1 hab
  have k1:=z420 g hG l hL a hA
  obtain ⟨f1,f2,f3,f4,f5⟩:=z117 hG hA (g.st.map (z28 l))
  have hnd:=hA.2.2.1.nd
  have hac:=hA.1
  have k2:=z1087 (z27 g (g.st.map (z28 l)) a) a.ini f1 f2 hnd (by omega) f4 (fun v=>a.acc.getD (v % a.acc.length).toNat false) 70 a.cs [.int a.acc.length] (fun x h0 _=>z671 a hA x h0)
  unfold ftL ftO
  rw [if_pos hgl]
  unfold lasR at k2
  unfold trcO
  rw [z315 f1 f2 hnd] at k2
  have hlen:(z27 g (g.st.map (z28 l)) a).length=g.st.length * a.acc.length:=by unfold z27;rw [z71,Nat.mul_comm]
  have hF:∀ p q,finS (z27 g (g.st.map (z28 l)) a) a.ini a.acc=some (p,q)→(∀ x∈p,0≤x∧x≤100000)∧(∀ x∈q,0≤x∧x≤100000)∧p.length≤100000∧q.length≤100000:=by
   intro p q h
   rw [← z315 f1 f2 hnd] at h
   obtain ⟨b1,b2,b3,b4,_⟩:=z838 f1 f2 hnd h
   exact ⟨fun x hx=>by have:=b1 x hx;omega,fun x hx=>by have:=b2 x hx;omega,by omega,by omega⟩
  generalize z27 g (g.st.map (z28 l)) a=rows at *
  cases hfin:finS rows a.ini a.acc with
  |none =>
   rw [hfin] at k2
   change CallsA _ _ _ _ (.tup [.sref 0 0 0,.sref 1 0 0,.bool false]) [.cells 1 [],.cells 1 []] at k2
   show CallsA _ _ _ _ (.tup [.agg [.sref 0 0 0,.sref 1 0 0],.bool false]) [.cells 1 [],.cells 1 []]
   refine z7 z15 Tryz.func16 rfl rfl 50 Tryz.ntmps16 (by simp) ?_
   repeat' ((first|(apply y76 ok;rfl)|(apply z6 (k0);rfl;rfl)|(apply z6 (k1);rfl;rfl)|(apply z112 [] [1,3] [4,5] k2;(focus ((repeat' first|exact z84|apply z56)<;>rfl));rfl;rfl;(focus ((repeat' first|exact z17|apply z16)<;>(refine z23 ?_;(exact z34))));((refine .inr ⟨rfl,?_⟩;repeat' first|exact True.intro|apply y36|exact rfl))))<;>conv=>whnf)
   all_goals (refine y82 1 ?_;refine y82 1 ?_;refine rsD [6,7] [] rfl ?_;(repeat' first|exact y78 _|exact z48|refine z10 rfl (z34) ?_|apply z41|apply z92|constructor))
  |some pq =>
   obtain ⟨p,q⟩:=pq
   rw [hfin] at k2
   obtain ⟨b1,b2,b3,b4⟩:=hF p q hfin
   change CallsA _ _ _ _ (.tup [.sref 0 0 (p.take (p.length - 1)).length,.sref 1 0 q.length,.bool true]) [.cells 1 ((p.take (p.length - 1)).map enI),.cells 1 (q.map enI)] at k2
   have s1:=z336 (p.take (p.length - 1)) a.acc.length (by rw [y41];omega) (by omega) (fun x hx=>(b1 x (List.mem_of_mem_take hx)).1) (fun x hx=>by have:=(b1 x (List.mem_of_mem_take hx)).2;omega)
   have s2:=z336 q a.acc.length (by omega) (by omega) (fun x hx=>(b2 x hx).1) (fun x hx=>by have:=(b2 x hx).2;omega)
   have e1:(stL (p.take (p.length - 1)) a.acc.length).length=(p.take (p.length - 1)).length:=by simp [stL]
   have e2:(stL q a.acc.length).length=q.length:=by simp [stL]
   show CallsA _ _ _ _ (.tup [.agg [.sref 0 0 (stL (p.take (p.length - 1)) a.acc.length).length,.sref 1 0 (stL q a.acc.length).length],.bool true]) [.cells 1 ((stL (p.take (p.length - 1)) a.acc.length).map enI),.cells 1 ((stL q a.acc.length).map enI)]
   rw [e1,e2]
   generalize stL (p.take (p.length - 1)) a.acc.length=S1 at *
   generalize stL q a.acc.length=S2 at *
   generalize p.take (p.length - 1)=p' at *
   refine z7 z15 Tryz.func16 rfl rfl 50 Tryz.ntmps16 (by simp) ?_
   repeat' ((first|(apply y76 ok;rfl)|(apply z6 (k0);rfl;rfl)|(apply z6 (k1);rfl;rfl)|((first|(apply z112 [] [1,3] [4,5] k2;(focus ((repeat' first|exact z84|apply z56)<;>rfl));rfl)|(apply z112 [] [3,4] [6] s1;(focus ((repeat' first|exact z84|apply z56)<;>first|exact z102 rfl rfl rfl|rfl));rfl)|(apply z112 [] [3,5] [7] s2;(focus ((repeat' first|exact z84|apply z56)<;>first|exact z102 rfl rfl rfl|rfl));rfl));rfl;(focus ((repeat' first|exact z17|apply z16)<;>(refine z23 ?_;((exact z4 fun _=>rfl)))));((refine .inr ⟨rfl,?_⟩;repeat' first|exact True.intro|apply y36|exact z121 (fun _=>rfl) _))))<;>conv=>whnf)
   all_goals (refine rsD [6,7] [] rfl ?_;(repeat' first|exact y78 _|exact z9 _|refine z10 rfl (z4 (fun _=>rfl)) ?_|constructor))
 ·have hgl:=(y64 _).mp hgl
  rw [hgl] at k0
  have e1:ftO g l a=none:=by unfold ftO;rw [hgl];rfl
  unfold ftL
  rw [e1]
  show CallsA _ _ _ _ (.tup [.agg [.sref 0 0 0,.sref 1 0 0],.bool false]) [.cells 1 [],.cells 1 []]
  refine z7 z15 Tryz.func16 rfl rfl 50 Tryz.ntmps16 (by simp) ?_
  repeat' ((first|(apply y76 ok;rfl)|(apply z6 (k0);rfl;rfl))<;>conv=>whnf)
  all_goals (refine y82 1 ?_;refine y82 1 ?_;refine rsD [3,4] [] rfl ?_;(repeat' first|exact y78 _|exact z48|refine z10 rfl (z34) ?_|apply z41|apply z92|constructor))
theorem bor_pre {objs:Nat→AObj} {π Bn:List Nat} {o n:Nat} {R:List Int} (ho:objs o=.cells 1 (R.map enI)) (h1:idx π o=none) (h2:inB Bn o=true) (hl:n≤R.length):bor objs π Bn (.sref o 0 n)=ints (R.take n):=by
 simp only [bor,h1,h2,ho]
 rw [if_pos (by simp;omega),List.drop_zero,z440 (fun e he x hx=>by
  obtain ⟨y,_,rfl⟩:=List.mem_map.1 he
  rw [List.mem_singleton.1 hx];rfl),← List.map_take]
 show _=AC.list 1 (R.take n).length ((R.take n).map enI)
 rw [y41,Nat.min_eq_left hl]
theorem pre_le {objs:Nat→AObj} {π Bn:List Nat} {o a n m:Nat} {R:List Int} (ho:objs o=.cells 1 (R.map enI)) (h1:idx π o=none) (h2:inB Bn o=true) (ha:a=0) (hn:n=m) (hl:m≤R.length):LocLe (bor objs π Bn (.sref o a n)) (ints (R.take m)):=by
 subst ha hn
 rw [bor_pre ho h1 h2 hl];exact y78 _
def dblL (R:List Int) (k:Nat):List Int:=(R.take k).map (fun x=>if 0≤x then x * 2+1 else x)++R.drop k
theorem z926 (R:List Int) (k:Nat):(dblL R k).length=R.length:=by unfold dblL;simp;omega
theorem dblL_get {R:List Int} {k:Nat} (h:k < R.length):((dblL R k).map enI)[k]?=some (enI R[k]):=by
 unfold dblL
 rw [y56,y59 (by simp;omega)]
 simp only [y42,y41]
 rw [show k - min k R.length=0 by omega]
 simp [h]
theorem z1129 {R:List Int} {k:Nat} (h:k < R.length):dblL R (k+1)=if 0≤R[k] then (dblL R k).set k (R[k] * 2+1) else dblL R k:=by
 unfold dblL
 rw [y43 h,y56,y71 h,List.set_append_right _ _ (by simp;omega)]
 simp only [y42,y41]
 rw [show k - min k R.length=0 by omega,List.set_cons_zero,List.append_assoc]
 split
 ·rename_i h0;simp [h0]
 ·rename_i h0;simp [h0]
set_option maxHeartbeats 6400000 in
theorem z383 (bs:List Int) (hb:BytesOk bs) (p:Int) (hp:few3 p) (R:List Int) (hR:R.length≤3840) (hB:Bd 16000000 R):∃ (R' : List Int) (p' : Int),(R'.length≤3840∧p≤p'∧p'≤p+3)∧CallsA Tryz.prog 93 [.ptr 0 none 0,.agg [ints R]] [rdO bs p] (.agg [ints R']) [rdO bs p']:=by
 by_cases h0:R.length=0
 ·refine ⟨R,p,⟨hR,by omega,by omega⟩,?_⟩
  refine z7 z15 Tryz.func93 rfl rfl 65 Tryz.ntmps93 (by simp) ?_
  repeat' ((first|(apply y76 ok;rfl)|(apply y36;first|(dsimp only;omega)|exact z54 (fun _=>rfl))|((apply z5)<;>intro _))<;>conv=>whnf)
  all_goals try (exfalso;omega)
  all_goals (refine rsD [0] [4] rfl ?_;(repeat' first|exact y78 _|(refine z239 ?_;omega)|apply y79|((apply z36 rfl rfl rfl);(focus ((repeat ((exact z31 (fun _=>rfl) _)));done));(focus (((simp;done));done)))|apply z41|constructor))
 obtain ⟨v,⟨v0,v1⟩,cv⟩:=z57 bs hb p 6 (by omega) (by omega) (by omega)
 by_cases e0:v=0
 ·subst e0
  obtain ⟨i,⟨i0,i1⟩,ci⟩:=z57 bs hb (p+1) ((0+R.length:Nat):Int) (by omega) (by omega) (by omega)
  obtain ⟨x,mx,cx⟩:=z98 bs hb (p+1+1) (by omega) (by omega) [-1,0,1,2,-2,4001,9223372036854775807] (by decide) (by decide)
  refine ⟨R.set i.toNat x,p+1+1+1,⟨by simp;omega,by omega,by omega⟩,?_⟩
  refine z7 z15 Tryz.func93 rfl rfl 65 Tryz.ntmps93 (by simp) ?_
  repeat' ((first|(apply y76 ok;rfl)|(apply z21;kernel_rfl)|(apply y36;first|omega|(dsimp only;omega)|exact z54 (fun _=>rfl))|(((apply z8;omega));intro _)|((apply z5)<;>intro _)|((first|(apply z11 [0] [] cv;rfl;rfl)|(apply z11 [0] [] ci;rfl;rfl)|(apply z11 [0,6] [] cx;rfl;rfl));rfl;(focus ((repeat' first|exact z17|apply z16)<;>first|exact z44 rfl rfl|(refine z23 ?_;((exact z4 fun _=>rfl)))))))<;>conv=>whnf)
  all_goals try (exfalso;omega)
  all_goals (refine rsD [0] [4] rfl ?_;(repeat' first|exact y78 _|apply y79|refine z163 (by omega) ?_|((apply z36 rfl rfl rfl);(focus ((repeat (first|exact z31 (fun _=>rfl) _|apply z622));done));(focus (((simp;done));done)))|apply z41|(refine z81 ?_ ?_;(focus (simp;done)))|constructor))
 by_cases e1:v=1
 ·subst e1
  refine ⟨R.take (R.length - 1),p+1,⟨by simp;omega,by omega,by omega⟩,?_⟩
  refine z7 z15 Tryz.func93 rfl rfl 65 Tryz.ntmps93 (by simp) ?_
  repeat' ((first|(apply y76 ok;rfl)|(apply y36;first|omega|(unfold inI;omega)|(dsimp only;omega)|exact z54 (fun _=>rfl))|((apply z5)<;>intro _)|(apply z18 [0] [] cv;rfl;rfl;rfl))<;>conv=>whnf)
  all_goals try (exfalso;omega)
  all_goals (refine rsD [0] [4] rfl ?_;(repeat' first|exact y78 _|apply y79|apply z41|constructor))
  all_goals exact pre_le rfl rfl rfl rfl (by omega) (by omega)
 by_cases e2:v=2
 ·subst e2
  refine ⟨dblL R R.length,p+1,⟨by rw [z926];omega,by omega,by omega⟩,?_⟩
  refine z7 z15 Tryz.func93 rfl rfl 65 Tryz.ntmps93 (by simp) ?_
  repeat' ((first|(apply y76 ok;rfl)|(apply y36;first|(dsimp only;omega)|exact z54 (fun _=>rfl))|((apply z5)<;>intro _)|(apply z18 [0] [] cv;rfl;rfl;rfl))<;>conv=>whnf)
  all_goals try (exfalso;omega)
  all_goals
   refine z65 (fun x:Nat×List Int=>([(4,.ptr 1 none 0),(5,.ptr 2 none 0),(6,.int R.length),(7,.int x.1)],[rdO bs (p+1),.cells 1 [[.nils]],.cells 1 [[.sref 3 0 x.2.length]],.cells 1 (x.2.map enI)])) (fun x=>x.1≤R.length∧x.2=dblL R x.1) (fun x=>R.length - x.1) (0,R) ⟨y46 _,by show R=dblL R 0;simp [dblL]⟩ (by refine swR [0,2,5,4] [] rfl rfl ?_;(repeat' first|exact y78 _|exact z9 _|(refine z105 ?_;omega)|(refine z38 ?_;((simp;done)))|apply y79|refine z10 rfl (z4 (fun _=>rfl)) ?_|constructor)) ?_
   rintro ⟨k,D⟩ ⟨hk,hD⟩
   dsimp only at hk hD ⊢
   have hDl:=z926 R k
   rw [← hD] at hDl
   by_cases hk2:k < R.length
   ·have hg:=dblL_get hk2
    have hs:=z1129 hk2
    have hx:=hB _ (y37 hk2)
    rw [← hD] at hg hs
    generalize R[k]=y at *
    by_cases hy:0≤y
    ·rw [if_pos hy] at hs
     repeat' ((first|(apply y76 ok;rfl)|(apply z21;kernel_rfl)|(refine z12 (i:=k) (by simp) hg ?_)|(apply y36;first|omega|(unfold inI;omega))|((apply z5)<;>intro _))<;>conv=>whnf)
     all_goals try (exfalso;omega)
     all_goals refine z25 (k+1,D.set k (y * 2+1)) ⟨hk2,hs.symm⟩ (by show R.length - (k+1) < R.length - k;omega) (by refine swR [0,1,2,3] [] rfl rfl ?_;(repeat' first|exact y78 _|(refine z38 ?_;((simp;done)))|apply y79|refine z43 rfl (z4 (fun _=>rfl)) ?_|refine z163 (by omega) ?_|constructor))
    ·rw [if_neg hy] at hs
     repeat' ((first|(apply y76 ok;rfl)|(apply z21;kernel_rfl)|(refine z12 (i:=k) (by simp) hg ?_)|(apply y36;first|omega|(unfold inI;omega))|((apply z5)<;>intro _))<;>conv=>whnf)
     all_goals try (exfalso;omega)
     all_goals refine z25 (k+1,D) ⟨hk2,hs.symm⟩ (by show R.length - (k+1) < R.length - k;omega) (by refine swR [0,1,2,3] [] rfl rfl ?_;(repeat' first|exact y78 _|exact z9 _|apply y79|refine z10 rfl (z4 (fun _=>rfl)) ?_|constructor))
   ·have e:R.length=k:=by omega
    have hk3:=hk
    rw [e]
    rw [← hD]
    repeat' ((first|(apply y76 ok;rfl)|(apply z21;kernel_rfl)|(apply y36;omega)|(((apply z8;omega));intro _)|((apply z5)<;>intro _))<;>conv=>whnf)
    all_goals try (exfalso;omega)
    all_goals (refine rsD [0] [3] rfl ?_;(repeat' first|exact y78 _|apply y79|((apply z36 rfl rfl rfl);(focus ((repeat ((exact z31 (fun _=>rfl) _)));done));(focus (((simp;done));done)))|apply z41|constructor))
 refine ⟨R,p+1,⟨hR,by omega,by omega⟩,?_⟩
 refine z7 z15 Tryz.func93 rfl rfl 65 Tryz.ntmps93 (by simp) ?_
 repeat' ((first|(apply y76 ok;rfl)|(apply y36;first|omega|(dsimp only;omega)|exact z54 (fun _=>rfl))|((apply z5)<;>intro _)|(apply z18 [0] [] cv;rfl;rfl;rfl))<;>conv=>whnf)
 all_goals try (exfalso;omega)
 all_goals (refine rsD [0] [4] rfl ?_;(repeat' first|exact y78 _|(refine z239 ?_;omega)|apply y79|((apply z36 rfl rfl rfl);(focus ((repeat ((exact z31 (fun _=>rfl) _)));done));(focus (((simp;done));done)))|apply z41|constructor))
def updL (R:List Int) (z:List (Option Int)):Nat→List Int
 |0=>R
 |k+1=>match z.getD k none with
  |none=>updL R z k
  |some x=>(updL R z k).set k x
theorem z360 (R:List Int) (z:List (Option Int)):∀ k,(updL R z k).length=R.length
 |0=>rfl
 |k+1=>by
  rw [updL];split
  ·exact z360 R z k
  ·rw [List.length_set];exact z360 R z k
theorem z1028 {R:List Int} {z:List (Option Int)} {M:Int} (h:Bd M R) (hM:1≤M) (hz:∀ x,some x∈z→-1≤x∧x≤1):∀ k,Bd M (updL R z k)
 |0=>h
 |k+1=>by
  have ih:=z1028 h hM hz k
  rw [updL];split
  ·exact ih
  ·rename_i x hx
   have:some x∈z:=by
    by_cases hk:k < z.length
    ·rw [z14 hk] at hx;rw [← hx];exact y37 _
    ·rw [y60,y61 (by omega)] at hx;cases hx
   have:=hz x this
   exact ih.set ⟨by omega,by omega⟩
def isRk (bs:List Int) (b:Bool) (q:Int) (z:Option Int) (q' : Int):Prop:=(b=true∧z=none∧q'=q)∨(b=false∧∃ w:Int,CallsA Tryz.prog 92 [.ptr 0 none 0,.int 4] [rdO bs q] (.int w) [rdO bs (q+1)]∧((w≠0∧z=none∧q'=q+1) ∨
 (w=0∧∃ x:Int,(0≤x∧x≤2)∧CallsA Tryz.prog 92 [.ptr 0 none 0,.int 3] [rdO bs (q+1)] (.int x) [rdO bs (q+1+1)]∧z=some (x - 1)∧q'=q+1+1)))
theorem isRk_ex (bs:List Int) (hb:BytesOk bs) (b:Bool) (q:Int) (hq:0≤q∧q≤999990000):∃ z q',isRk bs b q z q'∧q≤q'∧q'≤q+2:=by
 cases b
 ·obtain ⟨w,_,cw⟩:=z57 bs hb q 4 (by omega) (by omega) (by omega)
  by_cases h:w=0
  ·obtain ⟨x,⟨x0,x1⟩,cx⟩:=z57 bs hb (q+1) 3 (by omega) (by omega) (by omega)
   exact ⟨some (x - 1),q+1+1,.inr ⟨rfl,w,cw,.inr ⟨h,x,⟨x0,by omega⟩,cx,rfl,rfl⟩⟩,by omega,by omega⟩
  ·exact ⟨none,q+1,.inr ⟨rfl,w,cw,.inl ⟨h,rfl,rfl⟩⟩,by omega,by omega⟩
 ·exact ⟨none,q,.inl ⟨rfl,rfl,rfl⟩,by omega,by omega⟩
set_option maxHeartbeats 12800000 in
theorem z1125 (bs:List Int) (hb:CodeOk bs):∃ (g:Graph) (l:List Tree) (a:Aut) (R:List Int),(g.d∧Lab.d l∧a.sm∧R.length≤3840)∧CallsA Tryz.prog 27 [lst 1 enU bs] [] (.tup [.agg g.cs,lst 3 Tree.cs' l,.agg a.cs,.agg [ints R]]) []:=by
 have co:=z427 bs hb.len
 have hbt:=hb.take
 generalize bs.take 2000=b0 at *
 obtain ⟨g,l,a,p1,⟨hg,hl,ha,q1,q2⟩,c1⟩:=z593 b0 hbt 0 ⟨by omega,by omega⟩
 have hax:a.mx:=⟨by have:=ha.1;unfold maxLen;omega,by have:=ha.2.1;unfold maxLen;omega,by have:=ha.2.2.1;unfold maxLen;omega,ha.2.2.2⟩
 have cM:=z442 g hg.mx l hl.mx a hax
 have cP:=z341 g hg.mx l hl.mx a hax
 obtain ⟨m1,m2,m3⟩:=z740 (g:=g) (l:=l) (a:=a)
 have hpl:=prB_le g l a
 generalize mkR g l a=R0 at *
 generalize prB g l a=B at *
 generalize (glB g l && autB a)=gb at *
 generalize mkOk g l a=ok at *
 cases ok
 ·obtain ⟨w,⟨w0,w1⟩,cw⟩:=z57 b0 hbt p1 3 (by omega) (by omega) (by omega)
  by_cases hw:w=0
  ·subst hw
   obtain ⟨R',p',⟨r1,r2,r3⟩,cb⟩:=z383 b0 hbt (p1+1) ⟨by omega,by omega⟩ R0 (by omega) m3
   refine ⟨g,l,a,R',⟨hg,hl,ha,r1⟩,?_⟩
   refine z7 z15 Tryz.func27 rfl rfl 76 Tryz.ntmps27 (by simp) ?_
   repeat' ((first|(apply y76 ok;rfl)|(apply z6 (cP);rfl;rfl)|((first|(apply z11 [] [3] co;rfl;rfl)|(apply z11 [3] [] c1;rfl;rfl)|(apply z11 [] [6] cM;rfl;rfl));rfl;(focus ((repeat' first|exact z17|apply z16)<;>first|exact z44 rfl rfl|(refine z23 ?_;((exact z4 fun _=>rfl)))))))<;>conv=>whnf)
   all_goals
    refine z65 (fun _:Unit=>([(2,.ptr 0 none 0),(4,.ptr 1 none 0),(5,.ptr 2 none 0),(6,.ptr 3 none 0),(7,.ptr 4 none 0),(8,lst 3 Tree.cs' l),(9,.ptr 5 none 0),(10,.ptr 6 none 0),(11,.bool false),(12,lst 1 enB B),(14,.int 0)],[.cells 2 [[.nils,.nils]],.cells 3 [[.nils,.nils,.nils]],.cells 1 [[.nils]],rdO b0 p1,.cells 2 [g.cs],.cells 3 [a.cs],.cells 1 [[.sref 7 0 R0.length]],.cells 1 (R0.map enI)])) (fun _=>True) (fun _=>0) () trivial (by refine swR [0,1,2,3,4,5,7,6] [] rfl rfl ?_;(repeat' first|exact y78 _|exact z9 _|apply y79|refine z10 rfl (z4 (fun _=>rfl)) ?_|constructor)) ?_
    intro _ _
    repeat' ((first|((fail_if_success apply z104 11);(fail_if_success apply z88 11);(fail_if_success apply z104 12);(fail_if_success apply z88 12);apply y76 ok;rfl)|((apply z5)<;>intro _)|(apply z18 [3] [] cw;rfl;rfl;rfl))<;>conv=>whnf)
    all_goals
     refine y77 (y80 (env:=[(2,.ptr 0 none 0),(4,.ptr 1 none 0),(5,.ptr 2 none 0),(6,.ptr 3 none 0),(7,.ptr 4 none 0),(8,lst 3 Tree.cs' l),(9,.ptr 5 none 0),(10,.ptr 6 none 0)]) (objs:=[.cells 2 [[.nils,.nils]],.cells 3 [[.nils,.nils,.nils]],.cells 1 [[.nils]],rdO b0 (p1+1),.cells 2 [g.cs],.cells 3 [a.cs],.cells 1 [[ints R0]]]) [0,1,2,3,4,5,6] [7] rfl rfl rfl rfl ?_ ?_) ?_
     ·(repeat' first|exact y78 _|constructor)
     ·(repeat' first|exact y78 _|apply y79|((apply z36 rfl rfl rfl);(focus ((repeat ((exact z31 (fun _=>rfl) _)));done));(focus (((simp;done));done)))|constructor)
     conv=>whnf
     repeat' ((first|(apply y76 ok;rfl)|(apply z21;kernel_rfl)|(apply z18 [3] [] cb;rfl;rfl;rfl))<;>conv=>whnf)
     all_goals (refine rsD [] [] rfl ?_;(repeat' first|exact y78 _|constructor))
  ·refine ⟨g,l,a,R0,⟨hg,hl,ha,by omega⟩,?_⟩
   refine z7 z15 Tryz.func27 rfl rfl 76 Tryz.ntmps27 (by simp) ?_
   repeat' ((first|(apply y76 ok;rfl)|(apply z6 (cP);rfl;rfl)|((first|(apply z11 [] [3] co;rfl;rfl)|(apply z11 [3] [] c1;rfl;rfl)|(apply z11 [] [6] cM;rfl;rfl));rfl;(focus ((repeat' first|exact z17|apply z16)<;>first|exact z44 rfl rfl|(refine z23 ?_;((exact z4 fun _=>rfl)))))))<;>conv=>whnf)
   all_goals
    refine z65 (fun _:Unit=>([(2,.ptr 0 none 0),(4,.ptr 1 none 0),(5,.ptr 2 none 0),(6,.ptr 3 none 0),(7,.ptr 4 none 0),(8,lst 3 Tree.cs' l),(9,.ptr 5 none 0),(10,.ptr 6 none 0),(11,.bool false),(12,lst 1 enB B),(14,.int 0)],[.cells 2 [[.nils,.nils]],.cells 3 [[.nils,.nils,.nils]],.cells 1 [[.nils]],rdO b0 p1,.cells 2 [g.cs],.cells 3 [a.cs],.cells 1 [[.sref 7 0 R0.length]],.cells 1 (R0.map enI)])) (fun _=>True) (fun _=>0) () trivial (by refine swR [0,1,2,3,4,5,7,6] [] rfl rfl ?_;(repeat' first|exact y78 _|exact z9 _|apply y79|refine z10 rfl (z4 (fun _=>rfl)) ?_|constructor)) ?_
    intro _ _
    repeat' ((first|(apply y76 ok;rfl)|(apply z21;kernel_rfl)|((apply z5)<;>intro _)|(apply z18 [3] [] cw;rfl;rfl;rfl))<;>conv=>whnf)
    all_goals try (exfalso;omega)
    all_goals (refine rsD [] [7] rfl ?_;(repeat' first|exact y78 _|((apply z36 rfl rfl rfl);(focus ((repeat ((exact z31 (fun _=>rfl) _)));done));(focus (((simp;done));done)))|apply z41|apply z92|constructor))
 ·have hBl:=m1 rfl
  obtain ⟨zs,pf,h1,h2,h3,h4⟩:=z271 (fun k r z r'=>isRk b0 (B.getD k false) r z r') p1 2 B.length (fun k r hk b1 b2=>isRk_ex b0 hbt _ r ⟨by omega,by omega⟩)
  have h5:=h4 _ (y45 _)
  have hzb:∀ x,some x∈zs→-1≤x∧x≤1:=fun x hx=>by
   obtain ⟨i,hi,e⟩:=List.mem_iff_getElem.1 hx
   rcases h3 i hi with ⟨_,e2,_⟩|⟨_,w',_,(⟨_,e2,_⟩|⟨_,x',hx',_,e2,_⟩)⟩
   ·rw [e2] at e;cases e
   ·rw [e2] at e;cases e
   ·rw [e2] at e;cases e;omega
  have hub:=z1028 (z:=zs) m3 (by omega) hzb B.length
  have hul:=z360 R0 zs B.length
  rw [← h2] at c1
  obtain ⟨w,⟨w0,w1⟩,cw⟩:=z57 b0 hbt (pf B.length) 3 (by omega) (by omega) (by omega)
  by_cases hw:w=0
  ·subst hw
   obtain ⟨R',p',⟨r1,r2,r3⟩,cb⟩:=z383 b0 hbt (pf B.length+1) ⟨by omega,by omega⟩ (updL R0 zs B.length) (by omega) hub
   refine ⟨g,l,a,R',⟨hg,hl,ha,r1⟩,?_⟩
   refine z7 z15 Tryz.func27 rfl rfl 76 Tryz.ntmps27 (by simp) ?_
   repeat' ((first|(apply y76 ok;rfl)|(apply z6 (cP);rfl;rfl)|((first|(apply z11 [] [3] co;rfl;rfl)|(apply z11 [3] [] c1;rfl;rfl)|(apply z11 [] [6] cM;rfl;rfl));rfl;(focus ((repeat' first|exact z17|apply z16)<;>first|exact z44 rfl rfl|(refine z23 ?_;((exact z4 fun _=>rfl)))))))<;>conv=>whnf)
   all_goals
    refine z65 (fun x:Nat×List Int=>([(2,.ptr 0 none 0),(4,.ptr 1 none 0),(5,.ptr 2 none 0),(6,.ptr 3 none 0),(7,.ptr 4 none 0),(8,lst 3 Tree.cs' l),(9,.ptr 5 none 0),(10,.ptr 6 none 0),(11,.bool true),(12,lst 1 enB B),(14,.int x.1)],[.cells 2 [[.nils,.nils]],.cells 3 [[.nils,.nils,.nils]],.cells 1 [[.nils]],rdO b0 (pf x.1),.cells 2 [g.cs],.cells 3 [a.cs],.cells 1 [[.sref 7 0 x.2.length]],.cells 1 (x.2.map enI)])) (fun x=>x.1≤B.length∧x.2=updL R0 zs x.1) (fun x=>B.length - x.1) (0,R0) ⟨y46 _,rfl⟩ (by refine swR [0,1,2,3,4,5,7,6] [] rfl rfl ?_;(repeat' first|exact y78 _|exact z9 _|apply y79|refine z10 rfl (z4 (fun _=>rfl)) ?_|constructor)) ?_
    rintro ⟨k,D⟩ ⟨hk,hD⟩
    dsimp only at hk hD ⊢
    have hDl:=z360 R0 zs k
    rw [← hD] at hDl
    by_cases hkB:k < B.length
    ·have hkz:k < zs.length:=by omega
     have H:=h3 k hkz
     rw [z14 hkB] at H
     have hs:updL R0 zs (k+1)=(match zs[k] with|none=>D|some x=>D.set k x):=by rw [updL,← hD,z14 hkz]
     have hgB:(B.map enB)[k]?=some (enB B[k]):=by rw [y44,y38 hkB];rfl
     generalize zs[k]=zk at *
     generalize B[k]=b at *
     rcases H with ⟨rfl,rfl,eq⟩|⟨rfl,w',cw',(⟨w0,rfl,eq⟩|⟨rfl,x,hx,cx,rfl,eq⟩)⟩
     ·rw [← eq]
      repeat' ((first|(apply y76 ok;rfl)|(refine z12 (i:=k) (by simp) hgB ?_)|(apply y36;first|omega|(unfold inI;omega))|((apply z5)<;>intro _))<;>conv=>whnf)
      all_goals try (exfalso;omega)
      all_goals refine z25 (k+1,D) ⟨hkB,hs.symm⟩ (by show B.length - (k+1) < B.length - k;omega) (by refine swR [0,1,2,3,4,5,6,7] [] rfl rfl ?_;(repeat' first|exact y78 _|exact z9 _|apply y79|refine z10 rfl (z4 (fun _=>rfl)) ?_|constructor))
     ·rw [← eq] at cw'
      repeat' ((first|(apply y76 ok;rfl)|(refine z12 (i:=k) (by simp) hgB ?_)|(apply y36;first|omega|(unfold inI;omega))|((apply z5)<;>intro _)|(apply z18 [3] [] cw';rfl;rfl;rfl))<;>conv=>whnf)
      all_goals try (exfalso;omega)
      all_goals refine z25 (k+1,D) ⟨hkB,hs.symm⟩ (by show B.length - (k+1) < B.length - k;omega) (by refine swR [0,1,2,3,4,5,6,7] [] rfl rfl ?_;(repeat' first|exact y78 _|exact z9 _|apply y79|refine z10 rfl (z4 (fun _=>rfl)) ?_|constructor))
     ·rw [← eq] at cx
      repeat' ((first|(apply y76 ok;rfl)|(apply z21;kernel_rfl)|(refine z12 (i:=k) (by simp) hgB ?_)|(apply y36;first|omega|(unfold inI;omega))|(((apply z8;omega));intro _)|((apply z5)<;>intro _)|((first|(apply z18 [3] [] cw';rfl;rfl)|(apply z18 [3] [] cx;rfl;rfl));rfl))<;>conv=>whnf)
      all_goals try (exfalso;omega)
      all_goals refine z25 (k+1,D.set k (x - 1)) ⟨hkB,hs.symm⟩ (by show B.length - (k+1) < B.length - k;omega) (by refine swR [0,1,2,3,4,5,6,7] [] rfl rfl ?_;(repeat' first|exact y78 _|(refine z38 ?_;((simp;done)))|apply y79|refine z43 rfl (z4 (fun _=>rfl)) ?_|refine z163 (by omega) ?_|constructor))
    have e:k=B.length:=by omega
    subst e
    subst hD
    repeat' ((first|((fail_if_success apply z104 11);(fail_if_success apply z88 11);(fail_if_success apply z104 12);(fail_if_success apply z88 12);apply y76 ok;rfl)|(apply y36;omega)|(((with_reducible apply z8;omega));intro _)|((first|apply z5|apply z74)<;>intro _)|(apply z18 [3] [] cw;rfl;rfl;rfl))<;>conv=>whnf)
    all_goals try (exfalso;omega)
    all_goals
     refine y77 (y80 (env:=[(2,.ptr 0 none 0),(4,.ptr 1 none 0),(5,.ptr 2 none 0),(6,.ptr 3 none 0),(7,.ptr 4 none 0),(8,lst 3 Tree.cs' l),(9,.ptr 5 none 0),(10,.ptr 6 none 0)]) (objs:=[.cells 2 [[.nils,.nils]],.cells 3 [[.nils,.nils,.nils]],.cells 1 [[.nils]],rdO b0 (pf B.length+1),.cells 2 [g.cs],.cells 3 [a.cs],.cells 1 [[ints (updL R0 zs B.length)]]]) [0,1,2,3,4,5,6] [7] rfl rfl rfl rfl ?_ ?_) ?_
     ·(repeat' first|exact y78 _|constructor)
     ·(repeat' first|exact y78 _|apply y79|((apply z36 rfl rfl rfl);(focus ((repeat ((exact z31 (fun _=>rfl) _)));done));(focus (((simp;done));done)))|constructor)
     conv=>whnf
     repeat' ((first|(apply y76 ok;rfl)|(apply z21;kernel_rfl)|(apply z18 [3] [] cb;rfl;rfl;rfl))<;>conv=>whnf)
     all_goals (refine rsD [] [] rfl ?_;(repeat' first|exact y78 _|constructor))
  ·refine ⟨g,l,a,(updL R0 zs B.length),⟨hg,hl,ha,by omega⟩,?_⟩
   refine z7 z15 Tryz.func27 rfl rfl 76 Tryz.ntmps27 (by simp) ?_
   repeat' ((first|(apply y76 ok;rfl)|(apply z6 (cP);rfl;rfl)|((first|(apply z11 [] [3] co;rfl;rfl)|(apply z11 [3] [] c1;rfl;rfl)|(apply z11 [] [6] cM;rfl;rfl));rfl;(focus ((repeat' first|exact z17|apply z16)<;>first|exact z44 rfl rfl|(refine z23 ?_;((exact z4 fun _=>rfl)))))))<;>conv=>whnf)
   all_goals
    refine z65 (fun x:Nat×List Int=>([(2,.ptr 0 none 0),(4,.ptr 1 none 0),(5,.ptr 2 none 0),(6,.ptr 3 none 0),(7,.ptr 4 none 0),(8,lst 3 Tree.cs' l),(9,.ptr 5 none 0),(10,.ptr 6 none 0),(11,.bool true),(12,lst 1 enB B),(14,.int x.1)],[.cells 2 [[.nils,.nils]],.cells 3 [[.nils,.nils,.nils]],.cells 1 [[.nils]],rdO b0 (pf x.1),.cells 2 [g.cs],.cells 3 [a.cs],.cells 1 [[.sref 7 0 x.2.length]],.cells 1 (x.2.map enI)])) (fun x=>x.1≤B.length∧x.2=updL R0 zs x.1) (fun x=>B.length - x.1) (0,R0) ⟨y46 _,rfl⟩ (by refine swR [0,1,2,3,4,5,7,6] [] rfl rfl ?_;(repeat' first|exact y78 _|exact z9 _|apply y79|refine z10 rfl (z4 (fun _=>rfl)) ?_|constructor)) ?_
    rintro ⟨k,D⟩ ⟨hk,hD⟩
    dsimp only at hk hD ⊢
    have hDl:=z360 R0 zs k
    rw [← hD] at hDl
    by_cases hkB:k < B.length
    ·have hkz:k < zs.length:=by omega
     have H:=h3 k hkz
     rw [z14 hkB] at H
     have hs:updL R0 zs (k+1)=(match zs[k] with|none=>D|some x=>D.set k x):=by rw [updL,← hD,z14 hkz]
     have hgB:(B.map enB)[k]?=some (enB B[k]):=by rw [y44,y38 hkB];rfl
     generalize zs[k]=zk at *
     generalize B[k]=b at *
     rcases H with ⟨rfl,rfl,eq⟩|⟨rfl,w',cw',(⟨w0,rfl,eq⟩|⟨rfl,x,hx,cx,rfl,eq⟩)⟩
     ·rw [← eq]
      repeat' ((first|(apply y76 ok;rfl)|(refine z12 (i:=k) (by simp) hgB ?_)|(apply y36;first|omega|(unfold inI;omega))|((apply z5)<;>intro _))<;>conv=>whnf)
      all_goals try (exfalso;omega)
      all_goals refine z25 (k+1,D) ⟨hkB,hs.symm⟩ (by show B.length - (k+1) < B.length - k;omega) (by refine swR [0,1,2,3,4,5,6,7] [] rfl rfl ?_;(repeat' first|exact y78 _|exact z9 _|apply y79|refine z10 rfl (z4 (fun _=>rfl)) ?_|constructor))
     ·rw [← eq] at cw'
      repeat' ((first|(apply y76 ok;rfl)|(refine z12 (i:=k) (by simp) hgB ?_)|(apply y36;first|omega|(unfold inI;omega))|((apply z5)<;>intro _)|(apply z18 [3] [] cw';rfl;rfl;rfl))<;>conv=>whnf)
      all_goals try (exfalso;omega)
      all_goals refine z25 (k+1,D) ⟨hkB,hs.symm⟩ (by show B.length - (k+1) < B.length - k;omega) (by refine swR [0,1,2,3,4,5,6,7] [] rfl rfl ?_;(repeat' first|exact y78 _|exact z9 _|apply y79|refine z10 rfl (z4 (fun _=>rfl)) ?_|constructor))
     ·rw [← eq] at cx
      repeat' ((first|(apply y76 ok;rfl)|(apply z21;kernel_rfl)|(refine z12 (i:=k) (by simp) hgB ?_)|(apply y36;first|omega|(unfold inI;omega))|(((apply z8;omega));intro _)|((apply z5)<;>intro _)|((first|(apply z18 [3] [] cw';rfl;rfl)|(apply z18 [3] [] cx;rfl;rfl));rfl))<;>conv=>whnf)
      all_goals try (exfalso;omega)
      all_goals refine z25 (k+1,D.set k (x - 1)) ⟨hkB,hs.symm⟩ (by show B.length - (k+1) < B.length - k;omega) (by refine swR [0,1,2,3,4,5,6,7] [] rfl rfl ?_;(repeat' first|exact y78 _|(refine z38 ?_;((simp;done)))|apply y79|refine z43 rfl (z4 (fun _=>rfl)) ?_|refine z163 (by omega) ?_|constructor))
    have e:k=B.length:=by omega
    subst e
    subst hD
    repeat' ((first|(apply y76 ok;rfl)|(apply z21;kernel_rfl)|(apply y36;omega)|(((with_reducible apply z8;omega));intro _)|((first|apply z5|apply z74)<;>intro _)|(apply z18 [3] [] cw;rfl;rfl;rfl))<;>conv=>whnf)
    all_goals try (exfalso;omega)
    all_goals (refine rsD [] [7] rfl ?_;(repeat' first|exact y78 _|((apply z36 rfl rfl rfl);(focus ((repeat ((exact z31 (fun _=>rfl) _)));done));(focus (((simp;done));done)))|apply z41|apply z92|constructor))
def z1169 (rows:List (List Int)) (ini:List Int) (acc:List Bool):Prop:=∀ x,RP rows ini x→Cyc rows x→acc.getD (x % acc.length).toNat false=false
theorem acc_nat (acc:List Bool) {x:Int} (hx:0≤x):acc.getD (x % acc.length).toNat false=acc.getD (x.toNat % acc.length) false:=by
 obtain ⟨i,rfl⟩:∃ i:Nat,x=i:=⟨x.toNat,by omega⟩
 rw [← Int.natCast_emod,y69,y69]
section
variable {rows:List (List Int)} {ini:List Int} {acc:List Bool} {R:List Int}
theorem z866 (hr:∀ r∈rows,InN rows.length r) (hi:InN rows.length ini) (h:z543 rows ini acc rows.length R) {x:Int} (hx:RP rows ini x):0≤rk R x:=by
 obtain ⟨h1,h2,h3,h4⟩:=h
 induction hx with
 |base hb=>exact h3 _ hb
 |step hx e ih =>
  rename_i x y
  have hxN:=RP.in hr hi hx
  have e1:rk R x=R[x.toNat]'(by omega):=by unfold rk;rw [z14 (by omega)]
  rw [e1] at ih
  exact (h4 x.toNat (by omega) ih y e).1
theorem z542 (hr:∀ r∈rows,InN rows.length r) (hi:InN rows.length ini) (h:z543 rows ini acc rows.length R) {x y:Int} (hx:RP rows ini x) (e:y∈rows.getD x.toNat []):rk R y+wtA acc x≤rk R x:=by
 have h0:=z866 hr hi h hx
 obtain ⟨h1,h2,h3,h4⟩:=h
 have hxN:=RP.in hr hi hx
 have e1:rk R x=R[x.toNat]'(by omega):=by unfold rk;rw [z14 (by omega)]
 rw [e1] at h0 ⊢
 have:=(h4 x.toNat (by omega) h0 y e).2
 unfold wtA
 rw [acc_nat acc hxN.1]
 unfold less at this
 split at this<;>split<;>simp_all<;>omega
theorem z1140 (hr:∀ r∈rows,InN rows.length r) (hi:InN rows.length ini) (h:z543 rows ini acc rows.length R) {x y:Int} (hx:RP rows ini x) (hy:RP rows [x] y):rk R y≤rk R x:=by
 induction hy with
 |base hb=>rw [List.mem_singleton.1 hb];exact Int.le_refl _
 |@step a b h1 e ih =>
  have h3:=z542 hr hi h (RP.trans0 hx h1) e
  have h4:=wtA_nn acc a
  omega
theorem z994 (hr:∀ r∈rows,InN rows.length r) (hi:InN rows.length ini) (h:z543 rows ini acc rows.length R):z1169 rows ini acc:=by
 rintro x hx ⟨y,hy,hyx⟩
 have h1:=z542 hr hi h hx hy
 have h2:=z1140 hr hi h (.step hx hy) hyx
 have h3:wtA acc x=0:=by have:=wtA_nn acc x;omega
 unfold wtA at h3
 split at h3
 ·omega
 ·simp_all
theorem z1141 (hr:∀ r∈rows,InN rows.length r) (hi:InN rows.length ini) (h:z543 rows ini acc rows.length R):∀ (k:Nat) (u:Int),RP rows ini u→Wt rows acc k u≤rk R u
 |0,u,hu=>z866 hr hi h hu
 |k+1,u,hu=>by
  rw [Wt]
  refine z172 (z866 hr hi h hu) fun v hv=>?_
  have h1:=z1141 hr hi h k v (.step hu hv)
  have h2:=z542 hr hi h hu hv
  omega
theorem z935 (k:Nat):∀ u,Wt rows acc k u≤k:=by
 induction k with
 |zero=>intro u;exact Int.le_refl _
 |succ k ih =>
  intro u
  rw [Wt]
  refine z172 (by omega) fun v hv=>?_
  have:=ih v
  have:wtA acc u≤1:=by unfold wtA;split<;>omega
  omega
theorem z641 (z:Int):(rkL rows ini acc z).length=rows.length:=by simp [rkL]
theorem rkL_get (z:Int) {u:Int} (hu:0≤u∧u < rows.length):rk (rkL rows ini acc z) u=if RP rows ini u then Wt rows acc (bfsL rows ini).length u else z:=by
 unfold rk
 rw [z14 (by rw [z641];omega)]
 simp only [rkL,List.getElem_map,List.getElem_range,Int.toNat_of_nonneg hu.1]
theorem rkL_at (z:Int) {i:Nat} (hi:i < rows.length):(rkL rows ini acc z).getD i 0=if RP rows ini (i:Int) then Wt rows acc (bfsL rows ini).length i else z:=by
 have:=rkL_get (rows:=rows) (ini:=ini) (acc:=acc) z (u:=(i:Int)) ⟨by omega,by omega⟩
 unfold rk at this
 rwa [y69] at this
end
end Go.Proofs.YtahhobgjcfionaaGreat
namespace Go.Proofs.YtahhobgjcfionaaGreat
open Go.Gl
attribute [local irreducible] z29 AWP z46 z50 z47 RetS z58
attribute [local irreducible] EndR
theorem z708 {g:Graph} {ls:List Int} {a:Aut} (hr:∀ r∈z27 g ls a,InN (z27 g ls a).length r) (hi:InN (z27 g ls a).length a.ini) (hn:a.ini.Nodup) (h:trcO g ls a=none):z1169 (z27 g ls a) a.ini a.acc:=by
 unfold trcO at h
 rw [Option.map_eq_none_iff,← z315 hr hi hn,z743] at h
 intro x hx hc
 have hxN:=RP.in hr hi hx
 have:=h x ((z140 hr hi x).2 hx)
 cases hb:a.acc.getD (x % a.acc.length).toNat false with
 |false=>rfl
 |true =>
  exfalso
  apply this
  refine ⟨hb,z218.2 ?_⟩
  rw [Int.toNat_of_nonneg hxN.1];exact hc
set_option maxHeartbeats 6400000 in
theorem z760 (g:Graph) (hg:g.mx) (l:List Tree) (hl:Lmx l) (a:Aut) (ha:a.mx):CallsA Tryz.prog 28 [.agg g.cs,lst 3 Tree.cs' l,.agg a.cs] [] (.tup [.agg [.sref 0 0 (mkR g l a).length],.bool (mkOk g l a)]) [.cells 1 ((mkR g l a).map enI)]:=by
 have k0:=z435 g hg l hl a ha
 by_cases hgl:(glB g l && autB a)=true
 ·rw [hgl] at k0
  obtain ⟨h1,hab⟩:=Bool.and_eq_true_iff.1 hgl
  have hG:=(z69 g).1 (by unfold glB at h1;exact (Bool.and_eq_true_iff.1 h1).1)
  have hL:=y7 (by unfold glB at h1;exact (Bool.and_eq_true_iff.1 h1).2)
  have hA:=z96.1 hab
  have k1:CallsA Tryz.prog 16 [.agg g.cs,lst 3 Tree.cs' l,.agg a.cs] [] (.tup [.agg (ftL g l a).cs,.bool (ftO g l a).isSome]) []:=(by refine y4 (z171 g hg l hl a ha) [] [0,1] rfl rfl rfl ?_ ?_<;>(repeat' first|exact y78 _|((apply z36 rfl rfl rfl);(focus ((repeat ((exact z31 (fun _=>rfl) _)));done));(focus (((simp;done));done)))|apply z41|apply z92|constructor))
  have k2:=z420 g hG l hL a hA
  obtain ⟨f1,f2,f3,f4,f5⟩:=z117 hG hA (g.st.map (z28 l))
  have hnd:=hA.2.2.1.nd
  have hac:=hA.1
  have hft:ftO g l a=trcO g (g.st.map (z28 l)) a:=by unfold ftO;rw [if_pos hgl]
  have hmk:mkOk g l a=!(trcO g (g.st.map (z28 l)) a).isSome:=by unfold mkOk;rw [hgl];rfl
  have hno:=z708 (g:=g) (ls:=g.st.map (z28 l)) (a:=a) f1 f2 hnd
  have hmR:mkR g l a=if mkOk g l a=true then z570 (z27 g (g.st.map (z28 l)) a) a.ini a.acc else []:=rfl
  rw [hft] at k1
  rw [hmk] at hmR ⊢
  generalize ftL g l a=tl at *
  generalize mkR g l a=MR at *
  generalize trcO g (g.st.map (z28 l)) a=tO at *
  cases tO with
  |some p =>
   have e:MR=[]:=hmR
   subst e
   show CallsA _ _ _ _ (.tup [.agg [.sref 0 0 0],.bool false]) [.cells 1 []]
   refine z7 z15 Tryz.func28 rfl rfl 122 Tryz.ntmps28 (by simp) ?_
   repeat' ((first|(apply y76 ok;rfl)|(apply z6 (k0);rfl;rfl)|(apply z6 (k1);rfl;rfl))<;>conv=>whnf)
   all_goals (refine y82 1 ?_;refine rsD [4] [] rfl ?_;(repeat' first|exact y78 _|exact z48|refine z10 rfl (z34) ?_|apply z41|apply z92|constructor))
  |none =>
   have hno:=hno rfl
   have e:MR=z570 (z27 g (g.st.map (z28 l)) a) a.ini a.acc:=hmR
   rw [z909 f1 f2 hno] at e
   subst e
   generalize hrows:z27 g (g.st.map (z28 l)) a=rows at *
   clear hmR hmk hft hrows
   have k3':=z374 rows a.ini f1 f2 (by omega) f4 f5
   rw [← z167 rows a.ini] at k3'
   have k3:CallsA Tryz.prog 99 [lst 1 encL rows,ints a.ini] [] (lst 1 enB (z139 rows a.ini)) []:=(by refine y4 (k3') [] [0] rfl rfl rfl ?_ ?_<;>(repeat' first|exact y78 _|((apply z36 rfl rfl rfl);(focus ((repeat ((exact z31 (fun _=>rfl) _)));done));(focus (((simp;done));done)))|constructor))
   clear k3'
   have k4:CallsA Tryz.prog 100 [lst 1 encL rows,ints a.ini] [] (ints (bfsL rows a.ini)) []:=(by refine y4 (z733 rows a.ini f1 f2 (by omega) f4 (by omega)) [] [0] rfl rfl rfl ?_ ?_<;>(repeat' first|exact y78 _|((apply z36 rfl rfl rfl);(focus ((repeat ((exact z31 (fun _=>rfl) _)));done));(focus (((simp;done));done)))|constructor))
   have hQl:=z302 f1 f2 rows.length
   show CallsA _ _ _ _ (.tup [.agg [.sref 0 0 (rkL rows a.ini a.acc (-1)).length],.bool true]) [.cells 1 ((rkL rows a.ini a.acc (-1)).map enI)]
   refine z7 z15 Tryz.func28 rfl rfl 122 Tryz.ntmps28 (by simp) ?_
   repeat' ((first|(apply y76 ok;rfl)|(apply y36;(dsimp only;omega))|(apply z6 (k0);rfl;rfl)|(apply z6 (k1);rfl;rfl)|(apply z6 (k2);rfl;rfl)|(apply z6 (k3);rfl;rfl)|(apply z6 (k4);rfl;rfl))<;>conv=>whnf)
   have hQ4:(bfsL rows a.ini).length≤3840:=by unfold bfsL;omega
   have k5:=back_ok (bfsL rows a.ini) (by unfold maxLen;omega)
   have hRI:=RoundI.init (rows:=rows) (ini:=a.ini) (acc:=a.acc) f1 f2
   refine z65 (fun x:Nat×List Int×Bool=>([(5,.ptr 0 none 0),(6,.ptr 1 none 0),(10,.ptr 2 none 0),(11,.ptr 3 none 0),(13,lst 1 enB (z139 rows a.ini)),(14,.ptr 5 none 0),(15,ints (bfsL rows a.ini)),(16,.ptr 6 none 0)],[.cells 3 [a.cs],.cells 1 [[.nils]],.cells 1 [[.int a.acc.length]],.cells 1 [[lst 1 encL rows]],.cells 1 (x.2.1.map enI),.cells 1 [[.sref 4 0 rows.length]],.cells 1 [[.bool x.2.2]]])) (fun x=>RoundI rows a.ini a.acc x.1 x.2.1 x.2.2) (fun x=>match x.2.2 with
    |true=>(bfsL rows a.ini).length+1 - x.1+1
    |false=>0) (0,List.replicate rows.length 0,true) hRI (by refine swR [1,2,4,5,6,7,8] [] rfl rfl ?_;(repeat' first|exact y78 _|apply y79|refine z10 rfl (z42 rfl) ?_|constructor)<;>((refine z30 ?_;rw [y69,List.map_replicate];rfl))) ?_
   rintro ⟨t,R,c⟩ hI
   dsimp only at hI
   dsimp only
   have hRl:=hI.rk.len
   cases c with
   |false =>
    obtain ⟨qm,hqm⟩:∃ qm:Nat→Nat→Int,qm=fun (i j:Nat)=>if j < i∧¬ RP rows a.ini (j:Int) then -1 else R.getD j 0:=⟨_,rfl⟩
    have q0:fnL rows.length (qm 0)=R:=by
     apply y67 (by rw [z107];exact hRl.symm)
     intro i h1 h2
     rw [z431,hqm]
     dsimp only
     rw [if_neg (by omega),z14 h2]
    have qE:fnL rows.length (qm rows.length)=rkL rows a.ini a.acc (-1):=by
     apply y67 (by rw [z107,z641])
     intro i h1 h2
     have hi' : i < rows.length:=by rw [z107] at h1;exact h1
     rw [z431,← z14 (d:=0) h2,rkL_at _ hi',hqm]
     dsimp only
     by_cases hp:RP rows a.ini (i:Int)
     ·rw [if_neg (by simp [hp]),if_pos hp]
      have:=hI.fin rfl (i:Int) hp
      rwa [y69] at this
     ·rw [if_pos ⟨hi',hp⟩,if_neg hp]
    have qT:∀ i:Nat,¬ RP rows a.ini (i:Int)→qm (i+1)=upd (qm i) i (-1):=fun i hp=>by
     funext j
     by_cases h2:j=i
     ·subst h2;rw [z32,hqm];dsimp only;rw [if_pos ⟨by omega,hp⟩]
     ·rw [z45 _ _ h2,hqm];dsimp only
      by_cases h3:j < i
      ·simp only [show j < i+1 by omega,h3]
      ·simp only [show ¬ j < i+1 by omega,h3]
    have qF:∀ i:Nat,RP rows a.ini (i:Int)→qm (i+1)=qm i:=fun i hp=>by
     funext j
     rw [hqm];dsimp only
     by_cases h2:j=i
     ·subst h2;rw [if_neg (by simp [hp]),if_neg (by simp [hp])]
     ·by_cases h3:j < i
      ·simp only [show j < i+1 by omega,h3]
      ·simp only [show ¬ j < i+1 by omega,h3]
    clear hqm
    have hbl:=z167 rows a.ini
    repeat' (((apply y76 ok;rfl))<;>conv=>whnf)
    refine z65 (fun i:Nat=>([(6,.ptr 0 none 0),(13,lst 1 enB (z139 rows a.ini)),(14,.ptr 1 none 0),(107,.int rows.length),(108,.int i)],[.cells 1 [[.nils]],.cells 1 [[.sref 2 0 rows.length]],.cells 1 ((fnL rows.length (qm i)).map enI)])) (fun i=>i≤rows.length) (fun i=>rows.length - i) 0 (y46 _) (by refine swR [1,5,4] [] rfl rfl ?_;(repeat' first|exact y78 _|apply y79|refine z10 rfl (z4 (fun _=>rfl)) ?_|constructor)<;>((refine z30 ?_;rw [q0]))) ?_
    intro i hi
    by_cases hil:i < rows.length
    ·have gm:((z139 rows a.ini).map enB)[i]?=some (enB (decide (RP rows a.ini (i:Int)))):=by
      rw [y44,y38 (by omega)]
      simp [z139]
     have g1:=z164 (qm i) hil
     have l1:=z107 rows.length (qm i)
     by_cases hp:RP rows a.ini (i:Int)
     ·rw [y73 hp] at gm
      have e:=qF i hp
      generalize z139 rows a.ini=rb at *
      repeat' ((first|(apply y76 ok;rfl)|(refine z12 (i:=i) rfl gm ?_)|(apply y36;first|omega|(unfold inI;omega))|((apply z5)<;>intro _))<;>conv=>whnf)
      all_goals try (exfalso;omega)
      all_goals refine z25 (i+1) hil (by show rows.length - (i+1) < rows.length - i;omega) (by refine swR [0,1,2] [] rfl rfl ?_;(repeat' first|exact y78 _|apply y79|refine z10 rfl (z4 (fun _=>rfl)) ?_|constructor)<;>((rw [e];(repeat' (exact z9 _)))))
     ·rw [y74 hp] at gm
      have e1:=z142 (N:=rows.length) (u:=i) (qm i) (-1)
      rw [← qT i hp] at e1
      generalize z139 rows a.ini=rb at *
      repeat' ((first|(apply y76 ok;rfl)|(refine z12 (i:=i) rfl gm ?_)|(refine z12 (i:=i) rfl g1 ?_)|(apply y36;first|omega|(unfold inI;omega))|((apply z5)<;>intro _))<;>conv=>whnf)
      all_goals try (exfalso;omega)
      all_goals refine z25 (i+1) hil (by show rows.length - (i+1) < rows.length - i;omega) (by refine swR [0,1,2] [] rfl rfl ?_;(repeat' first|exact y78 _|apply y79|refine z43 rfl (z4 (fun _=>rfl)) ?_|constructor)<;>((refine z30 ?_;exact e1)))
    obtain rfl:i=rows.length:=by omega
    rw [qE,z641]
    repeat' ((first|(apply y76 ok;rfl)|(apply y36;omega)|((first|(with_reducible apply z8;omega)|(apply z8;omega));intro _)|((first|apply z5|apply z74)<;>intro _))<;>conv=>whnf)
    all_goals try (exfalso;omega)
    all_goals (refine rsD [2] [] rfl ?_;(repeat' first|exact y78 _|exact z9 _|refine z10 rfl (z4 (fun _=>rfl)) ?_|constructor))
   |true =>
    have hps:=hI.pass f1 f2 hno
    have hlt:=hI.lt rfl
    repeat' ((first|(apply y76 ok;rfl)|(apply z18 [] [7] k5;rfl;rfl;rfl))<;>conv=>whnf)
    refine y77 (y80 (env:=[(5,.ptr 1 none 0),(6,.ptr 2 none 0),(10,.ptr 3 none 0),(11,.ptr 4 none 0),(13,lst 1 enB (z139 rows a.ini)),(14,.ptr 6 none 0),(15,ints (bfsL rows a.ini)),(16,.ptr 7 none 0),(59,.fn (.func 170) [] [.ptr 0 none 0])]) (objs:=[.cells 1 [[ints (bfsL rows a.ini)]],.cells 3 [a.cs],.cells 1 [[.nils]],.cells 1 [[.int a.acc.length]],.cells 1 [[lst 1 encL rows]],.cells 1 (R.map enI),.cells 1 [[.sref 5 0 rows.length]],.cells 1 [[.bool false]]]) [7,0,1,2,3,4,5,6] [] rfl rfl rfl rfl ?_ ?_) ?_
    ·(repeat' first|exact y78 _|constructor)
    ·(repeat' first|exact y78 _|exact z9 _|apply y79|refine z10 rfl (z4 (fun _=>rfl)) ?_|constructor)
    refine z685 (M:=8) (L:=bfsL rows a.ini) back1 ⟨_,_,Tryz.func170,rfl,rfl⟩ rfl (Nat.le_of_ble_eq_true rfl) (Nat.le_of_ble_eq_true rfl) (by unfold maxLen;omega) (by kernel_rfl) (by decide)
     (fun x:List Int×Bool=>[.cells 3 [a.cs],.cells 1 [[.nils]],.cells 1 [[.int a.acc.length]],.cells 1 [[lst 1 encL rows]],.cells 1 (x.1.map enI),.cells 1 [[.sref 5 0 rows.length]],.cells 1 [[.bool x.2]]])
     (fun k x=>pst rows a.acc (bfsL rows a.ini) R k=x) (R,false) rfl (fun _=>rfl) (z900 _ _) ?_ ?_
    ·intro k x hk hx
     have hpi:=pst_inv (acc:=a.acc) f1 f2 hno hI.rk (k+1)
     have hpg:=z643 f1 f2 hRl hI.gr ((bfsL rows a.ini).length - (k+1)) (k+1) (by omega)
     have hst:=z899 (rows:=rows) (acc:=a.acc) (R:=R) hk
     rw [hx] at hpi hpg hst
     obtain ⟨R1,c1⟩:=x
     dsimp only at hpi hpg ⊢
     have hu:=(z140 f1 f2 _).1 (y37 hk)
     generalize (bfsL rows a.ini)[k]=u at *
     have huN:=RP.in f1 f2 hu
     have hRl1:=hpi.len
     rw [z465] at hst
     dsimp only at hst
     have hgu:=hpg u hu
     have hle:=z1059 (acc:=a.acc) (R:=R1) hu hpi.hi
     have hWs:=z935 (rows:=rows) (acc:=a.acc) ((bfsL rows a.ini).length+1) u
     have hrowR:∀ v∈rows.getD u.toNat [],RP rows a.ini v:=fun v hv=>.step hu hv
     have hv0:∀ v∈rows.getD u.toNat [],0≤R1.getD v.toNat 0∧R1.getD v.toNat 0≤4000:=fun v hv=>by
      have h1:=hpi.lo v (hrowR v hv)
      have h2:=hpi.hi v (hrowR v hv)
      have h3:=z1010 (rows:=rows) (acc:=a.acc) t v
      have h4:=z935 (rows:=rows) (acc:=a.acc) (bfsL rows a.ini).length v
      omega
     have hrk:rkU rows a.acc R1 u=rkP R1 (rows.getD u.toNat [])+(if a.acc.getD (u % a.acc.length).toNat false=true∧0 < (rows.getD u.toNat []).length then 1 else 0):=rk_impl fun v hv=>(hv0 v hv).1
     have hm0:0≤u % (a.acc.length:Int):=Int.emod_nonneg _ (by omega)
     have hm1:u % (a.acc.length:Int) < a.acc.length:=Int.emod_lt_of_pos _ (by omega)
     have ga:(a.acc.map enB)[(u % (a.acc.length:Int)).toNat]?=some (enB (a.acc.getD (u % (a.acc.length:Int)).toNat false)):=by
      rw [y44,y38 (by omega),z14 (by omega)];rfl
     have grow:(rows.map encL)[u.toNat]?=some (encL (rows.getD u.toNat [])):=by
      rw [y44,y38 (by omega),z14 (by omega)];rfl
     have gu:(R1.map enI)[u.toNat]?=some (enI (R1.getD u.toNat 0)):=by
      rw [y44,y38 (by omega),z14 (by omega)];rfl
     have hrb:(rows.getD u.toNat []).length≤1000000000:=by rw [z14 (by omega)];exact f4 _ (y37 _)
     have hrN:∀ v∈rows.getD u.toNat [],0≤v∧v < rows.length:=fun v hv=>RP.in f1 f2 (hrowR v hv)
     clear hrowR hle hpg hpi hx hps hI hRI hQl
     rw [hrk] at hst hgu
     clear hrk
     generalize rows.getD u.toNat []=row at *
     generalize a.acc.getD (u % (a.acc.length:Int)).toNat false=z at *
     have hpr:∀ j,0≤rkP R1 (row.take j)∧rkP R1 (row.take j)≤4000:=fun j=>⟨(z109 _ _ _).1,z172 (by omega) fun v hv=>(hv0 v (List.mem_of_mem_take hv)).2⟩
     repeat' ((first|(apply y76 ok;rfl)|(refine z12 (i:=u.toNat) rfl grow ?_)|(apply y36;omega))<;>conv=>whnf)
     refine z65 (fun j:Nat=>([(5,.ptr 1 none 0),(10,.ptr 3 none 0),(11,.ptr 4 none 0),(14,.ptr 6 none 0),(16,.ptr 7 none 0),(18,.int u),(19,.int (rkP R1 (row.take j))),(65,ints row),(66,.int row.length),(67,.int j)],[.cells 1 [[ints (bfsL rows a.ini)]],.cells 3 [a.cs],.cells 1 [[.nils]],.cells 1 [[.int a.acc.length]],.cells 1 [[lst 1 encL rows]],.cells 1 (R1.map enI),.cells 1 [[.sref 5 0 rows.length]],.cells 1 [[.bool c1]]])) (fun j=>j≤row.length) (fun j=>row.length - j) 0 (y46 _) (by refine swR [0,1,2,3,4,5,6,7] [] rfl rfl ?_;(repeat' first|exact y78 _|exact z9 _|apply y79|refine z10 rfl (z4 (fun _=>rfl)) ?_|constructor)) ?_
     intro j hj
     by_cases hjl:j < row.length
     ·have gv:(row.map enI)[j]?=some (enI row[j]):=by rw [y44,y38 hjl];rfl
      have hvN:=hrN _ (y37 hjl)
      have gR:(R1.map enI)[(row[j]).toNat]?=some (enI (R1.getD (row[j]).toNat 0)):=by
       rw [y44,y38 (by omega),z14 (by omega)];rfl
      have ht:=rkP_take (R:=R1) hjl
      have hp1:=hpr j
      have hv1:=hv0 _ (y37 hjl)
      generalize row[j]=v at *
      generalize rkP R1 (row.take j)=q1 at *
      generalize R1.getD v.toNat 0=rv at *
      repeat' ((first|(apply y76 ok;rfl)|(apply z21;kernel_rfl)|(refine z12 (i:=j) rfl gv ?_)|(refine z12 (i:=v.toNat) rfl gR ?_)|(apply y36;first|omega|(unfold inI;omega))|((first|(with_reducible apply z55;omega)|(apply z8;omega));intro _)|((first|apply z5|apply z37|apply z87)<;>intro _))<;>conv=>whnf)
      all_goals try (exfalso;omega)
      all_goals refine z25 (j+1) (by show j+1≤_;omega) (by show row.length - (j+1) < row.length - j;omega) (by refine swR [0,1,2,3,4,5,6,7] [] rfl rfl ?_;(repeat' first|exact y78 _|exact z9 _|(refine z105 ?_;omega)|apply y79|refine z10 rfl (z4 (fun _=>rfl)) ?_|constructor)<;>((rw [ht];(repeat' (fail)))))
     obtain rfl:j=row.length:=by omega
     rw [y49]
     have hp1:=hpr row.length
     rw [y49] at hp1
     clear hpr hv0 hrN
     generalize rkP R1 row=q at *
     have gs:∀ v,(R1.map enI).set u.toNat (enI v)=(R1.set u.toNat v).map enI:=fun v=>by rw [List.map_set]
     generalize R1.getD u.toNat 0=ru at *
     by_cases hz:z=true∧0 < row.length
     ·rw [if_pos hz] at hst hgu
      obtain ⟨rfl,hrl⟩:=hz
      by_cases hc:ru < q+1
      ·rw [if_pos hc] at hst
       have gs1:=gs (q+1)
       repeat' ((first|(apply y76 ok;rfl)|(apply z21;kernel_rfl)|(refine z12 (i:=u.toNat) rfl grow ?_)|(refine z12 (i:=(u % (a.acc.length:Int)).toNat) rfl ga ?_)|(refine z12 (i:=u.toNat) rfl gu ?_)|(apply y36;first|omega|(unfold inI;omega))|((first|(with_reducible apply z8;omega)|(apply z8;omega));intro _)|((first|apply z5|apply z37)<;>intro _))<;>conv=>whnf)
       all_goals try (exfalso;omega)
       all_goals exact EndR.mk (R1.set u.toNat (q+1),true) hst (by refine swR [0,1,2,3,4,5,6,7] [] rfl rfl ?_;(repeat' first|exact y78 _|apply y79|refine z43 rfl (z4 (fun _=>rfl)) ?_|refine z163 (by omega) ?_|constructor)<;>((refine z30 ?_;exact gs1)))
      ·rw [if_neg hc] at hst
       repeat' ((first|(apply y76 ok;rfl)|(apply z21;kernel_rfl)|(refine z12 (i:=u.toNat) rfl grow ?_)|(refine z12 (i:=(u % (a.acc.length:Int)).toNat) rfl ga ?_)|(refine z12 (i:=u.toNat) rfl gu ?_)|(apply y36;first|omega|(unfold inI;omega))|((first|(with_reducible apply z8;omega)|(apply z8;omega));intro _)|((first|apply z5|apply z37)<;>intro _))<;>conv=>whnf)
       all_goals try (exfalso;omega)
       all_goals exact EndR.mk (R1,c1) hst (by refine swR [0,1,2,3,4,5,6,7] [] rfl rfl ?_;(repeat' first|exact y78 _|exact z9 _|apply y79|refine z10 rfl (z4 (fun _=>rfl)) ?_|constructor))
     ·rw [if_neg hz,Int.add_zero] at hst hgu
      cases z with
      |true =>
       have hrl:row.length=0:=by
        rcases Nat.eq_zero_or_pos row.length with h|h
        ·exact h
        ·exact absurd ⟨rfl,h⟩ hz
       by_cases hc:ru < q
       ·rw [if_pos hc] at hst
        have gs1:=gs (q)
        repeat' ((first|(apply y76 ok;rfl)|(apply z21;kernel_rfl)|(refine z12 (i:=u.toNat) rfl grow ?_)|(refine z12 (i:=(u % (a.acc.length:Int)).toNat) rfl ga ?_)|(refine z12 (i:=u.toNat) rfl gu ?_)|(apply y36;omega)|((first|(with_reducible apply z8;omega)|(apply z8;omega));intro _)|((first|apply z5|apply z37)<;>intro _))<;>conv=>whnf)
        all_goals try (exfalso;omega)
        all_goals exact EndR.mk (R1.set u.toNat (q),true) hst (by refine swR [0,1,2,3,4,5,6,7] [] rfl rfl ?_;(repeat' first|exact y78 _|apply y79|refine z43 rfl (z4 (fun _=>rfl)) ?_|refine z163 (by omega) ?_|constructor)<;>((refine z30 ?_;exact gs1)))
       ·rw [if_neg hc] at hst
        repeat' ((first|(apply y76 ok;rfl)|(apply z21;kernel_rfl)|(refine z12 (i:=u.toNat) rfl grow ?_)|(refine z12 (i:=(u % (a.acc.length:Int)).toNat) rfl ga ?_)|(refine z12 (i:=u.toNat) rfl gu ?_)|(apply y36;omega)|((first|(with_reducible apply z8;omega)|(apply z8;omega));intro _)|((first|apply z5|apply z37)<;>intro _))<;>conv=>whnf)
        all_goals try (exfalso;omega)
        all_goals exact EndR.mk (R1,c1) hst (by refine swR [0,1,2,3,4,5,6,7] [] rfl rfl ?_;(repeat' first|exact y78 _|exact z9 _|apply y79|refine z10 rfl (z4 (fun _=>rfl)) ?_|constructor))
      |false =>
       by_cases hc:ru < q
       ·rw [if_pos hc] at hst
        have gs1:=gs (q)
        repeat' ((first|(apply y76 ok;rfl)|(apply z21;kernel_rfl)|(refine z12 (i:=(u % (a.acc.length:Int)).toNat) rfl ga ?_)|(refine z12 (i:=u.toNat) rfl gu ?_)|(apply y36;omega)|((first|(with_reducible apply z8;omega)|(apply z8;omega));intro _)|((first|apply z5|apply z37)<;>intro _))<;>conv=>whnf)
        all_goals try (exfalso;omega)
        all_goals exact EndR.mk (R1.set u.toNat (q),true) hst (by refine swR [0,1,2,3,4,5,6,7] [] rfl rfl ?_;(repeat' first|exact y78 _|apply y79|refine z43 rfl (z4 (fun _=>rfl)) ?_|refine z163 (by omega) ?_|constructor)<;>((refine z30 ?_;exact gs1)))
       ·rw [if_neg hc] at hst
        repeat' ((first|(apply y76 ok;rfl)|(apply z21;kernel_rfl)|(refine z12 (i:=(u % (a.acc.length:Int)).toNat) rfl ga ?_)|(refine z12 (i:=u.toNat) rfl gu ?_)|(apply y36;omega)|((first|(with_reducible apply z8;omega)|(apply z8;omega));intro _)|((first|apply z5|apply z37)<;>intro _))<;>conv=>whnf)
        all_goals try (exfalso;omega)
        all_goals exact EndR.mk (R1,c1) hst (by refine swR [0,1,2,3,4,5,6,7] [] rfl rfl ?_;(repeat' first|exact y78 _|exact z9 _|apply y79|refine z10 rfl (z4 (fun _=>rfl)) ?_|constructor))
    ·intro x hx
     rw [z898] at hx
     rw [hx] at hps
     obtain ⟨R1,c1⟩:=x
     dsimp only at hps ⊢
     conv=>whnf
     repeat' (((apply y76 ok;rfl))<;>conv=>whnf)
     have hμ:∀ c:Bool,(match c with
      |true=>(bfsL rows a.ini).length+1 - (t+1)+1
      |false=>0) < (bfsL rows a.ini).length+1 - t+1:=by
      intro c
      cases c
      ·show 0 < _;omega
      ·show (bfsL rows a.ini).length+1 - (t+1)+1 < _;omega
     all_goals refine z25 (t+1,R1,c1) hps (hμ c1) (by refine swR [1,2,3,4,5,6,8] [] rfl rfl ?_;(repeat' first|exact y78 _|exact z9 _|apply y79|refine z10 rfl (z4 (fun _=>rfl)) ?_|constructor))
 ·have e:mkOk g l a=false:=by unfold mkOk;rw [(y64 _).mp hgl];rfl
  have e2:mkR g l a=[]:=by unfold mkR;rw [e];rfl
  rw [e,e2]
  rw [(y64 _).mp hgl] at k0
  show CallsA _ _ _ _ (.tup [.agg [.sref 0 0 0],.bool false]) [.cells 1 []]
  refine z7 z15 Tryz.func28 rfl rfl 122 Tryz.ntmps28 (by simp) ?_
  repeat' ((first|(apply y76 ok;rfl)|(apply z6 (k0);rfl;rfl))<;>conv=>whnf)
  all_goals (refine y82 1 ?_;refine rsD [3] [] rfl ?_;(repeat' first|exact y78 _|exact z48|refine z10 rfl (z34) ?_|apply z41|apply z92|constructor))
end Go.Proofs.YtahhobgjcfionaaGreat
namespace Go.Proofs.YtahhobgjcfionaaGreat
open Go.Gl
attribute [local irreducible] z29 AWP z46 z50 z47
end Go.Proofs.YtahhobgjcfionaaGreat
namespace Go.Proofs.YtahhobgjcfionaaGreat
open Go.Gl
attribute [local irreducible] z29 AWP z46 z50 z47 RetS z58
theorem z852 (g:Graph) (hg:g.mx) (l:List Tree) (hl:Lmx l) (a:Aut) (ha:a.mx):CallsA Tryz.prog 28 [.agg g.cs,lst 3 Tree.cs' l,.agg a.cs] [] (.tup [.agg (Cert.mk (mkR g l a)).cs,.bool (mkOk g l a)]) []:=(by refine y4 (z760 g hg l hl a ha) [] [0] rfl rfl rfl ?_ ?_<;>(repeat' first|exact y78 _|((apply z36 rfl rfl rfl);(focus ((repeat ((exact z31 (fun _=>rfl) _)));done));(focus (((simp;done));done)))|apply z41|apply z92|constructor))
end Go.Proofs.YtahhobgjcfionaaGreat
