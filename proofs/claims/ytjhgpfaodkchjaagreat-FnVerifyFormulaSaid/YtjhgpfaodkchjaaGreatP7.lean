/- A part of the proofs over this program: T159, T160, T94W, T29, T94K, T161, T186, T187, T238, T33P, T67, T68, T210, T200, T162, T163, T164, T170, T201, T29A, T29C, T202, T166, T204, T212, T98, T43R, T211. -/
import Derived.Test.YtjhgpfaodkchjaaGreatP6
import Derived.Test.YtjhgpfaodkchjaaGreatRows
import Derived.WalkKit
import Derived.ProofKit
import Derived.Deep.DeepHandedRow
import Derived.Lib.LaidTab
set_option linter.all false
namespace Go.Proofs.YtjhgpfaodkchjaaGreat
open Go.Gl Proofs.Tryz
attribute [local irreducible] z18 AWP z31 z35 z34 RetS z45
theorem IniP.nd {l:List Int} {n:Int} (h:IniP l n l.length):l.Nodup:=by
 have hs:∀ d i (hi:i+d+1 < l.length),l[i] < l[i+d+1]:=by
  intro d
  induction d with
  |zero=>intro i hi;exact (h (i+1) hi hi).2 i rfl
  |succ d ih =>
   intro i hi
   have h1:=ih i (by omega)
   have h2:=(h (i+(d+1)+1) hi hi).2 (i+d+1) (by omega)
   omega
 rw [List.nodup_iff_pairwise_ne,List.pairwise_iff_getElem]
 intro i j hi hj hij
 have:=hs (j - i - 1) i (by omega)
 have e:i+(j - i - 1)+1=j:=by omega
 simp only [e] at this
 omega
noncomputable def trcO (g:Graph) (ls:List Int) (a:Aut):Option (List Int×List Int):=(finS (z33 g ls a) a.ini a.acc).map fun x=>(stL (x.1.take (x.1.length - 1)) a.acc.length,stL x.2 a.acc.length)
noncomputable def trcL (g:Graph) (ls:List Int) (a:Aut):List Int×List Int:=(trcO g ls a).getD ([],[])
set_option maxHeartbeats 6400000 in
theorem z1188 (g:Graph) (hG:GB g) (ls:List Int) (hls:ls.length=g.st.length) (hlr:∀ x∈ls,0≤x∧x≤7) (a:Aut) (hA:AutP a):QQ 54 [.agg g.cs,ints ls,.agg a.cs] [] (.tup [.agg [ints (trcL g ls a).1,ints (trcL g ls a).2],.bool (trcO g ls a).isSome]) []:=by
 have k2:=z298 g hG ls hls hlr a hA
 obtain ⟨f1,f2,f3,f4,f5⟩:=z200 hG hA ls
 have hlen:(z33 g ls a).length=g.st.length * a.acc.length:=by unfold z33;rw [z84,Nat.mul_comm]
 have hnd:=hA.2.2.1.nd
 have hac:=hA.1
 unfold trcL trcO finS
 generalize z33 g ls a=rows at *
 have k3:=z881 rows a.ini f1 f2 hnd (by omega) f4
 have hQ:=z739 f1 f2 hnd
 have hB:=z948 f1 f2 hnd
 have hPl:=z1119 f1 f2 hnd
 have hQl:=z851 f1 f2 hnd
 have hPle:=z1115 f1 f2 hnd rows.length
 have k4:=fun v hv=>z1040 rows v f1 hv (by omega) f4
 have k5:=fun k hk=>z775 (srP rows a.ini) (by omega) rows.length _ (hB k hk) (by omega)
 have n4:=fun v hv=>z1228 f1 (v:=v) hv
 have m4:=fun v hv=>z1229 f1 (v:=v) hv
 change ∀ y∈srP rows a.ini,y≤(rows.length:Int) at hPle
 generalize srQ rows a.ini=Q at *
 generalize srP rows a.ini=P at *
 generalize hR:finT rows a.acc P Q=R
 refine z7 z15 func54 rfl rfl 72 ntmps54 (by simp) ?_
 repeat' ((first|apply y4 ok;rfl|apply z4 k2;rfl;rfl|apply z4 k3;rfl;rfl)<;>conv=>whnf)
 refine z64 (fun i:Nat=>([(5,.ptr 0 none 0),(6,.ptr 1 none 0),(8,.int a.acc.length),(9,lst 1 encL rows),(10,ints P),(11,ints Q),(12,.int i)],[.cells 3 [a.cs],.cells 2 [[.nils,.nils]]])) (fun i=>i≤Q.length∧finT rows a.acc P (Q.drop i)=R) (fun i=>Q.length - i) 0 ⟨y53 _,hR⟩ (by refine swR [1,2] [] rfl rfl ?_;(repeat' first|exact y86 _|apply y87|constructor)) ?_
 rintro i ⟨hi1,hi2⟩
 by_cases hi3:i < Q.length
 ·have hq:=hQ _ (y44 hi3)
  have c5:=k5 i hi3
  rw [y80 hi3,finT] at hi2
  have hgi:(Q.map enI)[i]?=some (enI Q[i]):=by rw [y51,y45 hi3];rfl
  generalize Q[i]=u at *
  have hm0:0≤u % (a.acc.length:Int):=Int.emod_nonneg _ (by omega)
  have hm1:u % (a.acc.length:Int) < a.acc.length:=Int.emod_lt_of_pos _ (by omega)
  have hga:(a.acc.map enB)[(u % (a.acc.length:Int)).toNat]?=some (enB (a.acc.getD (u % (a.acc.length:Int)).toNat false)):=by
   rw [y51,y45 (by omega),z14 (by omega)];rfl
  have c4:=k4 u hq
  have l4:=z704 rows u
  have b1:=z561 P rows.length u []
  simp only [y59,Nat.add_zero] at b1
  have b2:=z560 P rows.length u []
  have b3:=z989 (P:=P) rows.length u [] hq.1 (fun x hx=>by cases hx)
  have b4:=z990 hPle rows.length u [] (by omega) (by omega) (fun x hx=>by cases hx)
  have n5:=n4 u hq
  have m5:=m4 u hq
  generalize bkw P rows.length u []=b at *
  generalize cycL rows u=c at *
  have c6:=z540 (b.take (b.length - 1)) a.acc.length (by rw [y48];omega) (by omega) (fun x hx=>b3 x (List.mem_of_mem_take hx)) (fun x hx=>by have:=b4 x (List.mem_of_mem_take hx);omega)
  rw [show (b.take (b.length - 1)).length=b.length - 1 by rw [y48];omega] at c6
  have eL:AC.list 1 (((b.length:Int) - 1).toNat - Int.toNat 0) (List.take (((b.length:Int) - 1).toNat - Int.toNat 0) (List.drop (Int.toNat 0) (List.map enI b)))=ints (b.take (b.length - 1)):=by
   rw [show ((b.length:Int) - 1).toNat - Int.toNat 0=b.length - 1 by rw [show Int.toNat 0=0 from rfl];omega]
   show _=AC.list 1 (b.take (b.length - 1)).length ((b.take (b.length - 1)).map enI)
   rw [show (b.take (b.length - 1)).length=b.length - 1 by rw [y48];omega,List.map_take];rfl
  rw [← eL] at c6
  have hs1:(stL (b.take (b.length - 1)) a.acc.length).length=b.length - 1:=by rw [stL,y49,y48];omega
  have hs2:(stL c a.acc.length).length=c.length:=by rw [stL,y49]
  have c7:=z540 c a.acc.length (by omega) (by omega) n5 (fun x hx=>by have:=m5 x hx;omega)
  generalize a.acc.getD (u % (a.acc.length:Int)).toNat false=z at *
  cases z
  ·rw [if_neg (by simp)] at hi2
   repeat' ((first|apply y4 ok;rfl|apply z23;kernel_rfl|refine z13 (i:=i) (by simp) hgi ?_|refine z13 (i:=(u % (a.acc.length:Int)).toNat) (by simp) hga ?_|(apply y43;first|omega|unfold inI;omega)|apply z6<;>intro _)<;>conv=>whnf)
   all_goals try (exfalso;omega)
   all_goals refine z24 (i+1) ⟨hi3,hi2⟩ (by omega) (by refine swR [0,1] [] rfl rfl ?_;(repeat' first|exact y86 _|apply y87|constructor))
  ·rw [if_pos rfl] at hi2
   by_cases hc:0 < c.length
   ·rw [if_pos hc] at hi2
    subst hi2
    repeat' ((first|apply y4 ok;rfl|apply z23;kernel_rfl|refine z13 (i:=i) (by simp) hgi ?_|refine z13 (i:=(u % (a.acc.length:Int)).toNat) (by simp) hga ?_|(apply y43;first|omega|unfold inI;omega)|apply z6<;>intro _|apply z4 c4;rfl;rfl|apply z4 c5;rfl;rfl|(first|apply z11 [] [2] c6;rfl;rfl|apply z11 [] [3] c7;rfl;rfl);rfl;(focus ((repeat' first|exact z17|apply z16)<;>(refine z20 ?_;((exact z5 fun _=>rfl))))))<;>conv=>whnf)
    all_goals try (exfalso;omega)
    all_goals (refine rsD [] [2,3] rfl ?_;(repeat' first|exact y86 _|refine z245 ?_;omega|(apply z40 rfl rfl rfl);(focus ((repeat ((exact z30 (fun _=>rfl) _)));done));(focus (((simp;omega));done))|apply z41|apply z80|constructor))
   ·rw [if_neg hc] at hi2
    repeat' ((first|apply y4 ok;rfl|apply z23;kernel_rfl|refine z13 (i:=i) (by simp) hgi ?_|refine z13 (i:=(u % (a.acc.length:Int)).toNat) (by simp) hga ?_|(apply y43;first|omega|unfold inI;omega)|apply z6<;>intro _|apply z4 c4;rfl;rfl|apply z4 c5;rfl;rfl)<;>conv=>whnf)
    all_goals try (exfalso;omega)
    all_goals refine z24 (i+1) ⟨hi3,hi2⟩ (by omega) (by refine swR [0,1] [] rfl rfl ?_;(repeat' first|exact y86 _|apply y87|constructor))
 ·have e:Q.length=i:=by omega
  subst e
  rw [List.drop_length,finT] at hi2
  subst hi2
  repeat' ((first|apply y4 ok;rfl|apply z23;kernel_rfl|apply y43;omega|(first|with_reducible apply z8;omega|with_reducible apply z52;omega);intro _|(first|apply z6|apply z82)<;>intro _)<;>conv=>whnf)
  all_goals try (exfalso;omega)
  all_goals (refine rsD [] [] rfl ?_;(repeat' first|exact y86 _|exact z43|apply z41|apply z80|constructor))
set_option maxHeartbeats 3200000 in
theorem z1186 (R row:List Int) (z:Bool) {M:Int} (hB:Bd M R) (hM:0≤M) (hM2:M≤1000000000) (hr:InN R.length row) (hRl:R.length≤100000) (hrl:row.length≤1000000000):QQ 167 [ints row,ints R,.bool z] [] (.int (rkOf R z row)) []:=by
 refine z7 z15 func167 rfl rfl 31 ntmps167 (by simp) ?_
 repeat' (((apply y4 ok;rfl))<;>conv=>whnf)
 refine z64 (fun i:Nat=>([(0,ints row),(1,ints R),(2,.bool z),(7,.int ((row.take i).foldl (z239 R z) 0)),(8,.int i)],[])) (fun i=>i≤row.length) (fun i=>row.length - i) 0 (y53 _) (by refine swR [] [] rfl rfl ?_;(repeat' first|exact y86 _|constructor)) ?_
 intro i hi
 by_cases hi2:i < row.length
 ·have hx:=hr _ (y44 hi2)
  have hb:=hB.getD hM row[i].toNat
  have ho:=z518 hB hM (z:=z) (row.take i) 0 ⟨by omega,by omega⟩
  have hs:(row.take (i+1)).foldl (z239 R z) 0=z239 R z ((row.take i).foldl (z239 R z) 0) row[i]:=by rw [y50 hi2,y63];rfl
  have hg:(row.map enI)[i]?=some (enI row[i]):=by rw [y51,y45 hi2];rfl
  have hg2:(R.map enI)[row[i].toNat]?=some (enI (R.getD row[i].toNat 0)):=by rw [y51,y45 (by omega),z14 (by omega)];rfl
  generalize (row.take i).foldl (z239 R z) 0=o at *
  generalize row[i]=v at *
  rw [show z239 R z o v=(if o < R.getD v.toNat 0+(if z=true then 1 else 0) then R.getD v.toNat 0+(if z=true then 1 else 0) else o) from rfl] at hs
  generalize R.getD v.toNat 0=r at *
  cases z
  ·simp only [if_neg (show ¬ false=true by simp),Int.add_zero] at hs
   by_cases hlt:o < r
   ·rw [if_pos hlt] at hs
    repeat' ((first|apply y4 ok;rfl|refine z13 (i:=i) (by simp) hg ?_|refine z13 (i:=v.toNat) (by simp) hg2 ?_|(apply y43;first|omega|unfold inI;omega)|apply z6<;>intro _)<;>conv=>whnf)
    all_goals try (exfalso;omega)
    all_goals refine z24 (i+1) hi2 (by omega) (by refine swR [] [] rfl rfl ?_;(repeat' first|exact y86 _|refine z115 ?_;omega|constructor)<;>((rw [hs];exact y86 _)))
   ·rw [if_neg hlt] at hs
    repeat' ((first|apply y4 ok;rfl|refine z13 (i:=i) (by simp) hg ?_|refine z13 (i:=v.toNat) (by simp) hg2 ?_|(apply y43;first|omega|unfold inI;omega)|apply z6<;>intro _)<;>conv=>whnf)
    all_goals try (exfalso;omega)
    all_goals refine z24 (i+1) hi2 (by omega) (by refine swR [] [] rfl rfl ?_;(repeat' first|exact y86 _|refine z115 ?_;omega|constructor)<;>((rw [hs];exact y86 _)))
  ·simp only [if_pos] at hs
   by_cases hlt:o < r+1
   ·rw [if_pos hlt] at hs
    repeat' ((first|apply y4 ok;rfl|refine z13 (i:=i) (by simp) hg ?_|refine z13 (i:=v.toNat) (by simp) hg2 ?_|(apply y43;first|omega|unfold inI;omega)|apply z6<;>intro _)<;>conv=>whnf)
    all_goals try (exfalso;omega)
    all_goals refine z24 (i+1) hi2 (by omega) (by refine swR [] [] rfl rfl ?_;(repeat' first|exact y86 _|refine z115 ?_;omega|constructor)<;>((rw [hs];exact y86 _)))
   ·rw [if_neg hlt] at hs
    repeat' ((first|apply y4 ok;rfl|refine z13 (i:=i) (by simp) hg ?_|refine z13 (i:=v.toNat) (by simp) hg2 ?_|(apply y43;first|omega|unfold inI;omega)|apply z6<;>intro _)<;>conv=>whnf)
    all_goals try (exfalso;omega)
    all_goals refine z24 (i+1) hi2 (by omega) (by refine swR [] [] rfl rfl ?_;(repeat' first|exact y86 _|refine z115 ?_;omega|constructor)<;>((rw [hs];exact y86 _)))
 ·have e:row.length=i:=by omega
  subst e
  rw [y56]
  repeat' ((first|apply y4 ok;rfl|apply y43;omega|(first|with_reducible apply z8;omega|with_reducible apply z52;omega);intro _|(first|apply z6|apply z82)<;>intro _)<;>conv=>whnf)
  all_goals try (exfalso;omega)
  all_goals (refine rsD [] [] rfl ?_;(repeat' first|exact y86 _|constructor))
set_option maxHeartbeats 12800000 in
theorem z1039 (rows:List (List Int)) (a:Aut) (hr:∀ r∈rows,InN rows.length r) (hi:InN rows.length a.ini) (hac:1≤a.acc.length∧a.acc.length≤64) (hN:rows.length≤3840) (hrl:∀ r∈rows,r.length≤1000000000) (hil:a.ini.length≤1048576):QQ 82 [lst 1 encL rows,.agg a.cs] [] (.sref 0 0 rows.length) [.cells 1 ((z1036 rows a.ini a.acc).map enI)]:=by
 have c1:=z1041 rows a.ini hr hi (by omega) hrl hil
 have hQn:=z442 hr hi rows.length
 have hQi:=z457 hr hi rows.length
 change (bfsL rows a.ini).length≤rows.length at hQn
 change InN rows.length (bfsL rows a.ini) at hQi
 have hml:=z537 rows a.ini a.acc
 unfold z1036 at *
 generalize bfsL rows a.ini=nodes at *
 refine z7 z15 func82 rfl rfl 89 ntmps82 (by simp) ?_
 repeat' ((first|apply y4 ok;rfl|apply z4 c1;rfl;rfl)<;>conv=>whnf)
 refine z64 (fun x:Nat×List Int=>([(0,lst 1 encL rows),(3,.ptr 0 none 0),(5,.int a.acc.length),(6,ints nodes),(7,.sref 1 0 x.2.length),(8,.int x.1)],[.cells 3 [a.cs],.cells 1 (x.2.map enI)])) (fun x=>x.1≤rows.length∧x.2.length=x.1∧x.2=z905 x.1) (fun x=>rows.length - x.1) (0,[]) ⟨y53 _,rfl,rfl⟩ (by refine swR [0,1] [] rfl rfl ?_;(repeat' first|exact y86 _|apply y87|refine z9 rfl z25 ?_|constructor)) ?_
 rintro ⟨i,F⟩ ⟨hF1,hFl,hF2⟩
 dsimp only at hF1 hFl hF2 ⊢
 by_cases hi2:i < rows.length
 ·repeat' ((first|apply y4 ok;rfl|(apply y43;first|unfold inI;omega|(try dsimp only);simp only [y49,y48,y47,y46,y58,y59];omega|exact ⟨rfl,z22 rfl z28⟩)|apply z6<;>intro _)<;>conv=>whnf)
  all_goals try (exfalso;omega)
  all_goals refine z24 (i+1,F++[-1]) ⟨hi2,by rw [y47,hFl];rfl,by show _=z905 (i+1);rw [z626,← hF2]⟩ (by show rows.length - (i+1) < _;omega) (by refine swR [0,3] [] rfl rfl ?_;(repeat' first|exact y86 _|refine z50 ?_;((simp;done))|apply y87|(refine z39 rfl ?_ ?_);(focus ((repeat' (first|exact z5 (fun _=>rfl)|apply z26));done))|refine z86 ?_ ?_;(focus omega)|constructor))
 have e:rows.length=i:=by omega
 have hz0:z572 rows.length (nodes.take 0)=F:=by rw [hF2,← e];rfl
 subst e
 clear hF1 hF2 hi2
 repeat' ((first|apply y4 ok;rfl|apply y43;omega|apply z6<;>intro _)<;>conv=>whnf)
 all_goals try (exfalso;omega)
 refine z64 (fun x:Nat×List Int=>([(0,lst 1 encL rows),(3,.ptr 0 none 0),(5,.int a.acc.length),(6,ints nodes),(7,.sref 1 0 x.2.length),(9,.int x.1)],[.cells 3 [a.cs],.cells 1 (x.2.map enI)])) (fun x=>x.1≤nodes.length∧z572 rows.length (nodes.take x.1)=x.2) (fun x=>nodes.length - x.1) (0,F) ⟨y53 _,hz0⟩ (by refine swR [0,1] [] rfl rfl ?_;(repeat' first|exact y86 _|exact z10 _|apply y87|refine z9 rfl (z5 (fun _=>rfl)) ?_|constructor)) ?_
 clear hz0 hFl F
 rintro ⟨i,R⟩ ⟨hi1,hR⟩
 dsimp only at hi1 hR ⊢
 have hRl:=z716 rows.length (nodes.take i)
 rw [hR] at hRl
 by_cases hi2:i < nodes.length
 ·have hx:=hQi _ (y44 hi2)
  have hs:=z997 (N:=rows.length) hi2
  rw [hR] at hs
  repeat' ((first|apply y4 ok;rfl|(apply y43;first|omega|unfold inI;omega)|(first|with_reducible apply z8;omega|apply z8;omega);intro _|apply z6<;>intro _)<;>conv=>whnf)
  all_goals try (exfalso;omega)
  all_goals refine z24 (i+1,R.set nodes[i].toNat 0) ⟨hi2,hs⟩ (by show nodes.length - (i+1) < _;omega) (by refine swR [0,1] [] rfl rfl ?_;(repeat' first|exact y86 _|refine z50 ?_;((simp;done))|apply y87|refine z60 rfl (z5 (fun _=>rfl)) ?_|refine z148 (by omega) ?_|constructor))
 have e:nodes.length=i:=by omega
 subst e
 rw [y56] at hR
 have hbd:=z931 rows.length nodes
 rw [hR] at hbd hml ⊢
 clear hi2 hi1 hR
 generalize hRR:z185 rows a.acc nodes (nodes.length+2) R true=RR at *
 have hrevl:nodes.reverse.length=nodes.length:=List.length_reverse
 repeat' ((first|apply y4 ok;rfl|apply y43;omega|(first|with_reducible apply z8;omega|apply z8;omega);intro _|apply z6<;>intro _)<;>conv=>whnf)
 all_goals try (exfalso;omega)
 refine z64 (fun x:Nat×List Int×Bool=>([(0,lst 1 encL rows),(3,.ptr 0 none 0),(5,.int a.acc.length),(6,ints nodes),(7,.sref 1 0 x.2.1.length),(10,.bool x.2.2),(11,.int x.1)],[.cells 3 [a.cs],.cells 1 (x.2.1.map enI)])) (fun x=>x.1≤nodes.length+2∧x.2.1.length=rows.length∧Bd (4000 * x.1) x.2.1∧z185 rows a.acc nodes (nodes.length+2 - x.1) x.2.1 x.2.2=RR) (fun x=>nodes.length+2 - x.1) (0,R,true) ⟨y53 _,hRl,hbd,hRR⟩ (by refine swR [0,1] [] rfl rfl ?_;(repeat' first|exact y86 _|exact z10 _|apply y87|refine z9 rfl (z5 (fun _=>rfl)) ?_|constructor)) ?_
 clear hRR hbd hRl R
 rintro ⟨r,R,ch⟩ ⟨hr1,hRl,hbd,hRR⟩
 dsimp only at hr1 hRl hbd hRR ⊢
 have hend:∀ f,z185 rows a.acc nodes f R false=R:=fun f=>by cases f<;>rfl
 cases ch
 ·rw [hend] at hRR
  subst hRR
  repeat' (((apply y4 ok;rfl))<;>conv=>whnf)
  all_goals (refine rsD [1] [] rfl ?_;(repeat' first|exact z10 _|refine z50 ?_;(omega)|refine z9 rfl (z5 (fun _=>rfl)) ?_|constructor))
 by_cases hr2:r≤nodes.length+1
 ·rw [show nodes.length+2 - r=(nodes.length+1 - r)+1 by omega,z185,if_pos rfl] at hRR
  repeat' ((first|apply y4 ok;rfl|apply y43;(unfold inI;omega)|apply z6<;>intro _)<;>conv=>whnf)
  all_goals try (exfalso;omega)
  refine z64 (fun y:Nat×List Int×Bool=>([(0,lst 1 encL rows),(3,.ptr 0 none 0),(5,.int a.acc.length),(6,ints nodes),(7,.sref 1 0 y.2.1.length),(10,.bool y.2.2),(11,.int r),(12,.int ((nodes.length:Int) - 1 - y.1))],[.cells 3 [a.cs],.cells 1 (y.2.1.map enI)])) (fun y=>y.1≤nodes.length∧(nodes.reverse.take y.1).foldl (z465 rows a.acc) (R,false)=(y.2.1,y.2.2)) (fun y=>nodes.length - y.1) (0,R,false) ⟨y53 _,rfl⟩ (by refine swR [0,1] [] rfl rfl ?_;(repeat' first|exact y86 _|exact z10 _|refine z115 ?_;omega|apply y87|refine z9 rfl (z5 (fun _=>rfl)) ?_|constructor)) ?_
  rintro ⟨k,R',c'⟩ ⟨hk,hV⟩
  dsimp only at hk hV ⊢
  have hb':=z872 (rows:=rows) (acc:=a.acc) (nodes.reverse.take k) (R,false) hbd (by omega)
  have hl':=z665 (rows:=rows) (acc:=a.acc) (nodes.reverse.take k) (R,false)
  rw [hV] at hb' hl'
  rw [show (nodes.reverse.take k).length=k by rw [y48];omega] at hb'
  dsimp only at hb' hl'
  rw [hRl] at hl'
  by_cases hk2:k < nodes.length
  ·have hkr:k < nodes.reverse.length:=by omega
   have hn2:nodes.length - 1 - k < nodes.length:=by omega
   have hrev:nodes.reverse[k]=nodes[nodes.length - 1 - k]:=by rw [List.getElem_reverse]
   have hs:(nodes.reverse.take (k+1)).foldl (z465 rows a.acc) (R,false)=z465 rows a.acc (R',c') nodes[nodes.length - 1 - k]:=by
    rw [y50 hkr,y63,hV,hrev];rfl
   have hu:=hQi _ (y44 hn2)
   have hgn:(nodes.map enI)[nodes.length - 1 - k]?=some (enI nodes[nodes.length - 1 - k]):=by rw [y51,y45 hn2];rfl
   generalize nodes[nodes.length - 1 - k]=u at *
   have hgr:=rowAt hu
   have hm0:0≤u % (a.acc.length:Int):=Int.emod_nonneg _ (by omega)
   have hm1:u % (a.acc.length:Int) < a.acc.length:=Int.emod_lt_of_pos _ (by omega)
   have hga:(a.acc.map enB)[(u % (a.acc.length:Int)).toNat]?=some (enB (a.acc.getD (u % (a.acc.length:Int)).toNat false)):=by
    rw [y51,y45 (by omega),z14 (by omega)];rfl
   have hgR:(R'.map enI)[u.toNat]?=some (enI (R'.getD u.toNat 0)):=by rw [y51,y45 (by omega),z14 (by omega)];rfl
   have hrow:InN R'.length (rows.getD u.toNat []):=by rw [hl'];exact z238 hr u
   have hrowl:=rowLen hrl u
   have hbg:=hb'.getD (by omega) u.toNat
   have c5:=z1186 R' (rows.getD u.toNat []) (a.acc.getD (u % (a.acc.length:Int)).toNat false) hb' (by omega) (by omega) hrow (by omega) hrowl
   have hrk:=z1144 hb' (by omega) (a.acc.getD (u % (a.acc.length:Int)).toNat false) (rows.getD u.toNat [])
   rw [show z465 rows a.acc (R',c') u=(if R'.getD u.toNat 0 < rkOf R' (a.acc.getD (u % (a.acc.length:Int)).toNat false) (rows.getD u.toNat []) then (R'.set u.toNat (rkOf R' (a.acc.getD (u % (a.acc.length:Int)).toNat false) (rows.getD u.toNat [])),true) else (R',c')) from rfl] at hs
   generalize rkOf R' (a.acc.getD (u % (a.acc.length:Int)).toNat false) (rows.getD u.toNat [])=w at *
   generalize a.acc.getD (u % (a.acc.length:Int)).toNat false=z at *
   generalize rows.getD u.toNat []=row at *
   by_cases hlt:R'.getD u.toNat 0 < w
   ·rw [if_pos hlt] at hs
    generalize R'.getD u.toNat 0=y at *
    repeat' ((first|apply y4 ok;rfl|refine z13 (i:=nodes.length - 1 - k) (by omega) hgn ?_|refine z13 (i:=u.toNat) (by simp) hgr ?_|refine z13 (i:=u.toNat) (by simp) hgR ?_|refine z13 (i:=(u % (a.acc.length:Int)).toNat) (by simp) hga ?_|(apply y43;first|omega|unfold inI;omega)|apply z6<;>intro _|apply z99 [] [1] [] c5;(focus ((repeat' first|exact z69|apply z44)<;>first|exact z104 rfl rfl rfl|rfl));rfl;rfl;(focus ((repeat' exact z17)<;>fail));((refine .inr ⟨rfl,?_⟩;repeat' first|exact True.intro|apply y43)))<;>conv=>whnf)
    all_goals first|exfalso;omega|kernel_rfl|skip
    all_goals refine z24 (k+1,R'.set u.toNat w,true) ⟨hk2,hs⟩ (by show nodes.length - (k+1) < _;omega) (by refine swR [0,1] [] rfl rfl ?_;(repeat' first|exact y86 _|refine z115 ?_;omega|refine z50 ?_;((simp;done))|apply y87|refine z60 rfl (z5 (fun _=>rfl)) ?_|refine z148 (by omega) ?_|constructor))
   ·rw [if_neg hlt] at hs
    generalize R'.getD u.toNat 0=y at *
    repeat' ((first|apply y4 ok;rfl|refine z13 (i:=nodes.length - 1 - k) (by omega) hgn ?_|refine z13 (i:=u.toNat) (by simp) hgr ?_|refine z13 (i:=u.toNat) (by simp) hgR ?_|refine z13 (i:=(u % (a.acc.length:Int)).toNat) (by simp) hga ?_|(apply y43;first|omega|unfold inI;omega)|apply z6<;>intro _|apply z99 [] [1] [] c5;(focus ((repeat' first|exact z69|apply z44)<;>first|exact z104 rfl rfl rfl|rfl));rfl;rfl;(focus ((repeat' exact z17)<;>fail));((refine .inr ⟨rfl,?_⟩;repeat' first|exact True.intro|apply y43)))<;>conv=>whnf)
    all_goals first|exfalso;omega|kernel_rfl|skip
    all_goals refine z24 (k+1,R',c') ⟨hk2,hs⟩ (by show nodes.length - (k+1) < _;omega) (by refine swR [0,1] [] rfl rfl ?_;(repeat' first|exact y86 _|exact z10 _|refine z115 ?_;omega|apply y87|refine z9 rfl (z5 (fun _=>rfl)) ?_|constructor))
  ·have e:nodes.length=k:=by omega
   rw [y57 (by omega)] at hV
   rw [show passR rows a.acc nodes R=(R',c') from hV] at hRR
   repeat' ((first|apply y4 ok;rfl|(apply y43;first|omega|unfold inI;omega)|((with_reducible apply z52;omega));intro _|apply z6<;>intro _)<;>conv=>whnf)
   all_goals try (exfalso;omega)
   all_goals refine z24 (r+1,R',c') ⟨by show r+1≤nodes.length+2;omega,hl',hb'.mono (by show 4000 * (r:Int)+k≤4000 * ((r+1:Nat):Int);omega),by rw [show nodes.length+2 - (r+1)=nodes.length+1 - r by omega];exact hRR⟩ (by show nodes.length+2 - (r+1) < _;omega) (by refine swR [0,1] [] rfl rfl ?_;(repeat' first|exact y86 _|exact z10 _|apply y87|refine z9 rfl (z5 (fun _=>rfl)) ?_|constructor))
 ·rw [show nodes.length+2 - r=0 by omega,z185] at hRR
  subst hRR
  repeat' ((first|apply y4 ok;rfl|(apply y43;first|omega|unfold inI;omega)|apply z6<;>intro _)<;>conv=>whnf)
  all_goals try (exfalso;omega)
  all_goals (refine rsD [1] [] rfl ?_;(repeat' first|exact z10 _|refine z50 ?_;(omega)|refine z9 rfl (z5 (fun _=>rfl)) ?_|constructor))
end Go.Proofs.YtjhgpfaodkchjaaGreat
namespace Go.Proofs.YtjhgpfaodkchjaaGreat
open Go.Gl Proofs.Tryz
attribute [local irreducible] z18 RetS z45
end Go.Proofs.YtjhgpfaodkchjaaGreat
namespace Go.Proofs.YtjhgpfaodkchjaaGreat
open Go.Gl Proofs.Tryz
attribute [local irreducible] z18 AWP z31 z35 z34 RetS z45
section
open Go.ChangeShapes Go.WideShapes Go.ChangeAt Go.RowKit
theorem and_mk {a b:Bool} (h:a=true) (k:b=true):(a && b)=true:=by rw [h,k];rfl
theorem own:ownKnob prog.godebug=none:=by kernel_rfl
theorem z1038:laidOutB prog=true:=by kernel_rfl
end
end Go.Proofs.YtjhgpfaodkchjaaGreat
namespace Go.Proofs.YtjhgpfaodkchjaaGreat
open Go.Gl Proofs.Tryz
attribute [local irreducible] z18 AWP z31 z35 z34 RetS z45
theorem z1254:ArgD prog 22 (lst 1 enU) CodeOk :=
 (z1251 (enc1:=lst 1 enU) underlying22 (od_list 1 (encL:=fun l=>[lst 1 enU l]) underlying22 (by kernel_rfl) (by decide) (od_byte (enc:=enU) underlying5 (fun _=>rfl)) (fun _=>rfl)) (fun _=>rfl)).imp fun l h=>⟨l,rfl,h.1,fun x hx=>by
  have:=h.2 x hx
  have h1:IntKind.min .u8=0:=by decide
  have h2:IntKind.max .u8=255:=by decide
  simpa [Lit.wf,h1,h2] using this⟩
noncomputable def mkOk (g:Graph) (l:List Tree) (a:Aut):Bool:=(glB g l && autB a) && !(trcO g (g.st.map (z32 l)) a).isSome
noncomputable def mkR (g:Graph) (l:List Tree) (a:Aut):List Int:=if mkOk g l a=true then z1036 (z33 g (g.st.map (z32 l)) a) a.ini a.acc else []
theorem z767 {g:Graph} {l:List Tree} {a:Aut} : (mkOk g l a=true→(mkR g l a).length=(prB g l a).length)∧(mkR g l a).length≤3840∧Bd 16000000 (mkR g l a):=by
 unfold mkR prB
 by_cases h:mkOk g l a=true
 ·have h1:(glB g l && autB a)=true:=by unfold mkOk at h;exact (Bool.and_eq_true_iff.1 h).1
  obtain ⟨h2,h3⟩:=Bool.and_eq_true_iff.1 h1
  obtain ⟨f1,f2,f3,f4,f5⟩:=z200 ((z95 g).1 (by unfold glB at h2;exact (Bool.and_eq_true_iff.1 h2).1)) (z137.1 h3) (g.st.map (z32 l))
  rw [if_pos h,if_pos h1,z537,z1022]
  refine ⟨fun _=>rfl,f3,?_⟩
  have hQn:=z442 f1 f2 (z33 g (g.st.map (z32 l)) a).length
  have hb:=z752 (rows:=z33 g (g.st.map (z32 l)) a) (acc:=a.acc) (nodes:=bfsL (z33 g (g.st.map (z32 l)) a) a.ini) ((bfsL (z33 g (g.st.map (z32 l)) a) a.ini).length+2) _ true (z931 (z33 g (g.st.map (z32 l)) a).length (bfsL (z33 g (g.st.map (z32 l)) a) a.ini)) (by omega) (by unfold bfsL;omega)
  exact hb.mono (by unfold bfsL;omega)
 ·rw [if_neg h]
  exact ⟨fun h'=>absurd h' h,y53 _,fun x hx=>by cases hx⟩
set_option maxHeartbeats 3200000 in
theorem z740 (g:Graph) (hg:g.mx) (l:List Tree) (hl:Lmx l) (a:Aut) (ha:a.mx):QQ 34 [.agg g.cs,lst 3 Tree.cs' l,.agg a.cs] [] (.tup [.agg [.sref 0 0 (mkR g l a).length],.bool (mkOk g l a)]) [.cells 1 ((mkR g l a).map enI)]:=by
 have k0:=z166 g hg l hl
 have k1:=z129 a ha
 by_cases hgl:(glB g l && autB a)=true
 ·obtain ⟨h1,hab⟩:=Bool.and_eq_true_iff.1 hgl
  have hG:=(z95 g).1 (by unfold glB at h1;exact (Bool.and_eq_true_iff.1 h1).1)
  have hL:=y8 (by unfold glB at h1;exact (Bool.and_eq_true_iff.1 h1).2)
  have hA:=z137.1 hab
  have k2:=z298 g hG (g.st.map (z32 l)) (by simp) (fun x hx=>by
   obtain ⟨s,_,rfl⟩:=List.mem_map.1 hx
   exact z181 hL s) a hA
  have k3:=z1188 g hG (g.st.map (z32 l)) (by simp) (fun x hx=>by
   obtain ⟨s,_,rfl⟩:=List.mem_map.1 hx
   exact z181 hL s) a hA
  obtain ⟨f1,f2,f3,f4,f5⟩:=z200 hG hA (g.st.map (z32 l))
  have k4:=z1039 (z33 g (g.st.map (z32 l)) a) a f1 f2 hA.1 f3 f4 f5
  have hml:=z537 (z33 g (g.st.map (z32 l)) a) a.ini a.acc
  rw [if_pos h1,h1] at k0
  rw [hab] at k1
  unfold mkR mkOk
  rw [hgl,Bool.true_and]
  generalize g.st.map (z32 l)=ls at *
  generalize (trcO g ls a).isSome=tb at *
  generalize trcL g ls a=tl at *
  generalize z1036 (z33 g ls a) a.ini a.acc=RR at *
  generalize z33 g ls a=rows at *
  cases tb
  ·show CallsA _ _ _ _ (.tup [.agg [.sref 0 0 RR.length],.bool true]) [.cells 1 (RR.map enI)]
   rw [hml]
   refine z7 z15 func34 rfl rfl 42 ntmps34 (by simp) ?_
   repeat' ((first|apply y4 ok;rfl|apply z23;kernel_rfl|apply z4 k0;rfl;rfl|apply z4 k1;rfl;rfl|apply z4 k2;rfl;rfl|apply z4 k3;rfl;rfl|apply z11 [] [4] k4;rfl;rfl;rfl;(focus ((repeat' first|exact z17|apply z16)<;>(refine z20 ?_;((exact z5 fun _=>rfl))))))<;>conv=>whnf)
   all_goals (refine rsD [4] [] rfl ?_;(repeat' first|exact y86 _|exact z10 _|refine z9 rfl (z5 (fun _=>rfl)) ?_|constructor))
  ·show CallsA _ _ _ _ (.tup [.agg [.sref 0 0 0],.bool false]) [.cells 1 []]
   refine z7 z15 func34 rfl rfl 42 ntmps34 (by simp) ?_
   repeat' ((first|apply y4 ok;rfl|apply z4 k0;rfl;rfl|apply z4 k1;rfl;rfl|apply z4 k3;rfl;rfl)<;>conv=>whnf)
   all_goals (refine y89 1 ?_;refine rsD [4] [] rfl ?_;(repeat' first|exact y86 _|exact z49|refine z9 rfl z25 ?_|apply z41|apply z80|constructor))
 ·have e:mkOk g l a=false:=by unfold mkOk;rw [(y72 _).mp hgl];rfl
  have e2:mkR g l a=[]:=by unfold mkR;rw [e];rfl
  rw [e,e2]
  show CallsA _ _ _ _ (.tup [.agg [.sref 0 0 0],.bool false]) [.cells 1 []]
  generalize (if glB g l=true then g.st.map (z32 l) else [])=ls at *
  refine z7 z15 func34 rfl rfl 42 ntmps34 (by simp) ?_
  cases hb1:glB g l
  ·rw [hb1] at k0
   repeat' ((first|apply y4 ok;rfl|apply z4 k0;rfl;rfl)<;>conv=>whnf)
   all_goals (refine y89 1 ?_;refine rsD [3] [] rfl ?_;(repeat' first|exact y86 _|exact z49|refine z9 rfl z25 ?_|apply z41|apply z80|constructor))
  ·rw [hb1] at k0 hgl
   have hb2:autB a=false:=by simpa using hgl
   rw [hb2] at k1
   repeat' ((first|apply y4 ok;rfl|apply z4 k0;rfl;rfl|apply z4 k1;rfl;rfl)<;>conv=>whnf)
   all_goals (refine y89 1 ?_;refine rsD [3] [] rfl ?_;(repeat' first|exact y86 _|exact z49|refine z9 rfl z25 ?_|apply z41|apply z80|constructor))
theorem z701 (a:Aut) (hA:AutP a) (x:Int) (h0:0≤x):QQ 96 [.int x,.pt a.cs,.pt [.int a.acc.length]] [] (.bool (a.acc.getD (x % a.acc.length).toNat false)) []:=by
 have hac:=hA.1
 have hm0:0≤x % (a.acc.length:Int):=Int.emod_nonneg _ (by omega)
 have hm1:x % (a.acc.length:Int) < a.acc.length:=Int.emod_lt_of_pos _ (by omega)
 have hga:(a.acc.map enB)[(x % (a.acc.length:Int)).toNat]?=some (enB (a.acc.getD (x % (a.acc.length:Int)).toNat false)):=by
  rw [y51,y45 (by omega),z14 (by omega)];rfl
 refine z7 z15 func96 rfl rfl 12 ntmps96 (by simp) ?_
 repeat' ((first|apply y4 ok;rfl|apply z23;kernel_rfl|refine z13 (i:=(x % (a.acc.length:Int)).toNat) rfl hga ?_|apply y43;omega)<;>conv=>whnf)
 all_goals (refine rsD [] [] rfl ?_;(repeat' first|exact y86 _|constructor))
set_option maxHeartbeats 1600000 in
theorem z351 (l:List Int) (n:Nat) (hl:l.length≤1000000) (hn:1≤n) (h0:∀ x∈l,0≤x) (h1:∀ x∈l,x≤1000000000):QQ 97 [ints l,.pt [.int n]] [] (.sref 0 0 l.length) [.cells 1 ((stL l n).map enI)]:=by
 refine z7 z15 func97 rfl rfl 25 ntmps97 (by simp) ?_
 repeat' ((first|apply y4 ok;rfl|apply y43;(dsimp only;omega))<;>conv=>whnf)
 obtain ⟨qm,hqm⟩:∃ qm:Nat→Nat→Int,qm=fun i j=>if j < i then l.getD j 0 / n else 0:=⟨_,rfl⟩
 have q0:qm 0=fun _=>0:=by rw [hqm];rfl
 have qE:fnL l.length (qm l.length)=stL l n:=by
  apply y75 (by simp [fnL,stL])
  intro i h1 h2
  have hi' : i < l.length:=by rw [z140] at h1;exact h1
  rw [z901,hqm]
  dsimp only
  rw [if_pos hi',z14 hi'];simp [stL]
 have qS:∀ i (h:i < l.length),qm (i+1)=upd (qm i) i (l[i] / n):=fun i h=>by
  funext j
  by_cases h2:j=i
  ·subst h2;rw [z36,hqm];dsimp only;rw [if_pos (by omega),z14 h]
  ·rw [z56 _ _ h2,hqm];dsimp only;split<;>split<;>first|rfl|omega
 clear hqm
 refine z64 (fun i:Nat=>([(1,.pt [.int n]),(4,.sref 0 0 l.length),(10,ints l),(11,.int l.length),(12,.int i)],[.cells 1 ((fnL l.length (qm i)).map enI)])) (fun i=>i≤l.length) (fun i=>l.length - i) 0 (y53 _) (by refine swR [0] [] rfl rfl ?_;(repeat' first|exact y86 _|refine z9 rfl (z54 rfl) ?_|constructor)<;>((refine z57 ?_;rw [q0];exact z404 _))) ?_
 intro i hi
 by_cases hi2:i < l.length
 ·have g1:=z190 (qm i) hi2
  have l1:=z140 l.length (qm i)
  have e1:=z175 (N:=l.length) (u:=i) (qm i) (l[i] / n)
  rw [← qS i hi2] at e1
  have gk:(l.map enI)[i]?=some (enI l[i]):=by rw [y51,y45 hi2];rfl
  have b0:=h0 _ (y44 hi2)
  have b1:=h1 _ (y44 hi2)
  generalize l[i]=v at *
  have d0:0≤v / (n:Int):=Int.ediv_nonneg b0 (by omega)
  have d1:v / (n:Int)≤v:=Int.ediv_le_self _ b0
  repeat' ((first|apply y4 ok;rfl|refine z13 (i:=i) rfl gk ?_|refine z13 (i:=i) rfl g1 ?_|(apply y43;first|omega|unfold inI;omega)|apply z6<;>intro _)<;>conv=>whnf)
  all_goals try (exfalso;omega)
  all_goals refine z24 (i+1) hi2 (by omega) (by refine swR [0] [] rfl rfl ?_;(repeat' first|exact y86 _|refine z60 rfl (z5 (fun _=>rfl)) ?_|constructor)<;>((refine z57 ?_;exact e1)))
 obtain rfl:i=l.length:=by omega
 rw [qE]
 repeat' ((first|apply y4 ok;rfl|apply y43;omega|(first|with_reducible apply z8;omega|apply z8;omega);intro _|apply z6<;>intro _)<;>conv=>whnf)
 all_goals try (exfalso;omega)
 all_goals (refine rsD [0] [] rfl ?_;(repeat' first|exact y86 _|exact z10 _|refine z9 rfl (z5 (fun _=>rfl)) ?_|constructor))
noncomputable def ftO (g:Graph) (l:List Tree) (a:Aut):Option (List Int×List Int):=if (glB g l && autB a)=true then trcO g (g.st.map (z32 l)) a else none
noncomputable def ftL (g:Graph) (l:List Tree) (a:Aut):Trace:=let t:=(ftO g l a).getD ([],[]);⟨t.1,t.2⟩
set_option maxHeartbeats 6400000 in
theorem z436 (g:Graph) (hg:g.mx) (l:List Tree) (hl:Lmx l) (a:Aut) (ha:a.mx):QQ 38 [.agg g.cs,lst 3 Tree.cs' l,.agg a.cs] [] (.tup [.agg [.sref 0 0 (ftL g l a).stem.length,.sref 1 0 (ftL g l a).loop.length],.bool (ftO g l a).isSome]) [.cells 1 ((ftL g l a).stem.map enI),.cells 1 ((ftL g l a).loop.map enI)]:=by
 have k0:=z632 g hg l hl a ha
 by_cases hgl:(glB g l && autB a)=true
 ·rw [hgl] at k0
  obtain ⟨h1,hab⟩:=Bool.and_eq_true_iff.1 hgl
  have hG:=(z95 g).1 (by unfold glB at h1;exact (Bool.and_eq_true_iff.1 h1).1)
  have hL:=y8 (by unfold glB at h1;exact (Bool.and_eq_true_iff.1 h1).2)
  have hA:=z137.1 hab
  have k1:=z604 g hG l hL a hA
  obtain ⟨f1,f2,f3,f4,f5⟩:=z200 hG hA (g.st.map (z32 l))
  have hnd:=hA.2.2.1.nd
  have hac:=hA.1
  have k2:=z1181 (z33 g (g.st.map (z32 l)) a) a.ini f1 f2 hnd (by omega) f4 (fun v=>a.acc.getD (v % a.acc.length).toNat false) 96 a.cs [.int a.acc.length] (fun x h0 _=>z701 a hA x h0)
  unfold ftL ftO
  rw [if_pos hgl]
  unfold lasR at k2
  unfold trcO
  rw [z479 f1 f2 hnd] at k2
  have hlen:(z33 g (g.st.map (z32 l)) a).length=g.st.length * a.acc.length:=by unfold z33;rw [z84,Nat.mul_comm]
  have hF:∀ p q,finS (z33 g (g.st.map (z32 l)) a) a.ini a.acc=some (p,q)→(∀ x∈p,0≤x∧x≤100000)∧(∀ x∈q,0≤x∧x≤100000)∧p.length≤100000∧q.length≤100000:=by
   intro p q h
   rw [← z479 f1 f2 hnd] at h
   obtain ⟨b1,b2,b3,b4,_⟩:=lasL_bd f1 f2 hnd h
   exact ⟨fun x hx=>by have:=b1 x hx;omega,fun x hx=>by have:=b2 x hx;omega,by omega,by omega⟩
  generalize z33 g (g.st.map (z32 l)) a=rows at *
  cases hfin:finS rows a.ini a.acc with
  |none =>
   rw [hfin] at k2
   change CallsA _ _ _ _ (.tup [.sref 0 0 0,.sref 1 0 0,.bool false]) [.cells 1 [],.cells 1 []] at k2
   show CallsA _ _ _ _ (.tup [.agg [.sref 0 0 0,.sref 1 0 0],.bool false]) [.cells 1 [],.cells 1 []]
   refine z7 z15 func38 rfl rfl 50 ntmps38 (by simp) ?_
   repeat' ((first|apply y4 ok;rfl|apply z4 k0;rfl;rfl|apply z4 k1;rfl;rfl|apply z99 [] [1,3] [4,5] k2;(focus ((repeat' first|exact z69|apply z44)<;>rfl));rfl;rfl;(focus ((repeat' first|exact z17|apply z16)<;>(refine z20 ?_;(exact z25))));((refine .inr ⟨rfl,?_⟩;repeat' first|exact True.intro|apply y43|exact rfl)))<;>conv=>whnf)
   all_goals (refine y89 1 ?_;refine y89 1 ?_;refine rsD [6,7] [] rfl ?_;(repeat' first|exact y86 _|exact z49|refine z9 rfl z25 ?_|apply z41|apply z80|constructor))
  |some pq =>
   obtain ⟨p,q⟩:=pq
   rw [hfin] at k2
   obtain ⟨b1,b2,b3,b4⟩:=hF p q hfin
   change CallsA _ _ _ _ (.tup [.sref 0 0 (p.take (p.length - 1)).length,.sref 1 0 q.length,.bool true]) [.cells 1 ((p.take (p.length - 1)).map enI),.cells 1 (q.map enI)] at k2
   have s1:=z351 (p.take (p.length - 1)) a.acc.length (by rw [y48];omega) (by omega) (fun x hx=>(b1 x (List.mem_of_mem_take hx)).1) (fun x hx=>by have:=(b1 x (List.mem_of_mem_take hx)).2;omega)
   have s2:=z351 q a.acc.length (by omega) (by omega) (fun x hx=>(b2 x hx).1) (fun x hx=>by have:=(b2 x hx).2;omega)
   have e1:(stL (p.take (p.length - 1)) a.acc.length).length=(p.take (p.length - 1)).length:=by simp [stL]
   have e2:(stL q a.acc.length).length=q.length:=by simp [stL]
   show CallsA _ _ _ _ (.tup [.agg [.sref 0 0 (stL (p.take (p.length - 1)) a.acc.length).length,.sref 1 0 (stL q a.acc.length).length],.bool true]) [.cells 1 ((stL (p.take (p.length - 1)) a.acc.length).map enI),.cells 1 ((stL q a.acc.length).map enI)]
   rw [e1,e2]
   generalize stL (p.take (p.length - 1)) a.acc.length=S1 at *
   generalize stL q a.acc.length=S2 at *
   generalize p.take (p.length - 1)=p' at *
   refine z7 z15 func38 rfl rfl 50 ntmps38 (by simp) ?_
   repeat' ((first|apply y4 ok;rfl|apply z4 k0;rfl;rfl|apply z4 k1;rfl;rfl|(first|apply z99 [] [1,3] [4,5] k2;(focus ((repeat' first|exact z69|apply z44)<;>rfl));rfl|apply z99 [] [3,4] [6] s1;(focus ((repeat' first|exact z69|apply z44)<;>first|exact z104 rfl rfl rfl|rfl));rfl|apply z99 [] [3,5] [7] s2;(focus ((repeat' first|exact z69|apply z44)<;>first|exact z104 rfl rfl rfl|rfl));rfl);rfl;(focus ((repeat' first|exact z17|apply z16)<;>(refine z20 ?_;((exact z5 fun _=>rfl)))));((refine .inr ⟨rfl,?_⟩;repeat' first|exact True.intro|apply y43|exact z105 (fun _=>rfl) _)))<;>conv=>whnf)
   all_goals (refine rsD [6,7] [] rfl ?_;(repeat' first|exact y86 _|exact z10 _|refine z9 rfl (z5 (fun _=>rfl)) ?_|constructor))
 ·have hgl:=(y72 _).mp hgl
  rw [hgl] at k0
  have e1:ftO g l a=none:=by unfold ftO;rw [hgl];rfl
  unfold ftL
  rw [e1]
  show CallsA _ _ _ _ (.tup [.agg [.sref 0 0 0,.sref 1 0 0],.bool false]) [.cells 1 [],.cells 1 []]
  refine z7 z15 func38 rfl rfl 50 ntmps38 (by simp) ?_
  repeat' ((first|apply y4 ok;rfl|apply z4 k0;rfl;rfl)<;>conv=>whnf)
  all_goals (refine y89 1 ?_;refine y89 1 ?_;refine rsD [3,4] [] rfl ?_;(repeat' first|exact y86 _|exact z49|refine z9 rfl z25 ?_|apply z41|apply z80|constructor))
theorem z1206 {B:List Tree} {U:List Int} {n0:Nat} : ∀ (f i:Nat) (x y:TrS),f+i=65→ExI B U n0 i x→goS B U f i x=some y→∃ j,ExI B U n0 j y∧j≤64∧y.L.length≤j
 |0,i,x,y,_,_,h=>by simp [goS] at h
 |f+1,i,x,y,he,hI,h=>by
  rw [goS] at h
  split at h
  ·rename_i hi
   split at h
   ·cases h
   ·exact z1206 f (i+1) _ y (by omega) (hI.step hi).1 h
  ·cases h
   exact ⟨i,hI,by omega,by omega⟩
theorem z1113 (t:Tree) (hs:t.sz≤200) (h:tsB t=true):autB (trA t)=true:=by
 unfold tsB at h
 unfold trA
 unfold trO at *
 by_cases hb:bscB t=true
 ·rw [if_pos hb] at *
  obtain ⟨⟨ht,hn⟩,h5⟩:=of_decide_eq_true (show decide _=true from hb)
  obtain ⟨hB,_,_⟩:=z563 ht hn h5 hs
  generalize t.nrm false=g at *
  generalize bscL g=B at *
  cases hS:trS B g with
  |none=>rw [hS] at h;cases h
  |some y =>
   have hI0:ExI B (untB B) (iniS B g).length 0 ⟨iniS B g,[],[]⟩:=⟨z787 B g,y52 _,rfl,y53 _,y53 _,by show (iniS B g).length≤(iniS B g).length+0 * _;omega,fun e he=>by cases he⟩
   obtain ⟨j,hI,hj,hl⟩:=z1206 65 0 _ y rfl hI0 hS
   show autB (z333 (iniS B g).length y)=true
   unfold z333
   by_cases h0:y.L.length=0
   ·rw [if_pos h0]
    have h1:=hI.base
    have e1:(iniS B g).length=0:=by omega
    have h2:=hI.edl
    have h3:=hI.le
    have hj0:j=0:=by omega
    rw [hj0,Nat.zero_mul] at h2
    have e2:y.ed=[]:=y74 (by omega)
    rw [e1,e2,z137]
    exact ⟨⟨by decide,by decide⟩,by decide,fun i hi _=>by simp [numI] at hi,fun e he=>by cases he⟩
   ·rw [if_neg h0]
    by_cases h1:1≤(iniS B g).length
    ·exact ExI.valid hB hI h1 hj hl
    ·exfalso
     have e1:iniS B g=[]:=y74 (by omega)
     have:trS B g=some ⟨[],[],[]⟩:=by unfold trS;rw [e1];rfl
     rw [this] at hS
     cases hS
     exact h0 rfl
 ·rw [if_neg hb] at h;cases h
theorem z764 {t:Tree} (h:ngS t=true):autB (ngA t)=true:=by
 unfold ngS at h
 rw [y71] at h
 unfold ngA
 rw [if_pos h.1]
 exact z1113 _ (by have:=z432 h.1;omega) h.2
noncomputable def vdI (g:Graph) (l:List Tree) (f:Tree):Int:=if (glB g l && f.fmB)=true then (if ngS f=true then (if (ftO g l (ngA f)).isSome=true then 1 else 0) else 2) else 3
noncomputable def vdT (g:Graph) (l:List Tree) (f:Tree):Trace:=if (glB g l && f.fmB)=true then (if ngS f=true then ftL g l (ngA f) else ⟨[],[]⟩) else ⟨[],[]⟩
theorem ftL_none {g:Graph} {l:List Tree} {a:Aut} (h:(ftO g l a).isSome=false):ftL g l a=⟨[],[]⟩:=by
 unfold ftL
 cases hf:ftO g l a with
 |none=>rfl
 |some x=>rw [hf] at h;cases h
set_option maxHeartbeats 3200000 in
theorem z585 (g:Graph) (hg:g.mx) (l:List Tree) (hl:Lmx l) (f:Tree) (hf:f.mx):QQ 14 [.agg g.cs,lst 3 Tree.cs' l,z27 Tree.cs' f] [] (.tup [.int (vdI g l f),.agg [.sref 0 0 (vdT g l f).stem.length,.sref 1 0 (vdT g l f).loop.length]]) [.cells 1 ((vdT g l f).stem.map enI),.cells 1 ((vdT g l f).loop.map enI)]:=by
 have c1:=z269 g hg
 have c2:=z229 l hl.1 hl.2
 have c3:=z122 f hf
 have cN:=z350 f hf
 have cF:=z436 g hg l hl (ngA f) (z959 f)
 have hno:=@ftL_none g l (ngA f)
 unfold vdI vdT
 unfold glB
 generalize ftL g l (ngA f)=tl at *
 generalize (ftO g l (ngA f)).isSome=tb at *
 generalize ngA f=a at *
 generalize ngS f=z at *
 rw [y15 f] at *
 generalize z208 g=b1 at *
 generalize z170 l=b2 at *
 generalize f.fmB=b3 at *
 cases b1
 ·refine z7 z15 func14 rfl rfl 44 ntmps14 (by simp) ?_
  repeat' ((first|apply y4 ok;rfl|apply z4 c1;rfl;rfl)<;>conv=>whnf)
  all_goals (refine y89 1 ?_;refine y89 1 ?_;refine rsD [3,4] [] rfl ?_;(repeat' first|exact y86 _|exact z49|refine z9 rfl z25 ?_|apply z41|apply z80|constructor))
 cases b2
 ·refine z7 z15 func14 rfl rfl 44 ntmps14 (by simp) ?_
  repeat' ((first|apply y4 ok;rfl|apply z4 c1;rfl;rfl|apply z4 c2;rfl;rfl)<;>conv=>whnf)
  all_goals (refine y89 1 ?_;refine y89 1 ?_;refine rsD [3,4] [] rfl ?_;(repeat' first|exact y86 _|exact z49|refine z9 rfl z25 ?_|apply z41|apply z80|constructor))
 cases b3
 ·refine z7 z15 func14 rfl rfl 44 ntmps14 (by simp) ?_
  repeat' ((first|apply y4 ok;rfl|apply z4 c1;rfl;rfl|apply z4 c2;rfl;rfl|apply z4 c3;rfl;rfl)<;>conv=>whnf)
  all_goals (refine y89 1 ?_;refine y89 1 ?_;refine rsD [3,4] [] rfl ?_;(repeat' first|exact y86 _|exact z49|refine z9 rfl z25 ?_|apply z41|apply z80|constructor))
 cases z
 ·refine z7 z15 func14 rfl rfl 44 ntmps14 (by simp) ?_
  repeat' ((first|apply y4 ok;rfl|apply z4 c1;rfl;rfl|apply z4 c2;rfl;rfl|apply z4 c3;rfl;rfl|apply z4 cN;rfl;rfl)<;>conv=>whnf)
  all_goals (refine y89 1 ?_;refine y89 1 ?_;refine rsD [4,5] [] rfl ?_;(repeat' first|exact y86 _|exact z49|refine z9 rfl z25 ?_|apply z41|apply z80|constructor))
 cases tb
 ·have hno:=hno rfl
  subst hno
  refine z7 z15 func14 rfl rfl 44 ntmps14 (by simp) ?_
  repeat' ((first|apply y4 ok;rfl|apply z4 c1;rfl;rfl|apply z4 c2;rfl;rfl|apply z4 c3;rfl;rfl|apply z4 cN;rfl;rfl|apply z11 [] [4,5] cF;rfl;rfl;rfl;(focus ((repeat' first|exact z17|apply z16)<;>(refine z20 ?_;((exact z5 fun _=>rfl))))))<;>conv=>whnf)
  all_goals (refine rsD [4,5] [] rfl ?_;(repeat' first|exact y86 _|exact z49|refine z9 rfl z25 ?_|apply z41|apply z80|constructor))
 ·refine z7 z15 func14 rfl rfl 44 ntmps14 (by simp) ?_
  repeat' ((first|apply y4 ok;rfl|apply z23;kernel_rfl|apply z4 c1;rfl;rfl|apply z4 c2;rfl;rfl|apply z4 c3;rfl;rfl|apply z4 cN;rfl;rfl|apply z11 [] [4,5] cF;rfl;rfl;rfl;(focus ((repeat' first|exact z17|apply z16)<;>(refine z20 ?_;((exact z5 fun _=>rfl))))))<;>conv=>whnf)
  all_goals (refine rsD [4,5] [] rfl ?_;(repeat' first|exact y86 _|exact z10 _|refine z9 rfl (z5 (fun _=>rfl)) ?_|constructor))
def pick (bl:List Int) (p:Int):Int:=bl.getD p.toNat 0
theorem z605 (bl places:List Int) (hl:places.length≤1048576) (hp:InN bl.length places) (hb:bl.length≤1048576):QQ 49 [ints bl,ints places] [] (.sref 0 0 places.length) [.cells 1 ((places.map (pick bl)).map enI)]:=by
 refine z12 z15 func49 rfl rfl 27 ntmps49 (by simp) ?_
 repeat' (first|apply y4 ok;rfl;conv=>whnf|apply y43;((dsimp only;omega));conv=>whnf)
 refine z97 (fun k:Nat=>([(0,ints bl),(5,.sref 0 0 places.length),(11,ints places),(12,.int places.length),(13,.int k)],[.cells 1 ((places.take k).map (fun p=>enI (pick bl p))++List.replicate (places.length - k) [.int 0])])) (fun k=>k≤places.length) (fun k=>places.length - k) 0 (by omega) ⟨[0],rfl,by decide,rfl,⟨⟨rfl,rfl⟩,⟨rfl,rfl⟩,⟨rfl,rfl⟩,⟨rfl,rfl⟩,⟨rfl,rfl⟩,trivial⟩,⟨z51 (by rfl) (z67 (z5 fun _=>rfl) (z54 rfl)),trivial⟩⟩ ?_
 intro k hk
 by_cases hkl:k < places.length
 ·have hx:=hp places[k] (y44 _)
  have hxb:places[k].toNat < bl.length:=by omega
  repeat' (first|apply y4 ok;rfl;conv=>whnf|apply y43;(first|omega|unfold inI;omega);conv=>whnf|with_reducible apply z8;omega;intro _;conv=>whnf|with_reducible apply z52;omega;intro _;conv=>whnf|apply z196;omega;conv=>whnf|apply z6<;>intro _<;>conv=>whnf)
  all_goals try (exfalso;omega)
  exact z85 (k+1) [0] (by omega) (by omega) ⟨rfl,by decide,rfl,⟨⟨rfl,rfl⟩,⟨rfl,rfl⟩,⟨rfl,rfl⟩,⟨rfl,rfl⟩,⟨rfl,rfl⟩,trivial⟩,⟨z958 hkl rfl (y77 k) (by unfold pick;rw [z14 hxb];rfl) (fun _=>rfl) rfl,trivial⟩⟩
 ·repeat' (first|apply y4 ok;rfl;conv=>whnf|apply y43;(omega);conv=>whnf|with_reducible apply z8;omega;intro _;conv=>whnf|with_reducible apply z52;omega;intro _;conv=>whnf|apply z196;omega;conv=>whnf|apply z6<;>intro _<;>conv=>whnf)
  all_goals try (exfalso;omega)
  obtain rfl:k=places.length:=by omega
  exact z519 rfl (z5 fun _=>rfl) rfl (by rw [z977 _ _ _ _ rfl,List.map_map];rfl)
def letW (l:List Int):Bool:=!(l.any fun n=>!btw n 0 7)
theorem z880 (n:Int):QQ 191 [.int n] [] (.bool (!btw n 0 7)) []:=by
 refine z12 z15 func191 rfl rfl 6 ntmps191 (by simp) ?_
 repeat' ((first|apply y4 ok;rfl|apply z23;kernel_rfl|(apply y43;first|omega|unfold inI;omega|dsimp only;omega|(try dsimp only);simp only [y49,y48,y47,y46,y58,y59];omega|exact z62 (fun _=>rfl)|exact ⟨rfl,z22 rfl z28⟩|exact ⟨rfl,z62 (fun _=>rfl) _⟩|exact ⟨⟨rfl,by omega⟩,z62 (fun _=>rfl) _⟩|unfold z100;omega|(simp only [z94] at *;first|omega|unfold inI;omega|unfold z100;omega))|(first|with_reducible apply z8;omega|with_reducible apply z52;omega|apply z8;omega);intro _|apply z196;omega|apply z107|apply z270;omega;intro _|(first|apply z422|apply z316|apply z421|apply z498|apply z6|apply z42|apply z78|apply z82)<;>intro _|apply z4 (z266 n 0 7);rfl;rfl)<;>conv=>whnf)
 exact z19 rfl rfl
theorem z613 (l:List Int) (hl:l.length≤maxLen):QQ 112 [ints l] [] (.bool (letW l)) []:=by
 have hk:=z187 l hl (fun n=>!btw n 0 7) 191 (fun x _=>z880 x)
 refine z12 z15 func112 rfl rfl 6 ntmps112 (by simp) ?_
 repeat' ((first|apply y4 ok;rfl|apply z23;kernel_rfl|(apply y43;first|omega|unfold inI;omega|dsimp only;omega|(try dsimp only);simp only [y49,y48,y47,y46,y58,y59];omega|exact z62 (fun _=>rfl)|exact ⟨rfl,z22 rfl z28⟩|exact ⟨rfl,z62 (fun _=>rfl) _⟩|exact ⟨⟨rfl,by omega⟩,z62 (fun _=>rfl) _⟩|unfold z100;omega|(simp only [z94] at *;first|omega|unfold inI;omega|unfold z100;omega))|(first|with_reducible apply z8;omega|with_reducible apply z52;omega|apply z8;omega);intro _|apply z196;omega|apply z107|apply z270;omega;intro _|(first|apply z422|apply z316|apply z421|apply z498|apply z6|apply z42|apply z78|apply z82)<;>intro _|apply z4 hk;rfl;rfl)<;>conv=>whnf)
 exact z19 rfl rfl
def lasB (t:Trace):Bool:=letW t.stem && (letW t.loop && (decide (t.stem.length≤80) && btw t.loop.length 1 80))
theorem z454 (t:Trace) (h1:t.stem.length≤maxLen) (h2:t.loop.length≤maxLen):QQ 50 [.agg t.cs] [] (.bool (lasB t)) []:=by
 have k1:=z613 t.stem h1
 have k2:=z613 t.loop h2
 have k3:=z266 (t.loop.length:Int) 1 80
 unfold maxLen at h1 h2
 unfold lasB
 generalize letW t.stem=a at *
 generalize letW t.loop=b at *
 refine z12 z15 func50 rfl rfl 23 ntmps50 (by simp) ?_
 cases a<;>cases b
 all_goals
  repeat' ((first|apply y4 ok;rfl|apply z23;kernel_rfl|(apply y43;first|omega|unfold inI;omega|dsimp only;omega|(try dsimp only);simp only [y49,y48,y47,y46,y58,y59];omega|exact z62 (fun _=>rfl)|exact ⟨rfl,z22 rfl z28⟩|exact ⟨rfl,z62 (fun _=>rfl) _⟩|exact ⟨⟨rfl,by omega⟩,z62 (fun _=>rfl) _⟩|unfold z100;omega|(simp only [z94] at *;first|omega|unfold inI;omega|unfold z100;omega))|(first|with_reducible apply z8;omega|with_reducible apply z52;omega|apply z8;omega);intro _|apply z196;omega|apply z107|apply z270;omega;intro _|(first|apply z422|apply z316|apply z421|apply z498|apply z6|apply z42|apply z78|apply z82)<;>intro _|apply z4 k1;rfl;rfl|apply z4 k2;rfl;rfl|apply z4 k3;rfl;rfl)<;>conv=>whnf)
  all_goals first|exfalso;omega|exact z19 rfl rfl|exact z19 rfl (by grind)|skip
def z225 (L:List Int) (t:Trace):Trace:=⟨t.stem.map (pick L),t.loop.map (pick L)⟩
noncomputable def twB (g:Graph) (l:List Tree) (t:Trace):Bool:=glB g l && (trB g t && lasB (z225 (g.st.map (z32 l)) t))
noncomputable def twT (g:Graph) (l:List Tree) (t:Trace):Trace:=if twB g l t then z225 (g.st.map (z32 l)) t else ⟨[],[]⟩
theorem trB_in {g:Graph} {t:Trace} (h:trB g t=true):InN g.st.length t.stem∧InN g.st.length t.loop∧t.stem.length+t.loop.length≤8000:=by
 unfold trB at h
 rw [y71,y71,decide_eq_true_eq] at h
 have key:∀ x∈t.all,0≤x∧x < g.st.length:=fun x hx=>by
  obtain ⟨i,hi,rfl⟩:=List.mem_iff_getElem.1 hx
  exact z526 h.2.1 i hi
 exact ⟨fun x hx=>key x (List.mem_append_left _ hx),fun x hx=>key x (List.mem_append_right _ hx),h.1.2⟩
theorem twT_le {g:Graph} {l:List Tree} {t:Trace} : (twT g l t).stem.length≤80∧(twT g l t).loop.length≤80:=by
 unfold twT
 split
 ·rename_i h
  unfold twB lasB at h
  simp only [y71,decide_eq_true_eq,z94] at h
  exact ⟨by omega,by omega⟩
 ·simp
theorem z823 {o p:Nat} {b:AC} : ACle (.tup [.agg [.nils,.nils],b]) (.tup [.agg [.sref o 0 0,.sref p 0 0],b]):=fun G hh v hv=>by
 simp only [V,VL] at hv ⊢
 obtain ⟨c,rfl,hs,⟨u,h1,c2,rfl,hs2,⟨u1,h2,h3⟩,⟨u2,h4,h5⟩,_⟩,hr⟩:=hv
 refine ⟨c,rfl,hs,⟨_,h1,c2,rfl,hs2,⟨u1,h2,?_⟩,⟨u2,h4,?_⟩,trivial⟩,hr⟩
 ·have:=(z322 (o:=o)) G hh u1 (by simpa [V] using h3)
  simpa [V] using this
 ·have:=(z322 (o:=p)) G hh u2 (by simpa [V] using h5)
  simpa [V] using this
set_option maxHeartbeats 1600000 in
theorem z435 (g:Graph) (hg:g.mx) (l:List Tree) (hl:Lmx l) (t:Trace) (h1:t.stem.length≤1048576) (h2:t.loop.length≤1048576):QQ 18 [.agg g.cs,lst 3 Tree.cs' l,.agg t.cs] [] (.tup [.agg [.sref 0 0 (twT g l t).stem.length,.sref 1 0 (twT g l t).loop.length],.bool (twB g l t)]) [.cells 1 ((twT g l t).stem.map enI),.cells 1 ((twT g l t).loop.map enI)]:=by
 have k1:=z789 g hg t h1 h2
 have k2:=z229 l hl.1 hl.2
 by_cases hv:(trB g t && z170 l)=true
 ·obtain ⟨ht,hlb⟩:=Bool.and_eq_true_iff.1 hv
  have hgb:z208 g=true:=by
   unfold trB at ht
   rw [y71,y71] at ht
   exact z606 ht.2.1
  have hG:=(z95 g).1 hgb
  have hL:=y8 hlb
  have k3:=z967 g hG.vals hG.1.2 l hL
  obtain ⟨i1,i2,i3⟩:=trB_in ht
  have hLl:(g.st.map (z32 l)).length=g.st.length:=by simp
  have h60:=hG.1.2
  have hglb:glB g l=true:=by unfold glB;rw [hgb,hlb];rfl
  have eb:twB g l t=lasB (z225 (g.st.map (z32 l)) t):=by unfold twB;rw [hglb,ht];rfl
  have et:twT g l t=if lasB (z225 (g.st.map (z32 l)) t) then z225 (g.st.map (z32 l)) t else ⟨[],[]⟩:=by unfold twT;rw [eb]
  rw [eb,et]
  generalize g.st.map (z32 l)=L at *
  have kp1:=z605 L t.stem h1 (by rw [hLl];exact i1) (by omega)
  have kp2:=z605 L t.loop h2 (by rw [hLl];exact i2) (by omega)
  have hw1:(z225 L t).stem.length=t.stem.length:=by simp [z225]
  have hw2:(z225 L t).loop.length=t.loop.length:=by simp [z225]
  have kl:=z454 (z225 L t) (by unfold maxLen;omega) (by unfold maxLen;omega)
  have e1:t.stem.map (pick L)=(z225 L t).stem:=rfl
  have e2:t.loop.map (pick L)=(z225 L t).loop:=rfl
  rw [e1,← hw1] at kp1
  rw [e2,← hw2] at kp2
  rw [ht] at k1
  rw [hlb] at k2
  generalize hW:z225 L t=W at *
  by_cases hb:lasB W=true
  ·rw [hb] at kl ⊢
   rw [if_pos rfl]
   refine z12 z15 func18 rfl rfl 37 ntmps18 (by simp) ?_
   repeat' ((first|apply y4 ok;rfl|apply z23;kernel_rfl|(apply y43;first|omega|unfold inI;omega|dsimp only;omega|(try dsimp only);simp only [y49,y48,y47,y46,y58,y59];omega|exact z62 (fun _=>rfl)|exact ⟨rfl,z22 rfl z28⟩|exact ⟨rfl,z62 (fun _=>rfl) _⟩|exact ⟨⟨rfl,by omega⟩,z62 (fun _=>rfl) _⟩|unfold z100;omega|(simp only [z94] at *;first|omega|unfold inI;omega|unfold z100;omega))|(first|with_reducible apply z8;omega|with_reducible apply z52;omega|apply z8;omega);intro _|apply z196;omega|apply z107|apply z270;omega;intro _|(first|apply z422|apply z316|apply z421|apply z498|apply z6|apply z42|apply z78|apply z82)<;>intro _|apply z4 k1;rfl;rfl|apply z4 k2;rfl;rfl|apply z4 k3;rfl;rfl|(first|apply z414 [] [] [3] kp1;rfl;(focus ((repeat' first|exact z38|apply z48)<;>first|rfl|refine z65 rfl ?_;(first|exact z5 fun _=>rfl|exact z25|exact z54 rfl|(apply z67<;>exact z5 fun _=>rfl)|assumption)))|apply z414 [] [] [4] kp2;rfl;(focus ((repeat' first|exact z38|apply z48)<;>first|rfl|refine z65 rfl ?_;(first|exact z5 fun _=>rfl|exact z25|exact z54 rfl|(apply z67<;>exact z5 fun _=>rfl)|assumption)))|apply z414 [] [3,4] [] kl;(focus (exact z44 (z919 (z44 (z104 rfl rfl rfl) (z44 (z104 rfl rfl rfl) z69))) z69));(focus ((repeat' first|exact z38|apply z48)<;>first|rfl|refine z65 rfl ?_;(first|exact z5 fun _=>rfl|exact z25|exact z54 rfl|(apply z67<;>exact z5 fun _=>rfl)|assumption))));rfl;(focus ((repeat' first|exact z17|apply z16)<;>first|exact z117|exact z47 rfl rfl|refine z20 ?_;(first|exact z5 fun _=>rfl|exact z25|exact z54 rfl|(apply z67<;>exact z5 fun _=>rfl)|assumption)));(first|exact .inl rfl|(refine .inr ⟨rfl,?_⟩;repeat' first|exact True.intro|apply y43|exact rfl|exact z105 (fun _=>rfl) _)))<;>conv=>whnf)
   all_goals first|exfalso;omega|exfalso;simp_all;done|skip
   all_goals exact z90 [3,4] (by decide) rfl rfl rfl ⟨z51 rfl (z5 fun _=>rfl),z51 rfl (z5 fun _=>rfl),trivial⟩
  ·rw [(y72 _).mp hb] at kl ⊢
   rw [if_neg (by simp)]
   refine CallsA.nils (res:=.tup [.agg [.nils,.nils],.bool false]) ?_ (by simp) z823
   refine z12 z15 func18 rfl rfl 37 ntmps18 (by simp) ?_
   repeat' ((first|apply y4 ok;rfl|apply z23;kernel_rfl|(apply y43;first|omega|unfold inI;omega|dsimp only;omega|(try dsimp only);simp only [y49,y48,y47,y46,y58,y59];omega|exact z62 (fun _=>rfl)|exact ⟨rfl,z22 rfl z28⟩|exact ⟨rfl,z62 (fun _=>rfl) _⟩|exact ⟨⟨rfl,by omega⟩,z62 (fun _=>rfl) _⟩|unfold z100;omega|(simp only [z94] at *;first|omega|unfold inI;omega|unfold z100;omega))|(first|with_reducible apply z8;omega|with_reducible apply z52;omega|apply z8;omega);intro _|apply z196;omega|apply z107|apply z270;omega;intro _|(first|apply z422|apply z316|apply z421|apply z498|apply z6|apply z42|apply z78|apply z82)<;>intro _|apply z4 k1;rfl;rfl|apply z4 k2;rfl;rfl|apply z4 k3;rfl;rfl|(first|apply z414 [] [] [3] kp1;rfl;(focus ((repeat' first|exact z38|apply z48)<;>first|rfl|refine z65 rfl ?_;(first|exact z5 fun _=>rfl|exact z25|exact z54 rfl|(apply z67<;>exact z5 fun _=>rfl)|assumption)))|apply z414 [] [] [4] kp2;rfl;(focus ((repeat' first|exact z38|apply z48)<;>first|rfl|refine z65 rfl ?_;(first|exact z5 fun _=>rfl|exact z25|exact z54 rfl|(apply z67<;>exact z5 fun _=>rfl)|assumption)))|apply z414 [] [3,4] [] kl;(focus (exact z44 (z919 (z44 (z104 rfl rfl rfl) (z44 (z104 rfl rfl rfl) z69))) z69));(focus ((repeat' first|exact z38|apply z48)<;>first|rfl|refine z65 rfl ?_;(first|exact z5 fun _=>rfl|exact z25|exact z54 rfl|(apply z67<;>exact z5 fun _=>rfl)|assumption))));rfl;(focus ((repeat' first|exact z17|apply z16)<;>first|exact z117|exact z47 rfl rfl|refine z20 ?_;(first|exact z5 fun _=>rfl|exact z25|exact z54 rfl|(apply z67<;>exact z5 fun _=>rfl)|assumption)));(first|exact .inl rfl|(refine .inr ⟨rfl,?_⟩;repeat' first|exact True.intro|apply y43|exact rfl|exact z105 (fun _=>rfl) _)))<;>conv=>whnf)
   all_goals first|exfalso;omega|exact z55 rfl rfl rfl|exfalso;simp_all;done|skip
 ·have hv:=(y72 _).mp hv
  have eb:twB g l t=false:=by
   unfold twB glB
   revert hv
   cases trB g t<;>cases z170 l<;>cases z208 g<;>simp
  have et:twT g l t=⟨[],[]⟩:=by unfold twT;rw [eb];rfl
  rw [eb,et]
  generalize trB g t=b1 at *
  generalize z170 l=b2 at *
  refine CallsA.nils (res:=.tup [.agg [.nils,.nils],.bool false]) ?_ (by simp) z823
  refine z12 z15 func18 rfl rfl 37 ntmps18 (by simp) ?_
  cases b1<;>cases b2<;>first|exfalso;revert hv;decide|skip
  all_goals
   repeat' ((first|apply y4 ok;rfl|apply z23;kernel_rfl|(apply y43;first|omega|unfold inI;omega|dsimp only;omega|(try dsimp only);simp only [y49,y48,y47,y46,y58,y59];omega|exact z62 (fun _=>rfl)|exact ⟨rfl,z22 rfl z28⟩|exact ⟨rfl,z62 (fun _=>rfl) _⟩|exact ⟨⟨rfl,by omega⟩,z62 (fun _=>rfl) _⟩|unfold z100;omega|(simp only [z94] at *;first|omega|unfold inI;omega|unfold z100;omega))|(first|with_reducible apply z8;omega|with_reducible apply z52;omega|apply z8;omega);intro _|apply z196;omega|apply z107|apply z270;omega;intro _|(first|apply z422|apply z316|apply z421|apply z498|apply z6|apply z42|apply z78|apply z82)<;>intro _|apply z4 k1;rfl;rfl|apply z4 k2;rfl;rfl)<;>conv=>whnf)
   all_goals first|exfalso;omega|exact z55 rfl rfl rfl|exfalso;simp_all;done|skip
def nxW (N s:Nat) (i:Nat):Int:=if i+1=N then (s:Int) else ((i+1:Nat):Int)
def pushW (a:Aut) (word:List Int) (s i:Nat):List (Nat×Int):=a.ed.flatMap (z292 a.acc.length i (word.getD i 0) (nxW word.length s i))
def accW (a:Aut) (word:List Int) (s:Nat):List (List Int):=build (word.length * a.acc.length) ((List.range word.length).flatMap (pushW a word s))
theorem nxW_in {N s i:Nat} (hs:s < N) (hi:i < N):0≤nxW N s i∧nxW N s i≤N - 1:=by unfold nxW;split<;>omega
theorem all_ok (t:Trace) (h0:1≤t.loop.length) (h1:t.stem.length+t.loop.length≤1000000):QQ 113 [.agg t.cs] [] (ints t.all) []:=by
 have k:=z629 t.stem t.loop (by omega) (by omega)
 have hl:t.all.length=t.stem.length+t.loop.length:=by unfold Trace.all;simp
 refine keepI (n:=t.stem.length+t.loop.length) ?_ hl
 refine z7 z15 func113 rfl rfl 9 ntmps113 (by simp) ?_
 repeat' ((first|apply y4 ok;rfl|apply z99 [] [1] [2] k;(focus ((repeat' first|exact z69|apply z44)<;>rfl));rfl;rfl;(focus ((repeat' first|exact z17|apply z16)<;>(refine z20 ?_;((exact z5 fun _=>rfl)))));((refine .inr ⟨rfl,?_⟩;repeat' first|exact True.intro|apply y43|exact z105 (fun _=>rfl) _)))<;>conv=>whnf)
 all_goals (refine rsD [2] [] rfl ?_;(repeat' first|exact y86 _|exact z10 _|refine z9 rfl (z5 (fun _=>rfl)) ?_|constructor))
theorem z1167 (t:Trace) (h1:t.stem.length+t.loop.length≤1000000) (i:Nat) (hi:i≤1000000):QQ 115 [.agg t.cs,.int i] [] (.int (nxW (t.stem.length+t.loop.length) t.stem.length i)) []:=by
 unfold nxW
 refine z7 z15 func115 rfl rfl 20 ntmps115 (by simp) ?_
 by_cases h:i+1=t.stem.length+t.loop.length
 ·rw [if_pos h]
  repeat' ((first|apply y4 ok;rfl|(apply y43;first|omega|unfold inI;omega)|apply z6<;>intro _)<;>conv=>whnf)
  all_goals try (exfalso;omega)
  all_goals (refine rsD [] [] rfl ?_;(repeat' first|exact y86 _|constructor))
 ·rw [if_neg h]
  repeat' ((first|apply y4 ok;rfl|apply y43;(unfold inI;omega)|apply z6<;>intro _)<;>conv=>whnf)
  all_goals try (exfalso;omega)
  all_goals (refine rsD [] [] rfl ?_;(repeat' first|exact y86 _|constructor))
def BackR {α:Type} (M:Nat) (Gc:Ghost) (wc:World) (rest:α→List AObj) (L:List Int) (env:List (Nat×AC)) (x:α) (a:Act) (w:World):Prop :=
 ∃ G,SubM M Gc G∧Le wc w∧Rel G (mkSt 19 env (.cells 1 [[ints L]]::rest x)) a w
def IsSt {α:Type} (rest:α→List AObj) (L:List Int) (x:α) (env' : List (Nat×AC)) (st:St):Prop:=st=mkSt 19 env' (.cells 1 [[ints L]]::rest x)
theorem BackR.step {α : Type} {M : Nat} {Gc : Ghost} {wc : World} {rest : α → List AObj} {L : List Int} {env env' : List (Nat × AC)} {x : α} {a : Act} {w : World} {c : Code}
    (h:BackR M Gc wc rest L env x a w) (hc:AWP prog M c (z648 (IsSt rest L x env') (fun _ _=>False)) (mkSt 19 env (.cells 1 [[ints L]]::rest x))) {K:Act→World→Prop} {Q:Exit→Act→World→Prop}
    (hk:∀ a w,BackR M Gc wc rest L env' x a w→K a w):c.wpIn Fence.wide 0 prog (Exit.then K Q) a w:=by
  obtain ⟨G,h1,h2,h3⟩:=h
  refine wpIn_mono (hc.at_ h3) ?_
  rintro ex a' w' ⟨G',st',k1,k2,k3,k4⟩
  cases ex with
  | normal =>
    have k3:st'=_:=k3
    subst k3
    exact hk _ _ ⟨G',h1.trans k1,h2.trans k2,k4⟩
  | _=>exact k3.elim
theorem BackR.less {α:Type} {M:Nat} {Gc:Ghost} {wc:World} {rest:α→List AObj} {L:List Int} {env env' : List (Nat×AC)} {x:α} {a:Act} {w:World} (h:BackR M Gc wc rest L env x a w) (he:z799 (fun s y=>z102 env s=y) env'):BackR M Gc wc rest L env' x a w:=by
 obtain ⟨G,h1,h2,h3⟩:=h
 refine ⟨G,h1,h2,h3.wf,fun s=>?_,h3.size,h3.defers⟩
 rcases z365 env' _ he s with e|e
 ·show V _ _ _ (z102 env' s) _
  rw [e];simp [V]
 ·have:=h3.env s
  show V _ _ _ (z102 env' s) _
  rw [← e];exact this
theorem BackR.val {α:Type} {M:Nat} {Gc:Ghost} {wc:World} {rest:α→List AObj} {L:List Int} {env:List (Nat×AC)} {x:α} {a:Act} {w:World} (h:BackR M Gc wc rest L env x a w) {s:Nat} {v:Value} (he:z102 env s=.raw v):a.tmps.getD s undef=v:=by
 obtain ⟨G,_,_,hR⟩:=h
 have:=hR.env s
 rw [show (mkSt 19 env (.cells 1 [[ints L]]::rest x)).env s=z102 env s from rfl,he] at this
 simpa only [V] using this
theorem bor_pre {objs:Nat→AObj} {π Bn:List Nat} {o n:Nat} {R:List Int} (ho:objs o=.cells 1 (R.map enI)) (h1:idx π o=none) (h2:inB Bn o=true) (hl:n≤R.length):bor objs π Bn (.sref o 0 n)=ints (R.take n):=by
 simp only [bor,h1,h2,ho]
 rw [if_pos (by simp;omega),List.drop_zero,z445 (fun e he x hx=>by
  obtain ⟨y,_,rfl⟩:=List.mem_map.1 he
  rw [List.mem_singleton.1 hx];rfl),← List.map_take]
 show _=AC.list 1 (R.take n).length ((R.take n).map enI)
 rw [y48,Nat.min_eq_left hl]
theorem pre_le {objs:Nat→AObj} {π Bn:List Nat} {o a n m:Nat} {R:List Int} (ho:objs o=.cells 1 (R.map enI)) (h1:idx π o=none) (h2:inB Bn o=true) (ha:a=0) (hn:n=m) (hl:m≤R.length):LocLe (bor objs π Bn (.sref o a n)) (ints (R.take m)):=by
 subst ha hn
 rw [bor_pre ho h1 h2 hl];exact y86 _
def dblL (R:List Int) (k:Nat):List Int:=(R.take k).map (fun x=>if 0≤x then x * 2+1 else x)++R.drop k
theorem z984 (R:List Int) (k:Nat):(dblL R k).length=R.length:=by unfold dblL;simp;omega
theorem dblL_get {R:List Int} {k:Nat} (h:k < R.length):((dblL R k).map enI)[k]?=some (enI R[k]):=by
 unfold dblL
 rw [y64,y67 (by simp;omega)]
 simp only [y49,y48]
 rw [show k - min k R.length=0 by omega]
 simp [h]
theorem z1225 {R:List Int} {k:Nat} (h:k < R.length):dblL R (k+1)=if 0≤R[k] then (dblL R k).set k (R[k] * 2+1) else dblL R k:=by
 unfold dblL
 rw [y50 h,y64,y80 h,List.set_append_right _ _ (by simp;omega)]
 simp only [y49,y48]
 rw [show k - min k R.length=0 by omega,List.set_cons_zero,List.append_assoc]
 split
 ·rename_i h0;simp [h0]
 ·rename_i h0;simp [h0]
set_option maxHeartbeats 6400000 in
theorem z772 (bs:List Int) (hb:BytesOk bs) (p:Int) (hp:few3 p) (R:List Int) (hR:R.length≤3840) (hB:Bd 16000000 R):∃ (R' : List Int) (p' : Int),(R'.length≤3840∧p≤p'∧p'≤p+3)∧QQ 46 [.ptr 0 none 0,.agg [ints R]] [rdO bs p] (.agg [ints R']) [rdO bs p']:=by
 by_cases h0:R.length=0
 ·refine ⟨R,p,⟨hR,by omega,by omega⟩,?_⟩
  refine z7 z15 func46 rfl rfl 65 ntmps46 (by simp) ?_
  repeat' ((first|apply y4 ok;rfl|(apply y43;first|dsimp only;omega|exact z62 (fun _=>rfl))|apply z6<;>intro _)<;>conv=>whnf)
  all_goals try (exfalso;omega)
  all_goals (refine rsD [0] [4] rfl ?_;(repeat' first|exact y86 _|refine z245 ?_;omega|apply y87|(apply z40 rfl rfl rfl);(focus ((repeat ((exact z30 (fun _=>rfl) _)));done));(focus (((simp;done));done))|apply z41|constructor))
 obtain ⟨v,⟨v0,v1⟩,cv⟩:=z73 bs hb p 6 (by omega) (by omega) (by omega)
 by_cases e0:v=0
 ·subst e0
  obtain ⟨i,⟨i0,i1⟩,ci⟩:=z73 bs hb (p+1) ((0+R.length:Nat):Int) (by omega) (by omega) (by omega)
  obtain ⟨x,mx,cx⟩:=z112 bs hb (p+1+1) (by omega) (by omega) [-1,0,1,2,-2,4001,9223372036854775807] (by decide) (by decide)
  refine ⟨R.set i.toNat x,p+1+1+1,⟨by simp;omega,by omega,by omega⟩,?_⟩
  refine z7 z15 func46 rfl rfl 65 ntmps46 (by simp) ?_
  repeat' ((first|apply y4 ok;rfl|apply z23;kernel_rfl|(apply y43;first|omega|dsimp only;omega|exact z62 (fun _=>rfl))|((apply z8;omega));intro _|apply z6<;>intro _|(first|apply z11 [0] [] cv;rfl;rfl|apply z11 [0] [] ci;rfl;rfl|apply z11 [0,6] [] cx;rfl;rfl);rfl;(focus ((repeat' first|exact z17|apply z16)<;>first|exact z47 rfl rfl|refine z20 ?_;((exact z5 fun _=>rfl)))))<;>conv=>whnf)
  all_goals try (exfalso;omega)
  all_goals (refine rsD [0] [4] rfl ?_;(repeat' first|exact y86 _|apply y87|refine z148 (by omega) ?_|(apply z40 rfl rfl rfl);(focus ((repeat (first|exact z30 (fun _=>rfl) _|apply z647));done));(focus (((simp;done));done))|apply z41|refine z75 ?_ ?_;(focus (simp;done))|constructor))
 by_cases e1:v=1
 ·subst e1
  refine ⟨R.take (R.length - 1),p+1,⟨by simp;omega,by omega,by omega⟩,?_⟩
  refine z7 z15 func46 rfl rfl 65 ntmps46 (by simp) ?_
  repeat' ((first|apply y4 ok;rfl|(apply y43;first|omega|unfold inI;omega|dsimp only;omega|exact z62 (fun _=>rfl))|apply z6<;>intro _|apply z37 [0] [] cv;rfl;rfl;rfl)<;>conv=>whnf)
  all_goals try (exfalso;omega)
  all_goals (refine rsD [0] [4] rfl ?_;(repeat' first|exact y86 _|apply y87|apply z41|constructor))
  all_goals exact pre_le rfl rfl rfl rfl (by omega) (by omega)
 by_cases e2:v=2
 ·subst e2
  refine ⟨dblL R R.length,p+1,⟨by rw [z984];omega,by omega,by omega⟩,?_⟩
  refine z7 z15 func46 rfl rfl 65 ntmps46 (by simp) ?_
  repeat' ((first|apply y4 ok;rfl|(apply y43;first|dsimp only;omega|exact z62 (fun _=>rfl))|apply z6<;>intro _|apply z37 [0] [] cv;rfl;rfl;rfl)<;>conv=>whnf)
  all_goals try (exfalso;omega)
  all_goals
   refine z64 (fun x:Nat×List Int=>([(4,.ptr 1 none 0),(5,.ptr 2 none 0),(6,.int R.length),(7,.int x.1)],[rdO bs (p+1),.cells 1 [[.nils]],.cells 1 [[.sref 3 0 x.2.length]],.cells 1 (x.2.map enI)])) (fun x=>x.1≤R.length∧x.2=dblL R x.1) (fun x=>R.length - x.1) (0,R) ⟨y53 _,by show R=dblL R 0;simp [dblL]⟩ (by refine swR [0,2,5,4] [] rfl rfl ?_;(repeat' first|exact y86 _|exact z10 _|refine z115 ?_;omega|refine z50 ?_;((simp;done))|apply y87|refine z9 rfl (z5 (fun _=>rfl)) ?_|constructor)) ?_
   rintro ⟨k,D⟩ ⟨hk,hD⟩
   dsimp only at hk hD ⊢
   have hDl:=z984 R k
   rw [← hD] at hDl
   by_cases hk2:k < R.length
   ·have hg:=dblL_get hk2
    have hs:=z1225 hk2
    have hx:=hB _ (y44 hk2)
    rw [← hD] at hg hs
    generalize R[k]=y at *
    by_cases hy:0≤y
    ·rw [if_pos hy] at hs
     repeat' ((first|apply y4 ok;rfl|apply z23;kernel_rfl|refine z13 (i:=k) (by simp) hg ?_|(apply y43;first|omega|unfold inI;omega)|apply z6<;>intro _)<;>conv=>whnf)
     all_goals try (exfalso;omega)
     all_goals refine z24 (k+1,D.set k (y * 2+1)) ⟨hk2,hs.symm⟩ (by show R.length - (k+1) < R.length - k;omega) (by refine swR [0,1,2,3] [] rfl rfl ?_;(repeat' first|exact y86 _|refine z50 ?_;((simp;done))|apply y87|refine z60 rfl (z5 (fun _=>rfl)) ?_|refine z148 (by omega) ?_|constructor))
    ·rw [if_neg hy] at hs
     repeat' ((first|apply y4 ok;rfl|apply z23;kernel_rfl|refine z13 (i:=k) (by simp) hg ?_|(apply y43;first|omega|unfold inI;omega)|apply z6<;>intro _)<;>conv=>whnf)
     all_goals try (exfalso;omega)
     all_goals refine z24 (k+1,D) ⟨hk2,hs.symm⟩ (by show R.length - (k+1) < R.length - k;omega) (by refine swR [0,1,2,3] [] rfl rfl ?_;(repeat' first|exact y86 _|exact z10 _|apply y87|refine z9 rfl (z5 (fun _=>rfl)) ?_|constructor))
   ·have e:R.length=k:=by omega
    have hk3:=hk
    rw [e]
    rw [← hD]
    repeat' ((first|apply y4 ok;rfl|apply z23;kernel_rfl|apply y43;omega|((apply z8;omega));intro _|apply z6<;>intro _)<;>conv=>whnf)
    all_goals try (exfalso;omega)
    all_goals (refine rsD [0] [3] rfl ?_;(repeat' first|exact y86 _|apply y87|(apply z40 rfl rfl rfl);(focus ((repeat ((exact z30 (fun _=>rfl) _)));done));(focus (((simp;done));done))|apply z41|constructor))
 refine ⟨R,p+1,⟨hR,by omega,by omega⟩,?_⟩
 refine z7 z15 func46 rfl rfl 65 ntmps46 (by simp) ?_
 repeat' ((first|apply y4 ok;rfl|(apply y43;first|omega|dsimp only;omega|exact z62 (fun _=>rfl))|apply z6<;>intro _|apply z37 [0] [] cv;rfl;rfl;rfl)<;>conv=>whnf)
 all_goals try (exfalso;omega)
 all_goals (refine rsD [0] [4] rfl ?_;(repeat' first|exact y86 _|refine z245 ?_;omega|apply y87|(apply z40 rfl rfl rfl);(focus ((repeat ((exact z30 (fun _=>rfl) _)));done));(focus (((simp;done));done))|apply z41|constructor))
def NoAcc (rows:List (List Int)) (ini:List Int) (acc:List Bool):Prop:=∀ x,RP rows ini x→Cyc rows x→acc.getD (x % acc.length).toNat false=false
theorem acc_nat (acc:List Bool) {x:Int} (hx:0≤x):acc.getD (x % acc.length).toNat false=acc.getD (x.toNat % acc.length) false:=by
 obtain ⟨i,rfl⟩:∃ i:Nat,x=i:=⟨x.toNat,by omega⟩
 rw [← Int.natCast_emod,y77,y77]
section
variable {rows:List (List Int)} {ini:List Int} {acc:List Bool} {R:List Int}
theorem cert_nn (hr:∀ r∈rows,InN rows.length r) (hi:InN rows.length ini) (h:z593 rows ini acc rows.length R) {x:Int} (hx:RP rows ini x):0≤rk R x:=by
 obtain ⟨h1,h2,h3,h4⟩:=h
 induction hx with
 |base hb=>exact h3 _ hb
 |step hx e ih =>
  rename_i x y
  have hxN:=RP.in hr hi hx
  have e1:rk R x=R[x.toNat]'(by omega):=by unfold rk;rw [z14 (by omega)]
  rw [e1] at ih
  exact (h4 x.toNat (by omega) ih y e).1
theorem z811 (hr:∀ r∈rows,InN rows.length r) (hi:InN rows.length ini) (h:z593 rows ini acc rows.length R) {x y:Int} (hx:RP rows ini x) (e:y∈rows.getD x.toNat []):rk R y+wtA acc x≤rk R x:=by
 have h0:=cert_nn hr hi h hx
 obtain ⟨h1,h2,h3,h4⟩:=h
 have hxN:=RP.in hr hi hx
 have e1:rk R x=R[x.toNat]'(by omega):=by unfold rk;rw [z14 (by omega)]
 rw [e1] at h0 ⊢
 have:=(h4 x.toNat (by omega) h0 y e).2
 unfold wtA
 rw [acc_nat acc hxN.1]
 unfold less at this
 split at this<;>split<;>simp_all<;>omega
theorem z1235 (hr:∀ r∈rows,InN rows.length r) (hi:InN rows.length ini) (h:z593 rows ini acc rows.length R) {x y:Int} (hx:RP rows ini x) (hy:RP rows [x] y):rk R y≤rk R x:=by
 induction hy with
 |base hb=>rw [List.mem_singleton.1 hb];exact Int.le_refl _
 |@step a b h1 e ih =>
  have h3:=z811 hr hi h (RP.trans0 hx h1) e
  have h4:=wtA_nn acc a
  omega
theorem z1071 (hr:∀ r∈rows,InN rows.length r) (hi:InN rows.length ini) (h:z593 rows ini acc rows.length R):NoAcc rows ini acc:=by
 rintro x hx ⟨y,hy,hyx⟩
 have h1:=z811 hr hi h hx hy
 have h2:=z1235 hr hi h (.step hx hy) hyx
 have h3:wtA acc x=0:=by have:=wtA_nn acc x;omega
 unfold wtA at h3
 split at h3
 ·omega
 ·simp_all
end
end Go.Proofs.YtjhgpfaodkchjaaGreat
namespace Go.Proofs.YtjhgpfaodkchjaaGreat
open Go.Gl Proofs.Tryz
attribute [local irreducible] z18 AWP z31 z35 z34 RetS z45
attribute [local irreducible] EndR
theorem z1111 {g:Graph} {ls:List Int} {a:Aut} (hr:∀ r∈z33 g ls a,InN (z33 g ls a).length r) (hi:InN (z33 g ls a).length a.ini) (hn:a.ini.Nodup) (h:trcO g ls a=none):NoAcc (z33 g ls a) a.ini a.acc:=by
 unfold trcO at h
 rw [Option.map_eq_none_iff,← z479 hr hi hn,z771] at h
 intro x hx hc
 have hxN:=RP.in hr hi hx
 have:=h x ((z922 hr hi x).2 hx)
 cases hb:a.acc.getD (x % a.acc.length).toNat false with
 |false=>rfl
 |true =>
  exfalso
  apply this
  refine ⟨hb,z407.2 ?_⟩
  rw [Int.toNat_of_nonneg hxN.1];exact hc
end Go.Proofs.YtjhgpfaodkchjaaGreat
namespace Go.Proofs.YtjhgpfaodkchjaaGreat
open Go.Gl Proofs.Tryz
attribute [local irreducible] z18 AWP z31 z35 z34 RetS z45
theorem z853 (g:Graph) (hg:g.mx) (l:List Tree) (hl:Lmx l) (a:Aut) (ha:a.mx):QQ 34 [.agg g.cs,lst 3 Tree.cs' l,.agg a.cs] [] (.tup [.agg (Cert.mk (mkR g l a)).cs,.bool (mkOk g l a)]) []:=(by refine y5 (z740 g hg l hl a ha) [] [0] rfl rfl rfl ?_ ?_<;>(repeat' first|exact y86 _|(apply z40 rfl rfl rfl);(focus ((repeat ((exact z30 (fun _=>rfl) _)));done));(focus (((simp;done));done))|apply z41|apply z80|constructor))
theorem z762 {g:Graph} {ls:List Int} {a:Aut} (hr:∀ r∈z33 g ls a,InN (z33 g ls a).length r) (hi:InN (z33 g ls a).length a.ini) (hn:a.ini.Nodup) (h:NoAcc (z33 g ls a) a.ini a.acc):trcO g ls a=none:=by
 unfold trcO
 rw [Option.map_eq_none_iff,← z479 hr hi hn,z771]
 rintro v hv ⟨h1,h2⟩
 have hvN:=z457 hr hi _ v hv
 have hc:=z407.1 h2
 rw [Int.toNat_of_nonneg hvN.1] at hc
 have:=h v ((z922 hr hi v).1 hv) hc
 rw [h1] at this;cases this
theorem certB_gl {g:Graph} {l:List Tree} {a:Aut} {c:Cert} (h:z309 g l a c=true):mkOk g l a=true:=by
 unfold z309 at h
 obtain ⟨h1,h2⟩:=Bool.and_eq_true_iff.1 h
 obtain ⟨h3,hab⟩:=Bool.and_eq_true_iff.1 h1
 have hG:=(z95 g).1 (by unfold glB at h3;exact (Bool.and_eq_true_iff.1 h3).1)
 have hA:=z137.1 hab
 obtain ⟨f1,f2,f3,f4,f5⟩:=z200 hG hA (g.st.map (z32 l))
 have h2:=of_decide_eq_true h2
 rw [show g.st.length * a.acc.length=(z33 g (g.st.map (z32 l)) a).length by unfold z33;rw [z84,Nat.mul_comm]] at h2
 unfold mkOk
 rw [h1,z762 f1 f2 hA.2.2.1.nd (z1071 f1 f2 h2)];rfl
theorem z558 {N:Nat} {ps:List (Nat×Int)} {r:Nat} {y:Int} : y∈(build N ps).getD r []↔r < N∧(r,y)∈ps:=by
 by_cases h:r < N
 ·rw [z14 (by rw [z84];exact h),z415 (by rw [z84];exact h)]
  simp only [y60,List.mem_filter,beq_iff_eq,h,true_and]
  constructor
  ·rintro ⟨⟨p,v⟩,⟨h1,h2⟩,h3⟩
   dsimp only at h2 h3
   subst h2;subst h3;exact h1
  ·intro h1;exact ⟨(r,y),⟨h1,rfl⟩,rfl⟩
 ·have e:(build N ps).getD r []=[]:=by rw [y68,y69 (by rw [z84];omega)];rfl
  rw [e];simp [h]
theorem z1151 {g:Graph} {ls:List Int} {a:Aut} {i:Nat} {to:Int} {e:Trans} (hsrc:e.src.toNat < a.acc.length) (hi:i < g.st.length) (hto:to∈g.nx.getD i []) (he:e∈a.ed) (hon:onB e (ls.getD i 0)=true):to * a.acc.length+e.dst∈(z33 g ls a).getD (i * a.acc.length+e.src.toNat) []:=by
 unfold z33
 refine z558.2 ⟨?_,List.mem_flatMap.2 ⟨i,List.mem_range.2 hi,?_⟩⟩
 ·have h1:(i+1) * a.acc.length≤g.st.length * a.acc.length:=Nat.mul_le_mul_right _ hi
  rw [Nat.add_mul,Nat.one_mul,Nat.mul_comm g.st.length] at h1
  omega
 ·unfold z429
  refine List.mem_flatMap.2 ⟨to,hto,List.mem_flatMap.2 ⟨e,he,?_⟩⟩
  unfold z292
  rw [if_pos hon];simp
section
variable {g:Graph} {ls:List Int} {a:Aut} {t:Trace}
theorem z933:(z225 ls t).all=t.all.map (pick ls):=by unfold Trace.all z225;simp
theorem trB_step (ht:trB g t=true) {i:Nat} (hi:i < t.all.length):(0≤t.all.getD i 0∧t.all.getD i 0 < g.st.length)∧t.all.getD (nxW t.all.length t.stem.length i).toNat 0∈g.nx.getD (t.all.getD i 0).toNat []:=by
 have h0:=ht
 unfold trB at ht
 simp only [y71,decide_eq_true_eq] at ht
 obtain ⟨⟨a1,a2⟩,a3,a4,a5⟩:=ht
 have hal:t.all.length=t.stem.length+t.loop.length:=by unfold Trace.all;simp
 have hin:=z526 a3 i hi
 have hst:∀ i,i < t.all.length→z356 g t.all i=true:=fun i hi=>by
  unfold z294 at a3
  rw [y71,y71,y79] at a3
  exact a3.2.2 i (List.mem_range.2 hi)
 refine ⟨by rw [z14 hi];exact hin,?_⟩
 unfold nxW
 split
 ·rename_i h
  have e1:t.all.getD t.stem.length 0=t.loop.getD 0 0:=by
   unfold Trace.all
   rw [y68,y68,y67 (y52 _),Nat.sub_self]
  have e2:t.all.getD i 0=t.loop.getD (t.loop.length - 1) 0:=by
   unfold Trace.all
   rw [y68,y68,y67 (by omega),show i - t.stem.length=t.loop.length - 1 by omega]
  rw [y77,e1,e2];exact a5
 ·have h2:=hst (i+1) (by omega)
  unfold z356 at h2
  simp only [y71,Bool.or_eq_true,decide_eq_true_eq] at h2
  rw [y77]
  rcases h2.2 with h3|h3
  ·omega
  ·rwa [Nat.add_sub_cancel] at h3
end
end Go.Proofs.YtjhgpfaodkchjaaGreat
namespace Go.Proofs.YtjhgpfaodkchjaaGreat
open Go.Gl Proofs.Tryz
attribute [local irreducible] z18 AWP z31 z35 z34 RetS z45
theorem z943 (l:List Int) (i:Nat):List.take ((i:Int).toNat - Int.toNat 0) (List.drop (Int.toNat 0) (List.map enI l))=List.map enI (l.take i):=by
 simp [List.map_take]
theorem z944 (l:List Int) (i:Nat):List.take ((l.length:Int).toNat - (i:Int).toNat) (List.drop (i:Int).toNat (List.map enI l))=List.map enI (l.drop i):=by
 rw [y77,y77,← List.map_drop,y57 (by simp)]
theorem GB.row {g:Graph} (h:GB g):∀ i (hi:i < g.nx.length),1≤g.nx[i].length∧g.nx[i].length≤60∧InN g.st.length g.nx[i]:=fun i hi=>by
 obtain ⟨⟨g1,g2⟩,g3,g4⟩:=h
 have h4:=g4 i hi hi (by omega)
 refine ⟨by have:=h4.2.1;omega,by have:=h4.2.1;omega,fun x hx=>?_⟩
 obtain ⟨j,hj,rfl⟩:=List.mem_iff_getElem.1 hx
 have:=(h4.2.2.2 j hj hj).1
 omega
def wkC (c:List Int) (k:Nat):Int:=if k < c.length then c.getD k 0 else (k:Int)
def wkN (rows:List (List Int)) (c:List Int) (path:List Int) (k:Nat):Int:=(rows.getD (path.getD (path.length - 1) 0).toNat []).getD (wkC c k % (rows.getD (path.getD (path.length - 1) 0).toNat []).length).toNat 0
def wkB (c:List Int) (k:Nat):Bool:=decide (c.length≤k) || (decide (6 < k) || decide (99 < c.getD k 0))
def srcW (path:List Int) (n:Int) (b:Bool):Nat→Nat→Option Nat
 |0,_=>none
 |f+1,i=>if path.getD i 0=n∧b=true then some i else srcW path n b f (i+1)
def wkT (rows:List (List Int)) (c:List Int):Nat→Nat→List Int→Trace
 |0,_,path=>⟨path,[]⟩
 |f+1,k,path=>match srcW path (wkN rows c path k) (wkB c k) path.length 0 with
  |some i=>⟨path.take i,path.drop i⟩
  |none=>wkT rows c f (k+1) (path++[wkN rows c path k])
theorem z1092 (rows:List (List Int)) (c:List Int):∀ (f k:Nat) (path:List Int),path.length+f≤71→(wkT rows c f k path).stem.length≤71∧(wkT rows c f k path).loop.length≤71
 |0,_,path,h=>by simp only [wkT];simp;omega
 |f+1,k,path,h=>by
  rw [wkT]
  split
  ·simp only [y48,List.length_drop];omega
  ·exact z1092 rows c f (k+1) _ (by simp;omega)
set_option maxHeartbeats 6400000 in
theorem z1090 (g:Graph) (hg:g.d) (hG:GB g) (c:List Int) (hc:CodeOk c):QQ 19 [.agg g.cs,lst 1 enU c] [] (.agg (wkT g.nx c 70 0 [0]).cs) []:=by
 have hnx:g.nx.length=g.st.length:=hG.2.1
 have h60:=hG.1.2
 have h1:=hG.1.1
 have hlen:=hc.len
 unfold maxLen at hlen
 have hrow:∀ i (hi:i < g.nx.length),1≤g.nx[i].length∧g.nx[i].length≤60∧∀ x∈g.nx[i],0≤x∧x < (g.st.length:Int):=fun i hi=>by
  obtain ⟨a1,a2,a3⟩:=GB.row hG i hi
  exact ⟨a1,by omega,a3⟩
 generalize hR:wkT g.nx c 70 0 [0]=R
 refine z7 z15 func19 rfl rfl 85 ntmps19 (by simp) ?_
 repeat' (((apply y4 ok;rfl))<;>conv=>whnf)
 refine z64 (fun x:Nat×List Int=>([(1,lst 1 enU c),(2,.ptr 0 none 0),(4,.ptr 1 none 0),(5,.sref 2 0 x.2.length),(6,.int x.1)],[.cells 2 [g.cs],.cells 2 [[.nils,.nils]],.cells 1 (x.2.map enI)])) (fun x=>x.1≤70∧x.2.length=x.1+1∧(∀ y∈x.2,0≤y∧y < (g.st.length:Int))∧wkT g.nx c (70 - x.1) x.1 x.2=R) (fun x=>70 - x.1) (0,[0]) ⟨y53 _,rfl,by simp;omega,hR⟩ (by refine swR [0,1,2] [] rfl rfl ?_;(repeat' first|exact y86 _|apply y87|constructor)) ?_
 rintro ⟨k,path⟩ ⟨hk,hpl,hin,hw⟩
 dsimp only at hk hpl hin hw ⊢
 by_cases hk7:k < 70
 ·rw [show 70 - k=(70 - (k+1))+1 by omega,wkT] at hw
  have hla:path.length - 1 < path.length:=by omega
  have gl:(path.map enI)[path.length - 1]?=some (enI (path.getD (path.length - 1) 0)):=by rw [y51,y45 hla,z14 hla];rfl
  have hx:=hin (path.getD (path.length - 1) 0) (by rw [z14 hla];exact y44 _)
  have est:wkN g.nx c path k=(g.nx.getD (path.getD (path.length - 1) 0).toNat []).getD (wkC c k % (g.nx.getD (path.getD (path.length - 1) 0).toNat []).length).toNat 0:=rfl
  generalize path.getD (path.length - 1) 0=x at *
  have hxn:x.toNat < g.nx.length:=by omega
  have gr:(g.nx.map encL)[x.toNat]?=some (encL (g.nx.getD x.toNat [])):=by rw [y51,y45 hxn,z14 hxn];rfl
  have hr:=hrow x.toNat hxn
  rw [← z14 hxn (d:=[])] at hr
  generalize g.nx.getD x.toNat []=row at *
  have hcb:k < c.length→0≤c.getD k 0∧c.getD k 0≤255:=fun h=>by
   rw [z14 h];exact hc.el _ (y44 h)
  have hcc:wkC c k=if k < c.length then c.getD k 0 else (k:Int):=rfl
  have hbb:wkB c k=true↔(c.length≤k∨6 < k∨99 < c.getD k 0):=by unfold wkB;simp
  have hch:0≤wkC c k:=by
   rw [hcc];split
   ·rename_i h;exact (hcb h).1
   ·omega
  have hm0:0≤wkC c k % (row.length:Int):=Int.emod_nonneg _ (by omega)
  have hm1:wkC c k % (row.length:Int) < row.length:=Int.emod_lt_of_pos _ (by omega)
  have gn:(row.map enI)[(wkC c k % (row.length:Int)).toNat]?=some (enI (wkN g.nx c path k)):=by
   rw [est,y51,y45 (by omega),z14 (by omega)];rfl
  have hn:=hr.2.2 (wkN g.nx c path k) (by rw [est,z14 (by omega)];exact y44 _)
  have gc:k < c.length→(c.map enU)[k]?=some (enU (c.getD k 0)):=fun h=>by
   rw [y51,y45 h,z14 h];rfl
  clear est
  generalize wkN g.nx c path k=n at *
  generalize wkB c k=b at *
  generalize wkC c k=ch at *
  generalize c.getD k 0=v at *
  generalize hS:srcW path n b path.length 0=SR at *
  by_cases hkc:k < c.length
  ·rw [if_pos hkc] at hcc
   subst hcc
   have gc:=gc hkc
   have hcb:=hcb hkc
   have hwr:IntKind.i64.wrap ch=ch:=z219 (by unfold inI;omega)
   repeat' ((first|apply y4 ok;rfl|apply z23;kernel_rfl|refine z13 (i:=path.length - 1) (by omega) gl ?_|refine z13 (i:=x.toNat) rfl gr ?_|refine z13 (i:=k) rfl gc ?_|refine y43 hwr ?_|refine z13 (i:=(ch % (row.length:Int)).toNat) rfl gn ?_|(apply y43;first|omega|unfold inI;omega)|((with_reducible apply z52;omega));intro _|apply z6<;>intro _)<;>conv=>whnf)
   all_goals try (exfalso;omega)
   refine z64 (fun i:Nat=>([(1,lst 1 enU c),(2,.ptr 0 none 0),(4,.ptr 1 none 0),(5,.sref 2 0 path.length),(6,.int k),(9,.int n),(10,.int i)],[.cells 2 [g.cs],.cells 2 [[.nils,.nils]],.cells 1 (path.map enI)])) (fun i=>i≤path.length∧srcW path n b (path.length - i) i=SR) (fun i=>path.length - i) 0 ⟨y53 _,hS⟩ (by refine swR [0,1,2] [] rfl rfl ?_;(repeat' first|exact y86 _|exact z10 _|apply y87|refine z9 rfl (z5 (fun _=>rfl)) ?_|constructor)) ?_
   rintro i ⟨hi,hSi⟩
   dsimp only at hi hSi ⊢
   by_cases hil:i < path.length
   ·have gy:(path.map enI)[i]?=some (enI (path.getD i 0)):=by rw [y51,y45 hil,z14 hil];rfl
    rw [show path.length - i=(path.length - (i+1))+1 by omega,srcW] at hSi
    generalize path.getD i 0=y at *
    by_cases hy:y=n∧b=true
    ·rw [if_pos hy] at hSi
     subst hSi
     dsimp only at hw
     subst hw
     obtain ⟨rfl,rfl⟩:=hy
     have hb3:=hbb.1 rfl
     repeat' ((first|(fail_if_success apply z96 14);(fail_if_success apply z77 14);apply y4 ok;rfl|refine z13 (i:=i) rfl gy ?_|refine z13 (i:=k) rfl gc ?_|apply y43;omega|apply z6<;>intro _)<;>conv=>whnf)
     all_goals try (exfalso;omega)
     all_goals
      refine y85 (SealW.reach (env:=[(4,.ptr 1 none 0),(5,ints path),(10,.int i)]) (objs:=[.cells 2 [g.cs],.cells 2 [[.nils,.nils]]]) [0,1] [2] rfl rfl rfl rfl ?_ ?_) ?_
      ·(repeat' first|exact y86 _|(apply z40 rfl rfl rfl);(focus ((repeat ((exact z30 (fun _=>rfl) _)));done));(focus (((simp;done));done))|constructor)
      ·(repeat' first|exact y86 _|apply y87|constructor)
      conv=>whnf
      repeat' ((first|apply y4 ok;rfl|apply z23;kernel_rfl|apply y43;omega)<;>conv=>whnf)
      all_goals (refine rsD [] [] rfl ?_;(repeat' first|apply z41|refine z75 ?_ ?_;(focus (simp;done))|constructor))
      all_goals first|refine z75 ?_ (z57 ?_)|refine z57 ?_
      all_goals first|exact z943 path i|exact z944 path i|show (i:Int).toNat - Int.toNat 0=(List.take i path).length;rw [y48];omega
    ·rw [if_neg hy] at hSi
     have hy2:y=n→¬ (c.length≤k∨6 < k∨99 < ch):=fun h1 h2=>hy ⟨h1,hbb.2 h2⟩
     repeat' ((first|apply y4 ok;rfl|apply z23;kernel_rfl|refine z13 (i:=i) rfl gy ?_|refine z13 (i:=k) rfl gc ?_|(apply y43;first|omega|unfold inI;omega)|apply z6<;>intro _)<;>conv=>whnf)
     all_goals try (exfalso;omega)
     all_goals refine z24 (i+1) ⟨hil,hSi⟩ (by show path.length - (i+1) < path.length - i;omega) (by refine swR [0,1,2] [] rfl rfl ?_;(repeat' first|exact y86 _|exact z10 _|apply y87|refine z9 rfl (z5 (fun _=>rfl)) ?_|constructor))
   ·obtain rfl:i=path.length:=by omega
    rw [Nat.sub_self,srcW] at hSi
    subst hSi
    dsimp only at hw
    repeat' ((first|apply y4 ok;rfl|apply z23;kernel_rfl|(apply y43;first|omega|unfold inI;omega|(try dsimp only);simp only [y49,y48,y47,y46,y58,y59];omega|exact ⟨rfl,z22 rfl z28⟩)|(first|with_reducible apply z8;omega|apply z8;omega);intro _|apply z6<;>intro _)<;>conv=>whnf)
    all_goals try (exfalso;omega)
    all_goals refine z24 (k+1,path++[n]) ⟨by show k+1≤70;omega,by simp;omega,fun z hz=>by rcases List.mem_append.1 hz with h|h;exact hin z h;rw [List.mem_singleton.1 h];exact hn,hw⟩ (by show 70 - (k+1) < 70 - k;omega) (by refine swR [0,1,4] [] rfl rfl ?_;(repeat' first|exact y86 _|refine z50 ?_;((simp;done))|apply y87|(refine z39 rfl ?_ ?_);(focus ((repeat' (first|exact z5 (fun _=>rfl)|apply z26));done))|refine z86 ?_ ?_;(focus omega)|constructor))
  ·rw [if_neg hkc] at hcc
   clear gc hcb
   subst hcc
   repeat' ((first|apply y4 ok;rfl|apply z23;kernel_rfl|refine z13 (i:=path.length - 1) (by omega) gl ?_|refine z13 (i:=x.toNat) rfl gr ?_|refine z13 (i:=((k:Int) % (row.length:Int)).toNat) rfl gn ?_|(apply y43;first|omega|unfold inI;omega)|(first|with_reducible apply z8;omega|with_reducible apply z52;omega);intro _|apply z6<;>intro _)<;>conv=>whnf)
   all_goals try (exfalso;omega)
   refine z64 (fun i:Nat=>([(1,lst 1 enU c),(2,.ptr 0 none 0),(4,.ptr 1 none 0),(5,.sref 2 0 path.length),(6,.int k),(9,.int n),(10,.int i)],[.cells 2 [g.cs],.cells 2 [[.nils,.nils]],.cells 1 (path.map enI)])) (fun i=>i≤path.length∧srcW path n b (path.length - i) i=SR) (fun i=>path.length - i) 0 ⟨y53 _,hS⟩ (by refine swR [0,1,2] [] rfl rfl ?_;(repeat' first|exact y86 _|exact z10 _|apply y87|refine z9 rfl (z5 (fun _=>rfl)) ?_|constructor)) ?_
   rintro i ⟨hi,hSi⟩
   dsimp only at hi hSi ⊢
   by_cases hil:i < path.length
   ·have gy:(path.map enI)[i]?=some (enI (path.getD i 0)):=by rw [y51,y45 hil,z14 hil];rfl
    rw [show path.length - i=(path.length - (i+1))+1 by omega,srcW] at hSi
    generalize path.getD i 0=y at *
    by_cases hy:y=n∧b=true
    ·rw [if_pos hy] at hSi
     subst hSi
     dsimp only at hw
     subst hw
     obtain ⟨rfl,rfl⟩:=hy
     have hb3:=hbb.1 rfl
     repeat' ((first|(fail_if_success apply z96 14);(fail_if_success apply z77 14);apply y4 ok;rfl|refine z13 (i:=i) rfl gy ?_|apply y43;omega|((with_reducible apply z8;omega));intro _|apply z6<;>intro _)<;>conv=>whnf)
     all_goals try (exfalso;omega)
     all_goals
      refine y85 (SealW.reach (env:=[(4,.ptr 1 none 0),(5,ints path),(10,.int i)]) (objs:=[.cells 2 [g.cs],.cells 2 [[.nils,.nils]]]) [0,1] [2] rfl rfl rfl rfl ?_ ?_) ?_
      ·(repeat' first|exact y86 _|(apply z40 rfl rfl rfl);(focus ((repeat ((exact z30 (fun _=>rfl) _)));done));(focus (((simp;done));done))|constructor)
      ·(repeat' first|exact y86 _|apply y87|constructor)
      conv=>whnf
      repeat' ((first|apply y4 ok;rfl|apply z23;kernel_rfl|apply y43;omega)<;>conv=>whnf)
      all_goals (refine rsD [] [] rfl ?_;(repeat' first|apply z41|refine z75 ?_ ?_;(focus (simp;done))|constructor))
      all_goals first|refine z75 ?_ (z57 ?_)|refine z57 ?_
      all_goals first|exact z943 path i|exact z944 path i|show (i:Int).toNat - Int.toNat 0=(List.take i path).length;rw [y48];omega
    ·rw [if_neg hy] at hSi
     have hy2:y=n→¬ (c.length≤k∨6 < k∨99 < v):=fun h1 h2=>hy ⟨h1,hbb.2 h2⟩
     repeat' ((first|apply y4 ok;rfl|apply z23;kernel_rfl|refine z13 (i:=i) rfl gy ?_|(apply y43;first|omega|unfold inI;omega)|((with_reducible apply z8;omega));intro _|apply z6<;>intro _)<;>conv=>whnf)
     all_goals try (exfalso;omega)
     all_goals refine z24 (i+1) ⟨hil,hSi⟩ (by show path.length - (i+1) < path.length - i;omega) (by refine swR [0,1,2] [] rfl rfl ?_;(repeat' first|exact y86 _|exact z10 _|apply y87|refine z9 rfl (z5 (fun _=>rfl)) ?_|constructor))
   ·obtain rfl:i=path.length:=by omega
    rw [Nat.sub_self,srcW] at hSi
    subst hSi
    dsimp only at hw
    repeat' ((first|apply y4 ok;rfl|apply z23;kernel_rfl|(apply y43;first|omega|unfold inI;omega|(try dsimp only);simp only [y49,y48,y47,y46,y58,y59];omega|exact ⟨rfl,z22 rfl z28⟩)|(first|with_reducible apply z8;omega|apply z8;omega);intro _|apply z6<;>intro _)<;>conv=>whnf)
    all_goals try (exfalso;omega)
    all_goals refine z24 (k+1,path++[n]) ⟨by show k+1≤70;omega,by simp;omega,fun z hz=>by rcases List.mem_append.1 hz with h|h;exact hin z h;rw [List.mem_singleton.1 h];exact hn,hw⟩ (by show 70 - (k+1) < 70 - k;omega) (by refine swR [0,1,4] [] rfl rfl ?_;(repeat' first|exact y86 _|refine z50 ?_;((simp;done))|apply y87|(refine z39 rfl ?_ ?_);(focus ((repeat' (first|exact z5 (fun _=>rfl)|apply z26));done))|refine z86 ?_ ?_;(focus omega)|constructor))
 ·obtain rfl:k=70:=by omega
  rw [show 70 - 70=0 by omega,wkT] at hw
  subst hw
  repeat' (((apply y4 ok;rfl))<;>conv=>whnf)
  all_goals (refine rsD [] [2] rfl ?_;(repeat' first|exact y86 _|exact z43|(apply z40 rfl rfl rfl);(focus ((repeat ((exact z30 (fun _=>rfl) _)));done));(focus (((simp;done));done))|apply z41|constructor))
end Go.Proofs.YtjhgpfaodkchjaaGreat
