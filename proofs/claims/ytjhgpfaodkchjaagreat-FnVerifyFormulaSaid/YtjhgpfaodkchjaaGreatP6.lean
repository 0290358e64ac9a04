/- A part of the proofs over this program: T181, T182, T183, T113, T184, T185, T64, T65, T66, T154, T155, T156, T157, T158. -/
import Derived.Test.YtjhgpfaodkchjaaGreatP5
set_option linter.all false
namespace Go.Proofs.YtjhgpfaodkchjaaGreat
open Go.Gl Proofs.Tryz
attribute [local irreducible] z18 AWP z31 z35 z34 RetS z45
theorem z404 (N:Nat):List.replicate N [AC.int 0]=(fnL N fun _=>0).map enI:=by
 apply y75 (by simp [fnL])
 intro i h1 h2
 simp [fnL,enI]
theorem z794 {N:Nat} {f g:Nat→Int} (h:∀ i,i < N→f i=g i):fnL N f=fnL N g:=List.map_congr_left fun i hi=>h i (List.mem_range.1 hi)
theorem z901 {N i:Nat} (f:Nat→Int) (h:i < (fnL N f).length):(fnL N f)[i]=f i:=by simp [fnL]
set_option maxHeartbeats 12800000 in
theorem z592 (rows:List (List Int)) (hr:∀ r∈rows,InN rows.length r) (hN:rows.length≤100000) (hrl:∀ r∈rows,r.length≤1000000000):QQ 245 [lst 1 encL rows] [] (.sref 0 0 rows.length) [.cells 1 ((cmpL rows).map enI)]:=by
 refine z7 z15 func245 rfl rfl 77 ntmps245 (by simp) ?_
 repeat' ((first|apply y4 ok;rfl|apply z23;kernel_rfl|apply y43;(dsimp only;omega))<;>conv=>whnf)
 obtain ⟨qm,hqm⟩:∃ qm:Nat→Nat→Int,qm=fun i j=>if j < i then -1 else 0:=⟨_,rfl⟩
 have q0:qm 0=fun _=>0:=by rw [hqm];rfl
 have qE:fnL rows.length (qm rows.length)=fnL rows.length fun _=>-1:=z794 fun i hi=>by rw [hqm];dsimp only;rw [if_pos hi]
 have qS:∀ i,qm (i+1)=upd (qm i) i (-1):=fun i=>by
  funext j
  by_cases h:j=i
  ·subst h;rw [z36,hqm];dsimp only;rw [if_pos (by omega)]
  ·rw [z56 _ _ h,hqm];dsimp only;split<;>split<;>first|rfl|omega
 clear hqm
 refine z64 (fun i:Nat=>([(1,.ptr 0 none 0),(3,.int rows.length),(4,.ptr 4 none 0),(5,.ptr 5 none 0),(6,.ptr 6 none 0),(27,.int rows.length),(28,.int i)],[.cells 1 [[lst 1 encL rows]],.cells 1 ((fnL rows.length fun _=>0).map enI),.cells 1 ((fnL rows.length fun _=>0).map enI),.cells 1 ((fnL rows.length (qm i)).map enI),.cells 1 [[.sref 1 0 rows.length]],.cells 1 [[.sref 2 0 rows.length]],.cells 1 [[.sref 3 0 rows.length]]])) (fun i=>i≤rows.length) (fun i=>rows.length - i) 0 (y53 _) (by refine swR [0,1,2,3,4,5,6] [] rfl rfl ?_;(repeat' first|exact y86 _|apply y87|refine z9 rfl (z54 rfl) ?_|constructor)<;>(first|refine z57 ?_;exact z404 _|refine z57 ?_;rw [q0];exact z404 _)) ?_
 intro i hi
 by_cases hi2:i < rows.length
 ·have g1:=z190 (qm i) hi2
  have l1:=z140 rows.length (qm i)
  have e1:=z175 (N:=rows.length) (u:=i) (qm i) (-1)
  rw [← qS] at e1
  repeat' ((first|apply y4 ok;rfl|refine z13 (i:=i) rfl g1 ?_|(apply y43;first|omega|unfold inI;omega)|apply z6<;>intro _)<;>conv=>whnf)
  all_goals try (exfalso;omega)
  all_goals refine z24 (i+1) hi2 (by omega) (by refine swR [0,1,2,3,4,5,6] [] rfl rfl ?_;(repeat' first|exact y86 _|exact z10 _|apply y87|refine z60 rfl (z5 (fun _=>rfl)) ?_|refine z9 rfl (z5 (fun _=>rfl)) ?_|constructor)<;>((refine z57 ?_;exact e1)))
 obtain rfl:i=rows.length:=by omega
 rw [qE]
 clear qE qS q0
 repeat' ((first|apply y4 ok;rfl|apply y43;omega|((apply z8;omega));intro _|apply z6<;>intro _)<;>conv=>whnf)
 all_goals try (exfalso;omega)
 obtain ⟨S,hS⟩:∃ S:Nat→TS,S=fun k=>(List.range k).foldl (tTop rows) z372:=⟨_,rfl⟩
 have hTT:∀ k,k≤rows.length→TT rows (S k) k:=fun k hk=>by rw [hS];exact z651 hr k hk
 have hS0:S 0=z372:=by rw [hS];rfl
 have hSs:∀ k,S (k+1)=tTop rows (S k) k:=fun k=>by
  rw [hS];show (List.range (k+1)).foldl _ _=_
  rw [y62,y63];rfl
 have hSE:S rows.length=tAll rows:=by rw [hS];rfl
 clear hS
 refine z64 (fun k:Nat=>([(1,.ptr 6 none 0),(4,.ptr 1 none 0),(6,.ptr 8 none 0),(11,.ptr 7 none 0),(36,.int rows.length),(37,.int k)],z1160 rows (S k))) (fun k=>k≤rows.length) (fun k=>rows.length - k) 0 (y53 _) (by refine swR [8,4,1,5,2,7,0,10,6,3,9] [] rfl rfl ?_;(repeat' first|exact y86 _|apply y87|refine z9 rfl (z5 (fun _=>rfl)) ?_|constructor)<;>(first|rw [hS0];exact y86 _|rw [hS0];exact z10 _|rw [hS0];exact z393)) ?_
 intro k hk
 have hT:=hTT k hk
 have hTn:∀ h:k < rows.length,TT rows (S (k+1)) (k+1):=fun h=>hTT (k+1) h
 by_cases hk2:k < rows.length
 ·have hs2:=hSs k
  generalize hS1:S k=s1 at *
  generalize hS2:S (k+1)=s2 at *
  have g1:=z190 s1.num hk2
  have l1:=z140 rows.length s1.num
  unfold tTop at hs2
  by_cases h0:s1.num k=0
  ·rw [if_pos h0] at hs2
   have cV:=z1002 rows hr hN hrl rows.length s1 [] k (by have:=hT.inv.ct;omega) hT.inv h0 hk2 (by simp) hT.prt
   rw [← hs2] at cV
   repeat' ((first|apply y4 ok;rfl|refine z13 (i:=k) rfl g1 ?_|(apply y43;first|omega|unfold inI;omega)|apply z6<;>intro _|apply z124 [0,1,2,3,4,5,6,7,8,9,10] [] cV;rfl;(focus ((repeat' first|exact z38|apply z48)<;>first|rfl|refine z65 rfl ?_;((exact z5 fun _=>rfl))));rfl;(focus ((repeat' first|exact z17|apply z16)<;>first|exact z47 rfl rfl|refine z20 ?_;((exact z5 fun _=>rfl)))))<;>conv=>whnf)
   all_goals try (exfalso;omega)
   all_goals refine z24 (k+1) hk2 (by omega) ?_
   all_goals dsimp only
   all_goals rw [hS2]
   all_goals exact (by refine swR [0,1,2,3,4,5,6,7,8,9,10] [] rfl rfl ?_;(repeat' first|exact y86 _|exact z10 _|apply y87|refine z9 rfl (z5 (fun _=>rfl)) ?_|constructor))
  ·rw [if_neg h0] at hs2
   repeat' ((first|apply y4 ok;rfl|refine z13 (i:=k) rfl g1 ?_|(apply y43;first|omega|unfold inI;omega)|apply z6<;>intro _)<;>conv=>whnf)
   all_goals try (exfalso;omega)
   all_goals refine z24 (k+1) hk2 (by omega) ?_
   all_goals dsimp only
   all_goals rw [hS2,hs2]
   all_goals exact (by refine swR [0,1,2,3,4,5,6,7,8,9,10] [] rfl rfl ?_;(repeat' first|exact y86 _|exact z10 _|apply y87|refine z9 rfl (z5 (fun _=>rfl)) ?_|constructor))
 obtain rfl:k=rows.length:=by omega
 rw [hSE]
 clear hTT hS0 hSs hSE hTn hT
 have hcmp:cmpL rows=(List.range rows.length).map fun i=>nmI (fnL rows.length (tAll rows).part) i:=rfl
 obtain ⟨P,hP⟩:∃ P,P=fnL rows.length (tAll rows).part:=⟨_,rfl⟩
 rw [← hP] at hcmp
 have hPl:P.length=rows.length:=by rw [hP,z140]
 generalize tAll rows=s0 at *
 obtain ⟨pm,hpm⟩:∃ pm:Nat→Nat→Int,pm=fun i j=>if j < i then nmI P j else s0.part j:=⟨_,rfl⟩
 have q0:pm 0=s0.part:=by rw [hpm];funext j;simp
 have qE:fnL rows.length (pm rows.length)=cmpL rows:=by
  rw [hcmp]
  exact z794 fun i hi=>by rw [hpm];dsimp only;rw [if_pos hi]
 have qA:∀ i (h:i < rows.length),pm i i=P[i]'(by omega):=fun i h=>by
  rw [hpm];dsimp only;rw [if_neg (by omega)]
  simp only [hP,z901]
 have qS:∀ i,pm (i+1)=upd (pm i) i (nmI P i):=fun i=>by
  funext j
  by_cases h:j=i
  ·subst h;rw [z36,hpm];dsimp only;rw [if_pos (by omega)]
  ·rw [z56 _ _ h,hpm];dsimp only;split<;>split<;>first|rfl|omega
 clear hpm hcmp
 repeat' ((first|apply y4 ok;rfl|apply y43;omega|((apply z8;omega));intro _|apply z6<;>intro _)<;>conv=>whnf)
 all_goals try (exfalso;omega)
 refine z64 (fun i:Nat=>([(6,.ptr 1 none 0),(13,.mref 0),(50,.sref 2 0 rows.length),(51,.int rows.length),(52,.int i)],[.mp 0 (z248 0 (metL P i)),.cells 1 [[.sref 2 0 rows.length]],.cells 1 ((fnL rows.length (pm i)).map enI)])) (fun i=>i≤rows.length) (fun i=>rows.length - i) 0 (y53 _) (by refine swR [11,8,9] [] rfl rfl ?_;(repeat' first|exact y86 _|apply y87|refine z9 rfl (z5 (fun _=>rfl)) ?_|constructor)<;>(first|rw [q0];exact z10 _|rfl)) ?_
 intro i hi
 by_cases hi2:i < rows.length
 ·have g1:=z190 (pm i) hi2
  have l1:=z140 rows.length (pm i)
  have e1:=z175 (N:=rows.length) (u:=i) (pm i) (nmI P i)
  rw [← qS] at e1
  rw [qA i hi2] at g1
  have hiP:i < P.length:=by omega
  have m1:=z535 P[i] 0 (metL P i)
  have m2:=z535 P[i] 0 (metL P (i+1))
  rw [if_pos (z673 hiP),Nat.zero_add,← nmI_at hiP] at m2
  have m3:=z395 hiP
  have m4:=z551 0 (metL P i)
  by_cases hp:P[i]∈metL P i
  ·rw [if_pos hp] at m1
   have m5:metL P (i+1)=metL P i:=by rw [m3];unfold z165;rw [if_pos hp]
   rw [m5] at m2
   generalize hes:z248 0 (metL P i)=es at *
   generalize hes2:z248 0 (metL P (i+1))=es2 at *
   have m6:es2=es:=by rw [← hes2,m5,hes]
   generalize nmI P i=nm at *
   generalize P[i]=p at *
   repeat' ((first|apply y4 ok;rfl|refine z13 (i:=i) rfl g1 ?_|rw [m2]|(apply y43;first|omega|unfold inI;omega)|apply z6<;>intro _)<;>conv=>whnf)
   all_goals try (exfalso;omega)
   all_goals refine z24 (i+1) hi2 (by omega) ?_
   all_goals dsimp only
   all_goals rw [hes2,m6]
   all_goals exact (by refine swR [0,1,2] [] rfl rfl ?_;(repeat' first|exact y86 _|apply y87|refine z60 rfl (z5 (fun _=>rfl)) ?_|constructor)<;>(first|refine z57 ?_;exact e1|rfl))
  ·rw [if_neg hp] at m1
   have m5:metL P (i+1)=metL P i++[P[i]]:=by rw [m3];unfold z165;rw [if_neg hp]
   have m6:mput (z248 0 (metL P i)) [P[i]] (z248 0 (metL P i)).length=z248 0 (metL P (i+1)):=by
    rw [z766 _ _ _ hp,m5,z801,z551,Nat.zero_add]
   generalize hes:z248 0 (metL P i)=es at *
   generalize hes2:z248 0 (metL P (i+1))=es2 at *
   generalize nmI P i=nm at *
   generalize P[i]=p at *
   repeat' ((first|apply y4 ok;rfl|refine z13 (i:=i) rfl g1 ?_|rw [m6]|rw [m2]|rw [m1]|(apply y43;first|omega|unfold inI;omega)|apply z6<;>intro _)<;>conv=>whnf)
   all_goals try (exfalso;omega)
   all_goals refine z24 (i+1) hi2 (by omega) ?_
   all_goals dsimp only
   all_goals rw [hes2]
   all_goals exact (by refine swR [0,1,2] [] rfl rfl ?_;(repeat' first|exact y86 _|apply y87|refine z60 rfl (z5 (fun _=>rfl)) ?_|constructor)<;>(first|refine z57 ?_;exact e1|rfl))
 obtain rfl:i=rows.length:=by omega
 rw [qE]
 repeat' ((first|apply y4 ok;rfl|apply y43;omega|((apply z8;omega));intro _|(first|apply z6|apply z78)<;>intro _)<;>conv=>whnf)
 all_goals try (exfalso;omega)
 all_goals (refine rsD [2] [] rfl ?_;(repeat' first|exact y86 _|exact z10 _|refine z9 rfl (z5 (fun _=>rfl)) ?_|constructor))
def fnB (N:Nat) (f:Nat→Bool):List Bool:=(List.range N).map f
theorem z1212 (N:Nat) (f:Nat→Bool):(fnB N f).length=N:=by simp [fnB]
theorem z1213 {N u:Nat} (f:Nat→Bool) (h:u < N):((fnB N f).map enB)[u]?=some (enB (f u)):=by
 unfold fnB
 rw [y51,y51,List.getElem?_range h];rfl
theorem z976 {N u:Nat} (f:Nat→Bool) (x:Bool):((fnB N f).map enB).set u (enB x)=(fnB N (upd f u x)).map enB:=by
 rw [← List.map_set]
 congr 1
 apply y75 (by simp [fnB])
 intro i h1 h2
 rw [List.getElem_set]
 simp only [fnB,List.getElem_map,List.getElem_range]
 split
 ·rename_i e;subst e;rw [z36]
 ·rename_i e;rw [z56 _ _ (fun h=>e h.symm)]
theorem z975 (N:Nat):List.replicate N [AC.bool false]=(fnB N fun _=>false).map enB:=by
 apply y75 (by simp [fnB])
 intro i h1 h2
 simp [fnB,enB]
set_option maxHeartbeats 12800000 in
theorem z1067 (rows:List (List Int)) (hr:∀ r∈rows,InN rows.length r) (hN:rows.length≤100000) (hrl:∀ r∈rows,r.length≤1000000000):QQ 175 [lst 1 encL rows] [] (.sref 0 0 rows.length) [.cells 1 ((cycB rows).map enB)]:=by
 have cC:=z592 rows hr hN hrl
 have hPl:=z411 rows
 have hPi:=z1233 (rows:=rows)
 have hcy:=fun x hx=>cyc_cnt hr (x:=x) hx
 have hcl:=fun x (hx:x < rows.length)=>z911 hx
 have ccB:cycB rows=fnB rows.length (cycD rows):=rfl
 rw [ccB]
 generalize cmpL rows=P at *
 refine z7 z15 func175 rfl rfl 56 ntmps175 (by simp) ?_
 repeat' ((first|apply y4 ok;rfl|apply y43;(dsimp only;omega)|apply z11 [] [0] cC;rfl;rfl;rfl;(focus ((repeat' first|exact z17|apply z16)<;>(refine z20 ?_;((exact z5 fun _=>rfl))))))<;>conv=>whnf)
 obtain ⟨cm,hcm⟩:∃ cm:Nat→Nat→Int,cm=fun i v=>((cntL P i v:Nat):Int):=⟨_,rfl⟩
 have c0:cm 0=fun _=>0:=by rw [hcm];funext v;simp [cntL]
 have cS:∀ i (h:i < P.length),cm (i+1)=upd (cm i) (P[i]).toNat (cm i (P[i]).toNat+1):=fun i h=>by
  have hp:=hPi _ (y44 h)
  funext v
  rw [hcm]
  dsimp only
  rw [z809 h]
  by_cases e:v=(P[i]).toNat
  ·rw [e,z36,if_pos (by omega)];omega
  ·rw [z56 _ _ e,if_neg (by omega)];omega
 have cE:∀ v,cm rows.length v=((cntL P rows.length v:Nat):Int):=fun v=>by rw [hcm]
 have cB:∀ i v,0≤cm i v∧cm i v≤i:=fun i v=>by rw [hcm];have:=cntL_le P i v;dsimp only;omega
 clear hcm
 refine z64 (fun i:Nat=>([(0,lst 1 encL rows),(3,.sref 0 0 rows.length),(4,.sref 1 0 rows.length),(14,.sref 0 0 rows.length),(15,.int rows.length),(16,.int i)],[.cells 1 (P.map enI),.cells 1 ((fnL rows.length (cm i)).map enI)])) (fun i=>i≤rows.length) (fun i=>rows.length - i) 0 (y53 _) (by refine swR [0,1] [] rfl rfl ?_;(repeat' first|exact y86 _|exact z10 _|(refine z9 rfl ?_ ?_);(focus ((repeat' (first|exact z54 rfl|exact z5 (fun _=>rfl)));done))|constructor)<;>((refine z57 ?_;rw [c0];exact z404 _))) ?_
 intro i hi
 by_cases hi2:i < rows.length
 ·have hiP:i < P.length:=by omega
  have hp:=hPi _ (y44 hiP)
  have gp:(P.map enI)[i]?=some (enI P[i]):=by rw [y51,y45 hiP];rfl
  have cS2:=cS i hiP
  generalize P[i]=p at *
  obtain ⟨v,rfl⟩:∃ v:Nat,p=v:=⟨p.toNat,by omega⟩
  rw [y77] at cS2
  have hv:v < rows.length:=by omega
  have gv:=z190 (cm i) hv
  have l1:=z140 rows.length (cm i)
  have e1:=z175 (N:=rows.length) (u:=v) (cm i) (cm i v+1)
  rw [← cS2] at e1
  have b1:=cB i v
  repeat' ((first|apply y4 ok;rfl|refine z13 (i:=i) rfl gp ?_|refine z13 (i:=v) rfl gv ?_|(apply y43;first|omega|unfold inI;omega)|apply z6<;>intro _)<;>conv=>whnf)
  all_goals try (exfalso;omega)
  all_goals refine z24 (i+1) hi2 (by omega) (by refine swR [0,1] [] rfl rfl ?_;(repeat' first|exact y86 _|exact z10 _|refine z60 rfl (z5 (fun _=>rfl)) ?_|refine z9 rfl (z5 (fun _=>rfl)) ?_|constructor)<;>((refine z57 ?_;exact e1)))
 obtain rfl:i=rows.length:=by omega
 repeat' ((first|apply y4 ok;rfl|(apply y43;first|omega|dsimp only;omega)|((apply z8;omega));intro _|apply z6<;>intro _)<;>conv=>whnf)
 all_goals try (exfalso;omega)
 obtain ⟨bm,hbm⟩:∃ bm:Nat→Nat→Bool,bm=fun i j=>if j < i then cycD rows j else false:=⟨_,rfl⟩
 have b0:bm 0=fun _=>false:=by rw [hbm];rfl
 have bE:fnB rows.length (bm rows.length)=fnB rows.length (cycD rows):=List.map_congr_left fun i hi=>by
  have:=List.mem_range.1 hi
  rw [hbm];dsimp only;rw [if_pos this]
 have bS:∀ i,bm (i+1)=upd (bm i) i (cycD rows i):=fun i=>by
  funext j
  by_cases h:j=i
  ·subst h;rw [z36,hbm];dsimp only;rw [if_pos (by omega)]
  ·rw [z56 _ _ h,hbm];dsimp only;split<;>split<;>first|rfl|omega
 clear hbm
 refine z64 (fun i:Nat=>([(0,lst 1 encL rows),(3,.sref 0 0 rows.length),(4,.sref 1 0 rows.length),(7,.sref 2 0 rows.length),(31,.int rows.length),(32,.int i)],[.cells 1 (P.map enI),.cells 1 ((fnL rows.length (cm rows.length)).map enI),.cells 1 ((fnB rows.length (bm i)).map enB)])) (fun i=>i≤rows.length) (fun i=>rows.length - i) 0 (y53 _) (by refine swR [0,1,2] [] rfl rfl ?_;(repeat' first|exact y86 _|exact z10 _|(refine z9 rfl ?_ ?_);(focus ((repeat' (first|exact z54 rfl|exact z5 (fun _=>rfl)));done))|constructor)<;>((refine z57 ?_;rw [b0];exact z975 _))) ?_
 intro i hi
 by_cases hi2:i < rows.length
 ·have hiP:i < P.length:=by omega
  have hp:=hPi _ (y44 hiP)
  have gp:(P.map enI)[i]?=some (enI P[i]):=by rw [y51,y45 hiP];rfl
  have hc:=hcy i hi2
  have e1:=z976 (N:=rows.length) (u:=i) (bm i) (cycD rows i)
  rw [← bS] at e1
  rw [z14 hiP] at hc
  generalize P[i]=p at *
  obtain ⟨v,rfl⟩:∃ v:Nat,p=v:=⟨p.toNat,by omega⟩
  rw [y77] at hc
  have hv:v < rows.length:=by omega
  have gv:=z190 (cm rows.length) hv
  have l1:=z140 rows.length (cm rows.length)
  have l2:=z1212 rows.length (bm i)
  have g2:=z1213 (bm i) hi2
  have gr:=z600 hi2
  have hrow:(rows.getD i []).length≤1000000000:=by rw [z14 hi2];exact hrl _ (y44 _)
  have cct:=z123 (rows.getD i []) (by unfold maxLen;omega) i
  rw [cE] at gv
  generalize cycD rows i=cy at *
  generalize rows.getD i []=row at *
  generalize cntL P rows.length v=cn at *
  by_cases h1:1 < cn
  ·rw [y82 h1,Bool.true_or] at hc
   subst hc
   repeat' ((first|apply y4 ok;rfl|refine z13 (i:=i) rfl gp ?_|refine z13 (i:=v) rfl gv ?_|refine z13 (i:=i) rfl g2 ?_|refine z13 (i:=i) rfl gr ?_|(apply y43;first|omega|unfold inI;omega)|apply z6<;>intro _|apply z4 cct;rfl;rfl)<;>conv=>whnf)
   all_goals try (exfalso;omega)
   all_goals refine z24 (i+1) hi2 (by omega) (by refine swR [0,1,2] [] rfl rfl ?_;(repeat' first|exact y86 _|exact z10 _|refine z60 rfl (z5 (fun _=>rfl)) ?_|refine z9 rfl (z5 (fun _=>rfl)) ?_|constructor)<;>((refine z57 ?_;exact e1)))
  ·rw [y83 h1,Bool.false_or] at hc
   rw [← hc] at cct
   repeat' ((first|apply y4 ok;rfl|refine z13 (i:=i) rfl gp ?_|refine z13 (i:=v) rfl gv ?_|refine z13 (i:=i) rfl g2 ?_|refine z13 (i:=i) rfl gr ?_|(apply y43;first|omega|unfold inI;omega)|apply z6<;>intro _|apply z4 cct;rfl;rfl)<;>conv=>whnf)
   all_goals try (exfalso;omega)
   all_goals refine z24 (i+1) hi2 (by omega) (by refine swR [0,1,2] [] rfl rfl ?_;(repeat' first|exact y86 _|exact z10 _|refine z60 rfl (z5 (fun _=>rfl)) ?_|refine z9 rfl (z5 (fun _=>rfl)) ?_|constructor)<;>((refine z57 ?_;exact e1)))
 obtain rfl:i=rows.length:=by omega
 rw [bE]
 repeat' ((first|apply y4 ok;rfl|apply y43;omega|(first|with_reducible apply z8;omega|apply z8;omega);intro _|apply z6<;>intro _)<;>conv=>whnf)
 all_goals try (exfalso;omega)
 all_goals (refine rsD [2] [] rfl ?_;(repeat' first|exact y86 _|exact z10 _|refine z9 rfl (z5 (fun _=>rfl)) ?_|constructor))
def inM (Q:List Int) (i:Nat):Bool:=decide ((i:Int)∈Q)
theorem inM_upd (Q:List Int) (w:Nat):inM (Q++[(w:Int)])=upd (inM Q) w true:=by
 funext j
 by_cases h:j=w
 ·subst h;rw [z36];unfold inM;simp
 ·rw [z56 _ _ h];unfold inM;congr 1
  have:¬ (j:Int)=w:=by omega
  simp [this]
theorem inM_nil:inM []=fun _=>false:=by funext j;simp [inM]
@[reducible] def findF:AC:=.fn (.func 154) [] [.ptr 0 none 0,.ptr 2 none 0]
@[reducible] def z1161 (N:Nat) (Q:List Int):List AObj:=[.cells 1 [[.sref 1 0 N]],.cells 1 ((fnB N (inM Q)).map enB),.cells 1 [[.own 1 (Q.map enI)]]]
set_option maxHeartbeats 3200000 in
theorem z795 (N : Nat) (hN : N ≤ 100000) (Q : List Int) (hQ : Q.length ≤ 100000) (v : Int) (hv : 0 ≤ v ∧ v < N) :
    QQ 154 [.int v,.ptr 0 none 0,.ptr 2 none 0] (z1161 N Q) (.tup []) (z1161 N (z165 Q v)):=by
  obtain ⟨w,rfl⟩:∃ w:Nat,v=w:=⟨v.toNat,by omega⟩
  have hw:w < N:=by omega
  have g1:=z1213 (inM Q) hw
  have l1:=z1212 N (inM Q)
  unfold z165
  by_cases h:(w:Int)∈Q
  · rw [if_pos h]
    have e:inM Q w=true:=by unfold inM;simp [h]
    rw [e] at g1
    refine z7 z15 func154 rfl rfl 16 ntmps154 (by simp) ?_
    repeat' ((first|apply y4 ok;rfl|refine z13 (i:=w) rfl g1 ?_|apply y43;omega)<;>conv=>whnf)
    all_goals (refine rsD [0,1,2] [] rfl ?_;(repeat' first|exact y86 _|exact z10 _|apply y87|refine z9 rfl (z5 (fun _=>rfl)) ?_|constructor))
  · rw [if_neg h]
    have e:inM Q w=false:=by unfold inM;simp [h]
    rw [e] at g1
    have e1:=z976 (N:=N) (u:=w) (inM Q) true
    rw [← inM_upd] at e1
    have e2:(List.map enI Q).take (List.map enI Q).length++[enI (w:Int)]=(Q++[(w:Int)]).map enI:=by
      rw [y56];simp
    refine z7 z15 func154 rfl rfl 16 ntmps154 (by simp) ?_
    repeat' ((first|(fail_if_success apply z96 2);(fail_if_success apply z77 2);apply y4 ok;rfl|refine z13 (i:=w) rfl g1 ?_|apply y43;omega)<;>conv=>whnf)
    all_goals
      refine y85 (Gl.Reach.expose 2 0 0 rfl rfl rfl (z155 (fun _=>rfl) _) rfl) ?_
      conv=>whnf
      repeat' ((first|apply y4 ok;rfl|(apply y43;first|(try dsimp only);simp only [y49,y48,y47,y46,y58,y59];omega|exact ⟨rfl,z22 rfl z28⟩))<;>conv=>whnf)
      refine Gl.RetS.absorb 2 5 0 0 rfl rfl rfl rfl (by simp) rfl (z67 (fun e he=>(z5 (fun _=>rfl)) e (List.mem_of_mem_take he)) (z210 rfl z25)) ?_
      conv=>whnf
      (refine rsD [0,1,2] [] rfl ?_;(repeat' first|exact y86 _|apply y87|refine z60 rfl (z5 (fun _=>rfl)) ?_|constructor))
      all_goals first|refine z57 ?_;exact e1|exact y9 (congrArg (AC.own 1) e2)
set_option maxHeartbeats 6400000 in
theorem z1156 (rows : List (List Int)) (ini : List Int) (hr : ∀ r ∈ rows, InN rows.length r) (hi : InN rows.length ini) (hN : rows.length ≤ 100000) (hrl : ∀ r ∈ rows, r.length ≤ 1000000000) (hil : ini.length ≤ 1000000000) :
    QQ 77 [lst 1 encL rows,ints ini] [] (.sref 0 0 (bfsL rows ini).length) [.cells 1 ((bfsL rows ini).map enI)]:=by
  have hvl:∀ l:List Int,InN rows.length l→(z83 [] l).length≤100000:=fun l hl=>by
    have:=z164 rows.length (z83 [] l) (z146 (by simp)) (z233 (fun x hx=>by cases hx) hl)
    omega
  refine z7 z15 func77 rfl rfl 50 ntmps77 (by simp) ?_
  repeat' ((first|apply y4 ok;rfl|apply y43;(dsimp only;omega))<;>conv=>whnf)
  refine z64 (fun i:Nat=>([(0,lst 1 encL rows),(6,.ptr 2 none 0),(7,findF),(17,ints ini),(18,.int ini.length),(19,.int i)],z1161 rows.length (z83 [] (ini.take i)))) (fun i=>i≤ini.length) (fun i=>ini.length - i) 0 (y53 _) (by refine swR [1,0,2] [] rfl rfl ?_;(repeat' first|exact y86 _|apply y87|refine z9 rfl (z54 rfl) ?_|constructor)<;>(first|exact z393|refine z57 ?_;show _=(fnB rows.length (inM [])).map enB;rw [inM_nil];exact z975 _)) ?_
  intro i hil1
  by_cases hil2:i < ini.length
  · have gk:(ini.map enI)[i]?=some (enI ini[i]):=by rw [y51,y45 hil2];rfl
    have hv:=hi _ (y44 hil2)
    have hQl:=hvl (ini.take i) fun x hx=>hi x (List.mem_of_mem_take hx)
    have e1:=z255 (out:=[]) hil2
    generalize ini[i]=v at *
    have cf:=z795 rows.length hN (z83 [] (ini.take i)) hQl v hv
    rw [← e1] at cf
    repeat' ((first|apply y4 ok;rfl|refine z13 (i:=i) rfl gk ?_|(apply y43;first|omega|unfold inI;omega)|apply z6<;>intro _|apply z124 [0,1,2] [] cf;rfl;(focus ((repeat' first|exact z38|apply z48)<;>first|rfl|refine z65 rfl ?_;((exact z5 fun _=>rfl))));rfl;(focus ((repeat' first|exact z17|apply z16)<;>first|exact z47 rfl rfl|refine z20 ?_;((exact z5 fun _=>rfl)))))<;>conv=>whnf)
    all_goals try (exfalso;omega)
    all_goals refine z24 (i+1) hil2 (by omega) (by refine swR [0,1,2] [] rfl rfl ?_;(repeat' first|exact y86 _|exact z10 _|apply y87|refine z9 rfl (z5 (fun _=>rfl)) ?_|constructor))
  obtain rfl:i=ini.length:=by omega
  rw [y56]
  repeat' ((first|apply y4 ok;rfl|apply y43;omega|((with_reducible apply z8;omega));intro _|apply z6<;>intro _)<;>conv=>whnf)
  all_goals try (exfalso;omega)
  refine z64 (fun i:Nat=>([(0,lst 1 encL rows),(6,.ptr 2 none 0),(7,findF),(10,.int i)],z1161 rows.length (bfs rows ini i))) (fun i=>i≤rows.length) (fun i=>rows.length - i) 0 (y53 _) (by refine swR [0,1,2] [] rfl rfl ?_;(repeat' first|exact y86 _|exact z10 _|apply y87|refine z9 rfl (z5 (fun _=>rfl)) ?_|constructor)) ?_
  intro i hi1
  have hQl:=z442 hr hi i
  have hQi:=z457 hr hi i
  refine y85 (Gl.Reach.expose 2 0 0 rfl rfl rfl (z155 (fun _=>rfl) _) rfl) ?_
  by_cases hi2:i < (bfs rows ini i).length
  · have hx:=hQi _ (y44 hi2)
    have gx:((bfs rows ini i).map enI)[i]?=some (enI (bfs rows ini i)[i]):=by rw [y51,y45 hi2];rfl
    have hnx:bfs rows ini (i+1)=z83 (bfs rows ini i) (rows.getD ((bfs rows ini i)[i]).toNat []):=by rw [bfs,dif_pos hi2]
    have hnd:=z562 (rows:=rows) (ini:=ini) i
    generalize hQ' : bfs rows ini (i+1)=Q' at *
    generalize (bfs rows ini i)[i]=x at *
    generalize hQ:bfs rows ini i=Q at *
    obtain ⟨u,rfl⟩:∃ u:Nat,x=u:=⟨x.toNat,by omega⟩
    rw [y77] at hnx
    have hu:u < rows.length:=by omega
    have gr:=z600 hu
    have hrow:=z238 hr (u:Int)
    rw [y77] at hrow
    have hrowl:(rows.getD u []).length≤1000000000:=by rw [z14 hu];exact hrl _ (y44 _)
    generalize rows.getD u []=row at *
    repeat' ((first|apply y4 ok;rfl|refine z13 (i:=i) rfl gx ?_|refine z13 (i:=u) rfl gr ?_|apply y43;omega|apply z6<;>intro _)<;>conv=>whnf)
    all_goals first|(exfalso;simp at *;omega)|skip
    all_goals
      refine y85 (Gl.Reach.absorb 2 3 0 0 rfl rfl rfl rfl (by simp) rfl (z5 fun _=>rfl) rfl) ?_
      refine z64 (fun j:Nat=>([(0,lst 1 encL rows),(6,.ptr 2 none 0),(7,findF),(10,.int i),(39,ints row),(40,.int row.length),(41,.int j)],z1161 rows.length (z83 Q (row.take j)))) (fun j=>j≤row.length) (fun j=>row.length - j) 0 (y53 _) (by refine swR [0,1,2] [] rfl rfl ?_;(repeat' first|exact y86 _|exact z10 _|apply y87|refine z9 rfl (z5 (fun _=>rfl)) ?_|constructor)) ?_
      intro j hj
      by_cases hj2:j < row.length
      · have gj:(row.map enI)[j]?=some (enI row[j]):=by rw [y51,y45 hj2];rfl
        have hv:=hrow _ (y44 hj2)
        have hWl:(z83 Q (row.take j)).length≤100000:=by
          have:=z164 rows.length (z83 Q (row.take j)) (z146 hnd) (z233 hQi fun x hx=>hrow x (List.mem_of_mem_take hx))
          omega
        have e1:=z255 (out:=Q) hj2
        generalize row[j]=v at *
        have cf:=z795 rows.length hN (z83 Q (row.take j)) hWl v hv
        rw [← e1] at cf
        repeat' ((first|apply y4 ok;rfl|refine z13 (i:=j) rfl gj ?_|(apply y43;first|omega|unfold inI;omega)|apply z6<;>intro _|apply z124 [0,1,2] [] cf;rfl;(focus ((repeat' first|exact z38|apply z48)<;>first|rfl|refine z65 rfl ?_;((exact z5 fun _=>rfl))));rfl;(focus ((repeat' first|exact z17|apply z16)<;>first|exact z47 rfl rfl|refine z20 ?_;((exact z5 fun _=>rfl)))))<;>conv=>whnf)
        all_goals try (exfalso;omega)
        all_goals refine z24 (j+1) hj2 (by omega) (by refine swR [0,1,2] [] rfl rfl ?_;(repeat' first|exact y86 _|exact z10 _|apply y87|refine z9 rfl (z5 (fun _=>rfl)) ?_|constructor))
      obtain rfl:j=row.length:=by omega
      rw [y56,← hnx]
      repeat' ((first|apply y4 ok;rfl|(apply y43;first|omega|unfold inI;omega)|((with_reducible apply z8;omega));intro _|apply z6<;>intro _)<;>conv=>whnf)
      all_goals try (exfalso;omega)
      all_goals refine z24 (i+1) (by omega) (by omega) ?_
      all_goals dsimp only
      all_goals rw [hQ']
      all_goals exact (by refine swR [0,1,2] [] rfl rfl ?_;(repeat' first|exact y86 _|exact z10 _|apply y87|refine z9 rfl (z5 (fun _=>rfl)) ?_|constructor))
  · have hE:=z991 hr hi (i:=i) (by omega) hi1
    rw [← hE]
    repeat' ((first|apply y4 ok;rfl|apply y43;omega|apply z6<;>intro _)<;>conv=>whnf)
    all_goals first|(exfalso;simp at *;omega)|skip
    all_goals (refine rsD [3] [] rfl ?_;(repeat' first|exact z10 _|refine z50 ?_;((simp;done))|refine z9 rfl (z5 (fun _=>rfl)) ?_|constructor))
theorem swp_map (l:List Int) (i j:Nat):((l.map enI).set i (enI (l.getD j 0))).set j (enI (l.getD i 0))=(swp l i j).map enI:=by
 unfold swp;rw [List.map_set,List.map_set]
set_option maxHeartbeats 1600000 in
theorem z1021 (l:List Int) (h1:1≤l.length) (h2:l.length≤1048576):QQ 246 [.sref 0 0 l.length] [.cells 1 (l.map enI)] (.tup []) [.cells 1 ((rvs l).map enI)]:=by
 have hR:revG l.length 0 (l.length - 1) l=rvs l:=rfl
 generalize rvs l=R at *
 generalize hn:l.length=n at *
 refine z7 z15 func246 rfl rfl 28 ntmps246 (by simp) ?_
 repeat' ((first|apply y4 ok;rfl|apply y43;(unfold inI;omega))<;>conv=>whnf)
 refine z64 (fun x:Nat×Nat×List Int=>([(0,.sref 0 0 n),(2,.int x.1),(3,.int x.2.1)],[.cells 1 (x.2.2.map enI)])) (fun x=>x.1≤n∧x.2.1 < n∧x.2.2.length=n∧revG (n - x.1) x.1 x.2.1 x.2.2=R) (fun x=>n - x.1) (0,n - 1,l) ⟨by simp,by show n - 1 < n;omega,hn,hR⟩ (by refine swR [0] [] rfl rfl ?_;(repeat' first|exact y86 _|exact z10 _|refine z9 rfl (z5 (fun _=>rfl)) ?_|constructor)<;>((rw [show ((n - 1:Nat):Int)=(n:Int) - 1 by omega];exact y86 _))) ?_
 rintro ⟨i,j,l'⟩ ⟨i1,i2,i3,i4⟩
 dsimp only at i1 i2 i3 i4 ⊢
 by_cases hij:i < j
 ·rw [show n - i=(n - (i+1))+1 by omega,revG,if_pos hij] at i4
  have gi:(l'.map enI)[i]?=some (enI (l'.getD i 0)):=by rw [y51,y45 (by omega),z14 (by omega)];rfl
  have gj:(l'.map enI)[j]?=some (enI (l'.getD j 0)):=by rw [y51,y45 (by omega),z14 (by omega)];rfl
  have gj2:((l'.map enI).set i (enI (l'.getD j 0)))[j]?=some (enI (l'.getD j 0)):=by rw [List.getElem?_set_ne (by omega)];exact gj
  have es:=swp_map l' i j
  repeat' ((first|apply y4 ok;rfl|apply z23;kernel_rfl|refine z13 (i:=i) rfl gi ?_|refine z13 (i:=j) rfl gj ?_|refine z13 (i:=j) rfl gj2 ?_|(apply y43;first|omega|unfold inI;omega)|apply z6<;>intro _)<;>conv=>whnf)
  all_goals try (exfalso;omega)
  all_goals refine z24 (i+1,j - 1,swp l' i j) ⟨by show i+1≤n;omega,by show j - 1 < n;omega,by show (swp l' i j).length=n;simp [swp,i3],i4⟩ (by show n - (i+1) < n - i;omega) (by refine swR [0] [] rfl rfl ?_;(repeat' first|exact y86 _|(refine z60 rfl ?_ ?_);(focus ((repeat' (first|exact z5 (fun _=>rfl)|refine z1215 ?_ _ rfl));done))|constructor)<;>(first|rw [show ((j - 1:Nat):Int)=(j:Int) - 1 by omega];exact y86 _|exact z57 es))
 ·have:revG (n - i) i j l'=l':=by cases n - i<;>simp [revG,hij]
  rw [this] at i4
  subst i4
  repeat' ((first|apply y4 ok;rfl|apply y43;omega|((apply z8;omega));intro _|apply z6<;>intro _)<;>conv=>whnf)
  all_goals try (exfalso;omega)
  all_goals (refine rsD [0] [] rfl ?_;(repeat' first|exact y86 _|exact z10 _|refine z9 rfl (z5 (fun _=>rfl)) ?_|constructor))
theorem z899 {N w:Nat} (Q P:List Int) (hw:w < N):((frm N Q P).map enI)[w]?=some (enI (if (w:Int)∈Q then P.getD w 0 else -2)):=by
 unfold frm
 rw [y51,y51,List.getElem?_range hw];rfl
theorem z973 {N w:Nat} {Q P:List Int} {u:Int} (hw:w < N) (hP:P.length=N):((frm N Q P).map enI).set w (enI u)=(frm N (Q++[(w:Int)]) (P.set w u)).map enI:=by
 have:=frm_set (N:=N) (Q:=Q) (P:=P) (v:=(w:Int)) (u:=u) ⟨by omega,by omega⟩ hP
 rw [y77] at this
 rw [← this,List.map_set]
@[reducible] def capB (b:Bool) (c1 c2:List AC):List AC:=match b with
 |true=>[.pt c1,.pt c2]
 |false=>[.pt c1]
set_option maxHeartbeats 25600000 in
theorem z378 (b : Bool) (rows : List (List Int)) (ini : List Int) (hr : ∀ r ∈ rows, InN rows.length r) (hi : InN rows.length ini) (hn : ini.Nodup) (hN : rows.length ≤ 100000) (hrl : ∀ r ∈ rows, r.length ≤ 1000000000) (G : Int → Bool) (f : FuncId) (c1 c2 : List AC) (hf : ∀ x : Int, 0 ≤ x → x < rows.length → QQ f (.int x :: (capB b c1 c2)) [] (.bool (G x)) []) :
    QQ 176 [lst 1 encL rows,ints ini,.fn (.func f) [] (capB b c1 c2)] [] (.sref 0 0 (shL rows ini G).length) [.cells 1 ((shL rows ini G).map enI)]:=by
  cases b
  case' true=>let caps:List AC:=[.pt c1,.pt c2]
  case' false=>let caps:List AC:=[.pt c1]
  all_goals
    have hil:ini.length≤100000:=by have:=z164 rows.length ini hn hi;omega
    refine z7 z15 func176 rfl rfl 99 ntmps176 (by simp) ?_
    repeat' ((first|apply y4 ok;rfl|apply y43;(dsimp only;omega))<;>conv=>whnf)
    obtain ⟨qm,hqm⟩:∃ qm:Nat→Nat→Int,qm=fun i j=>if j < i then -2 else 0:=⟨_,rfl⟩
    have q0:qm 0=fun _=>0:=by rw [hqm];rfl
    have qE:(fnL rows.length (qm rows.length)).map enI=(frm rows.length [] (List.replicate rows.length (-1))).map enI:=by
      rw [frm_nil]
      congr 1
      apply y75 (by simp [fnL])
      intro i h1 h2
      rw [z901,hqm]
      have hi' : i < rows.length:=by rw [z140] at h1;exact h1
      dsimp only
      rw [if_pos hi'];simp
    have qS:∀ i,qm (i+1)=upd (qm i) i (-2):=fun i=>by
      funext j
      by_cases h:j=i
      · subst h;rw [z36,hqm];dsimp only;rw [if_pos (by omega)]
      · rw [z56 _ _ h,hqm];dsimp only;split<;>split<;>first|rfl|omega
    clear hqm
    refine z64 (fun i:Nat=>([(0,lst 1 encL rows),(1,ints ini),(2,.fn (.func f) [] caps),(7,.sref 0 0 rows.length),(21,.int rows.length),(22,.int i)],[.cells 1 ((fnL rows.length (qm i)).map enI)])) (fun i=>i≤rows.length) (fun i=>rows.length - i) 0 (y53 _) (by refine swR [0] [] rfl rfl ?_;(repeat' first|exact y86 _|refine z9 rfl (z54 rfl) ?_|constructor)<;>((refine z57 ?_;rw [q0];exact z404 _))) ?_
    intro i hi1
    by_cases hi2:i < rows.length
    · have g1:=z190 (qm i) hi2
      have l1:=z140 rows.length (qm i)
      have e1:=z175 (N:=rows.length) (u:=i) (qm i) (-2)
      rw [← qS] at e1
      repeat' ((first|apply y4 ok;rfl|refine z13 (i:=i) rfl g1 ?_|(apply y43;first|omega|unfold inI;omega)|apply z6<;>intro _)<;>conv=>whnf)
      all_goals try (exfalso;omega)
      all_goals refine z24 (i+1) hi2 (by omega) (by refine swR [0] [] rfl rfl ?_;(repeat' first|exact y86 _|refine z60 rfl (z5 (fun _=>rfl)) ?_|constructor)<;>((refine z57 ?_;exact e1)))
    obtain rfl:i=rows.length:=by omega
    rw [qE]
    clear qE qS q0
    repeat' ((first|apply y4 ok;rfl|apply y43;omega|((apply z8;omega));intro _|apply z6<;>intro _)<;>conv=>whnf)
    all_goals try (exfalso;omega)
    refine y85 (y88 1 rfl) ?_
    have hrep:(List.replicate rows.length (-1:Int)).length=rows.length:=by simp
    have hrs:∀ w,(List.replicate rows.length (-1:Int)).set w (-1)=List.replicate rows.length (-1):=fun w=>by
      apply y75 (by simp)
      intro i h1 h2
      rw [List.getElem_set]
      split<;>simp
    have hS0:(frm rows.length ini (List.replicate rows.length (-1)))=frm rows.length (srS rows ini 0).1 (srS rows ini 0).2:=rfl
    generalize List.replicate rows.length (-1:Int)=P0 at *
    refine z64 (fun k:Nat=>([(0,lst 1 encL rows),(2,.fn (.func f) [] caps),(7,.sref 0 0 rows.length),(9,.sref 1 0 (ini.take k).length),(29,ints ini),(30,.int ini.length),(31,.int k)],[.cells 1 ((frm rows.length (ini.take k) P0).map enI),.cells 1 ((ini.take k).map enI)])) (fun k=>k≤ini.length) (fun k=>ini.length - k) 0 (y53 _) (by refine swR [0,1] [] rfl rfl ?_;(repeat' first|exact y86 _|exact z49|exact z10 _|(refine z9 rfl ?_ ?_);(focus ((repeat' (first|exact z25|exact z5 (fun _=>rfl)));done))|constructor)) ?_
    intro k hk
    by_cases hk2:k < ini.length
    · have gk:(ini.map enI)[k]?=some (enI ini[k]):=by rw [y51,y45 hk2];rfl
      have hv:=hi _ (y44 hk2)
      have et:ini.take (k+1)=ini.take k++[ini[k]]:=y50 hk2
      have htl:(ini.take k).length≤100000:=by rw [y48];omega
      generalize hQ' : ini.take (k+1)=Q' at *
      generalize hQ:ini.take k=Q at *
      generalize ini[k]=v at *
      obtain ⟨w,rfl⟩:∃ w:Nat,v=w:=⟨v.toNat,by omega⟩
      have hw:w < rows.length:=by omega
      have g1:=z899 Q P0 hw
      have l1:=z898 rows.length Q P0
      have e1:=z973 (Q:=Q) (u:=-1) hw hrep
      rw [hrs,← et] at e1
      subst et
      repeat' ((first|apply y4 ok;rfl|refine z13 (i:=k) rfl gk ?_|refine z13 (i:=w) rfl g1 ?_|(apply y43;first|omega|unfold inI;omega|(try dsimp only);simp only [y49,y48,y47,y46,y58,y59];omega|exact ⟨rfl,z22 rfl z28⟩)|apply z6<;>intro _)<;>conv=>whnf)
      all_goals try (exfalso;omega)
      all_goals refine z24 (k+1) hk2 (by omega) ?_
      all_goals dsimp only
      all_goals rw [hQ']
      all_goals exact (by refine swR [0,3] [] rfl rfl ?_;(repeat' first|exact y86 _|refine z50 ?_;((simp;done))|(first|refine z39 rfl ?_ ?_|refine z60 rfl ?_ ?_);(focus ((repeat' (first|exact z5 (fun _=>rfl)|apply z26));done))|refine z86 ?_ ?_;(focus omega)|constructor)<;>((refine z57 ?_;exact e1)))
    obtain rfl:k=ini.length:=by omega
    rw [y56,hS0]
    repeat' ((first|apply y4 ok;rfl|apply y43;omega|(first|with_reducible apply z8;omega|apply z8;omega);intro _|apply z6<;>intro _)<;>conv=>whnf)
    all_goals try (exfalso;omega)
    refine z64 (fun i:Nat=>([(0,lst 1 encL rows),(2,.fn (.func f) [] caps),(7,.sref 0 0 rows.length),(9,.sref 1 0 (srS rows ini i).1.length),(12,.int i)],[.cells 1 ((frm rows.length (srS rows ini i).1 (srS rows ini i).2).map enI),.cells 1 ((srS rows ini i).1.map enI)])) (fun i=>i≤rows.length∧∀ k (_:k < i) (h:k < (srS rows ini i).1.length),G ((srS rows ini i).1[k])=false) (fun i=>rows.length+1 - i) 0 ⟨y53 _,fun k h=>by omega⟩ (by refine swR [0,1] [] rfl rfl ?_;(repeat' first|exact y86 _|exact z10 _|refine z9 rfl (z5 (fun _=>rfl)) ?_|constructor)<;>(fail)) ?_
    rintro i ⟨hi1,hno⟩
    have hJ:=z375 hr hi hn i
    have hQl:=z849 hr hi hn i
    by_cases hi2:i < (srS rows ini i).1.length
    · have hx:=hJ.inn _ (y44 hi2)
      have cf:=hf _ hx.1 hx.2
      have gx:((srS rows ini i).1.map enI)[i]?=some (enI (srS rows ini i).1[i]):=by rw [y51,y45 hi2];rfl
      have hnx:srS rows ini (i+1)=visPs (srS rows ini i).1[i] (srS rows ini i) (rows.getD ((srS rows ini i).1[i]).toNat []):=by rw [srS,dif_pos hi2]
      have hfnd:=fun h=>z1131 hr hi hn (G:=G) hi2 h (fun k hk=>hno k hk (by omega))
      have hpre:=z495 (srS rows ini i).1[i] (rows.getD ((srS rows ini i).1[i]).toNat []) (srS rows ini i)
      by_cases hG:G (srS rows ini i).1[i]=true
      · rw [hfnd hG,z1242,y65]
        have hq0:∃ k,∃ h:k < (srS rows ini i).1.length,(srS rows ini i).1[k]=(srS rows ini i).1[i]∧k≤rows.length:=⟨i,hi2,rfl,hi1⟩
        rw [hG] at cf
        clear hfnd hnx hpre hno
        generalize hS:srS rows ini i=S at *
        obtain ⟨Q,P⟩:=S
        dsimp only at *
        have hi4:i < Q.length:=hi2
        generalize Q[i]=x at *
        repeat' ((first|apply y4 ok;rfl|refine z13 (i:=i) rfl gx ?_|apply y43;omega|apply z6<;>intro _|apply z4 cf;rfl;rfl)<;>conv=>whnf)
        all_goals try (exfalso;omega)
        all_goals
          refine y85 (y88 1 rfl) ?_
          have hB1:=chn_pos P rows.length x
          generalize hB:chn P rows.length x=B at *
          refine z64 (fun y:Nat×List Int×Int=>([(7,.sref 0 0 rows.length),(13,.int y.2.2),(14,.sref 1 0 y.2.1.length)],[.cells 1 ((frm rows.length Q P).map enI),.cells 1 (y.2.1.map enI)])) (fun y=>y.2.1.length+y.1≤rows.length+1∧((0≤y.2.2∧y.2.1++chn P (y.1 - 1) y.2.2=B∧1≤y.1∧∃ k,∃ h:k < Q.length,Q[k]=y.2.2∧k+1≤y.1)∨(y.2.2=-1∧y.2.1=B))) (fun y=>y.1+(if 0≤y.2.2 then 1 else 0)) (rows.length+1,[],x) ⟨by simp,.inl ⟨hx.1,by simpa using hB,by omega,by obtain ⟨k,h,h1,h2⟩:=hq0;exact ⟨k,h,h1,by omega⟩⟩⟩ (by refine swR [0,2] [] rfl rfl ?_;(repeat' first|exact y86 _|exact z49|exact z10 _|(refine z9 rfl ?_ ?_);(focus ((repeat' (first|exact z25|exact z5 (fun _=>rfl)));done))|constructor)) ?_
          rintro ⟨fu,ac,u⟩ ⟨q1,q2⟩
          dsimp only at q1 q2 ⊢
          rcases q2 with ⟨q2,q3,q4,k,hk,q5,q6⟩|⟨rfl,rfl⟩
          · have huN:=hJ.inn u (q5 ▸ y44 hk)
            obtain ⟨w,rfl⟩:∃ w:Nat,u=w:=⟨u.toNat,by omega⟩
            have hw:w < rows.length:=by omega
            have gw:=z899 Q P hw
            rw [if_pos (q5 ▸ y44 hk)] at gw
            have lw:=z898 rows.length Q P
            have hp:=hJ.pre k hk
            rw [q5,y77] at hp
            dsimp only at hp
            obtain ⟨fu,rfl⟩:∃ m,fu=m+1:=⟨fu - 1,by omega⟩
            rw [Nat.add_sub_cancel] at q3
            have hnext:P.getD w 0=-1∧ac++[(w:Int)]=B∨(0≤P.getD w 0∧(ac++[(w:Int)])++chn P (fu - 1) (P.getD w 0)=B∧1≤fu∧∃ k,∃ h:k < Q.length,Q[k]=P.getD w 0∧k+1≤fu):=by
              rcases hp with hp|⟨j,hj,hjk,hp⟩
              · left
                refine ⟨hp,?_⟩
                rw [← q3]
                cases fu with
                | zero=>rfl
                | succ fu =>
                  rw [chn,y77,if_neg (by omega)]
              · right
                have:=hJ.inn _ (y44 hj)
                refine ⟨by omega,?_,by omega,j,hj,hp.symm,by omega⟩
                obtain ⟨fu,rfl⟩:∃ m,fu=m+1:=⟨fu - 1,by omega⟩
                rw [chn,y77,if_pos (by omega)] at q3
                rw [← q3]
                simp
            have hvb : -1≤P.getD w 0∧P.getD w 0 < rows.length:=by
              rcases hnext with ⟨h,_⟩|⟨h,_,_,j,hj,hp2,_⟩
              · omega
              · have:=hJ.inn _ (y44 hj)
                omega
            clear hp
            generalize P.getD w 0=v at *
            repeat' ((first|apply y4 ok;rfl|refine z13 (i:=w) rfl gw ?_|(apply y43;first|omega|(try dsimp only);simp only [y49,y48,y47,y46,y58,y59];omega|exact ⟨rfl,z22 rfl z28⟩))<;>conv=>whnf)
            all_goals refine z24 (fu,ac++[(w:Int)],v) ⟨by simp only [y47,List.length_singleton];omega,?_⟩ ?_ (by refine swR [0,3] [] rfl rfl ?_;(repeat' first|exact y86 _|exact z10 _|refine z50 ?_;((simp;done))|(first|refine z39 rfl ?_ ?_|refine z9 rfl ?_ ?_);(focus ((repeat' (first|exact z5 (fun _=>rfl)|apply z26));done))|refine z86 ?_ ?_;(focus omega)|constructor))
            all_goals dsimp only
            all_goals first|(rcases hnext with ⟨h1,h2⟩|h1<;>first|exact .inr ⟨h1,h2⟩|exact .inl h1)|rw [if_pos (show (0:Int)≤w by omega)];split<;>omega
          · have cr:=z1021 ac (by omega) (by omega)
            have cc:=z554 (rvs ac) (by rw [z663];omega)
            have el:=z663 ac
            rw [← rvs_eq]
            generalize rvs ac=D at *
            rw [el] at cc ⊢
            repeat' ((first|apply y4 ok;rfl|(first|apply z124 [1] [] cr;rfl;(focus ((repeat' first|exact z38|apply z48)<;>(refine z65 rfl ?_;((exact z5 fun _=>rfl)))))|apply z124 [1] [] cc;rfl;(focus ((repeat' first|exact z38|apply z48)<;>(refine z65 rfl ?_;((exact z5 fun _=>rfl))))));rfl;(focus ((repeat' first|exact z17|apply z16)<;>(refine z20 ?_;((exact z5 fun _=>rfl))))))<;>conv=>whnf)
            all_goals (refine rsD [1] [] rfl ?_;(repeat' first|exact y86 _|exact z10 _|refine z9 rfl (z5 (fun _=>rfl)) ?_|constructor))
      · have hG:=(y72 _).mp hG
        rw [hG] at cf
        have hno2:∀ k (_:k < i+1) (h:k < (srS rows ini (i+1)).1.length),G ((srS rows ini (i+1)).1[k])=false:=by
          obtain ⟨t,ht⟩:=z848 (rows:=rows) (ini:=ini) (show i≤i+1 by omega)
          intro k hk h
          have hki:k < (srS rows ini i).1.length:=by omega
          have e:(srS rows ini (i+1)).1[k]=(srS rows ini i).1[k]:=by
            simp only [ht,List.getElem_append_left hki]
          rw [e]
          by_cases hk3:k < i
          · exact hno k hk3 hki
          · obtain rfl:k=i:=by omega
            exact hG
        have hile:i+1≤rows.length:=by omega
        have hJv:=fun l hl=>PJ.visPs (N:=rows.length) l hJ hi2 rfl hl
        clear hfnd hpre hno
        generalize hS' : srS rows ini (i+1)=S' at *
        generalize hS:srS rows ini i=S at *
        obtain ⟨Q,P⟩:=S
        dsimp only at *
        have hi4:i < Q.length:=hi2
        generalize hxx:Q[i]=x at *
        obtain ⟨u,rfl⟩:∃ u:Nat,x=u:=⟨x.toNat,by omega⟩
        rw [y77] at hnx
        have hu:u < rows.length:=by omega
        have gr:=z600 hu
        have hrow:=z238 hr (u:Int)
        rw [y77] at hrow
        have hrowl:(rows.getD u []).length≤1000000000:=by rw [z14 hu];exact hrl _ (y44 _)
        generalize rows.getD u []=row at *
        repeat' ((first|apply y4 ok;rfl|refine z13 (i:=i) rfl gx ?_|refine z13 (i:=u) rfl gr ?_|apply y43;omega|apply z6<;>intro _|apply z4 cf;rfl;rfl)<;>conv=>whnf)
        all_goals try (exfalso;omega)
        all_goals
          refine z64 (fun j:Nat=>([(0,lst 1 encL rows),(2,.fn (.func f) [] caps),(7,.sref 0 0 rows.length),(9,.sref 1 0 (visPs (u:Int) (Q,P) (row.take j)).1.length),(12,.int i),(76,ints row),(77,.int row.length),(78,.int j)],[.cells 1 ((frm rows.length (visPs (u:Int) (Q,P) (row.take j)).1 (visPs (u:Int) (Q,P) (row.take j)).2).map enI),.cells 1 ((visPs (u:Int) (Q,P) (row.take j)).1.map enI)])) (fun j=>j≤row.length) (fun j=>row.length - j) 0 (y53 _) (by refine swR [0,1] [] rfl rfl ?_;(repeat' first|exact y86 _|exact z10 _|refine z9 rfl (z5 (fun _=>rfl)) ?_|constructor)<;>(fail)) ?_
          intro j hj
          obtain ⟨hJj,hij,hxj⟩:=hJv (row.take j) (fun x hx=>hrow x (List.mem_of_mem_take hx))
          have hQjl:(visPs (u:Int) (Q,P) (row.take j)).1.length≤rows.length:=z164 _ _ hJj.nd hJj.inn
          have gxj:((visPs (u:Int) (Q,P) (row.take j)).1.map enI)[i]?=some (enI (u:Int)):=by
            rw [y51,y45 hij,hxj];rfl
          by_cases hj2:j < row.length
          · have gj:(row.map enI)[j]?=some (enI row[j]):=by rw [y51,y45 hj2];rfl
            have hv:=hrow _ (y44 hj2)
            have et:=z595 (u:=(u:Int)) (x:=(Q,P)) hj2
            have hge:=hJj.pre
            generalize hT' : visPs (u:Int) (Q,P) (row.take (j+1))=T' at *
            generalize hT:visPs (u:Int) (Q,P) (row.take j)=T at *
            generalize row[j]=v at *
            obtain ⟨w,rfl⟩:∃ w:Nat,v=w:=⟨v.toNat,by omega⟩
            have hw:w < rows.length:=by omega
            have gw:=z899 T.1 T.2 hw
            have lw:=z898 rows.length T.1 T.2
            have hTl:=hJj.len
            by_cases hm:(w:Int)∈T.1
            · rw [z469 hm] at et
              rw [if_pos hm] at gw
              have hwv : -1≤T.2.getD w 0:=by
                obtain ⟨k,hk,ek⟩:=List.mem_iff_getElem.1 hm
                have h1:=hge k hk
                rw [ek,y77] at h1
                rcases h1 with h1|⟨y,hy,_,h1⟩
                · omega
                · have:=hJj.inn _ (y44 hy);omega
              generalize T.2.getD w 0=pv at *
              repeat' ((first|apply y4 ok;rfl|refine z13 (i:=j) rfl gj ?_|refine z13 (i:=w) rfl gw ?_|(apply y43;first|omega|unfold inI;omega)|((apply z8;omega));intro _|apply z6<;>intro _)<;>conv=>whnf)
              all_goals try (exfalso;omega)
              all_goals refine z24 (j+1) hj2 (by omega) ?_
              all_goals dsimp only
              all_goals rw [hT',et]
              all_goals exact (by refine swR [0,1] [] rfl rfl ?_;(repeat' first|exact y86 _|exact z10 _|refine z9 rfl (z5 (fun _=>rfl)) ?_|constructor))
            · rw [z470 hm,y77] at et
              rw [if_neg hm] at gw
              have e1:=z973 (Q:=T.1) (u:=(u:Int)) hw hTl
              repeat' ((first|apply y4 ok;rfl|refine z13 (i:=j) rfl gj ?_|refine z13 (i:=w) rfl gw ?_|refine z13 (i:=i) rfl gxj ?_|(apply y43;first|omega|unfold inI;omega|(try dsimp only);simp only [y49,y48,y47,y46,y58,y59];omega|exact ⟨rfl,z22 rfl z28⟩)|apply z6<;>intro _)<;>conv=>whnf)
              all_goals try (exfalso;omega)
              all_goals refine z24 (j+1) hj2 (by omega) ?_
              all_goals dsimp only
              all_goals rw [hT',et]
              all_goals dsimp only
              all_goals exact (by refine swR [0,3] [] rfl rfl ?_;(repeat' first|exact y86 _|refine z50 ?_;((simp;done))|(first|refine z39 rfl ?_ ?_|refine z60 rfl ?_ ?_);(focus ((repeat' (first|exact z5 (fun _=>rfl)|apply z26));done))|refine z86 ?_ ?_;(focus omega)|constructor)<;>((refine z57 ?_;exact e1)))
          obtain rfl:j=row.length:=by omega
          rw [y56,← hnx] at *
          repeat' ((first|apply y4 ok;rfl|(apply y43;first|omega|unfold inI;omega)|(first|with_reducible apply z8;omega|apply z8;omega);intro _|apply z6<;>intro _)<;>conv=>whnf)
          all_goals try (exfalso;omega)
          all_goals refine z24 (i+1) ⟨hile,by rw [hS'];exact hno2⟩ (by omega) ?_
          all_goals dsimp only
          all_goals rw [hS']
          all_goals exact (by refine swR [0,1] [] rfl rfl ?_;(repeat' first|exact y86 _|exact z10 _|refine z9 rfl (z5 (fun _=>rfl)) ?_|constructor))
    · rw [shL_none (G:=G) (by omega) hi1 (fun k hk=>hno k (by omega) hk)]
      repeat' ((first|apply y4 ok;rfl|apply y43;omega|((apply z8;omega));intro _|apply z6<;>intro _)<;>conv=>whnf)
      all_goals try (exfalso;omega)
      all_goals (refine y89 1 ?_;refine rsD [2] [] rfl ?_;(repeat' first|exact z49|refine z9 rfl z25 ?_|constructor))
theorem z661 (rows : List (List Int)) (ini : List Int) (hr : ∀ r ∈ rows, InN rows.length r) (hi : InN rows.length ini) (hn : ini.Nodup) (hN : rows.length ≤ 100000) (hrl : ∀ r ∈ rows, r.length ≤ 1000000000) (G : Int → Bool) (f : FuncId) (c1 : List AC) (hf : ∀ x : Int, 0 ≤ x → x < rows.length → QQ f (.int x :: [.pt c1]) [] (.bool (G x)) []) :
    QQ 176 [lst 1 encL rows,ints ini,.fn (.func f) [] [.pt c1]] [] (.sref 0 0 (shL rows ini G).length) [.cells 1 ((shL rows ini G).map enI)]:=z378 false rows ini hr hi hn hN hrl G f c1 [] hf
theorem z660 (rows : List (List Int)) (ini : List Int) (hr : ∀ r ∈ rows, InN rows.length r) (hi : InN rows.length ini) (hn : ini.Nodup) (hN : rows.length ≤ 100000) (hrl : ∀ r ∈ rows, r.length ≤ 1000000000) (G : Int → Bool) (f : FuncId) (c1 c2 : List AC) (hf : ∀ x : Int, 0 ≤ x → x < rows.length → QQ f (.int x :: [.pt c1, .pt c2]) [] (.bool (G x)) []) :
    QQ 176 [lst 1 encL rows,ints ini,.fn (.func f) [] [.pt c1,.pt c2]] [] (.sref 0 0 (shL rows ini G).length) [.cells 1 ((shL rows ini G).map enI)]:=z378 true rows ini hr hi hn hN hrl G f c1 c2 hf
theorem z1182 (v x:Int):QQ 177 [.int x,.pt [.int v]] [] (.bool (decide (x=v))) []:=by
 refine z7 z15 func177 rfl rfl 7 ntmps177 (by simp) ?_
 repeat' (((apply y4 ok;rfl))<;>conv=>whnf)
 all_goals (refine rsD [] [] rfl ?_;(repeat' first|exact y86 _|constructor))
theorem z1082 (rows:List (List Int)) (hrl:∀ r∈rows,r.length≤1000000000) (v x:Int) (hx:0≤x∧x < rows.length):QQ 247 [.int x,.pt [.int v],.pt [lst 1 encL rows]] [] (.bool (decide (x≠v) && decide (v∈rows.getD x.toNat []))) []:=by
 obtain ⟨u,rfl⟩:∃ u:Nat,x=u:=⟨x.toNat,by omega⟩
 rw [y77]
 have hu:u < rows.length:=by omega
 have gr:=z600 hu
 have hrow:(rows.getD u []).length≤1000000000:=by rw [z14 hu];exact hrl _ (y44 _)
 have cct:=z123 (rows.getD u []) (by unfold maxLen;omega) v
 generalize rows.getD u []=row at *
 refine z7 z15 func247 rfl rfl 16 ntmps247 (by simp) ?_
 by_cases h:(u:Int)=v
 ·rw [y83 (by simp [h]),Bool.false_and]
  repeat' ((first|apply y4 ok;rfl|apply z23;kernel_rfl|refine z13 (i:=u) rfl gr ?_|apply y43;omega|apply z42<;>intro _|apply z4 cct;rfl;rfl)<;>conv=>whnf)
  all_goals try (exfalso;omega)
  all_goals (refine rsD [] [] rfl ?_;(repeat' first|exact y86 _|constructor))
 ·rw [y82 h,Bool.true_and]
  repeat' ((first|apply y4 ok;rfl|apply z23;kernel_rfl|refine z13 (i:=u) rfl gr ?_|apply y43;omega|apply z42<;>intro _|apply z4 cct;rfl;rfl)<;>conv=>whnf)
  all_goals try (exfalso;omega)
  all_goals (refine rsD [] [] rfl ?_;(repeat' first|exact y86 _|constructor))
set_option maxHeartbeats 3200000 in
theorem z1081 (rows : List (List Int)) (v : Int) (hr : ∀ r ∈ rows, InN rows.length r) (hv : 0 ≤ v ∧ v < rows.length) (hN : rows.length ≤ 100000) (hrl : ∀ r ∈ rows, r.length ≤ 1000000000) :
    QQ 178 [lst 1 encL rows,.int v] [] (.sref 0 0 (aroL rows v).length) [.cells 1 ((aroL rows v).map enI)]:=by
  obtain ⟨u,rfl⟩:∃ u:Nat,v=u:=⟨v.toNat,by omega⟩
  have hu:u < rows.length:=by omega
  have gr:=z600 hu
  have hrow:(rows.getD u []).length≤1000000000:=by rw [z14 hu];exact hrl _ (y44 _)
  have cct:=z123 (rows.getD u []) (by unfold maxLen;omega) (u:Int)
  have csh:=z660 rows [(u:Int)] hr (z348 hv) (by simp) hN hrl (fun n=>decide (n≠(u:Int)) && decide ((u:Int)∈rows.getD n.toNat [])) 247 [.int (u:Int)] [lst 1 encL rows] (fun x h0 h1=>z1082 rows hrl u x ⟨h0,h1⟩)
  unfold aroL
  rw [y77]
  by_cases h:(u:Int)∈rows.getD u []
  · rw [if_pos h]
    rw [y82 h] at cct
    generalize rows.getD u []=row at *
    refine z7 z15 func178 rfl rfl 18 ntmps178 (by simp) ?_
    repeat' ((first|apply y4 ok;rfl|apply z23;kernel_rfl|refine z13 (i:=u) rfl gr ?_|apply y43;omega|apply z4 cct;rfl;rfl)<;>conv=>whnf)
    all_goals (refine rsD [2] [] rfl ?_;(repeat' first|exact y86 _|apply y87|constructor))
  · rw [if_neg h]
    rw [y83 h] at cct
    generalize shL rows [(u:Int)] (fun n=>decide (n≠(u:Int)) && decide ((u:Int)∈rows.getD n.toNat []))=D at *
    generalize rows.getD u []=row at *
    refine z7 z15 func178 rfl rfl 18 ntmps178 (by simp) ?_
    repeat' ((first|apply y4 ok;rfl|apply z23;kernel_rfl|refine z13 (i:=u) rfl gr ?_|apply y43;omega|apply z4 cct;rfl;rfl|apply z99 [] [0,1,2] [3] csh;(focus ((repeat' first|exact z69|apply z44)<;>rfl));rfl;rfl;(focus ((repeat' first|exact z17|apply z16)<;>(refine z20 ?_;((exact z5 fun _=>rfl)))));((refine .inr ⟨rfl,?_⟩;repeat' first|exact True.intro|apply y43|exact z105 (fun _=>rfl) _)))<;>conv=>whnf)
    all_goals (refine rsD [3] [] rfl ?_;(repeat' first|exact y86 _|exact z10 _|refine z9 rfl (z5 (fun _=>rfl)) ?_|constructor))
noncomputable def lasR (rows:List (List Int)) (ini:List Int) (G:Int→Bool):List Int×List Int:=(lasL rows ini G).getD ([],[])
set_option maxHeartbeats 6400000 in
theorem z1181 (rows : List (List Int)) (ini : List Int) (hr : ∀ r ∈ rows, InN rows.length r) (hi : InN rows.length ini) (hn : ini.Nodup) (hN : rows.length ≤ 100000) (hrl : ∀ r ∈ rows, r.length ≤ 1000000000) (G : Int → Bool) (f : FuncId) (c1 c2 : List AC) (hf : ∀ x : Int, 0 ≤ x → x < rows.length → QQ f [.int x, .pt c1, .pt c2] [] (.bool (G x)) []) :
    QQ 95 [lst 1 encL rows,ints ini,.fn (.func f) [] [.pt c1,.pt c2]] [] (.tup [.sref 0 0 ((lasR rows ini G).1.take ((lasR rows ini G).1.length - 1)).length,.sref 1 0 (lasR rows ini G).2.length,.bool (lasL rows ini G).isSome]) [.cells 1 (((lasR rows ini G).1.take ((lasR rows ini G).1.length - 1)).map enI),.cells 1 ((lasR rows ini G).2.map enI)]:=by
  have hil:ini.length≤100000:=by have:=z164 rows.length ini hn hi;omega
  have cC:=z1067 rows hr hN hrl
  have cO:=z1156 rows ini hr hi hN hrl (by omega)
  have hQi:=z457 hr hi rows.length
  have hQl:=z442 hr hi rows.length
  have hcl:=cycB_len rows
  have hcg:∀ i,i < rows.length→((cycB rows).map enB)[i]?=some (enB (cycD rows i)):=fun i h=>z1213 (cycD rows) h
  have hto:=fun v hv=>shL_to (rows:=rows) (ini:=ini) hn (v:=v) hv
  have hrR:∀ k,k < (bfsL rows ini).length→(G ((bfsL rows ini).getD k 0) && cycD rows ((bfsL rows ini).getD k 0).toNat)=true→(∀ j,j < k→(G ((bfsL rows ini).getD j 0) && cycD rows ((bfsL rows ini).getD j 0).toNat)=false)→lasL rows ini G=some (bkw (srP rows ini) rows.length ((bfsL rows ini).getD k 0) [],cycL rows ((bfsL rows ini).getD k 0)):=fun k hk h1 h2=>by
    unfold lasL
    have:(bfsL rows ini).find? (fun v=>G v && cycD rows v.toNat)=some ((bfsL rows ini).getD k 0):=by
      rw [z14 hk] at h1 ⊢
      rw [List.find?_eq_some_iff_getElem]
      refine ⟨h1,k,hk,rfl,fun j hj=>?_⟩
      have:=h2 j hj
      rw [z14 (by omega)] at this
      rw [this];rfl
    rw [this];rfl
  have hrN:(∀ j,j < (bfsL rows ini).length→(G ((bfsL rows ini).getD j 0) && cycD rows ((bfsL rows ini).getD j 0).toNat)=false)→lasL rows ini G=none:=fun h=>by
    unfold lasL
    have:(bfsL rows ini).find? (fun v=>G v && cycD rows v.toNat)=none:=by
      rw [List.find?_eq_none]
      intro x hx
      obtain ⟨j,hj,rfl⟩:=List.mem_iff_getElem.1 hx
      have:=h j hj
      rw [z14 hj] at this
      rw [this];simp
    rw [this];rfl
  unfold lasR
  change (bfsL rows ini).length≤rows.length at hQl
  change InN rows.length (bfsL rows ini) at hQi
  generalize lasL rows ini G=L at *
  generalize cycB rows=C at *
  generalize bfsL rows ini=Q at *
  refine z7 z15 func95 rfl rfl 45 ntmps95 (by simp) ?_
  repeat' ((first|apply y4 ok;rfl|(first|apply z11 [] [0] cC;rfl;rfl|apply z11 [] [1] cO;rfl;rfl);rfl;(focus ((repeat' first|exact z17|apply z16)<;>(refine z20 ?_;((exact z5 fun _=>rfl))))))<;>conv=>whnf)
  refine z64 (fun i:Nat=>([(0,lst 1 encL rows),(1,ints ini),(2,.fn (.func f) [] [.pt c1,.pt c2]),(9,.sref 0 0 rows.length),(17,.sref 1 0 Q.length),(18,.int Q.length),(19,.int i)],[.cells 1 (C.map enB),.cells 1 (Q.map enI)])) (fun i=>i≤Q.length∧∀ j,j < i→(G (Q.getD j 0) && cycD rows (Q.getD j 0).toNat)=false) (fun i=>Q.length - i) 0 ⟨y53 _,fun j hj=>by omega⟩ (by refine swR [0,1] [] rfl rfl ?_;(repeat' first|exact y86 _|exact z10 _|refine z9 rfl (z5 (fun _=>rfl)) ?_|constructor)) ?_
  rintro i ⟨hi1,hno⟩
  by_cases hi2:i < Q.length
  · have hm:=z402 hi2
    have hx:=hQi _ hm
    have gx:(Q.map enI)[i]?=some (enI (Q.getD i 0)):=by rw [y51,y45 hi2,z14 hi2];rfl
    have cf:=hf _ hx.1 hx.2
    have hsome:=fun h=>hrR i hi2 h hno
    have hnxt:(G (Q.getD i 0) && cycD rows (Q.getD i 0).toNat)=false→∀ j,j < i+1→(G (Q.getD j 0) && cycD rows (Q.getD j 0).toNat)=false:=fun h j hj=>by
      by_cases e:j=i
      · subst e;exact h
      · exact hno j (by omega)
    have hsh:=hto _ hm
    have csh:=z661 rows ini hr hi hn hN hrl (fun n=>decide (n=Q.getD i 0)) 177 [.int (Q.getD i 0)] (fun x _ _=>z1182 (Q.getD i 0) x)
    have car:=z1081 rows (Q.getD i 0) hr hx hN hrl
    rw [hsh] at csh
    rw [aroL_eq] at car
    have hb1:=z560 (srP rows ini) rows.length (Q.getD i 0) []
    have hb2:=z561 (srP rows ini) rows.length (Q.getD i 0) []
    have hc2:=z704 rows (Q.getD i 0)
    have gc:=hcg (Q.getD i 0).toNat (by omega)
    rw [y59] at hb2
    clear hsh hrR hrN hto hcg hm hno
    generalize bkw (srP rows ini) rows.length (Q.getD i 0) []=B at *
    generalize cycL rows (Q.getD i 0)=Y at *
    generalize Q.getD i 0=x at *
    obtain ⟨u,rfl⟩:∃ u:Nat,x=u:=⟨x.toNat,by omega⟩
    rw [y77] at *
    by_cases hg:(G (u:Int) && cycD rows u)=true
    · have hL:=hsome hg
      obtain ⟨hg1,hg2⟩:=Bool.and_eq_true_iff.1 hg
      rw [hg1] at cf
      rw [hg2] at gc
      subst hL
      repeat' ((first|apply y4 ok;rfl|apply z23;kernel_rfl|refine z13 (i:=i) rfl gx ?_|refine z13 (i:=u) rfl gc ?_|(apply y43;first|omega|unfold inI;omega)|apply z6<;>intro _|apply z4 cf;rfl;rfl|(first|apply z99 [] [2] [3] csh;(focus ((repeat' first|exact z69|apply z44)<;>rfl));rfl|apply z99 [] [] [4] car;rfl;rfl);rfl;(focus ((repeat' first|exact z17|apply z16)<;>(refine z20 ?_;((exact z5 fun _=>rfl)))));(first|exact .inl rfl|(refine .inr ⟨rfl,?_⟩;repeat' first|exact True.intro|apply y43|exact z105 (fun _=>rfl) _)))<;>conv=>whnf)
      all_goals try (exfalso;omega)
      all_goals
        show RetS _ _ (.tup [.sref 0 0 (B.take (B.length - 1)).length,.sref 1 0 Y.length,.bool true]) [.cells 1 ((B.take (B.length - 1)).map enI),.cells 1 (Y.map enI)] _
        refine Gl.RetS.trunc 3 (B.length - 1) rfl ?_
        conv=>whnf
        (refine rsD [3,4] [] rfl ?_;(repeat' first|exact y86 _|exact z10 _|refine z50 ?_;((simp;done))|(refine z9 rfl ?_ ?_);(focus ((repeat' (first|exact z5 (fun _=>rfl)|apply z26));done))|apply z80|constructor))
      all_goals (refine z57 ?_;rw [List.map_take])
    · have hg:=(y72 _).mp hg
      have hn2:=hnxt hg
      cases hG:G (u:Int)
      · rw [hG] at cf
        repeat' ((first|apply y4 ok;rfl|refine z13 (i:=i) rfl gx ?_|(apply y43;first|omega|unfold inI;omega)|apply z6<;>intro _|apply z4 cf;rfl;rfl)<;>conv=>whnf)
        all_goals try (exfalso;omega)
        all_goals refine z24 (i+1) ⟨hi2,hn2⟩ (by omega) (by refine swR [0,1] [] rfl rfl ?_;(repeat' first|exact y86 _|exact z10 _|refine z9 rfl (z5 (fun _=>rfl)) ?_|constructor))
      · rw [hG] at cf
        rw [hG,Bool.true_and] at hg
        rw [hg] at gc
        repeat' ((first|apply y4 ok;rfl|refine z13 (i:=i) rfl gx ?_|refine z13 (i:=u) rfl gc ?_|(apply y43;first|omega|unfold inI;omega)|apply z6<;>intro _|apply z4 cf;rfl;rfl)<;>conv=>whnf)
        all_goals try (exfalso;omega)
        all_goals refine z24 (i+1) ⟨hi2,hn2⟩ (by omega) (by refine swR [0,1] [] rfl rfl ?_;(repeat' first|exact y86 _|exact z10 _|refine z9 rfl (z5 (fun _=>rfl)) ?_|constructor))
  · have hL:=hrN fun j hj=>hno j (by omega)
    subst hL
    repeat' ((first|apply y4 ok;rfl|apply y43;omega|((apply z8;omega));intro _|apply z6<;>intro _)<;>conv=>whnf)
    all_goals try (exfalso;omega)
    all_goals show RetS _ _ (.tup [.sref 0 0 0,.sref 1 0 0,.bool false]) [.cells 1 [],.cells 1 []] _
    all_goals (refine y89 1 ?_;refine y89 1 ?_;refine rsD [2,3] [] rfl ?_;(repeat' first|exact y86 _|exact z49|refine z9 rfl z25 ?_|apply z80|constructor))
theorem z897 (n:Nat) (h0:0 < n) (h1:n≤1048576):QQ 129 [.nils,.int n] [] (.sref 0 0 0) [.cells 1 (List.replicate n [.int 0])]:=by
 refine z12 z15 func129 rfl rfl 27 ntmps129 (by simp) ?_
 repeat' (first|apply y4 ok;rfl;conv=>whnf|apply y43;(first|omega|unfold inI;omega|dsimp only;omega);conv=>whnf|apply z6<;>intro _<;>conv=>whnf)
 all_goals try (exfalso;omega)
 exact z90 [0] (by decide) rfl rfl rfl ⟨z51 (z68 (by rw [show ((n:Int) - (((0:Nat):Int) - ((0:Nat):Int))).toNat=n by omega])) (z54 rfl),trivial⟩
def szK (a b:List Int):Nat→Nat
 |0=>0
 |1=>a.length
 |_=>a.length+b.length
def clK (a b:List Int):Nat→List (List AC)
 |0=>List.replicate (a.length+b.length) [.int 0]
 |1=>a.map enI
 |_=>(a++b).map enI
theorem z707 (a b:List Int) (k:Nat):Flat (clK a b k):=by
 match k with
 |0=>exact z54 rfl
 |1=>exact z5 fun _=>rfl
 |_+2=>exact z5 fun _=>rfl
theorem z629 (a b:List Int) (h0:0 < a.length+b.length) (h1:a.length+b.length≤1048576):QQ 55 [lst 1 encL [a,b]] [] (.sref 0 0 (a.length+b.length)) [.cells 1 ((a++b).map enI)]:=by
 have cg:=z897 (a.length+b.length) h0 h1
 have e0:szK a b 0=0:=rfl
 have e1:szK a b 1=a.length:=rfl
 have e2:szK a b 2=a.length+b.length:=rfl
 have hc1:(clK a b 1).length=szK a b 1:=by simp [clK,szK]
 refine z12 z15 func55 rfl rfl 36 ntmps55 (by simp) ?_
 repeat' ((apply y4 ok;rfl;conv=>whnf))
 refine z97 (fun k:Nat=>([(0,lst 1 encL [a,b]),(3,.int (szK a b k)),(9,lst 1 encL [a,b]),(10,.int (2:Nat)),(11,.int k)],[])) (fun k=>k≤2) (fun k=>2 - k) 0 (by omega) ⟨[],rfl,by decide,rfl,⟨⟨rfl,rfl⟩,⟨rfl,rfl⟩,⟨rfl,rfl⟩,⟨rfl,rfl⟩,⟨rfl,rfl⟩,trivial⟩,trivial⟩ ?_
 intro k hk
 have hk3:k=0∨k=1∨k=2:=by omega
 rcases hk3 with rfl|rfl|rfl
 ·repeat' (first|apply y4 ok;rfl;conv=>whnf|refine z13 (i:=0) rfl rfl ?_;conv=>whnf|apply y43;(first|omega|unfold inI;omega);conv=>whnf)
  all_goals exact z85 1 [] (by omega) (by omega) ⟨rfl,by decide,rfl,⟨⟨rfl,rfl⟩,⟨rfl,z1221 (by omega)⟩,⟨rfl,rfl⟩,⟨rfl,rfl⟩,⟨rfl,rfl⟩,trivial⟩,trivial⟩
 ·repeat' (first|apply y4 ok;rfl;conv=>whnf|refine z13 (i:=1) rfl rfl ?_;conv=>whnf|apply y43;(first|omega|unfold inI;omega);conv=>whnf)
  all_goals exact z85 2 [] (by omega) (by omega) ⟨rfl,by decide,rfl,⟨⟨rfl,rfl⟩,⟨rfl,z1221 (by omega)⟩,⟨rfl,rfl⟩,⟨rfl,rfl⟩,⟨rfl,rfl⟩,trivial⟩,trivial⟩
 ·rw [← e2] at cg
  repeat' (first|apply y4 ok;rfl;conv=>whnf|apply z103 [] [] [0] cg;rfl;(focus ((repeat' (exact z38))<;>(fail)));rfl;rfl;rfl;rfl;rfl;(focus ((repeat' (first|exact z17|apply z16))<;>((refine z20 ?_;(exact z54 rfl)))));(exact .inl rfl);conv=>whnf)
  refine z97 (fun k:Nat=>([(6,.sref 0 0 (szK a b k)),(25,lst 1 encL [a,b]),(26,.int (2:Nat)),(27,.int k)],[.cells 1 (clK a b k)])) (fun k=>k≤2) (fun k=>2 - k) 0 (by omega) ⟨[0],rfl,by decide,rfl,⟨⟨rfl,rfl⟩,⟨rfl,rfl⟩,⟨rfl,rfl⟩,⟨rfl,rfl⟩,trivial⟩,⟨z51 rfl (z707 a b 0),trivial⟩⟩ ?_
  intro k hk
  have hk3:k=0∨k=1∨k=2:=by omega
  rcases hk3 with rfl|rfl|rfl
  ·repeat' (first|apply y4 ok;rfl;conv=>whnf|refine z13 (i:=0) rfl rfl ?_;conv=>whnf|apply y43;(first|omega|unfold inI;omega|dsimp only;omega|exact z62 (fun _=>rfl));conv=>whnf)
   all_goals exact z85 1 [1] (by omega) (by omega) ⟨rfl,by decide,rfl,⟨⟨rfl,congrArg (AC.sref 1 0) (show szK a b 0+a.length=szK a b 1 by omega)⟩,⟨rfl,rfl⟩,⟨rfl,rfl⟩,⟨rfl,rfl⟩,trivial⟩,⟨z51 (z68 (by rw [e0,List.take_zero];rfl)) (z707 a b 1),trivial⟩⟩
  ·repeat' (first|apply y4 ok;rfl;conv=>whnf|refine z13 (i:=1) rfl rfl ?_;conv=>whnf|apply y43;(first|omega|unfold inI;omega|dsimp only;omega|exact z62 (fun _=>rfl));conv=>whnf)
   all_goals exact z85 2 [1] (by omega) (by omega) ⟨rfl,by decide,rfl,⟨⟨rfl,congrArg (AC.sref 1 0) (show szK a b 1+b.length=szK a b 2 by omega)⟩,⟨rfl,rfl⟩,⟨rfl,rfl⟩,⟨rfl,rfl⟩,trivial⟩,⟨z51 (z68 (by rw [y57 (by omega)];exact (y64 ..).symm)) (z707 a b 2),trivial⟩⟩
  ·repeat' ((apply y4 ok;rfl;conv=>whnf))
   all_goals exact z90 [0] (by decide) rfl rfl rfl ⟨z51 rfl (z5 fun _=>rfl),trivial⟩
noncomputable def z356 (g:Graph) (p:List Int) (i:Nat):Bool:=(decide (0≤p.getD i 0) && decide (p.getD i 0 < g.st.length)) && (decide (i=0) || decide (p.getD i 0∈g.nx.getD (p.getD (i - 1) 0).toNat []))
noncomputable def z294 (g:Graph) (p:List Int):Bool:=z208 g && (decide (1≤p.length) && (List.range p.length).all (z356 g p))
theorem z527 {g:Graph} {p:List Int} {i:Nat} (hi:i < p.length) (h:z356 g p i=false):z294 g p=false:=by
 unfold z294
 have:(List.range p.length).all (z356 g p)=false:=by
  rw [List.all_eq_false]
  exact ⟨i,List.mem_range.2 hi,by simp [h]⟩
 rw [this];simp
theorem z607 {g:Graph} {p:List Int} (hg:z208 g=true) (h0:1≤p.length) (h:∀ i,i < p.length→z356 g p i=true):z294 g p=true:=by
 unfold z294
 have:(List.range p.length).all (z356 g p)=true:=by
  rw [y79]
  exact fun i hi=>h i (List.mem_range.1 hi)
 rw [this,hg,y82 h0];rfl
theorem stepP_0 (g:Graph) (p:List Int) (h:0 < p.length):z356 g p 0=(decide (0≤p[0]) && decide (p[0] < g.st.length)):=by
 unfold z356;rw [z14 h];simp
theorem stepP_s (g:Graph) (p:List Int) (j:Nat) (h:j+1 < p.length) (h2:p[j].toNat < g.nx.length):z356 g p (j+1)=(decide (0≤p[j+1]) && decide (p[j+1] < g.st.length) && decide (p[j+1]∈g.nx[p[j].toNat])):=by
 unfold z356
 rw [z14 h,Nat.add_sub_cancel,z14 (show j < p.length by omega),z14 h2];simp
theorem z946 {g:Graph} {p:List Int} {j:Nat} (h:j < p.length) (k:z356 g p j=true):0≤p[j]∧p[j] < g.st.length:=by
 unfold z356 at k
 rw [z14 h] at k
 simp only [y71,decide_eq_true_eq] at k
 exact k.1
theorem z728 {P:Nat→Prop} {i:Nat} (h:∀ j,j < i→P j) (k:P i):∀ j,j < i+1→P j:=fun j hj=>by
 rcases y70 j i with h3|h3
 ·exact h j h3
 ·obtain rfl:j=i:=by omega
  exact k
set_option maxHeartbeats 1600000 in
theorem z896 (g:Graph) (hg:g.mx) (p:List Int) (hp:p.length≤maxLen):QQ 56 [.agg g.cs,ints p] [] (.bool (z294 g p)) []:=by
 have k1:=z269 g hg
 unfold maxLen at hp
 by_cases hgb:z208 g=true
 ·have hG:=(z95 g).1 hgb
  have hgl:=hG.2.1
  have h60:=hG.1.2
  have hrl:=hg.2.2
  rw [hgb] at k1
  by_cases h0:p.length=0
  ·have e:z294 g p=false:=by unfold z294;rw [y83 (show ¬ 1≤p.length by omega)];simp
   rw [e]
   refine z12 z15 func56 rfl rfl 48 ntmps56 (by simp) ?_
   repeat' ((first|apply y4 ok;rfl|apply z6<;>intro _|apply z4 k1;rfl;rfl)<;>conv=>whnf)
   all_goals first|exfalso;omega|exact z19 rfl rfl
  refine z12 z15 func56 rfl rfl 48 ntmps56 (by simp) ?_
  repeat' ((first|apply y4 ok;rfl|apply z6<;>intro _|apply z4 k1;rfl;rfl)<;>conv=>whnf)
  all_goals try (exfalso;omega)
  refine z97 (fun i:Nat=>([(1,ints p),(2,.ptr 0 none 0),(15,ints p),(16,.int p.length),(17,.int i)],[.cells 2 [[lst 2 State.cs g.st,lst 1 encL g.nx]]])) (fun i=>i≤p.length∧∀ j,j < i→z356 g p j=true) (fun i=>p.length - i) 0 ⟨by omega,fun j hj=>by omega⟩ ⟨[0],rfl,by decide,rfl,⟨⟨rfl,rfl⟩,⟨rfl,rfl⟩,⟨rfl,rfl⟩,⟨rfl,rfl⟩,⟨rfl,rfl⟩,trivial⟩,⟨z21 rfl rfl,trivial⟩⟩ ?_
  rintro i ⟨hi,hs⟩
  by_cases hil:i < p.length
  ·have g0:(p.map enI)[i]?=some (enI p[i]):=by rw [y51,y45 hil];rfl
   have c1:=z266 p[i] 0 ((g.st.length:Int) - 1)
   cases i with
   |zero =>
    have hst:=stepP_0 g p hil
    generalize p[0]=x at *
    repeat' ((first|apply y4 ok;rfl|apply z23;kernel_rfl|refine z13 (i:=0) rfl g0 ?_|(apply y43;first|omega|unfold inI;omega)|(first|apply z6|apply z78)<;>intro _|apply z4 c1;rfl;rfl)<;>conv=>whnf)
    all_goals (try simp only [z94,z250] at *)
    all_goals first
     |(exfalso;omega)
     |exact z19 rfl (z527 hil (by rw [hst];grind))
     |exact z85 1 [0] ⟨by omega,z728 hs (by rw [hst];grind)⟩ (by omega) ⟨rfl,by decide,rfl,⟨⟨rfl,rfl⟩,⟨rfl,rfl⟩,⟨rfl,rfl⟩,⟨rfl,rfl⟩,⟨rfl,rfl⟩,trivial⟩,⟨z21 rfl rfl,trivial⟩⟩
   |succ j =>
    have hy:=z946 (show j < p.length by omega) (hs j (by omega))
    have hst:=stepP_s g p j hil (by omega)
    have g1:(p.map enI)[j]?=some (enI p[j]):=by rw [y51,y45 (by omega)];rfl
    have c2:=z123 g.nx[p[j].toNat] (hrl _ (y44 _)) p[j+1]
    have g2:(g.nx.map encL)[p[j].toNat]?=some (encL (g.nx[p[j].toNat]'(by omega))):=by rw [y51,y45 (by omega)];rfl
    generalize g.nx[p[j].toNat]=row at *
    generalize p[j]=y at *
    generalize p[j+1]=x at *
    repeat' ((first|apply y4 ok;rfl|apply z23;kernel_rfl|refine z13 (i:=j+1) (by rfl) g0 ?_|refine z13 (i:=j) (by omega) g1 ?_|refine z13 (i:=y.toNat) rfl g2 ?_|(apply y43;first|omega|unfold inI;omega)|(first|apply z6|apply z42|apply z78)<;>intro _|apply z4 c1;rfl;rfl|apply z4 c2;rfl;rfl)<;>conv=>whnf)
    all_goals (try simp only [z94,z250] at *)
    all_goals first
     |(exfalso;omega)
     |exact z19 rfl (z527 hil (by rw [hst];grind))
     |exact z85 (j+2) [0] ⟨by omega,z728 hs (by rw [hst];grind)⟩ (by omega) ⟨rfl,by decide,rfl,⟨⟨rfl,rfl⟩,⟨rfl,rfl⟩,⟨rfl,rfl⟩,⟨rfl,rfl⟩,⟨rfl,rfl⟩,trivial⟩,⟨z21 rfl rfl,trivial⟩⟩
     |skip
  ·repeat' ((first|apply y4 ok;rfl|apply y43;omega|((with_reducible apply z8;omega));intro _|apply z6<;>intro _)<;>conv=>whnf)
   all_goals try (exfalso;omega)
   exact z19 rfl (z607 hgb (by omega) fun j hj=>hs j (by omega))
 ·have hgb:=(y72 _).mp hgb
  have e:z294 g p=false:=by unfold z294;rw [hgb];rfl
  rw [hgb] at k1
  rw [e]
  refine z12 z15 func56 rfl rfl 48 ntmps56 (by simp) ?_
  repeat' ((first|apply y4 ok;rfl|apply z4 k1;rfl;rfl)<;>conv=>whnf)
  all_goals exact z19 rfl rfl
structure Trace where
 stem:List Int
 loop:List Int
deriving DecidableEq
def Trace.cs (t:Trace):List AC:=[ints t.stem,ints t.loop]
def Trace.all (t:Trace):List Int:=t.stem++t.loop
noncomputable def trB (g:Graph) (t:Trace):Bool:=decide (1≤t.loop.length∧t.stem.length+t.loop.length≤8000) && (z294 g t.all && (decide (t.all.getD 0 0=0) && decide (t.loop.getD 0 0∈g.nx.getD ((t.loop.getD (t.loop.length - 1) 0).toNat) [])))
theorem z526 {g:Graph} {p:List Int} (h:z294 g p=true) (i:Nat) (hi:i < p.length):0≤p[i]∧p[i] < g.st.length:=by
 unfold z294 at h
 rw [y71,y71,y79] at h
 exact z946 hi (h.2.2 i (List.mem_range.2 hi))
theorem z606 {g:Graph} {p:List Int} (h:z294 g p=true):z208 g=true:=by
 unfold z294 at h
 exact (Bool.and_eq_true_iff.1 h).1
theorem z964 {l:List Int} {i:Nat} (h:i < l.length):(l.map enI)[i]?=some (enI l[i]):=by rw [y51,y45 h];rfl
theorem row_at {l:List (List Int)} {i:Nat} (h:i < l.length):(l.map encL)[i]?=some (encL l[i]):=by rw [y51,y45 h];rfl
structure TrF (g:Graph) (t:Trace) (x y p0:Int) (row:List Int):Prop where
 hx:0≤x∧x < g.st.length
 gp:(t.all.map enI)[0]?=some (enI p0)
 ga:(t.all.map enI)[t.all.length - 1]?=some (enI x)
 gx:(t.loop.map enI)[t.loop.length - 1]?=some (enI x)
 gl:(t.loop.map enI)[0]?=some (enI y)
 gr:(g.nx.map encL)[x.toNat]?=some (encL row)
 rm:row.length≤maxLen
 e:trB g t=(decide (p0=0) && decide (y∈row))
theorem trF {g:Graph} (hg:g.mx) {t:Trace} (hs:1≤t.loop.length∧t.stem.length+t.loop.length≤8000) (hb:z294 g t.all=true):∃ x y p0 row,TrF g t x y p0 row:=by
 have hG:=(z95 g).1 (z606 hb)
 have hal:t.all.length=t.stem.length+t.loop.length:=by unfold Trace.all;simp
 have hl:t.loop.length - 1 < t.loop.length:=by omega
 have ha:t.all.length - 1 < t.all.length:=by omega
 have h0:0 < t.loop.length:=by omega
 have hp:=z526 hb _ ha
 have ex:t.all[t.all.length - 1]=t.loop[t.loop.length - 1]:=by
  have:t.all[t.all.length - 1]?=t.loop[t.loop.length - 1]?:=by
   rw [hal]
   unfold Trace.all
   rw [y67 (by omega)]
   congr 1;omega
  rw [y45 ha,y45 hl] at this
  exact Option.some.inj this
 have hxn:(t.loop[t.loop.length - 1]).toNat < g.nx.length:=by
  rw [ex] at hp;have:=hG.2.1;omega
 refine ⟨t.loop[t.loop.length - 1],t.loop[0],t.all[0],g.nx[(t.loop[t.loop.length - 1]).toNat],?_⟩
 refine ⟨by rw [← ex];exact hp,z964 (by omega),by rw [← ex];exact z964 ha,z964 hl,z964 h0,row_at hxn,hg.2.2 _ (y44 _),?_⟩
 unfold trB
 rw [y82 hs,hb,z14 (show 0 < t.all.length by omega),z14 h0,z14 hl,z14 hxn];rfl
set_option maxHeartbeats 1600000 in
theorem z789 (g:Graph) (hg:g.mx) (t:Trace) (h1:t.stem.length≤1048576) (h2:t.loop.length≤1048576):QQ 23 [.agg g.cs,.agg t.cs] [] (.bool (trB g t)) []:=by
 have hal:t.all.length=t.stem.length+t.loop.length:=by unfold Trace.all;simp
 by_cases hs:1≤t.loop.length∧t.stem.length+t.loop.length≤8000
 ·have kn:=z629 t.stem t.loop (by omega) (by omega)
  have k1:=z896 g hg t.all (by unfold maxLen;omega)
  by_cases hb:z294 g t.all=true
  ·obtain ⟨x,y,p0,row,F⟩:=trF hg hs hb
   have c2:=z123 row F.rm y
   have hx:=F.hx
   have gp:=F.gp
   have gx:=F.gx
   have gl:=F.gl
   have gr:=F.gr
   rw [hb] at k1
   rw [F.e]
   unfold Trace.all at *
   refine z12 z15 func23 rfl rfl 52 ntmps23 (by simp) ?_
   repeat' ((first|(fail_if_success apply z96 5);(fail_if_success apply z77 5);apply y4 ok;rfl|apply y43;(unfold inI;omega)|apply z6<;>intro _|apply z99 [] [2] [3] kn;(focus (exact z44 (z161 rfl rfl rfl rfl rfl) z69));rfl;rfl;(focus ((repeat' first|exact z17|apply z16)<;>(refine z20 ?_;((exact z5 fun _=>rfl)))));((refine .inr ⟨rfl,?_⟩;repeat' first|exact True.intro|apply y43|exact z105 (fun _=>rfl) _)))<;>conv=>whnf)
   all_goals try (exfalso;omega)
   refine y85 (SealL.reach (π:=[0,1]) (Bn:=[3]) (env:=[(2,.ptr 0 none 0),(3,.ptr 1 none 0),(5,.int t.loop.length),(6,ints (t.stem++t.loop))]) (objs:=[.cells 2 [[lst 2 State.cs g.st,lst 1 encL g.nx]],.cells 2 [[ints t.stem,ints t.loop]]]) ⟨rfl,rfl,by simp,rfl,fun o ho=>by simp at ho;rcases ho with rfl|rfl<;>rfl,⟨rfl,rfl,rfl,z814 rfl rfl rfl (by simp),trivial⟩,rfl⟩) ?_
   conv=>whnf
   repeat' ((first|apply y4 ok;rfl|apply z23;kernel_rfl|refine z13 (i:=0) rfl gp ?_|refine z13 (i:=0) rfl gl ?_|refine z13 (i:=t.loop.length - 1) (by omega) gx ?_|refine z13 (i:=x.toNat) rfl gr ?_|(apply y43;first|omega|unfold inI;omega)|apply z6<;>intro _|apply z4 k1;rfl;rfl|apply z4 c2;rfl;rfl)<;>conv=>whnf)
   all_goals (exact z19 rfl (by grind))
  ·have e:trB g t=false:=by unfold trB;rw [(y72 _).mp hb];simp
   rw [(y72 _).mp hb] at k1
   rw [e]
   unfold Trace.all at *
   refine z12 z15 func23 rfl rfl 52 ntmps23 (by simp) ?_
   repeat' ((first|(fail_if_success apply z96 5);(fail_if_success apply z77 5);apply y4 ok;rfl|apply y43;(unfold inI;omega)|apply z6<;>intro _|apply z99 [] [2] [3] kn;(focus (exact z44 (z161 rfl rfl rfl rfl rfl) z69));rfl;rfl;(focus ((repeat' first|exact z17|apply z16)<;>(refine z20 ?_;((exact z5 fun _=>rfl)))));((refine .inr ⟨rfl,?_⟩;repeat' first|exact True.intro|apply y43|exact z105 (fun _=>rfl) _)))<;>conv=>whnf)
   all_goals try (exfalso;omega)
   refine y85 (SealL.reach (π:=[0,1]) (Bn:=[3]) (env:=[(2,.ptr 0 none 0),(3,.ptr 1 none 0),(5,.int t.loop.length),(6,ints (t.stem++t.loop))]) (objs:=[.cells 2 [[lst 2 State.cs g.st,lst 1 encL g.nx]],.cells 2 [[ints t.stem,ints t.loop]]]) ⟨rfl,rfl,by simp,rfl,fun o ho=>by simp at ho;rcases ho with rfl|rfl<;>rfl,⟨rfl,rfl,rfl,z814 rfl rfl rfl (by simp),trivial⟩,rfl⟩) ?_
   conv=>whnf
   repeat' ((first|apply y4 ok;rfl|apply z23;kernel_rfl|apply z4 k1;rfl;rfl)<;>conv=>whnf)
   all_goals exact z19 rfl rfl
 ·have e:trB g t=false:=by unfold trB;rw [y83 hs];simp
  rw [e]
  refine z12 z15 func23 rfl rfl 52 ntmps23 (by simp) ?_
  repeat' ((first|apply y4 ok;rfl|apply y43;(unfold inI;omega)|apply z6<;>intro _)<;>conv=>whnf)
  all_goals first|exfalso;omega|exact z19 rfl rfl
def Aut.sm (a:Aut):Prop:=a.ini.length≤40∧a.acc.length≤20∧a.ed.length≤2100∧∀ t∈a.ed,t.mx
set_option maxHeartbeats 3200000 in
theorem z775 (P:List Int) (hP:P.length≤100000) (f:Nat) (to:Int) (h:BackOk P f to) (hf:f≤100000):QQ 127 [ints P,.int to] [] (ints (bkw P f to [])) []:=by
 generalize hR:bkw P f to []=R
 have hto:=h
 refine z7 z15 func127 rfl rfl 25 ntmps127 (by simp) ?_
 repeat' (((apply y4 ok;rfl))<;>conv=>whnf)
 refine z64 (fun x:Nat×Int×List Int=>([(0,ints P),(5,.sref 0 0 (x.2.2.length+1))],[.cells 1 ((x.2.1::x.2.2).map enI)])) (fun x=>BackOk P x.1 x.2.1∧bkw P x.1 x.2.1 x.2.2=R∧x.1+x.2.2.length≤100000) (fun x=>x.1) (f,to,[]) ⟨hto,hR,by show f+0≤100000;omega⟩ (by refine swR [0] [] rfl rfl ?_;(repeat' first|exact y86 _|apply y87|constructor)) ?_
 rintro ⟨g,v,tl⟩ ⟨hB,hE,hl⟩
 dsimp only at hB hE hl ⊢
 have hv:0≤v∧v < P.length:=by cases g<;>exact hB.1
 have hg:(P.map enI)[v.toNat]?=some (enI (P.getD v.toNat 0)):=by rw [y51,y45 (by omega),z14 (by omega)];rfl
 by_cases h0:0≤P.getD v.toNat 0
 ·cases g with
  |zero=>exact absurd hB.2 (by omega)
  |succ g =>
   rw [bkw,if_pos h0] at hE
   have hB2:BackOk P g (P.getD v.toNat 0):=by
    rcases hB.2 with h|h
    ·omega
    ·exact h
   generalize P.getD v.toNat 0=y at *
   have hst:(List.map enI (v::tl)).length=tl.length+1∧Stor (List.map enI (v::tl)):=⟨by simp,z62 (fun _=>rfl)⟩
   repeat' ((first|apply y4 ok;rfl|refine z13 (i:=v.toNat) (by simp) hg ?_|refine y43 hst ?_|(apply y43;first|omega|(try dsimp only);simp only [y49,y48,y47,y46,y58,y59];omega)|apply z107|apply z6<;>intro _)<;>conv=>whnf)
   all_goals try (exfalso;omega)
   all_goals refine z24 (g,y,v::tl) ⟨hB2,hE,by show g+(v::tl).length≤100000;rw [y58];omega⟩ (by show g < g+1;omega) (by refine swR [2] [0,1] rfl rfl ?_;(repeat' first|exact y86 _|exact z10 _|refine z50 ?_;((simp;omega))|(refine z9 rfl ?_ ?_);(focus ((repeat' (first|exact z5 (fun _=>rfl)|exact z210 rfl z25|apply z67));done))|constructor))
 ·have hE2:v::tl=R:=by
   cases g with
   |zero=>exact hE
   |succ g=>rw [bkw,if_neg h0] at hE;exact hE
  subst hE2
  generalize P.getD v.toNat 0=y at *
  repeat' ((first|apply y4 ok;rfl|refine z13 (i:=v.toNat) (by simp) hg ?_|apply y43;omega|((apply z8;omega));intro _|apply z107|apply z6<;>intro _)<;>conv=>whnf)
  all_goals try (exfalso;omega)
  all_goals (refine rsD [] [0] rfl ?_;(repeat' first|exact y86 _|(apply z40 rfl rfl rfl);(focus ((repeat ((exact z30 (fun _=>rfl) _)));done));(focus (((simp;done));done))|constructor))
def z905 (k:Nat):List Int:=List.replicate k (-1)
theorem z626 (k:Nat):z905 (k+1)=z905 k++[-1]:=by unfold z905;rw [List.replicate_succ']
theorem z675 {l:List Int} {k:Nat} (h:k < l.length) (x:Int):x∈l.take (k+1)↔x∈l.take k∨x=l[k]:=by
 rw [y50 h,y54,y55]
set_option maxHeartbeats 12800000 in
theorem z453 (rows:List (List Int)) (ini:List Int) (hr:∀ r∈rows,InN rows.length r) (hi:InN rows.length ini) (hn:ini.Nodup) (hN:rows.length≤100000) (hrl:∀ r∈rows,r.length≤1000000000):QQ 125 [lst 1 encL rows,ints ini] [] (.tup [.sref 0 0 (srP rows ini).length,.sref 1 0 (srQ rows ini).length]) [.cells 1 ((srP rows ini).map enI),.cells 1 ((srQ rows ini).map enI)]:=by
 have hil:ini.length≤rows.length:=z164 _ _ hn hi
 refine z7 z15 func125 rfl rfl 91 ntmps125 (by simp) ?_
 repeat' ((first|apply y4 ok;rfl|apply y43;(dsimp only;omega))<;>conv=>whnf)
 refine z64 (fun x:Nat×List Int=>([(0,lst 1 encL rows),(1,ints ini),(6,.sref 0 0 x.2.length),(7,.sref 1 0 rows.length),(8,.int x.1)],[.cells 1 (x.2.map enI),.cells 1 ((mkB rows.length []).map enB)])) (fun x=>x.1≤rows.length∧x.2.length=x.1∧x.2=z905 x.1) (fun x=>rows.length - x.1) (0,[]) ⟨by show 0≤rows.length;omega,rfl,rfl⟩ (by refine swR [0,1] [] rfl rfl ?_;(repeat' first|exact y86 _|(refine z9 rfl ?_ ?_);(focus ((repeat' (first|exact z25|exact z54 rfl));done))|constructor)<;>((refine z57 ?_;rw [z1172,List.map_replicate];rfl))) ?_
 rintro ⟨i,F⟩ ⟨hF1,hFl,hF2⟩
 dsimp only at hF1 hFl hF2 ⊢
 by_cases hi2:i < rows.length
 ·repeat' ((first|apply y4 ok;rfl|(apply y43;first|omega|unfold inI;omega|(try dsimp only);simp only [y49,y48,y47,y46,y58,y59];omega|exact ⟨rfl,z22 rfl z28⟩)|apply z6<;>intro _)<;>conv=>whnf)
  all_goals try (exfalso;omega)
  all_goals refine z24 (i+1,F++[-1]) ⟨hi2,by rw [y47,hFl];rfl,by show _=z905 (i+1);rw [z626,← hF2]⟩ (by show rows.length - (i+1) < _;omega) (by refine swR [3,1] [] rfl rfl ?_;(repeat' first|exact y86 _|exact z10 _|refine z50 ?_;((simp;done))|(first|refine z39 rfl ?_ ?_|refine z9 rfl ?_ ?_);(focus ((repeat' (first|exact z5 (fun _=>rfl)|apply z26));done))|refine z86 ?_ ?_;(focus omega)|constructor))
 ·have e:rows.length=i:=by omega
  have hs0:srS rows ini 0=(ini,F):=by rw [hF2,← e];rfl
  rw [← e] at hFl
  subst e
  clear hF1 hF2 hi2
  repeat' ((first|apply y4 ok;rfl|(apply y43;first|omega|dsimp only;omega|exact z62 (fun _=>rfl))|apply z6<;>intro _)<;>conv=>whnf)
  all_goals try (exfalso;omega)
  all_goals
   refine z64 (fun i:Nat=>([(0,lst 1 encL rows),(1,ints ini),(6,.sref 0 0 rows.length),(7,.sref 1 0 rows.length),(9,.sref 2 0 ini.length),(10,.int i)],[.cells 1 (F.map enI),.cells 1 ((mkB rows.length (ini.take i)).map enB),.cells 1 (ini.map enI)])) (fun i=>i≤ini.length) (fun i=>ini.length - i) 0 (by omega) (by refine swR [0,1,3] [] rfl rfl ?_;(repeat' first|exact y86 _|exact z10 _|refine z50 ?_;(omega)|refine z9 rfl (z5 (fun _=>rfl)) ?_|constructor)) ?_
   intro i hi1
   by_cases hi2:i < ini.length
   ·have hx:=hi ini[i] (y44 _)
    have hset:=z662 (enc:=enB) rfl hx.1 hx.2 (z675 hi2)
    have hml:=mkB_len rows.length (ini.take i)
    repeat' ((first|apply y4 ok;rfl|(apply y43;first|omega|unfold inI;omega)|(first|with_reducible apply z8;omega|apply z8;omega);intro _|apply z6<;>intro _)<;>conv=>whnf)
    all_goals try (exfalso;omega)
    all_goals refine z24 (i+1) (by omega) (by omega) (by refine swR [0,1,2] [] rfl rfl ?_;(repeat' first|exact y86 _|exact z10 _|refine z60 rfl (z5 (fun _=>rfl)) ?_|refine z9 rfl (z5 (fun _=>rfl)) ?_|constructor)<;>(exact z57 hset))
   ·have e:ini.length=i:=by omega
    subst e
    rw [y56]
    repeat' ((first|apply y4 ok;rfl|apply y43;omega|(first|with_reducible apply z8;omega|apply z8;omega);intro _|apply z6<;>intro _)<;>conv=>whnf)
    all_goals try (exfalso;omega)
    refine z64 (fun x:Nat×List Int×List Int=>([(0,lst 1 encL rows),(6,.sref 0 0 rows.length),(7,.sref 1 0 rows.length),(9,.sref 2 0 x.2.1.length),(11,.int x.1)],[.cells 1 (x.2.2.map enI),.cells 1 ((mkB rows.length x.2.1).map enB),.cells 1 (x.2.1.map enI)])) (fun x=>srS rows ini x.1=(x.2.1,x.2.2)∧x.1≤x.2.1.length) (fun x=>rows.length - x.1) (0,ini,F) ⟨hs0,y53 _⟩ (by refine swR [0,1,2] [] rfl rfl ?_;(repeat' first|exact y86 _|exact z10 _|refine z9 rfl (z5 (fun _=>rfl)) ?_|constructor)) ?_
    clear hs0 hFl F
    rintro ⟨i,Q,P⟩ ⟨hS,hiQ⟩
    dsimp only at hS hiQ ⊢
    have hJ:=z375 hr hi hn i
    rw [hS] at hJ
    have hQl:=z164 _ _ hJ.nd hJ.inn
    have hPl:=hJ.len
    dsimp only at hQl hPl
    by_cases hi2:i < Q.length
    ·have hq:=hJ.inn _ (y44 hi2)
     have hS1:srS rows ini (i+1)=visPs Q[i] (Q,P) (rows.getD Q[i].toNat []):=by rw [srS,dif_pos (by rw [hS];exact hi2)];simp only [hS]
     have hqr:Q[i].toNat < rows.length:=by omega
     have hrow:rows.getD Q[i].toNat []=rows[Q[i].toNat]:=z14 hqr
     have hrin:InN rows.length rows[Q[i].toNat]:=hr _ (y44 _)
     have hrl2:=hrl rows[Q[i].toNat] (y44 _)
     rw [hrow] at hS1
     repeat' ((first|apply y4 ok;rfl|apply z6<;>intro _)<;>conv=>whnf)
     all_goals try (exfalso;omega)
     refine z64 (fun y:Nat×List Int×List Int=>([(0,lst 1 encL rows),(6,.sref 0 0 rows.length),(7,.sref 1 0 rows.length),(9,.sref 2 0 y.2.1.length),(11,.int i),(12,.int y.1)],[.cells 1 (y.2.2.map enI),.cells 1 ((mkB rows.length y.2.1).map enB),.cells 1 (y.2.1.map enI)])) (fun y=>visPs Q[i] (Q,P) (rows[Q[i].toNat].take y.1)=(y.2.1,y.2.2)∧y.1≤rows[Q[i].toNat].length) (fun y=>rows[Q[i].toNat].length - y.1) (0,Q,P) ⟨rfl,y53 _⟩ (by refine swR [0,1,2] [] rfl rfl ?_;(repeat' first|exact y86 _|exact z10 _|refine z9 rfl (z5 (fun _=>rfl)) ?_|constructor)) ?_
     rintro ⟨k,Q',P'⟩ ⟨hV,hk⟩
     dsimp only at hV hk ⊢
     obtain ⟨hJ',hi',hu⟩:=PJ.visPs (rows[Q[i].toNat].take k) hJ hi2 rfl (fun x hx=>hrin x (List.mem_of_mem_take hx))
     simp only [hV] at hJ' hi' hu
     have hQl':=z164 _ _ hJ'.nd hJ'.inn
     have hPl':=hJ'.len
     dsimp only at hQl' hPl'
     have hg:(Q'.map enI)[i]?=some (enI Q[i]):=by rw [y51,y45 hi',hu];rfl
     by_cases hk2:k < rows[Q[i].toNat].length
     ·have hx:=hrin rows[Q[i].toNat][k] (y44 _)
      have hv:=z595 (u:=Q[i]) (x:=(Q,P)) hk2
      rw [hV] at hv
      have hkk:(rows[Q[i].toNat].map enI)[k]?=some (enI rows[Q[i].toNat][k]):=by rw [y51,y45 hk2];rfl
      generalize Q[i]=u at *
      generalize rows[u.toNat][k]=v at *
      by_cases hn2:v∈Q'
      ·rw [z469 hn2] at hv
       repeat' ((first|apply y4 ok;rfl|refine z13 (i:=i) rfl hg ?_|refine z13 (i:=k) rfl hkk ?_|refine z437 (enc:=enB) (v:=v) (by rfl) hx.1 hx.2 ?_|(apply y43;first|omega|unfold inI;omega|(try dsimp only);simp only [y49,y48,y47,y46,y58,y59];omega|exact ⟨rfl,z22 rfl z28⟩)|(first|with_reducible apply z52;omega|apply z8;omega);intro _|(first|apply z6|apply z42)<;>intro _)<;>conv=>whnf)
       all_goals first|exfalso;omega|exfalso;contradiction|skip
       all_goals refine z24 (k+1,Q',P') ⟨hv,hk2⟩ (by show rows[u.toNat].length - (k+1) < rows[u.toNat].length - k;omega) (by refine swR [0,1,2] [] rfl rfl ?_;(repeat' first|exact y86 _|exact z10 _|refine z9 rfl (z5 (fun _=>rfl)) ?_|constructor))
      ·rw [z470 hn2] at hv
       have hset:=z662 (enc:=enB) (S:=Q') (S':=Q'++[v]) rfl hx.1 hx.2 (fun x=>by simp)
       repeat' ((first|apply y4 ok;rfl|refine z13 (i:=i) rfl hg ?_|refine z13 (i:=k) rfl hkk ?_|refine z437 (enc:=enB) (v:=v) (by rfl) hx.1 hx.2 ?_|(apply y43;first|omega|unfold inI;omega|(try dsimp only);simp only [y49,y48,y47,y46,y58,y59];omega|exact ⟨rfl,z22 rfl z28⟩)|(first|with_reducible apply z52;omega|apply z8;omega);intro _|(first|apply z6|apply z42)<;>intro _)<;>conv=>whnf)
       all_goals first|exfalso;omega|exfalso;contradiction|skip
       all_goals refine z24 (k+1,Q'++[v],P'.set v.toNat u) ⟨hv,hk2⟩ (by show rows[u.toNat].length - (k+1) < rows[u.toNat].length - k;omega) (by refine swR [0,1,4] [] rfl rfl ?_;(repeat' first|exact y86 _|refine z50 ?_;((simp;done))|(first|refine z39 rfl ?_ ?_|refine z60 rfl ?_ ?_);(focus ((repeat' (first|exact z5 (fun _=>rfl)|apply z26));done))|refine z148 (by omega) ?_|refine z86 ?_ ?_;(focus omega)|constructor)<;>(exact z57 hset))
     ·rw [y57 (by omega)] at hV
      rw [hV] at hS1
      repeat' ((first|apply y4 ok;rfl|refine z13 (i:=i) rfl hg ?_|(apply y43;first|omega|unfold inI;omega)|(first|with_reducible apply z8;omega|with_reducible apply z52;omega|apply z8;omega);intro _|(first|apply z6|apply z78)<;>intro _)<;>conv=>whnf)
      all_goals try (exfalso;omega)
      all_goals refine z24 (i+1,Q',P') ⟨hS1,hi'⟩ (by show rows.length - (i+1) < rows.length - i;omega) (by refine swR [0,1,2] [] rfl rfl ?_;(repeat' first|exact y86 _|exact z10 _|refine z9 rfl (z5 (fun _=>rfl)) ?_|constructor))
    ·have hE:=z1116 (rows:=rows) (ini:=ini) (i:=i) (by rw [hS];show Q.length≤i;omega) (by omega)
     rw [hS] at hE
     obtain ⟨e1,e2⟩:=Prod.mk.inj hE
     rw [← e1,← e2]
     repeat' ((first|apply y4 ok;rfl|apply z6<;>intro _)<;>conv=>whnf)
     all_goals try (exfalso;omega)
     all_goals (refine rsD [0,2] [] rfl ?_;(repeat' first|exact y86 _|exact z10 _|refine z50 ?_;(omega)|refine z9 rfl (z5 (fun _=>rfl)) ?_|apply z80|constructor))
theorem z881 (rows:List (List Int)) (ini:List Int) (hr:∀ r∈rows,InN rows.length r) (hi:InN rows.length ini) (hn:ini.Nodup) (hN:rows.length≤100000) (hrl:∀ r∈rows,r.length≤1000000000):QQ 125 [lst 1 encL rows,ints ini] [] (.tup [ints (srP rows ini),ints (srQ rows ini)]) [] :=
 (z453 rows ini hr hi hn hN hrl).lend [] [0,1] rfl rfl rfl (z918 (z44 (z104 rfl rfl rfl) (z44 (z104 rfl rfl rfl) z69))) z38
theorem rowAt {rows:List (List Int)} {v:Int} (hv:0≤v∧v < rows.length):(rows.map encL)[v.toNat]?=some (encL (rows.getD v.toNat [])):=by
 rw [y51,y45 (by omega),z14 (by omega)];rfl
theorem rowLen {rows:List (List Int)} {M:Nat} (hrl:∀ r∈rows,r.length≤M) (v:Int):(rows.getD v.toNat []).length≤M:=by
 by_cases h:v.toNat < rows.length
 ·rw [z14 h];exact hrl _ (y44 _)
 ·rw [y68,y69 (by omega)];exact y53 _
set_option maxHeartbeats 3200000 in
theorem z1040 (rows:List (List Int)) (v:Int) (hr:∀ r∈rows,InN rows.length r) (hv:0≤v∧v < rows.length) (hN:rows.length≤100000) (hrl:∀ r∈rows,r.length≤1000000000):QQ 126 [lst 1 encL rows,.int v] [] (ints (cycL rows v)) []:=by
 have hg:=rowAt hv
 have hl:=fun w=>rowLen hrl w
 have c1:=z682 (rows.getD v.toNat []) (by have:=hl v;unfold maxLen;omega) v
 have hlv:=hl v
 have c2:=z453 rows [v] hr (z348 hv) (by simp) hN hrl
 have hQ:=z739 hr (z348 hv) (by simp)
 have hB:=z948 hr (z348 hv) (by simp)
 have hPl:=z1119 hr (z348 hv) (by simp)
 have hQl:=z851 hr (z348 hv) (by simp)
 have c3:=fun k hk=>z775 (srP rows [v]) (by omega) rows.length _ (hB k hk) (by omega)
 unfold cycL
 by_cases h:v∈rows.getD v.toNat []
 ·rw [if_pos h]
  rw [y82 h] at c1
  generalize rows.getD v.toNat []=r0 at *
  refine z7 z15 func126 rfl rfl 45 ntmps126 (by simp) ?_
  repeat' ((first|apply y4 ok;rfl|refine z13 (i:=v.toNat) (by simp) hg ?_|apply y43;omega|apply z4 c1;rfl;rfl)<;>conv=>whnf)
  all_goals (refine rsD [] [0] rfl ?_;(repeat' first|exact y86 _|constructor))
 ·rw [if_neg h]
  rw [y83 h] at c1
  generalize hr0:rows.getD v.toNat []=r0 at hg c1 hlv
  generalize srQ rows [v]=Q at *
  generalize srP rows [v]=P at *
  generalize hR:cycT rows P v Q=R
  refine z7 z15 func126 rfl rfl 45 ntmps126 (by simp) ?_
  repeat' ((first|apply y4 ok;rfl|refine z13 (i:=v.toNat) (by simp) hg ?_|apply y43;omega|apply z4 c1;rfl;rfl|apply z99 [] [0] [1,2] c2;(focus ((repeat' first|exact z69|apply z44)<;>rfl));rfl;rfl;(focus ((repeat' first|exact z17|apply z16)<;>(refine z20 ?_;((exact z5 fun _=>rfl)))));((refine .inr ⟨rfl,?_⟩;repeat' first|exact True.intro|apply y43|exact z105 (fun _=>rfl) _)))<;>conv=>whnf)
  refine z64 (fun i:Nat=>([(0,lst 1 encL rows),(1,.int v),(5,ints P),(6,ints Q),(7,.int i)],[])) (fun i=>i≤Q.length∧cycT rows P v (Q.drop i)=R) (fun i=>Q.length - i) 0 ⟨y53 _,hR⟩ (by refine swR [] [1,2] rfl rfl ?_;(repeat' first|exact y86 _|(apply z40 rfl rfl rfl);(focus ((repeat ((exact z30 (fun _=>rfl) _)));done));(focus (((simp;done));done))|constructor)) ?_
  rintro i ⟨hi1,hi2⟩
  by_cases hi3:i < Q.length
  ·have hq:=hQ _ (y44 hi3)
   have hgq:=rowAt hq
   have c4:=z682 (rows.getD Q[i].toNat []) (by have:=hl Q[i];unfold maxLen;omega) v
   have hlq:=hl Q[i]
   have c5:=c3 i hi3
   rw [y80 hi3,cycT] at hi2
   have hgi:(Q.map enI)[i]?=some (enI Q[i]):=by rw [y51,y45 hi3];rfl
   generalize Q[i]=u at *
   by_cases hm:v∈rows.getD u.toNat []
   ·rw [if_pos hm] at hi2
    rw [y82 hm] at c4
    subst hi2
    generalize rows.getD u.toNat []=r1 at *
    repeat' ((first|apply y4 ok;rfl|refine z13 (i:=u.toNat) (by simp) hgq ?_|refine z13 (i:=i) (by simp) hgi ?_|apply y43;omega|apply z6<;>intro _|apply z4 c4;rfl;rfl|apply z4 c5;rfl;rfl)<;>conv=>whnf)
    all_goals try (exfalso;omega)
    all_goals (refine rsD [] [] rfl ?_;(repeat' first|exact y86 _|constructor))
   ·rw [if_neg hm] at hi2
    rw [y83 hm] at c4
    generalize rows.getD u.toNat []=r1 at *
    repeat' ((first|apply y4 ok;rfl|refine z13 (i:=u.toNat) (by simp) hgq ?_|refine z13 (i:=i) (by simp) hgi ?_|(apply y43;first|omega|unfold inI;omega)|apply z6<;>intro _|apply z4 c4;rfl;rfl)<;>conv=>whnf)
    all_goals try (exfalso;omega)
    all_goals refine z24 (i+1) ⟨hi3,hi2⟩ (by omega) (by refine swR [] [] rfl rfl ?_;(repeat' first|exact y86 _|constructor))
  ·have e:Q.length=i:=by omega
   subst e
   rw [List.drop_length,cycT] at hi2
   subst hi2
   repeat' ((first|apply y4 ok;rfl|apply y43;omega|(first|with_reducible apply z8;omega|with_reducible apply z52;omega);intro _|apply z6<;>intro _)<;>conv=>whnf)
   all_goals try (exfalso;omega)
   all_goals (refine rsD [] [0] rfl ?_;(repeat' first|exact y86 _|constructor))
theorem z540 (l:List Int) (n:Nat) (hl:l.length≤1000000) (hn:1≤n) (h0:∀ x∈l,0≤x) (h1:∀ x∈l,x≤1000000000):QQ 128 [ints l,.int n] [] (.sref 0 0 l.length) [.cells 1 ((stL l n).map enI)]:=by
 refine z7 z15 func128 rfl rfl 24 ntmps128 (by simp) ?_
 repeat' (((apply y4 ok;rfl))<;>conv=>whnf)
 refine z64 (fun x:Nat×List Int=>([(0,ints l),(1,.int n),(5,.sref 0 0 x.2.length),(6,.int x.1)],[.cells 1 (x.2.map enI)])) (fun x=>x.1≤l.length∧x.2.length=x.1∧x.2=stL (l.take x.1) n) (fun x=>l.length - x.1) (0,[]) ⟨y53 _,rfl,rfl⟩ (by refine swR [0] [] rfl rfl ?_;(repeat' first|exact y86 _|refine z9 rfl z25 ?_|constructor)) ?_
 rintro ⟨i,F⟩ ⟨hi1,hF1,hF2⟩
 dsimp only at hi1 hF1 hF2 ⊢
 by_cases hi2:i < l.length
 ·have a0:=h0 _ (y44 hi2)
  have a1:=h1 _ (y44 hi2)
  have a2:0≤l[i] / (n:Int):=Int.ediv_nonneg a0 (by omega)
  have a3:l[i] / (n:Int)≤l[i]:=Int.ediv_le_self _ a0
  have hF3:stL (l.take (i+1)) n=F++[l[i] / n]:=by rw [hF2,stL,y50 hi2,y64];rfl
  repeat' ((first|apply y4 ok;rfl|(apply y43;first|omega|unfold inI;omega|(try dsimp only);simp only [y49,y48,y47,y46,y58,y59];omega|exact ⟨rfl,z22 rfl z28⟩)|((with_reducible apply z8;omega));intro _|apply z6<;>intro _)<;>conv=>whnf)
  all_goals try (exfalso;omega)
  all_goals refine z24 (i+1,F++[l[i] / n]) ⟨hi2,by rw [y47,hF1];rfl,hF3.symm⟩ (by show l.length - (i+1) < l.length - i;omega) (by refine swR [2] [] rfl rfl ?_;(repeat' first|exact y86 _|refine z50 ?_;((simp;done))|(refine z39 rfl ?_ ?_);(focus ((repeat' (first|exact z5 (fun _=>rfl)|apply z26));done))|refine z86 ?_ ?_;(focus omega)|constructor))
 ·have e:l.length=i:=by omega
  subst e
  rw [y56] at hF2
  subst hF2
  repeat' ((first|apply y4 ok;rfl|apply y43;omega|((with_reducible apply z8;omega));intro _|apply z6<;>intro _)<;>conv=>whnf)
  all_goals try (exfalso;omega)
  all_goals (refine rsD [0] [] rfl ?_;(repeat' first|exact z10 _|refine z50 ?_;(omega)|refine z9 rfl (z5 (fun _=>rfl)) ?_|constructor))
end Go.Proofs.YtjhgpfaodkchjaaGreat
