/- A part of the proofs over this program: T201, T202, T240. -/
import Derived.Test.YtahhobgjcfionaaGreatG0
import Derived.Test.YtahhobgjcfionaaGreatG1
import Derived.Test.YtahhobgjcfionaaGreatG2
import Derived.Test.YtahhobgjcfionaaGreatG3
import Derived.Test.YtahhobgjcfionaaGreatP0
import Derived.Test.YtahhobgjcfionaaGreatP1
import Derived.Test.YtahhobgjcfionaaGreatP2
import Derived.Test.YtahhobgjcfionaaGreatP3
import Derived.Test.YtahhobgjcfionaaGreatP4
import Derived.Test.YtahhobgjcfionaaGreatP5
import Derived.Test.YtahhobgjcfionaaGreatP6
import Derived.Test.YtahhobgjcfionaaGreatP7
set_option linter.all false
namespace Go.Proofs.YtahhobgjcfionaaGreat
open Go.Gl
attribute [local irreducible] z21 AWP z42 z46 z43 RetS z51
attribute [local irreducible] EndR
theorem z1039 {g:Graph} {ls:List Int} {a:Aut} (hr:∀ r∈z41 g ls a,InN (z41 g ls a).length r) (hi:InN (z41 g ls a).length a.ini) (hn:a.ini.Nodup) (h:trcO g ls a=none):NoAcc (z41 g ls a) a.ini a.acc:=by
 unfold trcO at h
 rw [Option.map_eq_none_iff,← z489 hr hi hn,z1104] at h
 intro x hx hc
 have hxN:=RP.in hr hi hx
 have:=h x ((z159 hr hi x).2 hx)
 cases hb:a.acc.getD (x % a.acc.length).toNat false with
 |false=>rfl
 |true =>
  exfalso
  apply this
  refine ⟨hb,z498.2 ?_⟩
  rw [Int.toNat_of_nonneg hxN.1];exact hc
set_option maxHeartbeats 6400000 in
theorem z752 (g:Graph) (hg:g.mx) (l:List Tree) (hl:Lmx l) (a:Aut) (ha:a.mx):CallsA Tryz.prog 28 [.agg g.cs,lst 3 Tree.cs' l,.agg a.cs] [] (.tup [.agg [.sref 0 0 (mkR g l a).length],.bool (mkOk g l a)]) [.cells 1 ((mkR g l a).map enI)]:=by
 have k0:=z447 g hg l hl a ha
 by_cases hgl:(glB g l && autB a)=true
 ·rw [hgl] at k0
  obtain ⟨h1,hab⟩:=Bool.and_eq_true_iff.1 hgl
  have hG:=(z111 g).1 (by unfold glB at h1;exact (Bool.and_eq_true_iff.1 h1).1)
  have hL:=y9 (by unfold glB at h1;exact (Bool.and_eq_true_iff.1 h1).2)
  have hA:=z120.1 hab
  have k1:CallsA Tryz.prog 16 [.agg g.cs,lst 3 Tree.cs' l,.agg a.cs] [] (.tup [.agg (ftL g l a).cs,.bool (ftO g l a).isSome]) []:=(by refine y4 (z242 g hg l hl a ha) [] [0,1] rfl rfl rfl ?_ ?_<;>(repeat' first|exact y85 _|((apply z97 rfl rfl rfl);(focus ((repeat ((exact z86 (fun _=>rfl) _)));done));(focus (((simp;done));done)))|apply z70|apply z79|constructor))
  have k2:=z434 g hG l hL a hA
  obtain ⟨f1,f2,f3,f4,f5⟩:=z191 hG hA (g.st.map (z35 l))
  have hnd:=hA.2.2.1.nd
  have hac:=hA.1
  have hft:ftO g l a=trcO g (g.st.map (z35 l)) a:=by unfold ftO;rw [if_pos hgl]
  have hmk:mkOk g l a=!(trcO g (g.st.map (z35 l)) a).isSome:=by unfold mkOk;rw [hgl];rfl
  have hno:=z1039 (g:=g) (ls:=g.st.map (z35 l)) (a:=a) f1 f2 hnd
  have hmR:mkR g l a=if mkOk g l a=true then z583 (z41 g (g.st.map (z35 l)) a) a.ini a.acc else []:=rfl
  rw [hft] at k1
  rw [hmk] at hmR ⊢
  generalize ftL g l a=tl at *
  generalize mkR g l a=MR at *
  generalize trcO g (g.st.map (z35 l)) a=tO at *
  cases tO with
  |some p =>
   have e:MR=[]:=hmR
   subst e
   show CallsA _ _ _ _ (.tup [.agg [.sref 0 0 0],.bool false]) [.cells 1 []]
   refine z5 z12 Tryz.func28 rfl rfl 122 Tryz.ntmps28 (by simp) ?_
   repeat' ((first|(apply y83 ok;rfl)|(apply z0 (k0);rfl;rfl)|(apply z0 (k1);rfl;rfl))<;>conv=>whnf)
   all_goals (refine y88 1 ?_;refine rsD [4] [] rfl ?_;(repeat' first|exact y85 _|exact z54|refine z9 rfl (z19) ?_|apply z70|apply z79|constructor))
  |none =>
   have hno:=hno rfl
   have e:MR=z583 (z41 g (g.st.map (z35 l)) a) a.ini a.acc:=hmR
   rw [makeR_eq f1 f2 hno] at e
   subst e
   generalize hrows:z41 g (g.st.map (z35 l)) a=rows at *
   clear hmR hmk hft hrows
   have k3':=z649 rows a.ini f1 f2 (by omega) f4 f5
   rw [← z432 rows a.ini] at k3'
   have k3:CallsA Tryz.prog 99 [lst 1 encL rows,ints a.ini] [] (lst 1 enB (z212 rows a.ini)) []:=(by refine y4 (k3') [] [0] rfl rfl rfl ?_ ?_<;>(repeat' first|exact y85 _|((apply z97 rfl rfl rfl);(focus ((repeat ((exact z86 (fun _=>rfl) _)));done));(focus (((simp;done));done)))|constructor))
   clear k3'
   have k4:CallsA Tryz.prog 100 [lst 1 encL rows,ints a.ini] [] (ints (bfsL rows a.ini)) []:=(by refine y4 (z730 rows a.ini f1 f2 (by omega) f4 (by omega)) [] [0] rfl rfl rfl ?_ ?_<;>(repeat' first|exact y85 _|((apply z97 rfl rfl rfl);(focus ((repeat ((exact z86 (fun _=>rfl) _)));done));(focus (((simp;done));done)))|constructor))
   have hQl:=z362 f1 f2 rows.length
   show CallsA _ _ _ _ (.tup [.agg [.sref 0 0 (rkL rows a.ini a.acc (-1)).length],.bool true]) [.cells 1 ((rkL rows a.ini a.acc (-1)).map enI)]
   refine z5 z12 Tryz.func28 rfl rfl 122 Tryz.ntmps28 (by simp) ?_
   repeat' ((first|(apply y83 ok;rfl)|(apply y44;(dsimp only;omega))|(apply z0 (k0);rfl;rfl)|(apply z0 (k1);rfl;rfl)|(apply z0 (k2);rfl;rfl)|(apply z0 (k3);rfl;rfl)|(apply z0 (k4);rfl;rfl))<;>conv=>whnf)
   have hQ4:(bfsL rows a.ini).length≤3840:=by unfold bfsL;omega
   have k5:=back_ok (bfsL rows a.ini) (by unfold maxLen;omega)
   have hRI:=RoundI.init (rows:=rows) (ini:=a.ini) (acc:=a.acc) f1 f2
   refine z88 (fun x:Nat×List Int×Bool=>([(5,.ptr 0 none 0),(6,.ptr 1 none 0),(10,.ptr 2 none 0),(11,.ptr 3 none 0),(13,lst 1 enB (z212 rows a.ini)),(14,.ptr 5 none 0),(15,ints (bfsL rows a.ini)),(16,.ptr 6 none 0)],[.cells 3 [a.cs],.cells 1 [[.nils]],.cells 1 [[.int a.acc.length]],.cells 1 [[lst 1 encL rows]],.cells 1 (x.2.1.map enI),.cells 1 [[.sref 4 0 rows.length]],.cells 1 [[.bool x.2.2]]])) (fun x=>RoundI rows a.ini a.acc x.1 x.2.1 x.2.2) (fun x=>match x.2.2 with
    |true=>(bfsL rows a.ini).length+1 - x.1+1
    |false=>0) (0,List.replicate rows.length 0,true) hRI (by refine swR [1,2,4,5,6,7,8] [] rfl rfl ?_;(repeat' first|exact y85 _|apply y86|refine z9 rfl (z3 rfl) ?_|constructor)<;>((refine z48 ?_;rw [y75,List.map_replicate];rfl))) ?_
   rintro ⟨t,R,c⟩ hI
   dsimp only at hI
   dsimp only
   have hRl:=hI.rk.len
   cases c with
   |false =>
    obtain ⟨qm,hqm⟩:∃ qm:Nat→Nat→Int,qm=fun (i j:Nat)=>if j < i∧¬ RP rows a.ini (j:Int) then -1 else R.getD j 0:=⟨_,rfl⟩
    have q0:fnL rows.length (qm 0)=R:=by
     apply y73 (by rw [z103];exact hRl.symm)
     intro i h1 h2
     rw [z444,hqm]
     dsimp only
     rw [if_neg (by omega),z18 h2]
    have qE:fnL rows.length (qm rows.length)=rkL rows a.ini a.acc (-1):=by
     apply y73 (by rw [z103,z824])
     intro i h1 h2
     have hi' : i < rows.length:=by rw [z103] at h1;exact h1
     rw [z444,← z18 (d:=0) h2,rkL_at _ hi',hqm]
     dsimp only
     by_cases hp:RP rows a.ini (i:Int)
     ·rw [if_neg (by simp [hp]),if_pos hp]
      have:=hI.fin rfl (i:Int) hp
      rwa [y75] at this
     ·rw [if_pos ⟨hi',hp⟩,if_neg hp]
    have qT:∀ i:Nat,¬ RP rows a.ini (i:Int)→qm (i+1)=upd (qm i) i (-1):=fun i hp=>by
     funext j
     by_cases h2:j=i
     ·subst h2;rw [z27,hqm];dsimp only;rw [if_pos ⟨by omega,hp⟩]
     ·rw [z45 _ _ h2,hqm];dsimp only
      by_cases h3:j < i
      ·simp only [show j < i+1 by omega,h3]
      ·simp only [show ¬ j < i+1 by omega,h3]
    have qF:∀ i:Nat,RP rows a.ini (i:Int)→qm (i+1)=qm i:=fun i hp=>by
     funext j
     rw [hqm];dsimp only
     by_cases h2:j=i
     ·subst h2;rw [if_neg (by simp [hp]),if_neg (by simp [hp])]
     ·by_cases h3:j < i
      ·simp only [show j < i+1 by omega,h3]
      ·simp only [show ¬ j < i+1 by omega,h3]
    clear hqm
    have hbl:=z432 rows a.ini
    repeat' (((apply y83 ok;rfl))<;>conv=>whnf)
    refine z88 (fun i:Nat=>([(6,.ptr 0 none 0),(13,lst 1 enB (z212 rows a.ini)),(14,.ptr 1 none 0),(107,.int rows.length),(108,.int i)],[.cells 1 [[.nils]],.cells 1 [[.sref 2 0 rows.length]],.cells 1 ((fnL rows.length (qm i)).map enI)])) (fun i=>i≤rows.length) (fun i=>rows.length - i) 0 (y54 _) (by refine swR [1,5,4] [] rfl rfl ?_;(repeat' first|exact y85 _|apply y86|refine z9 rfl (z1 (fun _=>rfl)) ?_|constructor)<;>((refine z48 ?_;rw [q0]))) ?_
    intro i hi
    by_cases hil:i < rows.length
    ·have gm:((z212 rows a.ini).map enB)[i]?=some (enB (decide (RP rows a.ini (i:Int)))):=by
      rw [y52,y46 (by omega)]
      simp [z212]
     have g1:=z162 (qm i) hil
     have l1:=z103 rows.length (qm i)
     by_cases hp:RP rows a.ini (i:Int)
     ·rw [y80 hp] at gm
      have e:=qF i hp
      generalize z212 rows a.ini=rb at *
      repeat' ((first|(apply y83 ok;rfl)|(refine z16 (i:=i) rfl gm ?_)|(apply y44;first|omega|(unfold inI;omega))|((apply z2)<;>intro _))<;>conv=>whnf)
      all_goals try (exfalso;omega)
      all_goals refine z40 (i+1) hil (by show rows.length - (i+1) < rows.length - i;omega) (by refine swR [0,1,2] [] rfl rfl ?_;(repeat' first|exact y85 _|apply y86|refine z9 rfl (z1 (fun _=>rfl)) ?_|constructor)<;>((rw [e];(repeat' (exact z13 _)))))
     ·rw [y81 hp] at gm
      have e1:=z142 (N:=rows.length) (u:=i) (qm i) (-1)
      rw [← qT i hp] at e1
      generalize z212 rows a.ini=rb at *
      repeat' ((first|(apply y83 ok;rfl)|(refine z16 (i:=i) rfl gm ?_)|(refine z16 (i:=i) rfl g1 ?_)|(apply y44;first|omega|(unfold inI;omega))|((apply z2)<;>intro _))<;>conv=>whnf)
      all_goals try (exfalso;omega)
      all_goals refine z40 (i+1) hil (by show rows.length - (i+1) < rows.length - i;omega) (by refine swR [0,1,2] [] rfl rfl ?_;(repeat' first|exact y85 _|apply y86|refine z78 rfl (z1 (fun _=>rfl)) ?_|constructor)<;>((refine z48 ?_;exact e1)))
    obtain rfl:i=rows.length:=by omega
    rw [qE,z824]
    repeat' ((first|(apply y83 ok;rfl)|(apply y44;omega)|((first|(with_reducible apply z4;omega)|(apply z4;omega));intro _)|((first|apply z2|apply z37)<;>intro _))<;>conv=>whnf)
    all_goals try (exfalso;omega)
    all_goals (refine rsD [2] [] rfl ?_;(repeat' first|exact y85 _|exact z13 _|refine z9 rfl (z1 (fun _=>rfl)) ?_|constructor))
   |true =>
    have hps:=hI.pass f1 f2 hno
    have hlt:=hI.lt rfl
    repeat' ((first|(apply y83 ok;rfl)|(apply z309 [] [7] k5;rfl;rfl;rfl))<;>conv=>whnf)
    refine y84 (SealW.reach (env:=[(5,.ptr 1 none 0),(6,.ptr 2 none 0),(10,.ptr 3 none 0),(11,.ptr 4 none 0),(13,lst 1 enB (z212 rows a.ini)),(14,.ptr 6 none 0),(15,ints (bfsL rows a.ini)),(16,.ptr 7 none 0),(59,.fn (.func 170) [] [.ptr 0 none 0])]) (objs:=[.cells 1 [[ints (bfsL rows a.ini)]],.cells 3 [a.cs],.cells 1 [[.nils]],.cells 1 [[.int a.acc.length]],.cells 1 [[lst 1 encL rows]],.cells 1 (R.map enI),.cells 1 [[.sref 5 0 rows.length]],.cells 1 [[.bool false]]]) [7,0,1,2,3,4,5,6] [] rfl rfl rfl rfl ?_ ?_) ?_
    ·(repeat' first|exact y85 _|constructor)
    ·(repeat' first|exact y85 _|exact z13 _|apply y86|refine z9 rfl (z1 (fun _=>rfl)) ?_|constructor)
    refine z690 (M:=8) (L:=bfsL rows a.ini) back1 ⟨_,_,Tryz.func170,rfl,rfl⟩ rfl (Nat.le_of_ble_eq_true rfl) (Nat.le_of_ble_eq_true rfl) (by unfold maxLen;omega) (by kernel_rfl) (by decide)
     (fun x:List Int×Bool=>[.cells 3 [a.cs],.cells 1 [[.nils]],.cells 1 [[.int a.acc.length]],.cells 1 [[lst 1 encL rows]],.cells 1 (x.1.map enI),.cells 1 [[.sref 5 0 rows.length]],.cells 1 [[.bool x.2]]])
     (fun k x=>pst rows a.acc (bfsL rows a.ini) R k=x) (R,false) rfl (fun _=>rfl) (z896 _ _) ?_ ?_
    ·intro k x hk hx
     have hpi:=pst_inv (acc:=a.acc) f1 f2 hno hI.rk (k+1)
     have hpg:=z650 f1 f2 hRl hI.gr ((bfsL rows a.ini).length - (k+1)) (k+1) (by omega)
     have hst:=z895 (rows:=rows) (acc:=a.acc) (R:=R) hk
     rw [hx] at hpi hpg hst
     obtain ⟨R1,c1⟩:=x
     dsimp only at hpi hpg ⊢
     have hu:=(z159 f1 f2 _).1 (y45 hk)
     generalize (bfsL rows a.ini)[k]=u at *
     have huN:=RP.in f1 f2 hu
     have hRl1:=hpi.len
     rw [z480] at hst
     dsimp only at hst
     have hgu:=hpg u hu
     have hle:=z1067 (acc:=a.acc) (R:=R1) hu hpi.hi
     have hWs:=z927 (rows:=rows) (acc:=a.acc) ((bfsL rows a.ini).length+1) u
     have hrowR:∀ v∈rows.getD u.toNat [],RP rows a.ini v:=fun v hv=>.step hu hv
     have hv0:∀ v∈rows.getD u.toNat [],0≤R1.getD v.toNat 0∧R1.getD v.toNat 0≤4000:=fun v hv=>by
      have h1:=hpi.lo v (hrowR v hv)
      have h2:=hpi.hi v (hrowR v hv)
      have h3:=z1018 (rows:=rows) (acc:=a.acc) t v
      have h4:=z927 (rows:=rows) (acc:=a.acc) (bfsL rows a.ini).length v
      omega
     have hrk:rkU rows a.acc R1 u=rkP R1 (rows.getD u.toNat [])+(if a.acc.getD (u % a.acc.length).toNat false=true∧0 < (rows.getD u.toNat []).length then 1 else 0):=rk_impl fun v hv=>(hv0 v hv).1
     have hm0:0≤u % (a.acc.length:Int):=Int.emod_nonneg _ (by omega)
     have hm1:u % (a.acc.length:Int) < a.acc.length:=Int.emod_lt_of_pos _ (by omega)
     have ga:(a.acc.map enB)[(u % (a.acc.length:Int)).toNat]?=some (enB (a.acc.getD (u % (a.acc.length:Int)).toNat false)):=by
      rw [y52,y46 (by omega),z18 (by omega)];rfl
     have grow:(rows.map encL)[u.toNat]?=some (encL (rows.getD u.toNat [])):=by
      rw [y52,y46 (by omega),z18 (by omega)];rfl
     have gu:(R1.map enI)[u.toNat]?=some (enI (R1.getD u.toNat 0)):=by
      rw [y52,y46 (by omega),z18 (by omega)];rfl
     have hrb:(rows.getD u.toNat []).length≤1000000000:=by rw [z18 (by omega)];exact f4 _ (y45 _)
     have hrN:∀ v∈rows.getD u.toNat [],0≤v∧v < rows.length:=fun v hv=>RP.in f1 f2 (hrowR v hv)
     clear hrowR hle hpg hpi hx hps hI hRI hQl
     rw [hrk] at hst hgu
     clear hrk
     generalize rows.getD u.toNat []=row at *
     generalize a.acc.getD (u % (a.acc.length:Int)).toNat false=z at *
     have hpr:∀ j,0≤rkP R1 (row.take j)∧rkP R1 (row.take j)≤4000:=fun j=>⟨(z104 _ _ _).1,z192 (by omega) fun v hv=>(hv0 v (List.mem_of_mem_take hv)).2⟩
     repeat' ((first|(apply y83 ok;rfl)|(refine z16 (i:=u.toNat) rfl grow ?_)|(apply y44;omega))<;>conv=>whnf)
     refine z88 (fun j:Nat=>([(5,.ptr 1 none 0),(10,.ptr 3 none 0),(11,.ptr 4 none 0),(14,.ptr 6 none 0),(16,.ptr 7 none 0),(18,.int u),(19,.int (rkP R1 (row.take j))),(65,ints row),(66,.int row.length),(67,.int j)],[.cells 1 [[ints (bfsL rows a.ini)]],.cells 3 [a.cs],.cells 1 [[.nils]],.cells 1 [[.int a.acc.length]],.cells 1 [[lst 1 encL rows]],.cells 1 (R1.map enI),.cells 1 [[.sref 5 0 rows.length]],.cells 1 [[.bool c1]]])) (fun j=>j≤row.length) (fun j=>row.length - j) 0 (y54 _) (by refine swR [0,1,2,3,4,5,6,7] [] rfl rfl ?_;(repeat' first|exact y85 _|exact z13 _|apply y86|refine z9 rfl (z1 (fun _=>rfl)) ?_|constructor)) ?_
     intro j hj
     by_cases hjl:j < row.length
     ·have gv:(row.map enI)[j]?=some (enI row[j]):=by rw [y52,y46 hjl];rfl
      have hvN:=hrN _ (y45 hjl)
      have gR:(R1.map enI)[(row[j]).toNat]?=some (enI (R1.getD (row[j]).toNat 0)):=by
       rw [y52,y46 (by omega),z18 (by omega)];rfl
      have ht:=rkP_take (R:=R1) hjl
      have hp1:=hpr j
      have hv1:=hv0 _ (y45 hjl)
      generalize row[j]=v at *
      generalize rkP R1 (row.take j)=q1 at *
      generalize R1.getD v.toNat 0=rv at *
      repeat' ((first|(apply y83 ok;rfl)|(apply z7;kernel_rfl)|(refine z16 (i:=j) rfl gv ?_)|(refine z16 (i:=v.toNat) rfl gR ?_)|(apply y44;first|omega|(unfold inI;omega))|((first|(with_reducible apply z33;omega)|(apply z4;omega));intro _)|((first|apply z2|apply z8|apply z47)<;>intro _))<;>conv=>whnf)
      all_goals try (exfalso;omega)
      all_goals refine z40 (j+1) (by show j+1≤_;omega) (by show row.length - (j+1) < row.length - j;omega) (by refine swR [0,1,2,3,4,5,6,7] [] rfl rfl ?_;(repeat' first|exact y85 _|exact z13 _|(refine z184 ?_;omega)|apply y86|refine z9 rfl (z1 (fun _=>rfl)) ?_|constructor)<;>((rw [ht];(repeat' (fail)))))
     obtain rfl:j=row.length:=by omega
     rw [y55]
     have hp1:=hpr row.length
     rw [y55] at hp1
     clear hpr hv0 hrN
     generalize rkP R1 row=q at *
     have gs:∀ v,(R1.map enI).set u.toNat (enI v)=(R1.set u.toNat v).map enI:=fun v=>by rw [List.map_set]
     generalize R1.getD u.toNat 0=ru at *
     by_cases hz:z=true∧0 < row.length
     ·rw [if_pos hz] at hst hgu
      obtain ⟨rfl,hrl⟩:=hz
      by_cases hc:ru < q+1
      ·rw [if_pos hc] at hst
       have gs1:=gs (q+1)
       repeat' ((first|(apply y83 ok;rfl)|(apply z7;kernel_rfl)|(refine z16 (i:=u.toNat) rfl grow ?_)|(refine z16 (i:=(u % (a.acc.length:Int)).toNat) rfl ga ?_)|(refine z16 (i:=u.toNat) rfl gu ?_)|(apply y44;first|omega|(unfold inI;omega))|((first|(with_reducible apply z4;omega)|(apply z4;omega));intro _)|((first|apply z2|apply z8)<;>intro _))<;>conv=>whnf)
       all_goals try (exfalso;omega)
       all_goals exact EndR.mk (R1.set u.toNat (q+1),true) hst (by refine swR [0,1,2,3,4,5,6,7] [] rfl rfl ?_;(repeat' first|exact y85 _|apply y86|refine z78 rfl (z1 (fun _=>rfl)) ?_|refine z599 (by omega) ?_|constructor)<;>((refine z48 ?_;exact gs1)))
      ·rw [if_neg hc] at hst
       repeat' ((first|(apply y83 ok;rfl)|(apply z7;kernel_rfl)|(refine z16 (i:=u.toNat) rfl grow ?_)|(refine z16 (i:=(u % (a.acc.length:Int)).toNat) rfl ga ?_)|(refine z16 (i:=u.toNat) rfl gu ?_)|(apply y44;first|omega|(unfold inI;omega))|((first|(with_reducible apply z4;omega)|(apply z4;omega));intro _)|((first|apply z2|apply z8)<;>intro _))<;>conv=>whnf)
       all_goals try (exfalso;omega)
       all_goals exact EndR.mk (R1,c1) hst (by refine swR [0,1,2,3,4,5,6,7] [] rfl rfl ?_;(repeat' first|exact y85 _|exact z13 _|apply y86|refine z9 rfl (z1 (fun _=>rfl)) ?_|constructor))
     ·rw [if_neg hz,Int.add_zero] at hst hgu
      cases z with
      |true =>
       have hrl:row.length=0:=by
        rcases Nat.eq_zero_or_pos row.length with h|h
        ·exact h
        ·exact absurd ⟨rfl,h⟩ hz
       by_cases hc:ru < q
       ·rw [if_pos hc] at hst
        have gs1:=gs (q)
        repeat' ((first|(apply y83 ok;rfl)|(apply z7;kernel_rfl)|(refine z16 (i:=u.toNat) rfl grow ?_)|(refine z16 (i:=(u % (a.acc.length:Int)).toNat) rfl ga ?_)|(refine z16 (i:=u.toNat) rfl gu ?_)|(apply y44;omega)|((first|(with_reducible apply z4;omega)|(apply z4;omega));intro _)|((first|apply z2|apply z8)<;>intro _))<;>conv=>whnf)
        all_goals try (exfalso;omega)
        all_goals exact EndR.mk (R1.set u.toNat (q),true) hst (by refine swR [0,1,2,3,4,5,6,7] [] rfl rfl ?_;(repeat' first|exact y85 _|apply y86|refine z78 rfl (z1 (fun _=>rfl)) ?_|refine z599 (by omega) ?_|constructor)<;>((refine z48 ?_;exact gs1)))
       ·rw [if_neg hc] at hst
        repeat' ((first|(apply y83 ok;rfl)|(apply z7;kernel_rfl)|(refine z16 (i:=u.toNat) rfl grow ?_)|(refine z16 (i:=(u % (a.acc.length:Int)).toNat) rfl ga ?_)|(refine z16 (i:=u.toNat) rfl gu ?_)|(apply y44;omega)|((first|(with_reducible apply z4;omega)|(apply z4;omega));intro _)|((first|apply z2|apply z8)<;>intro _))<;>conv=>whnf)
        all_goals try (exfalso;omega)
        all_goals exact EndR.mk (R1,c1) hst (by refine swR [0,1,2,3,4,5,6,7] [] rfl rfl ?_;(repeat' first|exact y85 _|exact z13 _|apply y86|refine z9 rfl (z1 (fun _=>rfl)) ?_|constructor))
      |false =>
       by_cases hc:ru < q
       ·rw [if_pos hc] at hst
        have gs1:=gs (q)
        repeat' ((first|(apply y83 ok;rfl)|(apply z7;kernel_rfl)|(refine z16 (i:=(u % (a.acc.length:Int)).toNat) rfl ga ?_)|(refine z16 (i:=u.toNat) rfl gu ?_)|(apply y44;omega)|((first|(with_reducible apply z4;omega)|(apply z4;omega));intro _)|((first|apply z2|apply z8)<;>intro _))<;>conv=>whnf)
        all_goals try (exfalso;omega)
        all_goals exact EndR.mk (R1.set u.toNat (q),true) hst (by refine swR [0,1,2,3,4,5,6,7] [] rfl rfl ?_;(repeat' first|exact y85 _|apply y86|refine z78 rfl (z1 (fun _=>rfl)) ?_|refine z599 (by omega) ?_|constructor)<;>((refine z48 ?_;exact gs1)))
       ·rw [if_neg hc] at hst
        repeat' ((first|(apply y83 ok;rfl)|(apply z7;kernel_rfl)|(refine z16 (i:=(u % (a.acc.length:Int)).toNat) rfl ga ?_)|(refine z16 (i:=u.toNat) rfl gu ?_)|(apply y44;omega)|((first|(with_reducible apply z4;omega)|(apply z4;omega));intro _)|((first|apply z2|apply z8)<;>intro _))<;>conv=>whnf)
        all_goals try (exfalso;omega)
        all_goals exact EndR.mk (R1,c1) hst (by refine swR [0,1,2,3,4,5,6,7] [] rfl rfl ?_;(repeat' first|exact y85 _|exact z13 _|apply y86|refine z9 rfl (z1 (fun _=>rfl)) ?_|constructor))
    ·intro x hx
     rw [z894] at hx
     rw [hx] at hps
     obtain ⟨R1,c1⟩:=x
     dsimp only at hps ⊢
     conv=>whnf
     repeat' (((apply y83 ok;rfl))<;>conv=>whnf)
     have hμ:∀ c:Bool,(match c with
      |true=>(bfsL rows a.ini).length+1 - (t+1)+1
      |false=>0) < (bfsL rows a.ini).length+1 - t+1:=by
      intro c
      cases c
      ·show 0 < _;omega
      ·show (bfsL rows a.ini).length+1 - (t+1)+1 < _;omega
     all_goals refine z40 (t+1,R1,c1) hps (hμ c1) (by refine swR [1,2,3,4,5,6,8] [] rfl rfl ?_;(repeat' first|exact y85 _|exact z13 _|apply y86|refine z9 rfl (z1 (fun _=>rfl)) ?_|constructor))
 ·have e:mkOk g l a=false:=by unfold mkOk;rw [(y70 _).mp hgl];rfl
  have e2:mkR g l a=[]:=by unfold mkR;rw [e];rfl
  rw [e,e2]
  rw [(y70 _).mp hgl] at k0
  show CallsA _ _ _ _ (.tup [.agg [.sref 0 0 0],.bool false]) [.cells 1 []]
  refine z5 z12 Tryz.func28 rfl rfl 122 Tryz.ntmps28 (by simp) ?_
  repeat' ((first|(apply y83 ok;rfl)|(apply z0 (k0);rfl;rfl))<;>conv=>whnf)
  all_goals (refine y88 1 ?_;refine rsD [3] [] rfl ?_;(repeat' first|exact y85 _|exact z54|refine z9 rfl (z19) ?_|apply z70|apply z79|constructor))
end Go.Proofs.YtahhobgjcfionaaGreat
namespace Go.Proofs.YtahhobgjcfionaaGreat
open Go.Gl
attribute [local irreducible] z21 AWP z42 z46 z43 RetS z51
theorem z812 (g:Graph) (hg:g.mx) (l:List Tree) (hl:Lmx l) (a:Aut) (ha:a.mx):CallsA Tryz.prog 30 [.agg g.cs,lst 3 Tree.cs' l,.agg a.cs] [] (.tup [.agg (Cert.mk (mkR g l a)).cs,.bool (mkOk g l a)]) []:=(by refine y4 (z718 g hg l hl a ha) [] [0] rfl rfl rfl ?_ ?_<;>(repeat' first|exact y85 _|((apply z97 rfl rfl rfl);(focus ((repeat ((exact z86 (fun _=>rfl) _)));done));(focus (((simp;done));done)))|apply z70|apply z79|constructor))
noncomputable def cyB (g:Graph) (l:List Tree) (f:Tree):Bool:=ngS f && mkOk g l (ngA f)
noncomputable def cyR (g:Graph) (l:List Tree) (f:Tree):List Int:=if ngS f=true then mkR g l (ngA f) else []
theorem cyR_le (g:Graph) (l:List Tree) (f:Tree):(Cert.mk (cyR g l f)).ranks.length≤3840:=by
 show (cyR g l f).length≤3840
 unfold cyR
 split
 ·exact z1091.2.1
 ·simp
theorem z549 (g:Graph) (hg:g.mx) (l:List Tree) (hl:Lmx l) (f:Tree) (hf:f.mx):CallsA Tryz.prog 55 [.agg g.cs,lst 3 Tree.cs' l,z24 Tree.cs' f] [] (.tup [.agg [.sref 0 0 (Cert.mk (cyR g l f)).ranks.length],.bool (cyB g l f)]) [.cells 1 ((Cert.mk (cyR g l f)).ranks.map enI)]:=by
 have cN:=z225 f hf
 have cM:=z752 g hg l hl (ngA f) (z735 f)
 show CallsA _ _ _ _ (.tup [.agg [.sref 0 0 (cyR g l f).length],_]) [.cells 1 ((cyR g l f).map enI)]
 unfold cyB cyR
 generalize mkOk g l (ngA f)=q at *
 generalize mkR g l (ngA f)=R at *
 generalize ngA f=a at *
 generalize ngS f=z at *
 rw [y13 f] at *
 cases z
 ·refine z5 z12 Tryz.func55 rfl rfl 24 Tryz.ntmps55 (by simp) ?_
  repeat' ((first|(apply y83 ok;rfl)|(apply z0 (cN);rfl;rfl))<;>conv=>whnf)
  all_goals (refine y88 1 ?_;refine rsD [4] [] rfl ?_;(repeat' first|exact y85 _|exact z54|refine z9 rfl (z19) ?_|apply z70|apply z79|constructor))
 ·refine z5 z12 Tryz.func55 rfl rfl 24 Tryz.ntmps55 (by simp) ?_
  repeat' ((first|(apply y83 ok;rfl)|(apply z0 (cN);rfl;rfl)|(apply z64 [] [4] cM;rfl;rfl;rfl;(focus ((repeat' first|exact z10|apply z14)<;>(refine z26 ?_;((exact z1 fun _=>rfl)))))))<;>conv=>whnf)
  all_goals (refine rsD [4] [] rfl ?_;(repeat' first|exact y85 _|exact z13 _|refine z9 rfl (z1 (fun _=>rfl)) ?_|constructor))
theorem z576 (g:Graph) (hg:g.mx) (l:List Tree) (hl:Lmx l) (f:Tree) (hf:f.mx):CallsA Tryz.prog 54 [.agg g.cs,lst 3 Tree.cs' l,z24 Tree.cs' f] [] (.tup [.agg (Cert.mk (cyR g l f)).cs,.bool (cyB g l f)]) []:=by
 have cN:=z219 f hf
 have cM:=z812 g hg l hl (ngA f) (z735 f)
 show CallsA _ _ _ _ (.tup [.agg [ints (cyR g l f)],_]) []
 unfold cyB cyR
 have e:(Cert.mk (mkR g l (ngA f))).cs=[ints (mkR g l (ngA f))]:=rfl
 rw [e] at cM
 clear e
 generalize mkOk g l (ngA f)=q at *
 generalize mkR g l (ngA f)=R at *
 generalize ngA f=a at *
 generalize ngS f=z at *
 rw [y13 f] at *
 cases z
 ·show CallsA _ _ _ _ (.tup [.agg [.list 1 0 []],_]) []
  refine z5 z12 Tryz.func54 rfl rfl 24 Tryz.ntmps54 (by simp) ?_
  repeat' ((first|(apply y83 ok;rfl)|(apply z0 (cN);rfl;rfl))<;>conv=>whnf)
  all_goals (refine rsD [] [] rfl ?_;(repeat' first|exact y85 _|exact z71|apply z70|apply z79|constructor))
 ·refine z5 z12 Tryz.func54 rfl rfl 24 Tryz.ntmps54 (by simp) ?_
  repeat' ((first|(apply y83 ok;rfl)|(apply z0 (cN);rfl;rfl)|(apply z0 (cM);rfl;rfl))<;>conv=>whnf)
  all_goals (refine rsD [] [] rfl ?_;(repeat' first|exact y85 _|constructor))
end Go.Proofs.YtahhobgjcfionaaGreat
