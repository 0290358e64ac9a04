/- A part of the proofs over this program: T201, T29A, T29C, T202, T166, T204, T212, T98, T43R, T211, T214, T242, T248. -/
import Derived.Test.YtahhobgjcfionaaGreatG0
import Derived.Test.YtahhobgjcfionaaGreatG1
import Derived.Test.YtahhobgjcfionaaGreatG2
import Derived.Test.YtahhobgjcfionaaGreatG3
import Derived.Test.YtahhobgjcfionaaGreatP0
import Derived.Test.YtahhobgjcfionaaGreatP1
import Derived.Test.YtahhobgjcfionaaGreatP2
import Derived.Test.YtahhobgjcfionaaGreatP3
import Derived.Test.YtahhobgjcfionaaGreatP4
import Derived.Test.YtahhobgjcfionaaGreatP5
import Derived.Test.YtahhobgjcfionaaGreatP6
set_option linter.all false
namespace Go.Proofs.YtahhobgjcfionaaGreat
open Go.Gl
attribute [local irreducible] z19 AWP z36 z44 z39 RetS z47
attribute [local irreducible] EndR
theorem z647 {g:Graph} {ls:List Int} {a:Aut} (hr:∀ r∈z38 g ls a,InN (z38 g ls a).length r) (hi:InN (z38 g ls a).length a.ini) (hn:a.ini.Nodup) (h:trcO g ls a=none):NoAcc (z38 g ls a) a.ini a.acc:=by
 unfold trcO at h
 rw [Option.map_eq_none_iff,← z433 hr hi hn,z680] at h
 intro x hx hc
 have hxN:=RP.in hr hi hx
 have:=h x ((z134 hr hi x).2 hx)
 cases hb:a.acc.getD (x % a.acc.length).toNat false with
 |false=>rfl
 |true =>
  exfalso
  apply this
  refine ⟨hb,z358.2 ?_⟩
  rw [Int.toNat_of_nonneg hxN.1];exact hc
set_option maxHeartbeats 6400000 in
theorem z696 (g:Graph) (hg:g.mx) (l:List Tree) (hl:Lmx l) (a:Aut) (ha:a.mx):CallsA Tryz.prog 28 [.agg g.cs,lst 3 Tree.cs' l,.agg a.cs] [] (.tup [.agg [.sref 0 0 (mkR g l a).length],.bool (mkOk g l a)]) [.cells 1 ((mkR g l a).map enI)]:=by
 have k0:=z561 g hg l hl a ha
 by_cases hgl:(glB g l && autB a)=true
 ·rw [hgl] at k0
  obtain ⟨h1,hab⟩:=Bool.and_eq_true_iff.1 hgl
  have hG:=(z159 g).1 (by unfold glB at h1;exact (Bool.and_eq_true_iff.1 h1).1)
  have hL:=y7 (by unfold glB at h1;exact (Bool.and_eq_true_iff.1 h1).2)
  have hA:=z126.1 hab
  have k1:CallsA Tryz.prog 16 [.agg g.cs,lst 3 Tree.cs' l,.agg a.cs] [] (.tup [.agg (ftL g l a).cs,.bool (ftO g l a).isSome]) []:=(by refine y4 (z390 g hg l hl a ha) [] [0,1] rfl rfl rfl ?_ ?_<;>(repeat' first|exact y78 _|((apply z45 rfl rfl rfl);(focus ((repeat ((exact z37 (fun _=>rfl) _)));done));(focus (((simp;done));done)))|apply z42|apply z88|constructor))
  have k2:=z548 g hG l hL a hA
  obtain ⟨f1,f2,f3,f4,f5⟩:=z221 hG hA (g.st.map (z50 l))
  have hnd:=hA.2.2.1.nd
  have hac:=hA.1
  have hft:ftO g l a=trcO g (g.st.map (z50 l)) a:=by unfold ftO;rw [if_pos hgl]
  have hmk:mkOk g l a=!(trcO g (g.st.map (z50 l)) a).isSome:=by unfold mkOk;rw [hgl];rfl
  have hno:=z647 (g:=g) (ls:=g.st.map (z50 l)) (a:=a) f1 f2 hnd
  have hmR:mkR g l a=if mkOk g l a=true then z531 (z38 g (g.st.map (z50 l)) a) a.ini a.acc else []:=rfl
  rw [hft] at k1
  rw [hmk] at hmR ⊢
  generalize ftL g l a=tl at *
  generalize mkR g l a=MR at *
  generalize trcO g (g.st.map (z50 l)) a=tO at *
  cases tO with
  |some p =>
   have e:MR=[]:=hmR
   subst e
   show CallsA _ _ _ _ (.tup [.agg [.sref 0 0 0],.bool false]) [.cells 1 []]
   refine z7 z16 Tryz.func28 rfl rfl 122 Tryz.ntmps28 (by simp) ?_
   repeat' ((first|(apply y76 ok;rfl)|(apply z6 (k0);rfl;rfl)|(apply z6 (k1);rfl;rfl))<;>conv=>whnf)
   all_goals (refine y81 1 ?_;refine rsD [4] [] rfl ?_;(repeat' first|exact y78 _|exact z48|refine z10 rfl (z32) ?_|apply z42|apply z88|constructor))
  |none =>
   have hno:=hno rfl
   have e:MR=z531 (z38 g (g.st.map (z50 l)) a) a.ini a.acc:=hmR
   rw [makeR_eq f1 f2 hno] at e
   subst e
   generalize hrows:z38 g (g.st.map (z50 l)) a=rows at *
   clear hmR hmk hft hrows
   have k3':=z590 rows a.ini f1 f2 (by omega) f4 f5
   rw [← z546 rows a.ini] at k3'
   have k3:CallsA Tryz.prog 99 [lst 1 encL rows,ints a.ini] [] (lst 1 enB (z220 rows a.ini)) []:=(by refine y4 (k3') [] [0] rfl rfl rfl ?_ ?_<;>(repeat' first|exact y78 _|((apply z45 rfl rfl rfl);(focus ((repeat ((exact z37 (fun _=>rfl) _)));done));(focus (((simp;done));done)))|constructor))
   clear k3'
   have k4:CallsA Tryz.prog 100 [lst 1 encL rows,ints a.ini] [] (ints (bfsL rows a.ini)) []:=(by refine y4 (z671 rows a.ini f1 f2 (by omega) f4 (by omega)) [] [0] rfl rfl rfl ?_ ?_<;>(repeat' first|exact y78 _|((apply z45 rfl rfl rfl);(focus ((repeat ((exact z37 (fun _=>rfl) _)));done));(focus (((simp;done));done)))|constructor))
   have hQl:=z398 f1 f2 rows.length
   show CallsA _ _ _ _ (.tup [.agg [.sref 0 0 (rkL rows a.ini a.acc (-1)).length],.bool true]) [.cells 1 ((rkL rows a.ini a.acc (-1)).map enI)]
   refine z7 z16 Tryz.func28 rfl rfl 122 Tryz.ntmps28 (by simp) ?_
   repeat' ((first|(apply y76 ok;rfl)|(apply y36;(dsimp only;omega))|(apply z6 (k0);rfl;rfl)|(apply z6 (k1);rfl;rfl)|(apply z6 (k2);rfl;rfl)|(apply z6 (k3);rfl;rfl)|(apply z6 (k4);rfl;rfl))<;>conv=>whnf)
   have hQ4:(bfsL rows a.ini).length≤3840:=by unfold bfsL;omega
   have k5:=back_ok (bfsL rows a.ini) (by unfold maxLen;omega)
   have hRI:=RoundI.init (rows:=rows) (ini:=a.ini) (acc:=a.acc) f1 f2
   refine z65 (fun x:Nat×List Int×Bool=>([(5,.ptr 0 none 0),(6,.ptr 1 none 0),(10,.ptr 2 none 0),(11,.ptr 3 none 0),(13,lst 1 enB (z220 rows a.ini)),(14,.ptr 5 none 0),(15,ints (bfsL rows a.ini)),(16,.ptr 6 none 0)],[.cells 3 [a.cs],.cells 1 [[.nils]],.cells 1 [[.int a.acc.length]],.cells 1 [[lst 1 encL rows]],.cells 1 (x.2.1.map enI),.cells 1 [[.sref 4 0 rows.length]],.cells 1 [[.bool x.2.2]]])) (fun x=>RoundI rows a.ini a.acc x.1 x.2.1 x.2.2) (fun x=>match x.2.2 with
    |true=>(bfsL rows a.ini).length+1 - x.1+1
    |false=>0) (0,List.replicate rows.length 0,true) hRI (by refine swR [1,2,4,5,6,7,8] [] rfl rfl ?_;(repeat' first|exact y78 _|apply y79|refine z10 rfl (z64 rfl) ?_|constructor)<;>((refine z26 ?_;rw [y69,List.map_replicate];rfl))) ?_
   rintro ⟨t,R,c⟩ hI
   dsimp only at hI
   dsimp only
   have hRl:=hI.rk.len
   cases c with
   |false =>
    obtain ⟨qm,hqm⟩:∃ qm:Nat→Nat→Int,qm=fun (i j:Nat)=>if j < i∧¬ RP rows a.ini (j:Int) then -1 else R.getD j 0:=⟨_,rfl⟩
    have q0:fnL rows.length (qm 0)=R:=by
     apply y67 (by rw [z95];exact hRl.symm)
     intro i h1 h2
     rw [z394,hqm]
     dsimp only
     rw [if_neg (by omega),z20 h2]
    have qE:fnL rows.length (qm rows.length)=rkL rows a.ini a.acc (-1):=by
     apply y67 (by rw [z95,z762])
     intro i h1 h2
     have hi' : i < rows.length:=by rw [z95] at h1;exact h1
     rw [z394,← z20 (d:=0) h2,rkL_at _ hi',hqm]
     dsimp only
     by_cases hp:RP rows a.ini (i:Int)
     ·rw [if_neg (by simp [hp]),if_pos hp]
      have:=hI.fin rfl (i:Int) hp
      rwa [y69] at this
     ·rw [if_pos ⟨hi',hp⟩,if_neg hp]
    have qT:∀ i:Nat,¬ RP rows a.ini (i:Int)→qm (i+1)=upd (qm i) i (-1):=fun i hp=>by
     funext j
     by_cases h2:j=i
     ·subst h2;rw [z24,hqm];dsimp only;rw [if_pos ⟨by omega,hp⟩]
     ·rw [z43 _ _ h2,hqm];dsimp only
      by_cases h3:j < i
      ·simp only [show j < i+1 by omega,h3]
      ·simp only [show ¬ j < i+1 by omega,h3]
    have qF:∀ i:Nat,RP rows a.ini (i:Int)→qm (i+1)=qm i:=fun i hp=>by
     funext j
     rw [hqm];dsimp only
     by_cases h2:j=i
     ·subst h2;rw [if_neg (by simp [hp]),if_neg (by simp [hp])]
     ·by_cases h3:j < i
      ·simp only [show j < i+1 by omega,h3]
      ·simp only [show ¬ j < i+1 by omega,h3]
    clear hqm
    have hbl:=z546 rows a.ini
    repeat' (((apply y76 ok;rfl))<;>conv=>whnf)
    refine z65 (fun i:Nat=>([(6,.ptr 0 none 0),(13,lst 1 enB (z220 rows a.ini)),(14,.ptr 1 none 0),(107,.int rows.length),(108,.int i)],[.cells 1 [[.nils]],.cells 1 [[.sref 2 0 rows.length]],.cells 1 ((fnL rows.length (qm i)).map enI)])) (fun i=>i≤rows.length) (fun i=>rows.length - i) 0 (y46 _) (by refine swR [1,5,4] [] rfl rfl ?_;(repeat' first|exact y78 _|apply y79|refine z10 rfl (z4 (fun _=>rfl)) ?_|constructor)<;>((refine z26 ?_;rw [q0]))) ?_
    intro i hi
    by_cases hil:i < rows.length
    ·have gm:((z220 rows a.ini).map enB)[i]?=some (enB (decide (RP rows a.ini (i:Int)))):=by
      rw [y44,y38 (by omega)]
      simp [z220]
     have g1:=z152 (qm i) hil
     have l1:=z95 rows.length (qm i)
     by_cases hp:RP rows a.ini (i:Int)
     ·rw [y73 hp] at gm
      have e:=qF i hp
      generalize z220 rows a.ini=rb at *
      repeat' ((first|(apply y76 ok;rfl)|(refine z12 (i:=i) rfl gm ?_)|(apply y36;first|omega|(unfold inI;omega))|((apply z5)<;>intro _))<;>conv=>whnf)
      all_goals try (exfalso;omega)
      all_goals refine z23 (i+1) hil (by show rows.length - (i+1) < rows.length - i;omega) (by refine swR [0,1,2] [] rfl rfl ?_;(repeat' first|exact y78 _|apply y79|refine z10 rfl (z4 (fun _=>rfl)) ?_|constructor)<;>((rw [e];(repeat' (exact z9 _)))))
     ·rw [y74 hp] at gm
      have e1:=z131 (N:=rows.length) (u:=i) (qm i) (-1)
      rw [← qT i hp] at e1
      generalize z220 rows a.ini=rb at *
      repeat' ((first|(apply y76 ok;rfl)|(refine z12 (i:=i) rfl gm ?_)|(refine z12 (i:=i) rfl g1 ?_)|(apply y36;first|omega|(unfold inI;omega))|((apply z5)<;>intro _))<;>conv=>whnf)
      all_goals try (exfalso;omega)
      all_goals refine z23 (i+1) hil (by show rows.length - (i+1) < rows.length - i;omega) (by refine swR [0,1,2] [] rfl rfl ?_;(repeat' first|exact y78 _|apply y79|refine z41 rfl (z4 (fun _=>rfl)) ?_|constructor)<;>((refine z26 ?_;exact e1)))
    obtain rfl:i=rows.length:=by omega
    rw [qE,z762]
    repeat' ((first|(apply y76 ok;rfl)|(apply y36;omega)|((first|(with_reducible apply z8;omega)|(apply z8;omega));intro _)|((first|apply z5|apply z93)<;>intro _))<;>conv=>whnf)
    all_goals try (exfalso;omega)
    all_goals (refine rsD [2] [] rfl ?_;(repeat' first|exact y78 _|exact z9 _|refine z10 rfl (z4 (fun _=>rfl)) ?_|constructor))
   |true =>
    have hps:=hI.pass f1 f2 hno
    have hlt:=hI.lt rfl
    repeat' ((first|(apply y76 ok;rfl)|(apply z22 [] [7] k5;rfl;rfl;rfl))<;>conv=>whnf)
    refine y77 (SealW.reach (env:=[(5,.ptr 1 none 0),(6,.ptr 2 none 0),(10,.ptr 3 none 0),(11,.ptr 4 none 0),(13,lst 1 enB (z220 rows a.ini)),(14,.ptr 6 none 0),(15,ints (bfsL rows a.ini)),(16,.ptr 7 none 0),(59,.fn (.func 170) [] [.ptr 0 none 0])]) (objs:=[.cells 1 [[ints (bfsL rows a.ini)]],.cells 3 [a.cs],.cells 1 [[.nils]],.cells 1 [[.int a.acc.length]],.cells 1 [[lst 1 encL rows]],.cells 1 (R.map enI),.cells 1 [[.sref 5 0 rows.length]],.cells 1 [[.bool false]]]) [7,0,1,2,3,4,5,6] [] rfl rfl rfl rfl ?_ ?_) ?_
    ·(repeat' first|exact y78 _|constructor)
    ·(repeat' first|exact y78 _|exact z9 _|apply y79|refine z10 rfl (z4 (fun _=>rfl)) ?_|constructor)
    refine z628 (M:=8) (L:=bfsL rows a.ini) back1 ⟨_,_,Tryz.func170,rfl,rfl⟩ rfl (Nat.le_of_ble_eq_true rfl) (Nat.le_of_ble_eq_true rfl) (by unfold maxLen;omega) (by kernel_rfl) (by decide)
     (fun x:List Int×Bool=>[.cells 3 [a.cs],.cells 1 [[.nils]],.cells 1 [[.int a.acc.length]],.cells 1 [[lst 1 encL rows]],.cells 1 (x.1.map enI),.cells 1 [[.sref 5 0 rows.length]],.cells 1 [[.bool x.2]]])
     (fun k x=>pst rows a.acc (bfsL rows a.ini) R k=x) (R,false) rfl (fun _=>rfl) (z831 _ _) ?_ ?_
    ·intro k x hk hx
     have hpi:=pst_inv (acc:=a.acc) f1 f2 hno hI.rk (k+1)
     have hpg:=z591 f1 f2 hRl hI.gr ((bfsL rows a.ini).length - (k+1)) (k+1) (by omega)
     have hst:=z830 (rows:=rows) (acc:=a.acc) (R:=R) hk
     rw [hx] at hpi hpg hst
     obtain ⟨R1,c1⟩:=x
     dsimp only at hpi hpg ⊢
     have hu:=(z134 f1 f2 _).1 (y37 hk)
     generalize (bfsL rows a.ini)[k]=u at *
     have huN:=RP.in f1 f2 hu
     have hRl1:=hpi.len
     rw [z428] at hst
     dsimp only at hst
     have hgu:=hpg u hu
     have hle:=z988 (acc:=a.acc) (R:=R1) hu hpi.hi
     have hWs:=z860 (rows:=rows) (acc:=a.acc) ((bfsL rows a.ini).length+1) u
     have hrowR:∀ v∈rows.getD u.toNat [],RP rows a.ini v:=fun v hv=>.step hu hv
     have hv0:∀ v∈rows.getD u.toNat [],0≤R1.getD v.toNat 0∧R1.getD v.toNat 0≤4000:=fun v hv=>by
      have h1:=hpi.lo v (hrowR v hv)
      have h2:=hpi.hi v (hrowR v hv)
      have h3:=z938 (rows:=rows) (acc:=a.acc) t v
      have h4:=z860 (rows:=rows) (acc:=a.acc) (bfsL rows a.ini).length v
      omega
     have hrk:rkU rows a.acc R1 u=rkP R1 (rows.getD u.toNat [])+(if a.acc.getD (u % a.acc.length).toNat false=true∧0 < (rows.getD u.toNat []).length then 1 else 0):=rk_impl fun v hv=>(hv0 v hv).1
     have hm0:0≤u % (a.acc.length:Int):=Int.emod_nonneg _ (by omega)
     have hm1:u % (a.acc.length:Int) < a.acc.length:=Int.emod_lt_of_pos _ (by omega)
     have ga:(a.acc.map enB)[(u % (a.acc.length:Int)).toNat]?=some (enB (a.acc.getD (u % (a.acc.length:Int)).toNat false)):=by
      rw [y44,y38 (by omega),z20 (by omega)];rfl
     have grow:(rows.map encL)[u.toNat]?=some (encL (rows.getD u.toNat [])):=by
      rw [y44,y38 (by omega),z20 (by omega)];rfl
     have gu:(R1.map enI)[u.toNat]?=some (enI (R1.getD u.toNat 0)):=by
      rw [y44,y38 (by omega),z20 (by omega)];rfl
     have hrb:(rows.getD u.toNat []).length≤1000000000:=by rw [z20 (by omega)];exact f4 _ (y37 _)
     have hrN:∀ v∈rows.getD u.toNat [],0≤v∧v < rows.length:=fun v hv=>RP.in f1 f2 (hrowR v hv)
     clear hrowR hle hpg hpi hx hps hI hRI hQl
     rw [hrk] at hst hgu
     clear hrk
     generalize rows.getD u.toNat []=row at *
     generalize a.acc.getD (u % (a.acc.length:Int)).toNat false=z at *
     have hpr:∀ j,0≤rkP R1 (row.take j)∧rkP R1 (row.take j)≤4000:=fun j=>⟨(z96 _ _ _).1,z179 (by omega) fun v hv=>(hv0 v (List.mem_of_mem_take hv)).2⟩
     repeat' ((first|(apply y76 ok;rfl)|(refine z12 (i:=u.toNat) rfl grow ?_)|(apply y36;omega))<;>conv=>whnf)
     refine z65 (fun j:Nat=>([(5,.ptr 1 none 0),(10,.ptr 3 none 0),(11,.ptr 4 none 0),(14,.ptr 6 none 0),(16,.ptr 7 none 0),(18,.int u),(19,.int (rkP R1 (row.take j))),(65,ints row),(66,.int row.length),(67,.int j)],[.cells 1 [[ints (bfsL rows a.ini)]],.cells 3 [a.cs],.cells 1 [[.nils]],.cells 1 [[.int a.acc.length]],.cells 1 [[lst 1 encL rows]],.cells 1 (R1.map enI),.cells 1 [[.sref 5 0 rows.length]],.cells 1 [[.bool c1]]])) (fun j=>j≤row.length) (fun j=>row.length - j) 0 (y46 _) (by refine swR [0,1,2,3,4,5,6,7] [] rfl rfl ?_;(repeat' first|exact y78 _|exact z9 _|apply y79|refine z10 rfl (z4 (fun _=>rfl)) ?_|constructor)) ?_
     intro j hj
     by_cases hjl:j < row.length
     ·have gv:(row.map enI)[j]?=some (enI row[j]):=by rw [y44,y38 hjl];rfl
      have hvN:=hrN _ (y37 hjl)
      have gR:(R1.map enI)[(row[j]).toNat]?=some (enI (R1.getD (row[j]).toNat 0)):=by
       rw [y44,y38 (by omega),z20 (by omega)];rfl
      have ht:=rkP_take (R:=R1) hjl
      have hp1:=hpr j
      have hv1:=hv0 _ (y37 hjl)
      generalize row[j]=v at *
      generalize rkP R1 (row.take j)=q1 at *
      generalize R1.getD v.toNat 0=rv at *
      repeat' ((first|(apply y76 ok;rfl)|(apply z31;kernel_rfl)|(refine z12 (i:=j) rfl gv ?_)|(refine z12 (i:=v.toNat) rfl gR ?_)|(apply y36;first|omega|(unfold inI;omega))|((first|(with_reducible apply z87;omega)|(apply z8;omega));intro _)|((first|apply z5|apply z40|apply z107)<;>intro _))<;>conv=>whnf)
      all_goals try (exfalso;omega)
      all_goals refine z23 (j+1) (by show j+1≤_;omega) (by show row.length - (j+1) < row.length - j;omega) (by refine swR [0,1,2,3,4,5,6,7] [] rfl rfl ?_;(repeat' first|exact y78 _|exact z9 _|(refine z101 ?_;omega)|apply y79|refine z10 rfl (z4 (fun _=>rfl)) ?_|constructor)<;>((rw [ht];(repeat' (fail)))))
     obtain rfl:j=row.length:=by omega
     rw [y49]
     have hp1:=hpr row.length
     rw [y49] at hp1
     clear hpr hv0 hrN
     generalize rkP R1 row=q at *
     have gs:∀ v,(R1.map enI).set u.toNat (enI v)=(R1.set u.toNat v).map enI:=fun v=>by rw [List.map_set]
     generalize R1.getD u.toNat 0=ru at *
     by_cases hz:z=true∧0 < row.length
     ·rw [if_pos hz] at hst hgu
      obtain ⟨rfl,hrl⟩:=hz
      by_cases hc:ru < q+1
      ·rw [if_pos hc] at hst
       have gs1:=gs (q+1)
       repeat' ((first|(apply y76 ok;rfl)|(apply z31;kernel_rfl)|(refine z12 (i:=u.toNat) rfl grow ?_)|(refine z12 (i:=(u % (a.acc.length:Int)).toNat) rfl ga ?_)|(refine z12 (i:=u.toNat) rfl gu ?_)|(apply y36;first|omega|(unfold inI;omega))|((first|(with_reducible apply z8;omega)|(apply z8;omega));intro _)|((first|apply z5|apply z40)<;>intro _))<;>conv=>whnf)
       all_goals try (exfalso;omega)
       all_goals exact EndR.mk (R1.set u.toNat (q+1),true) hst (by refine swR [0,1,2,3,4,5,6,7] [] rfl rfl ?_;(repeat' first|exact y78 _|apply y79|refine z41 rfl (z4 (fun _=>rfl)) ?_|refine z199 (by omega) ?_|constructor)<;>((refine z26 ?_;exact gs1)))
      ·rw [if_neg hc] at hst
       repeat' ((first|(apply y76 ok;rfl)|(apply z31;kernel_rfl)|(refine z12 (i:=u.toNat) rfl grow ?_)|(refine z12 (i:=(u % (a.acc.length:Int)).toNat) rfl ga ?_)|(refine z12 (i:=u.toNat) rfl gu ?_)|(apply y36;first|omega|(unfold inI;omega))|((first|(with_reducible apply z8;omega)|(apply z8;omega));intro _)|((first|apply z5|apply z40)<;>intro _))<;>conv=>whnf)
       all_goals try (exfalso;omega)
       all_goals exact EndR.mk (R1,c1) hst (by refine swR [0,1,2,3,4,5,6,7] [] rfl rfl ?_;(repeat' first|exact y78 _|exact z9 _|apply y79|refine z10 rfl (z4 (fun _=>rfl)) ?_|constructor))
     ·rw [if_neg hz,Int.add_zero] at hst hgu
      cases z with
      |true =>
       have hrl:row.length=0:=by
        rcases Nat.eq_zero_or_pos row.length with h|h
        ·exact h
        ·exact absurd ⟨rfl,h⟩ hz
       by_cases hc:ru < q
       ·rw [if_pos hc] at hst
        have gs1:=gs (q)
        repeat' ((first|(apply y76 ok;rfl)|(apply z31;kernel_rfl)|(refine z12 (i:=u.toNat) rfl grow ?_)|(refine z12 (i:=(u % (a.acc.length:Int)).toNat) rfl ga ?_)|(refine z12 (i:=u.toNat) rfl gu ?_)|(apply y36;omega)|((first|(with_reducible apply z8;omega)|(apply z8;omega));intro _)|((first|apply z5|apply z40)<;>intro _))<;>conv=>whnf)
        all_goals try (exfalso;omega)
        all_goals exact EndR.mk (R1.set u.toNat (q),true) hst (by refine swR [0,1,2,3,4,5,6,7] [] rfl rfl ?_;(repeat' first|exact y78 _|apply y79|refine z41 rfl (z4 (fun _=>rfl)) ?_|refine z199 (by omega) ?_|constructor)<;>((refine z26 ?_;exact gs1)))
       ·rw [if_neg hc] at hst
        repeat' ((first|(apply y76 ok;rfl)|(apply z31;kernel_rfl)|(refine z12 (i:=u.toNat) rfl grow ?_)|(refine z12 (i:=(u % (a.acc.length:Int)).toNat) rfl ga ?_)|(refine z12 (i:=u.toNat) rfl gu ?_)|(apply y36;omega)|((first|(with_reducible apply z8;omega)|(apply z8;omega));intro _)|((first|apply z5|apply z40)<;>intro _))<;>conv=>whnf)
        all_goals try (exfalso;omega)
        all_goals exact EndR.mk (R1,c1) hst (by refine swR [0,1,2,3,4,5,6,7] [] rfl rfl ?_;(repeat' first|exact y78 _|exact z9 _|apply y79|refine z10 rfl (z4 (fun _=>rfl)) ?_|constructor))
      |false =>
       by_cases hc:ru < q
       ·rw [if_pos hc] at hst
        have gs1:=gs (q)
        repeat' ((first|(apply y76 ok;rfl)|(apply z31;kernel_rfl)|(refine z12 (i:=(u % (a.acc.length:Int)).toNat) rfl ga ?_)|(refine z12 (i:=u.toNat) rfl gu ?_)|(apply y36;omega)|((first|(with_reducible apply z8;omega)|(apply z8;omega));intro _)|((first|apply z5|apply z40)<;>intro _))<;>conv=>whnf)
        all_goals try (exfalso;omega)
        all_goals exact EndR.mk (R1.set u.toNat (q),true) hst (by refine swR [0,1,2,3,4,5,6,7] [] rfl rfl ?_;(repeat' first|exact y78 _|apply y79|refine z41 rfl (z4 (fun _=>rfl)) ?_|refine z199 (by omega) ?_|constructor)<;>((refine z26 ?_;exact gs1)))
       ·rw [if_neg hc] at hst
        repeat' ((first|(apply y76 ok;rfl)|(apply z31;kernel_rfl)|(refine z12 (i:=(u % (a.acc.length:Int)).toNat) rfl ga ?_)|(refine z12 (i:=u.toNat) rfl gu ?_)|(apply y36;omega)|((first|(with_reducible apply z8;omega)|(apply z8;omega));intro _)|((first|apply z5|apply z40)<;>intro _))<;>conv=>whnf)
        all_goals try (exfalso;omega)
        all_goals exact EndR.mk (R1,c1) hst (by refine swR [0,1,2,3,4,5,6,7] [] rfl rfl ?_;(repeat' first|exact y78 _|exact z9 _|apply y79|refine z10 rfl (z4 (fun _=>rfl)) ?_|constructor))
    ·intro x hx
     rw [z829] at hx
     rw [hx] at hps
     obtain ⟨R1,c1⟩:=x
     dsimp only at hps ⊢
     conv=>whnf
     repeat' (((apply y76 ok;rfl))<;>conv=>whnf)
     have hμ:∀ c:Bool,(match c with
      |true=>(bfsL rows a.ini).length+1 - (t+1)+1
      |false=>0) < (bfsL rows a.ini).length+1 - t+1:=by
      intro c
      cases c
      ·show 0 < _;omega
      ·show (bfsL rows a.ini).length+1 - (t+1)+1 < _;omega
     all_goals refine z23 (t+1,R1,c1) hps (hμ c1) (by refine swR [1,2,3,4,5,6,8] [] rfl rfl ?_;(repeat' first|exact y78 _|exact z9 _|apply y79|refine z10 rfl (z4 (fun _=>rfl)) ?_|constructor))
 ·have e:mkOk g l a=false:=by unfold mkOk;rw [(y64 _).mp hgl];rfl
  have e2:mkR g l a=[]:=by unfold mkR;rw [e];rfl
  rw [e,e2]
  rw [(y64 _).mp hgl] at k0
  show CallsA _ _ _ _ (.tup [.agg [.sref 0 0 0],.bool false]) [.cells 1 []]
  refine z7 z16 Tryz.func28 rfl rfl 122 Tryz.ntmps28 (by simp) ?_
  repeat' ((first|(apply y76 ok;rfl)|(apply z6 (k0);rfl;rfl))<;>conv=>whnf)
  all_goals (refine y81 1 ?_;refine rsD [3] [] rfl ?_;(repeat' first|exact y78 _|exact z48|refine z10 rfl (z32) ?_|apply z42|apply z88|constructor))
end Go.Proofs.YtahhobgjcfionaaGreat
namespace Go.Proofs.YtahhobgjcfionaaGreat
open Go.Gl
attribute [local irreducible] z19 AWP z36 z44 z39
end Go.Proofs.YtahhobgjcfionaaGreat
namespace Go.Proofs.YtahhobgjcfionaaGreat
open Go.Gl
attribute [local irreducible] z19 AWP z36 z44 z39 RetS z47
theorem z749 (g:Graph) (hg:g.mx) (l:List Tree) (hl:Lmx l) (a:Aut) (ha:a.mx):CallsA Tryz.prog 30 [.agg g.cs,lst 3 Tree.cs' l,.agg a.cs] [] (.tup [.agg (Cert.mk (mkR g l a)).cs,.bool (mkOk g l a)]) []:=(by refine y4 (z656 g hg l hl a ha) [] [0] rfl rfl rfl ?_ ?_<;>(repeat' first|exact y78 _|((apply z45 rfl rfl rfl);(focus ((repeat ((exact z37 (fun _=>rfl) _)));done));(focus (((simp;done));done)))|apply z42|apply z88|constructor))
theorem z324 (g:Graph) (hg:g.mx) (l:List Tree) (hl:Lmx l) (a:Aut) (ha:a.mx):CallsA Tryz.prog 28 [.agg g.cs,lst 3 Tree.cs' l,.agg a.cs] [] (.tup [.agg (Cert.mk (mkR g l a)).cs,.bool (mkOk g l a)]) []:=(by refine y4 (z696 g hg l hl a ha) [] [0] rfl rfl rfl ?_ ?_<;>(repeat' first|exact y78 _|((apply z45 rfl rfl rfl);(focus ((repeat ((exact z37 (fun _=>rfl) _)));done));(focus (((simp;done));done)))|apply z42|apply z88|constructor))
theorem Aut.sm.mx' {a:Aut} (ha:a.sm):a.mx:=⟨by have:=ha.1;unfold maxLen;omega,by have:=ha.2.1;unfold maxLen;omega,by have:=ha.2.2.1;unfold maxLen;omega,ha.2.2.2⟩
theorem z707 (bs:List Int) (hb:CodeOk bs):∃ (g:Graph) (l:List Tree) (a:Aut),(g.d∧Lab.d l∧a.sm)∧CallsA Tryz.prog 29 [lst 1 enU bs] [] (.tup [.agg g.cs,lst 3 Tree.cs' l,.agg a.cs]) []:=by
 have co:=z910 bs hb.len
 have hbt:=hb.take
 generalize bs.take 2000=b0 at *
 obtain ⟨g,l,a,p1,⟨hg,hl,ha,q1,q2⟩,c1⟩:=z894 b0 hbt 0 ⟨by omega,by omega⟩
 refine ⟨g,l,a,⟨hg,hl,ha⟩,?_⟩
 refine z7 z16 Tryz.func29 rfl rfl 11 Tryz.ntmps29 (by simp) ?_
 repeat' ((first|(apply y76 ok;rfl)|((first|(apply z22 [] [2] co;rfl;rfl)|(apply z22 [2] [] c1;rfl;rfl));rfl))<;>conv=>whnf)
 all_goals (refine rsD [] [] rfl ?_;(repeat' first|exact y78 _|constructor))
theorem z1011 {g:Graph} {ls:List Int} {a:Aut} (hr:∀ r∈z38 g ls a,InN (z38 g ls a).length r) (hi:InN (z38 g ls a).length a.ini) (hn:a.ini.Nodup) (h:NoAcc (z38 g ls a) a.ini a.acc):trcO g ls a=none:=by
 unfold trcO
 rw [Option.map_eq_none_iff,← z433 hr hi hn,z680]
 rintro v hv ⟨h1,h2⟩
 have hvN:=z368 hr hi _ v hv
 have hc:=z358.1 h2
 rw [Int.toNat_of_nonneg hvN.1] at hc
 have:=h v ((z134 hr hi v).1 hv) hc
 rw [h1] at this;cases this
theorem z506 {N:Nat} {ps:List (Nat×Int)} {r:Nat} {y:Int} : y∈(build N ps).getD r []↔r < N∧(r,y)∈ps:=by
 by_cases h:r < N
 ·rw [z20 (by rw [z85];exact h),z365 (by rw [z85];exact h)]
  simp only [List.mem_map,List.mem_filter,beq_iff_eq,h,true_and]
  constructor
  ·rintro ⟨⟨p,v⟩,⟨h1,h2⟩,h3⟩
   dsimp only at h2 h3
   subst h2;subst h3;exact h1
  ·intro h1;exact ⟨(r,y),⟨h1,rfl⟩,rfl⟩
 ·have e:(build N ps).getD r []=[]:=by rw [y60,y61 (by rw [z85];omega)];rfl
  rw [e];simp [h]
theorem z996 {g:Graph} {ls:List Int} {a:Aut} {i:Nat} {to:Int} {e:Trans} (hsrc:e.src.toNat < a.acc.length) (hi:i < g.st.length) (hto:to∈g.nx.getD i []) (he:e∈a.ed) (hon:onB e (ls.getD i 0)=true):to * a.acc.length+e.dst∈(z38 g ls a).getD (i * a.acc.length+e.src.toNat) []:=by
 unfold z38
 refine z506.2 ⟨?_,List.mem_flatMap.2 ⟨i,List.mem_range.2 hi,?_⟩⟩
 ·have h1:(i+1) * a.acc.length≤g.st.length * a.acc.length:=Nat.mul_le_mul_right _ hi
  rw [Nat.add_mul,Nat.one_mul,Nat.mul_comm g.st.length] at h1
  omega
 ·unfold z387
  refine List.mem_flatMap.2 ⟨to,hto,List.mem_flatMap.2 ⟨e,he,?_⟩⟩
  unfold z267
  rw [if_pos hon];simp
section
variable {g:Graph} {ls:List Int} {a:Aut} {t:Trace}
end
end Go.Proofs.YtahhobgjcfionaaGreat
namespace Go.Proofs.YtahhobgjcfionaaGreat
open Go.Gl
attribute [local irreducible] z19 AWP z36 z44 z39 RetS z47
end Go.Proofs.YtahhobgjcfionaaGreat
namespace Go.Proofs.YtahhobgjcfionaaGreat
open Go.Gl
attribute [local irreducible] z19 AWP z36 z44 z39
theorem GB.row {g:Graph} (h:GB g):∀ i (hi:i < g.nx.length),1≤g.nx[i].length∧g.nx[i].length≤60∧InN g.st.length g.nx[i]:=fun i hi=>by
 obtain ⟨⟨g1,g2⟩,g3,g4⟩:=h
 have h4:=g4 i hi hi (by omega)
 refine ⟨by have:=h4.2.1;omega,by have:=h4.2.1;omega,fun x hx=>?_⟩
 obtain ⟨j,hj,rfl⟩:=List.mem_iff_getElem.1 hx
 have:=(h4.2.2.2 j hj hj).1
 omega
end Go.Proofs.YtahhobgjcfionaaGreat
namespace Go.Proofs.YtahhobgjcfionaaGreat
open Go.Gl
attribute [local irreducible] z19 AWP z36 z44 z39 RetS z47
theorem z832 {g:Graph} {ls:List Int} {a:Aut} {x y:Int} (hx:0≤x) (h:y∈(z38 g ls a).getD x.toNat []) (hA:AutP a):∃ (i:Nat) (to:Int) (e:Trans),i < g.st.length∧to∈g.nx.getD i []∧e∈a.ed∧onB e (ls.getD i 0)=true∧x / a.acc.length=i∧x % a.acc.length=e.src∧y / a.acc.length=to∧y % a.acc.length=e.dst:=by
 unfold z38 at h
 obtain ⟨_,h⟩:=z506.1 h
 unfold z473 at h
 obtain ⟨i,hi,h⟩:=List.mem_flatMap.1 h
 unfold z387 at h
 obtain ⟨to,hto,h⟩:=List.mem_flatMap.1 h
 unfold z474 at h
 obtain ⟨e,he,h⟩:=List.mem_flatMap.1 h
 unfold z267 at h
 split at h
 ·rename_i hon
  simp only [y48,Prod.mk.injEq] at h
  obtain ⟨h1,h2⟩:=h
  have hE:=hA.2.2.2 e he
  unfold z196 at hE
  have hac:=hA.1
  have hn:(a.acc.length:Int)≠0:=by omega
  have hm:((i * a.acc.length:Nat):Int)=(i:Int) * a.acc.length:=by simp
  have hxe:x=(i:Int) * a.acc.length+e.src:=by omega
  have d1:∀ (b q:Int),0≤q→q < a.acc.length→(b * a.acc.length+q) / (a.acc.length:Int)=b∧(b * a.acc.length+q) % (a.acc.length:Int)=q:=fun b q q0 q1 =>
   ⟨by rw [Int.add_comm,Int.add_mul_ediv_right _ _ hn,Int.ediv_eq_zero_of_lt q0 q1,Int.zero_add],by rw [Int.add_comm,Int.add_mul_emod_self_right,Int.emod_eq_of_lt q0 q1]⟩
  have k1:=d1 i e.src hE.1.1 (by omega)
  have k2:=d1 to e.dst hE.2.1.1 (by omega)
  exact ⟨i,to,e,List.mem_range.1 hi,hto,he,hon,by rw [hxe];exact k1.1,by rw [hxe];exact k1.2,by rw [h2];exact k2.1,by rw [h2];exact k2.2⟩
 ·cases h
structure FndP (g:Graph) (ls:List Int) (a:Aut) (s q:List Int):Prop where
 inn:∀ x∈s++q,0≤x
 path:PathP (z38 g ls a) (s++q)
 ini:(s++q).getD 0 0∈a.ini
 pos:0 < q.length
 back:q.getD 0 0∈(z38 g ls a).getD (q.getD (q.length - 1) 0).toNat []
 acc:a.acc.getD (q.getD 0 0 % a.acc.length).toNat false=true
section
variable {g:Graph} {ls:List Int} {a:Aut} {s q:List Int}
theorem FndP.step (h:FndP g ls a s q) {k:Nat} (hk:k < (s++q).length):(s++q).getD (nxW (s++q).length s.length k).toNat 0∈(z38 g ls a).getD ((s++q).getD k 0).toNat []:=by
 have hl:(s++q).length=s.length+q.length:=by simp
 have hsq:∀ j,(s++q).getD (s.length+j) 0=q.getD j 0:=fun j=>by
  rw [y60,y60,y59 (by omega),show s.length+j - s.length=j by omega]
 have hp:=h.pos
 unfold nxW
 split
 ·rename_i e
  rw [y69,show s.length=s.length+0 by omega,hsq,show k=s.length+(q.length - 1) by omega,hsq]
  exact h.back
 ·rw [y69];exact h.path k (by omega)
theorem FndP.word (hA:AutP a) (h:FndP g ls a s q) {w:List Int} (hw:w.length=(s++q).length) (hwl:∀ k,k < w.length→w.getD k 0=ls.getD ((s++q).getD k 0 / a.acc.length).toNat 0):∃ x,RP (accW a w s.length) a.ini x∧Cyc (accW a w s.length) x∧a.acc.getD (x % a.acc.length).toNat false=true:=by
 have hac:=hA.1
 have hn:(a.acc.length:Int)≠0:=by omega
 have hl:(s++q).length=s.length+q.length:=by simp
 have hp:=h.pos
 have hsq0:(s++q).getD s.length 0=q.getD 0 0:=by
  rw [y60,y60,y59 (y45 _),Nat.sub_self]
 obtain ⟨P,hP⟩:∃ P:Nat→Int,P=fun (k:Nat)=>(k:Int) * a.acc.length+(s++q).getD k 0 % a.acc.length:=⟨_,rfl⟩
 have hP0:∀ k,0≤P k:=fun k=>by
  rw [hP]
  have:=Int.mul_nonneg (show (0:Int)≤k by omega) (show (0:Int)≤a.acc.length by omega)
  have:=Int.emod_nonneg ((s++q).getD k 0) hn
  dsimp only;omega
 have hPm:∀ k,P k % (a.acc.length:Int)=(s++q).getD k 0 % a.acc.length:=fun k=>by
  rw [hP];dsimp only
  rw [Int.add_comm,Int.add_mul_emod_self_right,Int.emod_emod_of_dvd _ (Int.dvd_refl _)]
 have edge:∀ k,k < w.length→P (nxW w.length s.length k).toNat∈(accW a w s.length).getD (P k).toNat []:=fun k hk=>by
  have hst:=h.step (k:=k) (by omega)
  rw [← hw] at hst
  have hx0:=h.inn ((s++q).getD k 0) (by rw [z20 (by omega)];exact y37 _)
  obtain ⟨i,to,e,h1,h2,h3,h4,h5,h6,h7,h8⟩:=z832 hx0 hst hA
  have hE:=hA.2.2.2 e h3
  unfold z196 at hE
  have hnx:=nxW_in (N:=w.length) (s:=s.length) (i:=k) (by omega) hk
  have hon:onB e (w.getD k 0)=true:=by rw [hwl k hk,h5,y69];exact h4
  have hm:((k * a.acc.length:Nat):Int)=(k:Int) * a.acc.length:=by simp
  have e1:(P k).toNat=k * a.acc.length+e.src.toNat:=by
   rw [hP];dsimp only;rw [h6];omega
  have e2:P (nxW w.length s.length k).toNat=nxW w.length s.length k * a.acc.length+e.dst:=by
   rw [hP];dsimp only;rw [h8,Int.toNat_of_nonneg hnx.1]
  rw [e1,e2]
  unfold accW
  refine z506.2 ⟨?_,List.mem_flatMap.2 ⟨k,List.mem_range.2 hk,?_⟩⟩
  ·have h9:(k+1) * a.acc.length≤w.length * a.acc.length:=Nat.mul_le_mul_right _ hk
   rw [Nat.add_mul,Nat.one_mul] at h9
   omega
  ·unfold pushW
   refine List.mem_flatMap.2 ⟨e,h3,?_⟩
   unfold z267
   rw [if_pos hon];simp
 have rp:∀ k,k < w.length→RP (accW a w s.length) a.ini (P k):=by
  intro k
  induction k with
  |zero =>
   intro _
   refine .base ?_
   have hi:=h.ini
   obtain ⟨j,hj,e⟩:=List.mem_iff_getElem.1 hi
   have h5:=(hA.2.2.1 j hj hj).1
   rw [e] at h5
   have:P 0=(s++q).getD 0 0:=by rw [hP];dsimp only;rw [Int.emod_eq_of_lt h5.1 (by omega)];simp
   rw [this];exact hi
  |succ k ih =>
   intro hk
   have:=edge k (by omega)
   unfold nxW at this
   rw [if_neg (by omega),y69] at this
   exact .step (ih (by omega)) this
 have round:∀ d k,k+d+1=w.length→s.length≤k→RP (accW a w s.length) [P k] (P s.length):=by
  intro d
  induction d with
  |zero =>
   intro k hk _
   have:=edge k (by omega)
   unfold nxW at this
   rw [if_pos (by omega),y69] at this
   exact .step (.base (by simp)) this
  |succ d ih =>
   intro k hk hs
   have:=edge k (by omega)
   unfold nxW at this
   rw [if_neg (by omega),y69] at this
   exact RP.trans (.base (by simp)) this (ih (k+1) (by omega) (by omega))
 refine ⟨P s.length,rp _ (by omega),⟨_,edge s.length (by omega),?_⟩,by rw [hPm,hsq0];exact h.acc⟩
 unfold nxW
 split
 ·rw [y69];exact .base (by simp)
 ·rw [y69];exact round (w.length - (s.length+1) - 1) (s.length+1) (by omega) (by omega)
end
end Go.Proofs.YtahhobgjcfionaaGreat
namespace Go.Proofs.YtahhobgjcfionaaGreat
open Go.Gl
attribute [local irreducible] z19 AWP z36 z44 z39
def GPath (g:Graph) (π:Nat→Int):Prop:=π 0=0∧∀ k,π (k+1)∈g.nx.getD (π k).toNat []
def gW (g:Graph) (l:List Tree) (π:Nat→Int) (k:Nat):Int:=(g.st.map (z50 l)).getD (π k).toNat 0
theorem GPath.inn {g:Graph} (hG:GB g) {π:Nat→Int} (h:GPath g π):∀ k,0≤π k∧π k < g.st.length
 |0=>by have:=hG.1;rw [h.1];omega
 |k+1=>by
  have ih:=GPath.inn hG h k
  have hl:=hG.2.1
  have h1:=h.2 k
  rw [z20 (by omega)] at h1
  exact (hG.row _ (by omega)).2.2 _ h1
theorem divmod {n b q:Int} (hn:0 < n) (q0:0≤q) (q1:q < n):(b * n+q) / n=b∧(b * n+q) % n=q :=
 ⟨by rw [Int.add_comm,Int.add_mul_ediv_right _ _ (by omega),Int.ediv_eq_zero_of_lt q0 q1,Int.zero_add],by rw [Int.add_comm,Int.add_mul_emod_self_right,Int.emod_eq_of_lt q0 q1]⟩
def ARun (a:Aut) (w:Nat→Int) (ρ:Nat→Int):Prop:=ρ 0∈a.ini∧(∀ k,∃ e∈a.ed,e.src=ρ k∧e.dst=ρ (k+1)∧onB e (w k)=true)∧∀ m,∃ k,m≤k∧a.acc.getD (ρ k).toNat false=true
theorem fto_iff {g:Graph} {l:List Tree} {a:Aut} (h1:(glB g l && autB a)=true):(ftO g l a).isSome=true↔∃ π ρ:Nat→Int,GPath g π∧ARun a (gW g l π) ρ:=by
 obtain ⟨h3,hab⟩:=Bool.and_eq_true_iff.1 h1
 have hG:=(z159 g).1 (by unfold glB at h3;exact (Bool.and_eq_true_iff.1 h3).1)
 have hA:=z126.1 hab
 obtain ⟨f1,f2,f3,f4,f5⟩:=z221 hG hA (g.st.map (z50 l))
 have hnd:=hA.2.2.1.nd
 have hac:=hA.1
 have hn:(0:Int) < a.acc.length:=by omega
 have hini:=fun x hx=>(show InN (z38 g (g.st.map (z50 l)) a).length a.ini from f2) x hx
 have e1:ftO g l a=trcO g (g.st.map (z50 l)) a:=by unfold ftO;rw [if_pos h1]
 have e2:(ftO g l a).isSome=true↔∃ x,RP (z38 g (g.st.map (z50 l)) a) a.ini x∧a.acc.getD (x % a.acc.length).toNat false=true∧Cyc (z38 g (g.st.map (z50 l)) a) x:=by
  rw [e1]
  constructor
  ·intro h
   refine Classical.byContradiction fun hno=>?_
   have:NoAcc (z38 g (g.st.map (z50 l)) a) a.ini a.acc:=fun x hx hc=>by
    cases hb:a.acc.getD (x % a.acc.length).toNat false with
    |false=>rfl
    |true=>exact absurd ⟨x,hx,hb,hc⟩ hno
   rw [z1011 f1 f2 hnd this] at h
   cases h
  ·rintro ⟨x,hx,hb,hc⟩
   cases ht:trcO g (g.st.map (z50 l)) a with
   |some p=>rfl
   |none =>
    have:=z647 f1 f2 hnd ht x hx hc
    rw [hb] at this;cases this
 have e3:=inf_iff (acc:=fun x=>a.acc.getD (x % a.acc.length).toNat false=true) f1 f2
 rw [e2,← e3]
 constructor
 ·rintro ⟨σ,s0,s1,s2⟩
  have hin:=runInN f1 s1 (f2 _ s0)
  have hst:=fun k=>z832 (hin k).1 (s1 k) hA
  obtain ⟨i0,hi0,ei0⟩:=List.mem_iff_getElem.1 s0
  have hr0:=(hA.2.2.1 i0 hi0 hi0).1
  rw [ei0] at hr0
  have hd0:=divmod (b:=0) hn hr0.1 (show σ 0 < a.acc.length by omega)
  rw [Int.zero_mul,Int.zero_add] at hd0
  refine ⟨fun k=>σ k / a.acc.length,fun k=>σ k % a.acc.length,⟨hd0.1,fun k=>?_⟩,by show σ 0 % _∈_;rw [hd0.2];exact s0,fun k=>?_,s2⟩
  ·obtain ⟨i,to,e,c1,c2,c3,c4,c5,c6,c7,c8⟩:=hst k
   show σ (k+1) / _∈g.nx.getD (σ k / a.acc.length).toNat []
   rw [c7,c5,y69];exact c2
  ·obtain ⟨i,to,e,c1,c2,c3,c4,c5,c6,c7,c8⟩:=hst k
   refine ⟨e,c3,c6.symm,c8.symm,?_⟩
   unfold gW
   show onB e ((g.st.map (z50 l)).getD (σ k / a.acc.length).toNat 0)=true
   rw [c5,y69];exact c4
 ·rintro ⟨π,ρ,hp,r0,r1,r2⟩
  have hin:=hp.inn hG
  have hrr:∀ k,0≤ρ k∧ρ k < a.acc.length:=fun k=>by
   obtain ⟨e,he,c1,c2,_⟩:=r1 k
   have hE:=hA.2.2.2 e he
   unfold z196 at hE
   omega
  refine ⟨fun k=>π k * a.acc.length+ρ k,?_,fun k=>?_,fun m=>?_⟩
  ·show π 0 * _+ρ 0∈_
   rw [hp.1,Int.zero_mul,Int.zero_add];exact r0
  ·obtain ⟨e,he,c1,c2,c3⟩:=r1 k
   have hE:=hA.2.2.2 e he
   unfold z196 at hE
   have h4:=z996 (g:=g) (ls:=g.st.map (z50 l)) (a:=a) (i:=(π k).toNat) (to:=π (k+1)) (e:=e) (by omega) (by have:=hin k;omega) (hp.2 k) he c3
   show π (k+1) * _+ρ (k+1)∈(z38 g (g.st.map (z50 l)) a).getD (π k * a.acc.length+ρ k).toNat []
   rw [c2] at h4
   have h5:(π k * a.acc.length+ρ k).toNat=(π k).toNat * a.acc.length+e.src.toNat:=by
    rw [c1]
    obtain ⟨i,hi⟩:=Int.eq_ofNat_of_zero_le (hin k).1
    obtain ⟨r,hr⟩:=Int.eq_ofNat_of_zero_le (hrr k).1
    rw [hi,hr,y69,y69]
    norm_cast
   rw [h5];exact h4
  ·obtain ⟨k,k1,k2⟩:=r2 m
   refine ⟨k,k1,?_⟩
   show a.acc.getD ((π k * a.acc.length+ρ k) % a.acc.length).toNat false=true
   rw [(divmod hn (hrr k).1 (hrr k).2).2];exact k2
end Go.Proofs.YtahhobgjcfionaaGreat
namespace Go.Proofs.YtahhobgjcfionaaGreat
open Go.Gl
attribute [local irreducible] z19 AWP z36 z44 z39 RetS z47
def shT (n:Int) (e:Trans):Trans:=⟨e.src+n,e.care,e.val,e.dst+n⟩
def unA (a b:Aut):Aut:=⟨a.ini++b.ini.map (·+(a.acc.length:Int)),a.acc++b.acc,a.ed++b.ed.map (shT a.acc.length)⟩
noncomputable def unB (a b:Aut):Bool:=autB a && autB b && autB (unA a b)
noncomputable def unR (a b:Aut):Aut:=if unB a b=true then unA a b else ⟨[],[],[]⟩
theorem z629 {a:Aut} (h:AutP a):a.ini.length≤64:=by
 have h1:=h.1
 have h2:=h.2.2.1
 by_cases h0:a.ini.length=0
 ·omega
 ·have:=h2.ge (a.ini.length - 1) (by omega)
  have h3:=(h2 (a.ini.length - 1) (by omega) (by omega)).1
  omega
set_option maxHeartbeats 6400000 in
theorem z695 (a:Aut) (ha:a.mx) (b:Aut) (hb:b.mx):CallsA Tryz.prog 31 [.agg a.cs,.agg b.cs] [] (.tup [.agg (unR a b).cs,.bool (unB a b)]) []:=by
 have k1:=z125 a ha
 have k2:=z125 b hb
 unfold unR unB
 cases ea:autB a with
 |false =>
  rw [ea] at k1
  rw [Bool.false_and,Bool.false_and,if_neg (by simp)]
  refine z7 z16 Tryz.func31 rfl rfl 80 Tryz.ntmps31 (by simp) ?_
  repeat' ((first|(apply y76 ok;rfl)|(apply z6 (k1);rfl;rfl))<;>conv=>whnf)
  all_goals (refine rsD [] [] rfl ?_;(repeat' first|exact y78 _|exact z52|apply z42|apply z88|constructor))
 |true =>
  rw [ea] at k1
  cases eb:autB b with
  |false =>
   rw [eb] at k2
   rw [Bool.true_and,Bool.false_and,if_neg (by simp)]
   refine z7 z16 Tryz.func31 rfl rfl 80 Tryz.ntmps31 (by simp) ?_
   repeat' ((first|(apply y76 ok;rfl)|(apply z6 (k1);rfl;rfl)|(apply z6 (k2);rfl;rfl))<;>conv=>whnf)
   all_goals (refine rsD [] [] rfl ?_;(repeat' first|exact y78 _|exact z52|apply z42|apply z88|constructor))
  |true =>
   rw [eb] at k2
   have hA:=z126.1 ea
   have hB:=z126.1 eb
   have ai:=z629 hA
   have bi:=z629 hB
   have aa:=hA.1
   have ba:=hB.1
   have ae:=hA.2.1
   have be:=hB.2.1
   have hbi:=hB.2.2.1
   have hbe:=hB.2.2.2
   have cC:=z511 a (by omega) (by omega) (by omega)
   rw [Bool.true_and,Bool.true_and]
   refine z7 z16 Tryz.func31 rfl rfl 80 Tryz.ntmps31 (by simp) ?_
   repeat' ((first|(apply y76 ok;rfl)|(apply z6 (k1);rfl;rfl)|(apply z6 (k2);rfl;rfl)|(apply z11 [] [3,4,5] cC;rfl;rfl;rfl;(focus ((repeat' first|exact z15|apply z14)<;>(refine z21 ?_;((exact z4 fun _=>rfl)))))))<;>conv=>whnf)
   refine z65 (fun x:Nat×List Int=>([(3,.ptr 0 none 0),(4,.ptr 1 none 0),(6,.int a.acc.length),(7,.ptr 2 none 0),(27,ints b.ini),(28,.int b.ini.length),(29,.int x.1)],[.cells 3 [b.cs],.cells 3 [[.nils,.nils,.nils]],.cells 3 [[.sref 3 0 x.2.length,.sref 4 0 a.acc.length,.sref 5 0 a.ed.length]],.cells 1 (x.2.map enI),.cells 1 (a.acc.map enB),.cells 4 (a.ed.map Trans.cs)])) (fun x=>x.1≤b.ini.length∧a.ini++(b.ini.take x.1).map (·+(a.acc.length:Int))=x.2) (fun x=>b.ini.length - x.1) (0,a.ini) ⟨y46 _,by simp⟩ (by refine swR [1,2,6,3,4,5] [] rfl rfl ?_;(repeat' first|exact y78 _|exact z9 _|apply y79|refine z10 rfl (z4 (fun _=>rfl)) ?_|constructor)) ?_
   rintro ⟨i,I⟩ ⟨hi,hI⟩
   dsimp only at hi hI ⊢
   have hIl:I.length≤128:=by rw [← hI];simp;omega
   by_cases hil:i < b.ini.length
   ·have gi:(b.ini.map enI)[i]?=some (enI b.ini[i]):=by rw [y44,y38 hil];rfl
    have hx:=(hbi i hil hil).1
    have hI2:a.ini++(b.ini.take (i+1)).map (·+(a.acc.length:Int))=I++[b.ini[i]+(a.acc.length:Int)]:=by
     rw [y43 hil,y56,← List.append_assoc,hI];rfl
    generalize b.ini[i]=x at *
    repeat' ((first|(apply y76 ok;rfl)|(refine z12 (i:=i) rfl gi ?_)|(apply y36;first|omega|(unfold inI;omega)|((try dsimp only);simp only [y42,y41,y40,y39,y51,y52];omega)|exact ⟨rfl,z18 rfl z25⟩)|((apply z5)<;>intro _))<;>conv=>whnf)
    all_goals try (exfalso;omega)
    all_goals refine z23 (i+1,I++[x+(a.acc.length:Int)]) ⟨by show i+1≤_;omega,hI2⟩ (by show b.ini.length - (i+1) < b.ini.length - i;omega) (by refine swR [0,1,2,7,4,5] [] rfl rfl ?_;(repeat' first|exact y78 _|exact z9 _|(refine z34 ?_;((simp;done)))|apply y79|((first|refine z27 rfl ?_ ?_|refine z10 rfl ?_ ?_);(focus ((repeat' (first|exact z4 (fun _=>rfl)|apply z17));done)))|(refine z69 ?_ ?_;(focus (omega)))|constructor))
   ·obtain rfl:i=b.ini.length:=by omega
    repeat' ((first|(apply y76 ok;rfl)|(apply y36;first|omega|((try dsimp only);simp only [y42,y41,y40,y39,y51,y52];omega)|exact z84 (fun _=>rfl))|(((with_reducible apply z8;omega));intro _)|((apply z5)<;>intro _))<;>conv=>whnf)
    all_goals try (exfalso;omega)
    have hIe:I=a.ini++b.ini.map (·+(a.acc.length:Int)):=by rw [← hI,y50 (y45 _)]
    clear hI
    refine z65 (fun x:Nat×List Trans=>([(4,.ptr 0 none 0),(6,.int a.acc.length),(7,.ptr 1 none 0),(49,lst 4 Trans.cs b.ed),(50,.int b.ed.length),(51,.int x.1)],[.cells 3 [[.nils,.nils,.nils]],.cells 3 [[.sref 2 0 I.length,.sref 3 0 (a.acc++b.acc).length,.sref 4 0 x.2.length]],.cells 1 (I.map enI),.cells 1 ((a.acc++b.acc).map enB),.cells 4 (x.2.map Trans.cs)])) (fun x=>x.1≤b.ed.length∧a.ed++(b.ed.take x.1).map (shT a.acc.length)=x.2) (fun x=>b.ed.length - x.1) (0,a.ed) ⟨y46 _,by simp⟩ (by refine swR [1,2,3,6,5] [] rfl rfl ?_;(repeat' first|exact y78 _|exact z9 _|(refine z34 ?_;((simp;done)))|apply y79|((refine z10 rfl ?_ ?_);(focus ((repeat' (first|exact z4 (fun _=>rfl)|apply z92|apply z17));done)))|(refine z1087 ?_;(omega))|constructor)) ?_
    rintro ⟨k,E⟩ ⟨hk,hE⟩
    dsimp only at hk hE ⊢
    have hEl:E.length≤4096:=by rw [← hE];simp;omega
    by_cases hkl:k < b.ed.length
    ·have gk:(b.ed.map Trans.cs)[k]?=some (Trans.cs b.ed[k]):=by rw [y44,y38 hkl];rfl
     have hx:=hbe b.ed[k] (y37 _)
     have hE2:a.ed++(b.ed.take (k+1)).map (shT a.acc.length)=E++[shT a.acc.length b.ed[k]]:=by
      rw [y43 hkl,y56,← List.append_assoc,hE];rfl
     generalize b.ed[k]=e at *
     unfold z196 at hx
     repeat' ((first|(apply y76 ok;rfl)|(refine z12 (i:=k) rfl gk ?_)|(apply y36;first|omega|(unfold inI;omega)|((try dsimp only);simp only [y42,y41,y40,y39,y51,y52];omega)|exact ⟨rfl,z18 rfl z25⟩)|((apply z5)<;>intro _))<;>conv=>whnf)
     all_goals try (exfalso;omega)
     all_goals refine z23 (k+1,E++[shT a.acc.length e]) ⟨by show k+1≤_;omega,hE2⟩ (by show b.ed.length - (k+1) < b.ed.length - k;omega) (by refine swR [0,1,2,3,7] [] rfl rfl ?_;(repeat' first|exact y78 _|exact z9 _|(refine z34 ?_;((simp;done)))|apply y79|((first|refine z27 rfl ?_ ?_|refine z10 rfl ?_ ?_);(focus ((repeat' (first|exact z4 (fun _=>rfl)|apply z17));done)))|(refine z69 ?_ ?_;(focus (omega)))|constructor))
    ·obtain rfl:k=b.ed.length:=by omega
     have hEe:E=a.ed++b.ed.map (shT a.acc.length):=by rw [← hE,y50 (y45 _)]
     clear hE
     have hU:unA a b=⟨I,a.acc++b.acc,E⟩:=by unfold unA;rw [hIe,hEe]
     have hml:(a.acc++b.acc).length≤128:=by simp;omega
     have hEm:∀ e∈E,e.mx:=fun e he=>by
      rw [hEe] at he
      rcases List.mem_append.1 he with h|h
      ·exact ha.2.2.2 e h
      ·obtain ⟨e',h',rfl⟩:=List.mem_map.1 h
       exact hb.2.2.2 e' h'
     generalize a.acc++b.acc=C at *
     have cV:=z125 ⟨I,C,E⟩ ⟨by show I.length≤_;unfold maxLen;omega,by show C.length≤_;unfold maxLen;omega,by show E.length≤_;unfold maxLen;omega,hEm⟩
     have cC2:=z511 ⟨I,C,E⟩ (by show I.length≤_;omega) (by show C.length≤_;omega) (by show E.length≤_;omega)
     rw [hU]
     cases eu:autB ⟨I,C,E⟩ with
     |false =>
      rw [eu] at cV
      rw [if_neg (by simp)]
      repeat' ((first|(apply y76 ok;rfl)|(apply y36;omega)|(((with_reducible apply z8;omega));intro _)|((apply z5)<;>intro _)|(apply z99 [] [2,3,4] [] cV;(focus (exact z54 (z802 (a:=⟨I,C,E⟩) rfl rfl rfl rfl rfl rfl rfl rfl rfl) z78));rfl;rfl;(focus ((repeat' exact z15)<;>fail));((refine .inr ⟨rfl,?_⟩;repeat' exact True.intro))))<;>conv=>whnf)
      all_goals first|(exfalso;omega)|(refine rsD [] [] rfl ?_;(repeat' first|exact y78 _|exact z52|apply z42|apply z88|constructor))
     |true =>
      rw [eu] at cV
      rw [if_pos rfl]
      repeat' ((first|(apply y76 ok;rfl)|(apply y36;omega)|(((with_reducible apply z8;omega));intro _)|((apply z5)<;>intro _)|((first|(apply z99 [] [2,3,4] [] cV;(focus (exact z54 (z802 (a:=⟨I,C,E⟩) rfl rfl rfl rfl rfl rfl rfl rfl rfl) z78));rfl)|(apply z99 [] [2,3,4] [5,6,7] cC2;(focus (exact z54 (z802 (a:=⟨I,C,E⟩) rfl rfl rfl rfl rfl rfl rfl rfl rfl) z78));rfl));rfl;(focus ((repeat' first|exact z15|apply z14)<;>(refine z21 ?_;((exact z4 fun _=>rfl)))));((refine .inr ⟨rfl,?_⟩;repeat' first|exact True.intro|apply y36|exact z185 (fun _=>rfl) _))))<;>conv=>whnf)
      all_goals first|(exfalso;omega)|(refine rsD [] [5,6,7] rfl ?_;(repeat' first|exact y78 _|((apply z45 rfl rfl rfl);(focus ((repeat ((exact z37 (fun _=>rfl) _)));done));(focus (((simp;done));done)))|apply z42|apply z88|constructor))
end Go.Proofs.YtahhobgjcfionaaGreat
