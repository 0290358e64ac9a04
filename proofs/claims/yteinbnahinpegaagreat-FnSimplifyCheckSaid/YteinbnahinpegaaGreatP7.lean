/- A part of the proofs over this program: T362, T346, T357, T347, T350, T351, T340, T352, T358, Shelf, T43, T44. -/
import Derived.Test.YteinbnahinpegaaGreatP6
import Derived.Shelf.Sort.Plain
import Derived.Shelf.Slices.CompactI
set_option linter.all false
namespace Go.Proofs.YteinbnahinpegaaGreat
open Go.Gl Proofs.Tryz
attribute [local irreducible] z18 AWP z38 z41 z40 RetS z42
section
attribute [local irreducible] wd
@[reducible] def simF:AC:=.fn (.func 212) [] [.ptr 1 none 0,.ptr 3 none 0,.ptr 5 none 0]
set_option maxRecDepth 20000 in
set_option maxHeartbeats 12800000 in
theorem z590 (a:Aut) (hA:AutP a):QQ 161 [.agg a.cs] [] (.sref 0 0 a.acc.length) [.cells 1 (byN a.acc.length (relA a))]:=by
 have h1:=hA.1
 have h2:=hA.2.1
 have hed:=hA.2.2.2
 have hnl:=fun G=>z1152 a.acc.length G
 have hbl:=fun R=>z568 a.acc.length R
 refine z12 z24 func161 rfl rfl 118 ntmps161 (by simp) ?_
 repeat' ((first|apply y6 ok;rfl|apply y40;(dsimp only;omega))<;>conv=>whnf)
 refine z69 (fun k:Nat=>([(1,.ptr 0 none 0),(3,.ptr 1 none 0),(4,.ptr 3 none 0),(21,lst 4 Trans.cs a.ed),(22,.int a.ed.length),(23,.int k)],[.cells 3 [a.cs],.cells 1 [[.int a.acc.length]],.cells 8 (nxN a.acc.length (gE (a.ed.take k))),.cells 1 [[.sref 2 0 a.acc.length]]])) (fun k=>k≤a.ed.length) (fun k=>a.ed.length - k) 0 (y50 _) (by refine swR [0,1,2,3] [] rfl rfl ?_;(repeat' first|exact y83 _|apply y85|refine z11 rfl (z54 rfl) ?_|constructor)<;>((refine z21 ?_;exact nxN_zero _))) ?_
 intro k hk
 by_cases hkl:k < a.ed.length
 ·have gk:(a.ed.map Trans.cs)[k]?=some (Trans.cs a.ed[k]):=by rw [y48,y42 hkl];rfl
  have he:=hed _ (y41 hkl)
  have hlast:=gX_last hkl a.acc.length
  have hz:=gX_zero (a.ed.take k) a.ed[k]
  have hon:=fun x u v=>gX_on (es:=a.ed.take k) (e:=a.ed[k]) (x:=x) (u:=u) (v:=v)
  have hoff:=fun x=>gX_off (es:=a.ed.take k) (e:=a.ed[k]) (x:=x)
  have cT:=fun x:Nat=>fun hx:x < 8=>(show QQ 108 [z61 Trans.cs a.ed[k],.int x] [] (.bool (onB a.ed[k] (x:Int))) [] from z928 a.ed[k] x (by omega) (by omega) he.2.2.1)
  generalize a.ed[k]=e at *
  unfold z205 at he
  obtain ⟨es,ec,ev,et⟩:=e
  dsimp only at he hon
  obtain ⟨u,rfl⟩:∃ u:Nat,es=u:=⟨es.toNat,by omega⟩
  obtain ⟨v,rfl⟩:∃ v:Nat,et=v:=⟨et.toNat,by omega⟩
  repeat' ((first|apply y6 ok;rfl|refine z14 (i:=k) rfl gk ?_|apply y40;omega|apply z7<;>intro _)<;>conv=>whnf)
  all_goals try (exfalso;omega)
  refine z69 (fun x:Nat=>([(1,.ptr 0 none 0),(3,.ptr 1 none 0),(4,.ptr 3 none 0),(6,.ptr 4 none 0),(21,lst 4 Trans.cs a.ed),(22,.int a.ed.length),(23,.int k),(27,.int x)],[.cells 3 [a.cs],.cells 1 [[.int a.acc.length]],.cells 8 (nxN a.acc.length (gX (a.ed.take k) ⟨u,ec,ev,v⟩ x)),.cells 1 [[.sref 2 0 a.acc.length]],.cells 4 [Trans.cs ⟨u,ec,ev,v⟩]])) (fun x=>x≤8) (fun x=>8 - x) 0 (by omega) (by refine swR [0,1,2,3,4] [] rfl rfl ?_;(repeat' first|exact y83 _|apply y85|refine z11 rfl (z6 (fun _=>rfl)) ?_|constructor)<;>((refine z21 ?_;rw [hz]))) ?_
  intro x hx
  by_cases hx8:x < 8
  ·have cc:=cT x hx8
   have hn1:=hon x u v
   have hf1:=hoff x
   generalize gX (a.ed.take k) ⟨u,ec,ev,v⟩ x=G at *
   have gG:=z871 G (show u < a.acc.length by omega)
   have hst:=nxN_set (n:=a.acc.length) (u:=u) G x v
   have h64:v < 64:=by omega
   have hxl:=hnl G
   cases hb:onB ⟨u,ec,ev,v⟩ (x:Int) with
   |false =>
    rw [hb] at cc
    have e1:=hf1 hb
    clear hf1 hn1 hst
    repeat' ((first|apply y6 ok;rfl|(apply y40;first|omega|unfold inI;omega)|apply z7<;>intro _|apply z8 cc;rfl;rfl)<;>conv=>whnf)
    all_goals try (exfalso;omega)
    all_goals refine z29 (x+1) hx8 (by omega) (by refine swR [0,1,2,3,4] [] rfl rfl ?_;(repeat' first|exact y83 _|apply y85|refine z11 rfl (z6 (fun _=>rfl)) ?_|constructor)<;>((refine z21 ?_;rw [e1])))
   |true =>
    rw [hb] at cc
    have e1:=hn1 hb (by simp) (by simp)
    clear hf1 hn1
    repeat' ((first|apply y6 ok;rfl|apply z27;kernel_rfl|(refine z14 (i:=u) rfl gG ?_;refine z344 hx8 (by simp) ?_;intro _)|(refine z14 (i:=u) rfl gG ?_;refine z1095 (f:=updB (G u x) v true) hx8 (by simp) rfl ?_)|(refine y40 (z1114 h64) ?_)|(refine y40 (z1072 _ h64) ?_;rw [or_val _ h64])|(apply y40;first|omega|unfold inI;omega|dsimp only;omega)|(first|apply z7|apply z83)<;>intro _|apply z8 cc;rfl;rfl)<;>conv=>whnf)
    all_goals first|exfalso;omega|rename_i hbb;exact Bool.noConfusion ((Nat.ble_eq_true_of_le (show 0+((x:Nat):Int).toNat * 1+1≤8 by omega)).symm.trans hbb)|skip
    all_goals refine z29 (x+1) hx8 (by omega) (by refine swR [0,1,2,3,4] [] rfl rfl ?_;(repeat' first|exact y83 _|apply y85|refine z50 rfl (z6 (fun _=>rfl)) ?_|constructor)<;>((refine z21 ?_;rw [e1];exact hst)))
  ·obtain rfl:x=8:=by omega
   rw [hlast]
   repeat' ((first|apply y6 ok;rfl|apply y40;(unfold inI;omega))<;>conv=>whnf)
   all_goals refine z29 (k+1) hkl (by omega) (by refine swR [0,1,2,3] [] rfl rfl ?_;(repeat' first|exact y83 _|exact z10 _|apply y85|refine z11 rfl (z6 (fun _=>rfl)) ?_|constructor))
 ·obtain rfl:k=a.ed.length:=by omega
  rw [y53]
  have cS:=fun (S:Rel2) (i j:Nat) (hi:i < a.acc.length) (hj:j < a.acc.length)=>sim1_new a.acc.length (by omega) (gE a.ed) S i j hi hj
  simp only [simB_eq hA] at cS
  have hfN:Flat (nxN a.acc.length (gE a.ed)):=z6 fun _=>rfl
  generalize nxN a.acc.length (gE a.ed)=NX at *
  repeat' ((first|apply y6 ok;rfl|(apply y40;first|omega|dsimp only;omega)|((with_reducible apply z13;omega));intro _|apply z7<;>intro _)<;>conv=>whnf)
  all_goals try (exfalso;omega)
  refine z69 (fun i:Nat=>([(1,.ptr 0 none 0),(3,.ptr 1 none 0),(4,.ptr 3 none 0),(8,.ptr 5 none 0),(51,.int a.acc.length),(52,.int i)],[.cells 3 [a.cs],.cells 1 [[.int a.acc.length]],.cells 8 NX,.cells 1 [[.sref 2 0 a.acc.length]],.cells 1 (byN a.acc.length (bF a i 0)),.cells 1 [[.sref 4 0 a.acc.length]]])) (fun i=>i≤a.acc.length) (fun i=>a.acc.length - i) 0 (y50 _) (by refine swR [0,1,2,3,4,5] [] rfl rfl ?_;(repeat' first|exact y83 _|exact z10 _|apply y85|(refine z11 rfl ?_ ?_);(focus ((repeat' (first|exact z54 rfl|assumption));done))|constructor)<;>((refine z21 ?_;exact byN_zero _ _))) ?_
  intro i hi
  by_cases hil:i < a.acc.length
  ·repeat' ((first|apply y6 ok;rfl|apply z7<;>intro _)<;>conv=>whnf)
   all_goals try (exfalso;omega)
   refine z69 (fun j:Nat=>([(1,.ptr 0 none 0),(3,.ptr 1 none 0),(4,.ptr 3 none 0),(8,.ptr 5 none 0),(51,.int a.acc.length),(52,.int i),(9,.int i),(55,.int a.acc.length),(56,.int j)],[.cells 3 [a.cs],.cells 1 [[.int a.acc.length]],.cells 8 NX,.cells 1 [[.sref 2 0 a.acc.length]],.cells 1 (byN a.acc.length (bF a i j)),.cells 1 [[.sref 4 0 a.acc.length]]])) (fun j=>j≤a.acc.length) (fun j=>a.acc.length - j) 0 (y50 _) (by refine swR [0,1,2,3,4,5] [] rfl rfl ?_;(repeat' first|exact y83 _|exact z10 _|apply y85|(refine z11 rfl ?_ ?_);(focus ((repeat' (first|exact z6 (fun _=>rfl)|assumption));done))|constructor)) ?_
   intro j hj
   by_cases hjl:j < a.acc.length
   ·have gi:(a.acc.map enB)[i]?=some (enB (a.acc.getD i false)):=by rw [y48,y42 hil,z20 hil];rfl
    have gj:(a.acc.map enB)[j]?=some (enB (a.acc.getD j false)):=by rw [y48,y42 hjl,z20 hjl];rfl
    have hr:rel0 a i j=(!a.acc.getD i false || a.acc.getD j false):=by
     unfold rel0;rw [y79 ⟨hil,hjl⟩,Bool.true_and]
    have hon:=bF_on (a:=a) (i:=i) (j:=j) (n:=a.acc.length)
    have hoff:=bF_off (a:=a) (i:=i) (j:=j) (n:=a.acc.length)
    rw [hr] at hon hoff
    have gb:=z569 (bF a i j) hil
    have hbl2:=hbl (bF a i j)
    have h64:j < 64:=by omega
    generalize bF a i j=B at *
    generalize a.acc.getD i false=bi at *
    generalize a.acc.getD j false=bj at *
    cases bi<;>cases bj
    case true.false =>
     have e1:=hoff rfl
     clear hon hoff
     repeat' ((first|apply y6 ok;rfl|refine z14 (i:=i) rfl gi ?_|refine z14 (i:=j) rfl gj ?_|(apply y40;first|omega|unfold inI;omega)|apply z7<;>intro _)<;>conv=>whnf)
     all_goals try (exfalso;omega)
     all_goals refine z29 (j+1) hjl (by omega) (by refine swR [0,1,2,3,4,5] [] rfl rfl ?_;(repeat' first|exact y83 _|exact z10 _|apply y85|(refine z11 rfl ?_ ?_);(focus ((repeat' (first|exact z6 (fun _=>rfl)|assumption));done))|constructor)<;>((refine z21 ?_;rw [e1])))
    all_goals
     have e1:=hon rfl
     clear hon hoff
     repeat' ((first|apply y6 ok;rfl|apply z27;kernel_rfl|refine z14 (i:=i) rfl gi ?_|refine z14 (i:=j) rfl gj ?_|refine z14 (i:=i) rfl gb ?_|(refine y40 (z1114 h64) ?_)|(refine y40 (z1072 _ h64) ?_;rw [or_val _ h64])|(apply y40;first|omega|unfold inI;omega)|apply z7<;>intro _)<;>conv=>whnf)
     all_goals try (exfalso;omega)
     all_goals refine z29 (j+1) hjl (by omega) (by refine swR [0,1,2,3,4,5] [] rfl rfl ?_;(repeat' first|exact y83 _|exact z10 _|apply y85|(first|refine z50 rfl ?_ ?_|refine z11 rfl ?_ ?_);(focus ((repeat' (first|exact z6 (fun _=>rfl)|assumption));done))|constructor)<;>((refine z21 ?_;exact e1)))
   ·obtain rfl:j=a.acc.length:=by omega
    have e1:=bF_row a i a.acc.length
    repeat' ((first|apply y6 ok;rfl|apply z27;kernel_rfl|(apply y40;first|omega|unfold inI;omega)|(first|with_reducible apply z13;omega|apply z13;omega);intro _|(first|apply z7|apply z82|apply z83)<;>intro _)<;>conv=>whnf)
    all_goals try (exfalso;omega)
    all_goals refine z29 (i+1) hil (by omega) (by refine swR [0,1,2,3,4,5] [] rfl rfl ?_;(repeat' first|exact y83 _|exact z10 _|apply y85|(refine z11 rfl ?_ ?_);(focus ((repeat' (first|exact z6 (fun _=>rfl)|assumption));done))|constructor)<;>((refine z21 ?_;exact e1)))
  ·obtain rfl:i=a.acc.length:=by omega
   rw [bF_end]
   repeat' ((first|apply y6 ok;rfl|apply z7<;>intro _)<;>conv=>whnf)
   all_goals try (exfalso;omega)
   refine z69 (fun x:Rel2×Bool=>([(1,.ptr 0 none 0),(3,.ptr 1 none 0),(8,.ptr 5 none 0),(11,simF),(12,.bool x.2)],[.cells 3 [a.cs],.cells 1 [[.int a.acc.length]],.cells 8 NX,.cells 1 [[.sref 2 0 a.acc.length]],.cells 1 (byN a.acc.length x.1),.cells 1 [[.sref 4 0 a.acc.length]]])) (fun x=>RelI a x.1 x.2) (fun x=>cntX a.acc.length x.1+x.2.toNat) (rel0 a,true) (RelI.init a) (by refine swR [0,1,2,3,4,5] [] rfl rfl ?_;(repeat' first|exact y83 _|exact z10 _|apply y85|(refine z11 rfl ?_ ?_);(focus ((repeat' (first|exact z6 (fun _=>rfl)|assumption));done))|constructor)) ?_
   rintro ⟨R,c⟩ hI
   dsimp only at hI ⊢
   cases c with
   |false =>
    rw [← hI.done]
    repeat' (((apply y6 ok;rfl))<;>conv=>whnf)
    all_goals (refine rsD [4] [] rfl ?_;(repeat' first|exact y83 _|exact z10 _|refine z11 rfl (z6 (fun _=>rfl)) ?_|constructor))
   |true =>
    have hI2:=hI.next
    have hmu:=RelI.mu (a:=a) R
    repeat' (((apply y6 ok;rfl))<;>conv=>whnf)
    refine z69 (fun y:Nat×Bool=>([(1,.ptr 0 none 0),(3,.ptr 1 none 0),(8,.ptr 5 none 0),(11,simF),(12,.bool y.2),(84,.int a.acc.length),(85,.int y.1)],[.cells 3 [a.cs],.cells 1 [[.int a.acc.length]],.cells 8 NX,.cells 1 [[.sref 2 0 a.acc.length]],.cells 1 (byN a.acc.length (z110 (ansA a) a.acc.length R y.1)),.cells 1 [[.sref 4 0 a.acc.length]]])) (fun y=>y.1≤a.acc.length∧y.2=chg R (z110 (ansA a) a.acc.length R y.1)) (fun y=>a.acc.length - y.1) (0,false) ⟨y50 _,(z709 R).symm⟩ (by refine swR [0,1,2,3,4,5] [] rfl rfl ?_;(repeat' first|exact y83 _|exact z10 _|apply y85|(refine z11 rfl ?_ ?_);(focus ((repeat' (first|exact z6 (fun _=>rfl)|assumption));done))|constructor)) ?_
    rintro ⟨i,c⟩ ⟨hi,hc⟩
    dsimp only at hi hc ⊢
    by_cases hil:i < a.acc.length
    ·have hle0:=z342 (ansA a) a.acc.length R i
     have hpe:z110 (ansA a) a.acc.length R (i+1)=rowX (ansA a) (z110 (ansA a) a.acc.length R i) i a.acc.length:=rfl
     generalize z110 (ansA a) a.acc.length R i=S0 at *
     repeat' ((first|apply y6 ok;rfl|apply z7<;>intro _)<;>conv=>whnf)
     all_goals try (exfalso;omega)
     refine z69 (fun z:Nat×Bool=>([(1,.ptr 0 none 0),(3,.ptr 1 none 0),(8,.ptr 5 none 0),(11,simF),(12,.bool z.2),(84,.int a.acc.length),(85,.int i),(13,.int i),(88,.int a.acc.length),(89,.int z.1)],[.cells 3 [a.cs],.cells 1 [[.int a.acc.length]],.cells 8 NX,.cells 1 [[.sref 2 0 a.acc.length]],.cells 1 (byN a.acc.length (rowX (ansA a) S0 i z.1)),.cells 1 [[.sref 4 0 a.acc.length]]])) (fun z=>z.1≤a.acc.length∧z.2=chg R (rowX (ansA a) S0 i z.1)) (fun z=>a.acc.length - z.1) (0,c) ⟨y50 _,hc⟩ (by refine swR [0,1,2,3,4,5] [] rfl rfl ?_;(repeat' first|exact y83 _|exact z10 _|apply y85|(refine z11 rfl ?_ ?_);(focus ((repeat' (first|exact z6 (fun _=>rfl)|assumption));done))|constructor)) ?_
     rintro ⟨j,c⟩ ⟨hj,hc⟩
     dsimp only at hj hc ⊢
     have hle:=(z446 (ansA a) S0 i j).trans hle0
     have hre:rowX (ansA a) S0 i (j+1)=z357 (ansA a) (rowX (ansA a) S0 i j) i j:=rfl
     by_cases hjl:j < a.acc.length
     ·generalize rowX (ansA a) S0 i j=S at *
      have gb:=z569 S hil
      have hbl2:=hbl S
      have h64:j < 64:=by omega
      have cc:=cS S i j hil hjl
      have hset:=byN_clr (n:=a.acc.length) (i:=i) (j:=j) S
      have hstep:(S i j=false∨ansA a S i j=true)→rowX (ansA a) S0 i (j+1)=S:=fun h=>hre.trans (z977 h)
      have hstep2:S i j=true→ansA a S i j=false→rowX (ansA a) S0 i (j+1)=clr S i j∧chg R (clr S i j)=true:=fun h1 h2=>by
       have:=z1239 (R:=R) hle h1 h2
       exact ⟨hre.trans this.1,this.2⟩
      cases hsij:S i j with
      |false =>
       have hb:Hid _:=bit_f h64 hsij
       have e1:=hstep (.inl hsij)
       clear hstep hstep2 hset cc
       repeat' ((first|apply y6 ok;rfl|refine z14 (i:=i) rfl gb ?_|(refine y40 (z304 _ _) ?_;rw [hb.out])|(apply y40;first|omega|unfold inI;omega)|apply z7<;>intro _)<;>conv=>whnf)
       all_goals try (exfalso;omega)
       all_goals refine z29 (j+1,c) ⟨hjl,by rw [e1];exact hc⟩ (by show a.acc.length - (j+1) < a.acc.length - j;omega) (by refine swR [0,1,2,3,4,5] [] rfl rfl ?_;(repeat' first|exact y83 _|exact z10 _|apply y85|(refine z11 rfl ?_ ?_);(focus ((repeat' (first|exact z6 (fun _=>rfl)|assumption));done))|constructor)<;>((refine z21 ?_;rw [e1])))
      |true =>
       have hb:Hid _:=bit_t h64 hsij
       cases hans:ansA a S i j with
       |true =>
        rw [hans] at cc
        have e1:=hstep (.inr hans)
        clear hstep hstep2 hset
        repeat' ((first|apply y6 ok;rfl|refine z14 (i:=i) rfl gb ?_|(refine y40 (z304 _ _) ?_;rw [hb.out])|(apply y40;first|omega|unfold inI;omega)|apply z7<;>intro _|apply z175 [1,3,5,2,4] [] cc;rfl;(focus ((repeat' first|exact z62|apply z71)<;>first|rfl|refine z89 rfl ?_;(first|exact z6 fun _=>rfl|assumption)));rfl;(focus ((repeat' first|exact z23|apply z19)<;>first|exact z58 rfl rfl|refine z30 ?_;(first|exact z6 fun _=>rfl|assumption))))<;>conv=>whnf)
        all_goals try (exfalso;omega)
        all_goals refine z29 (j+1,c) ⟨hjl,by rw [e1];exact hc⟩ (by show a.acc.length - (j+1) < a.acc.length - j;omega) (by refine swR [0,1,2,3,4,5] [] rfl rfl ?_;(repeat' first|exact y83 _|exact z10 _|apply y85|(refine z11 rfl ?_ ?_);(focus ((repeat' (first|exact z6 (fun _=>rfl)|assumption));done))|constructor)<;>((refine z21 ?_;rw [e1])))
       |false =>
        rw [hans] at cc
        obtain ⟨e1,e2⟩:=hstep2 hsij hans
        clear hstep hstep2
        repeat' ((first|apply y6 ok;rfl|apply z27;kernel_rfl|refine z14 (i:=i) rfl gb ?_|(refine y40 (z304 _ _) ?_;rw [hb.out])|(refine y40 (z1114 h64) ?_)|(refine y40 (z1072 _ h64) ?_;rw [clr_val _ h64])|(apply y40;first|omega|unfold inI;omega)|apply z7<;>intro _|apply z175 [1,3,5,2,4] [] cc;rfl;(focus ((repeat' first|exact z62|apply z71)<;>first|rfl|refine z89 rfl ?_;(first|exact z6 fun _=>rfl|assumption)));rfl;(focus ((repeat' first|exact z23|apply z19)<;>first|exact z58 rfl rfl|refine z30 ?_;(first|exact z6 fun _=>rfl|assumption))))<;>conv=>whnf)
        all_goals try (exfalso;omega)
        all_goals refine z29 (j+1,true) ⟨hjl,by rw [e1];exact e2.symm⟩ (by show a.acc.length - (j+1) < a.acc.length - j;omega) (by refine swR [0,1,2,3,4,5] [] rfl rfl ?_;(repeat' first|exact y83 _|exact z10 _|apply y85|(first|refine z50 rfl ?_ ?_|refine z11 rfl ?_ ?_);(focus ((repeat' (first|exact z6 (fun _=>rfl)|assumption));done))|constructor)<;>((refine z21 ?_;rw [e1];exact hset)))
     ·obtain rfl:j=a.acc.length:=by omega
      rw [← hpe] at hc ⊢
      generalize hS:z110 (ansA a) a.acc.length R (i+1)=S at *
      repeat' ((first|apply y6 ok;rfl|(apply y40;first|omega|unfold inI;omega)|((apply z13;omega));intro _|apply z7<;>intro _)<;>conv=>whnf)
      all_goals try (exfalso;omega)
      all_goals refine z29 (i+1,c) ⟨hil,by rw [hS];exact hc⟩ (by show a.acc.length - (i+1) < a.acc.length - i;omega) (by refine swR [0,1,2,3,4,5] [] rfl rfl ?_;(repeat' first|exact y83 _|exact z10 _|apply y85|(refine z11 rfl ?_ ?_);(focus ((repeat' (first|exact z6 (fun _=>rfl)|assumption));done))|constructor)<;>((refine z21 ?_;rw [hS])))
    ·obtain rfl:i=a.acc.length:=by omega
     subst hc
     repeat' ((first|apply y6 ok;rfl|apply z7<;>intro _)<;>conv=>whnf)
     all_goals try (exfalso;omega)
     all_goals refine z29 (_,_) hI2 hmu (by refine swR [0,1,2,3,4,5] [] rfl rfl ?_;(repeat' first|exact y83 _|exact z10 _|apply y85|(refine z11 rfl ?_ ?_);(focus ((repeat' (first|exact z6 (fun _=>rfl)|assumption));done))|constructor))
end
end Go.Proofs.YteinbnahinpegaaGreat
namespace Go.Proofs.YteinbnahinpegaaGreat
open Go.Gl Proofs.Tryz
attribute [local irreducible] z18 AWP z38 z41 z40 RetS z42
def nyR (N:Nat) (ps:List (Nat×Int)):List (List Int):=(List.range N).map fun q=>z75 [] ((ps.filter fun p=>p.1 == q).map (·.2))
theorem z449 (N:Nat) (ps:List (Nat×Int)):(nyR N ps).length=N:=by simp [nyR]
theorem z1150 {N q:Nat} (ps:List (Nat×Int)) (h:q < N):(nyR N ps).getD q []=z75 [] ((ps.filter fun p=>p.1 == q).map (·.2)):=by
 rw [z20 (by rw [z449];exact h)];simp [nyR]
theorem z372 (out l:List Int) (x:Int):z75 out (l++[x])=z134 (z75 out l) x:=by
 unfold z75;rw [y60];rfl
theorem nyR_push {N:Nat} (ps:List (Nat×Int)) {i:Nat} (v:Int) (h:i < N):nyR N (ps++[(i,v)])=(nyR N ps).set i (z134 ((nyR N ps).getD i []) v):=by
 rw [z1150 ps h]
 apply y72 (by simp [z449])
 intro j h1 h2
 rw [z449] at h1
 rw [List.getElem_set]
 have e:∀ qs,∀ hj:j < (nyR N qs).length,(nyR N qs)[j]=z75 [] ((qs.filter fun p=>p.1 == j).map (·.2)):=fun qs hj=>by simp [nyR]
 rw [e]
 by_cases hj:i=j
 ·subst hj
  rw [if_pos rfl,List.filter_append,y61]
  simp only [List.filter_cons,List.filter_nil,beq_self_eq_true,if_true,List.map_cons,List.map_nil]
  exact z372 _ _ _
 ·rw [if_neg hj,e,List.filter_append]
  have:(i == j)=false:=by simpa using hj
  simp [this]
theorem z178 {l:List Int} : ∀ {out:List Int} {x:Int},x∈z75 out l↔x∈out∨x∈l:=fun {out x}=>by
 induction l generalizing out with
 |nil=>simp [z75]
 |cons y l ih =>
  show x∈z75 (z134 out y) l↔_
  rw [ih,z509,List.mem_cons]
  exact or_assoc
theorem ny_mem {a:Aut} (hA:AutP a) {q:Nat} (hq:q < a.acc.length) {y:Int} : y∈(nyR a.acc.length (a.ed.map fun e=>(e.src.toNat,e.dst))).getD q []↔y∈(nxA a).getD q []:=by
 rw [z1150 _ hq,z178]
 have h:=z769 hA
 have e:(nxA a).getD q []=((a.ed.map fun e=>(e.src.toNat,e.dst)).filter fun p=>p.1 == q).map (·.2):=by
  rw [← h,z20 (by rw [z100];exact hq),z271]
 rw [e]
 simp
def z315 (l:List Bool):List AC:=ownG 1 enB l
def relO (n:Nat) (R:Rel2) (i:Nat):List (List AC):=((z101 n R).map z315).set i [.sref 1 0 n]
theorem okX_of {by' : List Trans} {R:Rel2} {x:Int} {e:Trans} : okX by' R x e=(!onB e x || by'.any fun f=>onB f x && R e.dst.toNat f.dst.toNat):=rfl
theorem ansL_no {fr by' : List Trans} {R:Rel2} {x k:Nat} (hx:x < 8) (hk:k < fr.length) (h:okX by' R (x:Int) fr[k]=false):ansL fr by' R=false:=by
 cases hA:ansL fr by' R with
 |false=>rfl
 |true =>
  unfold ansL at hA
  rw [y76] at hA
  have:=hA x (List.mem_range.2 hx)
  rw [y76] at this
  have:=this _ (y41 hk)
  rw [h] at this;cases this
theorem ansL_yes {fr by' : List Trans} {R:Rel2} (h:∀ x:Nat,x < 8→∀ k (hk:k < fr.length),okX by' R (x:Int) fr[k]=true):ansL fr by' R=true:=by
 unfold ansL
 rw [y76]
 intro x hx
 rw [y76]
 intro e he
 obtain ⟨k,hk,rfl⟩:=List.mem_iff_getElem.1 he
 exact h x (List.mem_range.1 hx) k hk
theorem z822 {p:Trans→Bool} {l:List Trans} {k:Nat} (h:k < l.length):(l.take (k+1)).any p=((l.take k).any p || p l[k]):=by
 rw [y47 h,List.any_append]
 simp
theorem z821 {p:Trans→Bool} {l:List Trans} {k:Nat} (h:(l.take k).any p=true):l.any p=true:=by
 obtain ⟨x,hx,hp⟩:=List.any_eq_true.1 h
 exact List.any_eq_true.2 ⟨x,List.mem_of_mem_take hx,hp⟩
theorem relO_len (n:Nat) (R:Rel2) (i:Nat):(relO n R i).length=n:=by simp [relO,z101]
theorem z1130 {n i:Nat} (R:Rel2) (h:i < n):(relO n R i)[i]?=some [.sref 1 0 n]:=by
 unfold relO
 rw [List.getElem?_set_self (by simp [z101];exact h)]
theorem relO_ne {n i u:Nat} (R:Rel2) (h:u < n) (hu:u≠i):(relO n R i)[u]?=some (z315 (fnB n (R u))):=by
 unfold relO
 rw [List.getElem?_set_ne (fun e=>hu e.symm),y48,z379 R h];rfl
theorem z1131 (n:Nat) (R:Rel2) (i:Nat) (f:AC→AC) (h1:f (.sref 1 0 n)=.sref 1 0 n) (h2:∀ w es,f (.own w es)=.own w es):(relO n R i).map (fun e=>e.map f)=relO n R i:=by
 conv=>rhs;rw [← List.map_id (relO n R i)]
 refine List.map_congr_left fun e he=>?_
 unfold relO at he
 rcases List.mem_or_eq_of_mem_set he with h|rfl
 ·obtain ⟨l,_,rfl⟩:=List.mem_map.1 h
  show [f _]=[_]
  rw [h2]
 ·show [f _]=[_]
  rw [h1]
def EdB (n:Nat) (l:List Trans):Prop:=l.length≤2048∧∀ e∈l,(0≤e.care∧e.care≤7)∧0≤e.dst∧e.dst < n
set_option maxHeartbeats 6400000 in
theorem z600 (fr by' : List Trans) (n:Nat) (hn:n≤64) (R:Rel2) (i:Nat) (hi:i < n) (hf:EdB n fr) (hb:EdB n by'):QQ 164 [lst 4 Trans.cs fr,lst 4 Trans.cs by',.sref 0 0 n] [.cells 1 (relO n R i),.cells 1 ((fnB n (R i)).map enB)] (.bool (ansL fr by' R)) [.cells 1 (relO n R i),.cells 1 ((fnB n (R i)).map enB)]:=by
 have hrl:=relO_len n R i
 have hrs:=z1130 R hi
 have hrn:=fun u h hu=>relO_ne (n:=n) (i:=i) (u:=u) R h hu
 have hfl:=fun q=>z173 n (R q)
 have hfg:=fun q v (h:v < n)=>z324 (N:=n) (R q) h
 have hb1:=hb.1
 have hf1:=hf.1
 have hp:=z1131 n R i
 generalize relO n R i=rel at *
 refine z12 z24 func164 rfl rfl 63 ntmps164 (by simp) ?_
 repeat' (((apply y6 ok;rfl))<;>conv=>whnf)
 refine z69 (fun x:Nat=>([(0,lst 4 Trans.cs fr),(1,lst 4 Trans.cs by'),(2,.sref 0 0 n),(7,.int x)],[.cells 1 rel,.cells 1 ((fnB n (R i)).map enB)])) (fun x=>x≤8∧∀ y:Nat,y < x→∀ k (hk:k < fr.length),okX by' R (y:Int) fr[k]=true) (fun x=>8 - x) 0 ⟨by omega,fun _ h=>by omega⟩ (by refine swR [0,1] [] rfl rfl ?_;(repeat' first|exact y83 _|exact z10 _|refine z11 rfl (z6 (fun _=>rfl)) ?_|apply y84|constructor)<;>((refine z21 ?_;exact hp _ rfl fun _ _=>rfl))) ?_
 rintro x ⟨hx,hall⟩
 by_cases hx8:x < 8
 ·repeat' ((first|apply y6 ok;rfl|apply z7<;>intro _)<;>conv=>whnf)
  all_goals try (exfalso;omega)
  refine z69 (fun k:Nat=>([(0,lst 4 Trans.cs fr),(1,lst 4 Trans.cs by'),(2,.sref 0 0 n),(7,.int x),(8,.int k)],[.cells 1 rel,.cells 1 ((fnB n (R i)).map enB)])) (fun k=>k≤fr.length∧∀ j (hj:j < fr.length),j < k→okX by' R (x:Int) fr[j]=true) (fun k=>fr.length - k) 0 ⟨y50 _,fun _ _ h=>by omega⟩ (by refine swR [0,1] [] rfl rfl ?_;(repeat' first|exact y83 _|exact z10 _|refine z11 rfl (z6 (fun _=>rfl)) ?_|apply y84|constructor)<;>((refine z21 ?_;exact hp _ rfl fun _ _=>rfl))) ?_
  rintro k ⟨hk,hkall⟩
  by_cases hkl:k < fr.length
  ·have gk:(fr.map Trans.cs)[k]?=some (Trans.cs fr[k]):=by rw [y48,y42 hkl];rfl
   obtain ⟨hc,hd⟩:=hf.2 _ (y41 hkl)
   have hok:=okX_of (by':=by') (R:=R) (x:=(x:Int)) (e:=fr[k])
   have hno:=ansL_no (by':=by') (R:=R) hx8 hkl
   have hnext:okX by' R (x:Int) fr[k]=true→∀ j (hj:j < fr.length),j < k+1→okX by' R (x:Int) fr[j]=true:=fun h j hj hjk=>by
    by_cases e:j=k
    ·subst e;exact h
    ·exact hkall j hj (by omega)
   have cO:QQ 213 [z61 Trans.cs fr[k],.int x] [] (.bool (onB fr[k] (x:Int))) []:=z882 fr[k] x (by omega) (by omega) hc
   generalize okX by' R (x:Int) fr[k]=okk at *
   generalize fr[k]=e at *
   generalize ho:onB e (x:Int)=o at *
   obtain ⟨es,ec,ev,ed⟩:=e
   dsimp only at hd hok
   obtain ⟨u,rfl⟩:∃ u:Nat,ed=u:=⟨ed.toNat,by omega⟩
   rw [y74] at hok
   cases o with
   |false =>
    rw [Bool.not_false,Bool.true_or] at hok
    repeat' ((first|apply y6 ok;rfl|refine z14 (i:=k) rfl gk ?_|(apply y40;first|omega|unfold inI;omega)|apply z7<;>intro _|apply z8 cO;rfl;rfl)<;>conv=>whnf)
    all_goals try (exfalso;omega)
    all_goals refine z29 (k+1) ⟨hkl,hnext hok⟩ (by omega) (by refine swR [0,1] [] rfl rfl ?_;(repeat' first|exact y83 _|exact z10 _|refine z11 rfl (z6 (fun _=>rfl)) ?_|apply y84|constructor)<;>((refine z21 ?_;exact hp _ rfl fun _ _=>rfl)))
   |true =>
    rw [Bool.not_true,Bool.false_or] at hok
    have hun:u < n:=by omega
    repeat' ((first|apply y6 ok;rfl|refine z14 (i:=k) rfl gk ?_|apply y40;omega|apply z7<;>intro _|apply z8 cO;rfl;rfl)<;>conv=>whnf)
    all_goals try (exfalso;omega)
    by_cases hui:u=i
    ·subst hui
     refine z69 (fun y:Nat×Bool=>([(0,lst 4 Trans.cs fr),(1,lst 4 Trans.cs by'),(2,.sref 0 0 n),(7,.int x),(8,.int k),(9,.bool y.2),(10,.int y.1)],[.cells 1 rel,.cells 1 ((fnB n (R u)).map enB)])) (fun y=>y.1≤by'.length∧y.2=(by'.take y.1).any fun f=>onB f (x:Int) && R u f.dst.toNat) (fun y=>by'.length - y.1) (0,false) ⟨y50 _,rfl⟩ (by refine swR [0,1] [] rfl rfl ?_;(repeat' first|exact y83 _|exact z10 _|refine z11 rfl (z6 (fun _=>rfl)) ?_|apply y84|constructor)<;>((refine z21 ?_;exact hp _ rfl fun _ _=>rfl))) ?_
     rintro ⟨m,b⟩ ⟨hm,hbv⟩
     dsimp only at hm hbv ⊢
     by_cases hgo:b=false∧m < by'.length
     ·obtain ⟨rfl,hml⟩:=hgo
      have gm:(by'.map Trans.cs)[m]?=some (Trans.cs by'[m]):=by rw [y48,y42 hml];rfl
      obtain ⟨hc2,hd2⟩:=hb.2 _ (y41 hml)
      have hs:=z822 (p:=fun f=>onB f (x:Int) && R u f.dst.toNat) hml
      rw [← hbv,Bool.false_or] at hs
      have cP:QQ 213 [z61 Trans.cs by'[m],.int x] [] (.bool (onB by'[m] (x:Int))) []:=z882 by'[m] x (by omega) (by omega) hc2
      generalize by'[m]=e2 at *
      generalize ho2:onB e2 (x:Int)=o2 at *
      obtain ⟨fs,fc,fv,fd⟩:=e2
      dsimp only at hd2 hs
      obtain ⟨v,rfl⟩:∃ v:Nat,fd=v:=⟨fd.toNat,by omega⟩
      rw [y74] at hs
      have gv:=hfg u v (by omega)
      generalize R u v=rv at *
      cases o2
      all_goals
       repeat' ((first|apply y6 ok;rfl|apply z27;kernel_rfl|refine z14 (i:=m) rfl gm ?_|refine z14 (i:=k) rfl gk ?_|refine z14 (i:=u) rfl hrs ?_|refine z14 (i:=v) rfl gv ?_|(apply y40;first|omega|unfold inI;omega|dsimp only;omega)|apply z7<;>intro _|apply z8 cP;rfl;rfl)<;>conv=>whnf)
       all_goals try (exfalso;omega)
       all_goals refine z29 (m+1,_) ⟨hml,hs.symm⟩ (by show by'.length - (m+1) < by'.length - m;omega) (by refine swR [0,1] [] rfl rfl ?_;(repeat' first|exact y83 _|exact z10 _|refine z11 rfl (z6 (fun _=>rfl)) ?_|apply y84|constructor)<;>((refine z21 ?_;exact hp _ rfl fun _ _=>rfl)))
     ·have hbe:b=by'.any fun f=>onB f (x:Int) && R u f.dst.toNat:=by
       cases b with
       |true=>exact (z821 hbv.symm).symm
       |false =>
        have:¬ m < by'.length:=fun h=>hgo ⟨rfl,h⟩
        rw [hbv,y54 (by omega)]
      rw [← hbe] at hok
      cases b with
      |true =>
       repeat' ((first|apply y6 ok;rfl|apply y40;(unfold inI;omega)|apply z7<;>intro _)<;>conv=>whnf)
       all_goals refine z29 (k+1) ⟨hkl,hnext hok⟩ (by omega) (by refine swR [0,1] [] rfl rfl ?_;(repeat' first|exact y83 _|exact z10 _|refine z11 rfl (z6 (fun _=>rfl)) ?_|apply y84|constructor)<;>((refine z21 ?_;exact hp _ rfl fun _ _=>rfl)))
      |false =>
       rw [hno hok]
       repeat' ((first|apply y6 ok;rfl|apply y40;omega|((with_reducible apply z13;omega));intro _|apply z7<;>intro _)<;>conv=>whnf)
       all_goals first|exfalso;exact hgo ⟨rfl,by omega⟩|skip
       all_goals (refine rsD [0,1] [] rfl ?_;(repeat' first|exact y83 _|exact z10 _|refine z11 rfl (z6 (fun _=>rfl)) ?_|apply y84|constructor))
       all_goals exact z21 (hp _ rfl fun _ _=>rfl)
    ·have hrun:=hrn u hun hui
     have hbk:(rel.set u [.sref 2 0 n]).set u (z315 (fnB n (R u)))=rel:=by
      rw [List.set_set]
      apply y72 (by simp)
      intro q h1 h2
      rw [List.getElem_set]
      split
      ·rename_i e
       subst e
       rw [y42 h2] at hrun
       exact (Option.some.inj hrun).symm
      ·rfl
     have hgs:(rel.set u [.sref 2 0 n])[u]?=some [.sref 2 0 n]:=List.getElem?_set_self (by omega)
     have hp2:∀ (f:AC→AC),f (.sref 1 0 n)=.sref 1 0 n→f (.sref 2 0 n)=.sref 2 0 n→(∀ w es,f (.own w es)=.own w es)→(rel.set u [.sref 2 0 n]).map (fun e=>e.map f)=rel.set u [.sref 2 0 n]:=fun f h1 h2 h3=>by
      rw [List.map_set,hp f h1 h3]
      show rel.set u [f _]=_
      rw [h2]
     refine y82 (Gl.Reach.expose (e:=z315 (fnB n (R u))) 0 u 0 rfl hrun rfl (z168 (fun _=>rfl) _) rfl) ?_
     conv=>whnf
     rw [show (List.map enB (fnB n (R u))).length=n by rw [y46,hfl]]
     refine z69 (fun y:Nat×Bool=>([(0,lst 4 Trans.cs fr),(1,lst 4 Trans.cs by'),(2,.sref 0 0 n),(7,.int x),(8,.int k),(9,.bool y.2),(10,.int y.1)],[.cells 1 (rel.set u [.sref 2 0 n]),.cells 1 ((fnB n (R i)).map enB),.cells 1 ((fnB n (R u)).map enB)])) (fun y=>y.1≤by'.length∧y.2=(by'.take y.1).any fun f=>onB f (x:Int) && R u f.dst.toNat) (fun y=>by'.length - y.1) (0,false) ⟨y50 _,rfl⟩ (by refine swR [0,1,2] [] rfl rfl ?_;(repeat' first|exact y83 _|exact z10 _|refine z50 rfl (z6 (fun _=>rfl)) ?_|refine z11 rfl (z6 (fun _=>rfl)) ?_|apply y84|constructor)<;>((refine z21 ?_;exact hp2 _ rfl rfl fun _ _=>rfl))) ?_
     rintro ⟨m,b⟩ ⟨hm,hbv⟩
     dsimp only at hm hbv ⊢
     by_cases hgo:b=false∧m < by'.length
     ·obtain ⟨rfl,hml⟩:=hgo
      have gm:(by'.map Trans.cs)[m]?=some (Trans.cs by'[m]):=by rw [y48,y42 hml];rfl
      obtain ⟨hc2,hd2⟩:=hb.2 _ (y41 hml)
      have hs:=z822 (p:=fun f=>onB f (x:Int) && R u f.dst.toNat) hml
      rw [← hbv,Bool.false_or] at hs
      have cP:QQ 213 [z61 Trans.cs by'[m],.int x] [] (.bool (onB by'[m] (x:Int))) []:=z882 by'[m] x (by omega) (by omega) hc2
      generalize by'[m]=e2 at *
      generalize ho2:onB e2 (x:Int)=o2 at *
      obtain ⟨fs,fc,fv,fd⟩:=e2
      dsimp only at hd2 hs
      obtain ⟨v,rfl⟩:∃ v:Nat,fd=v:=⟨fd.toNat,by omega⟩
      rw [y74] at hs
      have gv:=hfg u v (by omega)
      generalize R u v=rv at *
      cases o2
      all_goals
       repeat' ((first|apply y6 ok;rfl|apply z27;kernel_rfl|refine z14 (i:=m) rfl gm ?_|refine z14 (i:=k) rfl gk ?_|refine z14 (i:=u) rfl hgs ?_|refine z14 (i:=v) rfl gv ?_|(apply y40;first|omega|unfold inI;omega|dsimp only;omega)|apply z7<;>intro _|apply z8 cP;rfl;rfl)<;>conv=>whnf)
       all_goals try (exfalso;omega)
       all_goals refine z29 (m+1,_) ⟨hml,hs.symm⟩ (by show by'.length - (m+1) < by'.length - m;omega) (by refine swR [0,1,2] [] rfl rfl ?_;(repeat' first|exact y83 _|exact z10 _|refine z50 rfl (z6 (fun _=>rfl)) ?_|refine z11 rfl (z6 (fun _=>rfl)) ?_|apply y84|constructor)<;>((refine z21 ?_;exact hp2 _ rfl rfl fun _ _=>rfl)))
     ·have hbe:b=by'.any fun f=>onB f (x:Int) && R u f.dst.toNat:=by
       cases b with
       |true=>exact (z821 hbv.symm).symm
       |false =>
        have:¬ m < by'.length:=fun h=>hgo ⟨rfl,h⟩
        rw [hbv,y54 (by omega)]
      rw [← hbe] at hok
      refine y82 (Gl.Reach.absorb 0 2 u 0 rfl hgs rfl rfl (by rw [y46,hfl]) rfl (z6 fun _=>rfl) rfl) ?_
      conv=>whnf
      rw [show (rel.set u [.sref 2 0 n]).set u ([AC.sref 2 0 n].set 0 (.own 1 ((fnB n (R u)).map enB)))=rel from hbk]
      cases b with
      |true =>
       repeat' ((first|apply y6 ok;rfl|apply y40;(unfold inI;omega)|apply z7<;>intro _)<;>conv=>whnf)
       all_goals refine z29 (k+1) ⟨hkl,hnext hok⟩ (by omega) (by refine swR [0,1] [] rfl rfl ?_;(repeat' first|exact y83 _|exact z10 _|refine z11 rfl (z6 (fun _=>rfl)) ?_|apply y84|constructor)<;>((refine z21 ?_;exact hp _ rfl fun _ _=>rfl)))
      |false =>
       rw [hno hok]
       repeat' ((first|apply y6 ok;rfl|apply y40;omega|((with_reducible apply z13;omega));intro _|apply z7<;>intro _)<;>conv=>whnf)
       all_goals first|exfalso;exact hgo ⟨rfl,by omega⟩|skip
       all_goals (refine rsD [0,1] [] rfl ?_;(repeat' first|exact y83 _|exact z10 _|refine z11 rfl (z6 (fun _=>rfl)) ?_|apply y84|constructor))
       all_goals exact z21 (hp _ rfl fun _ _=>rfl)
  ·obtain rfl:k=fr.length:=by omega
   repeat' ((first|apply y6 ok;rfl|(apply y40;first|omega|unfold inI;omega)|((with_reducible apply z13;omega));intro _|apply z7<;>intro _)<;>conv=>whnf)
   all_goals try (exfalso;omega)
   all_goals refine z29 (x+1) ⟨by omega,fun y hy j hj=>?_⟩ (by omega) (by refine swR [0,1] [] rfl rfl ?_;(repeat' first|exact y83 _|exact z10 _|refine z11 rfl (z6 (fun _=>rfl)) ?_|apply y84|constructor)<;>((refine z21 ?_;exact hp _ rfl fun _ _=>rfl)))
   by_cases e:y=x
   ·subst e;exact hkall j hj hj
   ·exact hall y (by omega) j hj
 ·obtain rfl:x=8:=by omega
  rw [ansL_yes hall]
  repeat' (((apply y6 ok;rfl))<;>conv=>whnf)
  all_goals (refine rsD [0,1] [] rfl ?_;(repeat' first|exact y83 _|exact z10 _|refine z11 rfl (z6 (fun _=>rfl)) ?_|apply y84|constructor))
  all_goals exact z21 (hp _ rfl fun _ _=>rfl)
theorem z986 (l:List Int):∀ out:List Int,(z75 out l).length≤out.length+l.length:=by
 induction l with
 |nil=>intro out;simp [z75]
 |cons x l ih =>
  intro out
  have:=ih (z134 out x)
  have h:(z134 out x).length≤out.length+1:=by unfold z134;split<;>simp
  show (z75 (z134 out x) l).length≤_
  simp only [y55];omega
theorem nyR_nil (N:Nat):(nyR N []).map (ownG 1 enI)=List.replicate N [.own 1 []]:=by
 apply y72 (by simp [z449])
 intro i h1 h2
 simp [nyR,z75,ownG]
theorem z1149 {N i:Nat} {ps:List (Nat×Int)} (h:i < N):((nyR N ps).getD i []).length≤ps.length:=by
 rw [z1150 _ h]
 have h1:=z986 ((ps.filter fun p=>p.1 == i).map (·.2)) []
 have h2:=List.length_filter_le (fun p:Nat×Int=>p.1 == i) ps
 simp only [y46,y56] at h1
 omega
set_option maxHeartbeats 1600000 in
theorem z1026 (a:Aut) (hA:AutP a):QQ 106 [.agg a.cs] [] (.sref 0 0 a.acc.length) [.cells 1 ((nyR a.acc.length (a.ed.map fun e=>(e.src.toNat,e.dst))).map z114)]:=by
 obtain ⟨⟨a1,a2⟩,a3,a4,a5⟩:=hA
 refine z16 z24 func106 rfl rfl 45 ntmps106 (by simp) ?_
 repeat' (first|apply y6 ok;rfl;conv=>whnf|apply y40;((dsimp only;omega));conv=>whnf)
 refine y82 (Gl.Reach.weaken (es':=List.replicate a.acc.length [.own 1 []]) 1 rfl (by rw [y43,y43];rfl) z221 rfl) ?_
 conv=>whnf
 refine z111 (fun k:Nat=>([(1,.ptr 0 none 0),(3,.sref 1 0 a.acc.length),(4,.int k)],[.cells 3 [[lst 1 enI a.ini,lst 1 enB a.acc,lst 4 Trans.cs a.ed]],.cells 1 ((nyR a.acc.length ((a.ed.take k).map fun e=>(e.src.toNat,e.dst))).map (ownG 1 enI))])) (fun k=>k≤a.ed.length) (fun k=>a.ed.length - k) 0 (by omega)
  ⟨[0,1],rfl,by decide,rfl,⟨⟨rfl,rfl⟩,⟨rfl,rfl⟩,⟨rfl,rfl⟩,trivial⟩,⟨z43 rfl rfl,z37 (z45 (nyR_nil _).symm) (z6 fun _=>rfl),trivial⟩⟩ ?_
 intro k hk
 by_cases hkl:k < a.ed.length
 ·have he:=a5 a.ed[k] (y41 hkl)
  unfold z205 at he
  have hs:a.ed[k].src.toNat < a.acc.length:=by omega
  have e1:((a.ed.take (k+1)).map fun e=>(e.src.toNat,e.dst))=((a.ed.take k).map fun e=>(e.src.toNat,e.dst))++[(a.ed[k].src.toNat,a.ed[k].dst)]:=by
   rw [y47 hkl,y61];rfl
  have hp:=nyR_push ((a.ed.take k).map fun e=>(e.src.toNat,e.dst)) a.ed[k].dst hs
  rw [← e1] at hp
  have hrl:=z1149 (ps:=(a.ed.take k).map fun e=>(e.src.toNat,e.dst)) hs
  rw [y46,y45] at hrl
  have hL:=z449 a.acc.length ((a.ed.take k).map fun e=>(e.src.toNat,e.dst))
  have hg0:((nyR a.acc.length ((a.ed.take k).map fun e=>(e.src.toNat,e.dst))).map (ownG 1 enI))[a.ed[k].src.toNat]?=some (ownG 1 enI ((nyR a.acc.length ((a.ed.take k).map fun e=>(e.src.toNat,e.dst))).getD a.ed[k].src.toNat [])):=by
   rw [y48,y42 (by omega),z20 (by omega)];rfl
  have hmap:a.ed[k].src.toNat < ((nyR a.acc.length ((a.ed.take k).map fun e=>(e.src.toNat,e.dst))).map (ownG 1 enI)).length:=by rw [y46];omega
  generalize (nyR a.acc.length ((a.ed.take k).map fun e=>(e.src.toNat,e.dst))).getD a.ed[k].src.toNat []=row at *
  have cI:=z1185 row (by unfold maxLen;omega) a.ed[k].dst
  have hin:((a.ed[k].src.toNat:Nat):Int)=a.ed[k].src:=by omega
  repeat' (first|(fail_if_success apply z122 6);(fail_if_success apply z96 6);(fail_if_success apply z122 8);(fail_if_success apply z96 8);apply y6 ok;rfl;conv=>whnf|apply y40;(omega);conv=>whnf|with_reducible apply z13;omega;intro _;conv=>whnf|apply z7<;>intro _<;>conv=>whnf)
  all_goals try (exfalso;omega)
  refine y82 (Gl.Reach.expose (e:=ownG 1 enI row) 1 a.ed[k].src.toNat 0 rfl hg0 rfl (z168 (fun _=>rfl) _) rfl) ?_
  conv=>whnf
  rw [show (List.map enI row).length=row.length from y46 _]
  (apply y6 ok;rfl;conv=>whnf)
  by_cases hm:a.ed[k].dst∈row
  ·have hv:z134 row a.ed[k].dst=row:=by unfold z134;rw [if_pos hm]
   rw [y79 hm] at cI
   rw [hv] at hp
   repeat' (first|(fail_if_success apply z122 7);(fail_if_success apply z96 7);(fail_if_success apply z122 4);(fail_if_success apply z96 4);apply y6 ok;rfl;conv=>whnf|apply z289;exact Nat.add_zero _;exact hmap;conv=>whnf|apply y40;(omega);conv=>whnf|apply z125 [] [3] [] cI;(focus ((repeat' (first|exact z87|apply z60))<;>(first|exact z147 rfl rfl rfl|rfl)));(focus ((repeat' (exact z62))<;>(fail)));rfl;rfl;rfl;rfl;rfl;(focus ((repeat' (exact z23))<;>(fail)));((refine .inr ⟨rfl,?_⟩;repeat' (first|exact True.intro|apply y40)));conv=>whnf)
   all_goals first|kernel_rfl|skip
   refine y82 (Gl.Reach.absorb 1 3 a.ed[k].src.toNat 0 rfl (z629 (Nat.add_zero _) hmap) rfl rfl (by simp) rfl (z6 fun _=>rfl) rfl) ?_
   conv=>whnf
   repeat' (first|apply y6 ok;rfl;conv=>whnf|apply y40;((unfold inI;omega));conv=>whnf)
   refine z92 (k+1) [0,1] (by omega) (by omega) ⟨rfl,by decide,rfl,⟨⟨rfl,rfl⟩,⟨rfl,rfl⟩,⟨rfl,rfl⟩,trivial⟩,⟨z43 rfl rfl,z37 (z45 ?_) (z6 fun _=>rfl),trivial⟩⟩
   rw [List.set_set,hp,List.map_set]
   rfl
  ·have hv:z134 row a.ed[k].dst=row++[a.ed[k].dst]:=by unfold z134;rw [if_neg hm]
   rw [y80 hm] at cI
   rw [hv] at hp
   repeat' (first|(fail_if_success apply z122 4);(fail_if_success apply z96 4);apply y6 ok;rfl;conv=>whnf|apply z27;kernel_rfl;conv=>whnf|apply z289;exact Nat.add_zero _;exact hmap;conv=>whnf|apply y40;(first|omega|(try dsimp only);simp only [y46,y45,y44,y43,y55,y56];omega|exact ⟨rfl,z17 rfl z26⟩);conv=>whnf|apply z125 [] [3] [] cI;(focus ((repeat' (first|exact z87|apply z60))<;>(first|exact z147 rfl rfl rfl|rfl)));(focus ((repeat' (exact z62))<;>(fail)));rfl;rfl;rfl;rfl;rfl;(focus ((repeat' (exact z23))<;>(fail)));((refine .inr ⟨rfl,?_⟩;repeat' (first|exact True.intro|apply y40)));conv=>whnf)
   all_goals first|kernel_rfl|skip
   refine y82 (Gl.Reach.absorb 1 5 a.ed[k].src.toNat 0 rfl (z629 (Nat.add_zero _) (by rw [List.length_set];exact hmap)) rfl rfl (by simp) rfl (z90 (fun e he=>(z6 (fun _=>rfl)) e (List.mem_of_mem_take he)) (z235 rfl z39)) rfl) ?_
   conv=>whnf
   repeat' (first|apply y6 ok;rfl;conv=>whnf|apply y40;((unfold inI;omega));conv=>whnf)
   refine z92 (k+1) [0,1] (by omega) (by omega) ⟨rfl,by decide,rfl,⟨⟨rfl,rfl⟩,⟨rfl,rfl⟩,⟨rfl,rfl⟩,trivial⟩,⟨z43 rfl rfl,z37 (z45 ?_) (z6 fun _=>rfl),trivial⟩⟩
   simp only [Nat.add_zero,List.set_set]
   rw [hp,List.map_set]
   congr 1
   simp only [ownG,List.set_cons_zero,y61,List.map_cons,List.map_nil]
   rw [y54 (by simp)]
   rfl
 ·repeat' (first|apply y6 ok;rfl;conv=>whnf|apply y40;(omega);conv=>whnf|with_reducible apply z13;omega;intro _;conv=>whnf|apply z13;omega;intro _;conv=>whnf|apply z7<;>intro _<;>conv=>whnf)
  all_goals try (exfalso;omega)
  obtain rfl:k=a.ed.length:=by omega
  refine z117 [1] (by decide) rfl rfl rfl ⟨z37 (z45 ?_) (z6 fun _=>rfl),trivial⟩
  rw [y53]
  rfl
theorem rp_from {rows:List (List Int)} {ini:List Int} {x:Int} (h:RP rows ini x):∃ y∈ini,RP rows [y] x:=by
 induction h with
 |base hb=>exact ⟨_,hb,.base (by simp)⟩
 |step _ hs ih =>
  obtain ⟨y,hy,h⟩:=ih
  exact ⟨y,hy,.step h hs⟩
theorem rp_mono {rows:List (List Int)} {ini ini' : List Int} {x:Int} (h:RP rows ini x) (hi:∀ y∈ini,y∈ini'):RP rows ini' x:=by
 induction h with
 |base hb=>exact .base (hi _ hb)
 |step _ hs ih=>exact .step ih hs
theorem z707 {rows:List (List Int)} {x:Int} : Cyc rows x↔RP rows (rows.getD x.toNat []) x :=
 ⟨fun ⟨_,hy,h⟩=>rp_mono h fun z hz=>by rw [List.mem_singleton.1 hz];exact hy,fun h=>rp_from h⟩
theorem z1123 {rows rows' : List (List Int)} (hs:∀ (q y:Int),y∈rows.getD q.toNat []→y∈rows'.getD q.toNat []) {ini:List Int} {x:Int} (h:RP rows ini x):RP rows' ini x:=by
 induction h with
 |base hb=>exact .base hb
 |step _ hm ih=>exact .step ih (hs _ _ hm)
def nyA (a:Aut):List (List Int):=nyR a.acc.length (a.ed.map fun e=>(e.src.toNat,e.dst))
theorem z283 (a:Aut):(nyA a).length=a.acc.length:=z449 _ _
theorem z491 {a:Aut} (hA:AutP a) (q y:Int):y∈(nyA a).getD q.toNat []↔y∈(nxA a).getD q.toNat []:=by
 by_cases h:q.toNat < a.acc.length
 ·exact ny_mem hA h
 ·rw [y65,y65,y66 (by rw [z283];omega),y66 (by rw [z106];omega)]
theorem z946 {a:Aut} (hA:AutP a) {ini:List Int} {x:Int} : RP (nyA a) ini x↔RP (nxA a) ini x :=
 ⟨z1123 fun q y=>(z491 hA q y).1,z1123 fun q y=>(z491 hA q y).2⟩
theorem z1151 {a:Aut} (hA:AutP a) {x:Int} : Cyc (nyA a) x↔Cyc (nxA a) x:=by
 unfold Cyc
 simp only [z491 hA,z946 hA]
theorem z620 {a:Aut} (hA:AutP a):∀ r∈nyA a,InN (nyA a).length r:=fun r hr x hx=>by
 obtain ⟨i,hi,rfl⟩:=List.mem_iff_getElem.1 hr
 have h1:x∈(nyA a).getD ((i:Int)).toNat []:=by rw [y74,z20 hi];exact hx
 have h2:=(z491 hA _ _).1 h1
 rw [z283] at hi ⊢
 rw [y74,z20 (by rw [z106];exact hi)] at h2
 have:=z621 hA _ (y41 _) x h2
 rwa [z106] at this
theorem nyA_rl {a:Aut} (hA:AutP a):∀ r∈nyA a,r.length≤2048:=fun r hr=>by
 obtain ⟨i,hi,rfl⟩:=List.mem_iff_getElem.1 hr
 have h:((nyA a).getD i []).length≤(a.ed.map fun e=>(e.src.toNat,e.dst)).length:=z1149 (by rw [z283] at hi;exact hi)
 rw [z20 hi,y46] at h
 have:=hA.2.1
 omega
theorem live_ny {a:Aut} (hA:AutP a) {q:Nat} (hq:q < a.acc.length):((bfsL (nyA a) [(q:Int)]).any fun x=>a.acc.getD x.toNat false && cycD (nyA a) x.toNat)=z181 a q:=by
 have hi:InN (nyA a).length [(q:Int)]:=fun y hy=>by rw [List.mem_singleton.1 hy,z283];omega
 have hin:∀ x,RP (nyA a) [(q:Int)] x→0≤x:=fun x h=>by
  induction h with
  |base hb=>exact (hi _ hb).1
  |step _ hm _ =>
   rename_i u v _ _
   by_cases hu:u.toNat < (nyA a).length
   ·exact (z620 hA _ (by rw [z20 hu] at hm;exact y41 hu) v (by rw [z20 hu] at hm;exact hm)).1
   ·rw [y65,y66 (by omega)] at hm;cases hm
 rw [Bool.eq_iff_iff,z546,List.any_eq_true]
 constructor
 ·rintro ⟨x,hx,h⟩
  rw [z237 (z620 hA) hi] at hx
  rw [y68,z188] at h
  have h0:=hin x hx
  rw [Int.toNat_of_nonneg h0] at h
  exact ⟨x,(z946 hA).1 hx,(z1151 hA).1 h.2,h.1⟩
 ·rintro ⟨x,h1,h2,h3⟩
  have h1:=(z946 hA).2 h1
  have h0:=hin x h1
  refine ⟨x,(z237 (z620 hA) hi x).2 h1,?_⟩
  rw [y68,z188,Int.toNat_of_nonneg h0]
  exact ⟨h3,(z1151 hA).2 h2⟩
structure LP (rows:List (List Int)) (node:Int) (S Q:List Int) (i:Nat):Prop where
 qin:∀ y∈Q,RP rows (rows.getD node.toNat []) y
 base:∀ y∈rows.getD node.toNat [],y∈Q
 shut:∀ v∈S,v≠node∧∀ y∈rows.getD v.toNat [],y∈Q
 done:∀ k (h:k < Q.length),k < i→Q[k]∈S
theorem LP.init (rows:List (List Int)) (node:Int):LP rows node [] (rows.getD node.toNat []) 0 :=
 ⟨fun _ h=>.base h,fun _ h=>h,fun _ h=>(List.not_mem_nil h).elim,fun _ _ h=>by omega⟩
theorem LP.old {rows:List (List Int)} {node:Int} {S Q:List Int} {i:Nat} (h:LP rows node S Q i) (hi:i < Q.length) (hm:Q[i]∈S):LP rows node S Q (i+1) :=
 ⟨h.qin,h.base,h.shut,fun k hk hki=>by
  by_cases e:k=i
  ·subst e;exact hm
  ·exact h.done k hk (by omega)⟩
theorem LP.new {rows:List (List Int)} {node:Int} {S Q:List Int} {i:Nat} (h:LP rows node S Q i) (hi:i < Q.length) (hn:Q[i]≠node):LP rows node (S++[Q[i]]) (Q++rows.getD Q[i].toNat []) (i+1) :=
  ⟨fun y hy=>(List.mem_append.1 hy).elim (h.qin y) fun h2=>.step (h.qin _ (y41 hi)) h2,fun y hy=>List.mem_append_left _ (h.base y hy),
   fun v hv=>(List.mem_append.1 hv).elim (fun h2=>⟨(h.shut v h2).1,fun y hy=>List.mem_append_left _ ((h.shut v h2).2 y hy)⟩) fun h2=>by
     rw [List.mem_singleton.1 h2];exact ⟨hn,fun y hy=>List.mem_append_right _ hy⟩,
   fun k hk hki=>by
    by_cases e:k=i
    · subst e;rw [List.getElem_append_left hi];simp
    · rw [List.getElem_append_left (by omega)];exact List.mem_append_left _ (h.done k _ (by omega))⟩
theorem LP.yes {rows:List (List Int)} {node:Int} {S Q:List Int} {i:Nat} (h:LP rows node S Q i) (hi:i < Q.length) (hn:Q[i]=node):Cyc rows node :=
 z707.2 (hn ▸ h.qin _ (y41 hi))
theorem LP.no {rows:List (List Int)} {node:Int} {S Q:List Int} {i:Nat} (h:LP rows node S Q i) (hi:Q.length≤i):¬ Cyc rows node:=fun hc=>by
 have hq:∀ y∈Q,y∈S:=fun y hy=>by
  obtain ⟨k,hk,rfl⟩:=List.mem_iff_getElem.1 hy
  exact h.done k hk (by omega)
 have:∀ y,RP rows (rows.getD node.toNat []) y→y∈S:=fun y hy=>by
  induction hy with
  |base hb=>exact hq _ (h.base _ hb)
  |step _ hm ih=>exact hq _ ((h.shut _ ih).2 _ hm)
 exact (h.shut _ (this _ (z707.1 hc))).1 rfl
set_option maxHeartbeats 3200000 in
theorem z1179 (rows:List (List Int)) (node:Nat) (hn:node < rows.length) (hr:∀ r∈rows,InN rows.length r) (hN:rows.length≤1000) (hrl:∀ r∈rows,r.length≤100000):QQ 165 [lst 1 encL rows,.int node] [] (.bool (cycD rows node)) []:=by
 have gr:=z533 hn
 have hrw:InN rows.length (rows.getD node []):=by rw [z20 hn];exact hr _ (y41 _)
 have hrwl:(rows.getD node []).length≤100000:=by rw [z20 hn];exact hrl _ (y41 _)
 have h0:=LP.init rows (node:Int)
 have hcf:=z707 (rows:=rows) (x:=(node:Int))
 have hcd:=z188 (rows:=rows) (x:=node)
 rw [y74] at h0 hcf
 generalize hrow:rows.getD node []=row at *
 refine z12 z24 func165 rfl rfl 64 ntmps165 (by simp) ?_
 repeat' (((apply y6 ok;rfl))<;>conv=>whnf)
 refine z69 (fun i:Nat=>([(0,lst 1 encL rows),(1,.int node),(5,.int i)],[])) (fun i=>i≤row.length) (fun i=>row.length - i) 0 (y50 _) (by refine swR [] [] rfl rfl ?_;(repeat' first|exact y83 _|constructor)) ?_
 intro i hi
 by_cases hil:i < row.length
 ·have gi:(row.map enI)[i]?=some (enI row[i]):=by rw [y48,y42 hil];rfl
  by_cases he:row[i]=(node:Int)
  ·have hc:cycD rows node=true:=hcd.2 (hcf.2 (.base (he ▸ y41 hil)))
   rw [hc]
   generalize row[i]=x at *
   subst he
   repeat' ((first|apply y6 ok;rfl|refine z14 (i:=node) rfl gr ?_|refine z14 (i:=i) rfl gi ?_|apply y40;omega|apply z7<;>intro _)<;>conv=>whnf)
   all_goals first|exfalso;omega|refine rsD [] [] rfl ?_;(repeat' first|exact y83 _|constructor)
  ·generalize row[i]=x at *
   repeat' ((first|apply y6 ok;rfl|refine z14 (i:=node) rfl gr ?_|refine z14 (i:=i) rfl gi ?_|(apply y40;first|omega|unfold inI;omega)|apply z7<;>intro _)<;>conv=>whnf)
   all_goals try (exfalso;omega)
   all_goals refine z29 (i+1) hil (by omega) (by refine swR [] [] rfl rfl ?_;(repeat' first|exact y83 _|constructor))
 ·repeat' ((first|apply y6 ok;rfl|refine z14 (i:=node) rfl gr ?_|(apply y40;first|omega|dsimp only;omega|exact z49 (fun _=>rfl))|((with_reducible apply z13;omega));intro _|apply z7<;>intro _)<;>conv=>whnf)
  all_goals try (exfalso;omega)
  refine z69 (fun x:List Int×List Int×Nat=>([(0,lst 1 encL rows),(1,.int node),(6,.sref 0 0 rows.length),(7,.sref 1 0 x.2.1.length),(8,.int x.2.2)],[.cells 1 ((mkB rows.length x.1).map enB),.cells 1 (x.2.1.map enI)])) (fun x=>LP rows (node:Int) x.1 x.2.1 x.2.2∧InN rows.length x.2.1∧x.2.2≤x.2.1.length∧x.2.1.length+cntU rows.length x.1 * 100000≤100000+rows.length * 100000) (fun x=>cntU rows.length x.1 * 100001+(x.2.1.length - x.2.2)) ([],row,0) ⟨h0,hrw,y50 _,by have:=z634 rows.length [];show row.length+cntU rows.length [] * 100000≤_;omega⟩ (by refine swR [0,2] [] rfl rfl ?_;(repeat' first|exact y83 _|exact z10 _|refine z44 ?_;((simp;done))|(refine z11 rfl ?_ ?_);(focus ((repeat' (first|exact z54 rfl|exact z6 (fun _=>rfl)));done))|constructor)<;>((refine z21 ?_;rw [z877,List.map_replicate];rfl))) ?_
  rintro ⟨S,Q,j⟩ ⟨hL,hQ,hj,hb⟩
  dsimp only at hL hQ hj hb ⊢
  by_cases hjl:j < Q.length
  ·have gq:(Q.map enI)[j]?=some (enI Q[j]):=by rw [y48,y42 hjl];rfl
   have hq:=hQ _ (y41 hjl)
   by_cases he:Q[j]=(node:Int)
   ·have hc:cycD rows node=true:=hcd.2 (hL.yes hjl he)
    rw [hc]
    generalize Q[j]=x at *
    subst he
    repeat' ((first|apply y6 ok;rfl|refine z14 (i:=j) rfl gq ?_|apply y40;omega|(first|with_reducible apply z13;omega|apply z13;omega);intro _|(first|apply z7|apply z82)<;>intro _)<;>conv=>whnf)
    all_goals first|exfalso;omega|refine rsD [] [] rfl ?_;(repeat' first|exact y83 _|constructor)
   ·by_cases hm:Q[j]∈S
    ·have hL2:=hL.old hjl hm
     generalize Q[j]=x at *
     repeat' ((first|apply y6 ok;rfl|refine z14 (i:=j) rfl gq ?_|refine z323 (enc:=enB) (v:=x) (by rfl) hq.1 hq.2 ?_|(apply y40;first|omega|unfold inI;omega|exact z49 (fun _=>rfl))|((with_reducible apply z79;omega));intro _|(first|apply z7|apply z35)<;>intro _)<;>conv=>whnf)
     all_goals first|exfalso;omega|exfalso;simp_all;done|skip
     all_goals refine z29 (S,Q,j+1) ⟨hL2,hQ,hjl,hb⟩ (by dsimp only;omega) (by refine swR [0,1] [] rfl rfl ?_;(repeat' first|exact y83 _|exact z10 _|refine z11 rfl (z6 (fun _=>rfl)) ?_|constructor))
    ·have hL2:=hL.new hjl he
     have hc:=z1237 (S:=S) (S':=S++[Q[j]]) (fun v hv=>List.mem_append_left _ hv) hm (by simp) rows.length hq.1 hq.2
     have gx:=rowAt hq
     have hxr:=rowLen hrl Q[j]
     have hxi:InN rows.length (rows.getD Q[j].toNat []):=by rw [z20 (by omega)];exact hr _ (y41 _)
     have hs:=z525 (enc:=enB) (N:=rows.length) (S:=S) (S':=S++[Q[j]]) (v:=Q[j]) rfl hq.1 hq.2 (fun x=>by simp)
     generalize rows.getD Q[j].toNat []=rx at *
     generalize Q[j]=x at *
     repeat' ((first|apply y6 ok;rfl|refine z14 (i:=j) rfl gq ?_|refine z323 (enc:=enB) (v:=x) (by rfl) hq.1 hq.2 ?_|refine z14 (i:=x.toNat) rfl gx ?_|(apply y40;first|omega|unfold inI;omega|(try dsimp only);simp only [y46,y45,y44,y43,y55,y56];omega|exact z49 (fun _=>rfl))|(first|apply z7|apply z35)<;>intro _)<;>conv=>whnf)
     all_goals first|exfalso;omega|exfalso;simp_all;done|skip
     all_goals refine z29 (S++[x],Q++rx,j+1) ⟨hL2,fun y hy=>(List.mem_append.1 hy).elim (hQ y) (hxi y),by simp;omega,by dsimp only;rw [y44];omega⟩ (by dsimp only;rw [y44];omega) (by refine swR [0,2] [] rfl rfl ?_;(repeat' first|exact y83 _|refine z44 ?_;((simp;done))|(first|refine z50 rfl ?_ ?_|refine z11 rfl ?_ ?_);(focus ((repeat' (first|exact z6 (fun _=>rfl)|apply z90|apply z25));done))|refine z1265 ?_;(omega)|constructor)<;>((refine z21 ?_;exact hs)))
  ·have hc:cycD rows node=false:=by
    cases h:cycD rows node with
    |false=>rfl
    |true=>exact absurd (hcd.1 h) (hL.no (by omega))
   rw [hc]
   repeat' ((first|apply y6 ok;rfl|apply y40;omega|(first|with_reducible apply z79;omega|apply z13;omega);intro _|(first|apply z7|apply z82)<;>intro _)<;>conv=>whnf)
   all_goals first|exfalso;omega|refine rsD [] [] rfl ?_;(repeat' first|exact y83 _|constructor)
theorem tr_mx {n:Int} {t:Trans} (h:z205 n t):0≤t.val∧t.val≤7:=by
 obtain ⟨_,_,h3,h4,h5⟩:=h
 have:=@Nat.and_le_right t.val.toNat t.care.toNat
 omega
theorem z639 {a:Aut} (hA:AutP a):a.mx:=by
 have h1:=hA.1
 have h2:=hA.2.1
 have h3:=hA.2.2.1.le (by omega)
 refine ⟨by unfold maxLen;omega,by unfold maxLen;omega,by unfold maxLen;omega,fun t ht=>?_⟩
 have:=tr_mx (hA.2.2.2 t ht)
 unfold Trans.mx inI
 omega
set_option maxHeartbeats 1600000 in
theorem z856 (ct:∀ a,AutP a→QQ 99 [.agg a.cs] [] (.agg (z104 a).cs) []) (cm:∀ a,AutP a→QQ 100 [.agg a.cs] [] (.agg (z105 a).cs) []) (a:Aut) (hA:AutP a):QQ 46 [.agg a.cs] [] (.agg (smpA a).cs) []:=by
 refine z12 z24 func46 rfl rfl 12 ntmps46 (by simp) ?_
 repeat' (((apply y6 ok;rfl))<;>conv=>whnf)
 refine z69 (fun x:Aut=>([(1,.ptr 0 none 0),(2,.ptr 1 none 0)],[.cells 3 [x.cs],.cells 3 [[.nils,.nils,.nils]]])) (fun x=>AutP x∧smpA x=smpA a) (fun x=>muA x) a ⟨hA,rfl⟩ (by refine swR [0,1] [] rfl rfl ?_;(repeat' first|exact y83 _|apply y85|constructor)) ?_
 rintro x ⟨hX,hS⟩
 have c1:=ct x hX
 have c2:=cm (z104 x) (z255 hX)
 have c3:=z368 (z376 x) x (z639 (z139 hX)) (z639 hX)
 have hn:=z743 hX
 have ho:=z390 hX
 have hv:=z139 hX
 unfold z376 at *
 by_cases h:z105 (z104 x)=x
 ·rw [y79 h] at c3
  have e:smpA a=z105 (z104 x):=by rw [← hS,z742 (a:=x) h,h]
  rw [e]
  generalize z105 (z104 x)=y at *
  generalize z104 x=t at *
  repeat' ((first|apply y6 ok;rfl|apply z8 c1;rfl;rfl|apply z8 c2;rfl;rfl|apply z8 c3;rfl;rfl)<;>conv=>whnf)
  all_goals (refine rsD [] [] rfl ?_;(repeat' first|exact y83 _|constructor))
 ·rw [y80 h] at c3
  have hlt:muA (z105 (z104 x)) < muA x:=ho.resolve_left h
  have e:smpA (z105 (z104 x))=smpA a:=by rw [← hn,hS]
  generalize z105 (z104 x)=y at *
  generalize z104 x=t at *
  repeat' ((first|apply y6 ok;rfl|apply z8 c1;rfl;rfl|apply z8 c2;rfl;rfl|apply z8 c3;rfl;rfl)<;>conv=>whnf)
  all_goals refine z29 y ⟨hv,e⟩ hlt (by refine swR [0,1] [] rfl rfl ?_;(repeat' first|exact y83 _|apply y85|constructor))
theorem z964 (f:Nat→Bool) (i:Nat):fnB (i+1) f=fnB i f++[f i]:=by
 unfold fnB;rw [y59,y61];rfl
theorem z768 (a:Aut) (hA:AutP a):QQ 106 [.agg a.cs] [] (lst 1 encL (nyA a)) []:=by
 have h:=z1026 a hA
 have e:=z283 a
 unfold nyA at *
 generalize nyR a.acc.length (a.ed.map fun e=>(e.src.toNat,e.dst))=l at *
 rw [← e] at h
 exact (by refine y7 h [] [0] rfl rfl rfl ?_ ?_<;>(repeat' first|exact y83 _|(apply z55 rfl rfl rfl);(focus ((repeat (exact z158 _));done));(focus (((simp;done));done))|constructor))
noncomputable def pLv (a:Aut) (x:Int):Bool:=a.acc.getD x.toNat false && cycD (nyA a) x.toNat
theorem any_snoc {p:Int→Bool} {l:List Int} {k:Nat} (h:k < l.length):(l.take (k+1)).any p=((l.take k).any p || p l[k]):=by
 rw [y47 h,List.any_append]
 simp
theorem any_stop {p:Int→Bool} {l:List Int} {k:Nat} (h:(l.take k).any p=true):l.any p=true:=by
 obtain ⟨x,hx,hp⟩:=List.any_eq_true.1 h
 exact List.any_eq_true.2 ⟨x,List.mem_of_mem_take hx,hp⟩
set_option maxHeartbeats 3200000 in
theorem z688 (a:Aut) (hA:AutP a):QQ 104 [.agg a.cs] [] (lst 1 enB (fnB a.acc.length (z181 a))) []:=by
 have c0:=z192 a (z639 hA)
 rw [z153.2 hA] at c0
 have c1:=z768 a hA
 have hn:=z283 a
 have hin:=z620 hA
 have hrl:=nyA_rl hA
 have h1:=hA.1
 have hlv:∀ q:Nat,q < a.acc.length→(bfsL (nyA a) [(q:Int)]).any (pLv a)=z181 a q:=fun q hq=>live_ny hA hq
 have hp:∀ x:Int,pLv a x=(a.acc.getD x.toNat false && cycD (nyA a) x.toNat):=fun _=>rfl
 generalize pLv a=p at *
 have hll:=z173 a.acc.length (z181 a)
 generalize nyA a=rows at *
 refine z12 z24 func104 rfl rfl 58 ntmps104 (by simp) ?_
 repeat' ((first|apply y6 ok;rfl|apply z8 c0;rfl;rfl|apply z8 c1;rfl;rfl)<;>conv=>whnf)
 refine z69 (fun y:Nat×List Bool=>([(1,.ptr 0 none 0),(3,.sref 1 0 y.2.length),(4,lst 1 encL rows),(5,.int y.1)],[.cells 3 [a.cs],.cells 1 (y.2.map enB)])) (fun y=>y.1≤a.acc.length∧y.2=fnB y.1 (z181 a)) (fun y=>a.acc.length - y.1) (0,[]) ⟨y50 _,rfl⟩ (by refine swR [0,1] [] rfl rfl ?_;(repeat' first|exact y83 _|apply y85|refine z11 rfl z39 ?_|constructor)) ?_
 rintro ⟨i,B⟩ ⟨hi,hB⟩
 dsimp only at hi hB ⊢
 have hfi:=z173 i (z181 a)
 have hsn:=z964 (z181 a) i
 rw [← hB] at hfi hsn
 by_cases hil:i < a.acc.length
 ·have hi1:InN rows.length [(i:Int)]:=fun y hy=>by rw [List.mem_singleton.1 hy];omega
  have cR:=z549 rows [(i:Int)] hin hi1 (by omega) (fun r hr=>by have:=hrl r hr;omega) (by simp)
  have hni:InN rows.length (bfsL rows [(i:Int)]):=z432 hin hi1 _
  have hnl:(bfsL rows [(i:Int)]).length≤rows.length:=z458 hin hi1 _
  have hl:=hlv i hil
  generalize bfsL rows [(i:Int)]=nodes at *
  repeat' ((first|apply y6 ok;rfl|apply z7<;>intro _|apply z120 [] [2] [3] cR;(focus ((repeat' first|exact z87|apply z60)<;>rfl));rfl;rfl;(focus ((repeat' first|exact z23|apply z19)<;>(refine z30 ?_;((exact z6 fun _=>rfl)))));((refine .inr ⟨rfl,?_⟩;repeat' first|exact True.intro|apply y40|exact z121 (fun _=>rfl) _)))<;>conv=>whnf)
  all_goals try (exfalso;omega)
  refine z69 (fun x:Nat×Bool=>([(1,.ptr 0 none 0),(3,.sref 1 0 B.length),(4,lst 1 encL rows),(5,.int i),(6,ints nodes),(7,.bool x.2),(8,.int x.1)],[.cells 3 [a.cs],.cells 1 (B.map enB)])) (fun x=>x.1≤nodes.length∧x.2=(nodes.take x.1).any p) (fun x=>nodes.length - x.1) (0,false) ⟨y50 _,rfl⟩ (by refine swR [0,1] [3] rfl rfl ?_;(repeat' first|exact y83 _|exact z10 _|apply y85|refine z11 rfl (z6 (fun _=>rfl)) ?_|(apply z55 rfl rfl rfl);(focus ((repeat ((exact z48 (fun _=>rfl) _)));done));(focus (((simp;done));done))|constructor)) ?_
  rintro ⟨k,b⟩ ⟨hk,hb⟩
  dsimp only at hk hb ⊢
  have hfin:(b=true∨k=nodes.length)→b=z181 a i:=fun h=>by
   rw [← hl]
   rcases h with h|h
   ·rw [h] at hb;rw [h,any_stop hb.symm]
   ·rw [hb,h,y53]
  by_cases hgo:b=false∧k < nodes.length
  ·obtain ⟨rfl,hkl⟩:=hgo
   have gk:(nodes.map enI)[k]?=some (enI nodes[k]):=by rw [y48,y42 hkl];rfl
   have hx:=hni _ (y41 hkl)
   have hs:=any_snoc (p:=p) hkl
   rw [← hb,Bool.false_or] at hs
   generalize nodes[k]=x at *
   obtain ⟨v,rfl⟩:∃ v:Nat,x=v:=⟨x.toNat,by omega⟩
   have ga:(a.acc.map enB)[v]?=some (enB (a.acc.getD v false)):=by rw [y48,y42 (by omega),z20 (by omega)];rfl
   have cL:=z1179 rows v (by omega) hin (by omega) (fun r hr=>by have:=hrl r hr;omega)
   rw [hp,y74] at hs
   generalize a.acc.getD v false=b1 at *
   generalize cycD rows v=b2 at *
   cases b1<;>cases b2
   all_goals
    repeat' ((first|apply y6 ok;rfl|apply z27;kernel_rfl|refine z14 (i:=k) rfl gk ?_|refine z14 (i:=v) rfl ga ?_|(apply y40;first|omega|unfold inI;omega)|apply z7<;>intro _|apply z8 cL;rfl;rfl)<;>conv=>whnf)
    all_goals try (exfalso;omega)
   all_goals refine z29 (k+1,_) ⟨hkl,hs.symm⟩ (by show nodes.length - (k+1) < nodes.length - k;omega) (by refine swR [0,1] [] rfl rfl ?_;(repeat' first|exact y83 _|exact z10 _|apply y85|refine z11 rfl (z6 (fun _=>rfl)) ?_|constructor))
  ·have hb2:=hfin (by
    cases b with
    |true=>exact .inl rfl
    |false=>exact .inr (by have:¬ k < nodes.length:=fun h=>hgo ⟨rfl,h⟩;omega))
   rw [← hb2] at hsn
   cases b
   all_goals
    repeat' ((first|apply y6 ok;rfl|(apply y40;first|omega|unfold inI;omega|(try dsimp only);simp only [y46,y45,y44,y43,y55,y56];omega|exact ⟨rfl,z17 rfl z26⟩)|((with_reducible apply z13;omega));intro _|apply z7<;>intro _)<;>conv=>whnf)
    all_goals first|exfalso;exact hgo ⟨rfl,by omega⟩|skip
   all_goals refine z29 (i+1,B++[_]) ⟨hil,hsn.symm⟩ (by show a.acc.length - (i+1) < a.acc.length - i;omega) (by refine swR [0,3] [] rfl rfl ?_;(repeat' first|exact y83 _|refine z44 ?_;((simp;done))|apply y85|(refine z33 rfl ?_ ?_);(focus ((repeat' (first|exact z6 (fun _=>rfl)|apply z25));done))|refine z77 ?_ ?_;(focus omega)|constructor))
 ·obtain rfl:i=a.acc.length:=by omega
  rw [← hB]
  repeat' ((first|apply y6 ok;rfl|apply z7<;>intro _)<;>conv=>whnf)
  all_goals try (exfalso;omega)
  all_goals (refine rsD [] [1] rfl ?_;(repeat' first|exact y83 _|(apply z55 rfl rfl rfl);(focus ((repeat ((exact z48 (fun _=>rfl) _)));done));(focus (((simp;done));done))|constructor))
def relP (q n:Nat) (R:Rel2) (i:Nat):List (List AC):=((z101 n R).map z315).set i [.sref q 0 n]
theorem z399 {q q' n:Nat} (R:Rel2) (i:Nat) (f:AC→AC) (h1:f (.sref q 0 n)=.sref q' 0 n) (h2:∀ w es,f (.own w es)=.own w es):(relP q n R i).map (fun e=>e.map f)=relP q' n R i:=by
 unfold relP
 rw [List.map_set,List.map_map]
 show ((z101 n R).map fun l=>[f _]).set i [f _]=_
 rw [h1]
 congr 1
 refine List.map_congr_left fun l _=>?_
 rw [h2];rfl
theorem z753 {objs:Nat→AObj} {π Bn:List Nat} {o q q' n i:Nat} {R:Rel2} (ho:objs o=.cells 1 (relP q n R i)) (h1:borX objs π Bn (.sref q 0 n)=.sref q' 0 n):z81 objs π Bn o=.cells 1 (relP q' n R i):=by
 rw [z282 ho,z399 R i _ h1 fun _ _=>rfl]
theorem z939 {M q q' n i:Nat} {R:Rel2} {r:Nat→Nat} (h0:(AC.sref q 0 n).under M=true) (h1:(AC.sref q 0 n).ren r=.sref q' 0 n):z642 M r (.cells 1 (relP q n R i)) (.cells 1 (relP q' n R i)):=by
 constructor
 ·intro e he
  unfold relP at he
  rcases List.mem_or_eq_of_mem_set he with h|rfl
  ·obtain ⟨l,_,rfl⟩:=List.mem_map.1 h
   rfl
  ·simp [z138,h0]
 ·show AObj.cells 1 ((relP q n R i).map (renL r))=_
  congr 1
  have:=z399 (q:=q) (q':=q') (n:=n) R i (fun x=>x.ren r) h1 (fun _ _=>rfl)
  rw [← this]
  refine List.map_congr_left fun e he=>?_
  unfold relP at he
  rcases List.mem_or_eq_of_mem_set he with h|rfl
  ·obtain ⟨l,_,rfl⟩:=List.mem_map.1 h
   rfl
  ·rfl
theorem relP_clr (q n:Nat) (R:Rel2) (i j:Nat):relP q n (clr R i j) i=relP q n R i:=by
 unfold relP
 rw [← z863,List.map_set,List.set_set]
theorem z752 {q n i:Nat} (R:Rel2) (h:i < n):(relP q n R i)[i]?=some [.sref q 0 n]:=by
 unfold relP
 rw [List.getElem?_set_self (by simp [z101];exact h)]
theorem z1129 {q n i:Nat} (R:Rel2):(relP q n R i).set i (z315 (fnB n (R i)))=(z101 n R).map z315:=by
 unfold relP
 rw [List.set_set]
 apply y72 (by simp)
 intro p h1 h2
 rw [List.getElem_set]
 split
 ·rename_i e
  subst e
  simp [z101]
 ·rfl
theorem z632 (a:Aut):(z68 a).length=a.acc.length:=by unfold z68;rw [z100]
theorem z1021 (a:Aut) (hA:AutP a):QQ 163 [.agg a.cs] [] (lst 1 encT (z68 a)) []:=by
 refine y7 (z599 a hA) [] [0] rfl rfl rfl (y11 ?_) .nil
 rw [z244 (w:=1) (es:=(z68 a).map ownEd) rfl rfl rfl (by rw [y46,z632])]
 unfold ownEd z68
 rw [z377 (fun t=>Trans.unown t)]
 unfold lst
 rw [z100];rfl
theorem z902 {a:Aut} (hA:AutP a) {i:Nat} (hi:i < a.acc.length):EdB a.acc.length ((z68 a).getD i []):=by
 rw [z185 hi]
 refine ⟨?_,fun e he=>?_⟩
 ·have:=List.length_filter_le (fun e:Trans=>e.src.toNat == i) a.ed
  have:=hA.2.1
  omega
 ·have:=hA.2.2.2 e (List.mem_filter.1 he).1
  exact ⟨this.2.2.1,this.2.1.1,by have:=this.2.1.2;omega⟩
def r0 (a:Aut) (p:Nat):List AC:=z315 (fnB a.acc.length (rel0 a p))
section
attribute [local irreducible] relP
set_option maxHeartbeats 12800000 in
theorem z552 (a:Aut) (hA:AutP a):QQ 102 [.agg a.cs] [] (.sref 0 0 a.acc.length) [.cells 1 ((z101 a.acc.length (relA a)).map z315)]:=by
 have h1:=hA.1
 have cL:=z1021 a hA
 have hEl:=z632 a
 have hEg:∀ i,i < a.acc.length→((z68 a).map encT)[i]?=some (encT ((z68 a).getD i [])):=fun i hi=>by
  rw [y48,y42 (by omega),z20 (by omega)];rfl
 have cA:∀ (S:Rel2) (i j:Nat),i < a.acc.length→j < a.acc.length→QQ 164 [lst 4 Trans.cs ((z68 a).getD i []),lst 4 Trans.cs ((z68 a).getD j []),.sref 0 0 a.acc.length] [.cells 1 (relP 1 a.acc.length S i),.cells 1 ((fnB a.acc.length (S i)).map enB)] (.bool (ansA a S i j)) [.cells 1 (relP 1 a.acc.length S i),.cells 1 ((fnB a.acc.length (S i)).map enB)]:=fun S i j hi hj=>by
  rw [← ansL_eq hA hi hj]
  have e:relP 1 a.acc.length S i=relO a.acc.length S i:=by unfold relP relO;rfl
  rw [e]
  exact z600 _ _ _ (by omega) S i hi (z902 hA hi) (z902 hA hj)
 have hEr:∀ i,i < a.acc.length→((z68 a).getD i []).length≤2048:=fun i hi=>(z902 hA hi).1
 generalize z68 a=ER at *
 refine z12 z24 func102 rfl rfl 87 ntmps102 (by simp) ?_
 repeat' (((apply y6 ok;rfl))<;>conv=>whnf)
 refine z69 (fun i:Nat=>([(1,.ptr 0 none 0),(3,.int a.acc.length),(4,.sref 1 0 i),(5,.int i)],[.cells 3 [a.cs],.cells 1 (((List.range a.acc.length).take i).map (r0 a))])) (fun i=>i≤a.acc.length) (fun i=>a.acc.length - i) 0 (y50 _) (by refine swR [0,1] [] rfl rfl ?_;(repeat' first|exact y83 _|apply y85|refine z11 rfl z39 ?_|constructor)) ?_
 intro i hi
 by_cases hil:i < a.acc.length
 ·repeat' ((first|apply y6 ok;rfl|apply z7<;>intro _)<;>conv=>whnf)
  all_goals try (exfalso;omega)
  refine z69 (fun y:Nat×List Bool=>([(1,.ptr 0 none 0),(3,.int a.acc.length),(4,.sref 1 0 i),(5,.int i),(6,.sref 2 0 y.2.length),(7,.int y.1)],[.cells 3 [a.cs],.cells 1 (((List.range a.acc.length).take i).map (r0 a)),.cells 1 (y.2.map enB)])) (fun y=>y.1≤a.acc.length∧y.2=fnB y.1 (rel0 a i)) (fun y=>a.acc.length - y.1) (0,[]) ⟨y50 _,rfl⟩ (by refine swR [0,1,2] [] rfl rfl ?_;(repeat' first|exact y83 _|exact z10 _|apply y85|(refine z11 rfl ?_ ?_);(focus ((repeat' (first|exact z39|exact z6 (fun _=>rfl)));done))|constructor)) ?_
  rintro ⟨j,B⟩ ⟨hj,hB⟩
  dsimp only at hj hB ⊢
  have hBl:=z173 j (rel0 a i)
  have hBs:=z964 (rel0 a i) j
  rw [← hB] at hBl hBs
  by_cases hjl:j < a.acc.length
  ·have gi:(a.acc.map enB)[i]?=some (enB (a.acc.getD i false)):=by rw [y48,y42 hil,z20 hil];rfl
   have gj:(a.acc.map enB)[j]?=some (enB (a.acc.getD j false)):=by rw [y48,y42 hjl,z20 hjl];rfl
   have hr:rel0 a i j=(!a.acc.getD i false || a.acc.getD j false):=by
    unfold rel0;rw [y79 ⟨hil,hjl⟩,Bool.true_and]
   rw [hr] at hBs
   generalize a.acc.getD i false=bi at *
   generalize a.acc.getD j false=bj at *
   cases bi<;>cases bj
   all_goals
    repeat' ((first|apply y6 ok;rfl|refine z14 (i:=i) rfl gi ?_|refine z14 (i:=j) rfl gj ?_|(apply y40;first|omega|unfold inI;omega|(try dsimp only);simp only [y46,y45,y44,y43,y55,y56];omega|exact ⟨rfl,z17 rfl z26⟩)|apply z7<;>intro _)<;>conv=>whnf)
    all_goals try (exfalso;omega)
    all_goals refine z29 (j+1,B++[_]) ⟨hjl,hBs.symm⟩ (by show a.acc.length - (j+1) < a.acc.length - j;omega) (by refine swR [0,1,4] [] rfl rfl ?_;(repeat' first|exact y83 _|exact z10 _|refine z44 ?_;((simp;done))|apply y85|(first|refine z33 rfl ?_ ?_|refine z11 rfl ?_ ?_);(focus ((repeat' (first|exact z6 (fun _=>rfl)|apply z25));done))|refine z77 ?_ ?_;(focus omega)|constructor))
  ·obtain rfl:j=a.acc.length:=by omega
   have hir:i < (List.range a.acc.length).length:=by simpa using hil
   repeat' ((first|(fail_if_success apply z122 5);(fail_if_success apply z96 5);apply y6 ok;rfl|(apply y40;first|omega|(try dsimp only);simp only [y46,y45,y44,y43,y55,y56];omega|exact ⟨rfl,z17 rfl z26⟩)|((with_reducible apply z13;omega));intro _|(first|apply z7|apply z82)<;>intro _)<;>conv=>whnf)
   all_goals try (exfalso;omega)
   refine y82 (Gl.Reach.absorb 4 2 i 0 rfl (app_last (app_len (by simp;omega) rfl)) rfl rfl (by simp) rfl (z6 fun _=>rfl) rfl) ?_
   conv=>whnf
   repeat' ((first|apply y6 ok;rfl|apply y40;(unfold inI;omega))<;>conv=>whnf)
   refine z29 (i+1) (by omega) (by omega) (by refine swR [0,4] [] rfl rfl ?_;(repeat' first|exact y83 _|apply y85|refine z11 rfl ?_ ?_;(focus (refine z417 ?_ ?_ rfl<;>first|simp;omega|(apply z25;exact z6 fun _=>rfl)))|refine z524 ?_ ?_;(focus (simp;omega))|refine z130 (by omega) (by omega) ?_|constructor)<;>((refine y11 ?_;rw [hB,List.getElem_range])))
 ·obtain rfl:i=a.acc.length:=by omega
  repeat' ((first|apply y6 ok;rfl|apply z7<;>intro _|apply z8 cL;rfl;rfl)<;>conv=>whnf)
  all_goals try (exfalso;omega)
  refine z69 (fun x:Rel2×Bool=>([(1,.ptr 0 none 0),(3,.int a.acc.length),(4,.sref 1 0 a.acc.length),(8,lst 1 encT ER),(9,.bool x.2)],[.cells 3 [a.cs],.cells 1 ((z101 a.acc.length x.1).map z315)])) (fun x=>RelI a x.1 x.2) (fun x=>cntX a.acc.length x.1+x.2.toNat) (rel0 a,true) (RelI.init a) (by refine swR [0,1] [] rfl rfl ?_;(repeat' first|exact y83 _|apply y85|refine z11 rfl (z6 (fun _=>rfl)) ?_|constructor)<;>((refine z21 ?_;rw [y54 (by simp)];unfold z101;rw [List.map_map];rfl))) ?_
  rintro ⟨R,c⟩ hI
  dsimp only at hI ⊢
  cases c with
  |false =>
   rw [← hI.done]
   repeat' (((apply y6 ok;rfl))<;>conv=>whnf)
   all_goals (refine rsD [1] [] rfl ?_;(repeat' first|exact y83 _|exact z10 _|refine z11 rfl (z6 (fun _=>rfl)) ?_|constructor))
  |true =>
   have hI2:=hI.next
   have hmu:=RelI.mu (a:=a) R
   repeat' (((apply y6 ok;rfl))<;>conv=>whnf)
   refine z69 (fun y:Nat×Bool=>([(1,.ptr 0 none 0),(3,.int a.acc.length),(4,.sref 1 0 a.acc.length),(8,lst 1 encT ER),(9,.bool y.2),(10,.int y.1)],[.cells 3 [a.cs],.cells 1 ((z101 a.acc.length (z110 (ansA a) a.acc.length R y.1)).map z315)])) (fun y=>y.1≤a.acc.length∧y.2=chg R (z110 (ansA a) a.acc.length R y.1)) (fun y=>a.acc.length - y.1) (0,false) ⟨y50 _,(z709 R).symm⟩ (by refine swR [0,1] [] rfl rfl ?_;(repeat' first|exact y83 _|exact z10 _|apply y85|refine z11 rfl (z6 (fun _=>rfl)) ?_|constructor)) ?_
   rintro ⟨i,c⟩ ⟨hi,hc⟩
   dsimp only at hi hc ⊢
   by_cases hil:i < a.acc.length
   ·have hle0:=z342 (ansA a) a.acc.length R i
    have hrow:∀ S:Rel2,((z101 a.acc.length S).map z315)[i]?=some (z315 (fnB a.acc.length (S i))):=fun S=>by rw [y48,z379 S hil];rfl
    have hpe:z110 (ansA a) a.acc.length R (i+1)=rowX (ansA a) (z110 (ansA a) a.acc.length R i) i a.acc.length:=rfl
    generalize z110 (ansA a) a.acc.length R i=S0 at *
    have hfl0:=z173 a.acc.length (S0 i)
    refine y82 (Gl.Reach.expose (e:=z315 (fnB a.acc.length (S0 i))) 1 i 0 rfl (hrow S0) rfl (z168 (fun _=>rfl) _) rfl) ?_
    conv=>whnf
    rw [show (List.map enB (fnB a.acc.length (S0 i))).length=a.acc.length by rw [y46,hfl0]]
    repeat' ((first|apply y6 ok;rfl|apply z7<;>intro _)<;>conv=>whnf)
    all_goals try (exfalso;omega)
    refine z69 (fun z:Nat×Bool=>([(1,.ptr 0 none 0),(3,.int a.acc.length),(4,.sref 1 0 a.acc.length),(8,lst 1 encT ER),(9,.bool z.2),(10,.int i),(11,.int z.1)],[.cells 3 [a.cs],.cells 1 (relP 2 a.acc.length (rowX (ansA a) S0 i z.1) i),.cells 1 ((fnB a.acc.length (rowX (ansA a) S0 i z.1 i)).map enB)])) (fun z=>z.1≤a.acc.length∧z.2=chg R (rowX (ansA a) S0 i z.1)) (fun z=>a.acc.length - z.1) (0,c) ⟨y50 _,hc⟩ (by refine swR [0,1,2] [] rfl rfl ?_;(repeat' first|exact y83 _|exact z10 _|apply y85|refine z50 rfl (z6 (fun _=>rfl)) ?_|refine z11 rfl (z6 (fun _=>rfl)) ?_|constructor)<;>((refine z21 ?_;unfold relP;rfl))) ?_
    rintro ⟨j,c⟩ ⟨hj,hc⟩
    dsimp only at hj hc ⊢
    have hle:=(z446 (ansA a) S0 i j).trans hle0
    have hre:rowX (ansA a) S0 i (j+1)=z357 (ansA a) (rowX (ansA a) S0 i j) i j:=rfl
    by_cases hjl:j < a.acc.length
    ·generalize rowX (ansA a) S0 i j=S at *
     have gs:=z752 (q:=2) S hil
     have gb:=z324 (N:=a.acc.length) (u:=j) (S i) hjl
     have hfl:=z173 a.acc.length (S i)
     have gei:=hEg i hil
     have gej:=hEg j hjl
     have hli:=hEr i hil
     have hlj:=hEr j hjl
     have cc:=cA S i j hil hjl
     have hset:=z1213 (n:=a.acc.length) (j:=j) (S i) false
     have hcl:(fnB a.acc.length (clr S i j i))=fnB a.acc.length (fun k=>if k=j then false else S i k):=by
      congr 1;funext k;unfold clr;by_cases hk:k=j<;>simp [hk]
     generalize ER.getD i []=ei at *
     generalize ER.getD j []=ej at *
     have hstep:(S i j=false∨ansA a S i j=true)→rowX (ansA a) S0 i (j+1)=S:=fun h=>hre.trans (z977 h)
     have hstep2:S i j=true→ansA a S i j=false→rowX (ansA a) S0 i (j+1)=clr S i j∧chg R (clr S i j)=true:=fun h1 h2=>by
      have:=z1239 (R:=R) hle h1 h2
      exact ⟨hre.trans this.1,this.2⟩
     cases hsij:S i j with
     |false =>
      rw [hsij] at gb
      have e1:=hstep (.inl hsij)
      repeat' ((first|apply y6 ok;rfl|apply z27;kernel_rfl|refine z14 (i:=i) rfl gs ?_|refine z14 (i:=j) rfl gb ?_|(apply y40;first|omega|unfold inI;omega)|apply z7<;>intro _)<;>conv=>whnf)
      all_goals try (exfalso;omega)
      all_goals refine z29 (j+1,c) ⟨hjl,by rw [e1];exact hc⟩ (by show a.acc.length - (j+1) < a.acc.length - j;omega) (by refine swR [0,1,2] [] rfl rfl ?_;(repeat' first|exact y83 _|apply y85|refine z11 rfl (z6 (fun _=>rfl)) ?_|apply y84|constructor)<;>(first|(refine z21 ?_;rw [e1];exact z399 (q:=2) (q':=2) S i _ rfl fun _ _=>rfl)|refine z21 ?_;rw [e1]))
     |true =>
      rw [hsij] at gb
      cases hans:ansA a S i j with
      |true =>
       rw [hans] at cc
       have e1:=hstep (.inr hans)
       repeat' ((first|apply y6 ok;rfl|apply z27;kernel_rfl|refine z14 (i:=i) rfl gs ?_|refine z14 (i:=j) rfl gb ?_|refine z14 (i:=i) rfl gei ?_|refine z14 (i:=j) rfl gej ?_|(apply z125 [1,2] [] [] cc;rfl;(focus (exact z71 (z753 rfl rfl) (z71 (z89 rfl (z6 fun _=>rfl)) z62)));rfl;rfl;rfl;rfl;rfl;(focus (exact z19 (z939 rfl rfl) (z19 (z30 (z6 fun _=>rfl)) z23)));exact .inl rfl)|(apply y40;first|omega|unfold inI;omega)|apply z7<;>intro _)<;>conv=>whnf)
       all_goals try (exfalso;omega)
       all_goals refine z29 (j+1,c) ⟨hjl,by rw [e1];exact hc⟩ (by show a.acc.length - (j+1) < a.acc.length - j;omega) (by refine swR [0,1,2] [] rfl rfl ?_;(repeat' first|exact y83 _|apply y85|refine z11 rfl (z6 (fun _=>rfl)) ?_|apply y84|constructor)<;>(first|(refine z21 ?_;rw [e1];exact z399 (q:=2) (q':=2) S i _ rfl fun _ _=>rfl)|refine z21 ?_;rw [e1]))
      |false =>
       rw [hans] at cc
       obtain ⟨e1,e2⟩:=hstep2 hsij hans
       have hfin:((fnB a.acc.length (S i)).map enB).set j (enB false)=(fnB a.acc.length (rowX (ansA a) S0 i (j+1) i)).map enB:=by
        rw [e1,hcl,← hset,List.map_set]
       repeat' ((first|apply y6 ok;rfl|apply z27;kernel_rfl|refine z14 (i:=i) rfl gs ?_|refine z14 (i:=j) rfl gb ?_|refine z14 (i:=i) rfl gei ?_|refine z14 (i:=j) rfl gej ?_|(apply z125 [1,2] [] [] cc;rfl;(focus (exact z71 (z753 rfl rfl) (z71 (z89 rfl (z6 fun _=>rfl)) z62)));rfl;rfl;rfl;rfl;rfl;(focus (exact z19 (z939 rfl rfl) (z19 (z30 (z6 fun _=>rfl)) z23)));exact .inl rfl)|(apply y40;first|omega|unfold inI;omega)|apply z7<;>intro _)<;>conv=>whnf)
       all_goals try (exfalso;omega)
       all_goals refine z29 (j+1,true) ⟨hjl,by rw [e1];exact e2.symm⟩ (by show a.acc.length - (j+1) < a.acc.length - j;omega) (by refine swR [0,1,2] [] rfl rfl ?_;(repeat' first|exact y83 _|apply y85|refine z50 rfl (z6 (fun _=>rfl)) ?_|refine z11 rfl (z6 (fun _=>rfl)) ?_|apply y84|constructor)<;>(first|(refine z21 ?_;rw [e1,relP_clr];exact z399 (q:=2) (q':=2) S i _ rfl fun _ _=>rfl)|refine z21 ?_;exact hfin))
    ·obtain rfl:j=a.acc.length:=by omega
     rw [← hpe] at hc ⊢
     generalize hS:z110 (ansA a) a.acc.length R (i+1)=S at *
     have hfl:=z173 a.acc.length (S i)
     refine y82 (Gl.Reach.absorb 1 2 i 0 rfl (z752 S hil) rfl rfl (by rw [y46,hfl]) rfl (z6 fun _=>rfl) rfl) ?_
     conv=>whnf
     rw [show (relP 2 a.acc.length S i).set i ([AC.sref 2 0 a.acc.length].set 0 (.own 1 ((fnB a.acc.length (S i)).map enB)))=(z101 a.acc.length S).map z315 from z1129 S]
     repeat' ((first|apply y6 ok;rfl|(apply y40;first|omega|unfold inI;omega)|((apply z13;omega));intro _|apply z7<;>intro _)<;>conv=>whnf)
     all_goals try (exfalso;omega)
     all_goals refine z29 (i+1,c) ⟨hil,by rw [hS];exact hc⟩ (by show a.acc.length - (i+1) < a.acc.length - i;omega) (by refine swR [0,1] [] rfl rfl ?_;(repeat' first|exact y83 _|apply y85|refine z11 rfl (z6 (fun _=>rfl)) ?_|constructor)<;>((refine z21 ?_;rw [hS])))
   ·obtain rfl:i=a.acc.length:=by omega
    subst hc
    repeat' ((first|apply y6 ok;rfl|apply z7<;>intro _)<;>conv=>whnf)
    all_goals try (exfalso;omega)
    all_goals refine z29 (_,_) hI2 hmu (by refine swR [0,1] [] rfl rfl ?_;(repeat' first|exact y83 _|exact z10 _|apply y85|refine z11 rfl (z6 (fun _=>rfl)) ?_|constructor))
end
end Go.Proofs.YteinbnahinpegaaGreat
namespace Go.Proofs
open Go.Shelf Tryz
def Tryz.lays189_ren:Go.Shelf.Ren:=⟨fun|189=>76|125=>129|257=>128|128=>186|129=>187|294=>177|295=>178|296=>179|297=>180|298=>181|299=>182|216=>183|300=>184|301=>185|328=>218|329=>219|330=>220|331=>221|332=>222|215=>223|343=>242|n=>n,fun|28=>28|3=>3|46=>169|0=>0|51=>222|53=>203|4=>4|183=>216|182=>215|131=>190|5=>5|9=>9|218=>248|222=>175|228=>260|229=>192|n=>n,fun|n=>n⟩
theorem y39:Go.Proofs.Lays.n189 prog Tryz.lays189_ren:={
 mixed:=by kernel_rfl
 f125:=func129.trans (congrArg some (by kernel_rfl))
 f128:=func186.trans (congrArg some (by kernel_rfl))
 f129:=func187.trans (congrArg some (by kernel_rfl))
 f189:=func76.trans (congrArg some (by kernel_rfl))
 f215:=func223.trans (congrArg some (by kernel_rfl))
 f216:=func183.trans (congrArg some (by kernel_rfl))
 f257:=func128.trans (congrArg some (by kernel_rfl))
 f294:=func177.trans (congrArg some (by kernel_rfl))
 f295:=func178.trans (congrArg some (by kernel_rfl))
 f296:=func179.trans (congrArg some (by kernel_rfl))
 f297:=func180.trans (congrArg some (by kernel_rfl))
 f298:=func181.trans (congrArg some (by kernel_rfl))
 f299:=func182.trans (congrArg some (by kernel_rfl))
 f300:=func184.trans (congrArg some (by kernel_rfl))
 f301:=func185.trans (congrArg some (by kernel_rfl))
 f328:=func218.trans (congrArg some (by kernel_rfl))
 f329:=func219.trans (congrArg some (by kernel_rfl))
 f330:=func220.trans (congrArg some (by kernel_rfl))
 f331:=func221.trans (congrArg some (by kernel_rfl))
 f332:=func222.trans (congrArg some (by kernel_rfl))
 f343:=func242.trans (congrArg some (by kernel_rfl))
 t0:=underlying0
 a0:=Tryz.isAgg0
 z0:=Tryz.sizeOf0
 v0:=Tryz.zeroValue0
 t3:=underlying3
 a3:=Tryz.isAgg3
 z3:=Tryz.sizeOf3
 v3:=Tryz.zeroValue3
 t4:=underlying4
 a4:=Tryz.isAgg4
 z4:=Tryz.sizeOf4
 v4:=Tryz.zeroValue4
 t5:=underlying5
 a5:=Tryz.isAgg5
 z5:=Tryz.sizeOf5
 v5:=Tryz.zeroValue5
 t9:=underlying9
 a9:=Tryz.isAgg9
 z9:=Tryz.sizeOf9
 v9:=Tryz.zeroValue9
 t28:=underlying28
 a28:=Tryz.isAgg28
 z28:=Tryz.sizeOf28
 v28:=Tryz.zeroValue28
 t46:=underlying169
 a46:=Tryz.isAgg169
 z46:=Tryz.sizeOf169
 v46:=Tryz.zeroValue169
 t51:=underlying222
 a51:=Tryz.isAgg222
 z51:=Tryz.sizeOf222
 v51:=Tryz.zeroValue222
 t53:=underlying203
 a53:=Tryz.isAgg203
 z53:=Tryz.sizeOf203
 v53:=Tryz.zeroValue203
 t131:=underlying190
 a131:=Tryz.isAgg190
 z131:=Tryz.sizeOf190
 v131:=Tryz.zeroValue190
 t182:=underlying215
 a182:=Tryz.isAgg215
 z182:=Tryz.sizeOf215
 v182:=Tryz.zeroValue215
 t183:=underlying216
 a183:=Tryz.isAgg216
 z183:=Tryz.sizeOf216
 v183:=Tryz.zeroValue216
 t218:=underlying248
 a218:=Tryz.isAgg248
 z218:=Tryz.sizeOf248
 v218:=Tryz.zeroValue248
 t222:=underlying175
 a222:=Tryz.isAgg175
 z222:=Tryz.sizeOf175
 v222:=Tryz.zeroValue175
 t228:=underlying260
 a228:=Tryz.isAgg260
 z228:=Tryz.sizeOf260
 v228:=Tryz.zeroValue260
 t229:=underlying192
 a229:=Tryz.isAgg192
 z229:=Tryz.sizeOf192
 v229:=Tryz.zeroValue192 }
open Go.Sort Go.RowKit in
theorem Tryz.slices_Sort_int (blk off cap : Nat) (zs : List Int) (w : World) (hH : Holds (Value.int .i64) w blk off zs.toArray) (hblk : blk < w.heap.size) (hsz : zs.length < 4611686018427387904) :
    Calls prog 76 #[.slice (some ⟨blk,off,none⟩) zs.length cap] w fun e w' =>
      e=.returned (.tuple #[])∧∃ n os,w'=grow (putRow (Value.int .i64) (Sort.ahead w n) blk off (zs.mergeSort fun x y=>decide (x≤y)).toArray) os:=Any.slices_Sort_int y39 blk off cap zs w hH hblk hsz
def Tryz.laysNm220_ren:Go.Shelf.Ren:=⟨fun|20=>77|n=>n,fun|22=>28|3=>3|4=>4|0=>0|n=>n,fun|n=>n⟩
theorem Tryz.laysNm220:Go.Proofs.Lays2.n20 prog Tryz.laysNm220_ren:={
 mixed:=by kernel_rfl
 f20:=func77.trans (congrArg some (by kernel_rfl))
 t0:=underlying0
 a0:=Tryz.isAgg0
 z0:=Tryz.sizeOf0
 v0:=Tryz.zeroValue0
 t3:=underlying3
 a3:=Tryz.isAgg3
 z3:=Tryz.sizeOf3
 v3:=Tryz.zeroValue3
 t4:=underlying4
 a4:=Tryz.isAgg4
 z4:=Tryz.sizeOf4
 v4:=Tryz.zeroValue4
 t22:=underlying28
 a22:=Tryz.isAgg28
 z22:=Tryz.sizeOf28
 v22:=Tryz.zeroValue28
 i3:=by kernel_rfl }
open Go.RowKit Go.Lib Go.Sort in
theorem Tryz.slices_Compact_int (blk off cap : Nat) (zs : List Int) (w : World) (hH : Holds (Value.int .i64) w blk off zs.toArray) (hsz : zs.length ≤ 9223372036854775807) (hcap : zs.length ≤ cap) :
    Calls prog 77 #[.slice (some ⟨blk,off,none⟩) zs.length cap] w fun e w'=>e=.returned (.slice (some ⟨blk,off,none⟩) (Lib.compact zs).length cap)∧∃ q,w'=putRow (Value.int .i64) (Sort.ahead w q) blk off (Lib.compact zs++List.replicate (zs.length - (Lib.compact zs).length) 0).toArray:=Any.slices_Compact_int Tryz.laysNm220 blk off cap zs w hH hsz hcap
end Go.Proofs
namespace Go.Proofs.YteinbnahinpegaaGreat
open Go.Gl Proofs.Tryz
attribute [local irreducible] z18 AWP z38 z41 z40 RetS z42
theorem sort_ok (l:List Int) (hp:0 < l.length) (hl:l.length≤1048576):QQ 76 [.sref 0 0 l.length] [.cells 1 (l.map enI)] (.tup []) [.cells 1 ((l.mergeSort fun x y=>decide (x≤y)).map enI)]:=by
 refine z370 (r:=l.mergeSort fun x y=>decide (x≤y)) (by rw [List.length_mergeSort]) hp (fun _ _ h=>h) (z227 func76 rfl (by rfl)) fun blk cap w hH hb hc=>?_
 refine (Tryz.slices_Sort_int blk 0 cap l w hH hb (by omega)).mono ?_
 rintro e w' ⟨rfl,n,os,rfl⟩
 exact ⟨_,rfl,⟨n,os,rfl⟩,fun G h size _ _=>by simp only [V,VL];exact ⟨#[],rfl,rfl,trivial⟩⟩
theorem z1052 (z:List Int) (hp:0 < z.length) (hl:z.length≤1048576):QQ 77 [.sref 0 0 z.length] [.cells 1 (z.map enI)] (.sref 0 0 (Lib.compact z).length) [.cells 1 ((Lib.compact z).map enI)]:=by
 have hle:(Lib.compact z).length≤z.length:=by
  have:∀ m,(Lib.compactUpTo z.toArray m).length≤m:=by
   intro m
   induction m with
   |zero=>simp [Lib.compactUpTo]
   |succ m ih=>rw [Lib.compactUpTo_succ];split<;>simp<;>omega
  exact this _
 refine z370 (r:=Lib.compact z++List.replicate (z.length - (Lib.compact z).length) 0) (by simp;omega) hp (fun i x h=>by
  rw [y63 (List.getElem?_eq_some_iff.1 h).1];exact h) (z227 func77 rfl (by rfl)) fun blk cap w hH hb hc=>?_
 refine (Tryz.slices_Compact_int blk 0 cap z w hH (by omega) hc).mono ?_
 rintro e w' ⟨rfl,n,rfl⟩
 refine ⟨_,rfl,⟨n,#[],by simp⟩,fun G h size hι hsz=>?_⟩
 simp only [V]
 exact ⟨cap,by omega,.inr ⟨blk,size,1,hι,by omega,by simp⟩⟩
theorem z224 {Q Q' : List Int} {x:Int} {n:Nat} {e:List AC} (hn:n=Q.length) (h:Q'=Q++[x]) (he:e=enI x):((Q.map enI).take n)++[e]=Q'.map enI:=by
 subst h hn he
 rw [y54 (by simp),y61];rfl
theorem push_two {Q Q' : List Int} {x y:Int} {n m:Nat} {e f:List AC} (hn:n=Q.length) (hm:m=n+1) (h:Q'=(Q++[x])++[y]) (he:e=enI x) (hf:f=enI y):((((Q.map enI).take n)++[e]).take m)++[f]=Q'.map enI:=by
 rw [z224 hn (rfl:Q++[x]=Q++[x]) he]
 exact z224 (by subst hm hn;simp) h hf
theorem insS_at {l:List Int} {n:Int} (h:Asc l) (hn:n ∉ l):∃ p,p≤l.length∧(∀ k (hk:k < l.length),k < p→l[k] < n)∧(∀ k (hk:k < l.length),p≤k→n < l[k])∧insS l n=l.take p++n::l.drop p:=by
 induction l with
 |nil=>exact ⟨0,y49 _,fun k hk=>by simp at hk,fun k hk=>by simp at hk,rfl⟩
 |cons x r ih =>
  have h1:=List.pairwise_cons.1 h
  have hx:x≠n:=fun e=>hn (by simp [e])
  by_cases hlt:n < x
  ·refine ⟨0,y50 _,fun k hk h0=>by omega,fun k hk _=>?_,by rw [insS,if_neg hx,if_pos hlt];rfl⟩
   match k with
   |0=>exact hlt
   |k+1 =>
    have:=h1.1 ((x::r)[k+1]) (by simp)
    omega
  ·obtain ⟨p,p1,p2,p3,p4⟩:=ih h1.2 (fun h=>hn (by simp [h]))
   refine ⟨p+1,by simpa using p1,fun k hk hkp=>?_,fun k hk hkp=>?_,by rw [insS,if_neg hx,if_neg hlt,p4];rfl⟩
   ·match k with
    |0=>show x < n;omega
    |k+1=>exact p2 k (by simpa using hk) (by omega)
   ·match k with
    |0=>omega
    |k+1=>exact p3 k (by simpa using hk) (by omega)
def sOut (l:List Int) (n:Int) (p i:Nat):List Int:=if i≤p then l.take i else l.take p++n::(l.take i).drop p
theorem sOut_len {l:List Int} {n:Int} {p i:Nat} (hp:p≤l.length) (hi:i≤l.length):(sOut l n p i).length≤l.length+1:=by
 unfold sOut;split<;>simp<;>omega
theorem z859 {l:List Int} {n:Int} {p i:Nat} (hi:i < l.length) (h:i < p):sOut l n p (i+1)=sOut l n p i++[l[i]]:=by
 unfold sOut
 rw [if_pos (by omega),if_pos (by omega),y47 hi]
theorem sOut_at {l:List Int} {n:Int} {p:Nat} (hi:p < l.length):sOut l n p (p+1)=(sOut l n p p++[n])++[l[p]]:=by
 unfold sOut
 rw [if_neg (by omega),if_pos (y49 _),y47 hi,List.drop_append_of_le_length (by simp;omega),List.drop_of_length_le (by simp;omega)]
 simp
theorem z858 {l:List Int} {n:Int} {p i:Nat} (hi:i < l.length) (h:p < i):sOut l n p (i+1)=sOut l n p i++[l[i]]:=by
 unfold sOut
 rw [if_neg (by omega),if_neg (by omega),y47 hi,List.drop_append_of_le_length (by simp;omega)]
 simp
theorem z791 (l:List Int) (n:Int) (h:Asc l) (hl:l.length≤1048576):QQ 103 [ints l,.int n] [] (ints (insS l n)) []:=by
 by_cases hn:n∈l
 ·rw [insS_old h hn]
  obtain ⟨j,hj,rfl⟩:=List.mem_iff_getElem.1 hn
  have hlt:∀ k (hk:k < l.length),k < j→l[k] < l[j]:=fun k hk hkj=>List.pairwise_iff_getElem.1 h k j hk hj hkj
  refine z16 z24 func103 rfl rfl 50 ntmps103 (by simp) ?_
  repeat' ((apply y6 ok;rfl;conv=>whnf))
  refine z111 (fun i:Nat=>([(0,ints l),(1,.int l[j]),(5,.sref 0 0 i),(6,.bool false),(7,.int i)],[.cells 1 ((l.take i).map enI)])) (fun i=>i≤j) (fun i=>l.length - i) 0 (by omega) ⟨[0],rfl,by decide,rfl,⟨⟨rfl,rfl⟩,⟨rfl,rfl⟩,⟨rfl,rfl⟩,⟨rfl,rfl⟩,⟨rfl,rfl⟩,trivial⟩,⟨z37 rfl (z6 fun _=>rfl),trivial⟩⟩ ?_
  intro i hi
  by_cases hij:i=j
  ·subst hij
   repeat' (first|apply y6 ok;rfl;conv=>whnf|apply y40;(omega);conv=>whnf|with_reducible apply z13;omega;intro _;conv=>whnf|apply z7<;>intro _<;>conv=>whnf)
   all_goals try (exfalso;omega)
   exact z67 rfl rfl rfl
  ·have h1:=hlt i (by omega) (by omega)
   repeat' (first|apply y6 ok;rfl;conv=>whnf|apply y40;(first|omega|unfold inI;omega|(try dsimp only);simp only [y46,y45,y44,y43,y55,y56];omega|exact ⟨rfl,z17 rfl z26⟩);conv=>whnf|with_reducible apply z13;omega;intro _;conv=>whnf|apply z7<;>intro _<;>conv=>whnf)
   all_goals try (exfalso;omega)
   exact z92 (i+1) [2] (by omega) (by omega) ⟨rfl,by decide,rfl,⟨⟨rfl,rfl⟩,⟨rfl,rfl⟩,⟨rfl,rfl⟩,⟨rfl,rfl⟩,⟨rfl,rfl⟩,trivial⟩,⟨obj_app (by omega) _ rfl rfl rfl (fun _=>rfl),trivial⟩⟩
 ·obtain ⟨p,p1,p2,p3,p4⟩:=insS_at h hn
  rw [p4]
  refine keepI (n:=(l.take p++n::l.drop p).length) ?_ rfl
  refine z16 z24 func103 rfl rfl 50 ntmps103 (by simp) ?_
  repeat' ((apply y6 ok;rfl;conv=>whnf))
  refine z111 (fun i:Nat=>([(0,ints l),(1,.int n),(5,.sref 0 0 (sOut l n p i).length),(6,.bool (decide (p < i))),(7,.int i)],[.cells 1 ((sOut l n p i).map enI)])) (fun i=>i≤l.length) (fun i=>l.length - i) 0 (by omega) ⟨[0],rfl,by decide,rfl,⟨⟨rfl,rfl⟩,⟨rfl,rfl⟩,⟨rfl,z174 (by simp [sOut]) rfl⟩,⟨rfl,rfl⟩,⟨rfl,rfl⟩,trivial⟩,⟨z37 (z45 (by simp [sOut])) (z6 fun _=>rfl),trivial⟩⟩ ?_
  intro i hi
  have hsl:=sOut_len (n:=n) p1 hi
  by_cases hil:i < l.length
  ·have hne:l[i]≠n:=fun e=>hn (e ▸ y41 _)
   by_cases h1:i < p
   ·have h2:=p2 i hil h1
    have h3:=z859 (n:=n) hil h1
    repeat' (first|apply y6 ok;rfl;conv=>whnf|apply y40;(first|omega|unfold inI;omega|(try dsimp only);simp only [y46,y45,y44,y43,y55,y56];omega|exact ⟨rfl,z17 rfl z26⟩);conv=>whnf|with_reducible apply z13;omega;intro _;conv=>whnf|apply z7<;>intro _<;>conv=>whnf|apply z35<;>intro _<;>conv=>whnf)
    all_goals try (exfalso;omega)
    exact z92 (i+1) [2] (by omega) (by omega) ⟨rfl,by decide,rfl,⟨⟨rfl,rfl⟩,⟨rfl,rfl⟩,⟨rfl,z174 (by rw [h3];simp) rfl⟩,⟨rfl,by rw [y80 (show ¬ p < i by omega),y80 (show ¬ p < i+1 by omega)];rfl⟩,⟨rfl,rfl⟩,trivial⟩,⟨z37 (z45 (z224 rfl h3 rfl)) (z6 fun _=>rfl),trivial⟩⟩
   ·have h2:=p3 i hil (by omega)
    by_cases h4:i=p
    ·subst h4
     have h3:=sOut_at (n:=n) hil
     repeat' (first|apply y6 ok;rfl;conv=>whnf|apply y40;(first|omega|unfold inI;omega|(try dsimp only);simp only [y46,y45,y44,y43,y55,y56];omega|exact ⟨rfl,z17 rfl z26⟩);conv=>whnf|with_reducible apply z13;omega;intro _;conv=>whnf|apply z7<;>intro _<;>conv=>whnf|apply z35<;>intro _<;>conv=>whnf)
     all_goals try (exfalso;omega)
     exact z92 (i+1) [4] (by omega) (by omega) ⟨rfl,by decide,rfl,⟨⟨rfl,rfl⟩,⟨rfl,rfl⟩,⟨rfl,z174 (by rw [h3];simp) rfl⟩,⟨rfl,by rw [y79 (show i < i+1 by omega)];rfl⟩,⟨rfl,rfl⟩,trivial⟩,⟨z37 (z45 (push_two rfl rfl h3 rfl rfl)) (z6 fun _=>rfl),trivial⟩⟩
    ·have h3:=z858 (n:=n) hil (show p < i by omega)
     repeat' (first|apply y6 ok;rfl;conv=>whnf|apply y40;(first|omega|unfold inI;omega|(try dsimp only);simp only [y46,y45,y44,y43,y55,y56];omega|exact ⟨rfl,z17 rfl z26⟩);conv=>whnf|with_reducible apply z13;omega;intro _;conv=>whnf|apply z7<;>intro _<;>conv=>whnf|apply z35<;>intro _<;>conv=>whnf)
     all_goals try (exfalso;omega)
     exact z92 (i+1) [2] (by omega) (by omega) ⟨rfl,by decide,rfl,⟨⟨rfl,rfl⟩,⟨rfl,rfl⟩,⟨rfl,z174 (by rw [h3];simp) rfl⟩,⟨rfl,by rw [y79 (show p < i by omega),y79 (show p < i+1 by omega)];rfl⟩,⟨rfl,rfl⟩,trivial⟩,⟨z37 (z45 (z224 rfl h3 rfl)) (z6 fun _=>rfl),trivial⟩⟩
  ·obtain rfl:i=l.length:=by omega
   by_cases h1:p < l.length
   ·have e:sOut l n p l.length=l.take p++n::l.drop p:=by unfold sOut;rw [if_neg (by omega),y53]
    repeat' (first|apply y6 ok;rfl;conv=>whnf|apply y40;(omega);conv=>whnf|with_reducible apply z13;omega;intro _;conv=>whnf|apply z7<;>intro _<;>conv=>whnf|apply z35<;>intro _<;>conv=>whnf)
    all_goals try (exfalso;omega)
    rw [e]
    exact z133 rfl (z6 fun _=>rfl) rfl rfl rfl
   ·have e:sOut l n p l.length++[n]=l.take p++n::l.drop p:=by unfold sOut;rw [if_pos (by omega),y54 (y49 _),y54 (by omega),List.drop_of_length_le (by omega)]
    repeat' (first|apply y6 ok;rfl;conv=>whnf|apply y40;(first|omega|(try dsimp only);simp only [y46,y45,y44,y43,y55,y56];omega|exact ⟨rfl,z17 rfl z26⟩);conv=>whnf|with_reducible apply z13;omega;intro _;conv=>whnf|apply z7<;>intro _<;>conv=>whnf|apply z35<;>intro _<;>conv=>whnf)
    all_goals try (exfalso;omega)
    exact z133 rfl (z6 fun _=>rfl) (by rw [← e];simp) rfl (z224 rfl e.symm rfl)
end Go.Proofs.YteinbnahinpegaaGreat
