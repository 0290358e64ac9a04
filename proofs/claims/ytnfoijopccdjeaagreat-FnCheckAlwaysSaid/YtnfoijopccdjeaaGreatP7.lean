/- A part of the proofs over this program: T157, T158, T159, T160, T29, T94K, T161, T186, T187, T238, T286, T33P, T67, T68, T210, T200, T162, T163, T164, T170, T201, T29A, T29C, T202, T166, T204, T212, T98, T211, T214, T242, T243, T215, T253W. -/
import Derived.Test.YtnfoijopccdjeaaGreatG0
import Derived.Test.YtnfoijopccdjeaaGreatG1
import Derived.Test.YtnfoijopccdjeaaGreatG2
import Derived.Test.YtnfoijopccdjeaaGreatG3
import Derived.Test.YtnfoijopccdjeaaGreatP0
import Derived.Test.YtnfoijopccdjeaaGreatP1
import Derived.Test.YtnfoijopccdjeaaGreatP2
import Derived.Test.YtnfoijopccdjeaaGreatP3
import Derived.Test.YtnfoijopccdjeaaGreatP4
import Derived.Test.YtnfoijopccdjeaaGreatP5
import Derived.Test.YtnfoijopccdjeaaGreatP6
import Derived.Test.YtnfoijopccdjeaaGreatRows
import Derived.WalkKit
import Derived.ProofKit
import Derived.Deep.DeepHandedRow
import Derived.Lib.LaidTab
set_option linter.all false
namespace Go.Proofs.YtnfoijopccdjeaaGreat
open Go.Gl
attribute [local irreducible] z18 AWP z33 z37 z34 RetS z40
set_option maxHeartbeats 3200000 in
theorem z770 (P:List Int) (hP:P.length≤100000) (f:Nat) (to:Int) (h:BackOk P f to) (hf:f≤100000):CallsA Tryz.prog 182 [ints P,.int to] [] (ints (bkw P f to [])) []:=by
 generalize hR:bkw P f to []=R
 have hto:=h
 refine z7 z14 Tryz.func182 rfl rfl 25 Tryz.ntmps182 (by simp) ?_
 repeat' (((apply y4 ok;rfl))<;>conv=>whnf)
 refine z64 (fun x:Nat×Int×List Int=>([(0,ints P),(5,.sref 0 0 (x.2.2.length+1))],[.cells 1 ((x.2.1::x.2.2).map enI)])) (fun x=>BackOk P x.1 x.2.1∧bkw P x.1 x.2.1 x.2.2=R∧x.1+x.2.2.length≤100000) (fun x=>x.1) (f,to,[]) ⟨hto,hR,by show f+0≤100000;omega⟩ (by refine swR [0] [] rfl rfl ?_;(repeat' first|exact y85 _|apply y86|constructor)) ?_
 rintro ⟨g,v,tl⟩ ⟨hB,hE,hl⟩
 dsimp only at hB hE hl ⊢
 have hv:0≤v∧v < P.length:=by cases g<;>exact hB.1
 have hg:(P.map enI)[v.toNat]?=some (enI (P.getD v.toNat 0)):=by rw [y51,y45 (by omega),z17 (by omega)];rfl
 by_cases h0:0≤P.getD v.toNat 0
 ·cases g with
  |zero=>exact absurd hB.2 (by omega)
  |succ g =>
   rw [bkw,if_pos h0] at hE
   have hB2:BackOk P g (P.getD v.toNat 0):=by
    rcases hB.2 with h|h
    ·omega
    ·exact h
   generalize P.getD v.toNat 0=y at *
   have hst:(List.map enI (v::tl)).length=tl.length+1∧Stor (List.map enI (v::tl)):=⟨by simp,z140 (fun _=>rfl)⟩
   repeat' ((first|(apply y4 ok;rfl)|(refine z15 (i:=v.toNat) (by simp) hg ?_)|(refine y43 hst ?_)|(apply y43;first|omega|((try dsimp only);simp only [y49,y48,y47,y46,y57,y58];omega))|apply z363|((apply z6)<;>intro _))<;>conv=>whnf)
   all_goals try (exfalso;omega)
   all_goals refine z27 (g,y,v::tl) ⟨hB2,hE,by show g+(v::tl).length≤100000;rw [y57];omega⟩ (by show g < g+1;omega) (by refine swR [2] [0,1] rfl rfl ?_;(repeat' first|exact y85 _|exact z12 _|(refine z45 ?_;((simp;omega)))|((refine z10 rfl ?_ ?_);(focus ((repeat' (first|exact z5 (fun _=>rfl)|exact z213 rfl z30|apply z96));done)))|constructor))
 ·have hE2:v::tl=R:=by
   cases g with
   |zero=>exact hE
   |succ g=>rw [bkw,if_neg h0] at hE;exact hE
  subst hE2
  generalize P.getD v.toNat 0=y at *
  repeat' ((first|(apply y4 ok;rfl)|(refine z15 (i:=v.toNat) (by simp) hg ?_)|(apply y43;omega)|(((apply z9;omega));intro _)|apply z363|((apply z6)<;>intro _))<;>conv=>whnf)
  all_goals try (exfalso;omega)
  all_goals (refine rsD [] [0] rfl ?_;(repeat' first|exact y85 _|((apply z36 rfl rfl rfl);(focus ((repeat ((exact z24 (fun _=>rfl) _)));done));(focus (((simp;done));done)))|constructor))
def z1177 (k:Nat):List Int:=List.replicate k (-1)
theorem z1027 (k:Nat):z1177 (k+1)=z1177 k++[-1]:=by unfold z1177;rw [List.replicate_succ']
theorem z673 {l:List Int} {k:Nat} (h:k < l.length) (x:Int):x∈l.take (k+1)↔x∈l.take k∨x=l[k]:=by
 rw [y50 h,List.mem_append,y54]
set_option maxHeartbeats 12800000 in
theorem z455 (rows:List (List Int)) (ini:List Int) (hr:∀ r∈rows,InN rows.length r) (hi:InN rows.length ini) (hn:ini.Nodup) (hN:rows.length≤100000) (hrl:∀ r∈rows,r.length≤1000000000):CallsA Tryz.prog 180 [lst 1 encL rows,ints ini] [] (.tup [.sref 0 0 (srP rows ini).length,.sref 1 0 (srQ rows ini).length]) [.cells 1 ((srP rows ini).map enI),.cells 1 ((srQ rows ini).map enI)]:=by
 have hil:ini.length≤rows.length:=z166 _ _ hn hi
 refine z7 z14 Tryz.func180 rfl rfl 91 Tryz.ntmps180 (by simp) ?_
 repeat' ((first|(apply y4 ok;rfl)|(apply y43;(dsimp only;omega)))<;>conv=>whnf)
 refine z64 (fun x:Nat×List Int=>([(0,lst 1 encL rows),(1,ints ini),(6,.sref 0 0 x.2.length),(7,.sref 1 0 rows.length),(8,.int x.1)],[.cells 1 (x.2.map enI),.cells 1 ((mkB rows.length []).map enB)])) (fun x=>x.1≤rows.length∧x.2.length=x.1∧x.2=z1177 x.1) (fun x=>rows.length - x.1) (0,[]) ⟨by show 0≤rows.length;omega,rfl,rfl⟩ (by refine swR [0,1] [] rfl rfl ?_;(repeat' first|exact y85 _|((refine z10 rfl ?_ ?_);(focus ((repeat' (first|exact z30|exact z73 rfl));done)))|constructor)<;>((refine z46 ?_;rw [mkB_nil,List.map_replicate];rfl))) ?_
 rintro ⟨i,F⟩ ⟨hF1,hFl,hF2⟩
 dsimp only at hF1 hFl hF2 ⊢
 by_cases hi2:i < rows.length
 ·repeat' ((first|(apply y4 ok;rfl)|(apply y43;first|omega|(unfold inI;omega)|((try dsimp only);simp only [y49,y48,y47,y46,y57,y58];omega)|exact ⟨rfl,z21 rfl z31⟩)|((apply z6)<;>intro _))<;>conv=>whnf)
  all_goals try (exfalso;omega)
  all_goals refine z27 (i+1,F++[-1]) ⟨hi2,by rw [y47,hFl];rfl,by show _=z1177 (i+1);rw [z1027,← hF2]⟩ (by show rows.length - (i+1) < _;omega) (by refine swR [3,1] [] rfl rfl ?_;(repeat' first|exact y85 _|exact z12 _|(refine z45 ?_;((simp;done)))|((first|refine z43 rfl ?_ ?_|refine z10 rfl ?_ ?_);(focus ((repeat' (first|exact z5 (fun _=>rfl)|apply z28));done)))|(refine z68 ?_ ?_;(focus (omega)))|constructor))
 ·have e:rows.length=i:=by omega
  have hs0:srS rows ini 0=(ini,F):=by rw [hF2,← e];rfl
  rw [← e] at hFl
  subst e
  clear hF1 hF2 hi2
  repeat' ((first|(apply y4 ok;rfl)|(apply y43;first|omega|(dsimp only;omega)|exact z140 (fun _=>rfl))|((apply z6)<;>intro _))<;>conv=>whnf)
  all_goals try (exfalso;omega)
  all_goals
   refine z64 (fun i:Nat=>([(0,lst 1 encL rows),(1,ints ini),(6,.sref 0 0 rows.length),(7,.sref 1 0 rows.length),(9,.sref 2 0 ini.length),(10,.int i)],[.cells 1 (F.map enI),.cells 1 ((mkB rows.length (ini.take i)).map enB),.cells 1 (ini.map enI)])) (fun i=>i≤ini.length) (fun i=>ini.length - i) 0 (by omega) (by refine swR [0,1,3] [] rfl rfl ?_;(repeat' first|exact y85 _|exact z12 _|(refine z45 ?_;(omega))|refine z10 rfl (z5 (fun _=>rfl)) ?_|constructor)) ?_
   intro i hi1
   by_cases hi2:i < ini.length
   ·have hx:=hi ini[i] (y44 _)
    have hset:=z1102 (enc:=enB) rfl hx.1 hx.2 (z673 hi2)
    have hml:=mkB_len rows.length (ini.take i)
    repeat' ((first|(apply y4 ok;rfl)|(apply y43;first|omega|(unfold inI;omega))|((first|(with_reducible apply z9;omega)|(apply z9;omega));intro _)|((apply z6)<;>intro _))<;>conv=>whnf)
    all_goals try (exfalso;omega)
    all_goals refine z27 (i+1) (by omega) (by omega) (by refine swR [0,1,2] [] rfl rfl ?_;(repeat' first|exact y85 _|exact z12 _|refine z69 rfl (z5 (fun _=>rfl)) ?_|refine z10 rfl (z5 (fun _=>rfl)) ?_|constructor)<;>(exact z46 hset))
   ·have e:ini.length=i:=by omega
    subst e
    rw [y55]
    repeat' ((first|(apply y4 ok;rfl)|(apply y43;omega)|((first|(with_reducible apply z9;omega)|(apply z9;omega));intro _)|((apply z6)<;>intro _))<;>conv=>whnf)
    all_goals try (exfalso;omega)
    refine z64 (fun x:Nat×List Int×List Int=>([(0,lst 1 encL rows),(6,.sref 0 0 rows.length),(7,.sref 1 0 rows.length),(9,.sref 2 0 x.2.1.length),(11,.int x.1)],[.cells 1 (x.2.2.map enI),.cells 1 ((mkB rows.length x.2.1).map enB),.cells 1 (x.2.1.map enI)])) (fun x=>srS rows ini x.1=(x.2.1,x.2.2)∧x.1≤x.2.1.length) (fun x=>rows.length - x.1) (0,ini,F) ⟨hs0,y53 _⟩ (by refine swR [0,1,2] [] rfl rfl ?_;(repeat' first|exact y85 _|exact z12 _|refine z10 rfl (z5 (fun _=>rfl)) ?_|constructor)) ?_
    clear hs0 hFl F
    rintro ⟨i,Q,P⟩ ⟨hS,hiQ⟩
    dsimp only at hS hiQ ⊢
    have hJ:=z243 hr hi hn i
    rw [hS] at hJ
    have hQl:=z166 _ _ hJ.nd hJ.inn
    have hPl:=hJ.len
    dsimp only at hQl hPl
    by_cases hi2:i < Q.length
    ·have hq:=hJ.inn _ (y44 hi2)
     have hS1:srS rows ini (i+1)=visPs Q[i] (Q,P) (rows.getD Q[i].toNat []):=by rw [srS,dif_pos (by rw [hS];exact hi2)];simp only [hS]
     have hqr:Q[i].toNat < rows.length:=by omega
     have hrow:rows.getD Q[i].toNat []=rows[Q[i].toNat]:=z17 hqr
     have hrin:InN rows.length rows[Q[i].toNat]:=hr _ (y44 _)
     have hrl2:=hrl rows[Q[i].toNat] (y44 _)
     rw [hrow] at hS1
     repeat' ((first|(apply y4 ok;rfl)|((apply z6)<;>intro _))<;>conv=>whnf)
     all_goals try (exfalso;omega)
     refine z64 (fun y:Nat×List Int×List Int=>([(0,lst 1 encL rows),(6,.sref 0 0 rows.length),(7,.sref 1 0 rows.length),(9,.sref 2 0 y.2.1.length),(11,.int i),(12,.int y.1)],[.cells 1 (y.2.2.map enI),.cells 1 ((mkB rows.length y.2.1).map enB),.cells 1 (y.2.1.map enI)])) (fun y=>visPs Q[i] (Q,P) (rows[Q[i].toNat].take y.1)=(y.2.1,y.2.2)∧y.1≤rows[Q[i].toNat].length) (fun y=>rows[Q[i].toNat].length - y.1) (0,Q,P) ⟨rfl,y53 _⟩ (by refine swR [0,1,2] [] rfl rfl ?_;(repeat' first|exact y85 _|exact z12 _|refine z10 rfl (z5 (fun _=>rfl)) ?_|constructor)) ?_
     rintro ⟨k,Q',P'⟩ ⟨hV,hk⟩
     dsimp only at hV hk ⊢
     obtain ⟨hJ',hi',hu⟩:=PJ.visPs (rows[Q[i].toNat].take k) hJ hi2 rfl (fun x hx=>hrin x (List.mem_of_mem_take hx))
     simp only [hV] at hJ' hi' hu
     have hQl':=z166 _ _ hJ'.nd hJ'.inn
     have hPl':=hJ'.len
     dsimp only at hQl' hPl'
     have hg:(Q'.map enI)[i]?=some (enI Q[i]):=by rw [y51,y45 hi',hu];rfl
     by_cases hk2:k < rows[Q[i].toNat].length
     ·have hx:=hrin rows[Q[i].toNat][k] (y44 _)
      have hv:=z420 (u:=Q[i]) (x:=(Q,P)) hk2
      rw [hV] at hv
      have hkk:(rows[Q[i].toNat].map enI)[k]?=some (enI rows[Q[i].toNat][k]):=by rw [y51,y45 hk2];rfl
      generalize Q[i]=u at *
      generalize rows[u.toNat][k]=v at *
      by_cases hn2:v∈Q'
      ·rw [z317 hn2] at hv
       repeat' ((first|(apply y4 ok;rfl)|(refine z15 (i:=i) rfl hg ?_)|(refine z15 (i:=k) rfl hkk ?_)|(refine z1164 (enc:=enB) (v:=v) (by rfl) hx.1 hx.2 ?_)|(apply y43;first|omega|(unfold inI;omega)|((try dsimp only);simp only [y49,y48,y47,y46,y57,y58];omega)|exact ⟨rfl,z21 rfl z31⟩)|((first|(with_reducible apply z90;omega)|(apply z9;omega));intro _)|((first|apply z6|apply z53)<;>intro _))<;>conv=>whnf)
       all_goals first|(exfalso;omega)|(exfalso;contradiction)|skip
       all_goals refine z27 (k+1,Q',P') ⟨hv,hk2⟩ (by show rows[u.toNat].length - (k+1) < rows[u.toNat].length - k;omega) (by refine swR [0,1,2] [] rfl rfl ?_;(repeat' first|exact y85 _|exact z12 _|refine z10 rfl (z5 (fun _=>rfl)) ?_|constructor))
      ·rw [z318 hn2] at hv
       have hset:=z1102 (enc:=enB) (S:=Q') (S':=Q'++[v]) rfl hx.1 hx.2 (fun x=>by simp)
       repeat' ((first|(apply y4 ok;rfl)|(refine z15 (i:=i) rfl hg ?_)|(refine z15 (i:=k) rfl hkk ?_)|(refine z1164 (enc:=enB) (v:=v) (by rfl) hx.1 hx.2 ?_)|(apply y43;first|omega|(unfold inI;omega)|((try dsimp only);simp only [y49,y48,y47,y46,y57,y58];omega)|exact ⟨rfl,z21 rfl z31⟩)|((first|(with_reducible apply z90;omega)|(apply z9;omega));intro _)|((first|apply z6|apply z53)<;>intro _))<;>conv=>whnf)
       all_goals first|(exfalso;omega)|(exfalso;contradiction)|skip
       all_goals refine z27 (k+1,Q'++[v],P'.set v.toNat u) ⟨hv,hk2⟩ (by show rows[u.toNat].length - (k+1) < rows[u.toNat].length - k;omega) (by refine swR [0,1,4] [] rfl rfl ?_;(repeat' first|exact y85 _|(refine z45 ?_;((simp;done)))|((first|refine z43 rfl ?_ ?_|refine z69 rfl ?_ ?_);(focus ((repeat' (first|exact z5 (fun _=>rfl)|apply z28));done)))|refine z751 (by omega) ?_|(refine z68 ?_ ?_;(focus (omega)))|constructor)<;>(exact z46 hset))
     ·rw [y56 (by omega)] at hV
      rw [hV] at hS1
      repeat' ((first|(apply y4 ok;rfl)|(refine z15 (i:=i) rfl hg ?_)|(apply y43;first|omega|(unfold inI;omega))|((first|(with_reducible apply z9;omega)|(with_reducible apply z90;omega)|(apply z9;omega));intro _)|((first|apply z6|apply z109)<;>intro _))<;>conv=>whnf)
      all_goals try (exfalso;omega)
      all_goals refine z27 (i+1,Q',P') ⟨hS1,hi'⟩ (by show rows.length - (i+1) < rows.length - i;omega) (by refine swR [0,1,2] [] rfl rfl ?_;(repeat' first|exact y85 _|exact z12 _|refine z10 rfl (z5 (fun _=>rfl)) ?_|constructor))
    ·have hE:=z1086 (rows:=rows) (ini:=ini) (i:=i) (by rw [hS];show Q.length≤i;omega) (by omega)
     rw [hS] at hE
     obtain ⟨e1,e2⟩:=Prod.mk.inj hE
     rw [← e1,← e2]
     repeat' ((first|(apply y4 ok;rfl)|((apply z6)<;>intro _))<;>conv=>whnf)
     all_goals try (exfalso;omega)
     all_goals (refine rsD [0,2] [] rfl ?_;(repeat' first|exact y85 _|exact z12 _|(refine z45 ?_;(omega))|refine z10 rfl (z5 (fun _=>rfl)) ?_|apply z71|constructor))
theorem z874 (rows:List (List Int)) (ini:List Int) (hr:∀ r∈rows,InN rows.length r) (hi:InN rows.length ini) (hn:ini.Nodup) (hN:rows.length≤100000) (hrl:∀ r∈rows,r.length≤1000000000):CallsA Tryz.prog 180 [lst 1 encL rows,ints ini] [] (.tup [ints (srP rows ini),ints (srQ rows ini)]) [] :=
 (z455 rows ini hr hi hn hN hrl).lend [] [0,1] rfl rfl rfl (z908 (z39 (z105 rfl rfl rfl) (z39 (z105 rfl rfl rfl) z60))) z35
theorem rowAt {rows:List (List Int)} {v:Int} (hv:0≤v∧v < rows.length):(rows.map encL)[v.toNat]?=some (encL (rows.getD v.toNat [])):=by
 rw [y51,y45 (by omega),z17 (by omega)];rfl
theorem rowLen {rows:List (List Int)} {M:Nat} (hrl:∀ r∈rows,r.length≤M) (v:Int):(rows.getD v.toNat []).length≤M:=by
 by_cases h:v.toNat < rows.length
 ·rw [z17 h];exact hrl _ (y44 _)
 ·rw [y67,y68 (by omega)];exact y53 _
set_option maxHeartbeats 3200000 in
theorem z1007 (rows:List (List Int)) (v:Int) (hr:∀ r∈rows,InN rows.length r) (hv:0≤v∧v < rows.length) (hN:rows.length≤100000) (hrl:∀ r∈rows,r.length≤1000000000):CallsA Tryz.prog 181 [lst 1 encL rows,.int v] [] (ints (cycL rows v)) []:=by
 have hg:=rowAt hv
 have hl:=fun w=>rowLen hrl w
 have c1:=z679 (rows.getD v.toNat []) (by have:=hl v;unfold maxLen;omega) v
 have hlv:=hl v
 have c2:=z455 rows [v] hr (z291 hv) (by simp) hN hrl
 have hQ:=z600 hr (z291 hv) (by simp)
 have hB:=z654 hr (z291 hv) (by simp)
 have hPl:=z1089 hr (z291 hv) (by simp)
 have hQl:=z846 hr (z291 hv) (by simp)
 have c3:=fun k hk=>z770 (srP rows [v]) (by omega) rows.length _ (hB k hk) (by omega)
 unfold cycL
 by_cases h:v∈rows.getD v.toNat []
 ·rw [if_pos h]
  rw [y81 h] at c1
  generalize rows.getD v.toNat []=r0 at *
  refine z7 z14 Tryz.func181 rfl rfl 45 Tryz.ntmps181 (by simp) ?_
  repeat' ((first|(apply y4 ok;rfl)|(refine z15 (i:=v.toNat) (by simp) hg ?_)|(apply y43;omega)|(apply z4 (c1);rfl;rfl))<;>conv=>whnf)
  all_goals (refine rsD [] [0] rfl ?_;(repeat' first|exact y85 _|constructor))
 ·rw [if_neg h]
  rw [y82 h] at c1
  generalize hr0:rows.getD v.toNat []=r0 at hg c1 hlv
  generalize srQ rows [v]=Q at *
  generalize srP rows [v]=P at *
  generalize hR:cycT rows P v Q=R
  refine z7 z14 Tryz.func181 rfl rfl 45 Tryz.ntmps181 (by simp) ?_
  repeat' ((first|(apply y4 ok;rfl)|(refine z15 (i:=v.toNat) (by simp) hg ?_)|(apply y43;omega)|(apply z4 (c1);rfl;rfl)|(apply z80 [] [0] [1,2] c2;(focus ((repeat' first|exact z60|apply z39)<;>rfl));rfl;rfl;(focus ((repeat' first|exact z13|apply z11)<;>(refine z19 ?_;((exact z5 fun _=>rfl)))));((refine .inr ⟨rfl,?_⟩;repeat' first|exact True.intro|apply y43|exact z146 (fun _=>rfl) _))))<;>conv=>whnf)
  refine z64 (fun i:Nat=>([(0,lst 1 encL rows),(1,.int v),(5,ints P),(6,ints Q),(7,.int i)],[])) (fun i=>i≤Q.length∧cycT rows P v (Q.drop i)=R) (fun i=>Q.length - i) 0 ⟨y53 _,hR⟩ (by refine swR [] [1,2] rfl rfl ?_;(repeat' first|exact y85 _|((apply z36 rfl rfl rfl);(focus ((repeat ((exact z24 (fun _=>rfl) _)));done));(focus (((simp;done));done)))|constructor)) ?_
  rintro i ⟨hi1,hi2⟩
  by_cases hi3:i < Q.length
  ·have hq:=hQ _ (y44 hi3)
   have hgq:=rowAt hq
   have c4:=z679 (rows.getD Q[i].toNat []) (by have:=hl Q[i];unfold maxLen;omega) v
   have hlq:=hl Q[i]
   have c5:=c3 i hi3
   rw [y79 hi3,cycT] at hi2
   have hgi:(Q.map enI)[i]?=some (enI Q[i]):=by rw [y51,y45 hi3];rfl
   generalize Q[i]=u at *
   by_cases hm:v∈rows.getD u.toNat []
   ·rw [if_pos hm] at hi2
    rw [y81 hm] at c4
    subst hi2
    generalize rows.getD u.toNat []=r1 at *
    repeat' ((first|(apply y4 ok;rfl)|(refine z15 (i:=u.toNat) (by simp) hgq ?_)|(refine z15 (i:=i) (by simp) hgi ?_)|(apply y43;omega)|((apply z6)<;>intro _)|(apply z4 (c4);rfl;rfl)|(apply z4 (c5);rfl;rfl))<;>conv=>whnf)
    all_goals try (exfalso;omega)
    all_goals (refine rsD [] [] rfl ?_;(repeat' first|exact y85 _|constructor))
   ·rw [if_neg hm] at hi2
    rw [y82 hm] at c4
    generalize rows.getD u.toNat []=r1 at *
    repeat' ((first|(apply y4 ok;rfl)|(refine z15 (i:=u.toNat) (by simp) hgq ?_)|(refine z15 (i:=i) (by simp) hgi ?_)|(apply y43;first|omega|(unfold inI;omega))|((apply z6)<;>intro _)|(apply z4 (c4);rfl;rfl))<;>conv=>whnf)
    all_goals try (exfalso;omega)
    all_goals refine z27 (i+1) ⟨hi3,hi2⟩ (by omega) (by refine swR [] [] rfl rfl ?_;(repeat' first|exact y85 _|constructor))
  ·have e:Q.length=i:=by omega
   subst e
   rw [List.drop_length,cycT] at hi2
   subst hi2
   repeat' ((first|(apply y4 ok;rfl)|(apply y43;omega)|((first|(with_reducible apply z9;omega)|(with_reducible apply z90;omega));intro _)|((apply z6)<;>intro _))<;>conv=>whnf)
   all_goals try (exfalso;omega)
   all_goals (refine rsD [] [0] rfl ?_;(repeat' first|exact y85 _|constructor))
theorem z543 (l:List Int) (n:Nat) (hl:l.length≤1000000) (hn:1≤n) (h0:∀ x∈l,0≤x) (h1:∀ x∈l,x≤1000000000):CallsA Tryz.prog 183 [ints l,.int n] [] (.sref 0 0 l.length) [.cells 1 ((stL l n).map enI)]:=by
 refine z7 z14 Tryz.func183 rfl rfl 24 Tryz.ntmps183 (by simp) ?_
 repeat' (((apply y4 ok;rfl))<;>conv=>whnf)
 refine z64 (fun x:Nat×List Int=>([(0,ints l),(1,.int n),(5,.sref 0 0 x.2.length),(6,.int x.1)],[.cells 1 (x.2.map enI)])) (fun x=>x.1≤l.length∧x.2.length=x.1∧x.2=stL (l.take x.1) n) (fun x=>l.length - x.1) (0,[]) ⟨y53 _,rfl,rfl⟩ (by refine swR [0] [] rfl rfl ?_;(repeat' first|exact y85 _|refine z10 rfl (z30) ?_|constructor)) ?_
 rintro ⟨i,F⟩ ⟨hi1,hF1,hF2⟩
 dsimp only at hi1 hF1 hF2 ⊢
 by_cases hi2:i < l.length
 ·have a0:=h0 _ (y44 hi2)
  have a1:=h1 _ (y44 hi2)
  have a2:0≤l[i] / (n:Int):=Int.ediv_nonneg a0 (by omega)
  have a3:l[i] / (n:Int)≤l[i]:=Int.ediv_le_self _ a0
  have hF3:stL (l.take (i+1)) n=F++[l[i] / n]:=by rw [hF2,stL,y50 hi2,y63];rfl
  repeat' ((first|(apply y4 ok;rfl)|(apply y43;first|omega|(unfold inI;omega)|((try dsimp only);simp only [y49,y48,y47,y46,y57,y58];omega)|exact ⟨rfl,z21 rfl z31⟩)|(((with_reducible apply z9;omega));intro _)|((apply z6)<;>intro _))<;>conv=>whnf)
  all_goals try (exfalso;omega)
  all_goals refine z27 (i+1,F++[l[i] / n]) ⟨hi2,by rw [y47,hF1];rfl,hF3.symm⟩ (by show l.length - (i+1) < l.length - i;omega) (by refine swR [2] [] rfl rfl ?_;(repeat' first|exact y85 _|(refine z45 ?_;((simp;done)))|((refine z43 rfl ?_ ?_);(focus ((repeat' (first|exact z5 (fun _=>rfl)|apply z28));done)))|(refine z68 ?_ ?_;(focus (omega)))|constructor))
 ·have e:l.length=i:=by omega
  subst e
  rw [y55] at hF2
  subst hF2
  repeat' ((first|(apply y4 ok;rfl)|(apply y43;omega)|(((with_reducible apply z9;omega));intro _)|((apply z6)<;>intro _))<;>conv=>whnf)
  all_goals try (exfalso;omega)
  all_goals (refine rsD [0] [] rfl ?_;(repeat' first|exact z12 _|(refine z45 ?_;(omega))|refine z10 rfl (z5 (fun _=>rfl)) ?_|constructor))
theorem IniP.nd {l:List Int} {n:Int} (h:IniP l n l.length):l.Nodup:=by
 have hs:∀ d i (hi:i+d+1 < l.length),l[i] < l[i+d+1]:=by
  intro d
  induction d with
  |zero=>intro i hi;exact (h (i+1) hi hi).2 i rfl
  |succ d ih =>
   intro i hi
   have h1:=ih i (by omega)
   have h2:=(h (i+(d+1)+1) hi hi).2 (i+d+1) (by omega)
   omega
 rw [List.nodup_iff_pairwise_ne,List.pairwise_iff_getElem]
 intro i j hi hj hij
 have:=hs (j - i - 1) i (by omega)
 have e:i+(j - i - 1)+1=j:=by omega
 simp only [e] at this
 omega
noncomputable def trcO (g:Graph) (ls:List Int) (a:Aut):Option (List Int×List Int):=(finS (z48 g ls a) a.ini a.acc).map fun x=>(stL (x.1.take (x.1.length - 1)) a.acc.length,stL x.2 a.acc.length)
noncomputable def trcL (g:Graph) (ls:List Int) (a:Aut):List Int×List Int:=(trcO g ls a).getD ([],[])
set_option maxHeartbeats 6400000 in
theorem z1145 (g:Graph) (hG:GB g) (ls:List Int) (hls:ls.length=g.st.length) (hlr:∀ x∈ls,0≤x∧x≤7) (a:Aut) (hA:AutP a):CallsA Tryz.prog 126 [.agg g.cs,ints ls,.agg a.cs] [] (.tup [.agg [ints (trcL g ls a).1,ints (trcL g ls a).2],.bool (trcO g ls a).isSome]) []:=by
 have k2:=z767 g hG ls hls hlr a hA
 obtain ⟨f1,f2,f3,f4,f5⟩:=z197 hG hA ls
 have hlen:(z48 g ls a).length=g.st.length * a.acc.length:=by unfold z48;rw [z87,Nat.mul_comm]
 have hnd:=hA.2.2.1.nd
 have hac:=hA.1
 unfold trcL trcO finS
 generalize z48 g ls a=rows at *
 have k3:=z874 rows a.ini f1 f2 hnd (by omega) f4
 have hQ:=z600 f1 f2 hnd
 have hB:=z654 f1 f2 hnd
 have hPl:=z1089 f1 f2 hnd
 have hQl:=z846 f1 f2 hnd
 have hPle:=z1085 f1 f2 hnd rows.length
 have k4:=fun v hv=>z1007 rows v f1 hv (by omega) f4
 have k5:=fun k hk=>z770 (srP rows a.ini) (by omega) rows.length _ (hB k hk) (by omega)
 have n4:=fun v hv=>z1187 f1 (v:=v) hv
 have m4:=fun v hv=>z1188 f1 (v:=v) hv
 change ∀ y∈srP rows a.ini,y≤(rows.length:Int) at hPle
 generalize srQ rows a.ini=Q at *
 generalize srP rows a.ini=P at *
 generalize hR:finT rows a.acc P Q=R
 refine z7 z14 Tryz.func126 rfl rfl 72 Tryz.ntmps126 (by simp) ?_
 repeat' ((first|(apply y4 ok;rfl)|(apply z4 (k2);rfl;rfl)|(apply z4 (k3);rfl;rfl))<;>conv=>whnf)
 refine z64 (fun i:Nat=>([(5,.ptr 0 none 0),(6,.ptr 1 none 0),(8,.int a.acc.length),(9,lst 1 encL rows),(10,ints P),(11,ints Q),(12,.int i)],[.cells 3 [a.cs],.cells 2 [[.nils,.nils]]])) (fun i=>i≤Q.length∧finT rows a.acc P (Q.drop i)=R) (fun i=>Q.length - i) 0 ⟨y53 _,hR⟩ (by refine swR [1,2] [] rfl rfl ?_;(repeat' first|exact y85 _|apply y86|constructor)) ?_
 rintro i ⟨hi1,hi2⟩
 by_cases hi3:i < Q.length
 ·have hq:=hQ _ (y44 hi3)
  have c5:=k5 i hi3
  rw [y79 hi3,finT] at hi2
  have hgi:(Q.map enI)[i]?=some (enI Q[i]):=by rw [y51,y45 hi3];rfl
  generalize Q[i]=u at *
  have hm0:0≤u % (a.acc.length:Int):=Int.emod_nonneg _ (by omega)
  have hm1:u % (a.acc.length:Int) < a.acc.length:=Int.emod_lt_of_pos _ (by omega)
  have hga:(a.acc.map enB)[(u % (a.acc.length:Int)).toNat]?=some (enB (a.acc.getD (u % (a.acc.length:Int)).toNat false)):=by
   rw [y51,y45 (by omega),z17 (by omega)];rfl
  have c4:=k4 u hq
  have l4:=z701 rows u
  have b1:=z445 P rows.length u []
  simp only [y58,Nat.add_zero] at b1
  have b2:=z567 P rows.length u []
  have b3:=z812 (P:=P) rows.length u [] hq.1 (fun x hx=>by cases hx)
  have b4:=z813 hPle rows.length u [] (by omega) (by omega) (fun x hx=>by cases hx)
  have n5:=n4 u hq
  have m5:=m4 u hq
  generalize bkw P rows.length u []=b at *
  generalize cycL rows u=c at *
  have c6:=z543 (b.take (b.length - 1)) a.acc.length (by rw [y48];omega) (by omega) (fun x hx=>b3 x (List.mem_of_mem_take hx)) (fun x hx=>by have:=b4 x (List.mem_of_mem_take hx);omega)
  rw [show (b.take (b.length - 1)).length=b.length - 1 by rw [y48];omega] at c6
  have eL:AC.list 1 (((b.length:Int) - 1).toNat - Int.toNat 0) (List.take (((b.length:Int) - 1).toNat - Int.toNat 0) (List.drop (Int.toNat 0) (List.map enI b)))=ints (b.take (b.length - 1)):=by
   rw [show ((b.length:Int) - 1).toNat - Int.toNat 0=b.length - 1 by rw [show Int.toNat 0=0 from rfl];omega]
   show _=AC.list 1 (b.take (b.length - 1)).length ((b.take (b.length - 1)).map enI)
   rw [show (b.take (b.length - 1)).length=b.length - 1 by rw [y48];omega,List.map_take];rfl
  rw [← eL] at c6
  have hs1:(stL (b.take (b.length - 1)) a.acc.length).length=b.length - 1:=by rw [stL,y49,y48];omega
  have hs2:(stL c a.acc.length).length=c.length:=by rw [stL,y49]
  have c7:=z543 c a.acc.length (by omega) (by omega) n5 (fun x hx=>by have:=m5 x hx;omega)
  generalize a.acc.getD (u % (a.acc.length:Int)).toNat false=z at *
  cases z
  ·rw [if_neg (by simp)] at hi2
   repeat' ((first|(apply y4 ok;rfl)|(apply z23;kernel_rfl)|(refine z15 (i:=i) (by simp) hgi ?_)|(refine z15 (i:=(u % (a.acc.length:Int)).toNat) (by simp) hga ?_)|(apply y43;first|omega|(unfold inI;omega))|((apply z6)<;>intro _))<;>conv=>whnf)
   all_goals try (exfalso;omega)
   all_goals refine z27 (i+1) ⟨hi3,hi2⟩ (by omega) (by refine swR [0,1] [] rfl rfl ?_;(repeat' first|exact y85 _|apply y86|constructor))
  ·rw [if_pos rfl] at hi2
   by_cases hc:0 < c.length
   ·rw [if_pos hc] at hi2
    subst hi2
    repeat' ((first|(apply y4 ok;rfl)|(apply z23;kernel_rfl)|(refine z15 (i:=i) (by simp) hgi ?_)|(refine z15 (i:=(u % (a.acc.length:Int)).toNat) (by simp) hga ?_)|(apply y43;first|omega|(unfold inI;omega))|((apply z6)<;>intro _)|(apply z4 (c4);rfl;rfl)|(apply z4 (c5);rfl;rfl)|((first|(apply z8 [] [2] c6;rfl;rfl)|(apply z8 [] [3] c7;rfl;rfl));rfl;(focus ((repeat' first|exact z13|apply z11)<;>(refine z19 ?_;((exact z5 fun _=>rfl)))))))<;>conv=>whnf)
    all_goals try (exfalso;omega)
    all_goals (refine rsD [] [2,3] rfl ?_;(repeat' first|exact y85 _|(refine z395 ?_;omega)|((apply z36 rfl rfl rfl);(focus ((repeat ((exact z24 (fun _=>rfl) _)));done));(focus (((simp;omega));done)))|apply z38|apply z71|constructor))
   ·rw [if_neg hc] at hi2
    repeat' ((first|(apply y4 ok;rfl)|(apply z23;kernel_rfl)|(refine z15 (i:=i) (by simp) hgi ?_)|(refine z15 (i:=(u % (a.acc.length:Int)).toNat) (by simp) hga ?_)|(apply y43;first|omega|(unfold inI;omega))|((apply z6)<;>intro _)|(apply z4 (c4);rfl;rfl)|(apply z4 (c5);rfl;rfl))<;>conv=>whnf)
    all_goals try (exfalso;omega)
    all_goals refine z27 (i+1) ⟨hi3,hi2⟩ (by omega) (by refine swR [0,1] [] rfl rfl ?_;(repeat' first|exact y85 _|apply y86|constructor))
 ·have e:Q.length=i:=by omega
  subst e
  rw [List.drop_length,finT] at hi2
  subst hi2
  repeat' ((first|(apply y4 ok;rfl)|(apply z23;kernel_rfl)|(apply y43;omega)|((first|(with_reducible apply z9;omega)|(with_reducible apply z90;omega));intro _)|((first|apply z6|apply z95)<;>intro _))<;>conv=>whnf)
  all_goals try (exfalso;omega)
  all_goals (refine rsD [] [] rfl ?_;(repeat' first|exact y85 _|exact z26|apply z38|apply z71|constructor))
end Go.Proofs.YtnfoijopccdjeaaGreat
namespace Go.Proofs.YtnfoijopccdjeaaGreat
open Go.Gl
attribute [local irreducible] z18 AWP z33 z37 z34
section
open Go.ChangeShapes Go.WideShapes Go.ChangeAt Go.RowKit
theorem and_mk {a b:Bool} (h:a=true) (k:b=true):(a && b)=true:=by rw [h,k];rfl
theorem own:ownKnob Tryz.prog.godebug=none:=by kernel_rfl
theorem z614:laidOutB Tryz.prog=true:=by kernel_rfl
end
end Go.Proofs.YtnfoijopccdjeaaGreat
namespace Go.Proofs.YtnfoijopccdjeaaGreat
open Go.Gl
attribute [local irreducible] z18 AWP z33 z37 z34
theorem z1212:ArgD Tryz.prog 22 (lst 1 enU) CodeOk :=
 (z1209 (enc1:=lst 1 enU) Tryz.underlying22 (od_list 1 (encL:=fun l=>[lst 1 enU l]) Tryz.underlying22 (by kernel_rfl) (by decide) (od_byte (enc:=enU) Tryz.underlying5 (fun _=>rfl)) (fun _=>rfl)) (fun _=>rfl)).imp fun l h=>⟨l,rfl,h.1,fun x hx=>by
  have:=h.2 x hx
  have h1:IntKind.min .u8=0:=by decide
  have h2:IntKind.max .u8=255:=by decide
  simpa [Lit.wf,h1,h2] using this⟩
end Go.Proofs.YtnfoijopccdjeaaGreat
namespace Go.Proofs.YtnfoijopccdjeaaGreat
open Go.Gl
attribute [local irreducible] z18 AWP z33 z37 z34 RetS z40
theorem z697 (a:Aut) (hA:AutP a) (x:Int) (h0:0≤x):CallsA Tryz.prog 137 [.int x,.pt a.cs,.pt [.int a.acc.length]] [] (.bool (a.acc.getD (x % a.acc.length).toNat false)) []:=by
 have hac:=hA.1
 have hm0:0≤x % (a.acc.length:Int):=Int.emod_nonneg _ (by omega)
 have hm1:x % (a.acc.length:Int) < a.acc.length:=Int.emod_lt_of_pos _ (by omega)
 have hga:(a.acc.map enB)[(x % (a.acc.length:Int)).toNat]?=some (enB (a.acc.getD (x % (a.acc.length:Int)).toNat false)):=by
  rw [y51,y45 (by omega),z17 (by omega)];rfl
 refine z7 z14 Tryz.func137 rfl rfl 12 Tryz.ntmps137 (by simp) ?_
 repeat' ((first|(apply y4 ok;rfl)|(apply z23;kernel_rfl)|(refine z15 (i:=(x % (a.acc.length:Int)).toNat) rfl hga ?_)|(apply y43;omega))<;>conv=>whnf)
 all_goals (refine rsD [] [] rfl ?_;(repeat' first|exact y85 _|constructor))
set_option maxHeartbeats 1600000 in
theorem z349 (l:List Int) (n:Nat) (hl:l.length≤1000000) (hn:1≤n) (h0:∀ x∈l,0≤x) (h1:∀ x∈l,x≤1000000000):CallsA Tryz.prog 138 [ints l,.pt [.int n]] [] (.sref 0 0 l.length) [.cells 1 ((stL l n).map enI)]:=by
 refine z7 z14 Tryz.func138 rfl rfl 25 Tryz.ntmps138 (by simp) ?_
 repeat' ((first|(apply y4 ok;rfl)|(apply y43;(dsimp only;omega)))<;>conv=>whnf)
 obtain ⟨qm,hqm⟩:∃ qm:Nat→Nat→Int,qm=fun i j=>if j < i then l.getD j 0 / n else 0:=⟨_,rfl⟩
 have q0:qm 0=fun _=>0:=by rw [hqm];rfl
 have qE:fnL l.length (qm l.length)=stL l n:=by
  apply y74 (by simp [fnL,stL])
  intro i h1 h2
  have hi' : i < l.length:=by rw [z122] at h1;exact h1
  rw [z695,hqm]
  dsimp only
  rw [if_pos hi',z17 hi'];simp [stL]
 have qS:∀ i (h:i < l.length),qm (i+1)=upd (qm i) i (l[i] / n):=fun i h=>by
  funext j
  by_cases h2:j=i
  ·subst h2;rw [z29,hqm];dsimp only;rw [if_pos (by omega),z17 h]
  ·rw [z52 _ _ h2,hqm];dsimp only;split<;>split<;>first|rfl|omega
 clear hqm
 refine z64 (fun i:Nat=>([(1,.pt [.int n]),(4,.sref 0 0 l.length),(10,ints l),(11,.int l.length),(12,.int i)],[.cells 1 ((fnL l.length (qm i)).map enI)])) (fun i=>i≤l.length) (fun i=>l.length - i) 0 (y53 _) (by refine swR [0] [] rfl rfl ?_;(repeat' first|exact y85 _|refine z10 rfl (z73 rfl) ?_|constructor)<;>((refine z46 ?_;rw [q0];exact z326 _))) ?_
 intro i hi
 by_cases hi2:i < l.length
 ·have g1:=z180 (qm i) hi2
  have l1:=z122 l.length (qm i)
  have e1:=z160 (N:=l.length) (u:=i) (qm i) (l[i] / n)
  rw [← qS i hi2] at e1
  have gk:(l.map enI)[i]?=some (enI l[i]):=by rw [y51,y45 hi2];rfl
  have b0:=h0 _ (y44 hi2)
  have b1:=h1 _ (y44 hi2)
  generalize l[i]=v at *
  have d0:0≤v / (n:Int):=Int.ediv_nonneg b0 (by omega)
  have d1:v / (n:Int)≤v:=Int.ediv_le_self _ b0
  repeat' ((first|(apply y4 ok;rfl)|(refine z15 (i:=i) rfl gk ?_)|(refine z15 (i:=i) rfl g1 ?_)|(apply y43;first|omega|(unfold inI;omega))|((apply z6)<;>intro _))<;>conv=>whnf)
  all_goals try (exfalso;omega)
  all_goals refine z27 (i+1) hi2 (by omega) (by refine swR [0] [] rfl rfl ?_;(repeat' first|exact y85 _|refine z69 rfl (z5 (fun _=>rfl)) ?_|constructor)<;>((refine z46 ?_;exact e1)))
 obtain rfl:i=l.length:=by omega
 rw [qE]
 repeat' ((first|(apply y4 ok;rfl)|(apply y43;omega)|((first|(with_reducible apply z9;omega)|(apply z9;omega));intro _)|((apply z6)<;>intro _))<;>conv=>whnf)
 all_goals try (exfalso;omega)
 all_goals (refine rsD [0] [] rfl ?_;(repeat' first|exact y85 _|exact z12 _|refine z10 rfl (z5 (fun _=>rfl)) ?_|constructor))
noncomputable def ftO (g:Graph) (l:List Tree) (a:Aut):Option (List Int×List Int):=if (glB g l && autB a)=true then trcO g (g.st.map (z50 l)) a else none
noncomputable def ftL (g:Graph) (l:List Tree) (a:Aut):Trace:=let t:=(ftO g l a).getD ([],[]);⟨t.1,t.2⟩
set_option maxHeartbeats 6400000 in
theorem z437 (g:Graph) (hg:g.mx) (l:List Tree) (hl:Lmx l) (a:Aut) (ha:a.mx):CallsA Tryz.prog 53 [.agg g.cs,lst 3 Tree.cs' l,.agg a.cs] [] (.tup [.agg [.sref 0 0 (ftL g l a).stem.length,.sref 1 0 (ftL g l a).loop.length],.bool (ftO g l a).isSome]) [.cells 1 ((ftL g l a).stem.map enI),.cells 1 ((ftL g l a).loop.map enI)]:=by
 have k0:=z1039 g hg l hl a ha
 by_cases hgl:(glB g l && autB a)=true
 ·rw [hgl] at k0
  obtain ⟨h1,hab⟩:=Bool.and_eq_true_iff.1 hgl
  have hG:=(z89 g).1 (by unfold glB at h1;exact (Bool.and_eq_true_iff.1 h1).1)
  have hL:=y8 (by unfold glB at h1;exact (Bool.and_eq_true_iff.1 h1).2)
  have hA:=z143.1 hab
  have k1:=z993 g hG l hL a hA
  obtain ⟨f1,f2,f3,f4,f5⟩:=z197 hG hA (g.st.map (z50 l))
  have hnd:=hA.2.2.1.nd
  have hac:=hA.1
  have k2:=z1142 (z48 g (g.st.map (z50 l)) a) a.ini f1 f2 hnd (by omega) f4 (fun v=>a.acc.getD (v % a.acc.length).toNat false) 137 a.cs [.int a.acc.length] (fun x h0 _=>z697 a hA x h0)
  unfold ftL ftO
  rw [if_pos hgl]
  unfold lasR at k2
  unfold trcO
  rw [z324 f1 f2 hnd] at k2
  have hlen:(z48 g (g.st.map (z50 l)) a).length=g.st.length * a.acc.length:=by unfold z48;rw [z87,Nat.mul_comm]
  have hF:∀ p q,finS (z48 g (g.st.map (z50 l)) a) a.ini a.acc=some (p,q)→(∀ x∈p,0≤x∧x≤100000)∧(∀ x∈q,0≤x∧x≤100000)∧p.length≤100000∧q.length≤100000:=by
   intro p q h
   rw [← z324 f1 f2 hnd] at h
   obtain ⟨b1,b2,b3,b4,_⟩:=z873 f1 f2 hnd h
   exact ⟨fun x hx=>by have:=b1 x hx;omega,fun x hx=>by have:=b2 x hx;omega,by omega,by omega⟩
  generalize z48 g (g.st.map (z50 l)) a=rows at *
  cases hfin:finS rows a.ini a.acc with
  |none =>
   rw [hfin] at k2
   change CallsA _ _ _ _ (.tup [.sref 0 0 0,.sref 1 0 0,.bool false]) [.cells 1 [],.cells 1 []] at k2
   show CallsA _ _ _ _ (.tup [.agg [.sref 0 0 0,.sref 1 0 0],.bool false]) [.cells 1 [],.cells 1 []]
   refine z7 z14 Tryz.func53 rfl rfl 50 Tryz.ntmps53 (by simp) ?_
   repeat' ((first|(apply y4 ok;rfl)|(apply z4 (k0);rfl;rfl)|(apply z4 (k1);rfl;rfl)|(apply z80 [] [1,3] [4,5] k2;(focus ((repeat' first|exact z60|apply z39)<;>rfl));rfl;rfl;(focus ((repeat' first|exact z13|apply z11)<;>(refine z19 ?_;(exact z30))));((refine .inr ⟨rfl,?_⟩;repeat' first|exact True.intro|apply y43|exact rfl))))<;>conv=>whnf)
   all_goals (refine y88 1 ?_;refine y88 1 ?_;refine rsD [6,7] [] rfl ?_;(repeat' first|exact y85 _|exact z49|refine z10 rfl (z30) ?_|apply z38|apply z71|constructor))
  |some pq =>
   obtain ⟨p,q⟩:=pq
   rw [hfin] at k2
   obtain ⟨b1,b2,b3,b4⟩:=hF p q hfin
   change CallsA _ _ _ _ (.tup [.sref 0 0 (p.take (p.length - 1)).length,.sref 1 0 q.length,.bool true]) [.cells 1 ((p.take (p.length - 1)).map enI),.cells 1 (q.map enI)] at k2
   have s1:=z349 (p.take (p.length - 1)) a.acc.length (by rw [y48];omega) (by omega) (fun x hx=>(b1 x (List.mem_of_mem_take hx)).1) (fun x hx=>by have:=(b1 x (List.mem_of_mem_take hx)).2;omega)
   have s2:=z349 q a.acc.length (by omega) (by omega) (fun x hx=>(b2 x hx).1) (fun x hx=>by have:=(b2 x hx).2;omega)
   have e1:(stL (p.take (p.length - 1)) a.acc.length).length=(p.take (p.length - 1)).length:=by simp [stL]
   have e2:(stL q a.acc.length).length=q.length:=by simp [stL]
   show CallsA _ _ _ _ (.tup [.agg [.sref 0 0 (stL (p.take (p.length - 1)) a.acc.length).length,.sref 1 0 (stL q a.acc.length).length],.bool true]) [.cells 1 ((stL (p.take (p.length - 1)) a.acc.length).map enI),.cells 1 ((stL q a.acc.length).map enI)]
   rw [e1,e2]
   generalize stL (p.take (p.length - 1)) a.acc.length=S1 at *
   generalize stL q a.acc.length=S2 at *
   generalize p.take (p.length - 1)=p' at *
   refine z7 z14 Tryz.func53 rfl rfl 50 Tryz.ntmps53 (by simp) ?_
   repeat' ((first|(apply y4 ok;rfl)|(apply z4 (k0);rfl;rfl)|(apply z4 (k1);rfl;rfl)|((first|(apply z80 [] [1,3] [4,5] k2;(focus ((repeat' first|exact z60|apply z39)<;>rfl));rfl)|(apply z80 [] [3,4] [6] s1;(focus ((repeat' first|exact z60|apply z39)<;>first|exact z105 rfl rfl rfl|rfl));rfl)|(apply z80 [] [3,5] [7] s2;(focus ((repeat' first|exact z60|apply z39)<;>first|exact z105 rfl rfl rfl|rfl));rfl));rfl;(focus ((repeat' first|exact z13|apply z11)<;>(refine z19 ?_;((exact z5 fun _=>rfl)))));((refine .inr ⟨rfl,?_⟩;repeat' first|exact True.intro|apply y43|exact z146 (fun _=>rfl) _))))<;>conv=>whnf)
   all_goals (refine rsD [6,7] [] rfl ?_;(repeat' first|exact y85 _|exact z12 _|refine z10 rfl (z5 (fun _=>rfl)) ?_|constructor))
 ·have hgl:=(y71 _).mp hgl
  rw [hgl] at k0
  have e1:ftO g l a=none:=by unfold ftO;rw [hgl];rfl
  unfold ftL
  rw [e1]
  show CallsA _ _ _ _ (.tup [.agg [.sref 0 0 0,.sref 1 0 0],.bool false]) [.cells 1 [],.cells 1 []]
  refine z7 z14 Tryz.func53 rfl rfl 50 Tryz.ntmps53 (by simp) ?_
  repeat' ((first|(apply y4 ok;rfl)|(apply z4 (k0);rfl;rfl))<;>conv=>whnf)
  all_goals (refine y88 1 ?_;refine y88 1 ?_;refine rsD [3,4] [] rfl ?_;(repeat' first|exact y85 _|exact z49|refine z10 rfl (z30) ?_|apply z38|apply z71|constructor))
theorem ftL_le {g:Graph} {l:List Tree} {a:Aut} : (ftL g l a).stem.length≤3841∧(ftL g l a).loop.length≤3841:=by
 unfold ftL ftO
 by_cases h:(glB g l && autB a)=true
 ·rw [if_pos h]
  obtain ⟨h1,hab⟩:=Bool.and_eq_true_iff.1 h
  have hG:=(z89 g).1 (by unfold glB at h1;exact (Bool.and_eq_true_iff.1 h1).1)
  have hA:=z143.1 hab
  obtain ⟨f1,f2,f3,f4,f5⟩:=z197 hG hA (g.st.map (z50 l))
  have hnd:=hA.2.2.1.nd
  unfold trcO
  cases hf:finS (z48 g (g.st.map (z50 l)) a) a.ini a.acc with
  |none=>simp
  |some pq =>
   obtain ⟨p,q⟩:=pq
   rw [← z324 f1 f2 hnd] at hf
   obtain ⟨b1,b2,b3,b4,_⟩:=z873 f1 f2 hnd hf
   simp only [Option.map_some,Option.getD_some,stL,y49,y48]
   omega
 ·rw [if_neg h];simp
theorem z1162 {B:List Tree} {U:List Int} {n0:Nat} : ∀ (f i:Nat) (x y:TrS),f+i=65→ExI B U n0 i x→goS B U f i x=some y→∃ j,ExI B U n0 j y∧j≤64∧y.L.length≤j
 |0,i,x,y,_,_,h=>by simp [goS] at h
 |f+1,i,x,y,he,hI,h=>by
  rw [goS] at h
  split at h
  ·rename_i hi
   split at h
   ·cases h
   ·exact z1162 f (i+1) _ y (by omega) (hI.step hi).1 h
  ·cases h
   exact ⟨i,hI,by omega,by omega⟩
theorem z1081 (t:Tree) (hs:t.sz≤200) (h:tsB t=true):autB (trA t)=true:=by
 unfold tsB at h
 unfold trA
 unfold trO at *
 by_cases hb:bscB t=true
 ·rw [if_pos hb] at *
  obtain ⟨⟨ht,hn⟩,h5⟩:=of_decide_eq_true (show decide _=true from hb)
  obtain ⟨hB,_,_⟩:=z568 ht hn h5 hs
  generalize t.nrm false=g at *
  generalize bscL g=B at *
  cases hS:trS B g with
  |none=>rw [hS] at h;cases h
  |some y =>
   have hI0:ExI B (untB B) (iniS B g).length 0 ⟨iniS B g,[],[]⟩:=⟨z785 B g,y52 _,rfl,y53 _,y53 _,by show (iniS B g).length≤(iniS B g).length+0 * _;omega,fun e he=>by cases he⟩
   obtain ⟨j,hI,hj,hl⟩:=z1162 65 0 _ y rfl hI0 hS
   show autB (z336 (iniS B g).length y)=true
   unfold z336
   by_cases h0:y.L.length=0
   ·rw [if_pos h0]
    have h1:=hI.base
    have e1:(iniS B g).length=0:=by omega
    have h2:=hI.edl
    have h3:=hI.le
    have hj0:j=0:=by omega
    rw [hj0,Nat.zero_mul] at h2
    have e2:y.ed=[]:=y73 (by omega)
    rw [e1,e2,z143]
    exact ⟨⟨by decide,by decide⟩,by decide,fun i hi _=>by simp [numI] at hi,fun e he=>by cases he⟩
   ·rw [if_neg h0]
    by_cases h1:1≤(iniS B g).length
    ·exact ExI.valid hB hI h1 hj hl
    ·exfalso
     have e1:iniS B g=[]:=y73 (by omega)
     have:trS B g=some ⟨[],[],[]⟩:=by unfold trS;rw [e1];rfl
     rw [this] at hS
     cases hS
     exact h0 rfl
 ·rw [if_neg hb] at h;cases h
theorem z392 {t:Tree} (h:ngS t=true):autB (ngA t)=true:=by
 unfold ngS at h
 rw [y70] at h
 unfold ngA
 rw [if_pos h.1]
 exact z1081 _ (by have:=z356 h.1;omega) h.2
noncomputable def vdI (g:Graph) (l:List Tree) (f:Tree):Int:=if (glB g l && f.fmB)=true then (if ngS f=true then (if (ftO g l (ngA f)).isSome=true then 1 else 0) else 2) else 3
noncomputable def vdT (g:Graph) (l:List Tree) (f:Tree):Trace:=if (glB g l && f.fmB)=true then (if ngS f=true then ftL g l (ngA f) else ⟨[],[]⟩) else ⟨[],[]⟩
theorem z922 {g:Graph} {l:List Tree} {f:Tree} : (vdT g l f).stem.length≤3841∧(vdT g l f).loop.length≤3841:=by
 unfold vdT
 split
 ·split
  ·exact ftL_le
  ·simp
 ·simp
theorem z694 {g:Graph} {l:List Tree} {a:Aut} (h:(ftO g l a).isSome=false):ftL g l a=⟨[],[]⟩:=by
 unfold ftL
 cases hf:ftO g l a with
 |none=>rfl
 |some x=>rw [hf] at h;cases h
set_option maxHeartbeats 3200000 in
theorem z589 (g:Graph) (hg:g.mx) (l:List Tree) (hl:Lmx l) (f:Tree) (hf:f.mx):CallsA Tryz.prog 11 [.agg g.cs,lst 3 Tree.cs' l,z20 Tree.cs' f] [] (.tup [.int (vdI g l f),.agg [.sref 0 0 (vdT g l f).stem.length,.sref 1 0 (vdT g l f).loop.length]]) [.cells 1 ((vdT g l f).stem.map enI),.cells 1 ((vdT g l f).loop.map enI)]:=by
 have c1:=z402 g hg
 have c2:=z235 l hl.1 hl.2
 have c3:=z121 f hf
 have cN:=z587 f hf
 have cF:=z437 g hg l hl (ngA f) (ngA_mx f)
 have hno:=@z694 g l (ngA f)
 unfold vdI vdT
 unfold glB
 generalize ftL g l (ngA f)=tl at *
 generalize (ftO g l (ngA f)).isSome=tb at *
 generalize ngA f=a at *
 generalize ngS f=z at *
 rw [y16 f] at *
 generalize z300 g=b1 at *
 generalize z111 l=b2 at *
 generalize f.fmB=b3 at *
 cases b1
 ·refine z7 z14 Tryz.func11 rfl rfl 44 Tryz.ntmps11 (by simp) ?_
  repeat' ((first|(apply y4 ok;rfl)|(apply z4 (c1);rfl;rfl))<;>conv=>whnf)
  all_goals (refine y88 1 ?_;refine y88 1 ?_;refine rsD [3,4] [] rfl ?_;(repeat' first|exact y85 _|exact z49|refine z10 rfl (z30) ?_|apply z38|apply z71|constructor))
 cases b2
 ·refine z7 z14 Tryz.func11 rfl rfl 44 Tryz.ntmps11 (by simp) ?_
  repeat' ((first|(apply y4 ok;rfl)|(apply z4 (c1);rfl;rfl)|(apply z4 (c2);rfl;rfl))<;>conv=>whnf)
  all_goals (refine y88 1 ?_;refine y88 1 ?_;refine rsD [3,4] [] rfl ?_;(repeat' first|exact y85 _|exact z49|refine z10 rfl (z30) ?_|apply z38|apply z71|constructor))
 cases b3
 ·refine z7 z14 Tryz.func11 rfl rfl 44 Tryz.ntmps11 (by simp) ?_
  repeat' ((first|(apply y4 ok;rfl)|(apply z4 (c1);rfl;rfl)|(apply z4 (c2);rfl;rfl)|(apply z4 (c3);rfl;rfl))<;>conv=>whnf)
  all_goals (refine y88 1 ?_;refine y88 1 ?_;refine rsD [3,4] [] rfl ?_;(repeat' first|exact y85 _|exact z49|refine z10 rfl (z30) ?_|apply z38|apply z71|constructor))
 cases z
 ·refine z7 z14 Tryz.func11 rfl rfl 44 Tryz.ntmps11 (by simp) ?_
  repeat' ((first|(apply y4 ok;rfl)|(apply z4 (c1);rfl;rfl)|(apply z4 (c2);rfl;rfl)|(apply z4 (c3);rfl;rfl)|(apply z4 (cN);rfl;rfl))<;>conv=>whnf)
  all_goals (refine y88 1 ?_;refine y88 1 ?_;refine rsD [4,5] [] rfl ?_;(repeat' first|exact y85 _|exact z49|refine z10 rfl (z30) ?_|apply z38|apply z71|constructor))
 cases tb
 ·have hno:=hno rfl
  subst hno
  refine z7 z14 Tryz.func11 rfl rfl 44 Tryz.ntmps11 (by simp) ?_
  repeat' ((first|(apply y4 ok;rfl)|(apply z4 (c1);rfl;rfl)|(apply z4 (c2);rfl;rfl)|(apply z4 (c3);rfl;rfl)|(apply z4 (cN);rfl;rfl)|(apply z8 [] [4,5] cF;rfl;rfl;rfl;(focus ((repeat' first|exact z13|apply z11)<;>(refine z19 ?_;((exact z5 fun _=>rfl)))))))<;>conv=>whnf)
  all_goals (refine rsD [4,5] [] rfl ?_;(repeat' first|exact y85 _|exact z49|refine z10 rfl (z30) ?_|apply z38|apply z71|constructor))
 ·refine z7 z14 Tryz.func11 rfl rfl 44 Tryz.ntmps11 (by simp) ?_
  repeat' ((first|(apply y4 ok;rfl)|(apply z23;kernel_rfl)|(apply z4 (c1);rfl;rfl)|(apply z4 (c2);rfl;rfl)|(apply z4 (c3);rfl;rfl)|(apply z4 (cN);rfl;rfl)|(apply z8 [] [4,5] cF;rfl;rfl;rfl;(focus ((repeat' first|exact z13|apply z11)<;>(refine z19 ?_;((exact z5 fun _=>rfl)))))))<;>conv=>whnf)
  all_goals (refine rsD [4,5] [] rfl ?_;(repeat' first|exact y85 _|exact z12 _|refine z10 rfl (z5 (fun _=>rfl)) ?_|constructor))
set_option maxHeartbeats 3200000 in
theorem z658 (g:Graph) (hg:g.mx) (l:List Tree) (hl:Lmx l) (f:Tree) (hf:f.mx):CallsA Tryz.prog 49 [.agg g.cs,lst 3 Tree.cs' l,z20 Tree.cs' f] [] (.tup [.int (vdI g l f),.agg (vdT g l f).cs]) []:=by
 have k0:=z423 g hg l hl
 have c3:=z106 f hf
 have cN:=z580 f hf
 have hval:=@z392 f
 unfold vdI vdT
 by_cases h1:glB g l=true
 ·have hG:=(z89 g).1 (by unfold glB at h1;exact (Bool.and_eq_true_iff.1 h1).1)
  have hL:=y8 (by unfold glB at h1;exact (Bool.and_eq_true_iff.1 h1).2)
  rw [if_pos h1] at k0
  have e1:autB (ngA f)=true→ftO g l (ngA f)=trcO g (g.st.map (z50 l)) (ngA f):=fun h=>by unfold ftO;rw [h1,h];rfl
  have e2:autB (ngA f)=true→ftL g l (ngA f)=⟨(trcL g (g.st.map (z50 l)) (ngA f)).1,(trcL g (g.st.map (z50 l)) (ngA f)).2⟩:=fun h=>by unfold ftL trcL;rw [e1 h]
  have k3:=fun hA=>z1145 g hG (g.st.map (z50 l)) (by simp) (fun x hx=>by
   obtain ⟨s,_,rfl⟩:=List.mem_map.1 hx
   exact z295 hL s) (ngA f) hA
  have hno:=@z694 g l (ngA f)
  rw [h1,Bool.true_and]
  rw [h1] at k0
  by_cases h3:f.fmB=true
  ·rw [if_pos h3,if_pos h3]
   rw [h3] at c3
   by_cases hz:ngS f=true
   ·have hv:=hval hz
    have k3:=k3 (z143.1 hv)
    rw [e2 hv] at hno
    rw [if_pos hz,if_pos hz,e1 hv,e2 hv]
    rw [e1 hv] at hno
    rw [hz] at cN
    clear e1 e2 hval
    generalize g.st.map (z50 l)=ls at *
    generalize (trcO g ls (ngA f)).isSome=tb at *
    generalize trcL g ls (ngA f)=tl at *
    generalize ngA f=a at *
    rw [y16 f] at *
    cases tb
    ·have hno:=hno rfl
     have hn1:tl.1=[]:=congrArg Trace.stem hno
     have hn2:tl.2=[]:=congrArg Trace.loop hno
     rw [hn1,hn2]
     show CallsA _ _ _ _ (.tup [.int 0,.agg [.list 1 0 [],.list 1 0 []]]) _
     refine z7 z14 Tryz.func49 rfl rfl 47 Tryz.ntmps49 (by simp) ?_
     repeat' ((first|(apply y4 ok;rfl)|(apply z4 (k0);rfl;rfl)|(apply z4 (c3);rfl;rfl)|(apply z4 (cN);rfl;rfl)|(apply z4 (k3);rfl;rfl))<;>conv=>whnf)
     all_goals (refine rsD [] [] rfl ?_;(repeat' first|exact y85 _|exact z26|apply z38|apply z71|constructor))
    ·refine z7 z14 Tryz.func49 rfl rfl 47 Tryz.ntmps49 (by simp) ?_
     repeat' ((first|(apply y4 ok;rfl)|(apply z23;kernel_rfl)|(apply z4 (k0);rfl;rfl)|(apply z4 (c3);rfl;rfl)|(apply z4 (cN);rfl;rfl)|(apply z4 (k3);rfl;rfl))<;>conv=>whnf)
     all_goals (refine rsD [] [] rfl ?_;(repeat' first|exact y85 _|constructor))
   ·rw [if_neg hz,if_neg hz]
    rw [(y71 _).mp hz] at cN
    clear e1 e2 hval k3 hno
    show CallsA _ _ _ _ (.tup [.int 2,.agg [.list 1 0 [],.list 1 0 []]]) _
    generalize g.st.map (z50 l)=ls at *
    generalize ngA f=a at *
    rw [y16 f] at *
    refine z7 z14 Tryz.func49 rfl rfl 47 Tryz.ntmps49 (by simp) ?_
    repeat' ((first|(apply y4 ok;rfl)|(apply z4 (k0);rfl;rfl)|(apply z4 (c3);rfl;rfl)|(apply z4 (cN);rfl;rfl))<;>conv=>whnf)
    all_goals (refine rsD [] [] rfl ?_;(repeat' first|exact y85 _|exact z26|apply z38|apply z71|constructor))
  ·rw [if_neg h3,if_neg h3]
   rw [(y71 _).mp h3] at c3
   clear e1 e2 hval k3 hno cN
   show CallsA _ _ _ _ (.tup [.int 3,.agg [.list 1 0 [],.list 1 0 []]]) _
   generalize g.st.map (z50 l)=ls at *
   rw [y16 f] at *
   refine z7 z14 Tryz.func49 rfl rfl 47 Tryz.ntmps49 (by simp) ?_
   repeat' ((first|(apply y4 ok;rfl)|(apply z4 (k0);rfl;rfl)|(apply z4 (c3);rfl;rfl))<;>conv=>whnf)
   all_goals (refine rsD [] [] rfl ?_;(repeat' first|exact y85 _|exact z26|apply z38|apply z71|constructor))
 ·rw [(y71 _).mp h1,Bool.false_and,if_neg (by simp),if_neg (by simp)]
  rw [if_neg h1,(y71 _).mp h1] at k0
  show CallsA _ _ _ _ (.tup [.int 3,.agg [.list 1 0 [],.list 1 0 []]]) _
  rw [y16 f] at *
  refine z7 z14 Tryz.func49 rfl rfl 47 Tryz.ntmps49 (by simp) ?_
  repeat' ((first|(apply y4 ok;rfl)|(apply z4 (k0);rfl;rfl))<;>conv=>whnf)
  all_goals (refine rsD [] [] rfl ?_;(repeat' first|exact y85 _|exact z26|apply z38|apply z71|constructor))
def stsL (g:Graph) (p:List Int):List State:=p.map fun i=>g.st.getD i.toNat ⟨[],[]⟩
theorem z218 (g:Graph) (p:List Int):(stsL g p).length=p.length:=by simp [stsL]
theorem zrep_le {n:Nat} : F2 (F2 LocLe) (List.replicate n [AC.nils,AC.nils]) (List.replicate n (⟨[],[]⟩:State).cs):=by
 induction n with
 |zero=>exact .nil
 |succ n ih=>exact .cons (.cons z26 (.cons z26 .nil)) ih
set_option maxHeartbeats 3200000 in
theorem z210 (g:Graph) (hg:∀ s∈g.st,s.sm) (hn:g.st.length≤1000) (p:List Int) (hp:∀ x∈p,0≤x∧x < g.st.length) (hl:p.length≤100000):CallsA Tryz.prog 44 [.agg g.cs,ints p] [] (lst 2 State.cs (stsL g p)) []:=by
 have hL:=z218 g p
 refine z7 z14 Tryz.func44 rfl rfl 29 Tryz.ntmps44 (by simp) ?_
 repeat' ((first|(apply y4 ok;rfl)|(apply y43;(dsimp only;omega)))<;>conv=>whnf)
 refine z64 (fun i:Nat=>([(2,.ptr 0 none 0),(5,.sref 1 0 p.length),(11,ints p),(12,.int p.length),(13,.int i)],[.cells 2 [g.cs],.cells 2 (((stsL g p).take i).map State.cs++List.replicate ((stsL g p).length - i) (⟨[],[]⟩:State).cs)])) (fun i=>i≤p.length) (fun i=>p.length - i) 0 (y53 _) (by refine swR [0,1] [] rfl rfl ?_;(repeat' first|exact y85 _|apply y86|refine z10 rfl (z73 rfl) ?_|constructor)<;>((rw [hL];exact zrep_le))) ?_
 intro i hi
 by_cases hil:i < p.length
 ·have hx:=hp _ (y44 hil)
  have gk:(p.map enI)[i]?=some (enI p[i]):=by rw [y51,y45 hil];rfl
  obtain ⟨u,hu⟩:∃ u:Nat,p[i]=u:=⟨p[i].toNat,by omega⟩
  have hul:u < g.st.length:=by omega
  have gs:(g.st.map State.cs)[u]?=some (State.cs g.st[u]):=by rw [y51,y45 hul];rfl
  have hiL:i < (stsL g p).length:=by omega
  have eL:(stsL g p)[i]=g.st[u]:=by
   simp only [stsL,List.getElem_map]
   rw [hu,y76,z17 hul]
  have cc:=z804 g.st[u] (hg _ (y44 hul))
  have ef:=z954 State.cs (stsL g p) (⟨[],[]⟩:State).cs i hiL
  have gf:=z955 State.cs (stsL g p) (⟨[],[]⟩:State).cs i hiL
  have lf:(((stsL g p).take i).map State.cs++List.replicate ((stsL g p).length - i) (⟨[],[]⟩:State).cs).length=p.length:=by simp;omega
  have hFf:Flat (((stsL g p).take i).map State.cs++List.replicate ((stsL g p).length - i) (⟨[],[]⟩:State).cs):=z96 (z5 fun _=>rfl) (z73 rfl)
  rw [eL] at ef
  rw [hu] at gk
  generalize g.st[u]=t at *
  generalize hF:((stsL g p).take i).map State.cs++List.replicate ((stsL g p).length - i) (⟨[],[]⟩:State).cs=F at *
  unfold z20 at cc
  repeat' ((first|(apply y4 ok;rfl)|(refine z15 (i:=i) rfl gk ?_)|(refine z15 (i:=u) rfl gs ?_)|(refine z15 (i:=i) rfl gf ?_)|(apply y43;first|omega|(unfold inI;omega))|((apply z6)<;>intro _)|(apply z4 (cc);rfl;rfl))<;>conv=>whnf)
  all_goals try (exfalso;omega)
  all_goals refine z27 (i+1) hil (by omega) (by refine swR [0,1] [] rfl rfl ?_;(repeat' first|exact y85 _|apply y86|((refine z69 rfl ?_ ?_);(focus ((repeat' (assumption));done)))|constructor)<;>((refine z46 ?_;exact ef)))
 ·obtain rfl:i=p.length:=by omega
  have e:((stsL g p).take p.length).map State.cs++List.replicate ((stsL g p).length - p.length) (⟨[],[]⟩:State).cs=(stsL g p).map State.cs:=by
   rw [hL,Nat.sub_self,← hL,y55];simp
  rw [e,← hL]
  repeat' ((first|(apply y4 ok;rfl)|(apply y43;omega)|((first|(with_reducible apply z9;omega)|(with_reducible apply z90;omega));intro _)|((apply z6)<;>intro _))<;>conv=>whnf)
  all_goals try (exfalso;omega)
  all_goals (refine rsD [] [1] rfl ?_;(repeat' first|exact y85 _|((apply z36 rfl rfl rfl);(focus ((repeat ((exact z24 (fun _=>rfl) _)));done));(focus (((simp;done));done)))|constructor))
theorem z438 (s:Sys) (hs:s.s1):CallsA Tryz.prog 10 [.agg s.cs] [] (.tup [.agg ((z91 s).getD ⟨[],[]⟩).cs,.bool (z91 s).isSome]) []:=by
 have c:=z209 s hs
 cases h:sysB s with
 |true =>
  rw [h] at c
  have c2:=z298 s h
  generalize (z91 s).getD ⟨[],[]⟩=g at *
  generalize (z91 s).isSome=b at *
  refine z7 z14 Tryz.func10 rfl rfl 12 Tryz.ntmps10 (by simp) ?_
  repeat' ((first|(apply y4 ok;rfl)|(apply z4 (c);rfl;rfl)|(apply z4 (c2);rfl;rfl))<;>conv=>whnf)
  all_goals (refine rsD [] [] rfl ?_;(repeat' first|exact y85 _|constructor))
 |false =>
  rw [h] at c
  have e:z91 s=none:=by unfold z91;rw [h];rfl
  rw [e]
  refine z7 z14 Tryz.func10 rfl rfl 12 Tryz.ntmps10 (by simp) ?_
  repeat' ((first|(apply y4 ok;rfl)|(apply z4 (c);rfl;rfl))<;>conv=>whnf)
  all_goals refine y13 [] [] rfl rfl rfl ?_
  all_goals exact y12 z316 .nil
end Go.Proofs.YtnfoijopccdjeaaGreat
namespace Go.Proofs.YtnfoijopccdjeaaGreat
open Go.Gl
attribute [local irreducible] z18 AWP z33 z37 z34
def pick (bl:List Int) (p:Int):Int:=bl.getD p.toNat 0
def letW (l:List Int):Bool:=!(l.any fun n=>!btw n 0 7)
def lasB (t:Trace):Bool:=letW t.stem && (letW t.loop && (decide (t.stem.length≤80) && btw t.loop.length 1 80))
def z829 (L:List Int) (t:Trace):Trace:=⟨t.stem.map (pick L),t.loop.map (pick L)⟩
noncomputable def twB (g:Graph) (l:List Tree) (t:Trace):Bool:=glB g l && (trB g t && lasB (z829 (g.st.map (z50 l)) t))
noncomputable def twT (g:Graph) (l:List Tree) (t:Trace):Trace:=if twB g l t then z829 (g.st.map (z50 l)) t else ⟨[],[]⟩
end Go.Proofs.YtnfoijopccdjeaaGreat
namespace Go.Proofs.YtnfoijopccdjeaaGreat
open Go.Gl
attribute [local irreducible] z18 AWP z33 z37 z34 RetS z40
def nxW (N s:Nat) (i:Nat):Int:=if i+1=N then (s:Int) else ((i+1:Nat):Int)
def pushW (a:Aut) (word:List Int) (s i:Nat):List (Nat×Int):=a.ed.flatMap (z289 a.acc.length i (word.getD i 0) (nxW word.length s i))
def accW (a:Aut) (word:List Int) (s:Nat):List (List Int):=build (word.length * a.acc.length) ((List.range word.length).flatMap (pushW a word s))
theorem nxW_in {N s i:Nat} (hs:s < N) (hi:i < N):0≤nxW N s i∧nxW N s i≤N - 1:=by unfold nxW;split<;>omega
def BackR {α:Type} (M:Nat) (Gc:Ghost) (wc:World) (rest:α→List AObj) (L:List Int) (env:List (Nat×AC)) (x:α) (a:Act) (w:World):Prop :=
 ∃ G,SubM M Gc G∧Le wc w∧Rel G (mkSt 19 env (.cells 1 [[ints L]]::rest x)) a w
def IsSt {α:Type} (rest:α→List AObj) (L:List Int) (x:α) (env' : List (Nat×AC)) (st:St):Prop:=st=mkSt 19 env' (.cells 1 [[ints L]]::rest x)
theorem BackR.step {α : Type} {M : Nat} {Gc : Ghost} {wc : World} {rest : α → List AObj} {L : List Int} {env env' : List (Nat × AC)} {x : α} {a : Act} {w : World} {c : Code}
    (h:BackR M Gc wc rest L env x a w) (hc:AWP Tryz.prog M c (z649 (IsSt rest L x env') (fun _ _=>False)) (mkSt 19 env (.cells 1 [[ints L]]::rest x))) {K:Act→World→Prop} {Q:Exit→Act→World→Prop}
    (hk:∀ a w,BackR M Gc wc rest L env' x a w→K a w):c.wpIn Fence.wide 0 Tryz.prog (Exit.then K Q) a w:=by
  obtain ⟨G,h1,h2,h3⟩:=h
  refine wpIn_mono (hc.at_ h3) ?_
  rintro ex a' w' ⟨G',st',k1,k2,k3,k4⟩
  cases ex with
  | normal =>
    have k3:st'=_:=k3
    subst k3
    exact hk _ _ ⟨G',h1.trans k1,h2.trans k2,k4⟩
  | _=>exact k3.elim
theorem BackR.less {α:Type} {M:Nat} {Gc:Ghost} {wc:World} {rest:α→List AObj} {L:List Int} {env env' : List (Nat×AC)} {x:α} {a:Act} {w:World} (h:BackR M Gc wc rest L env x a w) (he:z794 (fun s y=>z92 env s=y) env'):BackR M Gc wc rest L env' x a w:=by
 obtain ⟨G,h1,h2,h3⟩:=h
 refine ⟨G,h1,h2,h3.wf,fun s=>?_,h3.size,h3.defers⟩
 rcases z364 env' _ he s with e|e
 ·show V _ _ _ (z92 env' s) _
  rw [e];simp [V]
 ·have:=h3.env s
  show V _ _ _ (z92 env' s) _
  rw [← e];exact this
theorem BackR.val {α:Type} {M:Nat} {Gc:Ghost} {wc:World} {rest:α→List AObj} {L:List Int} {env:List (Nat×AC)} {x:α} {a:Act} {w:World} (h:BackR M Gc wc rest L env x a w) {s:Nat} {v:Value} (he:z92 env s=.raw v):a.tmps.getD s undef=v:=by
 obtain ⟨G,_,_,hR⟩:=h
 have:=hR.env s
 rw [show (mkSt 19 env (.cells 1 [[ints L]]::rest x)).env s=z92 env s from rfl,he] at this
 simpa only [V] using this
def NoAcc (rows:List (List Int)) (ini:List Int) (acc:List Bool):Prop:=∀ x,RP rows ini x→Cyc rows x→acc.getD (x % acc.length).toNat false=false
section
variable {rows:List (List Int)} {ini:List Int} {acc:List Bool} {R:List Int}
end
end Go.Proofs.YtnfoijopccdjeaaGreat
namespace Go.Proofs.YtnfoijopccdjeaaGreat
open Go.Gl
attribute [local irreducible] z18 AWP z33 z37 z34 RetS z40
attribute [local irreducible] EndR
theorem z1079 {g:Graph} {ls:List Int} {a:Aut} (hr:∀ r∈z48 g ls a,InN (z48 g ls a).length r) (hi:InN (z48 g ls a).length a.ini) (hn:a.ini.Nodup) (h:trcO g ls a=none):NoAcc (z48 g ls a) a.ini a.acc:=by
 unfold trcO at h
 rw [Option.map_eq_none_iff,← z324 hr hi hn,z766] at h
 intro x hx hc
 have hxN:=RP.in hr hi hx
 have:=h x ((z909 hr hi x).2 hx)
 cases hb:a.acc.getD (x % a.acc.length).toNat false with
 |false=>rfl
 |true =>
  exfalso
  apply this
  refine ⟨hb,z329.2 ?_⟩
  rw [Int.toNat_of_nonneg hxN.1];exact hc
end Go.Proofs.YtnfoijopccdjeaaGreat
namespace Go.Proofs.YtnfoijopccdjeaaGreat
open Go.Gl
attribute [local irreducible] z18 AWP z33 z37 z34
end Go.Proofs.YtnfoijopccdjeaaGreat
namespace Go.Proofs.YtnfoijopccdjeaaGreat
open Go.Gl
attribute [local irreducible] z18 AWP z33 z37 z34 RetS z40
theorem z1126 {g:Graph} {ls:List Int} {a:Aut} (hr:∀ r∈z48 g ls a,InN (z48 g ls a).length r) (hi:InN (z48 g ls a).length a.ini) (hn:a.ini.Nodup) (h:NoAcc (z48 g ls a) a.ini a.acc):trcO g ls a=none:=by
 unfold trcO
 rw [Option.map_eq_none_iff,← z324 hr hi hn,z766]
 rintro v hv ⟨h1,h2⟩
 have hvN:=z632 hr hi _ v hv
 have hc:=z329.1 h2
 rw [Int.toNat_of_nonneg hvN.1] at hc
 have:=h v ((z909 hr hi v).1 hv) hc
 rw [h1] at this;cases this
theorem z565 {N:Nat} {ps:List (Nat×Int)} {r:Nat} {y:Int} : y∈(build N ps).getD r []↔r < N∧(r,y)∈ps:=by
 by_cases h:r < N
 ·rw [z17 (by rw [z87];exact h),z416 (by rw [z87];exact h)]
  simp only [y59,List.mem_filter,beq_iff_eq,h,true_and]
  constructor
  ·rintro ⟨⟨p,v⟩,⟨h1,h2⟩,h3⟩
   dsimp only at h2 h3
   subst h2;subst h3;exact h1
  ·intro h1;exact ⟨(r,y),⟨h1,rfl⟩,rfl⟩
 ·have e:(build N ps).getD r []=[]:=by rw [y67,y68 (by rw [z87];omega)];rfl
  rw [e];simp [h]
theorem z1115 {g:Graph} {ls:List Int} {a:Aut} {i:Nat} {to:Int} {e:Trans} (hsrc:e.src.toNat < a.acc.length) (hi:i < g.st.length) (hto:to∈g.nx.getD i []) (he:e∈a.ed) (hon:onB e (ls.getD i 0)=true):to * a.acc.length+e.dst∈(z48 g ls a).getD (i * a.acc.length+e.src.toNat) []:=by
 unfold z48
 refine z565.2 ⟨?_,List.mem_flatMap.2 ⟨i,List.mem_range.2 hi,?_⟩⟩
 ·have h1:(i+1) * a.acc.length≤g.st.length * a.acc.length:=Nat.mul_le_mul_right _ hi
  rw [Nat.add_mul,Nat.one_mul,Nat.mul_comm g.st.length] at h1
  omega
 ·unfold z431
  refine List.mem_flatMap.2 ⟨to,hto,List.mem_flatMap.2 ⟨e,he,?_⟩⟩
  unfold z289
  rw [if_pos hon];simp
section
variable {g:Graph} {ls:List Int} {a:Aut} {t:Trace}
theorem word_all:(z829 ls t).all=t.all.map (pick ls):=by unfold Trace.all z829;simp
theorem z647 (ht:trB g t=true) {i:Nat} (hi:i < t.all.length):(0≤t.all.getD i 0∧t.all.getD i 0 < g.st.length)∧t.all.getD (nxW t.all.length t.stem.length i).toNat 0∈g.nx.getD (t.all.getD i 0).toNat []:=by
 have h0:=ht
 unfold trB at ht
 simp only [y70,decide_eq_true_eq] at ht
 obtain ⟨⟨a1,a2⟩,a3,a4,a5⟩:=ht
 have hal:t.all.length=t.stem.length+t.loop.length:=by unfold Trace.all;simp
 have hin:=z753 a3 i hi
 have hst:∀ i,i < t.all.length→z734 g t.all i=true:=fun i hi=>by
  unfold z997 at a3
  rw [y70,y70,y78] at a3
  exact a3.2.2 i (List.mem_range.2 hi)
 refine ⟨by rw [z17 hi];exact hin,?_⟩
 unfold nxW
 split
 ·rename_i h
  have e1:t.all.getD t.stem.length 0=t.loop.getD 0 0:=by
   unfold Trace.all
   rw [y67,y67,y66 (y52 _),Nat.sub_self]
  have e2:t.all.getD i 0=t.loop.getD (t.loop.length - 1) 0:=by
   unfold Trace.all
   rw [y67,y67,y66 (by omega),show i - t.stem.length=t.loop.length - 1 by omega]
  rw [y76,e1,e2];exact a5
 ·have h2:=hst (i+1) (by omega)
  unfold z734 at h2
  simp only [y70,Bool.or_eq_true,decide_eq_true_eq] at h2
  rw [y76]
  rcases h2.2 with h3|h3
  ·omega
  ·rwa [Nat.add_sub_cancel] at h3
end
end Go.Proofs.YtnfoijopccdjeaaGreat
namespace Go.Proofs.YtnfoijopccdjeaaGreat
open Go.Gl
attribute [local irreducible] z18 AWP z33 z37 z34 RetS z40
def AccP (a:Aut) (t:Trace):Prop:=∃ x,RP (accW a t.all t.stem.length) a.ini x∧Cyc (accW a t.all t.stem.length) x∧a.acc.getD (x % a.acc.length).toNat false=true
noncomputable def accR (a:Aut) (t:Trace):Bool:=@decide (AccP a t) (Classical.propDecidable _)
theorem accR_iff {a:Aut} {t:Trace} : accR a t=true↔AccP a t:=by unfold accR;exact @decide_eq_true_iff _ (Classical.propDecidable _)
theorem z385 {g:Graph} {ls:List Int} {a:Aut} {x y:Int} (hx:0≤x) (h:y∈(z48 g ls a).getD x.toNat []) (hA:AutP a):∃ (i:Nat) (to:Int) (e:Trans),i < g.st.length∧to∈g.nx.getD i []∧e∈a.ed∧onB e (ls.getD i 0)=true∧x / a.acc.length=i∧x % a.acc.length=e.src∧y / a.acc.length=to∧y % a.acc.length=e.dst:=by
 unfold z48 at h
 obtain ⟨_,h⟩:=z565.1 h
 unfold z531 at h
 obtain ⟨i,hi,h⟩:=List.mem_flatMap.1 h
 unfold z431 at h
 obtain ⟨to,hto,h⟩:=List.mem_flatMap.1 h
 unfold z532 at h
 obtain ⟨e,he,h⟩:=List.mem_flatMap.1 h
 unfold z289 at h
 split at h
 ·rename_i hon
  simp only [y54,Prod.mk.injEq] at h
  obtain ⟨h1,h2⟩:=h
  have hE:=hA.2.2.2 e he
  unfold z407 at hE
  have hac:=hA.1
  have hn:(a.acc.length:Int)≠0:=by omega
  have hm:((i * a.acc.length:Nat):Int)=(i:Int) * a.acc.length:=by simp
  have hxe:x=(i:Int) * a.acc.length+e.src:=by omega
  have d1:∀ (b q:Int),0≤q→q < a.acc.length→(b * a.acc.length+q) / (a.acc.length:Int)=b∧(b * a.acc.length+q) % (a.acc.length:Int)=q:=fun b q q0 q1 =>
   ⟨by rw [Int.add_comm,Int.add_mul_ediv_right _ _ hn,Int.ediv_eq_zero_of_lt q0 q1,Int.zero_add],by rw [Int.add_comm,Int.add_mul_emod_self_right,Int.emod_eq_of_lt q0 q1]⟩
  have k1:=d1 i e.src hE.1.1 (by omega)
  have k2:=d1 to e.dst hE.2.1.1 (by omega)
  exact ⟨i,to,e,List.mem_range.1 hi,hto,he,hon,by rw [hxe];exact k1.1,by rw [hxe];exact k1.2,by rw [h2];exact k2.1,by rw [h2];exact k2.2⟩
 ·cases h
structure FndP (g:Graph) (ls:List Int) (a:Aut) (s q:List Int):Prop where
 inn:∀ x∈s++q,0≤x
 path:PathP (z48 g ls a) (s++q)
 ini:(s++q).getD 0 0∈a.ini
 pos:0 < q.length
 back:q.getD 0 0∈(z48 g ls a).getD (q.getD (q.length - 1) 0).toNat []
 acc:a.acc.getD (q.getD 0 0 % a.acc.length).toNat false=true
section
variable {g:Graph} {ls:List Int} {a:Aut} {s q:List Int}
theorem FndP.step (h:FndP g ls a s q) {k:Nat} (hk:k < (s++q).length):(s++q).getD (nxW (s++q).length s.length k).toNat 0∈(z48 g ls a).getD ((s++q).getD k 0).toNat []:=by
 have hl:(s++q).length=s.length+q.length:=by simp
 have hsq:∀ j,(s++q).getD (s.length+j) 0=q.getD j 0:=fun j=>by
  rw [y67,y67,y66 (by omega),show s.length+j - s.length=j by omega]
 have hp:=h.pos
 unfold nxW
 split
 ·rename_i e
  rw [y76,show s.length=s.length+0 by omega,hsq,show k=s.length+(q.length - 1) by omega,hsq]
  exact h.back
 ·rw [y76];exact h.path k (by omega)
theorem z599 {l:List Int} {n k:Nat} (hk:k < l.length):(stL l n).getD k 0=l.getD k 0 / n:=by
 unfold stL;rw [z17 (by simpa using hk),List.getElem_map,z17 hk]
theorem FndP.word (hA:AutP a) (h:FndP g ls a s q) {w:List Int} (hw:w.length=(s++q).length) (hwl:∀ k,k < w.length→w.getD k 0=ls.getD ((s++q).getD k 0 / a.acc.length).toNat 0):∃ x,RP (accW a w s.length) a.ini x∧Cyc (accW a w s.length) x∧a.acc.getD (x % a.acc.length).toNat false=true:=by
 have hac:=hA.1
 have hn:(a.acc.length:Int)≠0:=by omega
 have hl:(s++q).length=s.length+q.length:=by simp
 have hp:=h.pos
 have hsq0:(s++q).getD s.length 0=q.getD 0 0:=by
  rw [y67,y67,y66 (y52 _),Nat.sub_self]
 obtain ⟨P,hP⟩:∃ P:Nat→Int,P=fun (k:Nat)=>(k:Int) * a.acc.length+(s++q).getD k 0 % a.acc.length:=⟨_,rfl⟩
 have hP0:∀ k,0≤P k:=fun k=>by
  rw [hP]
  have:=Int.mul_nonneg (show (0:Int)≤k by omega) (show (0:Int)≤a.acc.length by omega)
  have:=Int.emod_nonneg ((s++q).getD k 0) hn
  dsimp only;omega
 have hPm:∀ k,P k % (a.acc.length:Int)=(s++q).getD k 0 % a.acc.length:=fun k=>by
  rw [hP];dsimp only
  rw [Int.add_comm,Int.add_mul_emod_self_right,Int.emod_emod_of_dvd _ (Int.dvd_refl _)]
 have edge:∀ k,k < w.length→P (nxW w.length s.length k).toNat∈(accW a w s.length).getD (P k).toNat []:=fun k hk=>by
  have hst:=h.step (k:=k) (by omega)
  rw [← hw] at hst
  have hx0:=h.inn ((s++q).getD k 0) (by rw [z17 (by omega)];exact y44 _)
  obtain ⟨i,to,e,h1,h2,h3,h4,h5,h6,h7,h8⟩:=z385 hx0 hst hA
  have hE:=hA.2.2.2 e h3
  unfold z407 at hE
  have hnx:=nxW_in (N:=w.length) (s:=s.length) (i:=k) (by omega) hk
  have hon:onB e (w.getD k 0)=true:=by rw [hwl k hk,h5,y76];exact h4
  have hm:((k * a.acc.length:Nat):Int)=(k:Int) * a.acc.length:=by simp
  have e1:(P k).toNat=k * a.acc.length+e.src.toNat:=by
   rw [hP];dsimp only;rw [h6];omega
  have e2:P (nxW w.length s.length k).toNat=nxW w.length s.length k * a.acc.length+e.dst:=by
   rw [hP];dsimp only;rw [h8,Int.toNat_of_nonneg hnx.1]
  rw [e1,e2]
  unfold accW
  refine z565.2 ⟨?_,List.mem_flatMap.2 ⟨k,List.mem_range.2 hk,?_⟩⟩
  ·have h9:(k+1) * a.acc.length≤w.length * a.acc.length:=Nat.mul_le_mul_right _ hk
   rw [Nat.add_mul,Nat.one_mul] at h9
   omega
  ·unfold pushW
   refine List.mem_flatMap.2 ⟨e,h3,?_⟩
   unfold z289
   rw [if_pos hon];simp
 have rp:∀ k,k < w.length→RP (accW a w s.length) a.ini (P k):=by
  intro k
  induction k with
  |zero =>
   intro _
   refine .base ?_
   have hi:=h.ini
   obtain ⟨j,hj,e⟩:=List.mem_iff_getElem.1 hi
   have h5:=(hA.2.2.1 j hj hj).1
   rw [e] at h5
   have:P 0=(s++q).getD 0 0:=by rw [hP];dsimp only;rw [Int.emod_eq_of_lt h5.1 (by omega)];simp
   rw [this];exact hi
  |succ k ih =>
   intro hk
   have:=edge k (by omega)
   unfold nxW at this
   rw [if_neg (by omega),y76] at this
   exact .step (ih (by omega)) this
 have round:∀ d k,k+d+1=w.length→s.length≤k→RP (accW a w s.length) [P k] (P s.length):=by
  intro d
  induction d with
  |zero =>
   intro k hk _
   have:=edge k (by omega)
   unfold nxW at this
   rw [if_pos (by omega),y76] at this
   exact .step (.base (by simp)) this
  |succ d ih =>
   intro k hk hs
   have:=edge k (by omega)
   unfold nxW at this
   rw [if_neg (by omega),y76] at this
   exact RP.trans (.base (by simp)) this (ih (k+1) (by omega) (by omega))
 refine ⟨P s.length,rp _ (by omega),⟨_,edge s.length (by omega),?_⟩,by rw [hPm,hsq0];exact h.acc⟩
 unfold nxW
 split
 ·rw [y76];exact .base (by simp)
 ·rw [y76];exact round (w.length - (s.length+1) - 1) (s.length+1) (by omega) (by omega)
end
end Go.Proofs.YtnfoijopccdjeaaGreat
namespace Go.Proofs.YtnfoijopccdjeaaGreat
open Go.Gl
attribute [local irreducible] z18 AWP z33 z37 z34
def GPath (g:Graph) (π:Nat→Int):Prop:=π 0=0∧∀ k,π (k+1)∈g.nx.getD (π k).toNat []
def gW (g:Graph) (l:List Tree) (π:Nat→Int) (k:Nat):Int:=(g.st.map (z50 l)).getD (π k).toNat 0
theorem GPath.inn {g:Graph} (hG:GB g) {π:Nat→Int} (h:GPath g π):∀ k,0≤π k∧π k < g.st.length
 |0=>by have:=hG.1;rw [h.1];omega
 |k+1=>by
  have ih:=GPath.inn hG h k
  have hl:=hG.2.1
  have h1:=h.2 k
  rw [z17 (by omega)] at h1
  exact (hG.row _ (by omega)).2.2 _ h1
theorem gW_nn {g:Graph} {l:List Tree} (hL:z164 l) (π:Nat→Int) (k:Nat):0≤gW g l π k:=by
 unfold gW
 by_cases h:(π k).toNat < (g.st.map (z50 l)).length
 ·rw [z17 h,List.getElem_map]
  exact (z295 hL _).1
 ·rw [y67,y68 (by omega)];exact Int.le_refl _
theorem z1183 {n b q:Int} (hn:0 < n) (q0:0≤q) (q1:q < n):(b * n+q) / n=b∧(b * n+q) % n=q :=
 ⟨by rw [Int.add_comm,Int.add_mul_ediv_right _ _ (by omega),Int.ediv_eq_zero_of_lt q0 q1,Int.zero_add],by rw [Int.add_comm,Int.add_mul_emod_self_right,Int.emod_eq_of_lt q0 q1]⟩
def ARun (a:Aut) (w:Nat→Int) (ρ:Nat→Int):Prop:=ρ 0∈a.ini∧(∀ k,∃ e∈a.ed,e.src=ρ k∧e.dst=ρ (k+1)∧onB e (w k)=true)∧∀ m,∃ k,m≤k∧a.acc.getD (ρ k).toNat false=true
theorem fto_iff {g:Graph} {l:List Tree} {a:Aut} (h1:(glB g l && autB a)=true):(ftO g l a).isSome=true↔∃ π ρ:Nat→Int,GPath g π∧ARun a (gW g l π) ρ:=by
 obtain ⟨h3,hab⟩:=Bool.and_eq_true_iff.1 h1
 have hG:=(z89 g).1 (by unfold glB at h3;exact (Bool.and_eq_true_iff.1 h3).1)
 have hA:=z143.1 hab
 obtain ⟨f1,f2,f3,f4,f5⟩:=z197 hG hA (g.st.map (z50 l))
 have hnd:=hA.2.2.1.nd
 have hac:=hA.1
 have hn:(0:Int) < a.acc.length:=by omega
 have hini:=fun x hx=>(show InN (z48 g (g.st.map (z50 l)) a).length a.ini from f2) x hx
 have e1:ftO g l a=trcO g (g.st.map (z50 l)) a:=by unfold ftO;rw [if_pos h1]
 have e2:(ftO g l a).isSome=true↔∃ x,RP (z48 g (g.st.map (z50 l)) a) a.ini x∧a.acc.getD (x % a.acc.length).toNat false=true∧Cyc (z48 g (g.st.map (z50 l)) a) x:=by
  rw [e1]
  constructor
  ·intro h
   refine y77 fun hno=>?_
   have:NoAcc (z48 g (g.st.map (z50 l)) a) a.ini a.acc:=fun x hx hc=>by
    cases hb:a.acc.getD (x % a.acc.length).toNat false with
    |false=>rfl
    |true=>exact absurd ⟨x,hx,hb,hc⟩ hno
   rw [z1126 f1 f2 hnd this] at h
   cases h
  ·rintro ⟨x,hx,hb,hc⟩
   cases ht:trcO g (g.st.map (z50 l)) a with
   |some p=>rfl
   |none =>
    have:=z1079 f1 f2 hnd ht x hx hc
    rw [hb] at this;cases this
 have e3:=inf_iff (acc:=fun x=>a.acc.getD (x % a.acc.length).toNat false=true) f1 f2
 rw [e2,← e3]
 constructor
 ·rintro ⟨σ,s0,s1,s2⟩
  have hin:=z1108 f1 s1 (f2 _ s0)
  have hst:=fun k=>z385 (hin k).1 (s1 k) hA
  obtain ⟨i0,hi0,ei0⟩:=List.mem_iff_getElem.1 s0
  have hr0:=(hA.2.2.1 i0 hi0 hi0).1
  rw [ei0] at hr0
  have hd0:=z1183 (b:=0) hn hr0.1 (show σ 0 < a.acc.length by omega)
  rw [Int.zero_mul,Int.zero_add] at hd0
  refine ⟨fun k=>σ k / a.acc.length,fun k=>σ k % a.acc.length,⟨hd0.1,fun k=>?_⟩,by show σ 0 % _∈_;rw [hd0.2];exact s0,fun k=>?_,s2⟩
  ·obtain ⟨i,to,e,c1,c2,c3,c4,c5,c6,c7,c8⟩:=hst k
   show σ (k+1) / _∈g.nx.getD (σ k / a.acc.length).toNat []
   rw [c7,c5,y76];exact c2
  ·obtain ⟨i,to,e,c1,c2,c3,c4,c5,c6,c7,c8⟩:=hst k
   refine ⟨e,c3,c6.symm,c8.symm,?_⟩
   unfold gW
   show onB e ((g.st.map (z50 l)).getD (σ k / a.acc.length).toNat 0)=true
   rw [c5,y76];exact c4
 ·rintro ⟨π,ρ,hp,r0,r1,r2⟩
  have hin:=hp.inn hG
  have hrr:∀ k,0≤ρ k∧ρ k < a.acc.length:=fun k=>by
   obtain ⟨e,he,c1,c2,_⟩:=r1 k
   have hE:=hA.2.2.2 e he
   unfold z407 at hE
   omega
  refine ⟨fun k=>π k * a.acc.length+ρ k,?_,fun k=>?_,fun m=>?_⟩
  ·show π 0 * _+ρ 0∈_
   rw [hp.1,Int.zero_mul,Int.zero_add];exact r0
  ·obtain ⟨e,he,c1,c2,c3⟩:=r1 k
   have hE:=hA.2.2.2 e he
   unfold z407 at hE
   have h4:=z1115 (g:=g) (ls:=g.st.map (z50 l)) (a:=a) (i:=(π k).toNat) (to:=π (k+1)) (e:=e) (by omega) (by have:=hin k;omega) (hp.2 k) he c3
   show π (k+1) * _+ρ (k+1)∈(z48 g (g.st.map (z50 l)) a).getD (π k * a.acc.length+ρ k).toNat []
   rw [c2] at h4
   have h5:(π k * a.acc.length+ρ k).toNat=(π k).toNat * a.acc.length+e.src.toNat:=by
    rw [c1]
    obtain ⟨i,hi⟩:=Int.eq_ofNat_of_zero_le (hin k).1
    obtain ⟨r,hr⟩:=Int.eq_ofNat_of_zero_le (hrr k).1
    rw [hi,hr,y76,y76]
    norm_cast
   rw [h5];exact h4
  ·obtain ⟨k,k1,k2⟩:=r2 m
   refine ⟨k,k1,?_⟩
   show a.acc.getD ((π k * a.acc.length+ρ k) % a.acc.length).toNat false=true
   rw [(z1183 hn (hrr k).1 (hrr k).2).2];exact k2
theorem z648 (t:Tree) (hs:t.sz≤200) (h:tsB t=true) {w:Nat→Int} (hw:∀ k,0≤w k):(∃ ρ,ARun (trA t) w ρ)↔t.sem w 0:=by
 unfold tsB at h
 unfold trA
 unfold trO at *
 by_cases hb:bscB t=true
 ·rw [if_pos hb] at *
  obtain ⟨⟨ht,hn⟩,h5⟩:=of_decide_eq_true (show decide _=true from hb)
  obtain ⟨hB,hIn,_⟩:=z568 ht hn h5 hs
  have hg:=y25 ht
  have hsem:=sem_nrm w t hg false 0
  rw [if_neg (by simp)] at hsem
  have hNF:=nrm_NF t hg false
  have hNB:∀ x∈bscL (t.nrm false),NF x:=fun x hx=>z929 (p:=NF) (fun x hx=>hx.kids) (t.nrm false) [] hNF (by simp) x (List.mem_filter.1 hx).1
  rw [← hsem]
  clear hsem hg ht hn
  generalize t.nrm false=g at *
  generalize bscL g=B at *
  have hBk:BOk B:=⟨hB.nd,hB.cl,hB.bk,hB.av⟩
  cases hS:trS B g with
  |none=>rw [hS] at h;cases h
  |some y =>
   obtain ⟨hT,suf,hL⟩:=trS_T hS
   have hIL:(iniS B g).length≤y.L.length:=by rw [hL];simp
   show (∃ ρ,ARun (z336 (iniS B g).length y) w ρ)↔_
   have hmI:∀ x,x∈numI (iniS B g).length↔∃ i:Nat,x=i∧i < (iniS B g).length:=fun x=>by
    unfold numI
    rw [y59]
    exact ⟨fun ⟨i,hi,e⟩=>⟨i,e.symm,List.mem_range.1 hi⟩,fun ⟨i,e,hi⟩=>⟨i,List.mem_range.2 hi,e.symm⟩⟩
   constructor
   ·rintro ⟨ρ,r0,r1,r2⟩
    obtain ⟨i0,ei0,hi0⟩:=(hmI _).1 r0
    have hL0:¬ y.L.length=0:=by omega
    have hacc:(z336 (iniS B g).length y).acc=y.acc:=by unfold z336;dsimp only;rw [if_neg hL0]
    have hst:∀ k,∃ e∈y.ed,e.src=ρ k∧e.dst=ρ (k+1)∧(((w k).toNat &&& e.care.toNat:Nat):Int)=e.val:=fun k=>by
     obtain ⟨e,he,c1,c2,c3⟩:=r1 k
     obtain ⟨e',he',rfl⟩:=List.mem_map.1 (show e∈y.ed.map eT from he)
     exact ⟨e',he',c1,c2,of_decide_eq_true c3⟩
    have hnn:∀ k,ρ k=((ρ k).toNat:Nat):=fun k=>by
     obtain ⟨e,he,c1,_⟩:=hst k
     obtain ⟨k',t,_,_,_,x1,_⟩:=hT.e1 e he
     omega
    refine tr_sound hBk hIn hS hw (ρ:=fun k=>(ρ k).toNat) ⟨by show (ρ 0).toNat < _;omega,fun k=>?_,fun m=>?_⟩
    ·obtain ⟨e,he,c1,c2,c3⟩:=hst k
     exact ⟨e,he,by rw [c1];exact hnn k,by rw [c2];exact hnn (k+1),c3⟩
    ·obtain ⟨k,k1,k2⟩:=r2 m
     rw [hacc] at k2
     exact ⟨k,k1,k2⟩
   ·intro hs
    obtain ⟨ρ,r0,r1,r2⟩:=z838 hBk hNB hNF hIn hS hw hs
    have hL0:¬ y.L.length=0:=by omega
    have hacc:(z336 (iniS B g).length y).acc=y.acc:=by unfold z336;dsimp only;rw [if_neg hL0]
    refine ⟨fun k=>(ρ k:Int),(hmI _).2 ⟨ρ 0,rfl,r0⟩,fun k=>?_,fun m=>?_⟩
    ·obtain ⟨e,he,c1,c2,c3⟩:=r1 k
     exact ⟨eT e,List.mem_map.2 ⟨e,he,rfl⟩,c1,c2,y81 c3⟩
    ·obtain ⟨k,k1,k2⟩:=r2 m
     refine ⟨k,k1,?_⟩
     rw [hacc,y76];exact k2
 ·rw [if_neg hb] at h;cases h
theorem z670 {t:Tree} (hg:t.goodF) (w:Nat→Int) (i:Nat):(negT t).sem w i↔¬ t.sem w i:=by
 unfold negT
 by_cases hk:t.kind=3
 ·rw [if_pos hk]
  cases y23 hg with
  |tr=>simp [Tree.kind] at hk
  |«at» v _ _=>simp [Tree.kind] at hk
  |bin k a b hk2 _ _=>simp only [Tree.kind] at hk;omega
  |un k a _ _ =>
   simp only [Tree.kind] at hk
   subst hk
   rw [z425,Classical.not_not]
   simp [Tree.kids]
 ·rw [if_neg hk,z381]
theorem vd_sem {g:Graph} {l:List Tree} {f:Tree} (hgl:glB g l=true) (hs:ngS f=true):(ftO g l (ngA f)).isSome=true↔∃ π,GPath g π∧¬ f.sem (gW g l π) 0:=by
 have hv:=z392 hs
 have hL:=y8 (by unfold glB at hgl;exact (Bool.and_eq_true_iff.1 hgl).2)
 have h1:=hs
 unfold ngS at h1
 rw [y70] at h1
 have hz:=z356 h1.1
 have e1:ngA f=trA (negT f):=by unfold ngA ngT;rw [if_pos h1.1,if_pos h1.1]
 have e2:ngT f=negT f:=by unfold ngT;rw [if_pos h1.1]
 rw [e2] at h1 hz
 have hg:=y25 (ngB_fm h1.1)
 rw [fto_iff (by rw [hgl,hv];rfl)]
 constructor
 ·rintro ⟨π,ρ,hp,hr⟩
  rw [e1] at hr
  exact ⟨π,hp,(z670 hg _ _).1 ((z648 _ (by omega) h1.2 (gW_nn hL π)).1 ⟨ρ,hr⟩)⟩
 ·rintro ⟨π,hp,hn⟩
  obtain ⟨ρ,hr⟩:=(z648 _ (by omega) h1.2 (gW_nn hL π)).2 ((z670 hg _ _).2 hn)
  rw [← e1] at hr
  exact ⟨π,ρ,hp,hr⟩
theorem z1063 {g:Graph} {l:List Tree} {f:Tree} : vdI g l f=0↔(glB g l=true∧f.fmB=true∧ngS f=true)∧∀ π,GPath g π→f.sem (gW g l π) 0:=by
 unfold vdI
 by_cases h1:(glB g l && f.fmB)=true
 ·obtain ⟨h2,h3⟩:=Bool.and_eq_true_iff.1 h1
  rw [if_pos h1]
  by_cases h4:ngS f=true
  ·rw [if_pos h4]
   have hv:=vd_sem h2 h4
   by_cases h5:(ftO g l (ngA f)).isSome=true
   ·rw [if_pos h5]
    refine ⟨fun h=>(by cases h),fun ⟨_,h⟩=>?_⟩
    obtain ⟨π,p1,p2⟩:=hv.1 h5
    exact absurd (h π p1) p2
   ·rw [if_neg h5]
    refine ⟨fun _=>⟨⟨h2,h3,h4⟩,fun π hp=>y77 fun hn=>h5 (hv.2 ⟨π,hp,hn⟩)⟩,fun _=>rfl⟩
  ·rw [if_neg h4]
   exact ⟨fun h=>(by cases h),fun ⟨h,_⟩=>absurd h.2.2 h4⟩
 ·rw [if_neg h1]
  exact ⟨fun h=>(by cases h),fun ⟨h,_⟩=>absurd (by rw [h.1,h.2.1];rfl) h1⟩
theorem z717 {g:Graph} {l:List Tree} {f:Tree} : vdI g l f=1↔(glB g l=true∧f.fmB=true∧ngS f=true)∧∃ π,GPath g π∧¬ f.sem (gW g l π) 0:=by
 unfold vdI
 by_cases h1:(glB g l && f.fmB)=true
 ·obtain ⟨h2,h3⟩:=Bool.and_eq_true_iff.1 h1
  rw [if_pos h1]
  by_cases h4:ngS f=true
  ·rw [if_pos h4]
   have hv:=vd_sem h2 h4
   by_cases h5:(ftO g l (ngA f)).isSome=true
   ·rw [if_pos h5]
    exact ⟨fun _=>⟨⟨h2,h3,h4⟩,hv.1 h5⟩,fun _=>rfl⟩
   ·rw [if_neg h5]
    exact ⟨fun h=>(by cases h),fun ⟨_,h⟩=>absurd (hv.2 h) h5⟩
  ·rw [if_neg h4]
   exact ⟨fun h=>(by cases h),fun ⟨h,_⟩=>absurd h.2.2 h4⟩
 ·rw [if_neg h1]
  exact ⟨fun h=>(by cases h),fun ⟨h,_⟩=>absurd (by rw [h.1,h.2.1];rfl) h1⟩
theorem z1064 (g:Graph) (l:List Tree) (f:Tree):vdI g l f=0∨vdI g l f=1∨vdI g l f=2∨vdI g l f=3:=by
 unfold vdI
 split
 ·split
  ·split<;>simp
  ·simp
 ·simp
theorem z1062 {g:Graph} {l:List Tree} {f:Tree} : vdI g l f < 2↔glB g l=true∧f.fmB=true∧ngS f=true:=by
 unfold vdI
 by_cases h1:(glB g l && f.fmB)=true
 ·obtain ⟨h2,h3⟩:=Bool.and_eq_true_iff.1 h1
  rw [if_pos h1]
  by_cases h4:ngS f=true
  ·rw [if_pos h4]
   refine ⟨fun _=>⟨h2,h3,h4⟩,fun _=>?_⟩
   split<;>omega
  ·rw [if_neg h4];exact ⟨fun h=>(by omega),fun h=>absurd h.2.2 h4⟩
 ·rw [if_neg h1]
  exact ⟨fun h=>(by omega),fun h=>absurd (by rw [h.1,h.2.1];rfl) h1⟩
theorem z1061 {g:Graph} {l:List Tree} {f:Tree} : vdI g l f=3↔¬ (glB g l=true∧f.fmB=true):=by
 unfold vdI
 by_cases h1:(glB g l && f.fmB)=true
 ·obtain ⟨h2,h3⟩:=Bool.and_eq_true_iff.1 h1
  rw [if_pos h1]
  refine ⟨fun h=>?_,fun h=>absurd ⟨h2,h3⟩ h⟩
  split at h
  ·split at h<;>cases h
  ·cases h
 ·rw [if_neg h1]
  exact ⟨fun _ h=>h1 (by rw [h.1,h.2];rfl),fun _=>rfl⟩
end Go.Proofs.YtnfoijopccdjeaaGreat
namespace Go.Proofs.YtnfoijopccdjeaaGreat
open Go.Gl
attribute [local irreducible] z18 AWP z33 z37 z34 RetS z40
section
variable {g:Graph} {ls:List Int} {a:Aut} {s q:List Int}
theorem FndP.tr (hG:GB g) (hA:AutP a) (h:FndP g ls a s q) (hl8:s.length+q.length≤8000):trB g ⟨stL s a.acc.length,stL q a.acc.length⟩=true:=by
 have hac:=hA.1
 have hl:(s++q).length=s.length+q.length:=by simp
 have hp:=h.pos
 have hall:(Trace.mk (stL s a.acc.length) (stL q a.acc.length)).all=stL (s++q) a.acc.length:=by unfold Trace.all stL;simp
 have hsl:(stL s a.acc.length).length=s.length:=by simp [stL]
 have hql:(stL q a.acc.length).length=q.length:=by simp [stL]
 have hal:(stL (s++q) a.acc.length).length=s.length+q.length:=by simp [stL]
 have inv:∀ k,k < (s++q).length→∃ (i:Nat) (to:Int),i < g.st.length∧to∈g.nx.getD i []∧(s++q).getD k 0 / a.acc.length=i∧(s++q).getD (nxW (s++q).length s.length k).toNat 0 / a.acc.length=to:=fun k hk=>by
  obtain ⟨i,to,e,h1,h2,h3,h4,h5,h6,h7,h8⟩:=z385 (h.inn ((s++q).getD k 0) (by rw [z17 hk];exact y44 _)) (h.step hk) hA
  exact ⟨i,to,h1,h2,h5,h7⟩
 unfold trB
 simp only [y70,decide_eq_true_eq]
 refine ⟨⟨by rw [hql];exact hp,by rw [hsl,hql];exact hl8⟩,?_,?_,?_⟩
 ·rw [hall]
  refine z996 ((z89 _).2 hG) (by rw [hal];omega) fun k hk=>?_
  rw [hal] at hk
  have hk' : k < (s++q).length:=by omega
  obtain ⟨i,to,h1,h2,h3,h4⟩:=inv k hk'
  unfold z734
  rw [z599 hk',h3]
  simp only [y70,Bool.or_eq_true,decide_eq_true_eq]
  refine ⟨⟨by omega,by omega⟩,?_⟩
  by_cases hk0:k=0
  ·exact .inl hk0
  ·right
   obtain ⟨i',to',g1,g2,g3,g4⟩:=inv (k - 1) (by omega)
   unfold nxW at g4
   rw [if_neg (by omega),y76,show k - 1+1=k by omega,h3] at g4
   rw [z599 (by omega),g3,y76,g4]
   exact g2
 ·rw [hall,z599 (by omega)]
  obtain ⟨j,hj,e⟩:=List.mem_iff_getElem.1 h.ini
  have h5:=(hA.2.2.1 j hj hj).1
  rw [e] at h5
  exact Int.ediv_eq_zero_of_lt h5.1 (by omega)
 ·show (stL q a.acc.length).getD 0 0∈g.nx.getD ((stL q a.acc.length).getD ((stL q a.acc.length).length - 1) 0).toNat []
  rw [hql,z599 hp,z599 (by omega)]
  have hx0:=h.inn (q.getD (q.length - 1) 0) (by rw [z17 (by omega)];exact List.mem_append.2 (.inr (y44 _)))
  obtain ⟨i,to,e,h1,h2,h3,h4,h5,h6,h7,h8⟩:=z385 hx0 h.back hA
  rw [h7,h5,y76]
  exact h2
end
theorem z556 {g:Graph} {l:List Tree} {a:Aut} (h1:(glB g l && autB a)=true) {st lp:List Int} (h:ftO g l a=some (st,lp)):∃ s q,FndP g (g.st.map (z50 l)) a s q∧st=stL s a.acc.length∧lp=stL q a.acc.length∧s.length+q.length≤8000:=by
 obtain ⟨h3,hab⟩:=Bool.and_eq_true_iff.1 h1
 have hG:=(z89 g).1 (by unfold glB at h3;exact (Bool.and_eq_true_iff.1 h3).1)
 have hA:=z143.1 hab
 obtain ⟨f1,f2,f3,f4,f5⟩:=z197 hG hA (g.st.map (z50 l))
 have hnd:=hA.2.2.1.nd
 unfold ftO at h
 rw [if_pos h1] at h
 unfold trcO at h
 rw [← z324 f1 f2 hnd,Option.map_eq_some_iff] at h
 obtain ⟨⟨p,q⟩,hpq,e⟩:=h
 simp only [Prod.mk.injEq] at e
 obtain ⟨e1,e2⟩:=e
 obtain ⟨v,s,k1,k2,k3,k4,k5,k6,k7⟩:=las_path f1 f2 hnd hpq
 obtain ⟨b1,b2,b3,b4,b5,b6⟩:=z873 f1 f2 hnd hpq
 subst k2
 have hts:(s++[v]).take ((s++[v]).length - 1)=s:=by simp
 rw [hts] at e1
 rw [y47,List.length_singleton] at b3
 refine ⟨s,q,⟨fun x hx=>?_,k3,k4,k6,by rw [k5];exact k7,by rw [k5];exact k1⟩,e1.symm,e2.symm,by omega⟩
 rcases List.mem_append.1 hx with hx|hx
 ·exact (b1 x (List.mem_append.2 (.inl hx))).1
 ·exact (b2 x hx).1
theorem found_ok {g:Graph} {l:List Tree} {a:Aut} (h1:(glB g l && autB a)=true) (h:(ftO g l a).isSome=true):trB g (ftL g l a)=true∧(twB g l (ftL g l a)=true→accR a (twT g l (ftL g l a))=true):=by
 obtain ⟨h3,hab⟩:=Bool.and_eq_true_iff.1 h1
 have hG:=(z89 g).1 (by unfold glB at h3;exact (Bool.and_eq_true_iff.1 h3).1)
 have hA:=z143.1 hab
 cases hf:ftO g l a with
 |none=>rw [hf] at h;cases h
 |some x =>
  obtain ⟨st,lp⟩:=x
  obtain ⟨s,q,F,rfl,rfl,hl8⟩:=z556 h1 hf
  have e:ftL g l a=⟨stL s a.acc.length,stL q a.acc.length⟩:=by unfold ftL;rw [hf];rfl
  rw [e]
  have htr:=F.tr hG hA hl8
  refine ⟨htr,fun ht=>accR_iff.2 ?_⟩
  have ew:twT g l ⟨stL s a.acc.length,stL q a.acc.length⟩=z829 (g.st.map (z50 l)) ⟨stL s a.acc.length,stL q a.acc.length⟩:=by unfold twT;rw [if_pos ht]
  have hall:(Trace.mk (stL s a.acc.length) (stL q a.acc.length)).all=stL (s++q) a.acc.length:=by unfold Trace.all stL;simp
  unfold AccP
  rw [ew,word_all,hall]
  have hsl:(z829 (g.st.map (z50 l)) ⟨stL s a.acc.length,stL q a.acc.length⟩).stem.length=s.length:=by simp [z829,stL]
  rw [hsl]
  refine F.word hA (by simp [stL]) fun k hk=>?_
  have hk' : k < (s++q).length:=by simpa [stL] using hk
  rw [z17 hk,List.getElem_map]
  unfold pick
  congr 2
  rw [← z599 hk',z17 (by simpa [stL] using hk')]
end Go.Proofs.YtnfoijopccdjeaaGreat
namespace Go.Proofs.YtnfoijopccdjeaaGreat
open Go.Gl
attribute [local irreducible] z18 AWP z33 z37 z34
theorem z642 {g:Graph} {l:List Tree} {f:Tree} (h:vdI g l f=1):trB g (vdT g l f)=true:=by
 have hs:=(z717.1 h).1
 have hv:=z392 hs.2.2
 unfold vdI at h
 unfold vdT
 have h1:(glB g l && f.fmB)=true:=by rw [hs.1,hs.2.1];rfl
 rw [if_pos h1,if_pos hs.2.2] at h ⊢
 refine (found_ok (by rw [hs.1,hv];rfl) ?_).1
 by_cases h5:(ftO g l (ngA f)).isSome=true
 ·exact h5
 ·rw [if_neg h5] at h;cases h
end Go.Proofs.YtnfoijopccdjeaaGreat
