/- A part of the proofs over this program: T184, T220, T93, T94, T140, T141, T142, T221, T222, T223. -/
import Derived.Test.YtnfoijopccdjeaaGreatG0
import Derived.Test.YtnfoijopccdjeaaGreatG1
import Derived.Test.YtnfoijopccdjeaaGreatG2
import Derived.Test.YtnfoijopccdjeaaGreatG3
import Derived.Test.YtnfoijopccdjeaaGreatP0
import Derived.Test.YtnfoijopccdjeaaGreatP1
import Derived.Test.YtnfoijopccdjeaaGreatP2
import Derived.Test.YtnfoijopccdjeaaGreatP3
set_option linter.all false
namespace Go.Proofs.YtnfoijopccdjeaaGreat
open Go.Gl
attribute [local irreducible] z18 AWP z30 z36 z32 RetS z38
theorem z424 {N w:Nat} (Q P:List Int) (hw:w < N):((frm N Q P).map enI)[w]?=some (enI (if (w:Int)∈Q then P.getD w 0 else -2)):=by
 unfold frm
 rw [y51,y51,List.getElem?_range hw];rfl
theorem z478 {N w:Nat} {Q P:List Int} {u:Int} (hw:w < N) (hP:P.length=N):((frm N Q P).map enI).set w (enI u)=(frm N (Q++[(w:Int)]) (P.set w u)).map enI:=by
 have:=frm_set (N:=N) (Q:=Q) (P:=P) (v:=(w:Int)) (u:=u) ⟨by omega,by omega⟩ hP
 rw [y76] at this
 rw [← this,List.map_set]
set_option maxHeartbeats 12800000 in
theorem z642 (rows : List (List Int)) (ini : List Int) (hr : ∀ r ∈ rows, InN rows.length r) (hi : InN rows.length ini) (hn : ini.Nodup) (hN : rows.length ≤ 100000) (hrl : ∀ r ∈ rows, r.length ≤ 1000000000) (G : Int → Bool) (f : FuncId) (c1 : List AC) (hf : ∀ x : Int, 0 ≤ x → x < rows.length → CallsA Tryz.prog f (.int x :: [.pt c1]) [] (.bool (G x)) []) :
    CallsA Tryz.prog 198 [lst 1 encL rows,ints ini,.fn (.func f) [] [.pt c1]] [] (.sref 0 0 (shL rows ini G).length) [.cells 1 ((shL rows ini G).map enI)]:=by
  have hil:ini.length≤100000:=by have:=z202 rows.length ini hn hi;omega
  refine z7 z16 Tryz.func198 rfl rfl 99 Tryz.ntmps198 (by simp) ?_
  repeat' ((first|(apply y4 ok;rfl)|(apply y43;(dsimp only;omega)))<;>conv=>whnf)
  obtain ⟨qm,hqm⟩:∃ qm:Nat→Nat→Int,qm=fun i j=>if j < i then -2 else 0:=⟨_,rfl⟩
  have q0:qm 0=fun _=>0:=by rw [hqm];rfl
  have qE:(fnL rows.length (qm rows.length)).map enI=(frm rows.length [] (List.replicate rows.length (-1))).map enI:=by
    rw [z1164]
    congr 1
    apply y74 (by simp [fnL])
    intro i h1 h2
    rw [z672,hqm]
    have hi' : i < rows.length:=by rw [z114] at h1;exact h1
    dsimp only
    rw [if_pos hi'];simp
  have qS:∀ i,qm (i+1)=upd (qm i) i (-2):=fun i=>by
    funext j
    by_cases h:j=i
    · subst h;rw [z34,hqm];dsimp only;rw [if_pos (by omega)]
    · rw [z53 _ _ h,hqm];dsimp only;split<;>split<;>first|rfl|omega
  clear hqm
  refine z58 (fun i:Nat=>([(0,lst 1 encL rows),(1,ints ini),(2,.fn (.func f) [] [.pt c1]),(7,.sref 0 0 rows.length),(21,.int rows.length),(22,.int i)],[.cells 1 ((fnL rows.length (qm i)).map enI)])) (fun i=>i≤rows.length) (fun i=>rows.length - i) 0 (y53 _) (by refine swR [0] [] rfl rfl ?_;(repeat' first|exact y85 _|refine z10 rfl (z69 rfl) ?_|constructor)<;>((refine z45 ?_;rw [q0];exact z320 _))) ?_
  intro i hi1
  by_cases hi2:i < rows.length
  · have g1:=z179 (qm i) hi2
    have l1:=z114 rows.length (qm i)
    have e1:=z158 (N:=rows.length) (u:=i) (qm i) (-2)
    rw [← qS] at e1
    repeat' ((first|(apply y4 ok;rfl)|(refine z15 (i:=i) rfl g1 ?_)|(apply y43;first|omega|(unfold inI;omega))|((apply z5)<;>intro _))<;>conv=>whnf)
    all_goals try (exfalso;omega)
    all_goals refine z21 (i+1) hi2 (by omega) (by refine swR [0] [] rfl rfl ?_;(repeat' first|exact y85 _|refine z50 rfl (z4 (fun _=>rfl)) ?_|constructor)<;>((refine z45 ?_;exact e1)))
  obtain rfl:i=rows.length:=by omega
  rw [qE]
  clear qE qS q0
  repeat' ((first|(apply y4 ok;rfl)|(apply y43;omega)|(((apply z13;omega));intro _)|((apply z5)<;>intro _))<;>conv=>whnf)
  all_goals try (exfalso;omega)
  refine y84 (y87 1 rfl) ?_
  have hrep:(List.replicate rows.length (-1:Int)).length=rows.length:=by simp
  have hrs:∀ w,(List.replicate rows.length (-1:Int)).set w (-1)=List.replicate rows.length (-1):=fun w=>by
    apply y74 (by simp)
    intro i h1 h2
    rw [List.getElem_set]
    split<;>simp
  have hS0:(frm rows.length ini (List.replicate rows.length (-1)))=frm rows.length (srS rows ini 0).1 (srS rows ini 0).2:=rfl
  generalize List.replicate rows.length (-1:Int)=P0 at *
  refine z58 (fun k:Nat=>([(0,lst 1 encL rows),(2,.fn (.func f) [] [.pt c1]),(7,.sref 0 0 rows.length),(9,.sref 1 0 (ini.take k).length),(29,ints ini),(30,.int ini.length),(31,.int k)],[.cells 1 ((frm rows.length (ini.take k) P0).map enI),.cells 1 ((ini.take k).map enI)])) (fun k=>k≤ini.length) (fun k=>ini.length - k) 0 (y53 _) (by refine swR [0,1] [] rfl rfl ?_;(repeat' first|exact y85 _|exact z47|exact z9 _|((refine z10 rfl ?_ ?_);(focus ((repeat' (first|exact z31|exact z4 (fun _=>rfl)));done)))|constructor)) ?_
  intro k hk
  by_cases hk2:k < ini.length
  · have gk:(ini.map enI)[k]?=some (enI ini[k]):=by rw [y51,y45 hk2];rfl
    have hv:=hi _ (y44 hk2)
    have et:ini.take (k+1)=ini.take k++[ini[k]]:=y50 hk2
    have htl:(ini.take k).length≤100000:=by rw [y48];omega
    generalize hQ' : ini.take (k+1)=Q' at *
    generalize hQ:ini.take k=Q at *
    generalize ini[k]=v at *
    obtain ⟨w,rfl⟩:∃ w:Nat,v=w:=⟨v.toNat,by omega⟩
    have hw:w < rows.length:=by omega
    have g1:=z424 Q P0 hw
    have l1:=z423 rows.length Q P0
    have e1:=z478 (Q:=Q) (u:=-1) hw hrep
    rw [hrs,← et] at e1
    subst et
    repeat' ((first|(apply y4 ok;rfl)|(refine z15 (i:=k) rfl gk ?_)|(refine z15 (i:=w) rfl g1 ?_)|(apply y43;first|omega|(unfold inI;omega)|((try dsimp only);simp only [y49,y48,y47,y46,y57,y58];omega)|exact ⟨rfl,z20 rfl z29⟩)|((apply z5)<;>intro _))<;>conv=>whnf)
    all_goals try (exfalso;omega)
    all_goals refine z21 (k+1) hk2 (by omega) ?_
    all_goals dsimp only
    all_goals rw [hQ']
    all_goals exact (by refine swR [0,3] [] rfl rfl ?_;(repeat' first|exact y85 _|(refine z60 ?_;((simp;done)))|((first|refine z40 rfl ?_ ?_|refine z50 rfl ?_ ?_);(focus ((repeat' (first|exact z4 (fun _=>rfl)|apply z22));done)))|(refine z84 ?_ ?_;(focus (omega)))|constructor)<;>((refine z45 ?_;exact e1)))
  obtain rfl:k=ini.length:=by omega
  rw [y55,hS0]
  repeat' ((first|(apply y4 ok;rfl)|(apply y43;omega)|((first|(with_reducible apply z13;omega)|(apply z13;omega));intro _)|((apply z5)<;>intro _))<;>conv=>whnf)
  all_goals try (exfalso;omega)
  refine z58 (fun i:Nat=>([(0,lst 1 encL rows),(2,.fn (.func f) [] [.pt c1]),(7,.sref 0 0 rows.length),(9,.sref 1 0 (srS rows ini i).1.length),(12,.int i)],[.cells 1 ((frm rows.length (srS rows ini i).1 (srS rows ini i).2).map enI),.cells 1 ((srS rows ini i).1.map enI)])) (fun i=>i≤rows.length∧∀ k (_:k < i) (h:k < (srS rows ini i).1.length),G ((srS rows ini i).1[k])=false) (fun i=>rows.length+1 - i) 0 ⟨y53 _,fun k h=>by omega⟩ (by refine swR [0,1] [] rfl rfl ?_;(repeat' first|exact y85 _|exact z9 _|refine z10 rfl (z4 (fun _=>rfl)) ?_|constructor)<;>(fail)) ?_
  rintro i ⟨hi1,hno⟩
  have hJ:=z370 hr hi hn i
  have hQl:=z634 hr hi hn i
  by_cases hi2:i < (srS rows ini i).1.length
  · have hx:=hJ.inn _ (y44 hi2)
    have cf:=hf _ hx.1 hx.2
    have gx:((srS rows ini i).1.map enI)[i]?=some (enI (srS rows ini i).1[i]):=by rw [y51,y45 hi2];rfl
    have hnx:srS rows ini (i+1)=visPs (srS rows ini i).1[i] (srS rows ini i) (rows.getD ((srS rows ini i).1[i]).toNat []):=by rw [srS,dif_pos hi2]
    have hfnd:=fun h=>z718 hr hi hn (G:=G) hi2 h (fun k hk=>hno k hk (by omega))
    have hpre:=z356 (srS rows ini i).1[i] (rows.getD ((srS rows ini i).1[i]).toNat []) (srS rows ini i)
    by_cases hG:G (srS rows ini i).1[i]=true
    · rw [hfnd hG,z886,y64]
      have hq0:∃ k,∃ h:k < (srS rows ini i).1.length,(srS rows ini i).1[k]=(srS rows ini i).1[i]∧k≤rows.length:=⟨i,hi2,rfl,hi1⟩
      rw [hG] at cf
      clear hfnd hnx hpre hno
      generalize hS:srS rows ini i=S at *
      obtain ⟨Q,P⟩:=S
      dsimp only at *
      have hi4:i < Q.length:=hi2
      generalize Q[i]=x at *
      repeat' ((first|(apply y4 ok;rfl)|(refine z15 (i:=i) rfl gx ?_)|(apply y43;omega)|((apply z5)<;>intro _)|(apply z6 (cf);rfl;rfl))<;>conv=>whnf)
      all_goals try (exfalso;omega)
      all_goals
        refine y84 (y87 1 rfl) ?_
        have hB1:=z881 P rows.length x
        generalize hB:chn P rows.length x=B at *
        refine z58 (fun y:Nat×List Int×Int=>([(7,.sref 0 0 rows.length),(13,.int y.2.2),(14,.sref 1 0 y.2.1.length)],[.cells 1 ((frm rows.length Q P).map enI),.cells 1 (y.2.1.map enI)])) (fun y=>y.2.1.length+y.1≤rows.length+1∧((0≤y.2.2∧y.2.1++chn P (y.1 - 1) y.2.2=B∧1≤y.1∧∃ k,∃ h:k < Q.length,Q[k]=y.2.2∧k+1≤y.1)∨(y.2.2=-1∧y.2.1=B))) (fun y=>y.1+(if 0≤y.2.2 then 1 else 0)) (rows.length+1,[],x) ⟨by simp,.inl ⟨hx.1,by simpa using hB,by omega,by obtain ⟨k,h,h1,h2⟩:=hq0;exact ⟨k,h,h1,by omega⟩⟩⟩ (by refine swR [0,2] [] rfl rfl ?_;(repeat' first|exact y85 _|exact z47|exact z9 _|((refine z10 rfl ?_ ?_);(focus ((repeat' (first|exact z31|exact z4 (fun _=>rfl)));done)))|constructor)) ?_
        rintro ⟨fu,ac,u⟩ ⟨q1,q2⟩
        dsimp only at q1 q2 ⊢
        rcases q2 with ⟨q2,q3,q4,k,hk,q5,q6⟩|⟨rfl,rfl⟩
        · have huN:=hJ.inn u (q5 ▸ y44 hk)
          obtain ⟨w,rfl⟩:∃ w:Nat,u=w:=⟨u.toNat,by omega⟩
          have hw:w < rows.length:=by omega
          have gw:=z424 Q P hw
          rw [if_pos (q5 ▸ y44 hk)] at gw
          have lw:=z423 rows.length Q P
          have hp:=hJ.pre k hk
          rw [q5,y76] at hp
          dsimp only at hp
          obtain ⟨fu,rfl⟩:∃ m,fu=m+1:=⟨fu - 1,by omega⟩
          rw [Nat.add_sub_cancel] at q3
          have hnext:P.getD w 0=-1∧ac++[(w:Int)]=B∨(0≤P.getD w 0∧(ac++[(w:Int)])++chn P (fu - 1) (P.getD w 0)=B∧1≤fu∧∃ k,∃ h:k < Q.length,Q[k]=P.getD w 0∧k+1≤fu):=by
            rcases hp with hp|⟨j,hj,hjk,hp⟩
            · left
              refine ⟨hp,?_⟩
              rw [← q3]
              cases fu with
              | zero=>rfl
              | succ fu =>
                rw [chn,y76,if_neg (by omega)]
            · right
              have:=hJ.inn _ (y44 hj)
              refine ⟨by omega,?_,by omega,j,hj,hp.symm,by omega⟩
              obtain ⟨fu,rfl⟩:∃ m,fu=m+1:=⟨fu - 1,by omega⟩
              rw [chn,y76,if_pos (by omega)] at q3
              rw [← q3]
              simp
          have hvb : -1≤P.getD w 0∧P.getD w 0 < rows.length:=by
            rcases hnext with ⟨h,_⟩|⟨h,_,_,j,hj,hp2,_⟩
            · omega
            · have:=hJ.inn _ (y44 hj)
              omega
          clear hp
          generalize P.getD w 0=v at *
          repeat' ((first|(apply y4 ok;rfl)|(refine z15 (i:=w) rfl gw ?_)|(apply y43;first|omega|((try dsimp only);simp only [y49,y48,y47,y46,y57,y58];omega)|exact ⟨rfl,z20 rfl z29⟩))<;>conv=>whnf)
          all_goals refine z21 (fu,ac++[(w:Int)],v) ⟨by simp only [y47,List.length_singleton];omega,?_⟩ ?_ (by refine swR [0,3] [] rfl rfl ?_;(repeat' first|exact y85 _|exact z9 _|(refine z60 ?_;((simp;done)))|((first|refine z40 rfl ?_ ?_|refine z10 rfl ?_ ?_);(focus ((repeat' (first|exact z4 (fun _=>rfl)|apply z22));done)))|(refine z84 ?_ ?_;(focus (omega)))|constructor))
          all_goals dsimp only
          all_goals first|(rcases hnext with ⟨h1,h2⟩|h1<;>first|exact .inr ⟨h1,h2⟩|exact .inl h1)|(rw [if_pos (show (0:Int)≤w by omega)];split<;>omega)
        · have cr:=z591 ac (by omega) (by omega)
          have cc:=z210 (rvs ac) (by rw [z415];omega)
          have el:=z415 ac
          rw [← rvs_eq]
          generalize rvs ac=D at *
          rw [el] at cc ⊢
          repeat' ((first|(apply y4 ok;rfl)|((first|(apply z77 [1] [] cr;rfl;(focus ((repeat' first|exact z28|apply z35)<;>(refine z54 rfl ?_;((exact z4 fun _=>rfl))))))|(apply z77 [1] [] cc;rfl;(focus ((repeat' first|exact z28|apply z35)<;>(refine z54 rfl ?_;((exact z4 fun _=>rfl)))))));rfl;(focus ((repeat' first|exact z12|apply z11)<;>(refine z17 ?_;((exact z4 fun _=>rfl)))))))<;>conv=>whnf)
          all_goals (refine rsD [1] [] rfl ?_;(repeat' first|exact y85 _|exact z9 _|refine z10 rfl (z4 (fun _=>rfl)) ?_|constructor))
    · have hG:=(y71 _).mp hG
      rw [hG] at cf
      have hno2:∀ k (_:k < i+1) (h:k < (srS rows ini (i+1)).1.length),G ((srS rows ini (i+1)).1[k])=false:=by
        obtain ⟨t,ht⟩:=z633 (rows:=rows) (ini:=ini) (show i≤i+1 by omega)
        intro k hk h
        have hki:k < (srS rows ini i).1.length:=by omega
        have e:(srS rows ini (i+1)).1[k]=(srS rows ini i).1[k]:=by
          simp only [ht,List.getElem_append_left hki]
        rw [e]
        by_cases hk3:k < i
        · exact hno k hk3 hki
        · obtain rfl:k=i:=by omega
          exact hG
      have hile:i+1≤rows.length:=by omega
      have hJv:=fun l hl=>PJ.visPs (N:=rows.length) l hJ hi2 rfl hl
      clear hfnd hpre hno
      generalize hS' : srS rows ini (i+1)=S' at *
      generalize hS:srS rows ini i=S at *
      obtain ⟨Q,P⟩:=S
      dsimp only at *
      have hi4:i < Q.length:=hi2
      generalize hxx:Q[i]=x at *
      obtain ⟨u,rfl⟩:∃ u:Nat,x=u:=⟨x.toNat,by omega⟩
      rw [y76] at hnx
      have hu:u < rows.length:=by omega
      have gr:=z510 hu
      have hrow:=z215 hr (u:Int)
      rw [y76] at hrow
      have hrowl:(rows.getD u []).length≤1000000000:=by rw [z19 hu];exact hrl _ (y44 _)
      generalize rows.getD u []=row at *
      repeat' ((first|(apply y4 ok;rfl)|(refine z15 (i:=i) rfl gx ?_)|(refine z15 (i:=u) rfl gr ?_)|(apply y43;omega)|((apply z5)<;>intro _)|(apply z6 (cf);rfl;rfl))<;>conv=>whnf)
      all_goals try (exfalso;omega)
      all_goals
        refine z58 (fun j:Nat=>([(0,lst 1 encL rows),(2,.fn (.func f) [] [.pt c1]),(7,.sref 0 0 rows.length),(9,.sref 1 0 (visPs (u:Int) (Q,P) (row.take j)).1.length),(12,.int i),(76,ints row),(77,.int row.length),(78,.int j)],[.cells 1 ((frm rows.length (visPs (u:Int) (Q,P) (row.take j)).1 (visPs (u:Int) (Q,P) (row.take j)).2).map enI),.cells 1 ((visPs (u:Int) (Q,P) (row.take j)).1.map enI)])) (fun j=>j≤row.length) (fun j=>row.length - j) 0 (y53 _) (by refine swR [0,1] [] rfl rfl ?_;(repeat' first|exact y85 _|exact z9 _|refine z10 rfl (z4 (fun _=>rfl)) ?_|constructor)<;>(fail)) ?_
        intro j hj
        obtain ⟨hJj,hij,hxj⟩:=hJv (row.take j) (fun x hx=>hrow x (List.mem_of_mem_take hx))
        have hQjl:(visPs (u:Int) (Q,P) (row.take j)).1.length≤rows.length:=z202 _ _ hJj.nd hJj.inn
        have gxj:((visPs (u:Int) (Q,P) (row.take j)).1.map enI)[i]?=some (enI (u:Int)):=by
          rw [y51,y45 hij,hxj];rfl
        by_cases hj2:j < row.length
        · have gj:(row.map enI)[j]?=some (enI row[j]):=by rw [y51,y45 hj2];rfl
          have hv:=hrow _ (y44 hj2)
          have et:=z584 (u:=(u:Int)) (x:=(Q,P)) hj2
          have hge:=hJj.pre
          generalize hT' : visPs (u:Int) (Q,P) (row.take (j+1))=T' at *
          generalize hT:visPs (u:Int) (Q,P) (row.take j)=T at *
          generalize row[j]=v at *
          obtain ⟨w,rfl⟩:∃ w:Nat,v=w:=⟨v.toNat,by omega⟩
          have hw:w < rows.length:=by omega
          have gw:=z424 T.1 T.2 hw
          have lw:=z423 rows.length T.1 T.2
          have hTl:=hJj.len
          by_cases hm:(w:Int)∈T.1
          · rw [z357 hm] at et
            rw [if_pos hm] at gw
            have hwv : -1≤T.2.getD w 0:=by
              obtain ⟨k,hk,ek⟩:=List.mem_iff_getElem.1 hm
              have h1:=hge k hk
              rw [ek,y76] at h1
              rcases h1 with h1|⟨y,hy,_,h1⟩
              · omega
              · have:=hJj.inn _ (y44 hy);omega
            generalize T.2.getD w 0=pv at *
            repeat' ((first|(apply y4 ok;rfl)|(refine z15 (i:=j) rfl gj ?_)|(refine z15 (i:=w) rfl gw ?_)|(apply y43;first|omega|(unfold inI;omega))|(((apply z13;omega));intro _)|((apply z5)<;>intro _))<;>conv=>whnf)
            all_goals try (exfalso;omega)
            all_goals refine z21 (j+1) hj2 (by omega) ?_
            all_goals dsimp only
            all_goals rw [hT',et]
            all_goals exact (by refine swR [0,1] [] rfl rfl ?_;(repeat' first|exact y85 _|exact z9 _|refine z10 rfl (z4 (fun _=>rfl)) ?_|constructor))
          · rw [z358 hm,y76] at et
            rw [if_neg hm] at gw
            have e1:=z478 (Q:=T.1) (u:=(u:Int)) hw hTl
            repeat' ((first|(apply y4 ok;rfl)|(refine z15 (i:=j) rfl gj ?_)|(refine z15 (i:=w) rfl gw ?_)|(refine z15 (i:=i) rfl gxj ?_)|(apply y43;first|omega|(unfold inI;omega)|((try dsimp only);simp only [y49,y48,y47,y46,y57,y58];omega)|exact ⟨rfl,z20 rfl z29⟩)|((apply z5)<;>intro _))<;>conv=>whnf)
            all_goals try (exfalso;omega)
            all_goals refine z21 (j+1) hj2 (by omega) ?_
            all_goals dsimp only
            all_goals rw [hT',et]
            all_goals dsimp only
            all_goals exact (by refine swR [0,3] [] rfl rfl ?_;(repeat' first|exact y85 _|(refine z60 ?_;((simp;done)))|((first|refine z40 rfl ?_ ?_|refine z50 rfl ?_ ?_);(focus ((repeat' (first|exact z4 (fun _=>rfl)|apply z22));done)))|(refine z84 ?_ ?_;(focus (omega)))|constructor)<;>((refine z45 ?_;exact e1)))
        obtain rfl:j=row.length:=by omega
        rw [y55,← hnx] at *
        repeat' ((first|(apply y4 ok;rfl)|(apply y43;first|omega|(unfold inI;omega))|((first|(with_reducible apply z13;omega)|(apply z13;omega));intro _)|((apply z5)<;>intro _))<;>conv=>whnf)
        all_goals try (exfalso;omega)
        all_goals refine z21 (i+1) ⟨hile,by rw [hS'];exact hno2⟩ (by omega) ?_
        all_goals dsimp only
        all_goals rw [hS']
        all_goals exact (by refine swR [0,1] [] rfl rfl ?_;(repeat' first|exact y85 _|exact z9 _|refine z10 rfl (z4 (fun _=>rfl)) ?_|constructor))
  · rw [z916 (G:=G) (by omega) hi1 (fun k hk=>hno k (by omega) hk)]
    repeat' ((first|(apply y4 ok;rfl)|(apply y43;omega)|(((apply z13;omega));intro _)|((apply z5)<;>intro _))<;>conv=>whnf)
    all_goals try (exfalso;omega)
    all_goals (refine y88 1 ?_;refine rsD [2] [] rfl ?_;(repeat' first|exact z47|refine z10 rfl (z31) ?_|constructor))
set_option maxHeartbeats 12800000 in
theorem z641 (rows : List (List Int)) (ini : List Int) (hr : ∀ r ∈ rows, InN rows.length r) (hi : InN rows.length ini) (hn : ini.Nodup) (hN : rows.length ≤ 100000) (hrl : ∀ r ∈ rows, r.length ≤ 1000000000) (G : Int → Bool) (f : FuncId) (c1 c2 : List AC) (hf : ∀ x : Int, 0 ≤ x → x < rows.length → CallsA Tryz.prog f (.int x :: [.pt c1, .pt c2]) [] (.bool (G x)) []) :
    CallsA Tryz.prog 198 [lst 1 encL rows,ints ini,.fn (.func f) [] [.pt c1,.pt c2]] [] (.sref 0 0 (shL rows ini G).length) [.cells 1 ((shL rows ini G).map enI)]:=by
  have hil:ini.length≤100000:=by have:=z202 rows.length ini hn hi;omega
  refine z7 z16 Tryz.func198 rfl rfl 99 Tryz.ntmps198 (by simp) ?_
  repeat' ((first|(apply y4 ok;rfl)|(apply y43;(dsimp only;omega)))<;>conv=>whnf)
  obtain ⟨qm,hqm⟩:∃ qm:Nat→Nat→Int,qm=fun i j=>if j < i then -2 else 0:=⟨_,rfl⟩
  have q0:qm 0=fun _=>0:=by rw [hqm];rfl
  have qE:(fnL rows.length (qm rows.length)).map enI=(frm rows.length [] (List.replicate rows.length (-1))).map enI:=by
    rw [z1164]
    congr 1
    apply y74 (by simp [fnL])
    intro i h1 h2
    rw [z672,hqm]
    have hi' : i < rows.length:=by rw [z114] at h1;exact h1
    dsimp only
    rw [if_pos hi'];simp
  have qS:∀ i,qm (i+1)=upd (qm i) i (-2):=fun i=>by
    funext j
    by_cases h:j=i
    · subst h;rw [z34,hqm];dsimp only;rw [if_pos (by omega)]
    · rw [z53 _ _ h,hqm];dsimp only;split<;>split<;>first|rfl|omega
  clear hqm
  refine z58 (fun i:Nat=>([(0,lst 1 encL rows),(1,ints ini),(2,.fn (.func f) [] [.pt c1,.pt c2]),(7,.sref 0 0 rows.length),(21,.int rows.length),(22,.int i)],[.cells 1 ((fnL rows.length (qm i)).map enI)])) (fun i=>i≤rows.length) (fun i=>rows.length - i) 0 (y53 _) (by refine swR [0] [] rfl rfl ?_;(repeat' first|exact y85 _|refine z10 rfl (z69 rfl) ?_|constructor)<;>((refine z45 ?_;rw [q0];exact z320 _))) ?_
  intro i hi1
  by_cases hi2:i < rows.length
  · have g1:=z179 (qm i) hi2
    have l1:=z114 rows.length (qm i)
    have e1:=z158 (N:=rows.length) (u:=i) (qm i) (-2)
    rw [← qS] at e1
    repeat' ((first|(apply y4 ok;rfl)|(refine z15 (i:=i) rfl g1 ?_)|(apply y43;first|omega|(unfold inI;omega))|((apply z5)<;>intro _))<;>conv=>whnf)
    all_goals try (exfalso;omega)
    all_goals refine z21 (i+1) hi2 (by omega) (by refine swR [0] [] rfl rfl ?_;(repeat' first|exact y85 _|refine z50 rfl (z4 (fun _=>rfl)) ?_|constructor)<;>((refine z45 ?_;exact e1)))
  obtain rfl:i=rows.length:=by omega
  rw [qE]
  clear qE qS q0
  repeat' ((first|(apply y4 ok;rfl)|(apply y43;omega)|(((apply z13;omega));intro _)|((apply z5)<;>intro _))<;>conv=>whnf)
  all_goals try (exfalso;omega)
  refine y84 (y87 1 rfl) ?_
  have hrep:(List.replicate rows.length (-1:Int)).length=rows.length:=by simp
  have hrs:∀ w,(List.replicate rows.length (-1:Int)).set w (-1)=List.replicate rows.length (-1):=fun w=>by
    apply y74 (by simp)
    intro i h1 h2
    rw [List.getElem_set]
    split<;>simp
  have hS0:(frm rows.length ini (List.replicate rows.length (-1)))=frm rows.length (srS rows ini 0).1 (srS rows ini 0).2:=rfl
  generalize List.replicate rows.length (-1:Int)=P0 at *
  refine z58 (fun k:Nat=>([(0,lst 1 encL rows),(2,.fn (.func f) [] [.pt c1,.pt c2]),(7,.sref 0 0 rows.length),(9,.sref 1 0 (ini.take k).length),(29,ints ini),(30,.int ini.length),(31,.int k)],[.cells 1 ((frm rows.length (ini.take k) P0).map enI),.cells 1 ((ini.take k).map enI)])) (fun k=>k≤ini.length) (fun k=>ini.length - k) 0 (y53 _) (by refine swR [0,1] [] rfl rfl ?_;(repeat' first|exact y85 _|exact z47|exact z9 _|((refine z10 rfl ?_ ?_);(focus ((repeat' (first|exact z31|exact z4 (fun _=>rfl)));done)))|constructor)) ?_
  intro k hk
  by_cases hk2:k < ini.length
  · have gk:(ini.map enI)[k]?=some (enI ini[k]):=by rw [y51,y45 hk2];rfl
    have hv:=hi _ (y44 hk2)
    have et:ini.take (k+1)=ini.take k++[ini[k]]:=y50 hk2
    have htl:(ini.take k).length≤100000:=by rw [y48];omega
    generalize hQ' : ini.take (k+1)=Q' at *
    generalize hQ:ini.take k=Q at *
    generalize ini[k]=v at *
    obtain ⟨w,rfl⟩:∃ w:Nat,v=w:=⟨v.toNat,by omega⟩
    have hw:w < rows.length:=by omega
    have g1:=z424 Q P0 hw
    have l1:=z423 rows.length Q P0
    have e1:=z478 (Q:=Q) (u:=-1) hw hrep
    rw [hrs,← et] at e1
    subst et
    repeat' ((first|(apply y4 ok;rfl)|(refine z15 (i:=k) rfl gk ?_)|(refine z15 (i:=w) rfl g1 ?_)|(apply y43;first|omega|(unfold inI;omega)|((try dsimp only);simp only [y49,y48,y47,y46,y57,y58];omega)|exact ⟨rfl,z20 rfl z29⟩)|((apply z5)<;>intro _))<;>conv=>whnf)
    all_goals try (exfalso;omega)
    all_goals refine z21 (k+1) hk2 (by omega) ?_
    all_goals dsimp only
    all_goals rw [hQ']
    all_goals exact (by refine swR [0,3] [] rfl rfl ?_;(repeat' first|exact y85 _|(refine z60 ?_;((simp;done)))|((first|refine z40 rfl ?_ ?_|refine z50 rfl ?_ ?_);(focus ((repeat' (first|exact z4 (fun _=>rfl)|apply z22));done)))|(refine z84 ?_ ?_;(focus (omega)))|constructor)<;>((refine z45 ?_;exact e1)))
  obtain rfl:k=ini.length:=by omega
  rw [y55,hS0]
  repeat' ((first|(apply y4 ok;rfl)|(apply y43;omega)|((first|(with_reducible apply z13;omega)|(apply z13;omega));intro _)|((apply z5)<;>intro _))<;>conv=>whnf)
  all_goals try (exfalso;omega)
  refine z58 (fun i:Nat=>([(0,lst 1 encL rows),(2,.fn (.func f) [] [.pt c1,.pt c2]),(7,.sref 0 0 rows.length),(9,.sref 1 0 (srS rows ini i).1.length),(12,.int i)],[.cells 1 ((frm rows.length (srS rows ini i).1 (srS rows ini i).2).map enI),.cells 1 ((srS rows ini i).1.map enI)])) (fun i=>i≤rows.length∧∀ k (_:k < i) (h:k < (srS rows ini i).1.length),G ((srS rows ini i).1[k])=false) (fun i=>rows.length+1 - i) 0 ⟨y53 _,fun k h=>by omega⟩ (by refine swR [0,1] [] rfl rfl ?_;(repeat' first|exact y85 _|exact z9 _|refine z10 rfl (z4 (fun _=>rfl)) ?_|constructor)<;>(fail)) ?_
  rintro i ⟨hi1,hno⟩
  have hJ:=z370 hr hi hn i
  have hQl:=z634 hr hi hn i
  by_cases hi2:i < (srS rows ini i).1.length
  · have hx:=hJ.inn _ (y44 hi2)
    have cf:=hf _ hx.1 hx.2
    have gx:((srS rows ini i).1.map enI)[i]?=some (enI (srS rows ini i).1[i]):=by rw [y51,y45 hi2];rfl
    have hnx:srS rows ini (i+1)=visPs (srS rows ini i).1[i] (srS rows ini i) (rows.getD ((srS rows ini i).1[i]).toNat []):=by rw [srS,dif_pos hi2]
    have hfnd:=fun h=>z718 hr hi hn (G:=G) hi2 h (fun k hk=>hno k hk (by omega))
    have hpre:=z356 (srS rows ini i).1[i] (rows.getD ((srS rows ini i).1[i]).toNat []) (srS rows ini i)
    by_cases hG:G (srS rows ini i).1[i]=true
    · rw [hfnd hG,z886,y64]
      have hq0:∃ k,∃ h:k < (srS rows ini i).1.length,(srS rows ini i).1[k]=(srS rows ini i).1[i]∧k≤rows.length:=⟨i,hi2,rfl,hi1⟩
      rw [hG] at cf
      clear hfnd hnx hpre hno
      generalize hS:srS rows ini i=S at *
      obtain ⟨Q,P⟩:=S
      dsimp only at *
      have hi4:i < Q.length:=hi2
      generalize Q[i]=x at *
      repeat' ((first|(apply y4 ok;rfl)|(refine z15 (i:=i) rfl gx ?_)|(apply y43;omega)|((apply z5)<;>intro _)|(apply z6 (cf);rfl;rfl))<;>conv=>whnf)
      all_goals try (exfalso;omega)
      all_goals
        refine y84 (y87 1 rfl) ?_
        have hB1:=z881 P rows.length x
        generalize hB:chn P rows.length x=B at *
        refine z58 (fun y:Nat×List Int×Int=>([(7,.sref 0 0 rows.length),(13,.int y.2.2),(14,.sref 1 0 y.2.1.length)],[.cells 1 ((frm rows.length Q P).map enI),.cells 1 (y.2.1.map enI)])) (fun y=>y.2.1.length+y.1≤rows.length+1∧((0≤y.2.2∧y.2.1++chn P (y.1 - 1) y.2.2=B∧1≤y.1∧∃ k,∃ h:k < Q.length,Q[k]=y.2.2∧k+1≤y.1)∨(y.2.2=-1∧y.2.1=B))) (fun y=>y.1+(if 0≤y.2.2 then 1 else 0)) (rows.length+1,[],x) ⟨by simp,.inl ⟨hx.1,by simpa using hB,by omega,by obtain ⟨k,h,h1,h2⟩:=hq0;exact ⟨k,h,h1,by omega⟩⟩⟩ (by refine swR [0,2] [] rfl rfl ?_;(repeat' first|exact y85 _|exact z47|exact z9 _|((refine z10 rfl ?_ ?_);(focus ((repeat' (first|exact z31|exact z4 (fun _=>rfl)));done)))|constructor)) ?_
        rintro ⟨fu,ac,u⟩ ⟨q1,q2⟩
        dsimp only at q1 q2 ⊢
        rcases q2 with ⟨q2,q3,q4,k,hk,q5,q6⟩|⟨rfl,rfl⟩
        · have huN:=hJ.inn u (q5 ▸ y44 hk)
          obtain ⟨w,rfl⟩:∃ w:Nat,u=w:=⟨u.toNat,by omega⟩
          have hw:w < rows.length:=by omega
          have gw:=z424 Q P hw
          rw [if_pos (q5 ▸ y44 hk)] at gw
          have lw:=z423 rows.length Q P
          have hp:=hJ.pre k hk
          rw [q5,y76] at hp
          dsimp only at hp
          obtain ⟨fu,rfl⟩:∃ m,fu=m+1:=⟨fu - 1,by omega⟩
          rw [Nat.add_sub_cancel] at q3
          have hnext:P.getD w 0=-1∧ac++[(w:Int)]=B∨(0≤P.getD w 0∧(ac++[(w:Int)])++chn P (fu - 1) (P.getD w 0)=B∧1≤fu∧∃ k,∃ h:k < Q.length,Q[k]=P.getD w 0∧k+1≤fu):=by
            rcases hp with hp|⟨j,hj,hjk,hp⟩
            · left
              refine ⟨hp,?_⟩
              rw [← q3]
              cases fu with
              | zero=>rfl
              | succ fu =>
                rw [chn,y76,if_neg (by omega)]
            · right
              have:=hJ.inn _ (y44 hj)
              refine ⟨by omega,?_,by omega,j,hj,hp.symm,by omega⟩
              obtain ⟨fu,rfl⟩:∃ m,fu=m+1:=⟨fu - 1,by omega⟩
              rw [chn,y76,if_pos (by omega)] at q3
              rw [← q3]
              simp
          have hvb : -1≤P.getD w 0∧P.getD w 0 < rows.length:=by
            rcases hnext with ⟨h,_⟩|⟨h,_,_,j,hj,hp2,_⟩
            · omega
            · have:=hJ.inn _ (y44 hj)
              omega
          clear hp
          generalize P.getD w 0=v at *
          repeat' ((first|(apply y4 ok;rfl)|(refine z15 (i:=w) rfl gw ?_)|(apply y43;first|omega|((try dsimp only);simp only [y49,y48,y47,y46,y57,y58];omega)|exact ⟨rfl,z20 rfl z29⟩))<;>conv=>whnf)
          all_goals refine z21 (fu,ac++[(w:Int)],v) ⟨by simp only [y47,List.length_singleton];omega,?_⟩ ?_ (by refine swR [0,3] [] rfl rfl ?_;(repeat' first|exact y85 _|exact z9 _|(refine z60 ?_;((simp;done)))|((first|refine z40 rfl ?_ ?_|refine z10 rfl ?_ ?_);(focus ((repeat' (first|exact z4 (fun _=>rfl)|apply z22));done)))|(refine z84 ?_ ?_;(focus (omega)))|constructor))
          all_goals dsimp only
          all_goals first|(rcases hnext with ⟨h1,h2⟩|h1<;>first|exact .inr ⟨h1,h2⟩|exact .inl h1)|(rw [if_pos (show (0:Int)≤w by omega)];split<;>omega)
        · have cr:=z591 ac (by omega) (by omega)
          have cc:=z210 (rvs ac) (by rw [z415];omega)
          have el:=z415 ac
          rw [← rvs_eq]
          generalize rvs ac=D at *
          rw [el] at cc ⊢
          repeat' ((first|(apply y4 ok;rfl)|((first|(apply z77 [1] [] cr;rfl;(focus ((repeat' first|exact z28|apply z35)<;>(refine z54 rfl ?_;((exact z4 fun _=>rfl))))))|(apply z77 [1] [] cc;rfl;(focus ((repeat' first|exact z28|apply z35)<;>(refine z54 rfl ?_;((exact z4 fun _=>rfl)))))));rfl;(focus ((repeat' first|exact z12|apply z11)<;>(refine z17 ?_;((exact z4 fun _=>rfl)))))))<;>conv=>whnf)
          all_goals (refine rsD [1] [] rfl ?_;(repeat' first|exact y85 _|exact z9 _|refine z10 rfl (z4 (fun _=>rfl)) ?_|constructor))
    · have hG:=(y71 _).mp hG
      rw [hG] at cf
      have hno2:∀ k (_:k < i+1) (h:k < (srS rows ini (i+1)).1.length),G ((srS rows ini (i+1)).1[k])=false:=by
        obtain ⟨t,ht⟩:=z633 (rows:=rows) (ini:=ini) (show i≤i+1 by omega)
        intro k hk h
        have hki:k < (srS rows ini i).1.length:=by omega
        have e:(srS rows ini (i+1)).1[k]=(srS rows ini i).1[k]:=by
          simp only [ht,List.getElem_append_left hki]
        rw [e]
        by_cases hk3:k < i
        · exact hno k hk3 hki
        · obtain rfl:k=i:=by omega
          exact hG
      have hile:i+1≤rows.length:=by omega
      have hJv:=fun l hl=>PJ.visPs (N:=rows.length) l hJ hi2 rfl hl
      clear hfnd hpre hno
      generalize hS' : srS rows ini (i+1)=S' at *
      generalize hS:srS rows ini i=S at *
      obtain ⟨Q,P⟩:=S
      dsimp only at *
      have hi4:i < Q.length:=hi2
      generalize hxx:Q[i]=x at *
      obtain ⟨u,rfl⟩:∃ u:Nat,x=u:=⟨x.toNat,by omega⟩
      rw [y76] at hnx
      have hu:u < rows.length:=by omega
      have gr:=z510 hu
      have hrow:=z215 hr (u:Int)
      rw [y76] at hrow
      have hrowl:(rows.getD u []).length≤1000000000:=by rw [z19 hu];exact hrl _ (y44 _)
      generalize rows.getD u []=row at *
      repeat' ((first|(apply y4 ok;rfl)|(refine z15 (i:=i) rfl gx ?_)|(refine z15 (i:=u) rfl gr ?_)|(apply y43;omega)|((apply z5)<;>intro _)|(apply z6 (cf);rfl;rfl))<;>conv=>whnf)
      all_goals try (exfalso;omega)
      all_goals
        refine z58 (fun j:Nat=>([(0,lst 1 encL rows),(2,.fn (.func f) [] [.pt c1,.pt c2]),(7,.sref 0 0 rows.length),(9,.sref 1 0 (visPs (u:Int) (Q,P) (row.take j)).1.length),(12,.int i),(76,ints row),(77,.int row.length),(78,.int j)],[.cells 1 ((frm rows.length (visPs (u:Int) (Q,P) (row.take j)).1 (visPs (u:Int) (Q,P) (row.take j)).2).map enI),.cells 1 ((visPs (u:Int) (Q,P) (row.take j)).1.map enI)])) (fun j=>j≤row.length) (fun j=>row.length - j) 0 (y53 _) (by refine swR [0,1] [] rfl rfl ?_;(repeat' first|exact y85 _|exact z9 _|refine z10 rfl (z4 (fun _=>rfl)) ?_|constructor)<;>(fail)) ?_
        intro j hj
        obtain ⟨hJj,hij,hxj⟩:=hJv (row.take j) (fun x hx=>hrow x (List.mem_of_mem_take hx))
        have hQjl:(visPs (u:Int) (Q,P) (row.take j)).1.length≤rows.length:=z202 _ _ hJj.nd hJj.inn
        have gxj:((visPs (u:Int) (Q,P) (row.take j)).1.map enI)[i]?=some (enI (u:Int)):=by
          rw [y51,y45 hij,hxj];rfl
        by_cases hj2:j < row.length
        · have gj:(row.map enI)[j]?=some (enI row[j]):=by rw [y51,y45 hj2];rfl
          have hv:=hrow _ (y44 hj2)
          have et:=z584 (u:=(u:Int)) (x:=(Q,P)) hj2
          have hge:=hJj.pre
          generalize hT' : visPs (u:Int) (Q,P) (row.take (j+1))=T' at *
          generalize hT:visPs (u:Int) (Q,P) (row.take j)=T at *
          generalize row[j]=v at *
          obtain ⟨w,rfl⟩:∃ w:Nat,v=w:=⟨v.toNat,by omega⟩
          have hw:w < rows.length:=by omega
          have gw:=z424 T.1 T.2 hw
          have lw:=z423 rows.length T.1 T.2
          have hTl:=hJj.len
          by_cases hm:(w:Int)∈T.1
          · rw [z357 hm] at et
            rw [if_pos hm] at gw
            have hwv : -1≤T.2.getD w 0:=by
              obtain ⟨k,hk,ek⟩:=List.mem_iff_getElem.1 hm
              have h1:=hge k hk
              rw [ek,y76] at h1
              rcases h1 with h1|⟨y,hy,_,h1⟩
              · omega
              · have:=hJj.inn _ (y44 hy);omega
            generalize T.2.getD w 0=pv at *
            repeat' ((first|(apply y4 ok;rfl)|(refine z15 (i:=j) rfl gj ?_)|(refine z15 (i:=w) rfl gw ?_)|(apply y43;first|omega|(unfold inI;omega))|(((apply z13;omega));intro _)|((apply z5)<;>intro _))<;>conv=>whnf)
            all_goals try (exfalso;omega)
            all_goals refine z21 (j+1) hj2 (by omega) ?_
            all_goals dsimp only
            all_goals rw [hT',et]
            all_goals exact (by refine swR [0,1] [] rfl rfl ?_;(repeat' first|exact y85 _|exact z9 _|refine z10 rfl (z4 (fun _=>rfl)) ?_|constructor))
          · rw [z358 hm,y76] at et
            rw [if_neg hm] at gw
            have e1:=z478 (Q:=T.1) (u:=(u:Int)) hw hTl
            repeat' ((first|(apply y4 ok;rfl)|(refine z15 (i:=j) rfl gj ?_)|(refine z15 (i:=w) rfl gw ?_)|(refine z15 (i:=i) rfl gxj ?_)|(apply y43;first|omega|(unfold inI;omega)|((try dsimp only);simp only [y49,y48,y47,y46,y57,y58];omega)|exact ⟨rfl,z20 rfl z29⟩)|((apply z5)<;>intro _))<;>conv=>whnf)
            all_goals try (exfalso;omega)
            all_goals refine z21 (j+1) hj2 (by omega) ?_
            all_goals dsimp only
            all_goals rw [hT',et]
            all_goals dsimp only
            all_goals exact (by refine swR [0,3] [] rfl rfl ?_;(repeat' first|exact y85 _|(refine z60 ?_;((simp;done)))|((first|refine z40 rfl ?_ ?_|refine z50 rfl ?_ ?_);(focus ((repeat' (first|exact z4 (fun _=>rfl)|apply z22));done)))|(refine z84 ?_ ?_;(focus (omega)))|constructor)<;>((refine z45 ?_;exact e1)))
        obtain rfl:j=row.length:=by omega
        rw [y55,← hnx] at *
        repeat' ((first|(apply y4 ok;rfl)|(apply y43;first|omega|(unfold inI;omega))|((first|(with_reducible apply z13;omega)|(apply z13;omega));intro _)|((apply z5)<;>intro _))<;>conv=>whnf)
        all_goals try (exfalso;omega)
        all_goals refine z21 (i+1) ⟨hile,by rw [hS'];exact hno2⟩ (by omega) ?_
        all_goals dsimp only
        all_goals rw [hS']
        all_goals exact (by refine swR [0,1] [] rfl rfl ?_;(repeat' first|exact y85 _|exact z9 _|refine z10 rfl (z4 (fun _=>rfl)) ?_|constructor))
  · rw [z916 (G:=G) (by omega) hi1 (fun k hk=>hno k (by omega) hk)]
    repeat' ((first|(apply y4 ok;rfl)|(apply y43;omega)|(((apply z13;omega));intro _)|((apply z5)<;>intro _))<;>conv=>whnf)
    all_goals try (exfalso;omega)
    all_goals (refine y88 1 ?_;refine rsD [2] [] rfl ?_;(repeat' first|exact z47|refine z10 rfl (z31) ?_|constructor))
end Go.Proofs.YtnfoijopccdjeaaGreat
namespace Go.Proofs.YtnfoijopccdjeaaGreat
open Go.Gl
attribute [local irreducible] z18 AWP z30 z36 z32
theorem z457 {d : Int} (l : List Tree) (hl : l.length ≤ maxLen) (p : Tree → Int → Bool) (nx : Tree → Int → Int) (okS : Int → Prop) (hok : ∀ x s, okS s → p x s = false → okS (nx x s)) (f : FuncId) (s : Int) (h0 : okS s)
    (hf:∀ x∈l,∀ s,okS s→CallsA Tryz.prog f [z24 Tree.cs' x,.pt [.int d],.ptr 1 none 0] [.cells 1 [[.int s]],.cells 1 [[.ptr 0 none 0]]] (.bool (p x s)) [.cells 1 [[.int (nx x s)]],.cells 1 [[.ptr 0 none 0]]]) :
    CallsA Tryz.prog 256 [lst 3 Tree.cs' l,.fn (.func f) [] [.pt [.int d],.ptr 1 none 0]] [.cells 1 [[.int s]],.cells 1 [[.ptr 0 none 0]]] (.int (idxS p nx l s 0).1) [.cells 1 [[.int (idxS p nx l s 0).2]],.cells 1 [[.ptr 0 none 0]]]:=by
  unfold maxLen at hl
  refine z14 z16 Tryz.func256 rfl rfl 19 Tryz.ntmps256 (by simp) ?_
  repeat' ((apply y4 ok;rfl;conv=>whnf))
  refine z134 (fun x:Nat×Int=>([(0,lst 3 Tree.cs' l),(1,.fn (.func f) [] [.pt [.int d],.ptr 1 none 0]),(7,.int l.length),(8,.int x.1)],[.cells 1 [[.int x.2]],.cells 1 [[.ptr 0 none 0]]])) (fun x=>x.1≤l.length∧okS x.2∧idxS p nx l s 0=idxS p nx (l.drop x.1) x.2 x.1) (fun x=>l.length - x.1) (0,s) ⟨by omega,h0,rfl⟩
    ⟨[0,1],rfl,by decide,rfl,⟨⟨rfl,rfl⟩,⟨rfl,rfl⟩,⟨rfl,rfl⟩,⟨rfl,rfl⟩,trivial⟩,⟨z42 rfl rfl,z42 rfl rfl,trivial⟩⟩ ?_
  rintro ⟨k,t⟩ ⟨hk1,hk2,hk3⟩
  dsimp only at hk1 hk2 hk3
  repeat' (first|(apply y4 ok;rfl;conv=>whnf)|(apply y43;(first|omega|(unfold inI;omega));conv=>whnf)|(with_reducible apply z13;omega;intro _;conv=>whnf)|(apply z5<;>intro _<;>conv=>whnf)|(apply z91<;>intro _<;>conv=>whnf)|(apply z97 [0,1] [] [] (hf l[k] (y44 _) t hk2);rfl;(focus ((repeat' (first|exact z28|apply z35))<;>(rfl)));rfl;rfl;rfl;rfl;rfl;(focus ((repeat' (first|exact z12|apply z11))<;>(exact z33 rfl rfl)));(exact .inl rfl);conv=>whnf))
  · rename_i h hkl h1
    rw [y79 hkl,idxS,if_pos h1] at hk3
    rw [hk3]
    exact z88 [0,1] (by decide) rfl rfl rfl ⟨z42 rfl rfl,z42 rfl rfl,trivial⟩
  · rename_i h hkl h1
    rw [y79 hkl,idxS,if_neg (by rw [h1];simp)] at hk3
    exact z117 (k+1,nx l[k] t) [0,1] ⟨by dsimp only;omega,hok _ _ hk2 h1,hk3⟩ (by dsimp only;omega) ⟨rfl,by decide,rfl,⟨⟨rfl,rfl⟩,⟨rfl,rfl⟩,⟨rfl,rfl⟩,⟨rfl,rfl⟩,trivial⟩,⟨z42 rfl rfl,z42 rfl rfl,trivial⟩⟩
  · rw [y83 (by omega),idxS] at hk3
    rw [hk3]
    exact z88 [0,1] (by decide) rfl rfl rfl ⟨z42 rfl rfl,z42 rfl rfl,trivial⟩
theorem z784 {d : Int} (l : List Tree) (hl : l.length ≤ maxLen) (p : Tree → Int → Bool) (nx : Tree → Int → Int) (okS : Int → Prop) (hok : ∀ x s, okS s → p x s = false → okS (nx x s)) (f : FuncId) (s : Int) (h0 : okS s)
    (hf:∀ x∈l,∀ s,okS s→CallsA Tryz.prog f [z24 Tree.cs' x,.pt [.int d],.ptr 1 none 0] [.cells 1 [[.int s]],.cells 1 [[.ptr 0 none 0]]] (.bool (p x s)) [.cells 1 [[.int (nx x s)]],.cells 1 [[.ptr 0 none 0]]]) :
    CallsA Tryz.prog 218 [lst 3 Tree.cs' l,.fn (.func f) [] [.pt [.int d],.ptr 1 none 0]] [.cells 1 [[.int s]],.cells 1 [[.ptr 0 none 0]]] (.bool (decide (0≤(idxS p nx l s 0).1))) [.cells 1 [[.int (idxS p nx l s 0).2]],.cells 1 [[.ptr 0 none 0]]]:=by
  refine z14 z16 Tryz.func218 rfl rfl 9 Tryz.ntmps218 (by simp) ?_
  repeat' (first|(apply y4 ok;rfl;conv=>whnf)|(apply z97 [0,1] [] [] (z457 (d:=d) l hl p nx okS hok f s h0 hf);rfl;(focus ((repeat' (first|exact z28|apply z35))<;>(rfl)));rfl;rfl;rfl;rfl;rfl;(focus ((repeat' (first|exact z12|apply z11))<;>(exact z33 rfl rfl)));(exact .inl rfl);conv=>whnf))
  exact z88 [0,1] (by decide) rfl rfl rfl ⟨z42 rfl rfl,z42 rfl rfl,trivial⟩
theorem z848 (k:Int):CallsA Tryz.prog 217 [.int k] [] (.int (if k=1∨k=2 then 0 else if k=4∨k=5∨k=7∨k=8 then 2 else 1)) []:=by
 refine z14 z16 Tryz.func217 rfl rfl 12 Tryz.ntmps217 (by simp) ?_
 repeat' (first|(apply y4 ok;rfl;conv=>whnf)|(apply z5<;>intro _<;>conv=>whnf))
 all_goals (refine z49 rfl rfl ?_;first|(rw [if_pos (by omega)];rfl)|(rw [if_neg (by omega),if_pos (by omega)];rfl)|(rw [if_neg (by omega),if_neg (by omega)];rfl))
theorem walkF_ok (t:Tree):t.mx→∀ d n:Int,0≤d→d≤100→0≤n→n≤12→CallsA Tryz.prog 163 [z24 Tree.cs' t,.int d,.ptr 0 none 0] [.cells 1 [[.int n]]] (.bool (t.walkF d n).2) [.cells 1 [[.int (t.walkF d n).1]]]:=by
  induction t using y26 with|h t ih=>?_
  intro hm d n hd0 hd1 h0 h1
  rw [y30] at hm
  have hs:=Tree.walkF_spec.1
  have hk:d≤6→n+1≤12→CallsA Tryz.prog 218 [lst 3 Tree.cs' t.kids,.fn (.func 219) [] [.pt [.int d],.ptr 1 none 0]] [.cells 1 [[.int (n+1)]],.cells 1 [[.ptr 0 none 0]]] (.bool (!(Tree.walkFs t.kids (d+1) (n+1)).2)) [.cells 1 [[.int (Tree.walkFs t.kids (d+1) (n+1)).1]],.cells 1 [[.ptr 0 none 0]]]:=by
    intro hd hn
    have h:=z784 (d:=d) t.kids hm.1 (fun x s=>!(x.walkF (d+1) s).2) (fun x s=>(x.walkF (d+1) s).1) (fun s=>0≤s∧s≤12) (fun x s h1 h2=>by
      obtain ⟨a1,a2,a3,a4⟩:=hs x (d+1) s h1.1 h1.2
      have h3:(x.walkF (d+1) s).2=true:=by simpa using h2
      have:=(a1.1 h3).2
      rw [← a2 h3] at this
      exact ⟨by omega,this⟩) 219 (n+1) ⟨by omega,by omega⟩ (fun x hx s h=>by
        have hc:=ih x hx (hm.2 x hx) (d+1) s (by omega) (by omega) h.1 h.2
        refine z14 z16 Tryz.func219 rfl rfl 11 Tryz.ntmps219 (by simp) ?_
        repeat' (first|(apply y4 ok;rfl;conv=>whnf)|(apply y43;((unfold inI;omega));conv=>whnf)|(apply z97 [0] [] [] (hc);rfl;(focus ((repeat' (first|exact z28|apply z35))<;>(rfl)));rfl;rfl;rfl;rfl;rfl;(focus ((repeat' (first|exact z12|apply z11))<;>(exact z33 rfl rfl)));(exact .inl rfl);conv=>whnf))
        exact z88 [0,1] (by decide) rfl rfl rfl ⟨z42 rfl rfl,z42 rfl rfl,trivial⟩)
    rw [y42 (d+1) t.kids (n+1) 0,Bool.not_not]
    exact h
  have hk2:=fun h1 h2=>by
    have:=hk h1 h2
    unfold lst at this
    rw [← y17] at this
    exact this
  refine z14 z16 Tryz.func163 rfl rfl 51 Tryz.ntmps163 (by simp) ?_
  repeat' (first|(apply y4 ok;rfl;conv=>whnf)|(apply z26;kernel_rfl;conv=>whnf)|(apply y43;((unfold inI;omega));conv=>whnf)|(apply z5<;>intro _<;>conv=>whnf)|(apply z52<;>intro _<;>conv=>whnf)|(apply z100<;>intro _<;>conv=>whnf)|(apply z6 (z232 _ 1 10);rfl;rfl;conv=>whnf)|(apply z6 (z232 _ 0 2);rfl;rfl;conv=>whnf)|(apply z6 (z232 _ 0 0);rfl;rfl;conv=>whnf)|(apply z6 (z848 t.kind);rfl;rfl;conv=>whnf)|(apply z97 [0,3] [2] [] (hk2 (by omega) (by omega));rfl;(focus ((repeat' (first|exact z28|apply z35))<;>(rfl)));rfl;rfl;rfl;rfl;rfl;(focus ((repeat' (first|exact z12|apply z11))<;>(exact z33 rfl rfl)));((refine .inr ⟨rfl,?_⟩;repeat' (first|exact True.intro|apply y43|exact rfl)));conv=>whnf))
  all_goals first
    | (have e : t.walkF d n = (n + 1, false) := by
        rw [y41,if_neg]
        clear hk hk2 hs ih
        rintro ⟨c1,c2,c3,c4,c5⟩
        try simp only [z304,z116] at *
        unfold z384 at c4
        unfold z180 at c5
        grind
       rw [e]
       exact z88 [0] (by decide) rfl rfl rfl ⟨z42 rfl rfl,trivial⟩)
    | (have e : t.walkF d n = Tree.walkFs t.kids (d + 1) (n + 1) := by
        rw [y41,if_pos]
        clear hk hk2 hs ih
        try simp only [z304,z116] at *
        unfold z384 z180
        grind
       rw [e]
       refine z88 [0] (by decide) rfl rfl ?_ ⟨z42 rfl rfl,trivial⟩
       show AC.raw (.bool (!!_))=_
       rw [Bool.not_not];rfl)
theorem z1009 (t:Tree) (hm:t.mx):CallsA Tryz.prog 103 [z24 Tree.cs' t] [] (.int (if t.fmB=true then (t.walkF 1 0).1 else 0)) []:=by
 have hk:=walkF_ok t hm 1 0 (by omega) (by omega) (by omega) (by omega)
 unfold Tree.fmB
 refine z14 z16 Tryz.func103 rfl rfl 8 Tryz.ntmps103 (by simp) ?_
 repeat' (first|(apply y4 ok;rfl;conv=>whnf)|(apply z100<;>intro _<;>conv=>whnf)|(apply z97 [1] [] [] (hk);rfl;(focus ((repeat' (first|exact z28|apply z35))<;>(rfl)));rfl;rfl;rfl;rfl;rfl;(focus ((repeat' (first|exact z12|apply z11))<;>(exact z33 rfl rfl)));(exact .inl rfl);conv=>whnf))
 all_goals exact z511 rfl (by simp [*])
theorem z113 (t:Tree) (hm:t.mx):CallsA Tryz.prog 42 [z24 Tree.cs' t] [] (.bool t.fmB) []:=by
 have hk:=z1009 t hm
 have e:decide (0 < if t.fmB=true then (t.walkF 1 0).1 else 0)=t.fmB:=by
  by_cases h:t.fmB=true
  ·have h2:=(Tree.walkF_spec.1 t 1 0 (by omega) (by omega)).2.1 h
   have h3:=Tree.count_pos.1 t (7 - 1)
   rw [h,if_pos rfl];exact y81 (by omega)
  ·rw [if_neg h,(y71 _).mp h];rfl
 refine z14 z16 Tryz.func42 rfl rfl 6 Tryz.ntmps42 (by simp) ?_
 repeat' (first|(apply y4 ok;rfl;conv=>whnf)|(apply z6 (hk);rfl;rfl;conv=>whnf))
 all_goals exact z44 rfl e.symm
end Go.Proofs.YtnfoijopccdjeaaGreat
namespace Go.Proofs.YtnfoijopccdjeaaGreat
open Go.Gl
attribute [local irreducible] z18 AWP z30 z36 z32 RetS z38
def isSt (bs:List Int) (i:Int) (q:Int) (t:State) (q' : Int):Prop:=∃ a b:Int,t=⟨[i % 3],[a,b,0]⟩∧q'=q+1+1 ∧
 CallsA Tryz.prog 88 [.ptr 0 none 0,.int 3] [rdO bs q] (.int a) [rdO bs (q+1)]∧CallsA Tryz.prog 88 [.ptr 0 none 0,.int 2] [rdO bs (q+1)] (.int b) [rdO bs (q+1+1)]
def isRow (bs:List Int) (n:Nat) (q:Int) (r:List Int) (q' : Int):Prop:=∃ a b c:Int,r=(if c=0∧b≠a then [a,b] else [a])∧q'=q+1+1+1 ∧
 CallsA Tryz.prog 88 [.ptr 0 none 0,.int n] [rdO bs q] (.int a) [rdO bs (q+1)]∧CallsA Tryz.prog 88 [.ptr 0 none 0,.int n] [rdO bs (q+1)] (.int b) [rdO bs (q+1+1)] ∧
 CallsA Tryz.prog 88 [.ptr 0 none 0,.int 2] [rdO bs (q+1+1)] (.int c) [rdO bs (q+1+1+1)]
structure Small (bs:List Int) (q q' : Int) (g:Graph) (m:Nat) (pf pg:Nat→Int):Prop where
 num:CallsA Tryz.prog 91 [.ptr 0 none 0,.sref 1 0 6] [rdO bs q,.cells 1 ([3,4,2,5,1,6].map enI)] (.int m) [rdO bs (pf 0),.cells 1 ([3,4,2,5,1,6].map enI)]
 m1:1≤m
 m6:m≤6
 sl:g.st.length=m
 nl:g.nx.length=m
 st:∀ k (h:k < g.st.length),isSt bs (m - k) (pf k) g.st[k] (pf (k+1))
 mid:pf m=pg 0
 row:∀ k (h:k < g.nx.length),isRow bs m (pg k) g.nx[k] (pg (k+1))
 last:pg m=q'
 q0:q≤q'
 q1:q'≤q+40
theorem z913 (bs:List Int) (hb:BytesOk bs) (q:Int) (hq:0≤q∧q≤999990000):∃ g q' m pf pg,Small bs q q' g m pf pg:=by
 obtain ⟨w,mw,cw⟩:=z87 bs hb q (by omega) (by omega) [3,4,2,5,1,6] (by decide) (by decide)
 simp only [List.mem_cons,List.not_mem_nil,or_false] at mw
 obtain ⟨m,rfl⟩:∃ m:Nat,w=m:=⟨w.toNat,by omega⟩
 obtain ⟨S,pf,h1,h2,h3,h4⟩:=z373 (fun k r t r'=>isSt bs (m - k) r t r') (q+1) 2 m (fun k r hk a1 a2=>by
  obtain ⟨a,_,ca⟩:=z63 bs hb r 3 (by omega) (by omega) (by omega)
  obtain ⟨b,_,cb⟩:=z63 bs hb (r+1) 2 (by omega) (by omega) (by omega)
  exact ⟨_,_,⟨a,b,rfl,rfl,ca,cb⟩,by omega,by omega⟩)
 have h5:=h4 m (y52 _)
 obtain ⟨G,pg,g1,g2,g3,g4⟩:=z373 (fun _ r t r'=>isRow bs m r t r') (pf m) 3 m (fun k r hk a1 a2=>by
  obtain ⟨a,_,ca⟩:=z63 bs hb r m (by omega) (by omega) (by omega)
  obtain ⟨b,_,cb⟩:=z63 bs hb (r+1) m (by omega) (by omega) (by omega)
  obtain ⟨c,_,cc⟩:=z63 bs hb (r+1+1) 2 (by omega) (by omega) (by omega)
  exact ⟨_,_,⟨a,b,c,rfl,rfl,ca,cb,cc⟩,by omega,by omega⟩)
 have g5:=g4 m (y52 _)
 exact ⟨⟨S,G⟩,pg m,m,pf,pg,by rw [← h2] at cw;exact cw,by omega,by omega,h1,g1,h3,g2.symm,g3,rfl,by omega,by omega⟩
theorem Small.sm {bs:List Int} {q q' : Int} {g:Graph} {m:Nat} {pf pg:Nat→Int} (h:Small bs q q' g m pf pg):g.sm:=by
 have h1:=h.sl
 have h2:=h.nl
 have h3:=h.m6
 refine ⟨by omega,by omega,fun s hs=>?_,fun r hr=>?_⟩
 ·obtain ⟨i,hi,rfl⟩:=List.mem_iff_getElem.1 hs
  obtain ⟨a,b,e,_⟩:=h.st i hi
  rw [e];exact ⟨by simp,by simp⟩
 ·obtain ⟨i,hi,rfl⟩:=List.mem_iff_getElem.1 hr
  obtain ⟨a,b,c,e,_⟩:=h.row i hi
  rw [e];split<;>simp
set_option maxHeartbeats 6400000 in
theorem z996 (bs:List Int) (hb:BytesOk bs) (p:Int) (hp:few3 p):∃ (g:Graph) (p' : Int),(g.sm∧1≤g.st.length∧g.nx.length=g.st.length∧p≤p'∧p'≤p+5000)∧CallsA Tryz.prog 78 [.ptr 0 none 0] [rdO bs p] (.agg g.cs) [rdO bs p']:=by
 obtain ⟨v,⟨v0,v1⟩,cv⟩:=z63 bs hb p 3 (by omega) (by omega) (by omega)
 by_cases hv:0 < v
 ·obtain ⟨s,q0,⟨hs,s0,s1⟩,cs⟩:=z858 bs hb (p+1) ⟨by omega,by omega⟩
  have cB:=z682 s hs.s1
  by_cases hr:∃ g,z90 s=some g∧g.st.length≤24
  ·obtain ⟨g,hg,hl⟩:=hr
   have hI:GInv s g.st g.nx g.st.length:=by
    have h:=hg
    unfold z90 at h
    split at h
    ·rename_i hv2
     have hso:=y14 hv2
     exact grow_inv hso 61 _ _ 0 g ⟨by simp,by simp,by simp,rfl,fun t ht=>by
      rw [List.mem_singleton.1 ht]
      exact ⟨by simp,hso.init⟩,by simp⟩ h
    ·cases h
   have hso:s.ok:=by
    have h:=hg
    unfold z90 at h
    split at h
    ·exact y14 (by assumption)
    ·cases h
   refine ⟨g,q0,⟨⟨by omega,by have:=hI.g;omega,fun t ht=>(hI.st t ht).sm hso,fun r hr=>by have:=hI.row r hr;omega⟩,hI.one,hI.g,by omega,by omega⟩,?_⟩
   rw [hg] at cB
   simp only [Option.getD_some,Option.isSome_some] at cB
   refine z7 z16 Tryz.func78 rfl rfl 88 Tryz.ntmps78 (by simp) ?_
   repeat' ((first|(apply y4 ok;rfl)|((apply z5)<;>intro _)|(apply z6 (cB);rfl;rfl)|((first|(apply z25 [0] [] cv;rfl;rfl)|(apply z25 [0] [] cs;rfl;rfl));rfl))<;>conv=>whnf)
   all_goals try (exfalso;omega)
   all_goals (refine rsD [0] [] rfl ?_;(repeat' first|exact y85 _|apply y86|constructor))
  ·obtain ⟨g,q',m,pf,pg,F⟩:=z913 bs hb q0 (by omega)
   have m1:=F.m1
   have m6:=F.m6
   have sl:=F.sl
   have nl:=F.nl
   have z0:=F.q0
   have z1:=F.q1
   cases hB:z90 s with
   |none =>
    rw [hB] at cB
    simp only [Option.getD_none,Option.isSome_none] at cB
    refine ⟨g,q',⟨F.sm,by omega,by omega,by omega,by omega⟩,?_⟩
    have Fn:=F.num
    refine z7 z16 Tryz.func78 rfl rfl 88 Tryz.ntmps78 (by simp) ?_
    repeat' ((first|(apply y4 ok;rfl)|((apply z5)<;>intro _)|(apply z6 (cB);rfl;rfl)|((first|(apply z8 [0] [] cv;rfl;rfl)|(apply z8 [0] [] cs;rfl;rfl)|(apply z8 [0,4] [] Fn;rfl;rfl));rfl;(focus ((repeat' first|exact z12|apply z11)<;>first|exact z33 rfl rfl|(refine z17 ?_;((exact z4 fun _=>rfl)))))))<;>conv=>whnf)
    all_goals try (exfalso;omega)
    all_goals
     refine y84 (y87 2 rfl) ?_
     refine z58 (fun k:Nat=>([(0,.ptr 0 none 0),(2,.ptr 1 none 0),(5,.ptr 2 none 0),(6,.int (m - k))],[rdO bs (pf k),.cells 2 [[.nils,.nils]],.cells 2 [[.sref 3 0 k,.nils]],.cells 2 ((g.st.take k).map State.cs)])) (fun k=>k≤m) (fun k=>m - k) 0 (by omega) (by refine swR [0,1,3,5] [] rfl rfl ?_;(repeat' first|exact y85 _|exact z47|apply y86|refine z10 rfl (z31) ?_|constructor)) ?_
     intro k hk
     by_cases hkm:k < m
     ·have hkl:k < g.st.length:=by omega
      obtain ⟨a,b,es,eq,ca,cb⟩:=F.st k hkl
      rw [← eq] at cb
      repeat' ((first|(apply y4 ok;rfl)|(apply z26;kernel_rfl)|(apply y43;first|omega|(unfold inI;omega)|((try dsimp only);simp only [y49,y48,y47,y46,y57,y58];omega)|exact ⟨rfl,z20 rfl z29⟩)|((apply z5)<;>intro _)|((first|(apply z25 [0] [] ca;rfl;rfl)|(apply z25 [0] [] cb;rfl;rfl));rfl))<;>conv=>whnf)
      all_goals try (exfalso;omega)
      all_goals refine z21 (k+1) (by omega) (by omega) (by refine swR [0,1,2,7] [4,5] rfl rfl ?_;(repeat' first|exact y85 _|(refine z121 ?_;omega)|apply y86|((refine z40 rfl ?_ ?_);(focus ((repeat' (first|exact z4 (fun _=>rfl)|apply z22));done)))|refine z106 (by omega) (by omega) ?_|refine z80 rfl rfl rfl rfl rfl ?_|constructor)<;>(rw [es];exact y85 _))
     ·have e:k=m:=by omega
      subst e
      rw [y56 (show g.st.length≤k by omega)]
      repeat' ((first|(apply y4 ok;rfl)|(apply y43;omega)|((apply z5)<;>intro _))<;>conv=>whnf)
      all_goals try (exfalso;omega)
      refine y84 (y87 1 rfl) ?_
      have Fm:=F.mid
      rw [Fm]
      refine z58 (fun i:Nat=>([(0,.ptr 0 none 0),(2,.ptr 1 none 0),(5,.ptr 2 none 0),(7,.int i)],[rdO bs (pg i),.cells 2 [[.nils,.nils]],.cells 2 [[.sref 3 0 k,.sref 4 0 i]],.cells 2 (g.st.map State.cs),.cells 1 ((g.nx.take i).map encL)])) (fun i=>i≤k) (fun i=>k - i) 0 (by omega) (by refine swR [0,1,2,3,4] [] rfl rfl ?_;(repeat' first|exact y85 _|exact z47|exact z9 _|apply y86|((refine z10 rfl ?_ ?_);(focus ((repeat' (first|exact z31|exact z4 (fun _=>rfl)));done)))|constructor)) ?_
      intro i hi
      by_cases hik:i < k
      ·have hil:i < g.nx.length:=by omega
       obtain ⟨a,b,c,er,eq,ca,cb,cc⟩:=F.row i hil
       rw [← eq] at cc
       by_cases hc:c=0
       ·by_cases hba:b=a
        ·rw [if_neg (fun h=>h.2 hba)] at er
         repeat' ((first|(apply y4 ok;rfl)|(apply y43;first|omega|(unfold inI;omega)|((try dsimp only);simp only [y49,y48,y47,y46,y57,y58];omega)|exact ⟨rfl,z20 rfl z29⟩)|apply z159|((first|apply z5|apply z52)<;>intro _)|((first|(apply z25 [0] [] ca;rfl;rfl)|(apply z25 [0] [] cb;rfl;rfl)|(apply z25 [0] [] cc;rfl;rfl));rfl))<;>conv=>whnf)
         all_goals try (exfalso;omega)
         all_goals refine z21 (i+1) (by omega) (by omega) (by refine swR [0,1,2,3,7] [5] rfl rfl ?_;(repeat' first|exact y85 _|exact z9 _|apply y86|((first|refine z40 rfl ?_ ?_|refine z10 rfl ?_ ?_);(focus ((repeat' (first|exact z4 (fun _=>rfl)|apply z22));done)))|refine z106 (by omega) (by omega) ?_|refine z80 rfl rfl rfl rfl rfl ?_|constructor)<;>((rw [er];exact y85 _)))
        ·rw [if_pos ⟨hc,hba⟩] at er
         repeat' ((first|(apply y4 ok;rfl)|(apply y43;first|omega|(unfold inI;omega)|((try dsimp only);simp only [y49,y48,y47,y46,y57,y58];omega)|exact ⟨rfl,z20 rfl z29⟩)|apply z159|((first|apply z5|apply z52)<;>intro _)|((first|(apply z25 [0] [] ca;rfl;rfl)|(apply z25 [0] [] cb;rfl;rfl)|(apply z25 [0] [] cc;rfl;rfl));rfl))<;>conv=>whnf)
         all_goals try (exfalso;omega)
         all_goals refine z21 (i+1) (by omega) (by omega) (by refine swR [0,1,2,3,9] [7] rfl rfl ?_;(repeat' first|exact y85 _|exact z9 _|apply y86|((first|refine z40 rfl ?_ ?_|refine z10 rfl ?_ ?_);(focus ((repeat' (first|exact z4 (fun _=>rfl)|apply z22));done)))|refine z106 (by omega) (by omega) ?_|((apply z80 rfl rfl rfl);(focus ((repeat (first|apply z101|apply z132|rfl));done));(focus ((rfl);done)))|constructor)<;>((rw [er];exact y85 _)))
       ·rw [if_neg (fun h=>hc h.1)] at er
        repeat' ((first|(apply y4 ok;rfl)|(apply y43;first|omega|(unfold inI;omega)|((try dsimp only);simp only [y49,y48,y47,y46,y57,y58];omega)|exact ⟨rfl,z20 rfl z29⟩)|apply z159|((first|apply z5|apply z52)<;>intro _)|((first|(apply z25 [0] [] ca;rfl;rfl)|(apply z25 [0] [] cb;rfl;rfl)|(apply z25 [0] [] cc;rfl;rfl));rfl))<;>conv=>whnf)
        all_goals try (exfalso;omega)
        all_goals refine z21 (i+1) (by omega) (by omega) (by refine swR [0,1,2,3,7] [5] rfl rfl ?_;(repeat' first|exact y85 _|exact z9 _|apply y86|((first|refine z40 rfl ?_ ?_|refine z10 rfl ?_ ?_);(focus ((repeat' (first|exact z4 (fun _=>rfl)|apply z22));done)))|refine z106 (by omega) (by omega) ?_|refine z80 rfl rfl rfl rfl rfl ?_|constructor)<;>((rw [er];exact y85 _)))
      ·have e:i=k:=by omega
       subst e
       rw [y56 (show g.nx.length≤i by omega)]
       repeat' ((first|(apply y4 ok;rfl)|((apply z5)<;>intro _))<;>conv=>whnf)
       all_goals try (exfalso;omega)
       all_goals rw [F.last]
       all_goals (refine rsD [0] [3,4] rfl ?_;(repeat' first|exact y85 _|(refine z274 ?_;omega)|apply y86|((apply z37 rfl rfl rfl);(focus ((repeat ((exact z23 (fun _=>rfl) _)));done));(focus (((simp;omega));done)))|apply z46|constructor))
   |some g0 =>
    have hl:¬(g0.st.length≤24):=fun h=>hr ⟨g0,hB,h⟩
    rw [hB] at cB
    simp only [Option.getD_some,Option.isSome_some] at cB
    refine ⟨g,q',⟨F.sm,by omega,by omega,by omega,by omega⟩,?_⟩
    have Fn:=F.num
    refine z7 z16 Tryz.func78 rfl rfl 88 Tryz.ntmps78 (by simp) ?_
    repeat' ((first|(apply y4 ok;rfl)|((apply z5)<;>intro _)|(apply z6 (cB);rfl;rfl)|((first|(apply z8 [0] [] cv;rfl;rfl)|(apply z8 [0] [] cs;rfl;rfl)|(apply z8 [0,4] [] Fn;rfl;rfl));rfl;(focus ((repeat' first|exact z12|apply z11)<;>first|exact z33 rfl rfl|(refine z17 ?_;((exact z4 fun _=>rfl)))))))<;>conv=>whnf)
    all_goals try (exfalso;omega)
    all_goals
     refine y84 (y87 2 rfl) ?_
     refine z58 (fun k:Nat=>([(0,.ptr 0 none 0),(2,.ptr 1 none 0),(5,.ptr 2 none 0),(6,.int (m - k))],[rdO bs (pf k),.cells 2 [[.nils,.nils]],.cells 2 [[.sref 3 0 k,.nils]],.cells 2 ((g.st.take k).map State.cs)])) (fun k=>k≤m) (fun k=>m - k) 0 (by omega) (by refine swR [0,1,3,5] [] rfl rfl ?_;(repeat' first|exact y85 _|exact z47|apply y86|refine z10 rfl (z31) ?_|constructor)) ?_
     intro k hk
     by_cases hkm:k < m
     ·have hkl:k < g.st.length:=by omega
      obtain ⟨a,b,es,eq,ca,cb⟩:=F.st k hkl
      rw [← eq] at cb
      repeat' ((first|(apply y4 ok;rfl)|(apply z26;kernel_rfl)|(apply y43;first|omega|(unfold inI;omega)|((try dsimp only);simp only [y49,y48,y47,y46,y57,y58];omega)|exact ⟨rfl,z20 rfl z29⟩)|((apply z5)<;>intro _)|((first|(apply z25 [0] [] ca;rfl;rfl)|(apply z25 [0] [] cb;rfl;rfl));rfl))<;>conv=>whnf)
      all_goals try (exfalso;omega)
      all_goals refine z21 (k+1) (by omega) (by omega) (by refine swR [0,1,2,7] [4,5] rfl rfl ?_;(repeat' first|exact y85 _|(refine z121 ?_;omega)|apply y86|((refine z40 rfl ?_ ?_);(focus ((repeat' (first|exact z4 (fun _=>rfl)|apply z22));done)))|refine z106 (by omega) (by omega) ?_|refine z80 rfl rfl rfl rfl rfl ?_|constructor)<;>(rw [es];exact y85 _))
     ·have e:k=m:=by omega
      subst e
      rw [y56 (show g.st.length≤k by omega)]
      repeat' ((first|(apply y4 ok;rfl)|(apply y43;omega)|((apply z5)<;>intro _))<;>conv=>whnf)
      all_goals try (exfalso;omega)
      refine y84 (y87 1 rfl) ?_
      have Fm:=F.mid
      rw [Fm]
      refine z58 (fun i:Nat=>([(0,.ptr 0 none 0),(2,.ptr 1 none 0),(5,.ptr 2 none 0),(7,.int i)],[rdO bs (pg i),.cells 2 [[.nils,.nils]],.cells 2 [[.sref 3 0 k,.sref 4 0 i]],.cells 2 (g.st.map State.cs),.cells 1 ((g.nx.take i).map encL)])) (fun i=>i≤k) (fun i=>k - i) 0 (by omega) (by refine swR [0,1,2,3,4] [] rfl rfl ?_;(repeat' first|exact y85 _|exact z47|exact z9 _|apply y86|((refine z10 rfl ?_ ?_);(focus ((repeat' (first|exact z31|exact z4 (fun _=>rfl)));done)))|constructor)) ?_
      intro i hi
      by_cases hik:i < k
      ·have hil:i < g.nx.length:=by omega
       obtain ⟨a,b,c,er,eq,ca,cb,cc⟩:=F.row i hil
       rw [← eq] at cc
       by_cases hc:c=0
       ·by_cases hba:b=a
        ·rw [if_neg (fun h=>h.2 hba)] at er
         repeat' ((first|(apply y4 ok;rfl)|(apply y43;first|omega|(unfold inI;omega)|((try dsimp only);simp only [y49,y48,y47,y46,y57,y58];omega)|exact ⟨rfl,z20 rfl z29⟩)|apply z159|((first|apply z5|apply z52)<;>intro _)|((first|(apply z25 [0] [] ca;rfl;rfl)|(apply z25 [0] [] cb;rfl;rfl)|(apply z25 [0] [] cc;rfl;rfl));rfl))<;>conv=>whnf)
         all_goals try (exfalso;omega)
         all_goals refine z21 (i+1) (by omega) (by omega) (by refine swR [0,1,2,3,7] [5] rfl rfl ?_;(repeat' first|exact y85 _|exact z9 _|apply y86|((first|refine z40 rfl ?_ ?_|refine z10 rfl ?_ ?_);(focus ((repeat' (first|exact z4 (fun _=>rfl)|apply z22));done)))|refine z106 (by omega) (by omega) ?_|refine z80 rfl rfl rfl rfl rfl ?_|constructor)<;>((rw [er];exact y85 _)))
        ·rw [if_pos ⟨hc,hba⟩] at er
         repeat' ((first|(apply y4 ok;rfl)|(apply y43;first|omega|(unfold inI;omega)|((try dsimp only);simp only [y49,y48,y47,y46,y57,y58];omega)|exact ⟨rfl,z20 rfl z29⟩)|apply z159|((first|apply z5|apply z52)<;>intro _)|((first|(apply z25 [0] [] ca;rfl;rfl)|(apply z25 [0] [] cb;rfl;rfl)|(apply z25 [0] [] cc;rfl;rfl));rfl))<;>conv=>whnf)
         all_goals try (exfalso;omega)
         all_goals refine z21 (i+1) (by omega) (by omega) (by refine swR [0,1,2,3,9] [7] rfl rfl ?_;(repeat' first|exact y85 _|exact z9 _|apply y86|((first|refine z40 rfl ?_ ?_|refine z10 rfl ?_ ?_);(focus ((repeat' (first|exact z4 (fun _=>rfl)|apply z22));done)))|refine z106 (by omega) (by omega) ?_|((apply z80 rfl rfl rfl);(focus ((repeat (first|apply z101|apply z132|rfl));done));(focus ((rfl);done)))|constructor)<;>((rw [er];exact y85 _)))
       ·rw [if_neg (fun h=>hc h.1)] at er
        repeat' ((first|(apply y4 ok;rfl)|(apply y43;first|omega|(unfold inI;omega)|((try dsimp only);simp only [y49,y48,y47,y46,y57,y58];omega)|exact ⟨rfl,z20 rfl z29⟩)|apply z159|((first|apply z5|apply z52)<;>intro _)|((first|(apply z25 [0] [] ca;rfl;rfl)|(apply z25 [0] [] cb;rfl;rfl)|(apply z25 [0] [] cc;rfl;rfl));rfl))<;>conv=>whnf)
        all_goals try (exfalso;omega)
        all_goals refine z21 (i+1) (by omega) (by omega) (by refine swR [0,1,2,3,7] [5] rfl rfl ?_;(repeat' first|exact y85 _|exact z9 _|apply y86|((first|refine z40 rfl ?_ ?_|refine z10 rfl ?_ ?_);(focus ((repeat' (first|exact z4 (fun _=>rfl)|apply z22));done)))|refine z106 (by omega) (by omega) ?_|refine z80 rfl rfl rfl rfl rfl ?_|constructor)<;>((rw [er];exact y85 _)))
      ·have e:i=k:=by omega
       subst e
       rw [y56 (show g.nx.length≤i by omega)]
       repeat' ((first|(apply y4 ok;rfl)|((apply z5)<;>intro _))<;>conv=>whnf)
       all_goals try (exfalso;omega)
       all_goals rw [F.last]
       all_goals (refine rsD [0] [3,4] rfl ?_;(repeat' first|exact y85 _|(refine z274 ?_;omega)|apply y86|((apply z37 rfl rfl rfl);(focus ((repeat ((exact z23 (fun _=>rfl) _)));done));(focus (((simp;omega));done)))|apply z46|constructor))
 ·obtain ⟨g,q',m,pf,pg,F⟩:=z913 bs hb (p+1) (by omega)
  have m1:=F.m1
  have m6:=F.m6
  have sl:=F.sl
  have nl:=F.nl
  have z0:=F.q0
  have z1:=F.q1
  refine ⟨g,q',⟨F.sm,by omega,by omega,by omega,by omega⟩,?_⟩
  have Fn:=F.num
  refine z7 z16 Tryz.func78 rfl rfl 88 Tryz.ntmps78 (by simp) ?_
  repeat' ((first|(apply y4 ok;rfl)|((apply z5)<;>intro _)|((first|(apply z8 [0] [] cv;rfl;rfl)|(apply z8 [0,3] [] Fn;rfl;rfl));rfl;(focus ((repeat' first|exact z12|apply z11)<;>first|exact z33 rfl rfl|(refine z17 ?_;((exact z4 fun _=>rfl)))))))<;>conv=>whnf)
  all_goals try (exfalso;omega)
  all_goals
   refine y84 (y87 2 rfl) ?_
   refine z58 (fun k:Nat=>([(0,.ptr 0 none 0),(2,.ptr 1 none 0),(5,.ptr 2 none 0),(6,.int (m - k))],[rdO bs (pf k),.cells 2 [[.nils,.nils]],.cells 2 [[.sref 3 0 k,.nils]],.cells 2 ((g.st.take k).map State.cs)])) (fun k=>k≤m) (fun k=>m - k) 0 (by omega) (by refine swR [0,1,2,4] [] rfl rfl ?_;(repeat' first|exact y85 _|exact z47|apply y86|refine z10 rfl (z31) ?_|constructor)) ?_
   intro k hk
   by_cases hkm:k < m
   ·have hkl:k < g.st.length:=by omega
    obtain ⟨a,b,es,eq,ca,cb⟩:=F.st k hkl
    rw [← eq] at cb
    repeat' ((first|(apply y4 ok;rfl)|(apply z26;kernel_rfl)|(apply y43;first|omega|(unfold inI;omega)|((try dsimp only);simp only [y49,y48,y47,y46,y57,y58];omega)|exact ⟨rfl,z20 rfl z29⟩)|((apply z5)<;>intro _)|((first|(apply z25 [0] [] ca;rfl;rfl)|(apply z25 [0] [] cb;rfl;rfl));rfl))<;>conv=>whnf)
    all_goals try (exfalso;omega)
    all_goals refine z21 (k+1) (by omega) (by omega) (by refine swR [0,1,2,7] [4,5] rfl rfl ?_;(repeat' first|exact y85 _|(refine z121 ?_;omega)|apply y86|((refine z40 rfl ?_ ?_);(focus ((repeat' (first|exact z4 (fun _=>rfl)|apply z22));done)))|refine z106 (by omega) (by omega) ?_|refine z80 rfl rfl rfl rfl rfl ?_|constructor)<;>(rw [es];exact y85 _))
   ·have e:k=m:=by omega
    subst e
    rw [y56 (show g.st.length≤k by omega)]
    repeat' ((first|(apply y4 ok;rfl)|(apply y43;omega)|((apply z5)<;>intro _))<;>conv=>whnf)
    all_goals try (exfalso;omega)
    refine y84 (y87 1 rfl) ?_
    have Fm:=F.mid
    rw [Fm]
    refine z58 (fun i:Nat=>([(0,.ptr 0 none 0),(2,.ptr 1 none 0),(5,.ptr 2 none 0),(7,.int i)],[rdO bs (pg i),.cells 2 [[.nils,.nils]],.cells 2 [[.sref 3 0 k,.sref 4 0 i]],.cells 2 (g.st.map State.cs),.cells 1 ((g.nx.take i).map encL)])) (fun i=>i≤k) (fun i=>k - i) 0 (by omega) (by refine swR [0,1,2,3,4] [] rfl rfl ?_;(repeat' first|exact y85 _|exact z47|exact z9 _|apply y86|((refine z10 rfl ?_ ?_);(focus ((repeat' (first|exact z31|exact z4 (fun _=>rfl)));done)))|constructor)) ?_
    intro i hi
    by_cases hik:i < k
    ·have hil:i < g.nx.length:=by omega
     obtain ⟨a,b,c,er,eq,ca,cb,cc⟩:=F.row i hil
     rw [← eq] at cc
     by_cases hc:c=0
     ·by_cases hba:b=a
      ·rw [if_neg (fun h=>h.2 hba)] at er
       repeat' ((first|(apply y4 ok;rfl)|(apply y43;first|omega|(unfold inI;omega)|((try dsimp only);simp only [y49,y48,y47,y46,y57,y58];omega)|exact ⟨rfl,z20 rfl z29⟩)|apply z159|((first|apply z5|apply z52)<;>intro _)|((first|(apply z25 [0] [] ca;rfl;rfl)|(apply z25 [0] [] cb;rfl;rfl)|(apply z25 [0] [] cc;rfl;rfl));rfl))<;>conv=>whnf)
       all_goals try (exfalso;omega)
       all_goals refine z21 (i+1) (by omega) (by omega) (by refine swR [0,1,2,3,7] [5] rfl rfl ?_;(repeat' first|exact y85 _|exact z9 _|apply y86|((first|refine z40 rfl ?_ ?_|refine z10 rfl ?_ ?_);(focus ((repeat' (first|exact z4 (fun _=>rfl)|apply z22));done)))|refine z106 (by omega) (by omega) ?_|refine z80 rfl rfl rfl rfl rfl ?_|constructor)<;>((rw [er];exact y85 _)))
      ·rw [if_pos ⟨hc,hba⟩] at er
       repeat' ((first|(apply y4 ok;rfl)|(apply y43;first|omega|(unfold inI;omega)|((try dsimp only);simp only [y49,y48,y47,y46,y57,y58];omega)|exact ⟨rfl,z20 rfl z29⟩)|apply z159|((first|apply z5|apply z52)<;>intro _)|((first|(apply z25 [0] [] ca;rfl;rfl)|(apply z25 [0] [] cb;rfl;rfl)|(apply z25 [0] [] cc;rfl;rfl));rfl))<;>conv=>whnf)
       all_goals try (exfalso;omega)
       all_goals refine z21 (i+1) (by omega) (by omega) (by refine swR [0,1,2,3,9] [7] rfl rfl ?_;(repeat' first|exact y85 _|exact z9 _|apply y86|((first|refine z40 rfl ?_ ?_|refine z10 rfl ?_ ?_);(focus ((repeat' (first|exact z4 (fun _=>rfl)|apply z22));done)))|refine z106 (by omega) (by omega) ?_|((apply z80 rfl rfl rfl);(focus ((repeat (first|apply z101|apply z132|rfl));done));(focus ((rfl);done)))|constructor)<;>((rw [er];exact y85 _)))
     ·rw [if_neg (fun h=>hc h.1)] at er
      repeat' ((first|(apply y4 ok;rfl)|(apply y43;first|omega|(unfold inI;omega)|((try dsimp only);simp only [y49,y48,y47,y46,y57,y58];omega)|exact ⟨rfl,z20 rfl z29⟩)|apply z159|((first|apply z5|apply z52)<;>intro _)|((first|(apply z25 [0] [] ca;rfl;rfl)|(apply z25 [0] [] cb;rfl;rfl)|(apply z25 [0] [] cc;rfl;rfl));rfl))<;>conv=>whnf)
      all_goals try (exfalso;omega)
      all_goals refine z21 (i+1) (by omega) (by omega) (by refine swR [0,1,2,3,7] [5] rfl rfl ?_;(repeat' first|exact y85 _|exact z9 _|apply y86|((first|refine z40 rfl ?_ ?_|refine z10 rfl ?_ ?_);(focus ((repeat' (first|exact z4 (fun _=>rfl)|apply z22));done)))|refine z106 (by omega) (by omega) ?_|refine z80 rfl rfl rfl rfl rfl ?_|constructor)<;>((rw [er];exact y85 _)))
    ·have e:i=k:=by omega
     subst e
     rw [y56 (show g.nx.length≤i by omega)]
     repeat' ((first|(apply y4 ok;rfl)|((apply z5)<;>intro _))<;>conv=>whnf)
     all_goals try (exfalso;omega)
     all_goals rw [F.last]
     all_goals (refine rsD [0] [3,4] rfl ?_;(repeat' first|exact y85 _|(refine z274 ?_;omega)|apply y86|((apply z37 rfl rfl rfl);(focus ((repeat ((exact z23 (fun _=>rfl) _)));done));(focus (((simp;omega));done)))|apply z46|constructor))
structure Graph.d (g:Graph):Prop where
 st:g.st.length≤100
 nx:g.nx.length≤101
 el:∀ s∈g.st,s.sm
 row:∀ r∈g.nx,r.length≤1001
theorem Graph.d.mx {g:Graph} (h:g.d):g.mx:=by
 have h1:=h.st
 have h2:=h.nx
 have h3:=h.el
 exact ⟨⟨by unfold maxLen;omega,fun s hs=>⟨by have:=(h3 s hs).a;unfold maxLen;omega,by have:=(h3 s hs).b;unfold maxLen;omega⟩⟩,by unfold maxLen;omega,fun l hl=>by have:=h.row l hl;unfold maxLen;omega⟩
structure Lab.d (l:List Tree):Prop where
 len:l.length≤3
 el:∀ t∈l,t.sz≤5
theorem Lab.d.mx {l:List Tree} (h:Lab.d l):Lmx l:=Lmx_of (by have:=h.len;omega) fun t ht=>by have:=h.el t ht;omega
structure CodeOk (bs:List Int):Prop where
 len:bs.length≤maxLen
 el:∀ x∈bs,0≤x∧x≤255
theorem CodeOk.take {bs:List Int} (h:CodeOk bs):BytesOk (bs.take 2000):=⟨by simp;omega,fun x hx=>h.el x (List.mem_of_mem_take hx)⟩
theorem mutG_ok (bs:List Int) (hb:BytesOk bs) (p:Int) (hp:few3 p):∃ (g0 g:Graph) (p1 p2:Int),CallsA Tryz.prog 78 [.ptr 0 none 0] [rdO bs p] (.agg g0.cs) [rdO bs p1]∧CallsA Tryz.prog 77 [.ptr 0 none 0,.agg g0.cs] [rdO bs p1] (.agg g.cs) [rdO bs p2]∧g.d∧p≤p2∧p2≤p+6000:=by
 obtain ⟨g0,p1,⟨h1,h2,h3,h4,h5⟩,c1⟩:=z996 bs hb p hp
 obtain ⟨g,p2,⟨k1,k2,k3,k4,k5,k6⟩,c2⟩:=z857 bs hb p1 ⟨by omega,by omega⟩ g0 h1 h2 h3
 exact ⟨g0,g,p1,p2,c1,c2,⟨k1,k2,k3,k4⟩,by omega,by omega⟩
end Go.Proofs.YtnfoijopccdjeaaGreat
namespace Go.Proofs.YtnfoijopccdjeaaGreat
open Go.Gl
attribute [local irreducible] z18 AWP z30 z36 z32
theorem z598 (k:Int):CallsA Tryz.prog 157 [.int k] [] (.int (z180 k)) []:=by
 refine z14 z16 Tryz.func157 rfl rfl 17 Tryz.ntmps157 (by simp) ?_
 repeat' (first|(apply y4 ok;rfl;conv=>whnf)|(apply z5<;>intro _<;>conv=>whnf))
 all_goals (refine z49 rfl rfl ?_;unfold z180;first|(rw [if_pos (by omega)];rfl)|(rw [if_neg (by omega),if_pos (by omega)];rfl)|(rw [if_neg (by omega),if_neg (by omega),if_pos (by omega)];rfl)|(rw [if_neg (by omega),if_neg (by omega),if_neg (by omega)];rfl))
theorem z835 (l:List Tree) (d:Int):Tree.shapeFs l d=l.all (fun t=>t.shapeF d):=by
 induction l with
 |nil=>rfl
 |cons t l ih=>simp [Tree.shapeFs,ih]
theorem z371 (t:Tree) (d:Int):t.shapeF d=(decide (1≤d∧(t.kids.length:Int)=z180 t.kind∧0≤t.val∧t.val≤z384 t.kind) && t.kids.all fun t=>t.shapeF (d - 1)):=by
 cases t;simp only [Tree.shapeF,Tree.kids,Tree.kind,Tree.val,z835];rfl
theorem z993 (t:Tree):t.mx→∀ d:Int,-100≤d→d≤100→CallsA Tryz.prog 117 [z24 Tree.cs' t,.int d] [] (.bool (t.shapeF d)) []:=by
  induction t using y26 with|h t ih=>?_
  intro hm d h0 h1
  rw [y30] at hm
  have hl:=hm.1
  unfold maxLen at hl
  rw [y16,z371]
  refine z14 z16 Tryz.func117 rfl rfl 51 Tryz.ntmps117 (by simp) ?_
  repeat' (first|(apply y4 ok;rfl;conv=>whnf)|(apply z26;kernel_rfl;conv=>whnf)|(apply z5<;>intro _<;>conv=>whnf)|(apply z52<;>intro _<;>conv=>whnf)|(apply z6 (z598 _);rfl;rfl;conv=>whnf))
  all_goals first
    | (refine z44 rfl ?_
       rw [y82]
       · rfl
       · clear ih
         rintro ⟨c1,c2,c3,c4⟩
         unfold z384 at c4
         grind)
    | (have hg : decide (1 ≤ d ∧ (t.kids.length : Int) = z180 t.kind ∧ 0 ≤ t.val ∧ t.val ≤ z384 t.kind) = true := by
         clear ih
         refine y81 ?_
         unfold z384
         grind
       rw [hg,Bool.true_and]
       refine z134 (fun k:Nat=>([(1,.int d),(2,.ptr 0 none 0),(5,.int k)],[.cells 3 [[.int t.kind,.int t.val,lst 3 Tree.cs' t.kids]]])) (fun k=>k≤t.kids.length∧(t.kids.all fun t=>t.shapeF (d - 1))=(t.kids.drop k).all fun t=>t.shapeF (d - 1)) (fun k=>t.kids.length - k) 0 ⟨by omega,rfl⟩ ⟨[0],rfl,by decide,rfl,by repeat' (first|exact True.intro|exact ⟨rfl,rfl⟩|apply y43),by repeat' (first|exact True.intro|exact z42 rfl rfl|apply y43)⟩ ?_
       intro k hk
       repeat' (first|(apply y4 ok;rfl;conv=>whnf)|(apply y43;(first|omega|(unfold inI;omega));conv=>whnf)|(with_reducible apply z13;omega;intro _;conv=>whnf)|(apply z5<;>intro _<;>conv=>whnf)|(apply z100<;>intro _<;>conv=>whnf)|(apply z6 (ih t.kids[k] (y44 _) (hm.2 _ (y44 _)) (d - 1) (by omega) (by omega));rfl;rfl;conv=>whnf))
       · rename_i h1
         exact z44 rfl (by rw [hk.2,z145 _ _ _ (by assumption)];simp [h1])
       · rename_i h1
         exact z117 (k+1) [0] ⟨by omega,by rw [hk.2,z145 _ _ _ (by assumption)];simp [h1]⟩ (by omega) ⟨rfl,by decide,rfl,by repeat' (first|exact True.intro|exact ⟨rfl,rfl⟩|apply y43),by repeat' (first|exact True.intro|exact z42 rfl rfl|apply y43)⟩
       · exact z44 rfl (by rw [hk.2,z126 _ _ _ (by omega)]))
theorem z1187 (t:Tree):∀ d n:Nat,t.shapeF d=true→t.count n≤2 ^ d - 1:=by
 induction t using y26 with|h t ih=>?_
 intro d n h
 rw [z371,y70,decide_eq_true_eq] at h
 obtain ⟨⟨h1,h2,_,_⟩,h3⟩:=h
 rw [y78] at h3
 obtain ⟨d,rfl⟩:∃ e,d=e+1:=⟨d - 1,by omega⟩
 have e:((d+1:Nat):Int) - 1=(d:Nat):=by omega
 rw [e] at h3
 rw [z481]
 have hp:(1:Int)≤2 ^ d:=by exact_mod_cast Nat.one_le_two_pow
 have hq:((2:Int) ^ (d+1))=2 * 2 ^ d:=by rw [Int.pow_succ];omega
 split
 ·rename_i hn
  obtain ⟨n,rfl⟩:∃ e,n=e+1:=⟨n - 1,by omega⟩
  have e:((n+1:Nat):Int) - 1=(n:Nat):=by omega
  rw [e]
  have hl:(t.kids.length:Int)≤2:=by rw [h2];unfold z180;grind
  have hk:∀ u∈t.kids,u.count n≤2 ^ d - 1:=fun u hu=>ih u hu d n (h3 u hu)
  match hkk:t.kids with
  |[]=>simp only [List.map_nil,List.sum_nil];omega
  |[a] =>
   have:=hk a (by simp [hkk])
   simp only [List.map_cons,List.map_nil,List.sum_cons,List.sum_nil];omega
  |[a,b] =>
   have:=hk a (by simp [hkk])
   have:=hk b (by simp [hkk])
   simp only [List.map_cons,List.map_nil,List.sum_cons,List.sum_nil];omega
  |a::b::c::r=>rw [hkk] at hl;simp only [y57] at hl;omega
 ·omega
theorem z782 (t:Tree) (e d:Int) (he:e≤50) (hd:0≤d) (h:t.shapeF e=true):t.count d≤2 ^ 50:=by
 have h1:1≤e:=by
  rw [z371,y70,decide_eq_true_eq] at h;exact h.1.1
 obtain ⟨n,rfl⟩:=Int.eq_ofNat_of_zero_le (show 0≤e by omega)
 obtain ⟨m,rfl⟩:=Int.eq_ofNat_of_zero_le hd
 have h2:=z1187 t n m h
 have h4:(2:Int) ^ n≤2 ^ 50:=by exact_mod_cast Nat.pow_le_pow_right (by omega) (by omega)
 omega
theorem z994 (t:Tree):t.mx→∀ e d:Int,e≤50→0≤d→d≤50→t.shapeF e=true→CallsA Tryz.prog 118 [z24 Tree.cs' t,.int d] [] (.int (t.count d)) []:=by
 induction t using y26 with|h t ih=>?_
 intro hm e d h0 h1 h2 hs
 rw [y30] at hm
 rw [z371,y70,decide_eq_true_eq,y78] at hs
 obtain ⟨⟨hs1,hs2,_,_⟩,hs3⟩:=hs
 have hl:(t.kids.length:Int)≤2:=by rw [hs2];unfold z180;grind
 rw [y16,z481]
 have hb:0 < d→∀ k,k≤t.kids.length→0≤((t.kids.take k).map fun t=>t.count (d - 1)).sum∧((t.kids.take k).map fun t=>t.count (d - 1)).sum≤k * 2 ^ 50:=by
  intro hd k
  induction k with
  |zero=>intro _;simp
  |succ k ihk =>
   intro hk
   have h1:=ihk (by omega)
   rw [z461 _ _ _ (by omega)]
   have h2:=z782 t.kids[k] (e - 1) (d - 1) (by omega) (by omega) (hs3 _ (y44 _))
   have h3:=Tree.count_pos.1 t.kids[k] (d - 1)
   omega
 refine z14 z16 Tryz.func118 rfl rfl 29 Tryz.ntmps118 (by simp) ?_
 repeat' ((apply y4 ok;rfl;conv=>whnf))
 by_cases hd:0 < d
 ·rw [if_pos hd]
  refine z134 (fun k:Nat=>([(1,.int d),(2,.ptr 0 none 0),(5,.int (1+((t.kids.take k).map fun t=>t.count (d - 1)).sum)),(6,.int k)],[.cells 3 [[.int t.kind,.int t.val,lst 3 Tree.cs' t.kids]]])) (fun k=>k≤t.kids.length) (fun k=>t.kids.length - k) 0 (by omega) ⟨[0],rfl,by decide,rfl,by repeat' (first|exact True.intro|exact ⟨rfl,rfl⟩|apply y43),by repeat' (first|exact True.intro|exact z42 rfl rfl|apply y43)⟩ ?_
  intro k hk
  have hbk:=hb hd k hk
  have hbk1:=fun h=>hb hd (k+1) h
  have hss:=fun h=>z461 (fun t=>t.count (d - 1)) t.kids k h
  repeat' (first|(apply y4 ok;rfl;conv=>whnf)|(apply y43;(first|omega|(unfold inI;omega));conv=>whnf)|(with_reducible apply z13;omega;intro _;conv=>whnf)|(apply z5<;>intro _<;>conv=>whnf)|(apply z6 (ih t.kids[k] (y44 _) (hm.2 _ (y44 _)) (e - 1) (d - 1) (by omega) (by omega) (by omega) (hs3 _ (y44 _)));rfl;rfl;conv=>whnf))
  ·have e1:=hss ‹_›
   have e2:=hbk1 (by omega)
   refine y43 (by unfold inI;omega) ?_
   conv=>whnf
   repeat' (first|(apply y4 ok;rfl;conv=>whnf)|(apply y43;((unfold inI;omega));conv=>whnf))
   exact z117 (k+1) [0] (by omega) (by omega) ⟨rfl,by decide,rfl,⟨⟨rfl,rfl⟩,⟨rfl,rfl⟩,⟨rfl,by rw [e1,← Int.add_assoc];rfl⟩,⟨rfl,rfl⟩,trivial⟩,⟨z42 rfl rfl,trivial⟩⟩
  ·omega
  ·obtain rfl:k=t.kids.length:=by omega
   exact z49 rfl rfl (by rw [y55];rfl)
 ·rw [if_neg hd]
  refine z134 (fun k:Nat=>([(1,.int d),(2,.ptr 0 none 0),(5,.int 1),(6,.int k)],[.cells 3 [[.int t.kind,.int t.val,lst 3 Tree.cs' t.kids]]])) (fun k=>k≤t.kids.length) (fun k=>t.kids.length - k) 0 (by omega) ⟨[0],rfl,by decide,rfl,by repeat' (first|exact True.intro|exact ⟨rfl,rfl⟩|apply y43),by repeat' (first|exact True.intro|exact z42 rfl rfl|apply y43)⟩ ?_
  intro k hk
  repeat' (first|(apply y4 ok;rfl;conv=>whnf)|(apply y43;(omega);conv=>whnf)|(with_reducible apply z13;omega;intro _;conv=>whnf)|(apply z5<;>intro _<;>conv=>whnf))
  ·omega
  ·exact z49 rfl rfl rfl
  ·exact z49 rfl rfl rfl
theorem z566 (t:Tree) (hm:t.mx):CallsA Tryz.prog 47 [z24 Tree.cs' t] [] (.bool t.fmB) []:=by
 rw [y20]
 refine z14 z16 Tryz.func47 rfl rfl 10 Tryz.ntmps47 (by simp) ?_
 repeat' (first|(apply y4 ok;rfl;conv=>whnf)|(apply z91<;>intro _<;>conv=>whnf)|(apply z6 (z993 t hm 6 (by omega) (by omega));rfl;rfl;conv=>whnf)|(apply z6 (z994 t hm 6 6 (by omega) (by omega) (by omega) (by assumption));rfl;rfl;conv=>whnf))
 all_goals (refine z44 rfl ?_;(simp [*];done))
end Go.Proofs.YtnfoijopccdjeaaGreat
namespace Go.Proofs.YtnfoijopccdjeaaGreat
open Go.Gl
attribute [local irreducible] z18 AWP z30 z36 z32 RetS z38
theorem z526:CallsA Tryz.prog 92 [] [] (.agg [.int 1,.int 0,.list 3 0 []]) []:=by
 refine z7 z16 Tryz.func92 rfl rfl 2 Tryz.ntmps92 (by simp) ?_
 repeat' (((apply y4 ok;rfl))<;>conv=>whnf)
 all_goals (refine rsD [] [] rfl ?_;(repeat' first|exact y85 _|exact z41|apply z46|constructor))
set_option maxHeartbeats 1600000 in
theorem z855 (bs:List Int) (hb:BytesOk bs):∀ (n:Nat) (d p:Int),d≤n+1→n≤100→0≤d→0≤p→p+drK n≤1000000000→∃ (t:Tree) (p' : Int),(t.sz≤drS n∧p≤p'∧p'≤p+drK n)∧CallsA Tryz.prog 93 [.ptr 0 none 0,.int d] [rdO bs p] (z24 Tree.cs' t) [rdO bs p']:=by
 intro n
 induction n with
 |zero =>
  intro d p hd hd1 hd0 hp hq
  rw [drK] at hq ⊢
  obtain ⟨v0,⟨l0,u0⟩,c0⟩:=z63 bs hb p 8 (by omega) (by omega) (by omega)
  by_cases h0:v0=0
  ·subst h0
   refine ⟨leaf 1 0,p+1,⟨by rw [z82];omega,by omega,by omega⟩,?_⟩
   refine z7 z16 Tryz.func93 rfl rfl 43 Tryz.ntmps93 (by simp) ?_
   repeat' ((first|(apply y4 ok;rfl)|((apply z5)<;>intro _)|(apply z6 (z526);rfl;rfl)|(apply z25 [0] [] c0;rfl;rfl;rfl))<;>conv=>whnf)
   all_goals try (exfalso;omega)
   all_goals (refine rsD [0] [] rfl ?_;(repeat' first|exact y85 _|apply y86|constructor))
  ·obtain ⟨v1,m1,c1⟩:=z87 bs hb (p+1) (by omega) (by omega) [0,1,0,2] (by decide) (by decide)
   refine ⟨leaf 2 v1,p+1+1,⟨by rw [z82];omega,by omega,by omega⟩,?_⟩
   refine z7 z16 Tryz.func93 rfl rfl 43 Tryz.ntmps93 (by simp) ?_
   repeat' ((first|(apply y4 ok;rfl)|((apply z5)<;>intro _)|((first|(apply z8 [0] [] c0;rfl;rfl)|(apply z8 [0,2] [] c1;rfl;rfl));rfl;(focus ((repeat' first|exact z12|apply z11)<;>first|exact z33 rfl rfl|(refine z17 ?_;((exact z4 fun _=>rfl)))))))<;>conv=>whnf)
   all_goals try (exfalso;omega)
   all_goals (refine rsD [0] [] rfl ?_;(repeat' first|exact y85 _|exact z41|apply y86|apply z46|constructor))
 |succ n ih =>
  intro d p hd hd1 hd0 hp hq
  have hK:=z1182 n
  by_cases hlt:d < 2
  ·obtain ⟨t,p',h1,h2⟩:=ih d p (by omega) (by omega) hd0 hp (by rw [drK] at hq;omega)
   exact ⟨t,p',⟨by rw [drS];omega,h1.2.1,by rw [drK];omega⟩,h2⟩
  rw [drK] at hq
  rw [drK,drS]
  obtain ⟨w,⟨lw,uw⟩,cw⟩:=z63 bs hb p 5 (by omega) (by omega) (by omega)
  by_cases hw:w=0
  ·subst hw
   obtain ⟨v0,⟨l0,u0⟩,c0⟩:=z63 bs hb (p+1) 8 (by omega) (by omega) (by omega)
   by_cases h0:v0=0
   ·subst h0
    refine ⟨leaf 1 0,p+1+1,⟨by rw [z82];omega,by omega,by omega⟩,?_⟩
    refine z7 z16 Tryz.func93 rfl rfl 43 Tryz.ntmps93 (by simp) ?_
    repeat' ((first|(apply y4 ok;rfl)|((apply z5)<;>intro _)|(apply z6 (z526);rfl;rfl)|((first|(apply z25 [0] [] cw;rfl;rfl)|(apply z25 [0] [] c0;rfl;rfl));rfl))<;>conv=>whnf)
    all_goals try (exfalso;omega)
    all_goals (refine rsD [0] [] rfl ?_;(repeat' first|exact y85 _|apply y86|constructor))
   ·obtain ⟨v1,m1,c1⟩:=z87 bs hb (p+1+1) (by omega) (by omega) [0,1,0,2] (by decide) (by decide)
    refine ⟨leaf 2 v1,p+1+1+1,⟨by rw [z82];omega,by omega,by omega⟩,?_⟩
    refine z7 z16 Tryz.func93 rfl rfl 43 Tryz.ntmps93 (by simp) ?_
    repeat' ((first|(apply y4 ok;rfl)|((apply z5)<;>intro _)|((first|(apply z8 [0] [] cw;rfl;rfl)|(apply z8 [0] [] c0;rfl;rfl)|(apply z8 [0,2] [] c1;rfl;rfl));rfl;(focus ((repeat' first|exact z12|apply z11)<;>first|exact z33 rfl rfl|(refine z17 ?_;((exact z4 fun _=>rfl)))))))<;>conv=>whnf)
    all_goals try (exfalso;omega)
    all_goals (refine rsD [0] [] rfl ?_;(repeat' first|exact y85 _|exact z41|apply y86|apply z46|constructor))
  ·obtain ⟨kd,mk,ck⟩:=z87 bs hb (p+1) (by omega) (by omega) [7,9,10,3,4,5,6,8] (by decide) (by decide)
   have ca:=z598 kd
   have ham:∃ m:Nat,z180 kd=m∧m≤2:=by
    simp only [List.mem_cons,List.not_mem_nil,or_false] at mk
    unfold z180
    rcases mk with rfl|rfl|rfl|rfl|rfl|rfl|rfl|rfl
    all_goals first|exact ⟨2,rfl,by omega⟩|exact ⟨1,rfl,by omega⟩
   obtain ⟨m,em,hm⟩:=ham
   rw [em] at ca
   obtain ⟨ks,pf,hks,hp0,hst,hpf⟩:=z373 (fun k q (t:Tree) q'=>t.sz≤drS n∧CallsA Tryz.prog 93 [.ptr 0 none 0,.int (d - 1)] [rdO bs q] (z24 Tree.cs' t) [rdO bs q']) (p+1+1) (drK n) m (fun k q hk h1 h2=>by
    have:drK n * k≤drK n:=by
     have:k=0∨k=1:=by omega
     rcases this with rfl|rfl<;>simp<;>omega
    obtain ⟨t,q',⟨a1,a2,a3⟩,a4⟩:=ih (d - 1) q (by omega) (by omega) (by omega) (by omega) (by omega)
    exact ⟨t,q',⟨a1,a4⟩,a2,a3⟩)
   have hpm:=hpf m (y52 _)
   have hKm:drK n * m≤2 * drK n:=by
    have:m=0∨m=1∨m=2:=by omega
    rcases this with rfl|rfl|rfl<;>simp<;>omega
   have hsum:(ks.map Tree.sz).sum≤2 * drS n:=by
    have:∀ (l:List Tree),(∀ t∈l,t.sz≤drS n)→(l.map Tree.sz).sum≤l.length * drS n:=by
     intro l
     induction l with
     |nil=>intro _;simp
     |cons t l ih =>
      intro h
      have h1:=h t (by simp)
      have h2:=ih fun u hu=>h u (by simp [hu])
      simp only [List.map_cons,List.sum_cons,y57,Nat.add_mul]
      omega
    have h1:=this ks fun t ht=>by
     obtain ⟨i,hi,rfl⟩:=List.mem_iff_getElem.1 ht
     exact (hst i hi).1
    have h2:ks.length * drS n≤2 * drS n:=Nat.mul_le_mul_right _ (by omega)
    omega
   refine ⟨.mk kd 0 ks,pf m,⟨by rw [z231];omega,by omega,by omega⟩,?_⟩
   refine z7 z16 Tryz.func93 rfl rfl 43 Tryz.ntmps93 (by simp) ?_
   rw [← hp0] at ck
   repeat' ((first|(apply y4 ok;rfl)|((apply z5)<;>intro _)|(apply z6 (ca);rfl;rfl)|((first|(apply z8 [0] [] cw;rfl;rfl)|(apply z8 [0,2] [] ck;rfl;rfl));rfl;(focus ((repeat' first|exact z12|apply z11)<;>first|exact z33 rfl rfl|(refine z17 ?_;((exact z4 fun _=>rfl)))))))<;>conv=>whnf)
   all_goals try (exfalso;omega)
   refine y84 (y87 3 rfl) ?_
   refine z58 (fun k:Nat=>([(0,.ptr 0 none 0),(1,.int d),(4,.ptr 1 none 0),(5,.ptr 2 none 0),(6,.int (m - k))],[rdO bs (pf k),.cells 3 [[.int 0,.int 0,.nils]],.cells 3 [[.int kd,.int 0,.sref 3 0 k]],.cells 3 ((ks.take k).map Tree.cs')])) (fun k=>k≤m) (fun k=>m - k) 0 (by omega) (by refine swR [0,1,3,4] [] rfl rfl ?_;(repeat' first|exact y85 _|exact z47|apply y86|refine z10 rfl (z31) ?_|constructor)) ?_
   intro k hk
   by_cases hkm:k < m
   ·have hc:=(hst k (by omega)).2
    have hkl:k < ks.length:=by omega
    rw [y16] at hc
    repeat' ((first|(apply y4 ok;rfl)|(apply z26;kernel_rfl)|(apply y43;first|(unfold inI;omega)|((try dsimp only);simp only [y49,y48,y47,y46,y57,y58];omega)|exact ⟨rfl,z20 rfl z29⟩)|((apply z5)<;>intro _)|(apply z25 [0] [] hc;rfl;rfl;rfl))<;>conv=>whnf)
    all_goals try (exfalso;omega)
    refine z21 (k+1) (by omega) (by omega) (by refine swR [0,1,2,5] [] rfl rfl ?_;(repeat' first|exact y85 _|exact z338|(refine z121 ?_;omega)|apply y86|((refine z40 rfl ?_ ?_);(focus ((repeat' (first|exact z4 (fun _=>rfl)|apply z22));done)))|refine z106 (by omega) (by omega) ?_|(apply z66;rfl)|constructor))
   ·have:k=m:=by omega
    subst this
    repeat' ((first|(apply y4 ok;rfl)|(apply y43;omega)|((apply z5)<;>intro _))<;>conv=>whnf)
    all_goals try (exfalso;omega)
    all_goals (refine rsD [0] [3] rfl ?_;(repeat' first|exact y85 _|(refine z529 ?_;omega)|apply y86|((apply z37 rfl rfl rfl);(focus ((repeat ((exact z23 (fun _=>rfl) _)));done));(focus (((simp;omega));done)))|apply z46|constructor))
theorem z748 (bs:List Int) (hb:BytesOk bs) (p:Int) (hp:few p):∃ (t:Tree) (p' : Int),(t.sz≤20∧p≤p'∧p'≤p+100)∧CallsA Tryz.prog 37 [.ptr 0 none 0] [rdO bs p] (z24 Tree.cs' t) [rdO bs p']:=by
 obtain ⟨d,md,cd⟩:=z87 bs hb p (by omega) (by omega) [3,2,4,3] (by decide) (by decide)
 have hd:0≤d∧d≤4:=by simp at md;omega
 obtain ⟨t,q,⟨t1,t2,t3⟩,ct⟩:=z855 bs hb 3 d (p+1) (by omega) (by omega) (by omega) (by omega) (by simp only [drK];omega)
 simp only [drK] at t3
 simp only [drS] at t1
 have cv:=z566 t (z109 t (by unfold maxLen;omega))
 by_cases hv:t.fmB=true
 ·refine ⟨t,q,⟨by omega,by omega,by omega⟩,?_⟩
  rw [hv] at cv
  rw [y16] at *
  refine z7 z16 Tryz.func37 rfl rfl 15 Tryz.ntmps37 (by simp) ?_
  repeat' ((first|(apply y4 ok;rfl)|(apply z6 (cv);rfl;rfl)|((first|(apply z8 [0,2] [] cd;rfl;rfl)|(apply z8 [0] [] ct;rfl;rfl));rfl;(focus ((repeat' first|exact z12|apply z11)<;>first|exact z33 rfl rfl|(refine z17 ?_;((exact z4 fun _=>rfl)))))))<;>conv=>whnf)
  all_goals (refine rsD [0] [] rfl ?_;(repeat' first|exact y85 _|apply y86|constructor))
 ·refine ⟨.mk 10 0 [leaf 2 0],q,⟨by rw [z231];simp [z82],by omega,by omega⟩,?_⟩
  rw [(y71 _).mp hv] at cv
  rw [y16] at cv ct
  refine z7 z16 Tryz.func37 rfl rfl 15 Tryz.ntmps37 (by simp) ?_
  repeat' ((first|(apply y4 ok;rfl)|(apply z6 (cv);rfl;rfl)|((first|(apply z8 [0,2] [] cd;rfl;rfl)|(apply z8 [0] [] ct;rfl;rfl));rfl;(focus ((repeat' first|exact z12|apply z11)<;>first|exact z33 rfl rfl|(refine z17 ?_;((exact z4 fun _=>rfl)))))))<;>conv=>whnf)
  all_goals (refine rsD [0] [4] rfl ?_;(repeat' first|exact y85 _|exact z41|apply y86|refine z37 rfl rfl rfl rfl rfl ?_|apply z46|(apply z66;rfl)|constructor))
theorem argU (k v:Int) (a:Tree):z24 Tree.cs' (.mk k v [a])=.agg [.int k,.int v,.list 3 1 [Tree.cs' a]]:=by
 rw [y16]
 show AC.agg [AC.int k,AC.int v,lst 3 Tree.cs' [a]]=_
 rfl
theorem argB (k v:Int) (a b:Tree):z24 Tree.cs' (.mk k v [a,b])=.agg [.int k,.int v,.list 3 2 [Tree.cs' a,Tree.cs' b]]:=by
 rw [y16]
 rfl
end Go.Proofs.YtnfoijopccdjeaaGreat
namespace Go.Proofs.YtnfoijopccdjeaaGreat
open Go.Gl
attribute [local irreducible] z18 AWP z30 z36 z32
theorem z878 (l:List Tree) (hl:l.length≤1048576) (hp:0 < l.length):CallsA Tryz.prog 277 [lst 3 Tree.cs' l] [] (.sref 0 0 l.length) [.cells 3 (l.map Tree.cs')]:=by
 refine z14 z16 Tryz.func277 rfl rfl 8 Tryz.ntmps277 (by simp) ?_
 repeat' (first|(apply y4 ok;rfl;conv=>whnf)|(apply y43;(first|omega|(dsimp only;omega)|exact z120 (fun _=>rfl));conv=>whnf))
 exact z71 rfl (z4 fun _=>rfl) (Nat.zero_add _) rfl rfl
theorem z1020 (l:List Tree) (hl:l.length≤1048576):CallsA Tryz.prog 277 [lst 3 Tree.cs' l] [] (.sref 0 0 l.length) [.cells 3 (l.map Tree.cs')]:=by
 by_cases hp:0 < l.length
 ·exact z878 l hl hp
 ·obtain rfl:l=[]:=y73 (by omega)
  refine z127 (z178 Tryz.func277 rfl (by rfl)) fun ad cap=>?_
  cases ad with
  |none =>
   refine CallsA.nils (res:=.nils) (l:=[.cells 3 []]) ?_ (by simp) z259
   refine z14 z16 Tryz.func277 rfl rfl 8 Tryz.ntmps277 (by simp) ?_
   repeat' ((apply y4 ok;rfl;conv=>whnf))
   all_goals exact z49 rfl rfl rfl
  |some p =>
   refine z14 z16 Tryz.func277 rfl rfl 8 Tryz.ntmps277 (by simp) ?_
   repeat' (first|(apply y4 ok;rfl;conv=>whnf)|(apply y43;(omega);conv=>whnf))
   all_goals (exact z71 rfl z31 rfl rfl rfl)
theorem z547 (l:List Tree) (hl:l.length≤1048576):CallsA Tryz.prog 266 [.sref 0 0 l.length] [.cells 3 (l.map Tree.cs')] (.sref 0 0 l.length) [.cells 3 (l.map Tree.cs')]:=by
 refine z14 z16 Tryz.func266 rfl rfl 9 Tryz.ntmps266 (by simp) ?_
 repeat' (first|(apply y4 ok;rfl;conv=>whnf)|(apply y43;(omega);conv=>whnf))
 exact z71 rfl (z4 fun _=>rfl) (by omega) rfl rfl
theorem z169 (l:List Tree) (hl:l.length≤1048576):CallsA Tryz.prog 264 [lst 3 Tree.cs' l] [] (.sref 0 0 l.length) [.cells 3 (l.map Tree.cs')]:=by
 refine z14 z16 Tryz.func264 rfl rfl 6 Tryz.ntmps264 (by simp) ?_
 repeat' (first|(apply y4 ok;rfl;conv=>whnf)|(apply z97 [] [] [0] (z1020 l hl);rfl;(focus ((repeat' (exact z28))<;>(fail)));rfl;rfl;rfl;rfl;rfl;(focus ((repeat' (first|exact z12|apply z11))<;>((refine z17 ?_;((exact z4 (fun _=>rfl)))))));(exact .inl rfl);conv=>whnf)|(apply z97 [0] [] [] (z547 l hl);rfl;(focus ((repeat' (first|exact z28|apply z35))<;>((refine z54 rfl ?_;((exact z4 (fun _=>rfl)))))));rfl;rfl;rfl;rfl;rfl;(focus ((repeat' (first|exact z12|apply z11))<;>((refine z17 ?_;((exact z4 (fun _=>rfl)))))));(exact .inl rfl);conv=>whnf))
 exact z71 rfl (z4 fun _=>rfl) rfl rfl rfl
end Go.Proofs.YtnfoijopccdjeaaGreat
namespace Go.Proofs.YtnfoijopccdjeaaGreat
open Go.Gl
attribute [local irreducible] z18 AWP z30 z36 z32 RetS z38
theorem z1006 (k:Int) (l:List Tree) (hl:l.length≤1048576):CallsA Tryz.prog 235 [.int k,lst 3 Tree.cs' l] [] (.agg [.int k,.int 0,lst 3 Tree.cs' l]) []:=by
 have c:=z169 l hl
 refine z7 z16 Tryz.func235 rfl rfl 9 Tryz.ntmps235 (by simp) ?_
 repeat' ((first|(apply y4 ok;rfl)|(apply z8 [] [1] c;rfl;rfl;rfl;(focus ((repeat' first|exact z12|apply z11)<;>(refine z17 ?_;((exact z4 fun _=>rfl)))))))<;>conv=>whnf)
 all_goals (refine rsD [] [1] rfl ?_;(repeat' first|exact y85 _|((apply z37 rfl rfl rfl);(focus ((repeat ((exact z23 (fun _=>rfl) _)));done));(focus (((simp;done));done)))|apply z46|constructor))
theorem z864 (k:Int):CallsA Tryz.prog 235 [.int k,.nils] [] (.agg [.int k,.int 0,.list 3 0 []]) []:=(z1006 k [] (by simp)).arg (by (repeat' first|exact y85 _|exact z41|constructor))
theorem z124 (k:Int) (l:List Tree) (hl:l.length≤1048576):CallsA Tryz.prog 235 [.int k,.sref 0 0 l.length] [.cells 3 (l.map Tree.cs')] (.agg [.int k,.int 0,lst 3 Tree.cs' l]) [.dead]:=by
 have c:=z169 l hl
 refine z7 z16 Tryz.func235 rfl rfl 9 Tryz.ntmps235 (by simp) ?_
 refine y84 (Reach.rnm 0 rfl) ?_
 refine y84 (show Gl.Reach _ _ (mkSt _ [(0,.int k),(1,lst 3 Tree.cs' l)] [.dead]) from (by refine swR [0] [1] rfl rfl ?_;(repeat' first|exact y85 _|((apply z37 rfl rfl rfl);(focus ((repeat ((exact z23 (fun _=>rfl) _)));done));(focus (((simp;done));done)))|constructor))) ?_
 repeat' ((first|(apply y4 ok;rfl)|(apply z8 [] [2] c;rfl;rfl;rfl;(focus ((repeat' first|exact z12|apply z11)<;>(refine z17 ?_;((exact z4 fun _=>rfl)))))))<;>conv=>whnf)
 all_goals (refine rsD [0] [2] rfl ?_;(repeat' first|exact y85 _|((apply z37 rfl rfl rfl);(focus ((repeat ((exact z23 (fun _=>rfl) _)));done));(focus (((simp;done));done)))|apply z46|constructor))
theorem z444 (k kd v:Int):CallsA Tryz.prog 235 [.int k,.sref 0 0 1] [.cells 3 [[.int kd,.int v,.nils]]] (.agg [.int k,.int 0,lst 3 Tree.cs' [.mk kd v []]]) [.dead]:=by
 have c:=z169 [.mk kd v []] (by simp)
 refine z7 z16 Tryz.func235 rfl rfl 9 Tryz.ntmps235 (by simp) ?_
 refine y84 (Reach.rnm 0 rfl) ?_
 refine y84 (show Gl.Reach _ _ (mkSt _ [(0,.int k),(1,lst 3 Tree.cs' [.mk kd v []])] [.dead]) from (by refine swR [0] [1] rfl rfl ?_;(repeat' first|exact y85 _|exact z41|refine z37 rfl rfl rfl rfl rfl ?_|(apply z66;rfl)|constructor))) ?_
 repeat' ((first|(apply y4 ok;rfl)|(apply z25 [] [2] c;rfl;rfl;rfl))<;>conv=>whnf)
 all_goals (refine rsD [0] [2] rfl ?_;(repeat' first|exact y85 _|constructor))
theorem z288 (k v : Int) (l : List Tree) (neg : Bool) (i : Nat) (hi : i < l.length) (x : Tree) (hx : CallsA Tryz.prog 238 [z24 Tree.cs' l[i], .bool neg] [] (z24 Tree.cs' x) []) :
    CallsA Tryz.prog 267 [.int i,.ptr 0 none 0,.ptr 1 none 0] [.cells 3 [[.int k,.int v,lst 3 Tree.cs' l]],.cells 1 [[.bool neg]]] (z24 Tree.cs' x) [.cells 3 [[.int k,.int v,lst 3 Tree.cs' l]],.cells 1 [[.bool neg]]]:=by
  have g:(l.map Tree.cs')[i]?=some (Tree.cs' l[i]):=by rw [y51,y45 hi];rfl
  generalize l[i]=y at *
  refine z7 z16 Tryz.func267 rfl rfl 12 Tryz.ntmps267 (by simp) ?_
  repeat' ((first|(apply y4 ok;rfl)|(apply z26;kernel_rfl)|(refine z15 (i:=i) rfl g ?_)|(apply y43;omega)|(apply z6 (hx);rfl;rfl))<;>conv=>whnf)
  all_goals (refine rsD [0,1] [] rfl ?_;(repeat' first|exact y85 _|apply y86|constructor))
theorem z987 (a b:Int) (neg:Bool):CallsA Tryz.prog 268 [.int a,.int b,.ptr 0 none 0] [.cells 1 [[.bool neg]]] (.int (if neg then b else a)) [.cells 1 [[.bool neg]]]:=by
 refine z7 z16 Tryz.func268 rfl rfl 9 Tryz.ntmps268 (by simp) ?_
 cases neg
 all_goals
  repeat' (((apply y4 ok;rfl))<;>conv=>whnf)
  all_goals (refine rsD [0] [] rfl ?_;(repeat' first|exact y85 _|apply y86|constructor))
set_option maxHeartbeats 6400000 in
theorem z1120 (t:Tree):t.goodF→∀ neg:Bool,CallsA Tryz.prog 238 [z24 Tree.cs' t,.bool neg] [] (z24 Tree.cs' (t.nrm neg)) []:=by
 induction t using y26 with|h t ih=>?_
 intro hg neg
 have cT:=z864 1
 have cF:=z124 3 [.mk 1 0 []] (by simp)
 cases y21 hg with
 |tr =>
  rw [z921]
  clear ih
  cases neg
  all_goals
   refine z7 z16 Tryz.func238 rfl rfl 99 Tryz.ntmps238 (by simp) ?_
   repeat' ((first|(apply y4 ok;rfl)|(apply z6 (cT);rfl;rfl)|((first|(apply z8 [3] [] cF;rfl;rfl)|(apply z8 [6] [] (z444 3 1 0);rfl;rfl));rfl;(focus ((repeat' first|exact z12|apply z11)<;>exact z167))))<;>conv=>whnf)
   all_goals (refine rsD [] [] rfl ?_;(repeat' first|exact y85 _|exact z41|apply z46|constructor))
 |«at» v h0 h1 =>
  rw [z923]
  clear ih
  cases neg
  all_goals
   refine z7 z16 Tryz.func238 rfl rfl 99 Tryz.ntmps238 (by simp) ?_
   repeat' ((first|(apply y4 ok;rfl)|(apply z6 (cT);rfl;rfl)|((first|(apply z8 [3] [] cF;rfl;rfl)|(apply z8 [6] [] (z444 3 2 v);rfl;rfl));rfl;(focus ((repeat' first|exact z12|apply z11)<;>exact z167))))<;>conv=>whnf)
   all_goals (refine rsD [] [] rfl ?_;(repeat' first|exact y85 _|exact z41|apply z46|constructor))
 |un k a hk ha =>
  have ca:=fun n=>ih a (by simp [Tree.kids]) ha n
  clear ih
  rcases hk with rfl|rfl|rfl|rfl
  ·rw [z649,argU 3 0 a]
   have ca:=ca (!neg)
   refine z7 z16 Tryz.func238 rfl rfl 99 Tryz.ntmps238 (by simp) ?_
   repeat' ((first|(apply y4 ok;rfl)|(apply z26;kernel_rfl)|(refine ⟨_,rfl,?_⟩)|(apply y43;omega)|(apply z6 (cT);rfl;rfl)|(apply z6 (ca);rfl;rfl)|(apply z8 [3] [] cF;rfl;rfl;rfl;(focus ((repeat' first|exact z12|apply z11)<;>exact z167))))<;>conv=>whnf)
   all_goals (refine rsD [] [] rfl ?_;(repeat' first|exact y85 _|constructor))
  ·rw [z469,argU 6 0 a,argU]
   have ck:=z288 6 0 [a] neg 0 (by simp) (a.nrm neg) (ca neg)
   have cf:=z124 6 [a.nrm neg] (by simp)
   generalize a.nrm neg=x at *
   refine z7 z16 Tryz.func238 rfl rfl 99 Tryz.ntmps238 (by simp) ?_
   repeat' ((first|(apply y4 ok;rfl)|(apply z6 (cT);rfl;rfl)|((first|(apply z8 [3] [] cF;rfl;rfl)|(apply z8 [0,1] [] ck;rfl;rfl)|(apply z8 [5] [] cf;rfl;rfl));rfl;(focus ((repeat' first|exact z12|apply z11)<;>first|exact z167|exact z33 rfl rfl))))<;>conv=>whnf)
   all_goals (refine rsD [] [] rfl ?_;(repeat' first|exact y85 _|constructor))
  ·rw [z922,argU 9 0 a]
   have ck:=z288 9 0 [a] neg 0 (by simp) (a.nrm neg) (ca neg)
   have c7:=z124 7 [truT,a.nrm neg] (by simp)
   have c8:=z124 8 [notT truT,a.nrm neg] (by simp)
   generalize a.nrm neg=x at *
   cases neg
   ·rw [if_neg (by simp),argB]
    refine z7 z16 Tryz.func238 rfl rfl 99 Tryz.ntmps238 (by simp) ?_
    repeat' ((first|(apply y4 ok;rfl)|(apply z6 (cT);rfl;rfl)|((first|(apply z8 [3] [] cF;rfl;rfl)|(apply z8 [0,1] [] ck;rfl;rfl)|(apply z8 [5] [] c7;rfl;rfl));rfl;(focus ((repeat' first|exact z12|apply z11)<;>first|exact z167|exact z33 rfl rfl))))<;>conv=>whnf)
    all_goals (refine rsD [] [] rfl ?_;(repeat' first|exact y85 _|constructor))
   ·rw [if_pos rfl,argB]
    refine z7 z16 Tryz.func238 rfl rfl 99 Tryz.ntmps238 (by simp) ?_
    repeat' ((first|(apply y4 ok;rfl)|(apply z26;kernel_rfl)|(apply z6 (cT);rfl;rfl)|((first|(apply z8 [3] [] cF;rfl;rfl)|(apply z8 [0,1] [] ck;rfl;rfl)|(apply z8 [5] [] c8;rfl;rfl));rfl;(focus ((repeat' first|exact z12|apply z11)<;>first|exact z167|exact z33 rfl rfl))))<;>conv=>whnf)
    all_goals (refine rsD [] [] rfl ?_;(repeat' first|exact y85 _|constructor))
  ·rw [z924,argU 10 0 a]
   have ck:=z288 10 0 [a] neg 0 (by simp) (a.nrm neg) (ca neg)
   have c7:=z124 7 [truT,a.nrm neg] (by simp)
   have c8:=z124 8 [notT truT,a.nrm neg] (by simp)
   generalize a.nrm neg=x at *
   cases neg
   ·rw [if_neg (by simp),argB]
    refine z7 z16 Tryz.func238 rfl rfl 99 Tryz.ntmps238 (by simp) ?_
    repeat' ((first|(apply y4 ok;rfl)|(apply z26;kernel_rfl)|(apply z6 (cT);rfl;rfl)|((first|(apply z8 [3] [] cF;rfl;rfl)|(apply z8 [0,1] [] ck;rfl;rfl)|(apply z8 [5] [] c8;rfl;rfl));rfl;(focus ((repeat' first|exact z12|apply z11)<;>first|exact z167|exact z33 rfl rfl))))<;>conv=>whnf)
    all_goals (refine rsD [] [] rfl ?_;(repeat' first|exact y85 _|constructor))
   ·rw [if_pos rfl,argB]
    refine z7 z16 Tryz.func238 rfl rfl 99 Tryz.ntmps238 (by simp) ?_
    repeat' ((first|(apply y4 ok;rfl)|(apply z6 (cT);rfl;rfl)|((first|(apply z8 [3] [] cF;rfl;rfl)|(apply z8 [0,1] [] ck;rfl;rfl)|(apply z8 [5] [] c7;rfl;rfl));rfl;(focus ((repeat' first|exact z12|apply z11)<;>first|exact z167|exact z33 rfl rfl))))<;>conv=>whnf)
    all_goals (refine rsD [] [] rfl ?_;(repeat' first|exact y85 _|constructor))
 |bin k a b hk ha hb =>
  have ca:=z288 k 0 [a,b] neg 0 (by simp) (a.nrm neg) (ih a (by simp [Tree.kids]) ha neg)
  have cb:=z288 k 0 [a,b] neg 1 (by simp) (b.nrm neg) (ih b (by simp [Tree.kids]) hb neg)
  clear ih
  have cf:=z124 (if neg then z777 k else k) [a.nrm neg,b.nrm neg] (by simp)
  have cp:=z987 k (z777 k) neg
  rw [z650 _ _ _ _ _ hk,argB k 0 a b,argB]
  generalize a.nrm neg=x at *
  generalize b.nrm neg=y at *
  rcases hk with rfl|rfl|rfl|rfl
  all_goals
   refine z7 z16 Tryz.func238 rfl rfl 99 Tryz.ntmps238 (by simp) ?_
   repeat' ((first|(apply y4 ok;rfl)|(apply z6 (cT);rfl;rfl)|((first|(apply z8 [3] [] cF;rfl;rfl)|(apply z8 [0,1] [] ca;rfl;rfl)|(apply z8 [0,1] [] cb;rfl;rfl)|(apply z8 [1] [] cp;rfl;rfl)|(apply z8 [5] [] cf;rfl;rfl));rfl;(focus ((repeat' first|exact z12|apply z11)<;>first|exact z167|exact z33 rfl rfl))))<;>conv=>whnf)
   all_goals (refine rsD [] [] rfl ?_;(repeat' first|exact y85 _|constructor))
end Go.Proofs.YtnfoijopccdjeaaGreat
