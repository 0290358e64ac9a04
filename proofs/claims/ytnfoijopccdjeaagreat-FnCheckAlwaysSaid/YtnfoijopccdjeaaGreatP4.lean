/- A part of the proofs over this program: T184, T220, T93, T94, T140, T141, T142, T221, T222, T223, T143, T224. -/
import Derived.Test.YtnfoijopccdjeaaGreatG0
import Derived.Test.YtnfoijopccdjeaaGreatG1
import Derived.Test.YtnfoijopccdjeaaGreatG2
import Derived.Test.YtnfoijopccdjeaaGreatG3
import Derived.Test.YtnfoijopccdjeaaGreatP0
import Derived.Test.YtnfoijopccdjeaaGreatP1
import Derived.Test.YtnfoijopccdjeaaGreatP2
import Derived.Test.YtnfoijopccdjeaaGreatP3
set_option linter.all false
namespace Go.Proofs.YtnfoijopccdjeaaGreat
open Go.Gl
attribute [local irreducible] z18 AWP z33 z37 z34 RetS z40
theorem z440 {N w:Nat} (Q P:List Int) (hw:w < N):((frm N Q P).map enI)[w]?=some (enI (if (w:Int)∈Q then P.getD w 0 else -2)):=by
 unfold frm
 rw [y51,y51,List.getElem?_range hw];rfl
theorem z489 {N w:Nat} {Q P:List Int} {u:Int} (hw:w < N) (hP:P.length=N):((frm N Q P).map enI).set w (enI u)=(frm N (Q++[(w:Int)]) (P.set w u)).map enI:=by
 have:=frm_set (N:=N) (Q:=Q) (P:=P) (v:=(w:Int)) (u:=u) ⟨by omega,by omega⟩ hP
 rw [y76] at this
 rw [← this,List.map_set]
set_option maxHeartbeats 12800000 in
theorem z377 (rows : List (List Int)) (ini : List Int) (hr : ∀ r ∈ rows, InN rows.length r) (hi : InN rows.length ini) (hn : ini.Nodup) (hN : rows.length ≤ 100000) (hrl : ∀ r ∈ rows, r.length ≤ 1000000000) (G : Int → Bool) (f : FuncId) (c1 : List AC) (hf : ∀ x : Int, 0 ≤ x → x < rows.length → CallsA Tryz.prog f (.int x :: [.pt c1]) [] (.bool (G x)) []) :
    CallsA Tryz.prog 198 [lst 1 encL rows,ints ini,.fn (.func f) [] [.pt c1]] [] (.sref 0 0 (shL rows ini G).length) [.cells 1 ((shL rows ini G).map enI)]:=by
  have hil:ini.length≤100000:=by have:=z166 rows.length ini hn hi;omega
  refine z7 z14 Tryz.func198 rfl rfl 99 Tryz.ntmps198 (by simp) ?_
  repeat' ((first|(apply y4 ok;rfl)|(apply y43;(dsimp only;omega)))<;>conv=>whnf)
  obtain ⟨qm,hqm⟩:∃ qm:Nat→Nat→Int,qm=fun i j=>if j < i then -2 else 0:=⟨_,rfl⟩
  have q0:qm 0=fun _=>0:=by rw [hqm];rfl
  have qE:(fnL rows.length (qm rows.length)).map enI=(frm rows.length [] (List.replicate rows.length (-1))).map enI:=by
    rw [z1166]
    congr 1
    apply y74 (by simp [fnL])
    intro i h1 h2
    rw [z695,hqm]
    have hi' : i < rows.length:=by rw [z122] at h1;exact h1
    dsimp only
    rw [if_pos hi'];simp
  have qS:∀ i,qm (i+1)=upd (qm i) i (-2):=fun i=>by
    funext j
    by_cases h:j=i
    · subst h;rw [z29,hqm];dsimp only;rw [if_pos (by omega)]
    · rw [z52 _ _ h,hqm];dsimp only;split<;>split<;>first|rfl|omega
  clear hqm
  refine z64 (fun i:Nat=>([(0,lst 1 encL rows),(1,ints ini),(2,.fn (.func f) [] [.pt c1]),(7,.sref 0 0 rows.length),(21,.int rows.length),(22,.int i)],[.cells 1 ((fnL rows.length (qm i)).map enI)])) (fun i=>i≤rows.length) (fun i=>rows.length - i) 0 (y53 _) (by refine swR [0] [] rfl rfl ?_;(repeat' first|exact y85 _|refine z10 rfl (z73 rfl) ?_|constructor)<;>((refine z46 ?_;rw [q0];exact z326 _))) ?_
  intro i hi1
  by_cases hi2:i < rows.length
  · have g1:=z180 (qm i) hi2
    have l1:=z122 rows.length (qm i)
    have e1:=z160 (N:=rows.length) (u:=i) (qm i) (-2)
    rw [← qS] at e1
    repeat' ((first|(apply y4 ok;rfl)|(refine z15 (i:=i) rfl g1 ?_)|(apply y43;first|omega|(unfold inI;omega))|((apply z6)<;>intro _))<;>conv=>whnf)
    all_goals try (exfalso;omega)
    all_goals refine z27 (i+1) hi2 (by omega) (by refine swR [0] [] rfl rfl ?_;(repeat' first|exact y85 _|refine z69 rfl (z5 (fun _=>rfl)) ?_|constructor)<;>((refine z46 ?_;exact e1)))
  obtain rfl:i=rows.length:=by omega
  rw [qE]
  clear qE qS q0
  repeat' ((first|(apply y4 ok;rfl)|(apply y43;omega)|(((apply z9;omega));intro _)|((apply z6)<;>intro _))<;>conv=>whnf)
  all_goals try (exfalso;omega)
  refine y84 (y87 1 rfl) ?_
  have hrep:(List.replicate rows.length (-1:Int)).length=rows.length:=by simp
  have hrs:∀ w,(List.replicate rows.length (-1:Int)).set w (-1)=List.replicate rows.length (-1):=fun w=>by
    apply y74 (by simp)
    intro i h1 h2
    rw [List.getElem_set]
    split<;>simp
  have hS0:(frm rows.length ini (List.replicate rows.length (-1)))=frm rows.length (srS rows ini 0).1 (srS rows ini 0).2:=rfl
  generalize List.replicate rows.length (-1:Int)=P0 at *
  refine z64 (fun k:Nat=>([(0,lst 1 encL rows),(2,.fn (.func f) [] [.pt c1]),(7,.sref 0 0 rows.length),(9,.sref 1 0 (ini.take k).length),(29,ints ini),(30,.int ini.length),(31,.int k)],[.cells 1 ((frm rows.length (ini.take k) P0).map enI),.cells 1 ((ini.take k).map enI)])) (fun k=>k≤ini.length) (fun k=>ini.length - k) 0 (y53 _) (by refine swR [0,1] [] rfl rfl ?_;(repeat' first|exact y85 _|exact z49|exact z12 _|((refine z10 rfl ?_ ?_);(focus ((repeat' (first|exact z30|exact z5 (fun _=>rfl)));done)))|constructor)) ?_
  intro k hk
  by_cases hk2:k < ini.length
  · have gk:(ini.map enI)[k]?=some (enI ini[k]):=by rw [y51,y45 hk2];rfl
    have hv:=hi _ (y44 hk2)
    have et:ini.take (k+1)=ini.take k++[ini[k]]:=y50 hk2
    have htl:(ini.take k).length≤100000:=by rw [y48];omega
    generalize hQ' : ini.take (k+1)=Q' at *
    generalize hQ:ini.take k=Q at *
    generalize ini[k]=v at *
    obtain ⟨w,rfl⟩:∃ w:Nat,v=w:=⟨v.toNat,by omega⟩
    have hw:w < rows.length:=by omega
    have g1:=z440 Q P0 hw
    have l1:=z439 rows.length Q P0
    have e1:=z489 (Q:=Q) (u:=-1) hw hrep
    rw [hrs,← et] at e1
    subst et
    repeat' ((first|(apply y4 ok;rfl)|(refine z15 (i:=k) rfl gk ?_)|(refine z15 (i:=w) rfl g1 ?_)|(apply y43;first|omega|(unfold inI;omega)|((try dsimp only);simp only [y49,y48,y47,y46,y57,y58];omega)|exact ⟨rfl,z21 rfl z31⟩)|((apply z6)<;>intro _))<;>conv=>whnf)
    all_goals try (exfalso;omega)
    all_goals refine z27 (k+1) hk2 (by omega) ?_
    all_goals dsimp only
    all_goals rw [hQ']
    all_goals exact (by refine swR [0,3] [] rfl rfl ?_;(repeat' first|exact y85 _|(refine z45 ?_;((simp;done)))|((first|refine z43 rfl ?_ ?_|refine z69 rfl ?_ ?_);(focus ((repeat' (first|exact z5 (fun _=>rfl)|apply z28));done)))|(refine z68 ?_ ?_;(focus (omega)))|constructor)<;>((refine z46 ?_;exact e1)))
  obtain rfl:k=ini.length:=by omega
  rw [y55,hS0]
  repeat' ((first|(apply y4 ok;rfl)|(apply y43;omega)|((first|(with_reducible apply z9;omega)|(apply z9;omega));intro _)|((apply z6)<;>intro _))<;>conv=>whnf)
  all_goals try (exfalso;omega)
  refine z64 (fun i:Nat=>([(0,lst 1 encL rows),(2,.fn (.func f) [] [.pt c1]),(7,.sref 0 0 rows.length),(9,.sref 1 0 (srS rows ini i).1.length),(12,.int i)],[.cells 1 ((frm rows.length (srS rows ini i).1 (srS rows ini i).2).map enI),.cells 1 ((srS rows ini i).1.map enI)])) (fun i=>i≤rows.length∧∀ k (_:k < i) (h:k < (srS rows ini i).1.length),G ((srS rows ini i).1[k])=false) (fun i=>rows.length+1 - i) 0 ⟨y53 _,fun k h=>by omega⟩ (by refine swR [0,1] [] rfl rfl ?_;(repeat' first|exact y85 _|exact z12 _|refine z10 rfl (z5 (fun _=>rfl)) ?_|constructor)<;>(fail)) ?_
  rintro i ⟨hi1,hno⟩
  have hJ:=z243 hr hi hn i
  have hQl:=z513 hr hi hn i
  by_cases hi2:i < (srS rows ini i).1.length
  · have hx:=hJ.inn _ (y44 hi2)
    have cf:=hf _ hx.1 hx.2
    have gx:((srS rows ini i).1.map enI)[i]?=some (enI (srS rows ini i).1[i]):=by rw [y51,y45 hi2];rfl
    have hnx:srS rows ini (i+1)=visPs (srS rows ini i).1[i] (srS rows ini i) (rows.getD ((srS rows ini i).1[i]).toNat []):=by rw [srS,dif_pos hi2]
    have hfnd:=fun h=>z740 hr hi hn (G:=G) hi2 h (fun k hk=>hno k hk (by omega))
    have hpre:=z368 (srS rows ini i).1[i] (rows.getD ((srS rows ini i).1[i]).toNat []) (srS rows ini i)
    by_cases hG:G (srS rows ini i).1[i]=true
    · rw [hfnd hG,z710,y64]
      have hq0:∃ k,∃ h:k < (srS rows ini i).1.length,(srS rows ini i).1[k]=(srS rows ini i).1[i]∧k≤rows.length:=⟨i,hi2,rfl,hi1⟩
      rw [hG] at cf
      clear hfnd hnx hpre hno
      generalize hS:srS rows ini i=S at *
      obtain ⟨Q,P⟩:=S
      dsimp only at *
      have hi4:i < Q.length:=hi2
      generalize Q[i]=x at *
      repeat' ((first|(apply y4 ok;rfl)|(refine z15 (i:=i) rfl gx ?_)|(apply y43;omega)|((apply z6)<;>intro _)|(apply z4 (cf);rfl;rfl))<;>conv=>whnf)
      all_goals try (exfalso;omega)
      all_goals
        refine y84 (y87 1 rfl) ?_
        have hB1:=z904 P rows.length x
        generalize hB:chn P rows.length x=B at *
        refine z64 (fun y:Nat×List Int×Int=>([(7,.sref 0 0 rows.length),(13,.int y.2.2),(14,.sref 1 0 y.2.1.length)],[.cells 1 ((frm rows.length Q P).map enI),.cells 1 (y.2.1.map enI)])) (fun y=>y.2.1.length+y.1≤rows.length+1∧((0≤y.2.2∧y.2.1++chn P (y.1 - 1) y.2.2=B∧1≤y.1∧∃ k,∃ h:k < Q.length,Q[k]=y.2.2∧k+1≤y.1)∨(y.2.2=-1∧y.2.1=B))) (fun y=>y.1+(if 0≤y.2.2 then 1 else 0)) (rows.length+1,[],x) ⟨by simp,.inl ⟨hx.1,by simpa using hB,by omega,by obtain ⟨k,h,h1,h2⟩:=hq0;exact ⟨k,h,h1,by omega⟩⟩⟩ (by refine swR [0,2] [] rfl rfl ?_;(repeat' first|exact y85 _|exact z49|exact z12 _|((refine z10 rfl ?_ ?_);(focus ((repeat' (first|exact z30|exact z5 (fun _=>rfl)));done)))|constructor)) ?_
        rintro ⟨fu,ac,u⟩ ⟨q1,q2⟩
        dsimp only at q1 q2 ⊢
        rcases q2 with ⟨q2,q3,q4,k,hk,q5,q6⟩|⟨rfl,rfl⟩
        · have huN:=hJ.inn u (q5 ▸ y44 hk)
          obtain ⟨w,rfl⟩:∃ w:Nat,u=w:=⟨u.toNat,by omega⟩
          have hw:w < rows.length:=by omega
          have gw:=z440 Q P hw
          rw [if_pos (q5 ▸ y44 hk)] at gw
          have lw:=z439 rows.length Q P
          have hp:=hJ.pre k hk
          rw [q5,y76] at hp
          dsimp only at hp
          obtain ⟨fu,rfl⟩:∃ m,fu=m+1:=⟨fu - 1,by omega⟩
          rw [Nat.add_sub_cancel] at q3
          have hnext:P.getD w 0=-1∧ac++[(w:Int)]=B∨(0≤P.getD w 0∧(ac++[(w:Int)])++chn P (fu - 1) (P.getD w 0)=B∧1≤fu∧∃ k,∃ h:k < Q.length,Q[k]=P.getD w 0∧k+1≤fu):=by
            rcases hp with hp|⟨j,hj,hjk,hp⟩
            · left
              refine ⟨hp,?_⟩
              rw [← q3]
              cases fu with
              | zero=>rfl
              | succ fu =>
                rw [chn,y76,if_neg (by omega)]
            · right
              have:=hJ.inn _ (y44 hj)
              refine ⟨by omega,?_,by omega,j,hj,hp.symm,by omega⟩
              obtain ⟨fu,rfl⟩:∃ m,fu=m+1:=⟨fu - 1,by omega⟩
              rw [chn,y76,if_pos (by omega)] at q3
              rw [← q3]
              simp
          have hvb : -1≤P.getD w 0∧P.getD w 0 < rows.length:=by
            rcases hnext with ⟨h,_⟩|⟨h,_,_,j,hj,hp2,_⟩
            · omega
            · have:=hJ.inn _ (y44 hj)
              omega
          clear hp
          generalize P.getD w 0=v at *
          repeat' ((first|(apply y4 ok;rfl)|(refine z15 (i:=w) rfl gw ?_)|(apply y43;first|omega|((try dsimp only);simp only [y49,y48,y47,y46,y57,y58];omega)|exact ⟨rfl,z21 rfl z31⟩))<;>conv=>whnf)
          all_goals refine z27 (fu,ac++[(w:Int)],v) ⟨by simp only [y47,List.length_singleton];omega,?_⟩ ?_ (by refine swR [0,3] [] rfl rfl ?_;(repeat' first|exact y85 _|exact z12 _|(refine z45 ?_;((simp;done)))|((first|refine z43 rfl ?_ ?_|refine z10 rfl ?_ ?_);(focus ((repeat' (first|exact z5 (fun _=>rfl)|apply z28));done)))|(refine z68 ?_ ?_;(focus (omega)))|constructor))
          all_goals dsimp only
          all_goals first|(rcases hnext with ⟨h1,h2⟩|h1<;>first|exact .inr ⟨h1,h2⟩|exact .inl h1)|(rw [if_pos (show (0:Int)≤w by omega)];split<;>omega)
        · have cr:=z605 ac (by omega) (by omega)
          have cc:=z214 (rvs ac) (by rw [z427];omega)
          have el:=z427 ac
          rw [← rvs_eq]
          generalize rvs ac=D at *
          rw [el] at cc ⊢
          repeat' ((first|(apply y4 ok;rfl)|((first|(apply z93 [1] [] cr;rfl;(focus ((repeat' first|exact z35|apply z44)<;>(refine z59 rfl ?_;((exact z5 fun _=>rfl))))))|(apply z93 [1] [] cc;rfl;(focus ((repeat' first|exact z35|apply z44)<;>(refine z59 rfl ?_;((exact z5 fun _=>rfl)))))));rfl;(focus ((repeat' first|exact z13|apply z11)<;>(refine z19 ?_;((exact z5 fun _=>rfl)))))))<;>conv=>whnf)
          all_goals (refine rsD [1] [] rfl ?_;(repeat' first|exact y85 _|exact z12 _|refine z10 rfl (z5 (fun _=>rfl)) ?_|constructor))
    · have hG:=(y71 _).mp hG
      rw [hG] at cf
      have hno2:∀ k (_:k < i+1) (h:k < (srS rows ini (i+1)).1.length),G ((srS rows ini (i+1)).1[k])=false:=by
        obtain ⟨t,ht⟩:=z512 (rows:=rows) (ini:=ini) (show i≤i+1 by omega)
        intro k hk h
        have hki:k < (srS rows ini i).1.length:=by omega
        have e:(srS rows ini (i+1)).1[k]=(srS rows ini i).1[k]:=by
          simp only [ht,List.getElem_append_left hki]
        rw [e]
        by_cases hk3:k < i
        · exact hno k hk3 hki
        · obtain rfl:k=i:=by omega
          exact hG
      have hile:i+1≤rows.length:=by omega
      have hJv:=fun l hl=>PJ.visPs (N:=rows.length) l hJ hi2 rfl hl
      clear hfnd hpre hno
      generalize hS' : srS rows ini (i+1)=S' at *
      generalize hS:srS rows ini i=S at *
      obtain ⟨Q,P⟩:=S
      dsimp only at *
      have hi4:i < Q.length:=hi2
      generalize hxx:Q[i]=x at *
      obtain ⟨u,rfl⟩:∃ u:Nat,x=u:=⟨x.toNat,by omega⟩
      rw [y76] at hnx
      have hu:u < rows.length:=by omega
      have gr:=z526 hu
      have hrow:=z204 hr (u:Int)
      rw [y76] at hrow
      have hrowl:(rows.getD u []).length≤1000000000:=by rw [z17 hu];exact hrl _ (y44 _)
      generalize rows.getD u []=row at *
      repeat' ((first|(apply y4 ok;rfl)|(refine z15 (i:=i) rfl gx ?_)|(refine z15 (i:=u) rfl gr ?_)|(apply y43;omega)|((apply z6)<;>intro _)|(apply z4 (cf);rfl;rfl))<;>conv=>whnf)
      all_goals try (exfalso;omega)
      all_goals
        refine z64 (fun j:Nat=>([(0,lst 1 encL rows),(2,.fn (.func f) [] [.pt c1]),(7,.sref 0 0 rows.length),(9,.sref 1 0 (visPs (u:Int) (Q,P) (row.take j)).1.length),(12,.int i),(76,ints row),(77,.int row.length),(78,.int j)],[.cells 1 ((frm rows.length (visPs (u:Int) (Q,P) (row.take j)).1 (visPs (u:Int) (Q,P) (row.take j)).2).map enI),.cells 1 ((visPs (u:Int) (Q,P) (row.take j)).1.map enI)])) (fun j=>j≤row.length) (fun j=>row.length - j) 0 (y53 _) (by refine swR [0,1] [] rfl rfl ?_;(repeat' first|exact y85 _|exact z12 _|refine z10 rfl (z5 (fun _=>rfl)) ?_|constructor)<;>(fail)) ?_
        intro j hj
        obtain ⟨hJj,hij,hxj⟩:=hJv (row.take j) (fun x hx=>hrow x (List.mem_of_mem_take hx))
        have hQjl:(visPs (u:Int) (Q,P) (row.take j)).1.length≤rows.length:=z166 _ _ hJj.nd hJj.inn
        have gxj:((visPs (u:Int) (Q,P) (row.take j)).1.map enI)[i]?=some (enI (u:Int)):=by
          rw [y51,y45 hij,hxj];rfl
        by_cases hj2:j < row.length
        · have gj:(row.map enI)[j]?=some (enI row[j]):=by rw [y51,y45 hj2];rfl
          have hv:=hrow _ (y44 hj2)
          have et:=z420 (u:=(u:Int)) (x:=(Q,P)) hj2
          have hge:=hJj.pre
          generalize hT' : visPs (u:Int) (Q,P) (row.take (j+1))=T' at *
          generalize hT:visPs (u:Int) (Q,P) (row.take j)=T at *
          generalize row[j]=v at *
          obtain ⟨w,rfl⟩:∃ w:Nat,v=w:=⟨v.toNat,by omega⟩
          have hw:w < rows.length:=by omega
          have gw:=z440 T.1 T.2 hw
          have lw:=z439 rows.length T.1 T.2
          have hTl:=hJj.len
          by_cases hm:(w:Int)∈T.1
          · rw [z317 hm] at et
            rw [if_pos hm] at gw
            have hwv : -1≤T.2.getD w 0:=by
              obtain ⟨k,hk,ek⟩:=List.mem_iff_getElem.1 hm
              have h1:=hge k hk
              rw [ek,y76] at h1
              rcases h1 with h1|⟨y,hy,_,h1⟩
              · omega
              · have:=hJj.inn _ (y44 hy);omega
            generalize T.2.getD w 0=pv at *
            repeat' ((first|(apply y4 ok;rfl)|(refine z15 (i:=j) rfl gj ?_)|(refine z15 (i:=w) rfl gw ?_)|(apply y43;first|omega|(unfold inI;omega))|(((apply z9;omega));intro _)|((apply z6)<;>intro _))<;>conv=>whnf)
            all_goals try (exfalso;omega)
            all_goals refine z27 (j+1) hj2 (by omega) ?_
            all_goals dsimp only
            all_goals rw [hT',et]
            all_goals exact (by refine swR [0,1] [] rfl rfl ?_;(repeat' first|exact y85 _|exact z12 _|refine z10 rfl (z5 (fun _=>rfl)) ?_|constructor))
          · rw [z318 hm,y76] at et
            rw [if_neg hm] at gw
            have e1:=z489 (Q:=T.1) (u:=(u:Int)) hw hTl
            repeat' ((first|(apply y4 ok;rfl)|(refine z15 (i:=j) rfl gj ?_)|(refine z15 (i:=w) rfl gw ?_)|(refine z15 (i:=i) rfl gxj ?_)|(apply y43;first|omega|(unfold inI;omega)|((try dsimp only);simp only [y49,y48,y47,y46,y57,y58];omega)|exact ⟨rfl,z21 rfl z31⟩)|((apply z6)<;>intro _))<;>conv=>whnf)
            all_goals try (exfalso;omega)
            all_goals refine z27 (j+1) hj2 (by omega) ?_
            all_goals dsimp only
            all_goals rw [hT',et]
            all_goals dsimp only
            all_goals exact (by refine swR [0,3] [] rfl rfl ?_;(repeat' first|exact y85 _|(refine z45 ?_;((simp;done)))|((first|refine z43 rfl ?_ ?_|refine z69 rfl ?_ ?_);(focus ((repeat' (first|exact z5 (fun _=>rfl)|apply z28));done)))|(refine z68 ?_ ?_;(focus (omega)))|constructor)<;>((refine z46 ?_;exact e1)))
        obtain rfl:j=row.length:=by omega
        rw [y55,← hnx] at *
        repeat' ((first|(apply y4 ok;rfl)|(apply y43;first|omega|(unfold inI;omega))|((first|(with_reducible apply z9;omega)|(apply z9;omega));intro _)|((apply z6)<;>intro _))<;>conv=>whnf)
        all_goals try (exfalso;omega)
        all_goals refine z27 (i+1) ⟨hile,by rw [hS'];exact hno2⟩ (by omega) ?_
        all_goals dsimp only
        all_goals rw [hS']
        all_goals exact (by refine swR [0,1] [] rfl rfl ?_;(repeat' first|exact y85 _|exact z12 _|refine z10 rfl (z5 (fun _=>rfl)) ?_|constructor))
  · rw [z934 (G:=G) (by omega) hi1 (fun k hk=>hno k (by omega) hk)]
    repeat' ((first|(apply y4 ok;rfl)|(apply y43;omega)|(((apply z9;omega));intro _)|((apply z6)<;>intro _))<;>conv=>whnf)
    all_goals try (exfalso;omega)
    all_goals (refine y88 1 ?_;refine rsD [2] [] rfl ?_;(repeat' first|exact z49|refine z10 rfl (z30) ?_|constructor))
set_option maxHeartbeats 12800000 in
theorem z662 (rows : List (List Int)) (ini : List Int) (hr : ∀ r ∈ rows, InN rows.length r) (hi : InN rows.length ini) (hn : ini.Nodup) (hN : rows.length ≤ 100000) (hrl : ∀ r ∈ rows, r.length ≤ 1000000000) (G : Int → Bool) (f : FuncId) (c1 c2 : List AC) (hf : ∀ x : Int, 0 ≤ x → x < rows.length → CallsA Tryz.prog f (.int x :: [.pt c1, .pt c2]) [] (.bool (G x)) []) :
    CallsA Tryz.prog 198 [lst 1 encL rows,ints ini,.fn (.func f) [] [.pt c1,.pt c2]] [] (.sref 0 0 (shL rows ini G).length) [.cells 1 ((shL rows ini G).map enI)]:=by
  have hil:ini.length≤100000:=by have:=z166 rows.length ini hn hi;omega
  refine z7 z14 Tryz.func198 rfl rfl 99 Tryz.ntmps198 (by simp) ?_
  repeat' ((first|(apply y4 ok;rfl)|(apply y43;(dsimp only;omega)))<;>conv=>whnf)
  obtain ⟨qm,hqm⟩:∃ qm:Nat→Nat→Int,qm=fun i j=>if j < i then -2 else 0:=⟨_,rfl⟩
  have q0:qm 0=fun _=>0:=by rw [hqm];rfl
  have qE:(fnL rows.length (qm rows.length)).map enI=(frm rows.length [] (List.replicate rows.length (-1))).map enI:=by
    rw [z1166]
    congr 1
    apply y74 (by simp [fnL])
    intro i h1 h2
    rw [z695,hqm]
    have hi' : i < rows.length:=by rw [z122] at h1;exact h1
    dsimp only
    rw [if_pos hi'];simp
  have qS:∀ i,qm (i+1)=upd (qm i) i (-2):=fun i=>by
    funext j
    by_cases h:j=i
    · subst h;rw [z29,hqm];dsimp only;rw [if_pos (by omega)]
    · rw [z52 _ _ h,hqm];dsimp only;split<;>split<;>first|rfl|omega
  clear hqm
  refine z64 (fun i:Nat=>([(0,lst 1 encL rows),(1,ints ini),(2,.fn (.func f) [] [.pt c1,.pt c2]),(7,.sref 0 0 rows.length),(21,.int rows.length),(22,.int i)],[.cells 1 ((fnL rows.length (qm i)).map enI)])) (fun i=>i≤rows.length) (fun i=>rows.length - i) 0 (y53 _) (by refine swR [0] [] rfl rfl ?_;(repeat' first|exact y85 _|refine z10 rfl (z73 rfl) ?_|constructor)<;>((refine z46 ?_;rw [q0];exact z326 _))) ?_
  intro i hi1
  by_cases hi2:i < rows.length
  · have g1:=z180 (qm i) hi2
    have l1:=z122 rows.length (qm i)
    have e1:=z160 (N:=rows.length) (u:=i) (qm i) (-2)
    rw [← qS] at e1
    repeat' ((first|(apply y4 ok;rfl)|(refine z15 (i:=i) rfl g1 ?_)|(apply y43;first|omega|(unfold inI;omega))|((apply z6)<;>intro _))<;>conv=>whnf)
    all_goals try (exfalso;omega)
    all_goals refine z27 (i+1) hi2 (by omega) (by refine swR [0] [] rfl rfl ?_;(repeat' first|exact y85 _|refine z69 rfl (z5 (fun _=>rfl)) ?_|constructor)<;>((refine z46 ?_;exact e1)))
  obtain rfl:i=rows.length:=by omega
  rw [qE]
  clear qE qS q0
  repeat' ((first|(apply y4 ok;rfl)|(apply y43;omega)|(((apply z9;omega));intro _)|((apply z6)<;>intro _))<;>conv=>whnf)
  all_goals try (exfalso;omega)
  refine y84 (y87 1 rfl) ?_
  have hrep:(List.replicate rows.length (-1:Int)).length=rows.length:=by simp
  have hrs:∀ w,(List.replicate rows.length (-1:Int)).set w (-1)=List.replicate rows.length (-1):=fun w=>by
    apply y74 (by simp)
    intro i h1 h2
    rw [List.getElem_set]
    split<;>simp
  have hS0:(frm rows.length ini (List.replicate rows.length (-1)))=frm rows.length (srS rows ini 0).1 (srS rows ini 0).2:=rfl
  generalize List.replicate rows.length (-1:Int)=P0 at *
  refine z64 (fun k:Nat=>([(0,lst 1 encL rows),(2,.fn (.func f) [] [.pt c1,.pt c2]),(7,.sref 0 0 rows.length),(9,.sref 1 0 (ini.take k).length),(29,ints ini),(30,.int ini.length),(31,.int k)],[.cells 1 ((frm rows.length (ini.take k) P0).map enI),.cells 1 ((ini.take k).map enI)])) (fun k=>k≤ini.length) (fun k=>ini.length - k) 0 (y53 _) (by refine swR [0,1] [] rfl rfl ?_;(repeat' first|exact y85 _|exact z49|exact z12 _|((refine z10 rfl ?_ ?_);(focus ((repeat' (first|exact z30|exact z5 (fun _=>rfl)));done)))|constructor)) ?_
  intro k hk
  by_cases hk2:k < ini.length
  · have gk:(ini.map enI)[k]?=some (enI ini[k]):=by rw [y51,y45 hk2];rfl
    have hv:=hi _ (y44 hk2)
    have et:ini.take (k+1)=ini.take k++[ini[k]]:=y50 hk2
    have htl:(ini.take k).length≤100000:=by rw [y48];omega
    generalize hQ' : ini.take (k+1)=Q' at *
    generalize hQ:ini.take k=Q at *
    generalize ini[k]=v at *
    obtain ⟨w,rfl⟩:∃ w:Nat,v=w:=⟨v.toNat,by omega⟩
    have hw:w < rows.length:=by omega
    have g1:=z440 Q P0 hw
    have l1:=z439 rows.length Q P0
    have e1:=z489 (Q:=Q) (u:=-1) hw hrep
    rw [hrs,← et] at e1
    subst et
    repeat' ((first|(apply y4 ok;rfl)|(refine z15 (i:=k) rfl gk ?_)|(refine z15 (i:=w) rfl g1 ?_)|(apply y43;first|omega|(unfold inI;omega)|((try dsimp only);simp only [y49,y48,y47,y46,y57,y58];omega)|exact ⟨rfl,z21 rfl z31⟩)|((apply z6)<;>intro _))<;>conv=>whnf)
    all_goals try (exfalso;omega)
    all_goals refine z27 (k+1) hk2 (by omega) ?_
    all_goals dsimp only
    all_goals rw [hQ']
    all_goals exact (by refine swR [0,3] [] rfl rfl ?_;(repeat' first|exact y85 _|(refine z45 ?_;((simp;done)))|((first|refine z43 rfl ?_ ?_|refine z69 rfl ?_ ?_);(focus ((repeat' (first|exact z5 (fun _=>rfl)|apply z28));done)))|(refine z68 ?_ ?_;(focus (omega)))|constructor)<;>((refine z46 ?_;exact e1)))
  obtain rfl:k=ini.length:=by omega
  rw [y55,hS0]
  repeat' ((first|(apply y4 ok;rfl)|(apply y43;omega)|((first|(with_reducible apply z9;omega)|(apply z9;omega));intro _)|((apply z6)<;>intro _))<;>conv=>whnf)
  all_goals try (exfalso;omega)
  refine z64 (fun i:Nat=>([(0,lst 1 encL rows),(2,.fn (.func f) [] [.pt c1,.pt c2]),(7,.sref 0 0 rows.length),(9,.sref 1 0 (srS rows ini i).1.length),(12,.int i)],[.cells 1 ((frm rows.length (srS rows ini i).1 (srS rows ini i).2).map enI),.cells 1 ((srS rows ini i).1.map enI)])) (fun i=>i≤rows.length∧∀ k (_:k < i) (h:k < (srS rows ini i).1.length),G ((srS rows ini i).1[k])=false) (fun i=>rows.length+1 - i) 0 ⟨y53 _,fun k h=>by omega⟩ (by refine swR [0,1] [] rfl rfl ?_;(repeat' first|exact y85 _|exact z12 _|refine z10 rfl (z5 (fun _=>rfl)) ?_|constructor)<;>(fail)) ?_
  rintro i ⟨hi1,hno⟩
  have hJ:=z243 hr hi hn i
  have hQl:=z513 hr hi hn i
  by_cases hi2:i < (srS rows ini i).1.length
  · have hx:=hJ.inn _ (y44 hi2)
    have cf:=hf _ hx.1 hx.2
    have gx:((srS rows ini i).1.map enI)[i]?=some (enI (srS rows ini i).1[i]):=by rw [y51,y45 hi2];rfl
    have hnx:srS rows ini (i+1)=visPs (srS rows ini i).1[i] (srS rows ini i) (rows.getD ((srS rows ini i).1[i]).toNat []):=by rw [srS,dif_pos hi2]
    have hfnd:=fun h=>z740 hr hi hn (G:=G) hi2 h (fun k hk=>hno k hk (by omega))
    have hpre:=z368 (srS rows ini i).1[i] (rows.getD ((srS rows ini i).1[i]).toNat []) (srS rows ini i)
    by_cases hG:G (srS rows ini i).1[i]=true
    · rw [hfnd hG,z710,y64]
      have hq0:∃ k,∃ h:k < (srS rows ini i).1.length,(srS rows ini i).1[k]=(srS rows ini i).1[i]∧k≤rows.length:=⟨i,hi2,rfl,hi1⟩
      rw [hG] at cf
      clear hfnd hnx hpre hno
      generalize hS:srS rows ini i=S at *
      obtain ⟨Q,P⟩:=S
      dsimp only at *
      have hi4:i < Q.length:=hi2
      generalize Q[i]=x at *
      repeat' ((first|(apply y4 ok;rfl)|(refine z15 (i:=i) rfl gx ?_)|(apply y43;omega)|((apply z6)<;>intro _)|(apply z4 (cf);rfl;rfl))<;>conv=>whnf)
      all_goals try (exfalso;omega)
      all_goals
        refine y84 (y87 1 rfl) ?_
        have hB1:=z904 P rows.length x
        generalize hB:chn P rows.length x=B at *
        refine z64 (fun y:Nat×List Int×Int=>([(7,.sref 0 0 rows.length),(13,.int y.2.2),(14,.sref 1 0 y.2.1.length)],[.cells 1 ((frm rows.length Q P).map enI),.cells 1 (y.2.1.map enI)])) (fun y=>y.2.1.length+y.1≤rows.length+1∧((0≤y.2.2∧y.2.1++chn P (y.1 - 1) y.2.2=B∧1≤y.1∧∃ k,∃ h:k < Q.length,Q[k]=y.2.2∧k+1≤y.1)∨(y.2.2=-1∧y.2.1=B))) (fun y=>y.1+(if 0≤y.2.2 then 1 else 0)) (rows.length+1,[],x) ⟨by simp,.inl ⟨hx.1,by simpa using hB,by omega,by obtain ⟨k,h,h1,h2⟩:=hq0;exact ⟨k,h,h1,by omega⟩⟩⟩ (by refine swR [0,2] [] rfl rfl ?_;(repeat' first|exact y85 _|exact z49|exact z12 _|((refine z10 rfl ?_ ?_);(focus ((repeat' (first|exact z30|exact z5 (fun _=>rfl)));done)))|constructor)) ?_
        rintro ⟨fu,ac,u⟩ ⟨q1,q2⟩
        dsimp only at q1 q2 ⊢
        rcases q2 with ⟨q2,q3,q4,k,hk,q5,q6⟩|⟨rfl,rfl⟩
        · have huN:=hJ.inn u (q5 ▸ y44 hk)
          obtain ⟨w,rfl⟩:∃ w:Nat,u=w:=⟨u.toNat,by omega⟩
          have hw:w < rows.length:=by omega
          have gw:=z440 Q P hw
          rw [if_pos (q5 ▸ y44 hk)] at gw
          have lw:=z439 rows.length Q P
          have hp:=hJ.pre k hk
          rw [q5,y76] at hp
          dsimp only at hp
          obtain ⟨fu,rfl⟩:∃ m,fu=m+1:=⟨fu - 1,by omega⟩
          rw [Nat.add_sub_cancel] at q3
          have hnext:P.getD w 0=-1∧ac++[(w:Int)]=B∨(0≤P.getD w 0∧(ac++[(w:Int)])++chn P (fu - 1) (P.getD w 0)=B∧1≤fu∧∃ k,∃ h:k < Q.length,Q[k]=P.getD w 0∧k+1≤fu):=by
            rcases hp with hp|⟨j,hj,hjk,hp⟩
            · left
              refine ⟨hp,?_⟩
              rw [← q3]
              cases fu with
              | zero=>rfl
              | succ fu =>
                rw [chn,y76,if_neg (by omega)]
            · right
              have:=hJ.inn _ (y44 hj)
              refine ⟨by omega,?_,by omega,j,hj,hp.symm,by omega⟩
              obtain ⟨fu,rfl⟩:∃ m,fu=m+1:=⟨fu - 1,by omega⟩
              rw [chn,y76,if_pos (by omega)] at q3
              rw [← q3]
              simp
          have hvb : -1≤P.getD w 0∧P.getD w 0 < rows.length:=by
            rcases hnext with ⟨h,_⟩|⟨h,_,_,j,hj,hp2,_⟩
            · omega
            · have:=hJ.inn _ (y44 hj)
              omega
          clear hp
          generalize P.getD w 0=v at *
          repeat' ((first|(apply y4 ok;rfl)|(refine z15 (i:=w) rfl gw ?_)|(apply y43;first|omega|((try dsimp only);simp only [y49,y48,y47,y46,y57,y58];omega)|exact ⟨rfl,z21 rfl z31⟩))<;>conv=>whnf)
          all_goals refine z27 (fu,ac++[(w:Int)],v) ⟨by simp only [y47,List.length_singleton];omega,?_⟩ ?_ (by refine swR [0,3] [] rfl rfl ?_;(repeat' first|exact y85 _|exact z12 _|(refine z45 ?_;((simp;done)))|((first|refine z43 rfl ?_ ?_|refine z10 rfl ?_ ?_);(focus ((repeat' (first|exact z5 (fun _=>rfl)|apply z28));done)))|(refine z68 ?_ ?_;(focus (omega)))|constructor))
          all_goals dsimp only
          all_goals first|(rcases hnext with ⟨h1,h2⟩|h1<;>first|exact .inr ⟨h1,h2⟩|exact .inl h1)|(rw [if_pos (show (0:Int)≤w by omega)];split<;>omega)
        · have cr:=z605 ac (by omega) (by omega)
          have cc:=z214 (rvs ac) (by rw [z427];omega)
          have el:=z427 ac
          rw [← rvs_eq]
          generalize rvs ac=D at *
          rw [el] at cc ⊢
          repeat' ((first|(apply y4 ok;rfl)|((first|(apply z93 [1] [] cr;rfl;(focus ((repeat' first|exact z35|apply z44)<;>(refine z59 rfl ?_;((exact z5 fun _=>rfl))))))|(apply z93 [1] [] cc;rfl;(focus ((repeat' first|exact z35|apply z44)<;>(refine z59 rfl ?_;((exact z5 fun _=>rfl)))))));rfl;(focus ((repeat' first|exact z13|apply z11)<;>(refine z19 ?_;((exact z5 fun _=>rfl)))))))<;>conv=>whnf)
          all_goals (refine rsD [1] [] rfl ?_;(repeat' first|exact y85 _|exact z12 _|refine z10 rfl (z5 (fun _=>rfl)) ?_|constructor))
    · have hG:=(y71 _).mp hG
      rw [hG] at cf
      have hno2:∀ k (_:k < i+1) (h:k < (srS rows ini (i+1)).1.length),G ((srS rows ini (i+1)).1[k])=false:=by
        obtain ⟨t,ht⟩:=z512 (rows:=rows) (ini:=ini) (show i≤i+1 by omega)
        intro k hk h
        have hki:k < (srS rows ini i).1.length:=by omega
        have e:(srS rows ini (i+1)).1[k]=(srS rows ini i).1[k]:=by
          simp only [ht,List.getElem_append_left hki]
        rw [e]
        by_cases hk3:k < i
        · exact hno k hk3 hki
        · obtain rfl:k=i:=by omega
          exact hG
      have hile:i+1≤rows.length:=by omega
      have hJv:=fun l hl=>PJ.visPs (N:=rows.length) l hJ hi2 rfl hl
      clear hfnd hpre hno
      generalize hS' : srS rows ini (i+1)=S' at *
      generalize hS:srS rows ini i=S at *
      obtain ⟨Q,P⟩:=S
      dsimp only at *
      have hi4:i < Q.length:=hi2
      generalize hxx:Q[i]=x at *
      obtain ⟨u,rfl⟩:∃ u:Nat,x=u:=⟨x.toNat,by omega⟩
      rw [y76] at hnx
      have hu:u < rows.length:=by omega
      have gr:=z526 hu
      have hrow:=z204 hr (u:Int)
      rw [y76] at hrow
      have hrowl:(rows.getD u []).length≤1000000000:=by rw [z17 hu];exact hrl _ (y44 _)
      generalize rows.getD u []=row at *
      repeat' ((first|(apply y4 ok;rfl)|(refine z15 (i:=i) rfl gx ?_)|(refine z15 (i:=u) rfl gr ?_)|(apply y43;omega)|((apply z6)<;>intro _)|(apply z4 (cf);rfl;rfl))<;>conv=>whnf)
      all_goals try (exfalso;omega)
      all_goals
        refine z64 (fun j:Nat=>([(0,lst 1 encL rows),(2,.fn (.func f) [] [.pt c1,.pt c2]),(7,.sref 0 0 rows.length),(9,.sref 1 0 (visPs (u:Int) (Q,P) (row.take j)).1.length),(12,.int i),(76,ints row),(77,.int row.length),(78,.int j)],[.cells 1 ((frm rows.length (visPs (u:Int) (Q,P) (row.take j)).1 (visPs (u:Int) (Q,P) (row.take j)).2).map enI),.cells 1 ((visPs (u:Int) (Q,P) (row.take j)).1.map enI)])) (fun j=>j≤row.length) (fun j=>row.length - j) 0 (y53 _) (by refine swR [0,1] [] rfl rfl ?_;(repeat' first|exact y85 _|exact z12 _|refine z10 rfl (z5 (fun _=>rfl)) ?_|constructor)<;>(fail)) ?_
        intro j hj
        obtain ⟨hJj,hij,hxj⟩:=hJv (row.take j) (fun x hx=>hrow x (List.mem_of_mem_take hx))
        have hQjl:(visPs (u:Int) (Q,P) (row.take j)).1.length≤rows.length:=z166 _ _ hJj.nd hJj.inn
        have gxj:((visPs (u:Int) (Q,P) (row.take j)).1.map enI)[i]?=some (enI (u:Int)):=by
          rw [y51,y45 hij,hxj];rfl
        by_cases hj2:j < row.length
        · have gj:(row.map enI)[j]?=some (enI row[j]):=by rw [y51,y45 hj2];rfl
          have hv:=hrow _ (y44 hj2)
          have et:=z420 (u:=(u:Int)) (x:=(Q,P)) hj2
          have hge:=hJj.pre
          generalize hT' : visPs (u:Int) (Q,P) (row.take (j+1))=T' at *
          generalize hT:visPs (u:Int) (Q,P) (row.take j)=T at *
          generalize row[j]=v at *
          obtain ⟨w,rfl⟩:∃ w:Nat,v=w:=⟨v.toNat,by omega⟩
          have hw:w < rows.length:=by omega
          have gw:=z440 T.1 T.2 hw
          have lw:=z439 rows.length T.1 T.2
          have hTl:=hJj.len
          by_cases hm:(w:Int)∈T.1
          · rw [z317 hm] at et
            rw [if_pos hm] at gw
            have hwv : -1≤T.2.getD w 0:=by
              obtain ⟨k,hk,ek⟩:=List.mem_iff_getElem.1 hm
              have h1:=hge k hk
              rw [ek,y76] at h1
              rcases h1 with h1|⟨y,hy,_,h1⟩
              · omega
              · have:=hJj.inn _ (y44 hy);omega
            generalize T.2.getD w 0=pv at *
            repeat' ((first|(apply y4 ok;rfl)|(refine z15 (i:=j) rfl gj ?_)|(refine z15 (i:=w) rfl gw ?_)|(apply y43;first|omega|(unfold inI;omega))|(((apply z9;omega));intro _)|((apply z6)<;>intro _))<;>conv=>whnf)
            all_goals try (exfalso;omega)
            all_goals refine z27 (j+1) hj2 (by omega) ?_
            all_goals dsimp only
            all_goals rw [hT',et]
            all_goals exact (by refine swR [0,1] [] rfl rfl ?_;(repeat' first|exact y85 _|exact z12 _|refine z10 rfl (z5 (fun _=>rfl)) ?_|constructor))
          · rw [z318 hm,y76] at et
            rw [if_neg hm] at gw
            have e1:=z489 (Q:=T.1) (u:=(u:Int)) hw hTl
            repeat' ((first|(apply y4 ok;rfl)|(refine z15 (i:=j) rfl gj ?_)|(refine z15 (i:=w) rfl gw ?_)|(refine z15 (i:=i) rfl gxj ?_)|(apply y43;first|omega|(unfold inI;omega)|((try dsimp only);simp only [y49,y48,y47,y46,y57,y58];omega)|exact ⟨rfl,z21 rfl z31⟩)|((apply z6)<;>intro _))<;>conv=>whnf)
            all_goals try (exfalso;omega)
            all_goals refine z27 (j+1) hj2 (by omega) ?_
            all_goals dsimp only
            all_goals rw [hT',et]
            all_goals dsimp only
            all_goals exact (by refine swR [0,3] [] rfl rfl ?_;(repeat' first|exact y85 _|(refine z45 ?_;((simp;done)))|((first|refine z43 rfl ?_ ?_|refine z69 rfl ?_ ?_);(focus ((repeat' (first|exact z5 (fun _=>rfl)|apply z28));done)))|(refine z68 ?_ ?_;(focus (omega)))|constructor)<;>((refine z46 ?_;exact e1)))
        obtain rfl:j=row.length:=by omega
        rw [y55,← hnx] at *
        repeat' ((first|(apply y4 ok;rfl)|(apply y43;first|omega|(unfold inI;omega))|((first|(with_reducible apply z9;omega)|(apply z9;omega));intro _)|((apply z6)<;>intro _))<;>conv=>whnf)
        all_goals try (exfalso;omega)
        all_goals refine z27 (i+1) ⟨hile,by rw [hS'];exact hno2⟩ (by omega) ?_
        all_goals dsimp only
        all_goals rw [hS']
        all_goals exact (by refine swR [0,1] [] rfl rfl ?_;(repeat' first|exact y85 _|exact z12 _|refine z10 rfl (z5 (fun _=>rfl)) ?_|constructor))
  · rw [z934 (G:=G) (by omega) hi1 (fun k hk=>hno k (by omega) hk)]
    repeat' ((first|(apply y4 ok;rfl)|(apply y43;omega)|(((apply z9;omega));intro _)|((apply z6)<;>intro _))<;>conv=>whnf)
    all_goals try (exfalso;omega)
    all_goals (refine y88 1 ?_;refine rsD [2] [] rfl ?_;(repeat' first|exact z49|refine z10 rfl (z30) ?_|constructor))
end Go.Proofs.YtnfoijopccdjeaaGreat
namespace Go.Proofs.YtnfoijopccdjeaaGreat
open Go.Gl
attribute [local irreducible] z18 AWP z33 z37 z34
theorem z469 {d : Int} (l : List Tree) (hl : l.length ≤ maxLen) (p : Tree → Int → Bool) (nx : Tree → Int → Int) (okS : Int → Prop) (hok : ∀ x s, okS s → p x s = false → okS (nx x s)) (f : FuncId) (s : Int) (h0 : okS s)
    (hf:∀ x∈l,∀ s,okS s→CallsA Tryz.prog f [z20 Tree.cs' x,.pt [.int d],.ptr 1 none 0] [.cells 1 [[.int s]],.cells 1 [[.ptr 0 none 0]]] (.bool (p x s)) [.cells 1 [[.int (nx x s)]],.cells 1 [[.ptr 0 none 0]]]) :
    CallsA Tryz.prog 256 [lst 3 Tree.cs' l,.fn (.func f) [] [.pt [.int d],.ptr 1 none 0]] [.cells 1 [[.int s]],.cells 1 [[.ptr 0 none 0]]] (.int (idxS p nx l s 0).1) [.cells 1 [[.int (idxS p nx l s 0).2]],.cells 1 [[.ptr 0 none 0]]]:=by
  unfold maxLen at hl
  refine z16 z14 Tryz.func256 rfl rfl 19 Tryz.ntmps256 (by simp) ?_
  repeat' ((apply y4 ok;rfl;conv=>whnf))
  refine z108 (fun x:Nat×Int=>([(0,lst 3 Tree.cs' l),(1,.fn (.func f) [] [.pt [.int d],.ptr 1 none 0]),(7,.int l.length),(8,.int x.1)],[.cells 1 [[.int x.2]],.cells 1 [[.ptr 0 none 0]]])) (fun x=>x.1≤l.length∧okS x.2∧idxS p nx l s 0=idxS p nx (l.drop x.1) x.2 x.1) (fun x=>l.length - x.1) (0,s) ⟨by omega,h0,rfl⟩
    ⟨[0,1],rfl,by decide,rfl,⟨⟨rfl,rfl⟩,⟨rfl,rfl⟩,⟨rfl,rfl⟩,⟨rfl,rfl⟩,trivial⟩,⟨z22 rfl rfl,z22 rfl rfl,trivial⟩⟩ ?_
  rintro ⟨k,t⟩ ⟨hk1,hk2,hk3⟩
  dsimp only at hk1 hk2 hk3
  repeat' (first|(apply y4 ok;rfl;conv=>whnf)|(apply y43;(first|omega|(unfold inI;omega));conv=>whnf)|(with_reducible apply z9;omega;intro _;conv=>whnf)|(apply z6<;>intro _<;>conv=>whnf)|(apply z95<;>intro _<;>conv=>whnf)|(apply z98 [0,1] [] [] (hf l[k] (y44 _) t hk2);rfl;(focus ((repeat' (first|exact z35|apply z44))<;>(rfl)));rfl;rfl;rfl;rfl;rfl;(focus ((repeat' (first|exact z13|apply z11))<;>(exact z42 rfl rfl)));(exact .inl rfl);conv=>whnf))
  · rename_i h hkl h1
    rw [y79 hkl,idxS,if_pos h1] at hk3
    rw [hk3]
    exact z88 [0,1] (by decide) rfl rfl rfl ⟨z22 rfl rfl,z22 rfl rfl,trivial⟩
  · rename_i h hkl h1
    rw [y79 hkl,idxS,if_neg (by rw [h1];simp)] at hk3
    exact z97 (k+1,nx l[k] t) [0,1] ⟨by dsimp only;omega,hok _ _ hk2 h1,hk3⟩ (by dsimp only;omega) ⟨rfl,by decide,rfl,⟨⟨rfl,rfl⟩,⟨rfl,rfl⟩,⟨rfl,rfl⟩,⟨rfl,rfl⟩,trivial⟩,⟨z22 rfl rfl,z22 rfl rfl,trivial⟩⟩
  · rw [y83 (by omega),idxS] at hk3
    rw [hk3]
    exact z88 [0,1] (by decide) rfl rfl rfl ⟨z22 rfl rfl,z22 rfl rfl,trivial⟩
theorem z805 {d : Int} (l : List Tree) (hl : l.length ≤ maxLen) (p : Tree → Int → Bool) (nx : Tree → Int → Int) (okS : Int → Prop) (hok : ∀ x s, okS s → p x s = false → okS (nx x s)) (f : FuncId) (s : Int) (h0 : okS s)
    (hf:∀ x∈l,∀ s,okS s→CallsA Tryz.prog f [z20 Tree.cs' x,.pt [.int d],.ptr 1 none 0] [.cells 1 [[.int s]],.cells 1 [[.ptr 0 none 0]]] (.bool (p x s)) [.cells 1 [[.int (nx x s)]],.cells 1 [[.ptr 0 none 0]]]) :
    CallsA Tryz.prog 218 [lst 3 Tree.cs' l,.fn (.func f) [] [.pt [.int d],.ptr 1 none 0]] [.cells 1 [[.int s]],.cells 1 [[.ptr 0 none 0]]] (.bool (decide (0≤(idxS p nx l s 0).1))) [.cells 1 [[.int (idxS p nx l s 0).2]],.cells 1 [[.ptr 0 none 0]]]:=by
  refine z16 z14 Tryz.func218 rfl rfl 9 Tryz.ntmps218 (by simp) ?_
  repeat' (first|(apply y4 ok;rfl;conv=>whnf)|(apply z98 [0,1] [] [] (z469 (d:=d) l hl p nx okS hok f s h0 hf);rfl;(focus ((repeat' (first|exact z35|apply z44))<;>(rfl)));rfl;rfl;rfl;rfl;rfl;(focus ((repeat' (first|exact z13|apply z11))<;>(exact z42 rfl rfl)));(exact .inl rfl);conv=>whnf))
  exact z88 [0,1] (by decide) rfl rfl rfl ⟨z22 rfl rfl,z22 rfl rfl,trivial⟩
theorem z867 (k:Int):CallsA Tryz.prog 217 [.int k] [] (.int (if k=1∨k=2 then 0 else if k=4∨k=5∨k=7∨k=8 then 2 else 1)) []:=by
 refine z16 z14 Tryz.func217 rfl rfl 12 Tryz.ntmps217 (by simp) ?_
 repeat' (first|(apply y4 ok;rfl;conv=>whnf)|(apply z6<;>intro _<;>conv=>whnf))
 all_goals (refine z47 rfl rfl ?_;first|(rw [if_pos (by omega)];rfl)|(rw [if_neg (by omega),if_pos (by omega)];rfl)|(rw [if_neg (by omega),if_neg (by omega)];rfl))
theorem walkF_ok (t:Tree):t.mx→∀ d n:Int,0≤d→d≤100→0≤n→n≤12→CallsA Tryz.prog 163 [z20 Tree.cs' t,.int d,.ptr 0 none 0] [.cells 1 [[.int n]]] (.bool (t.walkF d n).2) [.cells 1 [[.int (t.walkF d n).1]]]:=by
  induction t using y28 with|h t ih=>?_
  intro hm d n hd0 hd1 h0 h1
  rw [y29] at hm
  have hs:=Tree.walkF_spec.1
  have hk:d≤6→n+1≤12→CallsA Tryz.prog 218 [lst 3 Tree.cs' t.kids,.fn (.func 219) [] [.pt [.int d],.ptr 1 none 0]] [.cells 1 [[.int (n+1)]],.cells 1 [[.ptr 0 none 0]]] (.bool (!(Tree.walkFs t.kids (d+1) (n+1)).2)) [.cells 1 [[.int (Tree.walkFs t.kids (d+1) (n+1)).1]],.cells 1 [[.ptr 0 none 0]]]:=by
    intro hd hn
    have h:=z805 (d:=d) t.kids hm.1 (fun x s=>!(x.walkF (d+1) s).2) (fun x s=>(x.walkF (d+1) s).1) (fun s=>0≤s∧s≤12) (fun x s h1 h2=>by
      obtain ⟨a1,a2,a3,a4⟩:=hs x (d+1) s h1.1 h1.2
      have h3:(x.walkF (d+1) s).2=true:=by simpa using h2
      have:=(a1.1 h3).2
      rw [← a2 h3] at this
      exact ⟨by omega,this⟩) 219 (n+1) ⟨by omega,by omega⟩ (fun x hx s h=>by
        have hc:=ih x hx (hm.2 x hx) (d+1) s (by omega) (by omega) h.1 h.2
        refine z16 z14 Tryz.func219 rfl rfl 11 Tryz.ntmps219 (by simp) ?_
        repeat' (first|(apply y4 ok;rfl;conv=>whnf)|(apply y43;((unfold inI;omega));conv=>whnf)|(apply z98 [0] [] [] (hc);rfl;(focus ((repeat' (first|exact z35|apply z44))<;>(rfl)));rfl;rfl;rfl;rfl;rfl;(focus ((repeat' (first|exact z13|apply z11))<;>(exact z42 rfl rfl)));(exact .inl rfl);conv=>whnf))
        exact z88 [0,1] (by decide) rfl rfl rfl ⟨z22 rfl rfl,z22 rfl rfl,trivial⟩)
    rw [y42 (d+1) t.kids (n+1) 0,Bool.not_not]
    exact h
  have hk2:=fun h1 h2=>by
    have:=hk h1 h2
    unfold lst at this
    rw [← y19] at this
    exact this
  refine z16 z14 Tryz.func163 rfl rfl 51 Tryz.ntmps163 (by simp) ?_
  repeat' (first|(apply y4 ok;rfl;conv=>whnf)|(apply z23;kernel_rfl;conv=>whnf)|(apply y43;((unfold inI;omega));conv=>whnf)|(apply z6<;>intro _<;>conv=>whnf)|(apply z53<;>intro _<;>conv=>whnf)|(apply z109<;>intro _<;>conv=>whnf)|(apply z4 (z236 _ 1 10);rfl;rfl;conv=>whnf)|(apply z4 (z236 _ 0 2);rfl;rfl;conv=>whnf)|(apply z4 (z236 _ 0 0);rfl;rfl;conv=>whnf)|(apply z4 (z867 t.kind);rfl;rfl;conv=>whnf)|(apply z98 [0,3] [2] [] (hk2 (by omega) (by omega));rfl;(focus ((repeat' (first|exact z35|apply z44))<;>(rfl)));rfl;rfl;rfl;rfl;rfl;(focus ((repeat' (first|exact z13|apply z11))<;>(exact z42 rfl rfl)));((refine .inr ⟨rfl,?_⟩;repeat' (first|exact True.intro|apply y43|exact rfl)));conv=>whnf))
  all_goals first
    | (have e : t.walkF d n = (n + 1, false) := by
        rw [y41,if_neg]
        clear hk hk2 hs ih
        rintro ⟨c1,c2,c3,c4,c5⟩
        try simp only [z308,z123] at *
        unfold z393 at c4
        unfold z182 at c5
        grind
       rw [e]
       exact z88 [0] (by decide) rfl rfl rfl ⟨z22 rfl rfl,trivial⟩)
    | (have e : t.walkF d n = Tree.walkFs t.kids (d + 1) (n + 1) := by
        rw [y41,if_pos]
        clear hk hk2 hs ih
        try simp only [z308,z123] at *
        unfold z393 z182
        grind
       rw [e]
       refine z88 [0] (by decide) rfl rfl ?_ ⟨z22 rfl rfl,trivial⟩
       show AC.raw (.bool (!!_))=_
       rw [Bool.not_not];rfl)
theorem z1022 (t:Tree) (hm:t.mx):CallsA Tryz.prog 103 [z20 Tree.cs' t] [] (.int (if t.fmB=true then (t.walkF 1 0).1 else 0)) []:=by
 have hk:=walkF_ok t hm 1 0 (by omega) (by omega) (by omega) (by omega)
 unfold Tree.fmB
 refine z16 z14 Tryz.func103 rfl rfl 8 Tryz.ntmps103 (by simp) ?_
 repeat' (first|(apply y4 ok;rfl;conv=>whnf)|(apply z109<;>intro _<;>conv=>whnf)|(apply z98 [1] [] [] (hk);rfl;(focus ((repeat' (first|exact z35|apply z44))<;>(rfl)));rfl;rfl;rfl;rfl;rfl;(focus ((repeat' (first|exact z13|apply z11))<;>(exact z42 rfl rfl)));(exact .inl rfl);conv=>whnf))
 all_goals exact z527 rfl (by simp [*])
theorem z121 (t:Tree) (hm:t.mx):CallsA Tryz.prog 42 [z20 Tree.cs' t] [] (.bool t.fmB) []:=by
 have hk:=z1022 t hm
 have e:decide (0 < if t.fmB=true then (t.walkF 1 0).1 else 0)=t.fmB:=by
  by_cases h:t.fmB=true
  ·have h2:=(Tree.walkF_spec.1 t 1 0 (by omega) (by omega)).2.1 h
   have h3:=Tree.count_pos.1 t (7 - 1)
   rw [h,if_pos rfl];exact y81 (by omega)
  ·rw [if_neg h,(y71 _).mp h];rfl
 refine z16 z14 Tryz.func42 rfl rfl 6 Tryz.ntmps42 (by simp) ?_
 repeat' (first|(apply y4 ok;rfl;conv=>whnf)|(apply z4 (hk);rfl;rfl;conv=>whnf))
 all_goals exact z32 rfl e.symm
end Go.Proofs.YtnfoijopccdjeaaGreat
namespace Go.Proofs.YtnfoijopccdjeaaGreat
open Go.Gl
attribute [local irreducible] z18 AWP z33 z37 z34 RetS z40
def isSt (bs:List Int) (i:Int) (q:Int) (t:State) (q' : Int):Prop:=∃ a b:Int,t=⟨[i % 3],[a,b,0]⟩∧q'=q+1+1 ∧
 CallsA Tryz.prog 88 [.ptr 0 none 0,.int 3] [rdO bs q] (.int a) [rdO bs (q+1)]∧CallsA Tryz.prog 88 [.ptr 0 none 0,.int 2] [rdO bs (q+1)] (.int b) [rdO bs (q+1+1)]
def isRow (bs:List Int) (n:Nat) (q:Int) (r:List Int) (q' : Int):Prop:=∃ a b c:Int,r=(if c=0∧b≠a then [a,b] else [a])∧q'=q+1+1+1 ∧
 CallsA Tryz.prog 88 [.ptr 0 none 0,.int n] [rdO bs q] (.int a) [rdO bs (q+1)]∧CallsA Tryz.prog 88 [.ptr 0 none 0,.int n] [rdO bs (q+1)] (.int b) [rdO bs (q+1+1)] ∧
 CallsA Tryz.prog 88 [.ptr 0 none 0,.int 2] [rdO bs (q+1+1)] (.int c) [rdO bs (q+1+1+1)]
structure Small (bs:List Int) (q q' : Int) (g:Graph) (m:Nat) (pf pg:Nat→Int):Prop where
 num:CallsA Tryz.prog 91 [.ptr 0 none 0,.sref 1 0 6] [rdO bs q,.cells 1 ([3,4,2,5,1,6].map enI)] (.int m) [rdO bs (pf 0),.cells 1 ([3,4,2,5,1,6].map enI)]
 m1:1≤m
 m6:m≤6
 sl:g.st.length=m
 nl:g.nx.length=m
 st:∀ k (h:k < g.st.length),isSt bs (m - k) (pf k) g.st[k] (pf (k+1))
 mid:pf m=pg 0
 row:∀ k (h:k < g.nx.length),isRow bs m (pg k) g.nx[k] (pg (k+1))
 last:pg m=q'
 q0:q≤q'
 q1:q'≤q+40
theorem Small.sm {bs:List Int} {q q' : Int} {g:Graph} {m:Nat} {pf pg:Nat→Int} (h:Small bs q q' g m pf pg):g.sm:=by
 have h1:=h.sl
 have h2:=h.nl
 have h3:=h.m6
 refine ⟨by omega,by omega,fun s hs=>?_,fun r hr=>?_⟩
 ·obtain ⟨i,hi,rfl⟩:=List.mem_iff_getElem.1 hs
  obtain ⟨a,b,e,_⟩:=h.st i hi
  rw [e];exact ⟨by simp,by simp⟩
 ·obtain ⟨i,hi,rfl⟩:=List.mem_iff_getElem.1 hr
  obtain ⟨a,b,c,e,_⟩:=h.row i hi
  rw [e];split<;>simp
structure Graph.d (g:Graph):Prop where
 st:g.st.length≤100
 nx:g.nx.length≤101
 el:∀ s∈g.st,s.sm
 row:∀ r∈g.nx,r.length≤1001
theorem Graph.d.mx {g:Graph} (h:g.d):g.mx:=by
 have h1:=h.st
 have h2:=h.nx
 have h3:=h.el
 exact ⟨⟨by unfold maxLen;omega,fun s hs=>⟨by have:=(h3 s hs).a;unfold maxLen;omega,by have:=(h3 s hs).b;unfold maxLen;omega⟩⟩,by unfold maxLen;omega,fun l hl=>by have:=h.row l hl;unfold maxLen;omega⟩
structure Lab.d (l:List Tree):Prop where
 len:l.length≤3
 el:∀ t∈l,t.sz≤5
theorem Lab.d.mx {l:List Tree} (h:Lab.d l):Lmx l:=Lmx_of (by have:=h.len;omega) fun t ht=>by have:=h.el t ht;omega
structure CodeOk (bs:List Int):Prop where
 len:bs.length≤maxLen
 el:∀ x∈bs,0≤x∧x≤255
theorem CodeOk.take {bs:List Int} (h:CodeOk bs):BytesOk (bs.take 2000):=⟨by simp;omega,fun x hx=>h.el x (List.mem_of_mem_take hx)⟩
end Go.Proofs.YtnfoijopccdjeaaGreat
namespace Go.Proofs.YtnfoijopccdjeaaGreat
open Go.Gl
attribute [local irreducible] z18 AWP z33 z37 z34
theorem z615 (k:Int):CallsA Tryz.prog 157 [.int k] [] (.int (z182 k)) []:=by
 refine z16 z14 Tryz.func157 rfl rfl 17 Tryz.ntmps157 (by simp) ?_
 repeat' (first|(apply y4 ok;rfl;conv=>whnf)|(apply z6<;>intro _<;>conv=>whnf))
 all_goals (refine z47 rfl rfl ?_;unfold z182;first|(rw [if_pos (by omega)];rfl)|(rw [if_neg (by omega),if_pos (by omega)];rfl)|(rw [if_neg (by omega),if_neg (by omega),if_pos (by omega)];rfl)|(rw [if_neg (by omega),if_neg (by omega),if_neg (by omega)];rfl))
theorem z855 (l:List Tree) (d:Int):Tree.shapeFs l d=l.all (fun t=>t.shapeF d):=by
 induction l with
 |nil=>rfl
 |cons t l ih=>simp [Tree.shapeFs,ih]
theorem z378 (t:Tree) (d:Int):t.shapeF d=(decide (1≤d∧(t.kids.length:Int)=z182 t.kind∧0≤t.val∧t.val≤z393 t.kind) && t.kids.all fun t=>t.shapeF (d - 1)):=by
 cases t;simp only [Tree.shapeF,Tree.kids,Tree.kind,Tree.val,z855];rfl
theorem z1010 (t:Tree):t.mx→∀ d:Int,-100≤d→d≤100→CallsA Tryz.prog 117 [z20 Tree.cs' t,.int d] [] (.bool (t.shapeF d)) []:=by
  induction t using y28 with|h t ih=>?_
  intro hm d h0 h1
  rw [y29] at hm
  have hl:=hm.1
  unfold maxLen at hl
  rw [y16,z378]
  refine z16 z14 Tryz.func117 rfl rfl 51 Tryz.ntmps117 (by simp) ?_
  repeat' (first|(apply y4 ok;rfl;conv=>whnf)|(apply z23;kernel_rfl;conv=>whnf)|(apply z6<;>intro _<;>conv=>whnf)|(apply z53<;>intro _<;>conv=>whnf)|(apply z4 (z615 _);rfl;rfl;conv=>whnf))
  all_goals first
    | (refine z32 rfl ?_
       rw [y82]
       · rfl
       · clear ih
         rintro ⟨c1,c2,c3,c4⟩
         unfold z393 at c4
         grind)
    | (have hg : decide (1 ≤ d ∧ (t.kids.length : Int) = z182 t.kind ∧ 0 ≤ t.val ∧ t.val ≤ z393 t.kind) = true := by
         clear ih
         refine y81 ?_
         unfold z393
         grind
       rw [hg,Bool.true_and]
       refine z108 (fun k:Nat=>([(1,.int d),(2,.ptr 0 none 0),(5,.int k)],[.cells 3 [[.int t.kind,.int t.val,lst 3 Tree.cs' t.kids]]])) (fun k=>k≤t.kids.length∧(t.kids.all fun t=>t.shapeF (d - 1))=(t.kids.drop k).all fun t=>t.shapeF (d - 1)) (fun k=>t.kids.length - k) 0 ⟨by omega,rfl⟩ ⟨[0],rfl,by decide,rfl,by repeat' (first|exact True.intro|exact ⟨rfl,rfl⟩|apply y43),by repeat' (first|exact True.intro|exact z22 rfl rfl|apply y43)⟩ ?_
       intro k hk
       repeat' (first|(apply y4 ok;rfl;conv=>whnf)|(apply y43;(first|omega|(unfold inI;omega));conv=>whnf)|(with_reducible apply z9;omega;intro _;conv=>whnf)|(apply z6<;>intro _<;>conv=>whnf)|(apply z109<;>intro _<;>conv=>whnf)|(apply z4 (ih t.kids[k] (y44 _) (hm.2 _ (y44 _)) (d - 1) (by omega) (by omega));rfl;rfl;conv=>whnf))
       · rename_i h1
         exact z32 rfl (by rw [hk.2,z142 _ _ _ (by assumption)];simp [h1])
       · rename_i h1
         exact z97 (k+1) [0] ⟨by omega,by rw [hk.2,z142 _ _ _ (by assumption)];simp [h1]⟩ (by omega) ⟨rfl,by decide,rfl,by repeat' (first|exact True.intro|exact ⟨rfl,rfl⟩|apply y43),by repeat' (first|exact True.intro|exact z22 rfl rfl|apply y43)⟩
       · exact z32 rfl (by rw [hk.2,z132 _ _ _ (by omega)]))
theorem z1189 (t:Tree):∀ d n:Nat,t.shapeF d=true→t.count n≤2 ^ d - 1:=by
 induction t using y28 with|h t ih=>?_
 intro d n h
 rw [z378,y70,decide_eq_true_eq] at h
 obtain ⟨⟨h1,h2,_,_⟩,h3⟩:=h
 rw [y78] at h3
 obtain ⟨d,rfl⟩:∃ e,d=e+1:=⟨d - 1,by omega⟩
 have e:((d+1:Nat):Int) - 1=(d:Nat):=by omega
 rw [e] at h3
 rw [z492]
 have hp:(1:Int)≤2 ^ d:=by exact_mod_cast Nat.one_le_two_pow
 have hq:((2:Int) ^ (d+1))=2 * 2 ^ d:=by rw [Int.pow_succ];omega
 split
 ·rename_i hn
  obtain ⟨n,rfl⟩:∃ e,n=e+1:=⟨n - 1,by omega⟩
  have e:((n+1:Nat):Int) - 1=(n:Nat):=by omega
  rw [e]
  have hl:(t.kids.length:Int)≤2:=by rw [h2];unfold z182;grind
  have hk:∀ u∈t.kids,u.count n≤2 ^ d - 1:=fun u hu=>ih u hu d n (h3 u hu)
  match hkk:t.kids with
  |[]=>simp only [List.map_nil,List.sum_nil];omega
  |[a] =>
   have:=hk a (by simp [hkk])
   simp only [List.map_cons,List.map_nil,List.sum_cons,List.sum_nil];omega
  |[a,b] =>
   have:=hk a (by simp [hkk])
   have:=hk b (by simp [hkk])
   simp only [List.map_cons,List.map_nil,List.sum_cons,List.sum_nil];omega
  |a::b::c::r=>rw [hkk] at hl;simp only [y57] at hl;omega
 ·omega
theorem z803 (t:Tree) (e d:Int) (he:e≤50) (hd:0≤d) (h:t.shapeF e=true):t.count d≤2 ^ 50:=by
 have h1:1≤e:=by
  rw [z378,y70,decide_eq_true_eq] at h;exact h.1.1
 obtain ⟨n,rfl⟩:=Int.eq_ofNat_of_zero_le (show 0≤e by omega)
 obtain ⟨m,rfl⟩:=Int.eq_ofNat_of_zero_le hd
 have h2:=z1189 t n m h
 have h4:(2:Int) ^ n≤2 ^ 50:=by exact_mod_cast Nat.pow_le_pow_right (by omega) (by omega)
 omega
theorem z1011 (t:Tree):t.mx→∀ e d:Int,e≤50→0≤d→d≤50→t.shapeF e=true→CallsA Tryz.prog 118 [z20 Tree.cs' t,.int d] [] (.int (t.count d)) []:=by
 induction t using y28 with|h t ih=>?_
 intro hm e d h0 h1 h2 hs
 rw [y29] at hm
 rw [z378,y70,decide_eq_true_eq,y78] at hs
 obtain ⟨⟨hs1,hs2,_,_⟩,hs3⟩:=hs
 have hl:(t.kids.length:Int)≤2:=by rw [hs2];unfold z182;grind
 rw [y16,z492]
 have hb:0 < d→∀ k,k≤t.kids.length→0≤((t.kids.take k).map fun t=>t.count (d - 1)).sum∧((t.kids.take k).map fun t=>t.count (d - 1)).sum≤k * 2 ^ 50:=by
  intro hd k
  induction k with
  |zero=>intro _;simp
  |succ k ihk =>
   intro hk
   have h1:=ihk (by omega)
   rw [z473 _ _ _ (by omega)]
   have h2:=z803 t.kids[k] (e - 1) (d - 1) (by omega) (by omega) (hs3 _ (y44 _))
   have h3:=Tree.count_pos.1 t.kids[k] (d - 1)
   omega
 refine z16 z14 Tryz.func118 rfl rfl 29 Tryz.ntmps118 (by simp) ?_
 repeat' ((apply y4 ok;rfl;conv=>whnf))
 by_cases hd:0 < d
 ·rw [if_pos hd]
  refine z108 (fun k:Nat=>([(1,.int d),(2,.ptr 0 none 0),(5,.int (1+((t.kids.take k).map fun t=>t.count (d - 1)).sum)),(6,.int k)],[.cells 3 [[.int t.kind,.int t.val,lst 3 Tree.cs' t.kids]]])) (fun k=>k≤t.kids.length) (fun k=>t.kids.length - k) 0 (by omega) ⟨[0],rfl,by decide,rfl,by repeat' (first|exact True.intro|exact ⟨rfl,rfl⟩|apply y43),by repeat' (first|exact True.intro|exact z22 rfl rfl|apply y43)⟩ ?_
  intro k hk
  have hbk:=hb hd k hk
  have hbk1:=fun h=>hb hd (k+1) h
  have hss:=fun h=>z473 (fun t=>t.count (d - 1)) t.kids k h
  repeat' (first|(apply y4 ok;rfl;conv=>whnf)|(apply y43;(first|omega|(unfold inI;omega));conv=>whnf)|(with_reducible apply z9;omega;intro _;conv=>whnf)|(apply z6<;>intro _<;>conv=>whnf)|(apply z4 (ih t.kids[k] (y44 _) (hm.2 _ (y44 _)) (e - 1) (d - 1) (by omega) (by omega) (by omega) (hs3 _ (y44 _)));rfl;rfl;conv=>whnf))
  ·have e1:=hss ‹_›
   have e2:=hbk1 (by omega)
   refine y43 (by unfold inI;omega) ?_
   conv=>whnf
   repeat' (first|(apply y4 ok;rfl;conv=>whnf)|(apply y43;((unfold inI;omega));conv=>whnf))
   exact z97 (k+1) [0] (by omega) (by omega) ⟨rfl,by decide,rfl,⟨⟨rfl,rfl⟩,⟨rfl,rfl⟩,⟨rfl,by rw [e1,← Int.add_assoc];rfl⟩,⟨rfl,rfl⟩,trivial⟩,⟨z22 rfl rfl,trivial⟩⟩
  ·omega
  ·obtain rfl:k=t.kids.length:=by omega
   exact z47 rfl rfl (by rw [y55];rfl)
 ·rw [if_neg hd]
  refine z108 (fun k:Nat=>([(1,.int d),(2,.ptr 0 none 0),(5,.int 1),(6,.int k)],[.cells 3 [[.int t.kind,.int t.val,lst 3 Tree.cs' t.kids]]])) (fun k=>k≤t.kids.length) (fun k=>t.kids.length - k) 0 (by omega) ⟨[0],rfl,by decide,rfl,by repeat' (first|exact True.intro|exact ⟨rfl,rfl⟩|apply y43),by repeat' (first|exact True.intro|exact z22 rfl rfl|apply y43)⟩ ?_
  intro k hk
  repeat' (first|(apply y4 ok;rfl;conv=>whnf)|(apply y43;(omega);conv=>whnf)|(with_reducible apply z9;omega;intro _;conv=>whnf)|(apply z6<;>intro _<;>conv=>whnf))
  ·omega
  ·exact z47 rfl rfl rfl
  ·exact z47 rfl rfl rfl
theorem z106 (t:Tree) (hm:t.mx):CallsA Tryz.prog 47 [z20 Tree.cs' t] [] (.bool t.fmB) []:=by
 rw [y22]
 refine z16 z14 Tryz.func47 rfl rfl 10 Tryz.ntmps47 (by simp) ?_
 repeat' (first|(apply y4 ok;rfl;conv=>whnf)|(apply z95<;>intro _<;>conv=>whnf)|(apply z4 (z1010 t hm 6 (by omega) (by omega));rfl;rfl;conv=>whnf)|(apply z4 (z1011 t hm 6 6 (by omega) (by omega) (by omega) (by assumption));rfl;rfl;conv=>whnf))
 all_goals (refine z32 rfl ?_;(simp [*];done))
end Go.Proofs.YtnfoijopccdjeaaGreat
namespace Go.Proofs.YtnfoijopccdjeaaGreat
open Go.Gl
attribute [local irreducible] z18 AWP z33 z37 z34 RetS z40
theorem z399:CallsA Tryz.prog 92 [] [] (.agg [.int 1,.int 0,.list 3 0 []]) []:=by
 refine z7 z14 Tryz.func92 rfl rfl 2 Tryz.ntmps92 (by simp) ?_
 repeat' (((apply y4 ok;rfl))<;>conv=>whnf)
 all_goals (refine rsD [] [] rfl ?_;(repeat' first|exact y85 _|exact z26|apply z38|constructor))
set_option maxHeartbeats 1600000 in
theorem z879 (bs:List Int) (hb:BytesOk bs):∀ (n:Nat) (d p:Int),d≤n+1→n≤100→0≤d→0≤p→p+drK n≤1000000000→∃ (t:Tree) (p' : Int),(t.sz≤drS n∧p≤p'∧p'≤p+drK n)∧CallsA Tryz.prog 93 [.ptr 0 none 0,.int d] [rdO bs p] (z20 Tree.cs' t) [rdO bs p']:=by
 intro n
 induction n with
 |zero =>
  intro d p hd hd1 hd0 hp hq
  rw [drK] at hq ⊢
  obtain ⟨v0,⟨l0,u0⟩,c0⟩:=z79 bs hb p 8 (by omega) (by omega) (by omega)
  by_cases h0:v0=0
  ·subst h0
   refine ⟨leaf 1 0,p+1,⟨by rw [z86];omega,by omega,by omega⟩,?_⟩
   refine z7 z14 Tryz.func93 rfl rfl 43 Tryz.ntmps93 (by simp) ?_
   repeat' ((first|(apply y4 ok;rfl)|((apply z6)<;>intro _)|(apply z4 (z399);rfl;rfl)|(apply z55 [0] [] c0;rfl;rfl;rfl))<;>conv=>whnf)
   all_goals try (exfalso;omega)
   all_goals (refine rsD [0] [] rfl ?_;(repeat' first|exact y85 _|apply y86|constructor))
  ·obtain ⟨v1,m1,c1⟩:=z100 bs hb (p+1) (by omega) (by omega) [0,1,0,2] (by decide) (by decide)
   refine ⟨leaf 2 v1,p+1+1,⟨by rw [z86];omega,by omega,by omega⟩,?_⟩
   refine z7 z14 Tryz.func93 rfl rfl 43 Tryz.ntmps93 (by simp) ?_
   repeat' ((first|(apply y4 ok;rfl)|((apply z6)<;>intro _)|((first|(apply z8 [0] [] c0;rfl;rfl)|(apply z8 [0,2] [] c1;rfl;rfl));rfl;(focus ((repeat' first|exact z13|apply z11)<;>first|exact z42 rfl rfl|(refine z19 ?_;((exact z5 fun _=>rfl)))))))<;>conv=>whnf)
   all_goals try (exfalso;omega)
   all_goals (refine rsD [0] [] rfl ?_;(repeat' first|exact y85 _|exact z26|apply y86|apply z38|constructor))
 |succ n ih =>
  intro d p hd hd1 hd0 hp hq
  have hK:=z1182 n
  by_cases hlt:d < 2
  ·obtain ⟨t,p',h1,h2⟩:=ih d p (by omega) (by omega) hd0 hp (by rw [drK] at hq;omega)
   exact ⟨t,p',⟨by rw [drS];omega,h1.2.1,by rw [drK];omega⟩,h2⟩
  rw [drK] at hq
  rw [drK,drS]
  obtain ⟨w,⟨lw,uw⟩,cw⟩:=z79 bs hb p 5 (by omega) (by omega) (by omega)
  by_cases hw:w=0
  ·subst hw
   obtain ⟨v0,⟨l0,u0⟩,c0⟩:=z79 bs hb (p+1) 8 (by omega) (by omega) (by omega)
   by_cases h0:v0=0
   ·subst h0
    refine ⟨leaf 1 0,p+1+1,⟨by rw [z86];omega,by omega,by omega⟩,?_⟩
    refine z7 z14 Tryz.func93 rfl rfl 43 Tryz.ntmps93 (by simp) ?_
    repeat' ((first|(apply y4 ok;rfl)|((apply z6)<;>intro _)|(apply z4 (z399);rfl;rfl)|((first|(apply z55 [0] [] cw;rfl;rfl)|(apply z55 [0] [] c0;rfl;rfl));rfl))<;>conv=>whnf)
    all_goals try (exfalso;omega)
    all_goals (refine rsD [0] [] rfl ?_;(repeat' first|exact y85 _|apply y86|constructor))
   ·obtain ⟨v1,m1,c1⟩:=z100 bs hb (p+1+1) (by omega) (by omega) [0,1,0,2] (by decide) (by decide)
    refine ⟨leaf 2 v1,p+1+1+1,⟨by rw [z86];omega,by omega,by omega⟩,?_⟩
    refine z7 z14 Tryz.func93 rfl rfl 43 Tryz.ntmps93 (by simp) ?_
    repeat' ((first|(apply y4 ok;rfl)|((apply z6)<;>intro _)|((first|(apply z8 [0] [] cw;rfl;rfl)|(apply z8 [0] [] c0;rfl;rfl)|(apply z8 [0,2] [] c1;rfl;rfl));rfl;(focus ((repeat' first|exact z13|apply z11)<;>first|exact z42 rfl rfl|(refine z19 ?_;((exact z5 fun _=>rfl)))))))<;>conv=>whnf)
    all_goals try (exfalso;omega)
    all_goals (refine rsD [0] [] rfl ?_;(repeat' first|exact y85 _|exact z26|apply y86|apply z38|constructor))
  ·obtain ⟨kd,mk,ck⟩:=z100 bs hb (p+1) (by omega) (by omega) [7,9,10,3,4,5,6,8] (by decide) (by decide)
   have ca:=z615 kd
   have ham:∃ m:Nat,z182 kd=m∧m≤2:=by
    simp only [List.mem_cons,List.not_mem_nil,or_false] at mk
    unfold z182
    rcases mk with rfl|rfl|rfl|rfl|rfl|rfl|rfl|rfl
    all_goals first|exact ⟨2,rfl,by omega⟩|exact ⟨1,rfl,by omega⟩
   obtain ⟨m,em,hm⟩:=ham
   rw [em] at ca
   obtain ⟨ks,pf,hks,hp0,hst,hpf⟩:=z743 (fun k q (t:Tree) q'=>t.sz≤drS n∧CallsA Tryz.prog 93 [.ptr 0 none 0,.int (d - 1)] [rdO bs q] (z20 Tree.cs' t) [rdO bs q']) (p+1+1) (drK n) m (fun k q hk h1 h2=>by
    have:drK n * k≤drK n:=by
     have:k=0∨k=1:=by omega
     rcases this with rfl|rfl<;>simp<;>omega
    obtain ⟨t,q',⟨a1,a2,a3⟩,a4⟩:=ih (d - 1) q (by omega) (by omega) (by omega) (by omega) (by omega)
    exact ⟨t,q',⟨a1,a4⟩,a2,a3⟩)
   have hpm:=hpf m (y52 _)
   have hKm:drK n * m≤2 * drK n:=by
    have:m=0∨m=1∨m=2:=by omega
    rcases this with rfl|rfl|rfl<;>simp<;>omega
   have hsum:(ks.map Tree.sz).sum≤2 * drS n:=by
    have:∀ (l:List Tree),(∀ t∈l,t.sz≤drS n)→(l.map Tree.sz).sum≤l.length * drS n:=by
     intro l
     induction l with
     |nil=>intro _;simp
     |cons t l ih =>
      intro h
      have h1:=h t (by simp)
      have h2:=ih fun u hu=>h u (by simp [hu])
      simp only [List.map_cons,List.sum_cons,y57,Nat.add_mul]
      omega
    have h1:=this ks fun t ht=>by
     obtain ⟨i,hi,rfl⟩:=List.mem_iff_getElem.1 ht
     exact (hst i hi).1
    have h2:ks.length * drS n≤2 * drS n:=Nat.mul_le_mul_right _ (by omega)
    omega
   refine ⟨.mk kd 0 ks,pf m,⟨by rw [z249];omega,by omega,by omega⟩,?_⟩
   refine z7 z14 Tryz.func93 rfl rfl 43 Tryz.ntmps93 (by simp) ?_
   rw [← hp0] at ck
   repeat' ((first|(apply y4 ok;rfl)|((apply z6)<;>intro _)|(apply z4 (ca);rfl;rfl)|((first|(apply z8 [0] [] cw;rfl;rfl)|(apply z8 [0,2] [] ck;rfl;rfl));rfl;(focus ((repeat' first|exact z13|apply z11)<;>first|exact z42 rfl rfl|(refine z19 ?_;((exact z5 fun _=>rfl)))))))<;>conv=>whnf)
   all_goals try (exfalso;omega)
   refine y84 (y87 3 rfl) ?_
   refine z64 (fun k:Nat=>([(0,.ptr 0 none 0),(1,.int d),(4,.ptr 1 none 0),(5,.ptr 2 none 0),(6,.int (m - k))],[rdO bs (pf k),.cells 3 [[.int 0,.int 0,.nils]],.cells 3 [[.int kd,.int 0,.sref 3 0 k]],.cells 3 ((ks.take k).map Tree.cs')])) (fun k=>k≤m) (fun k=>m - k) 0 (by omega) (by refine swR [0,1,3,4] [] rfl rfl ?_;(repeat' first|exact y85 _|exact z49|apply y86|refine z10 rfl (z30) ?_|constructor)) ?_
   intro k hk
   by_cases hkm:k < m
   ·have hc:=(hst k (by omega)).2
    have hkl:k < ks.length:=by omega
    rw [y16] at hc
    repeat' ((first|(apply y4 ok;rfl)|(apply z23;kernel_rfl)|(apply y43;first|(unfold inI;omega)|((try dsimp only);simp only [y49,y48,y47,y46,y57,y58];omega)|exact ⟨rfl,z21 rfl z31⟩)|((apply z6)<;>intro _)|(apply z55 [0] [] hc;rfl;rfl;rfl))<;>conv=>whnf)
    all_goals try (exfalso;omega)
    refine z27 (k+1) (by omega) (by omega) (by refine swR [0,1,2,5] [] rfl rfl ?_;(repeat' first|exact y85 _|exact z276|(refine z224 ?_;omega)|apply y86|((refine z43 rfl ?_ ?_);(focus ((repeat' (first|exact z5 (fun _=>rfl)|apply z28));done)))|refine z313 (by omega) (by omega) ?_|(apply z63;rfl)|constructor))
   ·have:k=m:=by omega
    subst this
    repeat' ((first|(apply y4 ok;rfl)|(apply y43;omega)|((apply z6)<;>intro _))<;>conv=>whnf)
    all_goals try (exfalso;omega)
    all_goals (refine rsD [0] [3] rfl ?_;(repeat' first|exact y85 _|(refine z548 ?_;omega)|apply y86|((apply z36 rfl rfl rfl);(focus ((repeat ((exact z24 (fun _=>rfl) _)));done));(focus (((simp;omega));done)))|apply z38|constructor))
theorem z773 (bs:List Int) (hb:BytesOk bs) (p:Int) (hp:few p):∃ (t:Tree) (p' : Int),(t.sz≤20∧p≤p'∧p'≤p+100)∧CallsA Tryz.prog 37 [.ptr 0 none 0] [rdO bs p] (z20 Tree.cs' t) [rdO bs p']:=by
 obtain ⟨d,md,cd⟩:=z100 bs hb p (by omega) (by omega) [3,2,4,3] (by decide) (by decide)
 have hd:0≤d∧d≤4:=by simp at md;omega
 obtain ⟨t,q,⟨t1,t2,t3⟩,ct⟩:=z879 bs hb 3 d (p+1) (by omega) (by omega) (by omega) (by omega) (by simp only [drK];omega)
 simp only [drK] at t3
 simp only [drS] at t1
 have cv:=z106 t (z85 t (by unfold maxLen;omega))
 by_cases hv:t.fmB=true
 ·refine ⟨t,q,⟨by omega,by omega,by omega⟩,?_⟩
  rw [hv] at cv
  rw [y16] at *
  refine z7 z14 Tryz.func37 rfl rfl 15 Tryz.ntmps37 (by simp) ?_
  repeat' ((first|(apply y4 ok;rfl)|(apply z4 (cv);rfl;rfl)|((first|(apply z8 [0,2] [] cd;rfl;rfl)|(apply z8 [0] [] ct;rfl;rfl));rfl;(focus ((repeat' first|exact z13|apply z11)<;>first|exact z42 rfl rfl|(refine z19 ?_;((exact z5 fun _=>rfl)))))))<;>conv=>whnf)
  all_goals (refine rsD [0] [] rfl ?_;(repeat' first|exact y85 _|apply y86|constructor))
 ·refine ⟨.mk 10 0 [leaf 2 0],q,⟨by rw [z249];simp [z86],by omega,by omega⟩,?_⟩
  rw [(y71 _).mp hv] at cv
  rw [y16] at cv ct
  refine z7 z14 Tryz.func37 rfl rfl 15 Tryz.ntmps37 (by simp) ?_
  repeat' ((first|(apply y4 ok;rfl)|(apply z4 (cv);rfl;rfl)|((first|(apply z8 [0,2] [] cd;rfl;rfl)|(apply z8 [0] [] ct;rfl;rfl));rfl;(focus ((repeat' first|exact z13|apply z11)<;>first|exact z42 rfl rfl|(refine z19 ?_;((exact z5 fun _=>rfl)))))))<;>conv=>whnf)
  all_goals (refine rsD [0] [4] rfl ?_;(repeat' first|exact y85 _|exact z26|apply y86|refine z36 rfl rfl rfl rfl rfl ?_|apply z38|(apply z63;rfl)|constructor))
theorem argU (k v:Int) (a:Tree):z20 Tree.cs' (.mk k v [a])=.agg [.int k,.int v,.list 3 1 [Tree.cs' a]]:=by
 rw [y16]
 show AC.agg [AC.int k,AC.int v,lst 3 Tree.cs' [a]]=_
 rfl
theorem argB (k v:Int) (a b:Tree):z20 Tree.cs' (.mk k v [a,b])=.agg [.int k,.int v,.list 3 2 [Tree.cs' a,Tree.cs' b]]:=by
 rw [y16]
 rfl
theorem z507 (x:Tree):F2 LocLe (z165 [AC.int x.kind,AC.int x.val,lst 3 Tree.cs' x.kids]) (Tree.cs x):=by
 have e:Tree.cs x=[AC.int x.kind,AC.int x.val,lst 3 Tree.cs' x.kids]:=by rw [y19];exact AC.agg.inj (y16 x)
 rw [e];exact z442 _
theorem z482 (t:Tree):CallsA Tryz.prog 224 [z20 Tree.cs' t] [] (z20 Tree.cs' (notT t)) []:=by
 unfold notT
 rw [y16 t,y16]
 refine z7 z14 Tryz.func224 rfl rfl 6 Tryz.ntmps224 (by simp) ?_
 repeat' (((apply y4 ok;rfl))<;>conv=>whnf)
 all_goals (refine rsD [] [2] rfl ?_;(repeat' first|exact y85 _|exact z276|refine z36 rfl rfl rfl rfl rfl ?_|apply z38|(apply z63;rfl)|constructor))
 all_goals exact z507 _
theorem z1149 (k:Int):CallsA Tryz.prog 275 [.int k] [] (.int (z560 k)) []:=by
 unfold z560
 refine z7 z14 Tryz.func275 rfl rfl 10 Tryz.ntmps275 (by simp) ?_
 repeat' ((first|(apply y4 ok;rfl)|((apply z6)<;>intro _))<;>conv=>whnf)
 all_goals (refine rsL [] [] rfl ?_;refine y12 (z224 ?_) .nil;first|(rw [if_pos (by omega)];done)|(rw [if_neg (by omega),if_pos (by omega)];done)|(rw [if_neg (by omega),if_neg (by omega),if_pos (by omega)];done)|(rw [if_neg (by omega),if_neg (by omega),if_neg (by omega)];done))
set_option maxHeartbeats 3200000 in
theorem z1148 (t:Tree):t.goodF→∀ neg:Bool,CallsA Tryz.prog 260 [z20 Tree.cs' t,.bool neg] [] (z20 Tree.cs' (t.nrm neg)) []:=by
 induction t using y28 with|h t ih=>?_
 intro hg neg
 have hT:=z399
 cases y23 hg with
 |tr =>
  rw [z758]
  have cn:=(z482 (.mk 1 0 [])).arg (args0:=[.agg [.int 1,.int 0,.nils]]) (by (repeat' first|exact y85 _|exact z26|apply z38|constructor))
  cases neg
  all_goals
   refine z7 z14 Tryz.func260 rfl rfl 86 Tryz.ntmps260 (by simp) ?_
   repeat' ((first|(apply y4 ok;rfl)|(apply z4 (cn);rfl;rfl))<;>conv=>whnf)
   all_goals (refine rsD [] [] rfl ?_;(repeat' first|exact y85 _|exact z26|apply z38|constructor))
 |«at» v h0 h1 =>
  rw [z609]
  have cn:=(z482 (.mk 2 v [])).arg (args0:=[.agg [.int 2,.int v,.nils]]) (by (repeat' first|exact y85 _|exact z26|apply z38|constructor))
  cases neg
  all_goals
   refine z7 z14 Tryz.func260 rfl rfl 86 Tryz.ntmps260 (by simp) ?_
   repeat' ((first|(apply y4 ok;rfl)|(apply z4 (cn);rfl;rfl))<;>conv=>whnf)
   all_goals (refine rsD [] [] rfl ?_;(repeat' first|exact y85 _|exact z26|apply z38|constructor))
 |un k a hk ha =>
  have ca:=ih a (by simp [Tree.kids]) ha
  clear ih
  have cn:=z482 truT
  rcases hk with rfl|rfl|rfl|rfl
  ·rw [z434,argU 3 0 a]
   have ca:=ca (!neg)
   refine z7 z14 Tryz.func260 rfl rfl 86 Tryz.ntmps260 (by simp) ?_
   repeat' ((first|(apply y4 ok;rfl)|(refine ⟨_,rfl,?_⟩)|(apply y43;omega)|(apply z4 (ca);rfl;rfl))<;>conv=>whnf)
   all_goals (refine rsD [] [] rfl ?_;(repeat' first|exact y85 _|constructor))
  ·rw [z389,argU 6 0 a]
   have ca:=ca neg
   generalize a.nrm neg=x at *
   rw [y16 x] at ca
   refine z7 z14 Tryz.func260 rfl rfl 86 Tryz.ntmps260 (by simp) ?_
   repeat' ((first|(apply y4 ok;rfl)|(refine ⟨_,rfl,?_⟩)|(apply y43;omega)|(apply z4 (ca);rfl;rfl))<;>conv=>whnf)
   all_goals (refine rsD [] [2] rfl ?_;(repeat' first|exact y85 _|refine z36 rfl rfl rfl rfl rfl ?_|apply z38|(apply z63;rfl)|constructor))
   all_goals exact z507 _
  ·rw [z608,argU 9 0 a]
   have ca:=ca neg
   generalize a.nrm neg=x at *
   rw [y16 x] at ca
   cases neg
   all_goals
    refine z7 z14 Tryz.func260 rfl rfl 86 Tryz.ntmps260 (by simp) ?_
    repeat' ((first|(apply y4 ok;rfl)|(apply z23;kernel_rfl)|(refine ⟨_,rfl,?_⟩)|(apply y43;omega)|(apply z4 (ca);rfl;rfl)|(apply z4 (hT);rfl;rfl)|(apply z4 (cn);rfl;rfl))<;>conv=>whnf)
    all_goals (refine rsD [] [3] rfl ?_;(repeat' first|exact y85 _|refine z36 rfl rfl rfl rfl rfl ?_|apply z38|(apply z63;rfl)|constructor))
    all_goals exact z507 _
  ·rw [z610,argU 10 0 a]
   have ca:=ca neg
   generalize a.nrm neg=x at *
   rw [y16 x] at ca
   cases neg
   all_goals
    refine z7 z14 Tryz.func260 rfl rfl 86 Tryz.ntmps260 (by simp) ?_
    repeat' ((first|(apply y4 ok;rfl)|(apply z23;kernel_rfl)|(refine ⟨_,rfl,?_⟩)|(apply y43;omega)|(apply z4 (ca);rfl;rfl)|(apply z4 (hT);rfl;rfl)|(apply z4 (cn);rfl;rfl))<;>conv=>whnf)
    all_goals (refine rsD [] [3] rfl ?_;(repeat' first|exact y85 _|refine z36 rfl rfl rfl rfl rfl ?_|apply z38|(apply z63;rfl)|constructor))
    all_goals exact z507 _
 |bin k a b hk ha hb =>
  have ca:=ih a (by simp [Tree.kids]) ha neg
  have cb:=ih b (by simp [Tree.kids]) hb neg
  clear ih
  have cd:=z1149 k
  rw [z537 _ _ _ _ _ hk,argB k 0 a b]
  generalize a.nrm neg=x at *
  generalize b.nrm neg=y at *
  rw [y16 x] at ca
  rw [y16 y] at cb
  generalize z560 k=k' at *
  cases neg
  all_goals
   refine z7 z14 Tryz.func260 rfl rfl 86 Tryz.ntmps260 (by simp) ?_
   repeat' ((first|(apply y4 ok;rfl)|(apply z23;kernel_rfl)|(refine ⟨_,rfl,?_⟩)|(apply y43;omega)|((first|apply z6|apply z53)<;>intro _)|(apply z4 (ca);rfl;rfl)|(apply z4 (cb);rfl;rfl)|(apply z4 (cd);rfl;rfl))<;>conv=>whnf)
   all_goals try (exfalso;omega)
   all_goals (refine rsD [] [2] rfl ?_;(repeat' first|exact y85 _|refine z36 rfl rfl rfl rfl rfl ?_|apply z38|(apply z63;rfl)|constructor))
   all_goals exact z507 _
end Go.Proofs.YtnfoijopccdjeaaGreat
namespace Go.Proofs.YtnfoijopccdjeaaGreat
open Go.Gl
attribute [local irreducible] z18 AWP z33 z37 z34
theorem z901 (l:List Tree) (hl:l.length≤1048576) (hp:0 < l.length):CallsA Tryz.prog 277 [lst 3 Tree.cs' l] [] (.sref 0 0 l.length) [.cells 3 (l.map Tree.cs')]:=by
 refine z16 z14 Tryz.func277 rfl rfl 8 Tryz.ntmps277 (by simp) ?_
 repeat' (first|(apply y4 ok;rfl;conv=>whnf)|(apply y43;(first|omega|(dsimp only;omega)|exact z140 (fun _=>rfl));conv=>whnf))
 exact z102 rfl (z5 fun _=>rfl) (Nat.zero_add _) rfl rfl
theorem z1035 (l:List Tree) (hl:l.length≤1048576):CallsA Tryz.prog 277 [lst 3 Tree.cs' l] [] (.sref 0 0 l.length) [.cells 3 (l.map Tree.cs')]:=by
 by_cases hp:0 < l.length
 ·exact z901 l hl hp
 ·obtain rfl:l=[]:=y73 (by omega)
  refine z215 (z297 Tryz.func277 rfl (by rfl)) fun ad cap=>?_
  cases ad with
  |none =>
   refine CallsA.nils (res:=.nils) (l:=[.cells 3 []]) ?_ (by simp) z478
   refine z16 z14 Tryz.func277 rfl rfl 8 Tryz.ntmps277 (by simp) ?_
   repeat' ((apply y4 ok;rfl;conv=>whnf))
   all_goals exact z47 rfl rfl rfl
  |some p =>
   refine z16 z14 Tryz.func277 rfl rfl 8 Tryz.ntmps277 (by simp) ?_
   repeat' (first|(apply y4 ok;rfl;conv=>whnf)|(apply y43;(omega);conv=>whnf))
   all_goals (exact z102 rfl z30 rfl rfl rfl)
theorem z561 (l:List Tree) (hl:l.length≤1048576):CallsA Tryz.prog 266 [.sref 0 0 l.length] [.cells 3 (l.map Tree.cs')] (.sref 0 0 l.length) [.cells 3 (l.map Tree.cs')]:=by
 refine z16 z14 Tryz.func266 rfl rfl 9 Tryz.ntmps266 (by simp) ?_
 repeat' (first|(apply y4 ok;rfl;conv=>whnf)|(apply y43;(omega);conv=>whnf))
 exact z102 rfl (z5 fun _=>rfl) (by omega) rfl rfl
theorem z174 (l:List Tree) (hl:l.length≤1048576):CallsA Tryz.prog 264 [lst 3 Tree.cs' l] [] (.sref 0 0 l.length) [.cells 3 (l.map Tree.cs')]:=by
 refine z16 z14 Tryz.func264 rfl rfl 6 Tryz.ntmps264 (by simp) ?_
 repeat' (first|(apply y4 ok;rfl;conv=>whnf)|(apply z98 [] [] [0] (z1035 l hl);rfl;(focus ((repeat' (exact z35))<;>(fail)));rfl;rfl;rfl;rfl;rfl;(focus ((repeat' (first|exact z13|apply z11))<;>((refine z19 ?_;((exact z5 (fun _=>rfl)))))));(exact .inl rfl);conv=>whnf)|(apply z98 [0] [] [] (z561 l hl);rfl;(focus ((repeat' (first|exact z35|apply z44))<;>((refine z59 rfl ?_;((exact z5 (fun _=>rfl)))))));rfl;rfl;rfl;rfl;rfl;(focus ((repeat' (first|exact z13|apply z11))<;>((refine z19 ?_;((exact z5 (fun _=>rfl)))))));(exact .inl rfl);conv=>whnf))
 exact z102 rfl (z5 fun _=>rfl) rfl rfl rfl
end Go.Proofs.YtnfoijopccdjeaaGreat
namespace Go.Proofs.YtnfoijopccdjeaaGreat
open Go.Gl
attribute [local irreducible] z18 AWP z33 z37 z34 RetS z40
theorem z1020 (k:Int) (l:List Tree) (hl:l.length≤1048576):CallsA Tryz.prog 235 [.int k,lst 3 Tree.cs' l] [] (.agg [.int k,.int 0,lst 3 Tree.cs' l]) []:=by
 have c:=z174 l hl
 refine z7 z14 Tryz.func235 rfl rfl 9 Tryz.ntmps235 (by simp) ?_
 repeat' ((first|(apply y4 ok;rfl)|(apply z8 [] [1] c;rfl;rfl;rfl;(focus ((repeat' first|exact z13|apply z11)<;>(refine z19 ?_;((exact z5 fun _=>rfl)))))))<;>conv=>whnf)
 all_goals (refine rsD [] [1] rfl ?_;(repeat' first|exact y85 _|((apply z36 rfl rfl rfl);(focus ((repeat ((exact z24 (fun _=>rfl) _)));done));(focus (((simp;done));done)))|apply z38|constructor))
theorem z889 (k:Int):CallsA Tryz.prog 235 [.int k,.nils] [] (.agg [.int k,.int 0,.list 3 0 []]) []:=(z1020 k [] (by simp)).arg (by (repeat' first|exact y85 _|exact z26|constructor))
theorem z130 (k:Int) (l:List Tree) (hl:l.length≤1048576):CallsA Tryz.prog 235 [.int k,.sref 0 0 l.length] [.cells 3 (l.map Tree.cs')] (.agg [.int k,.int 0,lst 3 Tree.cs' l]) [.dead]:=by
 have c:=z174 l hl
 refine z7 z14 Tryz.func235 rfl rfl 9 Tryz.ntmps235 (by simp) ?_
 refine y84 (Reach.rnm 0 rfl) ?_
 refine y84 (show Gl.Reach _ _ (mkSt _ [(0,.int k),(1,lst 3 Tree.cs' l)] [.dead]) from (by refine swR [0] [1] rfl rfl ?_;(repeat' first|exact y85 _|((apply z36 rfl rfl rfl);(focus ((repeat ((exact z24 (fun _=>rfl) _)));done));(focus (((simp;done));done)))|constructor))) ?_
 repeat' ((first|(apply y4 ok;rfl)|(apply z8 [] [2] c;rfl;rfl;rfl;(focus ((repeat' first|exact z13|apply z11)<;>(refine z19 ?_;((exact z5 fun _=>rfl)))))))<;>conv=>whnf)
 all_goals (refine rsD [0] [2] rfl ?_;(repeat' first|exact y85 _|((apply z36 rfl rfl rfl);(focus ((repeat ((exact z24 (fun _=>rfl) _)));done));(focus (((simp;done));done)))|apply z38|constructor))
theorem z457 (k kd v:Int):CallsA Tryz.prog 235 [.int k,.sref 0 0 1] [.cells 3 [[.int kd,.int v,.nils]]] (.agg [.int k,.int 0,lst 3 Tree.cs' [.mk kd v []]]) [.dead]:=by
 have c:=z174 [.mk kd v []] (by simp)
 refine z7 z14 Tryz.func235 rfl rfl 9 Tryz.ntmps235 (by simp) ?_
 refine y84 (Reach.rnm 0 rfl) ?_
 refine y84 (show Gl.Reach _ _ (mkSt _ [(0,.int k),(1,lst 3 Tree.cs' [.mk kd v []])] [.dead]) from (by refine swR [0] [1] rfl rfl ?_;(repeat' first|exact y85 _|exact z26|refine z36 rfl rfl rfl rfl rfl ?_|(apply z63;rfl)|constructor))) ?_
 repeat' ((first|(apply y4 ok;rfl)|(apply z55 [] [2] c;rfl;rfl;rfl))<;>conv=>whnf)
 all_goals (refine rsD [0] [2] rfl ?_;(repeat' first|exact y85 _|constructor))
theorem z293 (k v : Int) (l : List Tree) (neg : Bool) (i : Nat) (hi : i < l.length) (x : Tree) (hx : CallsA Tryz.prog 238 [z20 Tree.cs' l[i], .bool neg] [] (z20 Tree.cs' x) []) :
    CallsA Tryz.prog 267 [.int i,.ptr 0 none 0,.ptr 1 none 0] [.cells 3 [[.int k,.int v,lst 3 Tree.cs' l]],.cells 1 [[.bool neg]]] (z20 Tree.cs' x) [.cells 3 [[.int k,.int v,lst 3 Tree.cs' l]],.cells 1 [[.bool neg]]]:=by
  have g:(l.map Tree.cs')[i]?=some (Tree.cs' l[i]):=by rw [y51,y45 hi];rfl
  generalize l[i]=y at *
  refine z7 z14 Tryz.func267 rfl rfl 12 Tryz.ntmps267 (by simp) ?_
  repeat' ((first|(apply y4 ok;rfl)|(apply z23;kernel_rfl)|(refine z15 (i:=i) rfl g ?_)|(apply y43;omega)|(apply z4 (hx);rfl;rfl))<;>conv=>whnf)
  all_goals (refine rsD [0,1] [] rfl ?_;(repeat' first|exact y85 _|apply y86|constructor))
theorem z1002 (a b:Int) (neg:Bool):CallsA Tryz.prog 268 [.int a,.int b,.ptr 0 none 0] [.cells 1 [[.bool neg]]] (.int (if neg then b else a)) [.cells 1 [[.bool neg]]]:=by
 refine z7 z14 Tryz.func268 rfl rfl 9 Tryz.ntmps268 (by simp) ?_
 cases neg
 all_goals
  repeat' (((apply y4 ok;rfl))<;>conv=>whnf)
  all_goals (refine rsD [0] [] rfl ?_;(repeat' first|exact y85 _|apply y86|constructor))
set_option maxHeartbeats 6400000 in
theorem z1125 (t:Tree):t.goodF→∀ neg:Bool,CallsA Tryz.prog 238 [z20 Tree.cs' t,.bool neg] [] (z20 Tree.cs' (t.nrm neg)) []:=by
 induction t using y28 with|h t ih=>?_
 intro hg neg
 have cT:=z889 1
 have cF:=z130 3 [.mk 1 0 []] (by simp)
 cases y23 hg with
 |tr =>
  rw [z758]
  clear ih
  cases neg
  all_goals
   refine z7 z14 Tryz.func238 rfl rfl 99 Tryz.ntmps238 (by simp) ?_
   repeat' ((first|(apply y4 ok;rfl)|(apply z4 (cT);rfl;rfl)|((first|(apply z8 [3] [] cF;rfl;rfl)|(apply z8 [6] [] (z457 3 1 0);rfl;rfl));rfl;(focus ((repeat' first|exact z13|apply z11)<;>exact z103))))<;>conv=>whnf)
   all_goals (refine rsD [] [] rfl ?_;(repeat' first|exact y85 _|exact z26|apply z38|constructor))
 |«at» v h0 h1 =>
  rw [z609]
  clear ih
  cases neg
  all_goals
   refine z7 z14 Tryz.func238 rfl rfl 99 Tryz.ntmps238 (by simp) ?_
   repeat' ((first|(apply y4 ok;rfl)|(apply z4 (cT);rfl;rfl)|((first|(apply z8 [3] [] cF;rfl;rfl)|(apply z8 [6] [] (z457 3 2 v);rfl;rfl));rfl;(focus ((repeat' first|exact z13|apply z11)<;>exact z103))))<;>conv=>whnf)
   all_goals (refine rsD [] [] rfl ?_;(repeat' first|exact y85 _|exact z26|apply z38|constructor))
 |un k a hk ha =>
  have ca:=fun n=>ih a (by simp [Tree.kids]) ha n
  clear ih
  rcases hk with rfl|rfl|rfl|rfl
  ·rw [z434,argU 3 0 a]
   have ca:=ca (!neg)
   refine z7 z14 Tryz.func238 rfl rfl 99 Tryz.ntmps238 (by simp) ?_
   repeat' ((first|(apply y4 ok;rfl)|(apply z23;kernel_rfl)|(refine ⟨_,rfl,?_⟩)|(apply y43;omega)|(apply z4 (cT);rfl;rfl)|(apply z4 (ca);rfl;rfl)|(apply z8 [3] [] cF;rfl;rfl;rfl;(focus ((repeat' first|exact z13|apply z11)<;>exact z103))))<;>conv=>whnf)
   all_goals (refine rsD [] [] rfl ?_;(repeat' first|exact y85 _|constructor))
  ·rw [z389,argU 6 0 a,argU]
   have ck:=z293 6 0 [a] neg 0 (by simp) (a.nrm neg) (ca neg)
   have cf:=z130 6 [a.nrm neg] (by simp)
   generalize a.nrm neg=x at *
   refine z7 z14 Tryz.func238 rfl rfl 99 Tryz.ntmps238 (by simp) ?_
   repeat' ((first|(apply y4 ok;rfl)|(apply z4 (cT);rfl;rfl)|((first|(apply z8 [3] [] cF;rfl;rfl)|(apply z8 [0,1] [] ck;rfl;rfl)|(apply z8 [5] [] cf;rfl;rfl));rfl;(focus ((repeat' first|exact z13|apply z11)<;>first|exact z103|exact z42 rfl rfl))))<;>conv=>whnf)
   all_goals (refine rsD [] [] rfl ?_;(repeat' first|exact y85 _|constructor))
  ·rw [z608,argU 9 0 a]
   have ck:=z293 9 0 [a] neg 0 (by simp) (a.nrm neg) (ca neg)
   have c7:=z130 7 [truT,a.nrm neg] (by simp)
   have c8:=z130 8 [notT truT,a.nrm neg] (by simp)
   generalize a.nrm neg=x at *
   cases neg
   ·rw [if_neg (by simp),argB]
    refine z7 z14 Tryz.func238 rfl rfl 99 Tryz.ntmps238 (by simp) ?_
    repeat' ((first|(apply y4 ok;rfl)|(apply z4 (cT);rfl;rfl)|((first|(apply z8 [3] [] cF;rfl;rfl)|(apply z8 [0,1] [] ck;rfl;rfl)|(apply z8 [5] [] c7;rfl;rfl));rfl;(focus ((repeat' first|exact z13|apply z11)<;>first|exact z103|exact z42 rfl rfl))))<;>conv=>whnf)
    all_goals (refine rsD [] [] rfl ?_;(repeat' first|exact y85 _|constructor))
   ·rw [if_pos rfl,argB]
    refine z7 z14 Tryz.func238 rfl rfl 99 Tryz.ntmps238 (by simp) ?_
    repeat' ((first|(apply y4 ok;rfl)|(apply z23;kernel_rfl)|(apply z4 (cT);rfl;rfl)|((first|(apply z8 [3] [] cF;rfl;rfl)|(apply z8 [0,1] [] ck;rfl;rfl)|(apply z8 [5] [] c8;rfl;rfl));rfl;(focus ((repeat' first|exact z13|apply z11)<;>first|exact z103|exact z42 rfl rfl))))<;>conv=>whnf)
    all_goals (refine rsD [] [] rfl ?_;(repeat' first|exact y85 _|constructor))
  ·rw [z610,argU 10 0 a]
   have ck:=z293 10 0 [a] neg 0 (by simp) (a.nrm neg) (ca neg)
   have c7:=z130 7 [truT,a.nrm neg] (by simp)
   have c8:=z130 8 [notT truT,a.nrm neg] (by simp)
   generalize a.nrm neg=x at *
   cases neg
   ·rw [if_neg (by simp),argB]
    refine z7 z14 Tryz.func238 rfl rfl 99 Tryz.ntmps238 (by simp) ?_
    repeat' ((first|(apply y4 ok;rfl)|(apply z23;kernel_rfl)|(apply z4 (cT);rfl;rfl)|((first|(apply z8 [3] [] cF;rfl;rfl)|(apply z8 [0,1] [] ck;rfl;rfl)|(apply z8 [5] [] c8;rfl;rfl));rfl;(focus ((repeat' first|exact z13|apply z11)<;>first|exact z103|exact z42 rfl rfl))))<;>conv=>whnf)
    all_goals (refine rsD [] [] rfl ?_;(repeat' first|exact y85 _|constructor))
   ·rw [if_pos rfl,argB]
    refine z7 z14 Tryz.func238 rfl rfl 99 Tryz.ntmps238 (by simp) ?_
    repeat' ((first|(apply y4 ok;rfl)|(apply z4 (cT);rfl;rfl)|((first|(apply z8 [3] [] cF;rfl;rfl)|(apply z8 [0,1] [] ck;rfl;rfl)|(apply z8 [5] [] c7;rfl;rfl));rfl;(focus ((repeat' first|exact z13|apply z11)<;>first|exact z103|exact z42 rfl rfl))))<;>conv=>whnf)
    all_goals (refine rsD [] [] rfl ?_;(repeat' first|exact y85 _|constructor))
 |bin k a b hk ha hb =>
  have ca:=z293 k 0 [a,b] neg 0 (by simp) (a.nrm neg) (ih a (by simp [Tree.kids]) ha neg)
  have cb:=z293 k 0 [a,b] neg 1 (by simp) (b.nrm neg) (ih b (by simp [Tree.kids]) hb neg)
  clear ih
  have cf:=z130 (if neg then z560 k else k) [a.nrm neg,b.nrm neg] (by simp)
  have cp:=z1002 k (z560 k) neg
  rw [z537 _ _ _ _ _ hk,argB k 0 a b,argB]
  generalize a.nrm neg=x at *
  generalize b.nrm neg=y at *
  rcases hk with rfl|rfl|rfl|rfl
  all_goals
   refine z7 z14 Tryz.func238 rfl rfl 99 Tryz.ntmps238 (by simp) ?_
   repeat' ((first|(apply y4 ok;rfl)|(apply z4 (cT);rfl;rfl)|((first|(apply z8 [3] [] cF;rfl;rfl)|(apply z8 [0,1] [] ca;rfl;rfl)|(apply z8 [0,1] [] cb;rfl;rfl)|(apply z8 [1] [] cp;rfl;rfl)|(apply z8 [5] [] cf;rfl;rfl));rfl;(focus ((repeat' first|exact z13|apply z11)<;>first|exact z103|exact z42 rfl rfl))))<;>conv=>whnf)
   all_goals (refine rsD [] [] rfl ?_;(repeat' first|exact y85 _|constructor))
theorem z325 (t:Tree) (h:t.sz≤1000000):CallsA Tryz.prog 90 [z20 Tree.cs' t] [] (ownT t) [.cells 3 (t.kids.map Tree.cs')]:=by
 induction t using y28 with|h t ih=>?_
 have hkl:t.kids.length≤1000000:=by rw [y38] at h;omega
 have hks:∀ u∈t.kids,u.sz≤1000000:=fun u hu=>by
  have:=z348 Tree.sz hu
  rw [y38] at h;omega
 rw [y16 t]
 obtain ⟨k,v,l⟩:=t
 simp only [Tree.kind,Tree.val,Tree.kids] at *
 have hcs:∀ (i:Nat) (hi:i < l.length),CallsA Tryz.prog 90 [z20 Tree.cs' l[i]] [] (z20 Tree.cs' l[i]) []:=fun i hi =>
  z221 (ih _ (y44 _) (hks _ (y44 _)))
 unfold ownT
 simp only [Tree.kind,Tree.val,Tree.kids] at *
 refine z7 z14 Tryz.func90 rfl rfl 29 Tryz.ntmps90 (by simp) ?_
 repeat' (((apply y4 ok;rfl))<;>conv=>whnf)
 refine y84 (y87 3 rfl) ?_
 refine z64 (fun i:Nat=>([(1,.ptr 0 none 0),(2,.ptr 1 none 0),(3,.ptr 2 none 0),(4,.int i)],[.cells 3 [[.int k,.int v,lst 3 Tree.cs' l]],.cells 3 [[.int 0,.int 0,.nils]],.cells 3 [[.int k,.int v,.sref 3 0 i]],.cells 3 ((l.take i).map Tree.cs')])) (fun i=>i≤l.length) (fun i=>l.length - i) 0 (by omega) (by refine swR [0,1,2,3] [] rfl rfl ?_;(repeat' first|exact y85 _|exact z49|apply y86|refine z10 rfl (z30) ?_|constructor)) ?_
 intro i hi
 by_cases hil:i < l.length
 ·have hc:=hcs i hil
  repeat' ((first|(apply y4 ok;rfl)|(apply z23;kernel_rfl)|(apply y43;first|omega|(unfold inI;omega)|((try dsimp only);simp only [y49,y48,y47,y46,y57,y58];omega)|exact ⟨rfl,z21 rfl z31⟩)|(((with_reducible apply z9;omega));intro _)|((apply z6)<;>intro _)|(apply z4 (hc);rfl;rfl))<;>conv=>whnf)
  all_goals try (exfalso;omega)
  refine z27 (i+1) (by omega) (by omega) (by refine swR [0,1,2,5] [] rfl rfl ?_;(repeat' first|exact y85 _|apply y86|((refine z43 rfl ?_ ?_);(focus ((repeat' (first|exact z5 (fun _=>rfl)|apply z28));done)))|refine z313 (by omega) (by omega) ?_|constructor))
 ·have e:i=l.length:=by omega
  subst e
  rw [y55]
  repeat' ((first|(apply y4 ok;rfl)|(apply y43;omega)|(((with_reducible apply z9;omega));intro _)|((apply z6)<;>intro _))<;>conv=>whnf)
  all_goals try (exfalso;omega)
  all_goals (refine rsD [3] [] rfl ?_;(repeat' first|exact y85 _|exact z12 _|refine z10 rfl (z5 (fun _=>rfl)) ?_|constructor))
set_option maxHeartbeats 1600000 in
theorem z880 (bs:List Int) (hb:BytesOk bs) (p:Int) (hp:few p) (t:Tree) (ht:t.sz≤1000):∃ (t' : Tree) (p' : Int),(t'.sz≤t.sz+1∧p≤p'∧p'≤p+2)∧CallsA Tryz.prog 36 [.ptr 0 none 0,z20 Tree.cs' t] [rdO bs p] (z20 Tree.cs' t') [rdO bs p']:=by
 have cs:=z325 t (by omega)
 obtain ⟨u,hu⟩:∃ u,u=t:=⟨t,rfl⟩
 have hsz:u.sz≤t.sz:=by rw [hu];exact y52 _
 have cs:CallsA Tryz.prog 90 [z20 Tree.cs' t] [] (ownT u) [.cells 3 (u.kids.map Tree.cs')]:=by rw [hu];exact cs
 clear hu
 have hul:u.kids.length≤1000:=by rw [y38] at hsz;omega
 obtain ⟨v,⟨lv,uv⟩,cv⟩:=z79 bs hb p 50 (by omega) (by omega) (by omega)
 rw [y16 t]
 rw [y16 t] at cs
 unfold ownT at cs
 by_cases h0:v=0
 ·subst h0
  obtain ⟨k,mk,ck⟩:=z100 bs hb (p+1) (by omega) (by omega) [0,11,-1,2,3,4] (by decide) (by decide)
  refine ⟨.mk k u.val u.kids,p+1+1,⟨by rw [z249];rw [y38] at hsz;omega,by omega,by omega⟩,?_⟩
  refine z7 z14 Tryz.func36 rfl rfl 34 Tryz.ntmps36 (by simp) ?_
  repeat' ((first|(apply y4 ok;rfl)|((first|(apply z8 [] [3] cs;rfl;rfl)|(apply z8 [0] [] cv;rfl;rfl)|(apply z8 [0,5] [] ck;rfl;rfl));rfl;(focus ((repeat' first|exact z13|apply z11)<;>first|exact z42 rfl rfl|(refine z19 ?_;((exact z5 fun _=>rfl)))))))<;>conv=>whnf)
  all_goals (refine rsD [0] [3] rfl ?_;(repeat' first|exact y85 _|exact z276|apply y86|((apply z36 rfl rfl rfl);(focus ((repeat ((exact z24 (fun _=>rfl) _)));done));(focus (((simp;done));done)))|apply z38|(apply z63;rfl)|constructor))
 by_cases h1:v=1
 ·subst h1
  obtain ⟨k,mk,ck⟩:=z100 bs hb (p+1) (by omega) (by omega) [-1,3,2,9223372036854775807] (by decide) (by decide)
  refine ⟨.mk u.kind k u.kids,p+1+1,⟨by rw [z249];rw [y38] at hsz;omega,by omega,by omega⟩,?_⟩
  refine z7 z14 Tryz.func36 rfl rfl 34 Tryz.ntmps36 (by simp) ?_
  repeat' ((first|(apply y4 ok;rfl)|((first|(apply z8 [] [3] cs;rfl;rfl)|(apply z8 [0] [] cv;rfl;rfl)|(apply z8 [0,5] [] ck;rfl;rfl));rfl;(focus ((repeat' first|exact z13|apply z11)<;>first|exact z42 rfl rfl|(refine z19 ?_;((exact z5 fun _=>rfl)))))))<;>conv=>whnf)
  all_goals (refine rsD [0] [3] rfl ?_;(repeat' first|exact y85 _|exact z276|apply y86|((apply z36 rfl rfl rfl);(focus ((repeat ((exact z24 (fun _=>rfl) _)));done));(focus (((simp;done));done)))|apply z38|(apply z63;rfl)|constructor))
 by_cases h2:v=2
 ·subst h2
  refine ⟨.mk u.kind u.val (u.kids++[leaf 1 0]),p+1,⟨by rw [z249];rw [y38] at hsz;simp [z86];omega,by omega,by omega⟩,?_⟩
  refine z7 z14 Tryz.func36 rfl rfl 34 Tryz.ntmps36 (by simp) ?_
  repeat' ((first|(apply y4 ok;rfl)|(apply z23;kernel_rfl)|(apply y43;first|((try dsimp only);simp only [y49,y48,y47,y46,y57,y58];omega)|exact ⟨rfl,z21 rfl z31⟩)|(apply z4 (z399);rfl;rfl)|((first|(apply z8 [] [3] cs;rfl;rfl)|(apply z8 [0] [] cv;rfl;rfl));rfl;(focus ((repeat' first|exact z13|apply z11)<;>first|exact z42 rfl rfl|(refine z19 ?_;((exact z5 fun _=>rfl)))))))<;>conv=>whnf)
  all_goals (refine rsD [0] [6] rfl ?_;(repeat' first|exact y85 _|apply y86|((apply z36 rfl rfl rfl);(focus ((repeat (first|exact z24 (fun _=>rfl) _|apply z151|apply z188|rfl));done));(focus (((simp;done));done)))|apply z38|constructor))
  all_goals exact z739 rfl rfl (node_le' (y85 _))
 by_cases h3:v=3
 ·subst h3
  refine ⟨leaf 0 0,p+1,⟨by rw [z86];omega,by omega,by omega⟩,?_⟩
  refine z7 z14 Tryz.func36 rfl rfl 34 Tryz.ntmps36 (by simp) ?_
  repeat' ((first|(apply y4 ok;rfl)|((first|(apply z8 [] [3] cs;rfl;rfl)|(apply z8 [0] [] cv;rfl;rfl));rfl;(focus ((repeat' first|exact z13|apply z11)<;>first|exact z42 rfl rfl|(refine z19 ?_;((exact z5 fun _=>rfl)))))))<;>conv=>whnf)
  all_goals (refine rsD [0] [] rfl ?_;(repeat' first|exact y85 _|exact z26|apply y86|apply z38|constructor))
 ·refine ⟨.mk u.kind u.val u.kids,p+1,⟨by rw [z249];rw [y38] at hsz;omega,by omega,by omega⟩,?_⟩
  refine z7 z14 Tryz.func36 rfl rfl 34 Tryz.ntmps36 (by simp) ?_
  repeat' ((first|(apply y4 ok;rfl)|((apply z6)<;>intro _)|((first|(apply z8 [] [3] cs;rfl;rfl)|(apply z8 [0] [] cv;rfl;rfl));rfl;(focus ((repeat' first|exact z13|apply z11)<;>first|exact z42 rfl rfl|(refine z19 ?_;((exact z5 fun _=>rfl)))))))<;>conv=>whnf)
  all_goals try (exfalso;omega)
  all_goals (refine rsD [0] [3] rfl ?_;(repeat' first|exact y85 _|exact z276|apply y86|((apply z36 rfl rfl rfl);(focus ((repeat ((exact z24 (fun _=>rfl) _)));done));(focus (((simp;done));done)))|apply z38|(apply z63;rfl)|constructor))
theorem z689 (c:Tree) (l:List Tree) (hl:l.length≤maxLen) (p:Tree→Bool) (f:FuncId) (hf:∀ x∈l,CallsA Tryz.prog f [z20 Tree.cs' x,.pt [.int c.kind,.int c.val,lst 3 Tree.cs' c.kids]] [] (.bool (p x)) []):CallsA Tryz.prog 256 [lst 3 Tree.cs' l,.fn (.func f) [] [.pt [.int c.kind,.int c.val,lst 3 Tree.cs' c.kids]]] [] (.int (idxF p l)) []:=by
 unfold maxLen at hl
 refine z16 z14 Tryz.func256 rfl rfl 19 Tryz.ntmps256 (by simp) ?_
 repeat' (((apply y4 ok;rfl))<;>conv=>whnf)
 refine z108 (fun k:Nat=>([(0,lst 3 Tree.cs' l),(1,.fn (.func f) [] [.pt [.int c.kind,.int c.val,lst 3 Tree.cs' c.kids]]),(7,.int l.length),(8,.int k)],[])) (fun k=>k≤l.length∧∀ j (hj:j < l.length),j < k→p l[j]=false) (fun k=>l.length - k) 0 (by simp)
  ⟨[],rfl,by decide,rfl,⟨⟨rfl,rfl⟩,⟨rfl,rfl⟩,⟨rfl,rfl⟩,⟨rfl,rfl⟩,trivial⟩,trivial⟩ ?_
 intro k hk
 repeat' ((first|(apply y4 ok;rfl)|(apply y43;first|omega|(unfold inI;omega))|(((with_reducible apply z9;omega));intro _)|((first|apply z6|apply z95)<;>intro _)|(apply z4 (hf l[k] (y44 _));rfl;rfl))<;>conv=>whnf)
 ·rename_i h h1
  exact z47 rfl rfl (by rw [z129 (by omega) h1 hk.2];rfl)
 ·rename_i h h1
  refine z97 (k+1) [] ⟨by omega,fun j hj hjk=>?_⟩ (by omega) ⟨rfl,by decide,rfl,⟨⟨rfl,rfl⟩,⟨rfl,rfl⟩,⟨rfl,rfl⟩,⟨rfl,rfl⟩,trivial⟩,trivial⟩
  rcases y69 j k with h2|h2
  ·exact hk.2 j hj h2
  ·obtain rfl:j=k:=by omega
   exact h1
 ·exact z47 rfl rfl (by rw [z118 fun j hj=>hk.2 j hj (by omega)];rfl)
theorem z1179 (A B : List Tree) (hA : A.length ≤ maxLen) (hB : B.length ≤ maxLen) (f : FuncId) (hf : ∀ i (h : i < A.length) (h2 : i < B.length), CallsA Tryz.prog f [z20 Tree.cs' A[i], z20 Tree.cs' B[i]] [] (.bool (decide (A[i] = B[i]))) []) :
    CallsA Tryz.prog 279 [lst 3 Tree.cs' A,lst 3 Tree.cs' B,.fn (.func f) [] []] [] (.bool (decide (A=B))) []:=by
  unfold maxLen at hA hB
  by_cases hl:A.length=B.length
  · have hT:(∀ i (h:i < A.length) (h2:i < B.length),A[i]=B[i])→decide (A=B)=true:=fun h=>y81 (y74 hl h)
    have hF:∀ i (h:i < A.length) (h2:i < B.length),A[i]≠B[i]→decide (A=B)=false:=fun i h h2 hne=>y82 fun e=>hne (by subst e;rfl)
    generalize decide (A=B)=D at *
    refine z7 z14 Tryz.func279 rfl (by kernel_rfl) 32 Tryz.ntmps279 (by simp) ?_
    repeat' ((first|(apply y4 ok;rfl)|((apply z53)<;>intro _))<;>conv=>whnf)
    all_goals try (exfalso;omega)
    refine z64 (fun i:Nat=>([(0,lst 3 Tree.cs' A),(1,lst 3 Tree.cs' B),(2,.fn (.func f) [] []),(15,lst 3 Tree.cs' A),(16,.int A.length),(17,.int i)],[])) (fun i=>i≤A.length∧∀ j (h:j < A.length) (h2:j < B.length),j < i→A[j]=B[j]) (fun i=>A.length - i) 0 ⟨y53 _,fun j _ _ h=>absurd h (Nat.not_lt_zero _)⟩ (by refine swR [] [] rfl rfl ?_;(repeat' first|exact y85 _|constructor)) ?_
    rintro i ⟨hi,hj⟩
    by_cases hil:i < A.length
    · have hil2:i < B.length:=by omega
      have c1:=hf i hil hil2
      have gA:(A.map Tree.cs')[i]?=some (Tree.cs' A[i]):=by rw [y51,y45 hil];rfl
      have gB:(B.map Tree.cs')[i]?=some (Tree.cs' B[i]):=by rw [y51,y45 hil2];rfl
      by_cases he:A[i]=B[i]
      · rw [y81 he] at c1
        have hj2:∀ j (h:j < A.length) (h2:j < B.length),j < i+1→A[j]=B[j]:=fun j h h2 hji=>by
          rcases y69 j i with h3|h3
          · exact hj j h h2 h3
          · obtain rfl:j=i:=by omega
            exact he
        generalize A[i]=x at *
        generalize B[i]=y at *
        repeat' ((first|(apply y4 ok;rfl)|(refine z15 (i:=i) rfl gA ?_)|(refine z15 (i:=i) rfl gB ?_)|(apply y43;first|omega|(unfold inI;omega))|((apply z6)<;>intro _)|(apply z4 (c1);rfl;rfl))<;>conv=>whnf)
        all_goals try (exfalso;omega)
        all_goals refine z27 (i+1) ⟨by omega,hj2⟩ (by omega) (by refine swR [] [] rfl rfl ?_;(repeat' first|exact y85 _|constructor))
      · rw [y82 he] at c1
        have hD:=hF i hil hil2 he
        subst hD
        generalize A[i]=x at *
        generalize B[i]=y at *
        repeat' ((first|(apply y4 ok;rfl)|(refine z15 (i:=i) rfl gA ?_)|(refine z15 (i:=i) rfl gB ?_)|(apply y43;omega)|((apply z6)<;>intro _)|(apply z4 (c1);rfl;rfl))<;>conv=>whnf)
        all_goals try (exfalso;omega)
        all_goals (refine rsD [] [] rfl ?_;(repeat' first|exact y85 _|constructor))
    · have hD:=hT (fun j h h2=>hj j h h2 (by omega))
      subst hD
      repeat' ((first|(apply y4 ok;rfl)|(apply y43;omega)|(((with_reducible apply z9;omega));intro _)|((apply z6)<;>intro _))<;>conv=>whnf)
      all_goals try (exfalso;omega)
      all_goals (refine rsD [] [] rfl ?_;(repeat' first|exact y85 _|constructor))
  · rw [y82 (fun e=>hl (by rw [e]))]
    refine z7 z14 Tryz.func279 rfl (by kernel_rfl) 32 Tryz.ntmps279 (by simp) ?_
    repeat' ((first|(apply y4 ok;rfl)|((apply z53)<;>intro _))<;>conv=>whnf)
    all_goals first|(exfalso;omega)|(refine rsD [] [] rfl ?_;(repeat' first|exact y85 _|constructor))
theorem z692 (a:Tree):a.mx→∀ b:Tree,b.mx→CallsA Tryz.prog 270 [z20 Tree.cs' a,z20 Tree.cs' b] [] (.bool (decide (a=b))) []:=by
 induction a using y28 with|h a ih=>?_
 intro ha b hb
 rw [y29] at ha hb
 have cE:=z1179 a.kids b.kids ha.1 hb.1 270 (fun i h h2=>ih _ (y44 _) (ha.2 _ (y44 _)) _ (hb.2 _ (y44 _)))
 clear ih
 rw [y16,y16]
 by_cases hk:a.kind=b.kind∧a.val=b.val
 ·obtain ⟨k1,k2⟩:=hk
  have e:decide (a.kids=b.kids)=decide (a=b):=decide_eq_decide.2 ⟨fun h=>Tree.ext k1 k2 h,fun h=>by rw [h]⟩
  rw [e] at cE
  generalize decide (a=b)=D at *
  cases D
  all_goals
   refine z7 z14 Tryz.func270 rfl rfl 24 Tryz.ntmps270 (by simp) ?_
   repeat' ((first|(apply y4 ok;rfl)|((apply z6)<;>intro _)|(apply z4 (cE);rfl;rfl))<;>conv=>whnf)
   all_goals try (exfalso;omega)
   all_goals (refine rsD [] [] rfl ?_;(repeat' first|exact y85 _|constructor))
 ·rw [y82 (fun e=>hk (by subst e;exact ⟨rfl,rfl⟩))]
  clear cE
  refine z7 z14 Tryz.func270 rfl rfl 24 Tryz.ntmps270 (by simp) ?_
  repeat' ((first|(apply y4 ok;rfl)|((apply z6)<;>intro _))<;>conv=>whnf)
  all_goals first|(exfalso;omega)|(refine rsD [] [] rfl ?_;(repeat' first|exact y85 _|constructor))
theorem z302 (l:List Tree) (hl:l.length≤1000000) (hm:∀ t∈l,t.mx) (t:Tree) (ht:t.mx):CallsA Tryz.prog 239 [lst 3 Tree.cs' l,z20 Tree.cs' t] [] (.int (idxF (fun x=>decide (x=t)) l)) []:=by
 have cI:=z689 t l (by unfold maxLen;omega) (fun x=>decide (x=t)) 269 (fun x hx=>by
  have cS:=z692 x (hm x hx) t ht
  rw [y16 t] at cS
  refine z7 z14 Tryz.func269 rfl rfl 7 Tryz.ntmps269 (by simp) ?_
  rw [y16 x] at cS ⊢
  repeat' ((first|(apply y4 ok;rfl)|(apply z4 (cS);rfl;rfl))<;>conv=>whnf)
  all_goals (refine rsD [] [] rfl ?_;(repeat' first|exact y85 _|constructor)))
 rw [y16 t]
 refine z7 z14 Tryz.func239 rfl rfl 8 Tryz.ntmps239 (by simp) ?_
 repeat' ((first|(apply y4 ok;rfl)|(apply z80 [] [0] [] cI;(focus ((repeat' first|exact z60|apply z39)<;>rfl));rfl;rfl;(focus ((repeat' exact z13)<;>fail));((refine .inr ⟨rfl,?_⟩;repeat' exact True.intro))))<;>conv=>whnf)
 all_goals (refine rsD [] [] rfl ?_;(repeat' first|exact y85 _|constructor))
theorem z1190 (t:Tree) (h:t.sz≤1000000):CallsA Tryz.prog 234 [z20 Tree.cs' t] [] (ownT t) [.cells 3 (t.kids.map Tree.cs')]:=by
 induction t using y28 with|h t ih=>?_
 have hkl:t.kids.length≤1000000:=by rw [y38] at h;omega
 have hks:∀ u∈t.kids,u.sz≤1000000:=fun u hu=>by
  have:=z348 Tree.sz hu
  rw [y38] at h;omega
 rw [y16 t]
 obtain ⟨k,v,l⟩:=t
 simp only [Tree.kind,Tree.val,Tree.kids] at *
 have hcs:∀ (i:Nat) (hi:i < l.length),CallsA Tryz.prog 234 [z20 Tree.cs' l[i]] [] (z20 Tree.cs' l[i]) []:=fun i hi =>
  z221 (ih _ (y44 _) (hks _ (y44 _)))
 have cC:=z174 l (by omega)
 unfold ownT
 simp only [Tree.kind,Tree.val,Tree.kids] at *
 refine z7 z14 Tryz.func234 rfl rfl 30 Tryz.ntmps234 (by simp) ?_
 repeat' ((first|(apply y4 ok;rfl)|(apply z23;kernel_rfl)|(apply z8 [] [2] cC;rfl;rfl;rfl;(focus ((repeat' first|exact z13|apply z11)<;>(refine z19 ?_;((exact z5 fun _=>rfl)))))))<;>conv=>whnf)
 refine z64 (fun i:Nat=>([(1,.ptr 0 none 0),(2,.ptr 1 none 0),(3,.ptr 3 none 0),(15,lst 3 Tree.cs' l),(16,.int l.length),(17,.int i)],[.cells 3 [[.int k,.int v,lst 3 Tree.cs' l]],.cells 3 [[.int 0,.int 0,.nils]],.cells 3 (l.map Tree.cs'),.cells 3 [[.int k,.int v,.sref 2 0 l.length]]])) (fun i=>i≤l.length) (fun i=>l.length - i) 0 (by omega) (by refine swR [0,1,2,3] [] rfl rfl ?_;(repeat' first|exact y85 _|exact z12 _|apply y86|refine z10 rfl (z5 (fun _=>rfl)) ?_|constructor)) ?_
 intro i hi
 by_cases hil:i < l.length
 ·have hc:=hcs i hil
  have gk:(l.map Tree.cs')[i]?=some (Tree.cs' l[i]):=by rw [y51,y45 hil];rfl
  have hset:(l.map Tree.cs').set i (Tree.cs' l[i])=l.map Tree.cs':=by
   apply y74 (by simp)
   intro j h1 h2
   rw [List.getElem_set]
   split
   ·rename_i e;subst e;simp
   ·rfl
  generalize l[i]=x at *
  repeat' ((first|(apply y4 ok;rfl)|(apply z23;kernel_rfl)|(refine z15 (i:=i) rfl gk ?_)|(apply y43;first|omega|(unfold inI;omega))|((apply z6)<;>intro _)|(apply z4 (hc);rfl;rfl))<;>conv=>whnf)
  all_goals try (exfalso;omega)
  all_goals refine z27 (i+1) (by omega) (by omega) (by refine swR [0,1,2,3] [] rfl rfl ?_;(repeat' first|exact y85 _|apply y86|refine z69 rfl (z5 (fun _=>rfl)) ?_|constructor)<;>((refine z46 ?_;exact hset)))
 ·have e:i=l.length:=by omega
  subst e
  repeat' ((first|(apply y4 ok;rfl)|(apply y43;omega)|(((with_reducible apply z9;omega));intro _)|((apply z6)<;>intro _))<;>conv=>whnf)
  all_goals try (exfalso;omega)
  all_goals (refine rsD [2] [] rfl ?_;(repeat' first|exact y85 _|exact z12 _|refine z10 rfl (z5 (fun _=>rfl)) ?_|constructor))
theorem z704 (t:Tree) (h:t.sz≤1000000):CallsA Tryz.prog 234 [z20 Tree.cs' t] [] (z20 Tree.cs' t) []:=z221 (z1190 t h)
end Go.Proofs.YtnfoijopccdjeaaGreat
