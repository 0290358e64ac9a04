/- A part of the proofs over this program: T184, T185, T64, T65, T66, T154, T155. -/
import Derived.Test.YtahhobgjcfionaaGreatG0
import Derived.Test.YtahhobgjcfionaaGreatG1
import Derived.Test.YtahhobgjcfionaaGreatG2
import Derived.Test.YtahhobgjcfionaaGreatG3
import Derived.Test.YtahhobgjcfionaaGreatP0
import Derived.Test.YtahhobgjcfionaaGreatP1
import Derived.Test.YtahhobgjcfionaaGreatP2
import Derived.Test.YtahhobgjcfionaaGreatP3
import Derived.Test.YtahhobgjcfionaaGreatP4
set_option linter.all false
namespace Go.Proofs.YtahhobgjcfionaaGreat
open Go.Gl
attribute [local irreducible] z19 AWP z36 z44 z39 RetS z47
theorem z392 {N w:Nat} (Q P:List Int) (hw:w < N):((frm N Q P).map enI)[w]?=some (enI (if (w:Int)∈Q then P.getD w 0 else -2)):=by
 unfold frm
 rw [y44,y44,List.getElem?_range hw];rfl
theorem z439 {N w:Nat} {Q P:List Int} {u:Int} (hw:w < N) (hP:P.length=N):((frm N Q P).map enI).set w (enI u)=(frm N (Q++[(w:Int)]) (P.set w u)).map enI:=by
 have:=frm_set (N:=N) (Q:=Q) (P:=P) (v:=(w:Int)) (u:=u) ⟨by omega,by omega⟩ hP
 rw [y69] at this
 rw [← this,List.map_set]
set_option maxHeartbeats 12800000 in
theorem z586 (rows : List (List Int)) (ini : List Int) (hr : ∀ r ∈ rows, InN rows.length r) (hi : InN rows.length ini) (hn : ini.Nodup) (hN : rows.length ≤ 100000) (hrl : ∀ r ∈ rows, r.length ≤ 1000000000) (G : Int → Bool) (f : FuncId) (c1 : List AC) (hf : ∀ x : Int, 0 ≤ x → x < rows.length → CallsA Tryz.prog f (.int x :: [.pt c1]) [] (.bool (G x)) []) :
    CallsA Tryz.prog 141 [lst 1 encL rows,ints ini,.fn (.func f) [] [.pt c1]] [] (.sref 0 0 (shL rows ini G).length) [.cells 1 ((shL rows ini G).map enI)]:=by
  have hil:ini.length≤100000:=by have:=z129 rows.length ini hn hi;omega
  refine z7 z16 Tryz.func141 rfl rfl 99 Tryz.ntmps141 (by simp) ?_
  repeat' ((first|(apply y76 ok;rfl)|(apply y36;(dsimp only;omega)))<;>conv=>whnf)
  obtain ⟨qm,hqm⟩:∃ qm:Nat→Nat→Int,qm=fun i j=>if j < i then -2 else 0:=⟨_,rfl⟩
  have q0:qm 0=fun _=>0:=by rw [hqm];rfl
  have qE:(fnL rows.length (qm rows.length)).map enI=(frm rows.length [] (List.replicate rows.length (-1))).map enI:=by
    rw [z1047]
    congr 1
    apply y67 (by simp [fnL])
    intro i h1 h2
    rw [z394,hqm]
    have hi' : i < rows.length:=by rw [z95] at h1;exact h1
    dsimp only
    rw [if_pos hi'];simp
  have qS:∀ i,qm (i+1)=upd (qm i) i (-2):=fun i=>by
    funext j
    by_cases h:j=i
    · subst h;rw [z24,hqm];dsimp only;rw [if_pos (by omega)]
    · rw [z43 _ _ h,hqm];dsimp only;split<;>split<;>first|rfl|omega
  clear hqm
  refine z65 (fun i:Nat=>([(0,lst 1 encL rows),(1,ints ini),(2,.fn (.func f) [] [.pt c1]),(7,.sref 0 0 rows.length),(21,.int rows.length),(22,.int i)],[.cells 1 ((fnL rows.length (qm i)).map enI)])) (fun i=>i≤rows.length) (fun i=>rows.length - i) 0 (y46 _) (by refine swR [0] [] rfl rfl ?_;(repeat' first|exact y78 _|refine z10 rfl (z64 rfl) ?_|constructor)<;>((refine z26 ?_;rw [q0];exact z296 _))) ?_
  intro i hi1
  by_cases hi2:i < rows.length
  · have g1:=z152 (qm i) hi2
    have l1:=z95 rows.length (qm i)
    have e1:=z131 (N:=rows.length) (u:=i) (qm i) (-2)
    rw [← qS] at e1
    repeat' ((first|(apply y76 ok;rfl)|(refine z12 (i:=i) rfl g1 ?_)|(apply y36;first|omega|(unfold inI;omega))|((apply z5)<;>intro _))<;>conv=>whnf)
    all_goals try (exfalso;omega)
    all_goals refine z23 (i+1) hi2 (by omega) (by refine swR [0] [] rfl rfl ?_;(repeat' first|exact y78 _|refine z41 rfl (z4 (fun _=>rfl)) ?_|constructor)<;>((refine z26 ?_;exact e1)))
  obtain rfl:i=rows.length:=by omega
  rw [qE]
  clear qE qS q0
  repeat' ((first|(apply y76 ok;rfl)|(apply y36;omega)|(((apply z8;omega));intro _)|((apply z5)<;>intro _))<;>conv=>whnf)
  all_goals try (exfalso;omega)
  refine y77 (y80 1 rfl) ?_
  have hrep:(List.replicate rows.length (-1:Int)).length=rows.length:=by simp
  have hrs:∀ w,(List.replicate rows.length (-1:Int)).set w (-1)=List.replicate rows.length (-1):=fun w=>by
    apply y67 (by simp)
    intro i h1 h2
    rw [List.getElem_set]
    split<;>simp
  have hS0:(frm rows.length ini (List.replicate rows.length (-1)))=frm rows.length (srS rows ini 0).1 (srS rows ini 0).2:=rfl
  generalize List.replicate rows.length (-1:Int)=P0 at *
  refine z65 (fun k:Nat=>([(0,lst 1 encL rows),(2,.fn (.func f) [] [.pt c1]),(7,.sref 0 0 rows.length),(9,.sref 1 0 (ini.take k).length),(29,ints ini),(30,.int ini.length),(31,.int k)],[.cells 1 ((frm rows.length (ini.take k) P0).map enI),.cells 1 ((ini.take k).map enI)])) (fun k=>k≤ini.length) (fun k=>ini.length - k) 0 (y46 _) (by refine swR [0,1] [] rfl rfl ?_;(repeat' first|exact y78 _|exact z48|exact z9 _|((refine z10 rfl ?_ ?_);(focus ((repeat' (first|exact z32|exact z4 (fun _=>rfl)));done)))|constructor)) ?_
  intro k hk
  by_cases hk2:k < ini.length
  · have gk:(ini.map enI)[k]?=some (enI ini[k]):=by rw [y44,y38 hk2];rfl
    have hv:=hi _ (y37 hk2)
    have et:ini.take (k+1)=ini.take k++[ini[k]]:=y43 hk2
    have htl:(ini.take k).length≤100000:=by rw [y41];omega
    generalize hQ' : ini.take (k+1)=Q' at *
    generalize hQ:ini.take k=Q at *
    generalize ini[k]=v at *
    obtain ⟨w,rfl⟩:∃ w:Nat,v=w:=⟨v.toNat,by omega⟩
    have hw:w < rows.length:=by omega
    have g1:=z392 Q P0 hw
    have l1:=z391 rows.length Q P0
    have e1:=z439 (Q:=Q) (u:=-1) hw hrep
    rw [hrs,← et] at e1
    subst et
    repeat' ((first|(apply y76 ok;rfl)|(refine z12 (i:=k) rfl gk ?_)|(refine z12 (i:=w) rfl g1 ?_)|(apply y36;first|omega|(unfold inI;omega)|((try dsimp only);simp only [y42,y41,y40,y39,y51,y52];omega)|exact ⟨rfl,z18 rfl z25⟩)|((apply z5)<;>intro _))<;>conv=>whnf)
    all_goals try (exfalso;omega)
    all_goals refine z23 (k+1) hk2 (by omega) ?_
    all_goals dsimp only
    all_goals rw [hQ']
    all_goals exact (by refine swR [0,3] [] rfl rfl ?_;(repeat' first|exact y78 _|(refine z34 ?_;((simp;done)))|((first|refine z27 rfl ?_ ?_|refine z41 rfl ?_ ?_);(focus ((repeat' (first|exact z4 (fun _=>rfl)|apply z17));done)))|(refine z69 ?_ ?_;(focus (omega)))|constructor)<;>((refine z26 ?_;exact e1)))
  obtain rfl:k=ini.length:=by omega
  rw [y49,hS0]
  repeat' ((first|(apply y76 ok;rfl)|(apply y36;omega)|((first|(with_reducible apply z8;omega)|(apply z8;omega));intro _)|((apply z5)<;>intro _))<;>conv=>whnf)
  all_goals try (exfalso;omega)
  refine z65 (fun i:Nat=>([(0,lst 1 encL rows),(2,.fn (.func f) [] [.pt c1]),(7,.sref 0 0 rows.length),(9,.sref 1 0 (srS rows ini i).1.length),(12,.int i)],[.cells 1 ((frm rows.length (srS rows ini i).1 (srS rows ini i).2).map enI),.cells 1 ((srS rows ini i).1.map enI)])) (fun i=>i≤rows.length∧∀ k (_:k < i) (h:k < (srS rows ini i).1.length),G ((srS rows ini i).1[k])=false) (fun i=>rows.length+1 - i) 0 ⟨y46 _,fun k h=>by omega⟩ (by refine swR [0,1] [] rfl rfl ?_;(repeat' first|exact y78 _|exact z9 _|refine z10 rfl (z4 (fun _=>rfl)) ?_|constructor)<;>(fail)) ?_
  rintro i ⟨hi1,hno⟩
  have hJ:=z308 hr hi hn i
  have hQl:=z580 hr hi hn i
  by_cases hi2:i < (srS rows ini i).1.length
  · have hx:=hJ.inn _ (y37 hi2)
    have cf:=hf _ hx.1 hx.2
    have gx:((srS rows ini i).1.map enI)[i]?=some (enI (srS rows ini i).1[i]):=by rw [y44,y38 hi2];rfl
    have hnx:srS rows ini (i+1)=visPs (srS rows ini i).1[i] (srS rows ini i) (rows.getD ((srS rows ini i).1[i]).toNat []):=by rw [srS,dif_pos hi2]
    have hfnd:=fun h=>z660 hr hi hn (G:=G) hi2 h (fun k hk=>hno k hk (by omega))
    have hpre:=z330 (srS rows ini i).1[i] (rows.getD ((srS rows ini i).1[i]).toNat []) (srS rows ini i)
    by_cases hG:G (srS rows ini i).1[i]=true
    · rw [hfnd hG,z804,y57]
      have hq0:∃ k,∃ h:k < (srS rows ini i).1.length,(srS rows ini i).1[k]=(srS rows ini i).1[i]∧k≤rows.length:=⟨i,hi2,rfl,hi1⟩
      rw [hG] at cf
      clear hfnd hnx hpre hno
      generalize hS:srS rows ini i=S at *
      obtain ⟨Q,P⟩:=S
      dsimp only at *
      have hi4:i < Q.length:=hi2
      generalize Q[i]=x at *
      repeat' ((first|(apply y76 ok;rfl)|(refine z12 (i:=i) rfl gx ?_)|(apply y36;omega)|((apply z5)<;>intro _)|(apply z6 (cf);rfl;rfl))<;>conv=>whnf)
      all_goals try (exfalso;omega)
      all_goals
        refine y77 (y80 1 rfl) ?_
        have hB1:=z1069 P rows.length x
        generalize hB:chn P rows.length x=B at *
        refine z65 (fun y:Nat×List Int×Int=>([(7,.sref 0 0 rows.length),(13,.int y.2.2),(14,.sref 1 0 y.2.1.length)],[.cells 1 ((frm rows.length Q P).map enI),.cells 1 (y.2.1.map enI)])) (fun y=>y.2.1.length+y.1≤rows.length+1∧((0≤y.2.2∧y.2.1++chn P (y.1 - 1) y.2.2=B∧1≤y.1∧∃ k,∃ h:k < Q.length,Q[k]=y.2.2∧k+1≤y.1)∨(y.2.2=-1∧y.2.1=B))) (fun y=>y.1+(if 0≤y.2.2 then 1 else 0)) (rows.length+1,[],x) ⟨by simp,.inl ⟨hx.1,by simpa using hB,by omega,by obtain ⟨k,h,h1,h2⟩:=hq0;exact ⟨k,h,h1,by omega⟩⟩⟩ (by refine swR [0,2] [] rfl rfl ?_;(repeat' first|exact y78 _|exact z48|exact z9 _|((refine z10 rfl ?_ ?_);(focus ((repeat' (first|exact z32|exact z4 (fun _=>rfl)));done)))|constructor)) ?_
        rintro ⟨fu,ac,u⟩ ⟨q1,q2⟩
        dsimp only at q1 q2 ⊢
        rcases q2 with ⟨q2,q3,q4,k,hk,q5,q6⟩|⟨rfl,rfl⟩
        · have huN:=hJ.inn u (q5 ▸ y37 hk)
          obtain ⟨w,rfl⟩:∃ w:Nat,u=w:=⟨u.toNat,by omega⟩
          have hw:w < rows.length:=by omega
          have gw:=z392 Q P hw
          rw [if_pos (q5 ▸ y37 hk)] at gw
          have lw:=z391 rows.length Q P
          have hp:=hJ.pre k hk
          rw [q5,y69] at hp
          dsimp only at hp
          obtain ⟨fu,rfl⟩:∃ m,fu=m+1:=⟨fu - 1,by omega⟩
          rw [Nat.add_sub_cancel] at q3
          have hnext:P.getD w 0=-1∧ac++[(w:Int)]=B∨(0≤P.getD w 0∧(ac++[(w:Int)])++chn P (fu - 1) (P.getD w 0)=B∧1≤fu∧∃ k,∃ h:k < Q.length,Q[k]=P.getD w 0∧k+1≤fu):=by
            rcases hp with hp|⟨j,hj,hjk,hp⟩
            · left
              refine ⟨hp,?_⟩
              rw [← q3]
              cases fu with
              | zero=>rfl
              | succ fu =>
                rw [chn,y69,if_neg (by omega)]
            · right
              have:=hJ.inn _ (y37 hj)
              refine ⟨by omega,?_,by omega,j,hj,hp.symm,by omega⟩
              obtain ⟨fu,rfl⟩:∃ m,fu=m+1:=⟨fu - 1,by omega⟩
              rw [chn,y69,if_pos (by omega)] at q3
              rw [← q3]
              simp
          have hvb : -1≤P.getD w 0∧P.getD w 0 < rows.length:=by
            rcases hnext with ⟨h,_⟩|⟨h,_,_,j,hj,hp2,_⟩
            · omega
            · have:=hJ.inn _ (y37 hj)
              omega
          clear hp
          generalize P.getD w 0=v at *
          repeat' ((first|(apply y76 ok;rfl)|(refine z12 (i:=w) rfl gw ?_)|(apply y36;first|omega|((try dsimp only);simp only [y42,y41,y40,y39,y51,y52];omega)|exact ⟨rfl,z18 rfl z25⟩))<;>conv=>whnf)
          all_goals refine z23 (fu,ac++[(w:Int)],v) ⟨by simp only [y40,List.length_singleton];omega,?_⟩ ?_ (by refine swR [0,3] [] rfl rfl ?_;(repeat' first|exact y78 _|exact z9 _|(refine z34 ?_;((simp;done)))|((first|refine z27 rfl ?_ ?_|refine z10 rfl ?_ ?_);(focus ((repeat' (first|exact z4 (fun _=>rfl)|apply z17));done)))|(refine z69 ?_ ?_;(focus (omega)))|constructor))
          all_goals dsimp only
          all_goals first|(rcases hnext with ⟨h1,h2⟩|h1<;>first|exact .inr ⟨h1,h2⟩|exact .inl h1)|(rw [if_pos (show (0:Int)≤w by omega)];split<;>omega)
        · have cr:=z545 ac (by omega) (by omega)
          have cc:=z328 (rvs ac) (by rw [z381];omega)
          have el:=z381 ac
          rw [← rvs_eq]
          generalize rvs ac=D at *
          rw [el] at cc ⊢
          repeat' ((first|(apply y76 ok;rfl)|((first|(apply z147 [1] [] cr;rfl;(focus ((repeat' first|exact z55|apply z71)<;>(refine z82 rfl ?_;((exact z4 fun _=>rfl))))))|(apply z147 [1] [] cc;rfl;(focus ((repeat' first|exact z55|apply z71)<;>(refine z82 rfl ?_;((exact z4 fun _=>rfl)))))));rfl;(focus ((repeat' first|exact z15|apply z14)<;>(refine z21 ?_;((exact z4 fun _=>rfl)))))))<;>conv=>whnf)
          all_goals (refine rsD [1] [] rfl ?_;(repeat' first|exact y78 _|exact z9 _|refine z10 rfl (z4 (fun _=>rfl)) ?_|constructor))
    · have hG:=(y64 _).mp hG
      rw [hG] at cf
      have hno2:∀ k (_:k < i+1) (h:k < (srS rows ini (i+1)).1.length),G ((srS rows ini (i+1)).1[k])=false:=by
        obtain ⟨t,ht⟩:=z579 (rows:=rows) (ini:=ini) (show i≤i+1 by omega)
        intro k hk h
        have hki:k < (srS rows ini i).1.length:=by omega
        have e:(srS rows ini (i+1)).1[k]=(srS rows ini i).1[k]:=by
          simp only [ht,List.getElem_append_left hki]
        rw [e]
        by_cases hk3:k < i
        · exact hno k hk3 hki
        · obtain rfl:k=i:=by omega
          exact hG
      have hile:i+1≤rows.length:=by omega
      have hJv:=fun l hl=>PJ.visPs (N:=rows.length) l hJ hi2 rfl hl
      clear hfnd hpre hno
      generalize hS' : srS rows ini (i+1)=S' at *
      generalize hS:srS rows ini i=S at *
      obtain ⟨Q,P⟩:=S
      dsimp only at *
      have hi4:i < Q.length:=hi2
      generalize hxx:Q[i]=x at *
      obtain ⟨u,rfl⟩:∃ u:Nat,x=u:=⟨x.toNat,by omega⟩
      rw [y69] at hnx
      have hu:u < rows.length:=by omega
      have gr:=z467 hu
      have hrow:=z197 hr (u:Int)
      rw [y69] at hrow
      have hrowl:(rows.getD u []).length≤1000000000:=by rw [z20 hu];exact hrl _ (y37 _)
      generalize rows.getD u []=row at *
      repeat' ((first|(apply y76 ok;rfl)|(refine z12 (i:=i) rfl gx ?_)|(refine z12 (i:=u) rfl gr ?_)|(apply y36;omega)|((apply z5)<;>intro _)|(apply z6 (cf);rfl;rfl))<;>conv=>whnf)
      all_goals try (exfalso;omega)
      all_goals
        refine z65 (fun j:Nat=>([(0,lst 1 encL rows),(2,.fn (.func f) [] [.pt c1]),(7,.sref 0 0 rows.length),(9,.sref 1 0 (visPs (u:Int) (Q,P) (row.take j)).1.length),(12,.int i),(76,ints row),(77,.int row.length),(78,.int j)],[.cells 1 ((frm rows.length (visPs (u:Int) (Q,P) (row.take j)).1 (visPs (u:Int) (Q,P) (row.take j)).2).map enI),.cells 1 ((visPs (u:Int) (Q,P) (row.take j)).1.map enI)])) (fun j=>j≤row.length) (fun j=>row.length - j) 0 (y46 _) (by refine swR [0,1] [] rfl rfl ?_;(repeat' first|exact y78 _|exact z9 _|refine z10 rfl (z4 (fun _=>rfl)) ?_|constructor)<;>(fail)) ?_
        intro j hj
        obtain ⟨hJj,hij,hxj⟩:=hJv (row.take j) (fun x hx=>hrow x (List.mem_of_mem_take hx))
        have hQjl:(visPs (u:Int) (Q,P) (row.take j)).1.length≤rows.length:=z129 _ _ hJj.nd hJj.inn
        have gxj:((visPs (u:Int) (Q,P) (row.take j)).1.map enI)[i]?=some (enI (u:Int)):=by
          rw [y44,y38 hij,hxj];rfl
        by_cases hj2:j < row.length
        · have gj:(row.map enI)[j]?=some (enI row[j]):=by rw [y44,y38 hj2];rfl
          have hv:=hrow _ (y37 hj2)
          have et:=z372 (u:=(u:Int)) (x:=(Q,P)) hj2
          have hge:=hJj.pre
          generalize hT' : visPs (u:Int) (Q,P) (row.take (j+1))=T' at *
          generalize hT:visPs (u:Int) (Q,P) (row.take j)=T at *
          generalize row[j]=v at *
          obtain ⟨w,rfl⟩:∃ w:Nat,v=w:=⟨v.toNat,by omega⟩
          have hw:w < rows.length:=by omega
          have gw:=z392 T.1 T.2 hw
          have lw:=z391 rows.length T.1 T.2
          have hTl:=hJj.len
          by_cases hm:(w:Int)∈T.1
          · rw [z331 hm] at et
            rw [if_pos hm] at gw
            have hwv : -1≤T.2.getD w 0:=by
              obtain ⟨k,hk,ek⟩:=List.mem_iff_getElem.1 hm
              have h1:=hge k hk
              rw [ek,y69] at h1
              rcases h1 with h1|⟨y,hy,_,h1⟩
              · omega
              · have:=hJj.inn _ (y37 hy);omega
            generalize T.2.getD w 0=pv at *
            repeat' ((first|(apply y76 ok;rfl)|(refine z12 (i:=j) rfl gj ?_)|(refine z12 (i:=w) rfl gw ?_)|(apply y36;first|omega|(unfold inI;omega))|(((apply z8;omega));intro _)|((apply z5)<;>intro _))<;>conv=>whnf)
            all_goals try (exfalso;omega)
            all_goals refine z23 (j+1) hj2 (by omega) ?_
            all_goals dsimp only
            all_goals rw [hT',et]
            all_goals exact (by refine swR [0,1] [] rfl rfl ?_;(repeat' first|exact y78 _|exact z9 _|refine z10 rfl (z4 (fun _=>rfl)) ?_|constructor))
          · rw [z332 hm,y69] at et
            rw [if_neg hm] at gw
            have e1:=z439 (Q:=T.1) (u:=(u:Int)) hw hTl
            repeat' ((first|(apply y76 ok;rfl)|(refine z12 (i:=j) rfl gj ?_)|(refine z12 (i:=w) rfl gw ?_)|(refine z12 (i:=i) rfl gxj ?_)|(apply y36;first|omega|(unfold inI;omega)|((try dsimp only);simp only [y42,y41,y40,y39,y51,y52];omega)|exact ⟨rfl,z18 rfl z25⟩)|((apply z5)<;>intro _))<;>conv=>whnf)
            all_goals try (exfalso;omega)
            all_goals refine z23 (j+1) hj2 (by omega) ?_
            all_goals dsimp only
            all_goals rw [hT',et]
            all_goals dsimp only
            all_goals exact (by refine swR [0,3] [] rfl rfl ?_;(repeat' first|exact y78 _|(refine z34 ?_;((simp;done)))|((first|refine z27 rfl ?_ ?_|refine z41 rfl ?_ ?_);(focus ((repeat' (first|exact z4 (fun _=>rfl)|apply z17));done)))|(refine z69 ?_ ?_;(focus (omega)))|constructor)<;>((refine z26 ?_;exact e1)))
        obtain rfl:j=row.length:=by omega
        rw [y49,← hnx] at *
        repeat' ((first|(apply y76 ok;rfl)|(apply y36;first|omega|(unfold inI;omega))|((first|(with_reducible apply z8;omega)|(apply z8;omega));intro _)|((apply z5)<;>intro _))<;>conv=>whnf)
        all_goals try (exfalso;omega)
        all_goals refine z23 (i+1) ⟨hile,by rw [hS'];exact hno2⟩ (by omega) ?_
        all_goals dsimp only
        all_goals rw [hS']
        all_goals exact (by refine swR [0,1] [] rfl rfl ?_;(repeat' first|exact y78 _|exact z9 _|refine z10 rfl (z4 (fun _=>rfl)) ?_|constructor))
  · rw [z824 (G:=G) (by omega) hi1 (fun k hk=>hno k (by omega) hk)]
    repeat' ((first|(apply y76 ok;rfl)|(apply y36;omega)|(((apply z8;omega));intro _)|((apply z5)<;>intro _))<;>conv=>whnf)
    all_goals try (exfalso;omega)
    all_goals (refine y81 1 ?_;refine rsD [2] [] rfl ?_;(repeat' first|exact z48|refine z10 rfl (z32) ?_|constructor))
set_option maxHeartbeats 12800000 in
theorem z585 (rows : List (List Int)) (ini : List Int) (hr : ∀ r ∈ rows, InN rows.length r) (hi : InN rows.length ini) (hn : ini.Nodup) (hN : rows.length ≤ 100000) (hrl : ∀ r ∈ rows, r.length ≤ 1000000000) (G : Int → Bool) (f : FuncId) (c1 c2 : List AC) (hf : ∀ x : Int, 0 ≤ x → x < rows.length → CallsA Tryz.prog f (.int x :: [.pt c1, .pt c2]) [] (.bool (G x)) []) :
    CallsA Tryz.prog 141 [lst 1 encL rows,ints ini,.fn (.func f) [] [.pt c1,.pt c2]] [] (.sref 0 0 (shL rows ini G).length) [.cells 1 ((shL rows ini G).map enI)]:=by
  have hil:ini.length≤100000:=by have:=z129 rows.length ini hn hi;omega
  refine z7 z16 Tryz.func141 rfl rfl 99 Tryz.ntmps141 (by simp) ?_
  repeat' ((first|(apply y76 ok;rfl)|(apply y36;(dsimp only;omega)))<;>conv=>whnf)
  obtain ⟨qm,hqm⟩:∃ qm:Nat→Nat→Int,qm=fun i j=>if j < i then -2 else 0:=⟨_,rfl⟩
  have q0:qm 0=fun _=>0:=by rw [hqm];rfl
  have qE:(fnL rows.length (qm rows.length)).map enI=(frm rows.length [] (List.replicate rows.length (-1))).map enI:=by
    rw [z1047]
    congr 1
    apply y67 (by simp [fnL])
    intro i h1 h2
    rw [z394,hqm]
    have hi' : i < rows.length:=by rw [z95] at h1;exact h1
    dsimp only
    rw [if_pos hi'];simp
  have qS:∀ i,qm (i+1)=upd (qm i) i (-2):=fun i=>by
    funext j
    by_cases h:j=i
    · subst h;rw [z24,hqm];dsimp only;rw [if_pos (by omega)]
    · rw [z43 _ _ h,hqm];dsimp only;split<;>split<;>first|rfl|omega
  clear hqm
  refine z65 (fun i:Nat=>([(0,lst 1 encL rows),(1,ints ini),(2,.fn (.func f) [] [.pt c1,.pt c2]),(7,.sref 0 0 rows.length),(21,.int rows.length),(22,.int i)],[.cells 1 ((fnL rows.length (qm i)).map enI)])) (fun i=>i≤rows.length) (fun i=>rows.length - i) 0 (y46 _) (by refine swR [0] [] rfl rfl ?_;(repeat' first|exact y78 _|refine z10 rfl (z64 rfl) ?_|constructor)<;>((refine z26 ?_;rw [q0];exact z296 _))) ?_
  intro i hi1
  by_cases hi2:i < rows.length
  · have g1:=z152 (qm i) hi2
    have l1:=z95 rows.length (qm i)
    have e1:=z131 (N:=rows.length) (u:=i) (qm i) (-2)
    rw [← qS] at e1
    repeat' ((first|(apply y76 ok;rfl)|(refine z12 (i:=i) rfl g1 ?_)|(apply y36;first|omega|(unfold inI;omega))|((apply z5)<;>intro _))<;>conv=>whnf)
    all_goals try (exfalso;omega)
    all_goals refine z23 (i+1) hi2 (by omega) (by refine swR [0] [] rfl rfl ?_;(repeat' first|exact y78 _|refine z41 rfl (z4 (fun _=>rfl)) ?_|constructor)<;>((refine z26 ?_;exact e1)))
  obtain rfl:i=rows.length:=by omega
  rw [qE]
  clear qE qS q0
  repeat' ((first|(apply y76 ok;rfl)|(apply y36;omega)|(((apply z8;omega));intro _)|((apply z5)<;>intro _))<;>conv=>whnf)
  all_goals try (exfalso;omega)
  refine y77 (y80 1 rfl) ?_
  have hrep:(List.replicate rows.length (-1:Int)).length=rows.length:=by simp
  have hrs:∀ w,(List.replicate rows.length (-1:Int)).set w (-1)=List.replicate rows.length (-1):=fun w=>by
    apply y67 (by simp)
    intro i h1 h2
    rw [List.getElem_set]
    split<;>simp
  have hS0:(frm rows.length ini (List.replicate rows.length (-1)))=frm rows.length (srS rows ini 0).1 (srS rows ini 0).2:=rfl
  generalize List.replicate rows.length (-1:Int)=P0 at *
  refine z65 (fun k:Nat=>([(0,lst 1 encL rows),(2,.fn (.func f) [] [.pt c1,.pt c2]),(7,.sref 0 0 rows.length),(9,.sref 1 0 (ini.take k).length),(29,ints ini),(30,.int ini.length),(31,.int k)],[.cells 1 ((frm rows.length (ini.take k) P0).map enI),.cells 1 ((ini.take k).map enI)])) (fun k=>k≤ini.length) (fun k=>ini.length - k) 0 (y46 _) (by refine swR [0,1] [] rfl rfl ?_;(repeat' first|exact y78 _|exact z48|exact z9 _|((refine z10 rfl ?_ ?_);(focus ((repeat' (first|exact z32|exact z4 (fun _=>rfl)));done)))|constructor)) ?_
  intro k hk
  by_cases hk2:k < ini.length
  · have gk:(ini.map enI)[k]?=some (enI ini[k]):=by rw [y44,y38 hk2];rfl
    have hv:=hi _ (y37 hk2)
    have et:ini.take (k+1)=ini.take k++[ini[k]]:=y43 hk2
    have htl:(ini.take k).length≤100000:=by rw [y41];omega
    generalize hQ' : ini.take (k+1)=Q' at *
    generalize hQ:ini.take k=Q at *
    generalize ini[k]=v at *
    obtain ⟨w,rfl⟩:∃ w:Nat,v=w:=⟨v.toNat,by omega⟩
    have hw:w < rows.length:=by omega
    have g1:=z392 Q P0 hw
    have l1:=z391 rows.length Q P0
    have e1:=z439 (Q:=Q) (u:=-1) hw hrep
    rw [hrs,← et] at e1
    subst et
    repeat' ((first|(apply y76 ok;rfl)|(refine z12 (i:=k) rfl gk ?_)|(refine z12 (i:=w) rfl g1 ?_)|(apply y36;first|omega|(unfold inI;omega)|((try dsimp only);simp only [y42,y41,y40,y39,y51,y52];omega)|exact ⟨rfl,z18 rfl z25⟩)|((apply z5)<;>intro _))<;>conv=>whnf)
    all_goals try (exfalso;omega)
    all_goals refine z23 (k+1) hk2 (by omega) ?_
    all_goals dsimp only
    all_goals rw [hQ']
    all_goals exact (by refine swR [0,3] [] rfl rfl ?_;(repeat' first|exact y78 _|(refine z34 ?_;((simp;done)))|((first|refine z27 rfl ?_ ?_|refine z41 rfl ?_ ?_);(focus ((repeat' (first|exact z4 (fun _=>rfl)|apply z17));done)))|(refine z69 ?_ ?_;(focus (omega)))|constructor)<;>((refine z26 ?_;exact e1)))
  obtain rfl:k=ini.length:=by omega
  rw [y49,hS0]
  repeat' ((first|(apply y76 ok;rfl)|(apply y36;omega)|((first|(with_reducible apply z8;omega)|(apply z8;omega));intro _)|((apply z5)<;>intro _))<;>conv=>whnf)
  all_goals try (exfalso;omega)
  refine z65 (fun i:Nat=>([(0,lst 1 encL rows),(2,.fn (.func f) [] [.pt c1,.pt c2]),(7,.sref 0 0 rows.length),(9,.sref 1 0 (srS rows ini i).1.length),(12,.int i)],[.cells 1 ((frm rows.length (srS rows ini i).1 (srS rows ini i).2).map enI),.cells 1 ((srS rows ini i).1.map enI)])) (fun i=>i≤rows.length∧∀ k (_:k < i) (h:k < (srS rows ini i).1.length),G ((srS rows ini i).1[k])=false) (fun i=>rows.length+1 - i) 0 ⟨y46 _,fun k h=>by omega⟩ (by refine swR [0,1] [] rfl rfl ?_;(repeat' first|exact y78 _|exact z9 _|refine z10 rfl (z4 (fun _=>rfl)) ?_|constructor)<;>(fail)) ?_
  rintro i ⟨hi1,hno⟩
  have hJ:=z308 hr hi hn i
  have hQl:=z580 hr hi hn i
  by_cases hi2:i < (srS rows ini i).1.length
  · have hx:=hJ.inn _ (y37 hi2)
    have cf:=hf _ hx.1 hx.2
    have gx:((srS rows ini i).1.map enI)[i]?=some (enI (srS rows ini i).1[i]):=by rw [y44,y38 hi2];rfl
    have hnx:srS rows ini (i+1)=visPs (srS rows ini i).1[i] (srS rows ini i) (rows.getD ((srS rows ini i).1[i]).toNat []):=by rw [srS,dif_pos hi2]
    have hfnd:=fun h=>z660 hr hi hn (G:=G) hi2 h (fun k hk=>hno k hk (by omega))
    have hpre:=z330 (srS rows ini i).1[i] (rows.getD ((srS rows ini i).1[i]).toNat []) (srS rows ini i)
    by_cases hG:G (srS rows ini i).1[i]=true
    · rw [hfnd hG,z804,y57]
      have hq0:∃ k,∃ h:k < (srS rows ini i).1.length,(srS rows ini i).1[k]=(srS rows ini i).1[i]∧k≤rows.length:=⟨i,hi2,rfl,hi1⟩
      rw [hG] at cf
      clear hfnd hnx hpre hno
      generalize hS:srS rows ini i=S at *
      obtain ⟨Q,P⟩:=S
      dsimp only at *
      have hi4:i < Q.length:=hi2
      generalize Q[i]=x at *
      repeat' ((first|(apply y76 ok;rfl)|(refine z12 (i:=i) rfl gx ?_)|(apply y36;omega)|((apply z5)<;>intro _)|(apply z6 (cf);rfl;rfl))<;>conv=>whnf)
      all_goals try (exfalso;omega)
      all_goals
        refine y77 (y80 1 rfl) ?_
        have hB1:=z1069 P rows.length x
        generalize hB:chn P rows.length x=B at *
        refine z65 (fun y:Nat×List Int×Int=>([(7,.sref 0 0 rows.length),(13,.int y.2.2),(14,.sref 1 0 y.2.1.length)],[.cells 1 ((frm rows.length Q P).map enI),.cells 1 (y.2.1.map enI)])) (fun y=>y.2.1.length+y.1≤rows.length+1∧((0≤y.2.2∧y.2.1++chn P (y.1 - 1) y.2.2=B∧1≤y.1∧∃ k,∃ h:k < Q.length,Q[k]=y.2.2∧k+1≤y.1)∨(y.2.2=-1∧y.2.1=B))) (fun y=>y.1+(if 0≤y.2.2 then 1 else 0)) (rows.length+1,[],x) ⟨by simp,.inl ⟨hx.1,by simpa using hB,by omega,by obtain ⟨k,h,h1,h2⟩:=hq0;exact ⟨k,h,h1,by omega⟩⟩⟩ (by refine swR [0,2] [] rfl rfl ?_;(repeat' first|exact y78 _|exact z48|exact z9 _|((refine z10 rfl ?_ ?_);(focus ((repeat' (first|exact z32|exact z4 (fun _=>rfl)));done)))|constructor)) ?_
        rintro ⟨fu,ac,u⟩ ⟨q1,q2⟩
        dsimp only at q1 q2 ⊢
        rcases q2 with ⟨q2,q3,q4,k,hk,q5,q6⟩|⟨rfl,rfl⟩
        · have huN:=hJ.inn u (q5 ▸ y37 hk)
          obtain ⟨w,rfl⟩:∃ w:Nat,u=w:=⟨u.toNat,by omega⟩
          have hw:w < rows.length:=by omega
          have gw:=z392 Q P hw
          rw [if_pos (q5 ▸ y37 hk)] at gw
          have lw:=z391 rows.length Q P
          have hp:=hJ.pre k hk
          rw [q5,y69] at hp
          dsimp only at hp
          obtain ⟨fu,rfl⟩:∃ m,fu=m+1:=⟨fu - 1,by omega⟩
          rw [Nat.add_sub_cancel] at q3
          have hnext:P.getD w 0=-1∧ac++[(w:Int)]=B∨(0≤P.getD w 0∧(ac++[(w:Int)])++chn P (fu - 1) (P.getD w 0)=B∧1≤fu∧∃ k,∃ h:k < Q.length,Q[k]=P.getD w 0∧k+1≤fu):=by
            rcases hp with hp|⟨j,hj,hjk,hp⟩
            · left
              refine ⟨hp,?_⟩
              rw [← q3]
              cases fu with
              | zero=>rfl
              | succ fu =>
                rw [chn,y69,if_neg (by omega)]
            · right
              have:=hJ.inn _ (y37 hj)
              refine ⟨by omega,?_,by omega,j,hj,hp.symm,by omega⟩
              obtain ⟨fu,rfl⟩:∃ m,fu=m+1:=⟨fu - 1,by omega⟩
              rw [chn,y69,if_pos (by omega)] at q3
              rw [← q3]
              simp
          have hvb : -1≤P.getD w 0∧P.getD w 0 < rows.length:=by
            rcases hnext with ⟨h,_⟩|⟨h,_,_,j,hj,hp2,_⟩
            · omega
            · have:=hJ.inn _ (y37 hj)
              omega
          clear hp
          generalize P.getD w 0=v at *
          repeat' ((first|(apply y76 ok;rfl)|(refine z12 (i:=w) rfl gw ?_)|(apply y36;first|omega|((try dsimp only);simp only [y42,y41,y40,y39,y51,y52];omega)|exact ⟨rfl,z18 rfl z25⟩))<;>conv=>whnf)
          all_goals refine z23 (fu,ac++[(w:Int)],v) ⟨by simp only [y40,List.length_singleton];omega,?_⟩ ?_ (by refine swR [0,3] [] rfl rfl ?_;(repeat' first|exact y78 _|exact z9 _|(refine z34 ?_;((simp;done)))|((first|refine z27 rfl ?_ ?_|refine z10 rfl ?_ ?_);(focus ((repeat' (first|exact z4 (fun _=>rfl)|apply z17));done)))|(refine z69 ?_ ?_;(focus (omega)))|constructor))
          all_goals dsimp only
          all_goals first|(rcases hnext with ⟨h1,h2⟩|h1<;>first|exact .inr ⟨h1,h2⟩|exact .inl h1)|(rw [if_pos (show (0:Int)≤w by omega)];split<;>omega)
        · have cr:=z545 ac (by omega) (by omega)
          have cc:=z328 (rvs ac) (by rw [z381];omega)
          have el:=z381 ac
          rw [← rvs_eq]
          generalize rvs ac=D at *
          rw [el] at cc ⊢
          repeat' ((first|(apply y76 ok;rfl)|((first|(apply z147 [1] [] cr;rfl;(focus ((repeat' first|exact z55|apply z71)<;>(refine z82 rfl ?_;((exact z4 fun _=>rfl))))))|(apply z147 [1] [] cc;rfl;(focus ((repeat' first|exact z55|apply z71)<;>(refine z82 rfl ?_;((exact z4 fun _=>rfl)))))));rfl;(focus ((repeat' first|exact z15|apply z14)<;>(refine z21 ?_;((exact z4 fun _=>rfl)))))))<;>conv=>whnf)
          all_goals (refine rsD [1] [] rfl ?_;(repeat' first|exact y78 _|exact z9 _|refine z10 rfl (z4 (fun _=>rfl)) ?_|constructor))
    · have hG:=(y64 _).mp hG
      rw [hG] at cf
      have hno2:∀ k (_:k < i+1) (h:k < (srS rows ini (i+1)).1.length),G ((srS rows ini (i+1)).1[k])=false:=by
        obtain ⟨t,ht⟩:=z579 (rows:=rows) (ini:=ini) (show i≤i+1 by omega)
        intro k hk h
        have hki:k < (srS rows ini i).1.length:=by omega
        have e:(srS rows ini (i+1)).1[k]=(srS rows ini i).1[k]:=by
          simp only [ht,List.getElem_append_left hki]
        rw [e]
        by_cases hk3:k < i
        · exact hno k hk3 hki
        · obtain rfl:k=i:=by omega
          exact hG
      have hile:i+1≤rows.length:=by omega
      have hJv:=fun l hl=>PJ.visPs (N:=rows.length) l hJ hi2 rfl hl
      clear hfnd hpre hno
      generalize hS' : srS rows ini (i+1)=S' at *
      generalize hS:srS rows ini i=S at *
      obtain ⟨Q,P⟩:=S
      dsimp only at *
      have hi4:i < Q.length:=hi2
      generalize hxx:Q[i]=x at *
      obtain ⟨u,rfl⟩:∃ u:Nat,x=u:=⟨x.toNat,by omega⟩
      rw [y69] at hnx
      have hu:u < rows.length:=by omega
      have gr:=z467 hu
      have hrow:=z197 hr (u:Int)
      rw [y69] at hrow
      have hrowl:(rows.getD u []).length≤1000000000:=by rw [z20 hu];exact hrl _ (y37 _)
      generalize rows.getD u []=row at *
      repeat' ((first|(apply y76 ok;rfl)|(refine z12 (i:=i) rfl gx ?_)|(refine z12 (i:=u) rfl gr ?_)|(apply y36;omega)|((apply z5)<;>intro _)|(apply z6 (cf);rfl;rfl))<;>conv=>whnf)
      all_goals try (exfalso;omega)
      all_goals
        refine z65 (fun j:Nat=>([(0,lst 1 encL rows),(2,.fn (.func f) [] [.pt c1,.pt c2]),(7,.sref 0 0 rows.length),(9,.sref 1 0 (visPs (u:Int) (Q,P) (row.take j)).1.length),(12,.int i),(76,ints row),(77,.int row.length),(78,.int j)],[.cells 1 ((frm rows.length (visPs (u:Int) (Q,P) (row.take j)).1 (visPs (u:Int) (Q,P) (row.take j)).2).map enI),.cells 1 ((visPs (u:Int) (Q,P) (row.take j)).1.map enI)])) (fun j=>j≤row.length) (fun j=>row.length - j) 0 (y46 _) (by refine swR [0,1] [] rfl rfl ?_;(repeat' first|exact y78 _|exact z9 _|refine z10 rfl (z4 (fun _=>rfl)) ?_|constructor)<;>(fail)) ?_
        intro j hj
        obtain ⟨hJj,hij,hxj⟩:=hJv (row.take j) (fun x hx=>hrow x (List.mem_of_mem_take hx))
        have hQjl:(visPs (u:Int) (Q,P) (row.take j)).1.length≤rows.length:=z129 _ _ hJj.nd hJj.inn
        have gxj:((visPs (u:Int) (Q,P) (row.take j)).1.map enI)[i]?=some (enI (u:Int)):=by
          rw [y44,y38 hij,hxj];rfl
        by_cases hj2:j < row.length
        · have gj:(row.map enI)[j]?=some (enI row[j]):=by rw [y44,y38 hj2];rfl
          have hv:=hrow _ (y37 hj2)
          have et:=z372 (u:=(u:Int)) (x:=(Q,P)) hj2
          have hge:=hJj.pre
          generalize hT' : visPs (u:Int) (Q,P) (row.take (j+1))=T' at *
          generalize hT:visPs (u:Int) (Q,P) (row.take j)=T at *
          generalize row[j]=v at *
          obtain ⟨w,rfl⟩:∃ w:Nat,v=w:=⟨v.toNat,by omega⟩
          have hw:w < rows.length:=by omega
          have gw:=z392 T.1 T.2 hw
          have lw:=z391 rows.length T.1 T.2
          have hTl:=hJj.len
          by_cases hm:(w:Int)∈T.1
          · rw [z331 hm] at et
            rw [if_pos hm] at gw
            have hwv : -1≤T.2.getD w 0:=by
              obtain ⟨k,hk,ek⟩:=List.mem_iff_getElem.1 hm
              have h1:=hge k hk
              rw [ek,y69] at h1
              rcases h1 with h1|⟨y,hy,_,h1⟩
              · omega
              · have:=hJj.inn _ (y37 hy);omega
            generalize T.2.getD w 0=pv at *
            repeat' ((first|(apply y76 ok;rfl)|(refine z12 (i:=j) rfl gj ?_)|(refine z12 (i:=w) rfl gw ?_)|(apply y36;first|omega|(unfold inI;omega))|(((apply z8;omega));intro _)|((apply z5)<;>intro _))<;>conv=>whnf)
            all_goals try (exfalso;omega)
            all_goals refine z23 (j+1) hj2 (by omega) ?_
            all_goals dsimp only
            all_goals rw [hT',et]
            all_goals exact (by refine swR [0,1] [] rfl rfl ?_;(repeat' first|exact y78 _|exact z9 _|refine z10 rfl (z4 (fun _=>rfl)) ?_|constructor))
          · rw [z332 hm,y69] at et
            rw [if_neg hm] at gw
            have e1:=z439 (Q:=T.1) (u:=(u:Int)) hw hTl
            repeat' ((first|(apply y76 ok;rfl)|(refine z12 (i:=j) rfl gj ?_)|(refine z12 (i:=w) rfl gw ?_)|(refine z12 (i:=i) rfl gxj ?_)|(apply y36;first|omega|(unfold inI;omega)|((try dsimp only);simp only [y42,y41,y40,y39,y51,y52];omega)|exact ⟨rfl,z18 rfl z25⟩)|((apply z5)<;>intro _))<;>conv=>whnf)
            all_goals try (exfalso;omega)
            all_goals refine z23 (j+1) hj2 (by omega) ?_
            all_goals dsimp only
            all_goals rw [hT',et]
            all_goals dsimp only
            all_goals exact (by refine swR [0,3] [] rfl rfl ?_;(repeat' first|exact y78 _|(refine z34 ?_;((simp;done)))|((first|refine z27 rfl ?_ ?_|refine z41 rfl ?_ ?_);(focus ((repeat' (first|exact z4 (fun _=>rfl)|apply z17));done)))|(refine z69 ?_ ?_;(focus (omega)))|constructor)<;>((refine z26 ?_;exact e1)))
        obtain rfl:j=row.length:=by omega
        rw [y49,← hnx] at *
        repeat' ((first|(apply y76 ok;rfl)|(apply y36;first|omega|(unfold inI;omega))|((first|(with_reducible apply z8;omega)|(apply z8;omega));intro _)|((apply z5)<;>intro _))<;>conv=>whnf)
        all_goals try (exfalso;omega)
        all_goals refine z23 (i+1) ⟨hile,by rw [hS'];exact hno2⟩ (by omega) ?_
        all_goals dsimp only
        all_goals rw [hS']
        all_goals exact (by refine swR [0,1] [] rfl rfl ?_;(repeat' first|exact y78 _|exact z9 _|refine z10 rfl (z4 (fun _=>rfl)) ?_|constructor))
  · rw [z824 (G:=G) (by omega) hi1 (fun k hk=>hno k (by omega) hk)]
    repeat' ((first|(apply y76 ok;rfl)|(apply y36;omega)|(((apply z8;omega));intro _)|((apply z5)<;>intro _))<;>conv=>whnf)
    all_goals try (exfalso;omega)
    all_goals (refine y81 1 ?_;refine rsD [2] [] rfl ?_;(repeat' first|exact z48|refine z10 rfl (z32) ?_|constructor))
theorem z1022 (v x:Int):CallsA Tryz.prog 142 [.int x,.pt [.int v]] [] (.bool (decide (x=v))) []:=by
 refine z7 z16 Tryz.func142 rfl rfl 7 Tryz.ntmps142 (by simp) ?_
 repeat' (((apply y76 ok;rfl))<;>conv=>whnf)
 all_goals (refine rsD [] [] rfl ?_;(repeat' first|exact y78 _|constructor))
theorem z934 (rows:List (List Int)) (hrl:∀ r∈rows,r.length≤1000000000) (v x:Int) (hx:0≤x∧x < rows.length):CallsA Tryz.prog 208 [.int x,.pt [.int v],.pt [lst 1 encL rows]] [] (.bool (decide (x≠v) && decide (v∈rows.getD x.toNat []))) []:=by
 obtain ⟨u,rfl⟩:∃ u:Nat,x=u:=⟨x.toNat,by omega⟩
 rw [y69]
 have hu:u < rows.length:=by omega
 have gr:=z467 hu
 have hrow:(rows.getD u []).length≤1000000000:=by rw [z20 hu];exact hrl _ (y37 _)
 have cct:=z163 (rows.getD u []) (by unfold maxLen;omega) v
 generalize rows.getD u []=row at *
 refine z7 z16 Tryz.func208 rfl rfl 16 Tryz.ntmps208 (by simp) ?_
 by_cases h:(u:Int)=v
 ·rw [y74 (by simp [h]),Bool.false_and]
  repeat' ((first|(apply y76 ok;rfl)|(apply z31;kernel_rfl)|(refine z12 (i:=u) rfl gr ?_)|(apply y36;omega)|((apply z40)<;>intro _)|(apply z6 (cct);rfl;rfl))<;>conv=>whnf)
  all_goals try (exfalso;omega)
  all_goals (refine rsD [] [] rfl ?_;(repeat' first|exact y78 _|constructor))
 ·rw [y73 h,Bool.true_and]
  repeat' ((first|(apply y76 ok;rfl)|(apply z31;kernel_rfl)|(refine z12 (i:=u) rfl gr ?_)|(apply y36;omega)|((apply z40)<;>intro _)|(apply z6 (cct);rfl;rfl))<;>conv=>whnf)
  all_goals try (exfalso;omega)
  all_goals (refine rsD [] [] rfl ?_;(repeat' first|exact y78 _|constructor))
set_option maxHeartbeats 3200000 in
theorem z933 (rows : List (List Int)) (v : Int) (hr : ∀ r ∈ rows, InN rows.length r) (hv : 0 ≤ v ∧ v < rows.length) (hN : rows.length ≤ 100000) (hrl : ∀ r ∈ rows, r.length ≤ 1000000000) :
    CallsA Tryz.prog 143 [lst 1 encL rows,.int v] [] (.sref 0 0 (aroL rows v).length) [.cells 1 ((aroL rows v).map enI)]:=by
  obtain ⟨u,rfl⟩:∃ u:Nat,v=u:=⟨v.toNat,by omega⟩
  have hu:u < rows.length:=by omega
  have gr:=z467 hu
  have hrow:(rows.getD u []).length≤1000000000:=by rw [z20 hu];exact hrl _ (y37 _)
  have cct:=z163 (rows.getD u []) (by unfold maxLen;omega) (u:Int)
  have csh:=z585 rows [(u:Int)] hr (z314 hv) (by simp) hN hrl (fun n=>decide (n≠(u:Int)) && decide ((u:Int)∈rows.getD n.toNat [])) 208 [.int (u:Int)] [lst 1 encL rows] (fun x h0 h1=>z934 rows hrl u x ⟨h0,h1⟩)
  unfold aroL
  rw [y69]
  by_cases h:(u:Int)∈rows.getD u []
  · rw [if_pos h]
    rw [y73 h] at cct
    generalize rows.getD u []=row at *
    refine z7 z16 Tryz.func143 rfl rfl 18 Tryz.ntmps143 (by simp) ?_
    repeat' ((first|(apply y76 ok;rfl)|(apply z31;kernel_rfl)|(refine z12 (i:=u) rfl gr ?_)|(apply y36;omega)|(apply z6 (cct);rfl;rfl))<;>conv=>whnf)
    all_goals (refine rsD [2] [] rfl ?_;(repeat' first|exact y78 _|apply y79|constructor))
  · rw [if_neg h]
    rw [y74 h] at cct
    generalize shL rows [(u:Int)] (fun n=>decide (n≠(u:Int)) && decide ((u:Int)∈rows.getD n.toNat []))=D at *
    generalize rows.getD u []=row at *
    refine z7 z16 Tryz.func143 rfl rfl 18 Tryz.ntmps143 (by simp) ?_
    repeat' ((first|(apply y76 ok;rfl)|(apply z31;kernel_rfl)|(refine z12 (i:=u) rfl gr ?_)|(apply y36;omega)|(apply z6 (cct);rfl;rfl)|(apply z99 [] [0,1,2] [3] csh;(focus ((repeat' first|exact z78|apply z54)<;>rfl));rfl;rfl;(focus ((repeat' first|exact z15|apply z14)<;>(refine z21 ?_;((exact z4 fun _=>rfl)))));((refine .inr ⟨rfl,?_⟩;repeat' first|exact True.intro|apply y36|exact z185 (fun _=>rfl) _))))<;>conv=>whnf)
    all_goals (refine rsD [3] [] rfl ?_;(repeat' first|exact y78 _|exact z9 _|refine z10 rfl (z4 (fun _=>rfl)) ?_|constructor))
noncomputable def lasR (rows:List (List Int)) (ini:List Int) (G:Int→Bool):List Int×List Int:=(lasL rows ini G).getD ([],[])
set_option maxHeartbeats 6400000 in
theorem z1021 (rows : List (List Int)) (ini : List Int) (hr : ∀ r ∈ rows, InN rows.length r) (hi : InN rows.length ini) (hn : ini.Nodup) (hN : rows.length ≤ 100000) (hrl : ∀ r ∈ rows, r.length ≤ 1000000000) (G : Int → Bool) (f : FuncId) (c1 c2 : List AC) (hf : ∀ x : Int, 0 ≤ x → x < rows.length → CallsA Tryz.prog f [.int x, .pt c1, .pt c2] [] (.bool (G x)) []) :
    CallsA Tryz.prog 69 [lst 1 encL rows,ints ini,.fn (.func f) [] [.pt c1,.pt c2]] [] (.tup [.sref 0 0 ((lasR rows ini G).1.take ((lasR rows ini G).1.length - 1)).length,.sref 1 0 (lasR rows ini G).2.length,.bool (lasL rows ini G).isSome]) [.cells 1 (((lasR rows ini G).1.take ((lasR rows ini G).1.length - 1)).map enI),.cells 1 ((lasR rows ini G).2.map enI)]:=by
  have hil:ini.length≤100000:=by have:=z129 rows.length ini hn hi;omega
  have cC:=z920 rows hr hN hrl
  have cO:=z671 rows ini hr hi hN hrl (by omega)
  have hQi:=z368 hr hi rows.length
  have hQl:=z398 hr hi rows.length
  have hcl:=cycB_len rows
  have hcg:∀ i,i < rows.length→((cycB rows).map enB)[i]?=some (enB (cycD rows i)):=fun i h=>z1053 (cycD rows) h
  have hto:=fun v hv=>shL_to (rows:=rows) (ini:=ini) hn (v:=v) hv
  have hrR:∀ k,k < (bfsL rows ini).length→(G ((bfsL rows ini).getD k 0) && cycD rows ((bfsL rows ini).getD k 0).toNat)=true→(∀ j,j < k→(G ((bfsL rows ini).getD j 0) && cycD rows ((bfsL rows ini).getD j 0).toNat)=false)→lasL rows ini G=some (bkw (srP rows ini) rows.length ((bfsL rows ini).getD k 0) [],cycL rows ((bfsL rows ini).getD k 0)):=fun k hk h1 h2=>by
    unfold lasL
    have:(bfsL rows ini).find? (fun v=>G v && cycD rows v.toNat)=some ((bfsL rows ini).getD k 0):=by
      rw [z20 hk] at h1 ⊢
      rw [List.find?_eq_some_iff_getElem]
      refine ⟨h1,k,hk,rfl,fun j hj=>?_⟩
      have:=h2 j hj
      rw [z20 (by omega)] at this
      rw [this];rfl
    rw [this];rfl
  have hrN:(∀ j,j < (bfsL rows ini).length→(G ((bfsL rows ini).getD j 0) && cycD rows ((bfsL rows ini).getD j 0).toNat)=false)→lasL rows ini G=none:=fun h=>by
    unfold lasL
    have:(bfsL rows ini).find? (fun v=>G v && cycD rows v.toNat)=none:=by
      rw [List.find?_eq_none]
      intro x hx
      obtain ⟨j,hj,rfl⟩:=List.mem_iff_getElem.1 hx
      have:=h j hj
      rw [z20 hj] at this
      rw [this];simp
    rw [this];rfl
  unfold lasR
  change (bfsL rows ini).length≤rows.length at hQl
  change InN rows.length (bfsL rows ini) at hQi
  generalize lasL rows ini G=L at *
  generalize cycB rows=C at *
  generalize bfsL rows ini=Q at *
  refine z7 z16 Tryz.func69 rfl rfl 45 Tryz.ntmps69 (by simp) ?_
  repeat' ((first|(apply y76 ok;rfl)|((first|(apply z11 [] [0] cC;rfl;rfl)|(apply z11 [] [1] cO;rfl;rfl));rfl;(focus ((repeat' first|exact z15|apply z14)<;>(refine z21 ?_;((exact z4 fun _=>rfl)))))))<;>conv=>whnf)
  refine z65 (fun i:Nat=>([(0,lst 1 encL rows),(1,ints ini),(2,.fn (.func f) [] [.pt c1,.pt c2]),(9,.sref 0 0 rows.length),(17,.sref 1 0 Q.length),(18,.int Q.length),(19,.int i)],[.cells 1 (C.map enB),.cells 1 (Q.map enI)])) (fun i=>i≤Q.length∧∀ j,j < i→(G (Q.getD j 0) && cycD rows (Q.getD j 0).toNat)=false) (fun i=>Q.length - i) 0 ⟨y46 _,fun j hj=>by omega⟩ (by refine swR [0,1] [] rfl rfl ?_;(repeat' first|exact y78 _|exact z9 _|refine z10 rfl (z4 (fun _=>rfl)) ?_|constructor)) ?_
  rintro i ⟨hi1,hno⟩
  by_cases hi2:i < Q.length
  · have hm:=z355 hi2
    have hx:=hQi _ hm
    have gx:(Q.map enI)[i]?=some (enI (Q.getD i 0)):=by rw [y44,y38 hi2,z20 hi2];rfl
    have cf:=hf _ hx.1 hx.2
    have hsome:=fun h=>hrR i hi2 h hno
    have hnxt:(G (Q.getD i 0) && cycD rows (Q.getD i 0).toNat)=false→∀ j,j < i+1→(G (Q.getD j 0) && cycD rows (Q.getD j 0).toNat)=false:=fun h j hj=>by
      by_cases e:j=i
      · subst e;exact h
      · exact hno j (by omega)
    have hsh:=hto _ hm
    have csh:=z586 rows ini hr hi hn hN hrl (fun n=>decide (n=Q.getD i 0)) 142 [.int (Q.getD i 0)] (fun x _ _=>z1022 (Q.getD i 0) x)
    have car:=z933 rows (Q.getD i 0) hr hx hN hrl
    rw [hsh] at csh
    rw [aroL_eq] at car
    have hb1:=z508 (srP rows ini) rows.length (Q.getD i 0) []
    have hb2:=z509 (srP rows ini) rows.length (Q.getD i 0) []
    have hc2:=z623 rows (Q.getD i 0)
    have gc:=hcg (Q.getD i 0).toNat (by omega)
    rw [y52] at hb2
    clear hsh hrR hrN hto hcg hm hno
    generalize bkw (srP rows ini) rows.length (Q.getD i 0) []=B at *
    generalize cycL rows (Q.getD i 0)=Y at *
    generalize Q.getD i 0=x at *
    obtain ⟨u,rfl⟩:∃ u:Nat,x=u:=⟨x.toNat,by omega⟩
    rw [y69] at *
    by_cases hg:(G (u:Int) && cycD rows u)=true
    · have hL:=hsome hg
      obtain ⟨hg1,hg2⟩:=Bool.and_eq_true_iff.1 hg
      rw [hg1] at cf
      rw [hg2] at gc
      subst hL
      repeat' ((first|(apply y76 ok;rfl)|(apply z31;kernel_rfl)|(refine z12 (i:=i) rfl gx ?_)|(refine z12 (i:=u) rfl gc ?_)|(apply y36;first|omega|(unfold inI;omega))|((apply z5)<;>intro _)|(apply z6 (cf);rfl;rfl)|((first|(apply z99 [] [2] [3] csh;(focus ((repeat' first|exact z78|apply z54)<;>rfl));rfl)|(apply z99 [] [] [4] car;rfl;rfl));rfl;(focus ((repeat' first|exact z15|apply z14)<;>(refine z21 ?_;((exact z4 fun _=>rfl)))));(first|exact .inl rfl|(refine .inr ⟨rfl,?_⟩;repeat' first|exact True.intro|apply y36|exact z185 (fun _=>rfl) _))))<;>conv=>whnf)
      all_goals try (exfalso;omega)
      all_goals
        show RetS _ _ (.tup [.sref 0 0 (B.take (B.length - 1)).length,.sref 1 0 Y.length,.bool true]) [.cells 1 ((B.take (B.length - 1)).map enI),.cells 1 (Y.map enI)] _
        refine Gl.RetS.trunc 3 (B.length - 1) rfl ?_
        conv=>whnf
        (refine rsD [3,4] [] rfl ?_;(repeat' first|exact y78 _|exact z9 _|(refine z34 ?_;((simp;done)))|((refine z10 rfl ?_ ?_);(focus ((repeat' (first|exact z4 (fun _=>rfl)|apply z17));done)))|apply z88|constructor))
      all_goals (refine z26 ?_;rw [List.map_take])
    · have hg:=(y64 _).mp hg
      have hn2:=hnxt hg
      cases hG:G (u:Int)
      · rw [hG] at cf
        repeat' ((first|(apply y76 ok;rfl)|(refine z12 (i:=i) rfl gx ?_)|(apply y36;first|omega|(unfold inI;omega))|((apply z5)<;>intro _)|(apply z6 (cf);rfl;rfl))<;>conv=>whnf)
        all_goals try (exfalso;omega)
        all_goals refine z23 (i+1) ⟨hi2,hn2⟩ (by omega) (by refine swR [0,1] [] rfl rfl ?_;(repeat' first|exact y78 _|exact z9 _|refine z10 rfl (z4 (fun _=>rfl)) ?_|constructor))
      · rw [hG] at cf
        rw [hG,Bool.true_and] at hg
        rw [hg] at gc
        repeat' ((first|(apply y76 ok;rfl)|(refine z12 (i:=i) rfl gx ?_)|(refine z12 (i:=u) rfl gc ?_)|(apply y36;first|omega|(unfold inI;omega))|((apply z5)<;>intro _)|(apply z6 (cf);rfl;rfl))<;>conv=>whnf)
        all_goals try (exfalso;omega)
        all_goals refine z23 (i+1) ⟨hi2,hn2⟩ (by omega) (by refine swR [0,1] [] rfl rfl ?_;(repeat' first|exact y78 _|exact z9 _|refine z10 rfl (z4 (fun _=>rfl)) ?_|constructor))
  · have hL:=hrN fun j hj=>hno j (by omega)
    subst hL
    repeat' ((first|(apply y76 ok;rfl)|(apply y36;omega)|(((apply z8;omega));intro _)|((apply z5)<;>intro _))<;>conv=>whnf)
    all_goals try (exfalso;omega)
    all_goals show RetS _ _ (.tup [.sref 0 0 0,.sref 1 0 0,.bool false]) [.cells 1 [],.cells 1 []] _
    all_goals (refine y81 1 ?_;refine y81 1 ?_;refine rsD [2,3] [] rfl ?_;(repeat' first|exact y78 _|exact z48|refine z10 rfl (z32) ?_|apply z88|constructor))
end Go.Proofs.YtahhobgjcfionaaGreat
namespace Go.Proofs.YtahhobgjcfionaaGreat
open Go.Gl
attribute [local irreducible] z19 AWP z36 z44 z39
structure Trace where
 stem:List Int
 loop:List Int
deriving DecidableEq
def Trace.cs (t:Trace):List AC:=[ints t.stem,ints t.loop]
def Trace.all (t:Trace):List Int:=t.stem++t.loop
end Go.Proofs.YtahhobgjcfionaaGreat
namespace Go.Proofs.YtahhobgjcfionaaGreat
open Go.Gl
attribute [local irreducible] z19 AWP z36 z44 z39 RetS z47
def iniF (z:List (Bool×Bool)):Nat→List Int
 |0=>[]
 |k+1=>iniF z k++(if (z.getD k (false,false)).2=true then [(k:Int)] else [])
theorem z294 (z:List (Bool×Bool)):∀ k,(iniF z k).length≤k
 |0=>y45 _
 |k+1=>by
  have:=z294 z k
  rw [iniF,y40]
  split
  ·simp;omega
  ·simp;omega
def z104 (z:List (Bool×Bool)) (n k:Nat):List Bool:=(z.take k).map (·.1)++List.replicate (n - k) false
theorem z501 {z:List (Bool×Bool)} {n k:Nat} (h:k < z.length) (hn:k < n) {a:Bool} (ha:z[k].1=a):(z104 z n k).set k a=z104 z n (k+1):=by
 subst ha
 unfold z104
 rw [show n - k=(n - (k+1))+1 by omega,List.replicate_succ,List.set_append_right _ _ (by simp;omega)]
 simp only [y42,y41]
 rw [show k - min k z.length=0 by omega,List.set_cons_zero,y43 h,y56]
 simp
theorem z226 {z:List (Bool×Bool)} {n k:Nat} (h:k≤z.length) (hn:k≤n):(z104 z n k).length=n:=by
 unfold z104;simp;omega
def z1038 (bs:List Int) (i:Nat) (q:Int) (z:Bool×Bool) (q' : Int):Prop:=∃ a:Int,CallsA Tryz.prog 92 [.ptr 0 none 0,.int 3] [rdO bs q] (.int a) [rdO bs (q+1)]∧z.1=decide (a=0) ∧
  ((i=0∧∃ b:Int,CallsA Tryz.prog 92 [.ptr 0 none 0,.int 12] [rdO bs (q+1)] (.int b) [rdO bs (q+1+1)]∧((0 < b∧z.2=true∧q'=q+1+1)∨(¬ 0 < b∧∃ c:Int,CallsA Tryz.prog 92 [.ptr 0 none 0,.int 5] [rdO bs (q+1+1)] (.int c) [rdO bs (q+1+1+1)]∧z.2=decide (c=0)∧q'=q+1+1+1))) ∨
   (i≠0∧∃ c:Int,CallsA Tryz.prog 92 [.ptr 0 none 0,.int 5] [rdO bs (q+1)] (.int c) [rdO bs (q+1+1)]∧z.2=decide (c=0)∧q'=q+1+1))
theorem z1037 (bs:List Int) (hb:BytesOk bs) (i:Nat) (q:Int) (hq:0≤q∧q≤999990000):∃ z q',z1038 bs i q z q'∧q≤q'∧q'≤q+3:=by
 obtain ⟨a,_,ca⟩:=z60 bs hb q 3 (by omega) (by omega) (by omega)
 by_cases h:i=0
 ·obtain ⟨b,_,cb⟩:=z60 bs hb (q+1) 12 (by omega) (by omega) (by omega)
  by_cases h0:0 < b
  ·exact ⟨(decide (a=0),true),q+1+1,⟨a,ca,rfl,.inl ⟨h,b,cb,.inl ⟨h0,rfl,rfl⟩⟩⟩,by omega,by omega⟩
  ·obtain ⟨c,_,cc⟩:=z60 bs hb (q+1+1) 5 (by omega) (by omega) (by omega)
   exact ⟨(decide (a=0),decide (c=0)),q+1+1+1,⟨a,ca,rfl,.inl ⟨h,b,cb,.inr ⟨h0,c,cc,rfl,rfl⟩⟩⟩,by omega,by omega⟩
 ·obtain ⟨c,_,cc⟩:=z60 bs hb (q+1) 5 (by omega) (by omega) (by omega)
  exact ⟨(decide (a=0),decide (c=0)),q+1+1,⟨a,ca,rfl,.inr ⟨h,c,cc,rfl,rfl⟩⟩,by omega,by omega⟩
def isEdge (bs:List Int) (n:Nat) (q:Int) (e:Trans) (q' : Int):Prop:=∃ a w:Int,(0≤w∧w≤7)∧(0≤e.care∧e.care≤7)∧e.src=a∧e.val=((w.toNat &&& e.care.toNat:Nat):Int)∧q'=q+1+1+1+1 ∧
 CallsA Tryz.prog 133 [.ptr 0 none 0,.sref 1 0 5] [rdO bs q,.cells 1 ([1,3,0,2,7].map enI)] (.int e.care) [rdO bs (q+1),.cells 1 ([1,3,0,2,7].map enI)] ∧
 CallsA Tryz.prog 92 [.ptr 0 none 0,.int n] [rdO bs (q+1)] (.int a) [rdO bs (q+1+1)] ∧
 CallsA Tryz.prog 92 [.ptr 0 none 0,.int 8] [rdO bs (q+1+1)] (.int w) [rdO bs (q+1+1+1)] ∧
 CallsA Tryz.prog 92 [.ptr 0 none 0,.int n] [rdO bs (q+1+1+1)] (.int e.dst) [rdO bs (q+1+1+1+1)]
structure AutD (bs:List Int) (q q' : Int) (n m:Nat) (z:List (Bool×Bool)) (E:List Trans) (pf pg:Nat→Int):Prop where
 num:CallsA Tryz.prog 133 [.ptr 0 none 0,.sref 1 0 5] [rdO bs q,.cells 1 ([3,2,4,1,5].map enI)] (.int n) [rdO bs (pf 0),.cells 1 ([3,2,4,1,5].map enI)]
 n1:1≤n
 n5:n≤5
 zl:z.length=n
 node:∀ k (h:k < z.length),z1038 bs k (pf k) z[k] (pf (k+1))
 mid:CallsA Tryz.prog 133 [.ptr 0 none 0,.sref 1 0 5] [rdO bs (pf n),.cells 1 ([6,4,8,3,10].map enI)] (.int m) [rdO bs (pg 0),.cells 1 ([6,4,8,3,10].map enI)]
 m10:m≤10
 el:E.length=m
 edge:∀ k (h:k < E.length),isEdge bs n (pg k) E[k] (pg (k+1))
 last:pg m=q'
 q0:q≤q'
 q1:q'≤q+60
theorem z1085 (bs:List Int) (hb:BytesOk bs) (q:Int) (hq:0≤q∧q≤999980000):∃ q' n m z E pf pg,AutD bs q q' n m z E pf pg:=by
 obtain ⟨w,mw,cw⟩:=z91 bs hb q (by omega) (by omega) [3,2,4,1,5] (by decide) (by decide)
 simp only [List.mem_cons,List.not_mem_nil,or_false] at mw
 obtain ⟨n,rfl⟩:∃ n:Nat,w=n:=⟨w.toNat,by omega⟩
 obtain ⟨z,pf,h1,h2,h3,h4⟩:=z309 (fun k r t r'=>z1038 bs k r t r') (q+1) 3 n (fun k r hk a1 a2=>z1037 bs hb k r ⟨by omega,by omega⟩)
 have h5:=h4 n (y45 _)
 obtain ⟨v,mv,cv⟩:=z91 bs hb (pf n) (by omega) (by omega) [6,4,8,3,10] (by decide) (by decide)
 simp only [List.mem_cons,List.not_mem_nil,or_false] at mv
 obtain ⟨m,rfl⟩:∃ m:Nat,v=m:=⟨v.toNat,by omega⟩
 obtain ⟨E,pg,g1,g2,g3,g4⟩:=z309 (fun _ r t r'=>isEdge bs n r t r') (pf n+1) 4 m (fun k r hk a1 a2=>by
  obtain ⟨c,mc,cc⟩:=z91 bs hb r (by omega) (by omega) [1,3,0,2,7] (by decide) (by decide)
  simp only [List.mem_cons,List.not_mem_nil,or_false] at mc
  obtain ⟨a,_,ca⟩:=z60 bs hb (r+1) n (by omega) (by omega) (by omega)
  obtain ⟨w,_,cw⟩:=z60 bs hb (r+1+1) 8 (by omega) (by omega) (by omega)
  obtain ⟨d,_,cd⟩:=z60 bs hb (r+1+1+1) n (by omega) (by omega) (by omega)
  exact ⟨⟨a,c,((w.toNat &&& c.toNat:Nat):Int),d⟩,r+1+1+1+1,⟨a,w,⟨by omega,by omega⟩,⟨by show 0≤c;omega,by show c≤7;omega⟩,rfl,rfl,rfl,cc,ca,cw,cd⟩,by omega,by omega⟩)
 have g5:=g4 m (y45 _)
 exact ⟨pg m,n,m,z,E,pf,pg,by rw [← h2] at cw;exact cw,by omega,by omega,h1,h3,by rw [g2];exact cv,by omega,g1,g3,rfl,by omega,by omega⟩
set_option maxHeartbeats 6400000 in
theorem z533 (bs : List Int) (hb : BytesOk bs) (p : Int) (hp : few3 p) : ∃ (a : Aut) (p' : Int), (a.ini.length ≤ 32 ∧ a.acc.length ≤ 16 ∧ a.ed.length ≤ 2080 ∧ p ≤ p' ∧ p' ≤ p + 200 ∧ ∀ t ∈ a.ed, t.mx) ∧
  CallsA Tryz.prog 64 [.ptr 0 none 0] [rdO bs p] (.agg [.sref 1 0 a.ini.length,.sref 2 0 a.acc.length,.sref 3 0 a.ed.length]) [rdO bs p',.cells 1 (a.ini.map enI),.cells 1 (a.acc.map enB),.cells 4 (a.ed.map Trans.cs)]:=by
 obtain ⟨v,⟨v0,v1⟩,cv⟩:=z60 bs hb p 3 (by omega) (by omega) (by omega)
 by_cases hv:v=0
 ·subst hv
  obtain ⟨t,q,⟨t1,t2,t3⟩,ct⟩:=z686 bs hb (p+1) ⟨by omega,by omega⟩
  have cT:=z960 t (by omega)
  obtain ⟨b1,b2,b3⟩:=trA_len t (by omega)
  have b4:=trA_val t (by omega)
  rw [y14] at ct cT
  generalize trA t=A0 at *
  generalize tsB t=B0 at *
  by_cases h16:A0.acc.length≤16∧B0=true
  ·obtain ⟨h16,rfl⟩:=h16
   refine ⟨A0,q,⟨by omega,h16,by omega,by omega,by omega,b4⟩,?_⟩
   refine z7 z16 Tryz.func64 rfl rfl 91 Tryz.ntmps64 (by simp) ?_
   repeat' ((first|(apply y76 ok;rfl)|((apply z5)<;>intro _)|((first|(apply z11 [0] [] cv;rfl;rfl)|(apply z11 [0] [] ct;rfl;rfl)|(apply z11 [] [2,3,4] cT;rfl;rfl));rfl;(focus ((repeat' first|exact z15|apply z14)<;>first|exact z46 rfl rfl|(refine z21 ?_;((exact z4 fun _=>rfl)))))))<;>conv=>whnf)
   all_goals try (exfalso;omega)
   all_goals (refine rsD [0,2,3,4] [] rfl ?_;(repeat' first|exact y78 _|exact z9 _|apply y79|refine z10 rfl (z4 (fun _=>rfl)) ?_|constructor))
  ·obtain ⟨q',n,m,z,E,pf,pg,F⟩:=z1085 bs hb q ⟨by omega,by omega⟩
   obtain ⟨Y1,Y2,Y3,Y4,Y5,Y6,Y7,Y8,Y9,Y10,Y11,Y12⟩:=F
   have hil:=z294 z n
   have hEv:∀ t∈E,t.mx:=fun t ht=>by
    obtain ⟨i,hi,rfl⟩:=List.mem_iff_getElem.1 ht
    obtain ⟨a,w,hw,hc,e1,e2,_⟩:=Y9 i hi
    show inI _
    rw [e2]
    have:=@Nat.and_le_left w.toNat E[i].care.toNat
    unfold inI;omega
   refine ⟨⟨iniF z n,z.map (·.1),E⟩,q',⟨by show (iniF z n).length≤32;omega,by show (z.map (·.1)).length≤16;simp;omega,by show E.length≤2080;omega,by omega,by omega,hEv⟩,?_⟩
   cases B0
   ·refine z7 z16 Tryz.func64 rfl rfl 91 Tryz.ntmps64 (by simp) ?_
    repeat' ((first|(apply y76 ok;rfl)|(apply y36;(dsimp only;omega))|((first|(apply z11 [0] [] cv;rfl;rfl)|(apply z11 [0] [] ct;rfl;rfl)|(apply z11 [] [2,3,4] cT;rfl;rfl)|(apply z11 [0,6] [] Y1;rfl;rfl));rfl;(focus ((repeat' first|exact z15|apply z14)<;>first|exact z46 rfl rfl|(refine z21 ?_;((exact z4 fun _=>rfl)))))))<;>conv=>whnf)
    all_goals
     have hz0:(z104 z n 0).map enB=List.replicate n [.bool false]:=by simp [z104,enB]
     refine y77 (y80 1 rfl) ?_
     refine z65 (fun x:Nat×List Bool×List Int=>([(0,.ptr 0 none 0),(2,.ptr 1 none 0),(5,.int n),(6,.ptr 2 none 0),(7,.int x.1)],[rdO bs (pf x.1),.cells 3 [[.nils,.nils,.nils]],.cells 3 [[.sref 4 0 x.2.2.length,.sref 3 0 n,.nils]],.cells 1 (x.2.1.map enB),.cells 1 (x.2.2.map enI)])) (fun x=>x.1≤n∧x.2.1=z104 z n x.1∧x.2.2=iniF z x.1) (fun x=>n - x.1) (0,z104 z n 0,[]) ⟨by show 0≤n;omega,rfl,rfl⟩ (by refine swR [0,1,8,7,9] [] rfl rfl ?_;(repeat' first|exact y78 _|exact z48|apply y79|((refine z10 rfl ?_ ?_);(focus ((repeat' (first|exact z32|exact z64 rfl));done)))|constructor)<;>((exact z26 hz0.symm))) ?_
     rintro ⟨k,A,I⟩ ⟨hk,hA,hI⟩
     dsimp only at hk hA hI ⊢
     have hAl:A.length=n:=by rw [hA];exact z226 (by omega) hk
     have hIl:=z294 z k
     rw [← hI] at hIl
     by_cases hkn:k < n
     ·have hkz:k < z.length:=by omega
      obtain ⟨a,ca,e1,H⟩:=Y5 k hkz
      have hset:=z501 hkz hkn e1
      rw [← hA] at hset
      have hset2:(A.map enB).set k (enB (decide (a=0)))=(z104 z n (k+1)).map enB:=by rw [← hset,List.map_set]
      have hin:iniF z (k+1)=I++(if (z.getD k (false,false)).2=true then [(k:Int)] else []):=by rw [iniF,hI]
      rw [z20 hkz] at hin
      have hA2l:(z104 z n (k+1)).length=n:=z226 (by omega) (by omega)
      generalize z[k]=zk at *
      obtain ⟨z1,z2⟩:=zk
      dsimp only at e1 H hin
      rcases H with ⟨i0,b,cb,(⟨b0,e2,eq⟩|⟨b0,c,cc,e2,eq⟩)⟩|⟨i0,c,cc,e2,eq⟩
      ·rw [← eq] at cb
       subst e2
       rw [if_pos rfl] at hin
       repeat' ((first|(apply y76 ok;rfl)|(apply z31;kernel_rfl)|(apply y36;first|omega|(unfold inI;omega)|(dsimp only;omega)|exact ⟨rfl,z18 rfl z25⟩)|(((apply z8;omega));intro _)|((apply z5)<;>intro _)|((first|(apply z22 [0] [] ca;rfl;rfl)|(apply z22 [0] [] cb;rfl;rfl));rfl))<;>conv=>whnf)
       all_goals try (exfalso;omega)
       all_goals refine z23 (k+1,z104 z n (k+1),I++[(k:Int)]) ⟨by show k+1≤n;omega,rfl,hin.symm⟩ (by show n - (k+1) < n - k;omega) (by refine swR [0,1,2,3,6] [] rfl rfl ?_;(repeat' first|exact y78 _|(refine z34 ?_;((simp;done)))|apply y79|((first|refine z27 rfl ?_ ?_|refine z41 rfl ?_ ?_);(focus ((repeat' (first|exact z4 (fun _=>rfl)|apply z17));done)))|(refine z69 ?_ ?_;(focus (omega)))|constructor)<;>(exact z26 hset2))
      ·rw [← eq] at cc
       by_cases hc0:c=0
       ·rw [e2,if_pos (y73 hc0)] at hin
        repeat' ((first|(apply y76 ok;rfl)|(apply z31;kernel_rfl)|(apply y36;first|omega|(unfold inI;omega)|(dsimp only;omega)|exact ⟨rfl,z18 rfl z25⟩)|(((apply z8;omega));intro _)|((apply z5)<;>intro _)|((first|(apply z22 [0] [] ca;rfl;rfl)|(apply z22 [0] [] cb;rfl;rfl)|(apply z22 [0] [] cc;rfl;rfl));rfl))<;>conv=>whnf)
        all_goals try (exfalso;omega)
        all_goals refine z23 (k+1,z104 z n (k+1),I++[(k:Int)]) ⟨by show k+1≤n;omega,rfl,hin.symm⟩ (by show n - (k+1) < n - k;omega) (by refine swR [0,1,2,3,6] [] rfl rfl ?_;(repeat' first|exact y78 _|(refine z34 ?_;((simp;done)))|apply y79|((first|refine z27 rfl ?_ ?_|refine z41 rfl ?_ ?_);(focus ((repeat' (first|exact z4 (fun _=>rfl)|apply z17));done)))|(refine z69 ?_ ?_;(focus (omega)))|constructor)<;>(exact z26 hset2))
       ·rw [e2,if_neg (by simpa using hc0),y57] at hin
        repeat' ((first|(apply y76 ok;rfl)|(apply z31;kernel_rfl)|(apply y36;first|omega|(unfold inI;omega))|(((apply z8;omega));intro _)|((apply z5)<;>intro _)|((first|(apply z22 [0] [] ca;rfl;rfl)|(apply z22 [0] [] cb;rfl;rfl)|(apply z22 [0] [] cc;rfl;rfl));rfl))<;>conv=>whnf)
        all_goals try (exfalso;omega)
        all_goals refine z23 (k+1,z104 z n (k+1),I) ⟨by show k+1≤n;omega,rfl,hin.symm⟩ (by show n - (k+1) < n - k;omega) (by refine swR [0,1,2,3,4] [] rfl rfl ?_;(repeat' first|exact y78 _|exact z9 _|apply y79|refine z41 rfl (z4 (fun _=>rfl)) ?_|refine z10 rfl (z4 (fun _=>rfl)) ?_|constructor)<;>(exact z26 hset2))
      ·rw [← eq] at cc
       by_cases hc0:c=0
       ·rw [e2,if_pos (y73 hc0)] at hin
        repeat' ((first|(apply y76 ok;rfl)|(apply z31;kernel_rfl)|(apply y36;first|omega|(unfold inI;omega)|((try dsimp only);simp only [y42,y41,y40,y39,y51,y52];omega)|exact ⟨rfl,z18 rfl z25⟩)|(((apply z8;omega));intro _)|((apply z5)<;>intro _)|((first|(apply z22 [0] [] ca;rfl;rfl)|(apply z22 [0] [] cc;rfl;rfl));rfl))<;>conv=>whnf)
        all_goals try (exfalso;omega)
        all_goals refine z23 (k+1,z104 z n (k+1),I++[(k:Int)]) ⟨by show k+1≤n;omega,rfl,hin.symm⟩ (by show n - (k+1) < n - k;omega) (by refine swR [0,1,2,3,6] [] rfl rfl ?_;(repeat' first|exact y78 _|(refine z34 ?_;((simp;done)))|apply y79|((first|refine z27 rfl ?_ ?_|refine z41 rfl ?_ ?_);(focus ((repeat' (first|exact z4 (fun _=>rfl)|apply z17));done)))|(refine z69 ?_ ?_;(focus (omega)))|constructor)<;>(exact z26 hset2))
       ·rw [e2,if_neg (by simpa using hc0),y57] at hin
        repeat' ((first|(apply y76 ok;rfl)|(apply z31;kernel_rfl)|(apply y36;first|omega|(unfold inI;omega))|(((apply z8;omega));intro _)|((apply z5)<;>intro _)|((first|(apply z22 [0] [] ca;rfl;rfl)|(apply z22 [0] [] cc;rfl;rfl));rfl))<;>conv=>whnf)
        all_goals try (exfalso;omega)
        all_goals refine z23 (k+1,z104 z n (k+1),I) ⟨by show k+1≤n;omega,rfl,hin.symm⟩ (by show n - (k+1) < n - k;omega) (by refine swR [0,1,2,3,4] [] rfl rfl ?_;(repeat' first|exact y78 _|exact z9 _|apply y79|refine z41 rfl (z4 (fun _=>rfl)) ?_|refine z10 rfl (z4 (fun _=>rfl)) ?_|constructor)<;>(exact z26 hset2))
     ·have e:n=k:=by omega
      subst e
      have hA2:z.map (·.1)=A:=by
       rw [hA];unfold z104
       rw [Nat.sub_self,y50 (by omega)];simp
      rw [hA2,← hI]
      clear hA hI hz0 Y5 hA2
      repeat' ((first|(apply y76 ok;rfl)|((apply z5)<;>intro _)|(apply z11 [0,5] [] Y6;rfl;rfl;rfl;(focus ((repeat' first|exact z15|apply z14)<;>first|exact z46 rfl rfl|(refine z21 ?_;((exact z4 fun _=>rfl)))))))<;>conv=>whnf)
      all_goals try (exfalso;omega)
      all_goals
       refine y77 (y80 4 rfl) ?_
       refine z65 (fun j:Nat=>([(0,.ptr 0 none 0),(2,.ptr 1 none 0),(5,.int n),(6,.ptr 2 none 0),(8,.int (m - j))],[rdO bs (pg j),.cells 3 [[.nils,.nils,.nils]],.cells 3 [[.sref 4 0 I.length,.sref 3 0 n,.sref 5 0 j]],.cells 1 (A.map enB),.cells 1 (I.map enI),.cells 4 ((E.take j).map Trans.cs)])) (fun j=>j≤m) (fun j=>m - j) 0 (by omega) (by refine swR [0,1,2,3,4,6] [] rfl rfl ?_;(repeat' first|exact y78 _|exact z48|exact z9 _|apply y79|((refine z10 rfl ?_ ?_);(focus ((repeat' (first|exact z32|exact z4 (fun _=>rfl)));done)))|constructor)) ?_
       intro j hj
       by_cases hjm:j < m
       ·have hjl:j < E.length:=by omega
        obtain ⟨a,w,hw,hc,e1,e2,eq,c1,c2,c3,c4⟩:=Y9 j hjl
        rw [← eq] at c4
        rw [← e1] at c2
        have hbits:z153 w E[j].care:=⟨by omega,by omega,by omega,by omega⟩
        repeat' ((first|(apply y76 ok;rfl)|(apply z31;kernel_rfl)|(refine y36 hbits ?_)|(apply y36;first|(unfold inI;omega)|((try dsimp only);simp only [y42,y41,y40,y39,y51,y52];omega)|exact ⟨rfl,z18 rfl z25⟩)|((apply z5)<;>intro _)|((first|(apply z11 [0,6] [] c1;rfl;rfl)|(apply z11 [0] [] c2;rfl;rfl)|(apply z11 [0] [] c3;rfl;rfl)|(apply z11 [0] [] c4;rfl;rfl));rfl;(focus ((repeat' first|exact z15|apply z14)<;>first|exact z46 rfl rfl|(refine z21 ?_;((exact z4 fun _=>rfl)))))))<;>conv=>whnf)
        all_goals try (exfalso;omega)
        all_goals refine z23 (j+1) (by omega) (by omega) (by refine swR [0,1,2,3,4,8] [] rfl rfl ?_;(repeat' first|exact y78 _|exact z9 _|(refine z101 ?_;omega)|apply y79|((first|refine z27 rfl ?_ ?_|refine z10 rfl ?_ ?_);(focus ((repeat' (first|exact z4 (fun _=>rfl)|apply z17));done)))|refine z106 (by omega) (by omega) ?_|constructor)<;>(fail))
       ·have e:m=j:=by omega
        subst e
        repeat' ((first|(apply y76 ok;rfl)|((apply z5)<;>intro _))<;>conv=>whnf)
        all_goals try (exfalso;omega)
        all_goals (refine rsD [0,4,3,5] [] rfl ?_;(repeat' first|exact y78 _|exact z9 _|(refine z101 ?_;omega)|(refine z34 ?_;(omega))|apply y79|refine z10 rfl (z4 (fun _=>rfl)) ?_|apply z42|constructor))
        all_goals exact z26 (by rw [y50 (by omega)])
   ·have h17:¬ A0.acc.length≤16:=fun h=>h16 ⟨h,rfl⟩
    refine z7 z16 Tryz.func64 rfl rfl 91 Tryz.ntmps64 (by simp) ?_
    repeat' ((first|(apply y76 ok;rfl)|(apply y36;(dsimp only;omega))|((apply z5)<;>intro _)|((first|(apply z11 [0] [] cv;rfl;rfl)|(apply z11 [0] [] ct;rfl;rfl)|(apply z11 [] [2,3,4] cT;rfl;rfl)|(apply z11 [0,6] [] Y1;rfl;rfl));rfl;(focus ((repeat' first|exact z15|apply z14)<;>first|exact z46 rfl rfl|(refine z21 ?_;((exact z4 fun _=>rfl)))))))<;>conv=>whnf)
    all_goals try (exfalso;omega)
    all_goals
     have hz0:(z104 z n 0).map enB=List.replicate n [.bool false]:=by simp [z104,enB]
     refine y77 (y80 1 rfl) ?_
     refine z65 (fun x:Nat×List Bool×List Int=>([(0,.ptr 0 none 0),(2,.ptr 1 none 0),(5,.int n),(6,.ptr 2 none 0),(7,.int x.1)],[rdO bs (pf x.1),.cells 3 [[.nils,.nils,.nils]],.cells 3 [[.sref 4 0 x.2.2.length,.sref 3 0 n,.nils]],.cells 1 (x.2.1.map enB),.cells 1 (x.2.2.map enI)])) (fun x=>x.1≤n∧x.2.1=z104 z n x.1∧x.2.2=iniF z x.1) (fun x=>n - x.1) (0,z104 z n 0,[]) ⟨by show 0≤n;omega,rfl,rfl⟩ (by refine swR [0,1,8,7,9] [] rfl rfl ?_;(repeat' first|exact y78 _|exact z48|apply y79|((refine z10 rfl ?_ ?_);(focus ((repeat' (first|exact z32|exact z64 rfl));done)))|constructor)<;>((exact z26 hz0.symm))) ?_
     rintro ⟨k,A,I⟩ ⟨hk,hA,hI⟩
     dsimp only at hk hA hI ⊢
     have hAl:A.length=n:=by rw [hA];exact z226 (by omega) hk
     have hIl:=z294 z k
     rw [← hI] at hIl
     by_cases hkn:k < n
     ·have hkz:k < z.length:=by omega
      obtain ⟨a,ca,e1,H⟩:=Y5 k hkz
      have hset:=z501 hkz hkn e1
      rw [← hA] at hset
      have hset2:(A.map enB).set k (enB (decide (a=0)))=(z104 z n (k+1)).map enB:=by rw [← hset,List.map_set]
      have hin:iniF z (k+1)=I++(if (z.getD k (false,false)).2=true then [(k:Int)] else []):=by rw [iniF,hI]
      rw [z20 hkz] at hin
      have hA2l:(z104 z n (k+1)).length=n:=z226 (by omega) (by omega)
      generalize z[k]=zk at *
      obtain ⟨z1,z2⟩:=zk
      dsimp only at e1 H hin
      rcases H with ⟨i0,b,cb,(⟨b0,e2,eq⟩|⟨b0,c,cc,e2,eq⟩)⟩|⟨i0,c,cc,e2,eq⟩
      ·rw [← eq] at cb
       subst e2
       rw [if_pos rfl] at hin
       repeat' ((first|(apply y76 ok;rfl)|(apply z31;kernel_rfl)|(apply y36;first|omega|(unfold inI;omega)|(dsimp only;omega)|exact ⟨rfl,z18 rfl z25⟩)|(((apply z8;omega));intro _)|((apply z5)<;>intro _)|((first|(apply z22 [0] [] ca;rfl;rfl)|(apply z22 [0] [] cb;rfl;rfl));rfl))<;>conv=>whnf)
       all_goals try (exfalso;omega)
       all_goals refine z23 (k+1,z104 z n (k+1),I++[(k:Int)]) ⟨by show k+1≤n;omega,rfl,hin.symm⟩ (by show n - (k+1) < n - k;omega) (by refine swR [0,1,2,3,6] [] rfl rfl ?_;(repeat' first|exact y78 _|(refine z34 ?_;((simp;done)))|apply y79|((first|refine z27 rfl ?_ ?_|refine z41 rfl ?_ ?_);(focus ((repeat' (first|exact z4 (fun _=>rfl)|apply z17));done)))|(refine z69 ?_ ?_;(focus (omega)))|constructor)<;>(exact z26 hset2))
      ·rw [← eq] at cc
       by_cases hc0:c=0
       ·rw [e2,if_pos (y73 hc0)] at hin
        repeat' ((first|(apply y76 ok;rfl)|(apply z31;kernel_rfl)|(apply y36;first|omega|(unfold inI;omega)|(dsimp only;omega)|exact ⟨rfl,z18 rfl z25⟩)|(((apply z8;omega));intro _)|((apply z5)<;>intro _)|((first|(apply z22 [0] [] ca;rfl;rfl)|(apply z22 [0] [] cb;rfl;rfl)|(apply z22 [0] [] cc;rfl;rfl));rfl))<;>conv=>whnf)
        all_goals try (exfalso;omega)
        all_goals refine z23 (k+1,z104 z n (k+1),I++[(k:Int)]) ⟨by show k+1≤n;omega,rfl,hin.symm⟩ (by show n - (k+1) < n - k;omega) (by refine swR [0,1,2,3,6] [] rfl rfl ?_;(repeat' first|exact y78 _|(refine z34 ?_;((simp;done)))|apply y79|((first|refine z27 rfl ?_ ?_|refine z41 rfl ?_ ?_);(focus ((repeat' (first|exact z4 (fun _=>rfl)|apply z17));done)))|(refine z69 ?_ ?_;(focus (omega)))|constructor)<;>(exact z26 hset2))
       ·rw [e2,if_neg (by simpa using hc0),y57] at hin
        repeat' ((first|(apply y76 ok;rfl)|(apply z31;kernel_rfl)|(apply y36;first|omega|(unfold inI;omega))|(((apply z8;omega));intro _)|((apply z5)<;>intro _)|((first|(apply z22 [0] [] ca;rfl;rfl)|(apply z22 [0] [] cb;rfl;rfl)|(apply z22 [0] [] cc;rfl;rfl));rfl))<;>conv=>whnf)
        all_goals try (exfalso;omega)
        all_goals refine z23 (k+1,z104 z n (k+1),I) ⟨by show k+1≤n;omega,rfl,hin.symm⟩ (by show n - (k+1) < n - k;omega) (by refine swR [0,1,2,3,4] [] rfl rfl ?_;(repeat' first|exact y78 _|exact z9 _|apply y79|refine z41 rfl (z4 (fun _=>rfl)) ?_|refine z10 rfl (z4 (fun _=>rfl)) ?_|constructor)<;>(exact z26 hset2))
      ·rw [← eq] at cc
       by_cases hc0:c=0
       ·rw [e2,if_pos (y73 hc0)] at hin
        repeat' ((first|(apply y76 ok;rfl)|(apply z31;kernel_rfl)|(apply y36;first|omega|(unfold inI;omega)|((try dsimp only);simp only [y42,y41,y40,y39,y51,y52];omega)|exact ⟨rfl,z18 rfl z25⟩)|(((apply z8;omega));intro _)|((apply z5)<;>intro _)|((first|(apply z22 [0] [] ca;rfl;rfl)|(apply z22 [0] [] cc;rfl;rfl));rfl))<;>conv=>whnf)
        all_goals try (exfalso;omega)
        all_goals refine z23 (k+1,z104 z n (k+1),I++[(k:Int)]) ⟨by show k+1≤n;omega,rfl,hin.symm⟩ (by show n - (k+1) < n - k;omega) (by refine swR [0,1,2,3,6] [] rfl rfl ?_;(repeat' first|exact y78 _|(refine z34 ?_;((simp;done)))|apply y79|((first|refine z27 rfl ?_ ?_|refine z41 rfl ?_ ?_);(focus ((repeat' (first|exact z4 (fun _=>rfl)|apply z17));done)))|(refine z69 ?_ ?_;(focus (omega)))|constructor)<;>(exact z26 hset2))
       ·rw [e2,if_neg (by simpa using hc0),y57] at hin
        repeat' ((first|(apply y76 ok;rfl)|(apply z31;kernel_rfl)|(apply y36;first|omega|(unfold inI;omega))|(((apply z8;omega));intro _)|((apply z5)<;>intro _)|((first|(apply z22 [0] [] ca;rfl;rfl)|(apply z22 [0] [] cc;rfl;rfl));rfl))<;>conv=>whnf)
        all_goals try (exfalso;omega)
        all_goals refine z23 (k+1,z104 z n (k+1),I) ⟨by show k+1≤n;omega,rfl,hin.symm⟩ (by show n - (k+1) < n - k;omega) (by refine swR [0,1,2,3,4] [] rfl rfl ?_;(repeat' first|exact y78 _|exact z9 _|apply y79|refine z41 rfl (z4 (fun _=>rfl)) ?_|refine z10 rfl (z4 (fun _=>rfl)) ?_|constructor)<;>(exact z26 hset2))
     ·have e:n=k:=by omega
      subst e
      have hA2:z.map (·.1)=A:=by
       rw [hA];unfold z104
       rw [Nat.sub_self,y50 (by omega)];simp
      rw [hA2,← hI]
      clear hA hI hz0 Y5 hA2
      repeat' ((first|(apply y76 ok;rfl)|((apply z5)<;>intro _)|(apply z11 [0,5] [] Y6;rfl;rfl;rfl;(focus ((repeat' first|exact z15|apply z14)<;>first|exact z46 rfl rfl|(refine z21 ?_;((exact z4 fun _=>rfl)))))))<;>conv=>whnf)
      all_goals try (exfalso;omega)
      all_goals
       refine y77 (y80 4 rfl) ?_
       refine z65 (fun j:Nat=>([(0,.ptr 0 none 0),(2,.ptr 1 none 0),(5,.int n),(6,.ptr 2 none 0),(8,.int (m - j))],[rdO bs (pg j),.cells 3 [[.nils,.nils,.nils]],.cells 3 [[.sref 4 0 I.length,.sref 3 0 n,.sref 5 0 j]],.cells 1 (A.map enB),.cells 1 (I.map enI),.cells 4 ((E.take j).map Trans.cs)])) (fun j=>j≤m) (fun j=>m - j) 0 (by omega) (by refine swR [0,1,2,3,4,6] [] rfl rfl ?_;(repeat' first|exact y78 _|exact z48|exact z9 _|apply y79|((refine z10 rfl ?_ ?_);(focus ((repeat' (first|exact z32|exact z4 (fun _=>rfl)));done)))|constructor)) ?_
       intro j hj
       by_cases hjm:j < m
       ·have hjl:j < E.length:=by omega
        obtain ⟨a,w,hw,hc,e1,e2,eq,c1,c2,c3,c4⟩:=Y9 j hjl
        rw [← eq] at c4
        rw [← e1] at c2
        have hbits:z153 w E[j].care:=⟨by omega,by omega,by omega,by omega⟩
        repeat' ((first|(apply y76 ok;rfl)|(apply z31;kernel_rfl)|(refine y36 hbits ?_)|(apply y36;first|(unfold inI;omega)|((try dsimp only);simp only [y42,y41,y40,y39,y51,y52];omega)|exact ⟨rfl,z18 rfl z25⟩)|((apply z5)<;>intro _)|((first|(apply z11 [0,6] [] c1;rfl;rfl)|(apply z11 [0] [] c2;rfl;rfl)|(apply z11 [0] [] c3;rfl;rfl)|(apply z11 [0] [] c4;rfl;rfl));rfl;(focus ((repeat' first|exact z15|apply z14)<;>first|exact z46 rfl rfl|(refine z21 ?_;((exact z4 fun _=>rfl)))))))<;>conv=>whnf)
        all_goals try (exfalso;omega)
        all_goals refine z23 (j+1) (by omega) (by omega) (by refine swR [0,1,2,3,4,8] [] rfl rfl ?_;(repeat' first|exact y78 _|exact z9 _|(refine z101 ?_;omega)|apply y79|((first|refine z27 rfl ?_ ?_|refine z10 rfl ?_ ?_);(focus ((repeat' (first|exact z4 (fun _=>rfl)|apply z17));done)))|refine z106 (by omega) (by omega) ?_|constructor)<;>(fail))
       ·have e:m=j:=by omega
        subst e
        repeat' ((first|(apply y76 ok;rfl)|((apply z5)<;>intro _))<;>conv=>whnf)
        all_goals try (exfalso;omega)
        all_goals (refine rsD [0,4,3,5] [] rfl ?_;(repeat' first|exact y78 _|exact z9 _|(refine z101 ?_;omega)|(refine z34 ?_;(omega))|apply y79|refine z10 rfl (z4 (fun _=>rfl)) ?_|apply z42|constructor))
        all_goals exact z26 (by rw [y50 (by omega)])
 ·obtain ⟨q',n,m,z,E,pf,pg,F⟩:=z1085 bs hb (p+1) ⟨by omega,by omega⟩
  obtain ⟨Y1,Y2,Y3,Y4,Y5,Y6,Y7,Y8,Y9,Y10,Y11,Y12⟩:=F
  have hil:=z294 z n
  have hEv:∀ t∈E,t.mx:=fun t ht=>by
   obtain ⟨i,hi,rfl⟩:=List.mem_iff_getElem.1 ht
   obtain ⟨a,w,hw,hc,e1,e2,_⟩:=Y9 i hi
   show inI _
   rw [e2]
   have:=@Nat.and_le_left w.toNat E[i].care.toNat
   unfold inI;omega
  refine ⟨⟨iniF z n,z.map (·.1),E⟩,q',⟨by show (iniF z n).length≤32;omega,by show (z.map (·.1)).length≤16;simp;omega,by show E.length≤2080;omega,by omega,by omega,hEv⟩,?_⟩
  refine z7 z16 Tryz.func64 rfl rfl 91 Tryz.ntmps64 (by simp) ?_
  repeat' ((first|(apply y76 ok;rfl)|(apply y36;(dsimp only;omega))|((apply z5)<;>intro _)|((first|(apply z11 [0] [] cv;rfl;rfl)|(apply z11 [0,2] [] Y1;rfl;rfl));rfl;(focus ((repeat' first|exact z15|apply z14)<;>first|exact z46 rfl rfl|(refine z21 ?_;((exact z4 fun _=>rfl)))))))<;>conv=>whnf)
  all_goals try (exfalso;omega)
  all_goals
   have hz0:(z104 z n 0).map enB=List.replicate n [.bool false]:=by simp [z104,enB]
   refine y77 (y80 1 rfl) ?_
   refine z65 (fun x:Nat×List Bool×List Int=>([(0,.ptr 0 none 0),(2,.ptr 1 none 0),(5,.int n),(6,.ptr 2 none 0),(7,.int x.1)],[rdO bs (pf x.1),.cells 3 [[.nils,.nils,.nils]],.cells 3 [[.sref 4 0 x.2.2.length,.sref 3 0 n,.nils]],.cells 1 (x.2.1.map enB),.cells 1 (x.2.2.map enI)])) (fun x=>x.1≤n∧x.2.1=z104 z n x.1∧x.2.2=iniF z x.1) (fun x=>n - x.1) (0,z104 z n 0,[]) ⟨by show 0≤n;omega,rfl,rfl⟩ (by refine swR [0,1,4,3,5] [] rfl rfl ?_;(repeat' first|exact y78 _|exact z48|apply y79|((refine z10 rfl ?_ ?_);(focus ((repeat' (first|exact z32|exact z64 rfl));done)))|constructor)<;>((exact z26 hz0.symm))) ?_
   rintro ⟨k,A,I⟩ ⟨hk,hA,hI⟩
   dsimp only at hk hA hI ⊢
   have hAl:A.length=n:=by rw [hA];exact z226 (by omega) hk
   have hIl:=z294 z k
   rw [← hI] at hIl
   by_cases hkn:k < n
   ·have hkz:k < z.length:=by omega
    obtain ⟨a,ca,e1,H⟩:=Y5 k hkz
    have hset:=z501 hkz hkn e1
    rw [← hA] at hset
    have hset2:(A.map enB).set k (enB (decide (a=0)))=(z104 z n (k+1)).map enB:=by rw [← hset,List.map_set]
    have hin:iniF z (k+1)=I++(if (z.getD k (false,false)).2=true then [(k:Int)] else []):=by rw [iniF,hI]
    rw [z20 hkz] at hin
    have hA2l:(z104 z n (k+1)).length=n:=z226 (by omega) (by omega)
    generalize z[k]=zk at *
    obtain ⟨z1,z2⟩:=zk
    dsimp only at e1 H hin
    rcases H with ⟨i0,b,cb,(⟨b0,e2,eq⟩|⟨b0,c,cc,e2,eq⟩)⟩|⟨i0,c,cc,e2,eq⟩
    ·rw [← eq] at cb
     subst e2
     rw [if_pos rfl] at hin
     repeat' ((first|(apply y76 ok;rfl)|(apply z31;kernel_rfl)|(apply y36;first|omega|(unfold inI;omega)|(dsimp only;omega)|exact ⟨rfl,z18 rfl z25⟩)|(((apply z8;omega));intro _)|((apply z5)<;>intro _)|((first|(apply z22 [0] [] ca;rfl;rfl)|(apply z22 [0] [] cb;rfl;rfl));rfl))<;>conv=>whnf)
     all_goals try (exfalso;omega)
     all_goals refine z23 (k+1,z104 z n (k+1),I++[(k:Int)]) ⟨by show k+1≤n;omega,rfl,hin.symm⟩ (by show n - (k+1) < n - k;omega) (by refine swR [0,1,2,3,6] [] rfl rfl ?_;(repeat' first|exact y78 _|(refine z34 ?_;((simp;done)))|apply y79|((first|refine z27 rfl ?_ ?_|refine z41 rfl ?_ ?_);(focus ((repeat' (first|exact z4 (fun _=>rfl)|apply z17));done)))|(refine z69 ?_ ?_;(focus (omega)))|constructor)<;>(exact z26 hset2))
    ·rw [← eq] at cc
     by_cases hc0:c=0
     ·rw [e2,if_pos (y73 hc0)] at hin
      repeat' ((first|(apply y76 ok;rfl)|(apply z31;kernel_rfl)|(apply y36;first|omega|(unfold inI;omega)|(dsimp only;omega)|exact ⟨rfl,z18 rfl z25⟩)|(((apply z8;omega));intro _)|((apply z5)<;>intro _)|((first|(apply z22 [0] [] ca;rfl;rfl)|(apply z22 [0] [] cb;rfl;rfl)|(apply z22 [0] [] cc;rfl;rfl));rfl))<;>conv=>whnf)
      all_goals try (exfalso;omega)
      all_goals refine z23 (k+1,z104 z n (k+1),I++[(k:Int)]) ⟨by show k+1≤n;omega,rfl,hin.symm⟩ (by show n - (k+1) < n - k;omega) (by refine swR [0,1,2,3,6] [] rfl rfl ?_;(repeat' first|exact y78 _|(refine z34 ?_;((simp;done)))|apply y79|((first|refine z27 rfl ?_ ?_|refine z41 rfl ?_ ?_);(focus ((repeat' (first|exact z4 (fun _=>rfl)|apply z17));done)))|(refine z69 ?_ ?_;(focus (omega)))|constructor)<;>(exact z26 hset2))
     ·rw [e2,if_neg (by simpa using hc0),y57] at hin
      repeat' ((first|(apply y76 ok;rfl)|(apply z31;kernel_rfl)|(apply y36;first|omega|(unfold inI;omega))|(((apply z8;omega));intro _)|((apply z5)<;>intro _)|((first|(apply z22 [0] [] ca;rfl;rfl)|(apply z22 [0] [] cb;rfl;rfl)|(apply z22 [0] [] cc;rfl;rfl));rfl))<;>conv=>whnf)
      all_goals try (exfalso;omega)
      all_goals refine z23 (k+1,z104 z n (k+1),I) ⟨by show k+1≤n;omega,rfl,hin.symm⟩ (by show n - (k+1) < n - k;omega) (by refine swR [0,1,2,3,4] [] rfl rfl ?_;(repeat' first|exact y78 _|exact z9 _|apply y79|refine z41 rfl (z4 (fun _=>rfl)) ?_|refine z10 rfl (z4 (fun _=>rfl)) ?_|constructor)<;>(exact z26 hset2))
    ·rw [← eq] at cc
     by_cases hc0:c=0
     ·rw [e2,if_pos (y73 hc0)] at hin
      repeat' ((first|(apply y76 ok;rfl)|(apply z31;kernel_rfl)|(apply y36;first|omega|(unfold inI;omega)|((try dsimp only);simp only [y42,y41,y40,y39,y51,y52];omega)|exact ⟨rfl,z18 rfl z25⟩)|(((apply z8;omega));intro _)|((apply z5)<;>intro _)|((first|(apply z22 [0] [] ca;rfl;rfl)|(apply z22 [0] [] cc;rfl;rfl));rfl))<;>conv=>whnf)
      all_goals try (exfalso;omega)
      all_goals refine z23 (k+1,z104 z n (k+1),I++[(k:Int)]) ⟨by show k+1≤n;omega,rfl,hin.symm⟩ (by show n - (k+1) < n - k;omega) (by refine swR [0,1,2,3,6] [] rfl rfl ?_;(repeat' first|exact y78 _|(refine z34 ?_;((simp;done)))|apply y79|((first|refine z27 rfl ?_ ?_|refine z41 rfl ?_ ?_);(focus ((repeat' (first|exact z4 (fun _=>rfl)|apply z17));done)))|(refine z69 ?_ ?_;(focus (omega)))|constructor)<;>(exact z26 hset2))
     ·rw [e2,if_neg (by simpa using hc0),y57] at hin
      repeat' ((first|(apply y76 ok;rfl)|(apply z31;kernel_rfl)|(apply y36;first|omega|(unfold inI;omega))|(((apply z8;omega));intro _)|((apply z5)<;>intro _)|((first|(apply z22 [0] [] ca;rfl;rfl)|(apply z22 [0] [] cc;rfl;rfl));rfl))<;>conv=>whnf)
      all_goals try (exfalso;omega)
      all_goals refine z23 (k+1,z104 z n (k+1),I) ⟨by show k+1≤n;omega,rfl,hin.symm⟩ (by show n - (k+1) < n - k;omega) (by refine swR [0,1,2,3,4] [] rfl rfl ?_;(repeat' first|exact y78 _|exact z9 _|apply y79|refine z41 rfl (z4 (fun _=>rfl)) ?_|refine z10 rfl (z4 (fun _=>rfl)) ?_|constructor)<;>(exact z26 hset2))
   ·have e:n=k:=by omega
    subst e
    have hA2:z.map (·.1)=A:=by
     rw [hA];unfold z104
     rw [Nat.sub_self,y50 (by omega)];simp
    rw [hA2,← hI]
    clear hA hI hz0 Y5 hA2
    repeat' ((first|(apply y76 ok;rfl)|((apply z5)<;>intro _)|(apply z11 [0,5] [] Y6;rfl;rfl;rfl;(focus ((repeat' first|exact z15|apply z14)<;>first|exact z46 rfl rfl|(refine z21 ?_;((exact z4 fun _=>rfl)))))))<;>conv=>whnf)
    all_goals try (exfalso;omega)
    all_goals
     refine y77 (y80 4 rfl) ?_
     refine z65 (fun j:Nat=>([(0,.ptr 0 none 0),(2,.ptr 1 none 0),(5,.int n),(6,.ptr 2 none 0),(8,.int (m - j))],[rdO bs (pg j),.cells 3 [[.nils,.nils,.nils]],.cells 3 [[.sref 4 0 I.length,.sref 3 0 n,.sref 5 0 j]],.cells 1 (A.map enB),.cells 1 (I.map enI),.cells 4 ((E.take j).map Trans.cs)])) (fun j=>j≤m) (fun j=>m - j) 0 (by omega) (by refine swR [0,1,2,3,4,6] [] rfl rfl ?_;(repeat' first|exact y78 _|exact z48|exact z9 _|apply y79|((refine z10 rfl ?_ ?_);(focus ((repeat' (first|exact z32|exact z4 (fun _=>rfl)));done)))|constructor)) ?_
     intro j hj
     by_cases hjm:j < m
     ·have hjl:j < E.length:=by omega
      obtain ⟨a,w,hw,hc,e1,e2,eq,c1,c2,c3,c4⟩:=Y9 j hjl
      rw [← eq] at c4
      rw [← e1] at c2
      have hbits:z153 w E[j].care:=⟨by omega,by omega,by omega,by omega⟩
      repeat' ((first|(apply y76 ok;rfl)|(apply z31;kernel_rfl)|(refine y36 hbits ?_)|(apply y36;first|(unfold inI;omega)|((try dsimp only);simp only [y42,y41,y40,y39,y51,y52];omega)|exact ⟨rfl,z18 rfl z25⟩)|((apply z5)<;>intro _)|((first|(apply z11 [0,6] [] c1;rfl;rfl)|(apply z11 [0] [] c2;rfl;rfl)|(apply z11 [0] [] c3;rfl;rfl)|(apply z11 [0] [] c4;rfl;rfl));rfl;(focus ((repeat' first|exact z15|apply z14)<;>first|exact z46 rfl rfl|(refine z21 ?_;((exact z4 fun _=>rfl)))))))<;>conv=>whnf)
      all_goals try (exfalso;omega)
      all_goals refine z23 (j+1) (by omega) (by omega) (by refine swR [0,1,2,3,4,8] [] rfl rfl ?_;(repeat' first|exact y78 _|exact z9 _|(refine z101 ?_;omega)|apply y79|((first|refine z27 rfl ?_ ?_|refine z10 rfl ?_ ?_);(focus ((repeat' (first|exact z4 (fun _=>rfl)|apply z17));done)))|refine z106 (by omega) (by omega) ?_|constructor)<;>(fail))
     ·have e:m=j:=by omega
      subst e
      repeat' ((first|(apply y76 ok;rfl)|((apply z5)<;>intro _))<;>conv=>whnf)
      all_goals try (exfalso;omega)
      all_goals (refine rsD [0,4,3,5] [] rfl ?_;(repeat' first|exact y78 _|exact z9 _|(refine z101 ?_;omega)|(refine z34 ?_;(omega))|apply y79|refine z10 rfl (z4 (fun _=>rfl)) ?_|apply z42|constructor))
      all_goals exact z26 (by rw [y50 (by omega)])
def Aut.sm (a:Aut):Prop:=a.ini.length≤40∧a.acc.length≤20∧a.ed.length≤2100∧∀ t∈a.ed,t.mx
set_option maxHeartbeats 6400000 in
theorem z488 (bs : List Int) (hb : BytesOk bs) (p : Int) (hp : few p) (a : Aut) (ha : a.ini.length ≤ 32 ∧ a.acc.length ≤ 16 ∧ a.ed.length ≤ 2080 ∧ ∀ t ∈ a.ed, t.mx) : ∃ (a' : Aut) (p' : Int), (a'.sm ∧ p ≤ p' ∧ p' ≤ p + 2) ∧
  CallsA Tryz.prog 63 [.ptr 0 none 0,.agg a.cs] [rdO bs p] (.agg [.sref 1 0 a'.ini.length,.sref 2 0 a'.acc.length,.sref 3 0 a'.ed.length]) [rdO bs p',.cells 1 (a'.ini.map enI),.cells 1 (a'.acc.map enB),.cells 4 (a'.ed.map Trans.cs)]:=by
 obtain ⟨h1,h2,h3,h4⟩:=ha
 obtain ⟨v,⟨v0,v1⟩,cv⟩:=z60 bs hb p 40 (by omega) (by omega) (by omega)
 by_cases e0:v=0
 ·subst e0
  obtain ⟨x,mx,cx⟩:=z91 bs hb (p+1) (by omega) (by omega) [0,-1,64,3] (by decide) (by decide)
  refine ⟨⟨a.ini++[x],a.acc,a.ed⟩,p+1+1,⟨⟨by simp;omega,by show a.acc.length≤20;omega,by show a.ed.length≤2100;omega,h4⟩,by omega,by omega⟩,?_⟩
  refine z7 z16 Tryz.func63 rfl rfl 78 Tryz.ntmps63 (by simp) ?_
  repeat' ((first|(apply y76 ok;rfl)|(apply z31;kernel_rfl)|(apply y36;first|(dsimp only;omega)|((try dsimp only);simp only [y42,y41,y40,y39,y51,y52];omega)|exact z84 (fun _=>rfl)|exact ⟨rfl,z18 rfl z25⟩)|((first|(apply z11 [0] [] cv;rfl;rfl)|(apply z11 [0,10] [] cx;rfl;rfl));rfl;(focus ((repeat' first|exact z15|apply z14)<;>first|exact z46 rfl rfl|(refine z21 ?_;((exact z4 fun _=>rfl)))))))<;>conv=>whnf)
  all_goals (refine rsD [0,12,6,8] [] rfl ?_;(repeat' first|exact y78 _|exact z9 _|(refine z34 ?_;((simp;done)))|apply y79|((first|refine z27 rfl ?_ ?_|refine z10 rfl ?_ ?_);(focus ((repeat' (first|exact z4 (fun _=>rfl)|apply z17));done)))|(refine z69 ?_ ?_;(focus (omega)))|apply z42|constructor))
 by_cases e3:v=3
 ·subst e3
  refine ⟨⟨[],[],[]⟩,p+1,⟨⟨y46 _,y46 _,y46 _,fun t ht=>by cases ht⟩,by omega,by omega⟩,?_⟩
  refine z7 z16 Tryz.func63 rfl rfl 78 Tryz.ntmps63 (by simp) ?_
  repeat' ((first|(apply y76 ok;rfl)|(apply z31;kernel_rfl)|(apply y36;first|(dsimp only;omega)|exact z84 (fun _=>rfl))|(apply z22 [0] [] cv;rfl;rfl;rfl))<;>conv=>whnf)
  all_goals (refine y81 1 ?_;refine y81 1 ?_;refine y81 4 ?_;refine rsD [0,10,11,12] [] rfl ?_;(repeat' first|exact y78 _|exact z48|apply y79|refine z10 rfl (z32) ?_|apply z42|constructor))
 by_cases e1:v=1
 ·subst e1
  by_cases he:0 < a.ed.length
  ·obtain ⟨x,mx,cx⟩:=z91 bs hb (p+1) (by omega) (by omega) [8,-1,7] (by decide) (by decide)
   have hi:0 < a.ed.length:=by omega
   have g0:(a.ed.map Trans.cs)[0]?=some (Trans.cs a.ed[0]):=by rw [y44,y38 hi];rfl
   refine ⟨⟨a.ini,a.acc,a.ed.set 0 ⟨a.ed[0].src,a.ed[0].care,x,a.ed[0].dst⟩⟩,p+1+1,⟨⟨by show a.ini.length≤40;omega,by show a.acc.length≤20;omega,by simp;omega,fun t ht=>by
    rcases List.mem_or_eq_of_mem_set ht with h|rfl
    ·exact h4 t h
    ·have:=h4 _ (y37 hi)
     unfold Trans.mx inI at *
     simp only [List.mem_cons,List.not_mem_nil,or_false] at mx
     dsimp only
     omega⟩,by omega,by omega⟩,?_⟩
   generalize a.ed[0]=e at *
   refine z7 z16 Tryz.func63 rfl rfl 78 Tryz.ntmps63 (by simp) ?_
   repeat' ((first|(apply y76 ok;rfl)|(apply z31;kernel_rfl)|(refine z12 (i:=0) (by simp;try omega) g0 ?_)|(apply y36;first|omega|(dsimp only;omega)|exact z84 (fun _=>rfl))|((apply z5)<;>intro _)|((first|(apply z11 [0] [] cv;rfl;rfl)|(apply z11 [0,10] [] cx;rfl;rfl));rfl;(focus ((repeat' first|exact z15|apply z14)<;>first|exact z46 rfl rfl|(refine z21 ?_;((exact z4 fun _=>rfl)))))))<;>conv=>whnf)
   all_goals try (exfalso;omega)
   all_goals (refine rsD [0,4,6,8] [] rfl ?_;(repeat' first|exact y78 _|exact z9 _|(refine z34 ?_;((simp;done)))|apply y79|refine z41 rfl (z4 (fun _=>rfl)) ?_|refine z10 rfl (z4 (fun _=>rfl)) ?_|refine z199 (by omega) ?_|apply z42|constructor))
   all_goals trace_state
  ·refine ⟨a,p+1,⟨⟨by omega,by omega,by omega,h4⟩,by omega,by omega⟩,?_⟩
   refine z7 z16 Tryz.func63 rfl rfl 78 Tryz.ntmps63 (by simp) ?_
   repeat' ((first|(apply y76 ok;rfl)|(apply z31;kernel_rfl)|(apply y36;first|(dsimp only;omega)|exact z84 (fun _=>rfl))|((apply z5)<;>intro _)|(apply z22 [0] [] cv;rfl;rfl;rfl))<;>conv=>whnf)
   all_goals try (exfalso;omega)
   all_goals (refine rsD [0,4,6,8] [] rfl ?_;(repeat' first|exact y78 _|exact z9 _|(refine z34 ?_;(omega))|apply y79|refine z10 rfl (z4 (fun _=>rfl)) ?_|apply z42|constructor))
 by_cases e2:v=2
 ·subst e2
  by_cases he:0 < a.ed.length
  ·obtain ⟨x,mx,cx⟩:=z91 bs hb (p+1) (by omega) (by omega) [-1,0,64,9223372036854775807] (by decide) (by decide)
   have hi:0 < a.ed.length:=by omega
   have g0:(a.ed.map Trans.cs)[0]?=some (Trans.cs a.ed[0]):=by rw [y44,y38 hi];rfl
   refine ⟨⟨a.ini,a.acc,a.ed.set 0 ⟨a.ed[0].src,a.ed[0].care,a.ed[0].val,x⟩⟩,p+1+1,⟨⟨by show a.ini.length≤40;omega,by show a.acc.length≤20;omega,by simp;omega,fun t ht=>by
    rcases List.mem_or_eq_of_mem_set ht with h|rfl
    ·exact h4 t h
    ·have:=h4 _ (y37 hi)
     unfold Trans.mx inI at *
     simp only [List.mem_cons,List.not_mem_nil,or_false] at mx
     dsimp only
     omega⟩,by omega,by omega⟩,?_⟩
   generalize a.ed[0]=e at *
   refine z7 z16 Tryz.func63 rfl rfl 78 Tryz.ntmps63 (by simp) ?_
   repeat' ((first|(apply y76 ok;rfl)|(apply z31;kernel_rfl)|(refine z12 (i:=0) (by simp;try omega) g0 ?_)|(apply y36;first|omega|(dsimp only;omega)|exact z84 (fun _=>rfl))|((apply z5)<;>intro _)|((first|(apply z11 [0] [] cv;rfl;rfl)|(apply z11 [0,10] [] cx;rfl;rfl));rfl;(focus ((repeat' first|exact z15|apply z14)<;>first|exact z46 rfl rfl|(refine z21 ?_;((exact z4 fun _=>rfl)))))))<;>conv=>whnf)
   all_goals try (exfalso;omega)
   all_goals (refine rsD [0,4,6,8] [] rfl ?_;(repeat' first|exact y78 _|exact z9 _|(refine z34 ?_;((simp;done)))|apply y79|refine z41 rfl (z4 (fun _=>rfl)) ?_|refine z10 rfl (z4 (fun _=>rfl)) ?_|refine z199 (by omega) ?_|apply z42|constructor))
   all_goals trace_state
  ·refine ⟨a,p+1,⟨⟨by omega,by omega,by omega,h4⟩,by omega,by omega⟩,?_⟩
   refine z7 z16 Tryz.func63 rfl rfl 78 Tryz.ntmps63 (by simp) ?_
   repeat' ((first|(apply y76 ok;rfl)|(apply z31;kernel_rfl)|(apply y36;first|(dsimp only;omega)|exact z84 (fun _=>rfl))|((apply z5)<;>intro _)|(apply z22 [0] [] cv;rfl;rfl;rfl))<;>conv=>whnf)
   all_goals try (exfalso;omega)
   all_goals (refine rsD [0,4,6,8] [] rfl ?_;(repeat' first|exact y78 _|exact z9 _|(refine z34 ?_;(omega))|apply y79|refine z10 rfl (z4 (fun _=>rfl)) ?_|apply z42|constructor))
 by_cases e4:v=4
 ·subst e4
  by_cases he:0 < a.ed.length
  ·obtain ⟨x,mx,cx⟩:=z91 bs hb (p+1) (by omega) (by omega) [8,-1,0] (by decide) (by decide)
   have hi:(a.ed.length - 1) < a.ed.length:=by omega
   have g0:(a.ed.map Trans.cs)[(a.ed.length - 1)]?=some (Trans.cs a.ed[(a.ed.length - 1)]):=by rw [y44,y38 hi];rfl
   refine ⟨⟨a.ini,a.acc,a.ed.set (a.ed.length - 1) ⟨a.ed[(a.ed.length - 1)].src,x,a.ed[(a.ed.length - 1)].val,a.ed[(a.ed.length - 1)].dst⟩⟩,p+1+1,⟨⟨by show a.ini.length≤40;omega,by show a.acc.length≤20;omega,by simp;omega,fun t ht=>by
    rcases List.mem_or_eq_of_mem_set ht with h|rfl
    ·exact h4 t h
    ·have:=h4 _ (y37 hi)
     unfold Trans.mx inI at *
     simp only [List.mem_cons,List.not_mem_nil,or_false] at mx
     dsimp only
     omega⟩,by omega,by omega⟩,?_⟩
   generalize a.ed[(a.ed.length - 1)]=e at *
   refine z7 z16 Tryz.func63 rfl rfl 78 Tryz.ntmps63 (by simp) ?_
   repeat' ((first|(apply y76 ok;rfl)|(apply z31;kernel_rfl)|(refine z12 (i:=(a.ed.length - 1)) (by simp;try omega) g0 ?_)|(apply y36;first|omega|(unfold inI;omega)|(dsimp only;omega)|exact z84 (fun _=>rfl))|((apply z5)<;>intro _)|((first|(apply z11 [0] [] cv;rfl;rfl)|(apply z11 [0,10] [] cx;rfl;rfl));rfl;(focus ((repeat' first|exact z15|apply z14)<;>first|exact z46 rfl rfl|(refine z21 ?_;((exact z4 fun _=>rfl)))))))<;>conv=>whnf)
   all_goals try (exfalso;omega)
   all_goals (refine rsD [0,4,6,8] [] rfl ?_;(repeat' first|exact y78 _|exact z9 _|(refine z34 ?_;((simp;done)))|apply y79|refine z41 rfl (z4 (fun _=>rfl)) ?_|refine z10 rfl (z4 (fun _=>rfl)) ?_|refine z199 (by omega) ?_|apply z42|constructor))
   all_goals trace_state
  ·refine ⟨a,p+1,⟨⟨by omega,by omega,by omega,h4⟩,by omega,by omega⟩,?_⟩
   refine z7 z16 Tryz.func63 rfl rfl 78 Tryz.ntmps63 (by simp) ?_
   repeat' ((first|(apply y76 ok;rfl)|(apply z31;kernel_rfl)|(apply y36;first|omega|(dsimp only;omega)|exact z84 (fun _=>rfl))|((apply z5)<;>intro _)|(apply z22 [0] [] cv;rfl;rfl;rfl))<;>conv=>whnf)
   all_goals try (exfalso;omega)
   all_goals (refine rsD [0,4,6,8] [] rfl ?_;(repeat' first|exact y78 _|exact z9 _|(refine z34 ?_;(omega))|apply y79|refine z10 rfl (z4 (fun _=>rfl)) ?_|apply z42|constructor))
 refine ⟨a,p+1,⟨⟨by omega,by omega,by omega,h4⟩,by omega,by omega⟩,?_⟩
 refine z7 z16 Tryz.func63 rfl rfl 78 Tryz.ntmps63 (by simp) ?_
 repeat' ((first|(apply y76 ok;rfl)|(apply z31;kernel_rfl)|(apply y36;first|omega|(dsimp only;omega)|exact z84 (fun _=>rfl))|((apply z5)<;>intro _)|(apply z22 [0] [] cv;rfl;rfl;rfl))<;>conv=>whnf)
 all_goals try (exfalso;omega)
 all_goals (refine rsD [0,4,6,8] [] rfl ?_;(repeat' first|exact y78 _|exact z9 _|(refine z34 ?_;(omega))|apply y79|refine z10 rfl (z4 (fun _=>rfl)) ?_|apply z42|constructor))
end Go.Proofs.YtahhobgjcfionaaGreat
