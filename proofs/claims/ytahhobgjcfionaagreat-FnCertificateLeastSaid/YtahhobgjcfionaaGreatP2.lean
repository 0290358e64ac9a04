/- A part of the proofs over this program: T184, T185, T35A, T64, T65, T66, T70, T71, T72, T73, T74, T75. -/
import Derived.Test.YtahhobgjcfionaaGreatG0
import Derived.Test.YtahhobgjcfionaaGreatG1
import Derived.Test.YtahhobgjcfionaaGreatG2
import Derived.Test.YtahhobgjcfionaaGreatG3
import Derived.Test.YtahhobgjcfionaaGreatP0
import Derived.Test.YtahhobgjcfionaaGreatP1
set_option linter.all false
namespace Go.Proofs.YtahhobgjcfionaaGreat
open Go.Gl
attribute [local irreducible] z29 AWP z46 z50 z47 RetS z58
theorem z429 {N w:Nat} (Q P:List Int) (hw:w < N):((frm N Q P).map enI)[w]?=some (enI (if (w:Int)∈Q then P.getD w 0 else -2)):=by
 unfold frm
 rw [y44,y44,List.getElem?_range hw];rfl
theorem z474 {N w:Nat} {Q P:List Int} {u:Int} (hw:w < N) (hP:P.length=N):((frm N Q P).map enI).set w (enI u)=(frm N (Q++[(w:Int)]) (P.set w u)).map enI:=by
 have:=frm_set (N:=N) (Q:=Q) (P:=P) (v:=(w:Int)) (u:=u) ⟨by omega,by omega⟩ hP
 rw [y69] at this
 rw [← this,List.map_set]
set_option maxHeartbeats 12800000 in
theorem z638 (rows : List (List Int)) (ini : List Int) (hr : ∀ r ∈ rows, InN rows.length r) (hi : InN rows.length ini) (hn : ini.Nodup) (hN : rows.length ≤ 100000) (hrl : ∀ r ∈ rows, r.length ≤ 1000000000) (G : Int → Bool) (f : FuncId) (c1 : List AC) (hf : ∀ x : Int, 0 ≤ x → x < rows.length → CallsA Tryz.prog f (.int x :: [.pt c1]) [] (.bool (G x)) []) :
    CallsA Tryz.prog 141 [lst 1 encL rows,ints ini,.fn (.func f) [] [.pt c1]] [] (.sref 0 0 (shL rows ini G).length) [.cells 1 ((shL rows ini G).map enI)]:=by
  have hil:ini.length≤100000:=by have:=z147 rows.length ini hn hi;omega
  refine z7 z15 Tryz.func141 rfl rfl 99 Tryz.ntmps141 (by simp) ?_
  repeat' ((first|(apply y76 ok;rfl)|(apply y36;(dsimp only;omega)))<;>conv=>whnf)
  obtain ⟨qm,hqm⟩:∃ qm:Nat→Nat→Int,qm=fun i j=>if j < i then -2 else 0:=⟨_,rfl⟩
  have q0:qm 0=fun _=>0:=by rw [hqm];rfl
  have qE:(fnL rows.length (qm rows.length)).map enI=(frm rows.length [] (List.replicate rows.length (-1))).map enI:=by
    rw [z1111]
    congr 1
    apply y67 (by simp [fnL])
    intro i h1 h2
    rw [z431,hqm]
    have hi' : i < rows.length:=by rw [z107] at h1;exact h1
    dsimp only
    rw [if_pos hi'];simp
  have qS:∀ i,qm (i+1)=upd (qm i) i (-2):=fun i=>by
    funext j
    by_cases h:j=i
    · subst h;rw [z32,hqm];dsimp only;rw [if_pos (by omega)]
    · rw [z45 _ _ h,hqm];dsimp only;split<;>split<;>first|rfl|omega
  clear hqm
  refine z65 (fun i:Nat=>([(0,lst 1 encL rows),(1,ints ini),(2,.fn (.func f) [] [.pt c1]),(7,.sref 0 0 rows.length),(21,.int rows.length),(22,.int i)],[.cells 1 ((fnL rows.length (qm i)).map enI)])) (fun i=>i≤rows.length) (fun i=>rows.length - i) 0 (y46 _) (by refine swR [0] [] rfl rfl ?_;(repeat' first|exact y78 _|refine z10 rfl (z42 rfl) ?_|constructor)<;>((refine z30 ?_;rw [q0];exact z317 _))) ?_
  intro i hi1
  by_cases hi2:i < rows.length
  · have g1:=z164 (qm i) hi2
    have l1:=z107 rows.length (qm i)
    have e1:=z142 (N:=rows.length) (u:=i) (qm i) (-2)
    rw [← qS] at e1
    repeat' ((first|(apply y76 ok;rfl)|(refine z12 (i:=i) rfl g1 ?_)|(apply y36;first|omega|(unfold inI;omega))|((apply z5)<;>intro _))<;>conv=>whnf)
    all_goals try (exfalso;omega)
    all_goals refine z25 (i+1) hi2 (by omega) (by refine swR [0] [] rfl rfl ?_;(repeat' first|exact y78 _|refine z43 rfl (z4 (fun _=>rfl)) ?_|constructor)<;>((refine z30 ?_;exact e1)))
  obtain rfl:i=rows.length:=by omega
  rw [qE]
  clear qE qS q0
  repeat' ((first|(apply y76 ok;rfl)|(apply y36;omega)|(((apply z8;omega));intro _)|((apply z5)<;>intro _))<;>conv=>whnf)
  all_goals try (exfalso;omega)
  refine y77 (y81 1 rfl) ?_
  have hrep:(List.replicate rows.length (-1:Int)).length=rows.length:=by simp
  have hrs:∀ w,(List.replicate rows.length (-1:Int)).set w (-1)=List.replicate rows.length (-1):=fun w=>by
    apply y67 (by simp)
    intro i h1 h2
    rw [List.getElem_set]
    split<;>simp
  have hS0:(frm rows.length ini (List.replicate rows.length (-1)))=frm rows.length (srS rows ini 0).1 (srS rows ini 0).2:=rfl
  generalize List.replicate rows.length (-1:Int)=P0 at *
  refine z65 (fun k:Nat=>([(0,lst 1 encL rows),(2,.fn (.func f) [] [.pt c1]),(7,.sref 0 0 rows.length),(9,.sref 1 0 (ini.take k).length),(29,ints ini),(30,.int ini.length),(31,.int k)],[.cells 1 ((frm rows.length (ini.take k) P0).map enI),.cells 1 ((ini.take k).map enI)])) (fun k=>k≤ini.length) (fun k=>ini.length - k) 0 (y46 _) (by refine swR [0,1] [] rfl rfl ?_;(repeat' first|exact y78 _|exact z48|exact z9 _|((refine z10 rfl ?_ ?_);(focus ((repeat' (first|exact z34|exact z4 (fun _=>rfl)));done)))|constructor)) ?_
  intro k hk
  by_cases hk2:k < ini.length
  · have gk:(ini.map enI)[k]?=some (enI ini[k]):=by rw [y44,y38 hk2];rfl
    have hv:=hi _ (y37 hk2)
    have et:ini.take (k+1)=ini.take k++[ini[k]]:=y43 hk2
    have htl:(ini.take k).length≤100000:=by rw [y41];omega
    generalize hQ' : ini.take (k+1)=Q' at *
    generalize hQ:ini.take k=Q at *
    generalize ini[k]=v at *
    obtain ⟨w,rfl⟩:∃ w:Nat,v=w:=⟨v.toNat,by omega⟩
    have hw:w < rows.length:=by omega
    have g1:=z429 Q P0 hw
    have l1:=z428 rows.length Q P0
    have e1:=z474 (Q:=Q) (u:=-1) hw hrep
    rw [hrs,← et] at e1
    subst et
    repeat' ((first|(apply y76 ok;rfl)|(refine z12 (i:=k) rfl gk ?_)|(refine z12 (i:=w) rfl g1 ?_)|(apply y36;first|omega|(unfold inI;omega)|((try dsimp only);simp only [y42,y41,y40,y39,y51,y52];omega)|exact ⟨rfl,z19 rfl z26⟩)|((apply z5)<;>intro _))<;>conv=>whnf)
    all_goals try (exfalso;omega)
    all_goals refine z25 (k+1) hk2 (by omega) ?_
    all_goals dsimp only
    all_goals rw [hQ']
    all_goals exact (by refine swR [0,3] [] rfl rfl ?_;(repeat' first|exact y78 _|(refine z38 ?_;((simp;done)))|((first|refine z33 rfl ?_ ?_|refine z43 rfl ?_ ?_);(focus ((repeat' (first|exact z4 (fun _=>rfl)|apply z22));done)))|(refine z76 ?_ ?_;(focus (omega)))|constructor)<;>((refine z30 ?_;exact e1)))
  obtain rfl:k=ini.length:=by omega
  rw [y49,hS0]
  repeat' ((first|(apply y76 ok;rfl)|(apply y36;omega)|((first|(with_reducible apply z8;omega)|(apply z8;omega));intro _)|((apply z5)<;>intro _))<;>conv=>whnf)
  all_goals try (exfalso;omega)
  refine z65 (fun i:Nat=>([(0,lst 1 encL rows),(2,.fn (.func f) [] [.pt c1]),(7,.sref 0 0 rows.length),(9,.sref 1 0 (srS rows ini i).1.length),(12,.int i)],[.cells 1 ((frm rows.length (srS rows ini i).1 (srS rows ini i).2).map enI),.cells 1 ((srS rows ini i).1.map enI)])) (fun i=>i≤rows.length∧∀ k (_:k < i) (h:k < (srS rows ini i).1.length),G ((srS rows ini i).1[k])=false) (fun i=>rows.length+1 - i) 0 ⟨y46 _,fun k h=>by omega⟩ (by refine swR [0,1] [] rfl rfl ?_;(repeat' first|exact y78 _|exact z9 _|refine z10 rfl (z4 (fun _=>rfl)) ?_|constructor)<;>(fail)) ?_
  rintro i ⟨hi1,hno⟩
  have hJ:=z280 hr hi hn i
  have hQl:=z630 hr hi hn i
  by_cases hi2:i < (srS rows ini i).1.length
  · have hx:=hJ.inn _ (y37 hi2)
    have cf:=hf _ hx.1 hx.2
    have gx:((srS rows ini i).1.map enI)[i]?=some (enI (srS rows ini i).1[i]):=by rw [y44,y38 hi2];rfl
    have hnx:srS rows ini (i+1)=visPs (srS rows ini i).1[i] (srS rows ini i) (rows.getD ((srS rows ini i).1[i]).toNat []):=by rw [srS,dif_pos hi2]
    have hfnd:=fun h=>z719 hr hi hn (G:=G) hi2 h (fun k hk=>hno k hk (by omega))
    have hpre:=z356 (srS rows ini i).1[i] (rows.getD ((srS rows ini i).1[i]).toNat []) (srS rows ini i)
    by_cases hG:G (srS rows ini i).1[i]=true
    · rw [hfnd hG,z869,y57]
      have hq0:∃ k,∃ h:k < (srS rows ini i).1.length,(srS rows ini i).1[k]=(srS rows ini i).1[i]∧k≤rows.length:=⟨i,hi2,rfl,hi1⟩
      rw [hG] at cf
      clear hfnd hnx hpre hno
      generalize hS:srS rows ini i=S at *
      obtain ⟨Q,P⟩:=S
      dsimp only at *
      have hi4:i < Q.length:=hi2
      generalize Q[i]=x at *
      repeat' ((first|(apply y76 ok;rfl)|(refine z12 (i:=i) rfl gx ?_)|(apply y36;omega)|((apply z5)<;>intro _)|(apply z6 (cf);rfl;rfl))<;>conv=>whnf)
      all_goals try (exfalso;omega)
      all_goals
        refine y77 (y81 1 rfl) ?_
        have hB1:=z1138 P rows.length x
        generalize hB:chn P rows.length x=B at *
        refine z65 (fun y:Nat×List Int×Int=>([(7,.sref 0 0 rows.length),(13,.int y.2.2),(14,.sref 1 0 y.2.1.length)],[.cells 1 ((frm rows.length Q P).map enI),.cells 1 (y.2.1.map enI)])) (fun y=>y.2.1.length+y.1≤rows.length+1∧((0≤y.2.2∧y.2.1++chn P (y.1 - 1) y.2.2=B∧1≤y.1∧∃ k,∃ h:k < Q.length,Q[k]=y.2.2∧k+1≤y.1)∨(y.2.2=-1∧y.2.1=B))) (fun y=>y.1+(if 0≤y.2.2 then 1 else 0)) (rows.length+1,[],x) ⟨by simp,.inl ⟨hx.1,by simpa using hB,by omega,by obtain ⟨k,h,h1,h2⟩:=hq0;exact ⟨k,h,h1,by omega⟩⟩⟩ (by refine swR [0,2] [] rfl rfl ?_;(repeat' first|exact y78 _|exact z48|exact z9 _|((refine z10 rfl ?_ ?_);(focus ((repeat' (first|exact z34|exact z4 (fun _=>rfl)));done)))|constructor)) ?_
        rintro ⟨fu,ac,u⟩ ⟨q1,q2⟩
        dsimp only at q1 q2 ⊢
        rcases q2 with ⟨q2,q3,q4,k,hk,q5,q6⟩|⟨rfl,rfl⟩
        · have huN:=hJ.inn u (q5 ▸ y37 hk)
          obtain ⟨w,rfl⟩:∃ w:Nat,u=w:=⟨u.toNat,by omega⟩
          have hw:w < rows.length:=by omega
          have gw:=z429 Q P hw
          rw [if_pos (q5 ▸ y37 hk)] at gw
          have lw:=z428 rows.length Q P
          have hp:=hJ.pre k hk
          rw [q5,y69] at hp
          dsimp only at hp
          obtain ⟨fu,rfl⟩:∃ m,fu=m+1:=⟨fu - 1,by omega⟩
          rw [Nat.add_sub_cancel] at q3
          have hnext:P.getD w 0=-1∧ac++[(w:Int)]=B∨(0≤P.getD w 0∧(ac++[(w:Int)])++chn P (fu - 1) (P.getD w 0)=B∧1≤fu∧∃ k,∃ h:k < Q.length,Q[k]=P.getD w 0∧k+1≤fu):=by
            rcases hp with hp|⟨j,hj,hjk,hp⟩
            · left
              refine ⟨hp,?_⟩
              rw [← q3]
              cases fu with
              | zero=>rfl
              | succ fu =>
                rw [chn,y69,if_neg (by omega)]
            · right
              have:=hJ.inn _ (y37 hj)
              refine ⟨by omega,?_,by omega,j,hj,hp.symm,by omega⟩
              obtain ⟨fu,rfl⟩:∃ m,fu=m+1:=⟨fu - 1,by omega⟩
              rw [chn,y69,if_pos (by omega)] at q3
              rw [← q3]
              simp
          have hvb : -1≤P.getD w 0∧P.getD w 0 < rows.length:=by
            rcases hnext with ⟨h,_⟩|⟨h,_,_,j,hj,hp2,_⟩
            · omega
            · have:=hJ.inn _ (y37 hj)
              omega
          clear hp
          generalize P.getD w 0=v at *
          repeat' ((first|(apply y76 ok;rfl)|(refine z12 (i:=w) rfl gw ?_)|(apply y36;first|omega|((try dsimp only);simp only [y42,y41,y40,y39,y51,y52];omega)|exact ⟨rfl,z19 rfl z26⟩))<;>conv=>whnf)
          all_goals refine z25 (fu,ac++[(w:Int)],v) ⟨by simp only [y40,List.length_singleton];omega,?_⟩ ?_ (by refine swR [0,3] [] rfl rfl ?_;(repeat' first|exact y78 _|exact z9 _|(refine z38 ?_;((simp;done)))|((first|refine z33 rfl ?_ ?_|refine z10 rfl ?_ ?_);(focus ((repeat' (first|exact z4 (fun _=>rfl)|apply z22));done)))|(refine z76 ?_ ?_;(focus (omega)))|constructor))
          all_goals dsimp only
          all_goals first|(rcases hnext with ⟨h1,h2⟩|h1<;>first|exact .inr ⟨h1,h2⟩|exact .inl h1)|(rw [if_pos (show (0:Int)≤w by omega)];split<;>omega)
        · have cr:=z585 ac (by omega) (by omega)
          have cc:=z353 (rvs ac) (by rw [z412];omega)
          have el:=z412 ac
          rw [← rvs_eq]
          generalize rvs ac=D at *
          rw [el] at cc ⊢
          repeat' ((first|(apply y76 ok;rfl)|((first|(apply z159 [1] [] cr;rfl;(focus ((repeat' first|exact z59|apply z66)<;>(refine z80 rfl ?_;((exact z4 fun _=>rfl))))))|(apply z159 [1] [] cc;rfl;(focus ((repeat' first|exact z59|apply z66)<;>(refine z80 rfl ?_;((exact z4 fun _=>rfl)))))));rfl;(focus ((repeat' first|exact z17|apply z16)<;>(refine z23 ?_;((exact z4 fun _=>rfl)))))))<;>conv=>whnf)
          all_goals (refine rsD [1] [] rfl ?_;(repeat' first|exact y78 _|exact z9 _|refine z10 rfl (z4 (fun _=>rfl)) ?_|constructor))
    · have hG:=(y64 _).mp hG
      rw [hG] at cf
      have hno2:∀ k (_:k < i+1) (h:k < (srS rows ini (i+1)).1.length),G ((srS rows ini (i+1)).1[k])=false:=by
        obtain ⟨t,ht⟩:=z629 (rows:=rows) (ini:=ini) (show i≤i+1 by omega)
        intro k hk h
        have hki:k < (srS rows ini i).1.length:=by omega
        have e:(srS rows ini (i+1)).1[k]=(srS rows ini i).1[k]:=by
          simp only [ht,List.getElem_append_left hki]
        rw [e]
        by_cases hk3:k < i
        · exact hno k hk3 hki
        · obtain rfl:k=i:=by omega
          exact hG
      have hile:i+1≤rows.length:=by omega
      have hJv:=fun l hl=>PJ.visPs (N:=rows.length) l hJ hi2 rfl hl
      clear hfnd hpre hno
      generalize hS' : srS rows ini (i+1)=S' at *
      generalize hS:srS rows ini i=S at *
      obtain ⟨Q,P⟩:=S
      dsimp only at *
      have hi4:i < Q.length:=hi2
      generalize hxx:Q[i]=x at *
      obtain ⟨u,rfl⟩:∃ u:Nat,x=u:=⟨x.toNat,by omega⟩
      rw [y69] at hnx
      have hu:u < rows.length:=by omega
      have gr:=z504 hu
      have hrow:=z182 hr (u:Int)
      rw [y69] at hrow
      have hrowl:(rows.getD u []).length≤1000000000:=by rw [z14 hu];exact hrl _ (y37 _)
      generalize rows.getD u []=row at *
      repeat' ((first|(apply y76 ok;rfl)|(refine z12 (i:=i) rfl gx ?_)|(refine z12 (i:=u) rfl gr ?_)|(apply y36;omega)|((apply z5)<;>intro _)|(apply z6 (cf);rfl;rfl))<;>conv=>whnf)
      all_goals try (exfalso;omega)
      all_goals
        refine z65 (fun j:Nat=>([(0,lst 1 encL rows),(2,.fn (.func f) [] [.pt c1]),(7,.sref 0 0 rows.length),(9,.sref 1 0 (visPs (u:Int) (Q,P) (row.take j)).1.length),(12,.int i),(76,ints row),(77,.int row.length),(78,.int j)],[.cells 1 ((frm rows.length (visPs (u:Int) (Q,P) (row.take j)).1 (visPs (u:Int) (Q,P) (row.take j)).2).map enI),.cells 1 ((visPs (u:Int) (Q,P) (row.take j)).1.map enI)])) (fun j=>j≤row.length) (fun j=>row.length - j) 0 (y46 _) (by refine swR [0,1] [] rfl rfl ?_;(repeat' first|exact y78 _|exact z9 _|refine z10 rfl (z4 (fun _=>rfl)) ?_|constructor)<;>(fail)) ?_
        intro j hj
        obtain ⟨hJj,hij,hxj⟩:=hJv (row.take j) (fun x hx=>hrow x (List.mem_of_mem_take hx))
        have hQjl:(visPs (u:Int) (Q,P) (row.take j)).1.length≤rows.length:=z147 _ _ hJj.nd hJj.inn
        have gxj:((visPs (u:Int) (Q,P) (row.take j)).1.map enI)[i]?=some (enI (u:Int)):=by
          rw [y44,y38 hij,hxj];rfl
        by_cases hj2:j < row.length
        · have gj:(row.map enI)[j]?=some (enI row[j]):=by rw [y44,y38 hj2];rfl
          have hv:=hrow _ (y37 hj2)
          have et:=z403 (u:=(u:Int)) (x:=(Q,P)) hj2
          have hge:=hJj.pre
          generalize hT' : visPs (u:Int) (Q,P) (row.take (j+1))=T' at *
          generalize hT:visPs (u:Int) (Q,P) (row.take j)=T at *
          generalize row[j]=v at *
          obtain ⟨w,rfl⟩:∃ w:Nat,v=w:=⟨v.toNat,by omega⟩
          have hw:w < rows.length:=by omega
          have gw:=z429 T.1 T.2 hw
          have lw:=z428 rows.length T.1 T.2
          have hTl:=hJj.len
          by_cases hm:(w:Int)∈T.1
          · rw [z357 hm] at et
            rw [if_pos hm] at gw
            have hwv : -1≤T.2.getD w 0:=by
              obtain ⟨k,hk,ek⟩:=List.mem_iff_getElem.1 hm
              have h1:=hge k hk
              rw [ek,y69] at h1
              rcases h1 with h1|⟨y,hy,_,h1⟩
              · omega
              · have:=hJj.inn _ (y37 hy);omega
            generalize T.2.getD w 0=pv at *
            repeat' ((first|(apply y76 ok;rfl)|(refine z12 (i:=j) rfl gj ?_)|(refine z12 (i:=w) rfl gw ?_)|(apply y36;first|omega|(unfold inI;omega))|(((apply z8;omega));intro _)|((apply z5)<;>intro _))<;>conv=>whnf)
            all_goals try (exfalso;omega)
            all_goals refine z25 (j+1) hj2 (by omega) ?_
            all_goals dsimp only
            all_goals rw [hT',et]
            all_goals exact (by refine swR [0,1] [] rfl rfl ?_;(repeat' first|exact y78 _|exact z9 _|refine z10 rfl (z4 (fun _=>rfl)) ?_|constructor))
          · rw [z358 hm,y69] at et
            rw [if_neg hm] at gw
            have e1:=z474 (Q:=T.1) (u:=(u:Int)) hw hTl
            repeat' ((first|(apply y76 ok;rfl)|(refine z12 (i:=j) rfl gj ?_)|(refine z12 (i:=w) rfl gw ?_)|(refine z12 (i:=i) rfl gxj ?_)|(apply y36;first|omega|(unfold inI;omega)|((try dsimp only);simp only [y42,y41,y40,y39,y51,y52];omega)|exact ⟨rfl,z19 rfl z26⟩)|((apply z5)<;>intro _))<;>conv=>whnf)
            all_goals try (exfalso;omega)
            all_goals refine z25 (j+1) hj2 (by omega) ?_
            all_goals dsimp only
            all_goals rw [hT',et]
            all_goals dsimp only
            all_goals exact (by refine swR [0,3] [] rfl rfl ?_;(repeat' first|exact y78 _|(refine z38 ?_;((simp;done)))|((first|refine z33 rfl ?_ ?_|refine z43 rfl ?_ ?_);(focus ((repeat' (first|exact z4 (fun _=>rfl)|apply z22));done)))|(refine z76 ?_ ?_;(focus (omega)))|constructor)<;>((refine z30 ?_;exact e1)))
        obtain rfl:j=row.length:=by omega
        rw [y49,← hnx] at *
        repeat' ((first|(apply y76 ok;rfl)|(apply y36;first|omega|(unfold inI;omega))|((first|(with_reducible apply z8;omega)|(apply z8;omega));intro _)|((apply z5)<;>intro _))<;>conv=>whnf)
        all_goals try (exfalso;omega)
        all_goals refine z25 (i+1) ⟨hile,by rw [hS'];exact hno2⟩ (by omega) ?_
        all_goals dsimp only
        all_goals rw [hS']
        all_goals exact (by refine swR [0,1] [] rfl rfl ?_;(repeat' first|exact y78 _|exact z9 _|refine z10 rfl (z4 (fun _=>rfl)) ?_|constructor))
  · rw [z895 (G:=G) (by omega) hi1 (fun k hk=>hno k (by omega) hk)]
    repeat' ((first|(apply y76 ok;rfl)|(apply y36;omega)|(((apply z8;omega));intro _)|((apply z5)<;>intro _))<;>conv=>whnf)
    all_goals try (exfalso;omega)
    all_goals (refine y82 1 ?_;refine rsD [2] [] rfl ?_;(repeat' first|exact z48|refine z10 rfl (z34) ?_|constructor))
set_option maxHeartbeats 12800000 in
theorem z637 (rows : List (List Int)) (ini : List Int) (hr : ∀ r ∈ rows, InN rows.length r) (hi : InN rows.length ini) (hn : ini.Nodup) (hN : rows.length ≤ 100000) (hrl : ∀ r ∈ rows, r.length ≤ 1000000000) (G : Int → Bool) (f : FuncId) (c1 c2 : List AC) (hf : ∀ x : Int, 0 ≤ x → x < rows.length → CallsA Tryz.prog f (.int x :: [.pt c1, .pt c2]) [] (.bool (G x)) []) :
    CallsA Tryz.prog 141 [lst 1 encL rows,ints ini,.fn (.func f) [] [.pt c1,.pt c2]] [] (.sref 0 0 (shL rows ini G).length) [.cells 1 ((shL rows ini G).map enI)]:=by
  have hil:ini.length≤100000:=by have:=z147 rows.length ini hn hi;omega
  refine z7 z15 Tryz.func141 rfl rfl 99 Tryz.ntmps141 (by simp) ?_
  repeat' ((first|(apply y76 ok;rfl)|(apply y36;(dsimp only;omega)))<;>conv=>whnf)
  obtain ⟨qm,hqm⟩:∃ qm:Nat→Nat→Int,qm=fun i j=>if j < i then -2 else 0:=⟨_,rfl⟩
  have q0:qm 0=fun _=>0:=by rw [hqm];rfl
  have qE:(fnL rows.length (qm rows.length)).map enI=(frm rows.length [] (List.replicate rows.length (-1))).map enI:=by
    rw [z1111]
    congr 1
    apply y67 (by simp [fnL])
    intro i h1 h2
    rw [z431,hqm]
    have hi' : i < rows.length:=by rw [z107] at h1;exact h1
    dsimp only
    rw [if_pos hi'];simp
  have qS:∀ i,qm (i+1)=upd (qm i) i (-2):=fun i=>by
    funext j
    by_cases h:j=i
    · subst h;rw [z32,hqm];dsimp only;rw [if_pos (by omega)]
    · rw [z45 _ _ h,hqm];dsimp only;split<;>split<;>first|rfl|omega
  clear hqm
  refine z65 (fun i:Nat=>([(0,lst 1 encL rows),(1,ints ini),(2,.fn (.func f) [] [.pt c1,.pt c2]),(7,.sref 0 0 rows.length),(21,.int rows.length),(22,.int i)],[.cells 1 ((fnL rows.length (qm i)).map enI)])) (fun i=>i≤rows.length) (fun i=>rows.length - i) 0 (y46 _) (by refine swR [0] [] rfl rfl ?_;(repeat' first|exact y78 _|refine z10 rfl (z42 rfl) ?_|constructor)<;>((refine z30 ?_;rw [q0];exact z317 _))) ?_
  intro i hi1
  by_cases hi2:i < rows.length
  · have g1:=z164 (qm i) hi2
    have l1:=z107 rows.length (qm i)
    have e1:=z142 (N:=rows.length) (u:=i) (qm i) (-2)
    rw [← qS] at e1
    repeat' ((first|(apply y76 ok;rfl)|(refine z12 (i:=i) rfl g1 ?_)|(apply y36;first|omega|(unfold inI;omega))|((apply z5)<;>intro _))<;>conv=>whnf)
    all_goals try (exfalso;omega)
    all_goals refine z25 (i+1) hi2 (by omega) (by refine swR [0] [] rfl rfl ?_;(repeat' first|exact y78 _|refine z43 rfl (z4 (fun _=>rfl)) ?_|constructor)<;>((refine z30 ?_;exact e1)))
  obtain rfl:i=rows.length:=by omega
  rw [qE]
  clear qE qS q0
  repeat' ((first|(apply y76 ok;rfl)|(apply y36;omega)|(((apply z8;omega));intro _)|((apply z5)<;>intro _))<;>conv=>whnf)
  all_goals try (exfalso;omega)
  refine y77 (y81 1 rfl) ?_
  have hrep:(List.replicate rows.length (-1:Int)).length=rows.length:=by simp
  have hrs:∀ w,(List.replicate rows.length (-1:Int)).set w (-1)=List.replicate rows.length (-1):=fun w=>by
    apply y67 (by simp)
    intro i h1 h2
    rw [List.getElem_set]
    split<;>simp
  have hS0:(frm rows.length ini (List.replicate rows.length (-1)))=frm rows.length (srS rows ini 0).1 (srS rows ini 0).2:=rfl
  generalize List.replicate rows.length (-1:Int)=P0 at *
  refine z65 (fun k:Nat=>([(0,lst 1 encL rows),(2,.fn (.func f) [] [.pt c1,.pt c2]),(7,.sref 0 0 rows.length),(9,.sref 1 0 (ini.take k).length),(29,ints ini),(30,.int ini.length),(31,.int k)],[.cells 1 ((frm rows.length (ini.take k) P0).map enI),.cells 1 ((ini.take k).map enI)])) (fun k=>k≤ini.length) (fun k=>ini.length - k) 0 (y46 _) (by refine swR [0,1] [] rfl rfl ?_;(repeat' first|exact y78 _|exact z48|exact z9 _|((refine z10 rfl ?_ ?_);(focus ((repeat' (first|exact z34|exact z4 (fun _=>rfl)));done)))|constructor)) ?_
  intro k hk
  by_cases hk2:k < ini.length
  · have gk:(ini.map enI)[k]?=some (enI ini[k]):=by rw [y44,y38 hk2];rfl
    have hv:=hi _ (y37 hk2)
    have et:ini.take (k+1)=ini.take k++[ini[k]]:=y43 hk2
    have htl:(ini.take k).length≤100000:=by rw [y41];omega
    generalize hQ' : ini.take (k+1)=Q' at *
    generalize hQ:ini.take k=Q at *
    generalize ini[k]=v at *
    obtain ⟨w,rfl⟩:∃ w:Nat,v=w:=⟨v.toNat,by omega⟩
    have hw:w < rows.length:=by omega
    have g1:=z429 Q P0 hw
    have l1:=z428 rows.length Q P0
    have e1:=z474 (Q:=Q) (u:=-1) hw hrep
    rw [hrs,← et] at e1
    subst et
    repeat' ((first|(apply y76 ok;rfl)|(refine z12 (i:=k) rfl gk ?_)|(refine z12 (i:=w) rfl g1 ?_)|(apply y36;first|omega|(unfold inI;omega)|((try dsimp only);simp only [y42,y41,y40,y39,y51,y52];omega)|exact ⟨rfl,z19 rfl z26⟩)|((apply z5)<;>intro _))<;>conv=>whnf)
    all_goals try (exfalso;omega)
    all_goals refine z25 (k+1) hk2 (by omega) ?_
    all_goals dsimp only
    all_goals rw [hQ']
    all_goals exact (by refine swR [0,3] [] rfl rfl ?_;(repeat' first|exact y78 _|(refine z38 ?_;((simp;done)))|((first|refine z33 rfl ?_ ?_|refine z43 rfl ?_ ?_);(focus ((repeat' (first|exact z4 (fun _=>rfl)|apply z22));done)))|(refine z76 ?_ ?_;(focus (omega)))|constructor)<;>((refine z30 ?_;exact e1)))
  obtain rfl:k=ini.length:=by omega
  rw [y49,hS0]
  repeat' ((first|(apply y76 ok;rfl)|(apply y36;omega)|((first|(with_reducible apply z8;omega)|(apply z8;omega));intro _)|((apply z5)<;>intro _))<;>conv=>whnf)
  all_goals try (exfalso;omega)
  refine z65 (fun i:Nat=>([(0,lst 1 encL rows),(2,.fn (.func f) [] [.pt c1,.pt c2]),(7,.sref 0 0 rows.length),(9,.sref 1 0 (srS rows ini i).1.length),(12,.int i)],[.cells 1 ((frm rows.length (srS rows ini i).1 (srS rows ini i).2).map enI),.cells 1 ((srS rows ini i).1.map enI)])) (fun i=>i≤rows.length∧∀ k (_:k < i) (h:k < (srS rows ini i).1.length),G ((srS rows ini i).1[k])=false) (fun i=>rows.length+1 - i) 0 ⟨y46 _,fun k h=>by omega⟩ (by refine swR [0,1] [] rfl rfl ?_;(repeat' first|exact y78 _|exact z9 _|refine z10 rfl (z4 (fun _=>rfl)) ?_|constructor)<;>(fail)) ?_
  rintro i ⟨hi1,hno⟩
  have hJ:=z280 hr hi hn i
  have hQl:=z630 hr hi hn i
  by_cases hi2:i < (srS rows ini i).1.length
  · have hx:=hJ.inn _ (y37 hi2)
    have cf:=hf _ hx.1 hx.2
    have gx:((srS rows ini i).1.map enI)[i]?=some (enI (srS rows ini i).1[i]):=by rw [y44,y38 hi2];rfl
    have hnx:srS rows ini (i+1)=visPs (srS rows ini i).1[i] (srS rows ini i) (rows.getD ((srS rows ini i).1[i]).toNat []):=by rw [srS,dif_pos hi2]
    have hfnd:=fun h=>z719 hr hi hn (G:=G) hi2 h (fun k hk=>hno k hk (by omega))
    have hpre:=z356 (srS rows ini i).1[i] (rows.getD ((srS rows ini i).1[i]).toNat []) (srS rows ini i)
    by_cases hG:G (srS rows ini i).1[i]=true
    · rw [hfnd hG,z869,y57]
      have hq0:∃ k,∃ h:k < (srS rows ini i).1.length,(srS rows ini i).1[k]=(srS rows ini i).1[i]∧k≤rows.length:=⟨i,hi2,rfl,hi1⟩
      rw [hG] at cf
      clear hfnd hnx hpre hno
      generalize hS:srS rows ini i=S at *
      obtain ⟨Q,P⟩:=S
      dsimp only at *
      have hi4:i < Q.length:=hi2
      generalize Q[i]=x at *
      repeat' ((first|(apply y76 ok;rfl)|(refine z12 (i:=i) rfl gx ?_)|(apply y36;omega)|((apply z5)<;>intro _)|(apply z6 (cf);rfl;rfl))<;>conv=>whnf)
      all_goals try (exfalso;omega)
      all_goals
        refine y77 (y81 1 rfl) ?_
        have hB1:=z1138 P rows.length x
        generalize hB:chn P rows.length x=B at *
        refine z65 (fun y:Nat×List Int×Int=>([(7,.sref 0 0 rows.length),(13,.int y.2.2),(14,.sref 1 0 y.2.1.length)],[.cells 1 ((frm rows.length Q P).map enI),.cells 1 (y.2.1.map enI)])) (fun y=>y.2.1.length+y.1≤rows.length+1∧((0≤y.2.2∧y.2.1++chn P (y.1 - 1) y.2.2=B∧1≤y.1∧∃ k,∃ h:k < Q.length,Q[k]=y.2.2∧k+1≤y.1)∨(y.2.2=-1∧y.2.1=B))) (fun y=>y.1+(if 0≤y.2.2 then 1 else 0)) (rows.length+1,[],x) ⟨by simp,.inl ⟨hx.1,by simpa using hB,by omega,by obtain ⟨k,h,h1,h2⟩:=hq0;exact ⟨k,h,h1,by omega⟩⟩⟩ (by refine swR [0,2] [] rfl rfl ?_;(repeat' first|exact y78 _|exact z48|exact z9 _|((refine z10 rfl ?_ ?_);(focus ((repeat' (first|exact z34|exact z4 (fun _=>rfl)));done)))|constructor)) ?_
        rintro ⟨fu,ac,u⟩ ⟨q1,q2⟩
        dsimp only at q1 q2 ⊢
        rcases q2 with ⟨q2,q3,q4,k,hk,q5,q6⟩|⟨rfl,rfl⟩
        · have huN:=hJ.inn u (q5 ▸ y37 hk)
          obtain ⟨w,rfl⟩:∃ w:Nat,u=w:=⟨u.toNat,by omega⟩
          have hw:w < rows.length:=by omega
          have gw:=z429 Q P hw
          rw [if_pos (q5 ▸ y37 hk)] at gw
          have lw:=z428 rows.length Q P
          have hp:=hJ.pre k hk
          rw [q5,y69] at hp
          dsimp only at hp
          obtain ⟨fu,rfl⟩:∃ m,fu=m+1:=⟨fu - 1,by omega⟩
          rw [Nat.add_sub_cancel] at q3
          have hnext:P.getD w 0=-1∧ac++[(w:Int)]=B∨(0≤P.getD w 0∧(ac++[(w:Int)])++chn P (fu - 1) (P.getD w 0)=B∧1≤fu∧∃ k,∃ h:k < Q.length,Q[k]=P.getD w 0∧k+1≤fu):=by
            rcases hp with hp|⟨j,hj,hjk,hp⟩
            · left
              refine ⟨hp,?_⟩
              rw [← q3]
              cases fu with
              | zero=>rfl
              | succ fu =>
                rw [chn,y69,if_neg (by omega)]
            · right
              have:=hJ.inn _ (y37 hj)
              refine ⟨by omega,?_,by omega,j,hj,hp.symm,by omega⟩
              obtain ⟨fu,rfl⟩:∃ m,fu=m+1:=⟨fu - 1,by omega⟩
              rw [chn,y69,if_pos (by omega)] at q3
              rw [← q3]
              simp
          have hvb : -1≤P.getD w 0∧P.getD w 0 < rows.length:=by
            rcases hnext with ⟨h,_⟩|⟨h,_,_,j,hj,hp2,_⟩
            · omega
            · have:=hJ.inn _ (y37 hj)
              omega
          clear hp
          generalize P.getD w 0=v at *
          repeat' ((first|(apply y76 ok;rfl)|(refine z12 (i:=w) rfl gw ?_)|(apply y36;first|omega|((try dsimp only);simp only [y42,y41,y40,y39,y51,y52];omega)|exact ⟨rfl,z19 rfl z26⟩))<;>conv=>whnf)
          all_goals refine z25 (fu,ac++[(w:Int)],v) ⟨by simp only [y40,List.length_singleton];omega,?_⟩ ?_ (by refine swR [0,3] [] rfl rfl ?_;(repeat' first|exact y78 _|exact z9 _|(refine z38 ?_;((simp;done)))|((first|refine z33 rfl ?_ ?_|refine z10 rfl ?_ ?_);(focus ((repeat' (first|exact z4 (fun _=>rfl)|apply z22));done)))|(refine z76 ?_ ?_;(focus (omega)))|constructor))
          all_goals dsimp only
          all_goals first|(rcases hnext with ⟨h1,h2⟩|h1<;>first|exact .inr ⟨h1,h2⟩|exact .inl h1)|(rw [if_pos (show (0:Int)≤w by omega)];split<;>omega)
        · have cr:=z585 ac (by omega) (by omega)
          have cc:=z353 (rvs ac) (by rw [z412];omega)
          have el:=z412 ac
          rw [← rvs_eq]
          generalize rvs ac=D at *
          rw [el] at cc ⊢
          repeat' ((first|(apply y76 ok;rfl)|((first|(apply z159 [1] [] cr;rfl;(focus ((repeat' first|exact z59|apply z66)<;>(refine z80 rfl ?_;((exact z4 fun _=>rfl))))))|(apply z159 [1] [] cc;rfl;(focus ((repeat' first|exact z59|apply z66)<;>(refine z80 rfl ?_;((exact z4 fun _=>rfl)))))));rfl;(focus ((repeat' first|exact z17|apply z16)<;>(refine z23 ?_;((exact z4 fun _=>rfl)))))))<;>conv=>whnf)
          all_goals (refine rsD [1] [] rfl ?_;(repeat' first|exact y78 _|exact z9 _|refine z10 rfl (z4 (fun _=>rfl)) ?_|constructor))
    · have hG:=(y64 _).mp hG
      rw [hG] at cf
      have hno2:∀ k (_:k < i+1) (h:k < (srS rows ini (i+1)).1.length),G ((srS rows ini (i+1)).1[k])=false:=by
        obtain ⟨t,ht⟩:=z629 (rows:=rows) (ini:=ini) (show i≤i+1 by omega)
        intro k hk h
        have hki:k < (srS rows ini i).1.length:=by omega
        have e:(srS rows ini (i+1)).1[k]=(srS rows ini i).1[k]:=by
          simp only [ht,List.getElem_append_left hki]
        rw [e]
        by_cases hk3:k < i
        · exact hno k hk3 hki
        · obtain rfl:k=i:=by omega
          exact hG
      have hile:i+1≤rows.length:=by omega
      have hJv:=fun l hl=>PJ.visPs (N:=rows.length) l hJ hi2 rfl hl
      clear hfnd hpre hno
      generalize hS' : srS rows ini (i+1)=S' at *
      generalize hS:srS rows ini i=S at *
      obtain ⟨Q,P⟩:=S
      dsimp only at *
      have hi4:i < Q.length:=hi2
      generalize hxx:Q[i]=x at *
      obtain ⟨u,rfl⟩:∃ u:Nat,x=u:=⟨x.toNat,by omega⟩
      rw [y69] at hnx
      have hu:u < rows.length:=by omega
      have gr:=z504 hu
      have hrow:=z182 hr (u:Int)
      rw [y69] at hrow
      have hrowl:(rows.getD u []).length≤1000000000:=by rw [z14 hu];exact hrl _ (y37 _)
      generalize rows.getD u []=row at *
      repeat' ((first|(apply y76 ok;rfl)|(refine z12 (i:=i) rfl gx ?_)|(refine z12 (i:=u) rfl gr ?_)|(apply y36;omega)|((apply z5)<;>intro _)|(apply z6 (cf);rfl;rfl))<;>conv=>whnf)
      all_goals try (exfalso;omega)
      all_goals
        refine z65 (fun j:Nat=>([(0,lst 1 encL rows),(2,.fn (.func f) [] [.pt c1,.pt c2]),(7,.sref 0 0 rows.length),(9,.sref 1 0 (visPs (u:Int) (Q,P) (row.take j)).1.length),(12,.int i),(76,ints row),(77,.int row.length),(78,.int j)],[.cells 1 ((frm rows.length (visPs (u:Int) (Q,P) (row.take j)).1 (visPs (u:Int) (Q,P) (row.take j)).2).map enI),.cells 1 ((visPs (u:Int) (Q,P) (row.take j)).1.map enI)])) (fun j=>j≤row.length) (fun j=>row.length - j) 0 (y46 _) (by refine swR [0,1] [] rfl rfl ?_;(repeat' first|exact y78 _|exact z9 _|refine z10 rfl (z4 (fun _=>rfl)) ?_|constructor)<;>(fail)) ?_
        intro j hj
        obtain ⟨hJj,hij,hxj⟩:=hJv (row.take j) (fun x hx=>hrow x (List.mem_of_mem_take hx))
        have hQjl:(visPs (u:Int) (Q,P) (row.take j)).1.length≤rows.length:=z147 _ _ hJj.nd hJj.inn
        have gxj:((visPs (u:Int) (Q,P) (row.take j)).1.map enI)[i]?=some (enI (u:Int)):=by
          rw [y44,y38 hij,hxj];rfl
        by_cases hj2:j < row.length
        · have gj:(row.map enI)[j]?=some (enI row[j]):=by rw [y44,y38 hj2];rfl
          have hv:=hrow _ (y37 hj2)
          have et:=z403 (u:=(u:Int)) (x:=(Q,P)) hj2
          have hge:=hJj.pre
          generalize hT' : visPs (u:Int) (Q,P) (row.take (j+1))=T' at *
          generalize hT:visPs (u:Int) (Q,P) (row.take j)=T at *
          generalize row[j]=v at *
          obtain ⟨w,rfl⟩:∃ w:Nat,v=w:=⟨v.toNat,by omega⟩
          have hw:w < rows.length:=by omega
          have gw:=z429 T.1 T.2 hw
          have lw:=z428 rows.length T.1 T.2
          have hTl:=hJj.len
          by_cases hm:(w:Int)∈T.1
          · rw [z357 hm] at et
            rw [if_pos hm] at gw
            have hwv : -1≤T.2.getD w 0:=by
              obtain ⟨k,hk,ek⟩:=List.mem_iff_getElem.1 hm
              have h1:=hge k hk
              rw [ek,y69] at h1
              rcases h1 with h1|⟨y,hy,_,h1⟩
              · omega
              · have:=hJj.inn _ (y37 hy);omega
            generalize T.2.getD w 0=pv at *
            repeat' ((first|(apply y76 ok;rfl)|(refine z12 (i:=j) rfl gj ?_)|(refine z12 (i:=w) rfl gw ?_)|(apply y36;first|omega|(unfold inI;omega))|(((apply z8;omega));intro _)|((apply z5)<;>intro _))<;>conv=>whnf)
            all_goals try (exfalso;omega)
            all_goals refine z25 (j+1) hj2 (by omega) ?_
            all_goals dsimp only
            all_goals rw [hT',et]
            all_goals exact (by refine swR [0,1] [] rfl rfl ?_;(repeat' first|exact y78 _|exact z9 _|refine z10 rfl (z4 (fun _=>rfl)) ?_|constructor))
          · rw [z358 hm,y69] at et
            rw [if_neg hm] at gw
            have e1:=z474 (Q:=T.1) (u:=(u:Int)) hw hTl
            repeat' ((first|(apply y76 ok;rfl)|(refine z12 (i:=j) rfl gj ?_)|(refine z12 (i:=w) rfl gw ?_)|(refine z12 (i:=i) rfl gxj ?_)|(apply y36;first|omega|(unfold inI;omega)|((try dsimp only);simp only [y42,y41,y40,y39,y51,y52];omega)|exact ⟨rfl,z19 rfl z26⟩)|((apply z5)<;>intro _))<;>conv=>whnf)
            all_goals try (exfalso;omega)
            all_goals refine z25 (j+1) hj2 (by omega) ?_
            all_goals dsimp only
            all_goals rw [hT',et]
            all_goals dsimp only
            all_goals exact (by refine swR [0,3] [] rfl rfl ?_;(repeat' first|exact y78 _|(refine z38 ?_;((simp;done)))|((first|refine z33 rfl ?_ ?_|refine z43 rfl ?_ ?_);(focus ((repeat' (first|exact z4 (fun _=>rfl)|apply z22));done)))|(refine z76 ?_ ?_;(focus (omega)))|constructor)<;>((refine z30 ?_;exact e1)))
        obtain rfl:j=row.length:=by omega
        rw [y49,← hnx] at *
        repeat' ((first|(apply y76 ok;rfl)|(apply y36;first|omega|(unfold inI;omega))|((first|(with_reducible apply z8;omega)|(apply z8;omega));intro _)|((apply z5)<;>intro _))<;>conv=>whnf)
        all_goals try (exfalso;omega)
        all_goals refine z25 (i+1) ⟨hile,by rw [hS'];exact hno2⟩ (by omega) ?_
        all_goals dsimp only
        all_goals rw [hS']
        all_goals exact (by refine swR [0,1] [] rfl rfl ?_;(repeat' first|exact y78 _|exact z9 _|refine z10 rfl (z4 (fun _=>rfl)) ?_|constructor))
  · rw [z895 (G:=G) (by omega) hi1 (fun k hk=>hno k (by omega) hk)]
    repeat' ((first|(apply y76 ok;rfl)|(apply y36;omega)|(((apply z8;omega));intro _)|((apply z5)<;>intro _))<;>conv=>whnf)
    all_goals try (exfalso;omega)
    all_goals (refine y82 1 ?_;refine rsD [2] [] rfl ?_;(repeat' first|exact z48|refine z10 rfl (z34) ?_|constructor))
theorem z1088 (v x:Int):CallsA Tryz.prog 142 [.int x,.pt [.int v]] [] (.bool (decide (x=v))) []:=by
 refine z7 z15 Tryz.func142 rfl rfl 7 Tryz.ntmps142 (by simp) ?_
 repeat' (((apply y76 ok;rfl))<;>conv=>whnf)
 all_goals (refine rsD [] [] rfl ?_;(repeat' first|exact y78 _|constructor))
theorem z1005 (rows:List (List Int)) (hrl:∀ r∈rows,r.length≤1000000000) (v x:Int) (hx:0≤x∧x < rows.length):CallsA Tryz.prog 208 [.int x,.pt [.int v],.pt [lst 1 encL rows]] [] (.bool (decide (x≠v) && decide (v∈rows.getD x.toNat []))) []:=by
 obtain ⟨u,rfl⟩:∃ u:Nat,x=u:=⟨x.toNat,by omega⟩
 rw [y69]
 have hu:u < rows.length:=by omega
 have gr:=z504 hu
 have hrow:(rows.getD u []).length≤1000000000:=by rw [z14 hu];exact hrl _ (y37 _)
 have cct:=z126 (rows.getD u []) (by unfold maxLen;omega) v
 generalize rows.getD u []=row at *
 refine z7 z15 Tryz.func208 rfl rfl 16 Tryz.ntmps208 (by simp) ?_
 by_cases h:(u:Int)=v
 ·rw [y74 (by simp [h]),Bool.false_and]
  repeat' ((first|(apply y76 ok;rfl)|(apply z21;kernel_rfl)|(refine z12 (i:=u) rfl gr ?_)|(apply y36;omega)|((apply z37)<;>intro _)|(apply z6 (cct);rfl;rfl))<;>conv=>whnf)
  all_goals try (exfalso;omega)
  all_goals (refine rsD [] [] rfl ?_;(repeat' first|exact y78 _|constructor))
 ·rw [y73 h,Bool.true_and]
  repeat' ((first|(apply y76 ok;rfl)|(apply z21;kernel_rfl)|(refine z12 (i:=u) rfl gr ?_)|(apply y36;omega)|((apply z37)<;>intro _)|(apply z6 (cct);rfl;rfl))<;>conv=>whnf)
  all_goals try (exfalso;omega)
  all_goals (refine rsD [] [] rfl ?_;(repeat' first|exact y78 _|constructor))
set_option maxHeartbeats 3200000 in
theorem z1004 (rows : List (List Int)) (v : Int) (hr : ∀ r ∈ rows, InN rows.length r) (hv : 0 ≤ v ∧ v < rows.length) (hN : rows.length ≤ 100000) (hrl : ∀ r ∈ rows, r.length ≤ 1000000000) :
    CallsA Tryz.prog 143 [lst 1 encL rows,.int v] [] (.sref 0 0 (aroL rows v).length) [.cells 1 ((aroL rows v).map enI)]:=by
  obtain ⟨u,rfl⟩:∃ u:Nat,v=u:=⟨v.toNat,by omega⟩
  have hu:u < rows.length:=by omega
  have gr:=z504 hu
  have hrow:(rows.getD u []).length≤1000000000:=by rw [z14 hu];exact hrl _ (y37 _)
  have cct:=z126 (rows.getD u []) (by unfold maxLen;omega) (u:Int)
  have csh:=z637 rows [(u:Int)] hr (z286 hv) (by simp) hN hrl (fun n=>decide (n≠(u:Int)) && decide ((u:Int)∈rows.getD n.toNat [])) 208 [.int (u:Int)] [lst 1 encL rows] (fun x h0 h1=>z1005 rows hrl u x ⟨h0,h1⟩)
  unfold aroL
  rw [y69]
  by_cases h:(u:Int)∈rows.getD u []
  · rw [if_pos h]
    rw [y73 h] at cct
    generalize rows.getD u []=row at *
    refine z7 z15 Tryz.func143 rfl rfl 18 Tryz.ntmps143 (by simp) ?_
    repeat' ((first|(apply y76 ok;rfl)|(apply z21;kernel_rfl)|(refine z12 (i:=u) rfl gr ?_)|(apply y36;omega)|(apply z6 (cct);rfl;rfl))<;>conv=>whnf)
    all_goals (refine rsD [2] [] rfl ?_;(repeat' first|exact y78 _|apply y79|constructor))
  · rw [if_neg h]
    rw [y74 h] at cct
    generalize shL rows [(u:Int)] (fun n=>decide (n≠(u:Int)) && decide ((u:Int)∈rows.getD n.toNat []))=D at *
    generalize rows.getD u []=row at *
    refine z7 z15 Tryz.func143 rfl rfl 18 Tryz.ntmps143 (by simp) ?_
    repeat' ((first|(apply y76 ok;rfl)|(apply z21;kernel_rfl)|(refine z12 (i:=u) rfl gr ?_)|(apply y36;omega)|(apply z6 (cct);rfl;rfl)|(apply z112 [] [0,1,2] [3] csh;(focus ((repeat' first|exact z84|apply z56)<;>rfl));rfl;rfl;(focus ((repeat' first|exact z17|apply z16)<;>(refine z23 ?_;((exact z4 fun _=>rfl)))));((refine .inr ⟨rfl,?_⟩;repeat' first|exact True.intro|apply y36|exact z121 (fun _=>rfl) _))))<;>conv=>whnf)
    all_goals (refine rsD [3] [] rfl ?_;(repeat' first|exact y78 _|exact z9 _|refine z10 rfl (z4 (fun _=>rfl)) ?_|constructor))
noncomputable def lasR (rows:List (List Int)) (ini:List Int) (G:Int→Bool):List Int×List Int:=(lasL rows ini G).getD ([],[])
set_option maxHeartbeats 6400000 in
theorem z1087 (rows : List (List Int)) (ini : List Int) (hr : ∀ r ∈ rows, InN rows.length r) (hi : InN rows.length ini) (hn : ini.Nodup) (hN : rows.length ≤ 100000) (hrl : ∀ r ∈ rows, r.length ≤ 1000000000) (G : Int → Bool) (f : FuncId) (c1 c2 : List AC) (hf : ∀ x : Int, 0 ≤ x → x < rows.length → CallsA Tryz.prog f [.int x, .pt c1, .pt c2] [] (.bool (G x)) []) :
    CallsA Tryz.prog 69 [lst 1 encL rows,ints ini,.fn (.func f) [] [.pt c1,.pt c2]] [] (.tup [.sref 0 0 ((lasR rows ini G).1.take ((lasR rows ini G).1.length - 1)).length,.sref 1 0 (lasR rows ini G).2.length,.bool (lasL rows ini G).isSome]) [.cells 1 (((lasR rows ini G).1.take ((lasR rows ini G).1.length - 1)).map enI),.cells 1 ((lasR rows ini G).2.map enI)]:=by
  have hil:ini.length≤100000:=by have:=z147 rows.length ini hn hi;omega
  have cC:=z603 rows hr hN hrl
  have cO:=z733 rows ini hr hi hN hrl (by omega)
  have hQi:=z303 hr hi rows.length
  have hQl:=z302 hr hi rows.length
  have hcl:=z677 rows
  have hcg:∀ i,i < rows.length→((cycB rows).map enB)[i]?=some (enB (cycD rows i)):=fun i h=>z1117 (cycD rows) h
  have hto:=fun v hv=>shL_to (rows:=rows) (ini:=ini) hn (v:=v) hv
  have hrR:∀ k,k < (bfsL rows ini).length→(G ((bfsL rows ini).getD k 0) && cycD rows ((bfsL rows ini).getD k 0).toNat)=true→(∀ j,j < k→(G ((bfsL rows ini).getD j 0) && cycD rows ((bfsL rows ini).getD j 0).toNat)=false)→lasL rows ini G=some (bkw (srP rows ini) rows.length ((bfsL rows ini).getD k 0) [],cycL rows ((bfsL rows ini).getD k 0)):=fun k hk h1 h2=>by
    unfold lasL
    have:(bfsL rows ini).find? (fun v=>G v && cycD rows v.toNat)=some ((bfsL rows ini).getD k 0):=by
      rw [z14 hk] at h1 ⊢
      rw [List.find?_eq_some_iff_getElem]
      refine ⟨h1,k,hk,rfl,fun j hj=>?_⟩
      have:=h2 j hj
      rw [z14 (by omega)] at this
      rw [this];rfl
    rw [this];rfl
  have hrN:(∀ j,j < (bfsL rows ini).length→(G ((bfsL rows ini).getD j 0) && cycD rows ((bfsL rows ini).getD j 0).toNat)=false)→lasL rows ini G=none:=fun h=>by
    unfold lasL
    have:(bfsL rows ini).find? (fun v=>G v && cycD rows v.toNat)=none:=by
      rw [List.find?_eq_none]
      intro x hx
      obtain ⟨j,hj,rfl⟩:=List.mem_iff_getElem.1 hx
      have:=h j hj
      rw [z14 hj] at this
      rw [this];simp
    rw [this];rfl
  unfold lasR
  change (bfsL rows ini).length≤rows.length at hQl
  change InN rows.length (bfsL rows ini) at hQi
  generalize lasL rows ini G=L at *
  generalize cycB rows=C at *
  generalize bfsL rows ini=Q at *
  refine z7 z15 Tryz.func69 rfl rfl 45 Tryz.ntmps69 (by simp) ?_
  repeat' ((first|(apply y76 ok;rfl)|((first|(apply z11 [] [0] cC;rfl;rfl)|(apply z11 [] [1] cO;rfl;rfl));rfl;(focus ((repeat' first|exact z17|apply z16)<;>(refine z23 ?_;((exact z4 fun _=>rfl)))))))<;>conv=>whnf)
  refine z65 (fun i:Nat=>([(0,lst 1 encL rows),(1,ints ini),(2,.fn (.func f) [] [.pt c1,.pt c2]),(9,.sref 0 0 rows.length),(17,.sref 1 0 Q.length),(18,.int Q.length),(19,.int i)],[.cells 1 (C.map enB),.cells 1 (Q.map enI)])) (fun i=>i≤Q.length∧∀ j,j < i→(G (Q.getD j 0) && cycD rows (Q.getD j 0).toNat)=false) (fun i=>Q.length - i) 0 ⟨y46 _,fun j hj=>by omega⟩ (by refine swR [0,1] [] rfl rfl ?_;(repeat' first|exact y78 _|exact z9 _|refine z10 rfl (z4 (fun _=>rfl)) ?_|constructor)) ?_
  rintro i ⟨hi1,hno⟩
  by_cases hi2:i < Q.length
  · have hm:=z386 hi2
    have hx:=hQi _ hm
    have gx:(Q.map enI)[i]?=some (enI (Q.getD i 0)):=by rw [y44,y38 hi2,z14 hi2];rfl
    have cf:=hf _ hx.1 hx.2
    have hsome:=fun h=>hrR i hi2 h hno
    have hnxt:(G (Q.getD i 0) && cycD rows (Q.getD i 0).toNat)=false→∀ j,j < i+1→(G (Q.getD j 0) && cycD rows (Q.getD j 0).toNat)=false:=fun h j hj=>by
      by_cases e:j=i
      · subst e;exact h
      · exact hno j (by omega)
    have hsh:=hto _ hm
    have csh:=z638 rows ini hr hi hn hN hrl (fun n=>decide (n=Q.getD i 0)) 142 [.int (Q.getD i 0)] (fun x _ _=>z1088 (Q.getD i 0) x)
    have car:=z1004 rows (Q.getD i 0) hr hx hN hrl
    rw [hsh] at csh
    rw [aroL_eq] at car
    have hb1:=z547 (srP rows ini) rows.length (Q.getD i 0) []
    have hb2:=z548 (srP rows ini) rows.length (Q.getD i 0) []
    have hc2:=z675 rows (Q.getD i 0)
    have gc:=hcg (Q.getD i 0).toNat (by omega)
    rw [y52] at hb2
    clear hsh hrR hrN hto hcg hm hno
    generalize bkw (srP rows ini) rows.length (Q.getD i 0) []=B at *
    generalize cycL rows (Q.getD i 0)=Y at *
    generalize Q.getD i 0=x at *
    obtain ⟨u,rfl⟩:∃ u:Nat,x=u:=⟨x.toNat,by omega⟩
    rw [y69] at *
    by_cases hg:(G (u:Int) && cycD rows u)=true
    · have hL:=hsome hg
      obtain ⟨hg1,hg2⟩:=Bool.and_eq_true_iff.1 hg
      rw [hg1] at cf
      rw [hg2] at gc
      subst hL
      repeat' ((first|(apply y76 ok;rfl)|(apply z21;kernel_rfl)|(refine z12 (i:=i) rfl gx ?_)|(refine z12 (i:=u) rfl gc ?_)|(apply y36;first|omega|(unfold inI;omega))|((apply z5)<;>intro _)|(apply z6 (cf);rfl;rfl)|((first|(apply z112 [] [2] [3] csh;(focus ((repeat' first|exact z84|apply z56)<;>rfl));rfl)|(apply z112 [] [] [4] car;rfl;rfl));rfl;(focus ((repeat' first|exact z17|apply z16)<;>(refine z23 ?_;((exact z4 fun _=>rfl)))));(first|exact .inl rfl|(refine .inr ⟨rfl,?_⟩;repeat' first|exact True.intro|apply y36|exact z121 (fun _=>rfl) _))))<;>conv=>whnf)
      all_goals try (exfalso;omega)
      all_goals
        show RetS _ _ (.tup [.sref 0 0 (B.take (B.length - 1)).length,.sref 1 0 Y.length,.bool true]) [.cells 1 ((B.take (B.length - 1)).map enI),.cells 1 (Y.map enI)] _
        refine Gl.RetS.trunc 3 (B.length - 1) rfl ?_
        conv=>whnf
        (refine rsD [3,4] [] rfl ?_;(repeat' first|exact y78 _|exact z9 _|(refine z38 ?_;((simp;done)))|((refine z10 rfl ?_ ?_);(focus ((repeat' (first|exact z4 (fun _=>rfl)|apply z22));done)))|apply z92|constructor))
      all_goals (refine z30 ?_;rw [List.map_take])
    · have hg:=(y64 _).mp hg
      have hn2:=hnxt hg
      cases hG:G (u:Int)
      · rw [hG] at cf
        repeat' ((first|(apply y76 ok;rfl)|(refine z12 (i:=i) rfl gx ?_)|(apply y36;first|omega|(unfold inI;omega))|((apply z5)<;>intro _)|(apply z6 (cf);rfl;rfl))<;>conv=>whnf)
        all_goals try (exfalso;omega)
        all_goals refine z25 (i+1) ⟨hi2,hn2⟩ (by omega) (by refine swR [0,1] [] rfl rfl ?_;(repeat' first|exact y78 _|exact z9 _|refine z10 rfl (z4 (fun _=>rfl)) ?_|constructor))
      · rw [hG] at cf
        rw [hG,Bool.true_and] at hg
        rw [hg] at gc
        repeat' ((first|(apply y76 ok;rfl)|(refine z12 (i:=i) rfl gx ?_)|(refine z12 (i:=u) rfl gc ?_)|(apply y36;first|omega|(unfold inI;omega))|((apply z5)<;>intro _)|(apply z6 (cf);rfl;rfl))<;>conv=>whnf)
        all_goals try (exfalso;omega)
        all_goals refine z25 (i+1) ⟨hi2,hn2⟩ (by omega) (by refine swR [0,1] [] rfl rfl ?_;(repeat' first|exact y78 _|exact z9 _|refine z10 rfl (z4 (fun _=>rfl)) ?_|constructor))
  · have hL:=hrN fun j hj=>hno j (by omega)
    subst hL
    repeat' ((first|(apply y76 ok;rfl)|(apply y36;omega)|(((apply z8;omega));intro _)|((apply z5)<;>intro _))<;>conv=>whnf)
    all_goals try (exfalso;omega)
    all_goals show RetS _ _ (.tup [.sref 0 0 0,.sref 1 0 0,.bool false]) [.cells 1 [],.cells 1 []] _
    all_goals (refine y82 1 ?_;refine y82 1 ?_;refine rsD [2,3] [] rfl ?_;(repeat' first|exact y78 _|exact z48|refine z10 rfl (z34) ?_|apply z92|constructor))
end Go.Proofs.YtahhobgjcfionaaGreat
namespace Go.Proofs.YtahhobgjcfionaaGreat
open Go.Gl
attribute [local irreducible] z29 AWP z46 z50 z47
structure Graph.ok (g:Graph):Prop where
 mx:g.mx
 st:g.st.length≤1048576
 nx:g.nx.length≤1048576
 states:∀ s∈g.st,s.small
 rows:∀ r∈g.nx,r.length≤1048576
 sumS:(g.st.map State.sz).sum≤1048576
 sumN:(g.nx.map List.length).sum≤1048576
theorem Graph.ok_of {g:Graph} (hg:g.mx) (h1:g.s1≤1048576) (h2:g.s2≤1048576):g.ok:=by
 unfold Graph.s1 tot at h1
 unfold Graph.s2 tot at h2
 refine ⟨hg,by omega,by omega,fun s hs=>?_,fun r hr=>?_,by omega,by omega⟩
 ·have:=z449 State.sz hs
  unfold State.sz at this h1
  exact ⟨by omega,by omega⟩
 ·have:=z449 List.length hr;omega
structure LabOk (l:List Tree):Prop where
 mx:Lmx l
 len:l.length≤1048576
 el:∀ t∈l,t.sz≤1048576
 sum:(l.map Tree.sz).sum≤1048576
theorem LabOk.of {l:List Tree} (hl:Lmx l) (h:tot Tree.sz l≤1048576):LabOk l:=by
 unfold tot at h
 exact ⟨hl,by omega,fun t ht=>by have:=z449 Tree.sz ht;omega,by omega⟩
theorem z854 (n:Nat) (h0:0 < n) (h1:n≤1048576):CallsA Tryz.prog 161 [.nils,.int n] [] (.sref 0 0 0) [.cells 1 (List.replicate n [.int 0])]:=by
 refine z13 z15 Tryz.func161 rfl rfl 27 Tryz.ntmps161 (by simp) ?_
 repeat' (first|(apply y76 ok;rfl;conv=>whnf)|(apply y36;(first|omega|(unfold inI;omega)|(dsimp only;omega));conv=>whnf)|(apply z5<;>intro _<;>conv=>whnf))
 all_goals try (exfalso;omega)
 exact z110 [0] (by decide) rfl rfl rfl ⟨z39 (z51 (by rw [show ((n:Int) - (((0:Nat):Int) - ((0:Nat):Int))).toNat=n by omega])) (z42 rfl),trivial⟩
def szK (a b:List Int):Nat→Nat
 |0=>0
 |1=>a.length
 |_=>a.length+b.length
def clK (a b:List Int):Nat→List (List AC)
 |0=>List.replicate (a.length+b.length) [.int 0]
 |1=>a.map enI
 |_=>(a++b).map enI
theorem z679 (a b:List Int) (k:Nat):Flat (clK a b k):=by
 match k with
 |0=>exact z42 rfl
 |1=>exact z4 fun _=>rfl
 |_+2=>exact z4 fun _=>rfl
theorem z604 (a b:List Int) (h0:0 < a.length+b.length) (h1:a.length+b.length≤1048576):CallsA Tryz.prog 81 [lst 1 encL [a,b]] [] (.sref 0 0 (a.length+b.length)) [.cells 1 ((a++b).map enI)]:=by
 have cg:=z854 (a.length+b.length) h0 h1
 have e0:szK a b 0=0:=rfl
 have e1:szK a b 1=a.length:=rfl
 have e2:szK a b 2=a.length+b.length:=rfl
 have hc1:(clK a b 1).length=szK a b 1:=by simp [clK,szK]
 refine z13 z15 Tryz.func81 rfl rfl 36 Tryz.ntmps81 (by simp) ?_
 repeat' ((apply y76 ok;rfl;conv=>whnf))
 refine z94 (fun k:Nat=>([(0,lst 1 encL [a,b]),(3,.int (szK a b k)),(9,lst 1 encL [a,b]),(10,.int (2:Nat)),(11,.int k)],[])) (fun k=>k≤2) (fun k=>2 - k) 0 (by omega) ⟨[],rfl,by decide,rfl,⟨⟨rfl,rfl⟩,⟨rfl,rfl⟩,⟨rfl,rfl⟩,⟨rfl,rfl⟩,⟨rfl,rfl⟩,trivial⟩,trivial⟩ ?_
 intro k hk
 have hk3:k=0∨k=1∨k=2:=by omega
 rcases hk3 with rfl|rfl|rfl
 ·repeat' (first|(apply y76 ok;rfl;conv=>whnf)|(refine z12 (i:=0) rfl rfl ?_;conv=>whnf)|(apply y36;(first|omega|(unfold inI;omega));conv=>whnf))
  all_goals exact z79 1 [] (by omega) (by omega) ⟨rfl,by decide,rfl,⟨⟨rfl,rfl⟩,⟨rfl,z1122 (by omega)⟩,⟨rfl,rfl⟩,⟨rfl,rfl⟩,⟨rfl,rfl⟩,trivial⟩,trivial⟩
 ·repeat' (first|(apply y76 ok;rfl;conv=>whnf)|(refine z12 (i:=1) rfl rfl ?_;conv=>whnf)|(apply y36;(first|omega|(unfold inI;omega));conv=>whnf))
  all_goals exact z79 2 [] (by omega) (by omega) ⟨rfl,by decide,rfl,⟨⟨rfl,rfl⟩,⟨rfl,z1122 (by omega)⟩,⟨rfl,rfl⟩,⟨rfl,rfl⟩,⟨rfl,rfl⟩,trivial⟩,trivial⟩
 ·rw [← e2] at cg
  repeat' (first|(apply y76 ok;rfl;conv=>whnf)|(apply z320 [] [] [0] (cg);rfl;(focus ((repeat' (exact z59))<;>(fail)));rfl;rfl;rfl;rfl;rfl;(focus ((repeat' (first|exact z17|apply z16))<;>((refine z23 ?_;(exact z42 rfl)))));(exact .inl rfl);conv=>whnf))
  refine z94 (fun k:Nat=>([(6,.sref 0 0 (szK a b k)),(25,lst 1 encL [a,b]),(26,.int (2:Nat)),(27,.int k)],[.cells 1 (clK a b k)])) (fun k=>k≤2) (fun k=>2 - k) 0 (by omega) ⟨[0],rfl,by decide,rfl,⟨⟨rfl,rfl⟩,⟨rfl,rfl⟩,⟨rfl,rfl⟩,⟨rfl,rfl⟩,trivial⟩,⟨z39 rfl (z679 a b 0),trivial⟩⟩ ?_
  intro k hk
  have hk3:k=0∨k=1∨k=2:=by omega
  rcases hk3 with rfl|rfl|rfl
  ·repeat' (first|(apply y76 ok;rfl;conv=>whnf)|(refine z12 (i:=0) rfl rfl ?_;conv=>whnf)|(apply y36;(first|omega|(unfold inI;omega)|(dsimp only;omega)|exact z54 (fun _=>rfl));conv=>whnf))
   all_goals exact z79 1 [1] (by omega) (by omega) ⟨rfl,by decide,rfl,⟨⟨rfl,congrArg (AC.sref 1 0) (show szK a b 0+a.length=szK a b 1 by omega)⟩,⟨rfl,rfl⟩,⟨rfl,rfl⟩,⟨rfl,rfl⟩,trivial⟩,⟨z39 (z51 (by rw [e0,List.take_zero];rfl)) (z679 a b 1),trivial⟩⟩
  ·repeat' (first|(apply y76 ok;rfl;conv=>whnf)|(refine z12 (i:=1) rfl rfl ?_;conv=>whnf)|(apply y36;(first|omega|(unfold inI;omega)|(dsimp only;omega)|exact z54 (fun _=>rfl));conv=>whnf))
   all_goals exact z79 2 [1] (by omega) (by omega) ⟨rfl,by decide,rfl,⟨⟨rfl,congrArg (AC.sref 1 0) (show szK a b 1+b.length=szK a b 2 by omega)⟩,⟨rfl,rfl⟩,⟨rfl,rfl⟩,⟨rfl,rfl⟩,trivial⟩,⟨z39 (z51 (by rw [y50 (by omega)];exact (y56 ..).symm)) (z679 a b 2),trivial⟩⟩
  ·repeat' ((apply y76 ok;rfl;conv=>whnf))
   all_goals exact z110 [0] (by decide) rfl rfl rfl ⟨z39 rfl (z4 fun _=>rfl),trivial⟩
noncomputable def z340 (g:Graph) (p:List Int) (i:Nat):Bool:=(decide (0≤p.getD i 0) && decide (p.getD i 0 < g.st.length)) && (decide (i=0) || decide (p.getD i 0∈g.nx.getD (p.getD (i - 1) 0).toNat []))
noncomputable def z285 (g:Graph) (p:List Int):Bool:=z206 g && (decide (1≤p.length) && (List.range p.length).all (z340 g p))
theorem z514 {g:Graph} {p:List Int} {i:Nat} (hi:i < p.length) (h:z340 g p i=false):z285 g p=false:=by
 unfold z285
 have:(List.range p.length).all (z340 g p)=false:=by
  rw [List.all_eq_false]
  exact ⟨i,List.mem_range.2 hi,by simp [h]⟩
 rw [this];simp
theorem z589 {g:Graph} {p:List Int} (hg:z206 g=true) (h0:1≤p.length) (h:∀ i,i < p.length→z340 g p i=true):z285 g p=true:=by
 unfold z285
 have:(List.range p.length).all (z340 g p)=true:=by
  rw [y70]
  exact fun i hi=>h i (List.mem_range.1 hi)
 rw [this,hg,y73 h0];rfl
theorem stepP_0 (g:Graph) (p:List Int) (h:0 < p.length):z340 g p 0=(decide (0≤p[0]) && decide (p[0] < g.st.length)):=by
 unfold z340;rw [z14 h];simp
theorem stepP_s (g:Graph) (p:List Int) (j:Nat) (h:j+1 < p.length) (h2:p[j].toNat < g.nx.length):z340 g p (j+1)=(decide (0≤p[j+1]) && decide (p[j+1] < g.st.length) && decide (p[j+1]∈g.nx[p[j].toNat])):=by
 unfold z340
 rw [z14 h,Nat.add_sub_cancel,z14 (show j < p.length by omega),z14 h2];simp
theorem z890 {g:Graph} {p:List Int} {j:Nat} (h:j < p.length) (k:z340 g p j=true):0≤p[j]∧p[j] < g.st.length:=by
 unfold z340 at k
 rw [z14 h] at k
 simp only [y63,decide_eq_true_eq] at k
 exact k.1
theorem z706 {P:Nat→Prop} {i:Nat} (h:∀ j,j < i→P j) (k:P i):∀ j,j < i+1→P j:=fun j hj=>by
 rcases y62 j i with h3|h3
 ·exact h j h3
 ·obtain rfl:j=i:=by omega
  exact k
set_option maxHeartbeats 1600000 in
theorem z851 (g:Graph) (hg:g.mx) (p:List Int) (hp:p.length≤maxLen):CallsA Tryz.prog 82 [.agg g.cs,ints p] [] (.bool (z285 g p)) []:=by
 have k1:=z259 g hg
 unfold maxLen at hp
 by_cases hgb:z206 g=true
 ·have hG:=(z69 g).1 hgb
  have hgl:=hG.2.1
  have h60:=hG.1.2
  have hrl:=hg.2.2
  rw [hgb] at k1
  by_cases h0:p.length=0
  ·have e:z285 g p=false:=by unfold z285;rw [y74 (show ¬ 1≤p.length by omega)];simp
   rw [e]
   refine z13 z15 Tryz.func82 rfl rfl 48 Tryz.ntmps82 (by simp) ?_
   repeat' ((first|(apply y76 ok;rfl)|((apply z5)<;>intro _)|(apply z6 (k1);rfl;rfl))<;>conv=>whnf)
   all_goals first|(exfalso;omega)|exact z20 rfl rfl
  refine z13 z15 Tryz.func82 rfl rfl 48 Tryz.ntmps82 (by simp) ?_
  repeat' ((first|(apply y76 ok;rfl)|((apply z5)<;>intro _)|(apply z6 (k1);rfl;rfl))<;>conv=>whnf)
  all_goals try (exfalso;omega)
  refine z94 (fun i:Nat=>([(1,ints p),(2,.ptr 0 none 0),(15,ints p),(16,.int p.length),(17,.int i)],[.cells 2 [[lst 2 State.cs g.st,lst 1 encL g.nx]]])) (fun i=>i≤p.length∧∀ j,j < i→z340 g p j=true) (fun i=>p.length - i) 0 ⟨by omega,fun j hj=>by omega⟩ ⟨[0],rfl,by decide,rfl,⟨⟨rfl,rfl⟩,⟨rfl,rfl⟩,⟨rfl,rfl⟩,⟨rfl,rfl⟩,⟨rfl,rfl⟩,trivial⟩,⟨z24 rfl rfl,trivial⟩⟩ ?_
  rintro i ⟨hi,hs⟩
  by_cases hil:i < p.length
  ·have g0:(p.map enI)[i]?=some (enI p[i]):=by rw [y44,y38 hil];rfl
   have c1:=z326 p[i] 0 ((g.st.length:Int) - 1)
   cases i with
   |zero =>
    have hst:=stepP_0 g p hil
    generalize p[0]=x at *
    repeat' ((first|(apply y76 ok;rfl)|(apply z21;kernel_rfl)|(refine z12 (i:=0) rfl g0 ?_)|(apply y36;first|omega|(unfold inI;omega))|((first|apply z5|apply z74)<;>intro _)|(apply z6 (c1);rfl;rfl))<;>conv=>whnf)
    all_goals (try simp only [z97,z300] at *)
    all_goals first
     |(exfalso;omega)
     |exact z20 rfl (z514 hil (by rw [hst];grind))
     |exact z79 1 [0] ⟨by omega,z706 hs (by rw [hst];grind)⟩ (by omega) ⟨rfl,by decide,rfl,⟨⟨rfl,rfl⟩,⟨rfl,rfl⟩,⟨rfl,rfl⟩,⟨rfl,rfl⟩,⟨rfl,rfl⟩,trivial⟩,⟨z24 rfl rfl,trivial⟩⟩
   |succ j =>
    have hy:=z890 (show j < p.length by omega) (hs j (by omega))
    have hst:=stepP_s g p j hil (by omega)
    have g1:(p.map enI)[j]?=some (enI p[j]):=by rw [y44,y38 (by omega)];rfl
    have c2:=z126 g.nx[p[j].toNat] (hrl _ (y37 _)) p[j+1]
    have g2:(g.nx.map encL)[p[j].toNat]?=some (encL (g.nx[p[j].toNat]'(by omega))):=by rw [y44,y38 (by omega)];rfl
    generalize g.nx[p[j].toNat]=row at *
    generalize p[j]=y at *
    generalize p[j+1]=x at *
    repeat' ((first|(apply y76 ok;rfl)|(apply z21;kernel_rfl)|(refine z12 (i:=j+1) (by rfl) g0 ?_)|(refine z12 (i:=j) (by omega) g1 ?_)|(refine z12 (i:=y.toNat) rfl g2 ?_)|(apply y36;first|omega|(unfold inI;omega))|((first|apply z5|apply z37|apply z74)<;>intro _)|(apply z6 (c1);rfl;rfl)|(apply z6 (c2);rfl;rfl))<;>conv=>whnf)
    all_goals (try simp only [z97,z300] at *)
    all_goals first
     |(exfalso;omega)
     |exact z20 rfl (z514 hil (by rw [hst];grind))
     |exact z79 (j+2) [0] ⟨by omega,z706 hs (by rw [hst];grind)⟩ (by omega) ⟨rfl,by decide,rfl,⟨⟨rfl,rfl⟩,⟨rfl,rfl⟩,⟨rfl,rfl⟩,⟨rfl,rfl⟩,⟨rfl,rfl⟩,trivial⟩,⟨z24 rfl rfl,trivial⟩⟩
     |skip
  ·repeat' ((first|(apply y76 ok;rfl)|(apply y36;omega)|(((with_reducible apply z8;omega));intro _)|((apply z5)<;>intro _))<;>conv=>whnf)
   all_goals try (exfalso;omega)
   exact z20 rfl (z589 hgb (by omega) fun j hj=>hs j (by omega))
 ·have hgb:=(y64 _).mp hgb
  have e:z285 g p=false:=by unfold z285;rw [hgb];rfl
  rw [hgb] at k1
  rw [e]
  refine z13 z15 Tryz.func82 rfl rfl 48 Tryz.ntmps82 (by simp) ?_
  repeat' ((first|(apply y76 ok;rfl)|(apply z6 (k1);rfl;rfl))<;>conv=>whnf)
  all_goals exact z20 rfl rfl
structure Trace where
 stem:List Int
 loop:List Int
deriving DecidableEq
def Trace.cs (t:Trace):List AC:=[ints t.stem,ints t.loop]
def Trace.all (t:Trace):List Int:=t.stem++t.loop
noncomputable def trB (g:Graph) (t:Trace):Bool:=decide (1≤t.loop.length∧t.stem.length+t.loop.length≤8000) && (z285 g t.all && (decide (t.all.getD 0 0=0) && decide (t.loop.getD 0 0∈g.nx.getD ((t.loop.getD (t.loop.length - 1) 0).toNat) [])))
theorem z513 {g:Graph} {p:List Int} (h:z285 g p=true) (i:Nat) (hi:i < p.length):0≤p[i]∧p[i] < g.st.length:=by
 unfold z285 at h
 rw [y63,y63,y70] at h
 exact z890 hi (h.2.2 i (List.mem_range.2 hi))
theorem z588 {g:Graph} {p:List Int} (h:z285 g p=true):z206 g=true:=by
 unfold z285 at h
 exact (Bool.and_eq_true_iff.1 h).1
theorem z908 {l:List Int} {i:Nat} (h:i < l.length):(l.map enI)[i]?=some (enI l[i]):=by rw [y44,y38 h];rfl
theorem row_at {l:List (List Int)} {i:Nat} (h:i < l.length):(l.map encL)[i]?=some (encL l[i]):=by rw [y44,y38 h];rfl
structure TrF (g:Graph) (t:Trace) (x y p0:Int) (row:List Int):Prop where
 hx:0≤x∧x < g.st.length
 gp:(t.all.map enI)[0]?=some (enI p0)
 ga:(t.all.map enI)[t.all.length - 1]?=some (enI x)
 gx:(t.loop.map enI)[t.loop.length - 1]?=some (enI x)
 gl:(t.loop.map enI)[0]?=some (enI y)
 gr:(g.nx.map encL)[x.toNat]?=some (encL row)
 rm:row.length≤maxLen
 e:trB g t=(decide (p0=0) && decide (y∈row))
theorem trF {g:Graph} (hg:g.mx) {t:Trace} (hs:1≤t.loop.length∧t.stem.length+t.loop.length≤8000) (hb:z285 g t.all=true):∃ x y p0 row,TrF g t x y p0 row:=by
 have hG:=(z69 g).1 (z588 hb)
 have hal:t.all.length=t.stem.length+t.loop.length:=by unfold Trace.all;simp
 have hl:t.loop.length - 1 < t.loop.length:=by omega
 have ha:t.all.length - 1 < t.all.length:=by omega
 have h0:0 < t.loop.length:=by omega
 have hp:=z513 hb _ ha
 have ex:t.all[t.all.length - 1]=t.loop[t.loop.length - 1]:=by
  have:t.all[t.all.length - 1]?=t.loop[t.loop.length - 1]?:=by
   rw [hal]
   unfold Trace.all
   rw [y59 (by omega)]
   congr 1;omega
  rw [y38 ha,y38 hl] at this
  exact Option.some.inj this
 have hxn:(t.loop[t.loop.length - 1]).toNat < g.nx.length:=by
  rw [ex] at hp;have:=hG.2.1;omega
 refine ⟨t.loop[t.loop.length - 1],t.loop[0],t.all[0],g.nx[(t.loop[t.loop.length - 1]).toNat],?_⟩
 refine ⟨by rw [← ex];exact hp,z908 (by omega),by rw [← ex];exact z908 ha,z908 hl,z908 h0,row_at hxn,hg.2.2 _ (y37 _),?_⟩
 unfold trB
 rw [y73 hs,hb,z14 (show 0 < t.all.length by omega),z14 h0,z14 hl,z14 hxn];rfl
set_option maxHeartbeats 1600000 in
theorem z451 (g:Graph) (hg:g.mx) (t:Trace) (h1:t.stem.length≤1048576) (h2:t.loop.length≤1048576):CallsA Tryz.prog 21 [.agg g.cs,.agg t.cs] [] (.bool (trB g t)) []:=by
 have hal:t.all.length=t.stem.length+t.loop.length:=by unfold Trace.all;simp
 by_cases hs:1≤t.loop.length∧t.stem.length+t.loop.length≤8000
 ·have kn:=z604 t.stem t.loop (by omega) (by omega)
  have k1:=z851 g hg t.all (by unfold maxLen;omega)
  by_cases hb:z285 g t.all=true
  ·obtain ⟨x,y,p0,row,F⟩:=trF hg hs hb
   have c2:=z126 row F.rm y
   have hx:=F.hx
   have gp:=F.gp
   have gx:=F.gx
   have gl:=F.gl
   have gr:=F.gr
   rw [hb] at k1
   rw [F.e]
   unfold Trace.all at *
   refine z13 z15 Tryz.func21 rfl rfl 52 Tryz.ntmps21 (by simp) ?_
   repeat' ((first|((fail_if_success apply z104 5);(fail_if_success apply z88 5);apply y76 ok;rfl)|(apply y36;(unfold inI;omega))|((apply z5)<;>intro _)|(apply z112 [] [2] [3] kn;(focus (exact z56 (z266 rfl rfl rfl rfl rfl) z84));rfl;rfl;(focus ((repeat' first|exact z17|apply z16)<;>(refine z23 ?_;((exact z4 fun _=>rfl)))));((refine .inr ⟨rfl,?_⟩;repeat' first|exact True.intro|apply y36|exact z121 (fun _=>rfl) _))))<;>conv=>whnf)
   all_goals try (exfalso;omega)
   refine y77 (SealL.reach (π:=[0,1]) (Bn:=[3]) (env:=[(2,.ptr 0 none 0),(3,.ptr 1 none 0),(5,.int t.loop.length),(6,ints (t.stem++t.loop))]) (objs:=[.cells 2 [[lst 2 State.cs g.st,lst 1 encL g.nx]],.cells 2 [[ints t.stem,ints t.loop]]]) ⟨rfl,rfl,by simp,rfl,fun o ho=>by simp at ho;rcases ho with rfl|rfl<;>rfl,⟨rfl,rfl,rfl,z777 rfl rfl rfl (by simp),trivial⟩,rfl⟩) ?_
   conv=>whnf
   repeat' ((first|(apply y76 ok;rfl)|(apply z21;kernel_rfl)|(refine z12 (i:=0) rfl gp ?_)|(refine z12 (i:=0) rfl gl ?_)|(refine z12 (i:=t.loop.length - 1) (by omega) gx ?_)|(refine z12 (i:=x.toNat) rfl gr ?_)|(apply y36;first|omega|(unfold inI;omega))|((apply z5)<;>intro _)|(apply z6 (k1);rfl;rfl)|(apply z6 (c2);rfl;rfl))<;>conv=>whnf)
   all_goals (exact z20 rfl (by grind))
  ·have e:trB g t=false:=by unfold trB;rw [(y64 _).mp hb];simp
   rw [(y64 _).mp hb] at k1
   rw [e]
   unfold Trace.all at *
   refine z13 z15 Tryz.func21 rfl rfl 52 Tryz.ntmps21 (by simp) ?_
   repeat' ((first|((fail_if_success apply z104 5);(fail_if_success apply z88 5);apply y76 ok;rfl)|(apply y36;(unfold inI;omega))|((apply z5)<;>intro _)|(apply z112 [] [2] [3] kn;(focus (exact z56 (z266 rfl rfl rfl rfl rfl) z84));rfl;rfl;(focus ((repeat' first|exact z17|apply z16)<;>(refine z23 ?_;((exact z4 fun _=>rfl)))));((refine .inr ⟨rfl,?_⟩;repeat' first|exact True.intro|apply y36|exact z121 (fun _=>rfl) _))))<;>conv=>whnf)
   all_goals try (exfalso;omega)
   refine y77 (SealL.reach (π:=[0,1]) (Bn:=[3]) (env:=[(2,.ptr 0 none 0),(3,.ptr 1 none 0),(5,.int t.loop.length),(6,ints (t.stem++t.loop))]) (objs:=[.cells 2 [[lst 2 State.cs g.st,lst 1 encL g.nx]],.cells 2 [[ints t.stem,ints t.loop]]]) ⟨rfl,rfl,by simp,rfl,fun o ho=>by simp at ho;rcases ho with rfl|rfl<;>rfl,⟨rfl,rfl,rfl,z777 rfl rfl rfl (by simp),trivial⟩,rfl⟩) ?_
   conv=>whnf
   repeat' ((first|(apply y76 ok;rfl)|(apply z21;kernel_rfl)|(apply z6 (k1);rfl;rfl))<;>conv=>whnf)
   all_goals exact z20 rfl rfl
 ·have e:trB g t=false:=by unfold trB;rw [y74 hs];simp
  rw [e]
  refine z13 z15 Tryz.func21 rfl rfl 52 Tryz.ntmps21 (by simp) ?_
  repeat' ((first|(apply y76 ok;rfl)|(apply y36;(unfold inI;omega))|((apply z5)<;>intro _))<;>conv=>whnf)
  all_goals first|(exfalso;omega)|exact z20 rfl rfl
def enU (n:Int):List AC:=[.raw (.int .u8 n)]
def rdO (bs:List Int) (p:Int):AObj:=.cells 2 [[lst 1 enU bs,.int p]]
structure BytesOk (bs:List Int):Prop where
 len:bs.length≤2000
 el:∀ x∈bs,0≤x∧x≤255
theorem u_at {l:List Int} {i:Nat} (h:i < l.length):(l.map enU)[i]?=some (enU l[i]):=by rw [y44,y38 h];rfl
theorem rem_at {l:List Int} {i:Int} (h:0 < l.length) (h0:0≤i):(i % (l.length:Int)).toNat < l.length:=by
 have:=Int.emod_lt_of_pos i (show (0:Int) < l.length by omega)
 have:=Int.emod_nonneg i (show (l.length:Int)≠0 by omega)
 omega
set_option maxHeartbeats 1600000 in
theorem z57 (bs:List Int) (hb:BytesOk bs) (p n:Int) (h0:0≤p) (h1:p≤1000000000) (hn:n≤1000000000):∃ v:Int,(0≤v∧(1≤n→v < n))∧CallsA Tryz.prog 92 [.ptr 0 none 0,.int n] [rdO bs p] (.int v) [rdO bs (p+1)]:=by
 have hlen:=hb.len
 by_cases hz:n < 1∨bs.length=0
 ·refine ⟨0,⟨by omega,fun _=>by omega⟩,?_⟩
  refine z13 z15 Tryz.func92 rfl rfl 99 Tryz.ntmps92 (by simp) ?_
  repeat' (first|(apply y76 ok;rfl;conv=>whnf)|(apply z21;kernel_rfl;conv=>whnf)|(apply y36;(first|omega|(unfold inI;omega));conv=>whnf)|(with_reducible apply z55;omega;intro _;conv=>whnf)|(apply z5<;>intro _<;>conv=>whnf))
  all_goals first|(exfalso;omega)|exact z110 [0] (by decide) rfl rfl rfl ⟨z24 rfl rfl,trivial⟩
 by_cases hk:p < bs.length
 ·have hp:(p+1 - 1).toNat < bs.length:=by omega
  have g0:=u_at (l:=bs) (i:=(p+1 - 1).toNat) hp
  have hr:=hb.el bs[(p+1 - 1).toNat] (y37 _)
  generalize bs[(p+1 - 1).toNat]=b at *
  have hw:IntKind.i64.wrap b=b:=IntWalk.i64_in _ (by omega)
  refine ⟨b % n,⟨Int.emod_nonneg _ (by omega),fun _=>Int.emod_lt_of_pos _ (by omega)⟩,?_⟩
  refine z13 z15 Tryz.func92 rfl rfl 99 Tryz.ntmps92 (by simp) ?_
  repeat' (first|(apply y76 ok;rfl;conv=>whnf)|(apply z21;kernel_rfl;conv=>whnf)|(refine z12 (i:=(p+1 - 1).toNat) rfl g0 ?_;conv=>whnf)|(apply y36;(first|omega|(unfold inI;omega));conv=>whnf)|(with_reducible apply z55;omega;intro _;conv=>whnf)|(apply z5<;>intro _<;>conv=>whnf))
  all_goals first|(exfalso;omega)|exact z110 [0] (by decide) rfl rfl rfl ⟨z24 rfl rfl,trivial⟩
 have hl0:0 < bs.length:=by omega
 have m1:=rem_at (l:=bs) (i:=p+1 - 1) hl0 (by omega)
 have m2:=rem_at (l:=bs) (i:=(p+1 - 1) * 7+3) hl0 (by omega)
 have g1:=u_at m1
 have g2:=u_at m2
 have r1:=hb.el bs[((p+1 - 1) % (bs.length:Int)).toNat] (y37 _)
 have r2:=hb.el bs[(((p+1 - 1) * 7+3) % (bs.length:Int)).toNat] (y37 _)
 generalize bs[((p+1 - 1) % (bs.length:Int)).toNat]=b1 at *
 generalize bs[(((p+1 - 1) * 7+3) % (bs.length:Int)).toNat]=b2 at *
 have w1:IntKind.i64.wrap b1=b1:=IntWalk.i64_in _ (by omega)
 have w2:IntKind.i64.wrap b2=b2:=IntWalk.i64_in _ (by omega)
 have n1:=Int.emod_nonneg (p+1 - 1) (show (bs.length:Int)≠0 by omega)
 have n2:=Int.emod_nonneg ((p+1 - 1) * 7+3) (show (bs.length:Int)≠0 by omega)
 have l1:=Int.emod_lt_of_pos (p+1 - 1) (show (0:Int) < bs.length by omega)
 have l2:=Int.emod_lt_of_pos ((p+1 - 1) * 7+3) (show (0:Int) < bs.length by omega)
 have q0:0≤(p+1 - 1) / (bs.length:Int):=Int.ediv_nonneg (by omega) (by omega)
 have q1:(p+1 - 1) / (bs.length:Int)≤p+1 - 1:=Int.ediv_le_self _ (by omega)
 have hx0:0≤b1 * 131+b2 * 1117+(p+1 - 1) * 29+(p+1 - 1) / (bs.length:Int) * 53:=by omega
 have hx1:b1 * 131+b2 * 1117+(p+1 - 1) * 29+(p+1 - 1) / (bs.length:Int) * 53≤1000000000000:=by omega
 have hq:0≤(b1 * 131+b2 * 1117+(p+1 - 1) * 29+(p+1 - 1) / (bs.length:Int) * 53) / 64∧(b1 * 131+b2 * 1117+(p+1 - 1) * 29+(p+1 - 1) / (bs.length:Int) * 53) / 64≤1000000000000:=by omega
 refine ⟨(((b1 * 131+b2 * 1117+(p+1 - 1) * 29+(p+1 - 1) / (bs.length:Int) * 53).toNat ^^^ ((b1 * 131+b2 * 1117+(p+1 - 1) * 29+(p+1 - 1) / (bs.length:Int) * 53) / 64).toNat:Nat):Int) % n,⟨Int.emod_nonneg _ (by omega),fun _=>Int.emod_lt_of_pos _ (by omega)⟩,?_⟩
 refine z13 z15 Tryz.func92 rfl rfl 99 Tryz.ntmps92 (by simp) ?_
 repeat' (first|(apply y76 ok;rfl;conv=>whnf)|(apply z21;kernel_rfl;conv=>whnf)|(refine z12 (i:=(((p+1 - 1) * 7+3) % (bs.length:Int)).toNat) rfl g2 ?_;conv=>whnf)|(refine z12 (i:=((p+1 - 1) % (bs.length:Int)).toNat) rfl g1 ?_;conv=>whnf)|(apply y36;(first|omega|(unfold inI;omega)|(unfold z106;omega));conv=>whnf)|(with_reducible apply z55;omega;intro _;conv=>whnf)|(apply z5<;>intro _<;>conv=>whnf))
 all_goals first|(exfalso;omega)|exact z110 [0] (by decide) rfl rfl rfl ⟨z24 rfl rfl,trivial⟩
theorem z427 (bs:List Int) (hl:bs.length≤maxLen):CallsA Tryz.prog 61 [lst 1 enU bs] [] (.ptr 0 none 0) [rdO (bs.take 2000) 0]:=by
 unfold maxLen at hl
 refine z13 z15 Tryz.func61 rfl rfl 11 Tryz.ntmps61 (by simp) ?_
 by_cases h:bs.length≤2000
 ·rw [y50 h]
  repeat' (first|(apply y76 ok;rfl;conv=>whnf)|(apply y36;(omega);conv=>whnf)|(apply z5<;>intro _<;>conv=>whnf))
  all_goals first|(exfalso;omega)|exact z110 [0] (by decide) rfl rfl rfl ⟨z24 rfl rfl,trivial⟩
 ·repeat' (first|(apply y76 ok;rfl;conv=>whnf)|(apply y36;(omega);conv=>whnf)|(apply z5<;>intro _<;>conv=>whnf))
  all_goals try (exfalso;omega)
  all_goals exact z110 [0] (by decide) rfl rfl rfl ⟨z24 rfl (congrArg (fun x=>AObj.cells 2 [[x,AC.int 0]]) (z311 1 enU bs 2000 (by omega))),trivial⟩
theorem z98 (bs:List Int) (hb:BytesOk bs) (p:Int) (h0:0≤p) (h1:p≤1000000000) (l:List Int) (hl:0 < l.length) (hl2:l.length≤1000):∃ v:Int,v∈l∧CallsA Tryz.prog 133 [.ptr 0 none 0,.sref 1 0 l.length] [rdO bs p,.cells 1 (l.map enI)] (.int v) [rdO bs (p+1),.cells 1 (l.map enI)]:=by
 obtain ⟨k,⟨hk0,hk1⟩,hc⟩:=z57 bs hb p l.length h0 h1 (by omega)
 have hk:k.toNat < l.length:=by omega
 have g0:(l.map enI)[k.toNat]?=some (enI l[k.toNat]):=by rw [y44,y38 hk];rfl
 refine ⟨l[k.toNat],y37 _,?_⟩
 generalize l[k.toNat]=v at *
 refine z13 z15 Tryz.func133 rfl rfl 12 Tryz.ntmps133 (by simp) ?_
 repeat' (first|(apply y76 ok;rfl;conv=>whnf)|(refine z12 (i:=k.toNat) rfl g0 ?_;conv=>whnf)|(apply y36;(omega);conv=>whnf)|(apply z320 [0] [] [] (hc);rfl;(focus ((repeat' (first|exact z59|apply z66))<;>(rfl)));rfl;rfl;rfl;rfl;rfl;(focus ((repeat' (first|exact z17|apply z16))<;>(exact z44 rfl rfl)));(exact .inl rfl);conv=>whnf))
 all_goals (exact z110 [0,1] (by decide) rfl rfl rfl ⟨z24 rfl rfl,z39 rfl (z4 fun _=>rfl),trivial⟩)
end Go.Proofs.YtahhobgjcfionaaGreat
namespace Go.Proofs.YtahhobgjcfionaaGreat
open Go.Gl
attribute [local irreducible] z29 AWP z46 z50 z47 RetS z58
theorem z175 (t:Tree):t.sz≤maxLen→t.mx:=by
 induction t using y24 with|h t ih=>?_
 intro h
 rw [y25]
 rw [y33] at h
 refine ⟨by omega,fun u hu=>ih u hu ?_⟩
 have:=z449 Tree.sz hu
 omega
abbrev few (p:Int):Prop:=0≤p∧p≤999999000
abbrev few1 (p:Int):Prop:=0≤p∧p≤999990000
abbrev few2 (p:Int):Prop:=0≤p∧p≤999900000
abbrev few3 (p:Int):Prop:=0≤p∧p≤999000000
def leaf (k v:Int):Tree:=.mk k v []
theorem z100 (k v:Int):(leaf k v).sz=0:=rfl
theorem z325 (k v:Int) (l:List Tree):(Tree.mk k v l).sz=l.length+(l.map Tree.sz).sum:=y33 _
set_option maxHeartbeats 1600000 in
theorem z597 (bs:List Int) (hb:BytesOk bs) (p:Int) (hp:few p):∃ (t:Tree) (p' : Int),(t.sz≤3∧p≤p'∧p'≤p+5)∧CallsA Tryz.prog 131 [.ptr 0 none 0] [rdO bs p] (z52 Tree.cs' t) [rdO bs p']:=by
 obtain ⟨v0,⟨l0,u0⟩,c0⟩:=z57 bs hb p 3 (by omega) (by omega) (by omega)
 by_cases h0:v0=0
 ·subst h0
  refine ⟨leaf 1 1,p+1,⟨by rw [z100];omega,by omega,by omega⟩,?_⟩
  refine z7 z15 Tryz.func131 rfl rfl 31 Tryz.ntmps131 (by simp) ?_
  repeat' ((first|(apply y76 ok;rfl)|(apply z18 [0] [] c0;rfl;rfl;rfl))<;>conv=>whnf)
  all_goals (refine rsD [0] [] rfl ?_;(repeat' first|exact y78 _|exact z53|apply y79|apply z41|constructor))
 ·obtain ⟨v1,m1,c1⟩:=z98 bs hb (p+1) (by omega) (by omega) [0,1,0,2] (by decide) (by decide)
  obtain ⟨v2,⟨l2,u2⟩,c2⟩:=z57 bs hb (p+1+1) 3 (by omega) (by omega) (by omega)
  obtain ⟨v3,m3,c3⟩:=z98 bs hb (p+1+1+1) (by omega) (by omega) [6,7,6] (by decide) (by decide)
  obtain ⟨v4,⟨l4,u4⟩,c4⟩:=z57 bs hb (p+1+1+1+1) 5 (by omega) (by omega) (by omega)
  have z0:v0≠0:=h0
  by_cases h4:v4=0
  ·subst h4
   refine ⟨.mk 3 0 [.mk v3 0 [leaf 2 v1,leaf 1 v2]],p+1+1+1+1+1,⟨by simp [z325,z100],by omega,by omega⟩,?_⟩
   refine z7 z15 Tryz.func131 rfl rfl 31 Tryz.ntmps131 (by simp) ?_
   repeat' ((first|(apply y76 ok;rfl)|(apply z21;kernel_rfl)|((apply z5)<;>intro _)|((first|(apply z11 [0] [] c0;rfl;rfl)|(apply z11 [0,2] [] c1;rfl;rfl)|(apply z11 [0] [] c2;rfl;rfl)|(apply z11 [0,5] [] c3;rfl;rfl)|(apply z11 [0] [] c4;rfl;rfl));rfl;(focus ((repeat' first|exact z17|apply z16)<;>first|exact z44 rfl rfl|(refine z23 ?_;((exact z4 fun _=>rfl)))))))<;>conv=>whnf)
   all_goals try (exfalso;omega)
   all_goals (refine rsL [0,8] [6] rfl ?_;refine rsD [0] [1] rfl ?_;(repeat' first|exact y78 _|exact z53|apply y79|((first|apply z36 rfl rfl rfl|apply z89 rfl rfl rfl);(focus ((repeat (rfl));done));(focus ((rfl);done)))|apply z41|(apply z81;rfl)|constructor))
  ·refine ⟨.mk v3 0 [leaf 2 v1,leaf 1 v2],p+1+1+1+1+1,⟨by simp [z325,z100],by omega,by omega⟩,?_⟩
   refine z7 z15 Tryz.func131 rfl rfl 31 Tryz.ntmps131 (by simp) ?_
   repeat' ((first|(apply y76 ok;rfl)|(apply z21;kernel_rfl)|((apply z5)<;>intro _)|((first|(apply z11 [0] [] c0;rfl;rfl)|(apply z11 [0,2] [] c1;rfl;rfl)|(apply z11 [0] [] c2;rfl;rfl)|(apply z11 [0,5] [] c3;rfl;rfl)|(apply z11 [0] [] c4;rfl;rfl));rfl;(focus ((repeat' first|exact z17|apply z16)<;>first|exact z44 rfl rfl|(refine z23 ?_;((exact z4 fun _=>rfl)))))))<;>conv=>whnf)
   all_goals try (exfalso;omega)
   all_goals (refine rsD [0] [6] rfl ?_;(repeat' first|exact y78 _|exact z53|apply y79|refine z36 rfl rfl rfl rfl rfl ?_|apply z41|(apply z81;rfl)|constructor))
def drK:Nat→Int
 |0=>4
 |n+1=>4+2 * drK n
def drS:Nat→Nat
 |0=>0
 |n+1=>2+2 * drS n
theorem z1128 (n:Nat):4≤drK n:=by induction n with
 |zero=>decide
 |succ n ih=>rw [drK];omega
set_option maxHeartbeats 1600000 in
theorem z848 (bs:List Int) (hb:BytesOk bs):∀ (n:Nat) (d p:Int),d≤n+1→n≤100→0≤d→0≤p→p+drK n≤1000000000→∃ (t:Tree) (p' : Int),(t.sz≤drS n∧p≤p'∧p'≤p+drK n)∧CallsA Tryz.prog 265 [.ptr 0 none 0,.int d] [rdO bs p] (z52 Tree.cs' t) [rdO bs p']:=by
 intro n
 induction n with
 |zero =>
  intro d p hd hd1 hd0 hp hq
  rw [drK] at hq ⊢
  obtain ⟨v0,⟨l0,u0⟩,c0⟩:=z57 bs hb p 3 (by omega) (by omega) (by omega)
  by_cases h0:v0=0
  ·subst h0
   obtain ⟨v1,⟨l1,u1⟩,c1⟩:=z57 bs hb (p+1) 4 (by omega) (by omega) (by omega)
   refine ⟨leaf 1 v1,p+1+1,⟨by rw [z100];omega,by omega,by omega⟩,?_⟩
   refine z7 z15 Tryz.func265 rfl rfl 46 Tryz.ntmps265 (by simp) ?_
   repeat' ((first|(apply y76 ok;rfl)|((apply z5)<;>intro _)|((first|(apply z18 [0] [] c0;rfl;rfl)|(apply z18 [0] [] c1;rfl;rfl));rfl))<;>conv=>whnf)
   all_goals try (exfalso;omega)
   all_goals (refine rsD [0] [] rfl ?_;(repeat' first|exact y78 _|exact z53|apply y79|apply z41|constructor))
  ·obtain ⟨v1,m1,c1⟩:=z98 bs hb (p+1) (by omega) (by omega) [0,1,0,2] (by decide) (by decide)
   refine ⟨leaf 2 v1,p+1+1,⟨by rw [z100];omega,by omega,by omega⟩,?_⟩
   refine z7 z15 Tryz.func265 rfl rfl 46 Tryz.ntmps265 (by simp) ?_
   repeat' ((first|(apply y76 ok;rfl)|((apply z5)<;>intro _)|((first|(apply z11 [0] [] c0;rfl;rfl)|(apply z11 [0,2] [] c1;rfl;rfl));rfl;(focus ((repeat' first|exact z17|apply z16)<;>first|exact z44 rfl rfl|(refine z23 ?_;((exact z4 fun _=>rfl)))))))<;>conv=>whnf)
   all_goals try (exfalso;omega)
   all_goals (refine rsD [0] [] rfl ?_;(repeat' first|exact y78 _|exact z53|apply y79|apply z41|constructor))
 |succ n ih =>
  intro d p hd hd1 hd0 hp hq
  have hK:=z1128 n
  by_cases hlt:d < 2
  ·obtain ⟨t,p',h1,h2⟩:=ih d p (by omega) (by omega) hd0 hp (by rw [drK] at hq;omega)
   exact ⟨t,p',⟨by rw [drS];omega,h1.2.1,by rw [drK];omega⟩,h2⟩
  rw [drK] at hq
  rw [drK,drS]
  obtain ⟨w,⟨lw,uw⟩,cw⟩:=z57 bs hb p 5 (by omega) (by omega) (by omega)
  by_cases hw:w=0
  ·subst hw
   obtain ⟨v0,⟨l0,u0⟩,c0⟩:=z57 bs hb (p+1) 3 (by omega) (by omega) (by omega)
   by_cases h0:v0=0
   ·subst h0
    obtain ⟨v1,⟨l1,u1⟩,c1⟩:=z57 bs hb (p+1+1) 4 (by omega) (by omega) (by omega)
    refine ⟨leaf 1 v1,p+1+1+1,⟨by rw [z100];omega,by omega,by omega⟩,?_⟩
    refine z7 z15 Tryz.func265 rfl rfl 46 Tryz.ntmps265 (by simp) ?_
    repeat' ((first|(apply y76 ok;rfl)|((apply z5)<;>intro _)|((first|(apply z18 [0] [] cw;rfl;rfl)|(apply z18 [0] [] c0;rfl;rfl)|(apply z18 [0] [] c1;rfl;rfl));rfl))<;>conv=>whnf)
    all_goals try (exfalso;omega)
    all_goals (refine rsD [0] [] rfl ?_;(repeat' first|exact y78 _|exact z53|apply y79|apply z41|constructor))
   ·obtain ⟨v1,m1,c1⟩:=z98 bs hb (p+1+1) (by omega) (by omega) [0,1,0,2] (by decide) (by decide)
    refine ⟨leaf 2 v1,p+1+1+1,⟨by rw [z100];omega,by omega,by omega⟩,?_⟩
    refine z7 z15 Tryz.func265 rfl rfl 46 Tryz.ntmps265 (by simp) ?_
    repeat' ((first|(apply y76 ok;rfl)|((apply z5)<;>intro _)|((first|(apply z11 [0] [] cw;rfl;rfl)|(apply z11 [0] [] c0;rfl;rfl)|(apply z11 [0,2] [] c1;rfl;rfl));rfl;(focus ((repeat' first|exact z17|apply z16)<;>first|exact z44 rfl rfl|(refine z23 ?_;((exact z4 fun _=>rfl)))))))<;>conv=>whnf)
    all_goals try (exfalso;omega)
    all_goals (refine rsD [0] [] rfl ?_;(repeat' first|exact y78 _|exact z53|apply y79|apply z41|constructor))
  ·obtain ⟨kd,mk,ck⟩:=z98 bs hb (p+1) (by omega) (by omega) [6,8,7,4,3,5,9] (by decide) (by decide)
   have ca:=z598 kd
   have ham:∃ m:Nat,z329 kd=m∧m≤2:=by
    simp only [List.mem_cons,List.not_mem_nil,or_false] at mk
    unfold z329
    rcases mk with rfl|rfl|rfl|rfl|rfl|rfl|rfl
    all_goals first|exact ⟨2,rfl,by omega⟩|exact ⟨1,rfl,by omega⟩
   obtain ⟨m,em,hm⟩:=ham
   rw [em] at ca
   obtain ⟨ks,pf,hks,hp0,hst,hpf⟩:=z271 (fun k q (t:Tree) q'=>t.sz≤drS n∧CallsA Tryz.prog 265 [.ptr 0 none 0,.int (d - 1)] [rdO bs q] (z52 Tree.cs' t) [rdO bs q']) (p+1+1) (drK n) m (fun k q hk h1 h2=>by
    have:drK n * k≤drK n:=by
     have:k=0∨k=1:=by omega
     rcases this with rfl|rfl<;>simp<;>omega
    obtain ⟨t,q',⟨a1,a2,a3⟩,a4⟩:=ih (d - 1) q (by omega) (by omega) (by omega) (by omega) (by omega)
    exact ⟨t,q',⟨a1,a4⟩,a2,a3⟩)
   have hpm:=hpf m (y45 _)
   have hKm:drK n * m≤2 * drK n:=by
    have:m=0∨m=1∨m=2:=by omega
    rcases this with rfl|rfl|rfl<;>simp<;>omega
   have hsum:(ks.map Tree.sz).sum≤2 * drS n:=by
    have:∀ (l:List Tree),(∀ t∈l,t.sz≤drS n)→(l.map Tree.sz).sum≤l.length * drS n:=by
     intro l
     induction l with
     |nil=>intro _;simp
     |cons t l ih =>
      intro h
      have h1:=h t (by simp)
      have h2:=ih fun u hu=>h u (by simp [hu])
      simp only [List.map_cons,List.sum_cons,y51,Nat.add_mul]
      omega
    have h1:=this ks fun t ht=>by
     obtain ⟨i,hi,rfl⟩:=List.mem_iff_getElem.1 ht
     exact (hst i hi).1
    have h2:ks.length * drS n≤2 * drS n:=Nat.mul_le_mul_right _ (by omega)
    omega
   refine ⟨.mk kd 0 ks,pf m,⟨by rw [z325];omega,by omega,by omega⟩,?_⟩
   refine z7 z15 Tryz.func265 rfl rfl 46 Tryz.ntmps265 (by simp) ?_
   rw [← hp0] at ck
   repeat' ((first|(apply y76 ok;rfl)|((apply z5)<;>intro _)|(apply z6 (ca);rfl;rfl)|((first|(apply z11 [0] [] cw;rfl;rfl)|(apply z11 [0,2] [] ck;rfl;rfl));rfl;(focus ((repeat' first|exact z17|apply z16)<;>first|exact z44 rfl rfl|(refine z23 ?_;((exact z4 fun _=>rfl)))))))<;>conv=>whnf)
   all_goals try (exfalso;omega)
   refine y77 (y81 3 rfl) ?_
   refine z65 (fun k:Nat=>([(0,.ptr 0 none 0),(1,.int d),(4,.ptr 1 none 0),(6,.ptr 2 none 0),(7,.int (m - k))],[rdO bs (pf k),.cells 3 [[.int 0,.int 0,.nils]],.cells 3 [[.int kd,.int 0,.sref 3 0 k]],.cells 3 ((ks.take k).map Tree.cs')])) (fun k=>k≤m) (fun k=>m - k) 0 (by omega) (by refine swR [0,1,3,4] [] rfl rfl ?_;(repeat' first|exact y78 _|exact z48|apply y79|refine z10 rfl (z34) ?_|constructor)) ?_
   intro k hk
   by_cases hkm:k < m
   ·have hc:=(hst k (by omega)).2
    have hkl:k < ks.length:=by omega
    rw [y14] at hc
    repeat' ((first|(apply y76 ok;rfl)|(apply z21;kernel_rfl)|(apply y36;first|(unfold inI;omega)|((try dsimp only);simp only [y42,y41,y40,y39,y51,y52];omega)|exact ⟨rfl,z19 rfl z26⟩)|((apply z5)<;>intro _)|(apply z18 [0] [] hc;rfl;rfl;rfl))<;>conv=>whnf)
    all_goals try (exfalso;omega)
    refine z25 (k+1) (by omega) (by omega) (by refine swR [0,1,2,5] [] rfl rfl ?_;(repeat' first|exact y78 _|exact z388|(refine z105 ?_;omega)|apply y79|((refine z33 rfl ?_ ?_);(focus ((repeat' (first|exact z4 (fun _=>rfl)|apply z22));done)))|refine z119 (by omega) (by omega) ?_|(apply z81;rfl)|constructor))
   ·have:k=m:=by omega
    subst this
    repeat' ((first|(apply y76 ok;rfl)|(apply y36;omega)|((apply z5)<;>intro _))<;>conv=>whnf)
    all_goals try (exfalso;omega)
    all_goals (refine rsD [0] [3] rfl ?_;(repeat' first|exact y78 _|(refine z530 ?_;omega)|apply y79|((apply z36 rfl rfl rfl);(focus ((repeat ((exact z31 (fun _=>rfl) _)));done));(focus (((simp;omega));done)))|apply z41|constructor))
theorem z1100 (bs:List Int) (hb:BytesOk bs) (p:Int) (hp:few p):∃ (t:Tree) (p' : Int),(t.sz≤20∧p≤p'∧p'≤p+100)∧CallsA Tryz.prog 244 [.ptr 0 none 0] [rdO bs p] (z52 Tree.cs' t) [rdO bs p']:=by
 obtain ⟨d,md,cd⟩:=z98 bs hb p (by omega) (by omega) [3,2,3,4] (by decide) (by decide)
 have hd:0≤d∧d≤4:=by simp at md;omega
 obtain ⟨t,q,⟨t1,t2,t3⟩,ct⟩:=z848 bs hb 3 d (p+1) (by omega) (by omega) (by omega) (by omega) (by simp only [drK];omega)
 simp only [drK] at t3
 simp only [drS] at t1
 have cv:=z141 t (z175 t (by unfold maxLen;omega))
 by_cases hv:t.exprB=true
 ·refine ⟨t,q,⟨by omega,by omega,by omega⟩,?_⟩
  rw [hv] at cv
  rw [y14] at *
  refine z7 z15 Tryz.func244 rfl rfl 15 Tryz.ntmps244 (by simp) ?_
  repeat' ((first|(apply y76 ok;rfl)|(apply z6 (cv);rfl;rfl)|((first|(apply z11 [0,2] [] cd;rfl;rfl)|(apply z11 [0] [] ct;rfl;rfl));rfl;(focus ((repeat' first|exact z17|apply z16)<;>first|exact z44 rfl rfl|(refine z23 ?_;((exact z4 fun _=>rfl)))))))<;>conv=>whnf)
  all_goals (refine rsD [0] [] rfl ?_;(repeat' first|exact y78 _|apply y79|constructor))
 ·obtain ⟨w,⟨lw,uw⟩,cw⟩:=z57 bs hb q 3 (by omega) (by omega) (by omega)
  refine ⟨leaf 2 w,q+1,⟨by rw [z100];omega,by omega,by omega⟩,?_⟩
  rw [(y64 _).mp hv] at cv
  rw [y14] at cv ct
  refine z7 z15 Tryz.func244 rfl rfl 15 Tryz.ntmps244 (by simp) ?_
  repeat' ((first|(apply y76 ok;rfl)|(apply z6 (cv);rfl;rfl)|((first|(apply z11 [0,2] [] cd;rfl;rfl)|(apply z11 [0] [] ct;rfl;rfl)|(apply z11 [0] [] cw;rfl;rfl));rfl;(focus ((repeat' first|exact z17|apply z16)<;>first|exact z44 rfl rfl|(refine z23 ?_;((exact z4 fun _=>rfl)))))))<;>conv=>whnf)
  all_goals (refine rsD [0] [] rfl ?_;(repeat' first|exact y78 _|exact z53|apply y79|apply z41|constructor))
mutual
def subZ (t:Tree):Tree:=match t with
 |.mk k v l=>if k=2∧v=-1 then .mk 0 0 [] else .mk k v (z1033 l)
def z1033 (l:List Tree):List Tree:=match l with
 |[]=>[]
 |t::r=>subZ t::z1033 r
end
theorem z889 (l:List Tree):z1033 l=l.map subZ:=by
 induction l with
 |nil=>simp [z1033]
 |cons t l ih=>simp [z1033,ih]
theorem subZ_sz (t:Tree):(subZ t).sz≤t.sz:=by
 induction t using y24 with|h t ih=>?_
 cases t with
 |mk k v l =>
  rw [subZ]
  split
  ·rw [z325];simp
  ·rw [z889,z325,z325]
   simp only [Tree.kids] at ih
   have key:∀ l:List Tree,(∀ u∈l,(subZ u).sz≤u.sz)→((l.map subZ).map Tree.sz).sum≤(l.map Tree.sz).sum:=by
    intro l
    induction l with
    |nil=>intro _;simp
    |cons t l ihl =>
     intro ih
     have h1:=ih t (by simp)
     have h2:=ihl fun u hu=>ih u (by simp [hu])
     simp only [List.map_cons,List.sum_cons]
     omega
   have:=key l ih
   simp only [y42]
   omega
def z795:AC:=.agg [.int 0,.int 0,.nils]
def ownT (t:Tree):AC:=.agg [.int t.kind,.int t.val,.sref 0 0 t.kids.length]
theorem z944:CallsA Tryz.prog 187 [z795,.int (-1),z795] [] (ownT (.mk 0 0 [])) [.cells 3 []]:=by
 refine z7 z15 Tryz.func187 rfl rfl 47 Tryz.ntmps187 (by simp) ?_
 repeat' (((apply y76 ok;rfl))<;>conv=>whnf)
 refine z94 (fun _:Nat=>([(6,.ptr 0 none 0),(7,.ptr 1 none 0),(8,.int 0),(3,.ptr 2 none 0)],[.cells 3 [[.int 0,.int 0,.nils]],.cells 3 [[.int 0,.int 0,.nils]],.cells 3 [[.int 0,.int 0,.nils]]])) (fun _=>True) (fun _=>0) 0 trivial ⟨[2,3,0],rfl,by decide,rfl,by repeat' (first|exact True.intro|exact ⟨rfl,rfl⟩|apply y36),by repeat' (first|exact True.intro|exact z24 rfl rfl|apply y36)⟩ ?_
 intro k hk
 repeat' (((apply y76 ok;rfl))<;>conv=>whnf)
 all_goals (refine rsL [] [] rfl ?_;refine y82 3 ?_;refine RetS.done ?_ ?_<;>(repeat' first|exact y78 _|exact z48|apply z41|apply ObjLe.mk|constructor))
theorem z648 {f:FuncId} {args:List AC} {t:Tree} (h:CallsA Tryz.prog f args [] (ownT t) [.cells 3 (t.kids.map Tree.cs')]):CallsA Tryz.prog f args [] (z52 Tree.cs' t) []:=by
 rw [y14]
 exact (by refine y4 (h) [] [0] rfl rfl rfl ?_ ?_<;>(repeat' first|exact y78 _|((apply z36 rfl rfl rfl);(focus ((repeat ((exact z31 (fun _=>rfl) _)));done));(focus (((simp;done));done)))|apply z41|constructor))
theorem z847 (t:Tree) (h:t.sz≤1000000):CallsA Tryz.prog 187 [z52 Tree.cs' t,.int (-1),z795] [] (ownT (subZ t)) [.cells 3 ((subZ t).kids.map Tree.cs')]:=by
 induction t using y24 with|h t ih=>?_
 have hkl:t.kids.length≤1000000:=by rw [y33] at h;omega
 have hks:∀ u∈t.kids,u.sz≤1000000:=fun u hu=>by
  have:=z449 Tree.sz hu
  rw [y33] at h;omega
 rw [y14 t]
 obtain ⟨k,v,l⟩:=t
 simp only [Tree.kind,Tree.val,Tree.kids] at *
 rw [subZ]
 by_cases hz:k=2∧v=-1
 ·obtain ⟨rfl,rfl⟩:=hz
  rw [if_pos ⟨rfl,rfl⟩]
  have c:=z944
  unfold z795 ownT at *
  refine z7 z15 Tryz.func187 rfl rfl 47 Tryz.ntmps187 (by simp) ?_
  repeat' ((first|(apply y76 ok;rfl)|(apply z11 [] [3] c;rfl;rfl;rfl;(focus ((repeat' first|exact z17|apply z16)<;>(refine z23 ?_;(exact z34))))))<;>conv=>whnf)
  all_goals (refine rsD [3] [] rfl ?_;(repeat' first|exact y78 _|refine z10 rfl (z34) ?_|constructor))
 ·rw [if_neg hz,z889]
  have hcs:∀ (i:Nat) (hi:i < l.length) (hi2:i < (l.map subZ).length),CallsA Tryz.prog 187 [z52 Tree.cs' l[i],.int (-1),z795] [] (z52 Tree.cs' (l.map subZ)[i]) []:=fun i hi hi2=>by
   rw [List.getElem_map]
   exact z648 (ih _ (y37 _) (hks _ (y37 _)))
  have hll:(l.map subZ).length=l.length:=y42 ..
  generalize l.map subZ=L at *
  unfold z795 ownT at *
  simp only [Tree.kind,Tree.val,Tree.kids] at *
  rw [hll]
  refine z7 z15 Tryz.func187 rfl rfl 47 Tryz.ntmps187 (by simp) ?_
  by_cases h2:k=2
  all_goals
   repeat' ((first|(apply y76 ok;rfl)|((apply z5)<;>intro _))<;>conv=>whnf)
   all_goals try (exfalso;omega)
   refine y77 (y81 3 rfl) ?_
   refine z65 (fun i:Nat=>([(1,.int (-1)),(3,.ptr 0 none 0),(5,.ptr 1 none 0),(6,.ptr 2 none 0),(7,.ptr 3 none 0),(8,.int i)],[.cells 3 [[.int k,.int v,lst 3 Tree.cs' l]],.cells 3 [[.int 0,.int 0,.nils]],.cells 3 [[.int 0,.int 0,.nils]],.cells 3 [[.int k,.int v,.sref 4 0 i]],.cells 3 ((L.take i).map Tree.cs')])) (fun i=>i≤l.length) (fun i=>l.length - i) 0 (by omega) (by refine swR [0,1,2,3,4] [] rfl rfl ?_;(repeat' first|exact y78 _|exact z48|apply y79|refine z10 rfl (z34) ?_|constructor)) ?_
   intro i hi
   by_cases hil:i < l.length
   ·have hiL:i < L.length:=by omega
    have hc:=hcs i hil hiL
    repeat' ((first|(apply y76 ok;rfl)|(apply z21;kernel_rfl)|(apply y36;first|omega|(unfold inI;omega)|((try dsimp only);simp only [y42,y41,y40,y39,y51,y52];omega)|exact ⟨rfl,z19 rfl z26⟩)|(((with_reducible apply z8;omega));intro _)|((apply z5)<;>intro _)|(apply z6 (hc);rfl;rfl))<;>conv=>whnf)
    all_goals try (exfalso;omega)
    refine z25 (i+1) (by omega) (by omega) (by refine swR [0,1,2,3,6] [] rfl rfl ?_;(repeat' first|exact y78 _|apply y79|((refine z33 rfl ?_ ?_);(focus ((repeat' (first|exact z4 (fun _=>rfl)|apply z22));done)))|refine z119 (by omega) (by omega) ?_|constructor))
   ·have e:i=l.length:=by omega
    subst e
    rw [y50 (show L.length≤l.length by omega)]
    repeat' ((first|(apply y76 ok;rfl)|(apply y36;omega)|(((with_reducible apply z8;omega));intro _)|((apply z5)<;>intro _))<;>conv=>whnf)
    all_goals try (exfalso;omega)
    all_goals (refine rsD [4] [] rfl ?_;(repeat' first|exact y78 _|exact z9 _|refine z10 rfl (z4 (fun _=>rfl)) ?_|constructor))
theorem z1048 {w n n2:Nat} {α:Type} {f:α→List AC} {l:List α} {x:α} {e:List AC} (hn:n=l.length) (h2:n2=l.length+1) (h:F2 LocLe e (f x)):LocLe (.list w n2 (((l.map f).take n)++[e])) (.list w (l++[x]).length ((l++[x]).map f)):=by
 subst hn
 refine z81 (by simp [h2]) ?_
 rw [y50 (by simp),y56]
 have:∀ (a:List (List AC)) {b c:List AC},F2 LocLe b c→F2 (F2 LocLe) (a++[b]) (a++[c]):=fun a b c h=>by
  induction a with
  |nil=>exact .cons h .nil
  |cons x a ih=>exact .cons (z294 x) ih
 exact this _ h
theorem z1047 {n n2:Nat} {l:List Tree} {x:Tree} {e:List AC} (hn:n=l.length) (h2:n2=l.length+1) (h:F2 LocLe e (Tree.cs' x)):LocLe (.list 3 n2 (((l.map Tree.cs').take n)++[e])) (.list 3 (l++[x]).length ((l++[x]).map Tree.cs)):=by
 rw [y15];exact z1048 hn h2 h
set_option maxHeartbeats 1600000 in
theorem z528 (bs:List Int) (hb:BytesOk bs) (p:Int) (hp:few p) (t:Tree) (ht:t.sz≤1000):∃ (t' : Tree) (p' : Int),(t'.sz≤t.sz+1∧p≤p'∧p'≤p+2)∧CallsA Tryz.prog 132 [.ptr 0 none 0,z52 Tree.cs' t] [rdO bs p] (z52 Tree.cs' t') [rdO bs p']:=by
 have cs:=z847 t (by omega)
 have hsz:=subZ_sz t
 generalize subZ t=u at *
 have hul:u.kids.length≤1000:=by rw [y33] at hsz;omega
 obtain ⟨v,⟨lv,uv⟩,cv⟩:=z57 bs hb p 40 (by omega) (by omega) (by omega)
 rw [y14 t]
 rw [y14 t] at cs
 unfold ownT z795 at cs
 by_cases h0:v=0
 ·subst h0
  obtain ⟨k,mk,ck⟩:=z98 bs hb (p+1) (by omega) (by omega) [0,10,-1,1,2,3,4] (by decide) (by decide)
  refine ⟨.mk k u.val u.kids,p+1+1,⟨by rw [z325];rw [y33] at hsz;omega,by omega,by omega⟩,?_⟩
  refine z7 z15 Tryz.func132 rfl rfl 35 Tryz.ntmps132 (by simp) ?_
  repeat' ((first|(apply y76 ok;rfl)|((first|(apply z11 [] [3] cs;rfl;rfl)|(apply z11 [0] [] cv;rfl;rfl)|(apply z11 [0,5] [] ck;rfl;rfl));rfl;(focus ((repeat' first|exact z17|apply z16)<;>first|exact z44 rfl rfl|(refine z23 ?_;((exact z4 fun _=>rfl)))))))<;>conv=>whnf)
  all_goals (refine rsD [0] [3] rfl ?_;(repeat' first|exact y78 _|exact z388|apply y79|((apply z36 rfl rfl rfl);(focus ((repeat ((exact z31 (fun _=>rfl) _)));done));(focus (((simp;done));done)))|apply z41|(apply z81;rfl)|constructor))
 by_cases h1:v=1
 ·subst h1
  obtain ⟨k,mk,ck⟩:=z98 bs hb (p+1) (by omega) (by omega) [-1,4,3,9223372036854775807] (by decide) (by decide)
  refine ⟨.mk u.kind k u.kids,p+1+1,⟨by rw [z325];rw [y33] at hsz;omega,by omega,by omega⟩,?_⟩
  refine z7 z15 Tryz.func132 rfl rfl 35 Tryz.ntmps132 (by simp) ?_
  repeat' ((first|(apply y76 ok;rfl)|((first|(apply z11 [] [3] cs;rfl;rfl)|(apply z11 [0] [] cv;rfl;rfl)|(apply z11 [0,5] [] ck;rfl;rfl));rfl;(focus ((repeat' first|exact z17|apply z16)<;>first|exact z44 rfl rfl|(refine z23 ?_;((exact z4 fun _=>rfl)))))))<;>conv=>whnf)
  all_goals (refine rsD [0] [3] rfl ?_;(repeat' first|exact y78 _|exact z388|apply y79|((apply z36 rfl rfl rfl);(focus ((repeat ((exact z31 (fun _=>rfl) _)));done));(focus (((simp;done));done)))|apply z41|(apply z81;rfl)|constructor))
 by_cases h2:v=2
 ·subst h2
  refine ⟨.mk u.kind u.val (u.kids++[leaf 1 0]),p+1,⟨by rw [z325];rw [y33] at hsz;simp [z100];omega,by omega,by omega⟩,?_⟩
  refine z7 z15 Tryz.func132 rfl rfl 35 Tryz.ntmps132 (by simp) ?_
  repeat' ((first|(apply y76 ok;rfl)|(apply y36;first|((try dsimp only);simp only [y42,y41,y40,y39,y51,y52];omega)|exact ⟨rfl,z19 rfl z26⟩)|((first|(apply z11 [] [3] cs;rfl;rfl)|(apply z11 [0] [] cv;rfl;rfl));rfl;(focus ((repeat' first|exact z17|apply z16)<;>first|exact z44 rfl rfl|(refine z23 ?_;((exact z4 fun _=>rfl)))))))<;>conv=>whnf)
  all_goals (refine rsD [0] [6] rfl ?_;(repeat' first|exact y78 _|apply y79|((apply z36 rfl rfl rfl);(focus ((repeat (first|exact z31 (fun _=>rfl) _|apply z198|apply z309|rfl));done));(focus (((simp;done));done)))|apply z41|constructor))
  all_goals exact z1047 rfl rfl (node_le' z53)
 by_cases h3:v=3
 ·subst h3
  refine ⟨leaf 0 0,p+1,⟨by rw [z100];omega,by omega,by omega⟩,?_⟩
  refine z7 z15 Tryz.func132 rfl rfl 35 Tryz.ntmps132 (by simp) ?_
  repeat' ((first|(apply y76 ok;rfl)|((first|(apply z11 [] [3] cs;rfl;rfl)|(apply z11 [0] [] cv;rfl;rfl));rfl;(focus ((repeat' first|exact z17|apply z16)<;>first|exact z44 rfl rfl|(refine z23 ?_;((exact z4 fun _=>rfl)))))))<;>conv=>whnf)
  all_goals (refine rsD [0] [] rfl ?_;(repeat' first|exact y78 _|exact z53|apply y79|apply z41|constructor))
 ·refine ⟨.mk u.kind u.val u.kids,p+1,⟨by rw [z325];rw [y33] at hsz;omega,by omega,by omega⟩,?_⟩
  refine z7 z15 Tryz.func132 rfl rfl 35 Tryz.ntmps132 (by simp) ?_
  repeat' ((first|(apply y76 ok;rfl)|(apply y36;omega)|((apply z5)<;>intro _)|((first|(apply z11 [] [3] cs;rfl;rfl)|(apply z11 [0] [] cv;rfl;rfl));rfl;(focus ((repeat' first|exact z17|apply z16)<;>first|exact z44 rfl rfl|(refine z23 ?_;((exact z4 fun _=>rfl)))))))<;>conv=>whnf)
  all_goals try (exfalso;omega)
  all_goals (refine rsD [0] [3] rfl ?_;(repeat' first|exact y78 _|exact z388|apply y79|((apply z36 rfl rfl rfl);(focus ((repeat ((exact z31 (fun _=>rfl) _)));done));(focus (((simp;done));done)))|apply z41|(apply z81;rfl)|constructor))
end Go.Proofs.YtahhobgjcfionaaGreat
