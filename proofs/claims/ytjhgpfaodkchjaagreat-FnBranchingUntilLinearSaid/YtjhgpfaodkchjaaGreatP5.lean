/- A part of the proofs over this program: T184, T185, T64, T65, T66, T154, T155, T156, T157, T158, T159, T160, T94W, T29, T94K, T161, T186, T187, T238, T33P, T67, T68, T210, T200, T162, T163, T164, T170, T201, T29A, T29C, T202, T166, T204, T212, T98, T43R, T211, T214, T242, T243, T244, T95, T246, T247, T251W. -/
import Derived.Test.YtjhgpfaodkchjaaGreatG0
import Derived.Test.YtjhgpfaodkchjaaGreatG1
import Derived.Test.YtjhgpfaodkchjaaGreatG2
import Derived.Test.YtjhgpfaodkchjaaGreatG3
import Derived.Test.YtjhgpfaodkchjaaGreatP0
import Derived.Test.YtjhgpfaodkchjaaGreatP1
import Derived.Test.YtjhgpfaodkchjaaGreatP2
import Derived.Test.YtjhgpfaodkchjaaGreatP3
import Derived.Test.YtjhgpfaodkchjaaGreatP4
import Derived.Test.YtjhgpfaodkchjaaGreatRows
import Derived.WalkKit
import Derived.ProofKit
import Derived.Deep.DeepHandedRow
import Derived.Lib.LaidTab
set_option linter.all false
namespace Go.Proofs.YtjhgpfaodkchjaaGreat
open Go.Gl
attribute [local irreducible] z19 AWP z25 z31 z28 RetS z38
theorem z411 {N w:Nat} (Q P:List Int) (hw:w < N):((frm N Q P).map enI)[w]?=some (enI (if (w:Int)∈Q then P.getD w 0 else -2)):=by
 unfold frm
 rw [y53,y53,List.getElem?_range hw];rfl
theorem z466 {N w:Nat} {Q P:List Int} {u:Int} (hw:w < N) (hP:P.length=N):((frm N Q P).map enI).set w (enI u)=(frm N (Q++[(w:Int)]) (P.set w u)).map enI:=by
 have:=frm_set (N:=N) (Q:=Q) (P:=P) (v:=(w:Int)) (u:=u) ⟨by omega,by omega⟩ hP
 rw [y79] at this
 rw [← this,List.map_set]
set_option maxHeartbeats 12800000 in
theorem z626 (rows : List (List Int)) (ini : List Int) (hr : ∀ r ∈ rows, InN rows.length r) (hi : InN rows.length ini) (hn : ini.Nodup) (hN : rows.length ≤ 100000) (hrl : ∀ r ∈ rows, r.length ≤ 1000000000) (G : Int → Bool) (f : FuncId) (c1 : List AC) (hf : ∀ x : Int, 0 ≤ x → x < rows.length → CallsA Tryz.prog f (.int x :: [.pt c1]) [] (.bool (G x)) []) :
    CallsA Tryz.prog 176 [lst 1 encL rows,ints ini,.fn (.func f) [] [.pt c1]] [] (.sref 0 0 (shL rows ini G).length) [.cells 1 ((shL rows ini G).map enI)]:=by
  have hil:ini.length≤100000:=by have:=z188 rows.length ini hn hi;omega
  refine z7 z17 Tryz.func176 rfl rfl 99 Tryz.ntmps176 (by simp) ?_
  repeat' ((first|(apply y4 ok;rfl)|(apply y45;(dsimp only;omega)))<;>conv=>whnf)
  obtain ⟨qm,hqm⟩:∃ qm:Nat→Nat→Int,qm=fun i j=>if j < i then -2 else 0:=⟨_,rfl⟩
  have q0:qm 0=fun _=>0:=by rw [hqm];rfl
  have qE:(fnL rows.length (qm rows.length)).map enI=(frm rows.length [] (List.replicate rows.length (-1))).map enI:=by
    rw [z1121]
    congr 1
    apply y77 (by simp [fnL])
    intro i h1 h2
    rw [z656,hqm]
    have hi' : i < rows.length:=by rw [z113] at h1;exact h1
    dsimp only
    rw [if_pos hi'];simp
  have qS:∀ i,qm (i+1)=upd (qm i) i (-2):=fun i=>by
    funext j
    by_cases h:j=i
    · subst h;rw [z26,hqm];dsimp only;rw [if_pos (by omega)]
    · rw [z49 _ _ h,hqm];dsimp only;split<;>split<;>first|rfl|omega
  clear hqm
  refine z86 (fun i:Nat=>([(0,lst 1 encL rows),(1,ints ini),(2,.fn (.func f) [] [.pt c1]),(7,.sref 0 0 rows.length),(21,.int rows.length),(22,.int i)],[.cells 1 ((fnL rows.length (qm i)).map enI)])) (fun i=>i≤rows.length) (fun i=>rows.length - i) 0 (y55 _) (by refine swR [0] [] rfl rfl ?_;(repeat' first|exact y88 _|refine z14 rfl (z37 rfl) ?_|constructor)<;>((refine z61 ?_;rw [q0];exact z307 _))) ?_
  intro i hi1
  by_cases hi2:i < rows.length
  · have g1:=z170 (qm i) hi2
    have l1:=z113 rows.length (qm i)
    have e1:=z148 (N:=rows.length) (u:=i) (qm i) (-2)
    rw [← qS] at e1
    repeat' ((first|(apply y4 ok;rfl)|(refine z12 (i:=i) rfl g1 ?_)|(apply y45;first|omega|(unfold inI;omega))|((apply z5)<;>intro _))<;>conv=>whnf)
    all_goals try (exfalso;omega)
    all_goals refine z41 (i+1) hi2 (by omega) (by refine swR [0] [] rfl rfl ?_;(repeat' first|exact y88 _|refine z73 rfl (z4 (fun _=>rfl)) ?_|constructor)<;>((refine z61 ?_;exact e1)))
  obtain rfl:i=rows.length:=by omega
  rw [qE]
  clear qE qS q0
  repeat' ((first|(apply y4 ok;rfl)|(apply y45;omega)|(((apply z10;omega));intro _)|((apply z5)<;>intro _))<;>conv=>whnf)
  all_goals try (exfalso;omega)
  refine y87 (y90 1 rfl) ?_
  have hrep:(List.replicate rows.length (-1:Int)).length=rows.length:=by simp
  have hrs:∀ w,(List.replicate rows.length (-1:Int)).set w (-1)=List.replicate rows.length (-1):=fun w=>by
    apply y77 (by simp)
    intro i h1 h2
    rw [List.getElem_set]
    split<;>simp
  have hS0:(frm rows.length ini (List.replicate rows.length (-1)))=frm rows.length (srS rows ini 0).1 (srS rows ini 0).2:=rfl
  generalize List.replicate rows.length (-1:Int)=P0 at *
  refine z86 (fun k:Nat=>([(0,lst 1 encL rows),(2,.fn (.func f) [] [.pt c1]),(7,.sref 0 0 rows.length),(9,.sref 1 0 (ini.take k).length),(29,ints ini),(30,.int ini.length),(31,.int k)],[.cells 1 ((frm rows.length (ini.take k) P0).map enI),.cells 1 ((ini.take k).map enI)])) (fun k=>k≤ini.length) (fun k=>ini.length - k) 0 (y55 _) (by refine swR [0,1] [] rfl rfl ?_;(repeat' first|exact y88 _|exact z46|exact z16 _|((refine z14 rfl ?_ ?_);(focus ((repeat' (first|exact z33|exact z4 (fun _=>rfl)));done)))|constructor)) ?_
  intro k hk
  by_cases hk2:k < ini.length
  · have gk:(ini.map enI)[k]?=some (enI ini[k]):=by rw [y53,y47 hk2];rfl
    have hv:=hi _ (y46 hk2)
    have et:ini.take (k+1)=ini.take k++[ini[k]]:=y52 hk2
    have htl:(ini.take k).length≤100000:=by rw [y50];omega
    generalize hQ' : ini.take (k+1)=Q' at *
    generalize hQ:ini.take k=Q at *
    generalize ini[k]=v at *
    obtain ⟨w,rfl⟩:∃ w:Nat,v=w:=⟨v.toNat,by omega⟩
    have hw:w < rows.length:=by omega
    have g1:=z411 Q P0 hw
    have l1:=z410 rows.length Q P0
    have e1:=z466 (Q:=Q) (u:=-1) hw hrep
    rw [hrs,← et] at e1
    subst et
    repeat' ((first|(apply y4 ok;rfl)|(refine z12 (i:=k) rfl gk ?_)|(refine z12 (i:=w) rfl g1 ?_)|(apply y45;first|omega|(unfold inI;omega)|((try dsimp only);simp only [y51,y50,y49,y48,y60,y61];omega)|exact ⟨rfl,z22 rfl z29⟩)|((apply z5)<;>intro _))<;>conv=>whnf)
    all_goals try (exfalso;omega)
    all_goals refine z41 (k+1) hk2 (by omega) ?_
    all_goals dsimp only
    all_goals rw [hQ']
    all_goals exact (by refine swR [0,3] [] rfl rfl ?_;(repeat' first|exact y88 _|(refine z67 ?_;((simp;done)))|((first|refine z40 rfl ?_ ?_|refine z73 rfl ?_ ?_);(focus ((repeat' (first|exact z4 (fun _=>rfl)|apply z27));done)))|(refine z97 ?_ ?_;(focus (omega)))|constructor)<;>((refine z61 ?_;exact e1)))
  obtain rfl:k=ini.length:=by omega
  rw [y58,hS0]
  repeat' ((first|(apply y4 ok;rfl)|(apply y45;omega)|((first|(with_reducible apply z10;omega)|(apply z10;omega));intro _)|((apply z5)<;>intro _))<;>conv=>whnf)
  all_goals try (exfalso;omega)
  refine z86 (fun i:Nat=>([(0,lst 1 encL rows),(2,.fn (.func f) [] [.pt c1]),(7,.sref 0 0 rows.length),(9,.sref 1 0 (srS rows ini i).1.length),(12,.int i)],[.cells 1 ((frm rows.length (srS rows ini i).1 (srS rows ini i).2).map enI),.cells 1 ((srS rows ini i).1.map enI)])) (fun i=>i≤rows.length∧∀ k (_:k < i) (h:k < (srS rows ini i).1.length),G ((srS rows ini i).1[k])=false) (fun i=>rows.length+1 - i) 0 ⟨y55 _,fun k h=>by omega⟩ (by refine swR [0,1] [] rfl rfl ?_;(repeat' first|exact y88 _|exact z16 _|refine z14 rfl (z4 (fun _=>rfl)) ?_|constructor)<;>(fail)) ?_
  rintro i ⟨hi1,hno⟩
  have hJ:=z485 hr hi hn i
  have hQl:=z805 hr hi hn i
  by_cases hi2:i < (srS rows ini i).1.length
  · have hx:=hJ.inn _ (y46 hi2)
    have cf:=hf _ hx.1 hx.2
    have gx:((srS rows ini i).1.map enI)[i]?=some (enI (srS rows ini i).1[i]):=by rw [y53,y47 hi2];rfl
    have hnx:srS rows ini (i+1)=visPs (srS rows ini i).1[i] (srS rows ini i) (rows.getD ((srS rows ini i).1[i]).toNat []):=by rw [srS,dif_pos hi2]
    have hfnd:=fun h=>z702 hr hi hn (G:=G) hi2 h (fun k hk=>hno k hk (by omega))
    have hpre:=z343 (srS rows ini i).1[i] (rows.getD ((srS rows ini i).1[i]).toNat []) (srS rows ini i)
    by_cases hG:G (srS rows ini i).1[i]=true
    · rw [hfnd hG,z869,y67]
      have hq0:∃ k,∃ h:k < (srS rows ini i).1.length,(srS rows ini i).1[k]=(srS rows ini i).1[i]∧k≤rows.length:=⟨i,hi2,rfl,hi1⟩
      rw [hG] at cf
      clear hfnd hnx hpre hno
      generalize hS:srS rows ini i=S at *
      obtain ⟨Q,P⟩:=S
      dsimp only at *
      have hi4:i < Q.length:=hi2
      generalize Q[i]=x at *
      repeat' ((first|(apply y4 ok;rfl)|(refine z12 (i:=i) rfl gx ?_)|(apply y45;omega)|((apply z5)<;>intro _)|(apply z6 (cf);rfl;rfl))<;>conv=>whnf)
      all_goals try (exfalso;omega)
      all_goals
        refine y87 (y90 1 rfl) ?_
        have hB1:=z1144 P rows.length x
        generalize hB:chn P rows.length x=B at *
        refine z86 (fun y:Nat×List Int×Int=>([(7,.sref 0 0 rows.length),(13,.int y.2.2),(14,.sref 1 0 y.2.1.length)],[.cells 1 ((frm rows.length Q P).map enI),.cells 1 (y.2.1.map enI)])) (fun y=>y.2.1.length+y.1≤rows.length+1∧((0≤y.2.2∧y.2.1++chn P (y.1 - 1) y.2.2=B∧1≤y.1∧∃ k,∃ h:k < Q.length,Q[k]=y.2.2∧k+1≤y.1)∨(y.2.2=-1∧y.2.1=B))) (fun y=>y.1+(if 0≤y.2.2 then 1 else 0)) (rows.length+1,[],x) ⟨by simp,.inl ⟨hx.1,by simpa using hB,by omega,by obtain ⟨k,h,h1,h2⟩:=hq0;exact ⟨k,h,h1,by omega⟩⟩⟩ (by refine swR [0,2] [] rfl rfl ?_;(repeat' first|exact y88 _|exact z46|exact z16 _|((refine z14 rfl ?_ ?_);(focus ((repeat' (first|exact z33|exact z4 (fun _=>rfl)));done)))|constructor)) ?_
        rintro ⟨fu,ac,u⟩ ⟨q1,q2⟩
        dsimp only at q1 q2 ⊢
        rcases q2 with ⟨q2,q3,q4,k,hk,q5,q6⟩|⟨rfl,rfl⟩
        · have huN:=hJ.inn u (q5 ▸ y46 hk)
          obtain ⟨w,rfl⟩:∃ w:Nat,u=w:=⟨u.toNat,by omega⟩
          have hw:w < rows.length:=by omega
          have gw:=z411 Q P hw
          rw [if_pos (q5 ▸ y46 hk)] at gw
          have lw:=z410 rows.length Q P
          have hp:=hJ.pre k hk
          rw [q5,y79] at hp
          dsimp only at hp
          obtain ⟨fu,rfl⟩:∃ m,fu=m+1:=⟨fu - 1,by omega⟩
          rw [Nat.add_sub_cancel] at q3
          have hnext:P.getD w 0=-1∧ac++[(w:Int)]=B∨(0≤P.getD w 0∧(ac++[(w:Int)])++chn P (fu - 1) (P.getD w 0)=B∧1≤fu∧∃ k,∃ h:k < Q.length,Q[k]=P.getD w 0∧k+1≤fu):=by
            rcases hp with hp|⟨j,hj,hjk,hp⟩
            · left
              refine ⟨hp,?_⟩
              rw [← q3]
              cases fu with
              | zero=>rfl
              | succ fu =>
                rw [chn,y79,if_neg (by omega)]
            · right
              have:=hJ.inn _ (y46 hj)
              refine ⟨by omega,?_,by omega,j,hj,hp.symm,by omega⟩
              obtain ⟨fu,rfl⟩:∃ m,fu=m+1:=⟨fu - 1,by omega⟩
              rw [chn,y79,if_pos (by omega)] at q3
              rw [← q3]
              simp
          have hvb : -1≤P.getD w 0∧P.getD w 0 < rows.length:=by
            rcases hnext with ⟨h,_⟩|⟨h,_,_,j,hj,hp2,_⟩
            · omega
            · have:=hJ.inn _ (y46 hj)
              omega
          clear hp
          generalize P.getD w 0=v at *
          repeat' ((first|(apply y4 ok;rfl)|(refine z12 (i:=w) rfl gw ?_)|(apply y45;first|omega|((try dsimp only);simp only [y51,y50,y49,y48,y60,y61];omega)|exact ⟨rfl,z22 rfl z29⟩))<;>conv=>whnf)
          all_goals refine z41 (fu,ac++[(w:Int)],v) ⟨by simp only [y49,List.length_singleton];omega,?_⟩ ?_ (by refine swR [0,3] [] rfl rfl ?_;(repeat' first|exact y88 _|exact z16 _|(refine z67 ?_;((simp;done)))|((first|refine z40 rfl ?_ ?_|refine z14 rfl ?_ ?_);(focus ((repeat' (first|exact z4 (fun _=>rfl)|apply z27));done)))|(refine z97 ?_ ?_;(focus (omega)))|constructor))
          all_goals dsimp only
          all_goals first|(rcases hnext with ⟨h1,h2⟩|h1<;>first|exact .inr ⟨h1,h2⟩|exact .inl h1)|(rw [if_pos (show (0:Int)≤w by omega)];split<;>omega)
        · have cr:=z575 ac (by omega) (by omega)
          have cc:=z340 (rvs ac) (by rw [z400];omega)
          have el:=z400 ac
          rw [← rvs_eq]
          generalize rvs ac=D at *
          rw [el] at cc ⊢
          repeat' ((first|(apply y4 ok;rfl)|((first|(apply z150 [1] [] cr;rfl;(focus ((repeat' first|exact z47|apply z59)<;>(refine z84 rfl ?_;((exact z4 fun _=>rfl))))))|(apply z150 [1] [] cc;rfl;(focus ((repeat' first|exact z47|apply z59)<;>(refine z84 rfl ?_;((exact z4 fun _=>rfl)))))));rfl;(focus ((repeat' first|exact z13|apply z11)<;>(refine z21 ?_;((exact z4 fun _=>rfl)))))))<;>conv=>whnf)
          all_goals (refine rsD [1] [] rfl ?_;(repeat' first|exact y88 _|exact z16 _|refine z14 rfl (z4 (fun _=>rfl)) ?_|constructor))
    · have hG:=(y74 _).mp hG
      rw [hG] at cf
      have hno2:∀ k (_:k < i+1) (h:k < (srS rows ini (i+1)).1.length),G ((srS rows ini (i+1)).1[k])=false:=by
        obtain ⟨t,ht⟩:=z619 (rows:=rows) (ini:=ini) (show i≤i+1 by omega)
        intro k hk h
        have hki:k < (srS rows ini i).1.length:=by omega
        have e:(srS rows ini (i+1)).1[k]=(srS rows ini i).1[k]:=by
          simp only [ht,List.getElem_append_left hki]
        rw [e]
        by_cases hk3:k < i
        · exact hno k hk3 hki
        · obtain rfl:k=i:=by omega
          exact hG
      have hile:i+1≤rows.length:=by omega
      have hJv:=fun l hl=>PJ.visPs (N:=rows.length) l hJ hi2 rfl hl
      clear hfnd hpre hno
      generalize hS' : srS rows ini (i+1)=S' at *
      generalize hS:srS rows ini i=S at *
      obtain ⟨Q,P⟩:=S
      dsimp only at *
      have hi4:i < Q.length:=hi2
      generalize hxx:Q[i]=x at *
      obtain ⟨u,rfl⟩:∃ u:Nat,x=u:=⟨x.toNat,by omega⟩
      rw [y79] at hnx
      have hu:u < rows.length:=by omega
      have gr:=z502 hu
      have hrow:=z226 hr (u:Int)
      rw [y79] at hrow
      have hrowl:(rows.getD u []).length≤1000000000:=by rw [z20 hu];exact hrl _ (y46 _)
      generalize rows.getD u []=row at *
      repeat' ((first|(apply y4 ok;rfl)|(refine z12 (i:=i) rfl gx ?_)|(refine z12 (i:=u) rfl gr ?_)|(apply y45;omega)|((apply z5)<;>intro _)|(apply z6 (cf);rfl;rfl))<;>conv=>whnf)
      all_goals try (exfalso;omega)
      all_goals
        refine z86 (fun j:Nat=>([(0,lst 1 encL rows),(2,.fn (.func f) [] [.pt c1]),(7,.sref 0 0 rows.length),(9,.sref 1 0 (visPs (u:Int) (Q,P) (row.take j)).1.length),(12,.int i),(76,ints row),(77,.int row.length),(78,.int j)],[.cells 1 ((frm rows.length (visPs (u:Int) (Q,P) (row.take j)).1 (visPs (u:Int) (Q,P) (row.take j)).2).map enI),.cells 1 ((visPs (u:Int) (Q,P) (row.take j)).1.map enI)])) (fun j=>j≤row.length) (fun j=>row.length - j) 0 (y55 _) (by refine swR [0,1] [] rfl rfl ?_;(repeat' first|exact y88 _|exact z16 _|refine z14 rfl (z4 (fun _=>rfl)) ?_|constructor)<;>(fail)) ?_
        intro j hj
        obtain ⟨hJj,hij,hxj⟩:=hJv (row.take j) (fun x hx=>hrow x (List.mem_of_mem_take hx))
        have hQjl:(visPs (u:Int) (Q,P) (row.take j)).1.length≤rows.length:=z188 _ _ hJj.nd hJj.inn
        have gxj:((visPs (u:Int) (Q,P) (row.take j)).1.map enI)[i]?=some (enI (u:Int)):=by
          rw [y53,y47 hij,hxj];rfl
        by_cases hj2:j < row.length
        · have gj:(row.map enI)[j]?=some (enI row[j]):=by rw [y53,y47 hj2];rfl
          have hv:=hrow _ (y46 hj2)
          have et:=z569 (u:=(u:Int)) (x:=(Q,P)) hj2
          have hge:=hJj.pre
          generalize hT' : visPs (u:Int) (Q,P) (row.take (j+1))=T' at *
          generalize hT:visPs (u:Int) (Q,P) (row.take j)=T at *
          generalize row[j]=v at *
          obtain ⟨w,rfl⟩:∃ w:Nat,v=w:=⟨v.toNat,by omega⟩
          have hw:w < rows.length:=by omega
          have gw:=z411 T.1 T.2 hw
          have lw:=z410 rows.length T.1 T.2
          have hTl:=hJj.len
          by_cases hm:(w:Int)∈T.1
          · rw [z447 hm] at et
            rw [if_pos hm] at gw
            have hwv : -1≤T.2.getD w 0:=by
              obtain ⟨k,hk,ek⟩:=List.mem_iff_getElem.1 hm
              have h1:=hge k hk
              rw [ek,y79] at h1
              rcases h1 with h1|⟨y,hy,_,h1⟩
              · omega
              · have:=hJj.inn _ (y46 hy);omega
            generalize T.2.getD w 0=pv at *
            repeat' ((first|(apply y4 ok;rfl)|(refine z12 (i:=j) rfl gj ?_)|(refine z12 (i:=w) rfl gw ?_)|(apply y45;first|omega|(unfold inI;omega))|(((apply z10;omega));intro _)|((apply z5)<;>intro _))<;>conv=>whnf)
            all_goals try (exfalso;omega)
            all_goals refine z41 (j+1) hj2 (by omega) ?_
            all_goals dsimp only
            all_goals rw [hT',et]
            all_goals exact (by refine swR [0,1] [] rfl rfl ?_;(repeat' first|exact y88 _|exact z16 _|refine z14 rfl (z4 (fun _=>rfl)) ?_|constructor))
          · rw [z448 hm,y79] at et
            rw [if_neg hm] at gw
            have e1:=z466 (Q:=T.1) (u:=(u:Int)) hw hTl
            repeat' ((first|(apply y4 ok;rfl)|(refine z12 (i:=j) rfl gj ?_)|(refine z12 (i:=w) rfl gw ?_)|(refine z12 (i:=i) rfl gxj ?_)|(apply y45;first|omega|(unfold inI;omega)|((try dsimp only);simp only [y51,y50,y49,y48,y60,y61];omega)|exact ⟨rfl,z22 rfl z29⟩)|((apply z5)<;>intro _))<;>conv=>whnf)
            all_goals try (exfalso;omega)
            all_goals refine z41 (j+1) hj2 (by omega) ?_
            all_goals dsimp only
            all_goals rw [hT',et]
            all_goals dsimp only
            all_goals exact (by refine swR [0,3] [] rfl rfl ?_;(repeat' first|exact y88 _|(refine z67 ?_;((simp;done)))|((first|refine z40 rfl ?_ ?_|refine z73 rfl ?_ ?_);(focus ((repeat' (first|exact z4 (fun _=>rfl)|apply z27));done)))|(refine z97 ?_ ?_;(focus (omega)))|constructor)<;>((refine z61 ?_;exact e1)))
        obtain rfl:j=row.length:=by omega
        rw [y58,← hnx] at *
        repeat' ((first|(apply y4 ok;rfl)|(apply y45;first|omega|(unfold inI;omega))|((first|(with_reducible apply z10;omega)|(apply z10;omega));intro _)|((apply z5)<;>intro _))<;>conv=>whnf)
        all_goals try (exfalso;omega)
        all_goals refine z41 (i+1) ⟨hile,by rw [hS'];exact hno2⟩ (by omega) ?_
        all_goals dsimp only
        all_goals rw [hS']
        all_goals exact (by refine swR [0,1] [] rfl rfl ?_;(repeat' first|exact y88 _|exact z16 _|refine z14 rfl (z4 (fun _=>rfl)) ?_|constructor))
  · rw [z896 (G:=G) (by omega) hi1 (fun k hk=>hno k (by omega) hk)]
    repeat' ((first|(apply y4 ok;rfl)|(apply y45;omega)|(((apply z10;omega));intro _)|((apply z5)<;>intro _))<;>conv=>whnf)
    all_goals try (exfalso;omega)
    all_goals (refine y91 1 ?_;refine rsD [2] [] rfl ?_;(repeat' first|exact z46|refine z14 rfl (z33) ?_|constructor))
set_option maxHeartbeats 12800000 in
theorem z625 (rows : List (List Int)) (ini : List Int) (hr : ∀ r ∈ rows, InN rows.length r) (hi : InN rows.length ini) (hn : ini.Nodup) (hN : rows.length ≤ 100000) (hrl : ∀ r ∈ rows, r.length ≤ 1000000000) (G : Int → Bool) (f : FuncId) (c1 c2 : List AC) (hf : ∀ x : Int, 0 ≤ x → x < rows.length → CallsA Tryz.prog f (.int x :: [.pt c1, .pt c2]) [] (.bool (G x)) []) :
    CallsA Tryz.prog 176 [lst 1 encL rows,ints ini,.fn (.func f) [] [.pt c1,.pt c2]] [] (.sref 0 0 (shL rows ini G).length) [.cells 1 ((shL rows ini G).map enI)]:=by
  have hil:ini.length≤100000:=by have:=z188 rows.length ini hn hi;omega
  refine z7 z17 Tryz.func176 rfl rfl 99 Tryz.ntmps176 (by simp) ?_
  repeat' ((first|(apply y4 ok;rfl)|(apply y45;(dsimp only;omega)))<;>conv=>whnf)
  obtain ⟨qm,hqm⟩:∃ qm:Nat→Nat→Int,qm=fun i j=>if j < i then -2 else 0:=⟨_,rfl⟩
  have q0:qm 0=fun _=>0:=by rw [hqm];rfl
  have qE:(fnL rows.length (qm rows.length)).map enI=(frm rows.length [] (List.replicate rows.length (-1))).map enI:=by
    rw [z1121]
    congr 1
    apply y77 (by simp [fnL])
    intro i h1 h2
    rw [z656,hqm]
    have hi' : i < rows.length:=by rw [z113] at h1;exact h1
    dsimp only
    rw [if_pos hi'];simp
  have qS:∀ i,qm (i+1)=upd (qm i) i (-2):=fun i=>by
    funext j
    by_cases h:j=i
    · subst h;rw [z26,hqm];dsimp only;rw [if_pos (by omega)]
    · rw [z49 _ _ h,hqm];dsimp only;split<;>split<;>first|rfl|omega
  clear hqm
  refine z86 (fun i:Nat=>([(0,lst 1 encL rows),(1,ints ini),(2,.fn (.func f) [] [.pt c1,.pt c2]),(7,.sref 0 0 rows.length),(21,.int rows.length),(22,.int i)],[.cells 1 ((fnL rows.length (qm i)).map enI)])) (fun i=>i≤rows.length) (fun i=>rows.length - i) 0 (y55 _) (by refine swR [0] [] rfl rfl ?_;(repeat' first|exact y88 _|refine z14 rfl (z37 rfl) ?_|constructor)<;>((refine z61 ?_;rw [q0];exact z307 _))) ?_
  intro i hi1
  by_cases hi2:i < rows.length
  · have g1:=z170 (qm i) hi2
    have l1:=z113 rows.length (qm i)
    have e1:=z148 (N:=rows.length) (u:=i) (qm i) (-2)
    rw [← qS] at e1
    repeat' ((first|(apply y4 ok;rfl)|(refine z12 (i:=i) rfl g1 ?_)|(apply y45;first|omega|(unfold inI;omega))|((apply z5)<;>intro _))<;>conv=>whnf)
    all_goals try (exfalso;omega)
    all_goals refine z41 (i+1) hi2 (by omega) (by refine swR [0] [] rfl rfl ?_;(repeat' first|exact y88 _|refine z73 rfl (z4 (fun _=>rfl)) ?_|constructor)<;>((refine z61 ?_;exact e1)))
  obtain rfl:i=rows.length:=by omega
  rw [qE]
  clear qE qS q0
  repeat' ((first|(apply y4 ok;rfl)|(apply y45;omega)|(((apply z10;omega));intro _)|((apply z5)<;>intro _))<;>conv=>whnf)
  all_goals try (exfalso;omega)
  refine y87 (y90 1 rfl) ?_
  have hrep:(List.replicate rows.length (-1:Int)).length=rows.length:=by simp
  have hrs:∀ w,(List.replicate rows.length (-1:Int)).set w (-1)=List.replicate rows.length (-1):=fun w=>by
    apply y77 (by simp)
    intro i h1 h2
    rw [List.getElem_set]
    split<;>simp
  have hS0:(frm rows.length ini (List.replicate rows.length (-1)))=frm rows.length (srS rows ini 0).1 (srS rows ini 0).2:=rfl
  generalize List.replicate rows.length (-1:Int)=P0 at *
  refine z86 (fun k:Nat=>([(0,lst 1 encL rows),(2,.fn (.func f) [] [.pt c1,.pt c2]),(7,.sref 0 0 rows.length),(9,.sref 1 0 (ini.take k).length),(29,ints ini),(30,.int ini.length),(31,.int k)],[.cells 1 ((frm rows.length (ini.take k) P0).map enI),.cells 1 ((ini.take k).map enI)])) (fun k=>k≤ini.length) (fun k=>ini.length - k) 0 (y55 _) (by refine swR [0,1] [] rfl rfl ?_;(repeat' first|exact y88 _|exact z46|exact z16 _|((refine z14 rfl ?_ ?_);(focus ((repeat' (first|exact z33|exact z4 (fun _=>rfl)));done)))|constructor)) ?_
  intro k hk
  by_cases hk2:k < ini.length
  · have gk:(ini.map enI)[k]?=some (enI ini[k]):=by rw [y53,y47 hk2];rfl
    have hv:=hi _ (y46 hk2)
    have et:ini.take (k+1)=ini.take k++[ini[k]]:=y52 hk2
    have htl:(ini.take k).length≤100000:=by rw [y50];omega
    generalize hQ' : ini.take (k+1)=Q' at *
    generalize hQ:ini.take k=Q at *
    generalize ini[k]=v at *
    obtain ⟨w,rfl⟩:∃ w:Nat,v=w:=⟨v.toNat,by omega⟩
    have hw:w < rows.length:=by omega
    have g1:=z411 Q P0 hw
    have l1:=z410 rows.length Q P0
    have e1:=z466 (Q:=Q) (u:=-1) hw hrep
    rw [hrs,← et] at e1
    subst et
    repeat' ((first|(apply y4 ok;rfl)|(refine z12 (i:=k) rfl gk ?_)|(refine z12 (i:=w) rfl g1 ?_)|(apply y45;first|omega|(unfold inI;omega)|((try dsimp only);simp only [y51,y50,y49,y48,y60,y61];omega)|exact ⟨rfl,z22 rfl z29⟩)|((apply z5)<;>intro _))<;>conv=>whnf)
    all_goals try (exfalso;omega)
    all_goals refine z41 (k+1) hk2 (by omega) ?_
    all_goals dsimp only
    all_goals rw [hQ']
    all_goals exact (by refine swR [0,3] [] rfl rfl ?_;(repeat' first|exact y88 _|(refine z67 ?_;((simp;done)))|((first|refine z40 rfl ?_ ?_|refine z73 rfl ?_ ?_);(focus ((repeat' (first|exact z4 (fun _=>rfl)|apply z27));done)))|(refine z97 ?_ ?_;(focus (omega)))|constructor)<;>((refine z61 ?_;exact e1)))
  obtain rfl:k=ini.length:=by omega
  rw [y58,hS0]
  repeat' ((first|(apply y4 ok;rfl)|(apply y45;omega)|((first|(with_reducible apply z10;omega)|(apply z10;omega));intro _)|((apply z5)<;>intro _))<;>conv=>whnf)
  all_goals try (exfalso;omega)
  refine z86 (fun i:Nat=>([(0,lst 1 encL rows),(2,.fn (.func f) [] [.pt c1,.pt c2]),(7,.sref 0 0 rows.length),(9,.sref 1 0 (srS rows ini i).1.length),(12,.int i)],[.cells 1 ((frm rows.length (srS rows ini i).1 (srS rows ini i).2).map enI),.cells 1 ((srS rows ini i).1.map enI)])) (fun i=>i≤rows.length∧∀ k (_:k < i) (h:k < (srS rows ini i).1.length),G ((srS rows ini i).1[k])=false) (fun i=>rows.length+1 - i) 0 ⟨y55 _,fun k h=>by omega⟩ (by refine swR [0,1] [] rfl rfl ?_;(repeat' first|exact y88 _|exact z16 _|refine z14 rfl (z4 (fun _=>rfl)) ?_|constructor)<;>(fail)) ?_
  rintro i ⟨hi1,hno⟩
  have hJ:=z485 hr hi hn i
  have hQl:=z805 hr hi hn i
  by_cases hi2:i < (srS rows ini i).1.length
  · have hx:=hJ.inn _ (y46 hi2)
    have cf:=hf _ hx.1 hx.2
    have gx:((srS rows ini i).1.map enI)[i]?=some (enI (srS rows ini i).1[i]):=by rw [y53,y47 hi2];rfl
    have hnx:srS rows ini (i+1)=visPs (srS rows ini i).1[i] (srS rows ini i) (rows.getD ((srS rows ini i).1[i]).toNat []):=by rw [srS,dif_pos hi2]
    have hfnd:=fun h=>z702 hr hi hn (G:=G) hi2 h (fun k hk=>hno k hk (by omega))
    have hpre:=z343 (srS rows ini i).1[i] (rows.getD ((srS rows ini i).1[i]).toNat []) (srS rows ini i)
    by_cases hG:G (srS rows ini i).1[i]=true
    · rw [hfnd hG,z869,y67]
      have hq0:∃ k,∃ h:k < (srS rows ini i).1.length,(srS rows ini i).1[k]=(srS rows ini i).1[i]∧k≤rows.length:=⟨i,hi2,rfl,hi1⟩
      rw [hG] at cf
      clear hfnd hnx hpre hno
      generalize hS:srS rows ini i=S at *
      obtain ⟨Q,P⟩:=S
      dsimp only at *
      have hi4:i < Q.length:=hi2
      generalize Q[i]=x at *
      repeat' ((first|(apply y4 ok;rfl)|(refine z12 (i:=i) rfl gx ?_)|(apply y45;omega)|((apply z5)<;>intro _)|(apply z6 (cf);rfl;rfl))<;>conv=>whnf)
      all_goals try (exfalso;omega)
      all_goals
        refine y87 (y90 1 rfl) ?_
        have hB1:=z1144 P rows.length x
        generalize hB:chn P rows.length x=B at *
        refine z86 (fun y:Nat×List Int×Int=>([(7,.sref 0 0 rows.length),(13,.int y.2.2),(14,.sref 1 0 y.2.1.length)],[.cells 1 ((frm rows.length Q P).map enI),.cells 1 (y.2.1.map enI)])) (fun y=>y.2.1.length+y.1≤rows.length+1∧((0≤y.2.2∧y.2.1++chn P (y.1 - 1) y.2.2=B∧1≤y.1∧∃ k,∃ h:k < Q.length,Q[k]=y.2.2∧k+1≤y.1)∨(y.2.2=-1∧y.2.1=B))) (fun y=>y.1+(if 0≤y.2.2 then 1 else 0)) (rows.length+1,[],x) ⟨by simp,.inl ⟨hx.1,by simpa using hB,by omega,by obtain ⟨k,h,h1,h2⟩:=hq0;exact ⟨k,h,h1,by omega⟩⟩⟩ (by refine swR [0,2] [] rfl rfl ?_;(repeat' first|exact y88 _|exact z46|exact z16 _|((refine z14 rfl ?_ ?_);(focus ((repeat' (first|exact z33|exact z4 (fun _=>rfl)));done)))|constructor)) ?_
        rintro ⟨fu,ac,u⟩ ⟨q1,q2⟩
        dsimp only at q1 q2 ⊢
        rcases q2 with ⟨q2,q3,q4,k,hk,q5,q6⟩|⟨rfl,rfl⟩
        · have huN:=hJ.inn u (q5 ▸ y46 hk)
          obtain ⟨w,rfl⟩:∃ w:Nat,u=w:=⟨u.toNat,by omega⟩
          have hw:w < rows.length:=by omega
          have gw:=z411 Q P hw
          rw [if_pos (q5 ▸ y46 hk)] at gw
          have lw:=z410 rows.length Q P
          have hp:=hJ.pre k hk
          rw [q5,y79] at hp
          dsimp only at hp
          obtain ⟨fu,rfl⟩:∃ m,fu=m+1:=⟨fu - 1,by omega⟩
          rw [Nat.add_sub_cancel] at q3
          have hnext:P.getD w 0=-1∧ac++[(w:Int)]=B∨(0≤P.getD w 0∧(ac++[(w:Int)])++chn P (fu - 1) (P.getD w 0)=B∧1≤fu∧∃ k,∃ h:k < Q.length,Q[k]=P.getD w 0∧k+1≤fu):=by
            rcases hp with hp|⟨j,hj,hjk,hp⟩
            · left
              refine ⟨hp,?_⟩
              rw [← q3]
              cases fu with
              | zero=>rfl
              | succ fu =>
                rw [chn,y79,if_neg (by omega)]
            · right
              have:=hJ.inn _ (y46 hj)
              refine ⟨by omega,?_,by omega,j,hj,hp.symm,by omega⟩
              obtain ⟨fu,rfl⟩:∃ m,fu=m+1:=⟨fu - 1,by omega⟩
              rw [chn,y79,if_pos (by omega)] at q3
              rw [← q3]
              simp
          have hvb : -1≤P.getD w 0∧P.getD w 0 < rows.length:=by
            rcases hnext with ⟨h,_⟩|⟨h,_,_,j,hj,hp2,_⟩
            · omega
            · have:=hJ.inn _ (y46 hj)
              omega
          clear hp
          generalize P.getD w 0=v at *
          repeat' ((first|(apply y4 ok;rfl)|(refine z12 (i:=w) rfl gw ?_)|(apply y45;first|omega|((try dsimp only);simp only [y51,y50,y49,y48,y60,y61];omega)|exact ⟨rfl,z22 rfl z29⟩))<;>conv=>whnf)
          all_goals refine z41 (fu,ac++[(w:Int)],v) ⟨by simp only [y49,List.length_singleton];omega,?_⟩ ?_ (by refine swR [0,3] [] rfl rfl ?_;(repeat' first|exact y88 _|exact z16 _|(refine z67 ?_;((simp;done)))|((first|refine z40 rfl ?_ ?_|refine z14 rfl ?_ ?_);(focus ((repeat' (first|exact z4 (fun _=>rfl)|apply z27));done)))|(refine z97 ?_ ?_;(focus (omega)))|constructor))
          all_goals dsimp only
          all_goals first|(rcases hnext with ⟨h1,h2⟩|h1<;>first|exact .inr ⟨h1,h2⟩|exact .inl h1)|(rw [if_pos (show (0:Int)≤w by omega)];split<;>omega)
        · have cr:=z575 ac (by omega) (by omega)
          have cc:=z340 (rvs ac) (by rw [z400];omega)
          have el:=z400 ac
          rw [← rvs_eq]
          generalize rvs ac=D at *
          rw [el] at cc ⊢
          repeat' ((first|(apply y4 ok;rfl)|((first|(apply z150 [1] [] cr;rfl;(focus ((repeat' first|exact z47|apply z59)<;>(refine z84 rfl ?_;((exact z4 fun _=>rfl))))))|(apply z150 [1] [] cc;rfl;(focus ((repeat' first|exact z47|apply z59)<;>(refine z84 rfl ?_;((exact z4 fun _=>rfl)))))));rfl;(focus ((repeat' first|exact z13|apply z11)<;>(refine z21 ?_;((exact z4 fun _=>rfl)))))))<;>conv=>whnf)
          all_goals (refine rsD [1] [] rfl ?_;(repeat' first|exact y88 _|exact z16 _|refine z14 rfl (z4 (fun _=>rfl)) ?_|constructor))
    · have hG:=(y74 _).mp hG
      rw [hG] at cf
      have hno2:∀ k (_:k < i+1) (h:k < (srS rows ini (i+1)).1.length),G ((srS rows ini (i+1)).1[k])=false:=by
        obtain ⟨t,ht⟩:=z619 (rows:=rows) (ini:=ini) (show i≤i+1 by omega)
        intro k hk h
        have hki:k < (srS rows ini i).1.length:=by omega
        have e:(srS rows ini (i+1)).1[k]=(srS rows ini i).1[k]:=by
          simp only [ht,List.getElem_append_left hki]
        rw [e]
        by_cases hk3:k < i
        · exact hno k hk3 hki
        · obtain rfl:k=i:=by omega
          exact hG
      have hile:i+1≤rows.length:=by omega
      have hJv:=fun l hl=>PJ.visPs (N:=rows.length) l hJ hi2 rfl hl
      clear hfnd hpre hno
      generalize hS' : srS rows ini (i+1)=S' at *
      generalize hS:srS rows ini i=S at *
      obtain ⟨Q,P⟩:=S
      dsimp only at *
      have hi4:i < Q.length:=hi2
      generalize hxx:Q[i]=x at *
      obtain ⟨u,rfl⟩:∃ u:Nat,x=u:=⟨x.toNat,by omega⟩
      rw [y79] at hnx
      have hu:u < rows.length:=by omega
      have gr:=z502 hu
      have hrow:=z226 hr (u:Int)
      rw [y79] at hrow
      have hrowl:(rows.getD u []).length≤1000000000:=by rw [z20 hu];exact hrl _ (y46 _)
      generalize rows.getD u []=row at *
      repeat' ((first|(apply y4 ok;rfl)|(refine z12 (i:=i) rfl gx ?_)|(refine z12 (i:=u) rfl gr ?_)|(apply y45;omega)|((apply z5)<;>intro _)|(apply z6 (cf);rfl;rfl))<;>conv=>whnf)
      all_goals try (exfalso;omega)
      all_goals
        refine z86 (fun j:Nat=>([(0,lst 1 encL rows),(2,.fn (.func f) [] [.pt c1,.pt c2]),(7,.sref 0 0 rows.length),(9,.sref 1 0 (visPs (u:Int) (Q,P) (row.take j)).1.length),(12,.int i),(76,ints row),(77,.int row.length),(78,.int j)],[.cells 1 ((frm rows.length (visPs (u:Int) (Q,P) (row.take j)).1 (visPs (u:Int) (Q,P) (row.take j)).2).map enI),.cells 1 ((visPs (u:Int) (Q,P) (row.take j)).1.map enI)])) (fun j=>j≤row.length) (fun j=>row.length - j) 0 (y55 _) (by refine swR [0,1] [] rfl rfl ?_;(repeat' first|exact y88 _|exact z16 _|refine z14 rfl (z4 (fun _=>rfl)) ?_|constructor)<;>(fail)) ?_
        intro j hj
        obtain ⟨hJj,hij,hxj⟩:=hJv (row.take j) (fun x hx=>hrow x (List.mem_of_mem_take hx))
        have hQjl:(visPs (u:Int) (Q,P) (row.take j)).1.length≤rows.length:=z188 _ _ hJj.nd hJj.inn
        have gxj:((visPs (u:Int) (Q,P) (row.take j)).1.map enI)[i]?=some (enI (u:Int)):=by
          rw [y53,y47 hij,hxj];rfl
        by_cases hj2:j < row.length
        · have gj:(row.map enI)[j]?=some (enI row[j]):=by rw [y53,y47 hj2];rfl
          have hv:=hrow _ (y46 hj2)
          have et:=z569 (u:=(u:Int)) (x:=(Q,P)) hj2
          have hge:=hJj.pre
          generalize hT' : visPs (u:Int) (Q,P) (row.take (j+1))=T' at *
          generalize hT:visPs (u:Int) (Q,P) (row.take j)=T at *
          generalize row[j]=v at *
          obtain ⟨w,rfl⟩:∃ w:Nat,v=w:=⟨v.toNat,by omega⟩
          have hw:w < rows.length:=by omega
          have gw:=z411 T.1 T.2 hw
          have lw:=z410 rows.length T.1 T.2
          have hTl:=hJj.len
          by_cases hm:(w:Int)∈T.1
          · rw [z447 hm] at et
            rw [if_pos hm] at gw
            have hwv : -1≤T.2.getD w 0:=by
              obtain ⟨k,hk,ek⟩:=List.mem_iff_getElem.1 hm
              have h1:=hge k hk
              rw [ek,y79] at h1
              rcases h1 with h1|⟨y,hy,_,h1⟩
              · omega
              · have:=hJj.inn _ (y46 hy);omega
            generalize T.2.getD w 0=pv at *
            repeat' ((first|(apply y4 ok;rfl)|(refine z12 (i:=j) rfl gj ?_)|(refine z12 (i:=w) rfl gw ?_)|(apply y45;first|omega|(unfold inI;omega))|(((apply z10;omega));intro _)|((apply z5)<;>intro _))<;>conv=>whnf)
            all_goals try (exfalso;omega)
            all_goals refine z41 (j+1) hj2 (by omega) ?_
            all_goals dsimp only
            all_goals rw [hT',et]
            all_goals exact (by refine swR [0,1] [] rfl rfl ?_;(repeat' first|exact y88 _|exact z16 _|refine z14 rfl (z4 (fun _=>rfl)) ?_|constructor))
          · rw [z448 hm,y79] at et
            rw [if_neg hm] at gw
            have e1:=z466 (Q:=T.1) (u:=(u:Int)) hw hTl
            repeat' ((first|(apply y4 ok;rfl)|(refine z12 (i:=j) rfl gj ?_)|(refine z12 (i:=w) rfl gw ?_)|(refine z12 (i:=i) rfl gxj ?_)|(apply y45;first|omega|(unfold inI;omega)|((try dsimp only);simp only [y51,y50,y49,y48,y60,y61];omega)|exact ⟨rfl,z22 rfl z29⟩)|((apply z5)<;>intro _))<;>conv=>whnf)
            all_goals try (exfalso;omega)
            all_goals refine z41 (j+1) hj2 (by omega) ?_
            all_goals dsimp only
            all_goals rw [hT',et]
            all_goals dsimp only
            all_goals exact (by refine swR [0,3] [] rfl rfl ?_;(repeat' first|exact y88 _|(refine z67 ?_;((simp;done)))|((first|refine z40 rfl ?_ ?_|refine z73 rfl ?_ ?_);(focus ((repeat' (first|exact z4 (fun _=>rfl)|apply z27));done)))|(refine z97 ?_ ?_;(focus (omega)))|constructor)<;>((refine z61 ?_;exact e1)))
        obtain rfl:j=row.length:=by omega
        rw [y58,← hnx] at *
        repeat' ((first|(apply y4 ok;rfl)|(apply y45;first|omega|(unfold inI;omega))|((first|(with_reducible apply z10;omega)|(apply z10;omega));intro _)|((apply z5)<;>intro _))<;>conv=>whnf)
        all_goals try (exfalso;omega)
        all_goals refine z41 (i+1) ⟨hile,by rw [hS'];exact hno2⟩ (by omega) ?_
        all_goals dsimp only
        all_goals rw [hS']
        all_goals exact (by refine swR [0,1] [] rfl rfl ?_;(repeat' first|exact y88 _|exact z16 _|refine z14 rfl (z4 (fun _=>rfl)) ?_|constructor))
  · rw [z896 (G:=G) (by omega) hi1 (fun k hk=>hno k (by omega) hk)]
    repeat' ((first|(apply y4 ok;rfl)|(apply y45;omega)|(((apply z10;omega));intro _)|((apply z5)<;>intro _))<;>conv=>whnf)
    all_goals try (exfalso;omega)
    all_goals (refine y91 1 ?_;refine rsD [2] [] rfl ?_;(repeat' first|exact z46|refine z14 rfl (z33) ?_|constructor))
theorem z1102 (v x:Int):CallsA Tryz.prog 177 [.int x,.pt [.int v]] [] (.bool (decide (x=v))) []:=by
 refine z7 z17 Tryz.func177 rfl rfl 7 Tryz.ntmps177 (by simp) ?_
 repeat' (((apply y4 ok;rfl))<;>conv=>whnf)
 all_goals (refine rsD [] [] rfl ?_;(repeat' first|exact y88 _|constructor))
theorem z1004 (rows:List (List Int)) (hrl:∀ r∈rows,r.length≤1000000000) (v x:Int) (hx:0≤x∧x < rows.length):CallsA Tryz.prog 247 [.int x,.pt [.int v],.pt [lst 1 encL rows]] [] (.bool (decide (x≠v) && decide (v∈rows.getD x.toNat []))) []:=by
 obtain ⟨u,rfl⟩:∃ u:Nat,x=u:=⟨x.toNat,by omega⟩
 rw [y79]
 have hu:u < rows.length:=by omega
 have gr:=z502 hu
 have hrow:(rows.getD u []).length≤1000000000:=by rw [z20 hu];exact hrl _ (y46 _)
 have cct:=z161 (rows.getD u []) (by unfold maxLen;omega) v
 generalize rows.getD u []=row at *
 refine z7 z17 Tryz.func247 rfl rfl 16 Tryz.ntmps247 (by simp) ?_
 by_cases h:(u:Int)=v
 ·rw [y85 (by simp [h]),Bool.false_and]
  repeat' ((first|(apply y4 ok;rfl)|(apply z32;kernel_rfl)|(refine z12 (i:=u) rfl gr ?_)|(apply y45;omega)|((apply z45)<;>intro _)|(apply z6 (cct);rfl;rfl))<;>conv=>whnf)
  all_goals try (exfalso;omega)
  all_goals (refine rsD [] [] rfl ?_;(repeat' first|exact y88 _|constructor))
 ·rw [y84 h,Bool.true_and]
  repeat' ((first|(apply y4 ok;rfl)|(apply z32;kernel_rfl)|(refine z12 (i:=u) rfl gr ?_)|(apply y45;omega)|((apply z45)<;>intro _)|(apply z6 (cct);rfl;rfl))<;>conv=>whnf)
  all_goals try (exfalso;omega)
  all_goals (refine rsD [] [] rfl ?_;(repeat' first|exact y88 _|constructor))
set_option maxHeartbeats 3200000 in
theorem z1003 (rows : List (List Int)) (v : Int) (hr : ∀ r ∈ rows, InN rows.length r) (hv : 0 ≤ v ∧ v < rows.length) (hN : rows.length ≤ 100000) (hrl : ∀ r ∈ rows, r.length ≤ 1000000000) :
    CallsA Tryz.prog 178 [lst 1 encL rows,.int v] [] (.sref 0 0 (aroL rows v).length) [.cells 1 ((aroL rows v).map enI)]:=by
  obtain ⟨u,rfl⟩:∃ u:Nat,v=u:=⟨v.toNat,by omega⟩
  have hu:u < rows.length:=by omega
  have gr:=z502 hu
  have hrow:(rows.getD u []).length≤1000000000:=by rw [z20 hu];exact hrl _ (y46 _)
  have cct:=z161 (rows.getD u []) (by unfold maxLen;omega) (u:Int)
  have csh:=z625 rows [(u:Int)] hr (z721 hv) (by simp) hN hrl (fun n=>decide (n≠(u:Int)) && decide ((u:Int)∈rows.getD n.toNat [])) 247 [.int (u:Int)] [lst 1 encL rows] (fun x h0 h1=>z1004 rows hrl u x ⟨h0,h1⟩)
  unfold aroL
  rw [y79]
  by_cases h:(u:Int)∈rows.getD u []
  · rw [if_pos h]
    rw [y84 h] at cct
    generalize rows.getD u []=row at *
    refine z7 z17 Tryz.func178 rfl rfl 18 Tryz.ntmps178 (by simp) ?_
    repeat' ((first|(apply y4 ok;rfl)|(apply z32;kernel_rfl)|(refine z12 (i:=u) rfl gr ?_)|(apply y45;omega)|(apply z6 (cct);rfl;rfl))<;>conv=>whnf)
    all_goals (refine rsD [2] [] rfl ?_;(repeat' first|exact y88 _|apply y89|constructor))
  · rw [if_neg h]
    rw [y85 h] at cct
    generalize shL rows [(u:Int)] (fun n=>decide (n≠(u:Int)) && decide ((u:Int)∈rows.getD n.toNat []))=D at *
    generalize rows.getD u []=row at *
    refine z7 z17 Tryz.func178 rfl rfl 18 Tryz.ntmps178 (by simp) ?_
    repeat' ((first|(apply y4 ok;rfl)|(apply z32;kernel_rfl)|(refine z12 (i:=u) rfl gr ?_)|(apply y45;omega)|(apply z6 (cct);rfl;rfl)|(apply z95 [] [0,1,2] [3] csh;(focus ((repeat' first|exact z88|apply z51)<;>rfl));rfl;rfl;(focus ((repeat' first|exact z13|apply z11)<;>(refine z21 ?_;((exact z4 fun _=>rfl)))));((refine .inr ⟨rfl,?_⟩;repeat' first|exact True.intro|apply y45|exact z136 (fun _=>rfl) _))))<;>conv=>whnf)
    all_goals (refine rsD [3] [] rfl ?_;(repeat' first|exact y88 _|exact z16 _|refine z14 rfl (z4 (fun _=>rfl)) ?_|constructor))
noncomputable def lasR (rows:List (List Int)) (ini:List Int) (G:Int→Bool):List Int×List Int:=(lasL rows ini G).getD ([],[])
set_option maxHeartbeats 6400000 in
theorem z1101 (rows : List (List Int)) (ini : List Int) (hr : ∀ r ∈ rows, InN rows.length r) (hi : InN rows.length ini) (hn : ini.Nodup) (hN : rows.length ≤ 100000) (hrl : ∀ r ∈ rows, r.length ≤ 1000000000) (G : Int → Bool) (f : FuncId) (c1 c2 : List AC) (hf : ∀ x : Int, 0 ≤ x → x < rows.length → CallsA Tryz.prog f [.int x, .pt c1, .pt c2] [] (.bool (G x)) []) :
    CallsA Tryz.prog 95 [lst 1 encL rows,ints ini,.fn (.func f) [] [.pt c1,.pt c2]] [] (.tup [.sref 0 0 ((lasR rows ini G).1.take ((lasR rows ini G).1.length - 1)).length,.sref 1 0 (lasR rows ini G).2.length,.bool (lasL rows ini G).isSome]) [.cells 1 (((lasR rows ini G).1.take ((lasR rows ini G).1.length - 1)).map enI),.cells 1 ((lasR rows ini G).2.map enI)]:=by
  have hil:ini.length≤100000:=by have:=z188 rows.length ini hn hi;omega
  have cC:=z990 rows hr hN hrl
  have cO:=z1073 rows ini hr hi hN hrl (by omega)
  have hQi:=z774 hr hi rows.length
  have hQl:=z872 hr hi rows.length
  have hcl:=cycB_len rows
  have hcg:∀ i,i < rows.length→((cycB rows).map enB)[i]?=some (enB (cycD rows i)):=fun i h=>z1127 (cycD rows) h
  have hto:=fun v hv=>shL_to (rows:=rows) (ini:=ini) hn (v:=v) hv
  have hrR:∀ k,k < (bfsL rows ini).length→(G ((bfsL rows ini).getD k 0) && cycD rows ((bfsL rows ini).getD k 0).toNat)=true→(∀ j,j < k→(G ((bfsL rows ini).getD j 0) && cycD rows ((bfsL rows ini).getD j 0).toNat)=false)→lasL rows ini G=some (bkw (srP rows ini) rows.length ((bfsL rows ini).getD k 0) [],cycL rows ((bfsL rows ini).getD k 0)):=fun k hk h1 h2=>by
    unfold lasL
    have:(bfsL rows ini).find? (fun v=>G v && cycD rows v.toNat)=some ((bfsL rows ini).getD k 0):=by
      rw [z20 hk] at h1 ⊢
      rw [List.find?_eq_some_iff_getElem]
      refine ⟨h1,k,hk,rfl,fun j hj=>?_⟩
      have:=h2 j hj
      rw [z20 (by omega)] at this
      rw [this];rfl
    rw [this];rfl
  have hrN:(∀ j,j < (bfsL rows ini).length→(G ((bfsL rows ini).getD j 0) && cycD rows ((bfsL rows ini).getD j 0).toNat)=false)→lasL rows ini G=none:=fun h=>by
    unfold lasL
    have:(bfsL rows ini).find? (fun v=>G v && cycD rows v.toNat)=none:=by
      rw [List.find?_eq_none]
      intro x hx
      obtain ⟨j,hj,rfl⟩:=List.mem_iff_getElem.1 hx
      have:=h j hj
      rw [z20 hj] at this
      rw [this];simp
    rw [this];rfl
  unfold lasR
  change (bfsL rows ini).length≤rows.length at hQl
  change InN rows.length (bfsL rows ini) at hQi
  generalize lasL rows ini G=L at *
  generalize cycB rows=C at *
  generalize bfsL rows ini=Q at *
  refine z7 z17 Tryz.func95 rfl rfl 45 Tryz.ntmps95 (by simp) ?_
  repeat' ((first|(apply y4 ok;rfl)|((first|(apply z8 [] [0] cC;rfl;rfl)|(apply z8 [] [1] cO;rfl;rfl));rfl;(focus ((repeat' first|exact z13|apply z11)<;>(refine z21 ?_;((exact z4 fun _=>rfl)))))))<;>conv=>whnf)
  refine z86 (fun i:Nat=>([(0,lst 1 encL rows),(1,ints ini),(2,.fn (.func f) [] [.pt c1,.pt c2]),(9,.sref 0 0 rows.length),(17,.sref 1 0 Q.length),(18,.int Q.length),(19,.int i)],[.cells 1 (C.map enB),.cells 1 (Q.map enI)])) (fun i=>i≤Q.length∧∀ j,j < i→(G (Q.getD j 0) && cycD rows (Q.getD j 0).toNat)=false) (fun i=>Q.length - i) 0 ⟨y55 _,fun j hj=>by omega⟩ (by refine swR [0,1] [] rfl rfl ?_;(repeat' first|exact y88 _|exact z16 _|refine z14 rfl (z4 (fun _=>rfl)) ?_|constructor)) ?_
  rintro i ⟨hi1,hno⟩
  by_cases hi2:i < Q.length
  · have hm:=z374 hi2
    have hx:=hQi _ hm
    have gx:(Q.map enI)[i]?=some (enI (Q.getD i 0)):=by rw [y53,y47 hi2,z20 hi2];rfl
    have cf:=hf _ hx.1 hx.2
    have hsome:=fun h=>hrR i hi2 h hno
    have hnxt:(G (Q.getD i 0) && cycD rows (Q.getD i 0).toNat)=false→∀ j,j < i+1→(G (Q.getD j 0) && cycD rows (Q.getD j 0).toNat)=false:=fun h j hj=>by
      by_cases e:j=i
      · subst e;exact h
      · exact hno j (by omega)
    have hsh:=hto _ hm
    have csh:=z626 rows ini hr hi hn hN hrl (fun n=>decide (n=Q.getD i 0)) 177 [.int (Q.getD i 0)] (fun x _ _=>z1102 (Q.getD i 0) x)
    have car:=z1003 rows (Q.getD i 0) hr hx hN hrl
    rw [hsh] at csh
    rw [aroL_eq] at car
    have hb1:=z670 (srP rows ini) rows.length (Q.getD i 0) []
    have hb2:=z671 (srP rows ini) rows.length (Q.getD i 0) []
    have hc2:=z928 rows (Q.getD i 0)
    have gc:=hcg (Q.getD i 0).toNat (by omega)
    rw [y61] at hb2
    clear hsh hrR hrN hto hcg hm hno
    generalize bkw (srP rows ini) rows.length (Q.getD i 0) []=B at *
    generalize cycL rows (Q.getD i 0)=Y at *
    generalize Q.getD i 0=x at *
    obtain ⟨u,rfl⟩:∃ u:Nat,x=u:=⟨x.toNat,by omega⟩
    rw [y79] at *
    by_cases hg:(G (u:Int) && cycD rows u)=true
    · have hL:=hsome hg
      obtain ⟨hg1,hg2⟩:=Bool.and_eq_true_iff.1 hg
      rw [hg1] at cf
      rw [hg2] at gc
      subst hL
      repeat' ((first|(apply y4 ok;rfl)|(apply z32;kernel_rfl)|(refine z12 (i:=i) rfl gx ?_)|(refine z12 (i:=u) rfl gc ?_)|(apply y45;first|omega|(unfold inI;omega))|((apply z5)<;>intro _)|(apply z6 (cf);rfl;rfl)|((first|(apply z95 [] [2] [3] csh;(focus ((repeat' first|exact z88|apply z51)<;>rfl));rfl)|(apply z95 [] [] [4] car;rfl;rfl));rfl;(focus ((repeat' first|exact z13|apply z11)<;>(refine z21 ?_;((exact z4 fun _=>rfl)))));(first|exact .inl rfl|(refine .inr ⟨rfl,?_⟩;repeat' first|exact True.intro|apply y45|exact z136 (fun _=>rfl) _))))<;>conv=>whnf)
      all_goals try (exfalso;omega)
      all_goals
        show RetS _ _ (.tup [.sref 0 0 (B.take (B.length - 1)).length,.sref 1 0 Y.length,.bool true]) [.cells 1 ((B.take (B.length - 1)).map enI),.cells 1 (Y.map enI)] _
        refine Gl.RetS.trunc 3 (B.length - 1) rfl ?_
        conv=>whnf
        (refine rsD [3,4] [] rfl ?_;(repeat' first|exact y88 _|exact z16 _|(refine z67 ?_;((simp;done)))|((refine z14 rfl ?_ ?_);(focus ((repeat' (first|exact z4 (fun _=>rfl)|apply z27));done)))|apply z104|constructor))
      all_goals (refine z61 ?_;rw [List.map_take])
    · have hg:=(y74 _).mp hg
      have hn2:=hnxt hg
      cases hG:G (u:Int)
      · rw [hG] at cf
        repeat' ((first|(apply y4 ok;rfl)|(refine z12 (i:=i) rfl gx ?_)|(apply y45;first|omega|(unfold inI;omega))|((apply z5)<;>intro _)|(apply z6 (cf);rfl;rfl))<;>conv=>whnf)
        all_goals try (exfalso;omega)
        all_goals refine z41 (i+1) ⟨hi2,hn2⟩ (by omega) (by refine swR [0,1] [] rfl rfl ?_;(repeat' first|exact y88 _|exact z16 _|refine z14 rfl (z4 (fun _=>rfl)) ?_|constructor))
      · rw [hG] at cf
        rw [hG,Bool.true_and] at hg
        rw [hg] at gc
        repeat' ((first|(apply y4 ok;rfl)|(refine z12 (i:=i) rfl gx ?_)|(refine z12 (i:=u) rfl gc ?_)|(apply y45;first|omega|(unfold inI;omega))|((apply z5)<;>intro _)|(apply z6 (cf);rfl;rfl))<;>conv=>whnf)
        all_goals try (exfalso;omega)
        all_goals refine z41 (i+1) ⟨hi2,hn2⟩ (by omega) (by refine swR [0,1] [] rfl rfl ?_;(repeat' first|exact y88 _|exact z16 _|refine z14 rfl (z4 (fun _=>rfl)) ?_|constructor))
  · have hL:=hrN fun j hj=>hno j (by omega)
    subst hL
    repeat' ((first|(apply y4 ok;rfl)|(apply y45;omega)|(((apply z10;omega));intro _)|((apply z5)<;>intro _))<;>conv=>whnf)
    all_goals try (exfalso;omega)
    all_goals show RetS _ _ (.tup [.sref 0 0 0,.sref 1 0 0,.bool false]) [.cells 1 [],.cells 1 []] _
    all_goals (refine y91 1 ?_;refine y91 1 ?_;refine rsD [2,3] [] rfl ?_;(repeat' first|exact y88 _|exact z46|refine z14 rfl (z33) ?_|apply z104|constructor))
end Go.Proofs.YtjhgpfaodkchjaaGreat
namespace Go.Proofs.YtjhgpfaodkchjaaGreat
open Go.Gl
attribute [local irreducible] z19 AWP z25 z31 z28
structure Trace where
 stem:List Int
 loop:List Int
deriving DecidableEq
def Trace.cs (t:Trace):List AC:=[ints t.stem,ints t.loop]
def Trace.all (t:Trace):List Int:=t.stem++t.loop
end Go.Proofs.YtjhgpfaodkchjaaGreat
namespace Go.Proofs.YtjhgpfaodkchjaaGreat
open Go.Gl
attribute [local irreducible] z19 AWP z25 z31 z28 RetS z38
def Aut.sm (a:Aut):Prop:=a.ini.length≤40∧a.acc.length≤20∧a.ed.length≤2100∧∀ t∈a.ed,t.mx
theorem IniP.nd {l:List Int} {n:Int} (h:IniP l n l.length):l.Nodup:=by
 have hs:∀ d i (hi:i+d+1 < l.length),l[i] < l[i+d+1]:=by
  intro d
  induction d with
  |zero=>intro i hi;exact (h (i+1) hi hi).2 i rfl
  |succ d ih =>
   intro i hi
   have h1:=ih i (by omega)
   have h2:=(h (i+(d+1)+1) hi hi).2 (i+d+1) (by omega)
   omega
 rw [List.nodup_iff_pairwise_ne,List.pairwise_iff_getElem]
 intro i j hi hj hij
 have:=hs (j - i - 1) i (by omega)
 have e:i+(j - i - 1)+1=j:=by omega
 simp only [e] at this
 omega
noncomputable def trcO (g:Graph) (ls:List Int) (a:Aut):Option (List Int×List Int):=(finS (z55 g ls a) a.ini a.acc).map fun x=>(stL (x.1.take (x.1.length - 1)) a.acc.length,stL x.2 a.acc.length)
end Go.Proofs.YtjhgpfaodkchjaaGreat
namespace Go.Proofs.YtjhgpfaodkchjaaGreat
open Go.Gl
attribute [local irreducible] z19
end Go.Proofs.YtjhgpfaodkchjaaGreat
namespace Go.Proofs.YtjhgpfaodkchjaaGreat
open Go.Gl
attribute [local irreducible] z19 AWP z25 z31 z28
section
open Go.ChangeShapes Go.WideShapes Go.ChangeAt Go.RowKit
theorem and_mk {a b:Bool} (h:a=true) (k:b=true):(a && b)=true:=by rw [h,k];rfl
theorem own:ownKnob Tryz.prog.godebug=none:=by kernel_rfl
theorem z584:laidOutB Tryz.prog=true:=by kernel_rfl
end
end Go.Proofs.YtjhgpfaodkchjaaGreat
namespace Go.Proofs.YtjhgpfaodkchjaaGreat
open Go.Gl
attribute [local irreducible] z19 AWP z25 z31 z28
theorem z673:ArgD Tryz.prog 22 (lst 1 enU) CodeOk :=
 (z1164 (enc1:=lst 1 enU) Tryz.underlying22 (od_list 1 (encL:=fun l=>[lst 1 enU l]) Tryz.underlying22 (by kernel_rfl) (by decide) (od_byte (enc:=enU) Tryz.underlying5 (fun _=>rfl)) (fun _=>rfl)) (fun _=>rfl)).imp fun l h=>⟨l,rfl,h.1,fun x hx=>by
  have:=h.2 x hx
  have h1:IntKind.min .u8=0:=by decide
  have h2:IntKind.max .u8=255:=by decide
  simpa [Lit.wf,h1,h2] using this⟩
end Go.Proofs.YtjhgpfaodkchjaaGreat
namespace Go.Proofs.YtjhgpfaodkchjaaGreat
open Go.Gl
attribute [local irreducible] z19 AWP z25 z31 z28 RetS z38
theorem z660 (a:Aut) (hA:AutP a) (x:Int) (h0:0≤x):CallsA Tryz.prog 96 [.int x,.pt a.cs,.pt [.int a.acc.length]] [] (.bool (a.acc.getD (x % a.acc.length).toNat false)) []:=by
 have hac:=hA.1
 have hm0:0≤x % (a.acc.length:Int):=Int.emod_nonneg _ (by omega)
 have hm1:x % (a.acc.length:Int) < a.acc.length:=Int.emod_lt_of_pos _ (by omega)
 have hga:(a.acc.map enB)[(x % (a.acc.length:Int)).toNat]?=some (enB (a.acc.getD (x % (a.acc.length:Int)).toNat false)):=by
  rw [y53,y47 (by omega),z20 (by omega)];rfl
 refine z7 z17 Tryz.func96 rfl rfl 12 Tryz.ntmps96 (by simp) ?_
 repeat' ((first|(apply y4 ok;rfl)|(apply z32;kernel_rfl)|(refine z12 (i:=(x % (a.acc.length:Int)).toNat) rfl hga ?_)|(apply y45;omega))<;>conv=>whnf)
 all_goals (refine rsD [] [] rfl ?_;(repeat' first|exact y88 _|constructor))
set_option maxHeartbeats 1600000 in
theorem z329 (l:List Int) (n:Nat) (hl:l.length≤1000000) (hn:1≤n) (h0:∀ x∈l,0≤x) (h1:∀ x∈l,x≤1000000000):CallsA Tryz.prog 97 [ints l,.pt [.int n]] [] (.sref 0 0 l.length) [.cells 1 ((stL l n).map enI)]:=by
 refine z7 z17 Tryz.func97 rfl rfl 25 Tryz.ntmps97 (by simp) ?_
 repeat' ((first|(apply y4 ok;rfl)|(apply y45;(dsimp only;omega)))<;>conv=>whnf)
 obtain ⟨qm,hqm⟩:∃ qm:Nat→Nat→Int,qm=fun i j=>if j < i then l.getD j 0 / n else 0:=⟨_,rfl⟩
 have q0:qm 0=fun _=>0:=by rw [hqm];rfl
 have qE:fnL l.length (qm l.length)=stL l n:=by
  apply y77 (by simp [fnL,stL])
  intro i h1 h2
  have hi' : i < l.length:=by rw [z113] at h1;exact h1
  rw [z656,hqm]
  dsimp only
  rw [if_pos hi',z20 hi'];simp [stL]
 have qS:∀ i (h:i < l.length),qm (i+1)=upd (qm i) i (l[i] / n):=fun i h=>by
  funext j
  by_cases h2:j=i
  ·subst h2;rw [z26,hqm];dsimp only;rw [if_pos (by omega),z20 h]
  ·rw [z49 _ _ h2,hqm];dsimp only;split<;>split<;>first|rfl|omega
 clear hqm
 refine z86 (fun i:Nat=>([(1,.pt [.int n]),(4,.sref 0 0 l.length),(10,ints l),(11,.int l.length),(12,.int i)],[.cells 1 ((fnL l.length (qm i)).map enI)])) (fun i=>i≤l.length) (fun i=>l.length - i) 0 (y55 _) (by refine swR [0] [] rfl rfl ?_;(repeat' first|exact y88 _|refine z14 rfl (z37 rfl) ?_|constructor)<;>((refine z61 ?_;rw [q0];exact z307 _))) ?_
 intro i hi
 by_cases hi2:i < l.length
 ·have g1:=z170 (qm i) hi2
  have l1:=z113 l.length (qm i)
  have e1:=z148 (N:=l.length) (u:=i) (qm i) (l[i] / n)
  rw [← qS i hi2] at e1
  have gk:(l.map enI)[i]?=some (enI l[i]):=by rw [y53,y47 hi2];rfl
  have b0:=h0 _ (y46 hi2)
  have b1:=h1 _ (y46 hi2)
  generalize l[i]=v at *
  have d0:0≤v / (n:Int):=Int.ediv_nonneg b0 (by omega)
  have d1:v / (n:Int)≤v:=Int.ediv_le_self _ b0
  repeat' ((first|(apply y4 ok;rfl)|(refine z12 (i:=i) rfl gk ?_)|(refine z12 (i:=i) rfl g1 ?_)|(apply y45;first|omega|(unfold inI;omega))|((apply z5)<;>intro _))<;>conv=>whnf)
  all_goals try (exfalso;omega)
  all_goals refine z41 (i+1) hi2 (by omega) (by refine swR [0] [] rfl rfl ?_;(repeat' first|exact y88 _|refine z73 rfl (z4 (fun _=>rfl)) ?_|constructor)<;>((refine z61 ?_;exact e1)))
 obtain rfl:i=l.length:=by omega
 rw [qE]
 repeat' ((first|(apply y4 ok;rfl)|(apply y45;omega)|((first|(with_reducible apply z10;omega)|(apply z10;omega));intro _)|((apply z5)<;>intro _))<;>conv=>whnf)
 all_goals try (exfalso;omega)
 all_goals (refine rsD [0] [] rfl ?_;(repeat' first|exact y88 _|exact z16 _|refine z14 rfl (z4 (fun _=>rfl)) ?_|constructor))
noncomputable def ftO (g:Graph) (l:List Tree) (a:Aut):Option (List Int×List Int):=if (glB g l && autB a)=true then trcO g (g.st.map (z50 l)) a else none
noncomputable def ftL (g:Graph) (l:List Tree) (a:Aut):Trace:=let t:=(ftO g l a).getD ([],[]);⟨t.1,t.2⟩
set_option maxHeartbeats 6400000 in
theorem z408 (g:Graph) (hg:g.mx) (l:List Tree) (hl:Lmx l) (a:Aut) (ha:a.mx):CallsA Tryz.prog 38 [.agg g.cs,lst 3 Tree.cs' l,.agg a.cs] [] (.tup [.agg [.sref 0 0 (ftL g l a).stem.length,.sref 1 0 (ftL g l a).loop.length],.bool (ftO g l a).isSome]) [.cells 1 ((ftL g l a).stem.map enI),.cells 1 ((ftL g l a).loop.map enI)]:=by
 have k0:=z994 g hg l hl a ha
 by_cases hgl:(glB g l && autB a)=true
 ·rw [hgl] at k0
  obtain ⟨h1,hab⟩:=Bool.and_eq_true_iff.1 hgl
  have hG:=(z126 g).1 (by unfold glB at h1;exact (Bool.and_eq_true_iff.1 h1).1)
  have hL:=y8 (by unfold glB at h1;exact (Bool.and_eq_true_iff.1 h1).2)
  have hA:=z261.1 hab
  have k1:=z958 g hG l hL a hA
  obtain ⟨f1,f2,f3,f4,f5⟩:=z578 hG hA (g.st.map (z50 l))
  have hnd:=hA.2.2.1.nd
  have hac:=hA.1
  have k2:=z1101 (z55 g (g.st.map (z50 l)) a) a.ini f1 f2 hnd (by omega) f4 (fun v=>a.acc.getD (v % a.acc.length).toNat false) 96 a.cs [.int a.acc.length] (fun x h0 _=>z660 a hA x h0)
  unfold ftL ftO
  rw [if_pos hgl]
  unfold lasR at k2
  unfold trcO
  rw [z460 f1 f2 hnd] at k2
  have hlen:(z55 g (g.st.map (z50 l)) a).length=g.st.length * a.acc.length:=by unfold z55;rw [z122,Nat.mul_comm]
  have hF:∀ p q,finS (z55 g (g.st.map (z50 l)) a) a.ini a.acc=some (p,q)→(∀ x∈p,0≤x∧x≤100000)∧(∀ x∈q,0≤x∧x≤100000)∧p.length≤100000∧q.length≤100000:=by
   intro p q h
   rw [← z460 f1 f2 hnd] at h
   obtain ⟨b1,b2,b3,b4,_⟩:=lasL_bd f1 f2 hnd h
   exact ⟨fun x hx=>by have:=b1 x hx;omega,fun x hx=>by have:=b2 x hx;omega,by omega,by omega⟩
  generalize z55 g (g.st.map (z50 l)) a=rows at *
  cases hfin:finS rows a.ini a.acc with
  |none =>
   rw [hfin] at k2
   change CallsA _ _ _ _ (.tup [.sref 0 0 0,.sref 1 0 0,.bool false]) [.cells 1 [],.cells 1 []] at k2
   show CallsA _ _ _ _ (.tup [.agg [.sref 0 0 0,.sref 1 0 0],.bool false]) [.cells 1 [],.cells 1 []]
   refine z7 z17 Tryz.func38 rfl rfl 50 Tryz.ntmps38 (by simp) ?_
   repeat' ((first|(apply y4 ok;rfl)|(apply z6 (k0);rfl;rfl)|(apply z6 (k1);rfl;rfl)|(apply z95 [] [1,3] [4,5] k2;(focus ((repeat' first|exact z88|apply z51)<;>rfl));rfl;rfl;(focus ((repeat' first|exact z13|apply z11)<;>(refine z21 ?_;(exact z33))));((refine .inr ⟨rfl,?_⟩;repeat' first|exact True.intro|apply y45|exact rfl))))<;>conv=>whnf)
   all_goals (refine y91 1 ?_;refine y91 1 ?_;refine rsD [6,7] [] rfl ?_;(repeat' first|exact y88 _|exact z46|refine z14 rfl (z33) ?_|apply z52|apply z104|constructor))
  |some pq =>
   obtain ⟨p,q⟩:=pq
   rw [hfin] at k2
   obtain ⟨b1,b2,b3,b4⟩:=hF p q hfin
   change CallsA _ _ _ _ (.tup [.sref 0 0 (p.take (p.length - 1)).length,.sref 1 0 q.length,.bool true]) [.cells 1 ((p.take (p.length - 1)).map enI),.cells 1 (q.map enI)] at k2
   have s1:=z329 (p.take (p.length - 1)) a.acc.length (by rw [y50];omega) (by omega) (fun x hx=>(b1 x (List.mem_of_mem_take hx)).1) (fun x hx=>by have:=(b1 x (List.mem_of_mem_take hx)).2;omega)
   have s2:=z329 q a.acc.length (by omega) (by omega) (fun x hx=>(b2 x hx).1) (fun x hx=>by have:=(b2 x hx).2;omega)
   have e1:(stL (p.take (p.length - 1)) a.acc.length).length=(p.take (p.length - 1)).length:=by simp [stL]
   have e2:(stL q a.acc.length).length=q.length:=by simp [stL]
   show CallsA _ _ _ _ (.tup [.agg [.sref 0 0 (stL (p.take (p.length - 1)) a.acc.length).length,.sref 1 0 (stL q a.acc.length).length],.bool true]) [.cells 1 ((stL (p.take (p.length - 1)) a.acc.length).map enI),.cells 1 ((stL q a.acc.length).map enI)]
   rw [e1,e2]
   generalize stL (p.take (p.length - 1)) a.acc.length=S1 at *
   generalize stL q a.acc.length=S2 at *
   generalize p.take (p.length - 1)=p' at *
   refine z7 z17 Tryz.func38 rfl rfl 50 Tryz.ntmps38 (by simp) ?_
   repeat' ((first|(apply y4 ok;rfl)|(apply z6 (k0);rfl;rfl)|(apply z6 (k1);rfl;rfl)|((first|(apply z95 [] [1,3] [4,5] k2;(focus ((repeat' first|exact z88|apply z51)<;>rfl));rfl)|(apply z95 [] [3,4] [6] s1;(focus ((repeat' first|exact z88|apply z51)<;>first|exact z210 rfl rfl rfl|rfl));rfl)|(apply z95 [] [3,5] [7] s2;(focus ((repeat' first|exact z88|apply z51)<;>first|exact z210 rfl rfl rfl|rfl));rfl));rfl;(focus ((repeat' first|exact z13|apply z11)<;>(refine z21 ?_;((exact z4 fun _=>rfl)))));((refine .inr ⟨rfl,?_⟩;repeat' first|exact True.intro|apply y45|exact z136 (fun _=>rfl) _))))<;>conv=>whnf)
   all_goals (refine rsD [6,7] [] rfl ?_;(repeat' first|exact y88 _|exact z16 _|refine z14 rfl (z4 (fun _=>rfl)) ?_|constructor))
 ·have hgl:=(y74 _).mp hgl
  rw [hgl] at k0
  have e1:ftO g l a=none:=by unfold ftO;rw [hgl];rfl
  unfold ftL
  rw [e1]
  show CallsA _ _ _ _ (.tup [.agg [.sref 0 0 0,.sref 1 0 0],.bool false]) [.cells 1 [],.cells 1 []]
  refine z7 z17 Tryz.func38 rfl rfl 50 Tryz.ntmps38 (by simp) ?_
  repeat' ((first|(apply y4 ok;rfl)|(apply z6 (k0);rfl;rfl))<;>conv=>whnf)
  all_goals (refine y91 1 ?_;refine y91 1 ?_;refine rsD [3,4] [] rfl ?_;(repeat' first|exact y88 _|exact z46|refine z14 rfl (z33) ?_|apply z52|apply z104|constructor))
theorem z1119 {B:List Tree} {U:List Int} {n0:Nat} : ∀ (f i:Nat) (x y:TrS),f+i=65→ExI B U n0 i x→goS B U f i x=some y→∃ j,ExI B U n0 j y∧j≤64∧y.L.length≤j
 |0,i,x,y,_,_,h=>by simp [goS] at h
 |f+1,i,x,y,he,hI,h=>by
  rw [goS] at h
  split at h
  ·rename_i hi
   split at h
   ·cases h
   ·exact z1119 f (i+1) _ y (by omega) (hI.step hi).1 h
  ·cases h
   exact ⟨i,hI,by omega,by omega⟩
theorem z1037 (t:Tree) (hs:t.sz≤200) (h:tsB t=true):autB (trA t)=true:=by
 unfold tsB at h
 unfold trA
 unfold trO at *
 by_cases hb:bscB t=true
 ·rw [if_pos hb] at *
  obtain ⟨⟨ht,hn⟩,h5⟩:=of_decide_eq_true (show decide _=true from hb)
  obtain ⟨hB,_,_⟩:=z672 ht hn h5 hs
  generalize t.nrm false=g at *
  generalize bscL g=B at *
  cases hS:trS B g with
  |none=>rw [hS] at h;cases h
  |some y =>
   have hI0:ExI B (untB B) (iniS B g).length 0 ⟨iniS B g,[],[]⟩:=⟨z744 B g,y54 _,rfl,y55 _,y55 _,by show (iniS B g).length≤(iniS B g).length+0 * _;omega,fun e he=>by cases he⟩
   obtain ⟨j,hI,hj,hl⟩:=z1119 65 0 _ y rfl hI0 hS
   show autB (z348 (iniS B g).length y)=true
   unfold z348
   by_cases h0:y.L.length=0
   ·rw [if_pos h0]
    have h1:=hI.base
    have e1:(iniS B g).length=0:=by omega
    have h2:=hI.edl
    have h3:=hI.le
    have hj0:j=0:=by omega
    rw [hj0,Nat.zero_mul] at h2
    have e2:y.ed=[]:=y76 (by omega)
    rw [e1,e2,z261]
    exact ⟨⟨by decide,by decide⟩,by decide,fun i hi _=>by simp [numI] at hi,fun e he=>by cases he⟩
   ·rw [if_neg h0]
    by_cases h1:1≤(iniS B g).length
    ·exact ExI.valid hB hI h1 hj hl
    ·exfalso
     have e1:iniS B g=[]:=y76 (by omega)
     have:trS B g=some ⟨[],[],[]⟩:=by unfold trS;rw [e1];rfl
     rw [this] at hS
     cases hS
     exact h0 rfl
 ·rw [if_neg hb] at h;cases h
theorem z1087 {t:Tree} (h:ngS t=true):autB (ngA t)=true:=by
 unfold ngS at h
 rw [y73] at h
 unfold ngA
 rw [if_pos h.1]
 exact z1037 _ (by have:=z511 h.1;omega) h.2
noncomputable def vdI (g:Graph) (l:List Tree) (f:Tree):Int:=if (glB g l && f.fmB)=true then (if ngS f=true then (if (ftO g l (ngA f)).isSome=true then 1 else 0) else 2) else 3
noncomputable def vdT (g:Graph) (l:List Tree) (f:Tree):Trace:=if (glB g l && f.fmB)=true then (if ngS f=true then ftL g l (ngA f) else ⟨[],[]⟩) else ⟨[],[]⟩
theorem ftL_none {g:Graph} {l:List Tree} {a:Aut} (h:(ftO g l a).isSome=false):ftL g l a=⟨[],[]⟩:=by
 unfold ftL
 cases hf:ftO g l a with
 |none=>rfl
 |some x=>rw [hf] at h;cases h
set_option maxHeartbeats 3200000 in
theorem z558 (g:Graph) (hg:g.mx) (l:List Tree) (hl:Lmx l) (f:Tree) (hf:f.mx):CallsA Tryz.prog 14 [.agg g.cs,lst 3 Tree.cs' l,z30 Tree.cs' f] [] (.tup [.int (vdI g l f),.agg [.sref 0 0 (vdT g l f).stem.length,.sref 1 0 (vdT g l f).loop.length]]) [.cells 1 ((vdT g l f).stem.map enI),.cells 1 ((vdT g l f).loop.map enI)]:=by
 have c1:=z254 g hg
 have c2:=z216 l hl.1 hl.2
 have c3:=z132 f hf
 have cN:=z557 f hf
 have cF:=z408 g hg l hl (ngA f) (ngA_mx f)
 have hno:=@ftL_none g l (ngA f)
 unfold vdI vdT
 unfold glB
 generalize ftL g l (ngA f)=tl at *
 generalize (ftO g l (ngA f)).isSome=tb at *
 generalize ngA f=a at *
 generalize ngS f=z at *
 rw [y15 f] at *
 generalize z328 g=b1 at *
 generalize z191 l=b2 at *
 generalize f.fmB=b3 at *
 cases b1
 ·refine z7 z17 Tryz.func14 rfl rfl 44 Tryz.ntmps14 (by simp) ?_
  repeat' ((first|(apply y4 ok;rfl)|(apply z6 (c1);rfl;rfl))<;>conv=>whnf)
  all_goals (refine y91 1 ?_;refine y91 1 ?_;refine rsD [3,4] [] rfl ?_;(repeat' first|exact y88 _|exact z46|refine z14 rfl (z33) ?_|apply z52|apply z104|constructor))
 cases b2
 ·refine z7 z17 Tryz.func14 rfl rfl 44 Tryz.ntmps14 (by simp) ?_
  repeat' ((first|(apply y4 ok;rfl)|(apply z6 (c1);rfl;rfl)|(apply z6 (c2);rfl;rfl))<;>conv=>whnf)
  all_goals (refine y91 1 ?_;refine y91 1 ?_;refine rsD [3,4] [] rfl ?_;(repeat' first|exact y88 _|exact z46|refine z14 rfl (z33) ?_|apply z52|apply z104|constructor))
 cases b3
 ·refine z7 z17 Tryz.func14 rfl rfl 44 Tryz.ntmps14 (by simp) ?_
  repeat' ((first|(apply y4 ok;rfl)|(apply z6 (c1);rfl;rfl)|(apply z6 (c2);rfl;rfl)|(apply z6 (c3);rfl;rfl))<;>conv=>whnf)
  all_goals (refine y91 1 ?_;refine y91 1 ?_;refine rsD [3,4] [] rfl ?_;(repeat' first|exact y88 _|exact z46|refine z14 rfl (z33) ?_|apply z52|apply z104|constructor))
 cases z
 ·refine z7 z17 Tryz.func14 rfl rfl 44 Tryz.ntmps14 (by simp) ?_
  repeat' ((first|(apply y4 ok;rfl)|(apply z6 (c1);rfl;rfl)|(apply z6 (c2);rfl;rfl)|(apply z6 (c3);rfl;rfl)|(apply z6 (cN);rfl;rfl))<;>conv=>whnf)
  all_goals (refine y91 1 ?_;refine y91 1 ?_;refine rsD [4,5] [] rfl ?_;(repeat' first|exact y88 _|exact z46|refine z14 rfl (z33) ?_|apply z52|apply z104|constructor))
 cases tb
 ·have hno:=hno rfl
  subst hno
  refine z7 z17 Tryz.func14 rfl rfl 44 Tryz.ntmps14 (by simp) ?_
  repeat' ((first|(apply y4 ok;rfl)|(apply z6 (c1);rfl;rfl)|(apply z6 (c2);rfl;rfl)|(apply z6 (c3);rfl;rfl)|(apply z6 (cN);rfl;rfl)|(apply z8 [] [4,5] cF;rfl;rfl;rfl;(focus ((repeat' first|exact z13|apply z11)<;>(refine z21 ?_;((exact z4 fun _=>rfl)))))))<;>conv=>whnf)
  all_goals (refine rsD [4,5] [] rfl ?_;(repeat' first|exact y88 _|exact z46|refine z14 rfl (z33) ?_|apply z52|apply z104|constructor))
 ·refine z7 z17 Tryz.func14 rfl rfl 44 Tryz.ntmps14 (by simp) ?_
  repeat' ((first|(apply y4 ok;rfl)|(apply z32;kernel_rfl)|(apply z6 (c1);rfl;rfl)|(apply z6 (c2);rfl;rfl)|(apply z6 (c3);rfl;rfl)|(apply z6 (cN);rfl;rfl)|(apply z8 [] [4,5] cF;rfl;rfl;rfl;(focus ((repeat' first|exact z13|apply z11)<;>(refine z21 ?_;((exact z4 fun _=>rfl)))))))<;>conv=>whnf)
  all_goals (refine rsD [4,5] [] rfl ?_;(repeat' first|exact y88 _|exact z16 _|refine z14 rfl (z4 (fun _=>rfl)) ?_|constructor))
end Go.Proofs.YtjhgpfaodkchjaaGreat
namespace Go.Proofs.YtjhgpfaodkchjaaGreat
open Go.Gl
attribute [local irreducible] z19 AWP z25 z31 z28
def pick (bl:List Int) (p:Int):Int:=bl.getD p.toNat 0
end Go.Proofs.YtjhgpfaodkchjaaGreat
namespace Go.Proofs.YtjhgpfaodkchjaaGreat
open Go.Gl
attribute [local irreducible] z19 AWP z25 z31 z28 RetS z38
def nxW (N s:Nat) (i:Nat):Int:=if i+1=N then (s:Int) else ((i+1:Nat):Int)
def pushW (a:Aut) (word:List Int) (s i:Nat):List (Nat×Int):=a.ed.flatMap (z440 a.acc.length i (word.getD i 0) (nxW word.length s i))
def accW (a:Aut) (word:List Int) (s:Nat):List (List Int):=build (word.length * a.acc.length) ((List.range word.length).flatMap (pushW a word s))
theorem nxW_in {N s i:Nat} (hs:s < N) (hi:i < N):0≤nxW N s i∧nxW N s i≤N - 1:=by unfold nxW;split<;>omega
def BackR {α:Type} (M:Nat) (Gc:Ghost) (wc:World) (rest:α→List AObj) (L:List Int) (env:List (Nat×AC)) (x:α) (a:Act) (w:World):Prop :=
 ∃ G,SubM M Gc G∧Le wc w∧Rel G (mkSt 19 env (.cells 1 [[ints L]]::rest x)) a w
def IsSt {α:Type} (rest:α→List AObj) (L:List Int) (x:α) (env' : List (Nat×AC)) (st:St):Prop:=st=mkSt 19 env' (.cells 1 [[ints L]]::rest x)
theorem BackR.step {α : Type} {M : Nat} {Gc : Ghost} {wc : World} {rest : α → List AObj} {L : List Int} {env env' : List (Nat × AC)} {x : α} {a : Act} {w : World} {c : Code}
    (h:BackR M Gc wc rest L env x a w) (hc:AWP Tryz.prog M c (z613 (IsSt rest L x env') (fun _ _=>False)) (mkSt 19 env (.cells 1 [[ints L]]::rest x))) {K:Act→World→Prop} {Q:Exit→Act→World→Prop}
    (hk:∀ a w,BackR M Gc wc rest L env' x a w→K a w):c.wpIn Fence.wide 0 Tryz.prog (Exit.then K Q) a w:=by
  obtain ⟨G,h1,h2,h3⟩:=h
  refine wpIn_mono (hc.at_ h3) ?_
  rintro ex a' w' ⟨G',st',k1,k2,k3,k4⟩
  cases ex with
  | normal =>
    have k3:st'=_:=k3
    subst k3
    exact hk _ _ ⟨G',h1.trans k1,h2.trans k2,k4⟩
  | _=>exact k3.elim
theorem BackR.less {α:Type} {M:Nat} {Gc:Ghost} {wc:World} {rest:α→List AObj} {L:List Int} {env env' : List (Nat×AC)} {x:α} {a:Act} {w:World} (h:BackR M Gc wc rest L env x a w) (he:z756 (fun s y=>z89 env s=y) env'):BackR M Gc wc rest L env' x a w:=by
 obtain ⟨G,h1,h2,h3⟩:=h
 refine ⟨G,h1,h2,h3.wf,fun s=>?_,h3.size,h3.defers⟩
 rcases z338 env' _ he s with e|e
 ·show V _ _ _ (z89 env' s) _
  rw [e];simp [V]
 ·have:=h3.env s
  show V _ _ _ (z89 env' s) _
  rw [← e];exact this
theorem BackR.val {α:Type} {M:Nat} {Gc:Ghost} {wc:World} {rest:α→List AObj} {L:List Int} {env:List (Nat×AC)} {x:α} {a:Act} {w:World} (h:BackR M Gc wc rest L env x a w) {s:Nat} {v:Value} (he:z89 env s=.raw v):a.tmps.getD s undef=v:=by
 obtain ⟨G,_,_,hR⟩:=h
 have:=hR.env s
 rw [show (mkSt 19 env (.cells 1 [[ints L]]::rest x)).env s=z89 env s from rfl,he] at this
 simpa only [V] using this
def NoAcc (rows:List (List Int)) (ini:List Int) (acc:List Bool):Prop:=∀ x,RP rows ini x→Cyc rows x→acc.getD (x % acc.length).toNat false=false
section
variable {rows:List (List Int)} {ini:List Int} {acc:List Bool} {R:List Int}
end
end Go.Proofs.YtjhgpfaodkchjaaGreat
namespace Go.Proofs.YtjhgpfaodkchjaaGreat
open Go.Gl
attribute [local irreducible] z19 AWP z25 z31 z28 RetS z38
attribute [local irreducible] EndR
theorem z1036 {g:Graph} {ls:List Int} {a:Aut} (hr:∀ r∈z55 g ls a,InN (z55 g ls a).length r) (hi:InN (z55 g ls a).length a.ini) (hn:a.ini.Nodup) (h:trcO g ls a=none):NoAcc (z55 g ls a) a.ini a.acc:=by
 unfold trcO at h
 rw [Option.map_eq_none_iff,← z460 hr hi hn,z731] at h
 intro x hx hc
 have hxN:=RP.in hr hi hx
 have:=h x ((z871 hr hi x).2 hx)
 cases hb:a.acc.getD (x % a.acc.length).toNat false with
 |false=>rfl
 |true =>
  exfalso
  apply this
  refine ⟨hb,z378.2 ?_⟩
  rw [Int.toNat_of_nonneg hxN.1];exact hc
end Go.Proofs.YtjhgpfaodkchjaaGreat
namespace Go.Proofs.YtjhgpfaodkchjaaGreat
open Go.Gl
attribute [local irreducible] z19 AWP z25 z31 z28
end Go.Proofs.YtjhgpfaodkchjaaGreat
namespace Go.Proofs.YtjhgpfaodkchjaaGreat
open Go.Gl
attribute [local irreducible] z19 AWP z25 z31 z28 RetS z38
theorem z1084 {g:Graph} {ls:List Int} {a:Aut} (hr:∀ r∈z55 g ls a,InN (z55 g ls a).length r) (hi:InN (z55 g ls a).length a.ini) (hn:a.ini.Nodup) (h:NoAcc (z55 g ls a) a.ini a.acc):trcO g ls a=none:=by
 unfold trcO
 rw [Option.map_eq_none_iff,← z460 hr hi hn,z731]
 rintro v hv ⟨h1,h2⟩
 have hvN:=z774 hr hi _ v hv
 have hc:=z378.1 h2
 rw [Int.toNat_of_nonneg hvN.1] at hc
 have:=h v ((z871 hr hi v).1 hv) hc
 rw [h1] at this;cases this
theorem z532 {N:Nat} {ps:List (Nat×Int)} {r:Nat} {y:Int} : y∈(build N ps).getD r []↔r < N∧(r,y)∈ps:=by
 by_cases h:r < N
 ·rw [z20 (by rw [z122];exact h),z385 (by rw [z122];exact h)]
  simp only [y62,List.mem_filter,beq_iff_eq,h,true_and]
  constructor
  ·rintro ⟨⟨p,v⟩,⟨h1,h2⟩,h3⟩
   dsimp only at h2 h3
   subst h2;subst h3;exact h1
  ·intro h1;exact ⟨(r,y),⟨h1,rfl⟩,rfl⟩
 ·have e:(build N ps).getD r []=[]:=by rw [y70,y71 (by rw [z122];omega)];rfl
  rw [e];simp [h]
theorem z1069 {g:Graph} {ls:List Int} {a:Aut} {i:Nat} {to:Int} {e:Trans} (hsrc:e.src.toNat < a.acc.length) (hi:i < g.st.length) (hto:to∈g.nx.getD i []) (he:e∈a.ed) (hon:onB e (ls.getD i 0)=true):to * a.acc.length+e.dst∈(z55 g ls a).getD (i * a.acc.length+e.src.toNat) []:=by
 unfold z55
 refine z532.2 ⟨?_,List.mem_flatMap.2 ⟨i,List.mem_range.2 hi,?_⟩⟩
 ·have h1:(i+1) * a.acc.length≤g.st.length * a.acc.length:=Nat.mul_le_mul_right _ hi
  rw [Nat.add_mul,Nat.one_mul,Nat.mul_comm g.st.length] at h1
  omega
 ·unfold z714
  refine List.mem_flatMap.2 ⟨to,hto,List.mem_flatMap.2 ⟨e,he,?_⟩⟩
  unfold z440
  rw [if_pos hon];simp
section
variable {g:Graph} {ls:List Int} {a:Aut} {t:Trace}
end
end Go.Proofs.YtjhgpfaodkchjaaGreat
namespace Go.Proofs.YtjhgpfaodkchjaaGreat
open Go.Gl
attribute [local irreducible] z19 AWP z25 z31 z28 RetS z38
end Go.Proofs.YtjhgpfaodkchjaaGreat
namespace Go.Proofs.YtjhgpfaodkchjaaGreat
open Go.Gl
attribute [local irreducible] z19 AWP z25 z31 z28
theorem GB.row {g:Graph} (h:GB g):∀ i (hi:i < g.nx.length),1≤g.nx[i].length∧g.nx[i].length≤60∧InN g.st.length g.nx[i]:=fun i hi=>by
 obtain ⟨⟨g1,g2⟩,g3,g4⟩:=h
 have h4:=g4 i hi hi (by omega)
 refine ⟨by have:=h4.2.1;omega,by have:=h4.2.1;omega,fun x hx=>?_⟩
 obtain ⟨j,hj,rfl⟩:=List.mem_iff_getElem.1 hx
 have:=(h4.2.2.2 j hj hj).1
 omega
end Go.Proofs.YtjhgpfaodkchjaaGreat
namespace Go.Proofs.YtjhgpfaodkchjaaGreat
open Go.Gl
attribute [local irreducible] z19 AWP z25 z31 z28 RetS z38
theorem z900 {g:Graph} {ls:List Int} {a:Aut} {x y:Int} (hx:0≤x) (h:y∈(z55 g ls a).getD x.toNat []) (hA:AutP a):∃ (i:Nat) (to:Int) (e:Trans),i < g.st.length∧to∈g.nx.getD i []∧e∈a.ed∧onB e (ls.getD i 0)=true∧x / a.acc.length=i∧x % a.acc.length=e.src∧y / a.acc.length=to∧y % a.acc.length=e.dst:=by
 unfold z55 at h
 obtain ⟨_,h⟩:=z532.1 h
 unfold z712 at h
 obtain ⟨i,hi,h⟩:=List.mem_flatMap.1 h
 unfold z714 at h
 obtain ⟨to,hto,h⟩:=List.mem_flatMap.1 h
 unfold z713 at h
 obtain ⟨e,he,h⟩:=List.mem_flatMap.1 h
 unfold z440 at h
 split at h
 ·rename_i hon
  simp only [y57,Prod.mk.injEq] at h
  obtain ⟨h1,h2⟩:=h
  have hE:=hA.2.2.2 e he
  unfold z414 at hE
  have hac:=hA.1
  have hn:(a.acc.length:Int)≠0:=by omega
  have hm:((i * a.acc.length:Nat):Int)=(i:Int) * a.acc.length:=by simp
  have hxe:x=(i:Int) * a.acc.length+e.src:=by omega
  have d1:∀ (b q:Int),0≤q→q < a.acc.length→(b * a.acc.length+q) / (a.acc.length:Int)=b∧(b * a.acc.length+q) % (a.acc.length:Int)=q:=fun b q q0 q1 =>
   ⟨by rw [Int.add_comm,Int.add_mul_ediv_right _ _ hn,Int.ediv_eq_zero_of_lt q0 q1,Int.zero_add],by rw [Int.add_comm,Int.add_mul_emod_self_right,Int.emod_eq_of_lt q0 q1]⟩
  have k1:=d1 i e.src hE.1.1 (by omega)
  have k2:=d1 to e.dst hE.2.1.1 (by omega)
  exact ⟨i,to,e,List.mem_range.1 hi,hto,he,hon,by rw [hxe];exact k1.1,by rw [hxe];exact k1.2,by rw [h2];exact k2.1,by rw [h2];exact k2.2⟩
 ·cases h
structure FndP (g:Graph) (ls:List Int) (a:Aut) (s q:List Int):Prop where
 inn:∀ x∈s++q,0≤x
 path:PathP (z55 g ls a) (s++q)
 ini:(s++q).getD 0 0∈a.ini
 pos:0 < q.length
 back:q.getD 0 0∈(z55 g ls a).getD (q.getD (q.length - 1) 0).toNat []
 acc:a.acc.getD (q.getD 0 0 % a.acc.length).toNat false=true
section
variable {g:Graph} {ls:List Int} {a:Aut} {s q:List Int}
theorem FndP.step (h:FndP g ls a s q) {k:Nat} (hk:k < (s++q).length):(s++q).getD (nxW (s++q).length s.length k).toNat 0∈(z55 g ls a).getD ((s++q).getD k 0).toNat []:=by
 have hl:(s++q).length=s.length+q.length:=by simp
 have hsq:∀ j,(s++q).getD (s.length+j) 0=q.getD j 0:=fun j=>by
  rw [y70,y70,y69 (by omega),show s.length+j - s.length=j by omega]
 have hp:=h.pos
 unfold nxW
 split
 ·rename_i e
  rw [y79,show s.length=s.length+0 by omega,hsq,show k=s.length+(q.length - 1) by omega,hsq]
  exact h.back
 ·rw [y79];exact h.path k (by omega)
theorem FndP.word (hA:AutP a) (h:FndP g ls a s q) {w:List Int} (hw:w.length=(s++q).length) (hwl:∀ k,k < w.length→w.getD k 0=ls.getD ((s++q).getD k 0 / a.acc.length).toNat 0):∃ x,RP (accW a w s.length) a.ini x∧Cyc (accW a w s.length) x∧a.acc.getD (x % a.acc.length).toNat false=true:=by
 have hac:=hA.1
 have hn:(a.acc.length:Int)≠0:=by omega
 have hl:(s++q).length=s.length+q.length:=by simp
 have hp:=h.pos
 have hsq0:(s++q).getD s.length 0=q.getD 0 0:=by
  rw [y70,y70,y69 (y54 _),Nat.sub_self]
 obtain ⟨P,hP⟩:∃ P:Nat→Int,P=fun (k:Nat)=>(k:Int) * a.acc.length+(s++q).getD k 0 % a.acc.length:=⟨_,rfl⟩
 have hP0:∀ k,0≤P k:=fun k=>by
  rw [hP]
  have:=Int.mul_nonneg (show (0:Int)≤k by omega) (show (0:Int)≤a.acc.length by omega)
  have:=Int.emod_nonneg ((s++q).getD k 0) hn
  dsimp only;omega
 have hPm:∀ k,P k % (a.acc.length:Int)=(s++q).getD k 0 % a.acc.length:=fun k=>by
  rw [hP];dsimp only
  rw [Int.add_comm,Int.add_mul_emod_self_right,Int.emod_emod_of_dvd _ (Int.dvd_refl _)]
 have edge:∀ k,k < w.length→P (nxW w.length s.length k).toNat∈(accW a w s.length).getD (P k).toNat []:=fun k hk=>by
  have hst:=h.step (k:=k) (by omega)
  rw [← hw] at hst
  have hx0:=h.inn ((s++q).getD k 0) (by rw [z20 (by omega)];exact y46 _)
  obtain ⟨i,to,e,h1,h2,h3,h4,h5,h6,h7,h8⟩:=z900 hx0 hst hA
  have hE:=hA.2.2.2 e h3
  unfold z414 at hE
  have hnx:=nxW_in (N:=w.length) (s:=s.length) (i:=k) (by omega) hk
  have hon:onB e (w.getD k 0)=true:=by rw [hwl k hk,h5,y79];exact h4
  have hm:((k * a.acc.length:Nat):Int)=(k:Int) * a.acc.length:=by simp
  have e1:(P k).toNat=k * a.acc.length+e.src.toNat:=by
   rw [hP];dsimp only;rw [h6];omega
  have e2:P (nxW w.length s.length k).toNat=nxW w.length s.length k * a.acc.length+e.dst:=by
   rw [hP];dsimp only;rw [h8,Int.toNat_of_nonneg hnx.1]
  rw [e1,e2]
  unfold accW
  refine z532.2 ⟨?_,List.mem_flatMap.2 ⟨k,List.mem_range.2 hk,?_⟩⟩
  ·have h9:(k+1) * a.acc.length≤w.length * a.acc.length:=Nat.mul_le_mul_right _ hk
   rw [Nat.add_mul,Nat.one_mul] at h9
   omega
  ·unfold pushW
   refine List.mem_flatMap.2 ⟨e,h3,?_⟩
   unfold z440
   rw [if_pos hon];simp
 have rp:∀ k,k < w.length→RP (accW a w s.length) a.ini (P k):=by
  intro k
  induction k with
  |zero =>
   intro _
   refine .base ?_
   have hi:=h.ini
   obtain ⟨j,hj,e⟩:=List.mem_iff_getElem.1 hi
   have h5:=(hA.2.2.1 j hj hj).1
   rw [e] at h5
   have:P 0=(s++q).getD 0 0:=by rw [hP];dsimp only;rw [Int.emod_eq_of_lt h5.1 (by omega)];simp
   rw [this];exact hi
  |succ k ih =>
   intro hk
   have:=edge k (by omega)
   unfold nxW at this
   rw [if_neg (by omega),y79] at this
   exact .step (ih (by omega)) this
 have round:∀ d k,k+d+1=w.length→s.length≤k→RP (accW a w s.length) [P k] (P s.length):=by
  intro d
  induction d with
  |zero =>
   intro k hk _
   have:=edge k (by omega)
   unfold nxW at this
   rw [if_pos (by omega),y79] at this
   exact .step (.base (by simp)) this
  |succ d ih =>
   intro k hk hs
   have:=edge k (by omega)
   unfold nxW at this
   rw [if_neg (by omega),y79] at this
   exact RP.trans (.base (by simp)) this (ih (k+1) (by omega) (by omega))
 refine ⟨P s.length,rp _ (by omega),⟨_,edge s.length (by omega),?_⟩,by rw [hPm,hsq0];exact h.acc⟩
 unfold nxW
 split
 ·rw [y79];exact .base (by simp)
 ·rw [y79];exact round (w.length - (s.length+1) - 1) (s.length+1) (by omega) (by omega)
end
end Go.Proofs.YtjhgpfaodkchjaaGreat
namespace Go.Proofs.YtjhgpfaodkchjaaGreat
open Go.Gl
attribute [local irreducible] z19 AWP z25 z31 z28
def GPath (g:Graph) (π:Nat→Int):Prop:=π 0=0∧∀ k,π (k+1)∈g.nx.getD (π k).toNat []
def gW (g:Graph) (l:List Tree) (π:Nat→Int) (k:Nat):Int:=(g.st.map (z50 l)).getD (π k).toNat 0
theorem GPath.inn {g:Graph} (hG:GB g) {π:Nat→Int} (h:GPath g π):∀ k,0≤π k∧π k < g.st.length
 |0=>by have:=hG.1;rw [h.1];omega
 |k+1=>by
  have ih:=GPath.inn hG h k
  have hl:=hG.2.1
  have h1:=h.2 k
  rw [z20 (by omega)] at h1
  exact (hG.row _ (by omega)).2.2 _ h1
theorem gW_nn {g:Graph} {l:List Tree} (hL:z129 l) (π:Nat→Int) (k:Nat):0≤gW g l π k:=by
 unfold gW
 by_cases h:(π k).toNat < (g.st.map (z50 l)).length
 ·rw [z20 h,List.getElem_map]
  exact (z427 hL _).1
 ·rw [y70,y71 (by omega)];exact Int.le_refl _
theorem divmod {n b q:Int} (hn:0 < n) (q0:0≤q) (q1:q < n):(b * n+q) / n=b∧(b * n+q) % n=q :=
 ⟨by rw [Int.add_comm,Int.add_mul_ediv_right _ _ (by omega),Int.ediv_eq_zero_of_lt q0 q1,Int.zero_add],by rw [Int.add_comm,Int.add_mul_emod_self_right,Int.emod_eq_of_lt q0 q1]⟩
def ARun (a:Aut) (w:Nat→Int) (ρ:Nat→Int):Prop:=ρ 0∈a.ini∧(∀ k,∃ e∈a.ed,e.src=ρ k∧e.dst=ρ (k+1)∧onB e (w k)=true)∧∀ m,∃ k,m≤k∧a.acc.getD (ρ k).toNat false=true
theorem fto_iff {g:Graph} {l:List Tree} {a:Aut} (h1:(glB g l && autB a)=true):(ftO g l a).isSome=true↔∃ π ρ:Nat→Int,GPath g π∧ARun a (gW g l π) ρ:=by
 obtain ⟨h3,hab⟩:=Bool.and_eq_true_iff.1 h1
 have hG:=(z126 g).1 (by unfold glB at h3;exact (Bool.and_eq_true_iff.1 h3).1)
 have hA:=z261.1 hab
 obtain ⟨f1,f2,f3,f4,f5⟩:=z578 hG hA (g.st.map (z50 l))
 have hnd:=hA.2.2.1.nd
 have hac:=hA.1
 have hn:(0:Int) < a.acc.length:=by omega
 have hini:=fun x hx=>(show InN (z55 g (g.st.map (z50 l)) a).length a.ini from f2) x hx
 have e1:ftO g l a=trcO g (g.st.map (z50 l)) a:=by unfold ftO;rw [if_pos h1]
 have e2:(ftO g l a).isSome=true↔∃ x,RP (z55 g (g.st.map (z50 l)) a) a.ini x∧a.acc.getD (x % a.acc.length).toNat false=true∧Cyc (z55 g (g.st.map (z50 l)) a) x:=by
  rw [e1]
  constructor
  ·intro h
   refine y80 fun hno=>?_
   have:NoAcc (z55 g (g.st.map (z50 l)) a) a.ini a.acc:=fun x hx hc=>by
    cases hb:a.acc.getD (x % a.acc.length).toNat false with
    |false=>rfl
    |true=>exact absurd ⟨x,hx,hb,hc⟩ hno
   rw [z1084 f1 f2 hnd this] at h
   cases h
  ·rintro ⟨x,hx,hb,hc⟩
   cases ht:trcO g (g.st.map (z50 l)) a with
   |some p=>rfl
   |none =>
    have:=z1036 f1 f2 hnd ht x hx hc
    rw [hb] at this;cases this
 have e3:=inf_iff (acc:=fun x=>a.acc.getD (x % a.acc.length).toNat false=true) f1 f2
 rw [e2,← e3]
 constructor
 ·rintro ⟨σ,s0,s1,s2⟩
  have hin:=runInN f1 s1 (f2 _ s0)
  have hst:=fun k=>z900 (hin k).1 (s1 k) hA
  obtain ⟨i0,hi0,ei0⟩:=List.mem_iff_getElem.1 s0
  have hr0:=(hA.2.2.1 i0 hi0 hi0).1
  rw [ei0] at hr0
  have hd0:=divmod (b:=0) hn hr0.1 (show σ 0 < a.acc.length by omega)
  rw [Int.zero_mul,Int.zero_add] at hd0
  refine ⟨fun k=>σ k / a.acc.length,fun k=>σ k % a.acc.length,⟨hd0.1,fun k=>?_⟩,by show σ 0 % _∈_;rw [hd0.2];exact s0,fun k=>?_,s2⟩
  ·obtain ⟨i,to,e,c1,c2,c3,c4,c5,c6,c7,c8⟩:=hst k
   show σ (k+1) / _∈g.nx.getD (σ k / a.acc.length).toNat []
   rw [c7,c5,y79];exact c2
  ·obtain ⟨i,to,e,c1,c2,c3,c4,c5,c6,c7,c8⟩:=hst k
   refine ⟨e,c3,c6.symm,c8.symm,?_⟩
   unfold gW
   show onB e ((g.st.map (z50 l)).getD (σ k / a.acc.length).toNat 0)=true
   rw [c5,y79];exact c4
 ·rintro ⟨π,ρ,hp,r0,r1,r2⟩
  have hin:=hp.inn hG
  have hrr:∀ k,0≤ρ k∧ρ k < a.acc.length:=fun k=>by
   obtain ⟨e,he,c1,c2,_⟩:=r1 k
   have hE:=hA.2.2.2 e he
   unfold z414 at hE
   omega
  refine ⟨fun k=>π k * a.acc.length+ρ k,?_,fun k=>?_,fun m=>?_⟩
  ·show π 0 * _+ρ 0∈_
   rw [hp.1,Int.zero_mul,Int.zero_add];exact r0
  ·obtain ⟨e,he,c1,c2,c3⟩:=r1 k
   have hE:=hA.2.2.2 e he
   unfold z414 at hE
   have h4:=z1069 (g:=g) (ls:=g.st.map (z50 l)) (a:=a) (i:=(π k).toNat) (to:=π (k+1)) (e:=e) (by omega) (by have:=hin k;omega) (hp.2 k) he c3
   show π (k+1) * _+ρ (k+1)∈(z55 g (g.st.map (z50 l)) a).getD (π k * a.acc.length+ρ k).toNat []
   rw [c2] at h4
   have h5:(π k * a.acc.length+ρ k).toNat=(π k).toNat * a.acc.length+e.src.toNat:=by
    rw [c1]
    obtain ⟨i,hi⟩:=Int.eq_ofNat_of_zero_le (hin k).1
    obtain ⟨r,hr⟩:=Int.eq_ofNat_of_zero_le (hrr k).1
    rw [hi,hr,y79,y79]
    norm_cast
   rw [h5];exact h4
  ·obtain ⟨k,k1,k2⟩:=r2 m
   refine ⟨k,k1,?_⟩
   show a.acc.getD ((π k * a.acc.length+ρ k) % a.acc.length).toNat false=true
   rw [(divmod hn (hrr k).1 (hrr k).2).2];exact k2
theorem z888 (t:Tree) (hs:t.sz≤200) (h:tsB t=true) {w:Nat→Int} (hw:∀ k,0≤w k):(∃ ρ,ARun (trA t) w ρ)↔t.sem w 0:=by
 unfold tsB at h
 unfold trA
 unfold trO at *
 by_cases hb:bscB t=true
 ·rw [if_pos hb] at *
  obtain ⟨⟨ht,hn⟩,h5⟩:=of_decide_eq_true (show decide _=true from hb)
  obtain ⟨hB,hIn,_⟩:=z672 ht hn h5 hs
  have hg:=y23 ht
  have hsem:=sem_nrm w t hg false 0
  rw [if_neg (by simp)] at hsem
  have hNF:=nrm_NF t hg false
  have hNB:∀ x∈bscL (t.nrm false),NF x:=fun x hx=>z891 (p:=NF) (fun x hx=>hx.kids) (t.nrm false) [] hNF (by simp) x (List.mem_filter.1 hx).1
  rw [← hsem]
  clear hsem hg ht hn
  generalize t.nrm false=g at *
  generalize bscL g=B at *
  have hBk:BOk B:=⟨hB.nd,hB.cl,hB.bk,hB.av⟩
  cases hS:trS B g with
  |none=>rw [hS] at h;cases h
  |some y =>
   obtain ⟨hT,suf,hL⟩:=trS_T hS
   have hIL:(iniS B g).length≤y.L.length:=by rw [hL];simp
   show (∃ ρ,ARun (z348 (iniS B g).length y) w ρ)↔_
   have hmI:∀ x,x∈numI (iniS B g).length↔∃ i:Nat,x=i∧i < (iniS B g).length:=fun x=>by
    unfold numI
    rw [y62]
    exact ⟨fun ⟨i,hi,e⟩=>⟨i,e.symm,List.mem_range.1 hi⟩,fun ⟨i,e,hi⟩=>⟨i,List.mem_range.2 hi,e.symm⟩⟩
   constructor
   ·rintro ⟨ρ,r0,r1,r2⟩
    obtain ⟨i0,ei0,hi0⟩:=(hmI _).1 r0
    have hL0:¬ y.L.length=0:=by omega
    have hacc:(z348 (iniS B g).length y).acc=y.acc:=by unfold z348;dsimp only;rw [if_neg hL0]
    have hst:∀ k,∃ e∈y.ed,e.src=ρ k∧e.dst=ρ (k+1)∧(((w k).toNat &&& e.care.toNat:Nat):Int)=e.val:=fun k=>by
     obtain ⟨e,he,c1,c2,c3⟩:=r1 k
     obtain ⟨e',he',rfl⟩:=List.mem_map.1 (show e∈y.ed.map eT from he)
     exact ⟨e',he',c1,c2,of_decide_eq_true c3⟩
    have hnn:∀ k,ρ k=((ρ k).toNat:Nat):=fun k=>by
     obtain ⟨e,he,c1,_⟩:=hst k
     obtain ⟨k',t,_,_,_,x1,_⟩:=hT.e1 e he
     omega
    refine tr_sound hBk hIn hS hw (ρ:=fun k=>(ρ k).toNat) ⟨by show (ρ 0).toNat < _;omega,fun k=>?_,fun m=>?_⟩
    ·obtain ⟨e,he,c1,c2,c3⟩:=hst k
     exact ⟨e,he,by rw [c1];exact hnn k,by rw [c2];exact hnn (k+1),c3⟩
    ·obtain ⟨k,k1,k2⟩:=r2 m
     rw [hacc] at k2
     exact ⟨k,k1,k2⟩
   ·intro hs
    obtain ⟨ρ,r0,r1,r2⟩:=z798 hBk hNB hNF hIn hS hw hs
    have hL0:¬ y.L.length=0:=by omega
    have hacc:(z348 (iniS B g).length y).acc=y.acc:=by unfold z348;dsimp only;rw [if_neg hL0]
    refine ⟨fun k=>(ρ k:Int),(hmI _).2 ⟨ρ 0,rfl,r0⟩,fun k=>?_,fun m=>?_⟩
    ·obtain ⟨e,he,c1,c2,c3⟩:=r1 k
     exact ⟨eT e,List.mem_map.2 ⟨e,he,rfl⟩,c1,c2,y84 c3⟩
    ·obtain ⟨k,k1,k2⟩:=r2 m
     refine ⟨k,k1,?_⟩
     rw [hacc,y79];exact k2
 ·rw [if_neg hb] at h;cases h
theorem z904 {t:Tree} (hg:t.goodF) (w:Nat→Int) (i:Nat):(negT t).sem w i↔¬ t.sem w i:=by
 unfold negT
 by_cases hk:t.kind=3
 ·rw [if_pos hk]
  cases y21 hg with
  |tr=>simp [Tree.kind] at hk
  |«at» v _ _=>simp [Tree.kind] at hk
  |bin k a b hk2 _ _=>simp only [Tree.kind] at hk;omega
  |un k a _ _ =>
   simp only [Tree.kind] at hk
   subst hk
   rw [z398,Classical.not_not]
   simp [Tree.kids]
 ·rw [if_neg hk,z357]
theorem vd_sem {g:Graph} {l:List Tree} {f:Tree} (hgl:glB g l=true) (hs:ngS f=true):(ftO g l (ngA f)).isSome=true↔∃ π,GPath g π∧¬ f.sem (gW g l π) 0:=by
 have hv:=z1087 hs
 have hL:=y8 (by unfold glB at hgl;exact (Bool.and_eq_true_iff.1 hgl).2)
 have h1:=hs
 unfold ngS at h1
 rw [y73] at h1
 have hz:=z511 h1.1
 have e1:ngA f=trA (negT f):=by unfold ngA ngT;rw [if_pos h1.1,if_pos h1.1]
 have e2:ngT f=negT f:=by unfold ngT;rw [if_pos h1.1]
 rw [e2] at h1 hz
 have hg:=y23 (ngB_fm h1.1)
 rw [fto_iff (by rw [hgl,hv];rfl)]
 constructor
 ·rintro ⟨π,ρ,hp,hr⟩
  rw [e1] at hr
  exact ⟨π,hp,(z904 hg _ _).1 ((z888 _ (by omega) h1.2 (gW_nn hL π)).1 ⟨ρ,hr⟩)⟩
 ·rintro ⟨π,hp,hn⟩
  obtain ⟨ρ,hr⟩:=(z888 _ (by omega) h1.2 (gW_nn hL π)).2 ((z904 hg _ _).2 hn)
  rw [← e1] at hr
  exact ⟨π,ρ,hp,hr⟩
theorem z681 {g:Graph} {l:List Tree} {f:Tree} : vdI g l f=0↔(glB g l=true∧f.fmB=true∧ngS f=true)∧∀ π,GPath g π→f.sem (gW g l π) 0:=by
 unfold vdI
 by_cases h1:(glB g l && f.fmB)=true
 ·obtain ⟨h2,h3⟩:=Bool.and_eq_true_iff.1 h1
  rw [if_pos h1]
  by_cases h4:ngS f=true
  ·rw [if_pos h4]
   have hv:=vd_sem h2 h4
   by_cases h5:(ftO g l (ngA f)).isSome=true
   ·rw [if_pos h5]
    refine ⟨fun h=>(by cases h),fun ⟨_,h⟩=>?_⟩
    obtain ⟨π,p1,p2⟩:=hv.1 h5
    exact absurd (h π p1) p2
   ·rw [if_neg h5]
    refine ⟨fun _=>⟨⟨h2,h3,h4⟩,fun π hp=>y80 fun hn=>h5 (hv.2 ⟨π,hp,hn⟩)⟩,fun _=>rfl⟩
  ·rw [if_neg h4]
   exact ⟨fun h=>(by cases h),fun ⟨h,_⟩=>absurd h.2.2 h4⟩
 ·rw [if_neg h1]
  exact ⟨fun h=>(by cases h),fun ⟨h,_⟩=>absurd (by rw [h.1,h.2.1];rfl) h1⟩
theorem z1019 (g:Graph) (l:List Tree) (f:Tree):vdI g l f=0∨vdI g l f=1∨vdI g l f=2∨vdI g l f=3:=by
 unfold vdI
 split
 ·split
  ·split<;>simp
  ·simp
 ·simp
theorem z1018 {g:Graph} {l:List Tree} {f:Tree} : vdI g l f < 2↔glB g l=true∧f.fmB=true∧ngS f=true:=by
 unfold vdI
 by_cases h1:(glB g l && f.fmB)=true
 ·obtain ⟨h2,h3⟩:=Bool.and_eq_true_iff.1 h1
  rw [if_pos h1]
  by_cases h4:ngS f=true
  ·rw [if_pos h4]
   refine ⟨fun _=>⟨h2,h3,h4⟩,fun _=>?_⟩
   split<;>omega
  ·rw [if_neg h4];exact ⟨fun h=>(by omega),fun h=>absurd h.2.2 h4⟩
 ·rw [if_neg h1]
  exact ⟨fun h=>(by omega),fun h=>absurd (by rw [h.1,h.2.1];rfl) h1⟩
theorem z680 {g:Graph} {l:List Tree} {f:Tree} : vdI g l f=3↔¬ (glB g l=true∧f.fmB=true):=by
 unfold vdI
 by_cases h1:(glB g l && f.fmB)=true
 ·obtain ⟨h2,h3⟩:=Bool.and_eq_true_iff.1 h1
  rw [if_pos h1]
  refine ⟨fun h=>?_,fun h=>absurd ⟨h2,h3⟩ h⟩
  split at h
  ·split at h<;>cases h
  ·cases h
 ·rw [if_neg h1]
  exact ⟨fun _ h=>h1 (by rw [h.1,h.2];rfl),fun _=>rfl⟩
end Go.Proofs.YtjhgpfaodkchjaaGreat
namespace Go.Proofs.YtjhgpfaodkchjaaGreat
open Go.Gl
attribute [local irreducible] z19 AWP z25 z31 z28 RetS z38
theorem z251 (g:Graph) (hg:g.mx) (l:List Tree) (hl:Lmx l) (f:Tree) (hf:f.mx):CallsA Tryz.prog 14 [.agg g.cs,lst 3 Tree.cs' l,z30 Tree.cs' f] [] (.tup [.int (vdI g l f),.agg (vdT g l f).cs]) []:=(by refine y5 (z558 g hg l hl f hf) [] [0,1] rfl rfl rfl ?_ ?_<;>(repeat' first|exact y88 _|((apply z54 rfl rfl rfl);(focus ((repeat ((exact z42 (fun _=>rfl) _)));done));(focus (((simp;done));done)))|apply z52|apply z104|constructor))
theorem z1097 {P:Program} {F:FuncId} {c1 c2:AC} {k q:Int} {R:AC} (h:CallsA P F [c1,c2,z30 Tree.cs' (.mk q 0 [.mk 2 k []])] [] R []):CallsA P F [c1,c2,.agg [.int q,.int 0,.list 3 1 [[.int 2,.int k,.nils]]]] [] R []:=by
 rw [y15] at h
 refine h.arg ?_
 (repeat' first|exact y88 _|exact z43|apply z52|(apply z79;rfl)|constructor)
theorem z366 {P:Program} {F:FuncId} {g:Graph} {l:List Tree} {k q:Int} {R:AC} (h:CallsA P F [.agg g.cs,lst 3 Tree.cs' l,z30 Tree.cs' (.mk q 0 [.mk 2 k []])] [] R []):CallsA P F [.agg g.cs,lst 3 Tree.cs' l,.agg [.int q,.int 0,.sref 0 0 1]] [.cells 3 [[.int 2,.int k,.nils]]] R [.dead]:=CallsA.eat (z1097 h) rfl
theorem ngS_of {f:Tree} (h1:ngB f=true) (h2:((negT f).nrm false).fmB=true) (h3:(bscL ((negT f).nrm false)).length≤4):ngS f=true:=by
 have hf:(negT f).fmB=true:=by
  unfold ngB at h1
  exact (Bool.and_eq_true_iff.1 h1).2
 have e:ngT f=negT f:=by unfold ngT;rw [if_pos h1]
 unfold ngS tsB trO
 rw [h1,Bool.true_and,e,if_pos (by unfold bscB;exact y84 ⟨⟨hf,h2⟩,by omega⟩),Option.isSome_map]
 exact trS_some h3 _
end Go.Proofs.YtjhgpfaodkchjaaGreat
namespace Go.Proofs.YtjhgpfaodkchjaaGreat
open Go.Gl
attribute [local irreducible] z19 AWP z25 z31 z28
theorem z1035 {q k:Int} (hq:q=9∨q=10) (hk:k=0∨k=1∨k=2):(Tree.mk q 0 [.mk 2 k []]).fmB=true∧ngS (.mk q 0 [.mk 2 k []])=true:=by
 have e1:negT (.mk q 0 [.mk 2 k []])=notT (.mk q 0 [.mk 2 k []]):=by rcases hq with rfl|rfl<;>simp [negT,Tree.kind,notT]
 have e:(negT (.mk q 0 [.mk 2 k []])).nrm false=.mk (if q=9 then 8 else 7) 0 [if q=9 then notT truT else truT,notT (.mk 2 k [])]:=by
  rcases hq with rfl|rfl<;>simp [e1,notT,z405,z723,z722,z580]
 refine ⟨?_,ngS_of ?_ ?_ ?_⟩
 ·rcases hq with rfl|rfl<;>rcases hk with rfl|rfl|rfl<;>decide
 ·unfold ngB;rw [e1];rcases hq with rfl|rfl<;>rcases hk with rfl|rfl|rfl<;>decide
 ·rw [e];rcases hq with rfl|rfl<;>rcases hk with rfl|rfl|rfl<;>decide
 ·rw [e]
  rcases hq with rfl|rfl<;>simp [bscL,Tree.subs,Tree.subss,addT,z91,Tree.kind,truT,notT,List.filter_cons]
end Go.Proofs.YtjhgpfaodkchjaaGreat
