/- A part of the proofs over this program: T184, T185, T35A, T64, T65, T66, T70, T71, T72, T73, T74, T75. -/
import Derived.Test.YtknlmbniicacmaaGreatG0
import Derived.Test.YtknlmbniicacmaaGreatG1
import Derived.Test.YtknlmbniicacmaaGreatG2
import Derived.Test.YtknlmbniicacmaaGreatG3
import Derived.Test.YtknlmbniicacmaaGreatP0
import Derived.Test.YtknlmbniicacmaaGreatP1
set_option linter.all false
namespace Go.Proofs.YtknlmbniicacmaaGreat
open Go.Gl
attribute [local irreducible] z31 AWP z48 z52 z50 RetS z57
theorem z391 {N w:Nat} (Q P:List Int) (hw:w < N):((frm N Q P).map enI)[w]?=some (enI (if (w:Int)∈Q then P.getD w 0 else -2)):=by
  unfold frm
  rw [List.getElem?_map,List.getElem?_map,List.getElem?_range hw];rfl
theorem z435 {N w:Nat} {Q P:List Int} {u:Int} (hw:w < N) (hP:P.length=N):((frm N Q P).map enI).set w (enI u)=(frm N (Q++[(w:Int)]) (P.set w u)).map enI:=by
  have:=frm_set (N:=N) (Q:=Q) (P:=P) (v:=(w:Int)) (u:=u) ⟨by omega,by omega⟩ hP
  rw [Int.toNat_natCast] at this
  rw [← this,List.map_set]
set_option maxHeartbeats 12800000 in
theorem z590 (rows : List (List Int)) (ini : List Int) (hr : ∀ r ∈ rows, InN rows.length r) (hi : InN rows.length ini) (hn : ini.Nodup) (hN : rows.length ≤ 100000) (hrl : ∀ r ∈ rows, r.length ≤ 1000000000) (G : Int → Bool) (f : FuncId) (c1 : List AC) (hf : ∀ x : Int, 0 ≤ x → x < rows.length → CallsA Tryz.prog f (.int x :: [.pt c1]) [] (.bool (G x)) []) :
    CallsA Tryz.prog 195 [lst 1 encL rows,ints ini,.fn (.func f) [] [.pt c1]] [] (.sref 0 0 (shL rows ini G).length) [.cells 1 ((shL rows ini G).map enI)]:=by
  have hil:ini.length≤100000:=by have:=z135 rows.length ini hn hi;omega
  refine z10 z18 Tryz.func195 rfl rfl 99 Tryz.ntmps195 (by simp) ?_
  repeat' ((first|(apply AWP.go ok;rfl)|(apply And.intro;(dsimp only;omega)))<;>conv=>whnf)
  all_goals skip
  obtain ⟨qm,hqm⟩:∃ qm:Nat→Nat→Int,qm=fun i j=>if j < i then -2 else 0:=⟨_,rfl⟩
  have q0:qm 0=fun _=>0:=by rw [hqm];rfl
  have qE:(fnL rows.length (qm rows.length)).map enI=(frm rows.length [] (List.replicate rows.length (-1))).map enI:=by
    rw [z1042]
    congr 1
    apply List.ext_getElem (by simp [fnL])
    intro i h1 h2
    rw [z392,hqm]
    have hi' : i < rows.length:=by rw [z97] at h1;exact h1
    dsimp only
    rw [if_pos hi'];simp
  have qS:∀ i,qm (i+1)=upd (qm i) i (-2):=fun i=>by
    funext j
    by_cases h:j=i
    · subst h;rw [z28,hqm];dsimp only;rw [if_pos (by omega)]
    · rw [z43 _ _ h,hqm];dsimp only;split<;>split<;>first|rfl|omega
  clear hqm
  refine z64 (fun i:Nat=>([(0,lst 1 encL rows),(1,ints ini),(2,.fn (.func f) [] [.pt c1]),(7,.sref 0 0 rows.length),(21,.int rows.length),(22,.int i)],[.cells 1 ((fnL rows.length (qm i)).map enI)])) (fun i=>i≤rows.length) (fun i=>rows.length - i) 0 (Nat.zero_le _) (by refine SealW.reach [0] [] rfl rfl rfl rfl ?_ ?_<;>(repeat' (first|exact LocLe.refl _|exact F2.nil|apply F2.cons|((refine z13 rfl ?_ ?_);(focus ((repeat' (exact z65 rfl));done)))|exact True.intro|apply And.intro))<;>((refine z29 ?_;rw [q0];exact z287 _))) ?_
  intro i hi1
  by_cases hi2:i < rows.length
  · have g1:=z147 (qm i) hi2
    have l1:=z97 rows.length (qm i)
    have e1:=z130 (N:=rows.length) (u:=i) (qm i) (-2)
    rw [← qS] at e1
    repeat' ((first|(apply AWP.go ok;rfl)|(refine z16 (i:=i) rfl g1 ?_)|(apply And.intro;first|omega|(unfold inI;omega))|((apply z7)<;>intro _))<;>conv=>whnf)
    all_goals first|(exfalso;omega)|skip
    all_goals refine z23 (i+1) hi2 (by omega) (by refine SealW.reach [0] [] rfl rfl rfl rfl ?_ ?_<;>(repeat' (first|exact LocLe.refl _|exact F2.nil|apply F2.cons|((refine z42 rfl ?_ ?_);(focus ((repeat' ((exact z6 (fun _=>rfl))));done)))|exact True.intro|apply And.intro))<;>((refine z29 ?_;exact e1)))
  obtain rfl:i=rows.length:=by omega
  rw [qE]
  clear qE qS q0
  repeat' ((first|(apply AWP.go ok;rfl)|(apply And.intro;omega)|(((apply z11;omega));intro _)|((apply z7)<;>intro _))<;>conv=>whnf)
  all_goals first|(exfalso;omega)|skip
  refine AWP.reach (Reach.empty 1 rfl) ?_
  have hrep:(List.replicate rows.length (-1:Int)).length=rows.length:=by simp
  have hrs:∀ w,(List.replicate rows.length (-1:Int)).set w (-1)=List.replicate rows.length (-1):=fun w=>by
    apply List.ext_getElem (by simp)
    intro i h1 h2
    rw [List.getElem_set]
    split<;>simp
  have hS0:(frm rows.length ini (List.replicate rows.length (-1)))=frm rows.length (srS rows ini 0).1 (srS rows ini 0).2:=rfl
  generalize List.replicate rows.length (-1:Int)=P0 at *
  refine z64 (fun k:Nat=>([(0,lst 1 encL rows),(2,.fn (.func f) [] [.pt c1]),(7,.sref 0 0 rows.length),(9,.sref 1 0 (ini.take k).length),(29,ints ini),(30,.int ini.length),(31,.int k)],[.cells 1 ((frm rows.length (ini.take k) P0).map enI),.cells 1 ((ini.take k).map enI)])) (fun k=>k≤ini.length) (fun k=>ini.length - k) 0 (Nat.zero_le _) (by refine SealW.reach [0,1] [] rfl rfl rfl rfl ?_ ?_<;>(repeat' (first|exact LocLe.refl _|exact z46|exact F2.nil|apply F2.cons|exact z12 _|((refine z13 rfl ?_ ?_);(focus ((repeat' (first|exact z37|exact z6 (fun _=>rfl)));done)))|exact True.intro|apply And.intro))) ?_
  intro k hk
  by_cases hk2:k < ini.length
  · have gk:(ini.map enI)[k]?=some (enI ini[k]):=by rw [List.getElem?_map,List.getElem?_eq_getElem hk2];rfl
    have hv:=hi _ (List.getElem_mem hk2)
    have et:ini.take (k+1)=ini.take k++[ini[k]]:=List.take_succ_eq_append_getElem hk2
    have htl:(ini.take k).length≤100000:=by rw [List.length_take];omega
    generalize hQ' : ini.take (k+1)=Q' at *
    generalize hQ:ini.take k=Q at *
    generalize ini[k]=v at *
    obtain ⟨w,rfl⟩:∃ w:Nat,v=w:=⟨v.toNat,by omega⟩
    have hw:w < rows.length:=by omega
    have g1:=z391 Q P0 hw
    have l1:=z390 rows.length Q P0
    have e1:=z435 (Q:=Q) (u:=-1) hw hrep
    rw [hrs,← et] at e1
    subst et
    repeat' ((first|(apply AWP.go ok;rfl)|(refine z16 (i:=k) rfl gk ?_)|(refine z16 (i:=w) rfl g1 ?_)|(apply And.intro;first|omega|(unfold inI;omega)|((try dsimp only);simp only [List.length_map,List.length_take,List.length_append,List.length_replicate,List.length_cons,List.length_nil];omega)|exact ⟨rfl,z21 rfl z30⟩)|((apply z7)<;>intro _))<;>conv=>whnf)
    all_goals first|(exfalso;omega)|skip
    all_goals refine z23 (k+1) hk2 (by omega) ?_
    all_goals dsimp only
    all_goals rw [hQ']
    all_goals exact (by refine SealW.reach [0,3] [] rfl rfl rfl rfl ?_ ?_<;>(repeat' (first|exact LocLe.refl _|exact F2.nil|apply F2.cons|(refine z39 ?_;((simp;done)))|((first|refine z35 rfl ?_ ?_|refine z42 rfl ?_ ?_);(focus ((repeat' (first|exact z6 (fun _=>rfl)|apply z22));done)))|(refine z70 ?_ ?_;(focus (omega)))|exact True.intro|apply And.intro))<;>((refine z29 ?_;exact e1)))
  obtain rfl:k=ini.length:=by omega
  rw [List.take_length,hS0]
  repeat' ((first|(apply AWP.go ok;rfl)|(apply And.intro;omega)|((first|(with_reducible apply z11;omega)|(apply z11;omega));intro _)|((apply z7)<;>intro _))<;>conv=>whnf)
  all_goals first|(exfalso;omega)|skip
  refine z64 (fun i:Nat=>([(0,lst 1 encL rows),(2,.fn (.func f) [] [.pt c1]),(7,.sref 0 0 rows.length),(9,.sref 1 0 (srS rows ini i).1.length),(12,.int i)],[.cells 1 ((frm rows.length (srS rows ini i).1 (srS rows ini i).2).map enI),.cells 1 ((srS rows ini i).1.map enI)])) (fun i=>i≤rows.length∧∀ k (_:k < i) (h:k < (srS rows ini i).1.length),G ((srS rows ini i).1[k])=false) (fun i=>rows.length+1 - i) 0 ⟨Nat.zero_le _,fun k h=>by omega⟩ (by refine SealW.reach [0,1] [] rfl rfl rfl rfl ?_ ?_<;>(repeat' (first|exact LocLe.refl _|exact F2.nil|apply F2.cons|exact z12 _|((refine z13 rfl ?_ ?_);(focus ((repeat' ((exact z6 (fun _=>rfl))));done)))|exact True.intro|apply And.intro))<;>(fail)) ?_
  rintro i ⟨hi1,hno⟩
  have hJ:=z301 hr hi hn i
  have hQl:=z584 hr hi hn i
  by_cases hi2:i < (srS rows ini i).1.length
  · have hx:=hJ.inn _ (List.getElem_mem hi2)
    have cf:=hf _ hx.1 hx.2
    have gx:((srS rows ini i).1.map enI)[i]?=some (enI (srS rows ini i).1[i]):=by rw [List.getElem?_map,List.getElem?_eq_getElem hi2];rfl
    have hnx:srS rows ini (i+1)=visPs (srS rows ini i).1[i] (srS rows ini i) (rows.getD ((srS rows ini i).1[i]).toNat []):=by rw [srS,dif_pos hi2]
    have hfnd:=fun h=>z667 hr hi hn (G:=G) hi2 h (fun k hk=>hno k hk (by omega))
    have hpre:=z329 (srS rows ini i).1[i] (rows.getD ((srS rows ini i).1[i]).toNat []) (srS rows ini i)
    by_cases hG:G (srS rows ini i).1[i]=true
    · rw [hfnd hG,z809,List.append_nil]
      have hq0:∃ k,∃ h:k < (srS rows ini i).1.length,(srS rows ini i).1[k]=(srS rows ini i).1[i]∧k≤rows.length:=⟨i,hi2,rfl,hi1⟩
      rw [hG] at cf
      clear hfnd hnx hpre hno
      generalize hS:srS rows ini i=S at *
      obtain ⟨Q,P⟩:=S
      dsimp only at *
      have hi4:i < Q.length:=hi2
      generalize Q[i]=x at *
      repeat' ((first|(apply AWP.go ok;rfl)|(refine z16 (i:=i) rfl gx ?_)|(apply And.intro;omega)|((apply z7)<;>intro _)|(apply z9 (cf);rfl;rfl))<;>conv=>whnf)
      all_goals first|(exfalso;omega)|skip
      all_goals
        refine AWP.reach (Reach.empty 1 rfl) ?_
        have hB1:=z1065 P rows.length x
        generalize hB:chn P rows.length x=B at *
        refine z64 (fun y:Nat×List Int×Int=>([(7,.sref 0 0 rows.length),(13,.int y.2.2),(14,.sref 1 0 y.2.1.length)],[.cells 1 ((frm rows.length Q P).map enI),.cells 1 (y.2.1.map enI)])) (fun y=>y.2.1.length+y.1≤rows.length+1∧((0≤y.2.2∧y.2.1++chn P (y.1 - 1) y.2.2=B∧1≤y.1∧∃ k,∃ h:k < Q.length,Q[k]=y.2.2∧k+1≤y.1)∨(y.2.2=-1∧y.2.1=B))) (fun y=>y.1+(if 0≤y.2.2 then 1 else 0)) (rows.length+1,[],x) ⟨by simp,.inl ⟨hx.1,by simpa using hB,by omega,by obtain ⟨k,h,h1,h2⟩:=hq0;exact ⟨k,h,h1,by omega⟩⟩⟩ (by refine SealW.reach [0,2] [] rfl rfl rfl rfl ?_ ?_<;>(repeat' (first|exact LocLe.refl _|exact z46|exact F2.nil|apply F2.cons|exact z12 _|((refine z13 rfl ?_ ?_);(focus ((repeat' (first|exact z37|exact z6 (fun _=>rfl)));done)))|exact True.intro|apply And.intro))) ?_
        rintro ⟨fu,ac,u⟩ ⟨q1,q2⟩
        dsimp only at q1 q2 ⊢
        rcases q2 with ⟨q2,q3,q4,k,hk,q5,q6⟩|⟨rfl,rfl⟩
        · have huN:=hJ.inn u (q5 ▸ List.getElem_mem hk)
          obtain ⟨w,rfl⟩:∃ w:Nat,u=w:=⟨u.toNat,by omega⟩
          have hw:w < rows.length:=by omega
          have gw:=z391 Q P hw
          rw [if_pos (q5 ▸ List.getElem_mem hk)] at gw
          have lw:=z390 rows.length Q P
          have hp:=hJ.pre k hk
          rw [q5,Int.toNat_natCast] at hp
          dsimp only at hp
          obtain ⟨fu,rfl⟩:∃ m,fu=m+1:=⟨fu - 1,by omega⟩
          rw [Nat.add_sub_cancel] at q3
          have hnext:P.getD w 0=-1∧ac++[(w:Int)]=B∨(0≤P.getD w 0∧(ac++[(w:Int)])++chn P (fu - 1) (P.getD w 0)=B∧1≤fu∧∃ k,∃ h:k < Q.length,Q[k]=P.getD w 0∧k+1≤fu):=by
            rcases hp with hp|⟨j,hj,hjk,hp⟩
            · left
              refine ⟨hp,?_⟩
              rw [← q3]
              cases fu with
              | zero=>rfl
              | succ fu =>
                rw [chn,Int.toNat_natCast,if_neg (by omega)]
            · right
              have:=hJ.inn _ (List.getElem_mem hj)
              refine ⟨by omega,?_,by omega,j,hj,hp.symm,by omega⟩
              obtain ⟨fu,rfl⟩:∃ m,fu=m+1:=⟨fu - 1,by omega⟩
              rw [chn,Int.toNat_natCast,if_pos (by omega)] at q3
              rw [← q3]
              simp
          have hvb : -1≤P.getD w 0∧P.getD w 0 < rows.length:=by
            rcases hnext with ⟨h,_⟩|⟨h,_,_,j,hj,hp2,_⟩
            · omega
            · have:=hJ.inn _ (List.getElem_mem hj)
              omega
          clear hp
          generalize P.getD w 0=v at *
          repeat' ((first|(apply AWP.go ok;rfl)|(refine z16 (i:=w) rfl gw ?_)|(apply And.intro;first|omega|((try dsimp only);simp only [List.length_map,List.length_take,List.length_append,List.length_replicate,List.length_cons,List.length_nil];omega)|exact ⟨rfl,z21 rfl z30⟩))<;>conv=>whnf)
          all_goals skip
          all_goals refine z23 (fu,ac++[(w:Int)],v) ⟨by simp only [List.length_append,List.length_singleton];omega,?_⟩ ?_ (by refine SealW.reach [0,3] [] rfl rfl rfl rfl ?_ ?_<;>(repeat' (first|exact LocLe.refl _|exact F2.nil|apply F2.cons|exact z12 _|(refine z39 ?_;((simp;done)))|((first|refine z35 rfl ?_ ?_|refine z13 rfl ?_ ?_);(focus ((repeat' (first|exact z6 (fun _=>rfl)|apply z22));done)))|(refine z70 ?_ ?_;(focus (omega)))|exact True.intro|apply And.intro)))
          all_goals dsimp only
          all_goals first|(rcases hnext with ⟨h1,h2⟩|h1<;>first|exact .inr ⟨h1,h2⟩|exact .inl h1)|(rw [if_pos (show (0:Int)≤w by omega)];split<;>omega)
        · have cr:=z547 ac (by omega) (by omega)
          have cc:=z325 (rvs ac) (by rw [z376];omega)
          have el:=z376 ac
          rw [← rvs_eq]
          generalize rvs ac=D at *
          rw [el] at cc ⊢
          repeat' ((first|(apply AWP.go ok;rfl)|((first|(apply z8 [1] [] [] (cr);rfl;(focus ((repeat' first|exact z4|apply z5)<;>(refine z86 rfl ?_;((exact z6 fun _=>rfl))))))|(apply z8 [1] [] [] (cc);rfl;(focus ((repeat' first|exact z4|apply z5)<;>(refine z86 rfl ?_;((exact z6 fun _=>rfl)))))));rfl;rfl;rfl;rfl;rfl;(focus ((repeat' first|exact z15|apply z14)<;>(refine z25 ?_;((exact z6 fun _=>rfl)))));(exact .inl rfl)))<;>conv=>whnf)
          all_goals skip
          all_goals (refine RetS.lay [1] [] rfl rfl rfl ?_;refine RetS.done ?_ ?_<;>(repeat' (first|exact LocLe.refl _|exact F2.nil|apply F2.cons|exact z12 _|((refine z13 rfl ?_ ?_);(focus ((repeat' ((exact z6 (fun _=>rfl))));done))))))
    · have hG:=(Bool.not_eq_true _).mp hG
      rw [hG] at cf
      have hno2:∀ k (_:k < i+1) (h:k < (srS rows ini (i+1)).1.length),G ((srS rows ini (i+1)).1[k])=false:=by
        obtain ⟨t,ht⟩:=z583 (rows:=rows) (ini:=ini) (show i≤i+1 by omega)
        intro k hk h
        have hki:k < (srS rows ini i).1.length:=by omega
        have e:(srS rows ini (i+1)).1[k]=(srS rows ini i).1[k]:=by
          simp only [ht,List.getElem_append_left hki]
        rw [e]
        by_cases hk3:k < i
        · exact hno k hk3 hki
        · obtain rfl:k=i:=by omega
          exact hG
      have hile:i+1≤rows.length:=by omega
      have hJv:=fun l hl=>PJ.visPs (N:=rows.length) l hJ hi2 rfl hl
      clear hfnd hpre hno
      generalize hS' : srS rows ini (i+1)=S' at *
      generalize hS:srS rows ini i=S at *
      obtain ⟨Q,P⟩:=S
      dsimp only at *
      have hi4:i < Q.length:=hi2
      generalize hxx:Q[i]=x at *
      obtain ⟨u,rfl⟩:∃ u:Nat,x=u:=⟨x.toNat,by omega⟩
      rw [Int.toNat_natCast] at hnx
      have hu:u < rows.length:=by omega
      have gr:=z467 hu
      have hrow:=z178 hr (u:Int)
      rw [Int.toNat_natCast] at hrow
      have hrowl:(rows.getD u []).length≤1000000000:=by rw [z19 hu];exact hrl _ (List.getElem_mem _)
      generalize rows.getD u []=row at *
      repeat' ((first|(apply AWP.go ok;rfl)|(refine z16 (i:=i) rfl gx ?_)|(refine z16 (i:=u) rfl gr ?_)|(apply And.intro;omega)|((apply z7)<;>intro _)|(apply z9 (cf);rfl;rfl))<;>conv=>whnf)
      all_goals first|(exfalso;omega)|skip
      all_goals
        refine z64 (fun j:Nat=>([(0,lst 1 encL rows),(2,.fn (.func f) [] [.pt c1]),(7,.sref 0 0 rows.length),(9,.sref 1 0 (visPs (u:Int) (Q,P) (row.take j)).1.length),(12,.int i),(76,ints row),(77,.int row.length),(78,.int j)],[.cells 1 ((frm rows.length (visPs (u:Int) (Q,P) (row.take j)).1 (visPs (u:Int) (Q,P) (row.take j)).2).map enI),.cells 1 ((visPs (u:Int) (Q,P) (row.take j)).1.map enI)])) (fun j=>j≤row.length) (fun j=>row.length - j) 0 (Nat.zero_le _) (by refine SealW.reach [0,1] [] rfl rfl rfl rfl ?_ ?_<;>(repeat' (first|exact LocLe.refl _|exact F2.nil|apply F2.cons|exact z12 _|((refine z13 rfl ?_ ?_);(focus ((repeat' ((exact z6 (fun _=>rfl))));done)))|exact True.intro|apply And.intro))<;>(fail)) ?_
        intro j hj
        obtain ⟨hJj,hij,hxj⟩:=hJv (row.take j) (fun x hx=>hrow x (List.mem_of_mem_take hx))
        have hQjl:(visPs (u:Int) (Q,P) (row.take j)).1.length≤rows.length:=z135 _ _ hJj.nd hJj.inn
        have gxj:((visPs (u:Int) (Q,P) (row.take j)).1.map enI)[i]?=some (enI (u:Int)):=by
          rw [List.getElem?_map,List.getElem?_eq_getElem hij,hxj];rfl
        by_cases hj2:j < row.length
        · have gj:(row.map enI)[j]?=some (enI row[j]):=by rw [List.getElem?_map,List.getElem?_eq_getElem hj2];rfl
          have hv:=hrow _ (List.getElem_mem hj2)
          have et:=z369 (u:=(u:Int)) (x:=(Q,P)) hj2
          have hge:=hJj.pre
          generalize hT' : visPs (u:Int) (Q,P) (row.take (j+1))=T' at *
          generalize hT:visPs (u:Int) (Q,P) (row.take j)=T at *
          generalize row[j]=v at *
          obtain ⟨w,rfl⟩:∃ w:Nat,v=w:=⟨v.toNat,by omega⟩
          have hw:w < rows.length:=by omega
          have gw:=z391 T.1 T.2 hw
          have lw:=z390 rows.length T.1 T.2
          have hTl:=hJj.len
          by_cases hm:(w:Int)∈T.1
          · rw [z330 hm] at et
            rw [if_pos hm] at gw
            have hwv : -1≤T.2.getD w 0:=by
              obtain ⟨k,hk,ek⟩:=List.mem_iff_getElem.1 hm
              have h1:=hge k hk
              rw [ek,Int.toNat_natCast] at h1
              rcases h1 with h1|⟨y,hy,_,h1⟩
              · omega
              · have:=hJj.inn _ (List.getElem_mem hy);omega
            generalize T.2.getD w 0=pv at *
            repeat' ((first|(apply AWP.go ok;rfl)|(refine z16 (i:=j) rfl gj ?_)|(refine z16 (i:=w) rfl gw ?_)|(apply And.intro;first|omega|(unfold inI;omega))|(((apply z11;omega));intro _)|((apply z7)<;>intro _))<;>conv=>whnf)
            all_goals first|(exfalso;omega)|skip
            all_goals refine z23 (j+1) hj2 (by omega) ?_
            all_goals dsimp only
            all_goals rw [hT',et]
            all_goals exact (by refine SealW.reach [0,1] [] rfl rfl rfl rfl ?_ ?_<;>(repeat' (first|exact LocLe.refl _|exact F2.nil|apply F2.cons|exact z12 _|((refine z13 rfl ?_ ?_);(focus ((repeat' ((exact z6 (fun _=>rfl))));done)))|exact True.intro|apply And.intro)))
          · rw [z331 hm,Int.toNat_natCast] at et
            rw [if_neg hm] at gw
            have e1:=z435 (Q:=T.1) (u:=(u:Int)) hw hTl
            repeat' ((first|(apply AWP.go ok;rfl)|(refine z16 (i:=j) rfl gj ?_)|(refine z16 (i:=w) rfl gw ?_)|(refine z16 (i:=i) rfl gxj ?_)|(apply And.intro;first|omega|(unfold inI;omega)|((try dsimp only);simp only [List.length_map,List.length_take,List.length_append,List.length_replicate,List.length_cons,List.length_nil];omega)|exact ⟨rfl,z21 rfl z30⟩)|((apply z7)<;>intro _))<;>conv=>whnf)
            all_goals first|(exfalso;omega)|skip
            all_goals refine z23 (j+1) hj2 (by omega) ?_
            all_goals dsimp only
            all_goals rw [hT',et]
            all_goals dsimp only
            all_goals exact (by refine SealW.reach [0,3] [] rfl rfl rfl rfl ?_ ?_<;>(repeat' (first|exact LocLe.refl _|exact F2.nil|apply F2.cons|(refine z39 ?_;((simp;done)))|((first|refine z35 rfl ?_ ?_|refine z42 rfl ?_ ?_);(focus ((repeat' (first|exact z6 (fun _=>rfl)|apply z22));done)))|(refine z70 ?_ ?_;(focus (omega)))|exact True.intro|apply And.intro))<;>((refine z29 ?_;exact e1)))
        obtain rfl:j=row.length:=by omega
        rw [List.take_length,← hnx] at *
        repeat' ((first|(apply AWP.go ok;rfl)|(apply And.intro;first|omega|(unfold inI;omega))|((first|(with_reducible apply z11;omega)|(apply z11;omega));intro _)|((apply z7)<;>intro _))<;>conv=>whnf)
        all_goals first|(exfalso;omega)|skip
        all_goals refine z23 (i+1) ⟨hile,by rw [hS'];exact hno2⟩ (by omega) ?_
        all_goals dsimp only
        all_goals rw [hS']
        all_goals exact (by refine SealW.reach [0,1] [] rfl rfl rfl rfl ?_ ?_<;>(repeat' (first|exact LocLe.refl _|exact F2.nil|apply F2.cons|exact z12 _|((refine z13 rfl ?_ ?_);(focus ((repeat' ((exact z6 (fun _=>rfl))));done)))|exact True.intro|apply And.intro)))
  · rw [z831 (G:=G) (by omega) hi1 (fun k hk=>hno k (by omega) hk)]
    repeat' ((first|(apply AWP.go ok;rfl)|(apply And.intro;omega)|(((apply z11;omega));intro _)|((apply z7)<;>intro _))<;>conv=>whnf)
    all_goals first|(exfalso;omega)|skip
    all_goals (refine RetS.empty 1 ?_;refine RetS.lay [2] [] rfl rfl rfl ?_;refine RetS.done ?_ ?_<;>(repeat' (first|exact z46|exact F2.nil|apply F2.cons|((refine z13 rfl ?_ ?_);(focus ((repeat' (exact z37));done))))))
set_option maxHeartbeats 12800000 in
theorem z589 (rows : List (List Int)) (ini : List Int) (hr : ∀ r ∈ rows, InN rows.length r) (hi : InN rows.length ini) (hn : ini.Nodup) (hN : rows.length ≤ 100000) (hrl : ∀ r ∈ rows, r.length ≤ 1000000000) (G : Int → Bool) (f : FuncId) (c1 c2 : List AC) (hf : ∀ x : Int, 0 ≤ x → x < rows.length → CallsA Tryz.prog f (.int x :: [.pt c1, .pt c2]) [] (.bool (G x)) []) :
    CallsA Tryz.prog 195 [lst 1 encL rows,ints ini,.fn (.func f) [] [.pt c1,.pt c2]] [] (.sref 0 0 (shL rows ini G).length) [.cells 1 ((shL rows ini G).map enI)]:=by
  have hil:ini.length≤100000:=by have:=z135 rows.length ini hn hi;omega
  refine z10 z18 Tryz.func195 rfl rfl 99 Tryz.ntmps195 (by simp) ?_
  repeat' ((first|(apply AWP.go ok;rfl)|(apply And.intro;(dsimp only;omega)))<;>conv=>whnf)
  all_goals skip
  obtain ⟨qm,hqm⟩:∃ qm:Nat→Nat→Int,qm=fun i j=>if j < i then -2 else 0:=⟨_,rfl⟩
  have q0:qm 0=fun _=>0:=by rw [hqm];rfl
  have qE:(fnL rows.length (qm rows.length)).map enI=(frm rows.length [] (List.replicate rows.length (-1))).map enI:=by
    rw [z1042]
    congr 1
    apply List.ext_getElem (by simp [fnL])
    intro i h1 h2
    rw [z392,hqm]
    have hi' : i < rows.length:=by rw [z97] at h1;exact h1
    dsimp only
    rw [if_pos hi'];simp
  have qS:∀ i,qm (i+1)=upd (qm i) i (-2):=fun i=>by
    funext j
    by_cases h:j=i
    · subst h;rw [z28,hqm];dsimp only;rw [if_pos (by omega)]
    · rw [z43 _ _ h,hqm];dsimp only;split<;>split<;>first|rfl|omega
  clear hqm
  refine z64 (fun i:Nat=>([(0,lst 1 encL rows),(1,ints ini),(2,.fn (.func f) [] [.pt c1,.pt c2]),(7,.sref 0 0 rows.length),(21,.int rows.length),(22,.int i)],[.cells 1 ((fnL rows.length (qm i)).map enI)])) (fun i=>i≤rows.length) (fun i=>rows.length - i) 0 (Nat.zero_le _) (by refine SealW.reach [0] [] rfl rfl rfl rfl ?_ ?_<;>(repeat' (first|exact LocLe.refl _|exact F2.nil|apply F2.cons|((refine z13 rfl ?_ ?_);(focus ((repeat' (exact z65 rfl));done)))|exact True.intro|apply And.intro))<;>((refine z29 ?_;rw [q0];exact z287 _))) ?_
  intro i hi1
  by_cases hi2:i < rows.length
  · have g1:=z147 (qm i) hi2
    have l1:=z97 rows.length (qm i)
    have e1:=z130 (N:=rows.length) (u:=i) (qm i) (-2)
    rw [← qS] at e1
    repeat' ((first|(apply AWP.go ok;rfl)|(refine z16 (i:=i) rfl g1 ?_)|(apply And.intro;first|omega|(unfold inI;omega))|((apply z7)<;>intro _))<;>conv=>whnf)
    all_goals first|(exfalso;omega)|skip
    all_goals refine z23 (i+1) hi2 (by omega) (by refine SealW.reach [0] [] rfl rfl rfl rfl ?_ ?_<;>(repeat' (first|exact LocLe.refl _|exact F2.nil|apply F2.cons|((refine z42 rfl ?_ ?_);(focus ((repeat' ((exact z6 (fun _=>rfl))));done)))|exact True.intro|apply And.intro))<;>((refine z29 ?_;exact e1)))
  obtain rfl:i=rows.length:=by omega
  rw [qE]
  clear qE qS q0
  repeat' ((first|(apply AWP.go ok;rfl)|(apply And.intro;omega)|(((apply z11;omega));intro _)|((apply z7)<;>intro _))<;>conv=>whnf)
  all_goals first|(exfalso;omega)|skip
  refine AWP.reach (Reach.empty 1 rfl) ?_
  have hrep:(List.replicate rows.length (-1:Int)).length=rows.length:=by simp
  have hrs:∀ w,(List.replicate rows.length (-1:Int)).set w (-1)=List.replicate rows.length (-1):=fun w=>by
    apply List.ext_getElem (by simp)
    intro i h1 h2
    rw [List.getElem_set]
    split<;>simp
  have hS0:(frm rows.length ini (List.replicate rows.length (-1)))=frm rows.length (srS rows ini 0).1 (srS rows ini 0).2:=rfl
  generalize List.replicate rows.length (-1:Int)=P0 at *
  refine z64 (fun k:Nat=>([(0,lst 1 encL rows),(2,.fn (.func f) [] [.pt c1,.pt c2]),(7,.sref 0 0 rows.length),(9,.sref 1 0 (ini.take k).length),(29,ints ini),(30,.int ini.length),(31,.int k)],[.cells 1 ((frm rows.length (ini.take k) P0).map enI),.cells 1 ((ini.take k).map enI)])) (fun k=>k≤ini.length) (fun k=>ini.length - k) 0 (Nat.zero_le _) (by refine SealW.reach [0,1] [] rfl rfl rfl rfl ?_ ?_<;>(repeat' (first|exact LocLe.refl _|exact z46|exact F2.nil|apply F2.cons|exact z12 _|((refine z13 rfl ?_ ?_);(focus ((repeat' (first|exact z37|exact z6 (fun _=>rfl)));done)))|exact True.intro|apply And.intro))) ?_
  intro k hk
  by_cases hk2:k < ini.length
  · have gk:(ini.map enI)[k]?=some (enI ini[k]):=by rw [List.getElem?_map,List.getElem?_eq_getElem hk2];rfl
    have hv:=hi _ (List.getElem_mem hk2)
    have et:ini.take (k+1)=ini.take k++[ini[k]]:=List.take_succ_eq_append_getElem hk2
    have htl:(ini.take k).length≤100000:=by rw [List.length_take];omega
    generalize hQ' : ini.take (k+1)=Q' at *
    generalize hQ:ini.take k=Q at *
    generalize ini[k]=v at *
    obtain ⟨w,rfl⟩:∃ w:Nat,v=w:=⟨v.toNat,by omega⟩
    have hw:w < rows.length:=by omega
    have g1:=z391 Q P0 hw
    have l1:=z390 rows.length Q P0
    have e1:=z435 (Q:=Q) (u:=-1) hw hrep
    rw [hrs,← et] at e1
    subst et
    repeat' ((first|(apply AWP.go ok;rfl)|(refine z16 (i:=k) rfl gk ?_)|(refine z16 (i:=w) rfl g1 ?_)|(apply And.intro;first|omega|(unfold inI;omega)|((try dsimp only);simp only [List.length_map,List.length_take,List.length_append,List.length_replicate,List.length_cons,List.length_nil];omega)|exact ⟨rfl,z21 rfl z30⟩)|((apply z7)<;>intro _))<;>conv=>whnf)
    all_goals first|(exfalso;omega)|skip
    all_goals refine z23 (k+1) hk2 (by omega) ?_
    all_goals dsimp only
    all_goals rw [hQ']
    all_goals exact (by refine SealW.reach [0,3] [] rfl rfl rfl rfl ?_ ?_<;>(repeat' (first|exact LocLe.refl _|exact F2.nil|apply F2.cons|(refine z39 ?_;((simp;done)))|((first|refine z35 rfl ?_ ?_|refine z42 rfl ?_ ?_);(focus ((repeat' (first|exact z6 (fun _=>rfl)|apply z22));done)))|(refine z70 ?_ ?_;(focus (omega)))|exact True.intro|apply And.intro))<;>((refine z29 ?_;exact e1)))
  obtain rfl:k=ini.length:=by omega
  rw [List.take_length,hS0]
  repeat' ((first|(apply AWP.go ok;rfl)|(apply And.intro;omega)|((first|(with_reducible apply z11;omega)|(apply z11;omega));intro _)|((apply z7)<;>intro _))<;>conv=>whnf)
  all_goals first|(exfalso;omega)|skip
  refine z64 (fun i:Nat=>([(0,lst 1 encL rows),(2,.fn (.func f) [] [.pt c1,.pt c2]),(7,.sref 0 0 rows.length),(9,.sref 1 0 (srS rows ini i).1.length),(12,.int i)],[.cells 1 ((frm rows.length (srS rows ini i).1 (srS rows ini i).2).map enI),.cells 1 ((srS rows ini i).1.map enI)])) (fun i=>i≤rows.length∧∀ k (_:k < i) (h:k < (srS rows ini i).1.length),G ((srS rows ini i).1[k])=false) (fun i=>rows.length+1 - i) 0 ⟨Nat.zero_le _,fun k h=>by omega⟩ (by refine SealW.reach [0,1] [] rfl rfl rfl rfl ?_ ?_<;>(repeat' (first|exact LocLe.refl _|exact F2.nil|apply F2.cons|exact z12 _|((refine z13 rfl ?_ ?_);(focus ((repeat' ((exact z6 (fun _=>rfl))));done)))|exact True.intro|apply And.intro))<;>(fail)) ?_
  rintro i ⟨hi1,hno⟩
  have hJ:=z301 hr hi hn i
  have hQl:=z584 hr hi hn i
  by_cases hi2:i < (srS rows ini i).1.length
  · have hx:=hJ.inn _ (List.getElem_mem hi2)
    have cf:=hf _ hx.1 hx.2
    have gx:((srS rows ini i).1.map enI)[i]?=some (enI (srS rows ini i).1[i]):=by rw [List.getElem?_map,List.getElem?_eq_getElem hi2];rfl
    have hnx:srS rows ini (i+1)=visPs (srS rows ini i).1[i] (srS rows ini i) (rows.getD ((srS rows ini i).1[i]).toNat []):=by rw [srS,dif_pos hi2]
    have hfnd:=fun h=>z667 hr hi hn (G:=G) hi2 h (fun k hk=>hno k hk (by omega))
    have hpre:=z329 (srS rows ini i).1[i] (rows.getD ((srS rows ini i).1[i]).toNat []) (srS rows ini i)
    by_cases hG:G (srS rows ini i).1[i]=true
    · rw [hfnd hG,z809,List.append_nil]
      have hq0:∃ k,∃ h:k < (srS rows ini i).1.length,(srS rows ini i).1[k]=(srS rows ini i).1[i]∧k≤rows.length:=⟨i,hi2,rfl,hi1⟩
      rw [hG] at cf
      clear hfnd hnx hpre hno
      generalize hS:srS rows ini i=S at *
      obtain ⟨Q,P⟩:=S
      dsimp only at *
      have hi4:i < Q.length:=hi2
      generalize Q[i]=x at *
      repeat' ((first|(apply AWP.go ok;rfl)|(refine z16 (i:=i) rfl gx ?_)|(apply And.intro;omega)|((apply z7)<;>intro _)|(apply z9 (cf);rfl;rfl))<;>conv=>whnf)
      all_goals first|(exfalso;omega)|skip
      all_goals
        refine AWP.reach (Reach.empty 1 rfl) ?_
        have hB1:=z1065 P rows.length x
        generalize hB:chn P rows.length x=B at *
        refine z64 (fun y:Nat×List Int×Int=>([(7,.sref 0 0 rows.length),(13,.int y.2.2),(14,.sref 1 0 y.2.1.length)],[.cells 1 ((frm rows.length Q P).map enI),.cells 1 (y.2.1.map enI)])) (fun y=>y.2.1.length+y.1≤rows.length+1∧((0≤y.2.2∧y.2.1++chn P (y.1 - 1) y.2.2=B∧1≤y.1∧∃ k,∃ h:k < Q.length,Q[k]=y.2.2∧k+1≤y.1)∨(y.2.2=-1∧y.2.1=B))) (fun y=>y.1+(if 0≤y.2.2 then 1 else 0)) (rows.length+1,[],x) ⟨by simp,.inl ⟨hx.1,by simpa using hB,by omega,by obtain ⟨k,h,h1,h2⟩:=hq0;exact ⟨k,h,h1,by omega⟩⟩⟩ (by refine SealW.reach [0,2] [] rfl rfl rfl rfl ?_ ?_<;>(repeat' (first|exact LocLe.refl _|exact z46|exact F2.nil|apply F2.cons|exact z12 _|((refine z13 rfl ?_ ?_);(focus ((repeat' (first|exact z37|exact z6 (fun _=>rfl)));done)))|exact True.intro|apply And.intro))) ?_
        rintro ⟨fu,ac,u⟩ ⟨q1,q2⟩
        dsimp only at q1 q2 ⊢
        rcases q2 with ⟨q2,q3,q4,k,hk,q5,q6⟩|⟨rfl,rfl⟩
        · have huN:=hJ.inn u (q5 ▸ List.getElem_mem hk)
          obtain ⟨w,rfl⟩:∃ w:Nat,u=w:=⟨u.toNat,by omega⟩
          have hw:w < rows.length:=by omega
          have gw:=z391 Q P hw
          rw [if_pos (q5 ▸ List.getElem_mem hk)] at gw
          have lw:=z390 rows.length Q P
          have hp:=hJ.pre k hk
          rw [q5,Int.toNat_natCast] at hp
          dsimp only at hp
          obtain ⟨fu,rfl⟩:∃ m,fu=m+1:=⟨fu - 1,by omega⟩
          rw [Nat.add_sub_cancel] at q3
          have hnext:P.getD w 0=-1∧ac++[(w:Int)]=B∨(0≤P.getD w 0∧(ac++[(w:Int)])++chn P (fu - 1) (P.getD w 0)=B∧1≤fu∧∃ k,∃ h:k < Q.length,Q[k]=P.getD w 0∧k+1≤fu):=by
            rcases hp with hp|⟨j,hj,hjk,hp⟩
            · left
              refine ⟨hp,?_⟩
              rw [← q3]
              cases fu with
              | zero=>rfl
              | succ fu =>
                rw [chn,Int.toNat_natCast,if_neg (by omega)]
            · right
              have:=hJ.inn _ (List.getElem_mem hj)
              refine ⟨by omega,?_,by omega,j,hj,hp.symm,by omega⟩
              obtain ⟨fu,rfl⟩:∃ m,fu=m+1:=⟨fu - 1,by omega⟩
              rw [chn,Int.toNat_natCast,if_pos (by omega)] at q3
              rw [← q3]
              simp
          have hvb : -1≤P.getD w 0∧P.getD w 0 < rows.length:=by
            rcases hnext with ⟨h,_⟩|⟨h,_,_,j,hj,hp2,_⟩
            · omega
            · have:=hJ.inn _ (List.getElem_mem hj)
              omega
          clear hp
          generalize P.getD w 0=v at *
          repeat' ((first|(apply AWP.go ok;rfl)|(refine z16 (i:=w) rfl gw ?_)|(apply And.intro;first|omega|((try dsimp only);simp only [List.length_map,List.length_take,List.length_append,List.length_replicate,List.length_cons,List.length_nil];omega)|exact ⟨rfl,z21 rfl z30⟩))<;>conv=>whnf)
          all_goals skip
          all_goals refine z23 (fu,ac++[(w:Int)],v) ⟨by simp only [List.length_append,List.length_singleton];omega,?_⟩ ?_ (by refine SealW.reach [0,3] [] rfl rfl rfl rfl ?_ ?_<;>(repeat' (first|exact LocLe.refl _|exact F2.nil|apply F2.cons|exact z12 _|(refine z39 ?_;((simp;done)))|((first|refine z35 rfl ?_ ?_|refine z13 rfl ?_ ?_);(focus ((repeat' (first|exact z6 (fun _=>rfl)|apply z22));done)))|(refine z70 ?_ ?_;(focus (omega)))|exact True.intro|apply And.intro)))
          all_goals dsimp only
          all_goals first|(rcases hnext with ⟨h1,h2⟩|h1<;>first|exact .inr ⟨h1,h2⟩|exact .inl h1)|(rw [if_pos (show (0:Int)≤w by omega)];split<;>omega)
        · have cr:=z547 ac (by omega) (by omega)
          have cc:=z325 (rvs ac) (by rw [z376];omega)
          have el:=z376 ac
          rw [← rvs_eq]
          generalize rvs ac=D at *
          rw [el] at cc ⊢
          repeat' ((first|(apply AWP.go ok;rfl)|((first|(apply z8 [1] [] [] (cr);rfl;(focus ((repeat' first|exact z4|apply z5)<;>(refine z86 rfl ?_;((exact z6 fun _=>rfl))))))|(apply z8 [1] [] [] (cc);rfl;(focus ((repeat' first|exact z4|apply z5)<;>(refine z86 rfl ?_;((exact z6 fun _=>rfl)))))));rfl;rfl;rfl;rfl;rfl;(focus ((repeat' first|exact z15|apply z14)<;>(refine z25 ?_;((exact z6 fun _=>rfl)))));(exact .inl rfl)))<;>conv=>whnf)
          all_goals skip
          all_goals (refine RetS.lay [1] [] rfl rfl rfl ?_;refine RetS.done ?_ ?_<;>(repeat' (first|exact LocLe.refl _|exact F2.nil|apply F2.cons|exact z12 _|((refine z13 rfl ?_ ?_);(focus ((repeat' ((exact z6 (fun _=>rfl))));done))))))
    · have hG:=(Bool.not_eq_true _).mp hG
      rw [hG] at cf
      have hno2:∀ k (_:k < i+1) (h:k < (srS rows ini (i+1)).1.length),G ((srS rows ini (i+1)).1[k])=false:=by
        obtain ⟨t,ht⟩:=z583 (rows:=rows) (ini:=ini) (show i≤i+1 by omega)
        intro k hk h
        have hki:k < (srS rows ini i).1.length:=by omega
        have e:(srS rows ini (i+1)).1[k]=(srS rows ini i).1[k]:=by
          simp only [ht,List.getElem_append_left hki]
        rw [e]
        by_cases hk3:k < i
        · exact hno k hk3 hki
        · obtain rfl:k=i:=by omega
          exact hG
      have hile:i+1≤rows.length:=by omega
      have hJv:=fun l hl=>PJ.visPs (N:=rows.length) l hJ hi2 rfl hl
      clear hfnd hpre hno
      generalize hS' : srS rows ini (i+1)=S' at *
      generalize hS:srS rows ini i=S at *
      obtain ⟨Q,P⟩:=S
      dsimp only at *
      have hi4:i < Q.length:=hi2
      generalize hxx:Q[i]=x at *
      obtain ⟨u,rfl⟩:∃ u:Nat,x=u:=⟨x.toNat,by omega⟩
      rw [Int.toNat_natCast] at hnx
      have hu:u < rows.length:=by omega
      have gr:=z467 hu
      have hrow:=z178 hr (u:Int)
      rw [Int.toNat_natCast] at hrow
      have hrowl:(rows.getD u []).length≤1000000000:=by rw [z19 hu];exact hrl _ (List.getElem_mem _)
      generalize rows.getD u []=row at *
      repeat' ((first|(apply AWP.go ok;rfl)|(refine z16 (i:=i) rfl gx ?_)|(refine z16 (i:=u) rfl gr ?_)|(apply And.intro;omega)|((apply z7)<;>intro _)|(apply z9 (cf);rfl;rfl))<;>conv=>whnf)
      all_goals first|(exfalso;omega)|skip
      all_goals
        refine z64 (fun j:Nat=>([(0,lst 1 encL rows),(2,.fn (.func f) [] [.pt c1,.pt c2]),(7,.sref 0 0 rows.length),(9,.sref 1 0 (visPs (u:Int) (Q,P) (row.take j)).1.length),(12,.int i),(76,ints row),(77,.int row.length),(78,.int j)],[.cells 1 ((frm rows.length (visPs (u:Int) (Q,P) (row.take j)).1 (visPs (u:Int) (Q,P) (row.take j)).2).map enI),.cells 1 ((visPs (u:Int) (Q,P) (row.take j)).1.map enI)])) (fun j=>j≤row.length) (fun j=>row.length - j) 0 (Nat.zero_le _) (by refine SealW.reach [0,1] [] rfl rfl rfl rfl ?_ ?_<;>(repeat' (first|exact LocLe.refl _|exact F2.nil|apply F2.cons|exact z12 _|((refine z13 rfl ?_ ?_);(focus ((repeat' ((exact z6 (fun _=>rfl))));done)))|exact True.intro|apply And.intro))<;>(fail)) ?_
        intro j hj
        obtain ⟨hJj,hij,hxj⟩:=hJv (row.take j) (fun x hx=>hrow x (List.mem_of_mem_take hx))
        have hQjl:(visPs (u:Int) (Q,P) (row.take j)).1.length≤rows.length:=z135 _ _ hJj.nd hJj.inn
        have gxj:((visPs (u:Int) (Q,P) (row.take j)).1.map enI)[i]?=some (enI (u:Int)):=by
          rw [List.getElem?_map,List.getElem?_eq_getElem hij,hxj];rfl
        by_cases hj2:j < row.length
        · have gj:(row.map enI)[j]?=some (enI row[j]):=by rw [List.getElem?_map,List.getElem?_eq_getElem hj2];rfl
          have hv:=hrow _ (List.getElem_mem hj2)
          have et:=z369 (u:=(u:Int)) (x:=(Q,P)) hj2
          have hge:=hJj.pre
          generalize hT' : visPs (u:Int) (Q,P) (row.take (j+1))=T' at *
          generalize hT:visPs (u:Int) (Q,P) (row.take j)=T at *
          generalize row[j]=v at *
          obtain ⟨w,rfl⟩:∃ w:Nat,v=w:=⟨v.toNat,by omega⟩
          have hw:w < rows.length:=by omega
          have gw:=z391 T.1 T.2 hw
          have lw:=z390 rows.length T.1 T.2
          have hTl:=hJj.len
          by_cases hm:(w:Int)∈T.1
          · rw [z330 hm] at et
            rw [if_pos hm] at gw
            have hwv : -1≤T.2.getD w 0:=by
              obtain ⟨k,hk,ek⟩:=List.mem_iff_getElem.1 hm
              have h1:=hge k hk
              rw [ek,Int.toNat_natCast] at h1
              rcases h1 with h1|⟨y,hy,_,h1⟩
              · omega
              · have:=hJj.inn _ (List.getElem_mem hy);omega
            generalize T.2.getD w 0=pv at *
            repeat' ((first|(apply AWP.go ok;rfl)|(refine z16 (i:=j) rfl gj ?_)|(refine z16 (i:=w) rfl gw ?_)|(apply And.intro;first|omega|(unfold inI;omega))|(((apply z11;omega));intro _)|((apply z7)<;>intro _))<;>conv=>whnf)
            all_goals first|(exfalso;omega)|skip
            all_goals refine z23 (j+1) hj2 (by omega) ?_
            all_goals dsimp only
            all_goals rw [hT',et]
            all_goals exact (by refine SealW.reach [0,1] [] rfl rfl rfl rfl ?_ ?_<;>(repeat' (first|exact LocLe.refl _|exact F2.nil|apply F2.cons|exact z12 _|((refine z13 rfl ?_ ?_);(focus ((repeat' ((exact z6 (fun _=>rfl))));done)))|exact True.intro|apply And.intro)))
          · rw [z331 hm,Int.toNat_natCast] at et
            rw [if_neg hm] at gw
            have e1:=z435 (Q:=T.1) (u:=(u:Int)) hw hTl
            repeat' ((first|(apply AWP.go ok;rfl)|(refine z16 (i:=j) rfl gj ?_)|(refine z16 (i:=w) rfl gw ?_)|(refine z16 (i:=i) rfl gxj ?_)|(apply And.intro;first|omega|(unfold inI;omega)|((try dsimp only);simp only [List.length_map,List.length_take,List.length_append,List.length_replicate,List.length_cons,List.length_nil];omega)|exact ⟨rfl,z21 rfl z30⟩)|((apply z7)<;>intro _))<;>conv=>whnf)
            all_goals first|(exfalso;omega)|skip
            all_goals refine z23 (j+1) hj2 (by omega) ?_
            all_goals dsimp only
            all_goals rw [hT',et]
            all_goals dsimp only
            all_goals exact (by refine SealW.reach [0,3] [] rfl rfl rfl rfl ?_ ?_<;>(repeat' (first|exact LocLe.refl _|exact F2.nil|apply F2.cons|(refine z39 ?_;((simp;done)))|((first|refine z35 rfl ?_ ?_|refine z42 rfl ?_ ?_);(focus ((repeat' (first|exact z6 (fun _=>rfl)|apply z22));done)))|(refine z70 ?_ ?_;(focus (omega)))|exact True.intro|apply And.intro))<;>((refine z29 ?_;exact e1)))
        obtain rfl:j=row.length:=by omega
        rw [List.take_length,← hnx] at *
        repeat' ((first|(apply AWP.go ok;rfl)|(apply And.intro;first|omega|(unfold inI;omega))|((first|(with_reducible apply z11;omega)|(apply z11;omega));intro _)|((apply z7)<;>intro _))<;>conv=>whnf)
        all_goals first|(exfalso;omega)|skip
        all_goals refine z23 (i+1) ⟨hile,by rw [hS'];exact hno2⟩ (by omega) ?_
        all_goals dsimp only
        all_goals rw [hS']
        all_goals exact (by refine SealW.reach [0,1] [] rfl rfl rfl rfl ?_ ?_<;>(repeat' (first|exact LocLe.refl _|exact F2.nil|apply F2.cons|exact z12 _|((refine z13 rfl ?_ ?_);(focus ((repeat' ((exact z6 (fun _=>rfl))));done)))|exact True.intro|apply And.intro)))
  · rw [z831 (G:=G) (by omega) hi1 (fun k hk=>hno k (by omega) hk)]
    repeat' ((first|(apply AWP.go ok;rfl)|(apply And.intro;omega)|(((apply z11;omega));intro _)|((apply z7)<;>intro _))<;>conv=>whnf)
    all_goals first|(exfalso;omega)|skip
    all_goals (refine RetS.empty 1 ?_;refine RetS.lay [2] [] rfl rfl rfl ?_;refine RetS.done ?_ ?_<;>(repeat' (first|exact z46|exact F2.nil|apply F2.cons|((refine z13 rfl ?_ ?_);(focus ((repeat' (exact z37));done))))))
end Go.Proofs.YtknlmbniicacmaaGreat

namespace Go.Proofs.YtknlmbniicacmaaGreat
open Go.Gl
attribute [local irreducible] z31 AWP z48 z52 z50 RetS z57
theorem z1016 (v x:Int):CallsA Tryz.prog 196 [.int x,.pt [.int v]] [] (.bool (decide (x=v))) []:=by
  refine z10 z18 Tryz.func196 rfl rfl 7 Tryz.ntmps196 (by simp) ?_
  repeat' (((apply AWP.go ok;rfl))<;>conv=>whnf)
  all_goals skip
  all_goals (refine RetS.lay [] [] rfl rfl rfl ?_;refine RetS.done ?_ ?_<;>(repeat' (first|exact LocLe.refl _|exact F2.nil)))
theorem z938 (rows:List (List Int)) (hrl:∀ r∈rows,r.length≤1000000000) (v x:Int) (hx:0≤x∧x < rows.length):CallsA Tryz.prog 239 [.int x,.pt [.int v],.pt [lst 1 encL rows]] [] (.bool (decide (x≠v) && decide (v∈rows.getD x.toNat []))) []:=by
  obtain ⟨u,rfl⟩:∃ u:Nat,x=u:=⟨x.toNat,by omega⟩
  rw [Int.toNat_natCast]
  have hu:u < rows.length:=by omega
  have gr:=z467 hu
  have hrow:(rows.getD u []).length≤1000000000:=by rw [z19 hu];exact hrl _ (List.getElem_mem _)
  have cct:=z157 (rows.getD u []) (by unfold maxLen;omega) v
  generalize rows.getD u []=row at *
  refine z10 z18 Tryz.func239 rfl rfl 16 Tryz.ntmps239 (by simp) ?_
  by_cases h:(u:Int)=v
  · rw [decide_eq_false (by simp [h]),Bool.false_and]
    repeat' ((first|(apply AWP.go ok;rfl)|(apply z34;kernel_rfl)|(refine z16 (i:=u) rfl gr ?_)|(apply And.intro;omega)|((apply z38)<;>intro _)|(apply z9 (cct);rfl;rfl))<;>conv=>whnf)
    all_goals first|(exfalso;omega)|skip
    all_goals (refine RetS.lay [] [] rfl rfl rfl ?_;refine RetS.done ?_ ?_<;>(repeat' (first|exact LocLe.refl _|exact F2.nil)))
  · rw [decide_eq_true h,Bool.true_and]
    repeat' ((first|(apply AWP.go ok;rfl)|(apply z34;kernel_rfl)|(refine z16 (i:=u) rfl gr ?_)|(apply And.intro;omega)|((apply z38)<;>intro _)|(apply z9 (cct);rfl;rfl))<;>conv=>whnf)
    all_goals first|(exfalso;omega)|skip
    all_goals (refine RetS.lay [] [] rfl rfl rfl ?_;refine RetS.done ?_ ?_<;>(repeat' (first|exact LocLe.refl _|exact F2.nil)))
set_option maxHeartbeats 3200000 in
theorem z937 (rows : List (List Int)) (v : Int) (hr : ∀ r ∈ rows, InN rows.length r) (hv : 0 ≤ v ∧ v < rows.length) (hN : rows.length ≤ 100000) (hrl : ∀ r ∈ rows, r.length ≤ 1000000000) :
    CallsA Tryz.prog 197 [lst 1 encL rows,.int v] [] (.sref 0 0 (aroL rows v).length) [.cells 1 ((aroL rows v).map enI)]:=by
  obtain ⟨u,rfl⟩:∃ u:Nat,v=u:=⟨v.toNat,by omega⟩
  have hu:u < rows.length:=by omega
  have gr:=z467 hu
  have hrow:(rows.getD u []).length≤1000000000:=by rw [z19 hu];exact hrl _ (List.getElem_mem _)
  have cct:=z157 (rows.getD u []) (by unfold maxLen;omega) (u:Int)
  have csh:=z589 rows [(u:Int)] hr (z307 hv) (by simp) hN hrl (fun n=>decide (n≠(u:Int)) && decide ((u:Int)∈rows.getD n.toNat [])) 239 [.int (u:Int)] [lst 1 encL rows] (fun x h0 h1=>z938 rows hrl u x ⟨h0,h1⟩)
  unfold aroL
  rw [Int.toNat_natCast]
  by_cases h:(u:Int)∈rows.getD u []
  · rw [if_pos h]
    rw [decide_eq_true h] at cct
    generalize rows.getD u []=row at *
    refine z10 z18 Tryz.func197 rfl rfl 18 Tryz.ntmps197 (by simp) ?_
    repeat' ((first|(apply AWP.go ok;rfl)|(apply z34;kernel_rfl)|(refine z16 (i:=u) rfl gr ?_)|(apply And.intro;omega)|(apply z9 (cct);rfl;rfl))<;>conv=>whnf)
    all_goals skip
    all_goals (refine RetS.lay [2] [] rfl rfl rfl ?_;refine RetS.done ?_ ?_<;>(repeat' (first|exact LocLe.refl _|exact F2.nil|apply F2.cons|apply ObjLe.box)))
  · rw [if_neg h]
    rw [decide_eq_false h] at cct
    generalize shL rows [(u:Int)] (fun n=>decide (n≠(u:Int)) && decide ((u:Int)∈rows.getD n.toNat []))=D at *
    generalize rows.getD u []=row at *
    refine z10 z18 Tryz.func197 rfl rfl 18 Tryz.ntmps197 (by simp) ?_
    repeat' ((first|(apply AWP.go ok;rfl)|(apply z34;kernel_rfl)|(refine z16 (i:=u) rfl gr ?_)|(apply And.intro;omega)|(apply z9 (cct);rfl;rfl)|(((apply z8 [] [0,1,2] [3] (csh);(focus ((repeat' first|exact z84|apply z60)<;>rfl));(focus ((repeat' exact z4)<;>fail))));rfl;rfl;rfl;rfl;rfl;(focus ((repeat' first|exact z15|apply z14)<;>(refine z25 ?_;((exact z6 fun _=>rfl)))));((refine .inr ⟨rfl,?_⟩;repeat' first|exact True.intro|apply And.intro|exact z229 (fun _=>rfl) _))))<;>conv=>whnf)
    all_goals skip
    all_goals (refine RetS.lay [3] [] rfl rfl rfl ?_;refine RetS.done ?_ ?_<;>(repeat' (first|exact LocLe.refl _|exact F2.nil|apply F2.cons|exact z12 _|((refine z13 rfl ?_ ?_);(focus ((repeat' ((exact z6 (fun _=>rfl))));done))))))
noncomputable def lasR (rows:List (List Int)) (ini:List Int) (G:Int→Bool):List Int×List Int:=(lasL rows ini G).getD ([],[])
set_option maxHeartbeats 6400000 in
theorem z1015 (rows : List (List Int)) (ini : List Int) (hr : ∀ r ∈ rows, InN rows.length r) (hi : InN rows.length ini) (hn : ini.Nodup) (hN : rows.length ≤ 100000) (hrl : ∀ r ∈ rows, r.length ≤ 1000000000) (G : Int → Bool) (f : FuncId) (c1 c2 : List AC) (hf : ∀ x : Int, 0 ≤ x → x < rows.length → CallsA Tryz.prog f [.int x, .pt c1, .pt c2] [] (.bool (G x)) []) :
    CallsA Tryz.prog 125 [lst 1 encL rows,ints ini,.fn (.func f) [] [.pt c1,.pt c2]] [] (.tup [.sref 0 0 ((lasR rows ini G).1.take ((lasR rows ini G).1.length - 1)).length,.sref 1 0 (lasR rows ini G).2.length,.bool (lasL rows ini G).isSome]) [.cells 1 (((lasR rows ini G).1.take ((lasR rows ini G).1.length - 1)).map enI),.cells 1 ((lasR rows ini G).2.map enI)]:=by
  have hil:ini.length≤100000:=by have:=z135 rows.length ini hn hi;omega
  have cC:=z924 rows hr hN hrl
  have cO:=z681 rows ini hr hi hN hrl (by omega)
  have hQi:=z365 hr hi rows.length
  have hQl:=z245 hr hi rows.length
  have hcl:=cycB_len rows
  have hcg:∀ i,i < rows.length→((cycB rows).map enB)[i]?=some (enB (cycD rows i)):=fun i h=>z1048 (cycD rows) h
  have hto:=fun v hv=>shL_to (rows:=rows) (ini:=ini) hn (v:=v) hv
  have hrR:∀ k,k < (bfsL rows ini).length→(G ((bfsL rows ini).getD k 0) && cycD rows ((bfsL rows ini).getD k 0).toNat)=true→(∀ j,j < k→(G ((bfsL rows ini).getD j 0) && cycD rows ((bfsL rows ini).getD j 0).toNat)=false)→lasL rows ini G=some (bkw (srP rows ini) rows.length ((bfsL rows ini).getD k 0) [],cycL rows ((bfsL rows ini).getD k 0)):=fun k hk h1 h2=>by
    unfold lasL
    have:(bfsL rows ini).find? (fun v=>G v && cycD rows v.toNat)=some ((bfsL rows ini).getD k 0):=by
      rw [z19 hk] at h1 ⊢
      rw [List.find?_eq_some_iff_getElem]
      refine ⟨h1,k,hk,rfl,fun j hj=>?_⟩
      have:=h2 j hj
      rw [z19 (by omega)] at this
      rw [this];rfl
    rw [this];rfl
  have hrN:(∀ j,j < (bfsL rows ini).length→(G ((bfsL rows ini).getD j 0) && cycD rows ((bfsL rows ini).getD j 0).toNat)=false)→lasL rows ini G=none:=fun h=>by
    unfold lasL
    have:(bfsL rows ini).find? (fun v=>G v && cycD rows v.toNat)=none:=by
      rw [List.find?_eq_none]
      intro x hx
      obtain ⟨j,hj,rfl⟩:=List.mem_iff_getElem.1 hx
      have:=h j hj
      rw [z19 hj] at this
      rw [this];simp
    rw [this];rfl
  unfold lasR
  change (bfsL rows ini).length≤rows.length at hQl
  change InN rows.length (bfsL rows ini) at hQi
  generalize lasL rows ini G=L at *
  generalize cycB rows=C at *
  generalize bfsL rows ini=Q at *
  refine z10 z18 Tryz.func125 rfl rfl 45 Tryz.ntmps125 (by simp) ?_
  repeat' ((first|(apply AWP.go ok;rfl)|((first|(apply z8 [] [] [0] (cC);rfl;(focus ((repeat' exact z4)<;>fail)))|(apply z8 [] [] [1] (cO);rfl;(focus ((repeat' exact z4)<;>fail))));rfl;rfl;rfl;rfl;rfl;(focus ((repeat' first|exact z15|apply z14)<;>(refine z25 ?_;((exact z6 fun _=>rfl)))));(exact .inl rfl)))<;>conv=>whnf)
  all_goals skip
  refine z64 (fun i:Nat=>([(0,lst 1 encL rows),(1,ints ini),(2,.fn (.func f) [] [.pt c1,.pt c2]),(9,.sref 0 0 rows.length),(17,.sref 1 0 Q.length),(18,.int Q.length),(19,.int i)],[.cells 1 (C.map enB),.cells 1 (Q.map enI)])) (fun i=>i≤Q.length∧∀ j,j < i→(G (Q.getD j 0) && cycD rows (Q.getD j 0).toNat)=false) (fun i=>Q.length - i) 0 ⟨Nat.zero_le _,fun j hj=>by omega⟩ (by refine SealW.reach [0,1] [] rfl rfl rfl rfl ?_ ?_<;>(repeat' (first|exact LocLe.refl _|exact F2.nil|apply F2.cons|exact z12 _|((refine z13 rfl ?_ ?_);(focus ((repeat' ((exact z6 (fun _=>rfl))));done)))|exact True.intro|apply And.intro))) ?_
  rintro i ⟨hi1,hno⟩
  by_cases hi2:i < Q.length
  · have hm:=z353 hi2
    have hx:=hQi _ hm
    have gx:(Q.map enI)[i]?=some (enI (Q.getD i 0)):=by rw [List.getElem?_map,List.getElem?_eq_getElem hi2,z19 hi2];rfl
    have cf:=hf _ hx.1 hx.2
    have hsome:=fun h=>hrR i hi2 h hno
    have hnxt:(G (Q.getD i 0) && cycD rows (Q.getD i 0).toNat)=false→∀ j,j < i+1→(G (Q.getD j 0) && cycD rows (Q.getD j 0).toNat)=false:=fun h j hj=>by
      by_cases e:j=i
      · subst e;exact h
      · exact hno j (by omega)
    have hsh:=hto _ hm
    have csh:=z590 rows ini hr hi hn hN hrl (fun n=>decide (n=Q.getD i 0)) 196 [.int (Q.getD i 0)] (fun x _ _=>z1016 (Q.getD i 0) x)
    have car:=z937 rows (Q.getD i 0) hr hx hN hrl
    rw [hsh] at csh
    rw [aroL_eq] at car
    have hb1:=z506 (srP rows ini) rows.length (Q.getD i 0) []
    have hb2:=z507 (srP rows ini) rows.length (Q.getD i 0) []
    have hc2:=z626 rows (Q.getD i 0)
    have gc:=hcg (Q.getD i 0).toNat (by omega)
    rw [List.length_nil] at hb2
    clear hsh hrR hrN hto hcg hm hno
    generalize bkw (srP rows ini) rows.length (Q.getD i 0) []=B at *
    generalize cycL rows (Q.getD i 0)=Y at *
    generalize Q.getD i 0=x at *
    obtain ⟨u,rfl⟩:∃ u:Nat,x=u:=⟨x.toNat,by omega⟩
    rw [Int.toNat_natCast] at *
    by_cases hg:(G (u:Int) && cycD rows u)=true
    · have hL:=hsome hg
      obtain ⟨hg1,hg2⟩:=Bool.and_eq_true_iff.1 hg
      rw [hg1] at cf
      rw [hg2] at gc
      subst hL
      repeat' ((first|(apply AWP.go ok;rfl)|(apply z34;kernel_rfl)|(refine z16 (i:=i) rfl gx ?_)|(refine z16 (i:=u) rfl gc ?_)|(apply And.intro;first|omega|(unfold inI;omega))|((apply z7)<;>intro _)|(apply z9 (cf);rfl;rfl)|((first|(apply z8 [] [2] [3] (csh);(focus ((repeat' first|exact z84|apply z60)<;>rfl));(focus ((repeat' exact z4)<;>fail)))|(apply z8 [] [] [4] (car);rfl;(focus ((repeat' exact z4)<;>fail))));rfl;rfl;rfl;rfl;rfl;(focus ((repeat' first|exact z15|apply z14)<;>(refine z25 ?_;((exact z6 fun _=>rfl)))));(first|exact .inl rfl|(refine .inr ⟨rfl,?_⟩;repeat' first|exact True.intro|apply And.intro|exact z229 (fun _=>rfl) _))))<;>conv=>whnf)
      all_goals first|(exfalso;omega)|skip
      all_goals
        show RetS _ _ (.tup [.sref 0 0 (B.take (B.length - 1)).length,.sref 1 0 Y.length,.bool true]) [.cells 1 ((B.take (B.length - 1)).map enI),.cells 1 (Y.map enI)] _
        refine Gl.RetS.trunc 3 (B.length - 1) rfl ?_
        conv=>whnf
        (refine RetS.lay [3,4] [] rfl rfl rfl ?_;refine RetS.done ?_ ?_<;>(repeat' (first|exact LocLe.refl _|exact F2.nil|apply F2.cons|exact z12 _|(refine z39 ?_;((simp;done)))|((refine z13 rfl ?_ ?_);(focus ((repeat' (first|exact z6 (fun _=>rfl)|apply z22));done)))|apply z95)))
      all_goals (refine z29 ?_;rw [List.map_take])
    · have hg:=(Bool.not_eq_true _).mp hg
      have hn2:=hnxt hg
      cases hG:G (u:Int)
      · rw [hG] at cf
        repeat' ((first|(apply AWP.go ok;rfl)|(refine z16 (i:=i) rfl gx ?_)|(apply And.intro;first|omega|(unfold inI;omega))|((apply z7)<;>intro _)|(apply z9 (cf);rfl;rfl))<;>conv=>whnf)
        all_goals first|(exfalso;omega)|skip
        all_goals refine z23 (i+1) ⟨hi2,hn2⟩ (by omega) (by refine SealW.reach [0,1] [] rfl rfl rfl rfl ?_ ?_<;>(repeat' (first|exact LocLe.refl _|exact F2.nil|apply F2.cons|exact z12 _|((refine z13 rfl ?_ ?_);(focus ((repeat' ((exact z6 (fun _=>rfl))));done)))|exact True.intro|apply And.intro)))
      · rw [hG] at cf
        rw [hG,Bool.true_and] at hg
        rw [hg] at gc
        repeat' ((first|(apply AWP.go ok;rfl)|(refine z16 (i:=i) rfl gx ?_)|(refine z16 (i:=u) rfl gc ?_)|(apply And.intro;first|omega|(unfold inI;omega))|((apply z7)<;>intro _)|(apply z9 (cf);rfl;rfl))<;>conv=>whnf)
        all_goals first|(exfalso;omega)|skip
        all_goals refine z23 (i+1) ⟨hi2,hn2⟩ (by omega) (by refine SealW.reach [0,1] [] rfl rfl rfl rfl ?_ ?_<;>(repeat' (first|exact LocLe.refl _|exact F2.nil|apply F2.cons|exact z12 _|((refine z13 rfl ?_ ?_);(focus ((repeat' ((exact z6 (fun _=>rfl))));done)))|exact True.intro|apply And.intro)))
  · have hL:=hrN fun j hj=>hno j (by omega)
    subst hL
    repeat' ((first|(apply AWP.go ok;rfl)|(apply And.intro;omega)|(((apply z11;omega));intro _)|((apply z7)<;>intro _))<;>conv=>whnf)
    all_goals first|(exfalso;omega)|skip
    all_goals show RetS _ _ (.tup [.sref 0 0 0,.sref 1 0 0,.bool false]) [.cells 1 [],.cells 1 []] _
    all_goals (refine RetS.empty 1 ?_;refine RetS.empty 1 ?_;refine RetS.lay [2,3] [] rfl rfl rfl ?_;refine RetS.done ?_ ?_<;>(repeat' (first|exact LocLe.refl _|exact z46|exact F2.nil|apply F2.cons|((refine z13 rfl ?_ ?_);(focus ((repeat' (exact z37));done)))|apply z95)))
end Go.Proofs.YtknlmbniicacmaaGreat

namespace Go.Proofs.YtknlmbniicacmaaGreat
open Go.Gl
attribute [local irreducible] z31 AWP z48 z52 z50
structure Graph.ok (g:Graph):Prop where
  mx:g.mx
  st:g.st.length≤1048576
  nx:g.nx.length≤1048576
  states:∀ s∈g.st,s.small
  rows:∀ r∈g.nx,r.length≤1048576
  sumS:(g.st.map State.sz).sum≤1048576
  sumN:(g.nx.map List.length).sum≤1048576
theorem Graph.ok_of {g:Graph} (hg:g.mx) (h1:g.s1≤1048576) (h2:g.s2≤1048576):g.ok:=by
  unfold Graph.s1 tot at h1
  unfold Graph.s2 tot at h2
  refine ⟨hg,by omega,by omega,fun s hs=>?_,fun r hr=>?_,by omega,by omega⟩
  · have:=z409 State.sz hs
    unfold State.sz at this h1
    exact ⟨by omega,by omega⟩
  · have:=z409 List.length hr;omega
structure LabOk (l:List Tree):Prop where
  mx:Lmx l
  len:l.length≤1048576
  el:∀ t∈l,t.sz≤1048576
  sum:(l.map Tree.sz).sum≤1048576
theorem LabOk.of {l:List Tree} (hl:Lmx l) (h:tot Tree.sz l≤1048576):LabOk l:=by
  unfold tot at h
  exact ⟨hl,by omega,fun t ht=>by have:=z409 Tree.sz ht;omega,by omega⟩
end Go.Proofs.YtknlmbniicacmaaGreat

namespace Go.Proofs.YtknlmbniicacmaaGreat
open Go.Gl
attribute [local irreducible] z31 AWP z48 z52 z50
end Go.Proofs.YtknlmbniicacmaaGreat

namespace Go.Proofs.YtknlmbniicacmaaGreat
open Go.Gl
attribute [local irreducible] z31 AWP z48 z52 z50
end Go.Proofs.YtknlmbniicacmaaGreat

namespace Go.Proofs.YtknlmbniicacmaaGreat
open Go.Gl
attribute [local irreducible] z31 AWP z48 z52 z50
structure Trace where
  stem:List Int
  loop:List Int
deriving DecidableEq
def Trace.cs (t:Trace):List AC:=[ints t.stem,ints t.loop]
def Trace.all (t:Trace):List Int:=t.stem++t.loop
end Go.Proofs.YtknlmbniicacmaaGreat

namespace Go.Proofs.YtknlmbniicacmaaGreat
open Go.Gl
attribute [local irreducible] z31 AWP z48 z52 z50
def enU (n:Int):List AC:=[.raw (.int .u8 n)]
def rdO (bs:List Int) (p:Int):AObj:=.cells 2 [[lst 1 enU bs,.int p]]
structure BytesOk (bs:List Int):Prop where
  len:bs.length≤2000
  el:∀ x∈bs,0≤x∧x≤255
theorem u_at {l:List Int} {i:Nat} (h:i < l.length):(l.map enU)[i]?=some (enU l[i]):=by rw [List.getElem?_map,List.getElem?_eq_getElem h];rfl
theorem rem_at {l:List Int} {i:Int} (h:0 < l.length) (h0:0≤i):(i % (l.length:Int)).toNat < l.length:=by
  have:=Int.emod_lt_of_pos i (show (0:Int) < l.length by omega)
  have:=Int.emod_nonneg i (show (l.length:Int)≠0 by omega)
  omega
set_option maxHeartbeats 1600000 in
theorem z59 (bs:List Int) (hb:BytesOk bs) (p n:Int) (h0:0≤p) (h1:p≤1000000000) (hn:n≤1000000000):∃ v:Int,(0≤v∧(1≤n→v < n))∧CallsA Tryz.prog 73 [.ptr 0 none 0,.int n] [rdO bs p] (.int v) [rdO bs (p+1)]:=by
  have hlen:=hb.len
  by_cases hz:n < 1∨bs.length=0
  · refine ⟨0,⟨by omega,fun _=>by omega⟩,?_⟩
    refine z17 z18 Tryz.func73 rfl rfl 99 Tryz.ntmps73 (by simp) ?_
    repeat' (first|(apply AWP.go ok;rfl;conv=>whnf)|(apply z34;kernel_rfl;conv=>whnf)|(apply And.intro;(first|omega|(unfold inI;omega));conv=>whnf)|(with_reducible apply z69;omega;intro _;conv=>whnf)|(apply z7<;>intro _<;>conv=>whnf))
    all_goals first|(exfalso;omega)|exact z105 [0] (by decide) rfl rfl rfl ⟨z24 rfl rfl,trivial⟩
  by_cases hk:p < bs.length
  · have hp:(p+1 - 1).toNat < bs.length:=by omega
    have g0:=u_at (l:=bs) (i:=(p+1 - 1).toNat) hp
    have hr:=hb.el bs[(p+1 - 1).toNat] (List.getElem_mem _)
    generalize bs[(p+1 - 1).toNat]=b at *
    have hw:IntKind.i64.wrap b=b:=IntWalk.i64_in _ (by omega)
    refine ⟨b % n,⟨Int.emod_nonneg _ (by omega),fun _=>Int.emod_lt_of_pos _ (by omega)⟩,?_⟩
    refine z17 z18 Tryz.func73 rfl rfl 99 Tryz.ntmps73 (by simp) ?_
    repeat' (first|(apply AWP.go ok;rfl;conv=>whnf)|(apply z34;kernel_rfl;conv=>whnf)|(refine z16 (i:=(p+1 - 1).toNat) rfl g0 ?_;conv=>whnf)|(apply And.intro;(first|omega|(unfold inI;omega));conv=>whnf)|(with_reducible apply z69;omega;intro _;conv=>whnf)|(apply z7<;>intro _<;>conv=>whnf))
    all_goals first|(exfalso;omega)|exact z105 [0] (by decide) rfl rfl rfl ⟨z24 rfl rfl,trivial⟩
  have hl0:0 < bs.length:=by omega
  have m1:=rem_at (l:=bs) (i:=p+1 - 1) hl0 (by omega)
  have m2:=rem_at (l:=bs) (i:=(p+1 - 1) * 7+3) hl0 (by omega)
  have g1:=u_at m1
  have g2:=u_at m2
  have r1:=hb.el bs[((p+1 - 1) % (bs.length:Int)).toNat] (List.getElem_mem _)
  have r2:=hb.el bs[(((p+1 - 1) * 7+3) % (bs.length:Int)).toNat] (List.getElem_mem _)
  generalize bs[((p+1 - 1) % (bs.length:Int)).toNat]=b1 at *
  generalize bs[(((p+1 - 1) * 7+3) % (bs.length:Int)).toNat]=b2 at *
  have w1:IntKind.i64.wrap b1=b1:=IntWalk.i64_in _ (by omega)
  have w2:IntKind.i64.wrap b2=b2:=IntWalk.i64_in _ (by omega)
  have n1:=Int.emod_nonneg (p+1 - 1) (show (bs.length:Int)≠0 by omega)
  have n2:=Int.emod_nonneg ((p+1 - 1) * 7+3) (show (bs.length:Int)≠0 by omega)
  have l1:=Int.emod_lt_of_pos (p+1 - 1) (show (0:Int) < bs.length by omega)
  have l2:=Int.emod_lt_of_pos ((p+1 - 1) * 7+3) (show (0:Int) < bs.length by omega)
  have q0:0≤(p+1 - 1) / (bs.length:Int):=Int.ediv_nonneg (by omega) (by omega)
  have q1:(p+1 - 1) / (bs.length:Int)≤p+1 - 1:=Int.ediv_le_self _ (by omega)
  have hx0:0≤b1 * 131+b2 * 1117+(p+1 - 1) * 29+(p+1 - 1) / (bs.length:Int) * 53:=by omega
  have hx1:b1 * 131+b2 * 1117+(p+1 - 1) * 29+(p+1 - 1) / (bs.length:Int) * 53≤1000000000000:=by omega
  have hq:0≤(b1 * 131+b2 * 1117+(p+1 - 1) * 29+(p+1 - 1) / (bs.length:Int) * 53) / 64∧(b1 * 131+b2 * 1117+(p+1 - 1) * 29+(p+1 - 1) / (bs.length:Int) * 53) / 64≤1000000000000:=by omega
  refine ⟨(((b1 * 131+b2 * 1117+(p+1 - 1) * 29+(p+1 - 1) / (bs.length:Int) * 53).toNat ^^^ ((b1 * 131+b2 * 1117+(p+1 - 1) * 29+(p+1 - 1) / (bs.length:Int) * 53) / 64).toNat:Nat):Int) % n,⟨Int.emod_nonneg _ (by omega),fun _=>Int.emod_lt_of_pos _ (by omega)⟩,?_⟩
  refine z17 z18 Tryz.func73 rfl rfl 99 Tryz.ntmps73 (by simp) ?_
  repeat' (first|(apply AWP.go ok;rfl;conv=>whnf)|(apply z34;kernel_rfl;conv=>whnf)|(refine z16 (i:=(((p+1 - 1) * 7+3) % (bs.length:Int)).toNat) rfl g2 ?_;conv=>whnf)|(refine z16 (i:=((p+1 - 1) % (bs.length:Int)).toNat) rfl g1 ?_;conv=>whnf)|(apply And.intro;(first|omega|(unfold inI;omega)|(unfold z148;omega));conv=>whnf)|(with_reducible apply z69;omega;intro _;conv=>whnf)|(apply z7<;>intro _<;>conv=>whnf))
  all_goals first|(exfalso;omega)|exact z105 [0] (by decide) rfl rfl rfl ⟨z24 rfl rfl,trivial⟩
theorem z556 (bs:List Int) (hl:bs.length≤maxLen):CallsA Tryz.prog 71 [lst 1 enU bs] [] (.ptr 0 none 0) [rdO (bs.take 2000) 0]:=by
  unfold maxLen at hl
  refine z17 z18 Tryz.func71 rfl rfl 11 Tryz.ntmps71 (by simp) ?_
  by_cases h:bs.length≤2000
  · rw [List.take_of_length_le h]
    repeat' (first|(apply AWP.go ok;rfl;conv=>whnf)|(apply And.intro;(omega);conv=>whnf)|(apply z7<;>intro _<;>conv=>whnf))
    all_goals first|(exfalso;omega)|exact z105 [0] (by decide) rfl rfl rfl ⟨z24 rfl rfl,trivial⟩
  · repeat' (first|(apply AWP.go ok;rfl;conv=>whnf)|(apply And.intro;(omega);conv=>whnf)|(apply z7<;>intro _<;>conv=>whnf))
    all_goals first|(exfalso;omega)|skip
    all_goals exact z105 [0] (by decide) rfl rfl rfl ⟨z24 rfl (congrArg (fun x=>AObj.cells 2 [[x,AC.int 0]]) (z280 1 enU bs 2000 (by omega))),trivial⟩
end Go.Proofs.YtknlmbniicacmaaGreat

namespace Go.Proofs.YtknlmbniicacmaaGreat
open Go.Gl
attribute [local irreducible] z31 AWP z48 z52 z50
theorem z88 (bs:List Int) (hb:BytesOk bs) (p:Int) (h0:0≤p) (h1:p≤1000000000) (l:List Int) (hl:0 < l.length) (hl2:l.length≤1000):∃ v:Int,v∈l∧CallsA Tryz.prog 158 [.ptr 0 none 0,.sref 1 0 l.length] [rdO bs p,.cells 1 (l.map enI)] (.int v) [rdO bs (p+1),.cells 1 (l.map enI)]:=by
  obtain ⟨k,⟨hk0,hk1⟩,hc⟩:=z59 bs hb p l.length h0 h1 (by omega)
  have hk:k.toNat < l.length:=by omega
  have g0:(l.map enI)[k.toNat]?=some (enI l[k.toNat]):=by rw [List.getElem?_map,List.getElem?_eq_getElem hk];rfl
  refine ⟨l[k.toNat],List.getElem_mem _,?_⟩
  generalize l[k.toNat]=v at *
  refine z17 z18 Tryz.func158 rfl rfl 12 Tryz.ntmps158 (by simp) ?_
  repeat' (first|(apply AWP.go ok;rfl;conv=>whnf)|(refine z16 (i:=k.toNat) rfl g0 ?_;conv=>whnf)|(apply And.intro;(omega);conv=>whnf)|(apply z8 [0] [] [] (hc);rfl;(focus ((repeat' (first|exact z4|apply z5))<;>(rfl)));rfl;rfl;rfl;rfl;rfl;(focus ((repeat' (first|exact z15|apply z14))<;>(exact z20 rfl rfl)));(exact .inl rfl);conv=>whnf))
  all_goals (exact z105 [0,1] (by decide) rfl rfl rfl ⟨z24 rfl rfl,z40 rfl (z6 fun _=>rfl),trivial⟩)
end Go.Proofs.YtknlmbniicacmaaGreat

namespace Go.Proofs.YtknlmbniicacmaaGreat
open Go.Gl
attribute [local irreducible] z31 AWP z48 z52 z50 RetS z57
theorem z156 (t:Tree):t.sz≤maxLen→t.mx:=by
  induction t using Tree.ind with|h t ih=>?_
  intro h
  rw [Tree.mx_iff]
  rw [Tree.sz_eq] at h
  refine ⟨by omega,fun u hu=>ih u hu ?_⟩
  have:=z409 Tree.sz hu
  omega
abbrev few (p:Int):Prop:=0≤p∧p≤999999000
abbrev few1 (p:Int):Prop:=0≤p∧p≤999990000
abbrev few2 (p:Int):Prop:=0≤p∧p≤999900000
abbrev few3 (p:Int):Prop:=0≤p∧p≤999000000
def leaf (k v:Int):Tree:=.mk k v []
theorem z87 (k v:Int):(leaf k v).sz=0:=rfl
theorem z296 (k v:Int) (l:List Tree):(Tree.mk k v l).sz=l.length+(l.map Tree.sz).sum:=Tree.sz_eq _
set_option maxHeartbeats 1600000 in
theorem z554 (bs:List Int) (hb:BytesOk bs) (p:Int) (hp:few p):∃ (t:Tree) (p' : Int),(t.sz≤3∧p≤p'∧p'≤p+5)∧CallsA Tryz.prog 205 [.ptr 0 none 0] [rdO bs p] (z51 Tree.cs' t) [rdO bs p']:=by
  obtain ⟨v0,⟨l0,u0⟩,c0⟩:=z59 bs hb p 3 (by omega) (by omega) (by omega)
  by_cases h0:v0=0
  · subst h0
    refine ⟨leaf 1 1,p+1,⟨by rw [z87];omega,by omega,by omega⟩,?_⟩
    refine z10 z18 Tryz.func205 rfl rfl 31 Tryz.ntmps205 (by simp) ?_
    repeat' ((first|(apply AWP.go ok;rfl)|(((apply z8 [0] [] [] (c0);rfl;(focus ((repeat' first|exact z4|apply z5)<;>rfl))));rfl;rfl;rfl;rfl;rfl;(focus ((repeat' first|exact z15|apply z14)<;>exact z20 rfl rfl));(exact .inl rfl)))<;>conv=>whnf)
    all_goals (refine RetS.lay [0] [] rfl rfl rfl ?_;refine RetS.done ?_ ?_<;>(repeat' (first|exact LocLe.refl _|exact z53|exact F2.nil|apply F2.cons|apply ObjLe.box|apply z44)))
  · obtain ⟨v1,m1,c1⟩:=z88 bs hb (p+1) (by omega) (by omega) [0,1,0,2] (by decide) (by decide)
    obtain ⟨v2,⟨l2,u2⟩,c2⟩:=z59 bs hb (p+1+1) 3 (by omega) (by omega) (by omega)
    obtain ⟨v3,m3,c3⟩:=z88 bs hb (p+1+1+1) (by omega) (by omega) [6,7,6] (by decide) (by decide)
    obtain ⟨v4,⟨l4,u4⟩,c4⟩:=z59 bs hb (p+1+1+1+1) 5 (by omega) (by omega) (by omega)
    have z0:v0≠0:=h0
    by_cases h4:v4=0
    · subst h4
      refine ⟨.mk 3 0 [.mk v3 0 [leaf 2 v1,leaf 1 v2]],p+1+1+1+1+1,⟨by simp [z296,z87],by omega,by omega⟩,?_⟩
      refine z10 z18 Tryz.func205 rfl rfl 31 Tryz.ntmps205 (by simp) ?_
      repeat' ((first|(apply AWP.go ok;rfl)|(apply z34;kernel_rfl)|((apply z7)<;>intro _)|((first|(apply z8 [0] [] [] (c0);rfl;(focus ((repeat' first|exact z4|apply z5)<;>rfl)))|(apply z8 [0,2] [] [] (c1);rfl;(focus ((repeat' first|exact z4|apply z5)<;>rfl)))|(apply z8 [0] [] [] (c2);rfl;(focus ((repeat' first|exact z4|apply z5)<;>rfl)))|(apply z8 [0,5] [] [] (c3);rfl;(focus ((repeat' first|exact z4|apply z5)<;>rfl)))|(apply z8 [0] [] [] (c4);rfl;(focus ((repeat' first|exact z4|apply z5)<;>rfl))));rfl;rfl;rfl;rfl;rfl;(focus ((repeat' first|exact z15|apply z14)<;>first|exact z20 rfl rfl|(refine z25 ?_;((exact z6 fun _=>rfl)))));(exact .inl rfl)))<;>conv=>whnf)
      all_goals first|(exfalso;omega)|skip
      all_goals (refine RetS.lay [0,8] [6] rfl rfl rfl ?_;refine RetS.lay [0] [1] rfl rfl rfl ?_;refine RetS.done ?_ ?_<;>(repeat' (first|exact LocLe.refl _|exact z53|exact F2.nil|apply F2.cons|apply ObjLe.box|((first|apply z45 rfl rfl rfl|apply z75 rfl rfl rfl);(focus ((repeat (rfl));done));(focus ((rfl);done)))|apply z44|(apply z80;rfl))))
    · refine ⟨.mk v3 0 [leaf 2 v1,leaf 1 v2],p+1+1+1+1+1,⟨by simp [z296,z87],by omega,by omega⟩,?_⟩
      refine z10 z18 Tryz.func205 rfl rfl 31 Tryz.ntmps205 (by simp) ?_
      repeat' ((first|(apply AWP.go ok;rfl)|(apply z34;kernel_rfl)|((apply z7)<;>intro _)|((first|(apply z8 [0] [] [] (c0);rfl;(focus ((repeat' first|exact z4|apply z5)<;>rfl)))|(apply z8 [0,2] [] [] (c1);rfl;(focus ((repeat' first|exact z4|apply z5)<;>rfl)))|(apply z8 [0] [] [] (c2);rfl;(focus ((repeat' first|exact z4|apply z5)<;>rfl)))|(apply z8 [0,5] [] [] (c3);rfl;(focus ((repeat' first|exact z4|apply z5)<;>rfl)))|(apply z8 [0] [] [] (c4);rfl;(focus ((repeat' first|exact z4|apply z5)<;>rfl))));rfl;rfl;rfl;rfl;rfl;(focus ((repeat' first|exact z15|apply z14)<;>first|exact z20 rfl rfl|(refine z25 ?_;((exact z6 fun _=>rfl)))));(exact .inl rfl)))<;>conv=>whnf)
      all_goals first|(exfalso;omega)|skip
      all_goals (refine RetS.lay [0] [6] rfl rfl rfl ?_;refine RetS.done ?_ ?_<;>(repeat' (first|exact LocLe.refl _|exact z53|exact F2.nil|apply F2.cons|apply ObjLe.box|((apply z45 rfl rfl rfl);(focus ((repeat (rfl));done));(focus ((rfl);done)))|apply z44|(apply z80;rfl))))
end Go.Proofs.YtknlmbniicacmaaGreat

namespace Go.Proofs.YtknlmbniicacmaaGreat
open Go.Gl
attribute [local irreducible] z31 AWP z48 z52 z50 RetS z57
def drK:Nat→Int
  | 0=>4
  | n+1=>4+2 * drK n
def drS:Nat→Nat
  | 0=>0
  | n+1=>2+2 * drS n
theorem z1056 (n:Nat):4≤drK n:=by induction n with
  | zero=>decide
  | succ n ih=>rw [drK];omega
set_option maxHeartbeats 1600000 in
theorem z791 (bs:List Int) (hb:BytesOk bs):∀ (n:Nat) (d p:Int),d≤n+1→n≤100→0≤d→0≤p→p+drK n≤1000000000→∃ (t:Tree) (p' : Int),(t.sz≤drS n∧p≤p'∧p'≤p+drK n)∧CallsA Tryz.prog 301 [.ptr 0 none 0,.int d] [rdO bs p] (z51 Tree.cs' t) [rdO bs p']:=by
  intro n
  induction n with
  | zero =>
    intro d p hd hd1 hd0 hp hq
    rw [drK] at hq ⊢
    obtain ⟨v0,⟨l0,u0⟩,c0⟩:=z59 bs hb p 3 (by omega) (by omega) (by omega)
    by_cases h0:v0=0
    · subst h0
      obtain ⟨v1,⟨l1,u1⟩,c1⟩:=z59 bs hb (p+1) 4 (by omega) (by omega) (by omega)
      refine ⟨leaf 1 v1,p+1+1,⟨by rw [z87];omega,by omega,by omega⟩,?_⟩
      refine z10 z18 Tryz.func301 rfl rfl 46 Tryz.ntmps301 (by simp) ?_
      repeat' ((first|(apply AWP.go ok;rfl)|((apply z7)<;>intro _)|((first|(apply z8 [0] [] [] (c0);rfl;(focus ((repeat' first|exact z4|apply z5)<;>rfl)))|(apply z8 [0] [] [] (c1);rfl;(focus ((repeat' first|exact z4|apply z5)<;>rfl))));rfl;rfl;rfl;rfl;rfl;(focus ((repeat' first|exact z15|apply z14)<;>exact z20 rfl rfl));(exact .inl rfl)))<;>conv=>whnf)
      all_goals first|(exfalso;omega)|skip
      all_goals (refine RetS.lay [0] [] rfl rfl rfl ?_;refine RetS.done ?_ ?_<;>(repeat' (first|exact LocLe.refl _|exact z53|exact F2.nil|apply F2.cons|apply ObjLe.box|apply z44)))
    · obtain ⟨v1,m1,c1⟩:=z88 bs hb (p+1) (by omega) (by omega) [0,1,0,2] (by decide) (by decide)
      refine ⟨leaf 2 v1,p+1+1,⟨by rw [z87];omega,by omega,by omega⟩,?_⟩
      refine z10 z18 Tryz.func301 rfl rfl 46 Tryz.ntmps301 (by simp) ?_
      repeat' ((first|(apply AWP.go ok;rfl)|((apply z7)<;>intro _)|((first|(apply z8 [0] [] [] (c0);rfl;(focus ((repeat' first|exact z4|apply z5)<;>rfl)))|(apply z8 [0,2] [] [] (c1);rfl;(focus ((repeat' first|exact z4|apply z5)<;>rfl))));rfl;rfl;rfl;rfl;rfl;(focus ((repeat' first|exact z15|apply z14)<;>first|exact z20 rfl rfl|(refine z25 ?_;((exact z6 fun _=>rfl)))));(exact .inl rfl)))<;>conv=>whnf)
      all_goals first|(exfalso;omega)|skip
      all_goals (refine RetS.lay [0] [] rfl rfl rfl ?_;refine RetS.done ?_ ?_<;>(repeat' (first|exact LocLe.refl _|exact z53|exact F2.nil|apply F2.cons|apply ObjLe.box|apply z44)))
  | succ n ih =>
    intro d p hd hd1 hd0 hp hq
    have hK:=z1056 n
    by_cases hlt:d < 2
    · obtain ⟨t,p',h1,h2⟩:=ih d p (by omega) (by omega) hd0 hp (by rw [drK] at hq;omega)
      exact ⟨t,p',⟨by rw [drS];omega,h1.2.1,by rw [drK];omega⟩,h2⟩
    rw [drK] at hq
    rw [drK,drS]
    obtain ⟨w,⟨lw,uw⟩,cw⟩:=z59 bs hb p 5 (by omega) (by omega) (by omega)
    by_cases hw:w=0
    · subst hw
      obtain ⟨v0,⟨l0,u0⟩,c0⟩:=z59 bs hb (p+1) 3 (by omega) (by omega) (by omega)
      by_cases h0:v0=0
      · subst h0
        obtain ⟨v1,⟨l1,u1⟩,c1⟩:=z59 bs hb (p+1+1) 4 (by omega) (by omega) (by omega)
        refine ⟨leaf 1 v1,p+1+1+1,⟨by rw [z87];omega,by omega,by omega⟩,?_⟩
        refine z10 z18 Tryz.func301 rfl rfl 46 Tryz.ntmps301 (by simp) ?_
        repeat' ((first|(apply AWP.go ok;rfl)|((apply z7)<;>intro _)|((first|(apply z8 [0] [] [] (cw);rfl;(focus ((repeat' first|exact z4|apply z5)<;>rfl)))|(apply z8 [0] [] [] (c0);rfl;(focus ((repeat' first|exact z4|apply z5)<;>rfl)))|(apply z8 [0] [] [] (c1);rfl;(focus ((repeat' first|exact z4|apply z5)<;>rfl))));rfl;rfl;rfl;rfl;rfl;(focus ((repeat' first|exact z15|apply z14)<;>exact z20 rfl rfl));(exact .inl rfl)))<;>conv=>whnf)
        all_goals first|(exfalso;omega)|skip
        all_goals (refine RetS.lay [0] [] rfl rfl rfl ?_;refine RetS.done ?_ ?_<;>(repeat' (first|exact LocLe.refl _|exact z53|exact F2.nil|apply F2.cons|apply ObjLe.box|apply z44)))
      · obtain ⟨v1,m1,c1⟩:=z88 bs hb (p+1+1) (by omega) (by omega) [0,1,0,2] (by decide) (by decide)
        refine ⟨leaf 2 v1,p+1+1+1,⟨by rw [z87];omega,by omega,by omega⟩,?_⟩
        refine z10 z18 Tryz.func301 rfl rfl 46 Tryz.ntmps301 (by simp) ?_
        repeat' ((first|(apply AWP.go ok;rfl)|((apply z7)<;>intro _)|((first|(apply z8 [0] [] [] (cw);rfl;(focus ((repeat' first|exact z4|apply z5)<;>rfl)))|(apply z8 [0] [] [] (c0);rfl;(focus ((repeat' first|exact z4|apply z5)<;>rfl)))|(apply z8 [0,2] [] [] (c1);rfl;(focus ((repeat' first|exact z4|apply z5)<;>rfl))));rfl;rfl;rfl;rfl;rfl;(focus ((repeat' first|exact z15|apply z14)<;>first|exact z20 rfl rfl|(refine z25 ?_;((exact z6 fun _=>rfl)))));(exact .inl rfl)))<;>conv=>whnf)
        all_goals first|(exfalso;omega)|skip
        all_goals (refine RetS.lay [0] [] rfl rfl rfl ?_;refine RetS.done ?_ ?_<;>(repeat' (first|exact LocLe.refl _|exact z53|exact F2.nil|apply F2.cons|apply ObjLe.box|apply z44)))
    · obtain ⟨kd,mk,ck⟩:=z88 bs hb (p+1) (by omega) (by omega) [6,8,7,4,3,5,9] (by decide) (by decide)
      have ca:=z555 kd
      have ham:∃ m:Nat,z300 kd=m∧m≤2:=by
        simp only [List.mem_cons,List.not_mem_nil,or_false] at mk
        unfold z300
        rcases mk with rfl|rfl|rfl|rfl|rfl|rfl|rfl
        all_goals first|exact ⟨2,rfl,by omega⟩|exact ⟨1,rfl,by omega⟩
      obtain ⟨m,em,hm⟩:=ham
      rw [em] at ca
      obtain ⟨ks,pf,hks,hp0,hst,hpf⟩:=z302 (fun k q (t:Tree) q'=>t.sz≤drS n∧CallsA Tryz.prog 301 [.ptr 0 none 0,.int (d - 1)] [rdO bs q] (z51 Tree.cs' t) [rdO bs q']) (p+1+1) (drK n) m (fun k q hk h1 h2=>by
        have:drK n * k≤drK n:=by
          have:k=0∨k=1:=by omega
          rcases this with rfl|rfl<;>simp<;>omega
        obtain ⟨t,q',⟨a1,a2,a3⟩,a4⟩:=ih (d - 1) q (by omega) (by omega) (by omega) (by omega) (by omega)
        exact ⟨t,q',⟨a1,a4⟩,a2,a3⟩)
      have hpm:=hpf m (Nat.le_refl _)
      have hKm:drK n * m≤2 * drK n:=by
        have:m=0∨m=1∨m=2:=by omega
        rcases this with rfl|rfl|rfl<;>simp<;>omega
      have hsum:(ks.map Tree.sz).sum≤2 * drS n:=by
        have:∀ (l:List Tree),(∀ t∈l,t.sz≤drS n)→(l.map Tree.sz).sum≤l.length * drS n:=by
          intro l
          induction l with
          | nil=>intro _;simp
          | cons t l ih =>
            intro h
            have h1:=h t (by simp)
            have h2:=ih fun u hu=>h u (by simp [hu])
            simp only [List.map_cons,List.sum_cons,List.length_cons,Nat.add_mul]
            omega
        have h1:=this ks fun t ht=>by
          obtain ⟨i,hi,rfl⟩:=List.mem_iff_getElem.1 ht
          exact (hst i hi).1
        have h2:ks.length * drS n≤2 * drS n:=Nat.mul_le_mul_right _ (by omega)
        omega
      refine ⟨.mk kd 0 ks,pf m,⟨by rw [z296];omega,by omega,by omega⟩,?_⟩
      refine z10 z18 Tryz.func301 rfl rfl 46 Tryz.ntmps301 (by simp) ?_
      rw [← hp0] at ck
      repeat' ((first|(apply AWP.go ok;rfl)|((apply z7)<;>intro _)|(apply z9 (ca);rfl;rfl)|((first|(apply z8 [0] [] [] (cw);rfl;(focus ((repeat' first|exact z4|apply z5)<;>rfl)))|(apply z8 [0,2] [] [] (ck);rfl;(focus ((repeat' first|exact z4|apply z5)<;>rfl))));rfl;rfl;rfl;rfl;rfl;(focus ((repeat' first|exact z15|apply z14)<;>first|exact z20 rfl rfl|(refine z25 ?_;((exact z6 fun _=>rfl)))));(exact .inl rfl)))<;>conv=>whnf)
      all_goals first|(exfalso;omega)|skip
      refine AWP.reach (Reach.empty 3 rfl) ?_
      refine z64 (fun k:Nat=>([(0,.ptr 0 none 0),(1,.int d),(4,.ptr 1 none 0),(6,.ptr 2 none 0),(7,.int (m - k))],[rdO bs (pf k),.cells 3 [[.int 0,.int 0,.nils]],.cells 3 [[.int kd,.int 0,.sref 3 0 k]],.cells 3 ((ks.take k).map Tree.cs')])) (fun k=>k≤m) (fun k=>m - k) 0 (by omega) (by refine SealW.reach [0,1,3,4] [] rfl rfl rfl rfl ?_ ?_<;>(repeat' (first|exact LocLe.refl _|exact z46|exact F2.nil|apply F2.cons|apply ObjLe.box|((refine z13 rfl ?_ ?_);(focus ((repeat' (exact z37));done)))|exact True.intro|apply And.intro))) ?_
      intro k hk
      by_cases hkm:k < m
      · have hc:=(hst k (by omega)).2
        have hkl:k < ks.length:=by omega
        rw [Tree.arg_eq] at hc
        repeat' ((first|(apply AWP.go ok;rfl)|(apply z34;kernel_rfl)|(apply And.intro;first|(unfold inI;omega)|((try dsimp only);simp only [List.length_map,List.length_take,List.length_append,List.length_replicate,List.length_cons,List.length_nil];omega)|exact ⟨rfl,z21 rfl z30⟩)|((apply z7)<;>intro _)|(((apply z8 [0] [] [] (hc);rfl;(focus ((repeat' first|exact z4|apply z5)<;>rfl))));rfl;rfl;rfl;rfl;rfl;(focus ((repeat' first|exact z15|apply z14)<;>exact z20 rfl rfl));(exact .inl rfl)))<;>conv=>whnf)
        all_goals first|(exfalso;omega)|skip
        refine z23 (k+1) (by omega) (by omega) (by refine SealW.reach [0,1,2,5] [] rfl rfl rfl rfl ?_ ?_<;>(repeat' (first|exact LocLe.refl _|exact F2.nil|apply F2.cons|exact z355|(refine z96 ?_;omega)|apply ObjLe.box|((refine z35 rfl ?_ ?_);(focus ((repeat' (first|exact z6 (fun _=>rfl)|apply z22));done)))|(refine z104 (by omega) (by omega) ?_)|(apply z80;rfl)|exact True.intro|apply And.intro)))
      · have:k=m:=by omega
        subst this
        repeat' ((first|(apply AWP.go ok;rfl)|(apply And.intro;omega)|((apply z7)<;>intro _))<;>conv=>whnf)
        all_goals first|(exfalso;omega)|skip
        all_goals (refine RetS.lay [0] [3] rfl rfl rfl ?_;refine RetS.done ?_ ?_<;>(repeat' (first|exact LocLe.refl _|exact F2.nil|apply F2.cons|(refine z491 ?_;omega)|apply ObjLe.box|((apply z45 rfl rfl rfl);(focus ((repeat ((exact z41 (fun _=>rfl) _)));done));(focus (((simp;omega));done)))|apply z44)))
end Go.Proofs.YtknlmbniicacmaaGreat

namespace Go.Proofs.YtknlmbniicacmaaGreat
open Go.Gl
attribute [local irreducible] z31 AWP z48 z52 z50 RetS z57
theorem z1030 (bs:List Int) (hb:BytesOk bs) (p:Int) (hp:few p):∃ (t:Tree) (p' : Int),(t.sz≤20∧p≤p'∧p'≤p+100)∧CallsA Tryz.prog 271 [.ptr 0 none 0] [rdO bs p] (z51 Tree.cs' t) [rdO bs p']:=by
  obtain ⟨d,md,cd⟩:=z88 bs hb p (by omega) (by omega) [3,2,3,4] (by decide) (by decide)
  have hd:0≤d∧d≤4:=by simp at md;omega
  obtain ⟨t,q,⟨t1,t2,t3⟩,ct⟩:=z791 bs hb 3 d (p+1) (by omega) (by omega) (by omega) (by omega) (by simp only [drK];omega)
  simp only [drK] at t3
  simp only [drS] at t1
  have cv:=z129 t (z156 t (by unfold maxLen;omega))
  by_cases hv:t.exprB=true
  · refine ⟨t,q,⟨by omega,by omega,by omega⟩,?_⟩
    rw [hv] at cv
    rw [Tree.arg_eq] at *
    refine z10 z18 Tryz.func271 rfl rfl 15 Tryz.ntmps271 (by simp) ?_
    repeat' ((first|(apply AWP.go ok;rfl)|(apply z9 (cv);rfl;rfl)|((first|(apply z8 [0,2] [] [] (cd);rfl;(focus ((repeat' first|exact z4|apply z5)<;>rfl)))|(apply z8 [0] [] [] (ct);rfl;(focus ((repeat' first|exact z4|apply z5)<;>rfl))));rfl;rfl;rfl;rfl;rfl;(focus ((repeat' first|exact z15|apply z14)<;>first|exact z20 rfl rfl|(refine z25 ?_;((exact z6 fun _=>rfl)))));(exact .inl rfl)))<;>conv=>whnf)
    all_goals skip
    all_goals (refine RetS.lay [0] [] rfl rfl rfl ?_;refine RetS.done ?_ ?_<;>(repeat' (first|exact LocLe.refl _|exact F2.nil|apply F2.cons|apply ObjLe.box)))
  · obtain ⟨w,⟨lw,uw⟩,cw⟩:=z59 bs hb q 3 (by omega) (by omega) (by omega)
    refine ⟨leaf 2 w,q+1,⟨by rw [z87];omega,by omega,by omega⟩,?_⟩
    rw [(Bool.not_eq_true _).mp hv] at cv
    rw [Tree.arg_eq] at cv ct
    refine z10 z18 Tryz.func271 rfl rfl 15 Tryz.ntmps271 (by simp) ?_
    repeat' ((first|(apply AWP.go ok;rfl)|(apply z9 (cv);rfl;rfl)|((first|(apply z8 [0,2] [] [] (cd);rfl;(focus ((repeat' first|exact z4|apply z5)<;>rfl)))|(apply z8 [0] [] [] (ct);rfl;(focus ((repeat' first|exact z4|apply z5)<;>rfl)))|(apply z8 [0] [] [] (cw);rfl;(focus ((repeat' first|exact z4|apply z5)<;>rfl))));rfl;rfl;rfl;rfl;rfl;(focus ((repeat' first|exact z15|apply z14)<;>first|exact z20 rfl rfl|(refine z25 ?_;((exact z6 fun _=>rfl)))));(exact .inl rfl)))<;>conv=>whnf)
    all_goals skip
    all_goals (refine RetS.lay [0] [] rfl rfl rfl ?_;refine RetS.done ?_ ?_<;>(repeat' (first|exact LocLe.refl _|exact z53|exact F2.nil|apply F2.cons|apply ObjLe.box|apply z44)))
mutual
def subZ (t:Tree):Tree:=match t with
  | .mk k v l=>if k=2∧v=-1 then .mk 0 0 [] else .mk k v (z964 l)
def z964 (l:List Tree):List Tree:=match l with
  | []=>[]
  | t::r=>subZ t::z964 r
end
theorem z826 (l:List Tree):z964 l=l.map subZ:=by
  induction l with
  | nil=>simp [z964]
  | cons t l ih=>simp [z964,ih]
theorem subZ_sz (t:Tree):(subZ t).sz≤t.sz:=by
  induction t using Tree.ind with|h t ih=>?_
  cases t with
  | mk k v l =>
    rw [subZ]
    split
    · rw [z296];simp
    · rw [z826,z296,z296]
      simp only [Tree.kids] at ih
      have key:∀ l:List Tree,(∀ u∈l,(subZ u).sz≤u.sz)→((l.map subZ).map Tree.sz).sum≤(l.map Tree.sz).sum:=by
        intro l
        induction l with
        | nil=>intro _;simp
        | cons t l ihl =>
          intro ih
          have h1:=ih t (by simp)
          have h2:=ihl fun u hu=>ih u (by simp [hu])
          simp only [List.map_cons,List.sum_cons]
          omega
      have:=key l ih
      simp only [List.length_map]
      omega
def z738:AC:=.agg [.int 0,.int 0,.nils]
def ownT (t:Tree):AC:=.agg [.int t.kind,.int t.val,.sref 0 0 t.kids.length]
theorem z877:CallsA Tryz.prog 260 [z738,.int (-1),z738] [] (ownT (.mk 0 0 [])) [.cells 3 []]:=by
  refine z10 z18 Tryz.func260 rfl rfl 47 Tryz.ntmps260 (by simp) ?_
  repeat' (((apply AWP.go ok;rfl))<;>conv=>whnf)
  refine z90 (fun _:Nat=>([(6,.ptr 0 none 0),(7,.ptr 1 none 0),(8,.int 0),(3,.ptr 2 none 0)],[.cells 3 [[.int 0,.int 0,.nils]],.cells 3 [[.int 0,.int 0,.nils]],.cells 3 [[.int 0,.int 0,.nils]]])) (fun _=>True) (fun _=>0) 0 trivial ⟨[2,3,0],rfl,by decide,rfl,by repeat' (first|exact True.intro|exact ⟨rfl,rfl⟩|apply And.intro),by repeat' (first|exact True.intro|exact z24 rfl rfl|apply And.intro)⟩ ?_
  intro k hk
  repeat' (((apply AWP.go ok;rfl))<;>conv=>whnf)
  all_goals skip
  all_goals (refine RetS.lay [] [] rfl rfl rfl ?_;refine RetS.empty 3 ?_;refine RetS.done ?_ ?_<;>(repeat' (first|exact LocLe.refl _|exact z46|exact F2.nil|apply F2.cons|apply z44|apply ObjLe.mk)))
theorem z598 {f:FuncId} {args:List AC} {t:Tree} (h:CallsA Tryz.prog f args [] (ownT t) [.cells 3 (t.kids.map Tree.cs')]):CallsA Tryz.prog f args [] (z51 Tree.cs' t) []:=by
  rw [Tree.arg_eq]
  exact (by refine CallsA.settle (h) [] [0] rfl rfl rfl ?_ ?_<;>(repeat' (first|exact LocLe.refl _|exact F2.nil|apply F2.cons|((apply z45 rfl rfl rfl);(focus ((repeat ((exact z41 (fun _=>rfl) _)));done));(focus (((simp;done));done)))|apply z44)))
theorem z790 (t:Tree) (h:t.sz≤1000000):CallsA Tryz.prog 260 [z51 Tree.cs' t,.int (-1),z738] [] (ownT (subZ t)) [.cells 3 ((subZ t).kids.map Tree.cs')]:=by
  induction t using Tree.ind with|h t ih=>?_
  have hkl:t.kids.length≤1000000:=by rw [Tree.sz_eq] at h;omega
  have hks:∀ u∈t.kids,u.sz≤1000000:=fun u hu=>by
    have:=z409 Tree.sz hu
    rw [Tree.sz_eq] at h;omega
  rw [Tree.arg_eq t]
  obtain ⟨k,v,l⟩:=t
  simp only [Tree.kind,Tree.val,Tree.kids] at *
  rw [subZ]
  by_cases hz:k=2∧v=-1
  · obtain ⟨rfl,rfl⟩:=hz
    rw [if_pos ⟨rfl,rfl⟩]
    have c:=z877
    unfold z738 ownT at *
    refine z10 z18 Tryz.func260 rfl rfl 47 Tryz.ntmps260 (by simp) ?_
    repeat' ((first|(apply AWP.go ok;rfl)|(((apply z8 [] [] [3] (c);rfl;(focus ((repeat' exact z4)<;>fail))));rfl;rfl;rfl;rfl;rfl;(focus ((repeat' first|exact z15|apply z14)<;>(refine z25 ?_;(exact z37))));(exact .inl rfl)))<;>conv=>whnf)
    all_goals skip
    all_goals (refine RetS.lay [3] [] rfl rfl rfl ?_;refine RetS.done ?_ ?_<;>(repeat' (first|exact LocLe.refl _|exact F2.nil|apply F2.cons|((refine z13 rfl ?_ ?_);(focus ((repeat' (exact z37));done))))))
  · rw [if_neg hz,z826]
    have hcs:∀ (i:Nat) (hi:i < l.length) (hi2:i < (l.map subZ).length),CallsA Tryz.prog 260 [z51 Tree.cs' l[i],.int (-1),z738] [] (z51 Tree.cs' (l.map subZ)[i]) []:=fun i hi hi2=>by
      rw [List.getElem_map]
      exact z598 (ih _ (List.getElem_mem _) (hks _ (List.getElem_mem _)))
    have hll:(l.map subZ).length=l.length:=List.length_map ..
    generalize l.map subZ=L at *
    unfold z738 ownT at *
    simp only [Tree.kind,Tree.val,Tree.kids] at *
    rw [hll]
    refine z10 z18 Tryz.func260 rfl rfl 47 Tryz.ntmps260 (by simp) ?_
    by_cases h2:k=2
    all_goals
      repeat' ((first|(apply AWP.go ok;rfl)|((apply z7)<;>intro _))<;>conv=>whnf)
      all_goals first|(exfalso;omega)|skip
      refine AWP.reach (Reach.empty 3 rfl) ?_
      refine z64 (fun i:Nat=>([(1,.int (-1)),(3,.ptr 0 none 0),(5,.ptr 1 none 0),(6,.ptr 2 none 0),(7,.ptr 3 none 0),(8,.int i)],[.cells 3 [[.int k,.int v,lst 3 Tree.cs' l]],.cells 3 [[.int 0,.int 0,.nils]],.cells 3 [[.int 0,.int 0,.nils]],.cells 3 [[.int k,.int v,.sref 4 0 i]],.cells 3 ((L.take i).map Tree.cs')])) (fun i=>i≤l.length) (fun i=>l.length - i) 0 (by omega) (by refine SealW.reach [0,1,2,3,4] [] rfl rfl rfl rfl ?_ ?_<;>(repeat' (first|exact LocLe.refl _|exact z46|exact F2.nil|apply F2.cons|apply ObjLe.box|((refine z13 rfl ?_ ?_);(focus ((repeat' (exact z37));done)))|exact True.intro|apply And.intro))) ?_
      intro i hi
      by_cases hil:i < l.length
      · have hiL:i < L.length:=by omega
        have hc:=hcs i hil hiL
        repeat' ((first|(apply AWP.go ok;rfl)|(apply z34;kernel_rfl)|(apply And.intro;first|omega|(unfold inI;omega)|((try dsimp only);simp only [List.length_map,List.length_take,List.length_append,List.length_replicate,List.length_cons,List.length_nil];omega)|exact ⟨rfl,z21 rfl z30⟩)|(((with_reducible apply z11;omega));intro _)|((apply z7)<;>intro _)|(apply z9 (hc);rfl;rfl))<;>conv=>whnf)
        all_goals first|(exfalso;omega)|skip
        refine z23 (i+1) (by omega) (by omega) (by refine SealW.reach [0,1,2,3,6] [] rfl rfl rfl rfl ?_ ?_<;>(repeat' (first|exact LocLe.refl _|exact F2.nil|apply F2.cons|apply ObjLe.box|((refine z35 rfl ?_ ?_);(focus ((repeat' (first|exact z6 (fun _=>rfl)|apply z22));done)))|(refine z104 (by omega) (by omega) ?_)|exact True.intro|apply And.intro)))
      · have e:i=l.length:=by omega
        subst e
        rw [List.take_of_length_le (show L.length≤l.length by omega)]
        repeat' ((first|(apply AWP.go ok;rfl)|(apply And.intro;omega)|(((with_reducible apply z11;omega));intro _)|((apply z7)<;>intro _))<;>conv=>whnf)
        all_goals first|(exfalso;omega)|skip
        all_goals (refine RetS.lay [4] [] rfl rfl rfl ?_;refine RetS.done ?_ ?_<;>(repeat' (first|exact LocLe.refl _|exact F2.nil|apply F2.cons|exact z12 _|((refine z13 rfl ?_ ?_);(focus ((repeat' ((exact z6 (fun _=>rfl))));done))))))
end Go.Proofs.YtknlmbniicacmaaGreat

namespace Go.Proofs.YtknlmbniicacmaaGreat
open Go.Gl
attribute [local irreducible] z31 AWP z48 z52 z50 RetS z57
theorem z978 {w n n2:Nat} {α:Type} {f:α→List AC} {l:List α} {x:α} {e:List AC} (hn:n=l.length) (h2:n2=l.length+1) (h:F2 LocLe e (f x)):LocLe (.list w n2 (((l.map f).take n)++[e])) (.list w (l++[x]).length ((l++[x]).map f)):=by
  subst hn
  refine z80 (by simp [h2]) ?_
  rw [List.take_of_length_le (by simp),List.map_append]
  have:∀ (a:List (List AC)) {b c:List AC},F2 LocLe b c→F2 (F2 LocLe) (a++[b]) (a++[c]):=fun a b c h=>by
    induction a with
    | nil=>exact .cons h .nil
    | cons x a ih=>exact .cons (z267 x) ih
  exact this _ h
theorem z977 {n n2:Nat} {l:List Tree} {x:Tree} {e:List AC} (hn:n=l.length) (h2:n2=l.length+1) (h:F2 LocLe e (Tree.cs' x)):LocLe (.list 3 n2 (((l.map Tree.cs').take n)++[e])) (.list 3 (l++[x]).length ((l++[x]).map Tree.cs)):=by
  rw [Tree.cs_eq];exact z978 hn h2 h
set_option maxHeartbeats 1600000 in
theorem z489 (bs:List Int) (hb:BytesOk bs) (p:Int) (hp:few p) (t:Tree) (ht:t.sz≤1000):∃ (t' : Tree) (p' : Int),(t'.sz≤t.sz+1∧p≤p'∧p'≤p+2)∧CallsA Tryz.prog 206 [.ptr 0 none 0,z51 Tree.cs' t] [rdO bs p] (z51 Tree.cs' t') [rdO bs p']:=by
  have cs:=z790 t (by omega)
  have hsz:=subZ_sz t
  generalize subZ t=u at *
  have hul:u.kids.length≤1000:=by rw [Tree.sz_eq] at hsz;omega
  obtain ⟨v,⟨lv,uv⟩,cv⟩:=z59 bs hb p 40 (by omega) (by omega) (by omega)
  rw [Tree.arg_eq t]
  rw [Tree.arg_eq t] at cs
  unfold ownT z738 at cs
  by_cases h0:v=0
  · subst h0
    obtain ⟨k,mk,ck⟩:=z88 bs hb (p+1) (by omega) (by omega) [0,10,-1,1,2,3,4] (by decide) (by decide)
    refine ⟨.mk k u.val u.kids,p+1+1,⟨by rw [z296];rw [Tree.sz_eq] at hsz;omega,by omega,by omega⟩,?_⟩
    refine z10 z18 Tryz.func206 rfl rfl 35 Tryz.ntmps206 (by simp) ?_
    repeat' ((first|(apply AWP.go ok;rfl)|((first|(apply z8 [] [] [3] (cs);rfl;(focus ((repeat' exact z4)<;>fail)))|(apply z8 [0] [] [] (cv);rfl;(focus ((repeat' first|exact z4|apply z5)<;>rfl)))|(apply z8 [0,5] [] [] (ck);rfl;(focus ((repeat' first|exact z4|apply z5)<;>rfl))));rfl;rfl;rfl;rfl;rfl;(focus ((repeat' first|exact z15|apply z14)<;>first|exact z20 rfl rfl|(refine z25 ?_;((exact z6 fun _=>rfl)))));(exact .inl rfl)))<;>conv=>whnf)
    all_goals skip
    all_goals (refine RetS.lay [0] [3] rfl rfl rfl ?_;refine RetS.done ?_ ?_<;>(repeat' (first|exact LocLe.refl _|exact F2.nil|apply F2.cons|exact z355|apply ObjLe.box|((apply z45 rfl rfl rfl);(focus ((repeat ((exact z41 (fun _=>rfl) _)));done));(focus (((simp;done));done)))|apply z44|(apply z80;rfl))))
  by_cases h1:v=1
  · subst h1
    obtain ⟨k,mk,ck⟩:=z88 bs hb (p+1) (by omega) (by omega) [-1,4,3,9223372036854775807] (by decide) (by decide)
    refine ⟨.mk u.kind k u.kids,p+1+1,⟨by rw [z296];rw [Tree.sz_eq] at hsz;omega,by omega,by omega⟩,?_⟩
    refine z10 z18 Tryz.func206 rfl rfl 35 Tryz.ntmps206 (by simp) ?_
    repeat' ((first|(apply AWP.go ok;rfl)|((first|(apply z8 [] [] [3] (cs);rfl;(focus ((repeat' exact z4)<;>fail)))|(apply z8 [0] [] [] (cv);rfl;(focus ((repeat' first|exact z4|apply z5)<;>rfl)))|(apply z8 [0,5] [] [] (ck);rfl;(focus ((repeat' first|exact z4|apply z5)<;>rfl))));rfl;rfl;rfl;rfl;rfl;(focus ((repeat' first|exact z15|apply z14)<;>first|exact z20 rfl rfl|(refine z25 ?_;((exact z6 fun _=>rfl)))));(exact .inl rfl)))<;>conv=>whnf)
    all_goals skip
    all_goals (refine RetS.lay [0] [3] rfl rfl rfl ?_;refine RetS.done ?_ ?_<;>(repeat' (first|exact LocLe.refl _|exact F2.nil|apply F2.cons|exact z355|apply ObjLe.box|((apply z45 rfl rfl rfl);(focus ((repeat ((exact z41 (fun _=>rfl) _)));done));(focus (((simp;done));done)))|apply z44|(apply z80;rfl))))
  by_cases h2:v=2
  · subst h2
    refine ⟨.mk u.kind u.val (u.kids++[leaf 1 0]),p+1,⟨by rw [z296];rw [Tree.sz_eq] at hsz;simp [z87];omega,by omega,by omega⟩,?_⟩
    refine z10 z18 Tryz.func206 rfl rfl 35 Tryz.ntmps206 (by simp) ?_
    repeat' ((first|(apply AWP.go ok;rfl)|(apply And.intro;first|((try dsimp only);simp only [List.length_map,List.length_take,List.length_append,List.length_replicate,List.length_cons,List.length_nil];omega)|exact ⟨rfl,z21 rfl z30⟩)|((first|(apply z8 [] [] [3] (cs);rfl;(focus ((repeat' exact z4)<;>fail)))|(apply z8 [0] [] [] (cv);rfl;(focus ((repeat' first|exact z4|apply z5)<;>rfl))));rfl;rfl;rfl;rfl;rfl;(focus ((repeat' first|exact z15|apply z14)<;>first|exact z20 rfl rfl|(refine z25 ?_;((exact z6 fun _=>rfl)))));(exact .inl rfl)))<;>conv=>whnf)
    all_goals skip
    all_goals (refine RetS.lay [0] [6] rfl rfl rfl ?_;refine RetS.done ?_ ?_<;>(repeat' (first|exact LocLe.refl _|exact F2.nil|apply F2.cons|apply ObjLe.box|((apply z45 rfl rfl rfl);(focus ((repeat (first|exact z41 (fun _=>rfl) _|apply z176|apply z278|rfl));done));(focus (((simp;done));done)))|apply z44)))
    all_goals exact z977 rfl rfl (node_le' z53)
  by_cases h3:v=3
  · subst h3
    refine ⟨leaf 0 0,p+1,⟨by rw [z87];omega,by omega,by omega⟩,?_⟩
    refine z10 z18 Tryz.func206 rfl rfl 35 Tryz.ntmps206 (by simp) ?_
    repeat' ((first|(apply AWP.go ok;rfl)|((first|(apply z8 [] [] [3] (cs);rfl;(focus ((repeat' exact z4)<;>fail)))|(apply z8 [0] [] [] (cv);rfl;(focus ((repeat' first|exact z4|apply z5)<;>rfl))));rfl;rfl;rfl;rfl;rfl;(focus ((repeat' first|exact z15|apply z14)<;>first|exact z20 rfl rfl|(refine z25 ?_;((exact z6 fun _=>rfl)))));(exact .inl rfl)))<;>conv=>whnf)
    all_goals skip
    all_goals (refine RetS.lay [0] [] rfl rfl rfl ?_;refine RetS.done ?_ ?_<;>(repeat' (first|exact LocLe.refl _|exact z53|exact F2.nil|apply F2.cons|apply ObjLe.box|apply z44)))
  · refine ⟨.mk u.kind u.val u.kids,p+1,⟨by rw [z296];rw [Tree.sz_eq] at hsz;omega,by omega,by omega⟩,?_⟩
    refine z10 z18 Tryz.func206 rfl rfl 35 Tryz.ntmps206 (by simp) ?_
    repeat' ((first|(apply AWP.go ok;rfl)|(apply And.intro;omega)|((apply z7)<;>intro _)|((first|(apply z8 [] [] [3] (cs);rfl;(focus ((repeat' exact z4)<;>fail)))|(apply z8 [0] [] [] (cv);rfl;(focus ((repeat' first|exact z4|apply z5)<;>rfl))));rfl;rfl;rfl;rfl;rfl;(focus ((repeat' first|exact z15|apply z14)<;>first|exact z20 rfl rfl|(refine z25 ?_;((exact z6 fun _=>rfl)))));(exact .inl rfl)))<;>conv=>whnf)
    all_goals first|(exfalso;omega)|skip
    all_goals (refine RetS.lay [0] [3] rfl rfl rfl ?_;refine RetS.done ?_ ?_<;>(repeat' (first|exact LocLe.refl _|exact F2.nil|apply F2.cons|exact z355|apply ObjLe.box|((apply z45 rfl rfl rfl);(focus ((repeat ((exact z41 (fun _=>rfl) _)));done));(focus (((simp;done));done)))|apply z44|(apply z80;rfl))))
end Go.Proofs.YtknlmbniicacmaaGreat

