/- A part of the proofs over this program: T183, T113, T184, T185, T64, T65, T66, T154, T155, T156, T157, T158, T159, T160, T94W, T29, T94K, T161, T186, T187. -/
import Derived.Test.YtahhobgjcfionaaGreatG0
import Derived.Test.YtahhobgjcfionaaGreatG1
import Derived.Test.YtahhobgjcfionaaGreatG2
import Derived.Test.YtahhobgjcfionaaGreatG3
import Derived.Test.YtahhobgjcfionaaGreatP0
import Derived.Test.YtahhobgjcfionaaGreatP1
import Derived.Test.YtahhobgjcfionaaGreatP2
import Derived.Test.YtahhobgjcfionaaGreatP3
import Derived.Test.YtahhobgjcfionaaGreatP4
import Derived.Test.YtahhobgjcfionaaGreatP5
import Derived.Test.YtahhobgjcfionaaGreatRows
import Derived.WalkKit
import Derived.ProofKit
import Derived.Deep.DeepHandedRow
import Derived.Lib.LaidTab
set_option linter.all false
namespace Go.Proofs.YtahhobgjcfionaaGreat
open Go.Gl
attribute [local irreducible] z18 AWP z34 z39 z38 RetS z43
def inM (Q:List Int) (i:Nat):Bool:=decide ((i:Int)∈Q)
theorem inM_upd (Q:List Int) (w:Nat):inM (Q++[(w:Int)])=upd (inM Q) w true:=by
 funext j
 by_cases h:j=w
 ·subst h;rw [z27];unfold inM;simp
 ·rw [z48 _ _ h];unfold inM;congr 1
  have:¬ (j:Int)=w:=by omega
  simp [this]
theorem inM_nil:inM []=fun _=>false:=by funext j;simp [inM]
@[reducible] def findF:AC:=.fn (.func 169) [] [.ptr 0 none 0,.ptr 2 none 0]
@[reducible] def z1046 (N:Nat) (Q:List Int):List AObj:=[.cells 1 [[.sref 1 0 N]],.cells 1 ((fnB N (inM Q)).map enB),.cells 1 [[.own 1 (Q.map enI)]]]
set_option maxHeartbeats 3200000 in
theorem z723 (N : Nat) (hN : N ≤ 100000) (Q : List Int) (hQ : Q.length ≤ 100000) (v : Int) (hv : 0 ≤ v ∧ v < N) :
    CallsA Tryz.prog 169 [.int v,.ptr 0 none 0,.ptr 2 none 0] (z1046 N Q) (.tup []) (z1046 N (z189 Q v)):=by
  obtain ⟨w,rfl⟩:∃ w:Nat,v=w:=⟨v.toNat,by omega⟩
  have hw:w < N:=by omega
  have g1:=z1092 (inM Q) hw
  have l1:=z1091 N (inM Q)
  unfold z189
  by_cases h:(w:Int)∈Q
  · rw [if_pos h]
    have e:inM Q w=true:=by unfold inM;simp [h]
    rw [e] at g1
    refine z7 z14 Tryz.func169 rfl rfl 16 Tryz.ntmps169 (by simp) ?_
    repeat' ((first|(apply y4 ok;rfl)|(refine z16 (i:=w) rfl g1 ?_)|(apply y42;omega))<;>conv=>whnf)
    all_goals (refine rsD [0,1,2] [] rfl ?_;(repeat' first|exact y84 _|exact z10 _|apply y85|refine z9 rfl (z5 (fun _=>rfl)) ?_|constructor))
  · rw [if_neg h]
    have e:inM Q w=false:=by unfold inM;simp [h]
    rw [e] at g1
    have e1:=z881 (N:=N) (u:=w) (inM Q) true
    rw [← inM_upd] at e1
    have e2:(List.map enI Q).take (List.map enI Q).length++[enI (w:Int)]=(Q++[(w:Int)]).map enI:=by
      rw [y54];simp
    refine z7 z14 Tryz.func169 rfl rfl 16 Tryz.ntmps169 (by simp) ?_
    repeat' ((first|((fail_if_success apply z126 2);(fail_if_success apply z94 2);apply y4 ok;rfl)|(refine z16 (i:=w) rfl g1 ?_)|(apply y42;omega))<;>conv=>whnf)
    all_goals
      refine y83 (Gl.Reach.expose 2 0 0 rfl rfl rfl (z142 (fun _=>rfl) _) rfl) ?_
      conv=>whnf
      repeat' ((first|(apply y4 ok;rfl)|(apply y42;first|((try dsimp only);simp only [y48,y47,y46,y45,y56,y57];omega)|exact ⟨rfl,z20 rfl z28⟩))<;>conv=>whnf)
      refine Gl.RetS.absorb 2 5 0 0 rfl rfl rfl rfl (by simp) rfl (z90 (fun e he=>(z5 (fun _=>rfl)) e (List.mem_of_mem_take he)) (z197 rfl z25)) ?_
      conv=>whnf
      (refine rsD [0,1,2] [] rfl ?_;(repeat' first|exact y84 _|apply y85|refine z65 rfl (z5 (fun _=>rfl)) ?_|constructor))
      all_goals first|(refine z53 ?_;exact e1)|exact y9 (congrArg (AC.own 1) e2)
set_option maxHeartbeats 6400000 in
theorem z1041 (rows : List (List Int)) (ini : List Int) (hr : ∀ r ∈ rows, InN rows.length r) (hi : InN rows.length ini) (hN : rows.length ≤ 100000) (hrl : ∀ r ∈ rows, r.length ≤ 1000000000) (hil : ini.length ≤ 1000000000) :
    CallsA Tryz.prog 100 [lst 1 encL rows,ints ini] [] (.sref 0 0 (bfsL rows ini).length) [.cells 1 ((bfsL rows ini).map enI)]:=by
  have hvl:∀ l:List Int,InN rows.length l→(z89 [] l).length≤100000:=fun l hl=>by
    have:=z152 rows.length (z89 [] l) (z200 (by simp)) (z334 (fun x hx=>by cases hx) hl)
    omega
  refine z7 z14 Tryz.func100 rfl rfl 50 Tryz.ntmps100 (by simp) ?_
  repeat' ((first|(apply y4 ok;rfl)|(apply y42;(dsimp only;omega)))<;>conv=>whnf)
  refine z63 (fun i:Nat=>([(0,lst 1 encL rows),(6,.ptr 2 none 0),(7,findF),(17,ints ini),(18,.int ini.length),(19,.int i)],z1046 rows.length (z89 [] (ini.take i)))) (fun i=>i≤ini.length) (fun i=>ini.length - i) 0 (y52 _) (by refine swR [1,0,2] [] rfl rfl ?_;(repeat' first|exact y84 _|apply y85|refine z9 rfl (z78 rfl) ?_|constructor)<;>(first|exact z358|(refine z53 ?_;show _=(fnB rows.length (inM [])).map enB;rw [inM_nil];exact z880 _))) ?_
  intro i hil1
  by_cases hil2:i < ini.length
  · have gk:(ini.map enI)[i]?=some (enI ini[i]):=by rw [y50,y44 hil2];rfl
    have hv:=hi _ (y43 hil2)
    have hQl:=hvl (ini.take i) fun x hx=>hi x (List.mem_of_mem_take hx)
    have e1:=z457 (out:=[]) hil2
    generalize ini[i]=v at *
    have cf:=z723 rows.length hN (z89 [] (ini.take i)) hQl v hv
    rw [← e1] at cf
    repeat' ((first|(apply y4 ok;rfl)|(refine z16 (i:=i) rfl gk ?_)|(apply y42;first|omega|(unfold inI;omega))|((apply z6)<;>intro _)|(apply z128 [0,1,2] [] cf;rfl;(focus ((repeat' first|exact z40|apply z54)<;>first|rfl|(refine z73 rfl ?_;((exact z5 fun _=>rfl)))));rfl;(focus ((repeat' first|exact z15|apply z12)<;>first|exact z44 rfl rfl|(refine z19 ?_;((exact z5 fun _=>rfl)))))))<;>conv=>whnf)
    all_goals try (exfalso;omega)
    all_goals refine z26 (i+1) hil2 (by omega) (by refine swR [0,1,2] [] rfl rfl ?_;(repeat' first|exact y84 _|exact z10 _|apply y85|refine z9 rfl (z5 (fun _=>rfl)) ?_|constructor))
  obtain rfl:i=ini.length:=by omega
  rw [y54]
  repeat' ((first|(apply y4 ok;rfl)|(apply y42;omega)|(((with_reducible apply z11;omega));intro _)|((apply z6)<;>intro _))<;>conv=>whnf)
  all_goals try (exfalso;omega)
  refine z63 (fun i:Nat=>([(0,lst 1 encL rows),(6,.ptr 2 none 0),(7,findF),(10,.int i)],z1046 rows.length (bfs rows ini i))) (fun i=>i≤rows.length) (fun i=>rows.length - i) 0 (y52 _) (by refine swR [0,1,2] [] rfl rfl ?_;(repeat' first|exact y84 _|exact z10 _|apply y85|refine z9 rfl (z5 (fun _=>rfl)) ?_|constructor)) ?_
  intro i hi1
  have hQl:=z832 hr hi i
  have hQi:=z743 hr hi i
  refine y83 (Gl.Reach.expose 2 0 0 rfl rfl rfl (z142 (fun _=>rfl) _) rfl) ?_
  by_cases hi2:i < (bfs rows ini i).length
  · have hx:=hQi _ (y43 hi2)
    have gx:((bfs rows ini i).map enI)[i]?=some (enI (bfs rows ini i)[i]):=by rw [y50,y44 hi2];rfl
    have hnx:bfs rows ini (i+1)=z89 (bfs rows ini i) (rows.getD ((bfs rows ini i)[i]).toNat []):=by rw [bfs,dif_pos hi2]
    have hnd:=z742 (rows:=rows) (ini:=ini) i
    generalize hQ' : bfs rows ini (i+1)=Q' at *
    generalize (bfs rows ini i)[i]=x at *
    generalize hQ:bfs rows ini i=Q at *
    obtain ⟨u,rfl⟩:∃ u:Nat,x=u:=⟨x.toNat,by omega⟩
    rw [y75] at hnx
    have hu:u < rows.length:=by omega
    have gr:=z479 hu
    have hrow:=z221 hr (u:Int)
    rw [y75] at hrow
    have hrowl:(rows.getD u []).length≤1000000000:=by rw [z17 hu];exact hrl _ (y43 _)
    generalize rows.getD u []=row at *
    repeat' ((first|(apply y4 ok;rfl)|(refine z16 (i:=i) rfl gx ?_)|(refine z16 (i:=u) rfl gr ?_)|(apply y42;omega)|((apply z6)<;>intro _))<;>conv=>whnf)
    all_goals first|(exfalso;simp at *;omega)|skip
    all_goals
      refine y83 (Gl.Reach.absorb 2 3 0 0 rfl rfl rfl rfl (by simp) rfl (z5 fun _=>rfl) rfl) ?_
      refine z63 (fun j:Nat=>([(0,lst 1 encL rows),(6,.ptr 2 none 0),(7,findF),(10,.int i),(39,ints row),(40,.int row.length),(41,.int j)],z1046 rows.length (z89 Q (row.take j)))) (fun j=>j≤row.length) (fun j=>row.length - j) 0 (y52 _) (by refine swR [0,1,2] [] rfl rfl ?_;(repeat' first|exact y84 _|exact z10 _|apply y85|refine z9 rfl (z5 (fun _=>rfl)) ?_|constructor)) ?_
      intro j hj
      by_cases hj2:j < row.length
      · have gj:(row.map enI)[j]?=some (enI row[j]):=by rw [y50,y44 hj2];rfl
        have hv:=hrow _ (y43 hj2)
        have hWl:(z89 Q (row.take j)).length≤100000:=by
          have:=z152 rows.length (z89 Q (row.take j)) (z200 hnd) (z334 hQi fun x hx=>hrow x (List.mem_of_mem_take hx))
          omega
        have e1:=z457 (out:=Q) hj2
        generalize row[j]=v at *
        have cf:=z723 rows.length hN (z89 Q (row.take j)) hWl v hv
        rw [← e1] at cf
        repeat' ((first|(apply y4 ok;rfl)|(refine z16 (i:=j) rfl gj ?_)|(apply y42;first|omega|(unfold inI;omega))|((apply z6)<;>intro _)|(apply z128 [0,1,2] [] cf;rfl;(focus ((repeat' first|exact z40|apply z54)<;>first|rfl|(refine z73 rfl ?_;((exact z5 fun _=>rfl)))));rfl;(focus ((repeat' first|exact z15|apply z12)<;>first|exact z44 rfl rfl|(refine z19 ?_;((exact z5 fun _=>rfl)))))))<;>conv=>whnf)
        all_goals try (exfalso;omega)
        all_goals refine z26 (j+1) hj2 (by omega) (by refine swR [0,1,2] [] rfl rfl ?_;(repeat' first|exact y84 _|exact z10 _|apply y85|refine z9 rfl (z5 (fun _=>rfl)) ?_|constructor))
      obtain rfl:j=row.length:=by omega
      rw [y54,← hnx]
      repeat' ((first|(apply y4 ok;rfl)|(apply y42;first|omega|(unfold inI;omega))|(((with_reducible apply z11;omega));intro _)|((apply z6)<;>intro _))<;>conv=>whnf)
      all_goals try (exfalso;omega)
      all_goals refine z26 (i+1) (by omega) (by omega) ?_
      all_goals dsimp only
      all_goals rw [hQ']
      all_goals exact (by refine swR [0,1,2] [] rfl rfl ?_;(repeat' first|exact y84 _|exact z10 _|apply y85|refine z9 rfl (z5 (fun _=>rfl)) ?_|constructor))
  · have hE:=bfsL_end hr hi (i:=i) (by omega) hi1
    rw [← hE]
    repeat' ((first|(apply y4 ok;rfl)|(apply y42;omega)|((apply z6)<;>intro _))<;>conv=>whnf)
    all_goals first|(exfalso;simp at *;omega)|skip
    all_goals (refine rsD [3] [] rfl ?_;(repeat' first|exact z10 _|(refine z49 ?_;((simp;done)))|refine z9 rfl (z5 (fun _=>rfl)) ?_|constructor))
theorem swp_map (l:List Int) (i j:Nat):((l.map enI).set i (enI (l.getD j 0))).set j (enI (l.getD i 0))=(swp l i j).map enI:=by
 unfold swp;rw [List.map_set,List.map_set]
set_option maxHeartbeats 1600000 in
theorem z555 (l:List Int) (h1:1≤l.length) (h2:l.length≤1048576):CallsA Tryz.prog 207 [.sref 0 0 l.length] [.cells 1 (l.map enI)] (.tup []) [.cells 1 ((rvs l).map enI)]:=by
 have hR:revG l.length 0 (l.length - 1) l=rvs l:=rfl
 generalize rvs l=R at *
 generalize hn:l.length=n at *
 refine z7 z14 Tryz.func207 rfl rfl 28 Tryz.ntmps207 (by simp) ?_
 repeat' ((first|(apply y4 ok;rfl)|(apply y42;(unfold inI;omega)))<;>conv=>whnf)
 refine z63 (fun x:Nat×Nat×List Int=>([(0,.sref 0 0 n),(2,.int x.1),(3,.int x.2.1)],[.cells 1 (x.2.2.map enI)])) (fun x=>x.1≤n∧x.2.1 < n∧x.2.2.length=n∧revG (n - x.1) x.1 x.2.1 x.2.2=R) (fun x=>n - x.1) (0,n - 1,l) ⟨by simp,by show n - 1 < n;omega,hn,hR⟩ (by refine swR [0] [] rfl rfl ?_;(repeat' first|exact y84 _|exact z10 _|refine z9 rfl (z5 (fun _=>rfl)) ?_|constructor)<;>((rw [show ((n - 1:Nat):Int)=(n:Int) - 1 by omega];exact y84 _))) ?_
 rintro ⟨i,j,l'⟩ ⟨i1,i2,i3,i4⟩
 dsimp only at i1 i2 i3 i4 ⊢
 by_cases hij:i < j
 ·rw [show n - i=(n - (i+1))+1 by omega,revG,if_pos hij] at i4
  have gi:(l'.map enI)[i]?=some (enI (l'.getD i 0)):=by rw [y50,y44 (by omega),z17 (by omega)];rfl
  have gj:(l'.map enI)[j]?=some (enI (l'.getD j 0)):=by rw [y50,y44 (by omega),z17 (by omega)];rfl
  have gj2:((l'.map enI).set i (enI (l'.getD j 0)))[j]?=some (enI (l'.getD j 0)):=by rw [List.getElem?_set_ne (by omega)];exact gj
  have es:=swp_map l' i j
  repeat' ((first|(apply y4 ok;rfl)|(apply z30;kernel_rfl)|(refine z16 (i:=i) rfl gi ?_)|(refine z16 (i:=j) rfl gj ?_)|(refine z16 (i:=j) rfl gj2 ?_)|(apply y42;first|omega|(unfold inI;omega))|((apply z6)<;>intro _))<;>conv=>whnf)
  all_goals try (exfalso;omega)
  all_goals refine z26 (i+1,j - 1,swp l' i j) ⟨by show i+1≤n;omega,by show j - 1 < n;omega,by show (swp l' i j).length=n;simp [swp,i3],i4⟩ (by show n - (i+1) < n - i;omega) (by refine swR [0] [] rfl rfl ?_;(repeat' first|exact y84 _|((refine z65 rfl ?_ ?_);(focus ((repeat' (first|exact z5 (fun _=>rfl)|(refine z1094 ?_ _ rfl)));done)))|constructor)<;>(first|(rw [show ((j - 1:Nat):Int)=(j:Int) - 1 by omega];exact y84 _)|exact z53 es))
 ·have:revG (n - i) i j l'=l':=by cases n - i<;>simp [revG,hij]
  rw [this] at i4
  subst i4
  repeat' ((first|(apply y4 ok;rfl)|(apply y42;omega)|(((apply z11;omega));intro _)|((apply z6)<;>intro _))<;>conv=>whnf)
  all_goals try (exfalso;omega)
  all_goals (refine rsD [0] [] rfl ?_;(repeat' first|exact y84 _|exact z10 _|refine z9 rfl (z5 (fun _=>rfl)) ?_|constructor))
theorem z407 {N w:Nat} (Q P:List Int) (hw:w < N):((frm N Q P).map enI)[w]?=some (enI (if (w:Int)∈Q then P.getD w 0 else -2)):=by
 unfold frm
 rw [y50,y50,List.getElem?_range hw];rfl
theorem z448 {N w:Nat} {Q P:List Int} {u:Int} (hw:w < N) (hP:P.length=N):((frm N Q P).map enI).set w (enI u)=(frm N (Q++[(w:Int)]) (P.set w u)).map enI:=by
 have:=frm_set (N:=N) (Q:=Q) (P:=P) (v:=(w:Int)) (u:=u) ⟨by omega,by omega⟩ hP
 rw [y75] at this
 rw [← this,List.map_set]
set_option maxHeartbeats 12800000 in
theorem z608 (rows : List (List Int)) (ini : List Int) (hr : ∀ r ∈ rows, InN rows.length r) (hi : InN rows.length ini) (hn : ini.Nodup) (hN : rows.length ≤ 100000) (hrl : ∀ r ∈ rows, r.length ≤ 1000000000) (G : Int → Bool) (f : FuncId) (c1 : List AC) (hf : ∀ x : Int, 0 ≤ x → x < rows.length → CallsA Tryz.prog f (.int x :: [.pt c1]) [] (.bool (G x)) []) :
    CallsA Tryz.prog 141 [lst 1 encL rows,ints ini,.fn (.func f) [] [.pt c1]] [] (.sref 0 0 (shL rows ini G).length) [.cells 1 ((shL rows ini G).map enI)]:=by
  have hil:ini.length≤100000:=by have:=z152 rows.length ini hn hi;omega
  refine z7 z14 Tryz.func141 rfl rfl 99 Tryz.ntmps141 (by simp) ?_
  repeat' ((first|(apply y4 ok;rfl)|(apply y42;(dsimp only;omega)))<;>conv=>whnf)
  obtain ⟨qm,hqm⟩:∃ qm:Nat→Nat→Int,qm=fun i j=>if j < i then -2 else 0:=⟨_,rfl⟩
  have q0:qm 0=fun _=>0:=by rw [hqm];rfl
  have qE:(fnL rows.length (qm rows.length)).map enI=(frm rows.length [] (List.replicate rows.length (-1))).map enI:=by
    rw [z1087]
    congr 1
    apply y73 (by simp [fnL])
    intro i h1 h2
    rw [z636,hqm]
    have hi' : i < rows.length:=by rw [z113] at h1;exact h1
    dsimp only
    rw [if_pos hi'];simp
  have qS:∀ i,qm (i+1)=upd (qm i) i (-2):=fun i=>by
    funext j
    by_cases h:j=i
    · subst h;rw [z27,hqm];dsimp only;rw [if_pos (by omega)]
    · rw [z48 _ _ h,hqm];dsimp only;split<;>split<;>first|rfl|omega
  clear hqm
  refine z63 (fun i:Nat=>([(0,lst 1 encL rows),(1,ints ini),(2,.fn (.func f) [] [.pt c1]),(7,.sref 0 0 rows.length),(21,.int rows.length),(22,.int i)],[.cells 1 ((fnL rows.length (qm i)).map enI)])) (fun i=>i≤rows.length) (fun i=>rows.length - i) 0 (y52 _) (by refine swR [0] [] rfl rfl ?_;(repeat' first|exact y84 _|refine z9 rfl (z78 rfl) ?_|constructor)<;>((refine z53 ?_;rw [q0];exact z295 _))) ?_
  intro i hi1
  by_cases hi2:i < rows.length
  · have g1:=z171 (qm i) hi2
    have l1:=z113 rows.length (qm i)
    have e1:=z146 (N:=rows.length) (u:=i) (qm i) (-2)
    rw [← qS] at e1
    repeat' ((first|(apply y4 ok;rfl)|(refine z16 (i:=i) rfl g1 ?_)|(apply y42;first|omega|(unfold inI;omega))|((apply z6)<;>intro _))<;>conv=>whnf)
    all_goals try (exfalso;omega)
    all_goals refine z26 (i+1) hi2 (by omega) (by refine swR [0] [] rfl rfl ?_;(repeat' first|exact y84 _|refine z65 rfl (z5 (fun _=>rfl)) ?_|constructor)<;>((refine z53 ?_;exact e1)))
  obtain rfl:i=rows.length:=by omega
  rw [qE]
  clear qE qS q0
  repeat' ((first|(apply y4 ok;rfl)|(apply y42;omega)|(((apply z11;omega));intro _)|((apply z6)<;>intro _))<;>conv=>whnf)
  all_goals try (exfalso;omega)
  refine y83 (y86 1 rfl) ?_
  have hrep:(List.replicate rows.length (-1:Int)).length=rows.length:=by simp
  have hrs:∀ w,(List.replicate rows.length (-1:Int)).set w (-1)=List.replicate rows.length (-1):=fun w=>by
    apply y73 (by simp)
    intro i h1 h2
    rw [List.getElem_set]
    split<;>simp
  have hS0:(frm rows.length ini (List.replicate rows.length (-1)))=frm rows.length (srS rows ini 0).1 (srS rows ini 0).2:=rfl
  generalize List.replicate rows.length (-1:Int)=P0 at *
  refine z63 (fun k:Nat=>([(0,lst 1 encL rows),(2,.fn (.func f) [] [.pt c1]),(7,.sref 0 0 rows.length),(9,.sref 1 0 (ini.take k).length),(29,ints ini),(30,.int ini.length),(31,.int k)],[.cells 1 ((frm rows.length (ini.take k) P0).map enI),.cells 1 ((ini.take k).map enI)])) (fun k=>k≤ini.length) (fun k=>ini.length - k) 0 (y52 _) (by refine swR [0,1] [] rfl rfl ?_;(repeat' first|exact y84 _|exact z42|exact z10 _|((refine z9 rfl ?_ ?_);(focus ((repeat' (first|exact z25|exact z5 (fun _=>rfl)));done)))|constructor)) ?_
  intro k hk
  by_cases hk2:k < ini.length
  · have gk:(ini.map enI)[k]?=some (enI ini[k]):=by rw [y50,y44 hk2];rfl
    have hv:=hi _ (y43 hk2)
    have et:ini.take (k+1)=ini.take k++[ini[k]]:=y49 hk2
    have htl:(ini.take k).length≤100000:=by rw [y47];omega
    generalize hQ' : ini.take (k+1)=Q' at *
    generalize hQ:ini.take k=Q at *
    generalize ini[k]=v at *
    obtain ⟨w,rfl⟩:∃ w:Nat,v=w:=⟨v.toNat,by omega⟩
    have hw:w < rows.length:=by omega
    have g1:=z407 Q P0 hw
    have l1:=z406 rows.length Q P0
    have e1:=z448 (Q:=Q) (u:=-1) hw hrep
    rw [hrs,← et] at e1
    subst et
    repeat' ((first|(apply y4 ok;rfl)|(refine z16 (i:=k) rfl gk ?_)|(refine z16 (i:=w) rfl g1 ?_)|(apply y42;first|omega|(unfold inI;omega)|((try dsimp only);simp only [y48,y47,y46,y45,y56,y57];omega)|exact ⟨rfl,z20 rfl z28⟩)|((apply z6)<;>intro _))<;>conv=>whnf)
    all_goals try (exfalso;omega)
    all_goals refine z26 (k+1) hk2 (by omega) ?_
    all_goals dsimp only
    all_goals rw [hQ']
    all_goals exact (by refine swR [0,3] [] rfl rfl ?_;(repeat' first|exact y84 _|(refine z49 ?_;((simp;done)))|((first|refine z32 rfl ?_ ?_|refine z65 rfl ?_ ?_);(focus ((repeat' (first|exact z5 (fun _=>rfl)|apply z21));done)))|(refine z75 ?_ ?_;(focus (omega)))|constructor)<;>((refine z53 ?_;exact e1)))
  obtain rfl:k=ini.length:=by omega
  rw [y54,hS0]
  repeat' ((first|(apply y4 ok;rfl)|(apply y42;omega)|((first|(with_reducible apply z11;omega)|(apply z11;omega));intro _)|((apply z6)<;>intro _))<;>conv=>whnf)
  all_goals try (exfalso;omega)
  refine z63 (fun i:Nat=>([(0,lst 1 encL rows),(2,.fn (.func f) [] [.pt c1]),(7,.sref 0 0 rows.length),(9,.sref 1 0 (srS rows ini i).1.length),(12,.int i)],[.cells 1 ((frm rows.length (srS rows ini i).1 (srS rows ini i).2).map enI),.cells 1 ((srS rows ini i).1.map enI)])) (fun i=>i≤rows.length∧∀ k (_:k < i) (h:k < (srS rows ini i).1.length),G ((srS rows ini i).1[k])=false) (fun i=>rows.length+1 - i) 0 ⟨y52 _,fun k h=>by omega⟩ (by refine swR [0,1] [] rfl rfl ?_;(repeat' first|exact y84 _|exact z10 _|refine z9 rfl (z5 (fun _=>rfl)) ?_|constructor)<;>(fail)) ?_
  rintro i ⟨hi1,hno⟩
  have hJ:=z310 hr hi hn i
  have hQl:=z600 hr hi hn i
  by_cases hi2:i < (srS rows ini i).1.length
  · have hx:=hJ.inn _ (y43 hi2)
    have cf:=hf _ hx.1 hx.2
    have gx:((srS rows ini i).1.map enI)[i]?=some (enI (srS rows ini i).1[i]):=by rw [y50,y44 hi2];rfl
    have hnx:srS rows ini (i+1)=visPs (srS rows ini i).1[i] (srS rows ini i) (rows.getD ((srS rows ini i).1[i]).toNat []):=by rw [srS,dif_pos hi2]
    have hfnd:=fun h=>z677 hr hi hn (G:=G) hi2 h (fun k hk=>hno k hk (by omega))
    have hpre:=z335 (srS rows ini i).1[i] (rows.getD ((srS rows ini i).1[i]).toNat []) (srS rows ini i)
    by_cases hG:G (srS rows ini i).1[i]=true
    · rw [hfnd hG,z830,y63]
      have hq0:∃ k,∃ h:k < (srS rows ini i).1.length,(srS rows ini i).1[k]=(srS rows ini i).1[i]∧k≤rows.length:=⟨i,hi2,rfl,hi1⟩
      rw [hG] at cf
      clear hfnd hnx hpre hno
      generalize hS:srS rows ini i=S at *
      obtain ⟨Q,P⟩:=S
      dsimp only at *
      have hi4:i < Q.length:=hi2
      generalize Q[i]=x at *
      repeat' ((first|(apply y4 ok;rfl)|(refine z16 (i:=i) rfl gx ?_)|(apply y42;omega)|((apply z6)<;>intro _)|(apply z4 (cf);rfl;rfl))<;>conv=>whnf)
      all_goals try (exfalso;omega)
      all_goals
        refine y83 (y86 1 rfl) ?_
        have hB1:=z1111 P rows.length x
        generalize hB:chn P rows.length x=B at *
        refine z63 (fun y:Nat×List Int×Int=>([(7,.sref 0 0 rows.length),(13,.int y.2.2),(14,.sref 1 0 y.2.1.length)],[.cells 1 ((frm rows.length Q P).map enI),.cells 1 (y.2.1.map enI)])) (fun y=>y.2.1.length+y.1≤rows.length+1∧((0≤y.2.2∧y.2.1++chn P (y.1 - 1) y.2.2=B∧1≤y.1∧∃ k,∃ h:k < Q.length,Q[k]=y.2.2∧k+1≤y.1)∨(y.2.2=-1∧y.2.1=B))) (fun y=>y.1+(if 0≤y.2.2 then 1 else 0)) (rows.length+1,[],x) ⟨by simp,.inl ⟨hx.1,by simpa using hB,by omega,by obtain ⟨k,h,h1,h2⟩:=hq0;exact ⟨k,h,h1,by omega⟩⟩⟩ (by refine swR [0,2] [] rfl rfl ?_;(repeat' first|exact y84 _|exact z42|exact z10 _|((refine z9 rfl ?_ ?_);(focus ((repeat' (first|exact z25|exact z5 (fun _=>rfl)));done)))|constructor)) ?_
        rintro ⟨fu,ac,u⟩ ⟨q1,q2⟩
        dsimp only at q1 q2 ⊢
        rcases q2 with ⟨q2,q3,q4,k,hk,q5,q6⟩|⟨rfl,rfl⟩
        · have huN:=hJ.inn u (q5 ▸ y43 hk)
          obtain ⟨w,rfl⟩:∃ w:Nat,u=w:=⟨u.toNat,by omega⟩
          have hw:w < rows.length:=by omega
          have gw:=z407 Q P hw
          rw [if_pos (q5 ▸ y43 hk)] at gw
          have lw:=z406 rows.length Q P
          have hp:=hJ.pre k hk
          rw [q5,y75] at hp
          dsimp only at hp
          obtain ⟨fu,rfl⟩:∃ m,fu=m+1:=⟨fu - 1,by omega⟩
          rw [Nat.add_sub_cancel] at q3
          have hnext:P.getD w 0=-1∧ac++[(w:Int)]=B∨(0≤P.getD w 0∧(ac++[(w:Int)])++chn P (fu - 1) (P.getD w 0)=B∧1≤fu∧∃ k,∃ h:k < Q.length,Q[k]=P.getD w 0∧k+1≤fu):=by
            rcases hp with hp|⟨j,hj,hjk,hp⟩
            · left
              refine ⟨hp,?_⟩
              rw [← q3]
              cases fu with
              | zero=>rfl
              | succ fu =>
                rw [chn,y75,if_neg (by omega)]
            · right
              have:=hJ.inn _ (y43 hj)
              refine ⟨by omega,?_,by omega,j,hj,hp.symm,by omega⟩
              obtain ⟨fu,rfl⟩:∃ m,fu=m+1:=⟨fu - 1,by omega⟩
              rw [chn,y75,if_pos (by omega)] at q3
              rw [← q3]
              simp
          have hvb : -1≤P.getD w 0∧P.getD w 0 < rows.length:=by
            rcases hnext with ⟨h,_⟩|⟨h,_,_,j,hj,hp2,_⟩
            · omega
            · have:=hJ.inn _ (y43 hj)
              omega
          clear hp
          generalize P.getD w 0=v at *
          repeat' ((first|(apply y4 ok;rfl)|(refine z16 (i:=w) rfl gw ?_)|(apply y42;first|omega|((try dsimp only);simp only [y48,y47,y46,y45,y56,y57];omega)|exact ⟨rfl,z20 rfl z28⟩))<;>conv=>whnf)
          all_goals refine z26 (fu,ac++[(w:Int)],v) ⟨by simp only [y46,List.length_singleton];omega,?_⟩ ?_ (by refine swR [0,3] [] rfl rfl ?_;(repeat' first|exact y84 _|exact z10 _|(refine z49 ?_;((simp;done)))|((first|refine z32 rfl ?_ ?_|refine z9 rfl ?_ ?_);(focus ((repeat' (first|exact z5 (fun _=>rfl)|apply z21));done)))|(refine z75 ?_ ?_;(focus (omega)))|constructor))
          all_goals dsimp only
          all_goals first|(rcases hnext with ⟨h1,h2⟩|h1<;>first|exact .inr ⟨h1,h2⟩|exact .inl h1)|(rw [if_pos (show (0:Int)≤w by omega)];split<;>omega)
        · have cr:=z555 ac (by omega) (by omega)
          have cc:=z332 (rvs ac) (by rw [z393];omega)
          have el:=z393 ac
          rw [← rvs_eq]
          generalize rvs ac=D at *
          rw [el] at cc ⊢
          repeat' ((first|(apply y4 ok;rfl)|((first|(apply z128 [1] [] cr;rfl;(focus ((repeat' first|exact z40|apply z54)<;>(refine z73 rfl ?_;((exact z5 fun _=>rfl))))))|(apply z128 [1] [] cc;rfl;(focus ((repeat' first|exact z40|apply z54)<;>(refine z73 rfl ?_;((exact z5 fun _=>rfl)))))));rfl;(focus ((repeat' first|exact z15|apply z12)<;>(refine z19 ?_;((exact z5 fun _=>rfl)))))))<;>conv=>whnf)
          all_goals (refine rsD [1] [] rfl ?_;(repeat' first|exact y84 _|exact z10 _|refine z9 rfl (z5 (fun _=>rfl)) ?_|constructor))
    · have hG:=(y70 _).mp hG
      rw [hG] at cf
      have hno2:∀ k (_:k < i+1) (h:k < (srS rows ini (i+1)).1.length),G ((srS rows ini (i+1)).1[k])=false:=by
        obtain ⟨t,ht⟩:=z599 (rows:=rows) (ini:=ini) (show i≤i+1 by omega)
        intro k hk h
        have hki:k < (srS rows ini i).1.length:=by omega
        have e:(srS rows ini (i+1)).1[k]=(srS rows ini i).1[k]:=by
          simp only [ht,List.getElem_append_left hki]
        rw [e]
        by_cases hk3:k < i
        · exact hno k hk3 hki
        · obtain rfl:k=i:=by omega
          exact hG
      have hile:i+1≤rows.length:=by omega
      have hJv:=fun l hl=>PJ.visPs (N:=rows.length) l hJ hi2 rfl hl
      clear hfnd hpre hno
      generalize hS' : srS rows ini (i+1)=S' at *
      generalize hS:srS rows ini i=S at *
      obtain ⟨Q,P⟩:=S
      dsimp only at *
      have hi4:i < Q.length:=hi2
      generalize hxx:Q[i]=x at *
      obtain ⟨u,rfl⟩:∃ u:Nat,x=u:=⟨x.toNat,by omega⟩
      rw [y75] at hnx
      have hu:u < rows.length:=by omega
      have gr:=z479 hu
      have hrow:=z221 hr (u:Int)
      rw [y75] at hrow
      have hrowl:(rows.getD u []).length≤1000000000:=by rw [z17 hu];exact hrl _ (y43 _)
      generalize rows.getD u []=row at *
      repeat' ((first|(apply y4 ok;rfl)|(refine z16 (i:=i) rfl gx ?_)|(refine z16 (i:=u) rfl gr ?_)|(apply y42;omega)|((apply z6)<;>intro _)|(apply z4 (cf);rfl;rfl))<;>conv=>whnf)
      all_goals try (exfalso;omega)
      all_goals
        refine z63 (fun j:Nat=>([(0,lst 1 encL rows),(2,.fn (.func f) [] [.pt c1]),(7,.sref 0 0 rows.length),(9,.sref 1 0 (visPs (u:Int) (Q,P) (row.take j)).1.length),(12,.int i),(76,ints row),(77,.int row.length),(78,.int j)],[.cells 1 ((frm rows.length (visPs (u:Int) (Q,P) (row.take j)).1 (visPs (u:Int) (Q,P) (row.take j)).2).map enI),.cells 1 ((visPs (u:Int) (Q,P) (row.take j)).1.map enI)])) (fun j=>j≤row.length) (fun j=>row.length - j) 0 (y52 _) (by refine swR [0,1] [] rfl rfl ?_;(repeat' first|exact y84 _|exact z10 _|refine z9 rfl (z5 (fun _=>rfl)) ?_|constructor)<;>(fail)) ?_
        intro j hj
        obtain ⟨hJj,hij,hxj⟩:=hJv (row.take j) (fun x hx=>hrow x (List.mem_of_mem_take hx))
        have hQjl:(visPs (u:Int) (Q,P) (row.take j)).1.length≤rows.length:=z152 _ _ hJj.nd hJj.inn
        have gxj:((visPs (u:Int) (Q,P) (row.take j)).1.map enI)[i]?=some (enI (u:Int)):=by
          rw [y50,y44 hij,hxj];rfl
        by_cases hj2:j < row.length
        · have gj:(row.map enI)[j]?=some (enI row[j]):=by rw [y50,y44 hj2];rfl
          have hv:=hrow _ (y43 hj2)
          have et:=z385 (u:=(u:Int)) (x:=(Q,P)) hj2
          have hge:=hJj.pre
          generalize hT' : visPs (u:Int) (Q,P) (row.take (j+1))=T' at *
          generalize hT:visPs (u:Int) (Q,P) (row.take j)=T at *
          generalize row[j]=v at *
          obtain ⟨w,rfl⟩:∃ w:Nat,v=w:=⟨v.toNat,by omega⟩
          have hw:w < rows.length:=by omega
          have gw:=z407 T.1 T.2 hw
          have lw:=z406 rows.length T.1 T.2
          have hTl:=hJj.len
          by_cases hm:(w:Int)∈T.1
          · rw [z336 hm] at et
            rw [if_pos hm] at gw
            have hwv : -1≤T.2.getD w 0:=by
              obtain ⟨k,hk,ek⟩:=List.mem_iff_getElem.1 hm
              have h1:=hge k hk
              rw [ek,y75] at h1
              rcases h1 with h1|⟨y,hy,_,h1⟩
              · omega
              · have:=hJj.inn _ (y43 hy);omega
            generalize T.2.getD w 0=pv at *
            repeat' ((first|(apply y4 ok;rfl)|(refine z16 (i:=j) rfl gj ?_)|(refine z16 (i:=w) rfl gw ?_)|(apply y42;first|omega|(unfold inI;omega))|(((apply z11;omega));intro _)|((apply z6)<;>intro _))<;>conv=>whnf)
            all_goals try (exfalso;omega)
            all_goals refine z26 (j+1) hj2 (by omega) ?_
            all_goals dsimp only
            all_goals rw [hT',et]
            all_goals exact (by refine swR [0,1] [] rfl rfl ?_;(repeat' first|exact y84 _|exact z10 _|refine z9 rfl (z5 (fun _=>rfl)) ?_|constructor))
          · rw [z337 hm,y75] at et
            rw [if_neg hm] at gw
            have e1:=z448 (Q:=T.1) (u:=(u:Int)) hw hTl
            repeat' ((first|(apply y4 ok;rfl)|(refine z16 (i:=j) rfl gj ?_)|(refine z16 (i:=w) rfl gw ?_)|(refine z16 (i:=i) rfl gxj ?_)|(apply y42;first|omega|(unfold inI;omega)|((try dsimp only);simp only [y48,y47,y46,y45,y56,y57];omega)|exact ⟨rfl,z20 rfl z28⟩)|((apply z6)<;>intro _))<;>conv=>whnf)
            all_goals try (exfalso;omega)
            all_goals refine z26 (j+1) hj2 (by omega) ?_
            all_goals dsimp only
            all_goals rw [hT',et]
            all_goals dsimp only
            all_goals exact (by refine swR [0,3] [] rfl rfl ?_;(repeat' first|exact y84 _|(refine z49 ?_;((simp;done)))|((first|refine z32 rfl ?_ ?_|refine z65 rfl ?_ ?_);(focus ((repeat' (first|exact z5 (fun _=>rfl)|apply z21));done)))|(refine z75 ?_ ?_;(focus (omega)))|constructor)<;>((refine z53 ?_;exact e1)))
        obtain rfl:j=row.length:=by omega
        rw [y54,← hnx] at *
        repeat' ((first|(apply y4 ok;rfl)|(apply y42;first|omega|(unfold inI;omega))|((first|(with_reducible apply z11;omega)|(apply z11;omega));intro _)|((apply z6)<;>intro _))<;>conv=>whnf)
        all_goals try (exfalso;omega)
        all_goals refine z26 (i+1) ⟨hile,by rw [hS'];exact hno2⟩ (by omega) ?_
        all_goals dsimp only
        all_goals rw [hS']
        all_goals exact (by refine swR [0,1] [] rfl rfl ?_;(repeat' first|exact y84 _|exact z10 _|refine z9 rfl (z5 (fun _=>rfl)) ?_|constructor))
  · rw [z858 (G:=G) (by omega) hi1 (fun k hk=>hno k (by omega) hk)]
    repeat' ((first|(apply y4 ok;rfl)|(apply y42;omega)|(((apply z11;omega));intro _)|((apply z6)<;>intro _))<;>conv=>whnf)
    all_goals try (exfalso;omega)
    all_goals (refine y87 1 ?_;refine rsD [2] [] rfl ?_;(repeat' first|exact z42|refine z9 rfl (z25) ?_|constructor))
set_option maxHeartbeats 12800000 in
theorem z607 (rows : List (List Int)) (ini : List Int) (hr : ∀ r ∈ rows, InN rows.length r) (hi : InN rows.length ini) (hn : ini.Nodup) (hN : rows.length ≤ 100000) (hrl : ∀ r ∈ rows, r.length ≤ 1000000000) (G : Int → Bool) (f : FuncId) (c1 c2 : List AC) (hf : ∀ x : Int, 0 ≤ x → x < rows.length → CallsA Tryz.prog f (.int x :: [.pt c1, .pt c2]) [] (.bool (G x)) []) :
    CallsA Tryz.prog 141 [lst 1 encL rows,ints ini,.fn (.func f) [] [.pt c1,.pt c2]] [] (.sref 0 0 (shL rows ini G).length) [.cells 1 ((shL rows ini G).map enI)]:=by
  have hil:ini.length≤100000:=by have:=z152 rows.length ini hn hi;omega
  refine z7 z14 Tryz.func141 rfl rfl 99 Tryz.ntmps141 (by simp) ?_
  repeat' ((first|(apply y4 ok;rfl)|(apply y42;(dsimp only;omega)))<;>conv=>whnf)
  obtain ⟨qm,hqm⟩:∃ qm:Nat→Nat→Int,qm=fun i j=>if j < i then -2 else 0:=⟨_,rfl⟩
  have q0:qm 0=fun _=>0:=by rw [hqm];rfl
  have qE:(fnL rows.length (qm rows.length)).map enI=(frm rows.length [] (List.replicate rows.length (-1))).map enI:=by
    rw [z1087]
    congr 1
    apply y73 (by simp [fnL])
    intro i h1 h2
    rw [z636,hqm]
    have hi' : i < rows.length:=by rw [z113] at h1;exact h1
    dsimp only
    rw [if_pos hi'];simp
  have qS:∀ i,qm (i+1)=upd (qm i) i (-2):=fun i=>by
    funext j
    by_cases h:j=i
    · subst h;rw [z27,hqm];dsimp only;rw [if_pos (by omega)]
    · rw [z48 _ _ h,hqm];dsimp only;split<;>split<;>first|rfl|omega
  clear hqm
  refine z63 (fun i:Nat=>([(0,lst 1 encL rows),(1,ints ini),(2,.fn (.func f) [] [.pt c1,.pt c2]),(7,.sref 0 0 rows.length),(21,.int rows.length),(22,.int i)],[.cells 1 ((fnL rows.length (qm i)).map enI)])) (fun i=>i≤rows.length) (fun i=>rows.length - i) 0 (y52 _) (by refine swR [0] [] rfl rfl ?_;(repeat' first|exact y84 _|refine z9 rfl (z78 rfl) ?_|constructor)<;>((refine z53 ?_;rw [q0];exact z295 _))) ?_
  intro i hi1
  by_cases hi2:i < rows.length
  · have g1:=z171 (qm i) hi2
    have l1:=z113 rows.length (qm i)
    have e1:=z146 (N:=rows.length) (u:=i) (qm i) (-2)
    rw [← qS] at e1
    repeat' ((first|(apply y4 ok;rfl)|(refine z16 (i:=i) rfl g1 ?_)|(apply y42;first|omega|(unfold inI;omega))|((apply z6)<;>intro _))<;>conv=>whnf)
    all_goals try (exfalso;omega)
    all_goals refine z26 (i+1) hi2 (by omega) (by refine swR [0] [] rfl rfl ?_;(repeat' first|exact y84 _|refine z65 rfl (z5 (fun _=>rfl)) ?_|constructor)<;>((refine z53 ?_;exact e1)))
  obtain rfl:i=rows.length:=by omega
  rw [qE]
  clear qE qS q0
  repeat' ((first|(apply y4 ok;rfl)|(apply y42;omega)|(((apply z11;omega));intro _)|((apply z6)<;>intro _))<;>conv=>whnf)
  all_goals try (exfalso;omega)
  refine y83 (y86 1 rfl) ?_
  have hrep:(List.replicate rows.length (-1:Int)).length=rows.length:=by simp
  have hrs:∀ w,(List.replicate rows.length (-1:Int)).set w (-1)=List.replicate rows.length (-1):=fun w=>by
    apply y73 (by simp)
    intro i h1 h2
    rw [List.getElem_set]
    split<;>simp
  have hS0:(frm rows.length ini (List.replicate rows.length (-1)))=frm rows.length (srS rows ini 0).1 (srS rows ini 0).2:=rfl
  generalize List.replicate rows.length (-1:Int)=P0 at *
  refine z63 (fun k:Nat=>([(0,lst 1 encL rows),(2,.fn (.func f) [] [.pt c1,.pt c2]),(7,.sref 0 0 rows.length),(9,.sref 1 0 (ini.take k).length),(29,ints ini),(30,.int ini.length),(31,.int k)],[.cells 1 ((frm rows.length (ini.take k) P0).map enI),.cells 1 ((ini.take k).map enI)])) (fun k=>k≤ini.length) (fun k=>ini.length - k) 0 (y52 _) (by refine swR [0,1] [] rfl rfl ?_;(repeat' first|exact y84 _|exact z42|exact z10 _|((refine z9 rfl ?_ ?_);(focus ((repeat' (first|exact z25|exact z5 (fun _=>rfl)));done)))|constructor)) ?_
  intro k hk
  by_cases hk2:k < ini.length
  · have gk:(ini.map enI)[k]?=some (enI ini[k]):=by rw [y50,y44 hk2];rfl
    have hv:=hi _ (y43 hk2)
    have et:ini.take (k+1)=ini.take k++[ini[k]]:=y49 hk2
    have htl:(ini.take k).length≤100000:=by rw [y47];omega
    generalize hQ' : ini.take (k+1)=Q' at *
    generalize hQ:ini.take k=Q at *
    generalize ini[k]=v at *
    obtain ⟨w,rfl⟩:∃ w:Nat,v=w:=⟨v.toNat,by omega⟩
    have hw:w < rows.length:=by omega
    have g1:=z407 Q P0 hw
    have l1:=z406 rows.length Q P0
    have e1:=z448 (Q:=Q) (u:=-1) hw hrep
    rw [hrs,← et] at e1
    subst et
    repeat' ((first|(apply y4 ok;rfl)|(refine z16 (i:=k) rfl gk ?_)|(refine z16 (i:=w) rfl g1 ?_)|(apply y42;first|omega|(unfold inI;omega)|((try dsimp only);simp only [y48,y47,y46,y45,y56,y57];omega)|exact ⟨rfl,z20 rfl z28⟩)|((apply z6)<;>intro _))<;>conv=>whnf)
    all_goals try (exfalso;omega)
    all_goals refine z26 (k+1) hk2 (by omega) ?_
    all_goals dsimp only
    all_goals rw [hQ']
    all_goals exact (by refine swR [0,3] [] rfl rfl ?_;(repeat' first|exact y84 _|(refine z49 ?_;((simp;done)))|((first|refine z32 rfl ?_ ?_|refine z65 rfl ?_ ?_);(focus ((repeat' (first|exact z5 (fun _=>rfl)|apply z21));done)))|(refine z75 ?_ ?_;(focus (omega)))|constructor)<;>((refine z53 ?_;exact e1)))
  obtain rfl:k=ini.length:=by omega
  rw [y54,hS0]
  repeat' ((first|(apply y4 ok;rfl)|(apply y42;omega)|((first|(with_reducible apply z11;omega)|(apply z11;omega));intro _)|((apply z6)<;>intro _))<;>conv=>whnf)
  all_goals try (exfalso;omega)
  refine z63 (fun i:Nat=>([(0,lst 1 encL rows),(2,.fn (.func f) [] [.pt c1,.pt c2]),(7,.sref 0 0 rows.length),(9,.sref 1 0 (srS rows ini i).1.length),(12,.int i)],[.cells 1 ((frm rows.length (srS rows ini i).1 (srS rows ini i).2).map enI),.cells 1 ((srS rows ini i).1.map enI)])) (fun i=>i≤rows.length∧∀ k (_:k < i) (h:k < (srS rows ini i).1.length),G ((srS rows ini i).1[k])=false) (fun i=>rows.length+1 - i) 0 ⟨y52 _,fun k h=>by omega⟩ (by refine swR [0,1] [] rfl rfl ?_;(repeat' first|exact y84 _|exact z10 _|refine z9 rfl (z5 (fun _=>rfl)) ?_|constructor)<;>(fail)) ?_
  rintro i ⟨hi1,hno⟩
  have hJ:=z310 hr hi hn i
  have hQl:=z600 hr hi hn i
  by_cases hi2:i < (srS rows ini i).1.length
  · have hx:=hJ.inn _ (y43 hi2)
    have cf:=hf _ hx.1 hx.2
    have gx:((srS rows ini i).1.map enI)[i]?=some (enI (srS rows ini i).1[i]):=by rw [y50,y44 hi2];rfl
    have hnx:srS rows ini (i+1)=visPs (srS rows ini i).1[i] (srS rows ini i) (rows.getD ((srS rows ini i).1[i]).toNat []):=by rw [srS,dif_pos hi2]
    have hfnd:=fun h=>z677 hr hi hn (G:=G) hi2 h (fun k hk=>hno k hk (by omega))
    have hpre:=z335 (srS rows ini i).1[i] (rows.getD ((srS rows ini i).1[i]).toNat []) (srS rows ini i)
    by_cases hG:G (srS rows ini i).1[i]=true
    · rw [hfnd hG,z830,y63]
      have hq0:∃ k,∃ h:k < (srS rows ini i).1.length,(srS rows ini i).1[k]=(srS rows ini i).1[i]∧k≤rows.length:=⟨i,hi2,rfl,hi1⟩
      rw [hG] at cf
      clear hfnd hnx hpre hno
      generalize hS:srS rows ini i=S at *
      obtain ⟨Q,P⟩:=S
      dsimp only at *
      have hi4:i < Q.length:=hi2
      generalize Q[i]=x at *
      repeat' ((first|(apply y4 ok;rfl)|(refine z16 (i:=i) rfl gx ?_)|(apply y42;omega)|((apply z6)<;>intro _)|(apply z4 (cf);rfl;rfl))<;>conv=>whnf)
      all_goals try (exfalso;omega)
      all_goals
        refine y83 (y86 1 rfl) ?_
        have hB1:=z1111 P rows.length x
        generalize hB:chn P rows.length x=B at *
        refine z63 (fun y:Nat×List Int×Int=>([(7,.sref 0 0 rows.length),(13,.int y.2.2),(14,.sref 1 0 y.2.1.length)],[.cells 1 ((frm rows.length Q P).map enI),.cells 1 (y.2.1.map enI)])) (fun y=>y.2.1.length+y.1≤rows.length+1∧((0≤y.2.2∧y.2.1++chn P (y.1 - 1) y.2.2=B∧1≤y.1∧∃ k,∃ h:k < Q.length,Q[k]=y.2.2∧k+1≤y.1)∨(y.2.2=-1∧y.2.1=B))) (fun y=>y.1+(if 0≤y.2.2 then 1 else 0)) (rows.length+1,[],x) ⟨by simp,.inl ⟨hx.1,by simpa using hB,by omega,by obtain ⟨k,h,h1,h2⟩:=hq0;exact ⟨k,h,h1,by omega⟩⟩⟩ (by refine swR [0,2] [] rfl rfl ?_;(repeat' first|exact y84 _|exact z42|exact z10 _|((refine z9 rfl ?_ ?_);(focus ((repeat' (first|exact z25|exact z5 (fun _=>rfl)));done)))|constructor)) ?_
        rintro ⟨fu,ac,u⟩ ⟨q1,q2⟩
        dsimp only at q1 q2 ⊢
        rcases q2 with ⟨q2,q3,q4,k,hk,q5,q6⟩|⟨rfl,rfl⟩
        · have huN:=hJ.inn u (q5 ▸ y43 hk)
          obtain ⟨w,rfl⟩:∃ w:Nat,u=w:=⟨u.toNat,by omega⟩
          have hw:w < rows.length:=by omega
          have gw:=z407 Q P hw
          rw [if_pos (q5 ▸ y43 hk)] at gw
          have lw:=z406 rows.length Q P
          have hp:=hJ.pre k hk
          rw [q5,y75] at hp
          dsimp only at hp
          obtain ⟨fu,rfl⟩:∃ m,fu=m+1:=⟨fu - 1,by omega⟩
          rw [Nat.add_sub_cancel] at q3
          have hnext:P.getD w 0=-1∧ac++[(w:Int)]=B∨(0≤P.getD w 0∧(ac++[(w:Int)])++chn P (fu - 1) (P.getD w 0)=B∧1≤fu∧∃ k,∃ h:k < Q.length,Q[k]=P.getD w 0∧k+1≤fu):=by
            rcases hp with hp|⟨j,hj,hjk,hp⟩
            · left
              refine ⟨hp,?_⟩
              rw [← q3]
              cases fu with
              | zero=>rfl
              | succ fu =>
                rw [chn,y75,if_neg (by omega)]
            · right
              have:=hJ.inn _ (y43 hj)
              refine ⟨by omega,?_,by omega,j,hj,hp.symm,by omega⟩
              obtain ⟨fu,rfl⟩:∃ m,fu=m+1:=⟨fu - 1,by omega⟩
              rw [chn,y75,if_pos (by omega)] at q3
              rw [← q3]
              simp
          have hvb : -1≤P.getD w 0∧P.getD w 0 < rows.length:=by
            rcases hnext with ⟨h,_⟩|⟨h,_,_,j,hj,hp2,_⟩
            · omega
            · have:=hJ.inn _ (y43 hj)
              omega
          clear hp
          generalize P.getD w 0=v at *
          repeat' ((first|(apply y4 ok;rfl)|(refine z16 (i:=w) rfl gw ?_)|(apply y42;first|omega|((try dsimp only);simp only [y48,y47,y46,y45,y56,y57];omega)|exact ⟨rfl,z20 rfl z28⟩))<;>conv=>whnf)
          all_goals refine z26 (fu,ac++[(w:Int)],v) ⟨by simp only [y46,List.length_singleton];omega,?_⟩ ?_ (by refine swR [0,3] [] rfl rfl ?_;(repeat' first|exact y84 _|exact z10 _|(refine z49 ?_;((simp;done)))|((first|refine z32 rfl ?_ ?_|refine z9 rfl ?_ ?_);(focus ((repeat' (first|exact z5 (fun _=>rfl)|apply z21));done)))|(refine z75 ?_ ?_;(focus (omega)))|constructor))
          all_goals dsimp only
          all_goals first|(rcases hnext with ⟨h1,h2⟩|h1<;>first|exact .inr ⟨h1,h2⟩|exact .inl h1)|(rw [if_pos (show (0:Int)≤w by omega)];split<;>omega)
        · have cr:=z555 ac (by omega) (by omega)
          have cc:=z332 (rvs ac) (by rw [z393];omega)
          have el:=z393 ac
          rw [← rvs_eq]
          generalize rvs ac=D at *
          rw [el] at cc ⊢
          repeat' ((first|(apply y4 ok;rfl)|((first|(apply z128 [1] [] cr;rfl;(focus ((repeat' first|exact z40|apply z54)<;>(refine z73 rfl ?_;((exact z5 fun _=>rfl))))))|(apply z128 [1] [] cc;rfl;(focus ((repeat' first|exact z40|apply z54)<;>(refine z73 rfl ?_;((exact z5 fun _=>rfl)))))));rfl;(focus ((repeat' first|exact z15|apply z12)<;>(refine z19 ?_;((exact z5 fun _=>rfl)))))))<;>conv=>whnf)
          all_goals (refine rsD [1] [] rfl ?_;(repeat' first|exact y84 _|exact z10 _|refine z9 rfl (z5 (fun _=>rfl)) ?_|constructor))
    · have hG:=(y70 _).mp hG
      rw [hG] at cf
      have hno2:∀ k (_:k < i+1) (h:k < (srS rows ini (i+1)).1.length),G ((srS rows ini (i+1)).1[k])=false:=by
        obtain ⟨t,ht⟩:=z599 (rows:=rows) (ini:=ini) (show i≤i+1 by omega)
        intro k hk h
        have hki:k < (srS rows ini i).1.length:=by omega
        have e:(srS rows ini (i+1)).1[k]=(srS rows ini i).1[k]:=by
          simp only [ht,List.getElem_append_left hki]
        rw [e]
        by_cases hk3:k < i
        · exact hno k hk3 hki
        · obtain rfl:k=i:=by omega
          exact hG
      have hile:i+1≤rows.length:=by omega
      have hJv:=fun l hl=>PJ.visPs (N:=rows.length) l hJ hi2 rfl hl
      clear hfnd hpre hno
      generalize hS' : srS rows ini (i+1)=S' at *
      generalize hS:srS rows ini i=S at *
      obtain ⟨Q,P⟩:=S
      dsimp only at *
      have hi4:i < Q.length:=hi2
      generalize hxx:Q[i]=x at *
      obtain ⟨u,rfl⟩:∃ u:Nat,x=u:=⟨x.toNat,by omega⟩
      rw [y75] at hnx
      have hu:u < rows.length:=by omega
      have gr:=z479 hu
      have hrow:=z221 hr (u:Int)
      rw [y75] at hrow
      have hrowl:(rows.getD u []).length≤1000000000:=by rw [z17 hu];exact hrl _ (y43 _)
      generalize rows.getD u []=row at *
      repeat' ((first|(apply y4 ok;rfl)|(refine z16 (i:=i) rfl gx ?_)|(refine z16 (i:=u) rfl gr ?_)|(apply y42;omega)|((apply z6)<;>intro _)|(apply z4 (cf);rfl;rfl))<;>conv=>whnf)
      all_goals try (exfalso;omega)
      all_goals
        refine z63 (fun j:Nat=>([(0,lst 1 encL rows),(2,.fn (.func f) [] [.pt c1,.pt c2]),(7,.sref 0 0 rows.length),(9,.sref 1 0 (visPs (u:Int) (Q,P) (row.take j)).1.length),(12,.int i),(76,ints row),(77,.int row.length),(78,.int j)],[.cells 1 ((frm rows.length (visPs (u:Int) (Q,P) (row.take j)).1 (visPs (u:Int) (Q,P) (row.take j)).2).map enI),.cells 1 ((visPs (u:Int) (Q,P) (row.take j)).1.map enI)])) (fun j=>j≤row.length) (fun j=>row.length - j) 0 (y52 _) (by refine swR [0,1] [] rfl rfl ?_;(repeat' first|exact y84 _|exact z10 _|refine z9 rfl (z5 (fun _=>rfl)) ?_|constructor)<;>(fail)) ?_
        intro j hj
        obtain ⟨hJj,hij,hxj⟩:=hJv (row.take j) (fun x hx=>hrow x (List.mem_of_mem_take hx))
        have hQjl:(visPs (u:Int) (Q,P) (row.take j)).1.length≤rows.length:=z152 _ _ hJj.nd hJj.inn
        have gxj:((visPs (u:Int) (Q,P) (row.take j)).1.map enI)[i]?=some (enI (u:Int)):=by
          rw [y50,y44 hij,hxj];rfl
        by_cases hj2:j < row.length
        · have gj:(row.map enI)[j]?=some (enI row[j]):=by rw [y50,y44 hj2];rfl
          have hv:=hrow _ (y43 hj2)
          have et:=z385 (u:=(u:Int)) (x:=(Q,P)) hj2
          have hge:=hJj.pre
          generalize hT' : visPs (u:Int) (Q,P) (row.take (j+1))=T' at *
          generalize hT:visPs (u:Int) (Q,P) (row.take j)=T at *
          generalize row[j]=v at *
          obtain ⟨w,rfl⟩:∃ w:Nat,v=w:=⟨v.toNat,by omega⟩
          have hw:w < rows.length:=by omega
          have gw:=z407 T.1 T.2 hw
          have lw:=z406 rows.length T.1 T.2
          have hTl:=hJj.len
          by_cases hm:(w:Int)∈T.1
          · rw [z336 hm] at et
            rw [if_pos hm] at gw
            have hwv : -1≤T.2.getD w 0:=by
              obtain ⟨k,hk,ek⟩:=List.mem_iff_getElem.1 hm
              have h1:=hge k hk
              rw [ek,y75] at h1
              rcases h1 with h1|⟨y,hy,_,h1⟩
              · omega
              · have:=hJj.inn _ (y43 hy);omega
            generalize T.2.getD w 0=pv at *
            repeat' ((first|(apply y4 ok;rfl)|(refine z16 (i:=j) rfl gj ?_)|(refine z16 (i:=w) rfl gw ?_)|(apply y42;first|omega|(unfold inI;omega))|(((apply z11;omega));intro _)|((apply z6)<;>intro _))<;>conv=>whnf)
            all_goals try (exfalso;omega)
            all_goals refine z26 (j+1) hj2 (by omega) ?_
            all_goals dsimp only
            all_goals rw [hT',et]
            all_goals exact (by refine swR [0,1] [] rfl rfl ?_;(repeat' first|exact y84 _|exact z10 _|refine z9 rfl (z5 (fun _=>rfl)) ?_|constructor))
          · rw [z337 hm,y75] at et
            rw [if_neg hm] at gw
            have e1:=z448 (Q:=T.1) (u:=(u:Int)) hw hTl
            repeat' ((first|(apply y4 ok;rfl)|(refine z16 (i:=j) rfl gj ?_)|(refine z16 (i:=w) rfl gw ?_)|(refine z16 (i:=i) rfl gxj ?_)|(apply y42;first|omega|(unfold inI;omega)|((try dsimp only);simp only [y48,y47,y46,y45,y56,y57];omega)|exact ⟨rfl,z20 rfl z28⟩)|((apply z6)<;>intro _))<;>conv=>whnf)
            all_goals try (exfalso;omega)
            all_goals refine z26 (j+1) hj2 (by omega) ?_
            all_goals dsimp only
            all_goals rw [hT',et]
            all_goals dsimp only
            all_goals exact (by refine swR [0,3] [] rfl rfl ?_;(repeat' first|exact y84 _|(refine z49 ?_;((simp;done)))|((first|refine z32 rfl ?_ ?_|refine z65 rfl ?_ ?_);(focus ((repeat' (first|exact z5 (fun _=>rfl)|apply z21));done)))|(refine z75 ?_ ?_;(focus (omega)))|constructor)<;>((refine z53 ?_;exact e1)))
        obtain rfl:j=row.length:=by omega
        rw [y54,← hnx] at *
        repeat' ((first|(apply y4 ok;rfl)|(apply y42;first|omega|(unfold inI;omega))|((first|(with_reducible apply z11;omega)|(apply z11;omega));intro _)|((apply z6)<;>intro _))<;>conv=>whnf)
        all_goals try (exfalso;omega)
        all_goals refine z26 (i+1) ⟨hile,by rw [hS'];exact hno2⟩ (by omega) ?_
        all_goals dsimp only
        all_goals rw [hS']
        all_goals exact (by refine swR [0,1] [] rfl rfl ?_;(repeat' first|exact y84 _|exact z10 _|refine z9 rfl (z5 (fun _=>rfl)) ?_|constructor))
  · rw [z858 (G:=G) (by omega) hi1 (fun k hk=>hno k (by omega) hk)]
    repeat' ((first|(apply y4 ok;rfl)|(apply y42;omega)|(((apply z11;omega));intro _)|((apply z6)<;>intro _))<;>conv=>whnf)
    all_goals try (exfalso;omega)
    all_goals (refine y87 1 ?_;refine rsD [2] [] rfl ?_;(repeat' first|exact z42|refine z9 rfl (z25) ?_|constructor))
theorem z1063 (v x:Int):CallsA Tryz.prog 142 [.int x,.pt [.int v]] [] (.bool (decide (x=v))) []:=by
 refine z7 z14 Tryz.func142 rfl rfl 7 Tryz.ntmps142 (by simp) ?_
 repeat' (((apply y4 ok;rfl))<;>conv=>whnf)
 all_goals (refine rsD [] [] rfl ?_;(repeat' first|exact y84 _|constructor))
theorem z977 (rows:List (List Int)) (hrl:∀ r∈rows,r.length≤1000000000) (v x:Int) (hx:0≤x∧x < rows.length):CallsA Tryz.prog 208 [.int x,.pt [.int v],.pt [lst 1 encL rows]] [] (.bool (decide (x≠v) && decide (v∈rows.getD x.toNat []))) []:=by
 obtain ⟨u,rfl⟩:∃ u:Nat,x=u:=⟨x.toNat,by omega⟩
 rw [y75]
 have hu:u < rows.length:=by omega
 have gr:=z479 hu
 have hrow:(rows.getD u []).length≤1000000000:=by rw [z17 hu];exact hrl _ (y43 _)
 have cct:=z163 (rows.getD u []) (by unfold maxLen;omega) v
 generalize rows.getD u []=row at *
 refine z7 z14 Tryz.func208 rfl rfl 16 Tryz.ntmps208 (by simp) ?_
 by_cases h:(u:Int)=v
 ·rw [y81 (by simp [h]),Bool.false_and]
  repeat' ((first|(apply y4 ok;rfl)|(apply z30;kernel_rfl)|(refine z16 (i:=u) rfl gr ?_)|(apply y42;omega)|((apply z50)<;>intro _)|(apply z4 (cct);rfl;rfl))<;>conv=>whnf)
  all_goals try (exfalso;omega)
  all_goals (refine rsD [] [] rfl ?_;(repeat' first|exact y84 _|constructor))
 ·rw [y80 h,Bool.true_and]
  repeat' ((first|(apply y4 ok;rfl)|(apply z30;kernel_rfl)|(refine z16 (i:=u) rfl gr ?_)|(apply y42;omega)|((apply z50)<;>intro _)|(apply z4 (cct);rfl;rfl))<;>conv=>whnf)
  all_goals try (exfalso;omega)
  all_goals (refine rsD [] [] rfl ?_;(repeat' first|exact y84 _|constructor))
set_option maxHeartbeats 3200000 in
theorem z976 (rows : List (List Int)) (v : Int) (hr : ∀ r ∈ rows, InN rows.length r) (hv : 0 ≤ v ∧ v < rows.length) (hN : rows.length ≤ 100000) (hrl : ∀ r ∈ rows, r.length ≤ 1000000000) :
    CallsA Tryz.prog 143 [lst 1 encL rows,.int v] [] (.sref 0 0 (aroL rows v).length) [.cells 1 ((aroL rows v).map enI)]:=by
  obtain ⟨u,rfl⟩:∃ u:Nat,v=u:=⟨v.toNat,by omega⟩
  have hu:u < rows.length:=by omega
  have gr:=z479 hu
  have hrow:(rows.getD u []).length≤1000000000:=by rw [z17 hu];exact hrl _ (y43 _)
  have cct:=z163 (rows.getD u []) (by unfold maxLen;omega) (u:Int)
  have csh:=z607 rows [(u:Int)] hr (z316 hv) (by simp) hN hrl (fun n=>decide (n≠(u:Int)) && decide ((u:Int)∈rows.getD n.toNat [])) 208 [.int (u:Int)] [lst 1 encL rows] (fun x h0 h1=>z977 rows hrl u x ⟨h0,h1⟩)
  unfold aroL
  rw [y75]
  by_cases h:(u:Int)∈rows.getD u []
  · rw [if_pos h]
    rw [y80 h] at cct
    generalize rows.getD u []=row at *
    refine z7 z14 Tryz.func143 rfl rfl 18 Tryz.ntmps143 (by simp) ?_
    repeat' ((first|(apply y4 ok;rfl)|(apply z30;kernel_rfl)|(refine z16 (i:=u) rfl gr ?_)|(apply y42;omega)|(apply z4 (cct);rfl;rfl))<;>conv=>whnf)
    all_goals (refine rsD [2] [] rfl ?_;(repeat' first|exact y84 _|apply y85|constructor))
  · rw [if_neg h]
    rw [y81 h] at cct
    generalize shL rows [(u:Int)] (fun n=>decide (n≠(u:Int)) && decide ((u:Int)∈rows.getD n.toNat []))=D at *
    generalize rows.getD u []=row at *
    refine z7 z14 Tryz.func143 rfl rfl 18 Tryz.ntmps143 (by simp) ?_
    repeat' ((first|(apply y4 ok;rfl)|(apply z30;kernel_rfl)|(refine z16 (i:=u) rfl gr ?_)|(apply y42;omega)|(apply z4 (cct);rfl;rfl)|(apply z93 [] [0,1,2] [3] csh;(focus ((repeat' first|exact z74|apply z45)<;>rfl));rfl;rfl;(focus ((repeat' first|exact z15|apply z12)<;>(refine z19 ?_;((exact z5 fun _=>rfl)))));((refine .inr ⟨rfl,?_⟩;repeat' first|exact True.intro|apply y42|exact z156 (fun _=>rfl) _))))<;>conv=>whnf)
    all_goals (refine rsD [3] [] rfl ?_;(repeat' first|exact y84 _|exact z10 _|refine z9 rfl (z5 (fun _=>rfl)) ?_|constructor))
noncomputable def lasR (rows:List (List Int)) (ini:List Int) (G:Int→Bool):List Int×List Int:=(lasL rows ini G).getD ([],[])
set_option maxHeartbeats 6400000 in
theorem z1062 (rows : List (List Int)) (ini : List Int) (hr : ∀ r ∈ rows, InN rows.length r) (hi : InN rows.length ini) (hn : ini.Nodup) (hN : rows.length ≤ 100000) (hrl : ∀ r ∈ rows, r.length ≤ 1000000000) (G : Int → Bool) (f : FuncId) (c1 c2 : List AC) (hf : ∀ x : Int, 0 ≤ x → x < rows.length → CallsA Tryz.prog f [.int x, .pt c1, .pt c2] [] (.bool (G x)) []) :
    CallsA Tryz.prog 69 [lst 1 encL rows,ints ini,.fn (.func f) [] [.pt c1,.pt c2]] [] (.tup [.sref 0 0 ((lasR rows ini G).1.take ((lasR rows ini G).1.length - 1)).length,.sref 1 0 (lasR rows ini G).2.length,.bool (lasL rows ini G).isSome]) [.cells 1 (((lasR rows ini G).1.take ((lasR rows ini G).1.length - 1)).map enI),.cells 1 ((lasR rows ini G).2.map enI)]:=by
  have hil:ini.length≤100000:=by have:=z152 rows.length ini hn hi;omega
  have cC:=z962 rows hr hN hrl
  have cO:=z1041 rows ini hr hi hN hrl (by omega)
  have hQi:=z743 hr hi rows.length
  have hQl:=z832 hr hi rows.length
  have hcl:=cycB_len rows
  have hcg:∀ i,i < rows.length→((cycB rows).map enB)[i]?=some (enB (cycD rows i)):=fun i h=>z1092 (cycD rows) h
  have hto:=fun v hv=>shL_to (rows:=rows) (ini:=ini) hn (v:=v) hv
  have hrR:∀ k,k < (bfsL rows ini).length→(G ((bfsL rows ini).getD k 0) && cycD rows ((bfsL rows ini).getD k 0).toNat)=true→(∀ j,j < k→(G ((bfsL rows ini).getD j 0) && cycD rows ((bfsL rows ini).getD j 0).toNat)=false)→lasL rows ini G=some (bkw (srP rows ini) rows.length ((bfsL rows ini).getD k 0) [],cycL rows ((bfsL rows ini).getD k 0)):=fun k hk h1 h2=>by
    unfold lasL
    have:(bfsL rows ini).find? (fun v=>G v && cycD rows v.toNat)=some ((bfsL rows ini).getD k 0):=by
      rw [z17 hk] at h1 ⊢
      rw [List.find?_eq_some_iff_getElem]
      refine ⟨h1,k,hk,rfl,fun j hj=>?_⟩
      have:=h2 j hj
      rw [z17 (by omega)] at this
      rw [this];rfl
    rw [this];rfl
  have hrN:(∀ j,j < (bfsL rows ini).length→(G ((bfsL rows ini).getD j 0) && cycD rows ((bfsL rows ini).getD j 0).toNat)=false)→lasL rows ini G=none:=fun h=>by
    unfold lasL
    have:(bfsL rows ini).find? (fun v=>G v && cycD rows v.toNat)=none:=by
      rw [List.find?_eq_none]
      intro x hx
      obtain ⟨j,hj,rfl⟩:=List.mem_iff_getElem.1 hx
      have:=h j hj
      rw [z17 hj] at this
      rw [this];simp
    rw [this];rfl
  unfold lasR
  change (bfsL rows ini).length≤rows.length at hQl
  change InN rows.length (bfsL rows ini) at hQi
  generalize lasL rows ini G=L at *
  generalize cycB rows=C at *
  generalize bfsL rows ini=Q at *
  refine z7 z14 Tryz.func69 rfl rfl 45 Tryz.ntmps69 (by simp) ?_
  repeat' ((first|(apply y4 ok;rfl)|((first|(apply z8 [] [0] cC;rfl;rfl)|(apply z8 [] [1] cO;rfl;rfl));rfl;(focus ((repeat' first|exact z15|apply z12)<;>(refine z19 ?_;((exact z5 fun _=>rfl)))))))<;>conv=>whnf)
  refine z63 (fun i:Nat=>([(0,lst 1 encL rows),(1,ints ini),(2,.fn (.func f) [] [.pt c1,.pt c2]),(9,.sref 0 0 rows.length),(17,.sref 1 0 Q.length),(18,.int Q.length),(19,.int i)],[.cells 1 (C.map enB),.cells 1 (Q.map enI)])) (fun i=>i≤Q.length∧∀ j,j < i→(G (Q.getD j 0) && cycD rows (Q.getD j 0).toNat)=false) (fun i=>Q.length - i) 0 ⟨y52 _,fun j hj=>by omega⟩ (by refine swR [0,1] [] rfl rfl ?_;(repeat' first|exact y84 _|exact z10 _|refine z9 rfl (z5 (fun _=>rfl)) ?_|constructor)) ?_
  rintro i ⟨hi1,hno⟩
  by_cases hi2:i < Q.length
  · have hm:=z368 hi2
    have hx:=hQi _ hm
    have gx:(Q.map enI)[i]?=some (enI (Q.getD i 0)):=by rw [y50,y44 hi2,z17 hi2];rfl
    have cf:=hf _ hx.1 hx.2
    have hsome:=fun h=>hrR i hi2 h hno
    have hnxt:(G (Q.getD i 0) && cycD rows (Q.getD i 0).toNat)=false→∀ j,j < i+1→(G (Q.getD j 0) && cycD rows (Q.getD j 0).toNat)=false:=fun h j hj=>by
      by_cases e:j=i
      · subst e;exact h
      · exact hno j (by omega)
    have hsh:=hto _ hm
    have csh:=z608 rows ini hr hi hn hN hrl (fun n=>decide (n=Q.getD i 0)) 142 [.int (Q.getD i 0)] (fun x _ _=>z1063 (Q.getD i 0) x)
    have car:=z976 rows (Q.getD i 0) hr hx hN hrl
    rw [hsh] at csh
    rw [aroL_eq] at car
    have hb1:=z516 (srP rows ini) rows.length (Q.getD i 0) []
    have hb2:=z517 (srP rows ini) rows.length (Q.getD i 0) []
    have hc2:=z641 rows (Q.getD i 0)
    have gc:=hcg (Q.getD i 0).toNat (by omega)
    rw [y57] at hb2
    clear hsh hrR hrN hto hcg hm hno
    generalize bkw (srP rows ini) rows.length (Q.getD i 0) []=B at *
    generalize cycL rows (Q.getD i 0)=Y at *
    generalize Q.getD i 0=x at *
    obtain ⟨u,rfl⟩:∃ u:Nat,x=u:=⟨x.toNat,by omega⟩
    rw [y75] at *
    by_cases hg:(G (u:Int) && cycD rows u)=true
    · have hL:=hsome hg
      obtain ⟨hg1,hg2⟩:=Bool.and_eq_true_iff.1 hg
      rw [hg1] at cf
      rw [hg2] at gc
      subst hL
      repeat' ((first|(apply y4 ok;rfl)|(apply z30;kernel_rfl)|(refine z16 (i:=i) rfl gx ?_)|(refine z16 (i:=u) rfl gc ?_)|(apply y42;first|omega|(unfold inI;omega))|((apply z6)<;>intro _)|(apply z4 (cf);rfl;rfl)|((first|(apply z93 [] [2] [3] csh;(focus ((repeat' first|exact z74|apply z45)<;>rfl));rfl)|(apply z93 [] [] [4] car;rfl;rfl));rfl;(focus ((repeat' first|exact z15|apply z12)<;>(refine z19 ?_;((exact z5 fun _=>rfl)))));(first|exact .inl rfl|(refine .inr ⟨rfl,?_⟩;repeat' first|exact True.intro|apply y42|exact z156 (fun _=>rfl) _))))<;>conv=>whnf)
      all_goals try (exfalso;omega)
      all_goals
        show RetS _ _ (.tup [.sref 0 0 (B.take (B.length - 1)).length,.sref 1 0 Y.length,.bool true]) [.cells 1 ((B.take (B.length - 1)).map enI),.cells 1 (Y.map enI)] _
        refine Gl.RetS.trunc 3 (B.length - 1) rfl ?_
        conv=>whnf
        (refine rsD [3,4] [] rfl ?_;(repeat' first|exact y84 _|exact z10 _|(refine z49 ?_;((simp;done)))|((refine z9 rfl ?_ ?_);(focus ((repeat' (first|exact z5 (fun _=>rfl)|apply z21));done)))|apply z72|constructor))
      all_goals (refine z53 ?_;rw [List.map_take])
    · have hg:=(y70 _).mp hg
      have hn2:=hnxt hg
      cases hG:G (u:Int)
      · rw [hG] at cf
        repeat' ((first|(apply y4 ok;rfl)|(refine z16 (i:=i) rfl gx ?_)|(apply y42;first|omega|(unfold inI;omega))|((apply z6)<;>intro _)|(apply z4 (cf);rfl;rfl))<;>conv=>whnf)
        all_goals try (exfalso;omega)
        all_goals refine z26 (i+1) ⟨hi2,hn2⟩ (by omega) (by refine swR [0,1] [] rfl rfl ?_;(repeat' first|exact y84 _|exact z10 _|refine z9 rfl (z5 (fun _=>rfl)) ?_|constructor))
      · rw [hG] at cf
        rw [hG,Bool.true_and] at hg
        rw [hg] at gc
        repeat' ((first|(apply y4 ok;rfl)|(refine z16 (i:=i) rfl gx ?_)|(refine z16 (i:=u) rfl gc ?_)|(apply y42;first|omega|(unfold inI;omega))|((apply z6)<;>intro _)|(apply z4 (cf);rfl;rfl))<;>conv=>whnf)
        all_goals try (exfalso;omega)
        all_goals refine z26 (i+1) ⟨hi2,hn2⟩ (by omega) (by refine swR [0,1] [] rfl rfl ?_;(repeat' first|exact y84 _|exact z10 _|refine z9 rfl (z5 (fun _=>rfl)) ?_|constructor))
  · have hL:=hrN fun j hj=>hno j (by omega)
    subst hL
    repeat' ((first|(apply y4 ok;rfl)|(apply y42;omega)|(((apply z11;omega));intro _)|((apply z6)<;>intro _))<;>conv=>whnf)
    all_goals try (exfalso;omega)
    all_goals show RetS _ _ (.tup [.sref 0 0 0,.sref 1 0 0,.bool false]) [.cells 1 [],.cells 1 []] _
    all_goals (refine y87 1 ?_;refine y87 1 ?_;refine rsD [2,3] [] rfl ?_;(repeat' first|exact y84 _|exact z42|refine z9 rfl (z25) ?_|apply z72|constructor))
end Go.Proofs.YtahhobgjcfionaaGreat
namespace Go.Proofs.YtahhobgjcfionaaGreat
open Go.Gl
attribute [local irreducible] z18 AWP z34 z39 z38
structure Trace where
 stem:List Int
 loop:List Int
deriving DecidableEq
def Trace.cs (t:Trace):List AC:=[ints t.stem,ints t.loop]
def Trace.all (t:Trace):List Int:=t.stem++t.loop
end Go.Proofs.YtahhobgjcfionaaGreat
namespace Go.Proofs.YtahhobgjcfionaaGreat
open Go.Gl
attribute [local irreducible] z18 AWP z34 z39 z38 RetS z43
def Aut.sm (a:Aut):Prop:=a.ini.length≤40∧a.acc.length≤20∧a.ed.length≤2100∧∀ t∈a.ed,t.mx
set_option maxHeartbeats 3200000 in
theorem z705 (P:List Int) (hP:P.length≤100000) (f:Nat) (to:Int) (h:BackOk P f to) (hf:f≤100000):CallsA Tryz.prog 150 [ints P,.int to] [] (ints (bkw P f to [])) []:=by
 generalize hR:bkw P f to []=R
 have hto:=h
 refine z7 z14 Tryz.func150 rfl rfl 25 Tryz.ntmps150 (by simp) ?_
 repeat' (((apply y4 ok;rfl))<;>conv=>whnf)
 refine z63 (fun x:Nat×Int×List Int=>([(0,ints P),(5,.sref 0 0 (x.2.2.length+1))],[.cells 1 ((x.2.1::x.2.2).map enI)])) (fun x=>BackOk P x.1 x.2.1∧bkw P x.1 x.2.1 x.2.2=R∧x.1+x.2.2.length≤100000) (fun x=>x.1) (f,to,[]) ⟨hto,hR,by show f+0≤100000;omega⟩ (by refine swR [0] [] rfl rfl ?_;(repeat' first|exact y84 _|apply y85|constructor)) ?_
 rintro ⟨g,v,tl⟩ ⟨hB,hE,hl⟩
 dsimp only at hB hE hl ⊢
 have hv:0≤v∧v < P.length:=by cases g<;>exact hB.1
 have hg:(P.map enI)[v.toNat]?=some (enI (P.getD v.toNat 0)):=by rw [y50,y44 (by omega),z17 (by omega)];rfl
 by_cases h0:0≤P.getD v.toNat 0
 ·cases g with
  |zero=>exact absurd hB.2 (by omega)
  |succ g =>
   rw [bkw,if_pos h0] at hE
   have hB2:BackOk P g (P.getD v.toNat 0):=by
    rcases hB.2 with h|h
    ·omega
    ·exact h
   generalize P.getD v.toNat 0=y at *
   have hst:(List.map enI (v::tl)).length=tl.length+1∧Stor (List.map enI (v::tl)):=⟨by simp,z130 (fun _=>rfl)⟩
   repeat' ((first|(apply y4 ok;rfl)|(refine z16 (i:=v.toNat) (by simp) hg ?_)|(refine y42 hst ?_)|(apply y42;first|omega|((try dsimp only);simp only [y48,y47,y46,y45,y56,y57];omega))|apply z106|((apply z6)<;>intro _))<;>conv=>whnf)
   all_goals try (exfalso;omega)
   all_goals refine z26 (g,y,v::tl) ⟨hB2,hE,by show g+(v::tl).length≤100000;rw [y56];omega⟩ (by show g < g+1;omega) (by refine swR [2] [0,1] rfl rfl ?_;(repeat' first|exact y84 _|exact z10 _|(refine z49 ?_;((simp;omega)))|((refine z9 rfl ?_ ?_);(focus ((repeat' (first|exact z5 (fun _=>rfl)|exact z197 rfl z25|apply z90));done)))|constructor))
 ·have hE2:v::tl=R:=by
   cases g with
   |zero=>exact hE
   |succ g=>rw [bkw,if_neg h0] at hE;exact hE
  subst hE2
  generalize P.getD v.toNat 0=y at *
  repeat' ((first|(apply y4 ok;rfl)|(refine z16 (i:=v.toNat) (by simp) hg ?_)|(apply y42;omega)|(((apply z11;omega));intro _)|apply z106|((apply z6)<;>intro _))<;>conv=>whnf)
  all_goals try (exfalso;omega)
  all_goals (refine rsD [] [0] rfl ?_;(repeat' first|exact y84 _|((apply z41 rfl rfl rfl);(focus ((repeat ((exact z33 (fun _=>rfl) _)));done));(focus (((simp;done));done)))|constructor))
def z1098 (k:Nat):List Int:=List.replicate k (-1)
theorem z958 (k:Nat):z1098 (k+1)=z1098 k++[-1]:=by unfold z1098;rw [List.replicate_succ']
theorem z617 {l:List Int} {k:Nat} (h:k < l.length) (x:Int):x∈l.take (k+1)↔x∈l.take k∨x=l[k]:=by
 rw [y49 h,List.mem_append,y53]
set_option maxHeartbeats 12800000 in
theorem z420 (rows:List (List Int)) (ini:List Int) (hr:∀ r∈rows,InN rows.length r) (hi:InN rows.length ini) (hn:ini.Nodup) (hN:rows.length≤100000) (hrl:∀ r∈rows,r.length≤1000000000):CallsA Tryz.prog 148 [lst 1 encL rows,ints ini] [] (.tup [.sref 0 0 (srP rows ini).length,.sref 1 0 (srQ rows ini).length]) [.cells 1 ((srP rows ini).map enI),.cells 1 ((srQ rows ini).map enI)]:=by
 have hil:ini.length≤rows.length:=z152 _ _ hn hi
 refine z7 z14 Tryz.func148 rfl rfl 91 Tryz.ntmps148 (by simp) ?_
 repeat' ((first|(apply y4 ok;rfl)|(apply y42;(dsimp only;omega)))<;>conv=>whnf)
 refine z63 (fun x:Nat×List Int=>([(0,lst 1 encL rows),(1,ints ini),(6,.sref 0 0 x.2.length),(7,.sref 1 0 rows.length),(8,.int x.1)],[.cells 1 (x.2.map enI),.cells 1 ((mkB rows.length []).map enB)])) (fun x=>x.1≤rows.length∧x.2.length=x.1∧x.2=z1098 x.1) (fun x=>rows.length - x.1) (0,[]) ⟨by show 0≤rows.length;omega,rfl,rfl⟩ (by refine swR [0,1] [] rfl rfl ?_;(repeat' first|exact y84 _|((refine z9 rfl ?_ ?_);(focus ((repeat' (first|exact z25|exact z78 rfl));done)))|constructor)<;>((refine z53 ?_;rw [mkB_nil,List.map_replicate];rfl))) ?_
 rintro ⟨i,F⟩ ⟨hF1,hFl,hF2⟩
 dsimp only at hF1 hFl hF2 ⊢
 by_cases hi2:i < rows.length
 ·repeat' ((first|(apply y4 ok;rfl)|(apply y42;first|omega|(unfold inI;omega)|((try dsimp only);simp only [y48,y47,y46,y45,y56,y57];omega)|exact ⟨rfl,z20 rfl z28⟩)|((apply z6)<;>intro _))<;>conv=>whnf)
  all_goals try (exfalso;omega)
  all_goals refine z26 (i+1,F++[-1]) ⟨hi2,by rw [y46,hFl];rfl,by show _=z1098 (i+1);rw [z958,← hF2]⟩ (by show rows.length - (i+1) < _;omega) (by refine swR [3,1] [] rfl rfl ?_;(repeat' first|exact y84 _|exact z10 _|(refine z49 ?_;((simp;done)))|((first|refine z32 rfl ?_ ?_|refine z9 rfl ?_ ?_);(focus ((repeat' (first|exact z5 (fun _=>rfl)|apply z21));done)))|(refine z75 ?_ ?_;(focus (omega)))|constructor))
 ·have e:rows.length=i:=by omega
  have hs0:srS rows ini 0=(ini,F):=by rw [hF2,← e];rfl
  rw [← e] at hFl
  subst e
  clear hF1 hF2 hi2
  repeat' ((first|(apply y4 ok;rfl)|(apply y42;first|omega|(dsimp only;omega)|exact z130 (fun _=>rfl))|((apply z6)<;>intro _))<;>conv=>whnf)
  all_goals try (exfalso;omega)
  all_goals
   refine z63 (fun i:Nat=>([(0,lst 1 encL rows),(1,ints ini),(6,.sref 0 0 rows.length),(7,.sref 1 0 rows.length),(9,.sref 2 0 ini.length),(10,.int i)],[.cells 1 (F.map enI),.cells 1 ((mkB rows.length (ini.take i)).map enB),.cells 1 (ini.map enI)])) (fun i=>i≤ini.length) (fun i=>ini.length - i) 0 (by omega) (by refine swR [0,1,3] [] rfl rfl ?_;(repeat' first|exact y84 _|exact z10 _|(refine z49 ?_;(omega))|refine z9 rfl (z5 (fun _=>rfl)) ?_|constructor)) ?_
   intro i hi1
   by_cases hi2:i < ini.length
   ·have hx:=hi ini[i] (y43 _)
    have hset:=z1022 (enc:=enB) rfl hx.1 hx.2 (z617 hi2)
    have hml:=mkB_len rows.length (ini.take i)
    repeat' ((first|(apply y4 ok;rfl)|(apply y42;first|omega|(unfold inI;omega))|((first|(with_reducible apply z11;omega)|(apply z11;omega));intro _)|((apply z6)<;>intro _))<;>conv=>whnf)
    all_goals try (exfalso;omega)
    all_goals refine z26 (i+1) (by omega) (by omega) (by refine swR [0,1,2] [] rfl rfl ?_;(repeat' first|exact y84 _|exact z10 _|refine z65 rfl (z5 (fun _=>rfl)) ?_|refine z9 rfl (z5 (fun _=>rfl)) ?_|constructor)<;>(exact z53 hset))
   ·have e:ini.length=i:=by omega
    subst e
    rw [y54]
    repeat' ((first|(apply y4 ok;rfl)|(apply y42;omega)|((first|(with_reducible apply z11;omega)|(apply z11;omega));intro _)|((apply z6)<;>intro _))<;>conv=>whnf)
    all_goals try (exfalso;omega)
    refine z63 (fun x:Nat×List Int×List Int=>([(0,lst 1 encL rows),(6,.sref 0 0 rows.length),(7,.sref 1 0 rows.length),(9,.sref 2 0 x.2.1.length),(11,.int x.1)],[.cells 1 (x.2.2.map enI),.cells 1 ((mkB rows.length x.2.1).map enB),.cells 1 (x.2.1.map enI)])) (fun x=>srS rows ini x.1=(x.2.1,x.2.2)∧x.1≤x.2.1.length) (fun x=>rows.length - x.1) (0,ini,F) ⟨hs0,y52 _⟩ (by refine swR [0,1,2] [] rfl rfl ?_;(repeat' first|exact y84 _|exact z10 _|refine z9 rfl (z5 (fun _=>rfl)) ?_|constructor)) ?_
    clear hs0 hFl F
    rintro ⟨i,Q,P⟩ ⟨hS,hiQ⟩
    dsimp only at hS hiQ ⊢
    have hJ:=z310 hr hi hn i
    rw [hS] at hJ
    have hQl:=z152 _ _ hJ.nd hJ.inn
    have hPl:=hJ.len
    dsimp only at hQl hPl
    by_cases hi2:i < Q.length
    ·have hq:=hJ.inn _ (y43 hi2)
     have hS1:srS rows ini (i+1)=visPs Q[i] (Q,P) (rows.getD Q[i].toNat []):=by rw [srS,dif_pos (by rw [hS];exact hi2)];simp only [hS]
     have hqr:Q[i].toNat < rows.length:=by omega
     have hrow:rows.getD Q[i].toNat []=rows[Q[i].toNat]:=z17 hqr
     have hrin:InN rows.length rows[Q[i].toNat]:=hr _ (y43 _)
     have hrl2:=hrl rows[Q[i].toNat] (y43 _)
     rw [hrow] at hS1
     repeat' ((first|(apply y4 ok;rfl)|((apply z6)<;>intro _))<;>conv=>whnf)
     all_goals try (exfalso;omega)
     refine z63 (fun y:Nat×List Int×List Int=>([(0,lst 1 encL rows),(6,.sref 0 0 rows.length),(7,.sref 1 0 rows.length),(9,.sref 2 0 y.2.1.length),(11,.int i),(12,.int y.1)],[.cells 1 (y.2.2.map enI),.cells 1 ((mkB rows.length y.2.1).map enB),.cells 1 (y.2.1.map enI)])) (fun y=>visPs Q[i] (Q,P) (rows[Q[i].toNat].take y.1)=(y.2.1,y.2.2)∧y.1≤rows[Q[i].toNat].length) (fun y=>rows[Q[i].toNat].length - y.1) (0,Q,P) ⟨rfl,y52 _⟩ (by refine swR [0,1,2] [] rfl rfl ?_;(repeat' first|exact y84 _|exact z10 _|refine z9 rfl (z5 (fun _=>rfl)) ?_|constructor)) ?_
     rintro ⟨k,Q',P'⟩ ⟨hV,hk⟩
     dsimp only at hV hk ⊢
     obtain ⟨hJ',hi',hu⟩:=PJ.visPs (rows[Q[i].toNat].take k) hJ hi2 rfl (fun x hx=>hrin x (List.mem_of_mem_take hx))
     simp only [hV] at hJ' hi' hu
     have hQl':=z152 _ _ hJ'.nd hJ'.inn
     have hPl':=hJ'.len
     dsimp only at hQl' hPl'
     have hg:(Q'.map enI)[i]?=some (enI Q[i]):=by rw [y50,y44 hi',hu];rfl
     by_cases hk2:k < rows[Q[i].toNat].length
     ·have hx:=hrin rows[Q[i].toNat][k] (y43 _)
      have hv:=z385 (u:=Q[i]) (x:=(Q,P)) hk2
      rw [hV] at hv
      have hkk:(rows[Q[i].toNat].map enI)[k]?=some (enI rows[Q[i].toNat][k]):=by rw [y50,y44 hk2];rfl
      generalize Q[i]=u at *
      generalize rows[u.toNat][k]=v at *
      by_cases hn2:v∈Q'
      ·rw [z336 hn2] at hv
       repeat' ((first|(apply y4 ok;rfl)|(refine z16 (i:=i) rfl hg ?_)|(refine z16 (i:=k) rfl hkk ?_)|(refine z1085 (enc:=enB) (v:=v) (by rfl) hx.1 hx.2 ?_)|(apply y42;first|omega|(unfold inI;omega)|((try dsimp only);simp only [y48,y47,y46,y45,y56,y57];omega)|exact ⟨rfl,z20 rfl z28⟩)|((first|(with_reducible apply z87;omega)|(apply z11;omega));intro _)|((first|apply z6|apply z50)<;>intro _))<;>conv=>whnf)
       all_goals first|(exfalso;omega)|(exfalso;contradiction)|skip
       all_goals refine z26 (k+1,Q',P') ⟨hv,hk2⟩ (by show rows[u.toNat].length - (k+1) < rows[u.toNat].length - k;omega) (by refine swR [0,1,2] [] rfl rfl ?_;(repeat' first|exact y84 _|exact z10 _|refine z9 rfl (z5 (fun _=>rfl)) ?_|constructor))
      ·rw [z337 hn2] at hv
       have hset:=z1022 (enc:=enB) (S:=Q') (S':=Q'++[v]) rfl hx.1 hx.2 (fun x=>by simp)
       repeat' ((first|(apply y4 ok;rfl)|(refine z16 (i:=i) rfl hg ?_)|(refine z16 (i:=k) rfl hkk ?_)|(refine z1085 (enc:=enB) (v:=v) (by rfl) hx.1 hx.2 ?_)|(apply y42;first|omega|(unfold inI;omega)|((try dsimp only);simp only [y48,y47,y46,y45,y56,y57];omega)|exact ⟨rfl,z20 rfl z28⟩)|((first|(with_reducible apply z87;omega)|(apply z11;omega));intro _)|((first|apply z6|apply z50)<;>intro _))<;>conv=>whnf)
       all_goals first|(exfalso;omega)|(exfalso;contradiction)|skip
       all_goals refine z26 (k+1,Q'++[v],P'.set v.toNat u) ⟨hv,hk2⟩ (by show rows[u.toNat].length - (k+1) < rows[u.toNat].length - k;omega) (by refine swR [0,1,4] [] rfl rfl ?_;(repeat' first|exact y84 _|(refine z49 ?_;((simp;done)))|((first|refine z32 rfl ?_ ?_|refine z65 rfl ?_ ?_);(focus ((repeat' (first|exact z5 (fun _=>rfl)|apply z21));done)))|refine z557 (by omega) ?_|(refine z75 ?_ ?_;(focus (omega)))|constructor)<;>(exact z53 hset))
     ·rw [y55 (by omega)] at hV
      rw [hV] at hS1
      repeat' ((first|(apply y4 ok;rfl)|(refine z16 (i:=i) rfl hg ?_)|(apply y42;first|omega|(unfold inI;omega))|((first|(with_reducible apply z11;omega)|(with_reducible apply z87;omega)|(apply z11;omega));intro _)|((first|apply z6|apply z99)<;>intro _))<;>conv=>whnf)
      all_goals try (exfalso;omega)
      all_goals refine z26 (i+1,Q',P') ⟨hS1,hi'⟩ (by show rows.length - (i+1) < rows.length - i;omega) (by refine swR [0,1,2] [] rfl rfl ?_;(repeat' first|exact y84 _|exact z10 _|refine z9 rfl (z5 (fun _=>rfl)) ?_|constructor))
    ·have hE:=z1008 (rows:=rows) (ini:=ini) (i:=i) (by rw [hS];show Q.length≤i;omega) (by omega)
     rw [hS] at hE
     obtain ⟨e1,e2⟩:=Prod.mk.inj hE
     rw [← e1,← e2]
     repeat' ((first|(apply y4 ok;rfl)|((apply z6)<;>intro _))<;>conv=>whnf)
     all_goals try (exfalso;omega)
     all_goals (refine rsD [0,2] [] rfl ?_;(repeat' first|exact y84 _|exact z10 _|(refine z49 ?_;(omega))|refine z9 rfl (z5 (fun _=>rfl)) ?_|apply z72|constructor))
theorem z801 (rows:List (List Int)) (ini:List Int) (hr:∀ r∈rows,InN rows.length r) (hi:InN rows.length ini) (hn:ini.Nodup) (hN:rows.length≤100000) (hrl:∀ r∈rows,r.length≤1000000000):CallsA Tryz.prog 148 [lst 1 encL rows,ints ini] [] (.tup [ints (srP rows ini),ints (srQ rows ini)]) [] :=
 (z420 rows ini hr hi hn hN hrl).lend [] [0,1] rfl rfl rfl (z829 (z45 (z132 rfl rfl rfl) (z45 (z132 rfl rfl rfl) z74))) z40
theorem rowAt {rows:List (List Int)} {v:Int} (hv:0≤v∧v < rows.length):(rows.map encL)[v.toNat]?=some (encL (rows.getD v.toNat [])):=by
 rw [y50,y44 (by omega),z17 (by omega)];rfl
theorem rowLen {rows:List (List Int)} {M:Nat} (hrl:∀ r∈rows,r.length≤M) (v:Int):(rows.getD v.toNat []).length≤M:=by
 by_cases h:v.toNat < rows.length
 ·rw [z17 h];exact hrl _ (y43 _)
 ·rw [y66,y67 (by omega)];exact y52 _
set_option maxHeartbeats 3200000 in
theorem z937 (rows:List (List Int)) (v:Int) (hr:∀ r∈rows,InN rows.length r) (hv:0≤v∧v < rows.length) (hN:rows.length≤100000) (hrl:∀ r∈rows,r.length≤1000000000):CallsA Tryz.prog 149 [lst 1 encL rows,.int v] [] (ints (cycL rows v)) []:=by
 have hg:=rowAt hv
 have hl:=fun w=>rowLen hrl w
 have c1:=z622 (rows.getD v.toNat []) (by have:=hl v;unfold maxLen;omega) v
 have hlv:=hl v
 have c2:=z420 rows [v] hr (z316 hv) (by simp) hN hrl
 have hQ:=z672 hr (z316 hv) (by simp)
 have hB:=z854 hr (z316 hv) (by simp)
 have hPl:=z1011 hr (z316 hv) (by simp)
 have hQl:=z774 hr (z316 hv) (by simp)
 have c3:=fun k hk=>z705 (srP rows [v]) (by omega) rows.length _ (hB k hk) (by omega)
 unfold cycL
 by_cases h:v∈rows.getD v.toNat []
 ·rw [if_pos h]
  rw [y80 h] at c1
  generalize rows.getD v.toNat []=r0 at *
  refine z7 z14 Tryz.func149 rfl rfl 45 Tryz.ntmps149 (by simp) ?_
  repeat' ((first|(apply y4 ok;rfl)|(refine z16 (i:=v.toNat) (by simp) hg ?_)|(apply y42;omega)|(apply z4 (c1);rfl;rfl))<;>conv=>whnf)
  all_goals (refine rsD [] [0] rfl ?_;(repeat' first|exact y84 _|constructor))
 ·rw [if_neg h]
  rw [y81 h] at c1
  generalize hr0:rows.getD v.toNat []=r0 at hg c1 hlv
  generalize srQ rows [v]=Q at *
  generalize srP rows [v]=P at *
  generalize hR:cycT rows P v Q=R
  refine z7 z14 Tryz.func149 rfl rfl 45 Tryz.ntmps149 (by simp) ?_
  repeat' ((first|(apply y4 ok;rfl)|(refine z16 (i:=v.toNat) (by simp) hg ?_)|(apply y42;omega)|(apply z4 (c1);rfl;rfl)|(apply z93 [] [0] [1,2] c2;(focus ((repeat' first|exact z74|apply z45)<;>rfl));rfl;rfl;(focus ((repeat' first|exact z15|apply z12)<;>(refine z19 ?_;((exact z5 fun _=>rfl)))));((refine .inr ⟨rfl,?_⟩;repeat' first|exact True.intro|apply y42|exact z156 (fun _=>rfl) _))))<;>conv=>whnf)
  refine z63 (fun i:Nat=>([(0,lst 1 encL rows),(1,.int v),(5,ints P),(6,ints Q),(7,.int i)],[])) (fun i=>i≤Q.length∧cycT rows P v (Q.drop i)=R) (fun i=>Q.length - i) 0 ⟨y52 _,hR⟩ (by refine swR [] [1,2] rfl rfl ?_;(repeat' first|exact y84 _|((apply z41 rfl rfl rfl);(focus ((repeat ((exact z33 (fun _=>rfl) _)));done));(focus (((simp;done));done)))|constructor)) ?_
  rintro i ⟨hi1,hi2⟩
  by_cases hi3:i < Q.length
  ·have hq:=hQ _ (y43 hi3)
   have hgq:=rowAt hq
   have c4:=z622 (rows.getD Q[i].toNat []) (by have:=hl Q[i];unfold maxLen;omega) v
   have hlq:=hl Q[i]
   have c5:=c3 i hi3
   rw [y78 hi3,cycT] at hi2
   have hgi:(Q.map enI)[i]?=some (enI Q[i]):=by rw [y50,y44 hi3];rfl
   generalize Q[i]=u at *
   by_cases hm:v∈rows.getD u.toNat []
   ·rw [if_pos hm] at hi2
    rw [y80 hm] at c4
    subst hi2
    generalize rows.getD u.toNat []=r1 at *
    repeat' ((first|(apply y4 ok;rfl)|(refine z16 (i:=u.toNat) (by simp) hgq ?_)|(refine z16 (i:=i) (by simp) hgi ?_)|(apply y42;omega)|((apply z6)<;>intro _)|(apply z4 (c4);rfl;rfl)|(apply z4 (c5);rfl;rfl))<;>conv=>whnf)
    all_goals try (exfalso;omega)
    all_goals (refine rsD [] [] rfl ?_;(repeat' first|exact y84 _|constructor))
   ·rw [if_neg hm] at hi2
    rw [y81 hm] at c4
    generalize rows.getD u.toNat []=r1 at *
    repeat' ((first|(apply y4 ok;rfl)|(refine z16 (i:=u.toNat) (by simp) hgq ?_)|(refine z16 (i:=i) (by simp) hgi ?_)|(apply y42;first|omega|(unfold inI;omega))|((apply z6)<;>intro _)|(apply z4 (c4);rfl;rfl))<;>conv=>whnf)
    all_goals try (exfalso;omega)
    all_goals refine z26 (i+1) ⟨hi3,hi2⟩ (by omega) (by refine swR [] [] rfl rfl ?_;(repeat' first|exact y84 _|constructor))
  ·have e:Q.length=i:=by omega
   subst e
   rw [List.drop_length,cycT] at hi2
   subst hi2
   repeat' ((first|(apply y4 ok;rfl)|(apply y42;omega)|((first|(with_reducible apply z11;omega)|(with_reducible apply z87;omega));intro _)|((apply z6)<;>intro _))<;>conv=>whnf)
   all_goals try (exfalso;omega)
   all_goals (refine rsD [] [0] rfl ?_;(repeat' first|exact y84 _|constructor))
theorem z497 (l:List Int) (n:Nat) (hl:l.length≤1000000) (hn:1≤n) (h0:∀ x∈l,0≤x) (h1:∀ x∈l,x≤1000000000):CallsA Tryz.prog 151 [ints l,.int n] [] (.sref 0 0 l.length) [.cells 1 ((stL l n).map enI)]:=by
 refine z7 z14 Tryz.func151 rfl rfl 24 Tryz.ntmps151 (by simp) ?_
 repeat' (((apply y4 ok;rfl))<;>conv=>whnf)
 refine z63 (fun x:Nat×List Int=>([(0,ints l),(1,.int n),(5,.sref 0 0 x.2.length),(6,.int x.1)],[.cells 1 (x.2.map enI)])) (fun x=>x.1≤l.length∧x.2.length=x.1∧x.2=stL (l.take x.1) n) (fun x=>l.length - x.1) (0,[]) ⟨y52 _,rfl,rfl⟩ (by refine swR [0] [] rfl rfl ?_;(repeat' first|exact y84 _|refine z9 rfl (z25) ?_|constructor)) ?_
 rintro ⟨i,F⟩ ⟨hi1,hF1,hF2⟩
 dsimp only at hi1 hF1 hF2 ⊢
 by_cases hi2:i < l.length
 ·have a0:=h0 _ (y43 hi2)
  have a1:=h1 _ (y43 hi2)
  have a2:0≤l[i] / (n:Int):=Int.ediv_nonneg a0 (by omega)
  have a3:l[i] / (n:Int)≤l[i]:=Int.ediv_le_self _ a0
  have hF3:stL (l.take (i+1)) n=F++[l[i] / n]:=by rw [hF2,stL,y49 hi2,y62];rfl
  repeat' ((first|(apply y4 ok;rfl)|(apply y42;first|omega|(unfold inI;omega)|((try dsimp only);simp only [y48,y47,y46,y45,y56,y57];omega)|exact ⟨rfl,z20 rfl z28⟩)|(((with_reducible apply z11;omega));intro _)|((apply z6)<;>intro _))<;>conv=>whnf)
  all_goals try (exfalso;omega)
  all_goals refine z26 (i+1,F++[l[i] / n]) ⟨hi2,by rw [y46,hF1];rfl,hF3.symm⟩ (by show l.length - (i+1) < l.length - i;omega) (by refine swR [2] [] rfl rfl ?_;(repeat' first|exact y84 _|(refine z49 ?_;((simp;done)))|((refine z32 rfl ?_ ?_);(focus ((repeat' (first|exact z5 (fun _=>rfl)|apply z21));done)))|(refine z75 ?_ ?_;(focus (omega)))|constructor))
 ·have e:l.length=i:=by omega
  subst e
  rw [y54] at hF2
  subst hF2
  repeat' ((first|(apply y4 ok;rfl)|(apply y42;omega)|(((with_reducible apply z11;omega));intro _)|((apply z6)<;>intro _))<;>conv=>whnf)
  all_goals try (exfalso;omega)
  all_goals (refine rsD [0] [] rfl ?_;(repeat' first|exact z10 _|(refine z49 ?_;(omega))|refine z9 rfl (z5 (fun _=>rfl)) ?_|constructor))
theorem IniP.nd {l:List Int} {n:Int} (h:IniP l n l.length):l.Nodup:=by
 have hs:∀ d i (hi:i+d+1 < l.length),l[i] < l[i+d+1]:=by
  intro d
  induction d with
  |zero=>intro i hi;exact (h (i+1) hi hi).2 i rfl
  |succ d ih =>
   intro i hi
   have h1:=ih i (by omega)
   have h2:=(h (i+(d+1)+1) hi hi).2 (i+d+1) (by omega)
   omega
 rw [List.nodup_iff_pairwise_ne,List.pairwise_iff_getElem]
 intro i j hi hj hij
 have:=hs (j - i - 1) i (by omega)
 have e:i+(j - i - 1)+1=j:=by omega
 simp only [e] at this
 omega
noncomputable def trcO (g:Graph) (ls:List Int) (a:Aut):Option (List Int×List Int):=(finS (z46 g ls a) a.ini a.acc).map fun x=>(stL (x.1.take (x.1.length - 1)) a.acc.length,stL x.2 a.acc.length)
noncomputable def trcL (g:Graph) (ls:List Int) (a:Aut):List Int×List Int:=(trcO g ls a).getD ([],[])
set_option maxHeartbeats 6400000 in
theorem z1066 (g:Graph) (hG:GB g) (ls:List Int) (hls:ls.length=g.st.length) (hlr:∀ x∈ls,0≤x∧x≤7) (a:Aut) (hA:AutP a):CallsA Tryz.prog 74 [.agg g.cs,ints ls,.agg a.cs] [] (.tup [.agg [ints (trcL g ls a).1,ints (trcL g ls a).2],.bool (trcO g ls a).isSome]) []:=by
 have k2:=z702 g hG ls hls hlr a hA
 obtain ⟨f1,f2,f3,f4,f5⟩:=z398 hG hA ls
 have hlen:(z46 g ls a).length=g.st.length * a.acc.length:=by unfold z46;rw [z84,Nat.mul_comm]
 have hnd:=hA.2.2.1.nd
 have hac:=hA.1
 unfold trcL trcO finS
 generalize z46 g ls a=rows at *
 have k3:=z801 rows a.ini f1 f2 hnd (by omega) f4
 have hQ:=z672 f1 f2 hnd
 have hB:=z854 f1 f2 hnd
 have hPl:=z1011 f1 f2 hnd
 have hQl:=z774 f1 f2 hnd
 have hPle:=z1007 f1 f2 hnd rows.length
 have k4:=fun v hv=>z937 rows v f1 hv (by omega) f4
 have k5:=fun k hk=>z705 (srP rows a.ini) (by omega) rows.length _ (hB k hk) (by omega)
 have n4:=fun v hv=>z1105 f1 (v:=v) hv
 have m4:=fun v hv=>z1106 f1 (v:=v) hv
 change ∀ y∈srP rows a.ini,y≤(rows.length:Int) at hPle
 generalize srQ rows a.ini=Q at *
 generalize srP rows a.ini=P at *
 generalize hR:finT rows a.acc P Q=R
 refine z7 z14 Tryz.func74 rfl rfl 72 Tryz.ntmps74 (by simp) ?_
 repeat' ((first|(apply y4 ok;rfl)|(apply z4 (k2);rfl;rfl)|(apply z4 (k3);rfl;rfl))<;>conv=>whnf)
 refine z63 (fun i:Nat=>([(5,.ptr 0 none 0),(6,.ptr 1 none 0),(8,.int a.acc.length),(9,lst 1 encL rows),(10,ints P),(11,ints Q),(12,.int i)],[.cells 3 [a.cs],.cells 2 [[.nils,.nils]]])) (fun i=>i≤Q.length∧finT rows a.acc P (Q.drop i)=R) (fun i=>Q.length - i) 0 ⟨y52 _,hR⟩ (by refine swR [1,2] [] rfl rfl ?_;(repeat' first|exact y84 _|apply y85|constructor)) ?_
 rintro i ⟨hi1,hi2⟩
 by_cases hi3:i < Q.length
 ·have hq:=hQ _ (y43 hi3)
  have c5:=k5 i hi3
  rw [y78 hi3,finT] at hi2
  have hgi:(Q.map enI)[i]?=some (enI Q[i]):=by rw [y50,y44 hi3];rfl
  generalize Q[i]=u at *
  have hm0:0≤u % (a.acc.length:Int):=Int.emod_nonneg _ (by omega)
  have hm1:u % (a.acc.length:Int) < a.acc.length:=Int.emod_lt_of_pos _ (by omega)
  have hga:(a.acc.map enB)[(u % (a.acc.length:Int)).toNat]?=some (enB (a.acc.getD (u % (a.acc.length:Int)).toNat false)):=by
   rw [y50,y44 (by omega),z17 (by omega)];rfl
  have c4:=k4 u hq
  have l4:=z641 rows u
  have b1:=z517 P rows.length u []
  simp only [y57,Nat.add_zero] at b1
  have b2:=z516 P rows.length u []
  have b3:=z892 (P:=P) rows.length u [] hq.1 (fun x hx=>by cases hx)
  have b4:=z893 hPle rows.length u [] (by omega) (by omega) (fun x hx=>by cases hx)
  have n5:=n4 u hq
  have m5:=m4 u hq
  generalize bkw P rows.length u []=b at *
  generalize cycL rows u=c at *
  have c6:=z497 (b.take (b.length - 1)) a.acc.length (by rw [y47];omega) (by omega) (fun x hx=>b3 x (List.mem_of_mem_take hx)) (fun x hx=>by have:=b4 x (List.mem_of_mem_take hx);omega)
  rw [show (b.take (b.length - 1)).length=b.length - 1 by rw [y47];omega] at c6
  have eL:AC.list 1 (((b.length:Int) - 1).toNat - Int.toNat 0) (List.take (((b.length:Int) - 1).toNat - Int.toNat 0) (List.drop (Int.toNat 0) (List.map enI b)))=ints (b.take (b.length - 1)):=by
   rw [show ((b.length:Int) - 1).toNat - Int.toNat 0=b.length - 1 by rw [show Int.toNat 0=0 from rfl];omega]
   show _=AC.list 1 (b.take (b.length - 1)).length ((b.take (b.length - 1)).map enI)
   rw [show (b.take (b.length - 1)).length=b.length - 1 by rw [y47];omega,List.map_take];rfl
  rw [← eL] at c6
  have hs1:(stL (b.take (b.length - 1)) a.acc.length).length=b.length - 1:=by rw [stL,y48,y47];omega
  have hs2:(stL c a.acc.length).length=c.length:=by rw [stL,y48]
  have c7:=z497 c a.acc.length (by omega) (by omega) n5 (fun x hx=>by have:=m5 x hx;omega)
  generalize a.acc.getD (u % (a.acc.length:Int)).toNat false=z at *
  cases z
  ·rw [if_neg (by simp)] at hi2
   repeat' ((first|(apply y4 ok;rfl)|(apply z30;kernel_rfl)|(refine z16 (i:=i) (by simp) hgi ?_)|(refine z16 (i:=(u % (a.acc.length:Int)).toNat) (by simp) hga ?_)|(apply y42;first|omega|(unfold inI;omega))|((apply z6)<;>intro _))<;>conv=>whnf)
   all_goals try (exfalso;omega)
   all_goals refine z26 (i+1) ⟨hi3,hi2⟩ (by omega) (by refine swR [0,1] [] rfl rfl ?_;(repeat' first|exact y84 _|apply y85|constructor))
  ·rw [if_pos rfl] at hi2
   by_cases hc:0 < c.length
   ·rw [if_pos hc] at hi2
    subst hi2
    repeat' ((first|(apply y4 ok;rfl)|(apply z30;kernel_rfl)|(refine z16 (i:=i) (by simp) hgi ?_)|(refine z16 (i:=(u % (a.acc.length:Int)).toNat) (by simp) hga ?_)|(apply y42;first|omega|(unfold inI;omega))|((apply z6)<;>intro _)|(apply z4 (c4);rfl;rfl)|(apply z4 (c5);rfl;rfl)|((first|(apply z8 [] [2] c6;rfl;rfl)|(apply z8 [] [3] c7;rfl;rfl));rfl;(focus ((repeat' first|exact z15|apply z12)<;>(refine z19 ?_;((exact z5 fun _=>rfl)))))))<;>conv=>whnf)
    all_goals try (exfalso;omega)
    all_goals (refine rsD [] [2,3] rfl ?_;(repeat' first|exact y84 _|(refine z272 ?_;omega)|((apply z41 rfl rfl rfl);(focus ((repeat ((exact z33 (fun _=>rfl) _)));done));(focus (((simp;omega));done)))|apply z37|apply z72|constructor))
   ·rw [if_neg hc] at hi2
    repeat' ((first|(apply y4 ok;rfl)|(apply z30;kernel_rfl)|(refine z16 (i:=i) (by simp) hgi ?_)|(refine z16 (i:=(u % (a.acc.length:Int)).toNat) (by simp) hga ?_)|(apply y42;first|omega|(unfold inI;omega))|((apply z6)<;>intro _)|(apply z4 (c4);rfl;rfl)|(apply z4 (c5);rfl;rfl))<;>conv=>whnf)
    all_goals try (exfalso;omega)
    all_goals refine z26 (i+1) ⟨hi3,hi2⟩ (by omega) (by refine swR [0,1] [] rfl rfl ?_;(repeat' first|exact y84 _|apply y85|constructor))
 ·have e:Q.length=i:=by omega
  subst e
  rw [List.drop_length,finT] at hi2
  subst hi2
  repeat' ((first|(apply y4 ok;rfl)|(apply z30;kernel_rfl)|(apply y42;omega)|((first|(with_reducible apply z11;omega)|(with_reducible apply z87;omega));intro _)|((first|apply z6|apply z101)<;>intro _))<;>conv=>whnf)
  all_goals try (exfalso;omega)
  all_goals (refine rsD [] [] rfl ?_;(repeat' first|exact y84 _|exact z29|apply z37|apply z72|constructor))
end Go.Proofs.YtahhobgjcfionaaGreat
namespace Go.Proofs.YtahhobgjcfionaaGreat
open Go.Gl
attribute [local irreducible] z18
end Go.Proofs.YtahhobgjcfionaaGreat
namespace Go.Proofs.YtahhobgjcfionaaGreat
open Go.Gl
attribute [local irreducible] z18 AWP z34 z39 z38
section
open Go.ChangeShapes Go.WideShapes Go.ChangeAt Go.RowKit
theorem and_mk {a b:Bool} (h:a=true) (k:b=true):(a && b)=true:=by rw [h,k];rfl
theorem own:ownKnob Tryz.prog.godebug=none:=by kernel_rfl
theorem z565:laidOutB Tryz.prog=true:=by kernel_rfl
end
end Go.Proofs.YtahhobgjcfionaaGreat
namespace Go.Proofs.YtahhobgjcfionaaGreat
open Go.Gl
attribute [local irreducible] z18 AWP z34 z39 z38
theorem z649:ArgD Tryz.prog 22 (lst 1 enU) CodeOk :=
 (z1127 (enc1:=lst 1 enU) Tryz.underlying22 (od_list 1 (encL:=fun l=>[lst 1 enU l]) Tryz.underlying22 (by kernel_rfl) (by decide) (od_byte (enc:=enU) Tryz.underlying5 (fun _=>rfl)) (fun _=>rfl)) (fun _=>rfl)).imp fun l h=>⟨l,rfl,h.1,fun x hx=>by
  have:=h.2 x hx
  have h1:IntKind.min .u8=0:=by decide
  have h2:IntKind.max .u8=255:=by decide
  simpa [Lit.wf,h1,h2] using this⟩
end Go.Proofs.YtahhobgjcfionaaGreat
namespace Go.Proofs.YtahhobgjcfionaaGreat
open Go.Gl
attribute [local irreducible] z18 AWP z34 z39 z38 RetS z43
theorem z638 (a:Aut) (hA:AutP a) (x:Int) (h0:0≤x):CallsA Tryz.prog 70 [.int x,.pt a.cs,.pt [.int a.acc.length]] [] (.bool (a.acc.getD (x % a.acc.length).toNat false)) []:=by
 have hac:=hA.1
 have hm0:0≤x % (a.acc.length:Int):=Int.emod_nonneg _ (by omega)
 have hm1:x % (a.acc.length:Int) < a.acc.length:=Int.emod_lt_of_pos _ (by omega)
 have hga:(a.acc.map enB)[(x % (a.acc.length:Int)).toNat]?=some (enB (a.acc.getD (x % (a.acc.length:Int)).toNat false)):=by
  rw [y50,y44 (by omega),z17 (by omega)];rfl
 refine z7 z14 Tryz.func70 rfl rfl 12 Tryz.ntmps70 (by simp) ?_
 repeat' ((first|(apply y4 ok;rfl)|(apply z30;kernel_rfl)|(refine z16 (i:=(x % (a.acc.length:Int)).toNat) rfl hga ?_)|(apply y42;omega))<;>conv=>whnf)
 all_goals (refine rsD [] [] rfl ?_;(repeat' first|exact y84 _|constructor))
set_option maxHeartbeats 1600000 in
theorem z319 (l:List Int) (n:Nat) (hl:l.length≤1000000) (hn:1≤n) (h0:∀ x∈l,0≤x) (h1:∀ x∈l,x≤1000000000):CallsA Tryz.prog 71 [ints l,.pt [.int n]] [] (.sref 0 0 l.length) [.cells 1 ((stL l n).map enI)]:=by
 refine z7 z14 Tryz.func71 rfl rfl 25 Tryz.ntmps71 (by simp) ?_
 repeat' ((first|(apply y4 ok;rfl)|(apply y42;(dsimp only;omega)))<;>conv=>whnf)
 obtain ⟨qm,hqm⟩:∃ qm:Nat→Nat→Int,qm=fun i j=>if j < i then l.getD j 0 / n else 0:=⟨_,rfl⟩
 have q0:qm 0=fun _=>0:=by rw [hqm];rfl
 have qE:fnL l.length (qm l.length)=stL l n:=by
  apply y73 (by simp [fnL,stL])
  intro i h1 h2
  have hi' : i < l.length:=by rw [z113] at h1;exact h1
  rw [z636,hqm]
  dsimp only
  rw [if_pos hi',z17 hi'];simp [stL]
 have qS:∀ i (h:i < l.length),qm (i+1)=upd (qm i) i (l[i] / n):=fun i h=>by
  funext j
  by_cases h2:j=i
  ·subst h2;rw [z27,hqm];dsimp only;rw [if_pos (by omega),z17 h]
  ·rw [z48 _ _ h2,hqm];dsimp only;split<;>split<;>first|rfl|omega
 clear hqm
 refine z63 (fun i:Nat=>([(1,.pt [.int n]),(4,.sref 0 0 l.length),(10,ints l),(11,.int l.length),(12,.int i)],[.cells 1 ((fnL l.length (qm i)).map enI)])) (fun i=>i≤l.length) (fun i=>l.length - i) 0 (y52 _) (by refine swR [0] [] rfl rfl ?_;(repeat' first|exact y84 _|refine z9 rfl (z78 rfl) ?_|constructor)<;>((refine z53 ?_;rw [q0];exact z295 _))) ?_
 intro i hi
 by_cases hi2:i < l.length
 ·have g1:=z171 (qm i) hi2
  have l1:=z113 l.length (qm i)
  have e1:=z146 (N:=l.length) (u:=i) (qm i) (l[i] / n)
  rw [← qS i hi2] at e1
  have gk:(l.map enI)[i]?=some (enI l[i]):=by rw [y50,y44 hi2];rfl
  have b0:=h0 _ (y43 hi2)
  have b1:=h1 _ (y43 hi2)
  generalize l[i]=v at *
  have d0:0≤v / (n:Int):=Int.ediv_nonneg b0 (by omega)
  have d1:v / (n:Int)≤v:=Int.ediv_le_self _ b0
  repeat' ((first|(apply y4 ok;rfl)|(refine z16 (i:=i) rfl gk ?_)|(refine z16 (i:=i) rfl g1 ?_)|(apply y42;first|omega|(unfold inI;omega))|((apply z6)<;>intro _))<;>conv=>whnf)
  all_goals try (exfalso;omega)
  all_goals refine z26 (i+1) hi2 (by omega) (by refine swR [0] [] rfl rfl ?_;(repeat' first|exact y84 _|refine z65 rfl (z5 (fun _=>rfl)) ?_|constructor)<;>((refine z53 ?_;exact e1)))
 obtain rfl:i=l.length:=by omega
 rw [qE]
 repeat' ((first|(apply y4 ok;rfl)|(apply y42;omega)|((first|(with_reducible apply z11;omega)|(apply z11;omega));intro _)|((apply z6)<;>intro _))<;>conv=>whnf)
 all_goals try (exfalso;omega)
 all_goals (refine rsD [0] [] rfl ?_;(repeat' first|exact y84 _|exact z10 _|refine z9 rfl (z5 (fun _=>rfl)) ?_|constructor))
noncomputable def ftO (g:Graph) (l:List Tree) (a:Aut):Option (List Int×List Int):=if (glB g l && autB a)=true then trcO g (g.st.map (z51 l)) a else none
noncomputable def ftL (g:Graph) (l:List Tree) (a:Aut):Trace:=let t:=(ftO g l a).getD ([],[]);⟨t.1,t.2⟩
set_option maxHeartbeats 6400000 in
theorem z405 (g:Graph) (hg:g.mx) (l:List Tree) (hl:Lmx l) (a:Aut) (ha:a.mx):CallsA Tryz.prog 16 [.agg g.cs,lst 3 Tree.cs' l,.agg a.cs] [] (.tup [.agg [.sref 0 0 (ftL g l a).stem.length,.sref 1 0 (ftL g l a).loop.length],.bool (ftO g l a).isSome]) [.cells 1 ((ftL g l a).stem.map enI),.cells 1 ((ftL g l a).loop.map enI)]:=by
 have k0:=z966 g hg l hl a ha
 by_cases hgl:(glB g l && autB a)=true
 ·rw [hgl] at k0
  obtain ⟨h1,hab⟩:=Bool.and_eq_true_iff.1 hgl
  have hG:=(z124 g).1 (by unfold glB at h1;exact (Bool.and_eq_true_iff.1 h1).1)
  have hL:=y8 (by unfold glB at h1;exact (Bool.and_eq_true_iff.1 h1).2)
  have hA:=z208.1 hab
  have k1:=z923 g hG l hL a hA
  obtain ⟨f1,f2,f3,f4,f5⟩:=z398 hG hA (g.st.map (z51 l))
  have hnd:=hA.2.2.1.nd
  have hac:=hA.1
  have k2:=z1062 (z46 g (g.st.map (z51 l)) a) a.ini f1 f2 hnd (by omega) f4 (fun v=>a.acc.getD (v % a.acc.length).toNat false) 70 a.cs [.int a.acc.length] (fun x h0 _=>z638 a hA x h0)
  unfold ftL ftO
  rw [if_pos hgl]
  unfold lasR at k2
  unfold trcO
  rw [z442 f1 f2 hnd] at k2
  have hlen:(z46 g (g.st.map (z51 l)) a).length=g.st.length * a.acc.length:=by unfold z46;rw [z84,Nat.mul_comm]
  have hF:∀ p q,finS (z46 g (g.st.map (z51 l)) a) a.ini a.acc=some (p,q)→(∀ x∈p,0≤x∧x≤100000)∧(∀ x∈q,0≤x∧x≤100000)∧p.length≤100000∧q.length≤100000:=by
   intro p q h
   rw [← z442 f1 f2 hnd] at h
   obtain ⟨b1,b2,b3,b4,_⟩:=lasL_bd f1 f2 hnd h
   exact ⟨fun x hx=>by have:=b1 x hx;omega,fun x hx=>by have:=b2 x hx;omega,by omega,by omega⟩
  generalize z46 g (g.st.map (z51 l)) a=rows at *
  cases hfin:finS rows a.ini a.acc with
  |none =>
   rw [hfin] at k2
   change CallsA _ _ _ _ (.tup [.sref 0 0 0,.sref 1 0 0,.bool false]) [.cells 1 [],.cells 1 []] at k2
   show CallsA _ _ _ _ (.tup [.agg [.sref 0 0 0,.sref 1 0 0],.bool false]) [.cells 1 [],.cells 1 []]
   refine z7 z14 Tryz.func16 rfl rfl 50 Tryz.ntmps16 (by simp) ?_
   repeat' ((first|(apply y4 ok;rfl)|(apply z4 (k0);rfl;rfl)|(apply z4 (k1);rfl;rfl)|(apply z93 [] [1,3] [4,5] k2;(focus ((repeat' first|exact z74|apply z45)<;>rfl));rfl;rfl;(focus ((repeat' first|exact z15|apply z12)<;>(refine z19 ?_;(exact z25))));((refine .inr ⟨rfl,?_⟩;repeat' first|exact True.intro|apply y42|exact rfl))))<;>conv=>whnf)
   all_goals (refine y87 1 ?_;refine y87 1 ?_;refine rsD [6,7] [] rfl ?_;(repeat' first|exact y84 _|exact z42|refine z9 rfl (z25) ?_|apply z37|apply z72|constructor))
  |some pq =>
   obtain ⟨p,q⟩:=pq
   rw [hfin] at k2
   obtain ⟨b1,b2,b3,b4⟩:=hF p q hfin
   change CallsA _ _ _ _ (.tup [.sref 0 0 (p.take (p.length - 1)).length,.sref 1 0 q.length,.bool true]) [.cells 1 ((p.take (p.length - 1)).map enI),.cells 1 (q.map enI)] at k2
   have s1:=z319 (p.take (p.length - 1)) a.acc.length (by rw [y47];omega) (by omega) (fun x hx=>(b1 x (List.mem_of_mem_take hx)).1) (fun x hx=>by have:=(b1 x (List.mem_of_mem_take hx)).2;omega)
   have s2:=z319 q a.acc.length (by omega) (by omega) (fun x hx=>(b2 x hx).1) (fun x hx=>by have:=(b2 x hx).2;omega)
   have e1:(stL (p.take (p.length - 1)) a.acc.length).length=(p.take (p.length - 1)).length:=by simp [stL]
   have e2:(stL q a.acc.length).length=q.length:=by simp [stL]
   show CallsA _ _ _ _ (.tup [.agg [.sref 0 0 (stL (p.take (p.length - 1)) a.acc.length).length,.sref 1 0 (stL q a.acc.length).length],.bool true]) [.cells 1 ((stL (p.take (p.length - 1)) a.acc.length).map enI),.cells 1 ((stL q a.acc.length).map enI)]
   rw [e1,e2]
   generalize stL (p.take (p.length - 1)) a.acc.length=S1 at *
   generalize stL q a.acc.length=S2 at *
   generalize p.take (p.length - 1)=p' at *
   refine z7 z14 Tryz.func16 rfl rfl 50 Tryz.ntmps16 (by simp) ?_
   repeat' ((first|(apply y4 ok;rfl)|(apply z4 (k0);rfl;rfl)|(apply z4 (k1);rfl;rfl)|((first|(apply z93 [] [1,3] [4,5] k2;(focus ((repeat' first|exact z74|apply z45)<;>rfl));rfl)|(apply z93 [] [3,4] [6] s1;(focus ((repeat' first|exact z74|apply z45)<;>first|exact z132 rfl rfl rfl|rfl));rfl)|(apply z93 [] [3,5] [7] s2;(focus ((repeat' first|exact z74|apply z45)<;>first|exact z132 rfl rfl rfl|rfl));rfl));rfl;(focus ((repeat' first|exact z15|apply z12)<;>(refine z19 ?_;((exact z5 fun _=>rfl)))));((refine .inr ⟨rfl,?_⟩;repeat' first|exact True.intro|apply y42|exact z156 (fun _=>rfl) _))))<;>conv=>whnf)
   all_goals (refine rsD [6,7] [] rfl ?_;(repeat' first|exact y84 _|exact z10 _|refine z9 rfl (z5 (fun _=>rfl)) ?_|constructor))
 ·have hgl:=(y70 _).mp hgl
  rw [hgl] at k0
  have e1:ftO g l a=none:=by unfold ftO;rw [hgl];rfl
  unfold ftL
  rw [e1]
  show CallsA _ _ _ _ (.tup [.agg [.sref 0 0 0,.sref 1 0 0],.bool false]) [.cells 1 [],.cells 1 []]
  refine z7 z14 Tryz.func16 rfl rfl 50 Tryz.ntmps16 (by simp) ?_
  repeat' ((first|(apply y4 ok;rfl)|(apply z4 (k0);rfl;rfl))<;>conv=>whnf)
  all_goals (refine y87 1 ?_;refine y87 1 ?_;refine rsD [3,4] [] rfl ?_;(repeat' first|exact y84 _|exact z42|refine z9 rfl (z25) ?_|apply z37|apply z72|constructor))
end Go.Proofs.YtahhobgjcfionaaGreat
