/- A part of the proofs over this program: T183, T113, T184, T185, T64, T65, T66, T154, T155, T156, T157, T158. -/
import Derived.Test.YtjhgpfaodkchjaaGreatG0
import Derived.Test.YtjhgpfaodkchjaaGreatG1
import Derived.Test.YtjhgpfaodkchjaaGreatG2
import Derived.Test.YtjhgpfaodkchjaaGreatG3
import Derived.Test.YtjhgpfaodkchjaaGreatP0
import Derived.Test.YtjhgpfaodkchjaaGreatP1
import Derived.Test.YtjhgpfaodkchjaaGreatP2
import Derived.Test.YtjhgpfaodkchjaaGreatP3
import Derived.Test.YtjhgpfaodkchjaaGreatP4
import Derived.Test.YtjhgpfaodkchjaaGreatP5
set_option linter.all false
namespace Go.Proofs.YtjhgpfaodkchjaaGreat
open Go.Gl
attribute [local irreducible] z18 AWP z30 z37 z33 RetS z44
def inM (Q:List Int) (i:Nat):Bool:=decide ((i:Int)∈Q)
theorem inM_upd (Q:List Int) (w:Nat):inM (Q++[(w:Int)])=upd (inM Q) w true:=by
 funext j
 by_cases h:j=w
 ·subst h;rw [z31];unfold inM;simp
 ·rw [z54 _ _ h];unfold inM;congr 1
  have:¬ (j:Int)=w:=by omega
  simp [this]
theorem inM_nil:inM []=fun _=>false:=by funext j;simp [inM]
@[reducible] def findF:AC:=.fn (.func 154) [] [.ptr 0 none 0,.ptr 2 none 0]
@[reducible] def z1138 (N:Nat) (Q:List Int):List AObj:=[.cells 1 [[.sref 1 0 N]],.cells 1 ((fnB N (inM Q)).map enB),.cells 1 [[.own 1 (Q.map enI)]]]
set_option maxHeartbeats 3200000 in
theorem z786 (N : Nat) (hN : N ≤ 100000) (Q : List Int) (hQ : Q.length ≤ 100000) (v : Int) (hv : 0 ≤ v ∧ v < N) :
    CallsA Tryz.prog 154 [.int v,.ptr 0 none 0,.ptr 2 none 0] (z1138 N Q) (.tup []) (z1138 N (z199 Q v)):=by
  obtain ⟨w,rfl⟩:∃ w:Nat,v=w:=⟨v.toNat,by omega⟩
  have hw:w < N:=by omega
  have g1:=z1188 (inM Q) hw
  have l1:=z1187 N (inM Q)
  unfold z199
  by_cases h:(w:Int)∈Q
  · rw [if_pos h]
    have e:inM Q w=true:=by unfold inM;simp [h]
    rw [e] at g1
    refine z7 z16 Tryz.func154 rfl rfl 16 Tryz.ntmps154 (by simp) ?_
    repeat' ((first|(apply y4 ok;rfl)|(refine z12 (i:=w) rfl g1 ?_)|(apply y43;omega))<;>conv=>whnf)
    all_goals (refine rsD [0,1,2] [] rfl ?_;(repeat' first|exact y86 _|exact z9 _|apply y87|refine z8 rfl (z5 (fun _=>rfl)) ?_|constructor))
  · rw [if_neg h]
    have e:inM Q w=false:=by unfold inM;simp [h]
    rw [e] at g1
    have e1:=z961 (N:=N) (u:=w) (inM Q) true
    rw [← inM_upd] at e1
    have e2:(List.map enI Q).take (List.map enI Q).length++[enI (w:Int)]=(Q++[(w:Int)]).map enI:=by
      rw [y56];simp
    refine z7 z16 Tryz.func154 rfl rfl 16 Tryz.ntmps154 (by simp) ?_
    repeat' ((first|((fail_if_success apply z93 2);(fail_if_success apply z77 2);apply y4 ok;rfl)|(refine z12 (i:=w) rfl g1 ?_)|(apply y43;omega))<;>conv=>whnf)
    all_goals
      refine y85 (Gl.Reach.expose 2 0 0 rfl rfl rfl (z150 (fun _=>rfl) _) rfl) ?_
      conv=>whnf
      repeat' ((first|(apply y4 ok;rfl)|(apply y43;first|((try dsimp only);simp only [y49,y48,y47,y46,y58,y59];omega)|exact ⟨rfl,z20 rfl z27⟩))<;>conv=>whnf)
      refine Gl.RetS.absorb 2 5 0 0 rfl rfl rfl rfl (by simp) rfl (z65 (fun e he=>(z5 (fun _=>rfl)) e (List.mem_of_mem_take he)) (z207 rfl z23)) ?_
      conv=>whnf
      (refine rsD [0,1,2] [] rfl ?_;(repeat' first|exact y86 _|apply y87|refine z58 rfl (z5 (fun _=>rfl)) ?_|constructor))
      all_goals first|(refine z51 ?_;exact e1)|exact y9 (congrArg (AC.own 1) e2)
set_option maxHeartbeats 6400000 in
theorem z1133 (rows : List (List Int)) (ini : List Int) (hr : ∀ r ∈ rows, InN rows.length r) (hi : InN rows.length ini) (hN : rows.length ≤ 100000) (hrl : ∀ r ∈ rows, r.length ≤ 1000000000) (hil : ini.length ≤ 1000000000) :
    CallsA Tryz.prog 77 [lst 1 encL rows,ints ini] [] (.sref 0 0 (bfsL rows ini).length) [.cells 1 ((bfsL rows ini).map enI)]:=by
  have hvl:∀ l:List Int,InN rows.length l→(z101 [] l).length≤100000:=fun l hl=>by
    have:=z161 rows.length (z101 [] l) (z210 (by simp)) (z364 (fun x hx=>by cases hx) hl)
    omega
  refine z7 z16 Tryz.func77 rfl rfl 50 Tryz.ntmps77 (by simp) ?_
  repeat' ((first|(apply y4 ok;rfl)|(apply y43;(dsimp only;omega)))<;>conv=>whnf)
  refine z63 (fun i:Nat=>([(0,lst 1 encL rows),(6,.ptr 2 none 0),(7,findF),(17,ints ini),(18,.int ini.length),(19,.int i)],z1138 rows.length (z101 [] (ini.take i)))) (fun i=>i≤ini.length) (fun i=>ini.length - i) 0 (y53 _) (by refine swR [1,0,2] [] rfl rfl ?_;(repeat' first|exact y86 _|apply y87|refine z8 rfl (z50 rfl) ?_|constructor)<;>(first|exact z391|(refine z51 ?_;show _=(fnB rows.length (inM [])).map enB;rw [inM_nil];exact z960 _))) ?_
  intro i hil1
  by_cases hil2:i < ini.length
  · have gk:(ini.map enI)[i]?=some (enI ini[i]):=by rw [y51,y45 hil2];rfl
    have hv:=hi _ (y44 hil2)
    have hQl:=hvl (ini.take i) fun x hx=>hi x (List.mem_of_mem_take hx)
    have e1:=z490 (out:=[]) hil2
    generalize ini[i]=v at *
    have cf:=z786 rows.length hN (z101 [] (ini.take i)) hQl v hv
    rw [← e1] at cf
    repeat' ((first|(apply y4 ok;rfl)|(refine z12 (i:=i) rfl gk ?_)|(apply y43;first|omega|(unfold inI;omega))|((apply z6)<;>intro _)|(apply z115 [0,1,2] [] cf;rfl;(focus ((repeat' first|exact z32|apply z45)<;>first|rfl|(refine z59 rfl ?_;((exact z5 fun _=>rfl)))));rfl;(focus ((repeat' first|exact z17|apply z14)<;>first|exact z47 rfl rfl|(refine z19 ?_;((exact z5 fun _=>rfl)))))))<;>conv=>whnf)
    all_goals try (exfalso;omega)
    all_goals refine z25 (i+1) hil2 (by omega) (by refine swR [0,1,2] [] rfl rfl ?_;(repeat' first|exact y86 _|exact z9 _|apply y87|refine z8 rfl (z5 (fun _=>rfl)) ?_|constructor))
  obtain rfl:i=ini.length:=by omega
  rw [y56]
  repeat' ((first|(apply y4 ok;rfl)|(apply y43;omega)|(((with_reducible apply z11;omega));intro _)|((apply z6)<;>intro _))<;>conv=>whnf)
  all_goals try (exfalso;omega)
  refine z63 (fun i:Nat=>([(0,lst 1 encL rows),(6,.ptr 2 none 0),(7,findF),(10,.int i)],z1138 rows.length (bfs rows ini i))) (fun i=>i≤rows.length) (fun i=>rows.length - i) 0 (y53 _) (by refine swR [0,1,2] [] rfl rfl ?_;(repeat' first|exact y86 _|exact z9 _|apply y87|refine z8 rfl (z5 (fun _=>rfl)) ?_|constructor)) ?_
  intro i hi1
  have hQl:=z905 hr hi i
  have hQi:=z629 hr hi i
  refine y85 (Gl.Reach.expose 2 0 0 rfl rfl rfl (z150 (fun _=>rfl) _) rfl) ?_
  by_cases hi2:i < (bfs rows ini i).length
  · have hx:=hQi _ (y44 hi2)
    have gx:((bfs rows ini i).map enI)[i]?=some (enI (bfs rows ini i)[i]):=by rw [y51,y45 hi2];rfl
    have hnx:bfs rows ini (i+1)=z101 (bfs rows ini i) (rows.getD ((bfs rows ini i)[i]).toNat []):=by rw [bfs,dif_pos hi2]
    have hnd:=z807 (rows:=rows) (ini:=ini) i
    generalize hQ' : bfs rows ini (i+1)=Q' at *
    generalize (bfs rows ini i)[i]=x at *
    generalize hQ:bfs rows ini i=Q at *
    obtain ⟨u,rfl⟩:∃ u:Nat,x=u:=⟨x.toNat,by omega⟩
    rw [y77] at hnx
    have hu:u < rows.length:=by omega
    have gr:=z515 hu
    have hrow:=z211 hr (u:Int)
    rw [y77] at hrow
    have hrowl:(rows.getD u []).length≤1000000000:=by rw [z15 hu];exact hrl _ (y44 _)
    generalize rows.getD u []=row at *
    repeat' ((first|(apply y4 ok;rfl)|(refine z12 (i:=i) rfl gx ?_)|(refine z12 (i:=u) rfl gr ?_)|(apply y43;omega)|((apply z6)<;>intro _))<;>conv=>whnf)
    all_goals first|(exfalso;simp at *;omega)|skip
    all_goals
      refine y85 (Gl.Reach.absorb 2 3 0 0 rfl rfl rfl rfl (by simp) rfl (z5 fun _=>rfl) rfl) ?_
      refine z63 (fun j:Nat=>([(0,lst 1 encL rows),(6,.ptr 2 none 0),(7,findF),(10,.int i),(39,ints row),(40,.int row.length),(41,.int j)],z1138 rows.length (z101 Q (row.take j)))) (fun j=>j≤row.length) (fun j=>row.length - j) 0 (y53 _) (by refine swR [0,1,2] [] rfl rfl ?_;(repeat' first|exact y86 _|exact z9 _|apply y87|refine z8 rfl (z5 (fun _=>rfl)) ?_|constructor)) ?_
      intro j hj
      by_cases hj2:j < row.length
      · have gj:(row.map enI)[j]?=some (enI row[j]):=by rw [y51,y45 hj2];rfl
        have hv:=hrow _ (y44 hj2)
        have hWl:(z101 Q (row.take j)).length≤100000:=by
          have:=z161 rows.length (z101 Q (row.take j)) (z210 hnd) (z364 hQi fun x hx=>hrow x (List.mem_of_mem_take hx))
          omega
        have e1:=z490 (out:=Q) hj2
        generalize row[j]=v at *
        have cf:=z786 rows.length hN (z101 Q (row.take j)) hWl v hv
        rw [← e1] at cf
        repeat' ((first|(apply y4 ok;rfl)|(refine z12 (i:=j) rfl gj ?_)|(apply y43;first|omega|(unfold inI;omega))|((apply z6)<;>intro _)|(apply z115 [0,1,2] [] cf;rfl;(focus ((repeat' first|exact z32|apply z45)<;>first|rfl|(refine z59 rfl ?_;((exact z5 fun _=>rfl)))));rfl;(focus ((repeat' first|exact z17|apply z14)<;>first|exact z47 rfl rfl|(refine z19 ?_;((exact z5 fun _=>rfl)))))))<;>conv=>whnf)
        all_goals try (exfalso;omega)
        all_goals refine z25 (j+1) hj2 (by omega) (by refine swR [0,1,2] [] rfl rfl ?_;(repeat' first|exact y86 _|exact z9 _|apply y87|refine z8 rfl (z5 (fun _=>rfl)) ?_|constructor))
      obtain rfl:j=row.length:=by omega
      rw [y56,← hnx]
      repeat' ((first|(apply y4 ok;rfl)|(apply y43;first|omega|(unfold inI;omega))|(((with_reducible apply z11;omega));intro _)|((apply z6)<;>intro _))<;>conv=>whnf)
      all_goals try (exfalso;omega)
      all_goals refine z25 (i+1) (by omega) (by omega) ?_
      all_goals dsimp only
      all_goals rw [hQ']
      all_goals exact (by refine swR [0,1,2] [] rfl rfl ?_;(repeat' first|exact y86 _|exact z9 _|apply y87|refine z8 rfl (z5 (fun _=>rfl)) ?_|constructor))
  · have hE:=bfsL_end hr hi (i:=i) (by omega) hi1
    rw [← hE]
    repeat' ((first|(apply y4 ok;rfl)|(apply y43;omega)|((apply z6)<;>intro _))<;>conv=>whnf)
    all_goals first|(exfalso;simp at *;omega)|skip
    all_goals (refine rsD [3] [] rfl ?_;(repeat' first|exact z9 _|(refine z52 ?_;((simp;done)))|refine z8 rfl (z5 (fun _=>rfl)) ?_|constructor))
theorem swp_map (l:List Int) (i j:Nat):((l.map enI).set i (enI (l.getD j 0))).set j (enI (l.getD i 0))=(swp l i j).map enI:=by
 unfold swp;rw [List.map_set,List.map_set]
set_option maxHeartbeats 1600000 in
theorem z597 (l:List Int) (h1:1≤l.length) (h2:l.length≤1048576):CallsA Tryz.prog 246 [.sref 0 0 l.length] [.cells 1 (l.map enI)] (.tup []) [.cells 1 ((rvs l).map enI)]:=by
 have hR:revG l.length 0 (l.length - 1) l=rvs l:=rfl
 generalize rvs l=R at *
 generalize hn:l.length=n at *
 refine z7 z16 Tryz.func246 rfl rfl 28 Tryz.ntmps246 (by simp) ?_
 repeat' ((first|(apply y4 ok;rfl)|(apply y43;(unfold inI;omega)))<;>conv=>whnf)
 refine z63 (fun x:Nat×Nat×List Int=>([(0,.sref 0 0 n),(2,.int x.1),(3,.int x.2.1)],[.cells 1 (x.2.2.map enI)])) (fun x=>x.1≤n∧x.2.1 < n∧x.2.2.length=n∧revG (n - x.1) x.1 x.2.1 x.2.2=R) (fun x=>n - x.1) (0,n - 1,l) ⟨by simp,by show n - 1 < n;omega,hn,hR⟩ (by refine swR [0] [] rfl rfl ?_;(repeat' first|exact y86 _|exact z9 _|refine z8 rfl (z5 (fun _=>rfl)) ?_|constructor)<;>((rw [show ((n - 1:Nat):Int)=(n:Int) - 1 by omega];exact y86 _))) ?_
 rintro ⟨i,j,l'⟩ ⟨i1,i2,i3,i4⟩
 dsimp only at i1 i2 i3 i4 ⊢
 by_cases hij:i < j
 ·rw [show n - i=(n - (i+1))+1 by omega,revG,if_pos hij] at i4
  have gi:(l'.map enI)[i]?=some (enI (l'.getD i 0)):=by rw [y51,y45 (by omega),z15 (by omega)];rfl
  have gj:(l'.map enI)[j]?=some (enI (l'.getD j 0)):=by rw [y51,y45 (by omega),z15 (by omega)];rfl
  have gj2:((l'.map enI).set i (enI (l'.getD j 0)))[j]?=some (enI (l'.getD j 0)):=by rw [List.getElem?_set_ne (by omega)];exact gj
  have es:=swp_map l' i j
  repeat' ((first|(apply y4 ok;rfl)|(apply z22;kernel_rfl)|(refine z12 (i:=i) rfl gi ?_)|(refine z12 (i:=j) rfl gj ?_)|(refine z12 (i:=j) rfl gj2 ?_)|(apply y43;first|omega|(unfold inI;omega))|((apply z6)<;>intro _))<;>conv=>whnf)
  all_goals try (exfalso;omega)
  all_goals refine z25 (i+1,j - 1,swp l' i j) ⟨by show i+1≤n;omega,by show j - 1 < n;omega,by show (swp l' i j).length=n;simp [swp,i3],i4⟩ (by show n - (i+1) < n - i;omega) (by refine swR [0] [] rfl rfl ?_;(repeat' first|exact y86 _|((refine z58 rfl ?_ ?_);(focus ((repeat' (first|exact z5 (fun _=>rfl)|(refine z1190 ?_ _ rfl)));done)))|constructor)<;>(first|(rw [show ((j - 1:Nat):Int)=(j:Int) - 1 by omega];exact y86 _)|exact z51 es))
 ·have:revG (n - i) i j l'=l':=by cases n - i<;>simp [revG,hij]
  rw [this] at i4
  subst i4
  repeat' ((first|(apply y4 ok;rfl)|(apply y43;omega)|(((apply z11;omega));intro _)|((apply z6)<;>intro _))<;>conv=>whnf)
  all_goals try (exfalso;omega)
  all_goals (refine rsD [0] [] rfl ?_;(repeat' first|exact y86 _|exact z9 _|refine z8 rfl (z5 (fun _=>rfl)) ?_|constructor))
theorem z436 {N w:Nat} (Q P:List Int) (hw:w < N):((frm N Q P).map enI)[w]?=some (enI (if (w:Int)∈Q then P.getD w 0 else -2)):=by
 unfold frm
 rw [y51,y51,List.getElem?_range hw];rfl
theorem z481 {N w:Nat} {Q P:List Int} {u:Int} (hw:w < N) (hP:P.length=N):((frm N Q P).map enI).set w (enI u)=(frm N (Q++[(w:Int)]) (P.set w u)).map enI:=by
 have:=frm_set (N:=N) (Q:=Q) (P:=P) (v:=(w:Int)) (u:=u) ⟨by omega,by omega⟩ hP
 rw [y77] at this
 rw [← this,List.map_set]
set_option maxHeartbeats 12800000 in
theorem z661 (rows : List (List Int)) (ini : List Int) (hr : ∀ r ∈ rows, InN rows.length r) (hi : InN rows.length ini) (hn : ini.Nodup) (hN : rows.length ≤ 100000) (hrl : ∀ r ∈ rows, r.length ≤ 1000000000) (G : Int → Bool) (f : FuncId) (c1 : List AC) (hf : ∀ x : Int, 0 ≤ x → x < rows.length → CallsA Tryz.prog f (.int x :: [.pt c1]) [] (.bool (G x)) []) :
    CallsA Tryz.prog 176 [lst 1 encL rows,ints ini,.fn (.func f) [] [.pt c1]] [] (.sref 0 0 (shL rows ini G).length) [.cells 1 ((shL rows ini G).map enI)]:=by
  have hil:ini.length≤100000:=by have:=z161 rows.length ini hn hi;omega
  refine z7 z16 Tryz.func176 rfl rfl 99 Tryz.ntmps176 (by simp) ?_
  repeat' ((first|(apply y4 ok;rfl)|(apply y43;(dsimp only;omega)))<;>conv=>whnf)
  obtain ⟨qm,hqm⟩:∃ qm:Nat→Nat→Int,qm=fun i j=>if j < i then -2 else 0:=⟨_,rfl⟩
  have q0:qm 0=fun _=>0:=by rw [hqm];rfl
  have qE:(fnL rows.length (qm rows.length)).map enI=(frm rows.length [] (List.replicate rows.length (-1))).map enI:=by
    rw [z1183]
    congr 1
    apply y75 (by simp [fnL])
    intro i h1 h2
    rw [z695,hqm]
    have hi' : i < rows.length:=by rw [z125] at h1;exact h1
    dsimp only
    rw [if_pos hi'];simp
  have qS:∀ i,qm (i+1)=upd (qm i) i (-2):=fun i=>by
    funext j
    by_cases h:j=i
    · subst h;rw [z31,hqm];dsimp only;rw [if_pos (by omega)]
    · rw [z54 _ _ h,hqm];dsimp only;split<;>split<;>first|rfl|omega
  clear hqm
  refine z63 (fun i:Nat=>([(0,lst 1 encL rows),(1,ints ini),(2,.fn (.func f) [] [.pt c1]),(7,.sref 0 0 rows.length),(21,.int rows.length),(22,.int i)],[.cells 1 ((fnL rows.length (qm i)).map enI)])) (fun i=>i≤rows.length) (fun i=>rows.length - i) 0 (y53 _) (by refine swR [0] [] rfl rfl ?_;(repeat' first|exact y86 _|refine z8 rfl (z50 rfl) ?_|constructor)<;>((refine z51 ?_;rw [q0];exact z322 _))) ?_
  intro i hi1
  by_cases hi2:i < rows.length
  · have g1:=z179 (qm i) hi2
    have l1:=z125 rows.length (qm i)
    have e1:=z155 (N:=rows.length) (u:=i) (qm i) (-2)
    rw [← qS] at e1
    repeat' ((first|(apply y4 ok;rfl)|(refine z12 (i:=i) rfl g1 ?_)|(apply y43;first|omega|(unfold inI;omega))|((apply z6)<;>intro _))<;>conv=>whnf)
    all_goals try (exfalso;omega)
    all_goals refine z25 (i+1) hi2 (by omega) (by refine swR [0] [] rfl rfl ?_;(repeat' first|exact y86 _|refine z58 rfl (z5 (fun _=>rfl)) ?_|constructor)<;>((refine z51 ?_;exact e1)))
  obtain rfl:i=rows.length:=by omega
  rw [qE]
  clear qE qS q0
  repeat' ((first|(apply y4 ok;rfl)|(apply y43;omega)|(((apply z11;omega));intro _)|((apply z6)<;>intro _))<;>conv=>whnf)
  all_goals try (exfalso;omega)
  refine y85 (y88 1 rfl) ?_
  have hrep:(List.replicate rows.length (-1:Int)).length=rows.length:=by simp
  have hrs:∀ w,(List.replicate rows.length (-1:Int)).set w (-1)=List.replicate rows.length (-1):=fun w=>by
    apply y75 (by simp)
    intro i h1 h2
    rw [List.getElem_set]
    split<;>simp
  have hS0:(frm rows.length ini (List.replicate rows.length (-1)))=frm rows.length (srS rows ini 0).1 (srS rows ini 0).2:=rfl
  generalize List.replicate rows.length (-1:Int)=P0 at *
  refine z63 (fun k:Nat=>([(0,lst 1 encL rows),(2,.fn (.func f) [] [.pt c1]),(7,.sref 0 0 rows.length),(9,.sref 1 0 (ini.take k).length),(29,ints ini),(30,.int ini.length),(31,.int k)],[.cells 1 ((frm rows.length (ini.take k) P0).map enI),.cells 1 ((ini.take k).map enI)])) (fun k=>k≤ini.length) (fun k=>ini.length - k) 0 (y53 _) (by refine swR [0,1] [] rfl rfl ?_;(repeat' first|exact y86 _|exact z48|exact z9 _|((refine z8 rfl ?_ ?_);(focus ((repeat' (first|exact z23|exact z5 (fun _=>rfl)));done)))|constructor)) ?_
  intro k hk
  by_cases hk2:k < ini.length
  · have gk:(ini.map enI)[k]?=some (enI ini[k]):=by rw [y51,y45 hk2];rfl
    have hv:=hi _ (y44 hk2)
    have et:ini.take (k+1)=ini.take k++[ini[k]]:=y50 hk2
    have htl:(ini.take k).length≤100000:=by rw [y48];omega
    generalize hQ' : ini.take (k+1)=Q' at *
    generalize hQ:ini.take k=Q at *
    generalize ini[k]=v at *
    obtain ⟨w,rfl⟩:∃ w:Nat,v=w:=⟨v.toNat,by omega⟩
    have hw:w < rows.length:=by omega
    have g1:=z436 Q P0 hw
    have l1:=z435 rows.length Q P0
    have e1:=z481 (Q:=Q) (u:=-1) hw hrep
    rw [hrs,← et] at e1
    subst et
    repeat' ((first|(apply y4 ok;rfl)|(refine z12 (i:=k) rfl gk ?_)|(refine z12 (i:=w) rfl g1 ?_)|(apply y43;first|omega|(unfold inI;omega)|((try dsimp only);simp only [y49,y48,y47,y46,y58,y59];omega)|exact ⟨rfl,z20 rfl z27⟩)|((apply z6)<;>intro _))<;>conv=>whnf)
    all_goals try (exfalso;omega)
    all_goals refine z25 (k+1) hk2 (by omega) ?_
    all_goals dsimp only
    all_goals rw [hQ']
    all_goals exact (by refine swR [0,3] [] rfl rfl ?_;(repeat' first|exact y86 _|(refine z52 ?_;((simp;done)))|((first|refine z35 rfl ?_ ?_|refine z58 rfl ?_ ?_);(focus ((repeat' (first|exact z5 (fun _=>rfl)|apply z21));done)))|(refine z78 ?_ ?_;(focus (omega)))|constructor)<;>((refine z51 ?_;exact e1)))
  obtain rfl:k=ini.length:=by omega
  rw [y56,hS0]
  repeat' ((first|(apply y4 ok;rfl)|(apply y43;omega)|((first|(with_reducible apply z11;omega)|(apply z11;omega));intro _)|((apply z6)<;>intro _))<;>conv=>whnf)
  all_goals try (exfalso;omega)
  refine z63 (fun i:Nat=>([(0,lst 1 encL rows),(2,.fn (.func f) [] [.pt c1]),(7,.sref 0 0 rows.length),(9,.sref 1 0 (srS rows ini i).1.length),(12,.int i)],[.cells 1 ((frm rows.length (srS rows ini i).1 (srS rows ini i).2).map enI),.cells 1 ((srS rows ini i).1.map enI)])) (fun i=>i≤rows.length∧∀ k (_:k < i) (h:k < (srS rows ini i).1.length),G ((srS rows ini i).1[k])=false) (fun i=>rows.length+1 - i) 0 ⟨y53 _,fun k h=>by omega⟩ (by refine swR [0,1] [] rfl rfl ?_;(repeat' first|exact y86 _|exact z9 _|refine z8 rfl (z5 (fun _=>rfl)) ?_|constructor)<;>(fail)) ?_
  rintro i ⟨hi1,hno⟩
  have hJ:=z279 hr hi hn i
  have hQl:=z651 hr hi hn i
  by_cases hi2:i < (srS rows ini i).1.length
  · have hx:=hJ.inn _ (y44 hi2)
    have cf:=hf _ hx.1 hx.2
    have gx:((srS rows ini i).1.map enI)[i]?=some (enI (srS rows ini i).1[i]):=by rw [y51,y45 hi2];rfl
    have hnx:srS rows ini (i+1)=visPs (srS rows ini i).1[i] (srS rows ini i) (rows.getD ((srS rows ini i).1[i]).toNat []):=by rw [srS,dif_pos hi2]
    have hfnd:=fun h=>z740 hr hi hn (G:=G) hi2 h (fun k hk=>hno k hk (by omega))
    have hpre:=z365 (srS rows ini i).1[i] (rows.getD ((srS rows ini i).1[i]).toNat []) (srS rows ini i)
    by_cases hG:G (srS rows ini i).1[i]=true
    · rw [hfnd hG,z902,y65]
      have hq0:∃ k,∃ h:k < (srS rows ini i).1.length,(srS rows ini i).1[k]=(srS rows ini i).1[i]∧k≤rows.length:=⟨i,hi2,rfl,hi1⟩
      rw [hG] at cf
      clear hfnd hnx hpre hno
      generalize hS:srS rows ini i=S at *
      obtain ⟨Q,P⟩:=S
      dsimp only at *
      have hi4:i < Q.length:=hi2
      generalize Q[i]=x at *
      repeat' ((first|(apply y4 ok;rfl)|(refine z12 (i:=i) rfl gx ?_)|(apply y43;omega)|((apply z6)<;>intro _)|(apply z4 (cf);rfl;rfl))<;>conv=>whnf)
      all_goals try (exfalso;omega)
      all_goals
        refine y85 (y88 1 rfl) ?_
        have hB1:=z1211 P rows.length x
        generalize hB:chn P rows.length x=B at *
        refine z63 (fun y:Nat×List Int×Int=>([(7,.sref 0 0 rows.length),(13,.int y.2.2),(14,.sref 1 0 y.2.1.length)],[.cells 1 ((frm rows.length Q P).map enI),.cells 1 (y.2.1.map enI)])) (fun y=>y.2.1.length+y.1≤rows.length+1∧((0≤y.2.2∧y.2.1++chn P (y.1 - 1) y.2.2=B∧1≤y.1∧∃ k,∃ h:k < Q.length,Q[k]=y.2.2∧k+1≤y.1)∨(y.2.2=-1∧y.2.1=B))) (fun y=>y.1+(if 0≤y.2.2 then 1 else 0)) (rows.length+1,[],x) ⟨by simp,.inl ⟨hx.1,by simpa using hB,by omega,by obtain ⟨k,h,h1,h2⟩:=hq0;exact ⟨k,h,h1,by omega⟩⟩⟩ (by refine swR [0,2] [] rfl rfl ?_;(repeat' first|exact y86 _|exact z48|exact z9 _|((refine z8 rfl ?_ ?_);(focus ((repeat' (first|exact z23|exact z5 (fun _=>rfl)));done)))|constructor)) ?_
        rintro ⟨fu,ac,u⟩ ⟨q1,q2⟩
        dsimp only at q1 q2 ⊢
        rcases q2 with ⟨q2,q3,q4,k,hk,q5,q6⟩|⟨rfl,rfl⟩
        · have huN:=hJ.inn u (q5 ▸ y44 hk)
          obtain ⟨w,rfl⟩:∃ w:Nat,u=w:=⟨u.toNat,by omega⟩
          have hw:w < rows.length:=by omega
          have gw:=z436 Q P hw
          rw [if_pos (q5 ▸ y44 hk)] at gw
          have lw:=z435 rows.length Q P
          have hp:=hJ.pre k hk
          rw [q5,y77] at hp
          dsimp only at hp
          obtain ⟨fu,rfl⟩:∃ m,fu=m+1:=⟨fu - 1,by omega⟩
          rw [Nat.add_sub_cancel] at q3
          have hnext:P.getD w 0=-1∧ac++[(w:Int)]=B∨(0≤P.getD w 0∧(ac++[(w:Int)])++chn P (fu - 1) (P.getD w 0)=B∧1≤fu∧∃ k,∃ h:k < Q.length,Q[k]=P.getD w 0∧k+1≤fu):=by
            rcases hp with hp|⟨j,hj,hjk,hp⟩
            · left
              refine ⟨hp,?_⟩
              rw [← q3]
              cases fu with
              | zero=>rfl
              | succ fu =>
                rw [chn,y77,if_neg (by omega)]
            · right
              have:=hJ.inn _ (y44 hj)
              refine ⟨by omega,?_,by omega,j,hj,hp.symm,by omega⟩
              obtain ⟨fu,rfl⟩:∃ m,fu=m+1:=⟨fu - 1,by omega⟩
              rw [chn,y77,if_pos (by omega)] at q3
              rw [← q3]
              simp
          have hvb : -1≤P.getD w 0∧P.getD w 0 < rows.length:=by
            rcases hnext with ⟨h,_⟩|⟨h,_,_,j,hj,hp2,_⟩
            · omega
            · have:=hJ.inn _ (y44 hj)
              omega
          clear hp
          generalize P.getD w 0=v at *
          repeat' ((first|(apply y4 ok;rfl)|(refine z12 (i:=w) rfl gw ?_)|(apply y43;first|omega|((try dsimp only);simp only [y49,y48,y47,y46,y58,y59];omega)|exact ⟨rfl,z20 rfl z27⟩))<;>conv=>whnf)
          all_goals refine z25 (fu,ac++[(w:Int)],v) ⟨by simp only [y47,List.length_singleton];omega,?_⟩ ?_ (by refine swR [0,3] [] rfl rfl ?_;(repeat' first|exact y86 _|exact z9 _|(refine z52 ?_;((simp;done)))|((first|refine z35 rfl ?_ ?_|refine z8 rfl ?_ ?_);(focus ((repeat' (first|exact z5 (fun _=>rfl)|apply z21));done)))|(refine z78 ?_ ?_;(focus (omega)))|constructor))
          all_goals dsimp only
          all_goals first|(rcases hnext with ⟨h1,h2⟩|h1<;>first|exact .inr ⟨h1,h2⟩|exact .inl h1)|(rw [if_pos (show (0:Int)≤w by omega)];split<;>omega)
        · have cr:=z597 ac (by omega) (by omega)
          have cc:=z362 (rvs ac) (by rw [z424];omega)
          have el:=z424 ac
          rw [← rvs_eq]
          generalize rvs ac=D at *
          rw [el] at cc ⊢
          repeat' ((first|(apply y4 ok;rfl)|((first|(apply z115 [1] [] cr;rfl;(focus ((repeat' first|exact z32|apply z45)<;>(refine z59 rfl ?_;((exact z5 fun _=>rfl))))))|(apply z115 [1] [] cc;rfl;(focus ((repeat' first|exact z32|apply z45)<;>(refine z59 rfl ?_;((exact z5 fun _=>rfl)))))));rfl;(focus ((repeat' first|exact z17|apply z14)<;>(refine z19 ?_;((exact z5 fun _=>rfl)))))))<;>conv=>whnf)
          all_goals (refine rsD [1] [] rfl ?_;(repeat' first|exact y86 _|exact z9 _|refine z8 rfl (z5 (fun _=>rfl)) ?_|constructor))
    · have hG:=(y72 _).mp hG
      rw [hG] at cf
      have hno2:∀ k (_:k < i+1) (h:k < (srS rows ini (i+1)).1.length),G ((srS rows ini (i+1)).1[k])=false:=by
        obtain ⟨t,ht⟩:=z650 (rows:=rows) (ini:=ini) (show i≤i+1 by omega)
        intro k hk h
        have hki:k < (srS rows ini i).1.length:=by omega
        have e:(srS rows ini (i+1)).1[k]=(srS rows ini i).1[k]:=by
          simp only [ht,List.getElem_append_left hki]
        rw [e]
        by_cases hk3:k < i
        · exact hno k hk3 hki
        · obtain rfl:k=i:=by omega
          exact hG
      have hile:i+1≤rows.length:=by omega
      have hJv:=fun l hl=>PJ.visPs (N:=rows.length) l hJ hi2 rfl hl
      clear hfnd hpre hno
      generalize hS' : srS rows ini (i+1)=S' at *
      generalize hS:srS rows ini i=S at *
      obtain ⟨Q,P⟩:=S
      dsimp only at *
      have hi4:i < Q.length:=hi2
      generalize hxx:Q[i]=x at *
      obtain ⟨u,rfl⟩:∃ u:Nat,x=u:=⟨x.toNat,by omega⟩
      rw [y77] at hnx
      have hu:u < rows.length:=by omega
      have gr:=z515 hu
      have hrow:=z211 hr (u:Int)
      rw [y77] at hrow
      have hrowl:(rows.getD u []).length≤1000000000:=by rw [z15 hu];exact hrl _ (y44 _)
      generalize rows.getD u []=row at *
      repeat' ((first|(apply y4 ok;rfl)|(refine z12 (i:=i) rfl gx ?_)|(refine z12 (i:=u) rfl gr ?_)|(apply y43;omega)|((apply z6)<;>intro _)|(apply z4 (cf);rfl;rfl))<;>conv=>whnf)
      all_goals try (exfalso;omega)
      all_goals
        refine z63 (fun j:Nat=>([(0,lst 1 encL rows),(2,.fn (.func f) [] [.pt c1]),(7,.sref 0 0 rows.length),(9,.sref 1 0 (visPs (u:Int) (Q,P) (row.take j)).1.length),(12,.int i),(76,ints row),(77,.int row.length),(78,.int j)],[.cells 1 ((frm rows.length (visPs (u:Int) (Q,P) (row.take j)).1 (visPs (u:Int) (Q,P) (row.take j)).2).map enI),.cells 1 ((visPs (u:Int) (Q,P) (row.take j)).1.map enI)])) (fun j=>j≤row.length) (fun j=>row.length - j) 0 (y53 _) (by refine swR [0,1] [] rfl rfl ?_;(repeat' first|exact y86 _|exact z9 _|refine z8 rfl (z5 (fun _=>rfl)) ?_|constructor)<;>(fail)) ?_
        intro j hj
        obtain ⟨hJj,hij,hxj⟩:=hJv (row.take j) (fun x hx=>hrow x (List.mem_of_mem_take hx))
        have hQjl:(visPs (u:Int) (Q,P) (row.take j)).1.length≤rows.length:=z161 _ _ hJj.nd hJj.inn
        have gxj:((visPs (u:Int) (Q,P) (row.take j)).1.map enI)[i]?=some (enI (u:Int)):=by
          rw [y51,y45 hij,hxj];rfl
        by_cases hj2:j < row.length
        · have gj:(row.map enI)[j]?=some (enI row[j]):=by rw [y51,y45 hj2];rfl
          have hv:=hrow _ (y44 hj2)
          have et:=z416 (u:=(u:Int)) (x:=(Q,P)) hj2
          have hge:=hJj.pre
          generalize hT' : visPs (u:Int) (Q,P) (row.take (j+1))=T' at *
          generalize hT:visPs (u:Int) (Q,P) (row.take j)=T at *
          generalize row[j]=v at *
          obtain ⟨w,rfl⟩:∃ w:Nat,v=w:=⟨v.toNat,by omega⟩
          have hw:w < rows.length:=by omega
          have gw:=z436 T.1 T.2 hw
          have lw:=z435 rows.length T.1 T.2
          have hTl:=hJj.len
          by_cases hm:(w:Int)∈T.1
          · rw [z366 hm] at et
            rw [if_pos hm] at gw
            have hwv : -1≤T.2.getD w 0:=by
              obtain ⟨k,hk,ek⟩:=List.mem_iff_getElem.1 hm
              have h1:=hge k hk
              rw [ek,y77] at h1
              rcases h1 with h1|⟨y,hy,_,h1⟩
              · omega
              · have:=hJj.inn _ (y44 hy);omega
            generalize T.2.getD w 0=pv at *
            repeat' ((first|(apply y4 ok;rfl)|(refine z12 (i:=j) rfl gj ?_)|(refine z12 (i:=w) rfl gw ?_)|(apply y43;first|omega|(unfold inI;omega))|(((apply z11;omega));intro _)|((apply z6)<;>intro _))<;>conv=>whnf)
            all_goals try (exfalso;omega)
            all_goals refine z25 (j+1) hj2 (by omega) ?_
            all_goals dsimp only
            all_goals rw [hT',et]
            all_goals exact (by refine swR [0,1] [] rfl rfl ?_;(repeat' first|exact y86 _|exact z9 _|refine z8 rfl (z5 (fun _=>rfl)) ?_|constructor))
          · rw [z367 hm,y77] at et
            rw [if_neg hm] at gw
            have e1:=z481 (Q:=T.1) (u:=(u:Int)) hw hTl
            repeat' ((first|(apply y4 ok;rfl)|(refine z12 (i:=j) rfl gj ?_)|(refine z12 (i:=w) rfl gw ?_)|(refine z12 (i:=i) rfl gxj ?_)|(apply y43;first|omega|(unfold inI;omega)|((try dsimp only);simp only [y49,y48,y47,y46,y58,y59];omega)|exact ⟨rfl,z20 rfl z27⟩)|((apply z6)<;>intro _))<;>conv=>whnf)
            all_goals try (exfalso;omega)
            all_goals refine z25 (j+1) hj2 (by omega) ?_
            all_goals dsimp only
            all_goals rw [hT',et]
            all_goals dsimp only
            all_goals exact (by refine swR [0,3] [] rfl rfl ?_;(repeat' first|exact y86 _|(refine z52 ?_;((simp;done)))|((first|refine z35 rfl ?_ ?_|refine z58 rfl ?_ ?_);(focus ((repeat' (first|exact z5 (fun _=>rfl)|apply z21));done)))|(refine z78 ?_ ?_;(focus (omega)))|constructor)<;>((refine z51 ?_;exact e1)))
        obtain rfl:j=row.length:=by omega
        rw [y56,← hnx] at *
        repeat' ((first|(apply y4 ok;rfl)|(apply y43;first|omega|(unfold inI;omega))|((first|(with_reducible apply z11;omega)|(apply z11;omega));intro _)|((apply z6)<;>intro _))<;>conv=>whnf)
        all_goals try (exfalso;omega)
        all_goals refine z25 (i+1) ⟨hile,by rw [hS'];exact hno2⟩ (by omega) ?_
        all_goals dsimp only
        all_goals rw [hS']
        all_goals exact (by refine swR [0,1] [] rfl rfl ?_;(repeat' first|exact y86 _|exact z9 _|refine z8 rfl (z5 (fun _=>rfl)) ?_|constructor))
  · rw [z937 (G:=G) (by omega) hi1 (fun k hk=>hno k (by omega) hk)]
    repeat' ((first|(apply y4 ok;rfl)|(apply y43;omega)|(((apply z11;omega));intro _)|((apply z6)<;>intro _))<;>conv=>whnf)
    all_goals try (exfalso;omega)
    all_goals (refine y89 1 ?_;refine rsD [2] [] rfl ?_;(repeat' first|exact z48|refine z8 rfl (z23) ?_|constructor))
set_option maxHeartbeats 12800000 in
theorem z660 (rows : List (List Int)) (ini : List Int) (hr : ∀ r ∈ rows, InN rows.length r) (hi : InN rows.length ini) (hn : ini.Nodup) (hN : rows.length ≤ 100000) (hrl : ∀ r ∈ rows, r.length ≤ 1000000000) (G : Int → Bool) (f : FuncId) (c1 c2 : List AC) (hf : ∀ x : Int, 0 ≤ x → x < rows.length → CallsA Tryz.prog f (.int x :: [.pt c1, .pt c2]) [] (.bool (G x)) []) :
    CallsA Tryz.prog 176 [lst 1 encL rows,ints ini,.fn (.func f) [] [.pt c1,.pt c2]] [] (.sref 0 0 (shL rows ini G).length) [.cells 1 ((shL rows ini G).map enI)]:=by
  have hil:ini.length≤100000:=by have:=z161 rows.length ini hn hi;omega
  refine z7 z16 Tryz.func176 rfl rfl 99 Tryz.ntmps176 (by simp) ?_
  repeat' ((first|(apply y4 ok;rfl)|(apply y43;(dsimp only;omega)))<;>conv=>whnf)
  obtain ⟨qm,hqm⟩:∃ qm:Nat→Nat→Int,qm=fun i j=>if j < i then -2 else 0:=⟨_,rfl⟩
  have q0:qm 0=fun _=>0:=by rw [hqm];rfl
  have qE:(fnL rows.length (qm rows.length)).map enI=(frm rows.length [] (List.replicate rows.length (-1))).map enI:=by
    rw [z1183]
    congr 1
    apply y75 (by simp [fnL])
    intro i h1 h2
    rw [z695,hqm]
    have hi' : i < rows.length:=by rw [z125] at h1;exact h1
    dsimp only
    rw [if_pos hi'];simp
  have qS:∀ i,qm (i+1)=upd (qm i) i (-2):=fun i=>by
    funext j
    by_cases h:j=i
    · subst h;rw [z31,hqm];dsimp only;rw [if_pos (by omega)]
    · rw [z54 _ _ h,hqm];dsimp only;split<;>split<;>first|rfl|omega
  clear hqm
  refine z63 (fun i:Nat=>([(0,lst 1 encL rows),(1,ints ini),(2,.fn (.func f) [] [.pt c1,.pt c2]),(7,.sref 0 0 rows.length),(21,.int rows.length),(22,.int i)],[.cells 1 ((fnL rows.length (qm i)).map enI)])) (fun i=>i≤rows.length) (fun i=>rows.length - i) 0 (y53 _) (by refine swR [0] [] rfl rfl ?_;(repeat' first|exact y86 _|refine z8 rfl (z50 rfl) ?_|constructor)<;>((refine z51 ?_;rw [q0];exact z322 _))) ?_
  intro i hi1
  by_cases hi2:i < rows.length
  · have g1:=z179 (qm i) hi2
    have l1:=z125 rows.length (qm i)
    have e1:=z155 (N:=rows.length) (u:=i) (qm i) (-2)
    rw [← qS] at e1
    repeat' ((first|(apply y4 ok;rfl)|(refine z12 (i:=i) rfl g1 ?_)|(apply y43;first|omega|(unfold inI;omega))|((apply z6)<;>intro _))<;>conv=>whnf)
    all_goals try (exfalso;omega)
    all_goals refine z25 (i+1) hi2 (by omega) (by refine swR [0] [] rfl rfl ?_;(repeat' first|exact y86 _|refine z58 rfl (z5 (fun _=>rfl)) ?_|constructor)<;>((refine z51 ?_;exact e1)))
  obtain rfl:i=rows.length:=by omega
  rw [qE]
  clear qE qS q0
  repeat' ((first|(apply y4 ok;rfl)|(apply y43;omega)|(((apply z11;omega));intro _)|((apply z6)<;>intro _))<;>conv=>whnf)
  all_goals try (exfalso;omega)
  refine y85 (y88 1 rfl) ?_
  have hrep:(List.replicate rows.length (-1:Int)).length=rows.length:=by simp
  have hrs:∀ w,(List.replicate rows.length (-1:Int)).set w (-1)=List.replicate rows.length (-1):=fun w=>by
    apply y75 (by simp)
    intro i h1 h2
    rw [List.getElem_set]
    split<;>simp
  have hS0:(frm rows.length ini (List.replicate rows.length (-1)))=frm rows.length (srS rows ini 0).1 (srS rows ini 0).2:=rfl
  generalize List.replicate rows.length (-1:Int)=P0 at *
  refine z63 (fun k:Nat=>([(0,lst 1 encL rows),(2,.fn (.func f) [] [.pt c1,.pt c2]),(7,.sref 0 0 rows.length),(9,.sref 1 0 (ini.take k).length),(29,ints ini),(30,.int ini.length),(31,.int k)],[.cells 1 ((frm rows.length (ini.take k) P0).map enI),.cells 1 ((ini.take k).map enI)])) (fun k=>k≤ini.length) (fun k=>ini.length - k) 0 (y53 _) (by refine swR [0,1] [] rfl rfl ?_;(repeat' first|exact y86 _|exact z48|exact z9 _|((refine z8 rfl ?_ ?_);(focus ((repeat' (first|exact z23|exact z5 (fun _=>rfl)));done)))|constructor)) ?_
  intro k hk
  by_cases hk2:k < ini.length
  · have gk:(ini.map enI)[k]?=some (enI ini[k]):=by rw [y51,y45 hk2];rfl
    have hv:=hi _ (y44 hk2)
    have et:ini.take (k+1)=ini.take k++[ini[k]]:=y50 hk2
    have htl:(ini.take k).length≤100000:=by rw [y48];omega
    generalize hQ' : ini.take (k+1)=Q' at *
    generalize hQ:ini.take k=Q at *
    generalize ini[k]=v at *
    obtain ⟨w,rfl⟩:∃ w:Nat,v=w:=⟨v.toNat,by omega⟩
    have hw:w < rows.length:=by omega
    have g1:=z436 Q P0 hw
    have l1:=z435 rows.length Q P0
    have e1:=z481 (Q:=Q) (u:=-1) hw hrep
    rw [hrs,← et] at e1
    subst et
    repeat' ((first|(apply y4 ok;rfl)|(refine z12 (i:=k) rfl gk ?_)|(refine z12 (i:=w) rfl g1 ?_)|(apply y43;first|omega|(unfold inI;omega)|((try dsimp only);simp only [y49,y48,y47,y46,y58,y59];omega)|exact ⟨rfl,z20 rfl z27⟩)|((apply z6)<;>intro _))<;>conv=>whnf)
    all_goals try (exfalso;omega)
    all_goals refine z25 (k+1) hk2 (by omega) ?_
    all_goals dsimp only
    all_goals rw [hQ']
    all_goals exact (by refine swR [0,3] [] rfl rfl ?_;(repeat' first|exact y86 _|(refine z52 ?_;((simp;done)))|((first|refine z35 rfl ?_ ?_|refine z58 rfl ?_ ?_);(focus ((repeat' (first|exact z5 (fun _=>rfl)|apply z21));done)))|(refine z78 ?_ ?_;(focus (omega)))|constructor)<;>((refine z51 ?_;exact e1)))
  obtain rfl:k=ini.length:=by omega
  rw [y56,hS0]
  repeat' ((first|(apply y4 ok;rfl)|(apply y43;omega)|((first|(with_reducible apply z11;omega)|(apply z11;omega));intro _)|((apply z6)<;>intro _))<;>conv=>whnf)
  all_goals try (exfalso;omega)
  refine z63 (fun i:Nat=>([(0,lst 1 encL rows),(2,.fn (.func f) [] [.pt c1,.pt c2]),(7,.sref 0 0 rows.length),(9,.sref 1 0 (srS rows ini i).1.length),(12,.int i)],[.cells 1 ((frm rows.length (srS rows ini i).1 (srS rows ini i).2).map enI),.cells 1 ((srS rows ini i).1.map enI)])) (fun i=>i≤rows.length∧∀ k (_:k < i) (h:k < (srS rows ini i).1.length),G ((srS rows ini i).1[k])=false) (fun i=>rows.length+1 - i) 0 ⟨y53 _,fun k h=>by omega⟩ (by refine swR [0,1] [] rfl rfl ?_;(repeat' first|exact y86 _|exact z9 _|refine z8 rfl (z5 (fun _=>rfl)) ?_|constructor)<;>(fail)) ?_
  rintro i ⟨hi1,hno⟩
  have hJ:=z279 hr hi hn i
  have hQl:=z651 hr hi hn i
  by_cases hi2:i < (srS rows ini i).1.length
  · have hx:=hJ.inn _ (y44 hi2)
    have cf:=hf _ hx.1 hx.2
    have gx:((srS rows ini i).1.map enI)[i]?=some (enI (srS rows ini i).1[i]):=by rw [y51,y45 hi2];rfl
    have hnx:srS rows ini (i+1)=visPs (srS rows ini i).1[i] (srS rows ini i) (rows.getD ((srS rows ini i).1[i]).toNat []):=by rw [srS,dif_pos hi2]
    have hfnd:=fun h=>z740 hr hi hn (G:=G) hi2 h (fun k hk=>hno k hk (by omega))
    have hpre:=z365 (srS rows ini i).1[i] (rows.getD ((srS rows ini i).1[i]).toNat []) (srS rows ini i)
    by_cases hG:G (srS rows ini i).1[i]=true
    · rw [hfnd hG,z902,y65]
      have hq0:∃ k,∃ h:k < (srS rows ini i).1.length,(srS rows ini i).1[k]=(srS rows ini i).1[i]∧k≤rows.length:=⟨i,hi2,rfl,hi1⟩
      rw [hG] at cf
      clear hfnd hnx hpre hno
      generalize hS:srS rows ini i=S at *
      obtain ⟨Q,P⟩:=S
      dsimp only at *
      have hi4:i < Q.length:=hi2
      generalize Q[i]=x at *
      repeat' ((first|(apply y4 ok;rfl)|(refine z12 (i:=i) rfl gx ?_)|(apply y43;omega)|((apply z6)<;>intro _)|(apply z4 (cf);rfl;rfl))<;>conv=>whnf)
      all_goals try (exfalso;omega)
      all_goals
        refine y85 (y88 1 rfl) ?_
        have hB1:=z1211 P rows.length x
        generalize hB:chn P rows.length x=B at *
        refine z63 (fun y:Nat×List Int×Int=>([(7,.sref 0 0 rows.length),(13,.int y.2.2),(14,.sref 1 0 y.2.1.length)],[.cells 1 ((frm rows.length Q P).map enI),.cells 1 (y.2.1.map enI)])) (fun y=>y.2.1.length+y.1≤rows.length+1∧((0≤y.2.2∧y.2.1++chn P (y.1 - 1) y.2.2=B∧1≤y.1∧∃ k,∃ h:k < Q.length,Q[k]=y.2.2∧k+1≤y.1)∨(y.2.2=-1∧y.2.1=B))) (fun y=>y.1+(if 0≤y.2.2 then 1 else 0)) (rows.length+1,[],x) ⟨by simp,.inl ⟨hx.1,by simpa using hB,by omega,by obtain ⟨k,h,h1,h2⟩:=hq0;exact ⟨k,h,h1,by omega⟩⟩⟩ (by refine swR [0,2] [] rfl rfl ?_;(repeat' first|exact y86 _|exact z48|exact z9 _|((refine z8 rfl ?_ ?_);(focus ((repeat' (first|exact z23|exact z5 (fun _=>rfl)));done)))|constructor)) ?_
        rintro ⟨fu,ac,u⟩ ⟨q1,q2⟩
        dsimp only at q1 q2 ⊢
        rcases q2 with ⟨q2,q3,q4,k,hk,q5,q6⟩|⟨rfl,rfl⟩
        · have huN:=hJ.inn u (q5 ▸ y44 hk)
          obtain ⟨w,rfl⟩:∃ w:Nat,u=w:=⟨u.toNat,by omega⟩
          have hw:w < rows.length:=by omega
          have gw:=z436 Q P hw
          rw [if_pos (q5 ▸ y44 hk)] at gw
          have lw:=z435 rows.length Q P
          have hp:=hJ.pre k hk
          rw [q5,y77] at hp
          dsimp only at hp
          obtain ⟨fu,rfl⟩:∃ m,fu=m+1:=⟨fu - 1,by omega⟩
          rw [Nat.add_sub_cancel] at q3
          have hnext:P.getD w 0=-1∧ac++[(w:Int)]=B∨(0≤P.getD w 0∧(ac++[(w:Int)])++chn P (fu - 1) (P.getD w 0)=B∧1≤fu∧∃ k,∃ h:k < Q.length,Q[k]=P.getD w 0∧k+1≤fu):=by
            rcases hp with hp|⟨j,hj,hjk,hp⟩
            · left
              refine ⟨hp,?_⟩
              rw [← q3]
              cases fu with
              | zero=>rfl
              | succ fu =>
                rw [chn,y77,if_neg (by omega)]
            · right
              have:=hJ.inn _ (y44 hj)
              refine ⟨by omega,?_,by omega,j,hj,hp.symm,by omega⟩
              obtain ⟨fu,rfl⟩:∃ m,fu=m+1:=⟨fu - 1,by omega⟩
              rw [chn,y77,if_pos (by omega)] at q3
              rw [← q3]
              simp
          have hvb : -1≤P.getD w 0∧P.getD w 0 < rows.length:=by
            rcases hnext with ⟨h,_⟩|⟨h,_,_,j,hj,hp2,_⟩
            · omega
            · have:=hJ.inn _ (y44 hj)
              omega
          clear hp
          generalize P.getD w 0=v at *
          repeat' ((first|(apply y4 ok;rfl)|(refine z12 (i:=w) rfl gw ?_)|(apply y43;first|omega|((try dsimp only);simp only [y49,y48,y47,y46,y58,y59];omega)|exact ⟨rfl,z20 rfl z27⟩))<;>conv=>whnf)
          all_goals refine z25 (fu,ac++[(w:Int)],v) ⟨by simp only [y47,List.length_singleton];omega,?_⟩ ?_ (by refine swR [0,3] [] rfl rfl ?_;(repeat' first|exact y86 _|exact z9 _|(refine z52 ?_;((simp;done)))|((first|refine z35 rfl ?_ ?_|refine z8 rfl ?_ ?_);(focus ((repeat' (first|exact z5 (fun _=>rfl)|apply z21));done)))|(refine z78 ?_ ?_;(focus (omega)))|constructor))
          all_goals dsimp only
          all_goals first|(rcases hnext with ⟨h1,h2⟩|h1<;>first|exact .inr ⟨h1,h2⟩|exact .inl h1)|(rw [if_pos (show (0:Int)≤w by omega)];split<;>omega)
        · have cr:=z597 ac (by omega) (by omega)
          have cc:=z362 (rvs ac) (by rw [z424];omega)
          have el:=z424 ac
          rw [← rvs_eq]
          generalize rvs ac=D at *
          rw [el] at cc ⊢
          repeat' ((first|(apply y4 ok;rfl)|((first|(apply z115 [1] [] cr;rfl;(focus ((repeat' first|exact z32|apply z45)<;>(refine z59 rfl ?_;((exact z5 fun _=>rfl))))))|(apply z115 [1] [] cc;rfl;(focus ((repeat' first|exact z32|apply z45)<;>(refine z59 rfl ?_;((exact z5 fun _=>rfl)))))));rfl;(focus ((repeat' first|exact z17|apply z14)<;>(refine z19 ?_;((exact z5 fun _=>rfl)))))))<;>conv=>whnf)
          all_goals (refine rsD [1] [] rfl ?_;(repeat' first|exact y86 _|exact z9 _|refine z8 rfl (z5 (fun _=>rfl)) ?_|constructor))
    · have hG:=(y72 _).mp hG
      rw [hG] at cf
      have hno2:∀ k (_:k < i+1) (h:k < (srS rows ini (i+1)).1.length),G ((srS rows ini (i+1)).1[k])=false:=by
        obtain ⟨t,ht⟩:=z650 (rows:=rows) (ini:=ini) (show i≤i+1 by omega)
        intro k hk h
        have hki:k < (srS rows ini i).1.length:=by omega
        have e:(srS rows ini (i+1)).1[k]=(srS rows ini i).1[k]:=by
          simp only [ht,List.getElem_append_left hki]
        rw [e]
        by_cases hk3:k < i
        · exact hno k hk3 hki
        · obtain rfl:k=i:=by omega
          exact hG
      have hile:i+1≤rows.length:=by omega
      have hJv:=fun l hl=>PJ.visPs (N:=rows.length) l hJ hi2 rfl hl
      clear hfnd hpre hno
      generalize hS' : srS rows ini (i+1)=S' at *
      generalize hS:srS rows ini i=S at *
      obtain ⟨Q,P⟩:=S
      dsimp only at *
      have hi4:i < Q.length:=hi2
      generalize hxx:Q[i]=x at *
      obtain ⟨u,rfl⟩:∃ u:Nat,x=u:=⟨x.toNat,by omega⟩
      rw [y77] at hnx
      have hu:u < rows.length:=by omega
      have gr:=z515 hu
      have hrow:=z211 hr (u:Int)
      rw [y77] at hrow
      have hrowl:(rows.getD u []).length≤1000000000:=by rw [z15 hu];exact hrl _ (y44 _)
      generalize rows.getD u []=row at *
      repeat' ((first|(apply y4 ok;rfl)|(refine z12 (i:=i) rfl gx ?_)|(refine z12 (i:=u) rfl gr ?_)|(apply y43;omega)|((apply z6)<;>intro _)|(apply z4 (cf);rfl;rfl))<;>conv=>whnf)
      all_goals try (exfalso;omega)
      all_goals
        refine z63 (fun j:Nat=>([(0,lst 1 encL rows),(2,.fn (.func f) [] [.pt c1,.pt c2]),(7,.sref 0 0 rows.length),(9,.sref 1 0 (visPs (u:Int) (Q,P) (row.take j)).1.length),(12,.int i),(76,ints row),(77,.int row.length),(78,.int j)],[.cells 1 ((frm rows.length (visPs (u:Int) (Q,P) (row.take j)).1 (visPs (u:Int) (Q,P) (row.take j)).2).map enI),.cells 1 ((visPs (u:Int) (Q,P) (row.take j)).1.map enI)])) (fun j=>j≤row.length) (fun j=>row.length - j) 0 (y53 _) (by refine swR [0,1] [] rfl rfl ?_;(repeat' first|exact y86 _|exact z9 _|refine z8 rfl (z5 (fun _=>rfl)) ?_|constructor)<;>(fail)) ?_
        intro j hj
        obtain ⟨hJj,hij,hxj⟩:=hJv (row.take j) (fun x hx=>hrow x (List.mem_of_mem_take hx))
        have hQjl:(visPs (u:Int) (Q,P) (row.take j)).1.length≤rows.length:=z161 _ _ hJj.nd hJj.inn
        have gxj:((visPs (u:Int) (Q,P) (row.take j)).1.map enI)[i]?=some (enI (u:Int)):=by
          rw [y51,y45 hij,hxj];rfl
        by_cases hj2:j < row.length
        · have gj:(row.map enI)[j]?=some (enI row[j]):=by rw [y51,y45 hj2];rfl
          have hv:=hrow _ (y44 hj2)
          have et:=z416 (u:=(u:Int)) (x:=(Q,P)) hj2
          have hge:=hJj.pre
          generalize hT' : visPs (u:Int) (Q,P) (row.take (j+1))=T' at *
          generalize hT:visPs (u:Int) (Q,P) (row.take j)=T at *
          generalize row[j]=v at *
          obtain ⟨w,rfl⟩:∃ w:Nat,v=w:=⟨v.toNat,by omega⟩
          have hw:w < rows.length:=by omega
          have gw:=z436 T.1 T.2 hw
          have lw:=z435 rows.length T.1 T.2
          have hTl:=hJj.len
          by_cases hm:(w:Int)∈T.1
          · rw [z366 hm] at et
            rw [if_pos hm] at gw
            have hwv : -1≤T.2.getD w 0:=by
              obtain ⟨k,hk,ek⟩:=List.mem_iff_getElem.1 hm
              have h1:=hge k hk
              rw [ek,y77] at h1
              rcases h1 with h1|⟨y,hy,_,h1⟩
              · omega
              · have:=hJj.inn _ (y44 hy);omega
            generalize T.2.getD w 0=pv at *
            repeat' ((first|(apply y4 ok;rfl)|(refine z12 (i:=j) rfl gj ?_)|(refine z12 (i:=w) rfl gw ?_)|(apply y43;first|omega|(unfold inI;omega))|(((apply z11;omega));intro _)|((apply z6)<;>intro _))<;>conv=>whnf)
            all_goals try (exfalso;omega)
            all_goals refine z25 (j+1) hj2 (by omega) ?_
            all_goals dsimp only
            all_goals rw [hT',et]
            all_goals exact (by refine swR [0,1] [] rfl rfl ?_;(repeat' first|exact y86 _|exact z9 _|refine z8 rfl (z5 (fun _=>rfl)) ?_|constructor))
          · rw [z367 hm,y77] at et
            rw [if_neg hm] at gw
            have e1:=z481 (Q:=T.1) (u:=(u:Int)) hw hTl
            repeat' ((first|(apply y4 ok;rfl)|(refine z12 (i:=j) rfl gj ?_)|(refine z12 (i:=w) rfl gw ?_)|(refine z12 (i:=i) rfl gxj ?_)|(apply y43;first|omega|(unfold inI;omega)|((try dsimp only);simp only [y49,y48,y47,y46,y58,y59];omega)|exact ⟨rfl,z20 rfl z27⟩)|((apply z6)<;>intro _))<;>conv=>whnf)
            all_goals try (exfalso;omega)
            all_goals refine z25 (j+1) hj2 (by omega) ?_
            all_goals dsimp only
            all_goals rw [hT',et]
            all_goals dsimp only
            all_goals exact (by refine swR [0,3] [] rfl rfl ?_;(repeat' first|exact y86 _|(refine z52 ?_;((simp;done)))|((first|refine z35 rfl ?_ ?_|refine z58 rfl ?_ ?_);(focus ((repeat' (first|exact z5 (fun _=>rfl)|apply z21));done)))|(refine z78 ?_ ?_;(focus (omega)))|constructor)<;>((refine z51 ?_;exact e1)))
        obtain rfl:j=row.length:=by omega
        rw [y56,← hnx] at *
        repeat' ((first|(apply y4 ok;rfl)|(apply y43;first|omega|(unfold inI;omega))|((first|(with_reducible apply z11;omega)|(apply z11;omega));intro _)|((apply z6)<;>intro _))<;>conv=>whnf)
        all_goals try (exfalso;omega)
        all_goals refine z25 (i+1) ⟨hile,by rw [hS'];exact hno2⟩ (by omega) ?_
        all_goals dsimp only
        all_goals rw [hS']
        all_goals exact (by refine swR [0,1] [] rfl rfl ?_;(repeat' first|exact y86 _|exact z9 _|refine z8 rfl (z5 (fun _=>rfl)) ?_|constructor))
  · rw [z937 (G:=G) (by omega) hi1 (fun k hk=>hno k (by omega) hk)]
    repeat' ((first|(apply y4 ok;rfl)|(apply y43;omega)|(((apply z11;omega));intro _)|((apply z6)<;>intro _))<;>conv=>whnf)
    all_goals try (exfalso;omega)
    all_goals (refine y89 1 ?_;refine rsD [2] [] rfl ?_;(repeat' first|exact z48|refine z8 rfl (z23) ?_|constructor))
theorem z1159 (v x:Int):CallsA Tryz.prog 177 [.int x,.pt [.int v]] [] (.bool (decide (x=v))) []:=by
 refine z7 z16 Tryz.func177 rfl rfl 7 Tryz.ntmps177 (by simp) ?_
 repeat' (((apply y4 ok;rfl))<;>conv=>whnf)
 all_goals (refine rsD [] [] rfl ?_;(repeat' first|exact y86 _|constructor))
theorem z1060 (rows:List (List Int)) (hrl:∀ r∈rows,r.length≤1000000000) (v x:Int) (hx:0≤x∧x < rows.length):CallsA Tryz.prog 247 [.int x,.pt [.int v],.pt [lst 1 encL rows]] [] (.bool (decide (x≠v) && decide (v∈rows.getD x.toNat []))) []:=by
 obtain ⟨u,rfl⟩:∃ u:Nat,x=u:=⟨x.toNat,by omega⟩
 rw [y77]
 have hu:u < rows.length:=by omega
 have gr:=z515 hu
 have hrow:(rows.getD u []).length≤1000000000:=by rw [z15 hu];exact hrl _ (y44 _)
 have cct:=z124 (rows.getD u []) (by unfold maxLen;omega) v
 generalize rows.getD u []=row at *
 refine z7 z16 Tryz.func247 rfl rfl 16 Tryz.ntmps247 (by simp) ?_
 by_cases h:(u:Int)=v
 ·rw [y83 (by simp [h]),Bool.false_and]
  repeat' ((first|(apply y4 ok;rfl)|(apply z22;kernel_rfl)|(refine z12 (i:=u) rfl gr ?_)|(apply y43;omega)|((apply z46)<;>intro _)|(apply z4 (cct);rfl;rfl))<;>conv=>whnf)
  all_goals try (exfalso;omega)
  all_goals (refine rsD [] [] rfl ?_;(repeat' first|exact y86 _|constructor))
 ·rw [y82 h,Bool.true_and]
  repeat' ((first|(apply y4 ok;rfl)|(apply z22;kernel_rfl)|(refine z12 (i:=u) rfl gr ?_)|(apply y43;omega)|((apply z46)<;>intro _)|(apply z4 (cct);rfl;rfl))<;>conv=>whnf)
  all_goals try (exfalso;omega)
  all_goals (refine rsD [] [] rfl ?_;(repeat' first|exact y86 _|constructor))
set_option maxHeartbeats 3200000 in
theorem z1059 (rows : List (List Int)) (v : Int) (hr : ∀ r ∈ rows, InN rows.length r) (hv : 0 ≤ v ∧ v < rows.length) (hN : rows.length ≤ 100000) (hrl : ∀ r ∈ rows, r.length ≤ 1000000000) :
    CallsA Tryz.prog 178 [lst 1 encL rows,.int v] [] (.sref 0 0 (aroL rows v).length) [.cells 1 ((aroL rows v).map enI)]:=by
  obtain ⟨u,rfl⟩:∃ u:Nat,v=u:=⟨v.toNat,by omega⟩
  have hu:u < rows.length:=by omega
  have gr:=z515 hu
  have hrow:(rows.getD u []).length≤1000000000:=by rw [z15 hu];exact hrl _ (y44 _)
  have cct:=z124 (rows.getD u []) (by unfold maxLen;omega) (u:Int)
  have csh:=z660 rows [(u:Int)] hr (z288 hv) (by simp) hN hrl (fun n=>decide (n≠(u:Int)) && decide ((u:Int)∈rows.getD n.toNat [])) 247 [.int (u:Int)] [lst 1 encL rows] (fun x h0 h1=>z1060 rows hrl u x ⟨h0,h1⟩)
  unfold aroL
  rw [y77]
  by_cases h:(u:Int)∈rows.getD u []
  · rw [if_pos h]
    rw [y82 h] at cct
    generalize rows.getD u []=row at *
    refine z7 z16 Tryz.func178 rfl rfl 18 Tryz.ntmps178 (by simp) ?_
    repeat' ((first|(apply y4 ok;rfl)|(apply z22;kernel_rfl)|(refine z12 (i:=u) rfl gr ?_)|(apply y43;omega)|(apply z4 (cct);rfl;rfl))<;>conv=>whnf)
    all_goals (refine rsD [2] [] rfl ?_;(repeat' first|exact y86 _|apply y87|constructor))
  · rw [if_neg h]
    rw [y83 h] at cct
    generalize shL rows [(u:Int)] (fun n=>decide (n≠(u:Int)) && decide ((u:Int)∈rows.getD n.toNat []))=D at *
    generalize rows.getD u []=row at *
    refine z7 z16 Tryz.func178 rfl rfl 18 Tryz.ntmps178 (by simp) ?_
    repeat' ((first|(apply y4 ok;rfl)|(apply z22;kernel_rfl)|(refine z12 (i:=u) rfl gr ?_)|(apply y43;omega)|(apply z4 (cct);rfl;rfl)|(apply z96 [] [0,1,2] [3] csh;(focus ((repeat' first|exact z69|apply z42)<;>rfl));rfl;rfl;(focus ((repeat' first|exact z17|apply z14)<;>(refine z19 ?_;((exact z5 fun _=>rfl)))));((refine .inr ⟨rfl,?_⟩;repeat' first|exact True.intro|apply y43|exact z102 (fun _=>rfl) _))))<;>conv=>whnf)
    all_goals (refine rsD [3] [] rfl ?_;(repeat' first|exact y86 _|exact z9 _|refine z8 rfl (z5 (fun _=>rfl)) ?_|constructor))
noncomputable def lasR (rows:List (List Int)) (ini:List Int) (G:Int→Bool):List Int×List Int:=(lasL rows ini G).getD ([],[])
set_option maxHeartbeats 6400000 in
theorem z1158 (rows : List (List Int)) (ini : List Int) (hr : ∀ r ∈ rows, InN rows.length r) (hi : InN rows.length ini) (hn : ini.Nodup) (hN : rows.length ≤ 100000) (hrl : ∀ r ∈ rows, r.length ≤ 1000000000) (G : Int → Bool) (f : FuncId) (c1 c2 : List AC) (hf : ∀ x : Int, 0 ≤ x → x < rows.length → CallsA Tryz.prog f [.int x, .pt c1, .pt c2] [] (.bool (G x)) []) :
    CallsA Tryz.prog 95 [lst 1 encL rows,ints ini,.fn (.func f) [] [.pt c1,.pt c2]] [] (.tup [.sref 0 0 ((lasR rows ini G).1.take ((lasR rows ini G).1.length - 1)).length,.sref 1 0 (lasR rows ini G).2.length,.bool (lasL rows ini G).isSome]) [.cells 1 (((lasR rows ini G).1.take ((lasR rows ini G).1.length - 1)).map enI),.cells 1 ((lasR rows ini G).2.map enI)]:=by
  have hil:ini.length≤100000:=by have:=z161 rows.length ini hn hi;omega
  have cC:=z1045 rows hr hN hrl
  have cO:=z1133 rows ini hr hi hN hrl (by omega)
  have hQi:=z629 hr hi rows.length
  have hQl:=z905 hr hi rows.length
  have hcl:=cycB_len rows
  have hcg:∀ i,i < rows.length→((cycB rows).map enB)[i]?=some (enB (cycD rows i)):=fun i h=>z1188 (cycD rows) h
  have hto:=fun v hv=>shL_to (rows:=rows) (ini:=ini) hn (v:=v) hv
  have hrR:∀ k,k < (bfsL rows ini).length→(G ((bfsL rows ini).getD k 0) && cycD rows ((bfsL rows ini).getD k 0).toNat)=true→(∀ j,j < k→(G ((bfsL rows ini).getD j 0) && cycD rows ((bfsL rows ini).getD j 0).toNat)=false)→lasL rows ini G=some (bkw (srP rows ini) rows.length ((bfsL rows ini).getD k 0) [],cycL rows ((bfsL rows ini).getD k 0)):=fun k hk h1 h2=>by
    unfold lasL
    have:(bfsL rows ini).find? (fun v=>G v && cycD rows v.toNat)=some ((bfsL rows ini).getD k 0):=by
      rw [z15 hk] at h1 ⊢
      rw [List.find?_eq_some_iff_getElem]
      refine ⟨h1,k,hk,rfl,fun j hj=>?_⟩
      have:=h2 j hj
      rw [z15 (by omega)] at this
      rw [this];rfl
    rw [this];rfl
  have hrN:(∀ j,j < (bfsL rows ini).length→(G ((bfsL rows ini).getD j 0) && cycD rows ((bfsL rows ini).getD j 0).toNat)=false)→lasL rows ini G=none:=fun h=>by
    unfold lasL
    have:(bfsL rows ini).find? (fun v=>G v && cycD rows v.toNat)=none:=by
      rw [List.find?_eq_none]
      intro x hx
      obtain ⟨j,hj,rfl⟩:=List.mem_iff_getElem.1 hx
      have:=h j hj
      rw [z15 hj] at this
      rw [this];simp
    rw [this];rfl
  unfold lasR
  change (bfsL rows ini).length≤rows.length at hQl
  change InN rows.length (bfsL rows ini) at hQi
  generalize lasL rows ini G=L at *
  generalize cycB rows=C at *
  generalize bfsL rows ini=Q at *
  refine z7 z16 Tryz.func95 rfl rfl 45 Tryz.ntmps95 (by simp) ?_
  repeat' ((first|(apply y4 ok;rfl)|((first|(apply z10 [] [0] cC;rfl;rfl)|(apply z10 [] [1] cO;rfl;rfl));rfl;(focus ((repeat' first|exact z17|apply z14)<;>(refine z19 ?_;((exact z5 fun _=>rfl)))))))<;>conv=>whnf)
  refine z63 (fun i:Nat=>([(0,lst 1 encL rows),(1,ints ini),(2,.fn (.func f) [] [.pt c1,.pt c2]),(9,.sref 0 0 rows.length),(17,.sref 1 0 Q.length),(18,.int Q.length),(19,.int i)],[.cells 1 (C.map enB),.cells 1 (Q.map enI)])) (fun i=>i≤Q.length∧∀ j,j < i→(G (Q.getD j 0) && cycD rows (Q.getD j 0).toNat)=false) (fun i=>Q.length - i) 0 ⟨y53 _,fun j hj=>by omega⟩ (by refine swR [0,1] [] rfl rfl ?_;(repeat' first|exact y86 _|exact z9 _|refine z8 rfl (z5 (fun _=>rfl)) ?_|constructor)) ?_
  rintro i ⟨hi1,hno⟩
  by_cases hi2:i < Q.length
  · have hm:=z400 hi2
    have hx:=hQi _ hm
    have gx:(Q.map enI)[i]?=some (enI (Q.getD i 0)):=by rw [y51,y45 hi2,z15 hi2];rfl
    have cf:=hf _ hx.1 hx.2
    have hsome:=fun h=>hrR i hi2 h hno
    have hnxt:(G (Q.getD i 0) && cycD rows (Q.getD i 0).toNat)=false→∀ j,j < i+1→(G (Q.getD j 0) && cycD rows (Q.getD j 0).toNat)=false:=fun h j hj=>by
      by_cases e:j=i
      · subst e;exact h
      · exact hno j (by omega)
    have hsh:=hto _ hm
    have csh:=z661 rows ini hr hi hn hN hrl (fun n=>decide (n=Q.getD i 0)) 177 [.int (Q.getD i 0)] (fun x _ _=>z1159 (Q.getD i 0) x)
    have car:=z1059 rows (Q.getD i 0) hr hx hN hrl
    rw [hsh] at csh
    rw [aroL_eq] at car
    have hb1:=z556 (srP rows ini) rows.length (Q.getD i 0) []
    have hb2:=z557 (srP rows ini) rows.length (Q.getD i 0) []
    have hc2:=z701 rows (Q.getD i 0)
    have gc:=hcg (Q.getD i 0).toNat (by omega)
    rw [y59] at hb2
    clear hsh hrR hrN hto hcg hm hno
    generalize bkw (srP rows ini) rows.length (Q.getD i 0) []=B at *
    generalize cycL rows (Q.getD i 0)=Y at *
    generalize Q.getD i 0=x at *
    obtain ⟨u,rfl⟩:∃ u:Nat,x=u:=⟨x.toNat,by omega⟩
    rw [y77] at *
    by_cases hg:(G (u:Int) && cycD rows u)=true
    · have hL:=hsome hg
      obtain ⟨hg1,hg2⟩:=Bool.and_eq_true_iff.1 hg
      rw [hg1] at cf
      rw [hg2] at gc
      subst hL
      repeat' ((first|(apply y4 ok;rfl)|(apply z22;kernel_rfl)|(refine z12 (i:=i) rfl gx ?_)|(refine z12 (i:=u) rfl gc ?_)|(apply y43;first|omega|(unfold inI;omega))|((apply z6)<;>intro _)|(apply z4 (cf);rfl;rfl)|((first|(apply z96 [] [2] [3] csh;(focus ((repeat' first|exact z69|apply z42)<;>rfl));rfl)|(apply z96 [] [] [4] car;rfl;rfl));rfl;(focus ((repeat' first|exact z17|apply z14)<;>(refine z19 ?_;((exact z5 fun _=>rfl)))));(first|exact .inl rfl|(refine .inr ⟨rfl,?_⟩;repeat' first|exact True.intro|apply y43|exact z102 (fun _=>rfl) _))))<;>conv=>whnf)
      all_goals try (exfalso;omega)
      all_goals
        show RetS _ _ (.tup [.sref 0 0 (B.take (B.length - 1)).length,.sref 1 0 Y.length,.bool true]) [.cells 1 ((B.take (B.length - 1)).map enI),.cells 1 (Y.map enI)] _
        refine Gl.RetS.trunc 3 (B.length - 1) rfl ?_
        conv=>whnf
        (refine rsD [3,4] [] rfl ?_;(repeat' first|exact y86 _|exact z9 _|(refine z52 ?_;((simp;done)))|((refine z8 rfl ?_ ?_);(focus ((repeat' (first|exact z5 (fun _=>rfl)|apply z21));done)))|apply z80|constructor))
      all_goals (refine z51 ?_;rw [List.map_take])
    · have hg:=(y72 _).mp hg
      have hn2:=hnxt hg
      cases hG:G (u:Int)
      · rw [hG] at cf
        repeat' ((first|(apply y4 ok;rfl)|(refine z12 (i:=i) rfl gx ?_)|(apply y43;first|omega|(unfold inI;omega))|((apply z6)<;>intro _)|(apply z4 (cf);rfl;rfl))<;>conv=>whnf)
        all_goals try (exfalso;omega)
        all_goals refine z25 (i+1) ⟨hi2,hn2⟩ (by omega) (by refine swR [0,1] [] rfl rfl ?_;(repeat' first|exact y86 _|exact z9 _|refine z8 rfl (z5 (fun _=>rfl)) ?_|constructor))
      · rw [hG] at cf
        rw [hG,Bool.true_and] at hg
        rw [hg] at gc
        repeat' ((first|(apply y4 ok;rfl)|(refine z12 (i:=i) rfl gx ?_)|(refine z12 (i:=u) rfl gc ?_)|(apply y43;first|omega|(unfold inI;omega))|((apply z6)<;>intro _)|(apply z4 (cf);rfl;rfl))<;>conv=>whnf)
        all_goals try (exfalso;omega)
        all_goals refine z25 (i+1) ⟨hi2,hn2⟩ (by omega) (by refine swR [0,1] [] rfl rfl ?_;(repeat' first|exact y86 _|exact z9 _|refine z8 rfl (z5 (fun _=>rfl)) ?_|constructor))
  · have hL:=hrN fun j hj=>hno j (by omega)
    subst hL
    repeat' ((first|(apply y4 ok;rfl)|(apply y43;omega)|(((apply z11;omega));intro _)|((apply z6)<;>intro _))<;>conv=>whnf)
    all_goals try (exfalso;omega)
    all_goals show RetS _ _ (.tup [.sref 0 0 0,.sref 1 0 0,.bool false]) [.cells 1 [],.cells 1 []] _
    all_goals (refine y89 1 ?_;refine y89 1 ?_;refine rsD [2,3] [] rfl ?_;(repeat' first|exact y86 _|exact z48|refine z8 rfl (z23) ?_|apply z80|constructor))
end Go.Proofs.YtjhgpfaodkchjaaGreat
namespace Go.Proofs.YtjhgpfaodkchjaaGreat
open Go.Gl
attribute [local irreducible] z18 AWP z30 z37 z33
theorem z884 (n:Nat) (h0:0 < n) (h1:n≤1048576):CallsA Tryz.prog 129 [.nils,.int n] [] (.sref 0 0 0) [.cells 1 (List.replicate n [.int 0])]:=by
 refine z13 z16 Tryz.func129 rfl rfl 27 Tryz.ntmps129 (by simp) ?_
 repeat' (first|(apply y4 ok;rfl;conv=>whnf)|(apply y43;(first|omega|(unfold inI;omega)|(dsimp only;omega));conv=>whnf)|(apply z6<;>intro _<;>conv=>whnf))
 all_goals try (exfalso;omega)
 exact z86 [0] (by decide) rfl rfl rfl ⟨z62 (z119 (by rw [show ((n:Int) - (((0:Nat):Int) - ((0:Nat):Int))).toNat=n by omega])) (z50 rfl),trivial⟩
def szK (a b:List Int):Nat→Nat
 |0=>0
 |1=>a.length
 |_=>a.length+b.length
def clK (a b:List Int):Nat→List (List AC)
 |0=>List.replicate (a.length+b.length) [.int 0]
 |1=>a.map enI
 |_=>(a++b).map enI
theorem z705 (a b:List Int) (k:Nat):Flat (clK a b k):=by
 match k with
 |0=>exact z50 rfl
 |1=>exact z5 fun _=>rfl
 |_+2=>exact z5 fun _=>rfl
theorem z625 (a b:List Int) (h0:0 < a.length+b.length) (h1:a.length+b.length≤1048576):CallsA Tryz.prog 55 [lst 1 encL [a,b]] [] (.sref 0 0 (a.length+b.length)) [.cells 1 ((a++b).map enI)]:=by
 have cg:=z884 (a.length+b.length) h0 h1
 have e0:szK a b 0=0:=rfl
 have e1:szK a b 1=a.length:=rfl
 have e2:szK a b 2=a.length+b.length:=rfl
 have hc1:(clK a b 1).length=szK a b 1:=by simp [clK,szK]
 refine z13 z16 Tryz.func55 rfl rfl 36 Tryz.ntmps55 (by simp) ?_
 repeat' ((apply y4 ok;rfl;conv=>whnf))
 refine z110 (fun k:Nat=>([(0,lst 1 encL [a,b]),(3,.int (szK a b k)),(9,lst 1 encL [a,b]),(10,.int (2:Nat)),(11,.int k)],[])) (fun k=>k≤2) (fun k=>2 - k) 0 (by omega) ⟨[],rfl,by decide,rfl,⟨⟨rfl,rfl⟩,⟨rfl,rfl⟩,⟨rfl,rfl⟩,⟨rfl,rfl⟩,⟨rfl,rfl⟩,trivial⟩,trivial⟩ ?_
 intro k hk
 have hk3:k=0∨k=1∨k=2:=by omega
 rcases hk3 with rfl|rfl|rfl
 ·repeat' (first|(apply y4 ok;rfl;conv=>whnf)|(refine z12 (i:=0) rfl rfl ?_;conv=>whnf)|(apply y43;(first|omega|(unfold inI;omega));conv=>whnf))
  all_goals exact z98 1 [] (by omega) (by omega) ⟨rfl,by decide,rfl,⟨⟨rfl,rfl⟩,⟨rfl,z1197 (by omega)⟩,⟨rfl,rfl⟩,⟨rfl,rfl⟩,⟨rfl,rfl⟩,trivial⟩,trivial⟩
 ·repeat' (first|(apply y4 ok;rfl;conv=>whnf)|(refine z12 (i:=1) rfl rfl ?_;conv=>whnf)|(apply y43;(first|omega|(unfold inI;omega));conv=>whnf))
  all_goals exact z98 2 [] (by omega) (by omega) ⟨rfl,by decide,rfl,⟨⟨rfl,rfl⟩,⟨rfl,z1197 (by omega)⟩,⟨rfl,rfl⟩,⟨rfl,rfl⟩,⟨rfl,rfl⟩,trivial⟩,trivial⟩
 ·rw [← e2] at cg
  repeat' (first|(apply y4 ok;rfl;conv=>whnf)|(apply z100 [] [] [0] (cg);rfl;(focus ((repeat' (exact z32))<;>(fail)));rfl;rfl;rfl;rfl;rfl;(focus ((repeat' (first|exact z17|apply z14))<;>((refine z19 ?_;(exact z50 rfl)))));(exact .inl rfl);conv=>whnf))
  refine z110 (fun k:Nat=>([(6,.sref 0 0 (szK a b k)),(25,lst 1 encL [a,b]),(26,.int (2:Nat)),(27,.int k)],[.cells 1 (clK a b k)])) (fun k=>k≤2) (fun k=>2 - k) 0 (by omega) ⟨[0],rfl,by decide,rfl,⟨⟨rfl,rfl⟩,⟨rfl,rfl⟩,⟨rfl,rfl⟩,⟨rfl,rfl⟩,trivial⟩,⟨z62 rfl (z705 a b 0),trivial⟩⟩ ?_
  intro k hk
  have hk3:k=0∨k=1∨k=2:=by omega
  rcases hk3 with rfl|rfl|rfl
  ·repeat' (first|(apply y4 ok;rfl;conv=>whnf)|(refine z12 (i:=0) rfl rfl ?_;conv=>whnf)|(apply y43;(first|omega|(unfold inI;omega)|(dsimp only;omega)|exact z66 (fun _=>rfl));conv=>whnf))
   all_goals exact z98 1 [1] (by omega) (by omega) ⟨rfl,by decide,rfl,⟨⟨rfl,congrArg (AC.sref 1 0) (show szK a b 0+a.length=szK a b 1 by omega)⟩,⟨rfl,rfl⟩,⟨rfl,rfl⟩,⟨rfl,rfl⟩,trivial⟩,⟨z62 (z119 (by rw [e0,List.take_zero];rfl)) (z705 a b 1),trivial⟩⟩
  ·repeat' (first|(apply y4 ok;rfl;conv=>whnf)|(refine z12 (i:=1) rfl rfl ?_;conv=>whnf)|(apply y43;(first|omega|(unfold inI;omega)|(dsimp only;omega)|exact z66 (fun _=>rfl));conv=>whnf))
   all_goals exact z98 2 [1] (by omega) (by omega) ⟨rfl,by decide,rfl,⟨⟨rfl,congrArg (AC.sref 1 0) (show szK a b 1+b.length=szK a b 2 by omega)⟩,⟨rfl,rfl⟩,⟨rfl,rfl⟩,⟨rfl,rfl⟩,trivial⟩,⟨z62 (z119 (by rw [y57 (by omega)];exact (y64 ..).symm)) (z705 a b 2),trivial⟩⟩
  ·repeat' ((apply y4 ok;rfl;conv=>whnf))
   all_goals exact z86 [0] (by decide) rfl rfl rfl ⟨z62 rfl (z5 fun _=>rfl),trivial⟩
noncomputable def z351 (g:Graph) (p:List Int) (i:Nat):Bool:=(decide (0≤p.getD i 0) && decide (p.getD i 0 < g.st.length)) && (decide (i=0) || decide (p.getD i 0∈g.nx.getD (p.getD (i - 1) 0).toNat []))
noncomputable def z287 (g:Graph) (p:List Int):Bool:=z205 g && (decide (1≤p.length) && (List.range p.length).all (z351 g p))
theorem z524 {g:Graph} {p:List Int} {i:Nat} (hi:i < p.length) (h:z351 g p i=false):z287 g p=false:=by
 unfold z287
 have:(List.range p.length).all (z351 g p)=false:=by
  rw [List.all_eq_false]
  exact ⟨i,List.mem_range.2 hi,by simp [h]⟩
 rw [this];simp
theorem z601 {g:Graph} {p:List Int} (hg:z205 g=true) (h0:1≤p.length) (h:∀ i,i < p.length→z351 g p i=true):z287 g p=true:=by
 unfold z287
 have:(List.range p.length).all (z351 g p)=true:=by
  rw [y79]
  exact fun i hi=>h i (List.mem_range.1 hi)
 rw [this,hg,y82 h0];rfl
theorem stepP_0 (g:Graph) (p:List Int) (h:0 < p.length):z351 g p 0=(decide (0≤p[0]) && decide (p[0] < g.st.length)):=by
 unfold z351;rw [z15 h];simp
theorem stepP_s (g:Graph) (p:List Int) (j:Nat) (h:j+1 < p.length) (h2:p[j].toNat < g.nx.length):z351 g p (j+1)=(decide (0≤p[j+1]) && decide (p[j+1] < g.st.length) && decide (p[j+1]∈g.nx[p[j].toNat])):=by
 unfold z351
 rw [z15 h,Nat.add_sub_cancel,z15 (show j < p.length by omega),z15 h2];simp
theorem z931 {g:Graph} {p:List Int} {j:Nat} (h:j < p.length) (k:z351 g p j=true):0≤p[j]∧p[j] < g.st.length:=by
 unfold z351 at k
 rw [z15 h] at k
 simp only [y71,decide_eq_true_eq] at k
 exact k.1
theorem z724 {P:Nat→Prop} {i:Nat} (h:∀ j,j < i→P j) (k:P i):∀ j,j < i+1→P j:=fun j hj=>by
 rcases y70 j i with h3|h3
 ·exact h j h3
 ·obtain rfl:j=i:=by omega
  exact k
set_option maxHeartbeats 1600000 in
theorem z883 (g:Graph) (hg:g.mx) (p:List Int) (hp:p.length≤maxLen):CallsA Tryz.prog 56 [.agg g.cs,ints p] [] (.bool (z287 g p)) []:=by
 have k1:=z259 g hg
 unfold maxLen at hp
 by_cases hgb:z205 g=true
 ·have hG:=(z83 g).1 hgb
  have hgl:=hG.2.1
  have h60:=hG.1.2
  have hrl:=hg.2.2
  rw [hgb] at k1
  by_cases h0:p.length=0
  ·have e:z287 g p=false:=by unfold z287;rw [y83 (show ¬ 1≤p.length by omega)];simp
   rw [e]
   refine z13 z16 Tryz.func56 rfl rfl 48 Tryz.ntmps56 (by simp) ?_
   repeat' ((first|(apply y4 ok;rfl)|((apply z6)<;>intro _)|(apply z4 (k1);rfl;rfl))<;>conv=>whnf)
   all_goals first|(exfalso;omega)|exact z28 rfl rfl
  refine z13 z16 Tryz.func56 rfl rfl 48 Tryz.ntmps56 (by simp) ?_
  repeat' ((first|(apply y4 ok;rfl)|((apply z6)<;>intro _)|(apply z4 (k1);rfl;rfl))<;>conv=>whnf)
  all_goals try (exfalso;omega)
  refine z110 (fun i:Nat=>([(1,ints p),(2,.ptr 0 none 0),(15,ints p),(16,.int p.length),(17,.int i)],[.cells 2 [[lst 2 State.cs g.st,lst 1 encL g.nx]]])) (fun i=>i≤p.length∧∀ j,j < i→z351 g p j=true) (fun i=>p.length - i) 0 ⟨by omega,fun j hj=>by omega⟩ ⟨[0],rfl,by decide,rfl,⟨⟨rfl,rfl⟩,⟨rfl,rfl⟩,⟨rfl,rfl⟩,⟨rfl,rfl⟩,⟨rfl,rfl⟩,trivial⟩,⟨z24 rfl rfl,trivial⟩⟩ ?_
  rintro i ⟨hi,hs⟩
  by_cases hil:i < p.length
  ·have g0:(p.map enI)[i]?=some (enI p[i]):=by rw [y51,y45 hil];rfl
   have c1:=z296 p[i] 0 ((g.st.length:Int) - 1)
   cases i with
   |zero =>
    have hst:=stepP_0 g p hil
    generalize p[0]=x at *
    repeat' ((first|(apply y4 ok;rfl)|(apply z22;kernel_rfl)|(refine z12 (i:=0) rfl g0 ?_)|(apply y43;first|omega|(unfold inI;omega))|((first|apply z6|apply z84)<;>intro _)|(apply z4 (c1);rfl;rfl))<;>conv=>whnf)
    all_goals (try simp only [z95,z270] at *)
    all_goals first
     |(exfalso;omega)
     |exact z28 rfl (z524 hil (by rw [hst];grind))
     |exact z98 1 [0] ⟨by omega,z724 hs (by rw [hst];grind)⟩ (by omega) ⟨rfl,by decide,rfl,⟨⟨rfl,rfl⟩,⟨rfl,rfl⟩,⟨rfl,rfl⟩,⟨rfl,rfl⟩,⟨rfl,rfl⟩,trivial⟩,⟨z24 rfl rfl,trivial⟩⟩
   |succ j =>
    have hy:=z931 (show j < p.length by omega) (hs j (by omega))
    have hst:=stepP_s g p j hil (by omega)
    have g1:(p.map enI)[j]?=some (enI p[j]):=by rw [y51,y45 (by omega)];rfl
    have c2:=z124 g.nx[p[j].toNat] (hrl _ (y44 _)) p[j+1]
    have g2:(g.nx.map encL)[p[j].toNat]?=some (encL (g.nx[p[j].toNat]'(by omega))):=by rw [y51,y45 (by omega)];rfl
    generalize g.nx[p[j].toNat]=row at *
    generalize p[j]=y at *
    generalize p[j+1]=x at *
    repeat' ((first|(apply y4 ok;rfl)|(apply z22;kernel_rfl)|(refine z12 (i:=j+1) (by rfl) g0 ?_)|(refine z12 (i:=j) (by omega) g1 ?_)|(refine z12 (i:=y.toNat) rfl g2 ?_)|(apply y43;first|omega|(unfold inI;omega))|((first|apply z6|apply z46|apply z84)<;>intro _)|(apply z4 (c1);rfl;rfl)|(apply z4 (c2);rfl;rfl))<;>conv=>whnf)
    all_goals (try simp only [z95,z270] at *)
    all_goals first
     |(exfalso;omega)
     |exact z28 rfl (z524 hil (by rw [hst];grind))
     |exact z98 (j+2) [0] ⟨by omega,z724 hs (by rw [hst];grind)⟩ (by omega) ⟨rfl,by decide,rfl,⟨⟨rfl,rfl⟩,⟨rfl,rfl⟩,⟨rfl,rfl⟩,⟨rfl,rfl⟩,⟨rfl,rfl⟩,trivial⟩,⟨z24 rfl rfl,trivial⟩⟩
     |skip
  ·repeat' ((first|(apply y4 ok;rfl)|(apply y43;omega)|(((with_reducible apply z11;omega));intro _)|((apply z6)<;>intro _))<;>conv=>whnf)
   all_goals try (exfalso;omega)
   exact z28 rfl (z601 hgb (by omega) fun j hj=>hs j (by omega))
 ·have hgb:=(y72 _).mp hgb
  have e:z287 g p=false:=by unfold z287;rw [hgb];rfl
  rw [hgb] at k1
  rw [e]
  refine z13 z16 Tryz.func56 rfl rfl 48 Tryz.ntmps56 (by simp) ?_
  repeat' ((first|(apply y4 ok;rfl)|(apply z4 (k1);rfl;rfl))<;>conv=>whnf)
  all_goals exact z28 rfl rfl
structure Trace where
 stem:List Int
 loop:List Int
deriving DecidableEq
def Trace.cs (t:Trace):List AC:=[ints t.stem,ints t.loop]
def Trace.all (t:Trace):List Int:=t.stem++t.loop
noncomputable def trB (g:Graph) (t:Trace):Bool:=decide (1≤t.loop.length∧t.stem.length+t.loop.length≤8000) && (z287 g t.all && (decide (t.all.getD 0 0=0) && decide (t.loop.getD 0 0∈g.nx.getD ((t.loop.getD (t.loop.length - 1) 0).toNat) [])))
theorem z523 {g:Graph} {p:List Int} (h:z287 g p=true) (i:Nat) (hi:i < p.length):0≤p[i]∧p[i] < g.st.length:=by
 unfold z287 at h
 rw [y71,y71,y79] at h
 exact z931 hi (h.2.2 i (List.mem_range.2 hi))
theorem z600 {g:Graph} {p:List Int} (h:z287 g p=true):z205 g=true:=by
 unfold z287 at h
 exact (Bool.and_eq_true_iff.1 h).1
theorem z949 {l:List Int} {i:Nat} (h:i < l.length):(l.map enI)[i]?=some (enI l[i]):=by rw [y51,y45 h];rfl
theorem row_at {l:List (List Int)} {i:Nat} (h:i < l.length):(l.map encL)[i]?=some (encL l[i]):=by rw [y51,y45 h];rfl
structure TrF (g:Graph) (t:Trace) (x y p0:Int) (row:List Int):Prop where
 hx:0≤x∧x < g.st.length
 gp:(t.all.map enI)[0]?=some (enI p0)
 ga:(t.all.map enI)[t.all.length - 1]?=some (enI x)
 gx:(t.loop.map enI)[t.loop.length - 1]?=some (enI x)
 gl:(t.loop.map enI)[0]?=some (enI y)
 gr:(g.nx.map encL)[x.toNat]?=some (encL row)
 rm:row.length≤maxLen
 e:trB g t=(decide (p0=0) && decide (y∈row))
theorem trF {g:Graph} (hg:g.mx) {t:Trace} (hs:1≤t.loop.length∧t.stem.length+t.loop.length≤8000) (hb:z287 g t.all=true):∃ x y p0 row,TrF g t x y p0 row:=by
 have hG:=(z83 g).1 (z600 hb)
 have hal:t.all.length=t.stem.length+t.loop.length:=by unfold Trace.all;simp
 have hl:t.loop.length - 1 < t.loop.length:=by omega
 have ha:t.all.length - 1 < t.all.length:=by omega
 have h0:0 < t.loop.length:=by omega
 have hp:=z523 hb _ ha
 have ex:t.all[t.all.length - 1]=t.loop[t.loop.length - 1]:=by
  have:t.all[t.all.length - 1]?=t.loop[t.loop.length - 1]?:=by
   rw [hal]
   unfold Trace.all
   rw [y67 (by omega)]
   congr 1;omega
  rw [y45 ha,y45 hl] at this
  exact Option.some.inj this
 have hxn:(t.loop[t.loop.length - 1]).toNat < g.nx.length:=by
  rw [ex] at hp;have:=hG.2.1;omega
 refine ⟨t.loop[t.loop.length - 1],t.loop[0],t.all[0],g.nx[(t.loop[t.loop.length - 1]).toNat],?_⟩
 refine ⟨by rw [← ex];exact hp,z949 (by omega),by rw [← ex];exact z949 ha,z949 hl,z949 h0,row_at hxn,hg.2.2 _ (y44 _),?_⟩
 unfold trB
 rw [y82 hs,hb,z15 (show 0 < t.all.length by omega),z15 h0,z15 hl,z15 hxn];rfl
set_option maxHeartbeats 1600000 in
theorem z297 (g:Graph) (hg:g.mx) (t:Trace) (h1:t.stem.length≤1048576) (h2:t.loop.length≤1048576):CallsA Tryz.prog 23 [.agg g.cs,.agg t.cs] [] (.bool (trB g t)) []:=by
 have hal:t.all.length=t.stem.length+t.loop.length:=by unfold Trace.all;simp
 by_cases hs:1≤t.loop.length∧t.stem.length+t.loop.length≤8000
 ·have kn:=z625 t.stem t.loop (by omega) (by omega)
  have k1:=z883 g hg t.all (by unfold maxLen;omega)
  by_cases hb:z287 g t.all=true
  ·obtain ⟨x,y,p0,row,F⟩:=trF hg hs hb
   have c2:=z124 row F.rm y
   have hx:=F.hx
   have gp:=F.gp
   have gx:=F.gx
   have gl:=F.gl
   have gr:=F.gr
   rw [hb] at k1
   rw [F.e]
   unfold Trace.all at *
   refine z13 z16 Tryz.func23 rfl rfl 52 Tryz.ntmps23 (by simp) ?_
   repeat' ((first|((fail_if_success apply z93 5);(fail_if_success apply z77 5);apply y4 ok;rfl)|(apply y43;(unfold inI;omega))|((apply z6)<;>intro _)|(apply z96 [] [2] [3] kn;(focus (exact z42 (z158 rfl rfl rfl rfl rfl) z69));rfl;rfl;(focus ((repeat' first|exact z17|apply z14)<;>(refine z19 ?_;((exact z5 fun _=>rfl)))));((refine .inr ⟨rfl,?_⟩;repeat' first|exact True.intro|apply y43|exact z102 (fun _=>rfl) _))))<;>conv=>whnf)
   all_goals try (exfalso;omega)
   refine y85 (SealL.reach (π:=[0,1]) (Bn:=[3]) (env:=[(2,.ptr 0 none 0),(3,.ptr 1 none 0),(5,.int t.loop.length),(6,ints (t.stem++t.loop))]) (objs:=[.cells 2 [[lst 2 State.cs g.st,lst 1 encL g.nx]],.cells 2 [[ints t.stem,ints t.loop]]]) ⟨rfl,rfl,by simp,rfl,fun o ho=>by simp at ho;rcases ho with rfl|rfl<;>rfl,⟨rfl,rfl,rfl,z805 rfl rfl rfl (by simp),trivial⟩,rfl⟩) ?_
   conv=>whnf
   repeat' ((first|(apply y4 ok;rfl)|(apply z22;kernel_rfl)|(refine z12 (i:=0) rfl gp ?_)|(refine z12 (i:=0) rfl gl ?_)|(refine z12 (i:=t.loop.length - 1) (by omega) gx ?_)|(refine z12 (i:=x.toNat) rfl gr ?_)|(apply y43;first|omega|(unfold inI;omega))|((apply z6)<;>intro _)|(apply z4 (k1);rfl;rfl)|(apply z4 (c2);rfl;rfl))<;>conv=>whnf)
   all_goals (exact z28 rfl (by grind))
  ·have e:trB g t=false:=by unfold trB;rw [(y72 _).mp hb];simp
   rw [(y72 _).mp hb] at k1
   rw [e]
   unfold Trace.all at *
   refine z13 z16 Tryz.func23 rfl rfl 52 Tryz.ntmps23 (by simp) ?_
   repeat' ((first|((fail_if_success apply z93 5);(fail_if_success apply z77 5);apply y4 ok;rfl)|(apply y43;(unfold inI;omega))|((apply z6)<;>intro _)|(apply z96 [] [2] [3] kn;(focus (exact z42 (z158 rfl rfl rfl rfl rfl) z69));rfl;rfl;(focus ((repeat' first|exact z17|apply z14)<;>(refine z19 ?_;((exact z5 fun _=>rfl)))));((refine .inr ⟨rfl,?_⟩;repeat' first|exact True.intro|apply y43|exact z102 (fun _=>rfl) _))))<;>conv=>whnf)
   all_goals try (exfalso;omega)
   refine y85 (SealL.reach (π:=[0,1]) (Bn:=[3]) (env:=[(2,.ptr 0 none 0),(3,.ptr 1 none 0),(5,.int t.loop.length),(6,ints (t.stem++t.loop))]) (objs:=[.cells 2 [[lst 2 State.cs g.st,lst 1 encL g.nx]],.cells 2 [[ints t.stem,ints t.loop]]]) ⟨rfl,rfl,by simp,rfl,fun o ho=>by simp at ho;rcases ho with rfl|rfl<;>rfl,⟨rfl,rfl,rfl,z805 rfl rfl rfl (by simp),trivial⟩,rfl⟩) ?_
   conv=>whnf
   repeat' ((first|(apply y4 ok;rfl)|(apply z22;kernel_rfl)|(apply z4 (k1);rfl;rfl))<;>conv=>whnf)
   all_goals exact z28 rfl rfl
 ·have e:trB g t=false:=by unfold trB;rw [y83 hs];simp
  rw [e]
  refine z13 z16 Tryz.func23 rfl rfl 52 Tryz.ntmps23 (by simp) ?_
  repeat' ((first|(apply y4 ok;rfl)|(apply y43;(unfold inI;omega))|((apply z6)<;>intro _))<;>conv=>whnf)
  all_goals first|(exfalso;omega)|exact z28 rfl rfl
end Go.Proofs.YtjhgpfaodkchjaaGreat
namespace Go.Proofs.YtjhgpfaodkchjaaGreat
open Go.Gl
attribute [local irreducible] z18 AWP z30 z37 z33 RetS z44
def Aut.sm (a:Aut):Prop:=a.ini.length≤40∧a.acc.length≤20∧a.ed.length≤2100∧∀ t∈a.ed,t.mx
set_option maxHeartbeats 3200000 in
theorem z767 (P:List Int) (hP:P.length≤100000) (f:Nat) (to:Int) (h:BackOk P f to) (hf:f≤100000):CallsA Tryz.prog 127 [ints P,.int to] [] (ints (bkw P f to [])) []:=by
 generalize hR:bkw P f to []=R
 have hto:=h
 refine z7 z16 Tryz.func127 rfl rfl 25 Tryz.ntmps127 (by simp) ?_
 repeat' (((apply y4 ok;rfl))<;>conv=>whnf)
 refine z63 (fun x:Nat×Int×List Int=>([(0,ints P),(5,.sref 0 0 (x.2.2.length+1))],[.cells 1 ((x.2.1::x.2.2).map enI)])) (fun x=>BackOk P x.1 x.2.1∧bkw P x.1 x.2.1 x.2.2=R∧x.1+x.2.2.length≤100000) (fun x=>x.1) (f,to,[]) ⟨hto,hR,by show f+0≤100000;omega⟩ (by refine swR [0] [] rfl rfl ?_;(repeat' first|exact y86 _|apply y87|constructor)) ?_
 rintro ⟨g,v,tl⟩ ⟨hB,hE,hl⟩
 dsimp only at hB hE hl ⊢
 have hv:0≤v∧v < P.length:=by cases g<;>exact hB.1
 have hg:(P.map enI)[v.toNat]?=some (enI (P.getD v.toNat 0)):=by rw [y51,y45 (by omega),z15 (by omega)];rfl
 by_cases h0:0≤P.getD v.toNat 0
 ·cases g with
  |zero=>exact absurd hB.2 (by omega)
  |succ g =>
   rw [bkw,if_pos h0] at hE
   have hB2:BackOk P g (P.getD v.toNat 0):=by
    rcases hB.2 with h|h
    ·omega
    ·exact h
   generalize P.getD v.toNat 0=y at *
   have hst:(List.map enI (v::tl)).length=tl.length+1∧Stor (List.map enI (v::tl)):=⟨by simp,z66 (fun _=>rfl)⟩
   repeat' ((first|(apply y4 ok;rfl)|(refine z12 (i:=v.toNat) (by simp) hg ?_)|(refine y43 hst ?_)|(apply y43;first|omega|((try dsimp only);simp only [y49,y48,y47,y46,y58,y59];omega))|apply z104|((apply z6)<;>intro _))<;>conv=>whnf)
   all_goals try (exfalso;omega)
   all_goals refine z25 (g,y,v::tl) ⟨hB2,hE,by show g+(v::tl).length≤100000;rw [y58];omega⟩ (by show g < g+1;omega) (by refine swR [2] [0,1] rfl rfl ?_;(repeat' first|exact y86 _|exact z9 _|(refine z52 ?_;((simp;omega)))|((refine z8 rfl ?_ ?_);(focus ((repeat' (first|exact z5 (fun _=>rfl)|exact z207 rfl z23|apply z65));done)))|constructor))
 ·have hE2:v::tl=R:=by
   cases g with
   |zero=>exact hE
   |succ g=>rw [bkw,if_neg h0] at hE;exact hE
  subst hE2
  generalize P.getD v.toNat 0=y at *
  repeat' ((first|(apply y4 ok;rfl)|(refine z12 (i:=v.toNat) (by simp) hg ?_)|(apply y43;omega)|(((apply z11;omega));intro _)|apply z104|((apply z6)<;>intro _))<;>conv=>whnf)
  all_goals try (exfalso;omega)
  all_goals (refine rsD [] [0] rfl ?_;(repeat' first|exact y86 _|((apply z41 rfl rfl rfl);(focus ((repeat ((exact z34 (fun _=>rfl) _)));done));(focus (((simp;done));done)))|constructor))
def z1195 (k:Nat):List Int:=List.replicate k (-1)
theorem z1040 (k:Nat):z1195 (k+1)=z1195 k++[-1]:=by unfold z1195;rw [List.replicate_succ']
theorem z673 {l:List Int} {k:Nat} (h:k < l.length) (x:Int):x∈l.take (k+1)↔x∈l.take k∨x=l[k]:=by
 rw [y50 h,y54,y55]
set_option maxHeartbeats 12800000 in
theorem z453 (rows:List (List Int)) (ini:List Int) (hr:∀ r∈rows,InN rows.length r) (hi:InN rows.length ini) (hn:ini.Nodup) (hN:rows.length≤100000) (hrl:∀ r∈rows,r.length≤1000000000):CallsA Tryz.prog 125 [lst 1 encL rows,ints ini] [] (.tup [.sref 0 0 (srP rows ini).length,.sref 1 0 (srQ rows ini).length]) [.cells 1 ((srP rows ini).map enI),.cells 1 ((srQ rows ini).map enI)]:=by
 have hil:ini.length≤rows.length:=z161 _ _ hn hi
 refine z7 z16 Tryz.func125 rfl rfl 91 Tryz.ntmps125 (by simp) ?_
 repeat' ((first|(apply y4 ok;rfl)|(apply y43;(dsimp only;omega)))<;>conv=>whnf)
 refine z63 (fun x:Nat×List Int=>([(0,lst 1 encL rows),(1,ints ini),(6,.sref 0 0 x.2.length),(7,.sref 1 0 rows.length),(8,.int x.1)],[.cells 1 (x.2.map enI),.cells 1 ((mkB rows.length []).map enB)])) (fun x=>x.1≤rows.length∧x.2.length=x.1∧x.2=z1195 x.1) (fun x=>rows.length - x.1) (0,[]) ⟨by show 0≤rows.length;omega,rfl,rfl⟩ (by refine swR [0,1] [] rfl rfl ?_;(repeat' first|exact y86 _|((refine z8 rfl ?_ ?_);(focus ((repeat' (first|exact z23|exact z50 rfl));done)))|constructor)<;>((refine z51 ?_;rw [mkB_nil,List.map_replicate];rfl))) ?_
 rintro ⟨i,F⟩ ⟨hF1,hFl,hF2⟩
 dsimp only at hF1 hFl hF2 ⊢
 by_cases hi2:i < rows.length
 ·repeat' ((first|(apply y4 ok;rfl)|(apply y43;first|omega|(unfold inI;omega)|((try dsimp only);simp only [y49,y48,y47,y46,y58,y59];omega)|exact ⟨rfl,z20 rfl z27⟩)|((apply z6)<;>intro _))<;>conv=>whnf)
  all_goals try (exfalso;omega)
  all_goals refine z25 (i+1,F++[-1]) ⟨hi2,by rw [y47,hFl];rfl,by show _=z1195 (i+1);rw [z1040,← hF2]⟩ (by show rows.length - (i+1) < _;omega) (by refine swR [3,1] [] rfl rfl ?_;(repeat' first|exact y86 _|exact z9 _|(refine z52 ?_;((simp;done)))|((first|refine z35 rfl ?_ ?_|refine z8 rfl ?_ ?_);(focus ((repeat' (first|exact z5 (fun _=>rfl)|apply z21));done)))|(refine z78 ?_ ?_;(focus (omega)))|constructor))
 ·have e:rows.length=i:=by omega
  have hs0:srS rows ini 0=(ini,F):=by rw [hF2,← e];rfl
  rw [← e] at hFl
  subst e
  clear hF1 hF2 hi2
  repeat' ((first|(apply y4 ok;rfl)|(apply y43;first|omega|(dsimp only;omega)|exact z66 (fun _=>rfl))|((apply z6)<;>intro _))<;>conv=>whnf)
  all_goals try (exfalso;omega)
  all_goals
   refine z63 (fun i:Nat=>([(0,lst 1 encL rows),(1,ints ini),(6,.sref 0 0 rows.length),(7,.sref 1 0 rows.length),(9,.sref 2 0 ini.length),(10,.int i)],[.cells 1 (F.map enI),.cells 1 ((mkB rows.length (ini.take i)).map enB),.cells 1 (ini.map enI)])) (fun i=>i≤ini.length) (fun i=>ini.length - i) 0 (by omega) (by refine swR [0,1,3] [] rfl rfl ?_;(repeat' first|exact y86 _|exact z9 _|(refine z52 ?_;(omega))|refine z8 rfl (z5 (fun _=>rfl)) ?_|constructor)) ?_
   intro i hi1
   by_cases hi2:i < ini.length
   ·have hx:=hi ini[i] (y44 _)
    have hset:=z1111 (enc:=enB) rfl hx.1 hx.2 (z673 hi2)
    have hml:=mkB_len rows.length (ini.take i)
    repeat' ((first|(apply y4 ok;rfl)|(apply y43;first|omega|(unfold inI;omega))|((first|(with_reducible apply z11;omega)|(apply z11;omega));intro _)|((apply z6)<;>intro _))<;>conv=>whnf)
    all_goals try (exfalso;omega)
    all_goals refine z25 (i+1) (by omega) (by omega) (by refine swR [0,1,2] [] rfl rfl ?_;(repeat' first|exact y86 _|exact z9 _|refine z58 rfl (z5 (fun _=>rfl)) ?_|refine z8 rfl (z5 (fun _=>rfl)) ?_|constructor)<;>(exact z51 hset))
   ·have e:ini.length=i:=by omega
    subst e
    rw [y56]
    repeat' ((first|(apply y4 ok;rfl)|(apply y43;omega)|((first|(with_reducible apply z11;omega)|(apply z11;omega));intro _)|((apply z6)<;>intro _))<;>conv=>whnf)
    all_goals try (exfalso;omega)
    refine z63 (fun x:Nat×List Int×List Int=>([(0,lst 1 encL rows),(6,.sref 0 0 rows.length),(7,.sref 1 0 rows.length),(9,.sref 2 0 x.2.1.length),(11,.int x.1)],[.cells 1 (x.2.2.map enI),.cells 1 ((mkB rows.length x.2.1).map enB),.cells 1 (x.2.1.map enI)])) (fun x=>srS rows ini x.1=(x.2.1,x.2.2)∧x.1≤x.2.1.length) (fun x=>rows.length - x.1) (0,ini,F) ⟨hs0,y53 _⟩ (by refine swR [0,1,2] [] rfl rfl ?_;(repeat' first|exact y86 _|exact z9 _|refine z8 rfl (z5 (fun _=>rfl)) ?_|constructor)) ?_
    clear hs0 hFl F
    rintro ⟨i,Q,P⟩ ⟨hS,hiQ⟩
    dsimp only at hS hiQ ⊢
    have hJ:=z279 hr hi hn i
    rw [hS] at hJ
    have hQl:=z161 _ _ hJ.nd hJ.inn
    have hPl:=hJ.len
    dsimp only at hQl hPl
    by_cases hi2:i < Q.length
    ·have hq:=hJ.inn _ (y44 hi2)
     have hS1:srS rows ini (i+1)=visPs Q[i] (Q,P) (rows.getD Q[i].toNat []):=by rw [srS,dif_pos (by rw [hS];exact hi2)];simp only [hS]
     have hqr:Q[i].toNat < rows.length:=by omega
     have hrow:rows.getD Q[i].toNat []=rows[Q[i].toNat]:=z15 hqr
     have hrin:InN rows.length rows[Q[i].toNat]:=hr _ (y44 _)
     have hrl2:=hrl rows[Q[i].toNat] (y44 _)
     rw [hrow] at hS1
     repeat' ((first|(apply y4 ok;rfl)|((apply z6)<;>intro _))<;>conv=>whnf)
     all_goals try (exfalso;omega)
     refine z63 (fun y:Nat×List Int×List Int=>([(0,lst 1 encL rows),(6,.sref 0 0 rows.length),(7,.sref 1 0 rows.length),(9,.sref 2 0 y.2.1.length),(11,.int i),(12,.int y.1)],[.cells 1 (y.2.2.map enI),.cells 1 ((mkB rows.length y.2.1).map enB),.cells 1 (y.2.1.map enI)])) (fun y=>visPs Q[i] (Q,P) (rows[Q[i].toNat].take y.1)=(y.2.1,y.2.2)∧y.1≤rows[Q[i].toNat].length) (fun y=>rows[Q[i].toNat].length - y.1) (0,Q,P) ⟨rfl,y53 _⟩ (by refine swR [0,1,2] [] rfl rfl ?_;(repeat' first|exact y86 _|exact z9 _|refine z8 rfl (z5 (fun _=>rfl)) ?_|constructor)) ?_
     rintro ⟨k,Q',P'⟩ ⟨hV,hk⟩
     dsimp only at hV hk ⊢
     obtain ⟨hJ',hi',hu⟩:=PJ.visPs (rows[Q[i].toNat].take k) hJ hi2 rfl (fun x hx=>hrin x (List.mem_of_mem_take hx))
     simp only [hV] at hJ' hi' hu
     have hQl':=z161 _ _ hJ'.nd hJ'.inn
     have hPl':=hJ'.len
     dsimp only at hQl' hPl'
     have hg:(Q'.map enI)[i]?=some (enI Q[i]):=by rw [y51,y45 hi',hu];rfl
     by_cases hk2:k < rows[Q[i].toNat].length
     ·have hx:=hrin rows[Q[i].toNat][k] (y44 _)
      have hv:=z416 (u:=Q[i]) (x:=(Q,P)) hk2
      rw [hV] at hv
      have hkk:(rows[Q[i].toNat].map enI)[k]?=some (enI rows[Q[i].toNat][k]):=by rw [y51,y45 hk2];rfl
      generalize Q[i]=u at *
      generalize rows[u.toNat][k]=v at *
      by_cases hn2:v∈Q'
      ·rw [z366 hn2] at hv
       repeat' ((first|(apply y4 ok;rfl)|(refine z12 (i:=i) rfl hg ?_)|(refine z12 (i:=k) rfl hkk ?_)|(refine z1181 (enc:=enB) (v:=v) (by rfl) hx.1 hx.2 ?_)|(apply y43;first|omega|(unfold inI;omega)|((try dsimp only);simp only [y49,y48,y47,y46,y58,y59];omega)|exact ⟨rfl,z20 rfl z27⟩)|((first|(with_reducible apply z67;omega)|(apply z11;omega));intro _)|((first|apply z6|apply z46)<;>intro _))<;>conv=>whnf)
       all_goals first|(exfalso;omega)|(exfalso;contradiction)|skip
       all_goals refine z25 (k+1,Q',P') ⟨hv,hk2⟩ (by show rows[u.toNat].length - (k+1) < rows[u.toNat].length - k;omega) (by refine swR [0,1,2] [] rfl rfl ?_;(repeat' first|exact y86 _|exact z9 _|refine z8 rfl (z5 (fun _=>rfl)) ?_|constructor))
      ·rw [z367 hn2] at hv
       have hset:=z1111 (enc:=enB) (S:=Q') (S':=Q'++[v]) rfl hx.1 hx.2 (fun x=>by simp)
       repeat' ((first|(apply y4 ok;rfl)|(refine z12 (i:=i) rfl hg ?_)|(refine z12 (i:=k) rfl hkk ?_)|(refine z1181 (enc:=enB) (v:=v) (by rfl) hx.1 hx.2 ?_)|(apply y43;first|omega|(unfold inI;omega)|((try dsimp only);simp only [y49,y48,y47,y46,y58,y59];omega)|exact ⟨rfl,z20 rfl z27⟩)|((first|(with_reducible apply z67;omega)|(apply z11;omega));intro _)|((first|apply z6|apply z46)<;>intro _))<;>conv=>whnf)
       all_goals first|(exfalso;omega)|(exfalso;contradiction)|skip
       all_goals refine z25 (k+1,Q'++[v],P'.set v.toNat u) ⟨hv,hk2⟩ (by show rows[u.toNat].length - (k+1) < rows[u.toNat].length - k;omega) (by refine swR [0,1,4] [] rfl rfl ?_;(repeat' first|exact y86 _|(refine z52 ?_;((simp;done)))|((first|refine z35 rfl ?_ ?_|refine z58 rfl ?_ ?_);(focus ((repeat' (first|exact z5 (fun _=>rfl)|apply z21));done)))|refine z184 (by omega) ?_|(refine z78 ?_ ?_;(focus (omega)))|constructor)<;>(exact z51 hset))
     ·rw [y57 (by omega)] at hV
      rw [hV] at hS1
      repeat' ((first|(apply y4 ok;rfl)|(refine z12 (i:=i) rfl hg ?_)|(apply y43;first|omega|(unfold inI;omega))|((first|(with_reducible apply z11;omega)|(with_reducible apply z67;omega)|(apply z11;omega));intro _)|((first|apply z6|apply z84)<;>intro _))<;>conv=>whnf)
      all_goals try (exfalso;omega)
      all_goals refine z25 (i+1,Q',P') ⟨hS1,hi'⟩ (by show rows.length - (i+1) < rows.length - i;omega) (by refine swR [0,1,2] [] rfl rfl ?_;(repeat' first|exact y86 _|exact z9 _|refine z8 rfl (z5 (fun _=>rfl)) ?_|constructor))
    ·have hE:=z1096 (rows:=rows) (ini:=ini) (i:=i) (by rw [hS];show Q.length≤i;omega) (by omega)
     rw [hS] at hE
     obtain ⟨e1,e2⟩:=Prod.mk.inj hE
     rw [← e1,← e2]
     repeat' ((first|(apply y4 ok;rfl)|((apply z6)<;>intro _))<;>conv=>whnf)
     all_goals try (exfalso;omega)
     all_goals (refine rsD [0,2] [] rfl ?_;(repeat' first|exact y86 _|exact z9 _|(refine z52 ?_;(omega))|refine z8 rfl (z5 (fun _=>rfl)) ?_|apply z80|constructor))
theorem z870 (rows:List (List Int)) (ini:List Int) (hr:∀ r∈rows,InN rows.length r) (hi:InN rows.length ini) (hn:ini.Nodup) (hN:rows.length≤100000) (hrl:∀ r∈rows,r.length≤1000000000):CallsA Tryz.prog 125 [lst 1 encL rows,ints ini] [] (.tup [ints (srP rows ini),ints (srQ rows ini)]) [] :=
 (z453 rows ini hr hi hn hN hrl).lend [] [0,1] rfl rfl rfl (z900 (z42 (z108 rfl rfl rfl) (z42 (z108 rfl rfl rfl) z69))) z32
theorem rowAt {rows:List (List Int)} {v:Int} (hv:0≤v∧v < rows.length):(rows.map encL)[v.toNat]?=some (encL (rows.getD v.toNat [])):=by
 rw [y51,y45 (by omega),z15 (by omega)];rfl
theorem rowLen {rows:List (List Int)} {M:Nat} (hrl:∀ r∈rows,r.length≤M) (v:Int):(rows.getD v.toNat []).length≤M:=by
 by_cases h:v.toNat < rows.length
 ·rw [z15 h];exact hrl _ (y44 _)
 ·rw [y68,y69 (by omega)];exact y53 _
set_option maxHeartbeats 3200000 in
theorem z1018 (rows:List (List Int)) (v:Int) (hr:∀ r∈rows,InN rows.length r) (hv:0≤v∧v < rows.length) (hN:rows.length≤100000) (hrl:∀ r∈rows,r.length≤1000000000):CallsA Tryz.prog 126 [lst 1 encL rows,.int v] [] (ints (cycL rows v)) []:=by
 have hg:=rowAt hv
 have hl:=fun w=>rowLen hrl w
 have c1:=z680 (rows.getD v.toNat []) (by have:=hl v;unfold maxLen;omega) v
 have hlv:=hl v
 have c2:=z453 rows [v] hr (z288 hv) (by simp) hN hrl
 have hQ:=z594 hr (z288 hv) (by simp)
 have hB:=z653 hr (z288 hv) (by simp)
 have hPl:=z1099 hr (z288 hv) (by simp)
 have hQl:=z839 hr (z288 hv) (by simp)
 have c3:=fun k hk=>z767 (srP rows [v]) (by omega) rows.length _ (hB k hk) (by omega)
 unfold cycL
 by_cases h:v∈rows.getD v.toNat []
 ·rw [if_pos h]
  rw [y82 h] at c1
  generalize rows.getD v.toNat []=r0 at *
  refine z7 z16 Tryz.func126 rfl rfl 45 Tryz.ntmps126 (by simp) ?_
  repeat' ((first|(apply y4 ok;rfl)|(refine z12 (i:=v.toNat) (by simp) hg ?_)|(apply y43;omega)|(apply z4 (c1);rfl;rfl))<;>conv=>whnf)
  all_goals (refine rsD [] [0] rfl ?_;(repeat' first|exact y86 _|constructor))
 ·rw [if_neg h]
  rw [y83 h] at c1
  generalize hr0:rows.getD v.toNat []=r0 at hg c1 hlv
  generalize srQ rows [v]=Q at *
  generalize srP rows [v]=P at *
  generalize hR:cycT rows P v Q=R
  refine z7 z16 Tryz.func126 rfl rfl 45 Tryz.ntmps126 (by simp) ?_
  repeat' ((first|(apply y4 ok;rfl)|(refine z12 (i:=v.toNat) (by simp) hg ?_)|(apply y43;omega)|(apply z4 (c1);rfl;rfl)|(apply z96 [] [0] [1,2] c2;(focus ((repeat' first|exact z69|apply z42)<;>rfl));rfl;rfl;(focus ((repeat' first|exact z17|apply z14)<;>(refine z19 ?_;((exact z5 fun _=>rfl)))));((refine .inr ⟨rfl,?_⟩;repeat' first|exact True.intro|apply y43|exact z102 (fun _=>rfl) _))))<;>conv=>whnf)
  refine z63 (fun i:Nat=>([(0,lst 1 encL rows),(1,.int v),(5,ints P),(6,ints Q),(7,.int i)],[])) (fun i=>i≤Q.length∧cycT rows P v (Q.drop i)=R) (fun i=>Q.length - i) 0 ⟨y53 _,hR⟩ (by refine swR [] [1,2] rfl rfl ?_;(repeat' first|exact y86 _|((apply z41 rfl rfl rfl);(focus ((repeat ((exact z34 (fun _=>rfl) _)));done));(focus (((simp;done));done)))|constructor)) ?_
  rintro i ⟨hi1,hi2⟩
  by_cases hi3:i < Q.length
  ·have hq:=hQ _ (y44 hi3)
   have hgq:=rowAt hq
   have c4:=z680 (rows.getD Q[i].toNat []) (by have:=hl Q[i];unfold maxLen;omega) v
   have hlq:=hl Q[i]
   have c5:=c3 i hi3
   rw [y80 hi3,cycT] at hi2
   have hgi:(Q.map enI)[i]?=some (enI Q[i]):=by rw [y51,y45 hi3];rfl
   generalize Q[i]=u at *
   by_cases hm:v∈rows.getD u.toNat []
   ·rw [if_pos hm] at hi2
    rw [y82 hm] at c4
    subst hi2
    generalize rows.getD u.toNat []=r1 at *
    repeat' ((first|(apply y4 ok;rfl)|(refine z12 (i:=u.toNat) (by simp) hgq ?_)|(refine z12 (i:=i) (by simp) hgi ?_)|(apply y43;omega)|((apply z6)<;>intro _)|(apply z4 (c4);rfl;rfl)|(apply z4 (c5);rfl;rfl))<;>conv=>whnf)
    all_goals try (exfalso;omega)
    all_goals (refine rsD [] [] rfl ?_;(repeat' first|exact y86 _|constructor))
   ·rw [if_neg hm] at hi2
    rw [y83 hm] at c4
    generalize rows.getD u.toNat []=r1 at *
    repeat' ((first|(apply y4 ok;rfl)|(refine z12 (i:=u.toNat) (by simp) hgq ?_)|(refine z12 (i:=i) (by simp) hgi ?_)|(apply y43;first|omega|(unfold inI;omega))|((apply z6)<;>intro _)|(apply z4 (c4);rfl;rfl))<;>conv=>whnf)
    all_goals try (exfalso;omega)
    all_goals refine z25 (i+1) ⟨hi3,hi2⟩ (by omega) (by refine swR [] [] rfl rfl ?_;(repeat' first|exact y86 _|constructor))
  ·have e:Q.length=i:=by omega
   subst e
   rw [List.drop_length,cycT] at hi2
   subst hi2
   repeat' ((first|(apply y4 ok;rfl)|(apply y43;omega)|((first|(with_reducible apply z11;omega)|(with_reducible apply z67;omega));intro _)|((apply z6)<;>intro _))<;>conv=>whnf)
   all_goals try (exfalso;omega)
   all_goals (refine rsD [] [0] rfl ?_;(repeat' first|exact y86 _|constructor))
theorem z535 (l:List Int) (n:Nat) (hl:l.length≤1000000) (hn:1≤n) (h0:∀ x∈l,0≤x) (h1:∀ x∈l,x≤1000000000):CallsA Tryz.prog 128 [ints l,.int n] [] (.sref 0 0 l.length) [.cells 1 ((stL l n).map enI)]:=by
 refine z7 z16 Tryz.func128 rfl rfl 24 Tryz.ntmps128 (by simp) ?_
 repeat' (((apply y4 ok;rfl))<;>conv=>whnf)
 refine z63 (fun x:Nat×List Int=>([(0,ints l),(1,.int n),(5,.sref 0 0 x.2.length),(6,.int x.1)],[.cells 1 (x.2.map enI)])) (fun x=>x.1≤l.length∧x.2.length=x.1∧x.2=stL (l.take x.1) n) (fun x=>l.length - x.1) (0,[]) ⟨y53 _,rfl,rfl⟩ (by refine swR [0] [] rfl rfl ?_;(repeat' first|exact y86 _|refine z8 rfl (z23) ?_|constructor)) ?_
 rintro ⟨i,F⟩ ⟨hi1,hF1,hF2⟩
 dsimp only at hi1 hF1 hF2 ⊢
 by_cases hi2:i < l.length
 ·have a0:=h0 _ (y44 hi2)
  have a1:=h1 _ (y44 hi2)
  have a2:0≤l[i] / (n:Int):=Int.ediv_nonneg a0 (by omega)
  have a3:l[i] / (n:Int)≤l[i]:=Int.ediv_le_self _ a0
  have hF3:stL (l.take (i+1)) n=F++[l[i] / n]:=by rw [hF2,stL,y50 hi2,y64];rfl
  repeat' ((first|(apply y4 ok;rfl)|(apply y43;first|omega|(unfold inI;omega)|((try dsimp only);simp only [y49,y48,y47,y46,y58,y59];omega)|exact ⟨rfl,z20 rfl z27⟩)|(((with_reducible apply z11;omega));intro _)|((apply z6)<;>intro _))<;>conv=>whnf)
  all_goals try (exfalso;omega)
  all_goals refine z25 (i+1,F++[l[i] / n]) ⟨hi2,by rw [y47,hF1];rfl,hF3.symm⟩ (by show l.length - (i+1) < l.length - i;omega) (by refine swR [2] [] rfl rfl ?_;(repeat' first|exact y86 _|(refine z52 ?_;((simp;done)))|((refine z35 rfl ?_ ?_);(focus ((repeat' (first|exact z5 (fun _=>rfl)|apply z21));done)))|(refine z78 ?_ ?_;(focus (omega)))|constructor))
 ·have e:l.length=i:=by omega
  subst e
  rw [y56] at hF2
  subst hF2
  repeat' ((first|(apply y4 ok;rfl)|(apply y43;omega)|(((with_reducible apply z11;omega));intro _)|((apply z6)<;>intro _))<;>conv=>whnf)
  all_goals try (exfalso;omega)
  all_goals (refine rsD [0] [] rfl ?_;(repeat' first|exact z9 _|(refine z52 ?_;(omega))|refine z8 rfl (z5 (fun _=>rfl)) ?_|constructor))
end Go.Proofs.YtjhgpfaodkchjaaGreat
