/- A part of the proofs over this program: T235, T236, T185, T64, T65, T66, T154, T155, T156, T157, T158, T159, T160, T29, T94K, T161, T186, T187, T238, T286, T33P, T67, T68, T210, T200, T162, T163, T164, T170, T201, T29A, T29C, T202, T166, T204, T212, T98, T211, T214, T242. -/
import Derived.Test.YtnfoijopccdjeaaGreatG0
import Derived.Test.YtnfoijopccdjeaaGreatG1
import Derived.Test.YtnfoijopccdjeaaGreatG2
import Derived.Test.YtnfoijopccdjeaaGreatG3
import Derived.Test.YtnfoijopccdjeaaGreatP0
import Derived.Test.YtnfoijopccdjeaaGreatP1
import Derived.Test.YtnfoijopccdjeaaGreatP2
import Derived.Test.YtnfoijopccdjeaaGreatP3
import Derived.Test.YtnfoijopccdjeaaGreatP4
import Derived.Test.YtnfoijopccdjeaaGreatP5
import Derived.Test.YtnfoijopccdjeaaGreatRows
import Derived.WalkKit
import Derived.ProofKit
import Derived.Deep.DeepHandedRow
import Derived.Lib.LaidTab
set_option linter.all false
namespace Go.Proofs.YtnfoijopccdjeaaGreat
open Go.Gl
attribute [local irreducible] z16 AWP z29 z32 z30 RetS z36
theorem z792 (B:List Tree) (g:Tree):∀ r∈iniS B g,RowP B.length (untB B) r:=by
 intro r hr
 unfold iniS at hr
 obtain ⟨s,hs,rfl⟩:=List.mem_map.1 hr
 have:=List.mem_range.1 (List.mem_filter.1 hs).1
 exact ⟨s,0,rfl,this,by omega⟩
theorem z1032 (B:List Tree) (g:Tree):(iniS B g).Nodup:=by
 unfold iniS
 exact ((List.nodup_range).filter _).map _ fun a b h e=>h (by simp at e;omega)
set_option maxRecDepth 20000 in
set_option maxHeartbeats 12800000 in
theorem z699 (t:Tree) (hs:t.sz≤200):CallsA Tryz.prog 133 [z20 Tree.cs' t] [] (.tup [.agg [.sref 0 0 (trA t).ini.length,.sref 1 0 (trA t).acc.length,.sref 2 0 (trA t).ed.length],.bool (tsB t)]) [.cells 1 ((trA t).ini.map enI),.cells 1 ((trA t).acc.map enB),.cells 4 ((trA t).ed.map Trans.cs)]:=by
 have cb:=z704 t hs
 unfold trA tsB trO
 by_cases h:bscB t=true
 ·obtain ⟨⟨ht,hn⟩,h5⟩:=of_decide_eq_true (show decide _=true from h)
  obtain ⟨hB,hIn,hsz⟩:=z573 ht hn h5 hs
  have cn:=z629 t (y29 ht) (by omega)
  rw [if_pos h] at cb ⊢
  rw [h] at cb
  rw [if_pos hn,hn] at cn
  clear h ht hn
  generalize t.nrm false=g at *
  generalize bscL g=B at *
  have hp:=z1005 h5
  have hi0:=z695 B g
  have cE:=z897 B hB (iniS B g) (z792 B g) (z1032 B g) (by omega)
  have hEx:(trS B g).map (z334 (iniS B g).length)=expO B (iniS B g):=rfl
  rw [hEx]
  clear hEx
  generalize expO B (iniS B g)=O at *
  have hul:(untB B).length≤B.length:=z246 B B.length
  have e2:((1:Int) * 2 ^ ((B.length:Int).toNat))=((2 ^ B.length:Nat):Int):=by
   rw [y83,Int.one_mul];norm_cast
  have cV:=fun s a b=>z259 B (untB B) hB s a b g hIn hsz
  have hkk:=fun i=>z734 B i
  rw [y17 t] at cb cn ⊢
  rw [y17 g] at cn cV
  refine z6 z9 Tryz.func133 rfl rfl 75 Tryz.ntmps133 (by simp) ?_
  repeat' ((first|(apply y4 ok;rfl)|(apply z0 (cb);rfl;rfl)|(apply z0 (cn);rfl;rfl))<;>conv=>whnf)
  refine y92 (y95 1 rfl) ?_
  refine z77 (fun x:Nat×List Int=>([(2,.ptr 1 none 0),(4,lst 3 Tree.cs' B),(6,.ptr 2 none 0),(8,.ptr 4 none 0),(30,lst 3 Tree.cs' B),(31,.int B.length),(32,.int x.1)],[.cells 3 [[.int t.kind,.int t.val,lst 3 Tree.cs' t.kids]],.cells 3 [[.nils,.nils,.nils]],.cells 3 [[.int g.kind,.int g.val,lst 3 Tree.cs' g.kids]],.cells 2 [[lst 3 Tree.cs' B,.sref 5 0 x.2.length]],.cells 1 [[.ptr 3 none 0]],.cells 1 (x.2.map enI)])) (fun x=>x.1≤B.length∧untL B x.1=x.2) (fun x=>B.length - x.1) (0,[]) ⟨y60 _,rfl⟩ (by refine swR [0,1,2,3,4,5] [] rfl rfl ?_;(repeat' first|exact y93 _|exact z57|apply y94|refine z10 rfl (z33) ?_|constructor)) ?_
  rintro ⟨i,U⟩ ⟨hi,hU⟩
  dsimp only at hi hU ⊢
  have hul2:=z246 B i
  rw [hU] at hul2
  by_cases hil:i < B.length
  ·have gk:(B.map Tree.cs')[i]?=some (Tree.cs' (B.getD i dftT)):=by rw [y58,y52 hil,z18 hil];rfl
   have hs:=hkk i
   rw [hU] at hs
   generalize B.getD i dftT=f at *
   by_cases hk:f.kind=7
   ·rw [if_pos hk] at hs
    repeat' ((first|(apply y4 ok;rfl)|(apply z17;kernel_rfl)|(refine z13 (i:=i) rfl gk ?_)|(apply y50;first|omega|(unfold inI;omega)|((try dsimp only);simp only [y56,y55,y54,y53,y64,y65];omega)|exact ⟨rfl,z38 rfl z45⟩)|((apply z5)<;>intro _))<;>conv=>whnf)
    all_goals try (exfalso;omega)
    all_goals refine z34 (i+1,U++[(i:Int)]) ⟨by show i+1≤_;omega,hs⟩ (by show B.length - (i+1) < B.length - i;omega) (by refine swR [0,1,2,3,4,8] [] rfl rfl ?_;(repeat' first|exact y93 _|(refine z43 ?_;((simp;done)))|apply y94|((refine z51 rfl ?_ ?_);(focus ((repeat' (first|exact z4 (fun _=>rfl)|apply z40));done)))|(refine z73 ?_ ?_;(focus (omega)))|constructor))
   ·rw [if_neg hk,y71] at hs
    repeat' ((first|(apply y4 ok;rfl)|(apply z17;kernel_rfl)|(refine z13 (i:=i) rfl gk ?_)|(apply y50;first|omega|(unfold inI;omega))|((apply z5)<;>intro _))<;>conv=>whnf)
    all_goals try (exfalso;omega)
    all_goals refine z34 (i+1,U) ⟨by show i+1≤_;omega,hs⟩ (by show B.length - (i+1) < B.length - i;omega) (by refine swR [0,1,2,3,4,5] [] rfl rfl ?_;(repeat' first|exact y93 _|exact z11 _|apply y94|refine z10 rfl (z4 (fun _=>rfl)) ?_|constructor))
  ·obtain rfl:i=B.length:=by omega
   have hU2:untB B=U:=hU
   rw [hU2] at cV
   have cE2:=cE
   unfold accF movF at cE2
   rw [hU2] at cE2
   clear cE hkk hU hU2
   repeat' ((first|(apply y4 ok;rfl)|(apply z17;kernel_rfl)|(rw [e2])|(apply y50;first|omega|(unfold inI;omega))|(((with_reducible apply z8;omega));intro _)|((apply z5)<;>intro _))<;>conv=>whnf)
   all_goals try (exfalso;omega)
   refine y92 (y95 2 rfl) ?_
   refine y92 (show Gl.Reach _ _ (mkSt _ [(2,.ptr 0 none 0),(6,.ptr 1 none 0),(8,.ptr 3 none 0),(11,.sref 4 0 0),(53,.int ((2 ^ B.length:Nat):Int)),(54,.int 0)] [.cells 3 [[.nils,.nils,.nils]],.cells 3 [[.int g.kind,.int g.val,lst 3 Tree.cs' g.kids]],.cells 2 [[lst 3 Tree.cs' B,ints U]],.cells 1 [[.ptr 2 none 0]],.cells 2 []]) from (by refine swR [1,2,3,4,6] [5] rfl rfl ?_;(repeat' first|exact y93 _|exact z57|apply y94|refine z10 rfl (z33) ?_|((apply z66 rfl rfl rfl);(focus ((repeat ((exact z53 (fun _=>rfl) _)));done));(focus (((simp;done));done)))|constructor))) ?_
   refine y92 (show Gl.Reach _ _ (mkSt _ [(2,.ptr 0 none 0),(6,.ptr 1 none 0),(8,.ptr 2 none 0),(11,.sref 3 0 0),(53,.int ((2 ^ B.length:Nat):Int)),(54,.int 0)] [.cells 3 [[.nils,.nils,.nils]],.cells 3 [[.int g.kind,.int g.val,lst 3 Tree.cs' g.kids]],.cells 1 [[.pt [lst 3 Tree.cs' B,ints U]]],.cells 2 []]) from (by refine swR [0,1,3,4] [2] rfl rfl ?_;(repeat' first|exact y93 _|apply y94|refine z10 rfl (z33) ?_|constructor))) ?_
   refine z77 (fun x:Nat×List (List Int)=>([(2,.ptr 0 none 0),(6,.ptr 1 none 0),(8,.pt [.pt [lst 3 Tree.cs' B,ints U]]),(11,.sref 2 0 x.2.length),(53,.int ((2 ^ B.length:Nat):Int)),(54,.int x.1)],[.cells 3 [[.nils,.nils,.nils]],.cells 3 [[.int g.kind,.int g.val,lst 3 Tree.cs' g.kids]],.cells 2 (x.2.map enP)])) (fun x=>x.1≤2 ^ B.length∧iniK B (fun s=>vlB B (s:Nat) g) x.1=x.2) (fun x=>2 ^ B.length - x.1) (0,[]) ⟨y60 _,rfl⟩ (by refine swR [0,1,3] [2] rfl rfl ?_;(repeat' first|exact y93 _|apply y94|refine z10 rfl (z33) ?_|constructor)) ?_
   rintro ⟨k,L⟩ ⟨hk,hL⟩
   dsimp only at hk hL ⊢
   have hLl:=z955 B (fun s=>vlB B (s:Nat) g) k
   rw [hL] at hLl
   by_cases hkl:k < 2 ^ B.length
   ·have hsu:=z793 B (fun s=>vlB B (s:Nat) g) k
    rw [hL] at hsu
    have cv:=cV k (by omega) (by omega)
    generalize vlB B (k:Nat) g=z at *
    cases z
    ·rw [if_neg (by simp),y71] at hsu
     repeat' ((first|(apply y4 ok;rfl)|(apply y50;(unfold inI;omega))|((apply z5)<;>intro _)|(apply z0 (cv);rfl;rfl))<;>conv=>whnf)
     all_goals try (exfalso;omega)
     all_goals refine z34 (k+1,L) ⟨by show k+1≤_;omega,hsu⟩ (by show 2 ^ B.length - (k+1) < 2 ^ B.length - k;omega) (by refine swR [0,1,2] [] rfl rfl ?_;(repeat' first|exact y93 _|exact z11 _|apply y94|refine z10 rfl (z4 (fun _=>rfl)) ?_|constructor))
    ·rw [if_pos rfl] at hsu
     repeat' ((first|(apply y4 ok;rfl)|(apply y50;first|(unfold inI;omega)|((try dsimp only);simp only [y56,y55,y54,y53,y64,y65];omega)|exact ⟨rfl,z38 rfl z45⟩)|((apply z5)<;>intro _)|(apply z0 (cv);rfl;rfl))<;>conv=>whnf)
     all_goals try (exfalso;omega)
     all_goals refine z34 (k+1,L++[[(k:Int),0]]) ⟨by show k+1≤_;omega,hsu⟩ (by show 2 ^ B.length - (k+1) < 2 ^ B.length - k;omega) (by refine swR [0,1,4] [] rfl rfl ?_;(repeat' first|exact y93 _|(refine z43 ?_;((simp;done)))|apply y94|((refine z51 rfl ?_ ?_);(focus ((repeat' (first|exact z4 (fun _=>rfl)|apply z40));done)))|(refine z73 ?_ ?_;(focus (omega)))|constructor))
   ·obtain rfl:k=2 ^ B.length:=by omega
    have hL0:iniS B g=L:=hL
    rw [hL0] at cE2
    repeat' ((first|(apply y4 ok;rfl)|((apply z5)<;>intro _)|(apply z83 [] [2] [3,4,5] cE2;(focus (exact z23 (z143 rfl rfl rfl (by simp) (z53 (fun _=>rfl) _)) (z23 rfl (z23 rfl z48))));rfl;rfl;(focus ((repeat' first|exact z12|apply z15)<;>(refine z22 ?_;((exact z4 fun _=>rfl)))));((refine .inr ⟨rfl,?_⟩;repeat' first|exact True.intro|apply y50|exact z127 (fun _=>rfl) _))))<;>conv=>whnf)
    all_goals try (exfalso;omega)
    all_goals (refine rsD [3,4,5] [] rfl ?_;(repeat' first|exact y93 _|exact z11 _|refine z10 rfl (z4 (fun _=>rfl)) ?_|constructor))
 ·rw [if_neg h] at cb ⊢
  rw [(y78 _).mp h] at cb
  refine z6 z9 Tryz.func133 rfl rfl 75 Tryz.ntmps133 (by simp) ?_
  repeat' ((first|(apply y4 ok;rfl)|(apply z0 (cb);rfl;rfl))<;>conv=>whnf)
  all_goals (refine y96 1 ?_;refine y96 1 ?_;refine y96 4 ?_;refine rsD [2,3,4] [] rfl ?_;(repeat' first|exact y93 _|exact z57|refine z10 rfl (z33) ?_|apply z64|apply z72|constructor))
noncomputable def ngA (t:Tree):Aut:=if ngB t=true then trA (ngT t) else ⟨[],[],[]⟩
noncomputable def ngS (t:Tree):Bool:=ngB t && tsB (ngT t)
theorem ngB_fm {t:Tree} (h:ngB t=true):t.fmB=true:=by
 unfold ngB at h
 rw [y77] at h
 exact h.1
theorem z430 {t:Tree} (h:ngB t=true):(ngT t).sz≤12:=by
 have h1:=ngT_sz t
 have h2:=fm_sz (ngB_fm h)
 omega
theorem ngA_len (t:Tree):(ngA t).ini.length≤32∧(ngA t).acc.length≤66∧(ngA t).ed.length≤2080:=by
 unfold ngA
 split
 ·rename_i h
  exact trA_len _ (by have:=z430 h;omega)
 ·simp
theorem ngA_mx (t:Tree):(ngA t).mx:=by
 obtain ⟨h1,h2,h3⟩:=ngA_len t
 refine ⟨by unfold maxLen;omega,by unfold maxLen;omega,by unfold maxLen;omega,?_⟩
 unfold ngA
 split
 ·rename_i h
  exact trA_val _ (by have:=z430 h;omega)
 ·intro e he;cases he
theorem z555 (t:Tree) (hm:t.mx):CallsA Tryz.prog 52 [z20 Tree.cs' t] [] (.tup [.agg [.sref 0 0 (ngA t).ini.length,.sref 1 0 (ngA t).acc.length,.sref 2 0 (ngA t).ed.length],.bool (ngS t)]) [.cells 1 ((ngA t).ini.map enI),.cells 1 ((ngA t).acc.map enB),.cells 4 ((ngA t).ed.map Trans.cs)]:=by
 have cN:=z701 t hm
 unfold ngA ngS
 by_cases h:ngB t=true
 ·have hz:=z430 h
  have cT:=z699 (ngT t) (by omega)
  rw [if_pos h,h,Bool.true_and]
  rw [h] at cN
  generalize ngT t=u at *
  generalize trA u=a at *
  generalize tsB u=q at *
  rw [y17 t] at cN ⊢
  rw [y17 u] at cN cT
  refine z6 z9 Tryz.func52 rfl rfl 18 Tryz.ntmps52 (by simp) ?_
  repeat' ((first|(apply y4 ok;rfl)|(apply z0 (cN);rfl;rfl)|(apply z54 [] [3,4,5] cT;rfl;rfl;rfl;(focus ((repeat' first|exact z12|apply z15)<;>(refine z22 ?_;((exact z4 fun _=>rfl)))))))<;>conv=>whnf)
  all_goals (refine rsD [3,4,5] [] rfl ?_;(repeat' first|exact y93 _|exact z11 _|refine z10 rfl (z4 (fun _=>rfl)) ?_|constructor))
 ·rw [if_neg h,(y78 _).mp h,Bool.false_and]
  rw [(y78 _).mp h] at cN
  generalize ngT t=u at *
  rw [y17 t] at cN ⊢
  rw [y17 u] at cN
  refine z6 z9 Tryz.func52 rfl rfl 18 Tryz.ntmps52 (by simp) ?_
  repeat' ((first|(apply y4 ok;rfl)|(apply z0 (cN);rfl;rfl))<;>conv=>whnf)
  all_goals (refine y96 1 ?_;refine y96 1 ?_;refine y96 4 ?_;refine rsD [3,4,5] [] rfl ?_;(repeat' first|exact y93 _|exact z57|refine z10 rfl (z33) ?_|apply z64|apply z72|constructor))
theorem z595 (t:Tree) (hm:t.mx):CallsA Tryz.prog 52 [z20 Tree.cs' t] [] (.tup [.agg (ngA t).cs,.bool (ngS t)]) [] :=
 (z555 t hm).lend [] [0,1,2] rfl rfl rfl (z915 (z23 (z720 rfl rfl rfl rfl rfl rfl rfl rfl rfl) (z23 rfl z48))) z14
theorem z589 (t:Tree) (hm:t.mx):CallsA Tryz.prog 125 [z20 Tree.cs' t] [] (.tup [.agg (ngA t).cs,.bool (ngS t)]) []:=by
 have cN:=z668 t hm
 unfold ngA ngS
 by_cases h:ngB t=true
 ·have hz:=z430 h
  have cT:=trans_ok (ngT t) (by omega)
  rw [if_pos h,h,Bool.true_and]
  rw [h] at cN
  generalize ngT t=u at *
  generalize trA u=a at *
  generalize tsB u=q at *
  rw [y17 t] at cN ⊢
  rw [y17 u] at cN cT
  refine z6 z9 Tryz.func125 rfl rfl 18 Tryz.ntmps125 (by simp) ?_
  repeat' ((first|(apply y4 ok;rfl)|(apply z0 (cN);rfl;rfl)|(apply z0 (cT);rfl;rfl))<;>conv=>whnf)
  all_goals (refine rsD [] [] rfl ?_;(repeat' first|exact y93 _|constructor))
 ·rw [if_neg h,(y78 _).mp h,Bool.false_and]
  rw [(y78 _).mp h] at cN
  generalize ngT t=u at *
  rw [y17 t] at cN ⊢
  rw [y17 u] at cN
  refine z6 z9 Tryz.func125 rfl rfl 18 Tryz.ntmps125 (by simp) ?_
  repeat' ((first|(apply y4 ok;rfl)|(apply z0 (cN);rfl;rfl))<;>conv=>whnf)
  all_goals (refine rsD [] [] rfl ?_;(repeat' first|exact y93 _|exact z61|apply z64|apply z72|constructor))
theorem z1160 (v x:Int):CallsA Tryz.prog 199 [.int x,.pt [.int v]] [] (.bool (decide (x=v))) []:=by
 refine z6 z9 Tryz.func199 rfl rfl 7 Tryz.ntmps199 (by simp) ?_
 repeat' (((apply y4 ok;rfl))<;>conv=>whnf)
 all_goals (refine rsD [] [] rfl ?_;(repeat' first|exact y93 _|constructor))
theorem z1064 (rows:List (List Int)) (hrl:∀ r∈rows,r.length≤1000000000) (v x:Int) (hx:0≤x∧x < rows.length):CallsA Tryz.prog 249 [.int x,.pt [.int v],.pt [lst 1 encL rows]] [] (.bool (decide (x≠v) && decide (v∈rows.getD x.toNat []))) []:=by
 obtain ⟨u,rfl⟩:∃ u:Nat,x=u:=⟨x.toNat,by omega⟩
 rw [y83]
 have hu:u < rows.length:=by omega
 have gr:=z619 hu
 have hrow:(rows.getD u []).length≤1000000000:=by rw [z18 hu];exact hrl _ (y51 _)
 have cct:=z141 (rows.getD u []) (by unfold maxLen;omega) v
 generalize rows.getD u []=row at *
 refine z6 z9 Tryz.func249 rfl rfl 16 Tryz.ntmps249 (by simp) ?_
 by_cases h:(u:Int)=v
 ·rw [y90 (by simp [h]),Bool.false_and]
  repeat' ((first|(apply y4 ok;rfl)|(apply z17;kernel_rfl)|(refine z13 (i:=u) rfl gr ?_)|(apply y50;omega)|((apply z28)<;>intro _)|(apply z0 (cct);rfl;rfl))<;>conv=>whnf)
  all_goals try (exfalso;omega)
  all_goals (refine rsD [] [] rfl ?_;(repeat' first|exact y93 _|constructor))
 ·rw [y89 h,Bool.true_and]
  repeat' ((first|(apply y4 ok;rfl)|(apply z17;kernel_rfl)|(refine z13 (i:=u) rfl gr ?_)|(apply y50;omega)|((apply z28)<;>intro _)|(apply z0 (cct);rfl;rfl))<;>conv=>whnf)
  all_goals try (exfalso;omega)
  all_goals (refine rsD [] [] rfl ?_;(repeat' first|exact y93 _|constructor))
set_option maxHeartbeats 3200000 in
theorem z1063 (rows : List (List Int)) (v : Int) (hr : ∀ r ∈ rows, InN rows.length r) (hv : 0 ≤ v ∧ v < rows.length) (hN : rows.length ≤ 100000) (hrl : ∀ r ∈ rows, r.length ≤ 1000000000) :
    CallsA Tryz.prog 200 [lst 1 encL rows,.int v] [] (.sref 0 0 (aroL rows v).length) [.cells 1 ((aroL rows v).map enI)]:=by
  obtain ⟨u,rfl⟩:∃ u:Nat,v=u:=⟨v.toNat,by omega⟩
  have hu:u < rows.length:=by omega
  have gr:=z619 hu
  have hrow:(rows.getD u []).length≤1000000000:=by rw [z18 hu];exact hrl _ (y51 _)
  have cct:=z141 (rows.getD u []) (by unfold maxLen;omega) (u:Int)
  have csh:=z675 rows [(u:Int)] hr (z290 hv) (by simp) hN hrl (fun n=>decide (n≠(u:Int)) && decide ((u:Int)∈rows.getD n.toNat [])) 249 [.int (u:Int)] [lst 1 encL rows] (fun x h0 h1=>z1064 rows hrl u x ⟨h0,h1⟩)
  unfold aroL
  rw [y83]
  by_cases h:(u:Int)∈rows.getD u []
  · rw [if_pos h]
    rw [y89 h] at cct
    generalize rows.getD u []=row at *
    refine z6 z9 Tryz.func200 rfl rfl 18 Tryz.ntmps200 (by simp) ?_
    repeat' ((first|(apply y4 ok;rfl)|(apply z17;kernel_rfl)|(refine z13 (i:=u) rfl gr ?_)|(apply y50;omega)|(apply z0 (cct);rfl;rfl))<;>conv=>whnf)
    all_goals (refine rsD [2] [] rfl ?_;(repeat' first|exact y93 _|apply y94|constructor))
  · rw [if_neg h]
    rw [y90 h] at cct
    generalize shL rows [(u:Int)] (fun n=>decide (n≠(u:Int)) && decide ((u:Int)∈rows.getD n.toNat []))=D at *
    generalize rows.getD u []=row at *
    refine z6 z9 Tryz.func200 rfl rfl 18 Tryz.ntmps200 (by simp) ?_
    repeat' ((first|(apply y4 ok;rfl)|(apply z17;kernel_rfl)|(refine z13 (i:=u) rfl gr ?_)|(apply y50;omega)|(apply z0 (cct);rfl;rfl)|(apply z83 [] [0,1,2] [3] csh;(focus ((repeat' first|exact z48|apply z23)<;>rfl));rfl;rfl;(focus ((repeat' first|exact z12|apply z15)<;>(refine z22 ?_;((exact z4 fun _=>rfl)))));((refine .inr ⟨rfl,?_⟩;repeat' first|exact True.intro|apply y50|exact z127 (fun _=>rfl) _))))<;>conv=>whnf)
    all_goals (refine rsD [3] [] rfl ?_;(repeat' first|exact y93 _|exact z11 _|refine z10 rfl (z4 (fun _=>rfl)) ?_|constructor))
noncomputable def lasR (rows:List (List Int)) (ini:List Int) (G:Int→Bool):List Int×List Int:=(lasL rows ini G).getD ([],[])
set_option maxHeartbeats 6400000 in
theorem z1159 (rows : List (List Int)) (ini : List Int) (hr : ∀ r ∈ rows, InN rows.length r) (hi : InN rows.length ini) (hn : ini.Nodup) (hN : rows.length ≤ 100000) (hrl : ∀ r ∈ rows, r.length ≤ 1000000000) (G : Int → Bool) (f : FuncId) (c1 c2 : List AC) (hf : ∀ x : Int, 0 ≤ x → x < rows.length → CallsA Tryz.prog f [.int x, .pt c1, .pt c2] [] (.bool (G x)) []) :
    CallsA Tryz.prog 136 [lst 1 encL rows,ints ini,.fn (.func f) [] [.pt c1,.pt c2]] [] (.tup [.sref 0 0 ((lasR rows ini G).1.take ((lasR rows ini G).1.length - 1)).length,.sref 1 0 (lasR rows ini G).2.length,.bool (lasL rows ini G).isSome]) [.cells 1 (((lasR rows ini G).1.take ((lasR rows ini G).1.length - 1)).map enI),.cells 1 ((lasR rows ini G).2.map enI)]:=by
  have hil:ini.length≤100000:=by have:=z185 rows.length ini hn hi;omega
  have cC:=z1047 rows hr hN hrl
  have cO:=z1136 rows ini hr hi hN hrl (by omega)
  have hQi:=z642 hr hi rows.length
  have hQl:=z918 hr hi rows.length
  have hcl:=cycB_len rows
  have hcg:∀ i,i < rows.length→((cycB rows).map enB)[i]?=some (enB (cycD rows i)):=fun i h=>z1185 (cycD rows) h
  have hto:=fun v hv=>shL_to (rows:=rows) (ini:=ini) hn (v:=v) hv
  have hrR:∀ k,k < (bfsL rows ini).length→(G ((bfsL rows ini).getD k 0) && cycD rows ((bfsL rows ini).getD k 0).toNat)=true→(∀ j,j < k→(G ((bfsL rows ini).getD j 0) && cycD rows ((bfsL rows ini).getD j 0).toNat)=false)→lasL rows ini G=some (bkw (srP rows ini) rows.length ((bfsL rows ini).getD k 0) [],cycL rows ((bfsL rows ini).getD k 0)):=fun k hk h1 h2=>by
    unfold lasL
    have:(bfsL rows ini).find? (fun v=>G v && cycD rows v.toNat)=some ((bfsL rows ini).getD k 0):=by
      rw [z18 hk] at h1 ⊢
      rw [List.find?_eq_some_iff_getElem]
      refine ⟨h1,k,hk,rfl,fun j hj=>?_⟩
      have:=h2 j hj
      rw [z18 (by omega)] at this
      rw [this];rfl
    rw [this];rfl
  have hrN:(∀ j,j < (bfsL rows ini).length→(G ((bfsL rows ini).getD j 0) && cycD rows ((bfsL rows ini).getD j 0).toNat)=false)→lasL rows ini G=none:=fun h=>by
    unfold lasL
    have:(bfsL rows ini).find? (fun v=>G v && cycD rows v.toNat)=none:=by
      rw [List.find?_eq_none]
      intro x hx
      obtain ⟨j,hj,rfl⟩:=List.mem_iff_getElem.1 hx
      have:=h j hj
      rw [z18 hj] at this
      rw [this];simp
    rw [this];rfl
  unfold lasR
  change (bfsL rows ini).length≤rows.length at hQl
  change InN rows.length (bfsL rows ini) at hQi
  generalize lasL rows ini G=L at *
  generalize cycB rows=C at *
  generalize bfsL rows ini=Q at *
  refine z6 z9 Tryz.func136 rfl rfl 45 Tryz.ntmps136 (by simp) ?_
  repeat' ((first|(apply y4 ok;rfl)|((first|(apply z54 [] [0] cC;rfl;rfl)|(apply z54 [] [1] cO;rfl;rfl));rfl;(focus ((repeat' first|exact z12|apply z15)<;>(refine z22 ?_;((exact z4 fun _=>rfl)))))))<;>conv=>whnf)
  refine z77 (fun i:Nat=>([(0,lst 1 encL rows),(1,ints ini),(2,.fn (.func f) [] [.pt c1,.pt c2]),(9,.sref 0 0 rows.length),(17,.sref 1 0 Q.length),(18,.int Q.length),(19,.int i)],[.cells 1 (C.map enB),.cells 1 (Q.map enI)])) (fun i=>i≤Q.length∧∀ j,j < i→(G (Q.getD j 0) && cycD rows (Q.getD j 0).toNat)=false) (fun i=>Q.length - i) 0 ⟨y60 _,fun j hj=>by omega⟩ (by refine swR [0,1] [] rfl rfl ?_;(repeat' first|exact y93 _|exact z11 _|refine z10 rfl (z4 (fun _=>rfl)) ?_|constructor)) ?_
  rintro i ⟨hi1,hno⟩
  by_cases hi2:i < Q.length
  · have hm:=z396 hi2
    have hx:=hQi _ hm
    have gx:(Q.map enI)[i]?=some (enI (Q.getD i 0)):=by rw [y58,y52 hi2,z18 hi2];rfl
    have cf:=hf _ hx.1 hx.2
    have hsome:=fun h=>hrR i hi2 h hno
    have hnxt:(G (Q.getD i 0) && cycD rows (Q.getD i 0).toNat)=false→∀ j,j < i+1→(G (Q.getD j 0) && cycD rows (Q.getD j 0).toNat)=false:=fun h j hj=>by
      by_cases e:j=i
      · subst e;exact h
      · exact hno j (by omega)
    have hsh:=hto _ hm
    have csh:=z676 rows ini hr hi hn hN hrl (fun n=>decide (n=Q.getD i 0)) 199 [.int (Q.getD i 0)] (fun x _ _=>z1160 (Q.getD i 0) x)
    have car:=z1063 rows (Q.getD i 0) hr hx hN hrl
    rw [hsh] at csh
    rw [aroL_eq] at car
    have hb1:=z571 (srP rows ini) rows.length (Q.getD i 0) []
    have hb2:=z572 (srP rows ini) rows.length (Q.getD i 0) []
    have hc2:=z711 rows (Q.getD i 0)
    have gc:=hcg (Q.getD i 0).toNat (by omega)
    rw [y65] at hb2
    clear hsh hrR hrN hto hcg hm hno
    generalize bkw (srP rows ini) rows.length (Q.getD i 0) []=B at *
    generalize cycL rows (Q.getD i 0)=Y at *
    generalize Q.getD i 0=x at *
    obtain ⟨u,rfl⟩:∃ u:Nat,x=u:=⟨x.toNat,by omega⟩
    rw [y83] at *
    by_cases hg:(G (u:Int) && cycD rows u)=true
    · have hL:=hsome hg
      obtain ⟨hg1,hg2⟩:=Bool.and_eq_true_iff.1 hg
      rw [hg1] at cf
      rw [hg2] at gc
      subst hL
      repeat' ((first|(apply y4 ok;rfl)|(apply z17;kernel_rfl)|(refine z13 (i:=i) rfl gx ?_)|(refine z13 (i:=u) rfl gc ?_)|(apply y50;first|omega|(unfold inI;omega))|((apply z5)<;>intro _)|(apply z0 (cf);rfl;rfl)|((first|(apply z83 [] [2] [3] csh;(focus ((repeat' first|exact z48|apply z23)<;>rfl));rfl)|(apply z83 [] [] [4] car;rfl;rfl));rfl;(focus ((repeat' first|exact z12|apply z15)<;>(refine z22 ?_;((exact z4 fun _=>rfl)))));(first|exact .inl rfl|(refine .inr ⟨rfl,?_⟩;repeat' first|exact True.intro|apply y50|exact z127 (fun _=>rfl) _))))<;>conv=>whnf)
      all_goals try (exfalso;omega)
      all_goals
        show RetS _ _ (.tup [.sref 0 0 (B.take (B.length - 1)).length,.sref 1 0 Y.length,.bool true]) [.cells 1 ((B.take (B.length - 1)).map enI),.cells 1 (Y.map enI)] _
        refine Gl.RetS.trunc 3 (B.length - 1) rfl ?_
        conv=>whnf
        (refine rsD [3,4] [] rfl ?_;(repeat' first|exact y93 _|exact z11 _|(refine z43 ?_;((simp;done)))|((refine z10 rfl ?_ ?_);(focus ((repeat' (first|exact z4 (fun _=>rfl)|apply z40));done)))|apply z72|constructor))
      all_goals (refine z55 ?_;rw [List.map_take])
    · have hg:=(y78 _).mp hg
      have hn2:=hnxt hg
      cases hG:G (u:Int)
      · rw [hG] at cf
        repeat' ((first|(apply y4 ok;rfl)|(refine z13 (i:=i) rfl gx ?_)|(apply y50;first|omega|(unfold inI;omega))|((apply z5)<;>intro _)|(apply z0 (cf);rfl;rfl))<;>conv=>whnf)
        all_goals try (exfalso;omega)
        all_goals refine z34 (i+1) ⟨hi2,hn2⟩ (by omega) (by refine swR [0,1] [] rfl rfl ?_;(repeat' first|exact y93 _|exact z11 _|refine z10 rfl (z4 (fun _=>rfl)) ?_|constructor))
      · rw [hG] at cf
        rw [hG,Bool.true_and] at hg
        rw [hg] at gc
        repeat' ((first|(apply y4 ok;rfl)|(refine z13 (i:=i) rfl gx ?_)|(refine z13 (i:=u) rfl gc ?_)|(apply y50;first|omega|(unfold inI;omega))|((apply z5)<;>intro _)|(apply z0 (cf);rfl;rfl))<;>conv=>whnf)
        all_goals try (exfalso;omega)
        all_goals refine z34 (i+1) ⟨hi2,hn2⟩ (by omega) (by refine swR [0,1] [] rfl rfl ?_;(repeat' first|exact y93 _|exact z11 _|refine z10 rfl (z4 (fun _=>rfl)) ?_|constructor))
  · have hL:=hrN fun j hj=>hno j (by omega)
    subst hL
    repeat' ((first|(apply y4 ok;rfl)|(apply y50;omega)|(((apply z8;omega));intro _)|((apply z5)<;>intro _))<;>conv=>whnf)
    all_goals try (exfalso;omega)
    all_goals show RetS _ _ (.tup [.sref 0 0 0,.sref 1 0 0,.bool false]) [.cells 1 [],.cells 1 []] _
    all_goals (refine y96 1 ?_;refine y96 1 ?_;refine rsD [2,3] [] rfl ?_;(repeat' first|exact y93 _|exact z57|refine z10 rfl (z33) ?_|apply z72|constructor))
end Go.Proofs.YtnfoijopccdjeaaGreat
namespace Go.Proofs.YtnfoijopccdjeaaGreat
open Go.Gl
attribute [local irreducible] z16 AWP z29 z32 z30
noncomputable def z989 (g:Graph) (p:List Int) (i:Nat):Bool:=(decide (0≤p.getD i 0) && decide (p.getD i 0 < g.st.length)) && (decide (i=0) || decide (p.getD i 0∈g.nx.getD (p.getD (i - 1) 0).toNat []))
noncomputable def z1133 (g:Graph) (p:List Int):Bool:=z299 g && (decide (1≤p.length) && (List.range p.length).all (z989 g p))
theorem z1007 {g:Graph} {p:List Int} (hg:z299 g=true) (h0:1≤p.length) (h:∀ i,i < p.length→z989 g p i=true):z1133 g p=true:=by
 unfold z1133
 have:(List.range p.length).all (z989 g p)=true:=by
  rw [y85]
  exact fun i hi=>h i (List.mem_range.1 hi)
 rw [this,hg,y89 h0];rfl
theorem stepP_in {g:Graph} {p:List Int} {j:Nat} (h:j < p.length) (k:z989 g p j=true):0≤p[j]∧p[j] < g.st.length:=by
 unfold z989 at k
 rw [z18 h] at k
 simp only [y77,decide_eq_true_eq] at k
 exact k.1
structure Trace where
 stem:List Int
 loop:List Int
deriving DecidableEq
def Trace.cs (t:Trace):List AC:=[ints t.stem,ints t.loop]
def Trace.all (t:Trace):List Int:=t.stem++t.loop
noncomputable def trB (g:Graph) (t:Trace):Bool:=decide (1≤t.loop.length∧t.stem.length+t.loop.length≤8000) && (z1133 g t.all && (decide (t.all.getD 0 0=0) && decide (t.loop.getD 0 0∈g.nx.getD ((t.loop.getD (t.loop.length - 1) 0).toNat) [])))
theorem z1132 {g:Graph} {p:List Int} (h:z1133 g p=true) (i:Nat) (hi:i < p.length):0≤p[i]∧p[i] < g.st.length:=by
 unfold z1133 at h
 rw [y77,y77,y85] at h
 exact stepP_in hi (h.2.2 i (List.mem_range.2 hi))
end Go.Proofs.YtnfoijopccdjeaaGreat
namespace Go.Proofs.YtnfoijopccdjeaaGreat
open Go.Gl
attribute [local irreducible] z16 AWP z29 z32 z30 RetS z36
def Aut.sm (a:Aut):Prop:=a.ini.length≤40∧a.acc.length≤20∧a.ed.length≤2100∧∀ t∈a.ed,t.mx
set_option maxHeartbeats 3200000 in
theorem z779 (P:List Int) (hP:P.length≤100000) (f:Nat) (to:Int) (h:BackOk P f to) (hf:f≤100000):CallsA Tryz.prog 182 [ints P,.int to] [] (ints (bkw P f to [])) []:=by
 generalize hR:bkw P f to []=R
 have hto:=h
 refine z6 z9 Tryz.func182 rfl rfl 25 Tryz.ntmps182 (by simp) ?_
 repeat' (((apply y4 ok;rfl))<;>conv=>whnf)
 refine z77 (fun x:Nat×Int×List Int=>([(0,ints P),(5,.sref 0 0 (x.2.2.length+1))],[.cells 1 ((x.2.1::x.2.2).map enI)])) (fun x=>BackOk P x.1 x.2.1∧bkw P x.1 x.2.1 x.2.2=R∧x.1+x.2.2.length≤100000) (fun x=>x.1) (f,to,[]) ⟨hto,hR,by show f+0≤100000;omega⟩ (by refine swR [0] [] rfl rfl ?_;(repeat' first|exact y93 _|apply y94|constructor)) ?_
 rintro ⟨g,v,tl⟩ ⟨hB,hE,hl⟩
 dsimp only at hB hE hl ⊢
 have hv:0≤v∧v < P.length:=by cases g<;>exact hB.1
 have hg:(P.map enI)[v.toNat]?=some (enI (P.getD v.toNat 0)):=by rw [y58,y52 (by omega),z18 (by omega)];rfl
 by_cases h0:0≤P.getD v.toNat 0
 ·cases g with
  |zero=>exact absurd hB.2 (by omega)
  |succ g =>
   rw [bkw,if_pos h0] at hE
   have hB2:BackOk P g (P.getD v.toNat 0):=by
    rcases hB.2 with h|h
    ·omega
    ·exact h
   generalize P.getD v.toNat 0=y at *
   have hst:(List.map enI (v::tl)).length=tl.length+1∧Stor (List.map enI (v::tl)):=⟨by simp,z151 (fun _=>rfl)⟩
   repeat' ((first|(apply y4 ok;rfl)|(refine z13 (i:=v.toNat) (by simp) hg ?_)|(refine y50 hst ?_)|(apply y50;first|omega|((try dsimp only);simp only [y56,y55,y54,y53,y64,y65];omega))|apply z436|((apply z5)<;>intro _))<;>conv=>whnf)
   all_goals try (exfalso;omega)
   all_goals refine z34 (g,y,v::tl) ⟨hB2,hE,by show g+(v::tl).length≤100000;rw [y64];omega⟩ (by show g < g+1;omega) (by refine swR [2] [0,1] rfl rfl ?_;(repeat' first|exact y93 _|exact z11 _|(refine z43 ?_;((simp;omega)))|((refine z10 rfl ?_ ?_);(focus ((repeat' (first|exact z4 (fun _=>rfl)|exact z206 rfl z33|apply z52));done)))|constructor))
 ·have hE2:v::tl=R:=by
   cases g with
   |zero=>exact hE
   |succ g=>rw [bkw,if_neg h0] at hE;exact hE
  subst hE2
  generalize P.getD v.toNat 0=y at *
  repeat' ((first|(apply y4 ok;rfl)|(refine z13 (i:=v.toNat) (by simp) hg ?_)|(apply y50;omega)|(((apply z8;omega));intro _)|apply z436|((apply z5)<;>intro _))<;>conv=>whnf)
  all_goals try (exfalso;omega)
  all_goals (refine rsD [] [0] rfl ?_;(repeat' first|exact y93 _|((apply z66 rfl rfl rfl);(focus ((repeat ((exact z53 (fun _=>rfl) _)));done));(focus (((simp;done));done)))|constructor))
def z1191 (k:Nat):List Int:=List.replicate k (-1)
theorem z1040 (k:Nat):z1191 (k+1)=z1191 k++[-1]:=by unfold z1191;rw [List.replicate_succ']
theorem z685 {l:List Int} {k:Nat} (h:k < l.length) (x:Int):x∈l.take (k+1)↔x∈l.take k∨x=l[k]:=by
 rw [y57 h,List.mem_append,y61]
set_option maxHeartbeats 12800000 in
theorem z452 (rows:List (List Int)) (ini:List Int) (hr:∀ r∈rows,InN rows.length r) (hi:InN rows.length ini) (hn:ini.Nodup) (hN:rows.length≤100000) (hrl:∀ r∈rows,r.length≤1000000000):CallsA Tryz.prog 180 [lst 1 encL rows,ints ini] [] (.tup [.sref 0 0 (srP rows ini).length,.sref 1 0 (srQ rows ini).length]) [.cells 1 ((srP rows ini).map enI),.cells 1 ((srQ rows ini).map enI)]:=by
 have hil:ini.length≤rows.length:=z185 _ _ hn hi
 refine z6 z9 Tryz.func180 rfl rfl 91 Tryz.ntmps180 (by simp) ?_
 repeat' ((first|(apply y4 ok;rfl)|(apply y50;(dsimp only;omega)))<;>conv=>whnf)
 refine z77 (fun x:Nat×List Int=>([(0,lst 1 encL rows),(1,ints ini),(6,.sref 0 0 x.2.length),(7,.sref 1 0 rows.length),(8,.int x.1)],[.cells 1 (x.2.map enI),.cells 1 ((mkB rows.length []).map enB)])) (fun x=>x.1≤rows.length∧x.2.length=x.1∧x.2=z1191 x.1) (fun x=>rows.length - x.1) (0,[]) ⟨by show 0≤rows.length;omega,rfl,rfl⟩ (by refine swR [0,1] [] rfl rfl ?_;(repeat' first|exact y93 _|((refine z10 rfl ?_ ?_);(focus ((repeat' (first|exact z33|exact z19 rfl));done)))|constructor)<;>((refine z55 ?_;rw [mkB_nil,List.map_replicate];rfl))) ?_
 rintro ⟨i,F⟩ ⟨hF1,hFl,hF2⟩
 dsimp only at hF1 hFl hF2 ⊢
 by_cases hi2:i < rows.length
 ·repeat' ((first|(apply y4 ok;rfl)|(apply y50;first|omega|(unfold inI;omega)|((try dsimp only);simp only [y56,y55,y54,y53,y64,y65];omega)|exact ⟨rfl,z38 rfl z45⟩)|((apply z5)<;>intro _))<;>conv=>whnf)
  all_goals try (exfalso;omega)
  all_goals refine z34 (i+1,F++[-1]) ⟨hi2,by rw [y54,hFl];rfl,by show _=z1191 (i+1);rw [z1040,← hF2]⟩ (by show rows.length - (i+1) < _;omega) (by refine swR [3,1] [] rfl rfl ?_;(repeat' first|exact y93 _|exact z11 _|(refine z43 ?_;((simp;done)))|((first|refine z51 rfl ?_ ?_|refine z10 rfl ?_ ?_);(focus ((repeat' (first|exact z4 (fun _=>rfl)|apply z40));done)))|(refine z73 ?_ ?_;(focus (omega)))|constructor))
 ·have e:rows.length=i:=by omega
  have hs0:srS rows ini 0=(ini,F):=by rw [hF2,← e];rfl
  rw [← e] at hFl
  subst e
  clear hF1 hF2 hi2
  repeat' ((first|(apply y4 ok;rfl)|(apply y50;first|omega|(dsimp only;omega)|exact z151 (fun _=>rfl))|((apply z5)<;>intro _))<;>conv=>whnf)
  all_goals try (exfalso;omega)
  all_goals
   refine z77 (fun i:Nat=>([(0,lst 1 encL rows),(1,ints ini),(6,.sref 0 0 rows.length),(7,.sref 1 0 rows.length),(9,.sref 2 0 ini.length),(10,.int i)],[.cells 1 (F.map enI),.cells 1 ((mkB rows.length (ini.take i)).map enB),.cells 1 (ini.map enI)])) (fun i=>i≤ini.length) (fun i=>ini.length - i) 0 (by omega) (by refine swR [0,1,3] [] rfl rfl ?_;(repeat' first|exact y93 _|exact z11 _|(refine z43 ?_;(omega))|refine z10 rfl (z4 (fun _=>rfl)) ?_|constructor)) ?_
   intro i hi1
   by_cases hi2:i < ini.length
   ·have hx:=hi ini[i] (y51 _)
    have hset:=z1117 (enc:=enB) rfl hx.1 hx.2 (z685 hi2)
    have hml:=mkB_len rows.length (ini.take i)
    repeat' ((first|(apply y4 ok;rfl)|(apply y50;first|omega|(unfold inI;omega))|((first|(with_reducible apply z8;omega)|(apply z8;omega));intro _)|((apply z5)<;>intro _))<;>conv=>whnf)
    all_goals try (exfalso;omega)
    all_goals refine z34 (i+1) (by omega) (by omega) (by refine swR [0,1,2] [] rfl rfl ?_;(repeat' first|exact y93 _|exact z11 _|refine z82 rfl (z4 (fun _=>rfl)) ?_|refine z10 rfl (z4 (fun _=>rfl)) ?_|constructor)<;>(exact z55 hset))
   ·have e:ini.length=i:=by omega
    subst e
    rw [y62]
    repeat' ((first|(apply y4 ok;rfl)|(apply y50;omega)|((first|(with_reducible apply z8;omega)|(apply z8;omega));intro _)|((apply z5)<;>intro _))<;>conv=>whnf)
    all_goals try (exfalso;omega)
    refine z77 (fun x:Nat×List Int×List Int=>([(0,lst 1 encL rows),(6,.sref 0 0 rows.length),(7,.sref 1 0 rows.length),(9,.sref 2 0 x.2.1.length),(11,.int x.1)],[.cells 1 (x.2.2.map enI),.cells 1 ((mkB rows.length x.2.1).map enB),.cells 1 (x.2.1.map enI)])) (fun x=>srS rows ini x.1=(x.2.1,x.2.2)∧x.1≤x.2.1.length) (fun x=>rows.length - x.1) (0,ini,F) ⟨hs0,y60 _⟩ (by refine swR [0,1,2] [] rfl rfl ?_;(repeat' first|exact y93 _|exact z11 _|refine z10 rfl (z4 (fun _=>rfl)) ?_|constructor)) ?_
    clear hs0 hFl F
    rintro ⟨i,Q,P⟩ ⟨hS,hiQ⟩
    dsimp only at hS hiQ ⊢
    have hJ:=z339 hr hi hn i
    rw [hS] at hJ
    have hQl:=z185 _ _ hJ.nd hJ.inn
    have hPl:=hJ.len
    dsimp only at hQl hPl
    by_cases hi2:i < Q.length
    ·have hq:=hJ.inn _ (y51 hi2)
     have hS1:srS rows ini (i+1)=visPs Q[i] (Q,P) (rows.getD Q[i].toNat []):=by rw [srS,dif_pos (by rw [hS];exact hi2)];simp only [hS]
     have hqr:Q[i].toNat < rows.length:=by omega
     have hrow:rows.getD Q[i].toNat []=rows[Q[i].toNat]:=z18 hqr
     have hrin:InN rows.length rows[Q[i].toNat]:=hr _ (y51 _)
     have hrl2:=hrl rows[Q[i].toNat] (y51 _)
     rw [hrow] at hS1
     repeat' ((first|(apply y4 ok;rfl)|((apply z5)<;>intro _))<;>conv=>whnf)
     all_goals try (exfalso;omega)
     refine z77 (fun y:Nat×List Int×List Int=>([(0,lst 1 encL rows),(6,.sref 0 0 rows.length),(7,.sref 1 0 rows.length),(9,.sref 2 0 y.2.1.length),(11,.int i),(12,.int y.1)],[.cells 1 (y.2.2.map enI),.cells 1 ((mkB rows.length y.2.1).map enB),.cells 1 (y.2.1.map enI)])) (fun y=>visPs Q[i] (Q,P) (rows[Q[i].toNat].take y.1)=(y.2.1,y.2.2)∧y.1≤rows[Q[i].toNat].length) (fun y=>rows[Q[i].toNat].length - y.1) (0,Q,P) ⟨rfl,y60 _⟩ (by refine swR [0,1,2] [] rfl rfl ?_;(repeat' first|exact y93 _|exact z11 _|refine z10 rfl (z4 (fun _=>rfl)) ?_|constructor)) ?_
     rintro ⟨k,Q',P'⟩ ⟨hV,hk⟩
     dsimp only at hV hk ⊢
     obtain ⟨hJ',hi',hu⟩:=PJ.visPs (rows[Q[i].toNat].take k) hJ hi2 rfl (fun x hx=>hrin x (List.mem_of_mem_take hx))
     simp only [hV] at hJ' hi' hu
     have hQl':=z185 _ _ hJ'.nd hJ'.inn
     have hPl':=hJ'.len
     dsimp only at hQl' hPl'
     have hg:(Q'.map enI)[i]?=some (enI Q[i]):=by rw [y58,y52 hi',hu];rfl
     by_cases hk2:k < rows[Q[i].toNat].length
     ·have hx:=hrin rows[Q[i].toNat][k] (y51 _)
      have hv:=z608 (u:=Q[i]) (x:=(Q,P)) hk2
      rw [hV] at hv
      have hkk:(rows[Q[i].toNat].map enI)[k]?=some (enI rows[Q[i].toNat][k]):=by rw [y58,y52 hk2];rfl
      generalize Q[i]=u at *
      generalize rows[u.toNat][k]=v at *
      by_cases hn2:v∈Q'
      ·rw [z361 hn2] at hv
       repeat' ((first|(apply y4 ok;rfl)|(refine z13 (i:=i) rfl hg ?_)|(refine z13 (i:=k) rfl hkk ?_)|(refine z1179 (enc:=enB) (v:=v) (by rfl) hx.1 hx.2 ?_)|(apply y50;first|omega|(unfold inI;omega)|((try dsimp only);simp only [y56,y55,y54,y53,y64,y65];omega)|exact ⟨rfl,z38 rfl z45⟩)|((first|(with_reducible apply z103;omega)|(apply z8;omega));intro _)|((first|apply z5|apply z28)<;>intro _))<;>conv=>whnf)
       all_goals first|(exfalso;omega)|(exfalso;contradiction)|skip
       all_goals refine z34 (k+1,Q',P') ⟨hv,hk2⟩ (by show rows[u.toNat].length - (k+1) < rows[u.toNat].length - k;omega) (by refine swR [0,1,2] [] rfl rfl ?_;(repeat' first|exact y93 _|exact z11 _|refine z10 rfl (z4 (fun _=>rfl)) ?_|constructor))
      ·rw [z362 hn2] at hv
       have hset:=z1117 (enc:=enB) (S:=Q') (S':=Q'++[v]) rfl hx.1 hx.2 (fun x=>by simp)
       repeat' ((first|(apply y4 ok;rfl)|(refine z13 (i:=i) rfl hg ?_)|(refine z13 (i:=k) rfl hkk ?_)|(refine z1179 (enc:=enB) (v:=v) (by rfl) hx.1 hx.2 ?_)|(apply y50;first|omega|(unfold inI;omega)|((try dsimp only);simp only [y56,y55,y54,y53,y64,y65];omega)|exact ⟨rfl,z38 rfl z45⟩)|((first|(with_reducible apply z103;omega)|(apply z8;omega));intro _)|((first|apply z5|apply z28)<;>intro _))<;>conv=>whnf)
       all_goals first|(exfalso;omega)|(exfalso;contradiction)|skip
       all_goals refine z34 (k+1,Q'++[v],P'.set v.toNat u) ⟨hv,hk2⟩ (by show rows[u.toNat].length - (k+1) < rows[u.toNat].length - k;omega) (by refine swR [0,1,4] [] rfl rfl ?_;(repeat' first|exact y93 _|(refine z43 ?_;((simp;done)))|((first|refine z51 rfl ?_ ?_|refine z82 rfl ?_ ?_);(focus ((repeat' (first|exact z4 (fun _=>rfl)|apply z40));done)))|refine z757 (by omega) ?_|(refine z73 ?_ ?_;(focus (omega)))|constructor)<;>(exact z55 hset))
     ·rw [y63 (by omega)] at hV
      rw [hV] at hS1
      repeat' ((first|(apply y4 ok;rfl)|(refine z13 (i:=i) rfl hg ?_)|(apply y50;first|omega|(unfold inI;omega))|((first|(with_reducible apply z8;omega)|(with_reducible apply z103;omega)|(apply z8;omega));intro _)|((first|apply z5|apply z96)<;>intro _))<;>conv=>whnf)
      all_goals try (exfalso;omega)
      all_goals refine z34 (i+1,Q',P') ⟨hS1,hi'⟩ (by show rows.length - (i+1) < rows.length - i;omega) (by refine swR [0,1,2] [] rfl rfl ?_;(repeat' first|exact y93 _|exact z11 _|refine z10 rfl (z4 (fun _=>rfl)) ?_|constructor))
    ·have hE:=z1103 (rows:=rows) (ini:=ini) (i:=i) (by rw [hS];show Q.length≤i;omega) (by omega)
     rw [hS] at hE
     obtain ⟨e1,e2⟩:=Prod.mk.inj hE
     rw [← e1,← e2]
     repeat' ((first|(apply y4 ok;rfl)|((apply z5)<;>intro _))<;>conv=>whnf)
     all_goals try (exfalso;omega)
     all_goals (refine rsD [0,2] [] rfl ?_;(repeat' first|exact y93 _|exact z11 _|(refine z43 ?_;(omega))|refine z10 rfl (z4 (fun _=>rfl)) ?_|apply z72|constructor))
theorem z882 (rows:List (List Int)) (ini:List Int) (hr:∀ r∈rows,InN rows.length r) (hi:InN rows.length ini) (hn:ini.Nodup) (hN:rows.length≤100000) (hrl:∀ r∈rows,r.length≤1000000000):CallsA Tryz.prog 180 [lst 1 encL rows,ints ini] [] (.tup [ints (srP rows ini),ints (srQ rows ini)]) [] :=
 (z452 rows ini hr hi hn hN hrl).lend [] [0,1] rfl rfl rfl (z915 (z23 (z91 rfl rfl rfl) (z23 (z91 rfl rfl rfl) z48))) z14
theorem rowAt {rows:List (List Int)} {v:Int} (hv:0≤v∧v < rows.length):(rows.map encL)[v.toNat]?=some (encL (rows.getD v.toNat [])):=by
 rw [y58,y52 (by omega),z18 (by omega)];rfl
theorem rowLen {rows:List (List Int)} {M:Nat} (hrl:∀ r∈rows,r.length≤M) (v:Int):(rows.getD v.toNat []).length≤M:=by
 by_cases h:v.toNat < rows.length
 ·rw [z18 h];exact hrl _ (y51 _)
 ·rw [y74,y75 (by omega)];exact y60 _
set_option maxHeartbeats 3200000 in
theorem z1020 (rows:List (List Int)) (v:Int) (hr:∀ r∈rows,InN rows.length r) (hv:0≤v∧v < rows.length) (hN:rows.length≤100000) (hrl:∀ r∈rows,r.length≤1000000000):CallsA Tryz.prog 181 [lst 1 encL rows,.int v] [] (ints (cycL rows v)) []:=by
 have hg:=rowAt hv
 have hl:=fun w=>rowLen hrl w
 have c1:=z691 (rows.getD v.toNat []) (by have:=hl v;unfold maxLen;omega) v
 have hlv:=hl v
 have c2:=z452 rows [v] hr (z290 hv) (by simp) hN hrl
 have hQ:=z614 hr (z290 hv) (by simp)
 have hB:=z665 hr (z290 hv) (by simp)
 have hPl:=z1106 hr (z290 hv) (by simp)
 have hQl:=z855 hr (z290 hv) (by simp)
 have c3:=fun k hk=>z779 (srP rows [v]) (by omega) rows.length _ (hB k hk) (by omega)
 unfold cycL
 by_cases h:v∈rows.getD v.toNat []
 ·rw [if_pos h]
  rw [y89 h] at c1
  generalize rows.getD v.toNat []=r0 at *
  refine z6 z9 Tryz.func181 rfl rfl 45 Tryz.ntmps181 (by simp) ?_
  repeat' ((first|(apply y4 ok;rfl)|(refine z13 (i:=v.toNat) (by simp) hg ?_)|(apply y50;omega)|(apply z0 (c1);rfl;rfl))<;>conv=>whnf)
  all_goals (refine rsD [] [0] rfl ?_;(repeat' first|exact y93 _|constructor))
 ·rw [if_neg h]
  rw [y90 h] at c1
  generalize hr0:rows.getD v.toNat []=r0 at hg c1 hlv
  generalize srQ rows [v]=Q at *
  generalize srP rows [v]=P at *
  generalize hR:cycT rows P v Q=R
  refine z6 z9 Tryz.func181 rfl rfl 45 Tryz.ntmps181 (by simp) ?_
  repeat' ((first|(apply y4 ok;rfl)|(refine z13 (i:=v.toNat) (by simp) hg ?_)|(apply y50;omega)|(apply z0 (c1);rfl;rfl)|(apply z83 [] [0] [1,2] c2;(focus ((repeat' first|exact z48|apply z23)<;>rfl));rfl;rfl;(focus ((repeat' first|exact z12|apply z15)<;>(refine z22 ?_;((exact z4 fun _=>rfl)))));((refine .inr ⟨rfl,?_⟩;repeat' first|exact True.intro|apply y50|exact z127 (fun _=>rfl) _))))<;>conv=>whnf)
  refine z77 (fun i:Nat=>([(0,lst 1 encL rows),(1,.int v),(5,ints P),(6,ints Q),(7,.int i)],[])) (fun i=>i≤Q.length∧cycT rows P v (Q.drop i)=R) (fun i=>Q.length - i) 0 ⟨y60 _,hR⟩ (by refine swR [] [1,2] rfl rfl ?_;(repeat' first|exact y93 _|((apply z66 rfl rfl rfl);(focus ((repeat ((exact z53 (fun _=>rfl) _)));done));(focus (((simp;done));done)))|constructor)) ?_
  rintro i ⟨hi1,hi2⟩
  by_cases hi3:i < Q.length
  ·have hq:=hQ _ (y51 hi3)
   have hgq:=rowAt hq
   have c4:=z691 (rows.getD Q[i].toNat []) (by have:=hl Q[i];unfold maxLen;omega) v
   have hlq:=hl Q[i]
   have c5:=c3 i hi3
   rw [y86 hi3,cycT] at hi2
   have hgi:(Q.map enI)[i]?=some (enI Q[i]):=by rw [y58,y52 hi3];rfl
   generalize Q[i]=u at *
   by_cases hm:v∈rows.getD u.toNat []
   ·rw [if_pos hm] at hi2
    rw [y89 hm] at c4
    subst hi2
    generalize rows.getD u.toNat []=r1 at *
    repeat' ((first|(apply y4 ok;rfl)|(refine z13 (i:=u.toNat) (by simp) hgq ?_)|(refine z13 (i:=i) (by simp) hgi ?_)|(apply y50;omega)|((apply z5)<;>intro _)|(apply z0 (c4);rfl;rfl)|(apply z0 (c5);rfl;rfl))<;>conv=>whnf)
    all_goals try (exfalso;omega)
    all_goals (refine rsD [] [] rfl ?_;(repeat' first|exact y93 _|constructor))
   ·rw [if_neg hm] at hi2
    rw [y90 hm] at c4
    generalize rows.getD u.toNat []=r1 at *
    repeat' ((first|(apply y4 ok;rfl)|(refine z13 (i:=u.toNat) (by simp) hgq ?_)|(refine z13 (i:=i) (by simp) hgi ?_)|(apply y50;first|omega|(unfold inI;omega))|((apply z5)<;>intro _)|(apply z0 (c4);rfl;rfl))<;>conv=>whnf)
    all_goals try (exfalso;omega)
    all_goals refine z34 (i+1) ⟨hi3,hi2⟩ (by omega) (by refine swR [] [] rfl rfl ?_;(repeat' first|exact y93 _|constructor))
  ·have e:Q.length=i:=by omega
   subst e
   rw [List.drop_length,cycT] at hi2
   subst hi2
   repeat' ((first|(apply y4 ok;rfl)|(apply y50;omega)|((first|(with_reducible apply z8;omega)|(with_reducible apply z103;omega));intro _)|((apply z5)<;>intro _))<;>conv=>whnf)
   all_goals try (exfalso;omega)
   all_goals (refine rsD [] [0] rfl ?_;(repeat' first|exact y93 _|constructor))
theorem z544 (l:List Int) (n:Nat) (hl:l.length≤1000000) (hn:1≤n) (h0:∀ x∈l,0≤x) (h1:∀ x∈l,x≤1000000000):CallsA Tryz.prog 183 [ints l,.int n] [] (.sref 0 0 l.length) [.cells 1 ((stL l n).map enI)]:=by
 refine z6 z9 Tryz.func183 rfl rfl 24 Tryz.ntmps183 (by simp) ?_
 repeat' (((apply y4 ok;rfl))<;>conv=>whnf)
 refine z77 (fun x:Nat×List Int=>([(0,ints l),(1,.int n),(5,.sref 0 0 x.2.length),(6,.int x.1)],[.cells 1 (x.2.map enI)])) (fun x=>x.1≤l.length∧x.2.length=x.1∧x.2=stL (l.take x.1) n) (fun x=>l.length - x.1) (0,[]) ⟨y60 _,rfl,rfl⟩ (by refine swR [0] [] rfl rfl ?_;(repeat' first|exact y93 _|refine z10 rfl (z33) ?_|constructor)) ?_
 rintro ⟨i,F⟩ ⟨hi1,hF1,hF2⟩
 dsimp only at hi1 hF1 hF2 ⊢
 by_cases hi2:i < l.length
 ·have a0:=h0 _ (y51 hi2)
  have a1:=h1 _ (y51 hi2)
  have a2:0≤l[i] / (n:Int):=Int.ediv_nonneg a0 (by omega)
  have a3:l[i] / (n:Int)≤l[i]:=Int.ediv_le_self _ a0
  have hF3:stL (l.take (i+1)) n=F++[l[i] / n]:=by rw [hF2,stL,y57 hi2,y70];rfl
  repeat' ((first|(apply y4 ok;rfl)|(apply y50;first|omega|(unfold inI;omega)|((try dsimp only);simp only [y56,y55,y54,y53,y64,y65];omega)|exact ⟨rfl,z38 rfl z45⟩)|(((with_reducible apply z8;omega));intro _)|((apply z5)<;>intro _))<;>conv=>whnf)
  all_goals try (exfalso;omega)
  all_goals refine z34 (i+1,F++[l[i] / n]) ⟨hi2,by rw [y54,hF1];rfl,hF3.symm⟩ (by show l.length - (i+1) < l.length - i;omega) (by refine swR [2] [] rfl rfl ?_;(repeat' first|exact y93 _|(refine z43 ?_;((simp;done)))|((refine z51 rfl ?_ ?_);(focus ((repeat' (first|exact z4 (fun _=>rfl)|apply z40));done)))|(refine z73 ?_ ?_;(focus (omega)))|constructor))
 ·have e:l.length=i:=by omega
  subst e
  rw [y62] at hF2
  subst hF2
  repeat' ((first|(apply y4 ok;rfl)|(apply y50;omega)|(((with_reducible apply z8;omega));intro _)|((apply z5)<;>intro _))<;>conv=>whnf)
  all_goals try (exfalso;omega)
  all_goals (refine rsD [0] [] rfl ?_;(repeat' first|exact z11 _|(refine z43 ?_;(omega))|refine z10 rfl (z4 (fun _=>rfl)) ?_|constructor))
theorem IniP.nd {l:List Int} {n:Int} (h:IniP l n l.length):l.Nodup:=by
 have hs:∀ d i (hi:i+d+1 < l.length),l[i] < l[i+d+1]:=by
  intro d
  induction d with
  |zero=>intro i hi;exact (h (i+1) hi hi).2 i rfl
  |succ d ih =>
   intro i hi
   have h1:=ih i (by omega)
   have h2:=(h (i+(d+1)+1) hi hi).2 (i+d+1) (by omega)
   omega
 rw [List.nodup_iff_pairwise_ne,List.pairwise_iff_getElem]
 intro i j hi hj hij
 have:=hs (j - i - 1) i (by omega)
 have e:i+(j - i - 1)+1=j:=by omega
 simp only [e] at this
 omega
noncomputable def trcO (g:Graph) (ls:List Int) (a:Aut):Option (List Int×List Int):=(finS (z44 g ls a) a.ini a.acc).map fun x=>(stL (x.1.take (x.1.length - 1)) a.acc.length,stL x.2 a.acc.length)
noncomputable def trcL (g:Graph) (ls:List Int) (a:Aut):List Int×List Int:=(trcO g ls a).getD ([],[])
set_option maxHeartbeats 6400000 in
theorem z1162 (g:Graph) (hG:GB g) (ls:List Int) (hls:ls.length=g.st.length) (hlr:∀ x∈ls,0≤x∧x≤7) (a:Aut) (hA:AutP a):CallsA Tryz.prog 126 [.agg g.cs,ints ls,.agg a.cs] [] (.tup [.agg [ints (trcL g ls a).1,ints (trcL g ls a).2],.bool (trcO g ls a).isSome]) []:=by
 have k2:=z777 g hG ls hls hlr a hA
 obtain ⟨f1,f2,f3,f4,f5⟩:=z235 hG hA ls
 have hlen:(z44 g ls a).length=g.st.length * a.acc.length:=by unfold z44;rw [z86,Nat.mul_comm]
 have hnd:=hA.2.2.1.nd
 have hac:=hA.1
 unfold trcL trcO finS
 generalize z44 g ls a=rows at *
 have k3:=z882 rows a.ini f1 f2 hnd (by omega) f4
 have hQ:=z614 f1 f2 hnd
 have hB:=z665 f1 f2 hnd
 have hPl:=z1106 f1 f2 hnd
 have hQl:=z855 f1 f2 hnd
 have hPle:=z1102 f1 f2 hnd rows.length
 have k4:=fun v hv=>z1020 rows v f1 hv (by omega) f4
 have k5:=fun k hk=>z779 (srP rows a.ini) (by omega) rows.length _ (hB k hk) (by omega)
 have n4:=fun v hv=>z1198 f1 (v:=v) hv
 have m4:=fun v hv=>z1199 f1 (v:=v) hv
 change ∀ y∈srP rows a.ini,y≤(rows.length:Int) at hPle
 generalize srQ rows a.ini=Q at *
 generalize srP rows a.ini=P at *
 generalize hR:finT rows a.acc P Q=R
 refine z6 z9 Tryz.func126 rfl rfl 72 Tryz.ntmps126 (by simp) ?_
 repeat' ((first|(apply y4 ok;rfl)|(apply z0 (k2);rfl;rfl)|(apply z0 (k3);rfl;rfl))<;>conv=>whnf)
 refine z77 (fun i:Nat=>([(5,.ptr 0 none 0),(6,.ptr 1 none 0),(8,.int a.acc.length),(9,lst 1 encL rows),(10,ints P),(11,ints Q),(12,.int i)],[.cells 3 [a.cs],.cells 2 [[.nils,.nils]]])) (fun i=>i≤Q.length∧finT rows a.acc P (Q.drop i)=R) (fun i=>Q.length - i) 0 ⟨y60 _,hR⟩ (by refine swR [1,2] [] rfl rfl ?_;(repeat' first|exact y93 _|apply y94|constructor)) ?_
 rintro i ⟨hi1,hi2⟩
 by_cases hi3:i < Q.length
 ·have hq:=hQ _ (y51 hi3)
  have c5:=k5 i hi3
  rw [y86 hi3,finT] at hi2
  have hgi:(Q.map enI)[i]?=some (enI Q[i]):=by rw [y58,y52 hi3];rfl
  generalize Q[i]=u at *
  have hm0:0≤u % (a.acc.length:Int):=Int.emod_nonneg _ (by omega)
  have hm1:u % (a.acc.length:Int) < a.acc.length:=Int.emod_lt_of_pos _ (by omega)
  have hga:(a.acc.map enB)[(u % (a.acc.length:Int)).toNat]?=some (enB (a.acc.getD (u % (a.acc.length:Int)).toNat false)):=by
   rw [y58,y52 (by omega),z18 (by omega)];rfl
  have c4:=k4 u hq
  have l4:=z711 rows u
  have b1:=z572 P rows.length u []
  simp only [y65,Nat.add_zero] at b1
  have b2:=z571 P rows.length u []
  have b3:=z968 (P:=P) rows.length u [] hq.1 (fun x hx=>by cases hx)
  have b4:=z969 hPle rows.length u [] (by omega) (by omega) (fun x hx=>by cases hx)
  have n5:=n4 u hq
  have m5:=m4 u hq
  generalize bkw P rows.length u []=b at *
  generalize cycL rows u=c at *
  have c6:=z544 (b.take (b.length - 1)) a.acc.length (by rw [y55];omega) (by omega) (fun x hx=>b3 x (List.mem_of_mem_take hx)) (fun x hx=>by have:=b4 x (List.mem_of_mem_take hx);omega)
  rw [show (b.take (b.length - 1)).length=b.length - 1 by rw [y55];omega] at c6
  have eL:AC.list 1 (((b.length:Int) - 1).toNat - Int.toNat 0) (List.take (((b.length:Int) - 1).toNat - Int.toNat 0) (List.drop (Int.toNat 0) (List.map enI b)))=ints (b.take (b.length - 1)):=by
   rw [show ((b.length:Int) - 1).toNat - Int.toNat 0=b.length - 1 by rw [show Int.toNat 0=0 from rfl];omega]
   show _=AC.list 1 (b.take (b.length - 1)).length ((b.take (b.length - 1)).map enI)
   rw [show (b.take (b.length - 1)).length=b.length - 1 by rw [y55];omega,List.map_take];rfl
  rw [← eL] at c6
  have hs1:(stL (b.take (b.length - 1)) a.acc.length).length=b.length - 1:=by rw [stL,y56,y55];omega
  have hs2:(stL c a.acc.length).length=c.length:=by rw [stL,y56]
  have c7:=z544 c a.acc.length (by omega) (by omega) n5 (fun x hx=>by have:=m5 x hx;omega)
  generalize a.acc.getD (u % (a.acc.length:Int)).toNat false=z at *
  cases z
  ·rw [if_neg (by simp)] at hi2
   repeat' ((first|(apply y4 ok;rfl)|(apply z17;kernel_rfl)|(refine z13 (i:=i) (by simp) hgi ?_)|(refine z13 (i:=(u % (a.acc.length:Int)).toNat) (by simp) hga ?_)|(apply y50;first|omega|(unfold inI;omega))|((apply z5)<;>intro _))<;>conv=>whnf)
   all_goals try (exfalso;omega)
   all_goals refine z34 (i+1) ⟨hi3,hi2⟩ (by omega) (by refine swR [0,1] [] rfl rfl ?_;(repeat' first|exact y93 _|apply y94|constructor))
  ·rw [if_pos rfl] at hi2
   by_cases hc:0 < c.length
   ·rw [if_pos hc] at hi2
    subst hi2
    repeat' ((first|(apply y4 ok;rfl)|(apply z17;kernel_rfl)|(refine z13 (i:=i) (by simp) hgi ?_)|(refine z13 (i:=(u % (a.acc.length:Int)).toNat) (by simp) hga ?_)|(apply y50;first|omega|(unfold inI;omega))|((apply z5)<;>intro _)|(apply z0 (c4);rfl;rfl)|(apply z0 (c5);rfl;rfl)|((first|(apply z54 [] [2] c6;rfl;rfl)|(apply z54 [] [3] c7;rfl;rfl));rfl;(focus ((repeat' first|exact z12|apply z15)<;>(refine z22 ?_;((exact z4 fun _=>rfl)))))))<;>conv=>whnf)
    all_goals try (exfalso;omega)
    all_goals (refine rsD [] [2,3] rfl ?_;(repeat' first|exact y93 _|(refine z541 ?_;omega)|((apply z66 rfl rfl rfl);(focus ((repeat ((exact z53 (fun _=>rfl) _)));done));(focus (((simp;omega));done)))|apply z64|apply z72|constructor))
   ·rw [if_neg hc] at hi2
    repeat' ((first|(apply y4 ok;rfl)|(apply z17;kernel_rfl)|(refine z13 (i:=i) (by simp) hgi ?_)|(refine z13 (i:=(u % (a.acc.length:Int)).toNat) (by simp) hga ?_)|(apply y50;first|omega|(unfold inI;omega))|((apply z5)<;>intro _)|(apply z0 (c4);rfl;rfl)|(apply z0 (c5);rfl;rfl))<;>conv=>whnf)
    all_goals try (exfalso;omega)
    all_goals refine z34 (i+1) ⟨hi3,hi2⟩ (by omega) (by refine swR [0,1] [] rfl rfl ?_;(repeat' first|exact y93 _|apply y94|constructor))
 ·have e:Q.length=i:=by omega
  subst e
  rw [List.drop_length,finT] at hi2
  subst hi2
  repeat' ((first|(apply y4 ok;rfl)|(apply z17;kernel_rfl)|(apply y50;omega)|((first|(with_reducible apply z8;omega)|(with_reducible apply z103;omega));intro _)|((first|apply z5|apply z93)<;>intro _))<;>conv=>whnf)
  all_goals try (exfalso;omega)
  all_goals (refine rsD [] [] rfl ?_;(repeat' first|exact y93 _|exact z61|apply z64|apply z72|constructor))
end Go.Proofs.YtnfoijopccdjeaaGreat
namespace Go.Proofs.YtnfoijopccdjeaaGreat
open Go.Gl
attribute [local irreducible] z16 AWP z29 z32 z30
theorem z1092 {P : Program} {tE tS tI : TypeId} {n1 n2 n3 : Field} (ht : P.underlying tE = some (.struct #[n1, n2, n3])) (e1 : n1.type = tI) (e2 : n2.type = tI) (e3 : n3.type = tS) (hI : P.underlying tI = some (.int .i64)) (hS : P.underlying tS = some (.slice tE))
    (cI:P.cellsOf tI=1) (cS:P.cellsOf tS=1) (cE:P.cellsOf tE=3) (o1:n1.offset=0) (o2:n2.offset=1) (o3:n3.offset=2):OpensD P tE Tree.cs' Tree.mx:=by
  intro k
  induction k using Nat.strongRecOn with
  | _ k ih =>
    match k with
    | 0=>exact z237
    | k+1 =>
      refine (z1011 (e1:=fun n:Int=>[.int n]) (ok1:=fun n=>(Lit.int .i64 n).wf=true) (e2:=fun n:Int=>[.int n]) (ok2:=fun n=>(Lit.int .i64 n).wf=true) (e3:=fun l:List Tree=>[lst 3 Tree.cs' l]) (ok3:=fun l=>l.length≤maxLen∧∀ a∈l,a.mx) (enc:=Tree.cs') Tree.mk ht o1 (by rw [o2,e1,cI]) (by rw [o3,e1,e2,cI]) (by rw [e1,e2,e3,cI,cS,cE]) ?_ ?_ ?_ ?_).imp ?_
      · rw [e1];exact z446 hI (fun _=>rfl) k
      · rw [e2];exact z446 hI (fun _=>rfl) k
      · rw [e3]
        match k with
        | 0=>exact z237
        | k+1=>exact z621 hS cE (by decide) (ih k (by omega))
      · intro a b c
        show [AC.int a,AC.int b,AC.list 3 c.length (c.map Tree.cs)]=_
        rw [y33];rfl
      · rintro xs ⟨x,rfl,a,b,c,rfl,_,_,h⟩
        exact ⟨_,rfl,(y34 _).2 h⟩
theorem od_intS:OpensD Tryz.prog 23 encL (fun l=>l.length≤maxLen∧∀ n∈l,(Lit.int .i64 n).wf=true):=z682 1 Tryz.underlying23 (by kernel_rfl) (by decide) (z446 (enc:=enI) Tryz.underlying3 (fun _=>rfl)) (fun _=>rfl)
theorem z876:OpensD Tryz.prog 109 Tree.cs' Tree.mx :=
 z1092 (tI:=3) (tS:=52) Tryz.underlying109 rfl rfl rfl Tryz.underlying3 Tryz.underlying52 (by kernel_rfl) (by kernel_rfl) (by kernel_rfl) rfl rfl rfl
theorem ad_exprS:ArgD Tryz.prog 52 (lst 3 Tree.cs') Lmx :=
 (z1221 (enc1:=lst 3 Tree.cs') Tryz.underlying52 (z682 3 (encL:=fun l=>[lst 3 Tree.cs' l]) Tryz.underlying52 (by kernel_rfl) (by decide) z876 (fun _=>rfl)) (fun _=>rfl)).imp fun l h=>⟨l,rfl,h⟩
section
open Go.ChangeShapes Go.WideShapes Go.ChangeAt Go.RowKit
theorem and_mk {a b:Bool} (h:a=true) (k:b=true):(a && b)=true:=by rw [h,k];rfl
theorem own:ownKnob Tryz.prog.godebug=none:=by kernel_rfl
theorem z1019:laidOutB Tryz.prog=true:=by kernel_rfl
end
end Go.Proofs.YtnfoijopccdjeaaGreat
namespace Go.Proofs.YtnfoijopccdjeaaGreat
open Go.Gl
attribute [local irreducible] z16 AWP z29 z32 z30
end Go.Proofs.YtnfoijopccdjeaaGreat
namespace Go.Proofs.YtnfoijopccdjeaaGreat
open Go.Gl
attribute [local irreducible] z16 AWP z29 z32 z30 RetS z36
theorem z708 (a:Aut) (hA:AutP a) (x:Int) (h0:0≤x):CallsA Tryz.prog 137 [.int x,.pt a.cs,.pt [.int a.acc.length]] [] (.bool (a.acc.getD (x % a.acc.length).toNat false)) []:=by
 have hac:=hA.1
 have hm0:0≤x % (a.acc.length:Int):=Int.emod_nonneg _ (by omega)
 have hm1:x % (a.acc.length:Int) < a.acc.length:=Int.emod_lt_of_pos _ (by omega)
 have hga:(a.acc.map enB)[(x % (a.acc.length:Int)).toNat]?=some (enB (a.acc.getD (x % (a.acc.length:Int)).toNat false)):=by
  rw [y58,y52 (by omega),z18 (by omega)];rfl
 refine z6 z9 Tryz.func137 rfl rfl 12 Tryz.ntmps137 (by simp) ?_
 repeat' ((first|(apply y4 ok;rfl)|(apply z17;kernel_rfl)|(refine z13 (i:=(x % (a.acc.length:Int)).toNat) rfl hga ?_)|(apply y50;omega))<;>conv=>whnf)
 all_goals (refine rsD [] [] rfl ?_;(repeat' first|exact y93 _|constructor))
set_option maxHeartbeats 1600000 in
theorem z345 (l:List Int) (n:Nat) (hl:l.length≤1000000) (hn:1≤n) (h0:∀ x∈l,0≤x) (h1:∀ x∈l,x≤1000000000):CallsA Tryz.prog 138 [ints l,.pt [.int n]] [] (.sref 0 0 l.length) [.cells 1 ((stL l n).map enI)]:=by
 refine z6 z9 Tryz.func138 rfl rfl 25 Tryz.ntmps138 (by simp) ?_
 repeat' ((first|(apply y4 ok;rfl)|(apply y50;(dsimp only;omega)))<;>conv=>whnf)
 obtain ⟨qm,hqm⟩:∃ qm:Nat→Nat→Int,qm=fun i j=>if j < i then l.getD j 0 / n else 0:=⟨_,rfl⟩
 have q0:qm 0=fun _=>0:=by rw [hqm];rfl
 have qE:fnL l.length (qm l.length)=stL l n:=by
  apply y81 (by simp [fnL,stL])
  intro i h1 h2
  have hi' : i < l.length:=by rw [z138] at h1;exact h1
  rw [z893,hqm]
  dsimp only
  rw [if_pos hi',z18 hi'];simp [stL]
 have qS:∀ i (h:i < l.length),qm (i+1)=upd (qm i) i (l[i] / n):=fun i h=>by
  funext j
  by_cases h2:j=i
  ·subst h2;rw [z31,hqm];dsimp only;rw [if_pos (by omega),z18 h]
  ·rw [z47 _ _ h2,hqm];dsimp only;split<;>split<;>first|rfl|omega
 clear hqm
 refine z77 (fun i:Nat=>([(1,.pt [.int n]),(4,.sref 0 0 l.length),(10,ints l),(11,.int l.length),(12,.int i)],[.cells 1 ((fnL l.length (qm i)).map enI)])) (fun i=>i≤l.length) (fun i=>l.length - i) 0 (y60 _) (by refine swR [0] [] rfl rfl ?_;(repeat' first|exact y93 _|refine z10 rfl (z19 rfl) ?_|constructor)<;>((refine z55 ?_;rw [q0];exact z398 _))) ?_
 intro i hi
 by_cases hi2:i < l.length
 ·have g1:=z186 (qm i) hi2
  have l1:=z138 l.length (qm i)
  have e1:=z174 (N:=l.length) (u:=i) (qm i) (l[i] / n)
  rw [← qS i hi2] at e1
  have gk:(l.map enI)[i]?=some (enI l[i]):=by rw [y58,y52 hi2];rfl
  have b0:=h0 _ (y51 hi2)
  have b1:=h1 _ (y51 hi2)
  generalize l[i]=v at *
  have d0:0≤v / (n:Int):=Int.ediv_nonneg b0 (by omega)
  have d1:v / (n:Int)≤v:=Int.ediv_le_self _ b0
  repeat' ((first|(apply y4 ok;rfl)|(refine z13 (i:=i) rfl gk ?_)|(refine z13 (i:=i) rfl g1 ?_)|(apply y50;first|omega|(unfold inI;omega))|((apply z5)<;>intro _))<;>conv=>whnf)
  all_goals try (exfalso;omega)
  all_goals refine z34 (i+1) hi2 (by omega) (by refine swR [0] [] rfl rfl ?_;(repeat' first|exact y93 _|refine z82 rfl (z4 (fun _=>rfl)) ?_|constructor)<;>((refine z55 ?_;exact e1)))
 obtain rfl:i=l.length:=by omega
 rw [qE]
 repeat' ((first|(apply y4 ok;rfl)|(apply y50;omega)|((first|(with_reducible apply z8;omega)|(apply z8;omega));intro _)|((apply z5)<;>intro _))<;>conv=>whnf)
 all_goals try (exfalso;omega)
 all_goals (refine rsD [0] [] rfl ?_;(repeat' first|exact y93 _|exact z11 _|refine z10 rfl (z4 (fun _=>rfl)) ?_|constructor))
noncomputable def ftO (g:Graph) (l:List Tree) (a:Aut):Option (List Int×List Int):=if (glB g l && autB a)=true then trcO g (g.st.map (z49 l)) a else none
noncomputable def ftL (g:Graph) (l:List Tree) (a:Aut):Trace:=let t:=(ftO g l a).getD ([],[]);⟨t.1,t.2⟩
set_option maxHeartbeats 6400000 in
theorem z434 (g:Graph) (hg:g.mx) (l:List Tree) (hl:Lmx l) (a:Aut) (ha:a.mx):CallsA Tryz.prog 53 [.agg g.cs,lst 3 Tree.cs' l,.agg a.cs] [] (.tup [.agg [.sref 0 0 (ftL g l a).stem.length,.sref 1 0 (ftL g l a).loop.length],.bool (ftO g l a).isSome]) [.cells 1 ((ftL g l a).stem.map enI),.cells 1 ((ftL g l a).loop.map enI)]:=by
 have k0:=z1053 g hg l hl a ha
 by_cases hgl:(glB g l && autB a)=true
 ·rw [hgl] at k0
  obtain ⟨h1,hab⟩:=Bool.and_eq_true_iff.1 hgl
  have hG:=(z116 g).1 (by unfold glB at h1;exact (Bool.and_eq_true_iff.1 h1).1)
  have hL:=y8 (by unfold glB at h1;exact (Bool.and_eq_true_iff.1 h1).2)
  have hA:=z162.1 hab
  have k1:=z1004 g hG l hL a hA
  obtain ⟨f1,f2,f3,f4,f5⟩:=z235 hG hA (g.st.map (z49 l))
  have hnd:=hA.2.2.1.nd
  have hac:=hA.1
  have k2:=z1159 (z44 g (g.st.map (z49 l)) a) a.ini f1 f2 hnd (by omega) f4 (fun v=>a.acc.getD (v % a.acc.length).toNat false) 137 a.cs [.int a.acc.length] (fun x h0 _=>z708 a hA x h0)
  unfold ftL ftO
  rw [if_pos hgl]
  unfold lasR at k2
  unfold trcO
  rw [z322 f1 f2 hnd] at k2
  have hlen:(z44 g (g.st.map (z49 l)) a).length=g.st.length * a.acc.length:=by unfold z44;rw [z86,Nat.mul_comm]
  have hF:∀ p q,finS (z44 g (g.st.map (z49 l)) a) a.ini a.acc=some (p,q)→(∀ x∈p,0≤x∧x≤100000)∧(∀ x∈q,0≤x∧x≤100000)∧p.length≤100000∧q.length≤100000:=by
   intro p q h
   rw [← z322 f1 f2 hnd] at h
   obtain ⟨b1,b2,b3,b4,_⟩:=z881 f1 f2 hnd h
   exact ⟨fun x hx=>by have:=b1 x hx;omega,fun x hx=>by have:=b2 x hx;omega,by omega,by omega⟩
  generalize z44 g (g.st.map (z49 l)) a=rows at *
  cases hfin:finS rows a.ini a.acc with
  |none =>
   rw [hfin] at k2
   change CallsA _ _ _ _ (.tup [.sref 0 0 0,.sref 1 0 0,.bool false]) [.cells 1 [],.cells 1 []] at k2
   show CallsA _ _ _ _ (.tup [.agg [.sref 0 0 0,.sref 1 0 0],.bool false]) [.cells 1 [],.cells 1 []]
   refine z6 z9 Tryz.func53 rfl rfl 50 Tryz.ntmps53 (by simp) ?_
   repeat' ((first|(apply y4 ok;rfl)|(apply z0 (k0);rfl;rfl)|(apply z0 (k1);rfl;rfl)|(apply z83 [] [1,3] [4,5] k2;(focus ((repeat' first|exact z48|apply z23)<;>rfl));rfl;rfl;(focus ((repeat' first|exact z12|apply z15)<;>(refine z22 ?_;(exact z33))));((refine .inr ⟨rfl,?_⟩;repeat' first|exact True.intro|apply y50|exact rfl))))<;>conv=>whnf)
   all_goals (refine y96 1 ?_;refine y96 1 ?_;refine rsD [6,7] [] rfl ?_;(repeat' first|exact y93 _|exact z57|refine z10 rfl (z33) ?_|apply z64|apply z72|constructor))
  |some pq =>
   obtain ⟨p,q⟩:=pq
   rw [hfin] at k2
   obtain ⟨b1,b2,b3,b4⟩:=hF p q hfin
   change CallsA _ _ _ _ (.tup [.sref 0 0 (p.take (p.length - 1)).length,.sref 1 0 q.length,.bool true]) [.cells 1 ((p.take (p.length - 1)).map enI),.cells 1 (q.map enI)] at k2
   have s1:=z345 (p.take (p.length - 1)) a.acc.length (by rw [y55];omega) (by omega) (fun x hx=>(b1 x (List.mem_of_mem_take hx)).1) (fun x hx=>by have:=(b1 x (List.mem_of_mem_take hx)).2;omega)
   have s2:=z345 q a.acc.length (by omega) (by omega) (fun x hx=>(b2 x hx).1) (fun x hx=>by have:=(b2 x hx).2;omega)
   have e1:(stL (p.take (p.length - 1)) a.acc.length).length=(p.take (p.length - 1)).length:=by simp [stL]
   have e2:(stL q a.acc.length).length=q.length:=by simp [stL]
   show CallsA _ _ _ _ (.tup [.agg [.sref 0 0 (stL (p.take (p.length - 1)) a.acc.length).length,.sref 1 0 (stL q a.acc.length).length],.bool true]) [.cells 1 ((stL (p.take (p.length - 1)) a.acc.length).map enI),.cells 1 ((stL q a.acc.length).map enI)]
   rw [e1,e2]
   generalize stL (p.take (p.length - 1)) a.acc.length=S1 at *
   generalize stL q a.acc.length=S2 at *
   generalize p.take (p.length - 1)=p' at *
   refine z6 z9 Tryz.func53 rfl rfl 50 Tryz.ntmps53 (by simp) ?_
   repeat' ((first|(apply y4 ok;rfl)|(apply z0 (k0);rfl;rfl)|(apply z0 (k1);rfl;rfl)|((first|(apply z83 [] [1,3] [4,5] k2;(focus ((repeat' first|exact z48|apply z23)<;>rfl));rfl)|(apply z83 [] [3,4] [6] s1;(focus ((repeat' first|exact z48|apply z23)<;>first|exact z91 rfl rfl rfl|rfl));rfl)|(apply z83 [] [3,5] [7] s2;(focus ((repeat' first|exact z48|apply z23)<;>first|exact z91 rfl rfl rfl|rfl));rfl));rfl;(focus ((repeat' first|exact z12|apply z15)<;>(refine z22 ?_;((exact z4 fun _=>rfl)))));((refine .inr ⟨rfl,?_⟩;repeat' first|exact True.intro|apply y50|exact z127 (fun _=>rfl) _))))<;>conv=>whnf)
   all_goals (refine rsD [6,7] [] rfl ?_;(repeat' first|exact y93 _|exact z11 _|refine z10 rfl (z4 (fun _=>rfl)) ?_|constructor))
 ·have hgl:=(y78 _).mp hgl
  rw [hgl] at k0
  have e1:ftO g l a=none:=by unfold ftO;rw [hgl];rfl
  unfold ftL
  rw [e1]
  show CallsA _ _ _ _ (.tup [.agg [.sref 0 0 0,.sref 1 0 0],.bool false]) [.cells 1 [],.cells 1 []]
  refine z6 z9 Tryz.func53 rfl rfl 50 Tryz.ntmps53 (by simp) ?_
  repeat' ((first|(apply y4 ok;rfl)|(apply z0 (k0);rfl;rfl))<;>conv=>whnf)
  all_goals (refine y96 1 ?_;refine y96 1 ?_;refine rsD [3,4] [] rfl ?_;(repeat' first|exact y93 _|exact z57|refine z10 rfl (z33) ?_|apply z64|apply z72|constructor))
theorem ftL_le {g:Graph} {l:List Tree} {a:Aut} : (ftL g l a).stem.length≤3841∧(ftL g l a).loop.length≤3841:=by
 unfold ftL ftO
 by_cases h:(glB g l && autB a)=true
 ·rw [if_pos h]
  obtain ⟨h1,hab⟩:=Bool.and_eq_true_iff.1 h
  have hG:=(z116 g).1 (by unfold glB at h1;exact (Bool.and_eq_true_iff.1 h1).1)
  have hA:=z162.1 hab
  obtain ⟨f1,f2,f3,f4,f5⟩:=z235 hG hA (g.st.map (z49 l))
  have hnd:=hA.2.2.1.nd
  unfold trcO
  cases hf:finS (z44 g (g.st.map (z49 l)) a) a.ini a.acc with
  |none=>simp
  |some pq =>
   obtain ⟨p,q⟩:=pq
   rw [← z322 f1 f2 hnd] at hf
   obtain ⟨b1,b2,b3,b4,_⟩:=z881 f1 f2 hnd hf
   simp only [Option.map_some,Option.getD_some,stL,y56,y55]
   omega
 ·rw [if_neg h];simp
theorem z1178 {B:List Tree} {U:List Int} {n0:Nat} : ∀ (f i:Nat) (x y:TrS),f+i=65→ExI B U n0 i x→goS B U f i x=some y→∃ j,ExI B U n0 j y∧j≤64∧y.L.length≤j
 |0,i,x,y,_,_,h=>by simp [goS] at h
 |f+1,i,x,y,he,hI,h=>by
  rw [goS] at h
  split at h
  ·rename_i hi
   split at h
   ·cases h
   ·exact z1178 f (i+1) _ y (by omega) (hI.step hi).1 h
  ·cases h
   exact ⟨i,hI,by omega,by omega⟩
theorem z1095 (t:Tree) (hs:t.sz≤200) (h:tsB t=true):autB (trA t)=true:=by
 unfold tsB at h
 unfold trA
 unfold trO at *
 by_cases hb:bscB t=true
 ·rw [if_pos hb] at *
  obtain ⟨⟨ht,hn⟩,h5⟩:=of_decide_eq_true (show decide _=true from hb)
  obtain ⟨hB,_,_⟩:=z573 ht hn h5 hs
  generalize t.nrm false=g at *
  generalize bscL g=B at *
  cases hS:trS B g with
  |none=>rw [hS] at h;cases h
  |some y =>
   have hI0:ExI B (untB B) (iniS B g).length 0 ⟨iniS B g,[],[]⟩:=⟨z792 B g,y59 _,rfl,y60 _,y60 _,by show (iniS B g).length≤(iniS B g).length+0 * _;omega,fun e he=>by cases he⟩
   obtain ⟨j,hI,hj,hl⟩:=z1178 65 0 _ y rfl hI0 hS
   show autB (z334 (iniS B g).length y)=true
   unfold z334
   by_cases h0:y.L.length=0
   ·rw [if_pos h0]
    have h1:=hI.base
    have e1:(iniS B g).length=0:=by omega
    have h2:=hI.edl
    have h3:=hI.le
    have hj0:j=0:=by omega
    rw [hj0,Nat.zero_mul] at h2
    have e2:y.ed=[]:=y80 (by omega)
    rw [e1,e2,z162]
    exact ⟨⟨by decide,by decide⟩,by decide,fun i hi _=>by simp [numI] at hi,fun e he=>by cases he⟩
   ·rw [if_neg h0]
    by_cases h1:1≤(iniS B g).length
    ·exact ExI.valid hB hI h1 hj hl
    ·exfalso
     have e1:iniS B g=[]:=y80 (by omega)
     have:trS B g=some ⟨[],[],[]⟩:=by unfold trS;rw [e1];rfl
     rw [this] at hS
     cases hS
     exact h0 rfl
 ·rw [if_neg hb] at h;cases h
theorem z534 {t:Tree} (h:ngS t=true):autB (ngA t)=true:=by
 unfold ngS at h
 rw [y77] at h
 unfold ngA
 rw [if_pos h.1]
 exact z1095 _ (by have:=z430 h.1;omega) h.2
noncomputable def vdI (g:Graph) (l:List Tree) (f:Tree):Int:=if (glB g l && f.fmB)=true then (if ngS f=true then (if (ftO g l (ngA f)).isSome=true then 1 else 0) else 2) else 3
noncomputable def vdT (g:Graph) (l:List Tree) (f:Tree):Trace:=if (glB g l && f.fmB)=true then (if ngS f=true then ftL g l (ngA f) else ⟨[],[]⟩) else ⟨[],[]⟩
theorem z1075 {g:Graph} {l:List Tree} {f:Tree} : (vdT g l f).stem.length≤3841∧(vdT g l f).loop.length≤3841:=by
 unfold vdT
 split
 ·split
  ·exact ftL_le
  ·simp
 ·simp
theorem z705 {g:Graph} {l:List Tree} {a:Aut} (h:(ftO g l a).isSome=false):ftL g l a=⟨[],[]⟩:=by
 unfold ftL
 cases hf:ftO g l a with
 |none=>rfl
 |some x=>rw [hf] at h;cases h
set_option maxHeartbeats 3200000 in
theorem z598 (g:Graph) (hg:g.mx) (l:List Tree) (hl:Lmx l) (f:Tree) (hf:f.mx):CallsA Tryz.prog 11 [.agg g.cs,lst 3 Tree.cs' l,z20 Tree.cs' f] [] (.tup [.int (vdI g l f),.agg [.sref 0 0 (vdT g l f).stem.length,.sref 1 0 (vdT g l f).loop.length]]) [.cells 1 ((vdT g l f).stem.map enI),.cells 1 ((vdT g l f).loop.map enI)]:=by
 have c1:=z394 g hg
 have c2:=z222 l hl.1 hl.2
 have c3:=z115 f hf
 have cN:=z595 f hf
 have cF:=z434 g hg l hl (ngA f) (ngA_mx f)
 have hno:=@z705 g l (ngA f)
 unfold vdI vdT
 unfold glB
 generalize ftL g l (ngA f)=tl at *
 generalize (ftO g l (ngA f)).isSome=tb at *
 generalize ngA f=a at *
 generalize ngS f=z at *
 rw [y17 f] at *
 generalize z299 g=b1 at *
 generalize z118 l=b2 at *
 generalize f.fmB=b3 at *
 cases b1
 ·refine z6 z9 Tryz.func11 rfl rfl 44 Tryz.ntmps11 (by simp) ?_
  repeat' ((first|(apply y4 ok;rfl)|(apply z0 (c1);rfl;rfl))<;>conv=>whnf)
  all_goals (refine y96 1 ?_;refine y96 1 ?_;refine rsD [3,4] [] rfl ?_;(repeat' first|exact y93 _|exact z57|refine z10 rfl (z33) ?_|apply z64|apply z72|constructor))
 cases b2
 ·refine z6 z9 Tryz.func11 rfl rfl 44 Tryz.ntmps11 (by simp) ?_
  repeat' ((first|(apply y4 ok;rfl)|(apply z0 (c1);rfl;rfl)|(apply z0 (c2);rfl;rfl))<;>conv=>whnf)
  all_goals (refine y96 1 ?_;refine y96 1 ?_;refine rsD [3,4] [] rfl ?_;(repeat' first|exact y93 _|exact z57|refine z10 rfl (z33) ?_|apply z64|apply z72|constructor))
 cases b3
 ·refine z6 z9 Tryz.func11 rfl rfl 44 Tryz.ntmps11 (by simp) ?_
  repeat' ((first|(apply y4 ok;rfl)|(apply z0 (c1);rfl;rfl)|(apply z0 (c2);rfl;rfl)|(apply z0 (c3);rfl;rfl))<;>conv=>whnf)
  all_goals (refine y96 1 ?_;refine y96 1 ?_;refine rsD [3,4] [] rfl ?_;(repeat' first|exact y93 _|exact z57|refine z10 rfl (z33) ?_|apply z64|apply z72|constructor))
 cases z
 ·refine z6 z9 Tryz.func11 rfl rfl 44 Tryz.ntmps11 (by simp) ?_
  repeat' ((first|(apply y4 ok;rfl)|(apply z0 (c1);rfl;rfl)|(apply z0 (c2);rfl;rfl)|(apply z0 (c3);rfl;rfl)|(apply z0 (cN);rfl;rfl))<;>conv=>whnf)
  all_goals (refine y96 1 ?_;refine y96 1 ?_;refine rsD [4,5] [] rfl ?_;(repeat' first|exact y93 _|exact z57|refine z10 rfl (z33) ?_|apply z64|apply z72|constructor))
 cases tb
 ·have hno:=hno rfl
  subst hno
  refine z6 z9 Tryz.func11 rfl rfl 44 Tryz.ntmps11 (by simp) ?_
  repeat' ((first|(apply y4 ok;rfl)|(apply z0 (c1);rfl;rfl)|(apply z0 (c2);rfl;rfl)|(apply z0 (c3);rfl;rfl)|(apply z0 (cN);rfl;rfl)|(apply z54 [] [4,5] cF;rfl;rfl;rfl;(focus ((repeat' first|exact z12|apply z15)<;>(refine z22 ?_;((exact z4 fun _=>rfl)))))))<;>conv=>whnf)
  all_goals (refine rsD [4,5] [] rfl ?_;(repeat' first|exact y93 _|exact z57|refine z10 rfl (z33) ?_|apply z64|apply z72|constructor))
 ·refine z6 z9 Tryz.func11 rfl rfl 44 Tryz.ntmps11 (by simp) ?_
  repeat' ((first|(apply y4 ok;rfl)|(apply z17;kernel_rfl)|(apply z0 (c1);rfl;rfl)|(apply z0 (c2);rfl;rfl)|(apply z0 (c3);rfl;rfl)|(apply z0 (cN);rfl;rfl)|(apply z54 [] [4,5] cF;rfl;rfl;rfl;(focus ((repeat' first|exact z12|apply z15)<;>(refine z22 ?_;((exact z4 fun _=>rfl)))))))<;>conv=>whnf)
  all_goals (refine rsD [4,5] [] rfl ?_;(repeat' first|exact y93 _|exact z11 _|refine z10 rfl (z4 (fun _=>rfl)) ?_|constructor))
set_option maxHeartbeats 3200000 in
theorem z671 (g:Graph) (hg:g.mx) (l:List Tree) (hl:Lmx l) (f:Tree) (hf:f.mx):CallsA Tryz.prog 49 [.agg g.cs,lst 3 Tree.cs' l,z20 Tree.cs' f] [] (.tup [.int (vdI g l f),.agg (vdT g l f).cs]) []:=by
 have k0:=z419 g hg l hl
 have c3:=z100 f hf
 have cN:=z589 f hf
 have hval:=@z534 f
 unfold vdI vdT
 by_cases h1:glB g l=true
 ·have hG:=(z116 g).1 (by unfold glB at h1;exact (Bool.and_eq_true_iff.1 h1).1)
  have hL:=y8 (by unfold glB at h1;exact (Bool.and_eq_true_iff.1 h1).2)
  rw [if_pos h1] at k0
  have e1:autB (ngA f)=true→ftO g l (ngA f)=trcO g (g.st.map (z49 l)) (ngA f):=fun h=>by unfold ftO;rw [h1,h];rfl
  have e2:autB (ngA f)=true→ftL g l (ngA f)=⟨(trcL g (g.st.map (z49 l)) (ngA f)).1,(trcL g (g.st.map (z49 l)) (ngA f)).2⟩:=fun h=>by unfold ftL trcL;rw [e1 h]
  have k3:=fun hA=>z1162 g hG (g.st.map (z49 l)) (by simp) (fun x hx=>by
   obtain ⟨s,_,rfl⟩:=List.mem_map.1 hx
   exact z294 hL s) (ngA f) hA
  have hno:=@z705 g l (ngA f)
  rw [h1,Bool.true_and]
  rw [h1] at k0
  by_cases h3:f.fmB=true
  ·rw [if_pos h3,if_pos h3]
   rw [h3] at c3
   by_cases hz:ngS f=true
   ·have hv:=hval hz
    have k3:=k3 (z162.1 hv)
    rw [e2 hv] at hno
    rw [if_pos hz,if_pos hz,e1 hv,e2 hv]
    rw [e1 hv] at hno
    rw [hz] at cN
    clear e1 e2 hval
    generalize g.st.map (z49 l)=ls at *
    generalize (trcO g ls (ngA f)).isSome=tb at *
    generalize trcL g ls (ngA f)=tl at *
    generalize ngA f=a at *
    rw [y17 f] at *
    cases tb
    ·have hno:=hno rfl
     have hn1:tl.1=[]:=congrArg Trace.stem hno
     have hn2:tl.2=[]:=congrArg Trace.loop hno
     rw [hn1,hn2]
     show CallsA _ _ _ _ (.tup [.int 0,.agg [.list 1 0 [],.list 1 0 []]]) _
     refine z6 z9 Tryz.func49 rfl rfl 47 Tryz.ntmps49 (by simp) ?_
     repeat' ((first|(apply y4 ok;rfl)|(apply z0 (k0);rfl;rfl)|(apply z0 (c3);rfl;rfl)|(apply z0 (cN);rfl;rfl)|(apply z0 (k3);rfl;rfl))<;>conv=>whnf)
     all_goals (refine rsD [] [] rfl ?_;(repeat' first|exact y93 _|exact z61|apply z64|apply z72|constructor))
    ·refine z6 z9 Tryz.func49 rfl rfl 47 Tryz.ntmps49 (by simp) ?_
     repeat' ((first|(apply y4 ok;rfl)|(apply z17;kernel_rfl)|(apply z0 (k0);rfl;rfl)|(apply z0 (c3);rfl;rfl)|(apply z0 (cN);rfl;rfl)|(apply z0 (k3);rfl;rfl))<;>conv=>whnf)
     all_goals (refine rsD [] [] rfl ?_;(repeat' first|exact y93 _|constructor))
   ·rw [if_neg hz,if_neg hz]
    rw [(y78 _).mp hz] at cN
    clear e1 e2 hval k3 hno
    show CallsA _ _ _ _ (.tup [.int 2,.agg [.list 1 0 [],.list 1 0 []]]) _
    generalize g.st.map (z49 l)=ls at *
    generalize ngA f=a at *
    rw [y17 f] at *
    refine z6 z9 Tryz.func49 rfl rfl 47 Tryz.ntmps49 (by simp) ?_
    repeat' ((first|(apply y4 ok;rfl)|(apply z0 (k0);rfl;rfl)|(apply z0 (c3);rfl;rfl)|(apply z0 (cN);rfl;rfl))<;>conv=>whnf)
    all_goals (refine rsD [] [] rfl ?_;(repeat' first|exact y93 _|exact z61|apply z64|apply z72|constructor))
  ·rw [if_neg h3,if_neg h3]
   rw [(y78 _).mp h3] at c3
   clear e1 e2 hval k3 hno cN
   show CallsA _ _ _ _ (.tup [.int 3,.agg [.list 1 0 [],.list 1 0 []]]) _
   generalize g.st.map (z49 l)=ls at *
   rw [y17 f] at *
   refine z6 z9 Tryz.func49 rfl rfl 47 Tryz.ntmps49 (by simp) ?_
   repeat' ((first|(apply y4 ok;rfl)|(apply z0 (k0);rfl;rfl)|(apply z0 (c3);rfl;rfl))<;>conv=>whnf)
   all_goals (refine rsD [] [] rfl ?_;(repeat' first|exact y93 _|exact z61|apply z64|apply z72|constructor))
 ·rw [(y78 _).mp h1,Bool.false_and,if_neg (by simp),if_neg (by simp)]
  rw [if_neg h1,(y78 _).mp h1] at k0
  show CallsA _ _ _ _ (.tup [.int 3,.agg [.list 1 0 [],.list 1 0 []]]) _
  rw [y17 f] at *
  refine z6 z9 Tryz.func49 rfl rfl 47 Tryz.ntmps49 (by simp) ?_
  repeat' ((first|(apply y4 ok;rfl)|(apply z0 (k0);rfl;rfl))<;>conv=>whnf)
  all_goals (refine rsD [] [] rfl ?_;(repeat' first|exact y93 _|exact z61|apply z64|apply z72|constructor))
def stsL (g:Graph) (p:List Int):List State:=p.map fun i=>g.st.getD i.toNat ⟨[],[]⟩
theorem z472 (g:Graph) (p:List Int):(stsL g p).length=p.length:=by simp [stsL]
end Go.Proofs.YtnfoijopccdjeaaGreat
namespace Go.Proofs.YtnfoijopccdjeaaGreat
open Go.Gl
attribute [local irreducible] z16 AWP z29 z32 z30
def pick (bl:List Int) (p:Int):Int:=bl.getD p.toNat 0
def letW (l:List Int):Bool:=!(l.any fun n=>!btw n 0 7)
def lasB (t:Trace):Bool:=letW t.stem && (letW t.loop && (decide (t.stem.length≤80) && btw t.loop.length 1 80))
def z834 (L:List Int) (t:Trace):Trace:=⟨t.stem.map (pick L),t.loop.map (pick L)⟩
noncomputable def twB (g:Graph) (l:List Tree) (t:Trace):Bool:=glB g l && (trB g t && lasB (z834 (g.st.map (z49 l)) t))
noncomputable def twT (g:Graph) (l:List Tree) (t:Trace):Trace:=if twB g l t then z834 (g.st.map (z49 l)) t else ⟨[],[]⟩
end Go.Proofs.YtnfoijopccdjeaaGreat
namespace Go.Proofs.YtnfoijopccdjeaaGreat
open Go.Gl
attribute [local irreducible] z16 AWP z29 z32 z30 RetS z36
def nxW (N s:Nat) (i:Nat):Int:=if i+1=N then (s:Int) else ((i+1:Nat):Int)
def pushW (a:Aut) (word:List Int) (s i:Nat):List (Nat×Int):=a.ed.flatMap (z288 a.acc.length i (word.getD i 0) (nxW word.length s i))
def accW (a:Aut) (word:List Int) (s:Nat):List (List Int):=build (word.length * a.acc.length) ((List.range word.length).flatMap (pushW a word s))
theorem nxW_in {N s i:Nat} (hs:s < N) (hi:i < N):0≤nxW N s i∧nxW N s i≤N - 1:=by unfold nxW;split<;>omega
def BackR {α:Type} (M:Nat) (Gc:Ghost) (wc:World) (rest:α→List AObj) (L:List Int) (env:List (Nat×AC)) (x:α) (a:Act) (w:World):Prop :=
 ∃ G,SubM M Gc G∧Le wc w∧Rel G (mkSt 19 env (.cells 1 [[ints L]]::rest x)) a w
def IsSt {α:Type} (rest:α→List AObj) (L:List Int) (x:α) (env' : List (Nat×AC)) (st:St):Prop:=st=mkSt 19 env' (.cells 1 [[ints L]]::rest x)
theorem BackR.step {α : Type} {M : Nat} {Gc : Ghost} {wc : World} {rest : α → List AObj} {L : List Int} {env env' : List (Nat × AC)} {x : α} {a : Act} {w : World} {c : Code}
    (h:BackR M Gc wc rest L env x a w) (hc:AWP Tryz.prog M c (z658 (IsSt rest L x env') (fun _ _=>False)) (mkSt 19 env (.cells 1 [[ints L]]::rest x))) {K:Act→World→Prop} {Q:Exit→Act→World→Prop}
    (hk:∀ a w,BackR M Gc wc rest L env' x a w→K a w):c.wpIn Fence.wide 0 Tryz.prog (Exit.then K Q) a w:=by
  obtain ⟨G,h1,h2,h3⟩:=h
  refine wpIn_mono (hc.at_ h3) ?_
  rintro ex a' w' ⟨G',st',k1,k2,k3,k4⟩
  cases ex with
  | normal =>
    have k3:st'=_:=k3
    subst k3
    exact hk _ _ ⟨G',h1.trans k1,h2.trans k2,k4⟩
  | _=>exact k3.elim
theorem BackR.less {α:Type} {M:Nat} {Gc:Ghost} {wc:World} {rest:α→List AObj} {L:List Int} {env env' : List (Nat×AC)} {x:α} {a:Act} {w:World} (h:BackR M Gc wc rest L env x a w) (he:z805 (fun s y=>z89 env s=y) env'):BackR M Gc wc rest L env' x a w:=by
 obtain ⟨G,h1,h2,h3⟩:=h
 refine ⟨G,h1,h2,h3.wf,fun s=>?_,h3.size,h3.defers⟩
 rcases z356 env' _ he s with e|e
 ·show V _ _ _ (z89 env' s) _
  rw [e];simp [V]
 ·have:=h3.env s
  show V _ _ _ (z89 env' s) _
  rw [← e];exact this
theorem BackR.val {α:Type} {M:Nat} {Gc:Ghost} {wc:World} {rest:α→List AObj} {L:List Int} {env:List (Nat×AC)} {x:α} {a:Act} {w:World} (h:BackR M Gc wc rest L env x a w) {s:Nat} {v:Value} (he:z89 env s=.raw v):a.tmps.getD s undef=v:=by
 obtain ⟨G,_,_,hR⟩:=h
 have:=hR.env s
 rw [show (mkSt 19 env (.cells 1 [[ints L]]::rest x)).env s=z89 env s from rfl,he] at this
 simpa only [V] using this
def NoAcc (rows:List (List Int)) (ini:List Int) (acc:List Bool):Prop:=∀ x,RP rows ini x→Cyc rows x→acc.getD (x % acc.length).toNat false=false
section
variable {rows:List (List Int)} {ini:List Int} {acc:List Bool} {R:List Int}
end
end Go.Proofs.YtnfoijopccdjeaaGreat
namespace Go.Proofs.YtnfoijopccdjeaaGreat
open Go.Gl
attribute [local irreducible] z16 AWP z29 z32 z30 RetS z36
attribute [local irreducible] EndR
theorem z1093 {g:Graph} {ls:List Int} {a:Aut} (hr:∀ r∈z44 g ls a,InN (z44 g ls a).length r) (hi:InN (z44 g ls a).length a.ini) (hn:a.ini.Nodup) (h:trcO g ls a=none):NoAcc (z44 g ls a) a.ini a.acc:=by
 unfold trcO at h
 rw [Option.map_eq_none_iff,← z322 hr hi hn,z776] at h
 intro x hx hc
 have hxN:=RP.in hr hi hx
 have:=h x ((z917 hr hi x).2 hx)
 cases hb:a.acc.getD (x % a.acc.length).toNat false with
 |false=>rfl
 |true =>
  exfalso
  apply this
  refine ⟨hb,z327.2 ?_⟩
  rw [Int.toNat_of_nonneg hxN.1];exact hc
end Go.Proofs.YtnfoijopccdjeaaGreat
namespace Go.Proofs.YtnfoijopccdjeaaGreat
open Go.Gl
attribute [local irreducible] z16 AWP z29 z32 z30
end Go.Proofs.YtnfoijopccdjeaaGreat
namespace Go.Proofs.YtnfoijopccdjeaaGreat
open Go.Gl
attribute [local irreducible] z16 AWP z29 z32 z30 RetS z36
theorem z1143 {g:Graph} {ls:List Int} {a:Aut} (hr:∀ r∈z44 g ls a,InN (z44 g ls a).length r) (hi:InN (z44 g ls a).length a.ini) (hn:a.ini.Nodup) (h:NoAcc (z44 g ls a) a.ini a.acc):trcO g ls a=none:=by
 unfold trcO
 rw [Option.map_eq_none_iff,← z322 hr hi hn,z776]
 rintro v hv ⟨h1,h2⟩
 have hvN:=z642 hr hi _ v hv
 have hc:=z327.1 h2
 rw [Int.toNat_of_nonneg hvN.1] at hc
 have:=h v ((z917 hr hi v).1 hv) hc
 rw [h1] at this;cases this
theorem z568 {N:Nat} {ps:List (Nat×Int)} {r:Nat} {y:Int} : y∈(build N ps).getD r []↔r < N∧(r,y)∈ps:=by
 by_cases h:r < N
 ·rw [z18 (by rw [z86];exact h),z411 (by rw [z86];exact h)]
  simp only [y66,List.mem_filter,beq_iff_eq,h,true_and]
  constructor
  ·rintro ⟨⟨p,v⟩,⟨h1,h2⟩,h3⟩
   dsimp only at h2 h3
   subst h2;subst h3;exact h1
  ·intro h1;exact ⟨(r,y),⟨h1,rfl⟩,rfl⟩
 ·have e:(build N ps).getD r []=[]:=by rw [y74,y75 (by rw [z86];omega)];rfl
  rw [e];simp [h]
theorem z1130 {g:Graph} {ls:List Int} {a:Aut} {i:Nat} {to:Int} {e:Trans} (hsrc:e.src.toNat < a.acc.length) (hi:i < g.st.length) (hto:to∈g.nx.getD i []) (he:e∈a.ed) (hon:onB e (ls.getD i 0)=true):to * a.acc.length+e.dst∈(z44 g ls a).getD (i * a.acc.length+e.src.toNat) []:=by
 unfold z44
 refine z568.2 ⟨?_,List.mem_flatMap.2 ⟨i,List.mem_range.2 hi,?_⟩⟩
 ·have h1:(i+1) * a.acc.length≤g.st.length * a.acc.length:=Nat.mul_le_mul_right _ hi
  rw [Nat.add_mul,Nat.one_mul,Nat.mul_comm g.st.length] at h1
  omega
 ·unfold z427
  refine List.mem_flatMap.2 ⟨to,hto,List.mem_flatMap.2 ⟨e,he,?_⟩⟩
  unfold z288
  rw [if_pos hon];simp
section
variable {g:Graph} {ls:List Int} {a:Aut} {t:Trace}
theorem word_all:(z834 ls t).all=t.all.map (pick ls):=by unfold Trace.all z834;simp
end
end Go.Proofs.YtnfoijopccdjeaaGreat
namespace Go.Proofs.YtnfoijopccdjeaaGreat
open Go.Gl
attribute [local irreducible] z16 AWP z29 z32 z30 RetS z36
def AccP (a:Aut) (t:Trace):Prop:=∃ x,RP (accW a t.all t.stem.length) a.ini x∧Cyc (accW a t.all t.stem.length) x∧a.acc.getD (x % a.acc.length).toNat false=true
noncomputable def accR (a:Aut) (t:Trace):Bool:=@decide (AccP a t) (Classical.propDecidable _)
theorem accR_iff {a:Aut} {t:Trace} : accR a t=true↔AccP a t:=by unfold accR;exact @decide_eq_true_iff _ (Classical.propDecidable _)
theorem z476 {g:Graph} {ls:List Int} {a:Aut} {x y:Int} (hx:0≤x) (h:y∈(z44 g ls a).getD x.toNat []) (hA:AutP a):∃ (i:Nat) (to:Int) (e:Trans),i < g.st.length∧to∈g.nx.getD i []∧e∈a.ed∧onB e (ls.getD i 0)=true∧x / a.acc.length=i∧x % a.acc.length=e.src∧y / a.acc.length=to∧y % a.acc.length=e.dst:=by
 unfold z44 at h
 obtain ⟨_,h⟩:=z568.1 h
 unfold z526 at h
 obtain ⟨i,hi,h⟩:=List.mem_flatMap.1 h
 unfold z427 at h
 obtain ⟨to,hto,h⟩:=List.mem_flatMap.1 h
 unfold z527 at h
 obtain ⟨e,he,h⟩:=List.mem_flatMap.1 h
 unfold z288 at h
 split at h
 ·rename_i hon
  simp only [y61,Prod.mk.injEq] at h
  obtain ⟨h1,h2⟩:=h
  have hE:=hA.2.2.2 e he
  unfold z401 at hE
  have hac:=hA.1
  have hn:(a.acc.length:Int)≠0:=by omega
  have hm:((i * a.acc.length:Nat):Int)=(i:Int) * a.acc.length:=by simp
  have hxe:x=(i:Int) * a.acc.length+e.src:=by omega
  have d1:∀ (b q:Int),0≤q→q < a.acc.length→(b * a.acc.length+q) / (a.acc.length:Int)=b∧(b * a.acc.length+q) % (a.acc.length:Int)=q:=fun b q q0 q1 =>
   ⟨by rw [Int.add_comm,Int.add_mul_ediv_right _ _ hn,Int.ediv_eq_zero_of_lt q0 q1,Int.zero_add],by rw [Int.add_comm,Int.add_mul_emod_self_right,Int.emod_eq_of_lt q0 q1]⟩
  have k1:=d1 i e.src hE.1.1 (by omega)
  have k2:=d1 to e.dst hE.2.1.1 (by omega)
  exact ⟨i,to,e,List.mem_range.1 hi,hto,he,hon,by rw [hxe];exact k1.1,by rw [hxe];exact k1.2,by rw [h2];exact k2.1,by rw [h2];exact k2.2⟩
 ·cases h
structure FndP (g:Graph) (ls:List Int) (a:Aut) (s q:List Int):Prop where
 inn:∀ x∈s++q,0≤x
 path:PathP (z44 g ls a) (s++q)
 ini:(s++q).getD 0 0∈a.ini
 pos:0 < q.length
 back:q.getD 0 0∈(z44 g ls a).getD (q.getD (q.length - 1) 0).toNat []
 acc:a.acc.getD (q.getD 0 0 % a.acc.length).toNat false=true
section
variable {g:Graph} {ls:List Int} {a:Aut} {s q:List Int}
theorem FndP.step (h:FndP g ls a s q) {k:Nat} (hk:k < (s++q).length):(s++q).getD (nxW (s++q).length s.length k).toNat 0∈(z44 g ls a).getD ((s++q).getD k 0).toNat []:=by
 have hl:(s++q).length=s.length+q.length:=by simp
 have hsq:∀ j,(s++q).getD (s.length+j) 0=q.getD j 0:=fun j=>by
  rw [y74,y74,y73 (by omega),show s.length+j - s.length=j by omega]
 have hp:=h.pos
 unfold nxW
 split
 ·rename_i e
  rw [y83,show s.length=s.length+0 by omega,hsq,show k=s.length+(q.length - 1) by omega,hsq]
  exact h.back
 ·rw [y83];exact h.path k (by omega)
theorem z613 {l:List Int} {n k:Nat} (hk:k < l.length):(stL l n).getD k 0=l.getD k 0 / n:=by
 unfold stL;rw [z18 (by simpa using hk),List.getElem_map,z18 hk]
theorem FndP.word (hA:AutP a) (h:FndP g ls a s q) {w:List Int} (hw:w.length=(s++q).length) (hwl:∀ k,k < w.length→w.getD k 0=ls.getD ((s++q).getD k 0 / a.acc.length).toNat 0):∃ x,RP (accW a w s.length) a.ini x∧Cyc (accW a w s.length) x∧a.acc.getD (x % a.acc.length).toNat false=true:=by
 have hac:=hA.1
 have hn:(a.acc.length:Int)≠0:=by omega
 have hl:(s++q).length=s.length+q.length:=by simp
 have hp:=h.pos
 have hsq0:(s++q).getD s.length 0=q.getD 0 0:=by
  rw [y74,y74,y73 (y59 _),Nat.sub_self]
 obtain ⟨P,hP⟩:∃ P:Nat→Int,P=fun (k:Nat)=>(k:Int) * a.acc.length+(s++q).getD k 0 % a.acc.length:=⟨_,rfl⟩
 have hP0:∀ k,0≤P k:=fun k=>by
  rw [hP]
  have:=Int.mul_nonneg (show (0:Int)≤k by omega) (show (0:Int)≤a.acc.length by omega)
  have:=Int.emod_nonneg ((s++q).getD k 0) hn
  dsimp only;omega
 have hPm:∀ k,P k % (a.acc.length:Int)=(s++q).getD k 0 % a.acc.length:=fun k=>by
  rw [hP];dsimp only
  rw [Int.add_comm,Int.add_mul_emod_self_right,Int.emod_emod_of_dvd _ (Int.dvd_refl _)]
 have edge:∀ k,k < w.length→P (nxW w.length s.length k).toNat∈(accW a w s.length).getD (P k).toNat []:=fun k hk=>by
  have hst:=h.step (k:=k) (by omega)
  rw [← hw] at hst
  have hx0:=h.inn ((s++q).getD k 0) (by rw [z18 (by omega)];exact y51 _)
  obtain ⟨i,to,e,h1,h2,h3,h4,h5,h6,h7,h8⟩:=z476 hx0 hst hA
  have hE:=hA.2.2.2 e h3
  unfold z401 at hE
  have hnx:=nxW_in (N:=w.length) (s:=s.length) (i:=k) (by omega) hk
  have hon:onB e (w.getD k 0)=true:=by rw [hwl k hk,h5,y83];exact h4
  have hm:((k * a.acc.length:Nat):Int)=(k:Int) * a.acc.length:=by simp
  have e1:(P k).toNat=k * a.acc.length+e.src.toNat:=by
   rw [hP];dsimp only;rw [h6];omega
  have e2:P (nxW w.length s.length k).toNat=nxW w.length s.length k * a.acc.length+e.dst:=by
   rw [hP];dsimp only;rw [h8,Int.toNat_of_nonneg hnx.1]
  rw [e1,e2]
  unfold accW
  refine z568.2 ⟨?_,List.mem_flatMap.2 ⟨k,List.mem_range.2 hk,?_⟩⟩
  ·have h9:(k+1) * a.acc.length≤w.length * a.acc.length:=Nat.mul_le_mul_right _ hk
   rw [Nat.add_mul,Nat.one_mul] at h9
   omega
  ·unfold pushW
   refine List.mem_flatMap.2 ⟨e,h3,?_⟩
   unfold z288
   rw [if_pos hon];simp
 have rp:∀ k,k < w.length→RP (accW a w s.length) a.ini (P k):=by
  intro k
  induction k with
  |zero =>
   intro _
   refine .base ?_
   have hi:=h.ini
   obtain ⟨j,hj,e⟩:=List.mem_iff_getElem.1 hi
   have h5:=(hA.2.2.1 j hj hj).1
   rw [e] at h5
   have:P 0=(s++q).getD 0 0:=by rw [hP];dsimp only;rw [Int.emod_eq_of_lt h5.1 (by omega)];simp
   rw [this];exact hi
  |succ k ih =>
   intro hk
   have:=edge k (by omega)
   unfold nxW at this
   rw [if_neg (by omega),y83] at this
   exact .step (ih (by omega)) this
 have round:∀ d k,k+d+1=w.length→s.length≤k→RP (accW a w s.length) [P k] (P s.length):=by
  intro d
  induction d with
  |zero =>
   intro k hk _
   have:=edge k (by omega)
   unfold nxW at this
   rw [if_pos (by omega),y83] at this
   exact .step (.base (by simp)) this
  |succ d ih =>
   intro k hk hs
   have:=edge k (by omega)
   unfold nxW at this
   rw [if_neg (by omega),y83] at this
   exact RP.trans (.base (by simp)) this (ih (k+1) (by omega) (by omega))
 refine ⟨P s.length,rp _ (by omega),⟨_,edge s.length (by omega),?_⟩,by rw [hPm,hsq0];exact h.acc⟩
 unfold nxW
 split
 ·rw [y83];exact .base (by simp)
 ·rw [y83];exact round (w.length - (s.length+1) - 1) (s.length+1) (by omega) (by omega)
end
end Go.Proofs.YtnfoijopccdjeaaGreat
namespace Go.Proofs.YtnfoijopccdjeaaGreat
open Go.Gl
attribute [local irreducible] z16 AWP z29 z32 z30
def GPath (g:Graph) (π:Nat→Int):Prop:=π 0=0∧∀ k,π (k+1)∈g.nx.getD (π k).toNat []
def gW (g:Graph) (l:List Tree) (π:Nat→Int) (k:Nat):Int:=(g.st.map (z49 l)).getD (π k).toNat 0
theorem GPath.inn {g:Graph} (hG:GB g) {π:Nat→Int} (h:GPath g π):∀ k,0≤π k∧π k < g.st.length
 |0=>by have:=hG.1;rw [h.1];omega
 |k+1=>by
  have ih:=GPath.inn hG h k
  have hl:=hG.2.1
  have h1:=h.2 k
  rw [z18 (by omega)] at h1
  exact (hG.row _ (by omega)).2.2 _ h1
theorem gW_nn {g:Graph} {l:List Tree} (hL:z165 l) (π:Nat→Int) (k:Nat):0≤gW g l π k:=by
 unfold gW
 by_cases h:(π k).toNat < (g.st.map (z49 l)).length
 ·rw [z18 h,List.getElem_map]
  exact (z294 hL _).1
 ·rw [y74,y75 (by omega)];exact Int.le_refl _
theorem divmod {n b q:Int} (hn:0 < n) (q0:0≤q) (q1:q < n):(b * n+q) / n=b∧(b * n+q) % n=q :=
 ⟨by rw [Int.add_comm,Int.add_mul_ediv_right _ _ (by omega),Int.ediv_eq_zero_of_lt q0 q1,Int.zero_add],by rw [Int.add_comm,Int.add_mul_emod_self_right,Int.emod_eq_of_lt q0 q1]⟩
def ARun (a:Aut) (w:Nat→Int) (ρ:Nat→Int):Prop:=ρ 0∈a.ini∧(∀ k,∃ e∈a.ed,e.src=ρ k∧e.dst=ρ (k+1)∧onB e (w k)=true)∧∀ m,∃ k,m≤k∧a.acc.getD (ρ k).toNat false=true
theorem fto_iff {g:Graph} {l:List Tree} {a:Aut} (h1:(glB g l && autB a)=true):(ftO g l a).isSome=true↔∃ π ρ:Nat→Int,GPath g π∧ARun a (gW g l π) ρ:=by
 obtain ⟨h3,hab⟩:=Bool.and_eq_true_iff.1 h1
 have hG:=(z116 g).1 (by unfold glB at h3;exact (Bool.and_eq_true_iff.1 h3).1)
 have hA:=z162.1 hab
 obtain ⟨f1,f2,f3,f4,f5⟩:=z235 hG hA (g.st.map (z49 l))
 have hnd:=hA.2.2.1.nd
 have hac:=hA.1
 have hn:(0:Int) < a.acc.length:=by omega
 have hini:=fun x hx=>(show InN (z44 g (g.st.map (z49 l)) a).length a.ini from f2) x hx
 have e1:ftO g l a=trcO g (g.st.map (z49 l)) a:=by unfold ftO;rw [if_pos h1]
 have e2:(ftO g l a).isSome=true↔∃ x,RP (z44 g (g.st.map (z49 l)) a) a.ini x∧a.acc.getD (x % a.acc.length).toNat false=true∧Cyc (z44 g (g.st.map (z49 l)) a) x:=by
  rw [e1]
  constructor
  ·intro h
   refine y84 fun hno=>?_
   have:NoAcc (z44 g (g.st.map (z49 l)) a) a.ini a.acc:=fun x hx hc=>by
    cases hb:a.acc.getD (x % a.acc.length).toNat false with
    |false=>rfl
    |true=>exact absurd ⟨x,hx,hb,hc⟩ hno
   rw [z1143 f1 f2 hnd this] at h
   cases h
  ·rintro ⟨x,hx,hb,hc⟩
   cases ht:trcO g (g.st.map (z49 l)) a with
   |some p=>rfl
   |none =>
    have:=z1093 f1 f2 hnd ht x hx hc
    rw [hb] at this;cases this
 have e3:=inf_iff (acc:=fun x=>a.acc.getD (x % a.acc.length).toNat false=true) f1 f2
 rw [e2,← e3]
 constructor
 ·rintro ⟨σ,s0,s1,s2⟩
  have hin:=runInN f1 s1 (f2 _ s0)
  have hst:=fun k=>z476 (hin k).1 (s1 k) hA
  obtain ⟨i0,hi0,ei0⟩:=List.mem_iff_getElem.1 s0
  have hr0:=(hA.2.2.1 i0 hi0 hi0).1
  rw [ei0] at hr0
  have hd0:=divmod (b:=0) hn hr0.1 (show σ 0 < a.acc.length by omega)
  rw [Int.zero_mul,Int.zero_add] at hd0
  refine ⟨fun k=>σ k / a.acc.length,fun k=>σ k % a.acc.length,⟨hd0.1,fun k=>?_⟩,by show σ 0 % _∈_;rw [hd0.2];exact s0,fun k=>?_,s2⟩
  ·obtain ⟨i,to,e,c1,c2,c3,c4,c5,c6,c7,c8⟩:=hst k
   show σ (k+1) / _∈g.nx.getD (σ k / a.acc.length).toNat []
   rw [c7,c5,y83];exact c2
  ·obtain ⟨i,to,e,c1,c2,c3,c4,c5,c6,c7,c8⟩:=hst k
   refine ⟨e,c3,c6.symm,c8.symm,?_⟩
   unfold gW
   show onB e ((g.st.map (z49 l)).getD (σ k / a.acc.length).toNat 0)=true
   rw [c5,y83];exact c4
 ·rintro ⟨π,ρ,hp,r0,r1,r2⟩
  have hin:=hp.inn hG
  have hrr:∀ k,0≤ρ k∧ρ k < a.acc.length:=fun k=>by
   obtain ⟨e,he,c1,c2,_⟩:=r1 k
   have hE:=hA.2.2.2 e he
   unfold z401 at hE
   omega
  refine ⟨fun k=>π k * a.acc.length+ρ k,?_,fun k=>?_,fun m=>?_⟩
  ·show π 0 * _+ρ 0∈_
   rw [hp.1,Int.zero_mul,Int.zero_add];exact r0
  ·obtain ⟨e,he,c1,c2,c3⟩:=r1 k
   have hE:=hA.2.2.2 e he
   unfold z401 at hE
   have h4:=z1130 (g:=g) (ls:=g.st.map (z49 l)) (a:=a) (i:=(π k).toNat) (to:=π (k+1)) (e:=e) (by omega) (by have:=hin k;omega) (hp.2 k) he c3
   show π (k+1) * _+ρ (k+1)∈(z44 g (g.st.map (z49 l)) a).getD (π k * a.acc.length+ρ k).toNat []
   rw [c2] at h4
   have h5:(π k * a.acc.length+ρ k).toNat=(π k).toNat * a.acc.length+e.src.toNat:=by
    rw [c1]
    obtain ⟨i,hi⟩:=Int.eq_ofNat_of_zero_le (hin k).1
    obtain ⟨r,hr⟩:=Int.eq_ofNat_of_zero_le (hrr k).1
    rw [hi,hr,y83,y83]
    norm_cast
   rw [h5];exact h4
  ·obtain ⟨k,k1,k2⟩:=r2 m
   refine ⟨k,k1,?_⟩
   show a.acc.getD ((π k * a.acc.length+ρ k) % a.acc.length).toNat false=true
   rw [(divmod hn (hrr k).1 (hrr k).2).2];exact k2
end Go.Proofs.YtnfoijopccdjeaaGreat
