/- A part of the proofs over this program: T234, T235, T236, T185, T64, T65, T66, T154, T155, T156, T157, T158, T159, T160, T29, T94K, T161, T186, T187, T238, T286, T33P, T67, T68, T210, T200, T162, T163, T164, T170, T201, T29A, T29C, T202, T166, T204, T212, T98, T211, T214, T242, T243, T215, T253W. -/
import Derived.Test.YtnfoijopccdjeaaGreatG0
import Derived.Test.YtnfoijopccdjeaaGreatG1
import Derived.Test.YtnfoijopccdjeaaGreatG2
import Derived.Test.YtnfoijopccdjeaaGreatG3
import Derived.Test.YtnfoijopccdjeaaGreatP0
import Derived.Test.YtnfoijopccdjeaaGreatP1
import Derived.Test.YtnfoijopccdjeaaGreatP2
import Derived.Test.YtnfoijopccdjeaaGreatP3
import Derived.Test.YtnfoijopccdjeaaGreatP4
import Derived.Test.YtnfoijopccdjeaaGreatP5
import Derived.Test.YtnfoijopccdjeaaGreatRows
import Derived.WalkKit
import Derived.ProofKit
import Derived.Deep.DeepHandedRow
import Derived.Lib.LaidTab
set_option linter.all false
namespace Go.Proofs.YtnfoijopccdjeaaGreat
open Go.Gl
attribute [local irreducible] z18 AWP z30 z36 z32 RetS z38
noncomputable def expO (B:List Tree) (L0:List (List Int)):Option Aut:=(goS B (untB B) 65 0 ⟨L0,[],[]⟩).map (z362 L0.length)
set_option maxRecDepth 20000 in
set_option maxHeartbeats 25600000 in
theorem z868 (B : List Tree) (hB : BasL B) (L0 : List (List Int)) (hr : ∀ r ∈ L0, RowP B.length (untB B) r) (hn : L0.Nodup) (hl0 : L0.length ≤ 32) :
    CallsA Tryz.prog 191 [lst 2 enP L0,accF B,movF B] [] (.tup [.agg [.sref 0 0 ((expO B L0).getD ⟨[],[],[]⟩).ini.length,.sref 1 0 ((expO B L0).getD ⟨[],[],[]⟩).acc.length,.sref 2 0 ((expO B L0).getD ⟨[],[],[]⟩).ed.length],.bool (expO B L0).isSome])
      [.cells 1 (((expO B L0).getD ⟨[],[],[]⟩).ini.map enI),.cells 1 (((expO B L0).getD ⟨[],[],[]⟩).acc.map enB),.cells 4 (((expO B L0).getD ⟨[],[],[]⟩).ed.map Trans.cs)]:=by
  unfold expO
  have hp5:=z1108 hB.len
  by_cases h0:L0.length=0
  · obtain rfl:L0=[]:=y73 h0
    refine z7 z16 Tryz.func191 rfl (by kernel_rfl) 98 Tryz.ntmps191 (by simp) ?_
    repeat' ((first|(apply y4 ok;rfl)|(apply y43;(dsimp only;omega)))<;>conv=>whnf)
    all_goals (refine y88 1 ?_;refine y88 4 ?_;refine rsD [2,1,3] [] rfl ?_;(repeat' first|exact y85 _|exact z47|apply y86|refine z10 rfl (z31) ?_|apply z46|apply z93|constructor))
  have hRO:∀ x,goS B (untB B) 65 0 ⟨L0,[],[]⟩=some x→x.L.length≠0→(goS B (untB B) 65 0 ⟨L0,[],[]⟩).map (z362 L0.length)=some ⟨numI L0.length,x.acc,x.ed.map eT⟩:=fun x h h2=>by
    rw [h];unfold z362;simp only [Option.map_some];rw [if_neg h2]
  have hRN:goS B (untB B) 65 0 ⟨L0,[],[]⟩=none→(goS B (untB B) 65 0 ⟨L0,[],[]⟩).map (z362 L0.length)=none:=fun h=>by rw [h];rfl
  generalize (goS B (untB B) 65 0 ⟨L0,[],[]⟩).map (z362 L0.length)=O at *
  obtain ⟨R,hR0⟩:∃ R,goS B (untB B) 65 0 ⟨L0,[],[]⟩=R:=⟨_,rfl⟩
  rw [hR0] at hRO hRN
  refine z7 z16 Tryz.func191 rfl (by kernel_rfl) 98 Tryz.ntmps191 (by simp) ?_
  repeat' ((first|(apply y4 ok;rfl)|(apply y43;omega)|((apply z5)<;>intro _))<;>conv=>whnf)
  all_goals try (exfalso;omega)
  refine y84 (y87 1 rfl) ?_
  refine z58 (fun x:Nat×List Int=>([(1,accF B),(2,movF B),(6,.ptr 0 none 0),(8,.ptr 1 none 0),(10,.ptr 4 none 0),(11,fndF),(24,lst 2 enP L0),(25,.int L0.length),(26,.int x.1)],[.cells 3 [[.nils,.nils,.nils]],.cells 3 [[.sref 5 0 x.2.length,.nils,.nils]],.mp 2 (z276 0 (L0.take x.1)),.cells 1 [[.mref 2]],.cells 1 [[.own 2 ((L0.take x.1).map enP)]],.cells 1 (x.2.map enI)])) (fun x=>x.1≤L0.length∧numI x.1=x.2) (fun x=>L0.length - x.1) (0,[]) ⟨y53 _,rfl⟩ (by refine swR [0,1,2,3,4,5] [] rfl rfl ?_;(repeat' first|exact y85 _|exact z47|apply y86|refine z10 rfl (z31) ?_|constructor)<;>(first|rfl|exact z383)) ?_
  rintro ⟨i,N⟩ ⟨hi,hN⟩
  dsimp only at hi hN ⊢
  have hNl:=z648 i
  rw [hN] at hNl
  by_cases hil:i < L0.length
  · have gk:(L0.map enP)[i]?=some (enP L0[i]):=by rw [y51,y45 hil];rfl
    obtain ⟨s,ph,er,hs,hp⟩:=hr L0[i] (y44 _)
    have hni:L0[i] ∉ L0.take i:=fun h=>by
      obtain ⟨j,hj,e⟩:=List.mem_iff_getElem.1 h
      rw [y48] at hj
      rw [List.getElem_take] at e
      exact List.pairwise_iff_getElem.1 (List.nodup_iff_pairwise_ne.1 hn) j i (by omega) hil (by omega) e
    have hts:L0.take (i+1)=L0.take i++[L0[i]]:=y50 hil
    have htl:(L0.take i).length=i:=by rw [y48];omega
    rw [er] at gk hni hts
    have cf:=z1173 (L0.take i) (by omega) s ph
    have e1:z189 (L0.take i) [(s:Int),(ph:Int)]=L0.take (i+1):=by unfold z189;rw [if_neg hni,hts]
    have e2:z286 (L0.take i) [(s:Int),(ph:Int)]=i:=by unfold z286;rw [List.idxOf_eq_length hni,htl]
    rw [e1,e2] at cf
    have ns:=z1119 i
    rw [hN] at ns
    repeat' ((first|(apply y4 ok;rfl)|(apply z26;kernel_rfl)|(refine z15 (i:=i) rfl gk ?_)|(apply y43;first|omega|(unfold inI;omega)|((try dsimp only);simp only [y49,y48,y47,y46,y57,y58];omega)|exact ⟨rfl,z20 rfl z29⟩)|((apply z5)<;>intro _)|(apply z8 [3,2,4] [] cf;rfl;rfl;rfl;(focus ((repeat' first|exact z12|apply z11)<;>first|exact ren_mp|exact z33 rfl rfl))))<;>conv=>whnf)
    all_goals try (exfalso;omega)
    all_goals refine z21 (i+1,N++[(i:Int)]) ⟨by show i+1≤_;omega,ns⟩ (by show L0.length - (i+1) < L0.length - i;omega) (by refine swR [0,1,2,3,4,8] [] rfl rfl ?_;(repeat' first|exact y85 _|(refine z60 ?_;((simp;done)))|apply y86|((refine z40 rfl ?_ ?_);(focus ((repeat' (first|exact z4 (fun _=>rfl)|apply z22));done)))|(refine z84 ?_ ?_;(focus (omega)))|constructor)<;>(rfl))
  obtain rfl:i=L0.length:=by omega
  rw [y55]
  have hNe:numI L0.length=N:=hN
  rw [hNe] at hRO
  have hI0:ExI B (untB B) L0.length 0 ⟨L0,[],[]⟩:=⟨hr,y52 _,rfl,y53 _,y53 _,by show L0.length≤L0.length+0 * _;omega,fun e he=>by cases he⟩
  have hval:=fun i x h h2 h3=>ExI.valid (B:=B) (U:=untB B) (n0:=L0.length) (i:=i) (x:=x) hB h (by omega) h2 h3
  rw [hNe] at hval
  have hN32:N.length≤32:=by omega
  repeat' ((first|(apply y4 ok;rfl)|(apply y43;omega)|(((with_reducible apply z13;omega));intro _)|((apply z5)<;>intro _))<;>conv=>whnf)
  all_goals try (exfalso;omega)
  refine y84 (y87 1 rfl) ?_
  refine y84 (y87 4 rfl) ?_
  refine z58 (fun x:Nat×List (List Int)×List Bool×List Trans=>([(1,accF B),(2,movF B),(6,.ptr 0 none 0),(8,.ptr 1 none 0),(10,.ptr 4 none 0),(11,fndF),(14,.int x.1)],objsE N x.2.1 x.2.2.1 x.2.2.2 (.own 2 (x.2.1.map enP)))) (fun x=>x.1≤64∧∃ ed:List Edg,x.2.2.2=ed.map eT∧(goS B (untB B) (65 - x.1) x.1 ⟨x.2.1,x.2.2.1,ed⟩=R∨(64 < x.2.1.length∧R=none))∧ExI B (untB B) L0.length x.1 ⟨x.2.1,x.2.2.1,ed⟩) (fun x=>65 - x.1) (0,L0,[],[]) ⟨y53 _,[],rfl,.inl hR0,hI0⟩ (by refine swR [0,1,2,3,4,5,6,7] [] rfl rfl ?_;(repeat' first|exact y85 _|exact z47|exact z9 _|apply y86|((refine z10 rfl ?_ ?_);(focus ((repeat' (first|exact z31|exact z4 (fun _=>rfl)));done)))|constructor)<;>(rfl)) ?_
  have hL00:L0.length≠0:=h0
  clear hI0 hR0 hNe hNl hN hi hil hn hr
  rintro ⟨i,L,acc,E⟩ ⟨hi,ed,hE,hR,hI⟩
  dsimp only at hi hE hR hI ⊢
  have hmul:i * 2 ^ B.length≤64 * 32:=Nat.mul_le_mul hi hp5.2
  have hLl:=hI.ln
  have hedl:=hI.edl
  have hacl:=hI.acc
  dsimp only at hLl hedl hacl
  have hEl:E.length=ed.length:=by rw [hE,y49]
  rw [show 65 - i=(64 - i)+1 by omega,goS] at hR
  dsimp only at hR
  refine y84 (Gl.Reach.expose 4 0 0 rfl rfl rfl (z168 (fun _=>rfl) _) rfl) ?_
  refine y84 (show Gl.Reach _ _ (mkSt _ [(1,accF B),(2,movF B),(6,.ptr 0 none 0),(8,.ptr 1 none 0),(10,.ptr 4 none 0),(11,fndF),(14,.int i)] (objsE N L acc E (.sref 8 0 L.length)++[.cells 2 (L.map enP)])) from (by refine swR [0,1,2,3,4,5,6,7,8] [] rfl rfl ?_;(repeat' first|exact y85 _|exact z9 _|(refine z60 ?_;((simp;done)))|apply y86|refine z10 rfl (z4 (fun _=>rfl)) ?_|constructor)<;>(rfl))) ?_
  by_cases hil:i < L.length
  · rw [if_pos hil] at hR
    by_cases h64:i=64
    · have hRn:R=none:=by
        rcases hR with h|h
        · rw [if_pos (by omega)] at h;exact h.symm
        · exact h.2
      have hO:=hRN hRn
      subst hO
      repeat' ((first|(apply y4 ok;rfl)|(apply y43;omega)|(((apply z13;omega));intro _)|((apply z5)<;>intro _))<;>conv=>whnf)
      all_goals try (exfalso;omega)
      all_goals (refine y88 1 ?_;refine y88 1 ?_;refine y88 4 ?_;refine rsD [9,10,11] [] rfl ?_;(repeat' first|exact y85 _|exact z47|refine z10 rfl (z31) ?_|apply z46|apply z93|constructor))
    · obtain ⟨s,ph,er,hs,hp⟩:=hI.rows (L.getD i []) (by rw [z19 hil];exact y44 _)
      have gk:(L.map enP)[i]?=some (enP [(s:Int),(ph:Int)]):=by rw [y51,y45 hil,← er,z19 hil];rfl
      have cA:=acc_ok B hB s ph (by omega) hp
      have cM:=z1130 B hB s ph (by omega) hp
      obtain ⟨q,eq,hq⟩:=z920 (B:=B) (s:=s) hp
      have hst:=hI.step hil
      have hRS:z216 B (untB B) i ⟨L,acc,ed⟩=⟨((mvK B s (2 ^ B.length)).foldl (z871 q i (letB B s).1 (letB B s).2) (L,ed)).1,acc++[(phB B (untB B) s ph).2],((mvK B s (2 ^ B.length)).foldl (z871 q i (letB B s).1 (letB B s).2) (L,ed)).2⟩:=by
        rw [fold_mv]
        unfold z216
        dsimp only
        rw [er,← eq];rfl
      rw [hRS] at hst hR
      rw [eq] at cM
      have hMl:=z1129 B s (2 ^ B.length)
      clear eq hRS gk
      have gk:(L.map enP)[i]?=some (enP [(s:Int),(ph:Int)]):=by rw [y51,y45 hil,← er,z19 hil];rfl
      generalize (phB B (untB B) s ph).2=z at *
      generalize (letB B s).1=c at *
      generalize (letB B s).2=v at *
      generalize mvK B s (2 ^ B.length)=M at *
      repeat' ((first|(apply y4 ok;rfl)|(apply z26;kernel_rfl)|(refine z15 (i:=i) rfl gk ?_)|(apply y43;first|omega|((try dsimp only);simp only [y49,y48,y47,y46,y57,y58];omega)|exact ⟨rfl,z20 rfl z29⟩)|((apply z5)<;>intro _)|(apply z6 (cA);rfl;rfl)|(apply z8 [] [11] cM;rfl;rfl;rfl;(focus ((repeat' first|exact z12|apply z11)<;>(refine z17 ?_;((exact z4 fun _=>rfl)))))))<;>conv=>whnf)
      all_goals try (exfalso;omega)
      refine y84 (Gl.Reach.absorb 4 8 0 0 rfl rfl rfl rfl (by simp) rfl (z4 fun _=>rfl) rfl) ?_
      refine z58 (fun x:Nat×List (List Int)×List Trans=>([(1,accF B),(2,movF B),(6,.ptr 0 none 0),(8,.ptr 1 none 0),(10,.ptr 4 none 0),(11,fndF),(14,.int i),(70,.sref 8 0 M.length),(71,.int M.length),(72,.int x.1)],objsE N x.2.1 (acc++[z]) x.2.2 (.own 2 (x.2.1.map enP))++[.cells 4 (M.map (enMv c v q))])) (fun x=>x.1≤M.length∧∃ ed' : List Edg,x.2.2=ed'.map eT∧(M.take x.1).foldl (z871 q i c v) (L,ed)=(x.2.1,ed')∧x.2.1.length≤L.length+x.1∧x.2.2.length≤E.length+x.1) (fun x=>M.length - x.1) (0,L,E) ⟨y53 _,ed,hE,rfl,y52 _,y52 _⟩ (by refine swR [0,1,2,3,4,5,10,7,11] [] rfl rfl ?_;(repeat' first|exact y85 _|exact z9 _|(refine z60 ?_;((simp;done)))|apply y86|((first|refine z40 rfl ?_ ?_|refine z10 rfl ?_ ?_);(focus ((repeat' (first|exact z4 (fun _=>rfl)|apply z22));done)))|(refine z84 ?_ ?_;(focus (omega)))|constructor)<;>(rfl)) ?_
      rintro ⟨k,L',E'⟩ ⟨hk,ed',hE',hf,hL',hel⟩
      dsimp only at hk hE' hf hL' hel ⊢
      by_cases hkl:k < M.length
      · have gM:(M.map (enMv c v q))[k]?=some (enMv c v q M[k]):=by rw [y51,y45 hkl];rfl
        have hfs:(M.take (k+1)).foldl (z871 q i c v) (L,ed)=z871 q i c v (L',ed') M[k]:=by rw [y50 hkl,y62,hf];rfl
        generalize M[k]=x at *
        have cf:=z1173 L' (by omega) x q
        have hpl:=z647 L' [(x:Int),(q:Int)]
        unfold z871 at hfs
        dsimp only at hfs
        generalize z189 L' [(x:Int),(q:Int)]=L2 at *
        generalize z286 L' [(x:Int),(q:Int)]=n2 at *
        repeat' ((first|(apply y4 ok;rfl)|(apply z26;kernel_rfl)|(refine z15 (i:=k) rfl gM ?_)|(apply y43;first|omega|(unfold inI;omega)|((try dsimp only);simp only [y49,y48,y47,y46,y57,y58];omega)|exact ⟨rfl,z20 rfl z29⟩)|((apply z5)<;>intro _)|(apply z8 [3,2,4] [] cf;rfl;rfl;rfl;(focus ((repeat' first|exact z12|apply z11)<;>first|exact ren_mp|exact z33 rfl rfl))))<;>conv=>whnf)
        all_goals try (exfalso;omega)
        all_goals refine z21 (k+1,L2,E'++[eT ⟨i,c,v,n2⟩]) ⟨by show k+1≤_;omega,_,by rw [hE'];simp,hfs,by show L2.length≤L.length+(k+1);omega,by show (E'++[_]).length≤E.length+(k+1);simp;omega⟩ (by show M.length - (k+1) < M.length - k;omega) (by refine swR [0,1,2,3,4,5,6,11,8] [] rfl rfl ?_;(repeat' first|exact y85 _|exact z9 _|(refine z60 ?_;((simp;done)))|apply y86|((first|refine z40 rfl ?_ ?_|refine z10 rfl ?_ ?_);(focus ((repeat' (first|exact z4 (fun _=>rfl)|apply z22));done)))|(refine z84 ?_ ?_;(focus (omega)))|constructor)<;>(rfl))
      · obtain rfl:k=M.length:=by omega
        rw [y55] at hf
        rw [hf] at hst hR
        dsimp only at hst hR
        repeat' ((first|(apply y4 ok;rfl)|(apply y43;first|omega|(unfold inI;omega))|(((apply z13;omega));intro _)|((apply z5)<;>intro _))<;>conv=>whnf)
        all_goals try (exfalso;omega)
        all_goals refine z21 (i+1,L',acc++[z],E') ⟨by show i+1≤64;omega,ed',hE',?_,hst.1⟩ (by show 65 - (i+1) < 65 - i;omega) (by refine swR [0,1,2,3,4,5,6,7] [] rfl rfl ?_;(repeat' first|exact y85 _|exact z9 _|apply y86|refine z10 rfl (z4 (fun _=>rfl)) ?_|constructor)<;>(rfl))
        all_goals
          show goS B (untB B) (65 - (i+1)) (i+1) ⟨L',acc++[z],ed'⟩=R∨_
          have h2:L.length≤L'.length:=hst.2
          rw [show 65 - (i+1)=64 - i by omega]
          rcases hR with h|h
          · by_cases h65:64 < L.length
            · rw [if_pos h65] at h
              exact .inr ⟨by show 64 < L'.length;omega,h.symm⟩
            · rw [if_neg h65] at h
              exact .inl h
          · exact .inr ⟨by show 64 < L'.length;omega,h.2⟩
  · rw [if_neg hil] at hR
    have hRs:R=some ⟨L,acc,ed⟩:=by
      rcases hR with h|h
      · exact h.symm
      · omega
    have hb:=hI.base
    have hO:=hRO _ hRs (by show L.length≠0;have:L0.length≤L.length:=hb;omega)
    have hv:=hval i ⟨L,acc,ed⟩ hI hi (by show L.length≤i;omega)
    dsimp only at hO hv
    rw [← hE] at hO hv
    subst hO
    have hP:=z170.1 hv
    have hmx:Aut.mx ⟨N,acc,E⟩:=⟨by show N.length≤_;unfold maxLen;omega,by show acc.length≤_;unfold maxLen;omega,by show E.length≤_;unfold maxLen;omega,fun e he=>by
      obtain ⟨_,_,⟨c1,c2⟩,v1,v2⟩:=hP.2.2.2 e he
      have:=@Nat.and_le_right e.val.toNat e.care.toNat
      show inI e.val
      unfold inI;omega⟩
    have cV:=z250 ⟨N,acc,E⟩ hmx
    rw [hv] at cV
    have cC:=z889 ⟨N,acc,E⟩ (by show N.length≤_;omega) (by show acc.length≤_;omega) (by show E.length≤_;omega)
    repeat' ((first|(apply y4 ok;rfl)|(apply y43;omega)|(((apply z13;omega));intro _)|((apply z5)<;>intro _)|((first|(apply z89 [] [5,6,7] [] cV;(focus (exact z48 (z885 (a:=⟨N,acc,E⟩) rfl rfl rfl rfl rfl rfl rfl rfl rfl) z75));rfl)|(apply z89 [] [5,6,7] [9,10,11] cC;(focus (exact z48 (z885 (a:=⟨N,acc,E⟩) rfl rfl rfl rfl rfl rfl rfl rfl rfl) z75));rfl));rfl;(focus ((repeat' first|exact z12|apply z11)<;>(refine z17 ?_;((exact z4 fun _=>rfl)))));((refine .inr ⟨rfl,?_⟩;repeat' first|exact True.intro|apply y43|exact z201 (fun _=>rfl) _))))<;>conv=>whnf)
    all_goals try (exfalso;omega)
    all_goals (refine rsD [9,10,11] [] rfl ?_;(repeat' first|exact y85 _|exact z9 _|refine z10 rfl (z4 (fun _=>rfl)) ?_|constructor))
theorem z762 (B:List Tree) (g:Tree):∀ r∈iniS B g,RowP B.length (untB B) r:=by
 intro r hr
 unfold iniS at hr
 obtain ⟨s,hs,rfl⟩:=List.mem_map.1 hr
 have:=List.mem_range.1 (List.mem_filter.1 hs).1
 exact ⟨s,0,rfl,this,by omega⟩
theorem z1005 (B:List Tree) (g:Tree):(iniS B g).Nodup:=by
 unfold iniS
 exact ((List.nodup_range).filter _).map _ fun a b h e=>h (by simp at e;omega)
set_option maxRecDepth 20000 in
set_option maxHeartbeats 12800000 in
theorem z664 (t:Tree) (hs:t.sz≤200):CallsA Tryz.prog 133 [z24 Tree.cs' t] [] (.tup [.agg [.sref 0 0 (trA t).ini.length,.sref 1 0 (trA t).acc.length,.sref 2 0 (trA t).ed.length],.bool (tsB t)]) [.cells 1 ((trA t).ini.map enI),.cells 1 ((trA t).acc.map enB),.cells 4 ((trA t).ed.map Trans.cs)]:=by
 have cb:=z670 t hs
 unfold trA tsB trO
 by_cases h:bscB t=true
 ·obtain ⟨⟨ht,hn⟩,h5⟩:=of_decide_eq_true (show decide _=true from h)
  obtain ⟨hB,hIn,hsz⟩:=z686 ht hn h5 hs
  have cn:=z605 t (y23 ht) (by omega)
  rw [if_pos h] at cb ⊢
  rw [h] at cb
  rw [if_pos hn,hn] at cn
  clear h ht hn
  generalize t.nrm false=g at *
  generalize bscL g=B at *
  have hp:=z1108 h5
  have hi0:=z934 B g
  have cE:=z868 B hB (iniS B g) (z762 B g) (z1005 B g) (by omega)
  have hEx:(trS B g).map (z362 (iniS B g).length)=expO B (iniS B g):=rfl
  rw [hEx]
  clear hEx
  generalize expO B (iniS B g)=O at *
  have hul:(untB B).length≤B.length:=z460 B B.length
  have e2:((1:Int) * 2 ^ ((B.length:Int).toNat))=((2 ^ B.length:Nat):Int):=by
   rw [y76,Int.one_mul];norm_cast
  have cV:=fun s a b=>z264 B (untB B) hB s a b g hIn hsz
  have hkk:=fun i=>z1062 B i
  rw [y16 t] at cb cn ⊢
  rw [y16 g] at cn cV
  refine z7 z16 Tryz.func133 rfl rfl 75 Tryz.ntmps133 (by simp) ?_
  repeat' ((first|(apply y4 ok;rfl)|(apply z6 (cb);rfl;rfl)|(apply z6 (cn);rfl;rfl))<;>conv=>whnf)
  refine y84 (y87 1 rfl) ?_
  refine z58 (fun x:Nat×List Int=>([(2,.ptr 1 none 0),(4,lst 3 Tree.cs' B),(6,.ptr 2 none 0),(8,.ptr 4 none 0),(30,lst 3 Tree.cs' B),(31,.int B.length),(32,.int x.1)],[.cells 3 [[.int t.kind,.int t.val,lst 3 Tree.cs' t.kids]],.cells 3 [[.nils,.nils,.nils]],.cells 3 [[.int g.kind,.int g.val,lst 3 Tree.cs' g.kids]],.cells 2 [[lst 3 Tree.cs' B,.sref 5 0 x.2.length]],.cells 1 [[.ptr 3 none 0]],.cells 1 (x.2.map enI)])) (fun x=>x.1≤B.length∧untL B x.1=x.2) (fun x=>B.length - x.1) (0,[]) ⟨y53 _,rfl⟩ (by refine swR [0,1,2,3,4,5] [] rfl rfl ?_;(repeat' first|exact y85 _|exact z47|apply y86|refine z10 rfl (z31) ?_|constructor)) ?_
  rintro ⟨i,U⟩ ⟨hi,hU⟩
  dsimp only at hi hU ⊢
  have hul2:=z460 B i
  rw [hU] at hul2
  by_cases hil:i < B.length
  ·have gk:(B.map Tree.cs')[i]?=some (Tree.cs' (B.getD i dftT)):=by rw [y51,y45 hil,z19 hil];rfl
   have hs:=hkk i
   rw [hU] at hs
   generalize B.getD i dftT=f at *
   by_cases hk:f.kind=7
   ·rw [if_pos hk] at hs
    repeat' ((first|(apply y4 ok;rfl)|(apply z26;kernel_rfl)|(refine z15 (i:=i) rfl gk ?_)|(apply y43;first|omega|(unfold inI;omega)|((try dsimp only);simp only [y49,y48,y47,y46,y57,y58];omega)|exact ⟨rfl,z20 rfl z29⟩)|((apply z5)<;>intro _))<;>conv=>whnf)
    all_goals try (exfalso;omega)
    all_goals refine z21 (i+1,U++[(i:Int)]) ⟨by show i+1≤_;omega,hs⟩ (by show B.length - (i+1) < B.length - i;omega) (by refine swR [0,1,2,3,4,8] [] rfl rfl ?_;(repeat' first|exact y85 _|(refine z60 ?_;((simp;done)))|apply y86|((refine z40 rfl ?_ ?_);(focus ((repeat' (first|exact z4 (fun _=>rfl)|apply z22));done)))|(refine z84 ?_ ?_;(focus (omega)))|constructor))
   ·rw [if_neg hk,y64] at hs
    repeat' ((first|(apply y4 ok;rfl)|(apply z26;kernel_rfl)|(refine z15 (i:=i) rfl gk ?_)|(apply y43;first|omega|(unfold inI;omega))|((apply z5)<;>intro _))<;>conv=>whnf)
    all_goals try (exfalso;omega)
    all_goals refine z21 (i+1,U) ⟨by show i+1≤_;omega,hs⟩ (by show B.length - (i+1) < B.length - i;omega) (by refine swR [0,1,2,3,4,5] [] rfl rfl ?_;(repeat' first|exact y85 _|exact z9 _|apply y86|refine z10 rfl (z4 (fun _=>rfl)) ?_|constructor))
  ·obtain rfl:i=B.length:=by omega
   have hU2:untB B=U:=hU
   rw [hU2] at cV
   have cE2:=cE
   unfold accF movF at cE2
   rw [hU2] at cE2
   clear cE hkk hU hU2
   repeat' ((first|(apply y4 ok;rfl)|(apply z26;kernel_rfl)|(rw [e2])|(apply y43;first|omega|(unfold inI;omega))|(((with_reducible apply z13;omega));intro _)|((apply z5)<;>intro _))<;>conv=>whnf)
   all_goals try (exfalso;omega)
   refine y84 (y87 2 rfl) ?_
   refine y84 (show Gl.Reach _ _ (mkSt _ [(2,.ptr 0 none 0),(6,.ptr 1 none 0),(8,.ptr 3 none 0),(11,.sref 4 0 0),(53,.int ((2 ^ B.length:Nat):Int)),(54,.int 0)] [.cells 3 [[.nils,.nils,.nils]],.cells 3 [[.int g.kind,.int g.val,lst 3 Tree.cs' g.kids]],.cells 2 [[lst 3 Tree.cs' B,ints U]],.cells 1 [[.ptr 2 none 0]],.cells 2 []]) from (by refine swR [1,2,3,4,6] [5] rfl rfl ?_;(repeat' first|exact y85 _|exact z47|apply y86|refine z10 rfl (z31) ?_|((apply z37 rfl rfl rfl);(focus ((repeat ((exact z23 (fun _=>rfl) _)));done));(focus (((simp;done));done)))|constructor))) ?_
   refine y84 (show Gl.Reach _ _ (mkSt _ [(2,.ptr 0 none 0),(6,.ptr 1 none 0),(8,.ptr 2 none 0),(11,.sref 3 0 0),(53,.int ((2 ^ B.length:Nat):Int)),(54,.int 0)] [.cells 3 [[.nils,.nils,.nils]],.cells 3 [[.int g.kind,.int g.val,lst 3 Tree.cs' g.kids]],.cells 1 [[.pt [lst 3 Tree.cs' B,ints U]]],.cells 2 []]) from (by refine swR [0,1,3,4] [2] rfl rfl ?_;(repeat' first|exact y85 _|apply y86|refine z10 rfl (z31) ?_|constructor))) ?_
   refine z58 (fun x:Nat×List (List Int)=>([(2,.ptr 0 none 0),(6,.ptr 1 none 0),(8,.pt [.pt [lst 3 Tree.cs' B,ints U]]),(11,.sref 2 0 x.2.length),(53,.int ((2 ^ B.length:Nat):Int)),(54,.int x.1)],[.cells 3 [[.nils,.nils,.nils]],.cells 3 [[.int g.kind,.int g.val,lst 3 Tree.cs' g.kids]],.cells 2 (x.2.map enP)])) (fun x=>x.1≤2 ^ B.length∧iniK B (fun s=>vlB B (s:Nat) g) x.1=x.2) (fun x=>2 ^ B.length - x.1) (0,[]) ⟨y53 _,rfl⟩ (by refine swR [0,1,3] [2] rfl rfl ?_;(repeat' first|exact y85 _|apply y86|refine z10 rfl (z31) ?_|constructor)) ?_
   rintro ⟨k,L⟩ ⟨hk,hL⟩
   dsimp only at hk hL ⊢
   have hLl:=iniK_len B (fun s=>vlB B (s:Nat) g) k
   rw [hL] at hLl
   by_cases hkl:k < 2 ^ B.length
   ·have hsu:=z1155 B (fun s=>vlB B (s:Nat) g) k
    rw [hL] at hsu
    have cv:=cV k (by omega) (by omega)
    generalize vlB B (k:Nat) g=z at *
    cases z
    ·rw [if_neg (by simp),y64] at hsu
     repeat' ((first|(apply y4 ok;rfl)|(apply y43;(unfold inI;omega))|((apply z5)<;>intro _)|(apply z6 (cv);rfl;rfl))<;>conv=>whnf)
     all_goals try (exfalso;omega)
     all_goals refine z21 (k+1,L) ⟨by show k+1≤_;omega,hsu⟩ (by show 2 ^ B.length - (k+1) < 2 ^ B.length - k;omega) (by refine swR [0,1,2] [] rfl rfl ?_;(repeat' first|exact y85 _|exact z9 _|apply y86|refine z10 rfl (z4 (fun _=>rfl)) ?_|constructor))
    ·rw [if_pos rfl] at hsu
     repeat' ((first|(apply y4 ok;rfl)|(apply y43;first|(unfold inI;omega)|((try dsimp only);simp only [y49,y48,y47,y46,y57,y58];omega)|exact ⟨rfl,z20 rfl z29⟩)|((apply z5)<;>intro _)|(apply z6 (cv);rfl;rfl))<;>conv=>whnf)
     all_goals try (exfalso;omega)
     all_goals refine z21 (k+1,L++[[(k:Int),0]]) ⟨by show k+1≤_;omega,hsu⟩ (by show 2 ^ B.length - (k+1) < 2 ^ B.length - k;omega) (by refine swR [0,1,4] [] rfl rfl ?_;(repeat' first|exact y85 _|(refine z60 ?_;((simp;done)))|apply y86|((refine z40 rfl ?_ ?_);(focus ((repeat' (first|exact z4 (fun _=>rfl)|apply z22));done)))|(refine z84 ?_ ?_;(focus (omega)))|constructor))
   ·obtain rfl:k=2 ^ B.length:=by omega
    have hL0:iniS B g=L:=hL
    rw [hL0] at cE2
    repeat' ((first|(apply y4 ok;rfl)|((apply z5)<;>intro _)|(apply z89 [] [2] [3,4,5] cE2;(focus (exact z48 (z270 rfl rfl rfl (by simp) (z23 (fun _=>rfl) _)) (z48 rfl (z48 rfl z75))));rfl;rfl;(focus ((repeat' first|exact z12|apply z11)<;>(refine z17 ?_;((exact z4 fun _=>rfl)))));((refine .inr ⟨rfl,?_⟩;repeat' first|exact True.intro|apply y43|exact z201 (fun _=>rfl) _))))<;>conv=>whnf)
    all_goals try (exfalso;omega)
    all_goals (refine rsD [3,4,5] [] rfl ?_;(repeat' first|exact y85 _|exact z9 _|refine z10 rfl (z4 (fun _=>rfl)) ?_|constructor))
 ·rw [if_neg h] at cb ⊢
  rw [(y71 _).mp h] at cb
  refine z7 z16 Tryz.func133 rfl rfl 75 Tryz.ntmps133 (by simp) ?_
  repeat' ((first|(apply y4 ok;rfl)|(apply z6 (cb);rfl;rfl))<;>conv=>whnf)
  all_goals (refine y88 1 ?_;refine y88 1 ?_;refine y88 4 ?_;refine rsD [2,3,4] [] rfl ?_;(repeat' first|exact y85 _|exact z47|refine z10 rfl (z31) ?_|apply z46|apply z93|constructor))
noncomputable def ngA (t:Tree):Aut:=if ngB t=true then trA (ngT t) else ⟨[],[],[]⟩
noncomputable def ngS (t:Tree):Bool:=ngB t && tsB (ngT t)
theorem ngB_fm {t:Tree} (h:ngB t=true):t.fmB=true:=by
 unfold ngB at h
 rw [y70] at h
 exact h.1
theorem z519 {t:Tree} (h:ngB t=true):(ngT t).sz≤12:=by
 have h1:=ngT_sz t
 have h2:=fm_sz (ngB_fm h)
 omega
theorem ngA_len (t:Tree):(ngA t).ini.length≤32∧(ngA t).acc.length≤66∧(ngA t).ed.length≤2080:=by
 unfold ngA
 split
 ·rename_i h
  exact trA_len _ (by have:=z519 h;omega)
 ·simp
theorem ngA_mx (t:Tree):(ngA t).mx:=by
 obtain ⟨h1,h2,h3⟩:=ngA_len t
 refine ⟨by unfold maxLen;omega,by unfold maxLen;omega,by unfold maxLen;omega,?_⟩
 unfold ngA
 split
 ·rename_i h
  exact trA_val _ (by have:=z519 h;omega)
 ·intro e he;cases he
theorem z536 (t:Tree) (hm:t.mx):CallsA Tryz.prog 52 [z24 Tree.cs' t] [] (.tup [.agg [.sref 0 0 (ngA t).ini.length,.sref 1 0 (ngA t).acc.length,.sref 2 0 (ngA t).ed.length],.bool (ngS t)]) [.cells 1 ((ngA t).ini.map enI),.cells 1 ((ngA t).acc.map enB),.cells 4 ((ngA t).ed.map Trans.cs)]:=by
 have cN:=z666 t hm
 unfold ngA ngS
 by_cases h:ngB t=true
 ·have hz:=z519 h
  have cT:=z664 (ngT t) (by omega)
  rw [if_pos h,h,Bool.true_and]
  rw [h] at cN
  generalize ngT t=u at *
  generalize trA u=a at *
  generalize tsB u=q at *
  rw [y16 t] at cN ⊢
  rw [y16 u] at cN cT
  refine z7 z16 Tryz.func52 rfl rfl 18 Tryz.ntmps52 (by simp) ?_
  repeat' ((first|(apply y4 ok;rfl)|(apply z6 (cN);rfl;rfl)|(apply z8 [] [3,4,5] cT;rfl;rfl;rfl;(focus ((repeat' first|exact z12|apply z11)<;>(refine z17 ?_;((exact z4 fun _=>rfl)))))))<;>conv=>whnf)
  all_goals (refine rsD [3,4,5] [] rfl ?_;(repeat' first|exact y85 _|exact z9 _|refine z10 rfl (z4 (fun _=>rfl)) ?_|constructor))
 ·rw [if_neg h,(y71 _).mp h,Bool.false_and]
  rw [(y71 _).mp h] at cN
  generalize ngT t=u at *
  rw [y16 t] at cN ⊢
  rw [y16 u] at cN
  refine z7 z16 Tryz.func52 rfl rfl 18 Tryz.ntmps52 (by simp) ?_
  repeat' ((first|(apply y4 ok;rfl)|(apply z6 (cN);rfl;rfl))<;>conv=>whnf)
  all_goals (refine y88 1 ?_;refine y88 1 ?_;refine y88 4 ?_;refine rsD [3,4,5] [] rfl ?_;(repeat' first|exact y85 _|exact z47|refine z10 rfl (z31) ?_|apply z46|apply z93|constructor))
theorem z574 (t:Tree) (hm:t.mx):CallsA Tryz.prog 52 [z24 Tree.cs' t] [] (.tup [.agg (ngA t).cs,.bool (ngS t)]) [] :=
 (z536 t hm).lend [] [0,1,2] rfl rfl rfl (bor_tup (z48 (z885 rfl rfl rfl rfl rfl rfl rfl rfl rfl) (z48 rfl z75))) z28
theorem z1144 (v x:Int):CallsA Tryz.prog 199 [.int x,.pt [.int v]] [] (.bool (decide (x=v))) []:=by
 refine z7 z16 Tryz.func199 rfl rfl 7 Tryz.ntmps199 (by simp) ?_
 repeat' (((apply y4 ok;rfl))<;>conv=>whnf)
 all_goals (refine rsD [] [] rfl ?_;(repeat' first|exact y85 _|constructor))
theorem z1035 (rows:List (List Int)) (hrl:∀ r∈rows,r.length≤1000000000) (v x:Int) (hx:0≤x∧x < rows.length):CallsA Tryz.prog 249 [.int x,.pt [.int v],.pt [lst 1 encL rows]] [] (.bool (decide (x≠v) && decide (v∈rows.getD x.toNat []))) []:=by
 obtain ⟨u,rfl⟩:∃ u:Nat,x=u:=⟨x.toNat,by omega⟩
 rw [y76]
 have hu:u < rows.length:=by omega
 have gr:=z510 hu
 have hrow:(rows.getD u []).length≤1000000000:=by rw [z19 hu];exact hrl _ (y44 _)
 have cct:=z140 (rows.getD u []) (by unfold maxLen;omega) v
 generalize rows.getD u []=row at *
 refine z7 z16 Tryz.func249 rfl rfl 16 Tryz.ntmps249 (by simp) ?_
 by_cases h:(u:Int)=v
 ·rw [y82 (by simp [h]),Bool.false_and]
  repeat' ((first|(apply y4 ok;rfl)|(apply z26;kernel_rfl)|(refine z15 (i:=u) rfl gr ?_)|(apply y43;omega)|((apply z52)<;>intro _)|(apply z6 (cct);rfl;rfl))<;>conv=>whnf)
  all_goals try (exfalso;omega)
  all_goals (refine rsD [] [] rfl ?_;(repeat' first|exact y85 _|constructor))
 ·rw [y81 h,Bool.true_and]
  repeat' ((first|(apply y4 ok;rfl)|(apply z26;kernel_rfl)|(refine z15 (i:=u) rfl gr ?_)|(apply y43;omega)|((apply z52)<;>intro _)|(apply z6 (cct);rfl;rfl))<;>conv=>whnf)
  all_goals try (exfalso;omega)
  all_goals (refine rsD [] [] rfl ?_;(repeat' first|exact y85 _|constructor))
set_option maxHeartbeats 3200000 in
theorem z1034 (rows : List (List Int)) (v : Int) (hr : ∀ r ∈ rows, InN rows.length r) (hv : 0 ≤ v ∧ v < rows.length) (hN : rows.length ≤ 100000) (hrl : ∀ r ∈ rows, r.length ≤ 1000000000) :
    CallsA Tryz.prog 200 [lst 1 encL rows,.int v] [] (.sref 0 0 (aroL rows v).length) [.cells 1 ((aroL rows v).map enI)]:=by
  obtain ⟨u,rfl⟩:∃ u:Nat,v=u:=⟨v.toNat,by omega⟩
  have hu:u < rows.length:=by omega
  have gr:=z510 hu
  have hrow:(rows.getD u []).length≤1000000000:=by rw [z19 hu];exact hrl _ (y44 _)
  have cct:=z140 (rows.getD u []) (by unfold maxLen;omega) (u:Int)
  have csh:=z641 rows [(u:Int)] hr (z593 hv) (by simp) hN hrl (fun n=>decide (n≠(u:Int)) && decide ((u:Int)∈rows.getD n.toNat [])) 249 [.int (u:Int)] [lst 1 encL rows] (fun x h0 h1=>z1035 rows hrl u x ⟨h0,h1⟩)
  unfold aroL
  rw [y76]
  by_cases h:(u:Int)∈rows.getD u []
  · rw [if_pos h]
    rw [y81 h] at cct
    generalize rows.getD u []=row at *
    refine z7 z16 Tryz.func200 rfl rfl 18 Tryz.ntmps200 (by simp) ?_
    repeat' ((first|(apply y4 ok;rfl)|(apply z26;kernel_rfl)|(refine z15 (i:=u) rfl gr ?_)|(apply y43;omega)|(apply z6 (cct);rfl;rfl))<;>conv=>whnf)
    all_goals (refine rsD [2] [] rfl ?_;(repeat' first|exact y85 _|apply y86|constructor))
  · rw [if_neg h]
    rw [y82 h] at cct
    generalize shL rows [(u:Int)] (fun n=>decide (n≠(u:Int)) && decide ((u:Int)∈rows.getD n.toNat []))=D at *
    generalize rows.getD u []=row at *
    refine z7 z16 Tryz.func200 rfl rfl 18 Tryz.ntmps200 (by simp) ?_
    repeat' ((first|(apply y4 ok;rfl)|(apply z26;kernel_rfl)|(refine z15 (i:=u) rfl gr ?_)|(apply y43;omega)|(apply z6 (cct);rfl;rfl)|(apply z89 [] [0,1,2] [3] csh;(focus ((repeat' first|exact z75|apply z48)<;>rfl));rfl;rfl;(focus ((repeat' first|exact z12|apply z11)<;>(refine z17 ?_;((exact z4 fun _=>rfl)))));((refine .inr ⟨rfl,?_⟩;repeat' first|exact True.intro|apply y43|exact z201 (fun _=>rfl) _))))<;>conv=>whnf)
    all_goals (refine rsD [3] [] rfl ?_;(repeat' first|exact y85 _|exact z9 _|refine z10 rfl (z4 (fun _=>rfl)) ?_|constructor))
noncomputable def lasR (rows:List (List Int)) (ini:List Int) (G:Int→Bool):List Int×List Int:=(lasL rows ini G).getD ([],[])
set_option maxHeartbeats 6400000 in
theorem z1143 (rows : List (List Int)) (ini : List Int) (hr : ∀ r ∈ rows, InN rows.length r) (hi : InN rows.length ini) (hn : ini.Nodup) (hN : rows.length ≤ 100000) (hrl : ∀ r ∈ rows, r.length ≤ 1000000000) (G : Int → Bool) (f : FuncId) (c1 c2 : List AC) (hf : ∀ x : Int, 0 ≤ x → x < rows.length → CallsA Tryz.prog f [.int x, .pt c1, .pt c2] [] (.bool (G x)) []) :
    CallsA Tryz.prog 136 [lst 1 encL rows,ints ini,.fn (.func f) [] [.pt c1,.pt c2]] [] (.tup [.sref 0 0 ((lasR rows ini G).1.take ((lasR rows ini G).1.length - 1)).length,.sref 1 0 (lasR rows ini G).2.length,.bool (lasL rows ini G).isSome]) [.cells 1 (((lasR rows ini G).1.take ((lasR rows ini G).1.length - 1)).map enI),.cells 1 ((lasR rows ini G).2.map enI)]:=by
  have hil:ini.length≤100000:=by have:=z202 rows.length ini hn hi;omega
  have cC:=z1018 rows hr hN hrl
  have cO:=z1113 rows ini hr hi hN hrl (by omega)
  have hQi:=z615 hr hi rows.length
  have hQl:=z888 hr hi rows.length
  have hcl:=cycB_len rows
  have hcg:∀ i,i < rows.length→((cycB rows).map enB)[i]?=some (enB (cycD rows i)):=fun i h=>z1170 (cycD rows) h
  have hto:=fun v hv=>shL_to (rows:=rows) (ini:=ini) hn (v:=v) hv
  have hrR:∀ k,k < (bfsL rows ini).length→(G ((bfsL rows ini).getD k 0) && cycD rows ((bfsL rows ini).getD k 0).toNat)=true→(∀ j,j < k→(G ((bfsL rows ini).getD j 0) && cycD rows ((bfsL rows ini).getD j 0).toNat)=false)→lasL rows ini G=some (bkw (srP rows ini) rows.length ((bfsL rows ini).getD k 0) [],cycL rows ((bfsL rows ini).getD k 0)):=fun k hk h1 h2=>by
    unfold lasL
    have:(bfsL rows ini).find? (fun v=>G v && cycD rows v.toNat)=some ((bfsL rows ini).getD k 0):=by
      rw [z19 hk] at h1 ⊢
      rw [List.find?_eq_some_iff_getElem]
      refine ⟨h1,k,hk,rfl,fun j hj=>?_⟩
      have:=h2 j hj
      rw [z19 (by omega)] at this
      rw [this];rfl
    rw [this];rfl
  have hrN:(∀ j,j < (bfsL rows ini).length→(G ((bfsL rows ini).getD j 0) && cycD rows ((bfsL rows ini).getD j 0).toNat)=false)→lasL rows ini G=none:=fun h=>by
    unfold lasL
    have:(bfsL rows ini).find? (fun v=>G v && cycD rows v.toNat)=none:=by
      rw [List.find?_eq_none]
      intro x hx
      obtain ⟨j,hj,rfl⟩:=List.mem_iff_getElem.1 hx
      have:=h j hj
      rw [z19 hj] at this
      rw [this];simp
    rw [this];rfl
  unfold lasR
  change (bfsL rows ini).length≤rows.length at hQl
  change InN rows.length (bfsL rows ini) at hQi
  generalize lasL rows ini G=L at *
  generalize cycB rows=C at *
  generalize bfsL rows ini=Q at *
  refine z7 z16 Tryz.func136 rfl rfl 45 Tryz.ntmps136 (by simp) ?_
  repeat' ((first|(apply y4 ok;rfl)|((first|(apply z8 [] [0] cC;rfl;rfl)|(apply z8 [] [1] cO;rfl;rfl));rfl;(focus ((repeat' first|exact z12|apply z11)<;>(refine z17 ?_;((exact z4 fun _=>rfl)))))))<;>conv=>whnf)
  refine z58 (fun i:Nat=>([(0,lst 1 encL rows),(1,ints ini),(2,.fn (.func f) [] [.pt c1,.pt c2]),(9,.sref 0 0 rows.length),(17,.sref 1 0 Q.length),(18,.int Q.length),(19,.int i)],[.cells 1 (C.map enB),.cells 1 (Q.map enI)])) (fun i=>i≤Q.length∧∀ j,j < i→(G (Q.getD j 0) && cycD rows (Q.getD j 0).toNat)=false) (fun i=>Q.length - i) 0 ⟨y53 _,fun j hj=>by omega⟩ (by refine swR [0,1] [] rfl rfl ?_;(repeat' first|exact y85 _|exact z9 _|refine z10 rfl (z4 (fun _=>rfl)) ?_|constructor)) ?_
  rintro i ⟨hi1,hno⟩
  by_cases hi2:i < Q.length
  · have hm:=z392 hi2
    have hx:=hQi _ hm
    have gx:(Q.map enI)[i]?=some (enI (Q.getD i 0)):=by rw [y51,y45 hi2,z19 hi2];rfl
    have cf:=hf _ hx.1 hx.2
    have hsome:=fun h=>hrR i hi2 h hno
    have hnxt:(G (Q.getD i 0) && cycD rows (Q.getD i 0).toNat)=false→∀ j,j < i+1→(G (Q.getD j 0) && cycD rows (Q.getD j 0).toNat)=false:=fun h j hj=>by
      by_cases e:j=i
      · subst e;exact h
      · exact hno j (by omega)
    have hsh:=hto _ hm
    have csh:=z642 rows ini hr hi hn hN hrl (fun n=>decide (n=Q.getD i 0)) 199 [.int (Q.getD i 0)] (fun x _ _=>z1144 (Q.getD i 0) x)
    have car:=z1034 rows (Q.getD i 0) hr hx hN hrl
    rw [hsh] at csh
    rw [aroL_eq] at car
    have hb1:=z684 (srP rows ini) rows.length (Q.getD i 0) []
    have hb2:=z685 (srP rows ini) rows.length (Q.getD i 0) []
    have hc2:=z950 rows (Q.getD i 0)
    have gc:=hcg (Q.getD i 0).toNat (by omega)
    rw [y58] at hb2
    clear hsh hrR hrN hto hcg hm hno
    generalize bkw (srP rows ini) rows.length (Q.getD i 0) []=B at *
    generalize cycL rows (Q.getD i 0)=Y at *
    generalize Q.getD i 0=x at *
    obtain ⟨u,rfl⟩:∃ u:Nat,x=u:=⟨x.toNat,by omega⟩
    rw [y76] at *
    by_cases hg:(G (u:Int) && cycD rows u)=true
    · have hL:=hsome hg
      obtain ⟨hg1,hg2⟩:=Bool.and_eq_true_iff.1 hg
      rw [hg1] at cf
      rw [hg2] at gc
      subst hL
      repeat' ((first|(apply y4 ok;rfl)|(apply z26;kernel_rfl)|(refine z15 (i:=i) rfl gx ?_)|(refine z15 (i:=u) rfl gc ?_)|(apply y43;first|omega|(unfold inI;omega))|((apply z5)<;>intro _)|(apply z6 (cf);rfl;rfl)|((first|(apply z89 [] [2] [3] csh;(focus ((repeat' first|exact z75|apply z48)<;>rfl));rfl)|(apply z89 [] [] [4] car;rfl;rfl));rfl;(focus ((repeat' first|exact z12|apply z11)<;>(refine z17 ?_;((exact z4 fun _=>rfl)))));(first|exact .inl rfl|(refine .inr ⟨rfl,?_⟩;repeat' first|exact True.intro|apply y43|exact z201 (fun _=>rfl) _))))<;>conv=>whnf)
      all_goals try (exfalso;omega)
      all_goals
        show RetS _ _ (.tup [.sref 0 0 (B.take (B.length - 1)).length,.sref 1 0 Y.length,.bool true]) [.cells 1 ((B.take (B.length - 1)).map enI),.cells 1 (Y.map enI)] _
        refine Gl.RetS.trunc 3 (B.length - 1) rfl ?_
        conv=>whnf
        (refine rsD [3,4] [] rfl ?_;(repeat' first|exact y85 _|exact z9 _|(refine z60 ?_;((simp;done)))|((refine z10 rfl ?_ ?_);(focus ((repeat' (first|exact z4 (fun _=>rfl)|apply z22));done)))|apply z93|constructor))
      all_goals (refine z45 ?_;rw [List.map_take])
    · have hg:=(y71 _).mp hg
      have hn2:=hnxt hg
      cases hG:G (u:Int)
      · rw [hG] at cf
        repeat' ((first|(apply y4 ok;rfl)|(refine z15 (i:=i) rfl gx ?_)|(apply y43;first|omega|(unfold inI;omega))|((apply z5)<;>intro _)|(apply z6 (cf);rfl;rfl))<;>conv=>whnf)
        all_goals try (exfalso;omega)
        all_goals refine z21 (i+1) ⟨hi2,hn2⟩ (by omega) (by refine swR [0,1] [] rfl rfl ?_;(repeat' first|exact y85 _|exact z9 _|refine z10 rfl (z4 (fun _=>rfl)) ?_|constructor))
      · rw [hG] at cf
        rw [hG,Bool.true_and] at hg
        rw [hg] at gc
        repeat' ((first|(apply y4 ok;rfl)|(refine z15 (i:=i) rfl gx ?_)|(refine z15 (i:=u) rfl gc ?_)|(apply y43;first|omega|(unfold inI;omega))|((apply z5)<;>intro _)|(apply z6 (cf);rfl;rfl))<;>conv=>whnf)
        all_goals try (exfalso;omega)
        all_goals refine z21 (i+1) ⟨hi2,hn2⟩ (by omega) (by refine swR [0,1] [] rfl rfl ?_;(repeat' first|exact y85 _|exact z9 _|refine z10 rfl (z4 (fun _=>rfl)) ?_|constructor))
  · have hL:=hrN fun j hj=>hno j (by omega)
    subst hL
    repeat' ((first|(apply y4 ok;rfl)|(apply y43;omega)|(((apply z13;omega));intro _)|((apply z5)<;>intro _))<;>conv=>whnf)
    all_goals try (exfalso;omega)
    all_goals show RetS _ _ (.tup [.sref 0 0 0,.sref 1 0 0,.bool false]) [.cells 1 [],.cells 1 []] _
    all_goals (refine y88 1 ?_;refine y88 1 ?_;refine rsD [2,3] [] rfl ?_;(repeat' first|exact y85 _|exact z47|refine z10 rfl (z31) ?_|apply z93|constructor))
end Go.Proofs.YtnfoijopccdjeaaGreat
namespace Go.Proofs.YtnfoijopccdjeaaGreat
open Go.Gl
attribute [local irreducible] z18 AWP z30 z36 z32
noncomputable def z965 (g:Graph) (p:List Int) (i:Nat):Bool:=(decide (0≤p.getD i 0) && decide (p.getD i 0 < g.st.length)) && (decide (i=0) || decide (p.getD i 0∈g.nx.getD (p.getD (i - 1) 0).toNat []))
noncomputable def z1110 (g:Graph) (p:List Int):Bool:=z443 g && (decide (1≤p.length) && (List.range p.length).all (z965 g p))
theorem z982 {g:Graph} {p:List Int} (hg:z443 g=true) (h0:1≤p.length) (h:∀ i,i < p.length→z965 g p i=true):z1110 g p=true:=by
 unfold z1110
 have:(List.range p.length).all (z965 g p)=true:=by
  rw [y78]
  exact fun i hi=>h i (List.mem_range.1 hi)
 rw [this,hg,y81 h0];rfl
theorem stepP_in {g:Graph} {p:List Int} {j:Nat} (h:j < p.length) (k:z965 g p j=true):0≤p[j]∧p[j] < g.st.length:=by
 unfold z965 at k
 rw [z19 h] at k
 simp only [y70,decide_eq_true_eq] at k
 exact k.1
structure Trace where
 stem:List Int
 loop:List Int
deriving DecidableEq
def Trace.cs (t:Trace):List AC:=[ints t.stem,ints t.loop]
def Trace.all (t:Trace):List Int:=t.stem++t.loop
noncomputable def trB (g:Graph) (t:Trace):Bool:=decide (1≤t.loop.length∧t.stem.length+t.loop.length≤8000) && (z1110 g t.all && (decide (t.all.getD 0 0=0) && decide (t.loop.getD 0 0∈g.nx.getD ((t.loop.getD (t.loop.length - 1) 0).toNat) [])))
theorem z1109 {g:Graph} {p:List Int} (h:z1110 g p=true) (i:Nat) (hi:i < p.length):0≤p[i]∧p[i] < g.st.length:=by
 unfold z1110 at h
 rw [y70,y70,y78] at h
 exact stepP_in hi (h.2.2 i (List.mem_range.2 hi))
end Go.Proofs.YtnfoijopccdjeaaGreat
namespace Go.Proofs.YtnfoijopccdjeaaGreat
open Go.Gl
attribute [local irreducible] z18 AWP z30 z36 z32 RetS z38
def Aut.sm (a:Aut):Prop:=a.ini.length≤40∧a.acc.length≤20∧a.ed.length≤2100∧∀ t∈a.ed,t.mx
theorem IniP.nd {l:List Int} {n:Int} (h:IniP l n l.length):l.Nodup:=by
 have hs:∀ d i (hi:i+d+1 < l.length),l[i] < l[i+d+1]:=by
  intro d
  induction d with
  |zero=>intro i hi;exact (h (i+1) hi hi).2 i rfl
  |succ d ih =>
   intro i hi
   have h1:=ih i (by omega)
   have h2:=(h (i+(d+1)+1) hi hi).2 (i+d+1) (by omega)
   omega
 rw [List.nodup_iff_pairwise_ne,List.pairwise_iff_getElem]
 intro i j hi hj hij
 have:=hs (j - i - 1) i (by omega)
 have e:i+(j - i - 1)+1=j:=by omega
 simp only [e] at this
 omega
noncomputable def trcO (g:Graph) (ls:List Int) (a:Aut):Option (List Int×List Int):=(finS (z55 g ls a) a.ini a.acc).map fun x=>(stL (x.1.take (x.1.length - 1)) a.acc.length,stL x.2 a.acc.length)
end Go.Proofs.YtnfoijopccdjeaaGreat
namespace Go.Proofs.YtnfoijopccdjeaaGreat
open Go.Gl
attribute [local irreducible] z18 AWP z30 z36 z32
section
open Go.ChangeShapes Go.WideShapes Go.ChangeAt Go.RowKit
theorem and_mk {a b:Bool} (h:a=true) (k:b=true):(a && b)=true:=by rw [h,k];rfl
theorem own:ownKnob Tryz.prog.godebug=none:=by kernel_rfl
theorem z992:laidOutB Tryz.prog=true:=by kernel_rfl
end
end Go.Proofs.YtnfoijopccdjeaaGreat
namespace Go.Proofs.YtnfoijopccdjeaaGreat
open Go.Gl
attribute [local irreducible] z18 AWP z30 z36 z32
theorem z1214:ArgD Tryz.prog 22 (lst 1 enU) CodeOk :=
 (z1211 (enc1:=lst 1 enU) Tryz.underlying22 (od_list 1 (encL:=fun l=>[lst 1 enU l]) Tryz.underlying22 (by kernel_rfl) (by decide) (od_byte (enc:=enU) Tryz.underlying5 (fun _=>rfl)) (fun _=>rfl)) (fun _=>rfl)).imp fun l h=>⟨l,rfl,h.1,fun x hx=>by
  have:=h.2 x hx
  have h1:IntKind.min .u8=0:=by decide
  have h2:IntKind.max .u8=255:=by decide
  simpa [Lit.wf,h1,h2] using this⟩
end Go.Proofs.YtnfoijopccdjeaaGreat
namespace Go.Proofs.YtnfoijopccdjeaaGreat
open Go.Gl
attribute [local irreducible] z18 AWP z30 z36 z32 RetS z38
theorem z674 (a:Aut) (hA:AutP a) (x:Int) (h0:0≤x):CallsA Tryz.prog 137 [.int x,.pt a.cs,.pt [.int a.acc.length]] [] (.bool (a.acc.getD (x % a.acc.length).toNat false)) []:=by
 have hac:=hA.1
 have hm0:0≤x % (a.acc.length:Int):=Int.emod_nonneg _ (by omega)
 have hm1:x % (a.acc.length:Int) < a.acc.length:=Int.emod_lt_of_pos _ (by omega)
 have hga:(a.acc.map enB)[(x % (a.acc.length:Int)).toNat]?=some (enB (a.acc.getD (x % (a.acc.length:Int)).toNat false)):=by
  rw [y51,y45 (by omega),z19 (by omega)];rfl
 refine z7 z16 Tryz.func137 rfl rfl 12 Tryz.ntmps137 (by simp) ?_
 repeat' ((first|(apply y4 ok;rfl)|(apply z26;kernel_rfl)|(refine z15 (i:=(x % (a.acc.length:Int)).toNat) rfl hga ?_)|(apply y43;omega))<;>conv=>whnf)
 all_goals (refine rsD [] [] rfl ?_;(repeat' first|exact y85 _|constructor))
set_option maxHeartbeats 1600000 in
theorem z337 (l:List Int) (n:Nat) (hl:l.length≤1000000) (hn:1≤n) (h0:∀ x∈l,0≤x) (h1:∀ x∈l,x≤1000000000):CallsA Tryz.prog 138 [ints l,.pt [.int n]] [] (.sref 0 0 l.length) [.cells 1 ((stL l n).map enI)]:=by
 refine z7 z16 Tryz.func138 rfl rfl 25 Tryz.ntmps138 (by simp) ?_
 repeat' ((first|(apply y4 ok;rfl)|(apply y43;(dsimp only;omega)))<;>conv=>whnf)
 obtain ⟨qm,hqm⟩:∃ qm:Nat→Nat→Int,qm=fun i j=>if j < i then l.getD j 0 / n else 0:=⟨_,rfl⟩
 have q0:qm 0=fun _=>0:=by rw [hqm];rfl
 have qE:fnL l.length (qm l.length)=stL l n:=by
  apply y74 (by simp [fnL,stL])
  intro i h1 h2
  have hi' : i < l.length:=by rw [z114] at h1;exact h1
  rw [z672,hqm]
  dsimp only
  rw [if_pos hi',z19 hi'];simp [stL]
 have qS:∀ i (h:i < l.length),qm (i+1)=upd (qm i) i (l[i] / n):=fun i h=>by
  funext j
  by_cases h2:j=i
  ·subst h2;rw [z34,hqm];dsimp only;rw [if_pos (by omega),z19 h]
  ·rw [z53 _ _ h2,hqm];dsimp only;split<;>split<;>first|rfl|omega
 clear hqm
 refine z58 (fun i:Nat=>([(1,.pt [.int n]),(4,.sref 0 0 l.length),(10,ints l),(11,.int l.length),(12,.int i)],[.cells 1 ((fnL l.length (qm i)).map enI)])) (fun i=>i≤l.length) (fun i=>l.length - i) 0 (y53 _) (by refine swR [0] [] rfl rfl ?_;(repeat' first|exact y85 _|refine z10 rfl (z69 rfl) ?_|constructor)<;>((refine z45 ?_;rw [q0];exact z320 _))) ?_
 intro i hi
 by_cases hi2:i < l.length
 ·have g1:=z179 (qm i) hi2
  have l1:=z114 l.length (qm i)
  have e1:=z158 (N:=l.length) (u:=i) (qm i) (l[i] / n)
  rw [← qS i hi2] at e1
  have gk:(l.map enI)[i]?=some (enI l[i]):=by rw [y51,y45 hi2];rfl
  have b0:=h0 _ (y44 hi2)
  have b1:=h1 _ (y44 hi2)
  generalize l[i]=v at *
  have d0:0≤v / (n:Int):=Int.ediv_nonneg b0 (by omega)
  have d1:v / (n:Int)≤v:=Int.ediv_le_self _ b0
  repeat' ((first|(apply y4 ok;rfl)|(refine z15 (i:=i) rfl gk ?_)|(refine z15 (i:=i) rfl g1 ?_)|(apply y43;first|omega|(unfold inI;omega))|((apply z5)<;>intro _))<;>conv=>whnf)
  all_goals try (exfalso;omega)
  all_goals refine z21 (i+1) hi2 (by omega) (by refine swR [0] [] rfl rfl ?_;(repeat' first|exact y85 _|refine z50 rfl (z4 (fun _=>rfl)) ?_|constructor)<;>((refine z45 ?_;exact e1)))
 obtain rfl:i=l.length:=by omega
 rw [qE]
 repeat' ((first|(apply y4 ok;rfl)|(apply y43;omega)|((first|(with_reducible apply z13;omega)|(apply z13;omega));intro _)|((apply z5)<;>intro _))<;>conv=>whnf)
 all_goals try (exfalso;omega)
 all_goals (refine rsD [0] [] rfl ?_;(repeat' first|exact y85 _|exact z9 _|refine z10 rfl (z4 (fun _=>rfl)) ?_|constructor))
noncomputable def ftO (g:Graph) (l:List Tree) (a:Aut):Option (List Int×List Int):=if (glB g l && autB a)=true then trcO g (g.st.map (z59 l)) a else none
noncomputable def ftL (g:Graph) (l:List Tree) (a:Aut):Trace:=let t:=(ftO g l a).getD ([],[]);⟨t.1,t.2⟩
set_option maxHeartbeats 6400000 in
theorem z422 (g:Graph) (hg:g.mx) (l:List Tree) (hl:Lmx l) (a:Aut) (ha:a.mx):CallsA Tryz.prog 53 [.agg g.cs,lst 3 Tree.cs' l,.agg a.cs] [] (.tup [.agg [.sref 0 0 (ftL g l a).stem.length,.sref 1 0 (ftL g l a).loop.length],.bool (ftO g l a).isSome]) [.cells 1 ((ftL g l a).stem.map enI),.cells 1 ((ftL g l a).loop.map enI)]:=by
 have k0:=z1024 g hg l hl a ha
 by_cases hgl:(glB g l && autB a)=true
 ·rw [hgl] at k0
  obtain ⟨h1,hab⟩:=Bool.and_eq_true_iff.1 hgl
  have hG:=(z150 g).1 (by unfold glB at h1;exact (Bool.and_eq_true_iff.1 h1).1)
  have hL:=y8 (by unfold glB at h1;exact (Bool.and_eq_true_iff.1 h1).2)
  have hA:=z170.1 hab
  have k1:=z980 g hG l hL a hA
  obtain ⟨f1,f2,f3,f4,f5⟩:=z315 hG hA (g.st.map (z59 l))
  have hnd:=hA.2.2.1.nd
  have hac:=hA.1
  have k2:=z1143 (z55 g (g.st.map (z59 l)) a) a.ini f1 f2 hnd (by omega) f4 (fun v=>a.acc.getD (v % a.acc.length).toNat false) 137 a.cs [.int a.acc.length] (fun x h0 _=>z674 a hA x h0)
  unfold ftL ftO
  rw [if_pos hgl]
  unfold lasR at k2
  unfold trcO
  rw [z319 f1 f2 hnd] at k2
  have hlen:(z55 g (g.st.map (z59 l)) a).length=g.st.length * a.acc.length:=by unfold z55;rw [z128,Nat.mul_comm]
  have hF:∀ p q,finS (z55 g (g.st.map (z59 l)) a) a.ini a.acc=some (p,q)→(∀ x∈p,0≤x∧x≤100000)∧(∀ x∈q,0≤x∧x≤100000)∧p.length≤100000∧q.length≤100000:=by
   intro p q h
   rw [← z319 f1 f2 hnd] at h
   obtain ⟨b1,b2,b3,b4,_⟩:=z853 f1 f2 hnd h
   exact ⟨fun x hx=>by have:=b1 x hx;omega,fun x hx=>by have:=b2 x hx;omega,by omega,by omega⟩
  generalize z55 g (g.st.map (z59 l)) a=rows at *
  cases hfin:finS rows a.ini a.acc with
  |none =>
   rw [hfin] at k2
   change CallsA _ _ _ _ (.tup [.sref 0 0 0,.sref 1 0 0,.bool false]) [.cells 1 [],.cells 1 []] at k2
   show CallsA _ _ _ _ (.tup [.agg [.sref 0 0 0,.sref 1 0 0],.bool false]) [.cells 1 [],.cells 1 []]
   refine z7 z16 Tryz.func53 rfl rfl 50 Tryz.ntmps53 (by simp) ?_
   repeat' ((first|(apply y4 ok;rfl)|(apply z6 (k0);rfl;rfl)|(apply z6 (k1);rfl;rfl)|(apply z89 [] [1,3] [4,5] k2;(focus ((repeat' first|exact z75|apply z48)<;>rfl));rfl;rfl;(focus ((repeat' first|exact z12|apply z11)<;>(refine z17 ?_;(exact z31))));((refine .inr ⟨rfl,?_⟩;repeat' first|exact True.intro|apply y43|exact rfl))))<;>conv=>whnf)
   all_goals (refine y88 1 ?_;refine y88 1 ?_;refine rsD [6,7] [] rfl ?_;(repeat' first|exact y85 _|exact z47|refine z10 rfl (z31) ?_|apply z46|apply z93|constructor))
  |some pq =>
   obtain ⟨p,q⟩:=pq
   rw [hfin] at k2
   obtain ⟨b1,b2,b3,b4⟩:=hF p q hfin
   change CallsA _ _ _ _ (.tup [.sref 0 0 (p.take (p.length - 1)).length,.sref 1 0 q.length,.bool true]) [.cells 1 ((p.take (p.length - 1)).map enI),.cells 1 (q.map enI)] at k2
   have s1:=z337 (p.take (p.length - 1)) a.acc.length (by rw [y48];omega) (by omega) (fun x hx=>(b1 x (List.mem_of_mem_take hx)).1) (fun x hx=>by have:=(b1 x (List.mem_of_mem_take hx)).2;omega)
   have s2:=z337 q a.acc.length (by omega) (by omega) (fun x hx=>(b2 x hx).1) (fun x hx=>by have:=(b2 x hx).2;omega)
   have e1:(stL (p.take (p.length - 1)) a.acc.length).length=(p.take (p.length - 1)).length:=by simp [stL]
   have e2:(stL q a.acc.length).length=q.length:=by simp [stL]
   show CallsA _ _ _ _ (.tup [.agg [.sref 0 0 (stL (p.take (p.length - 1)) a.acc.length).length,.sref 1 0 (stL q a.acc.length).length],.bool true]) [.cells 1 ((stL (p.take (p.length - 1)) a.acc.length).map enI),.cells 1 ((stL q a.acc.length).map enI)]
   rw [e1,e2]
   generalize stL (p.take (p.length - 1)) a.acc.length=S1 at *
   generalize stL q a.acc.length=S2 at *
   generalize p.take (p.length - 1)=p' at *
   refine z7 z16 Tryz.func53 rfl rfl 50 Tryz.ntmps53 (by simp) ?_
   repeat' ((first|(apply y4 ok;rfl)|(apply z6 (k0);rfl;rfl)|(apply z6 (k1);rfl;rfl)|((first|(apply z89 [] [1,3] [4,5] k2;(focus ((repeat' first|exact z75|apply z48)<;>rfl));rfl)|(apply z89 [] [3,4] [6] s1;(focus ((repeat' first|exact z75|apply z48)<;>first|exact z135 rfl rfl rfl|rfl));rfl)|(apply z89 [] [3,5] [7] s2;(focus ((repeat' first|exact z75|apply z48)<;>first|exact z135 rfl rfl rfl|rfl));rfl));rfl;(focus ((repeat' first|exact z12|apply z11)<;>(refine z17 ?_;((exact z4 fun _=>rfl)))));((refine .inr ⟨rfl,?_⟩;repeat' first|exact True.intro|apply y43|exact z201 (fun _=>rfl) _))))<;>conv=>whnf)
   all_goals (refine rsD [6,7] [] rfl ?_;(repeat' first|exact y85 _|exact z9 _|refine z10 rfl (z4 (fun _=>rfl)) ?_|constructor))
 ·have hgl:=(y71 _).mp hgl
  rw [hgl] at k0
  have e1:ftO g l a=none:=by unfold ftO;rw [hgl];rfl
  unfold ftL
  rw [e1]
  show CallsA _ _ _ _ (.tup [.agg [.sref 0 0 0,.sref 1 0 0],.bool false]) [.cells 1 [],.cells 1 []]
  refine z7 z16 Tryz.func53 rfl rfl 50 Tryz.ntmps53 (by simp) ?_
  repeat' ((first|(apply y4 ok;rfl)|(apply z6 (k0);rfl;rfl))<;>conv=>whnf)
  all_goals (refine y88 1 ?_;refine y88 1 ?_;refine rsD [3,4] [] rfl ?_;(repeat' first|exact y85 _|exact z47|refine z10 rfl (z31) ?_|apply z46|apply z93|constructor))
theorem ftL_le {g:Graph} {l:List Tree} {a:Aut} : (ftL g l a).stem.length≤3841∧(ftL g l a).loop.length≤3841:=by
 unfold ftL ftO
 by_cases h:(glB g l && autB a)=true
 ·rw [if_pos h]
  obtain ⟨h1,hab⟩:=Bool.and_eq_true_iff.1 h
  have hG:=(z150 g).1 (by unfold glB at h1;exact (Bool.and_eq_true_iff.1 h1).1)
  have hA:=z170.1 hab
  obtain ⟨f1,f2,f3,f4,f5⟩:=z315 hG hA (g.st.map (z59 l))
  have hnd:=hA.2.2.1.nd
  unfold trcO
  cases hf:finS (z55 g (g.st.map (z59 l)) a) a.ini a.acc with
  |none=>simp
  |some pq =>
   obtain ⟨p,q⟩:=pq
   rw [← z319 f1 f2 hnd] at hf
   obtain ⟨b1,b2,b3,b4,_⟩:=z853 f1 f2 hnd hf
   simp only [Option.map_some,Option.getD_some,stL,y49,y48]
   omega
 ·rw [if_neg h];simp
theorem z1161 {B:List Tree} {U:List Int} {n0:Nat} : ∀ (f i:Nat) (x y:TrS),f+i=65→ExI B U n0 i x→goS B U f i x=some y→∃ j,ExI B U n0 j y∧j≤64∧y.L.length≤j
 |0,i,x,y,_,_,h=>by simp [goS] at h
 |f+1,i,x,y,he,hI,h=>by
  rw [goS] at h
  split at h
  ·rename_i hi
   split at h
   ·cases h
   ·exact z1161 f (i+1) _ y (by omega) (hI.step hi).1 h
  ·cases h
   exact ⟨i,hI,by omega,by omega⟩
theorem z1066 (t:Tree) (hs:t.sz≤200) (h:tsB t=true):autB (trA t)=true:=by
 unfold tsB at h
 unfold trA
 unfold trO at *
 by_cases hb:bscB t=true
 ·rw [if_pos hb] at *
  obtain ⟨⟨ht,hn⟩,h5⟩:=of_decide_eq_true (show decide _=true from hb)
  obtain ⟨hB,_,_⟩:=z686 ht hn h5 hs
  generalize t.nrm false=g at *
  generalize bscL g=B at *
  cases hS:trS B g with
  |none=>rw [hS] at h;cases h
  |some y =>
   have hI0:ExI B (untB B) (iniS B g).length 0 ⟨iniS B g,[],[]⟩:=⟨z762 B g,y52 _,rfl,y53 _,y53 _,by show (iniS B g).length≤(iniS B g).length+0 * _;omega,fun e he=>by cases he⟩
   obtain ⟨j,hI,hj,hl⟩:=z1161 65 0 _ y rfl hI0 hS
   show autB (z362 (iniS B g).length y)=true
   unfold z362
   by_cases h0:y.L.length=0
   ·rw [if_pos h0]
    have h1:=hI.base
    have e1:(iniS B g).length=0:=by omega
    have h2:=hI.edl
    have h3:=hI.le
    have hj0:j=0:=by omega
    rw [hj0,Nat.zero_mul] at h2
    have e2:y.ed=[]:=y73 (by omega)
    rw [e1,e2,z170]
    exact ⟨⟨by decide,by decide⟩,by decide,fun i hi _=>by simp [numI] at hi,fun e he=>by cases he⟩
   ·rw [if_neg h0]
    by_cases h1:1≤(iniS B g).length
    ·exact ExI.valid hB hI h1 hj hl
    ·exfalso
     have e1:iniS B g=[]:=y73 (by omega)
     have:trS B g=some ⟨[],[],[]⟩:=by unfold trS;rw [e1];rfl
     rw [this] at hS
     cases hS
     exact h0 rfl
 ·rw [if_neg hb] at h;cases h
theorem z740 {t:Tree} (h:ngS t=true):autB (ngA t)=true:=by
 unfold ngS at h
 rw [y70] at h
 unfold ngA
 rw [if_pos h.1]
 exact z1066 _ (by have:=z519 h.1;omega) h.2
noncomputable def vdI (g:Graph) (l:List Tree) (f:Tree):Int:=if (glB g l && f.fmB)=true then (if ngS f=true then (if (ftO g l (ngA f)).isSome=true then 1 else 0) else 2) else 3
noncomputable def vdT (g:Graph) (l:List Tree) (f:Tree):Trace:=if (glB g l && f.fmB)=true then (if ngS f=true then ftL g l (ngA f) else ⟨[],[]⟩) else ⟨[],[]⟩
theorem vdT_le {g:Graph} {l:List Tree} {f:Tree} : (vdT g l f).stem.length≤3841∧(vdT g l f).loop.length≤3841:=by
 unfold vdT
 split
 ·split
  ·exact ftL_le
  ·simp
 ·simp
theorem z937 {g:Graph} {l:List Tree} {a:Aut} (h:(ftO g l a).isSome=false):ftL g l a=⟨[],[]⟩:=by
 unfold ftL
 cases hf:ftO g l a with
 |none=>rfl
 |some x=>rw [hf] at h;cases h
set_option maxHeartbeats 3200000 in
theorem z576 (g:Graph) (hg:g.mx) (l:List Tree) (hl:Lmx l) (f:Tree) (hf:f.mx):CallsA Tryz.prog 11 [.agg g.cs,lst 3 Tree.cs' l,z24 Tree.cs' f] [] (.tup [.int (vdI g l f),.agg [.sref 0 0 (vdT g l f).stem.length,.sref 1 0 (vdT g l f).loop.length]]) [.cells 1 ((vdT g l f).stem.map enI),.cells 1 ((vdT g l f).loop.map enI)]:=by
 have c1:=z390 g hg
 have c2:=z138 l hl.1 hl.2
 have c3:=z113 f hf
 have cN:=z574 f hf
 have cF:=z422 g hg l hl (ngA f) (ngA_mx f)
 have hno:=@z937 g l (ngA f)
 unfold vdI vdT
 unfold glB
 generalize ftL g l (ngA f)=tl at *
 generalize (ftO g l (ngA f)).isSome=tb at *
 generalize ngA f=a at *
 generalize ngS f=z at *
 rw [y16 f] at *
 generalize z443 g=b1 at *
 generalize z85 l=b2 at *
 generalize f.fmB=b3 at *
 cases b1
 ·refine z7 z16 Tryz.func11 rfl rfl 44 Tryz.ntmps11 (by simp) ?_
  repeat' ((first|(apply y4 ok;rfl)|(apply z6 (c1);rfl;rfl))<;>conv=>whnf)
  all_goals (refine y88 1 ?_;refine y88 1 ?_;refine rsD [3,4] [] rfl ?_;(repeat' first|exact y85 _|exact z47|refine z10 rfl (z31) ?_|apply z46|apply z93|constructor))
 cases b2
 ·refine z7 z16 Tryz.func11 rfl rfl 44 Tryz.ntmps11 (by simp) ?_
  repeat' ((first|(apply y4 ok;rfl)|(apply z6 (c1);rfl;rfl)|(apply z6 (c2);rfl;rfl))<;>conv=>whnf)
  all_goals (refine y88 1 ?_;refine y88 1 ?_;refine rsD [3,4] [] rfl ?_;(repeat' first|exact y85 _|exact z47|refine z10 rfl (z31) ?_|apply z46|apply z93|constructor))
 cases b3
 ·refine z7 z16 Tryz.func11 rfl rfl 44 Tryz.ntmps11 (by simp) ?_
  repeat' ((first|(apply y4 ok;rfl)|(apply z6 (c1);rfl;rfl)|(apply z6 (c2);rfl;rfl)|(apply z6 (c3);rfl;rfl))<;>conv=>whnf)
  all_goals (refine y88 1 ?_;refine y88 1 ?_;refine rsD [3,4] [] rfl ?_;(repeat' first|exact y85 _|exact z47|refine z10 rfl (z31) ?_|apply z46|apply z93|constructor))
 cases z
 ·refine z7 z16 Tryz.func11 rfl rfl 44 Tryz.ntmps11 (by simp) ?_
  repeat' ((first|(apply y4 ok;rfl)|(apply z6 (c1);rfl;rfl)|(apply z6 (c2);rfl;rfl)|(apply z6 (c3);rfl;rfl)|(apply z6 (cN);rfl;rfl))<;>conv=>whnf)
  all_goals (refine y88 1 ?_;refine y88 1 ?_;refine rsD [4,5] [] rfl ?_;(repeat' first|exact y85 _|exact z47|refine z10 rfl (z31) ?_|apply z46|apply z93|constructor))
 cases tb
 ·have hno:=hno rfl
  subst hno
  refine z7 z16 Tryz.func11 rfl rfl 44 Tryz.ntmps11 (by simp) ?_
  repeat' ((first|(apply y4 ok;rfl)|(apply z6 (c1);rfl;rfl)|(apply z6 (c2);rfl;rfl)|(apply z6 (c3);rfl;rfl)|(apply z6 (cN);rfl;rfl)|(apply z8 [] [4,5] cF;rfl;rfl;rfl;(focus ((repeat' first|exact z12|apply z11)<;>(refine z17 ?_;((exact z4 fun _=>rfl)))))))<;>conv=>whnf)
  all_goals (refine rsD [4,5] [] rfl ?_;(repeat' first|exact y85 _|exact z47|refine z10 rfl (z31) ?_|apply z46|apply z93|constructor))
 ·refine z7 z16 Tryz.func11 rfl rfl 44 Tryz.ntmps11 (by simp) ?_
  repeat' ((first|(apply y4 ok;rfl)|(apply z26;kernel_rfl)|(apply z6 (c1);rfl;rfl)|(apply z6 (c2);rfl;rfl)|(apply z6 (c3);rfl;rfl)|(apply z6 (cN);rfl;rfl)|(apply z8 [] [4,5] cF;rfl;rfl;rfl;(focus ((repeat' first|exact z12|apply z11)<;>(refine z17 ?_;((exact z4 fun _=>rfl)))))))<;>conv=>whnf)
  all_goals (refine rsD [4,5] [] rfl ?_;(repeat' first|exact y85 _|exact z9 _|refine z10 rfl (z4 (fun _=>rfl)) ?_|constructor))
def stsL (g:Graph) (p:List Int):List State:=p.map fun i=>g.st.getD i.toNat ⟨[],[]⟩
theorem stsL_len (g:Graph) (p:List Int):(stsL g p).length=p.length:=by simp [stsL]
theorem zrep_le {n:Nat} : F2 (F2 LocLe) (List.replicate n [AC.nils,AC.nils]) (List.replicate n (⟨[],[]⟩:State).cs):=by
 induction n with
 |zero=>exact .nil
 |succ n ih=>exact .cons (.cons z41 (.cons z41 .nil)) ih
set_option maxHeartbeats 3200000 in
theorem z292 (g:Graph) (hg:∀ s∈g.st,s.sm) (hn:g.st.length≤1000) (p:List Int) (hp:∀ x∈p,0≤x∧x < g.st.length) (hl:p.length≤100000):CallsA Tryz.prog 44 [.agg g.cs,ints p] [] (lst 2 State.cs (stsL g p)) []:=by
 have hL:=stsL_len g p
 refine z7 z16 Tryz.func44 rfl rfl 29 Tryz.ntmps44 (by simp) ?_
 repeat' ((first|(apply y4 ok;rfl)|(apply y43;(dsimp only;omega)))<;>conv=>whnf)
 refine z58 (fun i:Nat=>([(2,.ptr 0 none 0),(5,.sref 1 0 p.length),(11,ints p),(12,.int p.length),(13,.int i)],[.cells 2 [g.cs],.cells 2 (((stsL g p).take i).map State.cs++List.replicate ((stsL g p).length - i) (⟨[],[]⟩:State).cs)])) (fun i=>i≤p.length) (fun i=>p.length - i) 0 (y53 _) (by refine swR [0,1] [] rfl rfl ?_;(repeat' first|exact y85 _|apply y86|refine z10 rfl (z69 rfl) ?_|constructor)<;>((rw [hL];exact zrep_le))) ?_
 intro i hi
 by_cases hil:i < p.length
 ·have hx:=hp _ (y44 hil)
  have gk:(p.map enI)[i]?=some (enI p[i]):=by rw [y51,y45 hil];rfl
  obtain ⟨u,hu⟩:∃ u:Nat,p[i]=u:=⟨p[i].toNat,by omega⟩
  have hul:u < g.st.length:=by omega
  have gs:(g.st.map State.cs)[u]?=some (State.cs g.st[u]):=by rw [y51,y45 hul];rfl
  have hiL:i < (stsL g p).length:=by omega
  have eL:(stsL g p)[i]=g.st[u]:=by
   simp only [stsL,List.getElem_map]
   rw [hu,y76,z19 hul]
  have cc:=z783 g.st[u] (hg _ (y44 hul))
  have ef:=z941 State.cs (stsL g p) (⟨[],[]⟩:State).cs i hiL
  have gf:=z942 State.cs (stsL g p) (⟨[],[]⟩:State).cs i hiL
  have lf:(((stsL g p).take i).map State.cs++List.replicate ((stsL g p).length - i) (⟨[],[]⟩:State).cs).length=p.length:=by simp;omega
  have hFf:Flat (((stsL g p).take i).map State.cs++List.replicate ((stsL g p).length - i) (⟨[],[]⟩:State).cs):=z92 (z4 fun _=>rfl) (z69 rfl)
  rw [eL] at ef
  rw [hu] at gk
  generalize g.st[u]=t at *
  generalize hF:((stsL g p).take i).map State.cs++List.replicate ((stsL g p).length - i) (⟨[],[]⟩:State).cs=F at *
  unfold z24 at cc
  repeat' ((first|(apply y4 ok;rfl)|(refine z15 (i:=i) rfl gk ?_)|(refine z15 (i:=u) rfl gs ?_)|(refine z15 (i:=i) rfl gf ?_)|(apply y43;first|omega|(unfold inI;omega))|((apply z5)<;>intro _)|(apply z6 (cc);rfl;rfl))<;>conv=>whnf)
  all_goals try (exfalso;omega)
  all_goals refine z21 (i+1) hil (by omega) (by refine swR [0,1] [] rfl rfl ?_;(repeat' first|exact y85 _|apply y86|((refine z50 rfl ?_ ?_);(focus ((repeat' (assumption));done)))|constructor)<;>((refine z45 ?_;exact ef)))
 ·obtain rfl:i=p.length:=by omega
  have e:((stsL g p).take p.length).map State.cs++List.replicate ((stsL g p).length - p.length) (⟨[],[]⟩:State).cs=(stsL g p).map State.cs:=by
   rw [hL,Nat.sub_self,← hL,y55];simp
  rw [e,← hL]
  repeat' ((first|(apply y4 ok;rfl)|(apply y43;omega)|((first|(with_reducible apply z13;omega)|(with_reducible apply z144;omega));intro _)|((apply z5)<;>intro _))<;>conv=>whnf)
  all_goals try (exfalso;omega)
  all_goals (refine rsD [] [1] rfl ?_;(repeat' first|exact y85 _|((apply z37 rfl rfl rfl);(focus ((repeat ((exact z23 (fun _=>rfl) _)));done));(focus (((simp;done));done)))|constructor))
end Go.Proofs.YtnfoijopccdjeaaGreat
namespace Go.Proofs.YtnfoijopccdjeaaGreat
open Go.Gl
attribute [local irreducible] z18 AWP z30 z36 z32
def pick (bl:List Int) (p:Int):Int:=bl.getD p.toNat 0
def letW (l:List Int):Bool:=!(l.any fun n=>!btw n 0 7)
def lasB (t:Trace):Bool:=letW t.stem && (letW t.loop && (decide (t.stem.length≤80) && btw t.loop.length 1 80))
def z804 (L:List Int) (t:Trace):Trace:=⟨t.stem.map (pick L),t.loop.map (pick L)⟩
noncomputable def twB (g:Graph) (l:List Tree) (t:Trace):Bool:=glB g l && (trB g t && lasB (z804 (g.st.map (z59 l)) t))
noncomputable def twT (g:Graph) (l:List Tree) (t:Trace):Trace:=if twB g l t then z804 (g.st.map (z59 l)) t else ⟨[],[]⟩
end Go.Proofs.YtnfoijopccdjeaaGreat
namespace Go.Proofs.YtnfoijopccdjeaaGreat
open Go.Gl
attribute [local irreducible] z18 AWP z30 z36 z32 RetS z38
def nxW (N s:Nat) (i:Nat):Int:=if i+1=N then (s:Int) else ((i+1:Nat):Int)
def pushW (a:Aut) (word:List Int) (s i:Nat):List (Nat×Int):=a.ed.flatMap (z452 a.acc.length i (word.getD i 0) (nxW word.length s i))
def accW (a:Aut) (word:List Int) (s:Nat):List (List Int):=build (word.length * a.acc.length) ((List.range word.length).flatMap (pushW a word s))
theorem nxW_in {N s i:Nat} (hs:s < N) (hi:i < N):0≤nxW N s i∧nxW N s i≤N - 1:=by unfold nxW;split<;>omega
def BackR {α:Type} (M:Nat) (Gc:Ghost) (wc:World) (rest:α→List AObj) (L:List Int) (env:List (Nat×AC)) (x:α) (a:Act) (w:World):Prop :=
 ∃ G,SubM M Gc G∧Le wc w∧Rel G (mkSt 19 env (.cells 1 [[ints L]]::rest x)) a w
def IsSt {α:Type} (rest:α→List AObj) (L:List Int) (x:α) (env' : List (Nat×AC)) (st:St):Prop:=st=mkSt 19 env' (.cells 1 [[ints L]]::rest x)
theorem BackR.step {α : Type} {M : Nat} {Gc : Ghost} {wc : World} {rest : α → List AObj} {L : List Int} {env env' : List (Nat × AC)} {x : α} {a : Act} {w : World} {c : Code}
    (h:BackR M Gc wc rest L env x a w) (hc:AWP Tryz.prog M c (z628 (IsSt rest L x env') (fun _ _=>False)) (mkSt 19 env (.cells 1 [[ints L]]::rest x))) {K:Act→World→Prop} {Q:Exit→Act→World→Prop}
    (hk:∀ a w,BackR M Gc wc rest L env' x a w→K a w):c.wpIn Fence.wide 0 Tryz.prog (Exit.then K Q) a w:=by
  obtain ⟨G,h1,h2,h3⟩:=h
  refine wpIn_mono (hc.at_ h3) ?_
  rintro ex a' w' ⟨G',st',k1,k2,k3,k4⟩
  cases ex with
  | normal =>
    have k3:st'=_:=k3
    subst k3
    exact hk _ _ ⟨G',h1.trans k1,h2.trans k2,k4⟩
  | _=>exact k3.elim
theorem BackR.less {α:Type} {M:Nat} {Gc:Ghost} {wc:World} {rest:α→List AObj} {L:List Int} {env env' : List (Nat×AC)} {x:α} {a:Act} {w:World} (h:BackR M Gc wc rest L env x a w) (he:z772 (fun s y=>z95 env s=y) env'):BackR M Gc wc rest L env' x a w:=by
 obtain ⟨G,h1,h2,h3⟩:=h
 refine ⟨G,h1,h2,h3.wf,fun s=>?_,h3.size,h3.defers⟩
 rcases z351 env' _ he s with e|e
 ·show V _ _ _ (z95 env' s) _
  rw [e];simp [V]
 ·have:=h3.env s
  show V _ _ _ (z95 env' s) _
  rw [← e];exact this
theorem BackR.val {α:Type} {M:Nat} {Gc:Ghost} {wc:World} {rest:α→List AObj} {L:List Int} {env:List (Nat×AC)} {x:α} {a:Act} {w:World} (h:BackR M Gc wc rest L env x a w) {s:Nat} {v:Value} (he:z95 env s=.raw v):a.tmps.getD s undef=v:=by
 obtain ⟨G,_,_,hR⟩:=h
 have:=hR.env s
 rw [show (mkSt 19 env (.cells 1 [[ints L]]::rest x)).env s=z95 env s from rfl,he] at this
 simpa only [V] using this
def NoAcc (rows:List (List Int)) (ini:List Int) (acc:List Bool):Prop:=∀ x,RP rows ini x→Cyc rows x→acc.getD (x % acc.length).toNat false=false
section
variable {rows:List (List Int)} {ini:List Int} {acc:List Bool} {R:List Int}
end
end Go.Proofs.YtnfoijopccdjeaaGreat
namespace Go.Proofs.YtnfoijopccdjeaaGreat
open Go.Gl
attribute [local irreducible] z18 AWP z30 z36 z32 RetS z38
attribute [local irreducible] EndR
theorem z1065 {g:Graph} {ls:List Int} {a:Aut} (hr:∀ r∈z55 g ls a,InN (z55 g ls a).length r) (hi:InN (z55 g ls a).length a.ini) (hn:a.ini.Nodup) (h:trcO g ls a=none):NoAcc (z55 g ls a) a.ini a.acc:=by
 unfold trcO at h
 rw [Option.map_eq_none_iff,← z319 hr hi hn,z747] at h
 intro x hx hc
 have hxN:=RP.in hr hi hx
 have:=h x ((z887 hr hi x).2 hx)
 cases hb:a.acc.getD (x % a.acc.length).toNat false with
 |false=>rfl
 |true =>
  exfalso
  apply this
  refine ⟨hb,z323.2 ?_⟩
  rw [Int.toNat_of_nonneg hxN.1];exact hc
end Go.Proofs.YtnfoijopccdjeaaGreat
namespace Go.Proofs.YtnfoijopccdjeaaGreat
open Go.Gl
attribute [local irreducible] z18 AWP z30 z36 z32
end Go.Proofs.YtnfoijopccdjeaaGreat
namespace Go.Proofs.YtnfoijopccdjeaaGreat
open Go.Gl
attribute [local irreducible] z18 AWP z30 z36 z32 RetS z38
theorem z1121 {g:Graph} {ls:List Int} {a:Aut} (hr:∀ r∈z55 g ls a,InN (z55 g ls a).length r) (hi:InN (z55 g ls a).length a.ini) (hn:a.ini.Nodup) (h:NoAcc (z55 g ls a) a.ini a.acc):trcO g ls a=none:=by
 unfold trcO
 rw [Option.map_eq_none_iff,← z319 hr hi hn,z747]
 rintro v hv ⟨h1,h2⟩
 have hvN:=z615 hr hi _ v hv
 have hc:=z323.1 h2
 rw [Int.toNat_of_nonneg hvN.1] at hc
 have:=h v ((z887 hr hi v).1 hv) hc
 rw [h1] at this;cases this
theorem z550 {N:Nat} {ps:List (Nat×Int)} {r:Nat} {y:Int} : y∈(build N ps).getD r []↔r < N∧(r,y)∈ps:=by
 by_cases h:r < N
 ·rw [z19 (by rw [z128];exact h),z405 (by rw [z128];exact h)]
  simp only [y59,List.mem_filter,beq_iff_eq,h,true_and]
  constructor
  ·rintro ⟨⟨p,v⟩,⟨h1,h2⟩,h3⟩
   dsimp only at h2 h3
   subst h2;subst h3;exact h1
  ·intro h1;exact ⟨(r,y),⟨h1,rfl⟩,rfl⟩
 ·have e:(build N ps).getD r []=[]:=by rw [y67,y68 (by rw [z128];omega)];rfl
  rw [e];simp [h]
theorem z1105 {g:Graph} {ls:List Int} {a:Aut} {i:Nat} {to:Int} {e:Trans} (hsrc:e.src.toNat < a.acc.length) (hi:i < g.st.length) (hto:to∈g.nx.getD i []) (he:e∈a.ed) (hon:onB e (ls.getD i 0)=true):to * a.acc.length+e.dst∈(z55 g ls a).getD (i * a.acc.length+e.src.toNat) []:=by
 unfold z55
 refine z550.2 ⟨?_,List.mem_flatMap.2 ⟨i,List.mem_range.2 hi,?_⟩⟩
 ·have h1:(i+1) * a.acc.length≤g.st.length * a.acc.length:=Nat.mul_le_mul_right _ hi
  rw [Nat.add_mul,Nat.one_mul,Nat.mul_comm g.st.length] at h1
  omega
 ·unfold z731
  refine List.mem_flatMap.2 ⟨to,hto,List.mem_flatMap.2 ⟨e,he,?_⟩⟩
  unfold z452
  rw [if_pos hon];simp
section
variable {g:Graph} {ls:List Int} {a:Aut} {t:Trace}
theorem word_all:(z804 ls t).all=t.all.map (pick ls):=by unfold Trace.all z804;simp
end
end Go.Proofs.YtnfoijopccdjeaaGreat
namespace Go.Proofs.YtnfoijopccdjeaaGreat
open Go.Gl
attribute [local irreducible] z18 AWP z30 z36 z32 RetS z38
def AccP (a:Aut) (t:Trace):Prop:=∃ x,RP (accW a t.all t.stem.length) a.ini x∧Cyc (accW a t.all t.stem.length) x∧a.acc.getD (x % a.acc.length).toNat false=true
noncomputable def accR (a:Aut) (t:Trace):Bool:=@decide (AccP a t) (Classical.propDecidable _)
theorem accR_iff {a:Aut} {t:Trace} : accR a t=true↔AccP a t:=by unfold accR;exact @decide_eq_true_iff _ (Classical.propDecidable _)
theorem z468 {g:Graph} {ls:List Int} {a:Aut} {x y:Int} (hx:0≤x) (h:y∈(z55 g ls a).getD x.toNat []) (hA:AutP a):∃ (i:Nat) (to:Int) (e:Trans),i < g.st.length∧to∈g.nx.getD i []∧e∈a.ed∧onB e (ls.getD i 0)=true∧x / a.acc.length=i∧x % a.acc.length=e.src∧y / a.acc.length=to∧y % a.acc.length=e.dst:=by
 unfold z55 at h
 obtain ⟨_,h⟩:=z550.1 h
 unfold z729 at h
 obtain ⟨i,hi,h⟩:=List.mem_flatMap.1 h
 unfold z731 at h
 obtain ⟨to,hto,h⟩:=List.mem_flatMap.1 h
 unfold z730 at h
 obtain ⟨e,he,h⟩:=List.mem_flatMap.1 h
 unfold z452 at h
 split at h
 ·rename_i hon
  simp only [y54,Prod.mk.injEq] at h
  obtain ⟨h1,h2⟩:=h
  have hE:=hA.2.2.2 e he
  unfold z426 at hE
  have hac:=hA.1
  have hn:(a.acc.length:Int)≠0:=by omega
  have hm:((i * a.acc.length:Nat):Int)=(i:Int) * a.acc.length:=by simp
  have hxe:x=(i:Int) * a.acc.length+e.src:=by omega
  have d1:∀ (b q:Int),0≤q→q < a.acc.length→(b * a.acc.length+q) / (a.acc.length:Int)=b∧(b * a.acc.length+q) % (a.acc.length:Int)=q:=fun b q q0 q1 =>
   ⟨by rw [Int.add_comm,Int.add_mul_ediv_right _ _ hn,Int.ediv_eq_zero_of_lt q0 q1,Int.zero_add],by rw [Int.add_comm,Int.add_mul_emod_self_right,Int.emod_eq_of_lt q0 q1]⟩
  have k1:=d1 i e.src hE.1.1 (by omega)
  have k2:=d1 to e.dst hE.2.1.1 (by omega)
  exact ⟨i,to,e,List.mem_range.1 hi,hto,he,hon,by rw [hxe];exact k1.1,by rw [hxe];exact k1.2,by rw [h2];exact k2.1,by rw [h2];exact k2.2⟩
 ·cases h
structure FndP (g:Graph) (ls:List Int) (a:Aut) (s q:List Int):Prop where
 inn:∀ x∈s++q,0≤x
 path:PathP (z55 g ls a) (s++q)
 ini:(s++q).getD 0 0∈a.ini
 pos:0 < q.length
 back:q.getD 0 0∈(z55 g ls a).getD (q.getD (q.length - 1) 0).toNat []
 acc:a.acc.getD (q.getD 0 0 % a.acc.length).toNat false=true
section
variable {g:Graph} {ls:List Int} {a:Aut} {s q:List Int}
theorem FndP.step (h:FndP g ls a s q) {k:Nat} (hk:k < (s++q).length):(s++q).getD (nxW (s++q).length s.length k).toNat 0∈(z55 g ls a).getD ((s++q).getD k 0).toNat []:=by
 have hl:(s++q).length=s.length+q.length:=by simp
 have hsq:∀ j,(s++q).getD (s.length+j) 0=q.getD j 0:=fun j=>by
  rw [y67,y67,y66 (by omega),show s.length+j - s.length=j by omega]
 have hp:=h.pos
 unfold nxW
 split
 ·rename_i e
  rw [y76,show s.length=s.length+0 by omega,hsq,show k=s.length+(q.length - 1) by omega,hsq]
  exact h.back
 ·rw [y76];exact h.path k (by omega)
theorem z587 {l:List Int} {n k:Nat} (hk:k < l.length):(stL l n).getD k 0=l.getD k 0 / n:=by
 unfold stL;rw [z19 (by simpa using hk),List.getElem_map,z19 hk]
theorem FndP.word (hA:AutP a) (h:FndP g ls a s q) {w:List Int} (hw:w.length=(s++q).length) (hwl:∀ k,k < w.length→w.getD k 0=ls.getD ((s++q).getD k 0 / a.acc.length).toNat 0):∃ x,RP (accW a w s.length) a.ini x∧Cyc (accW a w s.length) x∧a.acc.getD (x % a.acc.length).toNat false=true:=by
 have hac:=hA.1
 have hn:(a.acc.length:Int)≠0:=by omega
 have hl:(s++q).length=s.length+q.length:=by simp
 have hp:=h.pos
 have hsq0:(s++q).getD s.length 0=q.getD 0 0:=by
  rw [y67,y67,y66 (y52 _),Nat.sub_self]
 obtain ⟨P,hP⟩:∃ P:Nat→Int,P=fun (k:Nat)=>(k:Int) * a.acc.length+(s++q).getD k 0 % a.acc.length:=⟨_,rfl⟩
 have hP0:∀ k,0≤P k:=fun k=>by
  rw [hP]
  have:=Int.mul_nonneg (show (0:Int)≤k by omega) (show (0:Int)≤a.acc.length by omega)
  have:=Int.emod_nonneg ((s++q).getD k 0) hn
  dsimp only;omega
 have hPm:∀ k,P k % (a.acc.length:Int)=(s++q).getD k 0 % a.acc.length:=fun k=>by
  rw [hP];dsimp only
  rw [Int.add_comm,Int.add_mul_emod_self_right,Int.emod_emod_of_dvd _ (Int.dvd_refl _)]
 have edge:∀ k,k < w.length→P (nxW w.length s.length k).toNat∈(accW a w s.length).getD (P k).toNat []:=fun k hk=>by
  have hst:=h.step (k:=k) (by omega)
  rw [← hw] at hst
  have hx0:=h.inn ((s++q).getD k 0) (by rw [z19 (by omega)];exact y44 _)
  obtain ⟨i,to,e,h1,h2,h3,h4,h5,h6,h7,h8⟩:=z468 hx0 hst hA
  have hE:=hA.2.2.2 e h3
  unfold z426 at hE
  have hnx:=nxW_in (N:=w.length) (s:=s.length) (i:=k) (by omega) hk
  have hon:onB e (w.getD k 0)=true:=by rw [hwl k hk,h5,y76];exact h4
  have hm:((k * a.acc.length:Nat):Int)=(k:Int) * a.acc.length:=by simp
  have e1:(P k).toNat=k * a.acc.length+e.src.toNat:=by
   rw [hP];dsimp only;rw [h6];omega
  have e2:P (nxW w.length s.length k).toNat=nxW w.length s.length k * a.acc.length+e.dst:=by
   rw [hP];dsimp only;rw [h8,Int.toNat_of_nonneg hnx.1]
  rw [e1,e2]
  unfold accW
  refine z550.2 ⟨?_,List.mem_flatMap.2 ⟨k,List.mem_range.2 hk,?_⟩⟩
  ·have h9:(k+1) * a.acc.length≤w.length * a.acc.length:=Nat.mul_le_mul_right _ hk
   rw [Nat.add_mul,Nat.one_mul] at h9
   omega
  ·unfold pushW
   refine List.mem_flatMap.2 ⟨e,h3,?_⟩
   unfold z452
   rw [if_pos hon];simp
 have rp:∀ k,k < w.length→RP (accW a w s.length) a.ini (P k):=by
  intro k
  induction k with
  |zero =>
   intro _
   refine .base ?_
   have hi:=h.ini
   obtain ⟨j,hj,e⟩:=List.mem_iff_getElem.1 hi
   have h5:=(hA.2.2.1 j hj hj).1
   rw [e] at h5
   have:P 0=(s++q).getD 0 0:=by rw [hP];dsimp only;rw [Int.emod_eq_of_lt h5.1 (by omega)];simp
   rw [this];exact hi
  |succ k ih =>
   intro hk
   have:=edge k (by omega)
   unfold nxW at this
   rw [if_neg (by omega),y76] at this
   exact .step (ih (by omega)) this
 have round:∀ d k,k+d+1=w.length→s.length≤k→RP (accW a w s.length) [P k] (P s.length):=by
  intro d
  induction d with
  |zero =>
   intro k hk _
   have:=edge k (by omega)
   unfold nxW at this
   rw [if_pos (by omega),y76] at this
   exact .step (.base (by simp)) this
  |succ d ih =>
   intro k hk hs
   have:=edge k (by omega)
   unfold nxW at this
   rw [if_neg (by omega),y76] at this
   exact RP.trans (.base (by simp)) this (ih (k+1) (by omega) (by omega))
 refine ⟨P s.length,rp _ (by omega),⟨_,edge s.length (by omega),?_⟩,by rw [hPm,hsq0];exact h.acc⟩
 unfold nxW
 split
 ·rw [y76];exact .base (by simp)
 ·rw [y76];exact round (w.length - (s.length+1) - 1) (s.length+1) (by omega) (by omega)
end
end Go.Proofs.YtnfoijopccdjeaaGreat
namespace Go.Proofs.YtnfoijopccdjeaaGreat
open Go.Gl
attribute [local irreducible] z18 AWP z30 z36 z32
def GPath (g:Graph) (π:Nat→Int):Prop:=π 0=0∧∀ k,π (k+1)∈g.nx.getD (π k).toNat []
def gW (g:Graph) (l:List Tree) (π:Nat→Int) (k:Nat):Int:=(g.st.map (z59 l)).getD (π k).toNat 0
theorem GPath.inn {g:Graph} (hG:GB g) {π:Nat→Int} (h:GPath g π):∀ k,0≤π k∧π k < g.st.length
 |0=>by have:=hG.1;rw [h.1];omega
 |k+1=>by
  have ih:=GPath.inn hG h k
  have hl:=hG.2.1
  have h1:=h.2 k
  rw [z19 (by omega)] at h1
  exact (hG.row _ (by omega)).2.2 _ h1
theorem gW_nn {g:Graph} {l:List Tree} (hL:z172 l) (π:Nat→Int) (k:Nat):0≤gW g l π k:=by
 unfold gW
 by_cases h:(π k).toNat < (g.st.map (z59 l)).length
 ·rw [z19 h,List.getElem_map]
  exact (z439 hL _).1
 ·rw [y67,y68 (by omega)];exact Int.le_refl _
theorem divmod {n b q:Int} (hn:0 < n) (q0:0≤q) (q1:q < n):(b * n+q) / n=b∧(b * n+q) % n=q :=
 ⟨by rw [Int.add_comm,Int.add_mul_ediv_right _ _ (by omega),Int.ediv_eq_zero_of_lt q0 q1,Int.zero_add],by rw [Int.add_comm,Int.add_mul_emod_self_right,Int.emod_eq_of_lt q0 q1]⟩
def ARun (a:Aut) (w:Nat→Int) (ρ:Nat→Int):Prop:=ρ 0∈a.ini∧(∀ k,∃ e∈a.ed,e.src=ρ k∧e.dst=ρ (k+1)∧onB e (w k)=true)∧∀ m,∃ k,m≤k∧a.acc.getD (ρ k).toNat false=true
theorem fto_iff {g:Graph} {l:List Tree} {a:Aut} (h1:(glB g l && autB a)=true):(ftO g l a).isSome=true↔∃ π ρ:Nat→Int,GPath g π∧ARun a (gW g l π) ρ:=by
 obtain ⟨h3,hab⟩:=Bool.and_eq_true_iff.1 h1
 have hG:=(z150 g).1 (by unfold glB at h3;exact (Bool.and_eq_true_iff.1 h3).1)
 have hA:=z170.1 hab
 obtain ⟨f1,f2,f3,f4,f5⟩:=z315 hG hA (g.st.map (z59 l))
 have hnd:=hA.2.2.1.nd
 have hac:=hA.1
 have hn:(0:Int) < a.acc.length:=by omega
 have hini:=fun x hx=>(show InN (z55 g (g.st.map (z59 l)) a).length a.ini from f2) x hx
 have e1:ftO g l a=trcO g (g.st.map (z59 l)) a:=by unfold ftO;rw [if_pos h1]
 have e2:(ftO g l a).isSome=true↔∃ x,RP (z55 g (g.st.map (z59 l)) a) a.ini x∧a.acc.getD (x % a.acc.length).toNat false=true∧Cyc (z55 g (g.st.map (z59 l)) a) x:=by
  rw [e1]
  constructor
  ·intro h
   refine y77 fun hno=>?_
   have:NoAcc (z55 g (g.st.map (z59 l)) a) a.ini a.acc:=fun x hx hc=>by
    cases hb:a.acc.getD (x % a.acc.length).toNat false with
    |false=>rfl
    |true=>exact absurd ⟨x,hx,hb,hc⟩ hno
   rw [z1121 f1 f2 hnd this] at h
   cases h
  ·rintro ⟨x,hx,hb,hc⟩
   cases ht:trcO g (g.st.map (z59 l)) a with
   |some p=>rfl
   |none =>
    have:=z1065 f1 f2 hnd ht x hx hc
    rw [hb] at this;cases this
 have e3:=inf_iff (acc:=fun x=>a.acc.getD (x % a.acc.length).toNat false=true) f1 f2
 rw [e2,← e3]
 constructor
 ·rintro ⟨σ,s0,s1,s2⟩
  have hin:=runInN f1 s1 (f2 _ s0)
  have hst:=fun k=>z468 (hin k).1 (s1 k) hA
  obtain ⟨i0,hi0,ei0⟩:=List.mem_iff_getElem.1 s0
  have hr0:=(hA.2.2.1 i0 hi0 hi0).1
  rw [ei0] at hr0
  have hd0:=divmod (b:=0) hn hr0.1 (show σ 0 < a.acc.length by omega)
  rw [Int.zero_mul,Int.zero_add] at hd0
  refine ⟨fun k=>σ k / a.acc.length,fun k=>σ k % a.acc.length,⟨hd0.1,fun k=>?_⟩,by show σ 0 % _∈_;rw [hd0.2];exact s0,fun k=>?_,s2⟩
  ·obtain ⟨i,to,e,c1,c2,c3,c4,c5,c6,c7,c8⟩:=hst k
   show σ (k+1) / _∈g.nx.getD (σ k / a.acc.length).toNat []
   rw [c7,c5,y76];exact c2
  ·obtain ⟨i,to,e,c1,c2,c3,c4,c5,c6,c7,c8⟩:=hst k
   refine ⟨e,c3,c6.symm,c8.symm,?_⟩
   unfold gW
   show onB e ((g.st.map (z59 l)).getD (σ k / a.acc.length).toNat 0)=true
   rw [c5,y76];exact c4
 ·rintro ⟨π,ρ,hp,r0,r1,r2⟩
  have hin:=hp.inn hG
  have hrr:∀ k,0≤ρ k∧ρ k < a.acc.length:=fun k=>by
   obtain ⟨e,he,c1,c2,_⟩:=r1 k
   have hE:=hA.2.2.2 e he
   unfold z426 at hE
   omega
  refine ⟨fun k=>π k * a.acc.length+ρ k,?_,fun k=>?_,fun m=>?_⟩
  ·show π 0 * _+ρ 0∈_
   rw [hp.1,Int.zero_mul,Int.zero_add];exact r0
  ·obtain ⟨e,he,c1,c2,c3⟩:=r1 k
   have hE:=hA.2.2.2 e he
   unfold z426 at hE
   have h4:=z1105 (g:=g) (ls:=g.st.map (z59 l)) (a:=a) (i:=(π k).toNat) (to:=π (k+1)) (e:=e) (by omega) (by have:=hin k;omega) (hp.2 k) he c3
   show π (k+1) * _+ρ (k+1)∈(z55 g (g.st.map (z59 l)) a).getD (π k * a.acc.length+ρ k).toNat []
   rw [c2] at h4
   have h5:(π k * a.acc.length+ρ k).toNat=(π k).toNat * a.acc.length+e.src.toNat:=by
    rw [c1]
    obtain ⟨i,hi⟩:=Int.eq_ofNat_of_zero_le (hin k).1
    obtain ⟨r,hr⟩:=Int.eq_ofNat_of_zero_le (hrr k).1
    rw [hi,hr,y76,y76]
    norm_cast
   rw [h5];exact h4
  ·obtain ⟨k,k1,k2⟩:=r2 m
   refine ⟨k,k1,?_⟩
   show a.acc.getD ((π k * a.acc.length+ρ k) % a.acc.length).toNat false=true
   rw [(divmod hn (hrr k).1 (hrr k).2).2];exact k2
theorem z906 (t:Tree) (hs:t.sz≤200) (h:tsB t=true) {w:Nat→Int} (hw:∀ k,0≤w k):(∃ ρ,ARun (trA t) w ρ)↔t.sem w 0:=by
 unfold tsB at h
 unfold trA
 unfold trO at *
 by_cases hb:bscB t=true
 ·rw [if_pos hb] at *
  obtain ⟨⟨ht,hn⟩,h5⟩:=of_decide_eq_true (show decide _=true from hb)
  obtain ⟨hB,hIn,_⟩:=z686 ht hn h5 hs
  have hg:=y23 ht
  have hsem:=sem_nrm w t hg false 0
  rw [if_neg (by simp)] at hsem
  have hNF:=nrm_NF t hg false
  have hNB:∀ x∈bscL (t.nrm false),NF x:=fun x hx=>z909 (p:=NF) (fun x hx=>hx.kids) (t.nrm false) [] hNF (by simp) x (List.mem_filter.1 hx).1
  rw [← hsem]
  clear hsem hg ht hn
  generalize t.nrm false=g at *
  generalize bscL g=B at *
  have hBk:BOk B:=⟨hB.nd,hB.cl,hB.bk,hB.av⟩
  cases hS:trS B g with
  |none=>rw [hS] at h;cases h
  |some y =>
   obtain ⟨hT,suf,hL⟩:=trS_T hS
   have hIL:(iniS B g).length≤y.L.length:=by rw [hL];simp
   show (∃ ρ,ARun (z362 (iniS B g).length y) w ρ)↔_
   have hmI:∀ x,x∈numI (iniS B g).length↔∃ i:Nat,x=i∧i < (iniS B g).length:=fun x=>by
    unfold numI
    rw [y59]
    exact ⟨fun ⟨i,hi,e⟩=>⟨i,e.symm,List.mem_range.1 hi⟩,fun ⟨i,e,hi⟩=>⟨i,List.mem_range.2 hi,e.symm⟩⟩
   constructor
   ·rintro ⟨ρ,r0,r1,r2⟩
    obtain ⟨i0,ei0,hi0⟩:=(hmI _).1 r0
    have hL0:¬ y.L.length=0:=by omega
    have hacc:(z362 (iniS B g).length y).acc=y.acc:=by unfold z362;dsimp only;rw [if_neg hL0]
    have hst:∀ k,∃ e∈y.ed,e.src=ρ k∧e.dst=ρ (k+1)∧(((w k).toNat &&& e.care.toNat:Nat):Int)=e.val:=fun k=>by
     obtain ⟨e,he,c1,c2,c3⟩:=r1 k
     obtain ⟨e',he',rfl⟩:=List.mem_map.1 (show e∈y.ed.map eT from he)
     exact ⟨e',he',c1,c2,of_decide_eq_true c3⟩
    have hnn:∀ k,ρ k=((ρ k).toNat:Nat):=fun k=>by
     obtain ⟨e,he,c1,_⟩:=hst k
     obtain ⟨k',t,_,_,_,x1,_⟩:=hT.e1 e he
     omega
    refine tr_sound hBk hIn hS hw (ρ:=fun k=>(ρ k).toNat) ⟨by show (ρ 0).toNat < _;omega,fun k=>?_,fun m=>?_⟩
    ·obtain ⟨e,he,c1,c2,c3⟩:=hst k
     exact ⟨e,he,by rw [c1];exact hnn k,by rw [c2];exact hnn (k+1),c3⟩
    ·obtain ⟨k,k1,k2⟩:=r2 m
     rw [hacc] at k2
     exact ⟨k,k1,k2⟩
   ·intro hs
    obtain ⟨ρ,r0,r1,r2⟩:=z814 hBk hNB hNF hIn hS hw hs
    have hL0:¬ y.L.length=0:=by omega
    have hacc:(z362 (iniS B g).length y).acc=y.acc:=by unfold z362;dsimp only;rw [if_neg hL0]
    refine ⟨fun k=>(ρ k:Int),(hmI _).2 ⟨ρ 0,rfl,r0⟩,fun k=>?_,fun m=>?_⟩
    ·obtain ⟨e,he,c1,c2,c3⟩:=r1 k
     exact ⟨eT e,List.mem_map.2 ⟨e,he,rfl⟩,c1,c2,y81 c3⟩
    ·obtain ⟨k,k1,k2⟩:=r2 m
     refine ⟨k,k1,?_⟩
     rw [hacc,y76];exact k2
 ·rw [if_neg hb] at h;cases h
theorem z925 {t:Tree} (hg:t.goodF) (w:Nat→Int) (i:Nat):(negT t).sem w i↔¬ t.sem w i:=by
 unfold negT
 by_cases hk:t.kind=3
 ·rw [if_pos hk]
  cases y21 hg with
  |tr=>simp [Tree.kind] at hk
  |«at» v _ _=>simp [Tree.kind] at hk
  |bin k a b hk2 _ _=>simp only [Tree.kind] at hk;omega
  |un k a _ _ =>
   simp only [Tree.kind] at hk
   subst hk
   rw [z413,Classical.not_not]
   simp [Tree.kids]
 ·rw [if_neg hk,z375]
theorem z1049 {g:Graph} {l:List Tree} {f:Tree} (hgl:glB g l=true) (hs:ngS f=true):(ftO g l (ngA f)).isSome=true↔∃ π,GPath g π∧¬ f.sem (gW g l π) 0:=by
 have hv:=z740 hs
 have hL:=y8 (by unfold glB at hgl;exact (Bool.and_eq_true_iff.1 hgl).2)
 have h1:=hs
 unfold ngS at h1
 rw [y70] at h1
 have hz:=z519 h1.1
 have e1:ngA f=trA (negT f):=by unfold ngA ngT;rw [if_pos h1.1,if_pos h1.1]
 have e2:ngT f=negT f:=by unfold ngT;rw [if_pos h1.1]
 rw [e2] at h1 hz
 have hg:=y23 (ngB_fm h1.1)
 rw [fto_iff (by rw [hgl,hv];rfl)]
 constructor
 ·rintro ⟨π,ρ,hp,hr⟩
  rw [e1] at hr
  exact ⟨π,hp,(z925 hg _ _).1 ((z906 _ (by omega) h1.2 (gW_nn hL π)).1 ⟨ρ,hr⟩)⟩
 ·rintro ⟨π,hp,hn⟩
  obtain ⟨ρ,hr⟩:=(z906 _ (by omega) h1.2 (gW_nn hL π)).2 ((z925 hg _ _).2 hn)
  rw [← e1] at hr
  exact ⟨π,ρ,hp,hr⟩
theorem z1050 {g:Graph} {l:List Tree} {f:Tree} : vdI g l f=1↔(glB g l=true∧f.fmB=true∧ngS f=true)∧∃ π,GPath g π∧¬ f.sem (gW g l π) 0:=by
 unfold vdI
 by_cases h1:(glB g l && f.fmB)=true
 ·obtain ⟨h2,h3⟩:=Bool.and_eq_true_iff.1 h1
  rw [if_pos h1]
  by_cases h4:ngS f=true
  ·rw [if_pos h4]
   have hv:=z1049 h2 h4
   by_cases h5:(ftO g l (ngA f)).isSome=true
   ·rw [if_pos h5]
    exact ⟨fun _=>⟨⟨h2,h3,h4⟩,hv.1 h5⟩,fun _=>rfl⟩
   ·rw [if_neg h5]
    exact ⟨fun h=>(by cases h),fun ⟨_,h⟩=>absurd (hv.2 h) h5⟩
  ·rw [if_neg h4]
   exact ⟨fun h=>(by cases h),fun ⟨h,_⟩=>absurd h.2.2 h4⟩
 ·rw [if_neg h1]
  exact ⟨fun h=>(by cases h),fun ⟨h,_⟩=>absurd (by rw [h.1,h.2.1];rfl) h1⟩
end Go.Proofs.YtnfoijopccdjeaaGreat
namespace Go.Proofs.YtnfoijopccdjeaaGreat
open Go.Gl
attribute [local irreducible] z18 AWP z30 z36 z32 RetS z38
section
variable {g:Graph} {ls:List Int} {a:Aut} {s q:List Int}
theorem FndP.tr (hG:GB g) (hA:AutP a) (h:FndP g ls a s q) (hl8:s.length+q.length≤8000):trB g ⟨stL s a.acc.length,stL q a.acc.length⟩=true:=by
 have hac:=hA.1
 have hl:(s++q).length=s.length+q.length:=by simp
 have hp:=h.pos
 have hall:(Trace.mk (stL s a.acc.length) (stL q a.acc.length)).all=stL (s++q) a.acc.length:=by unfold Trace.all stL;simp
 have hsl:(stL s a.acc.length).length=s.length:=by simp [stL]
 have hql:(stL q a.acc.length).length=q.length:=by simp [stL]
 have hal:(stL (s++q) a.acc.length).length=s.length+q.length:=by simp [stL]
 have inv:∀ k,k < (s++q).length→∃ (i:Nat) (to:Int),i < g.st.length∧to∈g.nx.getD i []∧(s++q).getD k 0 / a.acc.length=i∧(s++q).getD (nxW (s++q).length s.length k).toNat 0 / a.acc.length=to:=fun k hk=>by
  obtain ⟨i,to,e,h1,h2,h3,h4,h5,h6,h7,h8⟩:=z468 (h.inn ((s++q).getD k 0) (by rw [z19 hk];exact y44 _)) (h.step hk) hA
  exact ⟨i,to,h1,h2,h5,h7⟩
 unfold trB
 simp only [y70,decide_eq_true_eq]
 refine ⟨⟨by rw [hql];exact hp,by rw [hsl,hql];exact hl8⟩,?_,?_,?_⟩
 ·rw [hall]
  refine z982 ((z150 _).2 hG) (by rw [hal];omega) fun k hk=>?_
  rw [hal] at hk
  have hk' : k < (s++q).length:=by omega
  obtain ⟨i,to,h1,h2,h3,h4⟩:=inv k hk'
  unfold z965
  rw [z587 hk',h3]
  simp only [y70,Bool.or_eq_true,decide_eq_true_eq]
  refine ⟨⟨by omega,by omega⟩,?_⟩
  by_cases hk0:k=0
  ·exact .inl hk0
  ·right
   obtain ⟨i',to',g1,g2,g3,g4⟩:=inv (k - 1) (by omega)
   unfold nxW at g4
   rw [if_neg (by omega),y76,show k - 1+1=k by omega,h3] at g4
   rw [z587 (by omega),g3,y76,g4]
   exact g2
 ·rw [hall,z587 (by omega)]
  obtain ⟨j,hj,e⟩:=List.mem_iff_getElem.1 h.ini
  have h5:=(hA.2.2.1 j hj hj).1
  rw [e] at h5
  exact Int.ediv_eq_zero_of_lt h5.1 (by omega)
 ·show (stL q a.acc.length).getD 0 0∈g.nx.getD ((stL q a.acc.length).getD ((stL q a.acc.length).length - 1) 0).toNat []
  rw [hql,z587 hp,z587 (by omega)]
  have hx0:=h.inn (q.getD (q.length - 1) 0) (by rw [z19 (by omega)];exact List.mem_append.2 (.inr (y44 _)))
  obtain ⟨i,to,e,h1,h2,h3,h4,h5,h6,h7,h8⟩:=z468 hx0 h.back hA
  rw [h7,h5,y76]
  exact h2
end
theorem z863 {g:Graph} {l:List Tree} {a:Aut} (h1:(glB g l && autB a)=true) {st lp:List Int} (h:ftO g l a=some (st,lp)):∃ s q,FndP g (g.st.map (z59 l)) a s q∧st=stL s a.acc.length∧lp=stL q a.acc.length∧s.length+q.length≤8000:=by
 obtain ⟨h3,hab⟩:=Bool.and_eq_true_iff.1 h1
 have hG:=(z150 g).1 (by unfold glB at h3;exact (Bool.and_eq_true_iff.1 h3).1)
 have hA:=z170.1 hab
 obtain ⟨f1,f2,f3,f4,f5⟩:=z315 hG hA (g.st.map (z59 l))
 have hnd:=hA.2.2.1.nd
 unfold ftO at h
 rw [if_pos h1] at h
 unfold trcO at h
 rw [← z319 f1 f2 hnd,Option.map_eq_some_iff] at h
 obtain ⟨⟨p,q⟩,hpq,e⟩:=h
 simp only [Prod.mk.injEq] at e
 obtain ⟨e1,e2⟩:=e
 obtain ⟨v,s,k1,k2,k3,k4,k5,k6,k7⟩:=las_path f1 f2 hnd hpq
 obtain ⟨b1,b2,b3,b4,b5,b6⟩:=z853 f1 f2 hnd hpq
 subst k2
 have hts:(s++[v]).take ((s++[v]).length - 1)=s:=by simp
 rw [hts] at e1
 rw [y47,List.length_singleton] at b3
 refine ⟨s,q,⟨fun x hx=>?_,k3,k4,k6,by rw [k5];exact k7,by rw [k5];exact k1⟩,e1.symm,e2.symm,by omega⟩
 rcases List.mem_append.1 hx with hx|hx
 ·exact (b1 x (List.mem_append.2 (.inl hx))).1
 ·exact (b2 x hx).1
theorem found_ok {g:Graph} {l:List Tree} {a:Aut} (h1:(glB g l && autB a)=true) (h:(ftO g l a).isSome=true):trB g (ftL g l a)=true∧(twB g l (ftL g l a)=true→accR a (twT g l (ftL g l a))=true):=by
 obtain ⟨h3,hab⟩:=Bool.and_eq_true_iff.1 h1
 have hG:=(z150 g).1 (by unfold glB at h3;exact (Bool.and_eq_true_iff.1 h3).1)
 have hA:=z170.1 hab
 cases hf:ftO g l a with
 |none=>rw [hf] at h;cases h
 |some x =>
  obtain ⟨st,lp⟩:=x
  obtain ⟨s,q,F,rfl,rfl,hl8⟩:=z863 h1 hf
  have e:ftL g l a=⟨stL s a.acc.length,stL q a.acc.length⟩:=by unfold ftL;rw [hf];rfl
  rw [e]
  have htr:=F.tr hG hA hl8
  refine ⟨htr,fun ht=>accR_iff.2 ?_⟩
  have ew:twT g l ⟨stL s a.acc.length,stL q a.acc.length⟩=z804 (g.st.map (z59 l)) ⟨stL s a.acc.length,stL q a.acc.length⟩:=by unfold twT;rw [if_pos ht]
  have hall:(Trace.mk (stL s a.acc.length) (stL q a.acc.length)).all=stL (s++q) a.acc.length:=by unfold Trace.all stL;simp
  unfold AccP
  rw [ew,word_all,hall]
  have hsl:(z804 (g.st.map (z59 l)) ⟨stL s a.acc.length,stL q a.acc.length⟩).stem.length=s.length:=by simp [z804,stL]
  rw [hsl]
  refine F.word hA (by simp [stL]) fun k hk=>?_
  have hk' : k < (s++q).length:=by simpa [stL] using hk
  rw [z19 hk,List.getElem_map]
  unfold pick
  congr 2
  rw [← z587 hk',z19 (by simpa [stL] using hk')]
end Go.Proofs.YtnfoijopccdjeaaGreat
namespace Go.Proofs.YtnfoijopccdjeaaGreat
open Go.Gl
attribute [local irreducible] z18 AWP z30 z36 z32
theorem vd_trace {g:Graph} {l:List Tree} {f:Tree} (h:vdI g l f=1):trB g (vdT g l f)=true:=by
 have hs:=(z1050.1 h).1
 have hv:=z740 hs.2.2
 unfold vdI at h
 unfold vdT
 have h1:(glB g l && f.fmB)=true:=by rw [hs.1,hs.2.1];rfl
 rw [if_pos h1,if_pos hs.2.2] at h ⊢
 refine (found_ok (by rw [hs.1,hv];rfl) ?_).1
 by_cases h5:(ftO g l (ngA f)).isSome=true
 ·exact h5
 ·rw [if_neg h5] at h;cases h
end Go.Proofs.YtnfoijopccdjeaaGreat
