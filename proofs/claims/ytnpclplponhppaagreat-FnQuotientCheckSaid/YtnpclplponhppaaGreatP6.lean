/- A part of the proofs over this program: T234, T235, T236, T181, T182, T183, T113, T184. -/
import Derived.Test.YtnpclplponhppaaGreatG0
import Derived.Test.YtnpclplponhppaaGreatG1
import Derived.Test.YtnpclplponhppaaGreatG2
import Derived.Test.YtnpclplponhppaaGreatG3
import Derived.Test.YtnpclplponhppaaGreatP0
import Derived.Test.YtnpclplponhppaaGreatP1
import Derived.Test.YtnpclplponhppaaGreatP2
import Derived.Test.YtnpclplponhppaaGreatP3
import Derived.Test.YtnpclplponhppaaGreatP4
import Derived.Test.YtnpclplponhppaaGreatP5
set_option linter.all false
namespace Go.Proofs.YtnpclplponhppaaGreat
open Go.Gl
attribute [local irreducible] z21 AWP z36 z42 z39 RetS z47
noncomputable def expO (B:List Tree) (L0:List (List Int)):Option Aut:=(goS B (untB B) 65 0 ⟨L0,[],[]⟩).map (z381 L0.length)
set_option maxRecDepth 20000 in
set_option maxHeartbeats 25600000 in
theorem z915 (B : List Tree) (hB : BasL B) (L0 : List (List Int)) (hr : ∀ r ∈ L0, RowP B.length (untB B) r) (hn : L0.Nodup) (hl0 : L0.length ≤ 32) :
    CallsA Tryz.prog 289 [lst 2 enP L0,accF B,movF B] [] (.tup [.agg [.sref 0 0 ((expO B L0).getD ⟨[],[],[]⟩).ini.length,.sref 1 0 ((expO B L0).getD ⟨[],[],[]⟩).acc.length,.sref 2 0 ((expO B L0).getD ⟨[],[],[]⟩).ed.length],.bool (expO B L0).isSome])
      [.cells 1 (((expO B L0).getD ⟨[],[],[]⟩).ini.map enI),.cells 1 (((expO B L0).getD ⟨[],[],[]⟩).acc.map enB),.cells 4 (((expO B L0).getD ⟨[],[],[]⟩).ed.map Trans.cs)]:=by
  unfold expO
  have hp5:=z1153 hB.len
  by_cases h0:L0.length=0
  · obtain rfl:L0=[]:=y69 h0
    refine z10 z19 Tryz.func289 rfl (by kernel_rfl) 98 Tryz.ntmps289 (by simp) ?_
    repeat' ((first|(apply y80 ok;rfl)|(apply y38;(dsimp only;omega)))<;>conv=>whnf)
    all_goals (refine y85 1 ?_;refine y85 4 ?_;refine rsD [2,1,3] [] rfl ?_;(repeat' first|exact y82 _|exact z55|apply y83|refine z16 rfl (z33) ?_|apply z62|apply z103|constructor))
  have hRO:∀ x,goS B (untB B) 65 0 ⟨L0,[],[]⟩=some x→x.L.length≠0→(goS B (untB B) 65 0 ⟨L0,[],[]⟩).map (z381 L0.length)=some ⟨numI L0.length,x.acc,x.ed.map eT⟩:=fun x h h2=>by
    rw [h];unfold z381;simp only [Option.map_some];rw [if_neg h2]
  have hRN:goS B (untB B) 65 0 ⟨L0,[],[]⟩=none→(goS B (untB B) 65 0 ⟨L0,[],[]⟩).map (z381 L0.length)=none:=fun h=>by rw [h];rfl
  generalize (goS B (untB B) 65 0 ⟨L0,[],[]⟩).map (z381 L0.length)=O at *
  obtain ⟨R,hR0⟩:∃ R,goS B (untB B) 65 0 ⟨L0,[],[]⟩=R:=⟨_,rfl⟩
  rw [hR0] at hRO hRN
  refine z10 z19 Tryz.func289 rfl (by kernel_rfl) 98 Tryz.ntmps289 (by simp) ?_
  repeat' ((first|(apply y80 ok;rfl)|(apply y38;omega)|((apply z8)<;>intro _))<;>conv=>whnf)
  all_goals try (exfalso;omega)
  refine y81 (y84 1 rfl) ?_
  refine z84 (fun x:Nat×List Int=>([(1,accF B),(2,movF B),(6,.ptr 0 none 0),(8,.ptr 1 none 0),(10,.ptr 4 none 0),(11,fndF),(24,lst 2 enP L0),(25,.int L0.length),(26,.int x.1)],[.cells 3 [[.nils,.nils,.nils]],.cells 3 [[.sref 5 0 x.2.length,.nils,.nils]],.mp 2 (z290 0 (L0.take x.1)),.cells 1 [[.mref 2]],.cells 1 [[.own 2 ((L0.take x.1).map enP)]],.cells 1 (x.2.map enI)])) (fun x=>x.1≤L0.length∧numI x.1=x.2) (fun x=>L0.length - x.1) (0,[]) ⟨y48 _,rfl⟩ (by refine swR [0,1,2,3,4,5] [] rfl rfl ?_;(repeat' first|exact y82 _|exact z55|apply y83|refine z16 rfl (z33) ?_|constructor)<;>(first|rfl|exact z401)) ?_
  rintro ⟨i,N⟩ ⟨hi,hN⟩
  dsimp only at hi hN ⊢
  have hNl:=z695 i
  rw [hN] at hNl
  by_cases hil:i < L0.length
  · have gk:(L0.map enP)[i]?=some (enP L0[i]):=by rw [y46,y40 hil];rfl
    obtain ⟨s,ph,er,hs,hp⟩:=hr L0[i] (y39 _)
    have hni:L0[i] ∉ L0.take i:=fun h=>by
      obtain ⟨j,hj,e⟩:=List.mem_iff_getElem.1 h
      rw [y43] at hj
      rw [List.getElem_take] at e
      exact List.pairwise_iff_getElem.1 (List.nodup_iff_pairwise_ne.1 hn) j i (by omega) hil (by omega) e
    have hts:L0.take (i+1)=L0.take i++[L0[i]]:=y45 hil
    have htl:(L0.take i).length=i:=by rw [y43];omega
    rw [er] at gk hni hts
    have cf:=z1215 (L0.take i) (by omega) s ph
    have e1:z197 (L0.take i) [(s:Int),(ph:Int)]=L0.take (i+1):=by unfold z197;rw [if_neg hni,hts]
    have e2:z301 (L0.take i) [(s:Int),(ph:Int)]=i:=by unfold z301;rw [List.idxOf_eq_length hni,htl]
    rw [e1,e2] at cf
    have ns:=z1162 i
    rw [hN] at ns
    repeat' ((first|(apply y80 ok;rfl)|(apply z35;kernel_rfl)|(refine z20 (i:=i) rfl gk ?_)|(apply y38;first|omega|(unfold inI;omega)|((try dsimp only);simp only [y44,y43,y42,y41,y53,y54];omega)|exact ⟨rfl,z24 rfl z31⟩)|((apply z8)<;>intro _)|(apply z11 [3,2,4] [] cf;rfl;rfl;rfl;(focus ((repeat' first|exact z18|apply z15)<;>first|exact ren_mp|exact z50 rfl rfl))))<;>conv=>whnf)
    all_goals try (exfalso;omega)
    all_goals refine z45 (i+1,N++[(i:Int)]) ⟨by show i+1≤_;omega,ns⟩ (by show L0.length - (i+1) < L0.length - i;omega) (by refine swR [0,1,2,3,4,8] [] rfl rfl ?_;(repeat' first|exact y82 _|(refine z71 ?_;((simp;done)))|apply y83|((refine z48 rfl ?_ ?_);(focus ((repeat' (first|exact z6 (fun _=>rfl)|apply z32));done)))|(refine z95 ?_ ?_;(focus (omega)))|constructor)<;>(rfl))
  obtain rfl:i=L0.length:=by omega
  rw [y51]
  have hNe:numI L0.length=N:=hN
  rw [hNe] at hRO
  have hI0:ExI B (untB B) L0.length 0 ⟨L0,[],[]⟩:=⟨hr,y47 _,rfl,y48 _,y48 _,by show L0.length≤L0.length+0 * _;omega,fun e he=>by cases he⟩
  have hval:=fun i x h h2 h3=>ExI.valid (B:=B) (U:=untB B) (n0:=L0.length) (i:=i) (x:=x) hB h (by omega) h2 h3
  rw [hNe] at hval
  have hN32:N.length≤32:=by omega
  repeat' ((first|(apply y80 ok;rfl)|(apply y38;omega)|(((with_reducible apply z14;omega));intro _)|((apply z8)<;>intro _))<;>conv=>whnf)
  all_goals try (exfalso;omega)
  refine y81 (y84 1 rfl) ?_
  refine y81 (y84 4 rfl) ?_
  refine z84 (fun x:Nat×List (List Int)×List Bool×List Trans=>([(1,accF B),(2,movF B),(6,.ptr 0 none 0),(8,.ptr 1 none 0),(10,.ptr 4 none 0),(11,fndF),(14,.int x.1)],objsE N x.2.1 x.2.2.1 x.2.2.2 (.own 2 (x.2.1.map enP)))) (fun x=>x.1≤64∧∃ ed:List Edg,x.2.2.2=ed.map eT∧(goS B (untB B) (65 - x.1) x.1 ⟨x.2.1,x.2.2.1,ed⟩=R∨(64 < x.2.1.length∧R=none))∧ExI B (untB B) L0.length x.1 ⟨x.2.1,x.2.2.1,ed⟩) (fun x=>65 - x.1) (0,L0,[],[]) ⟨y48 _,[],rfl,.inl hR0,hI0⟩ (by refine swR [0,1,2,3,4,5,6,7] [] rfl rfl ?_;(repeat' first|exact y82 _|exact z55|exact z17 _|apply y83|((refine z16 rfl ?_ ?_);(focus ((repeat' (first|exact z33|exact z6 (fun _=>rfl)));done)))|constructor)<;>(rfl)) ?_
  have hL00:L0.length≠0:=h0
  clear hI0 hR0 hNe hNl hN hi hil hn hr
  rintro ⟨i,L,acc,E⟩ ⟨hi,ed,hE,hR,hI⟩
  dsimp only at hi hE hR hI ⊢
  have hmul:i * 2 ^ B.length≤64 * 32:=Nat.mul_le_mul hi hp5.2
  have hLl:=hI.ln
  have hedl:=hI.edl
  have hacl:=hI.acc
  dsimp only at hLl hedl hacl
  have hEl:E.length=ed.length:=by rw [hE,y44]
  rw [show 65 - i=(64 - i)+1 by omega,goS] at hR
  dsimp only at hR
  refine y81 (Gl.Reach.expose 4 0 0 rfl rfl rfl (z177 (fun _=>rfl) _) rfl) ?_
  refine y81 (show Gl.Reach _ _ (mkSt _ [(1,accF B),(2,movF B),(6,.ptr 0 none 0),(8,.ptr 1 none 0),(10,.ptr 4 none 0),(11,fndF),(14,.int i)] (objsE N L acc E (.sref 8 0 L.length)++[.cells 2 (L.map enP)])) from (by refine swR [0,1,2,3,4,5,6,7,8] [] rfl rfl ?_;(repeat' first|exact y82 _|exact z17 _|(refine z71 ?_;((simp;done)))|apply y83|refine z16 rfl (z6 (fun _=>rfl)) ?_|constructor)<;>(rfl))) ?_
  by_cases hil:i < L.length
  · rw [if_pos hil] at hR
    by_cases h64:i=64
    · have hRn:R=none:=by
        rcases hR with h|h
        · rw [if_pos (by omega)] at h;exact h.symm
        · exact h.2
      have hO:=hRN hRn
      subst hO
      repeat' ((first|(apply y80 ok;rfl)|(apply y38;omega)|(((apply z14;omega));intro _)|((apply z8)<;>intro _))<;>conv=>whnf)
      all_goals try (exfalso;omega)
      all_goals (refine y85 1 ?_;refine y85 1 ?_;refine y85 4 ?_;refine rsD [9,10,11] [] rfl ?_;(repeat' first|exact y82 _|exact z55|refine z16 rfl (z33) ?_|apply z62|apply z103|constructor))
    · obtain ⟨s,ph,er,hs,hp⟩:=hI.rows (L.getD i []) (by rw [z13 hil];exact y39 _)
      have gk:(L.map enP)[i]?=some (enP [(s:Int),(ph:Int)]):=by rw [y46,y40 hil,← er,z13 hil];rfl
      have cA:=acc_ok B hB s ph (by omega) hp
      have cM:=z1172 B hB s ph (by omega) hp
      obtain ⟨q,eq,hq⟩:=z961 (B:=B) (s:=s) hp
      have hst:=hI.step hil
      have hRS:z226 B (untB B) i ⟨L,acc,ed⟩=⟨((mvK B s (2 ^ B.length)).foldl (z916 q i (letB B s).1 (letB B s).2) (L,ed)).1,acc++[(phB B (untB B) s ph).2],((mvK B s (2 ^ B.length)).foldl (z916 q i (letB B s).1 (letB B s).2) (L,ed)).2⟩:=by
        rw [fold_mv]
        unfold z226
        dsimp only
        rw [er,← eq];rfl
      rw [hRS] at hst hR
      rw [eq] at cM
      have hMl:=z1171 B s (2 ^ B.length)
      clear eq hRS gk
      have gk:(L.map enP)[i]?=some (enP [(s:Int),(ph:Int)]):=by rw [y46,y40 hil,← er,z13 hil];rfl
      generalize (phB B (untB B) s ph).2=z at *
      generalize (letB B s).1=c at *
      generalize (letB B s).2=v at *
      generalize mvK B s (2 ^ B.length)=M at *
      repeat' ((first|(apply y80 ok;rfl)|(apply z35;kernel_rfl)|(refine z20 (i:=i) rfl gk ?_)|(apply y38;first|omega|((try dsimp only);simp only [y44,y43,y42,y41,y53,y54];omega)|exact ⟨rfl,z24 rfl z31⟩)|((apply z8)<;>intro _)|(apply z7 (cA);rfl;rfl)|(apply z11 [] [11] cM;rfl;rfl;rfl;(focus ((repeat' first|exact z18|apply z15)<;>(refine z23 ?_;((exact z6 fun _=>rfl)))))))<;>conv=>whnf)
      all_goals try (exfalso;omega)
      refine y81 (Gl.Reach.absorb 4 8 0 0 rfl rfl rfl rfl (by simp) rfl (z6 fun _=>rfl) rfl) ?_
      refine z84 (fun x:Nat×List (List Int)×List Trans=>([(1,accF B),(2,movF B),(6,.ptr 0 none 0),(8,.ptr 1 none 0),(10,.ptr 4 none 0),(11,fndF),(14,.int i),(70,.sref 8 0 M.length),(71,.int M.length),(72,.int x.1)],objsE N x.2.1 (acc++[z]) x.2.2 (.own 2 (x.2.1.map enP))++[.cells 4 (M.map (enMv c v q))])) (fun x=>x.1≤M.length∧∃ ed' : List Edg,x.2.2=ed'.map eT∧(M.take x.1).foldl (z916 q i c v) (L,ed)=(x.2.1,ed')∧x.2.1.length≤L.length+x.1∧x.2.2.length≤E.length+x.1) (fun x=>M.length - x.1) (0,L,E) ⟨y48 _,ed,hE,rfl,y47 _,y47 _⟩ (by refine swR [0,1,2,3,4,5,10,7,11] [] rfl rfl ?_;(repeat' first|exact y82 _|exact z17 _|(refine z71 ?_;((simp;done)))|apply y83|((first|refine z48 rfl ?_ ?_|refine z16 rfl ?_ ?_);(focus ((repeat' (first|exact z6 (fun _=>rfl)|apply z32));done)))|(refine z95 ?_ ?_;(focus (omega)))|constructor)<;>(rfl)) ?_
      rintro ⟨k,L',E'⟩ ⟨hk,ed',hE',hf,hL',hel⟩
      dsimp only at hk hE' hf hL' hel ⊢
      by_cases hkl:k < M.length
      · have gM:(M.map (enMv c v q))[k]?=some (enMv c v q M[k]):=by rw [y46,y40 hkl];rfl
        have hfs:(M.take (k+1)).foldl (z916 q i c v) (L,ed)=z916 q i c v (L',ed') M[k]:=by rw [y45 hkl,y58,hf];rfl
        generalize M[k]=x at *
        have cf:=z1215 L' (by omega) x q
        have hpl:=z692 L' [(x:Int),(q:Int)]
        unfold z916 at hfs
        dsimp only at hfs
        generalize z197 L' [(x:Int),(q:Int)]=L2 at *
        generalize z301 L' [(x:Int),(q:Int)]=n2 at *
        repeat' ((first|(apply y80 ok;rfl)|(apply z35;kernel_rfl)|(refine z20 (i:=k) rfl gM ?_)|(apply y38;first|omega|(unfold inI;omega)|((try dsimp only);simp only [y44,y43,y42,y41,y53,y54];omega)|exact ⟨rfl,z24 rfl z31⟩)|((apply z8)<;>intro _)|(apply z11 [3,2,4] [] cf;rfl;rfl;rfl;(focus ((repeat' first|exact z18|apply z15)<;>first|exact ren_mp|exact z50 rfl rfl))))<;>conv=>whnf)
        all_goals try (exfalso;omega)
        all_goals refine z45 (k+1,L2,E'++[eT ⟨i,c,v,n2⟩]) ⟨by show k+1≤_;omega,_,by rw [hE'];simp,hfs,by show L2.length≤L.length+(k+1);omega,by show (E'++[_]).length≤E.length+(k+1);simp;omega⟩ (by show M.length - (k+1) < M.length - k;omega) (by refine swR [0,1,2,3,4,5,6,11,8] [] rfl rfl ?_;(repeat' first|exact y82 _|exact z17 _|(refine z71 ?_;((simp;done)))|apply y83|((first|refine z48 rfl ?_ ?_|refine z16 rfl ?_ ?_);(focus ((repeat' (first|exact z6 (fun _=>rfl)|apply z32));done)))|(refine z95 ?_ ?_;(focus (omega)))|constructor)<;>(rfl))
      · obtain rfl:k=M.length:=by omega
        rw [y51] at hf
        rw [hf] at hst hR
        dsimp only at hst hR
        repeat' ((first|(apply y80 ok;rfl)|(apply y38;first|omega|(unfold inI;omega))|(((apply z14;omega));intro _)|((apply z8)<;>intro _))<;>conv=>whnf)
        all_goals try (exfalso;omega)
        all_goals refine z45 (i+1,L',acc++[z],E') ⟨by show i+1≤64;omega,ed',hE',?_,hst.1⟩ (by show 65 - (i+1) < 65 - i;omega) (by refine swR [0,1,2,3,4,5,6,7] [] rfl rfl ?_;(repeat' first|exact y82 _|exact z17 _|apply y83|refine z16 rfl (z6 (fun _=>rfl)) ?_|constructor)<;>(rfl))
        all_goals
          show goS B (untB B) (65 - (i+1)) (i+1) ⟨L',acc++[z],ed'⟩=R∨_
          have h2:L.length≤L'.length:=hst.2
          rw [show 65 - (i+1)=64 - i by omega]
          rcases hR with h|h
          · by_cases h65:64 < L.length
            · rw [if_pos h65] at h
              exact .inr ⟨by show 64 < L'.length;omega,h.symm⟩
            · rw [if_neg h65] at h
              exact .inl h
          · exact .inr ⟨by show 64 < L'.length;omega,h.2⟩
  · rw [if_neg hil] at hR
    have hRs:R=some ⟨L,acc,ed⟩:=by
      rcases hR with h|h
      · exact h.symm
      · omega
    have hb:=hI.base
    have hO:=hRO _ hRs (by show L.length≠0;have:L0.length≤L.length:=hb;omega)
    have hv:=hval i ⟨L,acc,ed⟩ hI hi (by show L.length≤i;omega)
    dsimp only at hO hv
    rw [← hE] at hO hv
    subst hO
    have hP:=z235.1 hv
    have hmx:Aut.mx ⟨N,acc,E⟩:=⟨by show N.length≤_;unfold maxLen;omega,by show acc.length≤_;unfold maxLen;omega,by show E.length≤_;unfold maxLen;omega,fun e he=>by
      obtain ⟨_,_,⟨c1,c2⟩,v1,v2⟩:=hP.2.2.2 e he
      have:=@Nat.and_le_right e.val.toNat e.care.toNat
      show inI e.val
      unfold inI;omega⟩
    have cV:=z264 ⟨N,acc,E⟩ hmx
    rw [hv] at cV
    have cC:=z931 ⟨N,acc,E⟩ (by show N.length≤_;omega) (by show acc.length≤_;omega) (by show E.length≤_;omega)
    repeat' ((first|(apply y80 ok;rfl)|(apply y38;omega)|(((apply z14;omega));intro _)|((apply z8)<;>intro _)|((first|(apply z115 [] [5,6,7] [] cV;(focus (exact z52 (z929 (a:=⟨N,acc,E⟩) rfl rfl rfl rfl rfl rfl rfl rfl rfl) z81));rfl)|(apply z115 [] [5,6,7] [9,10,11] cC;(focus (exact z52 (z929 (a:=⟨N,acc,E⟩) rfl rfl rfl rfl rfl rfl rfl rfl rfl) z81));rfl));rfl;(focus ((repeat' first|exact z18|apply z15)<;>(refine z23 ?_;((exact z6 fun _=>rfl)))));((refine .inr ⟨rfl,?_⟩;repeat' first|exact True.intro|apply y38|exact z104 (fun _=>rfl) _))))<;>conv=>whnf)
    all_goals try (exfalso;omega)
    all_goals (refine rsD [9,10,11] [] rfl ?_;(repeat' first|exact y82 _|exact z17 _|refine z16 rfl (z6 (fun _=>rfl)) ?_|constructor))
theorem z811 (B:List Tree) (g:Tree):∀ r∈iniS B g,RowP B.length (untB B) r:=by
 intro r hr
 unfold iniS at hr
 obtain ⟨s,hs,rfl⟩:=List.mem_map.1 hr
 have:=List.mem_range.1 (List.mem_filter.1 hs).1
 exact ⟨s,0,rfl,this,by omega⟩
theorem z1053 (B:List Tree) (g:Tree):(iniS B g).Nodup:=by
 unfold iniS
 exact ((List.nodup_range).filter _).map _ fun a b h e=>h (by simp at e;omega)
set_option maxRecDepth 20000 in
set_option maxHeartbeats 12800000 in
theorem z714 (t:Tree) (hs:t.sz≤200):CallsA Tryz.prog 170 [z44 Tree.cs' t] [] (.tup [.agg [.sref 0 0 (trA t).ini.length,.sref 1 0 (trA t).acc.length,.sref 2 0 (trA t).ed.length],.bool (tsB t)]) [.cells 1 ((trA t).ini.map enI),.cells 1 ((trA t).acc.map enB),.cells 4 ((trA t).ed.map Trans.cs)]:=by
 have cb:=z717 t hs
 unfold trA tsB trO
 by_cases h:bscB t=true
 ·obtain ⟨⟨ht,hn⟩,h5⟩:=of_decide_eq_true (show decide _=true from h)
  obtain ⟨hB,hIn,hsz⟩:=z734 ht hn h5 hs
  have cn:=z645 t (y21 ht) (by omega)
  rw [if_pos h] at cb ⊢
  rw [h] at cb
  rw [if_pos hn,hn] at cn
  clear h ht hn
  generalize t.nrm false=g at *
  generalize bscL g=B at *
  have hp:=z1153 h5
  have hi0:=z977 B g
  have cE:=z915 B hB (iniS B g) (z811 B g) (z1053 B g) (by omega)
  have hEx:(trS B g).map (z381 (iniS B g).length)=expO B (iniS B g):=rfl
  rw [hEx]
  clear hEx
  generalize expO B (iniS B g)=O at *
  have hul:(untB B).length≤B.length:=z489 B B.length
  have e2:((1:Int) * 2 ^ ((B.length:Int).toNat))=((2 ^ B.length:Nat):Int):=by
   rw [y72,Int.one_mul];norm_cast
  have cV:=fun s a b=>z279 B (untB B) hB s a b g hIn hsz
  have hkk:=fun i=>z1109 B i
  rw [y14 t] at cb cn ⊢
  rw [y14 g] at cn cV
  refine z10 z19 Tryz.func170 rfl rfl 75 Tryz.ntmps170 (by simp) ?_
  repeat' ((first|(apply y80 ok;rfl)|(apply z7 (cb);rfl;rfl)|(apply z7 (cn);rfl;rfl))<;>conv=>whnf)
  refine y81 (y84 1 rfl) ?_
  refine z84 (fun x:Nat×List Int=>([(2,.ptr 1 none 0),(4,lst 3 Tree.cs' B),(6,.ptr 2 none 0),(8,.ptr 4 none 0),(30,lst 3 Tree.cs' B),(31,.int B.length),(32,.int x.1)],[.cells 3 [[.int t.kind,.int t.val,lst 3 Tree.cs' t.kids]],.cells 3 [[.nils,.nils,.nils]],.cells 3 [[.int g.kind,.int g.val,lst 3 Tree.cs' g.kids]],.cells 2 [[lst 3 Tree.cs' B,.sref 5 0 x.2.length]],.cells 1 [[.ptr 3 none 0]],.cells 1 (x.2.map enI)])) (fun x=>x.1≤B.length∧untL B x.1=x.2) (fun x=>B.length - x.1) (0,[]) ⟨y48 _,rfl⟩ (by refine swR [0,1,2,3,4,5] [] rfl rfl ?_;(repeat' first|exact y82 _|exact z55|apply y83|refine z16 rfl (z33) ?_|constructor)) ?_
  rintro ⟨i,U⟩ ⟨hi,hU⟩
  dsimp only at hi hU ⊢
  have hul2:=z489 B i
  rw [hU] at hul2
  by_cases hil:i < B.length
  ·have gk:(B.map Tree.cs')[i]?=some (Tree.cs' (B.getD i dftT)):=by rw [y46,y40 hil,z13 hil];rfl
   have hs:=hkk i
   rw [hU] at hs
   generalize B.getD i dftT=f at *
   by_cases hk:f.kind=7
   ·rw [if_pos hk] at hs
    repeat' ((first|(apply y80 ok;rfl)|(apply z35;kernel_rfl)|(refine z20 (i:=i) rfl gk ?_)|(apply y38;first|omega|(unfold inI;omega)|((try dsimp only);simp only [y44,y43,y42,y41,y53,y54];omega)|exact ⟨rfl,z24 rfl z31⟩)|((apply z8)<;>intro _))<;>conv=>whnf)
    all_goals try (exfalso;omega)
    all_goals refine z45 (i+1,U++[(i:Int)]) ⟨by show i+1≤_;omega,hs⟩ (by show B.length - (i+1) < B.length - i;omega) (by refine swR [0,1,2,3,4,8] [] rfl rfl ?_;(repeat' first|exact y82 _|(refine z71 ?_;((simp;done)))|apply y83|((refine z48 rfl ?_ ?_);(focus ((repeat' (first|exact z6 (fun _=>rfl)|apply z32));done)))|(refine z95 ?_ ?_;(focus (omega)))|constructor))
   ·rw [if_neg hk,y60] at hs
    repeat' ((first|(apply y80 ok;rfl)|(apply z35;kernel_rfl)|(refine z20 (i:=i) rfl gk ?_)|(apply y38;first|omega|(unfold inI;omega))|((apply z8)<;>intro _))<;>conv=>whnf)
    all_goals try (exfalso;omega)
    all_goals refine z45 (i+1,U) ⟨by show i+1≤_;omega,hs⟩ (by show B.length - (i+1) < B.length - i;omega) (by refine swR [0,1,2,3,4,5] [] rfl rfl ?_;(repeat' first|exact y82 _|exact z17 _|apply y83|refine z16 rfl (z6 (fun _=>rfl)) ?_|constructor))
  ·obtain rfl:i=B.length:=by omega
   have hU2:untB B=U:=hU
   rw [hU2] at cV
   have cE2:=cE
   unfold accF movF at cE2
   rw [hU2] at cE2
   clear cE hkk hU hU2
   repeat' ((first|(apply y80 ok;rfl)|(apply z35;kernel_rfl)|(rw [e2])|(apply y38;first|omega|(unfold inI;omega))|(((with_reducible apply z14;omega));intro _)|((apply z8)<;>intro _))<;>conv=>whnf)
   all_goals try (exfalso;omega)
   refine y81 (y84 2 rfl) ?_
   refine y81 (show Gl.Reach _ _ (mkSt _ [(2,.ptr 0 none 0),(6,.ptr 1 none 0),(8,.ptr 3 none 0),(11,.sref 4 0 0),(53,.int ((2 ^ B.length:Nat):Int)),(54,.int 0)] [.cells 3 [[.nils,.nils,.nils]],.cells 3 [[.int g.kind,.int g.val,lst 3 Tree.cs' g.kids]],.cells 2 [[lst 3 Tree.cs' B,ints U]],.cells 1 [[.ptr 2 none 0]],.cells 2 []]) from (by refine swR [1,2,3,4,6] [5] rfl rfl ?_;(repeat' first|exact y82 _|exact z55|apply y83|refine z16 rfl (z33) ?_|((apply z49 rfl rfl rfl);(focus ((repeat ((exact z38 (fun _=>rfl) _)));done));(focus (((simp;done));done)))|constructor))) ?_
   refine y81 (show Gl.Reach _ _ (mkSt _ [(2,.ptr 0 none 0),(6,.ptr 1 none 0),(8,.ptr 2 none 0),(11,.sref 3 0 0),(53,.int ((2 ^ B.length:Nat):Int)),(54,.int 0)] [.cells 3 [[.nils,.nils,.nils]],.cells 3 [[.int g.kind,.int g.val,lst 3 Tree.cs' g.kids]],.cells 1 [[.pt [lst 3 Tree.cs' B,ints U]]],.cells 2 []]) from (by refine swR [0,1,3,4] [2] rfl rfl ?_;(repeat' first|exact y82 _|apply y83|refine z16 rfl (z33) ?_|constructor))) ?_
   refine z84 (fun x:Nat×List (List Int)=>([(2,.ptr 0 none 0),(6,.ptr 1 none 0),(8,.pt [.pt [lst 3 Tree.cs' B,ints U]]),(11,.sref 2 0 x.2.length),(53,.int ((2 ^ B.length:Nat):Int)),(54,.int x.1)],[.cells 3 [[.nils,.nils,.nils]],.cells 3 [[.int g.kind,.int g.val,lst 3 Tree.cs' g.kids]],.cells 2 (x.2.map enP)])) (fun x=>x.1≤2 ^ B.length∧iniK B (fun s=>vlB B (s:Nat) g) x.1=x.2) (fun x=>2 ^ B.length - x.1) (0,[]) ⟨y48 _,rfl⟩ (by refine swR [0,1,3] [2] rfl rfl ?_;(repeat' first|exact y82 _|apply y83|refine z16 rfl (z33) ?_|constructor)) ?_
   rintro ⟨k,L⟩ ⟨hk,hL⟩
   dsimp only at hk hL ⊢
   have hLl:=iniK_len B (fun s=>vlB B (s:Nat) g) k
   rw [hL] at hLl
   by_cases hkl:k < 2 ^ B.length
   ·have hsu:=z1192 B (fun s=>vlB B (s:Nat) g) k
    rw [hL] at hsu
    have cv:=cV k (by omega) (by omega)
    generalize vlB B (k:Nat) g=z at *
    cases z
    ·rw [if_neg (by simp),y60] at hsu
     repeat' ((first|(apply y80 ok;rfl)|(apply y38;(unfold inI;omega))|((apply z8)<;>intro _)|(apply z7 (cv);rfl;rfl))<;>conv=>whnf)
     all_goals try (exfalso;omega)
     all_goals refine z45 (k+1,L) ⟨by show k+1≤_;omega,hsu⟩ (by show 2 ^ B.length - (k+1) < 2 ^ B.length - k;omega) (by refine swR [0,1,2] [] rfl rfl ?_;(repeat' first|exact y82 _|exact z17 _|apply y83|refine z16 rfl (z6 (fun _=>rfl)) ?_|constructor))
    ·rw [if_pos rfl] at hsu
     repeat' ((first|(apply y80 ok;rfl)|(apply y38;first|(unfold inI;omega)|((try dsimp only);simp only [y44,y43,y42,y41,y53,y54];omega)|exact ⟨rfl,z24 rfl z31⟩)|((apply z8)<;>intro _)|(apply z7 (cv);rfl;rfl))<;>conv=>whnf)
     all_goals try (exfalso;omega)
     all_goals refine z45 (k+1,L++[[(k:Int),0]]) ⟨by show k+1≤_;omega,hsu⟩ (by show 2 ^ B.length - (k+1) < 2 ^ B.length - k;omega) (by refine swR [0,1,4] [] rfl rfl ?_;(repeat' first|exact y82 _|(refine z71 ?_;((simp;done)))|apply y83|((refine z48 rfl ?_ ?_);(focus ((repeat' (first|exact z6 (fun _=>rfl)|apply z32));done)))|(refine z95 ?_ ?_;(focus (omega)))|constructor))
   ·obtain rfl:k=2 ^ B.length:=by omega
    have hL0:iniS B g=L:=hL
    rw [hL0] at cE2
    repeat' ((first|(apply y80 ok;rfl)|((apply z8)<;>intro _)|(apply z115 [] [2] [3,4,5] cE2;(focus (exact z52 (z202 rfl rfl rfl (by simp) (z38 (fun _=>rfl) _)) (z52 rfl (z52 rfl z81))));rfl;rfl;(focus ((repeat' first|exact z18|apply z15)<;>(refine z23 ?_;((exact z6 fun _=>rfl)))));((refine .inr ⟨rfl,?_⟩;repeat' first|exact True.intro|apply y38|exact z104 (fun _=>rfl) _))))<;>conv=>whnf)
    all_goals try (exfalso;omega)
    all_goals (refine rsD [3,4,5] [] rfl ?_;(repeat' first|exact y82 _|exact z17 _|refine z16 rfl (z6 (fun _=>rfl)) ?_|constructor))
 ·rw [if_neg h] at cb ⊢
  rw [(y67 _).mp h] at cb
  refine z10 z19 Tryz.func170 rfl rfl 75 Tryz.ntmps170 (by simp) ?_
  repeat' ((first|(apply y80 ok;rfl)|(apply z7 (cb);rfl;rfl))<;>conv=>whnf)
  all_goals (refine y85 1 ?_;refine y85 1 ?_;refine y85 4 ?_;refine rsD [2,3,4] [] rfl ?_;(repeat' first|exact y82 _|exact z55|refine z16 rfl (z33) ?_|apply z62|apply z103|constructor))
noncomputable def ngA (t:Tree):Aut:=if ngB t=true then trA (ngT t) else ⟨[],[],[]⟩
noncomputable def ngS (t:Tree):Bool:=ngB t && tsB (ngT t)
theorem ngB_fm {t:Tree} (h:ngB t=true):t.fmB=true:=by
 unfold ngB at h
 rw [y66] at h
 exact h.1
theorem z554 {t:Tree} (h:ngB t=true):(ngT t).sz≤12:=by
 have h1:=ngT_sz t
 have h2:=fm_sz (ngB_fm h)
 omega
theorem ngA_len (t:Tree):(ngA t).ini.length≤32∧(ngA t).acc.length≤66∧(ngA t).ed.length≤2080:=by
 unfold ngA
 split
 ·rename_i h
  exact trA_len _ (by have:=z554 h;omega)
 ·simp
theorem ngA_mx (t:Tree):(ngA t).mx:=by
 obtain ⟨h1,h2,h3⟩:=ngA_len t
 refine ⟨by unfold maxLen;omega,by unfold maxLen;omega,by unfold maxLen;omega,?_⟩
 unfold ngA
 split
 ·rename_i h
  exact trA_val _ (by have:=z554 h;omega)
 ·intro e he;cases he
theorem z569 (t:Tree) (hm:t.mx):CallsA Tryz.prog 70 [z44 Tree.cs' t] [] (.tup [.agg [.sref 0 0 (ngA t).ini.length,.sref 1 0 (ngA t).acc.length,.sref 2 0 (ngA t).ed.length],.bool (ngS t)]) [.cells 1 ((ngA t).ini.map enI),.cells 1 ((ngA t).acc.map enB),.cells 4 ((ngA t).ed.map Trans.cs)]:=by
 have cN:=z715 t hm
 unfold ngA ngS
 by_cases h:ngB t=true
 ·have hz:=z554 h
  have cT:=z714 (ngT t) (by omega)
  rw [if_pos h,h,Bool.true_and]
  rw [h] at cN
  generalize ngT t=u at *
  generalize trA u=a at *
  generalize tsB u=q at *
  rw [y14 t] at cN ⊢
  rw [y14 u] at cN cT
  refine z10 z19 Tryz.func70 rfl rfl 18 Tryz.ntmps70 (by simp) ?_
  repeat' ((first|(apply y80 ok;rfl)|(apply z7 (cN);rfl;rfl)|(apply z11 [] [3,4,5] cT;rfl;rfl;rfl;(focus ((repeat' first|exact z18|apply z15)<;>(refine z23 ?_;((exact z6 fun _=>rfl)))))))<;>conv=>whnf)
  all_goals (refine rsD [3,4,5] [] rfl ?_;(repeat' first|exact y82 _|exact z17 _|refine z16 rfl (z6 (fun _=>rfl)) ?_|constructor))
 ·rw [if_neg h,(y67 _).mp h,Bool.false_and]
  rw [(y67 _).mp h] at cN
  generalize ngT t=u at *
  rw [y14 t] at cN ⊢
  rw [y14 u] at cN
  refine z10 z19 Tryz.func70 rfl rfl 18 Tryz.ntmps70 (by simp) ?_
  repeat' ((first|(apply y80 ok;rfl)|(apply z7 (cN);rfl;rfl))<;>conv=>whnf)
  all_goals (refine y85 1 ?_;refine y85 1 ?_;refine y85 4 ?_;refine rsD [3,4,5] [] rfl ?_;(repeat' first|exact y82 _|exact z55|refine z16 rfl (z33) ?_|apply z62|apply z103|constructor))
theorem z346 (t:Tree) (hm:t.mx):CallsA Tryz.prog 70 [z44 Tree.cs' t] [] (.tup [.agg (ngA t).cs,.bool (ngS t)]) [] :=
 (z569 t hm).lend [] [0,1,2] rfl rfl rfl (bor_tup (z52 (z929 rfl rfl rfl rfl rfl rfl rfl rfl rfl) (z52 rfl z81))) z37
theorem z327 (N:Nat):List.replicate N [AC.int 0]=(fnL N fun _=>0).map enI:=by
 apply y70 (by simp [fnL])
 intro i h1 h2
 simp [fnL,enI]
theorem z814 {N:Nat} {f g:Nat→Int} (h:∀ i,i < N→f i=g i):fnL N f=fnL N g:=List.map_congr_left fun i hi=>h i (List.mem_range.1 hi)
theorem z454 {N i:Nat} (f:Nat→Int) (h:i < (fnL N f).length):(fnL N f)[i]=f i:=by simp [fnL]
set_option maxHeartbeats 12800000 in
theorem z619 (rows:List (List Int)) (hr:∀ r∈rows,InN rows.length r) (hN:rows.length≤100000) (hrl:∀ r∈rows,r.length≤1000000000):CallsA Tryz.prog 365 [lst 1 encL rows] [] (.sref 0 0 rows.length) [.cells 1 ((cmpL rows).map enI)]:=by
 refine z10 z19 Tryz.func365 rfl rfl 77 Tryz.ntmps365 (by simp) ?_
 repeat' ((first|(apply y80 ok;rfl)|(apply z35;kernel_rfl)|(apply y38;(dsimp only;omega)))<;>conv=>whnf)
 obtain ⟨qm,hqm⟩:∃ qm:Nat→Nat→Int,qm=fun i j=>if j < i then -1 else 0:=⟨_,rfl⟩
 have q0:qm 0=fun _=>0:=by rw [hqm];rfl
 have qE:fnL rows.length (qm rows.length)=fnL rows.length fun _=>-1:=z814 fun i hi=>by rw [hqm];dsimp only;rw [if_pos hi]
 have qS:∀ i,qm (i+1)=upd (qm i) i (-1):=fun i=>by
  funext j
  by_cases h:j=i
  ·subst h;rw [z26,hqm];dsimp only;rw [if_pos (by omega)]
  ·rw [z54 _ _ h,hqm];dsimp only;split<;>split<;>first|rfl|omega
 clear hqm
 refine z84 (fun i:Nat=>([(1,.ptr 0 none 0),(3,.int rows.length),(4,.ptr 4 none 0),(5,.ptr 5 none 0),(6,.ptr 6 none 0),(27,.int rows.length),(28,.int i)],[.cells 1 [[lst 1 encL rows]],.cells 1 ((fnL rows.length fun _=>0).map enI),.cells 1 ((fnL rows.length fun _=>0).map enI),.cells 1 ((fnL rows.length (qm i)).map enI),.cells 1 [[.sref 1 0 rows.length]],.cells 1 [[.sref 2 0 rows.length]],.cells 1 [[.sref 3 0 rows.length]]])) (fun i=>i≤rows.length) (fun i=>rows.length - i) 0 (y48 _) (by refine swR [0,1,2,3,4,5,6] [] rfl rfl ?_;(repeat' first|exact y82 _|apply y83|refine z16 rfl (z70 rfl) ?_|constructor)<;>(first|(refine z61 ?_;exact z327 _)|(refine z61 ?_;rw [q0];exact z327 _))) ?_
 intro i hi
 by_cases hi2:i < rows.length
 ·have g1:=z169 (qm i) hi2
  have l1:=z107 rows.length (qm i)
  have e1:=z146 (N:=rows.length) (u:=i) (qm i) (-1)
  rw [← qS] at e1
  repeat' ((first|(apply y80 ok;rfl)|(refine z20 (i:=i) rfl g1 ?_)|(apply y38;first|omega|(unfold inI;omega))|((apply z8)<;>intro _))<;>conv=>whnf)
  all_goals try (exfalso;omega)
  all_goals refine z45 (i+1) hi2 (by omega) (by refine swR [0,1,2,3,4,5,6] [] rfl rfl ?_;(repeat' first|exact y82 _|exact z17 _|apply y83|refine z73 rfl (z6 (fun _=>rfl)) ?_|refine z16 rfl (z6 (fun _=>rfl)) ?_|constructor)<;>((refine z61 ?_;exact e1)))
 obtain rfl:i=rows.length:=by omega
 rw [qE]
 clear qE qS q0
 repeat' ((first|(apply y80 ok;rfl)|(apply y38;omega)|(((apply z14;omega));intro _)|((apply z8)<;>intro _))<;>conv=>whnf)
 all_goals try (exfalso;omega)
 obtain ⟨S,hS⟩:∃ S:Nat→TS,S=fun k=>(List.range k).foldl (tTop rows) z382:=⟨_,rfl⟩
 have hTT:∀ k,k≤rows.length→TT rows (S k) k:=fun k hk=>by rw [hS];exact z675 hr k hk
 have hS0:S 0=z382:=by rw [hS];rfl
 have hSs:∀ k,S (k+1)=tTop rows (S k) k:=fun k=>by
  rw [hS];show (List.range (k+1)).foldl _ _=_
  rw [y57,y58];rfl
 have hSE:S rows.length=tAll rows:=by rw [hS];rfl
 clear hS
 refine z84 (fun k:Nat=>([(1,.ptr 6 none 0),(4,.ptr 1 none 0),(6,.ptr 8 none 0),(11,.ptr 7 none 0),(36,.int rows.length),(37,.int k)],z1160 rows (S k))) (fun k=>k≤rows.length) (fun k=>rows.length - k) 0 (y48 _) (by refine swR [8,4,1,5,2,7,0,10,6,3,9] [] rfl rfl ?_;(repeat' first|exact y82 _|apply y83|refine z16 rfl (z6 (fun _=>rfl)) ?_|constructor)<;>(first|(rw [hS0];exact y82 _)|(rw [hS0];exact z17 _)|(rw [hS0];exact z401))) ?_
 intro k hk
 have hT:=hTT k hk
 have hTn:∀ h:k < rows.length,TT rows (S (k+1)) (k+1):=fun h=>hTT (k+1) h
 by_cases hk2:k < rows.length
 ·have hs2:=hSs k
  generalize hS1:S k=s1 at *
  generalize hS2:S (k+1)=s2 at *
  have g1:=z169 s1.num hk2
  have l1:=z107 rows.length s1.num
  unfold tTop at hs2
  by_cases h0:s1.num k=0
  ·rw [if_pos h0] at hs2
   have cV:=z1009 rows hr hN hrl rows.length s1 [] k (by have:=hT.inv.ct;omega) hT.inv h0 hk2 (by simp) hT.prt
   rw [← hs2] at cV
   repeat' ((first|(apply y80 ok;rfl)|(refine z20 (i:=k) rfl g1 ?_)|(apply y38;first|omega|(unfold inI;omega))|((apply z8)<;>intro _)|(apply z163 [0,1,2,3,4,5,6,7,8,9,10] [] cV;rfl;(focus ((repeat' first|exact z37|apply z63)<;>first|rfl|(refine z83 rfl ?_;((exact z6 fun _=>rfl)))));rfl;(focus ((repeat' first|exact z18|apply z15)<;>first|exact z50 rfl rfl|(refine z23 ?_;((exact z6 fun _=>rfl)))))))<;>conv=>whnf)
   all_goals try (exfalso;omega)
   all_goals refine z45 (k+1) hk2 (by omega) ?_
   all_goals dsimp only
   all_goals rw [hS2]
   all_goals exact (by refine swR [0,1,2,3,4,5,6,7,8,9,10] [] rfl rfl ?_;(repeat' first|exact y82 _|exact z17 _|apply y83|refine z16 rfl (z6 (fun _=>rfl)) ?_|constructor))
  ·rw [if_neg h0] at hs2
   repeat' ((first|(apply y80 ok;rfl)|(refine z20 (i:=k) rfl g1 ?_)|(apply y38;first|omega|(unfold inI;omega))|((apply z8)<;>intro _))<;>conv=>whnf)
   all_goals try (exfalso;omega)
   all_goals refine z45 (k+1) hk2 (by omega) ?_
   all_goals dsimp only
   all_goals rw [hS2,hs2]
   all_goals exact (by refine swR [0,1,2,3,4,5,6,7,8,9,10] [] rfl rfl ?_;(repeat' first|exact y82 _|exact z17 _|apply y83|refine z16 rfl (z6 (fun _=>rfl)) ?_|constructor))
 obtain rfl:k=rows.length:=by omega
 rw [hSE]
 clear hTT hS0 hSs hSE hTn hT
 have hcmp:cmpL rows=(List.range rows.length).map fun i=>nmI (fnL rows.length (tAll rows).part) i:=rfl
 obtain ⟨P,hP⟩:∃ P,P=fnL rows.length (tAll rows).part:=⟨_,rfl⟩
 rw [← hP] at hcmp
 have hPl:P.length=rows.length:=by rw [hP,z107]
 generalize tAll rows=s0 at *
 obtain ⟨pm,hpm⟩:∃ pm:Nat→Nat→Int,pm=fun i j=>if j < i then nmI P j else s0.part j:=⟨_,rfl⟩
 have q0:pm 0=s0.part:=by rw [hpm];funext j;simp
 have qE:fnL rows.length (pm rows.length)=cmpL rows:=by
  rw [hcmp]
  exact z814 fun i hi=>by rw [hpm];dsimp only;rw [if_pos hi]
 have qA:∀ i (h:i < rows.length),pm i i=P[i]'(by omega):=fun i h=>by
  rw [hpm];dsimp only;rw [if_neg (by omega)]
  simp only [hP,z454]
 have qS:∀ i,pm (i+1)=upd (pm i) i (nmI P i):=fun i=>by
  funext j
  by_cases h:j=i
  ·subst h;rw [z26,hpm];dsimp only;rw [if_pos (by omega)]
  ·rw [z54 _ _ h,hpm];dsimp only;split<;>split<;>first|rfl|omega
 clear hpm hcmp
 repeat' ((first|(apply y80 ok;rfl)|(apply y38;omega)|(((apply z14;omega));intro _)|((apply z8)<;>intro _))<;>conv=>whnf)
 all_goals try (exfalso;omega)
 refine z84 (fun i:Nat=>([(6,.ptr 1 none 0),(13,.mref 0),(50,.sref 2 0 rows.length),(51,.int rows.length),(52,.int i)],[.mp 0 (z261 0 (metL P i)),.cells 1 [[.sref 2 0 rows.length]],.cells 1 ((fnL rows.length (pm i)).map enI)])) (fun i=>i≤rows.length) (fun i=>rows.length - i) 0 (y48 _) (by refine swR [11,8,9] [] rfl rfl ?_;(repeat' first|exact y82 _|apply y83|refine z16 rfl (z6 (fun _=>rfl)) ?_|constructor)<;>(first|(rw [q0];exact z17 _)|rfl)) ?_
 intro i hi
 by_cases hi2:i < rows.length
 ·have g1:=z169 (pm i) hi2
  have l1:=z107 rows.length (pm i)
  have e1:=z146 (N:=rows.length) (u:=i) (pm i) (nmI P i)
  rw [← qS] at e1
  rw [qA i hi2] at g1
  have hiP:i < P.length:=by omega
  have m1:=z556 P[i] 0 (metL P i)
  have m2:=z556 P[i] 0 (metL P (i+1))
  rw [if_pos (z700 hiP),Nat.zero_add,← nmI_at hiP] at m2
  have m3:=z404 hiP
  have m4:=z578 0 (metL P i)
  by_cases hp:P[i]∈metL P i
  ·rw [if_pos hp] at m1
   have m5:metL P (i+1)=metL P i:=by rw [m3];unfold z168;rw [if_pos hp]
   rw [m5] at m2
   generalize hes:z261 0 (metL P i)=es at *
   generalize hes2:z261 0 (metL P (i+1))=es2 at *
   have m6:es2=es:=by rw [← hes2,m5,hes]
   generalize nmI P i=nm at *
   generalize P[i]=p at *
   repeat' ((first|(apply y80 ok;rfl)|(refine z20 (i:=i) rfl g1 ?_)|(rw [m2])|(apply y38;first|omega|(unfold inI;omega))|((apply z8)<;>intro _))<;>conv=>whnf)
   all_goals try (exfalso;omega)
   all_goals refine z45 (i+1) hi2 (by omega) ?_
   all_goals dsimp only
   all_goals rw [hes2,m6]
   all_goals exact (by refine swR [0,1,2] [] rfl rfl ?_;(repeat' first|exact y82 _|apply y83|refine z73 rfl (z6 (fun _=>rfl)) ?_|constructor)<;>(first|(refine z61 ?_;exact e1)|rfl))
  ·rw [if_neg hp] at m1
   have m5:metL P (i+1)=metL P i++[P[i]]:=by rw [m3];unfold z168;rw [if_neg hp]
   have m6:mput (z261 0 (metL P i)) [P[i]] (z261 0 (metL P i)).length=z261 0 (metL P (i+1)):=by
    rw [z794 _ _ _ hp,m5,z820,z578,Nat.zero_add]
   generalize hes:z261 0 (metL P i)=es at *
   generalize hes2:z261 0 (metL P (i+1))=es2 at *
   generalize nmI P i=nm at *
   generalize P[i]=p at *
   repeat' ((first|(apply y80 ok;rfl)|(refine z20 (i:=i) rfl g1 ?_)|(rw [m6])|(rw [m2])|(rw [m1])|(apply y38;first|omega|(unfold inI;omega))|((apply z8)<;>intro _))<;>conv=>whnf)
   all_goals try (exfalso;omega)
   all_goals refine z45 (i+1) hi2 (by omega) ?_
   all_goals dsimp only
   all_goals rw [hes2]
   all_goals exact (by refine swR [0,1,2] [] rfl rfl ?_;(repeat' first|exact y82 _|apply y83|refine z73 rfl (z6 (fun _=>rfl)) ?_|constructor)<;>(first|(refine z61 ?_;exact e1)|rfl))
 obtain rfl:i=rows.length:=by omega
 rw [qE]
 repeat' ((first|(apply y80 ok;rfl)|(apply y38;omega)|(((apply z14;omega));intro _)|((first|apply z8|apply z102)<;>intro _))<;>conv=>whnf)
 all_goals try (exfalso;omega)
 all_goals (refine rsD [2] [] rfl ?_;(repeat' first|exact y82 _|exact z17 _|refine z16 rfl (z6 (fun _=>rfl)) ?_|constructor))
def fnB (N:Nat) (f:Nat→Bool):List Bool:=(List.range N).map f
theorem z1210 (N:Nat) (f:Nat→Bool):(fnB N f).length=N:=by simp [fnB]
theorem z1211 {N u:Nat} (f:Nat→Bool) (h:u < N):((fnB N f).map enB)[u]?=some (enB (f u)):=by
 unfold fnB
 rw [y46,y46,List.getElem?_range h];rfl
theorem z982 {N u:Nat} (f:Nat→Bool) (x:Bool):((fnB N f).map enB).set u (enB x)=(fnB N (upd f u x)).map enB:=by
 rw [← List.map_set]
 congr 1
 apply y70 (by simp [fnB])
 intro i h1 h2
 rw [List.getElem_set]
 simp only [fnB,List.getElem_map,List.getElem_range]
 split
 ·rename_i e;subst e;rw [z26]
 ·rename_i e;rw [z54 _ _ (fun h=>e h.symm)]
theorem z981 (N:Nat):List.replicate N [AC.bool false]=(fnB N fun _=>false).map enB:=by
 apply y70 (by simp [fnB])
 intro i h1 h2
 simp [fnB,enB]
set_option maxHeartbeats 12800000 in
theorem z1065 (rows:List (List Int)) (hr:∀ r∈rows,InN rows.length r) (hN:rows.length≤100000) (hrl:∀ r∈rows,r.length≤1000000000):CallsA Tryz.prog 270 [lst 1 encL rows] [] (.sref 0 0 rows.length) [.cells 1 ((cycB rows).map enB)]:=by
 have cC:=z619 rows hr hN hrl
 have hPl:=z425 rows
 have hPi:=z1228 (rows:=rows)
 have hcy:=fun x hx=>cyc_cnt hr (x:=x) hx
 have hcl:=fun x (hx:x < rows.length)=>z920 hx
 have ccB:cycB rows=fnB rows.length (cycD rows):=rfl
 rw [ccB]
 generalize cmpL rows=P at *
 refine z10 z19 Tryz.func270 rfl rfl 56 Tryz.ntmps270 (by simp) ?_
 repeat' ((first|(apply y80 ok;rfl)|(apply y38;(dsimp only;omega))|(apply z11 [] [0] cC;rfl;rfl;rfl;(focus ((repeat' first|exact z18|apply z15)<;>(refine z23 ?_;((exact z6 fun _=>rfl)))))))<;>conv=>whnf)
 obtain ⟨cm,hcm⟩:∃ cm:Nat→Nat→Int,cm=fun i v=>((cntL P i v:Nat):Int):=⟨_,rfl⟩
 have c0:cm 0=fun _=>0:=by rw [hcm];funext v;simp [cntL]
 have cS:∀ i (h:i < P.length),cm (i+1)=upd (cm i) (P[i]).toNat (cm i (P[i]).toNat+1):=fun i h=>by
  have hp:=hPi _ (y39 h)
  funext v
  rw [hcm]
  dsimp only
  rw [z831 h]
  by_cases e:v=(P[i]).toNat
  ·rw [e,z26,if_pos (by omega)];omega
  ·rw [z54 _ _ e,if_neg (by omega)];omega
 have cE:∀ v,cm rows.length v=((cntL P rows.length v:Nat):Int):=fun v=>by rw [hcm]
 have cB:∀ i v,0≤cm i v∧cm i v≤i:=fun i v=>by rw [hcm];have:=cntL_le P i v;dsimp only;omega
 clear hcm
 refine z84 (fun i:Nat=>([(0,lst 1 encL rows),(3,.sref 0 0 rows.length),(4,.sref 1 0 rows.length),(14,.sref 0 0 rows.length),(15,.int rows.length),(16,.int i)],[.cells 1 (P.map enI),.cells 1 ((fnL rows.length (cm i)).map enI)])) (fun i=>i≤rows.length) (fun i=>rows.length - i) 0 (y48 _) (by refine swR [0,1] [] rfl rfl ?_;(repeat' first|exact y82 _|exact z17 _|((refine z16 rfl ?_ ?_);(focus ((repeat' (first|exact z70 rfl|exact z6 (fun _=>rfl)));done)))|constructor)<;>((refine z61 ?_;rw [c0];exact z327 _))) ?_
 intro i hi
 by_cases hi2:i < rows.length
 ·have hiP:i < P.length:=by omega
  have hp:=hPi _ (y39 hiP)
  have gp:(P.map enI)[i]?=some (enI P[i]):=by rw [y46,y40 hiP];rfl
  have cS2:=cS i hiP
  generalize P[i]=p at *
  obtain ⟨v,rfl⟩:∃ v:Nat,p=v:=⟨p.toNat,by omega⟩
  rw [y72] at cS2
  have hv:v < rows.length:=by omega
  have gv:=z169 (cm i) hv
  have l1:=z107 rows.length (cm i)
  have e1:=z146 (N:=rows.length) (u:=v) (cm i) (cm i v+1)
  rw [← cS2] at e1
  have b1:=cB i v
  repeat' ((first|(apply y80 ok;rfl)|(refine z20 (i:=i) rfl gp ?_)|(refine z20 (i:=v) rfl gv ?_)|(apply y38;first|omega|(unfold inI;omega))|((apply z8)<;>intro _))<;>conv=>whnf)
  all_goals try (exfalso;omega)
  all_goals refine z45 (i+1) hi2 (by omega) (by refine swR [0,1] [] rfl rfl ?_;(repeat' first|exact y82 _|exact z17 _|refine z73 rfl (z6 (fun _=>rfl)) ?_|refine z16 rfl (z6 (fun _=>rfl)) ?_|constructor)<;>((refine z61 ?_;exact e1)))
 obtain rfl:i=rows.length:=by omega
 repeat' ((first|(apply y80 ok;rfl)|(apply y38;first|omega|(dsimp only;omega))|(((apply z14;omega));intro _)|((apply z8)<;>intro _))<;>conv=>whnf)
 all_goals try (exfalso;omega)
 obtain ⟨bm,hbm⟩:∃ bm:Nat→Nat→Bool,bm=fun i j=>if j < i then cycD rows j else false:=⟨_,rfl⟩
 have b0:bm 0=fun _=>false:=by rw [hbm];rfl
 have bE:fnB rows.length (bm rows.length)=fnB rows.length (cycD rows):=List.map_congr_left fun i hi=>by
  have:=List.mem_range.1 hi
  rw [hbm];dsimp only;rw [if_pos this]
 have bS:∀ i,bm (i+1)=upd (bm i) i (cycD rows i):=fun i=>by
  funext j
  by_cases h:j=i
  ·subst h;rw [z26,hbm];dsimp only;rw [if_pos (by omega)]
  ·rw [z54 _ _ h,hbm];dsimp only;split<;>split<;>first|rfl|omega
 clear hbm
 refine z84 (fun i:Nat=>([(0,lst 1 encL rows),(3,.sref 0 0 rows.length),(4,.sref 1 0 rows.length),(7,.sref 2 0 rows.length),(31,.int rows.length),(32,.int i)],[.cells 1 (P.map enI),.cells 1 ((fnL rows.length (cm rows.length)).map enI),.cells 1 ((fnB rows.length (bm i)).map enB)])) (fun i=>i≤rows.length) (fun i=>rows.length - i) 0 (y48 _) (by refine swR [0,1,2] [] rfl rfl ?_;(repeat' first|exact y82 _|exact z17 _|((refine z16 rfl ?_ ?_);(focus ((repeat' (first|exact z70 rfl|exact z6 (fun _=>rfl)));done)))|constructor)<;>((refine z61 ?_;rw [b0];exact z981 _))) ?_
 intro i hi
 by_cases hi2:i < rows.length
 ·have hiP:i < P.length:=by omega
  have hp:=hPi _ (y39 hiP)
  have gp:(P.map enI)[i]?=some (enI P[i]):=by rw [y46,y40 hiP];rfl
  have hc:=hcy i hi2
  have e1:=z982 (N:=rows.length) (u:=i) (bm i) (cycD rows i)
  rw [← bS] at e1
  rw [z13 hiP] at hc
  generalize P[i]=p at *
  obtain ⟨v,rfl⟩:∃ v:Nat,p=v:=⟨p.toNat,by omega⟩
  rw [y72] at hc
  have hv:v < rows.length:=by omega
  have gv:=z169 (cm rows.length) hv
  have l1:=z107 rows.length (cm rows.length)
  have l2:=z1210 rows.length (bm i)
  have g2:=z1211 (bm i) hi2
  have gr:=z544 hi2
  have hrow:(rows.getD i []).length≤1000000000:=by rw [z13 hi2];exact hrl _ (y39 _)
  have cct:=z144 (rows.getD i []) (by unfold maxLen;omega) i
  rw [cE] at gv
  generalize cycD rows i=cy at *
  generalize rows.getD i []=row at *
  generalize cntL P rows.length v=cn at *
  by_cases h1:1 < cn
  ·rw [y77 h1,Bool.true_or] at hc
   subst hc
   repeat' ((first|(apply y80 ok;rfl)|(refine z20 (i:=i) rfl gp ?_)|(refine z20 (i:=v) rfl gv ?_)|(refine z20 (i:=i) rfl g2 ?_)|(refine z20 (i:=i) rfl gr ?_)|(apply y38;first|omega|(unfold inI;omega))|((apply z8)<;>intro _)|(apply z7 (cct);rfl;rfl))<;>conv=>whnf)
   all_goals try (exfalso;omega)
   all_goals refine z45 (i+1) hi2 (by omega) (by refine swR [0,1,2] [] rfl rfl ?_;(repeat' first|exact y82 _|exact z17 _|refine z73 rfl (z6 (fun _=>rfl)) ?_|refine z16 rfl (z6 (fun _=>rfl)) ?_|constructor)<;>((refine z61 ?_;exact e1)))
  ·rw [y78 h1,Bool.false_or] at hc
   rw [← hc] at cct
   repeat' ((first|(apply y80 ok;rfl)|(refine z20 (i:=i) rfl gp ?_)|(refine z20 (i:=v) rfl gv ?_)|(refine z20 (i:=i) rfl g2 ?_)|(refine z20 (i:=i) rfl gr ?_)|(apply y38;first|omega|(unfold inI;omega))|((apply z8)<;>intro _)|(apply z7 (cct);rfl;rfl))<;>conv=>whnf)
   all_goals try (exfalso;omega)
   all_goals refine z45 (i+1) hi2 (by omega) (by refine swR [0,1,2] [] rfl rfl ?_;(repeat' first|exact y82 _|exact z17 _|refine z73 rfl (z6 (fun _=>rfl)) ?_|refine z16 rfl (z6 (fun _=>rfl)) ?_|constructor)<;>((refine z61 ?_;exact e1)))
 obtain rfl:i=rows.length:=by omega
 rw [bE]
 repeat' ((first|(apply y80 ok;rfl)|(apply y38;omega)|((first|(with_reducible apply z14;omega)|(apply z14;omega));intro _)|((apply z8)<;>intro _))<;>conv=>whnf)
 all_goals try (exfalso;omega)
 all_goals (refine rsD [2] [] rfl ?_;(repeat' first|exact y82 _|exact z17 _|refine z16 rfl (z6 (fun _=>rfl)) ?_|constructor))
def inM (Q:List Int) (i:Nat):Bool:=decide ((i:Int)∈Q)
theorem inM_upd (Q:List Int) (w:Nat):inM (Q++[(w:Int)])=upd (inM Q) w true:=by
 funext j
 by_cases h:j=w
 ·subst h;rw [z26];unfold inM;simp
 ·rw [z54 _ _ h];unfold inM;congr 1
  have:¬ (j:Int)=w:=by omega
  simp [this]
theorem inM_nil:inM []=fun _=>false:=by funext j;simp [inM]
@[reducible] def findF:AC:=.fn (.func 291) [] [.ptr 0 none 0,.ptr 2 none 0]
@[reducible] def z1161 (N:Nat) (Q:List Int):List AObj:=[.cells 1 [[.sref 1 0 N]],.cells 1 ((fnB N (inM Q)).map enB),.cells 1 [[.own 1 (Q.map enI)]]]
set_option maxHeartbeats 3200000 in
theorem z815 (N : Nat) (hN : N ≤ 100000) (Q : List Int) (hQ : Q.length ≤ 100000) (v : Int) (hv : 0 ≤ v ∧ v < N) :
    CallsA Tryz.prog 291 [.int v,.ptr 0 none 0,.ptr 2 none 0] (z1161 N Q) (.tup []) (z1161 N (z168 Q v)):=by
  obtain ⟨w,rfl⟩:∃ w:Nat,v=w:=⟨v.toNat,by omega⟩
  have hw:w < N:=by omega
  have g1:=z1211 (inM Q) hw
  have l1:=z1210 N (inM Q)
  unfold z168
  by_cases h:(w:Int)∈Q
  · rw [if_pos h]
    have e:inM Q w=true:=by unfold inM;simp [h]
    rw [e] at g1
    refine z10 z19 Tryz.func291 rfl rfl 16 Tryz.ntmps291 (by simp) ?_
    repeat' ((first|(apply y80 ok;rfl)|(refine z20 (i:=w) rfl g1 ?_)|(apply y38;omega))<;>conv=>whnf)
    all_goals (refine rsD [0,1,2] [] rfl ?_;(repeat' first|exact y82 _|exact z17 _|apply y83|refine z16 rfl (z6 (fun _=>rfl)) ?_|constructor))
  · rw [if_neg h]
    have e:inM Q w=false:=by unfold inM;simp [h]
    rw [e] at g1
    have e1:=z982 (N:=N) (u:=w) (inM Q) true
    rw [← inM_upd] at e1
    have e2:(List.map enI Q).take (List.map enI Q).length++[enI (w:Int)]=(Q++[(w:Int)]).map enI:=by
      rw [y51];simp
    refine z10 z19 Tryz.func291 rfl rfl 16 Tryz.ntmps291 (by simp) ?_
    repeat' ((first|((fail_if_success apply z116 2);(fail_if_success apply z101 2);apply y80 ok;rfl)|(refine z20 (i:=w) rfl g1 ?_)|(apply y38;omega))<;>conv=>whnf)
    all_goals
      refine y81 (Gl.Reach.expose 2 0 0 rfl rfl rfl (z177 (fun _=>rfl) _) rfl) ?_
      conv=>whnf
      repeat' ((first|(apply y80 ok;rfl)|(apply y38;first|((try dsimp only);simp only [y44,y43,y42,y41,y53,y54];omega)|exact ⟨rfl,z24 rfl z31⟩))<;>conv=>whnf)
      refine Gl.RetS.absorb 2 5 0 0 rfl rfl rfl rfl (by simp) rfl (z87 (fun e he=>(z6 (fun _=>rfl)) e (List.mem_of_mem_take he)) (z220 rfl z33)) ?_
      conv=>whnf
      (refine rsD [0,1,2] [] rfl ?_;(repeat' first|exact y82 _|apply y83|refine z73 rfl (z6 (fun _=>rfl)) ?_|constructor))
      all_goals first|(refine z61 ?_;exact e1)|exact y8 (congrArg (AC.own 1) e2)
set_option maxHeartbeats 6400000 in
theorem z785 (rows : List (List Int)) (ini : List Int) (hr : ∀ r ∈ rows, InN rows.length r) (hi : InN rows.length ini) (hN : rows.length ≤ 100000) (hrl : ∀ r ∈ rows, r.length ≤ 1000000000) (hil : ini.length ≤ 1000000000) :
    CallsA Tryz.prog 172 [lst 1 encL rows,ints ini] [] (.sref 0 0 (bfsL rows ini).length) [.cells 1 ((bfsL rows ini).map enI)]:=by
  have hvl:∀ l:List Int,InN rows.length l→(z88 [] l).length≤100000:=fun l hl=>by
    have:=z187 rows.length (z88 [] l) (z185 (by simp)) (z375 (fun x hx=>by cases hx) hl)
    omega
  refine z10 z19 Tryz.func172 rfl rfl 50 Tryz.ntmps172 (by simp) ?_
  repeat' ((first|(apply y80 ok;rfl)|(apply y38;(dsimp only;omega)))<;>conv=>whnf)
  refine z84 (fun i:Nat=>([(0,lst 1 encL rows),(6,.ptr 2 none 0),(7,findF),(17,ints ini),(18,.int ini.length),(19,.int i)],z1161 rows.length (z88 [] (ini.take i)))) (fun i=>i≤ini.length) (fun i=>ini.length - i) 0 (y48 _) (by refine swR [1,0,2] [] rfl rfl ?_;(repeat' first|exact y82 _|apply y83|refine z16 rfl (z70 rfl) ?_|constructor)<;>(first|exact z401|(refine z61 ?_;show _=(fnB rows.length (inM [])).map enB;rw [inM_nil];exact z981 _))) ?_
  intro i hil1
  by_cases hil2:i < ini.length
  · have gk:(ini.map enI)[i]?=some (enI ini[i]):=by rw [y46,y40 hil2];rfl
    have hv:=hi _ (y39 hil2)
    have hQl:=hvl (ini.take i) fun x hx=>hi x (List.mem_of_mem_take hx)
    have e1:=z352 (out:=[]) hil2
    generalize ini[i]=v at *
    have cf:=z815 rows.length hN (z88 [] (ini.take i)) hQl v hv
    rw [← e1] at cf
    repeat' ((first|(apply y80 ok;rfl)|(refine z20 (i:=i) rfl gk ?_)|(apply y38;first|omega|(unfold inI;omega))|((apply z8)<;>intro _)|(apply z163 [0,1,2] [] cf;rfl;(focus ((repeat' first|exact z37|apply z63)<;>first|rfl|(refine z83 rfl ?_;((exact z6 fun _=>rfl)))));rfl;(focus ((repeat' first|exact z18|apply z15)<;>first|exact z50 rfl rfl|(refine z23 ?_;((exact z6 fun _=>rfl)))))))<;>conv=>whnf)
    all_goals try (exfalso;omega)
    all_goals refine z45 (i+1) hil2 (by omega) (by refine swR [0,1,2] [] rfl rfl ?_;(repeat' first|exact y82 _|exact z17 _|apply y83|refine z16 rfl (z6 (fun _=>rfl)) ?_|constructor))
  obtain rfl:i=ini.length:=by omega
  rw [y51]
  repeat' ((first|(apply y80 ok;rfl)|(apply y38;omega)|(((with_reducible apply z14;omega));intro _)|((apply z8)<;>intro _))<;>conv=>whnf)
  all_goals try (exfalso;omega)
  refine z84 (fun i:Nat=>([(0,lst 1 encL rows),(6,.ptr 2 none 0),(7,findF),(10,.int i)],z1161 rows.length (bfs rows ini i))) (fun i=>i≤rows.length) (fun i=>rows.length - i) 0 (y48 _) (by refine swR [0,1,2] [] rfl rfl ?_;(repeat' first|exact y82 _|exact z17 _|apply y83|refine z16 rfl (z6 (fun _=>rfl)) ?_|constructor)) ?_
  intro i hi1
  have hQl:=z733 hr hi i
  have hQi:=z656 hr hi i
  refine y81 (Gl.Reach.expose 2 0 0 rfl rfl rfl (z177 (fun _=>rfl) _) rfl) ?_
  by_cases hi2:i < (bfs rows ini i).length
  · have hx:=hQi _ (y39 hi2)
    have gx:((bfs rows ini i).map enI)[i]?=some (enI (bfs rows ini i)[i]):=by rw [y46,y40 hi2];rfl
    have hnx:bfs rows ini (i+1)=z88 (bfs rows ini i) (rows.getD ((bfs rows ini i)[i]).toNat []):=by rw [bfs,dif_pos hi2]
    have hnd:=z837 (rows:=rows) (ini:=ini) i
    generalize hQ' : bfs rows ini (i+1)=Q' at *
    generalize (bfs rows ini i)[i]=x at *
    generalize hQ:bfs rows ini i=Q at *
    obtain ⟨u,rfl⟩:∃ u:Nat,x=u:=⟨x.toNat,by omega⟩
    rw [y72] at hnx
    have hu:u < rows.length:=by omega
    have gr:=z544 hu
    have hrow:=z250 hr (u:Int)
    rw [y72] at hrow
    have hrowl:(rows.getD u []).length≤1000000000:=by rw [z13 hu];exact hrl _ (y39 _)
    generalize rows.getD u []=row at *
    repeat' ((first|(apply y80 ok;rfl)|(refine z20 (i:=i) rfl gx ?_)|(refine z20 (i:=u) rfl gr ?_)|(apply y38;omega)|((apply z8)<;>intro _))<;>conv=>whnf)
    all_goals first|(exfalso;simp at *;omega)|skip
    all_goals
      refine y81 (Gl.Reach.absorb 2 3 0 0 rfl rfl rfl rfl (by simp) rfl (z6 fun _=>rfl) rfl) ?_
      refine z84 (fun j:Nat=>([(0,lst 1 encL rows),(6,.ptr 2 none 0),(7,findF),(10,.int i),(39,ints row),(40,.int row.length),(41,.int j)],z1161 rows.length (z88 Q (row.take j)))) (fun j=>j≤row.length) (fun j=>row.length - j) 0 (y48 _) (by refine swR [0,1,2] [] rfl rfl ?_;(repeat' first|exact y82 _|exact z17 _|apply y83|refine z16 rfl (z6 (fun _=>rfl)) ?_|constructor)) ?_
      intro j hj
      by_cases hj2:j < row.length
      · have gj:(row.map enI)[j]?=some (enI row[j]):=by rw [y46,y40 hj2];rfl
        have hv:=hrow _ (y39 hj2)
        have hWl:(z88 Q (row.take j)).length≤100000:=by
          have:=z187 rows.length (z88 Q (row.take j)) (z185 hnd) (z375 hQi fun x hx=>hrow x (List.mem_of_mem_take hx))
          omega
        have e1:=z352 (out:=Q) hj2
        generalize row[j]=v at *
        have cf:=z815 rows.length hN (z88 Q (row.take j)) hWl v hv
        rw [← e1] at cf
        repeat' ((first|(apply y80 ok;rfl)|(refine z20 (i:=j) rfl gj ?_)|(apply y38;first|omega|(unfold inI;omega))|((apply z8)<;>intro _)|(apply z163 [0,1,2] [] cf;rfl;(focus ((repeat' first|exact z37|apply z63)<;>first|rfl|(refine z83 rfl ?_;((exact z6 fun _=>rfl)))));rfl;(focus ((repeat' first|exact z18|apply z15)<;>first|exact z50 rfl rfl|(refine z23 ?_;((exact z6 fun _=>rfl)))))))<;>conv=>whnf)
        all_goals try (exfalso;omega)
        all_goals refine z45 (j+1) hj2 (by omega) (by refine swR [0,1,2] [] rfl rfl ?_;(repeat' first|exact y82 _|exact z17 _|apply y83|refine z16 rfl (z6 (fun _=>rfl)) ?_|constructor))
      obtain rfl:j=row.length:=by omega
      rw [y51,← hnx]
      repeat' ((first|(apply y80 ok;rfl)|(apply y38;first|omega|(unfold inI;omega))|(((with_reducible apply z14;omega));intro _)|((apply z8)<;>intro _))<;>conv=>whnf)
      all_goals try (exfalso;omega)
      all_goals refine z45 (i+1) (by omega) (by omega) ?_
      all_goals dsimp only
      all_goals rw [hQ']
      all_goals exact (by refine swR [0,1,2] [] rfl rfl ?_;(repeat' first|exact y82 _|exact z17 _|apply y83|refine z16 rfl (z6 (fun _=>rfl)) ?_|constructor))
  · have hE:=bfsL_end hr hi (i:=i) (by omega) hi1
    rw [← hE]
    repeat' ((first|(apply y80 ok;rfl)|(apply y38;omega)|((apply z8)<;>intro _))<;>conv=>whnf)
    all_goals first|(exfalso;simp at *;omega)|skip
    all_goals (refine rsD [3] [] rfl ?_;(repeat' first|exact z17 _|(refine z71 ?_;((simp;done)))|refine z16 rfl (z6 (fun _=>rfl)) ?_|constructor))
theorem swp_map (l:List Int) (i j:Nat):((l.map enI).set i (enI (l.getD j 0))).set j (enI (l.getD i 0))=(swp l i j).map enI:=by
 unfold swp;rw [List.map_set,List.map_set]
set_option maxHeartbeats 1600000 in
theorem z627 (l:List Int) (h1:1≤l.length) (h2:l.length≤1048576):CallsA Tryz.prog 366 [.sref 0 0 l.length] [.cells 1 (l.map enI)] (.tup []) [.cells 1 ((rvs l).map enI)]:=by
 have hR:revG l.length 0 (l.length - 1) l=rvs l:=rfl
 generalize rvs l=R at *
 generalize hn:l.length=n at *
 refine z10 z19 Tryz.func366 rfl rfl 28 Tryz.ntmps366 (by simp) ?_
 repeat' ((first|(apply y80 ok;rfl)|(apply y38;(unfold inI;omega)))<;>conv=>whnf)
 refine z84 (fun x:Nat×Nat×List Int=>([(0,.sref 0 0 n),(2,.int x.1),(3,.int x.2.1)],[.cells 1 (x.2.2.map enI)])) (fun x=>x.1≤n∧x.2.1 < n∧x.2.2.length=n∧revG (n - x.1) x.1 x.2.1 x.2.2=R) (fun x=>n - x.1) (0,n - 1,l) ⟨by simp,by show n - 1 < n;omega,hn,hR⟩ (by refine swR [0] [] rfl rfl ?_;(repeat' first|exact y82 _|exact z17 _|refine z16 rfl (z6 (fun _=>rfl)) ?_|constructor)<;>((rw [show ((n - 1:Nat):Int)=(n:Int) - 1 by omega];exact y82 _))) ?_
 rintro ⟨i,j,l'⟩ ⟨i1,i2,i3,i4⟩
 dsimp only at i1 i2 i3 i4 ⊢
 by_cases hij:i < j
 ·rw [show n - i=(n - (i+1))+1 by omega,revG,if_pos hij] at i4
  have gi:(l'.map enI)[i]?=some (enI (l'.getD i 0)):=by rw [y46,y40 (by omega),z13 (by omega)];rfl
  have gj:(l'.map enI)[j]?=some (enI (l'.getD j 0)):=by rw [y46,y40 (by omega),z13 (by omega)];rfl
  have gj2:((l'.map enI).set i (enI (l'.getD j 0)))[j]?=some (enI (l'.getD j 0)):=by rw [List.getElem?_set_ne (by omega)];exact gj
  have es:=swp_map l' i j
  repeat' ((first|(apply y80 ok;rfl)|(apply z35;kernel_rfl)|(refine z20 (i:=i) rfl gi ?_)|(refine z20 (i:=j) rfl gj ?_)|(refine z20 (i:=j) rfl gj2 ?_)|(apply y38;first|omega|(unfold inI;omega))|((apply z8)<;>intro _))<;>conv=>whnf)
  all_goals try (exfalso;omega)
  all_goals refine z45 (i+1,j - 1,swp l' i j) ⟨by show i+1≤n;omega,by show j - 1 < n;omega,by show (swp l' i j).length=n;simp [swp,i3],i4⟩ (by show n - (i+1) < n - i;omega) (by refine swR [0] [] rfl rfl ?_;(repeat' first|exact y82 _|((refine z73 rfl ?_ ?_);(focus ((repeat' (first|exact z6 (fun _=>rfl)|(refine z1212 ?_ _ rfl)));done)))|constructor)<;>(first|(rw [show ((j - 1:Nat):Int)=(j:Int) - 1 by omega];exact y82 _)|exact z61 es))
 ·have:revG (n - i) i j l'=l':=by cases n - i<;>simp [revG,hij]
  rw [this] at i4
  subst i4
  repeat' ((first|(apply y80 ok;rfl)|(apply y38;omega)|(((apply z14;omega));intro _)|((apply z8)<;>intro _))<;>conv=>whnf)
  all_goals try (exfalso;omega)
  all_goals (refine rsD [0] [] rfl ?_;(repeat' first|exact y82 _|exact z17 _|refine z16 rfl (z6 (fun _=>rfl)) ?_|constructor))
theorem z452 {N w:Nat} (Q P:List Int) (hw:w < N):((frm N Q P).map enI)[w]?=some (enI (if (w:Int)∈Q then P.getD w 0 else -2)):=by
 unfold frm
 rw [y46,y46,List.getElem?_range hw];rfl
theorem z510 {N w:Nat} {Q P:List Int} {u:Int} (hw:w < N) (hP:P.length=N):((frm N Q P).map enI).set w (enI u)=(frm N (Q++[(w:Int)]) (P.set w u)).map enI:=by
 have:=frm_set (N:=N) (Q:=Q) (P:=P) (v:=(w:Int)) (u:=u) ⟨by omega,by omega⟩ hP
 rw [y72] at this
 rw [← this,List.map_set]
set_option maxHeartbeats 12800000 in
theorem z683 (rows : List (List Int)) (ini : List Int) (hr : ∀ r ∈ rows, InN rows.length r) (hi : InN rows.length ini) (hn : ini.Nodup) (hN : rows.length ≤ 100000) (hrl : ∀ r ∈ rows, r.length ≤ 1000000000) (G : Int → Bool) (f : FuncId) (c1 : List AC) (hf : ∀ x : Int, 0 ≤ x → x < rows.length → CallsA Tryz.prog f (.int x :: [.pt c1]) [] (.bool (G x)) []) :
    CallsA Tryz.prog 271 [lst 1 encL rows,ints ini,.fn (.func f) [] [.pt c1]] [] (.sref 0 0 (shL rows ini G).length) [.cells 1 ((shL rows ini G).map enI)]:=by
  have hil:ini.length≤100000:=by have:=z187 rows.length ini hn hi;omega
  refine z10 z19 Tryz.func271 rfl rfl 99 Tryz.ntmps271 (by simp) ?_
  repeat' ((first|(apply y80 ok;rfl)|(apply y38;(dsimp only;omega)))<;>conv=>whnf)
  obtain ⟨qm,hqm⟩:∃ qm:Nat→Nat→Int,qm=fun i j=>if j < i then -2 else 0:=⟨_,rfl⟩
  have q0:qm 0=fun _=>0:=by rw [hqm];rfl
  have qE:(fnL rows.length (qm rows.length)).map enI=(frm rows.length [] (List.replicate rows.length (-1))).map enI:=by
    rw [z1205]
    congr 1
    apply y70 (by simp [fnL])
    intro i h1 h2
    rw [z454,hqm]
    have hi' : i < rows.length:=by rw [z107] at h1;exact h1
    dsimp only
    rw [if_pos hi'];simp
  have qS:∀ i,qm (i+1)=upd (qm i) i (-2):=fun i=>by
    funext j
    by_cases h:j=i
    · subst h;rw [z26,hqm];dsimp only;rw [if_pos (by omega)]
    · rw [z54 _ _ h,hqm];dsimp only;split<;>split<;>first|rfl|omega
  clear hqm
  refine z84 (fun i:Nat=>([(0,lst 1 encL rows),(1,ints ini),(2,.fn (.func f) [] [.pt c1]),(7,.sref 0 0 rows.length),(21,.int rows.length),(22,.int i)],[.cells 1 ((fnL rows.length (qm i)).map enI)])) (fun i=>i≤rows.length) (fun i=>rows.length - i) 0 (y48 _) (by refine swR [0] [] rfl rfl ?_;(repeat' first|exact y82 _|refine z16 rfl (z70 rfl) ?_|constructor)<;>((refine z61 ?_;rw [q0];exact z327 _))) ?_
  intro i hi1
  by_cases hi2:i < rows.length
  · have g1:=z169 (qm i) hi2
    have l1:=z107 rows.length (qm i)
    have e1:=z146 (N:=rows.length) (u:=i) (qm i) (-2)
    rw [← qS] at e1
    repeat' ((first|(apply y80 ok;rfl)|(refine z20 (i:=i) rfl g1 ?_)|(apply y38;first|omega|(unfold inI;omega))|((apply z8)<;>intro _))<;>conv=>whnf)
    all_goals try (exfalso;omega)
    all_goals refine z45 (i+1) hi2 (by omega) (by refine swR [0] [] rfl rfl ?_;(repeat' first|exact y82 _|refine z73 rfl (z6 (fun _=>rfl)) ?_|constructor)<;>((refine z61 ?_;exact e1)))
  obtain rfl:i=rows.length:=by omega
  rw [qE]
  clear qE qS q0
  repeat' ((first|(apply y80 ok;rfl)|(apply y38;omega)|(((apply z14;omega));intro _)|((apply z8)<;>intro _))<;>conv=>whnf)
  all_goals try (exfalso;omega)
  refine y81 (y84 1 rfl) ?_
  have hrep:(List.replicate rows.length (-1:Int)).length=rows.length:=by simp
  have hrs:∀ w,(List.replicate rows.length (-1:Int)).set w (-1)=List.replicate rows.length (-1):=fun w=>by
    apply y70 (by simp)
    intro i h1 h2
    rw [List.getElem_set]
    split<;>simp
  have hS0:(frm rows.length ini (List.replicate rows.length (-1)))=frm rows.length (srS rows ini 0).1 (srS rows ini 0).2:=rfl
  generalize List.replicate rows.length (-1:Int)=P0 at *
  refine z84 (fun k:Nat=>([(0,lst 1 encL rows),(2,.fn (.func f) [] [.pt c1]),(7,.sref 0 0 rows.length),(9,.sref 1 0 (ini.take k).length),(29,ints ini),(30,.int ini.length),(31,.int k)],[.cells 1 ((frm rows.length (ini.take k) P0).map enI),.cells 1 ((ini.take k).map enI)])) (fun k=>k≤ini.length) (fun k=>ini.length - k) 0 (y48 _) (by refine swR [0,1] [] rfl rfl ?_;(repeat' first|exact y82 _|exact z55|exact z17 _|((refine z16 rfl ?_ ?_);(focus ((repeat' (first|exact z33|exact z6 (fun _=>rfl)));done)))|constructor)) ?_
  intro k hk
  by_cases hk2:k < ini.length
  · have gk:(ini.map enI)[k]?=some (enI ini[k]):=by rw [y46,y40 hk2];rfl
    have hv:=hi _ (y39 hk2)
    have et:ini.take (k+1)=ini.take k++[ini[k]]:=y45 hk2
    have htl:(ini.take k).length≤100000:=by rw [y43];omega
    generalize hQ' : ini.take (k+1)=Q' at *
    generalize hQ:ini.take k=Q at *
    generalize ini[k]=v at *
    obtain ⟨w,rfl⟩:∃ w:Nat,v=w:=⟨v.toNat,by omega⟩
    have hw:w < rows.length:=by omega
    have g1:=z452 Q P0 hw
    have l1:=z451 rows.length Q P0
    have e1:=z510 (Q:=Q) (u:=-1) hw hrep
    rw [hrs,← et] at e1
    subst et
    repeat' ((first|(apply y80 ok;rfl)|(refine z20 (i:=k) rfl gk ?_)|(refine z20 (i:=w) rfl g1 ?_)|(apply y38;first|omega|(unfold inI;omega)|((try dsimp only);simp only [y44,y43,y42,y41,y53,y54];omega)|exact ⟨rfl,z24 rfl z31⟩)|((apply z8)<;>intro _))<;>conv=>whnf)
    all_goals try (exfalso;omega)
    all_goals refine z45 (k+1) hk2 (by omega) ?_
    all_goals dsimp only
    all_goals rw [hQ']
    all_goals exact (by refine swR [0,3] [] rfl rfl ?_;(repeat' first|exact y82 _|(refine z71 ?_;((simp;done)))|((first|refine z48 rfl ?_ ?_|refine z73 rfl ?_ ?_);(focus ((repeat' (first|exact z6 (fun _=>rfl)|apply z32));done)))|(refine z95 ?_ ?_;(focus (omega)))|constructor)<;>((refine z61 ?_;exact e1)))
  obtain rfl:k=ini.length:=by omega
  rw [y51,hS0]
  repeat' ((first|(apply y80 ok;rfl)|(apply y38;omega)|((first|(with_reducible apply z14;omega)|(apply z14;omega));intro _)|((apply z8)<;>intro _))<;>conv=>whnf)
  all_goals try (exfalso;omega)
  refine z84 (fun i:Nat=>([(0,lst 1 encL rows),(2,.fn (.func f) [] [.pt c1]),(7,.sref 0 0 rows.length),(9,.sref 1 0 (srS rows ini i).1.length),(12,.int i)],[.cells 1 ((frm rows.length (srS rows ini i).1 (srS rows ini i).2).map enI),.cells 1 ((srS rows ini i).1.map enI)])) (fun i=>i≤rows.length∧∀ k (_:k < i) (h:k < (srS rows ini i).1.length),G ((srS rows ini i).1[k])=false) (fun i=>rows.length+1 - i) 0 ⟨y48 _,fun k h=>by omega⟩ (by refine swR [0,1] [] rfl rfl ?_;(repeat' first|exact y82 _|exact z17 _|refine z16 rfl (z6 (fun _=>rfl)) ?_|constructor)<;>(fail)) ?_
  rintro i ⟨hi1,hno⟩
  have hJ:=z529 hr hi hn i
  have hQl:=z867 hr hi hn i
  by_cases hi2:i < (srS rows ini i).1.length
  · have hx:=hJ.inn _ (y39 hi2)
    have cf:=hf _ hx.1 hx.2
    have gx:((srS rows ini i).1.map enI)[i]?=some (enI (srS rows ini i).1[i]):=by rw [y46,y40 hi2];rfl
    have hnx:srS rows ini (i+1)=visPs (srS rows ini i).1[i] (srS rows ini i) (rows.getD ((srS rows ini i).1[i]).toNat []):=by rw [srS,dif_pos hi2]
    have hfnd:=fun h=>z769 hr hi hn (G:=G) hi2 h (fun k hk=>hno k hk (by omega))
    have hpre:=z376 (srS rows ini i).1[i] (rows.getD ((srS rows ini i).1[i]).toNat []) (srS rows ini i)
    by_cases hG:G (srS rows ini i).1[i]=true
    · rw [hfnd hG,z930,y60]
      have hq0:∃ k,∃ h:k < (srS rows ini i).1.length,(srS rows ini i).1[k]=(srS rows ini i).1[i]∧k≤rows.length:=⟨i,hi2,rfl,hi1⟩
      rw [hG] at cf
      clear hfnd hnx hpre hno
      generalize hS:srS rows ini i=S at *
      obtain ⟨Q,P⟩:=S
      dsimp only at *
      have hi4:i < Q.length:=hi2
      generalize Q[i]=x at *
      repeat' ((first|(apply y80 ok;rfl)|(refine z20 (i:=i) rfl gx ?_)|(apply y38;omega)|((apply z8)<;>intro _)|(apply z7 (cf);rfl;rfl))<;>conv=>whnf)
      all_goals try (exfalso;omega)
      all_goals
        refine y81 (y84 1 rfl) ?_
        have hB1:=z1230 P rows.length x
        generalize hB:chn P rows.length x=B at *
        refine z84 (fun y:Nat×List Int×Int=>([(7,.sref 0 0 rows.length),(13,.int y.2.2),(14,.sref 1 0 y.2.1.length)],[.cells 1 ((frm rows.length Q P).map enI),.cells 1 (y.2.1.map enI)])) (fun y=>y.2.1.length+y.1≤rows.length+1∧((0≤y.2.2∧y.2.1++chn P (y.1 - 1) y.2.2=B∧1≤y.1∧∃ k,∃ h:k < Q.length,Q[k]=y.2.2∧k+1≤y.1)∨(y.2.2=-1∧y.2.1=B))) (fun y=>y.1+(if 0≤y.2.2 then 1 else 0)) (rows.length+1,[],x) ⟨by simp,.inl ⟨hx.1,by simpa using hB,by omega,by obtain ⟨k,h,h1,h2⟩:=hq0;exact ⟨k,h,h1,by omega⟩⟩⟩ (by refine swR [0,2] [] rfl rfl ?_;(repeat' first|exact y82 _|exact z55|exact z17 _|((refine z16 rfl ?_ ?_);(focus ((repeat' (first|exact z33|exact z6 (fun _=>rfl)));done)))|constructor)) ?_
        rintro ⟨fu,ac,u⟩ ⟨q1,q2⟩
        dsimp only at q1 q2 ⊢
        rcases q2 with ⟨q2,q3,q4,k,hk,q5,q6⟩|⟨rfl,rfl⟩
        · have huN:=hJ.inn u (q5 ▸ y39 hk)
          obtain ⟨w,rfl⟩:∃ w:Nat,u=w:=⟨u.toNat,by omega⟩
          have hw:w < rows.length:=by omega
          have gw:=z452 Q P hw
          rw [if_pos (q5 ▸ y39 hk)] at gw
          have lw:=z451 rows.length Q P
          have hp:=hJ.pre k hk
          rw [q5,y72] at hp
          dsimp only at hp
          obtain ⟨fu,rfl⟩:∃ m,fu=m+1:=⟨fu - 1,by omega⟩
          rw [Nat.add_sub_cancel] at q3
          have hnext:P.getD w 0=-1∧ac++[(w:Int)]=B∨(0≤P.getD w 0∧(ac++[(w:Int)])++chn P (fu - 1) (P.getD w 0)=B∧1≤fu∧∃ k,∃ h:k < Q.length,Q[k]=P.getD w 0∧k+1≤fu):=by
            rcases hp with hp|⟨j,hj,hjk,hp⟩
            · left
              refine ⟨hp,?_⟩
              rw [← q3]
              cases fu with
              | zero=>rfl
              | succ fu =>
                rw [chn,y72,if_neg (by omega)]
            · right
              have:=hJ.inn _ (y39 hj)
              refine ⟨by omega,?_,by omega,j,hj,hp.symm,by omega⟩
              obtain ⟨fu,rfl⟩:∃ m,fu=m+1:=⟨fu - 1,by omega⟩
              rw [chn,y72,if_pos (by omega)] at q3
              rw [← q3]
              simp
          have hvb : -1≤P.getD w 0∧P.getD w 0 < rows.length:=by
            rcases hnext with ⟨h,_⟩|⟨h,_,_,j,hj,hp2,_⟩
            · omega
            · have:=hJ.inn _ (y39 hj)
              omega
          clear hp
          generalize P.getD w 0=v at *
          repeat' ((first|(apply y80 ok;rfl)|(refine z20 (i:=w) rfl gw ?_)|(apply y38;first|omega|((try dsimp only);simp only [y44,y43,y42,y41,y53,y54];omega)|exact ⟨rfl,z24 rfl z31⟩))<;>conv=>whnf)
          all_goals refine z45 (fu,ac++[(w:Int)],v) ⟨by simp only [y42,List.length_singleton];omega,?_⟩ ?_ (by refine swR [0,3] [] rfl rfl ?_;(repeat' first|exact y82 _|exact z17 _|(refine z71 ?_;((simp;done)))|((first|refine z48 rfl ?_ ?_|refine z16 rfl ?_ ?_);(focus ((repeat' (first|exact z6 (fun _=>rfl)|apply z32));done)))|(refine z95 ?_ ?_;(focus (omega)))|constructor))
          all_goals dsimp only
          all_goals first|(rcases hnext with ⟨h1,h2⟩|h1<;>first|exact .inr ⟨h1,h2⟩|exact .inl h1)|(rw [if_pos (show (0:Int)≤w by omega)];split<;>omega)
        · have cr:=z627 ac (by omega) (by omega)
          have cc:=z373 (rvs ac) (by rw [z440];omega)
          have el:=z440 ac
          rw [← rvs_eq]
          generalize rvs ac=D at *
          rw [el] at cc ⊢
          repeat' ((first|(apply y80 ok;rfl)|((first|(apply z163 [1] [] cr;rfl;(focus ((repeat' first|exact z37|apply z63)<;>(refine z83 rfl ?_;((exact z6 fun _=>rfl))))))|(apply z163 [1] [] cc;rfl;(focus ((repeat' first|exact z37|apply z63)<;>(refine z83 rfl ?_;((exact z6 fun _=>rfl)))))));rfl;(focus ((repeat' first|exact z18|apply z15)<;>(refine z23 ?_;((exact z6 fun _=>rfl)))))))<;>conv=>whnf)
          all_goals (refine rsD [1] [] rfl ?_;(repeat' first|exact y82 _|exact z17 _|refine z16 rfl (z6 (fun _=>rfl)) ?_|constructor))
    · have hG:=(y67 _).mp hG
      rw [hG] at cf
      have hno2:∀ k (_:k < i+1) (h:k < (srS rows ini (i+1)).1.length),G ((srS rows ini (i+1)).1[k])=false:=by
        obtain ⟨t,ht⟩:=z677 (rows:=rows) (ini:=ini) (show i≤i+1 by omega)
        intro k hk h
        have hki:k < (srS rows ini i).1.length:=by omega
        have e:(srS rows ini (i+1)).1[k]=(srS rows ini i).1[k]:=by
          simp only [ht,List.getElem_append_left hki]
        rw [e]
        by_cases hk3:k < i
        · exact hno k hk3 hki
        · obtain rfl:k=i:=by omega
          exact hG
      have hile:i+1≤rows.length:=by omega
      have hJv:=fun l hl=>PJ.visPs (N:=rows.length) l hJ hi2 rfl hl
      clear hfnd hpre hno
      generalize hS' : srS rows ini (i+1)=S' at *
      generalize hS:srS rows ini i=S at *
      obtain ⟨Q,P⟩:=S
      dsimp only at *
      have hi4:i < Q.length:=hi2
      generalize hxx:Q[i]=x at *
      obtain ⟨u,rfl⟩:∃ u:Nat,x=u:=⟨x.toNat,by omega⟩
      rw [y72] at hnx
      have hu:u < rows.length:=by omega
      have gr:=z544 hu
      have hrow:=z250 hr (u:Int)
      rw [y72] at hrow
      have hrowl:(rows.getD u []).length≤1000000000:=by rw [z13 hu];exact hrl _ (y39 _)
      generalize rows.getD u []=row at *
      repeat' ((first|(apply y80 ok;rfl)|(refine z20 (i:=i) rfl gx ?_)|(refine z20 (i:=u) rfl gr ?_)|(apply y38;omega)|((apply z8)<;>intro _)|(apply z7 (cf);rfl;rfl))<;>conv=>whnf)
      all_goals try (exfalso;omega)
      all_goals
        refine z84 (fun j:Nat=>([(0,lst 1 encL rows),(2,.fn (.func f) [] [.pt c1]),(7,.sref 0 0 rows.length),(9,.sref 1 0 (visPs (u:Int) (Q,P) (row.take j)).1.length),(12,.int i),(76,ints row),(77,.int row.length),(78,.int j)],[.cells 1 ((frm rows.length (visPs (u:Int) (Q,P) (row.take j)).1 (visPs (u:Int) (Q,P) (row.take j)).2).map enI),.cells 1 ((visPs (u:Int) (Q,P) (row.take j)).1.map enI)])) (fun j=>j≤row.length) (fun j=>row.length - j) 0 (y48 _) (by refine swR [0,1] [] rfl rfl ?_;(repeat' first|exact y82 _|exact z17 _|refine z16 rfl (z6 (fun _=>rfl)) ?_|constructor)<;>(fail)) ?_
        intro j hj
        obtain ⟨hJj,hij,hxj⟩:=hJv (row.take j) (fun x hx=>hrow x (List.mem_of_mem_take hx))
        have hQjl:(visPs (u:Int) (Q,P) (row.take j)).1.length≤rows.length:=z187 _ _ hJj.nd hJj.inn
        have gxj:((visPs (u:Int) (Q,P) (row.take j)).1.map enI)[i]?=some (enI (u:Int)):=by
          rw [y46,y40 hij,hxj];rfl
        by_cases hj2:j < row.length
        · have gj:(row.map enI)[j]?=some (enI row[j]):=by rw [y46,y40 hj2];rfl
          have hv:=hrow _ (y39 hj2)
          have et:=z621 (u:=(u:Int)) (x:=(Q,P)) hj2
          have hge:=hJj.pre
          generalize hT' : visPs (u:Int) (Q,P) (row.take (j+1))=T' at *
          generalize hT:visPs (u:Int) (Q,P) (row.take j)=T at *
          generalize row[j]=v at *
          obtain ⟨w,rfl⟩:∃ w:Nat,v=w:=⟨v.toNat,by omega⟩
          have hw:w < rows.length:=by omega
          have gw:=z452 T.1 T.2 hw
          have lw:=z451 rows.length T.1 T.2
          have hTl:=hJj.len
          by_cases hm:(w:Int)∈T.1
          · rw [z487 hm] at et
            rw [if_pos hm] at gw
            have hwv : -1≤T.2.getD w 0:=by
              obtain ⟨k,hk,ek⟩:=List.mem_iff_getElem.1 hm
              have h1:=hge k hk
              rw [ek,y72] at h1
              rcases h1 with h1|⟨y,hy,_,h1⟩
              · omega
              · have:=hJj.inn _ (y39 hy);omega
            generalize T.2.getD w 0=pv at *
            repeat' ((first|(apply y80 ok;rfl)|(refine z20 (i:=j) rfl gj ?_)|(refine z20 (i:=w) rfl gw ?_)|(apply y38;first|omega|(unfold inI;omega))|(((apply z14;omega));intro _)|((apply z8)<;>intro _))<;>conv=>whnf)
            all_goals try (exfalso;omega)
            all_goals refine z45 (j+1) hj2 (by omega) ?_
            all_goals dsimp only
            all_goals rw [hT',et]
            all_goals exact (by refine swR [0,1] [] rfl rfl ?_;(repeat' first|exact y82 _|exact z17 _|refine z16 rfl (z6 (fun _=>rfl)) ?_|constructor))
          · rw [z488 hm,y72] at et
            rw [if_neg hm] at gw
            have e1:=z510 (Q:=T.1) (u:=(u:Int)) hw hTl
            repeat' ((first|(apply y80 ok;rfl)|(refine z20 (i:=j) rfl gj ?_)|(refine z20 (i:=w) rfl gw ?_)|(refine z20 (i:=i) rfl gxj ?_)|(apply y38;first|omega|(unfold inI;omega)|((try dsimp only);simp only [y44,y43,y42,y41,y53,y54];omega)|exact ⟨rfl,z24 rfl z31⟩)|((apply z8)<;>intro _))<;>conv=>whnf)
            all_goals try (exfalso;omega)
            all_goals refine z45 (j+1) hj2 (by omega) ?_
            all_goals dsimp only
            all_goals rw [hT',et]
            all_goals dsimp only
            all_goals exact (by refine swR [0,3] [] rfl rfl ?_;(repeat' first|exact y82 _|(refine z71 ?_;((simp;done)))|((first|refine z48 rfl ?_ ?_|refine z73 rfl ?_ ?_);(focus ((repeat' (first|exact z6 (fun _=>rfl)|apply z32));done)))|(refine z95 ?_ ?_;(focus (omega)))|constructor)<;>((refine z61 ?_;exact e1)))
        obtain rfl:j=row.length:=by omega
        rw [y51,← hnx] at *
        repeat' ((first|(apply y80 ok;rfl)|(apply y38;first|omega|(unfold inI;omega))|((first|(with_reducible apply z14;omega)|(apply z14;omega));intro _)|((apply z8)<;>intro _))<;>conv=>whnf)
        all_goals try (exfalso;omega)
        all_goals refine z45 (i+1) ⟨hile,by rw [hS'];exact hno2⟩ (by omega) ?_
        all_goals dsimp only
        all_goals rw [hS']
        all_goals exact (by refine swR [0,1] [] rfl rfl ?_;(repeat' first|exact y82 _|exact z17 _|refine z16 rfl (z6 (fun _=>rfl)) ?_|constructor))
  · rw [z952 (G:=G) (by omega) hi1 (fun k hk=>hno k (by omega) hk)]
    repeat' ((first|(apply y80 ok;rfl)|(apply y38;omega)|(((apply z14;omega));intro _)|((apply z8)<;>intro _))<;>conv=>whnf)
    all_goals try (exfalso;omega)
    all_goals (refine y85 1 ?_;refine rsD [2] [] rfl ?_;(repeat' first|exact z55|refine z16 rfl (z33) ?_|constructor))
set_option maxHeartbeats 12800000 in
theorem z682 (rows : List (List Int)) (ini : List Int) (hr : ∀ r ∈ rows, InN rows.length r) (hi : InN rows.length ini) (hn : ini.Nodup) (hN : rows.length ≤ 100000) (hrl : ∀ r ∈ rows, r.length ≤ 1000000000) (G : Int → Bool) (f : FuncId) (c1 c2 : List AC) (hf : ∀ x : Int, 0 ≤ x → x < rows.length → CallsA Tryz.prog f (.int x :: [.pt c1, .pt c2]) [] (.bool (G x)) []) :
    CallsA Tryz.prog 271 [lst 1 encL rows,ints ini,.fn (.func f) [] [.pt c1,.pt c2]] [] (.sref 0 0 (shL rows ini G).length) [.cells 1 ((shL rows ini G).map enI)]:=by
  have hil:ini.length≤100000:=by have:=z187 rows.length ini hn hi;omega
  refine z10 z19 Tryz.func271 rfl rfl 99 Tryz.ntmps271 (by simp) ?_
  repeat' ((first|(apply y80 ok;rfl)|(apply y38;(dsimp only;omega)))<;>conv=>whnf)
  obtain ⟨qm,hqm⟩:∃ qm:Nat→Nat→Int,qm=fun i j=>if j < i then -2 else 0:=⟨_,rfl⟩
  have q0:qm 0=fun _=>0:=by rw [hqm];rfl
  have qE:(fnL rows.length (qm rows.length)).map enI=(frm rows.length [] (List.replicate rows.length (-1))).map enI:=by
    rw [z1205]
    congr 1
    apply y70 (by simp [fnL])
    intro i h1 h2
    rw [z454,hqm]
    have hi' : i < rows.length:=by rw [z107] at h1;exact h1
    dsimp only
    rw [if_pos hi'];simp
  have qS:∀ i,qm (i+1)=upd (qm i) i (-2):=fun i=>by
    funext j
    by_cases h:j=i
    · subst h;rw [z26,hqm];dsimp only;rw [if_pos (by omega)]
    · rw [z54 _ _ h,hqm];dsimp only;split<;>split<;>first|rfl|omega
  clear hqm
  refine z84 (fun i:Nat=>([(0,lst 1 encL rows),(1,ints ini),(2,.fn (.func f) [] [.pt c1,.pt c2]),(7,.sref 0 0 rows.length),(21,.int rows.length),(22,.int i)],[.cells 1 ((fnL rows.length (qm i)).map enI)])) (fun i=>i≤rows.length) (fun i=>rows.length - i) 0 (y48 _) (by refine swR [0] [] rfl rfl ?_;(repeat' first|exact y82 _|refine z16 rfl (z70 rfl) ?_|constructor)<;>((refine z61 ?_;rw [q0];exact z327 _))) ?_
  intro i hi1
  by_cases hi2:i < rows.length
  · have g1:=z169 (qm i) hi2
    have l1:=z107 rows.length (qm i)
    have e1:=z146 (N:=rows.length) (u:=i) (qm i) (-2)
    rw [← qS] at e1
    repeat' ((first|(apply y80 ok;rfl)|(refine z20 (i:=i) rfl g1 ?_)|(apply y38;first|omega|(unfold inI;omega))|((apply z8)<;>intro _))<;>conv=>whnf)
    all_goals try (exfalso;omega)
    all_goals refine z45 (i+1) hi2 (by omega) (by refine swR [0] [] rfl rfl ?_;(repeat' first|exact y82 _|refine z73 rfl (z6 (fun _=>rfl)) ?_|constructor)<;>((refine z61 ?_;exact e1)))
  obtain rfl:i=rows.length:=by omega
  rw [qE]
  clear qE qS q0
  repeat' ((first|(apply y80 ok;rfl)|(apply y38;omega)|(((apply z14;omega));intro _)|((apply z8)<;>intro _))<;>conv=>whnf)
  all_goals try (exfalso;omega)
  refine y81 (y84 1 rfl) ?_
  have hrep:(List.replicate rows.length (-1:Int)).length=rows.length:=by simp
  have hrs:∀ w,(List.replicate rows.length (-1:Int)).set w (-1)=List.replicate rows.length (-1):=fun w=>by
    apply y70 (by simp)
    intro i h1 h2
    rw [List.getElem_set]
    split<;>simp
  have hS0:(frm rows.length ini (List.replicate rows.length (-1)))=frm rows.length (srS rows ini 0).1 (srS rows ini 0).2:=rfl
  generalize List.replicate rows.length (-1:Int)=P0 at *
  refine z84 (fun k:Nat=>([(0,lst 1 encL rows),(2,.fn (.func f) [] [.pt c1,.pt c2]),(7,.sref 0 0 rows.length),(9,.sref 1 0 (ini.take k).length),(29,ints ini),(30,.int ini.length),(31,.int k)],[.cells 1 ((frm rows.length (ini.take k) P0).map enI),.cells 1 ((ini.take k).map enI)])) (fun k=>k≤ini.length) (fun k=>ini.length - k) 0 (y48 _) (by refine swR [0,1] [] rfl rfl ?_;(repeat' first|exact y82 _|exact z55|exact z17 _|((refine z16 rfl ?_ ?_);(focus ((repeat' (first|exact z33|exact z6 (fun _=>rfl)));done)))|constructor)) ?_
  intro k hk
  by_cases hk2:k < ini.length
  · have gk:(ini.map enI)[k]?=some (enI ini[k]):=by rw [y46,y40 hk2];rfl
    have hv:=hi _ (y39 hk2)
    have et:ini.take (k+1)=ini.take k++[ini[k]]:=y45 hk2
    have htl:(ini.take k).length≤100000:=by rw [y43];omega
    generalize hQ' : ini.take (k+1)=Q' at *
    generalize hQ:ini.take k=Q at *
    generalize ini[k]=v at *
    obtain ⟨w,rfl⟩:∃ w:Nat,v=w:=⟨v.toNat,by omega⟩
    have hw:w < rows.length:=by omega
    have g1:=z452 Q P0 hw
    have l1:=z451 rows.length Q P0
    have e1:=z510 (Q:=Q) (u:=-1) hw hrep
    rw [hrs,← et] at e1
    subst et
    repeat' ((first|(apply y80 ok;rfl)|(refine z20 (i:=k) rfl gk ?_)|(refine z20 (i:=w) rfl g1 ?_)|(apply y38;first|omega|(unfold inI;omega)|((try dsimp only);simp only [y44,y43,y42,y41,y53,y54];omega)|exact ⟨rfl,z24 rfl z31⟩)|((apply z8)<;>intro _))<;>conv=>whnf)
    all_goals try (exfalso;omega)
    all_goals refine z45 (k+1) hk2 (by omega) ?_
    all_goals dsimp only
    all_goals rw [hQ']
    all_goals exact (by refine swR [0,3] [] rfl rfl ?_;(repeat' first|exact y82 _|(refine z71 ?_;((simp;done)))|((first|refine z48 rfl ?_ ?_|refine z73 rfl ?_ ?_);(focus ((repeat' (first|exact z6 (fun _=>rfl)|apply z32));done)))|(refine z95 ?_ ?_;(focus (omega)))|constructor)<;>((refine z61 ?_;exact e1)))
  obtain rfl:k=ini.length:=by omega
  rw [y51,hS0]
  repeat' ((first|(apply y80 ok;rfl)|(apply y38;omega)|((first|(with_reducible apply z14;omega)|(apply z14;omega));intro _)|((apply z8)<;>intro _))<;>conv=>whnf)
  all_goals try (exfalso;omega)
  refine z84 (fun i:Nat=>([(0,lst 1 encL rows),(2,.fn (.func f) [] [.pt c1,.pt c2]),(7,.sref 0 0 rows.length),(9,.sref 1 0 (srS rows ini i).1.length),(12,.int i)],[.cells 1 ((frm rows.length (srS rows ini i).1 (srS rows ini i).2).map enI),.cells 1 ((srS rows ini i).1.map enI)])) (fun i=>i≤rows.length∧∀ k (_:k < i) (h:k < (srS rows ini i).1.length),G ((srS rows ini i).1[k])=false) (fun i=>rows.length+1 - i) 0 ⟨y48 _,fun k h=>by omega⟩ (by refine swR [0,1] [] rfl rfl ?_;(repeat' first|exact y82 _|exact z17 _|refine z16 rfl (z6 (fun _=>rfl)) ?_|constructor)<;>(fail)) ?_
  rintro i ⟨hi1,hno⟩
  have hJ:=z529 hr hi hn i
  have hQl:=z867 hr hi hn i
  by_cases hi2:i < (srS rows ini i).1.length
  · have hx:=hJ.inn _ (y39 hi2)
    have cf:=hf _ hx.1 hx.2
    have gx:((srS rows ini i).1.map enI)[i]?=some (enI (srS rows ini i).1[i]):=by rw [y46,y40 hi2];rfl
    have hnx:srS rows ini (i+1)=visPs (srS rows ini i).1[i] (srS rows ini i) (rows.getD ((srS rows ini i).1[i]).toNat []):=by rw [srS,dif_pos hi2]
    have hfnd:=fun h=>z769 hr hi hn (G:=G) hi2 h (fun k hk=>hno k hk (by omega))
    have hpre:=z376 (srS rows ini i).1[i] (rows.getD ((srS rows ini i).1[i]).toNat []) (srS rows ini i)
    by_cases hG:G (srS rows ini i).1[i]=true
    · rw [hfnd hG,z930,y60]
      have hq0:∃ k,∃ h:k < (srS rows ini i).1.length,(srS rows ini i).1[k]=(srS rows ini i).1[i]∧k≤rows.length:=⟨i,hi2,rfl,hi1⟩
      rw [hG] at cf
      clear hfnd hnx hpre hno
      generalize hS:srS rows ini i=S at *
      obtain ⟨Q,P⟩:=S
      dsimp only at *
      have hi4:i < Q.length:=hi2
      generalize Q[i]=x at *
      repeat' ((first|(apply y80 ok;rfl)|(refine z20 (i:=i) rfl gx ?_)|(apply y38;omega)|((apply z8)<;>intro _)|(apply z7 (cf);rfl;rfl))<;>conv=>whnf)
      all_goals try (exfalso;omega)
      all_goals
        refine y81 (y84 1 rfl) ?_
        have hB1:=z1230 P rows.length x
        generalize hB:chn P rows.length x=B at *
        refine z84 (fun y:Nat×List Int×Int=>([(7,.sref 0 0 rows.length),(13,.int y.2.2),(14,.sref 1 0 y.2.1.length)],[.cells 1 ((frm rows.length Q P).map enI),.cells 1 (y.2.1.map enI)])) (fun y=>y.2.1.length+y.1≤rows.length+1∧((0≤y.2.2∧y.2.1++chn P (y.1 - 1) y.2.2=B∧1≤y.1∧∃ k,∃ h:k < Q.length,Q[k]=y.2.2∧k+1≤y.1)∨(y.2.2=-1∧y.2.1=B))) (fun y=>y.1+(if 0≤y.2.2 then 1 else 0)) (rows.length+1,[],x) ⟨by simp,.inl ⟨hx.1,by simpa using hB,by omega,by obtain ⟨k,h,h1,h2⟩:=hq0;exact ⟨k,h,h1,by omega⟩⟩⟩ (by refine swR [0,2] [] rfl rfl ?_;(repeat' first|exact y82 _|exact z55|exact z17 _|((refine z16 rfl ?_ ?_);(focus ((repeat' (first|exact z33|exact z6 (fun _=>rfl)));done)))|constructor)) ?_
        rintro ⟨fu,ac,u⟩ ⟨q1,q2⟩
        dsimp only at q1 q2 ⊢
        rcases q2 with ⟨q2,q3,q4,k,hk,q5,q6⟩|⟨rfl,rfl⟩
        · have huN:=hJ.inn u (q5 ▸ y39 hk)
          obtain ⟨w,rfl⟩:∃ w:Nat,u=w:=⟨u.toNat,by omega⟩
          have hw:w < rows.length:=by omega
          have gw:=z452 Q P hw
          rw [if_pos (q5 ▸ y39 hk)] at gw
          have lw:=z451 rows.length Q P
          have hp:=hJ.pre k hk
          rw [q5,y72] at hp
          dsimp only at hp
          obtain ⟨fu,rfl⟩:∃ m,fu=m+1:=⟨fu - 1,by omega⟩
          rw [Nat.add_sub_cancel] at q3
          have hnext:P.getD w 0=-1∧ac++[(w:Int)]=B∨(0≤P.getD w 0∧(ac++[(w:Int)])++chn P (fu - 1) (P.getD w 0)=B∧1≤fu∧∃ k,∃ h:k < Q.length,Q[k]=P.getD w 0∧k+1≤fu):=by
            rcases hp with hp|⟨j,hj,hjk,hp⟩
            · left
              refine ⟨hp,?_⟩
              rw [← q3]
              cases fu with
              | zero=>rfl
              | succ fu =>
                rw [chn,y72,if_neg (by omega)]
            · right
              have:=hJ.inn _ (y39 hj)
              refine ⟨by omega,?_,by omega,j,hj,hp.symm,by omega⟩
              obtain ⟨fu,rfl⟩:∃ m,fu=m+1:=⟨fu - 1,by omega⟩
              rw [chn,y72,if_pos (by omega)] at q3
              rw [← q3]
              simp
          have hvb : -1≤P.getD w 0∧P.getD w 0 < rows.length:=by
            rcases hnext with ⟨h,_⟩|⟨h,_,_,j,hj,hp2,_⟩
            · omega
            · have:=hJ.inn _ (y39 hj)
              omega
          clear hp
          generalize P.getD w 0=v at *
          repeat' ((first|(apply y80 ok;rfl)|(refine z20 (i:=w) rfl gw ?_)|(apply y38;first|omega|((try dsimp only);simp only [y44,y43,y42,y41,y53,y54];omega)|exact ⟨rfl,z24 rfl z31⟩))<;>conv=>whnf)
          all_goals refine z45 (fu,ac++[(w:Int)],v) ⟨by simp only [y42,List.length_singleton];omega,?_⟩ ?_ (by refine swR [0,3] [] rfl rfl ?_;(repeat' first|exact y82 _|exact z17 _|(refine z71 ?_;((simp;done)))|((first|refine z48 rfl ?_ ?_|refine z16 rfl ?_ ?_);(focus ((repeat' (first|exact z6 (fun _=>rfl)|apply z32));done)))|(refine z95 ?_ ?_;(focus (omega)))|constructor))
          all_goals dsimp only
          all_goals first|(rcases hnext with ⟨h1,h2⟩|h1<;>first|exact .inr ⟨h1,h2⟩|exact .inl h1)|(rw [if_pos (show (0:Int)≤w by omega)];split<;>omega)
        · have cr:=z627 ac (by omega) (by omega)
          have cc:=z373 (rvs ac) (by rw [z440];omega)
          have el:=z440 ac
          rw [← rvs_eq]
          generalize rvs ac=D at *
          rw [el] at cc ⊢
          repeat' ((first|(apply y80 ok;rfl)|((first|(apply z163 [1] [] cr;rfl;(focus ((repeat' first|exact z37|apply z63)<;>(refine z83 rfl ?_;((exact z6 fun _=>rfl))))))|(apply z163 [1] [] cc;rfl;(focus ((repeat' first|exact z37|apply z63)<;>(refine z83 rfl ?_;((exact z6 fun _=>rfl)))))));rfl;(focus ((repeat' first|exact z18|apply z15)<;>(refine z23 ?_;((exact z6 fun _=>rfl)))))))<;>conv=>whnf)
          all_goals (refine rsD [1] [] rfl ?_;(repeat' first|exact y82 _|exact z17 _|refine z16 rfl (z6 (fun _=>rfl)) ?_|constructor))
    · have hG:=(y67 _).mp hG
      rw [hG] at cf
      have hno2:∀ k (_:k < i+1) (h:k < (srS rows ini (i+1)).1.length),G ((srS rows ini (i+1)).1[k])=false:=by
        obtain ⟨t,ht⟩:=z677 (rows:=rows) (ini:=ini) (show i≤i+1 by omega)
        intro k hk h
        have hki:k < (srS rows ini i).1.length:=by omega
        have e:(srS rows ini (i+1)).1[k]=(srS rows ini i).1[k]:=by
          simp only [ht,List.getElem_append_left hki]
        rw [e]
        by_cases hk3:k < i
        · exact hno k hk3 hki
        · obtain rfl:k=i:=by omega
          exact hG
      have hile:i+1≤rows.length:=by omega
      have hJv:=fun l hl=>PJ.visPs (N:=rows.length) l hJ hi2 rfl hl
      clear hfnd hpre hno
      generalize hS' : srS rows ini (i+1)=S' at *
      generalize hS:srS rows ini i=S at *
      obtain ⟨Q,P⟩:=S
      dsimp only at *
      have hi4:i < Q.length:=hi2
      generalize hxx:Q[i]=x at *
      obtain ⟨u,rfl⟩:∃ u:Nat,x=u:=⟨x.toNat,by omega⟩
      rw [y72] at hnx
      have hu:u < rows.length:=by omega
      have gr:=z544 hu
      have hrow:=z250 hr (u:Int)
      rw [y72] at hrow
      have hrowl:(rows.getD u []).length≤1000000000:=by rw [z13 hu];exact hrl _ (y39 _)
      generalize rows.getD u []=row at *
      repeat' ((first|(apply y80 ok;rfl)|(refine z20 (i:=i) rfl gx ?_)|(refine z20 (i:=u) rfl gr ?_)|(apply y38;omega)|((apply z8)<;>intro _)|(apply z7 (cf);rfl;rfl))<;>conv=>whnf)
      all_goals try (exfalso;omega)
      all_goals
        refine z84 (fun j:Nat=>([(0,lst 1 encL rows),(2,.fn (.func f) [] [.pt c1,.pt c2]),(7,.sref 0 0 rows.length),(9,.sref 1 0 (visPs (u:Int) (Q,P) (row.take j)).1.length),(12,.int i),(76,ints row),(77,.int row.length),(78,.int j)],[.cells 1 ((frm rows.length (visPs (u:Int) (Q,P) (row.take j)).1 (visPs (u:Int) (Q,P) (row.take j)).2).map enI),.cells 1 ((visPs (u:Int) (Q,P) (row.take j)).1.map enI)])) (fun j=>j≤row.length) (fun j=>row.length - j) 0 (y48 _) (by refine swR [0,1] [] rfl rfl ?_;(repeat' first|exact y82 _|exact z17 _|refine z16 rfl (z6 (fun _=>rfl)) ?_|constructor)<;>(fail)) ?_
        intro j hj
        obtain ⟨hJj,hij,hxj⟩:=hJv (row.take j) (fun x hx=>hrow x (List.mem_of_mem_take hx))
        have hQjl:(visPs (u:Int) (Q,P) (row.take j)).1.length≤rows.length:=z187 _ _ hJj.nd hJj.inn
        have gxj:((visPs (u:Int) (Q,P) (row.take j)).1.map enI)[i]?=some (enI (u:Int)):=by
          rw [y46,y40 hij,hxj];rfl
        by_cases hj2:j < row.length
        · have gj:(row.map enI)[j]?=some (enI row[j]):=by rw [y46,y40 hj2];rfl
          have hv:=hrow _ (y39 hj2)
          have et:=z621 (u:=(u:Int)) (x:=(Q,P)) hj2
          have hge:=hJj.pre
          generalize hT' : visPs (u:Int) (Q,P) (row.take (j+1))=T' at *
          generalize hT:visPs (u:Int) (Q,P) (row.take j)=T at *
          generalize row[j]=v at *
          obtain ⟨w,rfl⟩:∃ w:Nat,v=w:=⟨v.toNat,by omega⟩
          have hw:w < rows.length:=by omega
          have gw:=z452 T.1 T.2 hw
          have lw:=z451 rows.length T.1 T.2
          have hTl:=hJj.len
          by_cases hm:(w:Int)∈T.1
          · rw [z487 hm] at et
            rw [if_pos hm] at gw
            have hwv : -1≤T.2.getD w 0:=by
              obtain ⟨k,hk,ek⟩:=List.mem_iff_getElem.1 hm
              have h1:=hge k hk
              rw [ek,y72] at h1
              rcases h1 with h1|⟨y,hy,_,h1⟩
              · omega
              · have:=hJj.inn _ (y39 hy);omega
            generalize T.2.getD w 0=pv at *
            repeat' ((first|(apply y80 ok;rfl)|(refine z20 (i:=j) rfl gj ?_)|(refine z20 (i:=w) rfl gw ?_)|(apply y38;first|omega|(unfold inI;omega))|(((apply z14;omega));intro _)|((apply z8)<;>intro _))<;>conv=>whnf)
            all_goals try (exfalso;omega)
            all_goals refine z45 (j+1) hj2 (by omega) ?_
            all_goals dsimp only
            all_goals rw [hT',et]
            all_goals exact (by refine swR [0,1] [] rfl rfl ?_;(repeat' first|exact y82 _|exact z17 _|refine z16 rfl (z6 (fun _=>rfl)) ?_|constructor))
          · rw [z488 hm,y72] at et
            rw [if_neg hm] at gw
            have e1:=z510 (Q:=T.1) (u:=(u:Int)) hw hTl
            repeat' ((first|(apply y80 ok;rfl)|(refine z20 (i:=j) rfl gj ?_)|(refine z20 (i:=w) rfl gw ?_)|(refine z20 (i:=i) rfl gxj ?_)|(apply y38;first|omega|(unfold inI;omega)|((try dsimp only);simp only [y44,y43,y42,y41,y53,y54];omega)|exact ⟨rfl,z24 rfl z31⟩)|((apply z8)<;>intro _))<;>conv=>whnf)
            all_goals try (exfalso;omega)
            all_goals refine z45 (j+1) hj2 (by omega) ?_
            all_goals dsimp only
            all_goals rw [hT',et]
            all_goals dsimp only
            all_goals exact (by refine swR [0,3] [] rfl rfl ?_;(repeat' first|exact y82 _|(refine z71 ?_;((simp;done)))|((first|refine z48 rfl ?_ ?_|refine z73 rfl ?_ ?_);(focus ((repeat' (first|exact z6 (fun _=>rfl)|apply z32));done)))|(refine z95 ?_ ?_;(focus (omega)))|constructor)<;>((refine z61 ?_;exact e1)))
        obtain rfl:j=row.length:=by omega
        rw [y51,← hnx] at *
        repeat' ((first|(apply y80 ok;rfl)|(apply y38;first|omega|(unfold inI;omega))|((first|(with_reducible apply z14;omega)|(apply z14;omega));intro _)|((apply z8)<;>intro _))<;>conv=>whnf)
        all_goals try (exfalso;omega)
        all_goals refine z45 (i+1) ⟨hile,by rw [hS'];exact hno2⟩ (by omega) ?_
        all_goals dsimp only
        all_goals rw [hS']
        all_goals exact (by refine swR [0,1] [] rfl rfl ?_;(repeat' first|exact y82 _|exact z17 _|refine z16 rfl (z6 (fun _=>rfl)) ?_|constructor))
  · rw [z952 (G:=G) (by omega) hi1 (fun k hk=>hno k (by omega) hk)]
    repeat' ((first|(apply y80 ok;rfl)|(apply y38;omega)|(((apply z14;omega));intro _)|((apply z8)<;>intro _))<;>conv=>whnf)
    all_goals try (exfalso;omega)
    all_goals (refine y85 1 ?_;refine rsD [2] [] rfl ?_;(repeat' first|exact z55|refine z16 rfl (z33) ?_|constructor))
end Go.Proofs.YtnpclplponhppaaGreat
