/- A part of the proofs over this program: T234, T235, T236, T181, T182, T183, T113, T184, T185, T64, T65, T66, T154, T155, T156, T157, T158, T159, T160, T29, T94K, T161, T186. -/
import Derived.Test.YteinbnahinpegaaGreatG0
import Derived.Test.YteinbnahinpegaaGreatG1
import Derived.Test.YteinbnahinpegaaGreatG2
import Derived.Test.YteinbnahinpegaaGreatG3
import Derived.Test.YteinbnahinpegaaGreatP0
import Derived.Test.YteinbnahinpegaaGreatP1
import Derived.Test.YteinbnahinpegaaGreatP2
import Derived.Test.YteinbnahinpegaaGreatP3
import Derived.Test.YteinbnahinpegaaGreatP4
import Derived.Test.YteinbnahinpegaaGreatP5
import Derived.Test.YteinbnahinpegaaGreatRows
import Derived.WalkKit
import Derived.ProofKit
import Derived.Deep.DeepHandedRow
import Derived.Lib.LaidTab
set_option linter.all false
namespace Go.Proofs.YteinbnahinpegaaGreat
open Go.Gl
attribute [local irreducible] z20 AWP z30 z35 z34 RetS z42
noncomputable def expO (B:List Tree) (L0:List (List Int)):Option Aut:=(goS B (untB B) 65 0 ⟨L0,[],[]⟩).map (z359 L0.length)
set_option maxRecDepth 20000 in
set_option maxHeartbeats 25600000 in
theorem z853 (B : List Tree) (hB : BasL B) (L0 : List (List Int)) (hr : ∀ r ∈ L0, RowP B.length (untB B) r) (hn : L0.Nodup) (hl0 : L0.length ≤ 32) :
    CallsA Tryz.prog 146 [lst 2 enP L0,accF B,movF B] [] (.tup [.agg [.sref 0 0 ((expO B L0).getD ⟨[],[],[]⟩).ini.length,.sref 1 0 ((expO B L0).getD ⟨[],[],[]⟩).acc.length,.sref 2 0 ((expO B L0).getD ⟨[],[],[]⟩).ed.length],.bool (expO B L0).isSome])
      [.cells 1 (((expO B L0).getD ⟨[],[],[]⟩).ini.map enI),.cells 1 (((expO B L0).getD ⟨[],[],[]⟩).acc.map enB),.cells 4 (((expO B L0).getD ⟨[],[],[]⟩).ed.map Trans.cs)]:=by
  unfold expO
  have hp5:=z1088 hB.len
  by_cases h0:L0.length=0
  · obtain rfl:L0=[]:=y70 h0
    refine z10 z19 Tryz.func146 rfl (by kernel_rfl) 98 Tryz.ntmps146 (by simp) ?_
    repeat' ((first|(apply y4 ok;rfl)|(apply y39;(dsimp only;omega)))<;>conv=>whnf)
    all_goals (refine y85 1 ?_;refine y85 4 ?_;refine rsD [2,1,3] [] rfl ?_;(repeat' first|exact y82 _|exact z57|apply y83|refine z16 rfl (z36) ?_|apply z60|apply z113|constructor))
  have hRO:∀ x,goS B (untB B) 65 0 ⟨L0,[],[]⟩=some x→x.L.length≠0→(goS B (untB B) 65 0 ⟨L0,[],[]⟩).map (z359 L0.length)=some ⟨numI L0.length,x.acc,x.ed.map eT⟩:=fun x h h2=>by
    rw [h];unfold z359;simp only [Option.map_some];rw [if_neg h2]
  have hRN:goS B (untB B) 65 0 ⟨L0,[],[]⟩=none→(goS B (untB B) 65 0 ⟨L0,[],[]⟩).map (z359 L0.length)=none:=fun h=>by rw [h];rfl
  generalize (goS B (untB B) 65 0 ⟨L0,[],[]⟩).map (z359 L0.length)=O at *
  obtain ⟨R,hR0⟩:∃ R,goS B (untB B) 65 0 ⟨L0,[],[]⟩=R:=⟨_,rfl⟩
  rw [hR0] at hRO hRN
  refine z10 z19 Tryz.func146 rfl (by kernel_rfl) 98 Tryz.ntmps146 (by simp) ?_
  repeat' ((first|(apply y4 ok;rfl)|(apply y39;omega)|((apply z8)<;>intro _))<;>conv=>whnf)
  all_goals try (exfalso;omega)
  refine y81 (y84 1 rfl) ?_
  refine z92 (fun x:Nat×List Int=>([(1,accF B),(2,movF B),(6,.ptr 0 none 0),(8,.ptr 1 none 0),(10,.ptr 4 none 0),(11,fndF),(24,lst 2 enP L0),(25,.int L0.length),(26,.int x.1)],[.cells 3 [[.nils,.nils,.nils]],.cells 3 [[.sref 5 0 x.2.length,.nils,.nils]],.mp 2 (z277 0 (L0.take x.1)),.cells 1 [[.mref 2]],.cells 1 [[.own 2 ((L0.take x.1).map enP)]],.cells 1 (x.2.map enI)])) (fun x=>x.1≤L0.length∧numI x.1=x.2) (fun x=>L0.length - x.1) (0,[]) ⟨y49 _,rfl⟩ (by refine swR [0,1,2,3,4,5] [] rfl rfl ?_;(repeat' first|exact y82 _|exact z57|apply y83|refine z16 rfl (z36) ?_|constructor)<;>(first|rfl|exact z380)) ?_
  rintro ⟨i,N⟩ ⟨hi,hN⟩
  dsimp only at hi hN ⊢
  have hNl:=z641 i
  rw [hN] at hNl
  by_cases hil:i < L0.length
  · have gk:(L0.map enP)[i]?=some (enP L0[i]):=by rw [y47,y41 hil];rfl
    obtain ⟨s,ph,er,hs,hp⟩:=hr L0[i] (y40 _)
    have hni:L0[i] ∉ L0.take i:=fun h=>by
      obtain ⟨j,hj,e⟩:=List.mem_iff_getElem.1 h
      rw [y44] at hj
      rw [List.getElem_take] at e
      exact List.pairwise_iff_getElem.1 (List.nodup_iff_pairwise_ne.1 hn) j i (by omega) hil (by omega) e
    have hts:L0.take (i+1)=L0.take i++[L0[i]]:=y46 hil
    have htl:(L0.take i).length=i:=by rw [y44];omega
    rw [er] at gk hni hts
    have cf:=z1148 (L0.take i) (by omega) s ph
    have e1:z190 (L0.take i) [(s:Int),(ph:Int)]=L0.take (i+1):=by unfold z190;rw [if_neg hni,hts]
    have e2:z288 (L0.take i) [(s:Int),(ph:Int)]=i:=by unfold z288;rw [List.idxOf_eq_length hni,htl]
    rw [e1,e2] at cf
    have ns:=z1099 i
    rw [hN] at ns
    repeat' ((first|(apply y4 ok;rfl)|(apply z37;kernel_rfl)|(refine z21 (i:=i) rfl gk ?_)|(apply y39;first|omega|(unfold inI;omega)|((try dsimp only);simp only [y45,y44,y43,y42,y54,y55];omega)|exact ⟨rfl,z25 rfl z32⟩)|((apply z8)<;>intro _)|(apply z11 [3,2,4] [] cf;rfl;rfl;rfl;(focus ((repeat' first|exact z17|apply z14)<;>first|exact ren_mp|exact z45 rfl rfl))))<;>conv=>whnf)
    all_goals try (exfalso;omega)
    all_goals refine z44 (i+1,N++[(i:Int)]) ⟨by show i+1≤_;omega,ns⟩ (by show L0.length - (i+1) < L0.length - i;omega) (by refine swR [0,1,2,3,4,8] [] rfl rfl ?_;(repeat' first|exact y82 _|(refine z72 ?_;((simp;done)))|apply y83|((refine z47 rfl ?_ ?_);(focus ((repeat' (first|exact z7 (fun _=>rfl)|apply z33));done)))|(refine z100 ?_ ?_;(focus (omega)))|constructor)<;>(rfl))
  obtain rfl:i=L0.length:=by omega
  rw [y52]
  have hNe:numI L0.length=N:=hN
  rw [hNe] at hRO
  have hI0:ExI B (untB B) L0.length 0 ⟨L0,[],[]⟩:=⟨hr,y48 _,rfl,y49 _,y49 _,by show L0.length≤L0.length+0 * _;omega,fun e he=>by cases he⟩
  have hval:=fun i x h h2 h3=>ExI.valid (B:=B) (U:=untB B) (n0:=L0.length) (i:=i) (x:=x) hB h (by omega) h2 h3
  rw [hNe] at hval
  have hN32:N.length≤32:=by omega
  repeat' ((first|(apply y4 ok;rfl)|(apply y39;omega)|(((with_reducible apply z15;omega));intro _)|((apply z8)<;>intro _))<;>conv=>whnf)
  all_goals try (exfalso;omega)
  refine y81 (y84 1 rfl) ?_
  refine y81 (y84 4 rfl) ?_
  refine z92 (fun x:Nat×List (List Int)×List Bool×List Trans=>([(1,accF B),(2,movF B),(6,.ptr 0 none 0),(8,.ptr 1 none 0),(10,.ptr 4 none 0),(11,fndF),(14,.int x.1)],objsE N x.2.1 x.2.2.1 x.2.2.2 (.own 2 (x.2.1.map enP)))) (fun x=>x.1≤64∧∃ ed:List Edg,x.2.2.2=ed.map eT∧(goS B (untB B) (65 - x.1) x.1 ⟨x.2.1,x.2.2.1,ed⟩=R∨(64 < x.2.1.length∧R=none))∧ExI B (untB B) L0.length x.1 ⟨x.2.1,x.2.2.1,ed⟩) (fun x=>65 - x.1) (0,L0,[],[]) ⟨y49 _,[],rfl,.inl hR0,hI0⟩ (by refine swR [0,1,2,3,4,5,6,7] [] rfl rfl ?_;(repeat' first|exact y82 _|exact z57|exact z18 _|apply y83|((refine z16 rfl ?_ ?_);(focus ((repeat' (first|exact z36|exact z7 (fun _=>rfl)));done)))|constructor)<;>(rfl)) ?_
  have hL00:L0.length≠0:=h0
  clear hI0 hR0 hNe hNl hN hi hil hn hr
  rintro ⟨i,L,acc,E⟩ ⟨hi,ed,hE,hR,hI⟩
  dsimp only at hi hE hR hI ⊢
  have hmul:i * 2 ^ B.length≤64 * 32:=Nat.mul_le_mul hi hp5.2
  have hLl:=hI.ln
  have hedl:=hI.edl
  have hacl:=hI.acc
  dsimp only at hLl hedl hacl
  have hEl:E.length=ed.length:=by rw [hE,y45]
  rw [show 65 - i=(64 - i)+1 by omega,goS] at hR
  dsimp only at hR
  refine y81 (Gl.Reach.expose 4 0 0 rfl rfl rfl (z168 (fun _=>rfl) _) rfl) ?_
  refine y81 (show Gl.Reach _ _ (mkSt _ [(1,accF B),(2,movF B),(6,.ptr 0 none 0),(8,.ptr 1 none 0),(10,.ptr 4 none 0),(11,fndF),(14,.int i)] (objsE N L acc E (.sref 8 0 L.length)++[.cells 2 (L.map enP)])) from (by refine swR [0,1,2,3,4,5,6,7,8] [] rfl rfl ?_;(repeat' first|exact y82 _|exact z18 _|(refine z72 ?_;((simp;done)))|apply y83|refine z16 rfl (z7 (fun _=>rfl)) ?_|constructor)<;>(rfl))) ?_
  by_cases hil:i < L.length
  · rw [if_pos hil] at hR
    by_cases h64:i=64
    · have hRn:R=none:=by
        rcases hR with h|h
        · rw [if_pos (by omega)] at h;exact h.symm
        · exact h.2
      have hO:=hRN hRn
      subst hO
      repeat' ((first|(apply y4 ok;rfl)|(apply y39;omega)|(((apply z15;omega));intro _)|((apply z8)<;>intro _))<;>conv=>whnf)
      all_goals try (exfalso;omega)
      all_goals (refine y85 1 ?_;refine y85 1 ?_;refine y85 4 ?_;refine rsD [9,10,11] [] rfl ?_;(repeat' first|exact y82 _|exact z57|refine z16 rfl (z36) ?_|apply z60|apply z113|constructor))
    · obtain ⟨s,ph,er,hs,hp⟩:=hI.rows (L.getD i []) (by rw [z13 hil];exact y40 _)
      have gk:(L.map enP)[i]?=some (enP [(s:Int),(ph:Int)]):=by rw [y47,y41 hil,← er,z13 hil];rfl
      have cA:=acc_ok B hB s ph (by omega) hp
      have cM:=z1109 B hB s ph (by omega) hp
      obtain ⟨q,eq,hq⟩:=z900 (B:=B) (s:=s) hp
      have hst:=hI.step hil
      have hRS:z217 B (untB B) i ⟨L,acc,ed⟩=⟨((mvK B s (2 ^ B.length)).foldl (z854 q i (letB B s).1 (letB B s).2) (L,ed)).1,acc++[(phB B (untB B) s ph).2],((mvK B s (2 ^ B.length)).foldl (z854 q i (letB B s).1 (letB B s).2) (L,ed)).2⟩:=by
        rw [fold_mv]
        unfold z217
        dsimp only
        rw [er,← eq];rfl
      rw [hRS] at hst hR
      rw [eq] at cM
      have hMl:=z1107 B s (2 ^ B.length)
      clear eq hRS gk
      have gk:(L.map enP)[i]?=some (enP [(s:Int),(ph:Int)]):=by rw [y47,y41 hil,← er,z13 hil];rfl
      generalize (phB B (untB B) s ph).2=z at *
      generalize (letB B s).1=c at *
      generalize (letB B s).2=v at *
      generalize mvK B s (2 ^ B.length)=M at *
      repeat' ((first|(apply y4 ok;rfl)|(apply z37;kernel_rfl)|(refine z21 (i:=i) rfl gk ?_)|(apply y39;first|omega|((try dsimp only);simp only [y45,y44,y43,y42,y54,y55];omega)|exact ⟨rfl,z25 rfl z32⟩)|((apply z8)<;>intro _)|(apply z6 (cA);rfl;rfl)|(apply z11 [] [11] cM;rfl;rfl;rfl;(focus ((repeat' first|exact z17|apply z14)<;>(refine z23 ?_;((exact z7 fun _=>rfl)))))))<;>conv=>whnf)
      all_goals try (exfalso;omega)
      refine y81 (Gl.Reach.absorb 4 8 0 0 rfl rfl rfl rfl (by simp) rfl (z7 fun _=>rfl) rfl) ?_
      refine z92 (fun x:Nat×List (List Int)×List Trans=>([(1,accF B),(2,movF B),(6,.ptr 0 none 0),(8,.ptr 1 none 0),(10,.ptr 4 none 0),(11,fndF),(14,.int i),(70,.sref 8 0 M.length),(71,.int M.length),(72,.int x.1)],objsE N x.2.1 (acc++[z]) x.2.2 (.own 2 (x.2.1.map enP))++[.cells 4 (M.map (enMv c v q))])) (fun x=>x.1≤M.length∧∃ ed' : List Edg,x.2.2=ed'.map eT∧(M.take x.1).foldl (z854 q i c v) (L,ed)=(x.2.1,ed')∧x.2.1.length≤L.length+x.1∧x.2.2.length≤E.length+x.1) (fun x=>M.length - x.1) (0,L,E) ⟨y49 _,ed,hE,rfl,y48 _,y48 _⟩ (by refine swR [0,1,2,3,4,5,10,7,11] [] rfl rfl ?_;(repeat' first|exact y82 _|exact z18 _|(refine z72 ?_;((simp;done)))|apply y83|((first|refine z47 rfl ?_ ?_|refine z16 rfl ?_ ?_);(focus ((repeat' (first|exact z7 (fun _=>rfl)|apply z33));done)))|(refine z100 ?_ ?_;(focus (omega)))|constructor)<;>(rfl)) ?_
      rintro ⟨k,L',E'⟩ ⟨hk,ed',hE',hf,hL',hel⟩
      dsimp only at hk hE' hf hL' hel ⊢
      by_cases hkl:k < M.length
      · have gM:(M.map (enMv c v q))[k]?=some (enMv c v q M[k]):=by rw [y47,y41 hkl];rfl
        have hfs:(M.take (k+1)).foldl (z854 q i c v) (L,ed)=z854 q i c v (L',ed') M[k]:=by rw [y46 hkl,y59,hf];rfl
        generalize M[k]=x at *
        have cf:=z1148 L' (by omega) x q
        have hpl:=z638 L' [(x:Int),(q:Int)]
        unfold z854 at hfs
        dsimp only at hfs
        generalize z190 L' [(x:Int),(q:Int)]=L2 at *
        generalize z288 L' [(x:Int),(q:Int)]=n2 at *
        repeat' ((first|(apply y4 ok;rfl)|(apply z37;kernel_rfl)|(refine z21 (i:=k) rfl gM ?_)|(apply y39;first|omega|(unfold inI;omega)|((try dsimp only);simp only [y45,y44,y43,y42,y54,y55];omega)|exact ⟨rfl,z25 rfl z32⟩)|((apply z8)<;>intro _)|(apply z11 [3,2,4] [] cf;rfl;rfl;rfl;(focus ((repeat' first|exact z17|apply z14)<;>first|exact ren_mp|exact z45 rfl rfl))))<;>conv=>whnf)
        all_goals try (exfalso;omega)
        all_goals refine z44 (k+1,L2,E'++[eT ⟨i,c,v,n2⟩]) ⟨by show k+1≤_;omega,_,by rw [hE'];simp,hfs,by show L2.length≤L.length+(k+1);omega,by show (E'++[_]).length≤E.length+(k+1);simp;omega⟩ (by show M.length - (k+1) < M.length - k;omega) (by refine swR [0,1,2,3,4,5,6,11,8] [] rfl rfl ?_;(repeat' first|exact y82 _|exact z18 _|(refine z72 ?_;((simp;done)))|apply y83|((first|refine z47 rfl ?_ ?_|refine z16 rfl ?_ ?_);(focus ((repeat' (first|exact z7 (fun _=>rfl)|apply z33));done)))|(refine z100 ?_ ?_;(focus (omega)))|constructor)<;>(rfl))
      · obtain rfl:k=M.length:=by omega
        rw [y52] at hf
        rw [hf] at hst hR
        dsimp only at hst hR
        repeat' ((first|(apply y4 ok;rfl)|(apply y39;first|omega|(unfold inI;omega))|(((apply z15;omega));intro _)|((apply z8)<;>intro _))<;>conv=>whnf)
        all_goals try (exfalso;omega)
        all_goals refine z44 (i+1,L',acc++[z],E') ⟨by show i+1≤64;omega,ed',hE',?_,hst.1⟩ (by show 65 - (i+1) < 65 - i;omega) (by refine swR [0,1,2,3,4,5,6,7] [] rfl rfl ?_;(repeat' first|exact y82 _|exact z18 _|apply y83|refine z16 rfl (z7 (fun _=>rfl)) ?_|constructor)<;>(rfl))
        all_goals
          show goS B (untB B) (65 - (i+1)) (i+1) ⟨L',acc++[z],ed'⟩=R∨_
          have h2:L.length≤L'.length:=hst.2
          rw [show 65 - (i+1)=64 - i by omega]
          rcases hR with h|h
          · by_cases h65:64 < L.length
            · rw [if_pos h65] at h
              exact .inr ⟨by show 64 < L'.length;omega,h.symm⟩
            · rw [if_neg h65] at h
              exact .inl h
          · exact .inr ⟨by show 64 < L'.length;omega,h.2⟩
  · rw [if_neg hil] at hR
    have hRs:R=some ⟨L,acc,ed⟩:=by
      rcases hR with h|h
      · exact h.symm
      · omega
    have hb:=hI.base
    have hO:=hRO _ hRs (by show L.length≠0;have:L0.length≤L.length:=hb;omega)
    have hv:=hval i ⟨L,acc,ed⟩ hI hi (by show L.length≤i;omega)
    dsimp only at hO hv
    rw [← hE] at hO hv
    subst hO
    have hP:=z272.1 hv
    have hmx:Aut.mx ⟨N,acc,E⟩:=⟨by show N.length≤_;unfold maxLen;omega,by show acc.length≤_;unfold maxLen;omega,by show E.length≤_;unfold maxLen;omega,fun e he=>by
      obtain ⟨_,_,⟨c1,c2⟩,v1,v2⟩:=hP.2.2.2 e he
      have:=@Nat.and_le_right e.val.toNat e.care.toNat
      show inI e.val
      unfold inI;omega⟩
    have cV:=z249 ⟨N,acc,E⟩ hmx
    rw [hv] at cV
    have cC:=z871 ⟨N,acc,E⟩ (by show N.length≤_;omega) (by show acc.length≤_;omega) (by show E.length≤_;omega)
    repeat' ((first|(apply y4 ok;rfl)|(apply y39;omega)|(((apply z15;omega));intro _)|((apply z8)<;>intro _)|((first|(apply z112 [] [5,6,7] [] cV;(focus (exact z55 (z867 (a:=⟨N,acc,E⟩) rfl rfl rfl rfl rfl rfl rfl rfl rfl) z84));rfl)|(apply z112 [] [5,6,7] [9,10,11] cC;(focus (exact z55 (z867 (a:=⟨N,acc,E⟩) rfl rfl rfl rfl rfl rfl rfl rfl rfl) z84));rfl));rfl;(focus ((repeat' first|exact z17|apply z14)<;>(refine z23 ?_;((exact z7 fun _=>rfl)))));((refine .inr ⟨rfl,?_⟩;repeat' first|exact True.intro|apply y39|exact z121 (fun _=>rfl) _))))<;>conv=>whnf)
    all_goals try (exfalso;omega)
    all_goals (refine rsD [9,10,11] [] rfl ?_;(repeat' first|exact y82 _|exact z18 _|refine z16 rfl (z7 (fun _=>rfl)) ?_|constructor))
theorem z747 (B:List Tree) (g:Tree):∀ r∈iniS B g,RowP B.length (untB B) r:=by
 intro r hr
 unfold iniS at hr
 obtain ⟨s,hs,rfl⟩:=List.mem_map.1 hr
 have:=List.mem_range.1 (List.mem_filter.1 hs).1
 exact ⟨s,0,rfl,this,by omega⟩
theorem z994 (B:List Tree) (g:Tree):(iniS B g).Nodup:=by
 unfold iniS
 exact ((List.nodup_range).filter _).map _ fun a b h e=>h (by simp at e;omega)
set_option maxRecDepth 20000 in
set_option maxHeartbeats 12800000 in
theorem z661 (t:Tree) (hs:t.sz≤200):CallsA Tryz.prog 95 [z40 Tree.cs' t] [] (.tup [.agg [.sref 0 0 (trA t).ini.length,.sref 1 0 (trA t).acc.length,.sref 2 0 (trA t).ed.length],.bool (tsB t)]) [.cells 1 ((trA t).ini.map enI),.cells 1 ((trA t).acc.map enB),.cells 4 ((trA t).ed.map Trans.cs)]:=by
 have cb:=z665 t hs
 unfold trA tsB trO
 by_cases h:bscB t=true
 ·obtain ⟨⟨ht,hn⟩,h5⟩:=of_decide_eq_true (show decide _=true from h)
  obtain ⟨hB,hIn,hsz⟩:=z680 ht hn h5 hs
  have cn:=z595 t (y22 ht) (by omega)
  rw [if_pos h] at cb ⊢
  rw [h] at cb
  rw [if_pos hn,hn] at cn
  clear h ht hn
  generalize t.nrm false=g at *
  generalize bscL g=B at *
  have hp:=z1088 h5
  have hi0:=z915 B g
  have cE:=z853 B hB (iniS B g) (z747 B g) (z994 B g) (by omega)
  have hEx:(trS B g).map (z359 (iniS B g).length)=expO B (iniS B g):=rfl
  rw [hEx]
  clear hEx
  generalize expO B (iniS B g)=O at *
  have hul:(untB B).length≤B.length:=z458 B B.length
  have e2:((1:Int) * 2 ^ ((B.length:Int).toNat))=((2 ^ B.length:Nat):Int):=by
   rw [y73,Int.one_mul];norm_cast
  have cV:=fun s a b=>z263 B (untB B) hB s a b g hIn hsz
  have hkk:=fun i=>z1047 B i
  rw [y15 t] at cb cn ⊢
  rw [y15 g] at cn cV
  refine z10 z19 Tryz.func95 rfl rfl 75 Tryz.ntmps95 (by simp) ?_
  repeat' ((first|(apply y4 ok;rfl)|(apply z6 (cb);rfl;rfl)|(apply z6 (cn);rfl;rfl))<;>conv=>whnf)
  refine y81 (y84 1 rfl) ?_
  refine z92 (fun x:Nat×List Int=>([(2,.ptr 1 none 0),(4,lst 3 Tree.cs' B),(6,.ptr 2 none 0),(8,.ptr 4 none 0),(30,lst 3 Tree.cs' B),(31,.int B.length),(32,.int x.1)],[.cells 3 [[.int t.kind,.int t.val,lst 3 Tree.cs' t.kids]],.cells 3 [[.nils,.nils,.nils]],.cells 3 [[.int g.kind,.int g.val,lst 3 Tree.cs' g.kids]],.cells 2 [[lst 3 Tree.cs' B,.sref 5 0 x.2.length]],.cells 1 [[.ptr 3 none 0]],.cells 1 (x.2.map enI)])) (fun x=>x.1≤B.length∧untL B x.1=x.2) (fun x=>B.length - x.1) (0,[]) ⟨y49 _,rfl⟩ (by refine swR [0,1,2,3,4,5] [] rfl rfl ?_;(repeat' first|exact y82 _|exact z57|apply y83|refine z16 rfl (z36) ?_|constructor)) ?_
  rintro ⟨i,U⟩ ⟨hi,hU⟩
  dsimp only at hi hU ⊢
  have hul2:=z458 B i
  rw [hU] at hul2
  by_cases hil:i < B.length
  ·have gk:(B.map Tree.cs')[i]?=some (Tree.cs' (B.getD i dftT)):=by rw [y47,y41 hil,z13 hil];rfl
   have hs:=hkk i
   rw [hU] at hs
   generalize B.getD i dftT=f at *
   by_cases hk:f.kind=7
   ·rw [if_pos hk] at hs
    repeat' ((first|(apply y4 ok;rfl)|(apply z37;kernel_rfl)|(refine z21 (i:=i) rfl gk ?_)|(apply y39;first|omega|(unfold inI;omega)|((try dsimp only);simp only [y45,y44,y43,y42,y54,y55];omega)|exact ⟨rfl,z25 rfl z32⟩)|((apply z8)<;>intro _))<;>conv=>whnf)
    all_goals try (exfalso;omega)
    all_goals refine z44 (i+1,U++[(i:Int)]) ⟨by show i+1≤_;omega,hs⟩ (by show B.length - (i+1) < B.length - i;omega) (by refine swR [0,1,2,3,4,8] [] rfl rfl ?_;(repeat' first|exact y82 _|(refine z72 ?_;((simp;done)))|apply y83|((refine z47 rfl ?_ ?_);(focus ((repeat' (first|exact z7 (fun _=>rfl)|apply z33));done)))|(refine z100 ?_ ?_;(focus (omega)))|constructor))
   ·rw [if_neg hk,y61] at hs
    repeat' ((first|(apply y4 ok;rfl)|(apply z37;kernel_rfl)|(refine z21 (i:=i) rfl gk ?_)|(apply y39;first|omega|(unfold inI;omega))|((apply z8)<;>intro _))<;>conv=>whnf)
    all_goals try (exfalso;omega)
    all_goals refine z44 (i+1,U) ⟨by show i+1≤_;omega,hs⟩ (by show B.length - (i+1) < B.length - i;omega) (by refine swR [0,1,2,3,4,5] [] rfl rfl ?_;(repeat' first|exact y82 _|exact z18 _|apply y83|refine z16 rfl (z7 (fun _=>rfl)) ?_|constructor))
  ·obtain rfl:i=B.length:=by omega
   have hU2:untB B=U:=hU
   rw [hU2] at cV
   have cE2:=cE
   unfold accF movF at cE2
   rw [hU2] at cE2
   clear cE hkk hU hU2
   repeat' ((first|(apply y4 ok;rfl)|(apply z37;kernel_rfl)|(rw [e2])|(apply y39;first|omega|(unfold inI;omega))|(((with_reducible apply z15;omega));intro _)|((apply z8)<;>intro _))<;>conv=>whnf)
   all_goals try (exfalso;omega)
   refine y81 (y84 2 rfl) ?_
   refine y81 (show Gl.Reach _ _ (mkSt _ [(2,.ptr 0 none 0),(6,.ptr 1 none 0),(8,.ptr 3 none 0),(11,.sref 4 0 0),(53,.int ((2 ^ B.length:Nat):Int)),(54,.int 0)] [.cells 3 [[.nils,.nils,.nils]],.cells 3 [[.int g.kind,.int g.val,lst 3 Tree.cs' g.kids]],.cells 2 [[lst 3 Tree.cs' B,ints U]],.cells 1 [[.ptr 2 none 0]],.cells 2 []]) from (by refine swR [1,2,3,4,6] [5] rfl rfl ?_;(repeat' first|exact y82 _|exact z57|apply y83|refine z16 rfl (z36) ?_|((apply z48 rfl rfl rfl);(focus ((repeat ((exact z38 (fun _=>rfl) _)));done));(focus (((simp;done));done)))|constructor))) ?_
   refine y81 (show Gl.Reach _ _ (mkSt _ [(2,.ptr 0 none 0),(6,.ptr 1 none 0),(8,.ptr 2 none 0),(11,.sref 3 0 0),(53,.int ((2 ^ B.length:Nat):Int)),(54,.int 0)] [.cells 3 [[.nils,.nils,.nils]],.cells 3 [[.int g.kind,.int g.val,lst 3 Tree.cs' g.kids]],.cells 1 [[.pt [lst 3 Tree.cs' B,ints U]]],.cells 2 []]) from (by refine swR [0,1,3,4] [2] rfl rfl ?_;(repeat' first|exact y82 _|apply y83|refine z16 rfl (z36) ?_|constructor))) ?_
   refine z92 (fun x:Nat×List (List Int)=>([(2,.ptr 0 none 0),(6,.ptr 1 none 0),(8,.pt [.pt [lst 3 Tree.cs' B,ints U]]),(11,.sref 2 0 x.2.length),(53,.int ((2 ^ B.length:Nat):Int)),(54,.int x.1)],[.cells 3 [[.nils,.nils,.nils]],.cells 3 [[.int g.kind,.int g.val,lst 3 Tree.cs' g.kids]],.cells 2 (x.2.map enP)])) (fun x=>x.1≤2 ^ B.length∧iniK B (fun s=>vlB B (s:Nat) g) x.1=x.2) (fun x=>2 ^ B.length - x.1) (0,[]) ⟨y49 _,rfl⟩ (by refine swR [0,1,3] [2] rfl rfl ?_;(repeat' first|exact y82 _|apply y83|refine z16 rfl (z36) ?_|constructor)) ?_
   rintro ⟨k,L⟩ ⟨hk,hL⟩
   dsimp only at hk hL ⊢
   have hLl:=iniK_len B (fun s=>vlB B (s:Nat) g) k
   rw [hL] at hLl
   by_cases hkl:k < 2 ^ B.length
   ·have hsu:=z1128 B (fun s=>vlB B (s:Nat) g) k
    rw [hL] at hsu
    have cv:=cV k (by omega) (by omega)
    generalize vlB B (k:Nat) g=z at *
    cases z
    ·rw [if_neg (by simp),y61] at hsu
     repeat' ((first|(apply y4 ok;rfl)|(apply y39;(unfold inI;omega))|((apply z8)<;>intro _)|(apply z6 (cv);rfl;rfl))<;>conv=>whnf)
     all_goals try (exfalso;omega)
     all_goals refine z44 (k+1,L) ⟨by show k+1≤_;omega,hsu⟩ (by show 2 ^ B.length - (k+1) < 2 ^ B.length - k;omega) (by refine swR [0,1,2] [] rfl rfl ?_;(repeat' first|exact y82 _|exact z18 _|apply y83|refine z16 rfl (z7 (fun _=>rfl)) ?_|constructor))
    ·rw [if_pos rfl] at hsu
     repeat' ((first|(apply y4 ok;rfl)|(apply y39;first|(unfold inI;omega)|((try dsimp only);simp only [y45,y44,y43,y42,y54,y55];omega)|exact ⟨rfl,z25 rfl z32⟩)|((apply z8)<;>intro _)|(apply z6 (cv);rfl;rfl))<;>conv=>whnf)
     all_goals try (exfalso;omega)
     all_goals refine z44 (k+1,L++[[(k:Int),0]]) ⟨by show k+1≤_;omega,hsu⟩ (by show 2 ^ B.length - (k+1) < 2 ^ B.length - k;omega) (by refine swR [0,1,4] [] rfl rfl ?_;(repeat' first|exact y82 _|(refine z72 ?_;((simp;done)))|apply y83|((refine z47 rfl ?_ ?_);(focus ((repeat' (first|exact z7 (fun _=>rfl)|apply z33));done)))|(refine z100 ?_ ?_;(focus (omega)))|constructor))
   ·obtain rfl:k=2 ^ B.length:=by omega
    have hL0:iniS B g=L:=hL
    rw [hL0] at cE2
    repeat' ((first|(apply y4 ok;rfl)|((apply z8)<;>intro _)|(apply z112 [] [2] [3,4,5] cE2;(focus (exact z55 (z195 rfl rfl rfl (by simp) (z38 (fun _=>rfl) _)) (z55 rfl (z55 rfl z84))));rfl;rfl;(focus ((repeat' first|exact z17|apply z14)<;>(refine z23 ?_;((exact z7 fun _=>rfl)))));((refine .inr ⟨rfl,?_⟩;repeat' first|exact True.intro|apply y39|exact z121 (fun _=>rfl) _))))<;>conv=>whnf)
    all_goals try (exfalso;omega)
    all_goals (refine rsD [3,4,5] [] rfl ?_;(repeat' first|exact y82 _|exact z18 _|refine z16 rfl (z7 (fun _=>rfl)) ?_|constructor))
 ·rw [if_neg h] at cb ⊢
  rw [(y68 _).mp h] at cb
  refine z10 z19 Tryz.func95 rfl rfl 75 Tryz.ntmps95 (by simp) ?_
  repeat' ((first|(apply y4 ok;rfl)|(apply z6 (cb);rfl;rfl))<;>conv=>whnf)
  all_goals (refine y85 1 ?_;refine y85 1 ?_;refine y85 4 ?_;refine rsD [2,3,4] [] rfl ?_;(repeat' first|exact y82 _|exact z57|refine z16 rfl (z36) ?_|apply z60|apply z113|constructor))
noncomputable def ngA (t:Tree):Aut:=if ngB t=true then trA (ngT t) else ⟨[],[],[]⟩
noncomputable def ngS (t:Tree):Bool:=ngB t && tsB (ngT t)
theorem ngB_fm {t:Tree} (h:ngB t=true):t.fmB=true:=by
 unfold ngB at h
 rw [y67] at h
 exact h.1
theorem z515 {t:Tree} (h:ngB t=true):(ngT t).sz≤12:=by
 have h1:=ngT_sz t
 have h2:=fm_sz (ngB_fm h)
 omega
theorem ngA_len (t:Tree):(ngA t).ini.length≤32∧(ngA t).acc.length≤66∧(ngA t).ed.length≤2080:=by
 unfold ngA
 split
 ·rename_i h
  exact trA_len _ (by have:=z515 h;omega)
 ·simp
theorem ngA_mx (t:Tree):(ngA t).mx:=by
 obtain ⟨h1,h2,h3⟩:=ngA_len t
 refine ⟨by unfold maxLen;omega,by unfold maxLen;omega,by unfold maxLen;omega,?_⟩
 unfold ngA
 split
 ·rename_i h
  exact trA_val _ (by have:=z515 h;omega)
 ·intro e he;cases he
theorem z528 (t:Tree) (hm:t.mx):CallsA Tryz.prog 42 [z40 Tree.cs' t] [] (.tup [.agg [.sref 0 0 (ngA t).ini.length,.sref 1 0 (ngA t).acc.length,.sref 2 0 (ngA t).ed.length],.bool (ngS t)]) [.cells 1 ((ngA t).ini.map enI),.cells 1 ((ngA t).acc.map enB),.cells 4 ((ngA t).ed.map Trans.cs)]:=by
 have cN:=z662 t hm
 unfold ngA ngS
 by_cases h:ngB t=true
 ·have hz:=z515 h
  have cT:=z661 (ngT t) (by omega)
  rw [if_pos h,h,Bool.true_and]
  rw [h] at cN
  generalize ngT t=u at *
  generalize trA u=a at *
  generalize tsB u=q at *
  rw [y15 t] at cN ⊢
  rw [y15 u] at cN cT
  refine z10 z19 Tryz.func42 rfl rfl 18 Tryz.ntmps42 (by simp) ?_
  repeat' ((first|(apply y4 ok;rfl)|(apply z6 (cN);rfl;rfl)|(apply z11 [] [3,4,5] cT;rfl;rfl;rfl;(focus ((repeat' first|exact z17|apply z14)<;>(refine z23 ?_;((exact z7 fun _=>rfl)))))))<;>conv=>whnf)
  all_goals (refine rsD [3,4,5] [] rfl ?_;(repeat' first|exact y82 _|exact z18 _|refine z16 rfl (z7 (fun _=>rfl)) ?_|constructor))
 ·rw [if_neg h,(y68 _).mp h,Bool.false_and]
  rw [(y68 _).mp h] at cN
  generalize ngT t=u at *
  rw [y15 t] at cN ⊢
  rw [y15 u] at cN
  refine z10 z19 Tryz.func42 rfl rfl 18 Tryz.ntmps42 (by simp) ?_
  repeat' ((first|(apply y4 ok;rfl)|(apply z6 (cN);rfl;rfl))<;>conv=>whnf)
  all_goals (refine y85 1 ?_;refine y85 1 ?_;refine y85 4 ?_;refine rsD [3,4,5] [] rfl ?_;(repeat' first|exact y82 _|exact z57|refine z16 rfl (z36) ?_|apply z60|apply z113|constructor))
theorem z561 (t:Tree) (hm:t.mx):CallsA Tryz.prog 42 [z40 Tree.cs' t] [] (.tup [.agg (ngA t).cs,.bool (ngS t)]) [] :=
 (z528 t hm).lend [] [0,1,2] rfl rfl rfl (bor_tup (z55 (z867 rfl rfl rfl rfl rfl rfl rfl rfl rfl) (z55 rfl z84))) z43
theorem z395 (N:Nat):List.replicate N [AC.int 0]=(fnL N fun _=>0).map enI:=by
 apply y71 (by simp [fnL])
 intro i h1 h2
 simp [fnL,enI]
theorem z749 {N:Nat} {f g:Nat→Int} (h:∀ i,i < N→f i=g i):fnL N f=fnL N g:=List.map_congr_left fun i hi=>h i (List.mem_range.1 hi)
theorem z849 {N i:Nat} (f:Nat→Int) (h:i < (fnL N f).length):(fnL N f)[i]=f i:=by simp [fnL]
set_option maxHeartbeats 12800000 in
theorem z570 (rows:List (List Int)) (hr:∀ r∈rows,InN rows.length r) (hN:rows.length≤100000) (hrl:∀ r∈rows,r.length≤1000000000):CallsA Tryz.prog 166 [lst 1 encL rows] [] (.sref 0 0 rows.length) [.cells 1 ((cmpL rows).map enI)]:=by
 refine z10 z19 Tryz.func166 rfl rfl 77 Tryz.ntmps166 (by simp) ?_
 repeat' ((first|(apply y4 ok;rfl)|(apply z37;kernel_rfl)|(apply y39;(dsimp only;omega)))<;>conv=>whnf)
 obtain ⟨qm,hqm⟩:∃ qm:Nat→Nat→Int,qm=fun i j=>if j < i then -1 else 0:=⟨_,rfl⟩
 have q0:qm 0=fun _=>0:=by rw [hqm];rfl
 have qE:fnL rows.length (qm rows.length)=fnL rows.length fun _=>-1:=z749 fun i hi=>by rw [hqm];dsimp only;rw [if_pos hi]
 have qS:∀ i,qm (i+1)=upd (qm i) i (-1):=fun i=>by
  funext j
  by_cases h:j=i
  ·subst h;rw [z31,hqm];dsimp only;rw [if_pos (by omega)]
  ·rw [z56 _ _ h,hqm];dsimp only;split<;>split<;>first|rfl|omega
 clear hqm
 refine z92 (fun i:Nat=>([(1,.ptr 0 none 0),(3,.int rows.length),(4,.ptr 4 none 0),(5,.ptr 5 none 0),(6,.ptr 6 none 0),(27,.int rows.length),(28,.int i)],[.cells 1 [[lst 1 encL rows]],.cells 1 ((fnL rows.length fun _=>0).map enI),.cells 1 ((fnL rows.length fun _=>0).map enI),.cells 1 ((fnL rows.length (qm i)).map enI),.cells 1 [[.sref 1 0 rows.length]],.cells 1 [[.sref 2 0 rows.length]],.cells 1 [[.sref 3 0 rows.length]]])) (fun i=>i≤rows.length) (fun i=>rows.length - i) 0 (y49 _) (by refine swR [0,1,2,3,4,5,6] [] rfl rfl ?_;(repeat' first|exact y82 _|apply y83|refine z16 rfl (z75 rfl) ?_|constructor)<;>(first|(refine z68 ?_;exact z395 _)|(refine z68 ?_;rw [q0];exact z395 _))) ?_
 intro i hi
 by_cases hi2:i < rows.length
 ·have g1:=z185 (qm i) hi2
  have l1:=z135 rows.length (qm i)
  have e1:=z170 (N:=rows.length) (u:=i) (qm i) (-1)
  rw [← qS] at e1
  repeat' ((first|(apply y4 ok;rfl)|(refine z21 (i:=i) rfl g1 ?_)|(apply y39;first|omega|(unfold inI;omega))|((apply z8)<;>intro _))<;>conv=>whnf)
  all_goals try (exfalso;omega)
  all_goals refine z44 (i+1) hi2 (by omega) (by refine swR [0,1,2,3,4,5,6] [] rfl rfl ?_;(repeat' first|exact y82 _|exact z18 _|apply y83|refine z80 rfl (z7 (fun _=>rfl)) ?_|refine z16 rfl (z7 (fun _=>rfl)) ?_|constructor)<;>((refine z68 ?_;exact e1)))
 obtain rfl:i=rows.length:=by omega
 rw [qE]
 clear qE qS q0
 repeat' ((first|(apply y4 ok;rfl)|(apply y39;omega)|(((apply z15;omega));intro _)|((apply z8)<;>intro _))<;>conv=>whnf)
 all_goals try (exfalso;omega)
 obtain ⟨S,hS⟩:∃ S:Nat→TS,S=fun k=>(List.range k).foldl (tTop rows) z360:=⟨_,rfl⟩
 have hTT:∀ k,k≤rows.length→TT rows (S k) k:=fun k hk=>by rw [hS];exact z624 hr k hk
 have hS0:S 0=z360:=by rw [hS];rfl
 have hSs:∀ k,S (k+1)=tTop rows (S k) k:=fun k=>by
  rw [hS];show (List.range (k+1)).foldl _ _=_
  rw [y58,y59];rfl
 have hSE:S rows.length=tAll rows:=by rw [hS];rfl
 clear hS
 refine z92 (fun k:Nat=>([(1,.ptr 6 none 0),(4,.ptr 1 none 0),(6,.ptr 8 none 0),(11,.ptr 7 none 0),(36,.int rows.length),(37,.int k)],z1096 rows (S k))) (fun k=>k≤rows.length) (fun k=>rows.length - k) 0 (y49 _) (by refine swR [8,4,1,5,2,7,0,10,6,3,9] [] rfl rfl ?_;(repeat' first|exact y82 _|apply y83|refine z16 rfl (z7 (fun _=>rfl)) ?_|constructor)<;>(first|(rw [hS0];exact y82 _)|(rw [hS0];exact z18 _)|(rw [hS0];exact z380))) ?_
 intro k hk
 have hT:=hTT k hk
 have hTn:∀ h:k < rows.length,TT rows (S (k+1)) (k+1):=fun h=>hTT (k+1) h
 by_cases hk2:k < rows.length
 ·have hs2:=hSs k
  generalize hS1:S k=s1 at *
  generalize hS2:S (k+1)=s2 at *
  have g1:=z185 s1.num hk2
  have l1:=z135 rows.length s1.num
  unfold tTop at hs2
  by_cases h0:s1.num k=0
  ·rw [if_pos h0] at hs2
   have cV:=z946 rows hr hN hrl rows.length s1 [] k (by have:=hT.inv.ct;omega) hT.inv h0 hk2 (by simp) hT.prt
   rw [← hs2] at cV
   repeat' ((first|(apply y4 ok;rfl)|(refine z21 (i:=k) rfl g1 ?_)|(apply y39;first|omega|(unfold inI;omega))|((apply z8)<;>intro _)|(apply z181 [0,1,2,3,4,5,6,7,8,9,10] [] cV;rfl;(focus ((repeat' first|exact z43|apply z64)<;>first|rfl|(refine z88 rfl ?_;((exact z7 fun _=>rfl)))));rfl;(focus ((repeat' first|exact z17|apply z14)<;>first|exact z45 rfl rfl|(refine z23 ?_;((exact z7 fun _=>rfl)))))))<;>conv=>whnf)
   all_goals try (exfalso;omega)
   all_goals refine z44 (k+1) hk2 (by omega) ?_
   all_goals dsimp only
   all_goals rw [hS2]
   all_goals exact (by refine swR [0,1,2,3,4,5,6,7,8,9,10] [] rfl rfl ?_;(repeat' first|exact y82 _|exact z18 _|apply y83|refine z16 rfl (z7 (fun _=>rfl)) ?_|constructor))
  ·rw [if_neg h0] at hs2
   repeat' ((first|(apply y4 ok;rfl)|(refine z21 (i:=k) rfl g1 ?_)|(apply y39;first|omega|(unfold inI;omega))|((apply z8)<;>intro _))<;>conv=>whnf)
   all_goals try (exfalso;omega)
   all_goals refine z44 (k+1) hk2 (by omega) ?_
   all_goals dsimp only
   all_goals rw [hS2,hs2]
   all_goals exact (by refine swR [0,1,2,3,4,5,6,7,8,9,10] [] rfl rfl ?_;(repeat' first|exact y82 _|exact z18 _|apply y83|refine z16 rfl (z7 (fun _=>rfl)) ?_|constructor))
 obtain rfl:k=rows.length:=by omega
 rw [hSE]
 clear hTT hS0 hSs hSE hTn hT
 have hcmp:cmpL rows=(List.range rows.length).map fun i=>nmI (fnL rows.length (tAll rows).part) i:=rfl
 obtain ⟨P,hP⟩:∃ P,P=fnL rows.length (tAll rows).part:=⟨_,rfl⟩
 rw [← hP] at hcmp
 have hPl:P.length=rows.length:=by rw [hP,z135]
 generalize tAll rows=s0 at *
 obtain ⟨pm,hpm⟩:∃ pm:Nat→Nat→Int,pm=fun i j=>if j < i then nmI P j else s0.part j:=⟨_,rfl⟩
 have q0:pm 0=s0.part:=by rw [hpm];funext j;simp
 have qE:fnL rows.length (pm rows.length)=cmpL rows:=by
  rw [hcmp]
  exact z749 fun i hi=>by rw [hpm];dsimp only;rw [if_pos hi]
 have qA:∀ i (h:i < rows.length),pm i i=P[i]'(by omega):=fun i h=>by
  rw [hpm];dsimp only;rw [if_neg (by omega)]
  simp only [hP,z849]
 have qS:∀ i,pm (i+1)=upd (pm i) i (nmI P i):=fun i=>by
  funext j
  by_cases h:j=i
  ·subst h;rw [z31,hpm];dsimp only;rw [if_pos (by omega)]
  ·rw [z56 _ _ h,hpm];dsimp only;split<;>split<;>first|rfl|omega
 clear hpm hcmp
 repeat' ((first|(apply y4 ok;rfl)|(apply y39;omega)|(((apply z15;omega));intro _)|((apply z8)<;>intro _))<;>conv=>whnf)
 all_goals try (exfalso;omega)
 refine z92 (fun i:Nat=>([(6,.ptr 1 none 0),(13,.mref 0),(50,.sref 2 0 rows.length),(51,.int rows.length),(52,.int i)],[.mp 0 (z247 0 (metL P i)),.cells 1 [[.sref 2 0 rows.length]],.cells 1 ((fnL rows.length (pm i)).map enI)])) (fun i=>i≤rows.length) (fun i=>rows.length - i) 0 (y49 _) (by refine swR [11,8,9] [] rfl rfl ?_;(repeat' first|exact y82 _|apply y83|refine z16 rfl (z7 (fun _=>rfl)) ?_|constructor)<;>(first|(rw [q0];exact z18 _)|rfl)) ?_
 intro i hi
 by_cases hi2:i < rows.length
 ·have g1:=z185 (pm i) hi2
  have l1:=z135 rows.length (pm i)
  have e1:=z170 (N:=rows.length) (u:=i) (pm i) (nmI P i)
  rw [← qS] at e1
  rw [qA i hi2] at g1
  have hiP:i < P.length:=by omega
  have m1:=z517 P[i] 0 (metL P i)
  have m2:=z517 P[i] 0 (metL P (i+1))
  rw [if_pos (z647 hiP),Nat.zero_add,← nmI_at hiP] at m2
  have m3:=z382 hiP
  have m4:=z533 0 (metL P i)
  by_cases hp:P[i]∈metL P i
  ·rw [if_pos hp] at m1
   have m5:metL P (i+1)=metL P i:=by rw [m3];unfold z161;rw [if_pos hp]
   rw [m5] at m2
   generalize hes:z247 0 (metL P i)=es at *
   generalize hes2:z247 0 (metL P (i+1))=es2 at *
   have m6:es2=es:=by rw [← hes2,m5,hes]
   generalize nmI P i=nm at *
   generalize P[i]=p at *
   repeat' ((first|(apply y4 ok;rfl)|(refine z21 (i:=i) rfl g1 ?_)|(rw [m2])|(apply y39;first|omega|(unfold inI;omega))|((apply z8)<;>intro _))<;>conv=>whnf)
   all_goals try (exfalso;omega)
   all_goals refine z44 (i+1) hi2 (by omega) ?_
   all_goals dsimp only
   all_goals rw [hes2,m6]
   all_goals exact (by refine swR [0,1,2] [] rfl rfl ?_;(repeat' first|exact y82 _|apply y83|refine z80 rfl (z7 (fun _=>rfl)) ?_|constructor)<;>(first|(refine z68 ?_;exact e1)|rfl))
  ·rw [if_neg hp] at m1
   have m5:metL P (i+1)=metL P i++[P[i]]:=by rw [m3];unfold z161;rw [if_neg hp]
   have m6:mput (z247 0 (metL P i)) [P[i]] (z247 0 (metL P i)).length=z247 0 (metL P (i+1)):=by
    rw [z730 _ _ _ hp,m5,z758,z533,Nat.zero_add]
   generalize hes:z247 0 (metL P i)=es at *
   generalize hes2:z247 0 (metL P (i+1))=es2 at *
   generalize nmI P i=nm at *
   generalize P[i]=p at *
   repeat' ((first|(apply y4 ok;rfl)|(refine z21 (i:=i) rfl g1 ?_)|(rw [m6])|(rw [m2])|(rw [m1])|(apply y39;first|omega|(unfold inI;omega))|((apply z8)<;>intro _))<;>conv=>whnf)
   all_goals try (exfalso;omega)
   all_goals refine z44 (i+1) hi2 (by omega) ?_
   all_goals dsimp only
   all_goals rw [hes2]
   all_goals exact (by refine swR [0,1,2] [] rfl rfl ?_;(repeat' first|exact y82 _|apply y83|refine z80 rfl (z7 (fun _=>rfl)) ?_|constructor)<;>(first|(refine z68 ?_;exact e1)|rfl))
 obtain rfl:i=rows.length:=by omega
 rw [qE]
 repeat' ((first|(apply y4 ok;rfl)|(apply y39;omega)|(((apply z15;omega));intro _)|((first|apply z8|apply z109)<;>intro _))<;>conv=>whnf)
 all_goals try (exfalso;omega)
 all_goals (refine rsD [2] [] rfl ?_;(repeat' first|exact y82 _|exact z18 _|refine z16 rfl (z7 (fun _=>rfl)) ?_|constructor))
def fnB (N:Nat) (f:Nat→Bool):List Bool:=(List.range N).map f
theorem z1143 (N:Nat) (f:Nat→Bool):(fnB N f).length=N:=by simp [fnB]
theorem z1144 {N u:Nat} (f:Nat→Bool) (h:u < N):((fnB N f).map enB)[u]?=some (enB (f u)):=by
 unfold fnB
 rw [y47,y47,List.getElem?_range h];rfl
theorem z921 {N u:Nat} (f:Nat→Bool) (x:Bool):((fnB N f).map enB).set u (enB x)=(fnB N (upd f u x)).map enB:=by
 rw [← List.map_set]
 congr 1
 apply y71 (by simp [fnB])
 intro i h1 h2
 rw [List.getElem_set]
 simp only [fnB,List.getElem_map,List.getElem_range]
 split
 ·rename_i e;subst e;rw [z31]
 ·rename_i e;rw [z56 _ _ (fun h=>e h.symm)]
theorem z920 (N:Nat):List.replicate N [AC.bool false]=(fnB N fun _=>false).map enB:=by
 apply y71 (by simp [fnB])
 intro i h1 h2
 simp [fnB,enB]
set_option maxHeartbeats 12800000 in
theorem z1005 (rows:List (List Int)) (hr:∀ r∈rows,InN rows.length r) (hN:rows.length≤100000) (hrl:∀ r∈rows,r.length≤1000000000):CallsA Tryz.prog 109 [lst 1 encL rows] [] (.sref 0 0 rows.length) [.cells 1 ((cycB rows).map enB)]:=by
 have cC:=z570 rows hr hN hrl
 have hPl:=z404 rows
 have hPi:=z1161 (rows:=rows)
 have hcy:=fun x hx=>cyc_cnt hr (x:=x) hx
 have hcl:=fun x (hx:x < rows.length)=>z858 hx
 have ccB:cycB rows=fnB rows.length (cycD rows):=rfl
 rw [ccB]
 generalize cmpL rows=P at *
 refine z10 z19 Tryz.func109 rfl rfl 56 Tryz.ntmps109 (by simp) ?_
 repeat' ((first|(apply y4 ok;rfl)|(apply y39;(dsimp only;omega))|(apply z11 [] [0] cC;rfl;rfl;rfl;(focus ((repeat' first|exact z17|apply z14)<;>(refine z23 ?_;((exact z7 fun _=>rfl)))))))<;>conv=>whnf)
 obtain ⟨cm,hcm⟩:∃ cm:Nat→Nat→Int,cm=fun i v=>((cntL P i v:Nat):Int):=⟨_,rfl⟩
 have c0:cm 0=fun _=>0:=by rw [hcm];funext v;simp [cntL]
 have cS:∀ i (h:i < P.length),cm (i+1)=upd (cm i) (P[i]).toNat (cm i (P[i]).toNat+1):=fun i h=>by
  have hp:=hPi _ (y40 h)
  funext v
  rw [hcm]
  dsimp only
  rw [z767 h]
  by_cases e:v=(P[i]).toNat
  ·rw [e,z31,if_pos (by omega)];omega
  ·rw [z56 _ _ e,if_neg (by omega)];omega
 have cE:∀ v,cm rows.length v=((cntL P rows.length v:Nat):Int):=fun v=>by rw [hcm]
 have cB:∀ i v,0≤cm i v∧cm i v≤i:=fun i v=>by rw [hcm];have:=cntL_le P i v;dsimp only;omega
 clear hcm
 refine z92 (fun i:Nat=>([(0,lst 1 encL rows),(3,.sref 0 0 rows.length),(4,.sref 1 0 rows.length),(14,.sref 0 0 rows.length),(15,.int rows.length),(16,.int i)],[.cells 1 (P.map enI),.cells 1 ((fnL rows.length (cm i)).map enI)])) (fun i=>i≤rows.length) (fun i=>rows.length - i) 0 (y49 _) (by refine swR [0,1] [] rfl rfl ?_;(repeat' first|exact y82 _|exact z18 _|((refine z16 rfl ?_ ?_);(focus ((repeat' (first|exact z75 rfl|exact z7 (fun _=>rfl)));done)))|constructor)<;>((refine z68 ?_;rw [c0];exact z395 _))) ?_
 intro i hi
 by_cases hi2:i < rows.length
 ·have hiP:i < P.length:=by omega
  have hp:=hPi _ (y40 hiP)
  have gp:(P.map enI)[i]?=some (enI P[i]):=by rw [y47,y41 hiP];rfl
  have cS2:=cS i hiP
  generalize P[i]=p at *
  obtain ⟨v,rfl⟩:∃ v:Nat,p=v:=⟨p.toNat,by omega⟩
  rw [y73] at cS2
  have hv:v < rows.length:=by omega
  have gv:=z185 (cm i) hv
  have l1:=z135 rows.length (cm i)
  have e1:=z170 (N:=rows.length) (u:=v) (cm i) (cm i v+1)
  rw [← cS2] at e1
  have b1:=cB i v
  repeat' ((first|(apply y4 ok;rfl)|(refine z21 (i:=i) rfl gp ?_)|(refine z21 (i:=v) rfl gv ?_)|(apply y39;first|omega|(unfold inI;omega))|((apply z8)<;>intro _))<;>conv=>whnf)
  all_goals try (exfalso;omega)
  all_goals refine z44 (i+1) hi2 (by omega) (by refine swR [0,1] [] rfl rfl ?_;(repeat' first|exact y82 _|exact z18 _|refine z80 rfl (z7 (fun _=>rfl)) ?_|refine z16 rfl (z7 (fun _=>rfl)) ?_|constructor)<;>((refine z68 ?_;exact e1)))
 obtain rfl:i=rows.length:=by omega
 repeat' ((first|(apply y4 ok;rfl)|(apply y39;first|omega|(dsimp only;omega))|(((apply z15;omega));intro _)|((apply z8)<;>intro _))<;>conv=>whnf)
 all_goals try (exfalso;omega)
 obtain ⟨bm,hbm⟩:∃ bm:Nat→Nat→Bool,bm=fun i j=>if j < i then cycD rows j else false:=⟨_,rfl⟩
 have b0:bm 0=fun _=>false:=by rw [hbm];rfl
 have bE:fnB rows.length (bm rows.length)=fnB rows.length (cycD rows):=List.map_congr_left fun i hi=>by
  have:=List.mem_range.1 hi
  rw [hbm];dsimp only;rw [if_pos this]
 have bS:∀ i,bm (i+1)=upd (bm i) i (cycD rows i):=fun i=>by
  funext j
  by_cases h:j=i
  ·subst h;rw [z31,hbm];dsimp only;rw [if_pos (by omega)]
  ·rw [z56 _ _ h,hbm];dsimp only;split<;>split<;>first|rfl|omega
 clear hbm
 refine z92 (fun i:Nat=>([(0,lst 1 encL rows),(3,.sref 0 0 rows.length),(4,.sref 1 0 rows.length),(7,.sref 2 0 rows.length),(31,.int rows.length),(32,.int i)],[.cells 1 (P.map enI),.cells 1 ((fnL rows.length (cm rows.length)).map enI),.cells 1 ((fnB rows.length (bm i)).map enB)])) (fun i=>i≤rows.length) (fun i=>rows.length - i) 0 (y49 _) (by refine swR [0,1,2] [] rfl rfl ?_;(repeat' first|exact y82 _|exact z18 _|((refine z16 rfl ?_ ?_);(focus ((repeat' (first|exact z75 rfl|exact z7 (fun _=>rfl)));done)))|constructor)<;>((refine z68 ?_;rw [b0];exact z920 _))) ?_
 intro i hi
 by_cases hi2:i < rows.length
 ·have hiP:i < P.length:=by omega
  have hp:=hPi _ (y40 hiP)
  have gp:(P.map enI)[i]?=some (enI P[i]):=by rw [y47,y41 hiP];rfl
  have hc:=hcy i hi2
  have e1:=z921 (N:=rows.length) (u:=i) (bm i) (cycD rows i)
  rw [← bS] at e1
  rw [z13 hiP] at hc
  generalize P[i]=p at *
  obtain ⟨v,rfl⟩:∃ v:Nat,p=v:=⟨p.toNat,by omega⟩
  rw [y73] at hc
  have hv:v < rows.length:=by omega
  have gv:=z185 (cm rows.length) hv
  have l1:=z135 rows.length (cm rows.length)
  have l2:=z1143 rows.length (bm i)
  have g2:=z1144 (bm i) hi2
  have gr:=z578 hi2
  have hrow:(rows.getD i []).length≤1000000000:=by rw [z13 hi2];exact hrl _ (y40 _)
  have cct:=z138 (rows.getD i []) (by unfold maxLen;omega) i
  rw [cE] at gv
  generalize cycD rows i=cy at *
  generalize rows.getD i []=row at *
  generalize cntL P rows.length v=cn at *
  by_cases h1:1 < cn
  ·rw [y78 h1,Bool.true_or] at hc
   subst hc
   repeat' ((first|(apply y4 ok;rfl)|(refine z21 (i:=i) rfl gp ?_)|(refine z21 (i:=v) rfl gv ?_)|(refine z21 (i:=i) rfl g2 ?_)|(refine z21 (i:=i) rfl gr ?_)|(apply y39;first|omega|(unfold inI;omega))|((apply z8)<;>intro _)|(apply z6 (cct);rfl;rfl))<;>conv=>whnf)
   all_goals try (exfalso;omega)
   all_goals refine z44 (i+1) hi2 (by omega) (by refine swR [0,1,2] [] rfl rfl ?_;(repeat' first|exact y82 _|exact z18 _|refine z80 rfl (z7 (fun _=>rfl)) ?_|refine z16 rfl (z7 (fun _=>rfl)) ?_|constructor)<;>((refine z68 ?_;exact e1)))
  ·rw [y79 h1,Bool.false_or] at hc
   rw [← hc] at cct
   repeat' ((first|(apply y4 ok;rfl)|(refine z21 (i:=i) rfl gp ?_)|(refine z21 (i:=v) rfl gv ?_)|(refine z21 (i:=i) rfl g2 ?_)|(refine z21 (i:=i) rfl gr ?_)|(apply y39;first|omega|(unfold inI;omega))|((apply z8)<;>intro _)|(apply z6 (cct);rfl;rfl))<;>conv=>whnf)
   all_goals try (exfalso;omega)
   all_goals refine z44 (i+1) hi2 (by omega) (by refine swR [0,1,2] [] rfl rfl ?_;(repeat' first|exact y82 _|exact z18 _|refine z80 rfl (z7 (fun _=>rfl)) ?_|refine z16 rfl (z7 (fun _=>rfl)) ?_|constructor)<;>((refine z68 ?_;exact e1)))
 obtain rfl:i=rows.length:=by omega
 rw [bE]
 repeat' ((first|(apply y4 ok;rfl)|(apply y39;omega)|((first|(with_reducible apply z15;omega)|(apply z15;omega));intro _)|((apply z8)<;>intro _))<;>conv=>whnf)
 all_goals try (exfalso;omega)
 all_goals (refine rsD [2] [] rfl ?_;(repeat' first|exact y82 _|exact z18 _|refine z16 rfl (z7 (fun _=>rfl)) ?_|constructor))
def inM (Q:List Int) (i:Nat):Bool:=decide ((i:Int)∈Q)
theorem inM_upd (Q:List Int) (w:Nat):inM (Q++[(w:Int)])=upd (inM Q) w true:=by
 funext j
 by_cases h:j=w
 ·subst h;rw [z31];unfold inM;simp
 ·rw [z56 _ _ h];unfold inM;congr 1
  have:¬ (j:Int)=w:=by omega
  simp [this]
theorem inM_nil:inM []=fun _=>false:=by funext j;simp [inM]
@[reducible] def findF:AC:=.fn (.func 167) [] [.ptr 0 none 0,.ptr 2 none 0]
@[reducible] def z1097 (N:Nat) (Q:List Int):List AObj:=[.cells 1 [[.sref 1 0 N]],.cells 1 ((fnB N (inM Q)).map enB),.cells 1 [[.own 1 (Q.map enI)]]]
set_option maxHeartbeats 3200000 in
theorem z750 (N : Nat) (hN : N ≤ 100000) (Q : List Int) (hQ : Q.length ≤ 100000) (v : Int) (hv : 0 ≤ v ∧ v < N) :
    CallsA Tryz.prog 167 [.int v,.ptr 0 none 0,.ptr 2 none 0] (z1097 N Q) (.tup []) (z1097 N (z161 Q v)):=by
  obtain ⟨w,rfl⟩:∃ w:Nat,v=w:=⟨v.toNat,by omega⟩
  have hw:w < N:=by omega
  have g1:=z1144 (inM Q) hw
  have l1:=z1143 N (inM Q)
  unfold z161
  by_cases h:(w:Int)∈Q
  · rw [if_pos h]
    have e:inM Q w=true:=by unfold inM;simp [h]
    rw [e] at g1
    refine z10 z19 Tryz.func167 rfl rfl 16 Tryz.ntmps167 (by simp) ?_
    repeat' ((first|(apply y4 ok;rfl)|(refine z21 (i:=w) rfl g1 ?_)|(apply y39;omega))<;>conv=>whnf)
    all_goals (refine rsD [0,1,2] [] rfl ?_;(repeat' first|exact y82 _|exact z18 _|apply y83|refine z16 rfl (z7 (fun _=>rfl)) ?_|constructor))
  · rw [if_neg h]
    have e:inM Q w=false:=by unfold inM;simp [h]
    rw [e] at g1
    have e1:=z921 (N:=N) (u:=w) (inM Q) true
    rw [← inM_upd] at e1
    have e2:(List.map enI Q).take (List.map enI Q).length++[enI (w:Int)]=(Q++[(w:Int)]).map enI:=by
      rw [y52];simp
    refine z10 z19 Tryz.func167 rfl rfl 16 Tryz.ntmps167 (by simp) ?_
    repeat' ((first|((fail_if_success apply z114 2);(fail_if_success apply z96 2);apply y4 ok;rfl)|(refine z21 (i:=w) rfl g1 ?_)|(apply y39;omega))<;>conv=>whnf)
    all_goals
      refine y81 (Gl.Reach.expose 2 0 0 rfl rfl rfl (z168 (fun _=>rfl) _) rfl) ?_
      conv=>whnf
      repeat' ((first|(apply y4 ok;rfl)|(apply y39;first|((try dsimp only);simp only [y45,y44,y43,y42,y54,y55];omega)|exact ⟨rfl,z25 rfl z32⟩))<;>conv=>whnf)
      refine Gl.RetS.absorb 2 5 0 0 rfl rfl rfl rfl (by simp) rfl (z90 (fun e he=>(z7 (fun _=>rfl)) e (List.mem_of_mem_take he)) (z212 rfl z36)) ?_
      conv=>whnf
      (refine rsD [0,1,2] [] rfl ?_;(repeat' first|exact y82 _|apply y83|refine z80 rfl (z7 (fun _=>rfl)) ?_|constructor))
      all_goals first|(refine z68 ?_;exact e1)|exact y9 (congrArg (AC.own 1) e2)
set_option maxHeartbeats 6400000 in
theorem z1092 (rows : List (List Int)) (ini : List Int) (hr : ∀ r ∈ rows, InN rows.length r) (hi : InN rows.length ini) (hN : rows.length ≤ 100000) (hrl : ∀ r ∈ rows, r.length ≤ 1000000000) (hil : ini.length ≤ 1000000000) :
    CallsA Tryz.prog 110 [lst 1 encL rows,ints ini] [] (.sref 0 0 (bfsL rows ini).length) [.cells 1 ((bfsL rows ini).map enI)]:=by
  have hvl:∀ l:List Int,InN rows.length l→(z85 [] l).length≤100000:=fun l hl=>by
    have:=z219 rows.length (z85 [] l) (z174 (by simp)) (z354 (fun x hx=>by cases hx) hl)
    omega
  refine z10 z19 Tryz.func110 rfl rfl 50 Tryz.ntmps110 (by simp) ?_
  repeat' ((first|(apply y4 ok;rfl)|(apply y39;(dsimp only;omega)))<;>conv=>whnf)
  refine z92 (fun i:Nat=>([(0,lst 1 encL rows),(6,.ptr 2 none 0),(7,findF),(17,ints ini),(18,.int ini.length),(19,.int i)],z1097 rows.length (z85 [] (ini.take i)))) (fun i=>i≤ini.length) (fun i=>ini.length - i) 0 (y49 _) (by refine swR [1,0,2] [] rfl rfl ?_;(repeat' first|exact y82 _|apply y83|refine z16 rfl (z75 rfl) ?_|constructor)<;>(first|exact z380|(refine z68 ?_;show _=(fnB rows.length (inM [])).map enB;rw [inM_nil];exact z920 _))) ?_
  intro i hil1
  by_cases hil2:i < ini.length
  · have gk:(ini.map enI)[i]?=some (enI ini[i]):=by rw [y47,y41 hil2];rfl
    have hv:=hi _ (y40 hil2)
    have hQl:=hvl (ini.take i) fun x hx=>hi x (List.mem_of_mem_take hx)
    have e1:=z336 (out:=[]) hil2
    generalize ini[i]=v at *
    have cf:=z750 rows.length hN (z85 [] (ini.take i)) hQl v hv
    rw [← e1] at cf
    repeat' ((first|(apply y4 ok;rfl)|(refine z21 (i:=i) rfl gk ?_)|(apply y39;first|omega|(unfold inI;omega))|((apply z8)<;>intro _)|(apply z181 [0,1,2] [] cf;rfl;(focus ((repeat' first|exact z43|apply z64)<;>first|rfl|(refine z88 rfl ?_;((exact z7 fun _=>rfl)))));rfl;(focus ((repeat' first|exact z17|apply z14)<;>first|exact z45 rfl rfl|(refine z23 ?_;((exact z7 fun _=>rfl)))))))<;>conv=>whnf)
    all_goals try (exfalso;omega)
    all_goals refine z44 (i+1) hil2 (by omega) (by refine swR [0,1,2] [] rfl rfl ?_;(repeat' first|exact y82 _|exact z18 _|apply y83|refine z16 rfl (z7 (fun _=>rfl)) ?_|constructor))
  obtain rfl:i=ini.length:=by omega
  rw [y52]
  repeat' ((first|(apply y4 ok;rfl)|(apply y39;omega)|(((with_reducible apply z15;omega));intro _)|((apply z8)<;>intro _))<;>conv=>whnf)
  all_goals try (exfalso;omega)
  refine z92 (fun i:Nat=>([(0,lst 1 encL rows),(6,.ptr 2 none 0),(7,findF),(10,.int i)],z1097 rows.length (bfs rows ini i))) (fun i=>i≤rows.length) (fun i=>rows.length - i) 0 (y49 _) (by refine swR [0,1,2] [] rfl rfl ?_;(repeat' first|exact y82 _|exact z18 _|apply y83|refine z16 rfl (z7 (fun _=>rfl)) ?_|constructor)) ?_
  intro i hi1
  have hQl:=z870 hr hi i
  have hQi:=z773 hr hi i
  refine y81 (Gl.Reach.expose 2 0 0 rfl rfl rfl (z168 (fun _=>rfl) _) rfl) ?_
  by_cases hi2:i < (bfs rows ini i).length
  · have hx:=hQi _ (y40 hi2)
    have gx:((bfs rows ini i).map enI)[i]?=some (enI (bfs rows ini i)[i]):=by rw [y47,y41 hi2];rfl
    have hnx:bfs rows ini (i+1)=z85 (bfs rows ini i) (rows.getD ((bfs rows ini i)[i]).toNat []):=by rw [bfs,dif_pos hi2]
    have hnd:=z772 (rows:=rows) (ini:=ini) i
    generalize hQ' : bfs rows ini (i+1)=Q' at *
    generalize (bfs rows ini i)[i]=x at *
    generalize hQ:bfs rows ini i=Q at *
    obtain ⟨u,rfl⟩:∃ u:Nat,x=u:=⟨x.toNat,by omega⟩
    rw [y73] at hnx
    have hu:u < rows.length:=by omega
    have gr:=z578 hu
    have hrow:=z275 hr (u:Int)
    rw [y73] at hrow
    have hrowl:(rows.getD u []).length≤1000000000:=by rw [z13 hu];exact hrl _ (y40 _)
    generalize rows.getD u []=row at *
    repeat' ((first|(apply y4 ok;rfl)|(refine z21 (i:=i) rfl gx ?_)|(refine z21 (i:=u) rfl gr ?_)|(apply y39;omega)|((apply z8)<;>intro _))<;>conv=>whnf)
    all_goals first|(exfalso;simp at *;omega)|skip
    all_goals
      refine y81 (Gl.Reach.absorb 2 3 0 0 rfl rfl rfl rfl (by simp) rfl (z7 fun _=>rfl) rfl) ?_
      refine z92 (fun j:Nat=>([(0,lst 1 encL rows),(6,.ptr 2 none 0),(7,findF),(10,.int i),(39,ints row),(40,.int row.length),(41,.int j)],z1097 rows.length (z85 Q (row.take j)))) (fun j=>j≤row.length) (fun j=>row.length - j) 0 (y49 _) (by refine swR [0,1,2] [] rfl rfl ?_;(repeat' first|exact y82 _|exact z18 _|apply y83|refine z16 rfl (z7 (fun _=>rfl)) ?_|constructor)) ?_
      intro j hj
      by_cases hj2:j < row.length
      · have gj:(row.map enI)[j]?=some (enI row[j]):=by rw [y47,y41 hj2];rfl
        have hv:=hrow _ (y40 hj2)
        have hWl:(z85 Q (row.take j)).length≤100000:=by
          have:=z219 rows.length (z85 Q (row.take j)) (z174 hnd) (z354 hQi fun x hx=>hrow x (List.mem_of_mem_take hx))
          omega
        have e1:=z336 (out:=Q) hj2
        generalize row[j]=v at *
        have cf:=z750 rows.length hN (z85 Q (row.take j)) hWl v hv
        rw [← e1] at cf
        repeat' ((first|(apply y4 ok;rfl)|(refine z21 (i:=j) rfl gj ?_)|(apply y39;first|omega|(unfold inI;omega))|((apply z8)<;>intro _)|(apply z181 [0,1,2] [] cf;rfl;(focus ((repeat' first|exact z43|apply z64)<;>first|rfl|(refine z88 rfl ?_;((exact z7 fun _=>rfl)))));rfl;(focus ((repeat' first|exact z17|apply z14)<;>first|exact z45 rfl rfl|(refine z23 ?_;((exact z7 fun _=>rfl)))))))<;>conv=>whnf)
        all_goals try (exfalso;omega)
        all_goals refine z44 (j+1) hj2 (by omega) (by refine swR [0,1,2] [] rfl rfl ?_;(repeat' first|exact y82 _|exact z18 _|apply y83|refine z16 rfl (z7 (fun _=>rfl)) ?_|constructor))
      obtain rfl:j=row.length:=by omega
      rw [y52,← hnx]
      repeat' ((first|(apply y4 ok;rfl)|(apply y39;first|omega|(unfold inI;omega))|(((with_reducible apply z15;omega));intro _)|((apply z8)<;>intro _))<;>conv=>whnf)
      all_goals try (exfalso;omega)
      all_goals refine z44 (i+1) (by omega) (by omega) ?_
      all_goals dsimp only
      all_goals rw [hQ']
      all_goals exact (by refine swR [0,1,2] [] rfl rfl ?_;(repeat' first|exact y82 _|exact z18 _|apply y83|refine z16 rfl (z7 (fun _=>rfl)) ?_|constructor))
  · have hE:=bfsL_end hr hi (i:=i) (by omega) hi1
    rw [← hE]
    repeat' ((first|(apply y4 ok;rfl)|(apply y39;omega)|((apply z8)<;>intro _))<;>conv=>whnf)
    all_goals first|(exfalso;simp at *;omega)|skip
    all_goals (refine rsD [3] [] rfl ?_;(repeat' first|exact z18 _|(refine z72 ?_;((simp;done)))|refine z16 rfl (z7 (fun _=>rfl)) ?_|constructor))
theorem swp_map (l:List Int) (i j:Nat):((l.map enI).set i (enI (l.getD j 0))).set j (enI (l.getD i 0))=(swp l i j).map enI:=by
 unfold swp;rw [List.map_set,List.map_set]
set_option maxHeartbeats 1600000 in
theorem z966 (l:List Int) (h1:1≤l.length) (h2:l.length≤1048576):CallsA Tryz.prog 168 [.sref 0 0 l.length] [.cells 1 (l.map enI)] (.tup []) [.cells 1 ((rvs l).map enI)]:=by
 have hR:revG l.length 0 (l.length - 1) l=rvs l:=rfl
 generalize rvs l=R at *
 generalize hn:l.length=n at *
 refine z10 z19 Tryz.func168 rfl rfl 28 Tryz.ntmps168 (by simp) ?_
 repeat' ((first|(apply y4 ok;rfl)|(apply y39;(unfold inI;omega)))<;>conv=>whnf)
 refine z92 (fun x:Nat×Nat×List Int=>([(0,.sref 0 0 n),(2,.int x.1),(3,.int x.2.1)],[.cells 1 (x.2.2.map enI)])) (fun x=>x.1≤n∧x.2.1 < n∧x.2.2.length=n∧revG (n - x.1) x.1 x.2.1 x.2.2=R) (fun x=>n - x.1) (0,n - 1,l) ⟨by simp,by show n - 1 < n;omega,hn,hR⟩ (by refine swR [0] [] rfl rfl ?_;(repeat' first|exact y82 _|exact z18 _|refine z16 rfl (z7 (fun _=>rfl)) ?_|constructor)<;>((rw [show ((n - 1:Nat):Int)=(n:Int) - 1 by omega];exact y82 _))) ?_
 rintro ⟨i,j,l'⟩ ⟨i1,i2,i3,i4⟩
 dsimp only at i1 i2 i3 i4 ⊢
 by_cases hij:i < j
 ·rw [show n - i=(n - (i+1))+1 by omega,revG,if_pos hij] at i4
  have gi:(l'.map enI)[i]?=some (enI (l'.getD i 0)):=by rw [y47,y41 (by omega),z13 (by omega)];rfl
  have gj:(l'.map enI)[j]?=some (enI (l'.getD j 0)):=by rw [y47,y41 (by omega),z13 (by omega)];rfl
  have gj2:((l'.map enI).set i (enI (l'.getD j 0)))[j]?=some (enI (l'.getD j 0)):=by rw [List.getElem?_set_ne (by omega)];exact gj
  have es:=swp_map l' i j
  repeat' ((first|(apply y4 ok;rfl)|(apply z37;kernel_rfl)|(refine z21 (i:=i) rfl gi ?_)|(refine z21 (i:=j) rfl gj ?_)|(refine z21 (i:=j) rfl gj2 ?_)|(apply y39;first|omega|(unfold inI;omega))|((apply z8)<;>intro _))<;>conv=>whnf)
  all_goals try (exfalso;omega)
  all_goals refine z44 (i+1,j - 1,swp l' i j) ⟨by show i+1≤n;omega,by show j - 1 < n;omega,by show (swp l' i j).length=n;simp [swp,i3],i4⟩ (by show n - (i+1) < n - i;omega) (by refine swR [0] [] rfl rfl ?_;(repeat' first|exact y82 _|((refine z80 rfl ?_ ?_);(focus ((repeat' (first|exact z7 (fun _=>rfl)|(refine z1145 ?_ _ rfl)));done)))|constructor)<;>(first|(rw [show ((j - 1:Nat):Int)=(j:Int) - 1 by omega];exact y82 _)|exact z68 es))
 ·have:revG (n - i) i j l'=l':=by cases n - i<;>simp [revG,hij]
  rw [this] at i4
  subst i4
  repeat' ((first|(apply y4 ok;rfl)|(apply y39;omega)|(((apply z15;omega));intro _)|((apply z8)<;>intro _))<;>conv=>whnf)
  all_goals try (exfalso;omega)
  all_goals (refine rsD [0] [] rfl ?_;(repeat' first|exact y82 _|exact z18 _|refine z16 rfl (z7 (fun _=>rfl)) ?_|constructor))
theorem z847 {N w:Nat} (Q P:List Int) (hw:w < N):((frm N Q P).map enI)[w]?=some (enI (if (w:Int)∈Q then P.getD w 0 else -2)):=by
 unfold frm
 rw [y47,y47,List.getElem?_range hw];rfl
theorem z918 {N w:Nat} {Q P:List Int} {u:Int} (hw:w < N) (hP:P.length=N):((frm N Q P).map enI).set w (enI u)=(frm N (Q++[(w:Int)]) (P.set w u)).map enI:=by
 have:=frm_set (N:=N) (Q:=Q) (P:=P) (v:=(w:Int)) (u:=u) ⟨by omega,by omega⟩ hP
 rw [y73] at this
 rw [← this,List.map_set]
@[reducible] def capB (b:Bool) (c1 c2:List AC):List AC:=match b with
 |true=>[.pt c1,.pt c2]
 |false=>[.pt c1]
set_option maxHeartbeats 25600000 in
theorem z367 (b : Bool) (rows : List (List Int)) (ini : List Int) (hr : ∀ r ∈ rows, InN rows.length r) (hi : InN rows.length ini) (hn : ini.Nodup) (hN : rows.length ≤ 100000) (hrl : ∀ r ∈ rows, r.length ≤ 1000000000) (G : Int → Bool) (f : FuncId) (c1 c2 : List AC) (hf : ∀ x : Int, 0 ≤ x → x < rows.length → CallsA Tryz.prog f (.int x :: (capB b c1 c2)) [] (.bool (G x)) []) :
    CallsA Tryz.prog 111 [lst 1 encL rows,ints ini,.fn (.func f) [] (capB b c1 c2)] [] (.sref 0 0 (shL rows ini G).length) [.cells 1 ((shL rows ini G).map enI)]:=by
  cases b
  case' true=>let caps:List AC:=[.pt c1,.pt c2]
  case' false=>let caps:List AC:=[.pt c1]
  all_goals
    have hil:ini.length≤100000:=by have:=z219 rows.length ini hn hi;omega
    refine z10 z19 Tryz.func111 rfl rfl 99 Tryz.ntmps111 (by simp) ?_
    repeat' ((first|(apply y4 ok;rfl)|(apply y39;(dsimp only;omega)))<;>conv=>whnf)
    obtain ⟨qm,hqm⟩:∃ qm:Nat→Nat→Int,qm=fun i j=>if j < i then -2 else 0:=⟨_,rfl⟩
    have q0:qm 0=fun _=>0:=by rw [hqm];rfl
    have qE:(fnL rows.length (qm rows.length)).map enI=(frm rows.length [] (List.replicate rows.length (-1))).map enI:=by
      rw [frm_nil]
      congr 1
      apply y71 (by simp [fnL])
      intro i h1 h2
      rw [z849,hqm]
      have hi' : i < rows.length:=by rw [z135] at h1;exact h1
      dsimp only
      rw [if_pos hi'];simp
    have qS:∀ i,qm (i+1)=upd (qm i) i (-2):=fun i=>by
      funext j
      by_cases h:j=i
      · subst h;rw [z31,hqm];dsimp only;rw [if_pos (by omega)]
      · rw [z56 _ _ h,hqm];dsimp only;split<;>split<;>first|rfl|omega
    clear hqm
    refine z92 (fun i:Nat=>([(0,lst 1 encL rows),(1,ints ini),(2,.fn (.func f) [] caps),(7,.sref 0 0 rows.length),(21,.int rows.length),(22,.int i)],[.cells 1 ((fnL rows.length (qm i)).map enI)])) (fun i=>i≤rows.length) (fun i=>rows.length - i) 0 (y49 _) (by refine swR [0] [] rfl rfl ?_;(repeat' first|exact y82 _|refine z16 rfl (z75 rfl) ?_|constructor)<;>((refine z68 ?_;rw [q0];exact z395 _))) ?_
    intro i hi1
    by_cases hi2:i < rows.length
    · have g1:=z185 (qm i) hi2
      have l1:=z135 rows.length (qm i)
      have e1:=z170 (N:=rows.length) (u:=i) (qm i) (-2)
      rw [← qS] at e1
      repeat' ((first|(apply y4 ok;rfl)|(refine z21 (i:=i) rfl g1 ?_)|(apply y39;first|omega|(unfold inI;omega))|((apply z8)<;>intro _))<;>conv=>whnf)
      all_goals try (exfalso;omega)
      all_goals refine z44 (i+1) hi2 (by omega) (by refine swR [0] [] rfl rfl ?_;(repeat' first|exact y82 _|refine z80 rfl (z7 (fun _=>rfl)) ?_|constructor)<;>((refine z68 ?_;exact e1)))
    obtain rfl:i=rows.length:=by omega
    rw [qE]
    clear qE qS q0
    repeat' ((first|(apply y4 ok;rfl)|(apply y39;omega)|(((apply z15;omega));intro _)|((apply z8)<;>intro _))<;>conv=>whnf)
    all_goals try (exfalso;omega)
    refine y81 (y84 1 rfl) ?_
    have hrep:(List.replicate rows.length (-1:Int)).length=rows.length:=by simp
    have hrs:∀ w,(List.replicate rows.length (-1:Int)).set w (-1)=List.replicate rows.length (-1):=fun w=>by
      apply y71 (by simp)
      intro i h1 h2
      rw [List.getElem_set]
      split<;>simp
    have hS0:(frm rows.length ini (List.replicate rows.length (-1)))=frm rows.length (srS rows ini 0).1 (srS rows ini 0).2:=rfl
    generalize List.replicate rows.length (-1:Int)=P0 at *
    refine z92 (fun k:Nat=>([(0,lst 1 encL rows),(2,.fn (.func f) [] caps),(7,.sref 0 0 rows.length),(9,.sref 1 0 (ini.take k).length),(29,ints ini),(30,.int ini.length),(31,.int k)],[.cells 1 ((frm rows.length (ini.take k) P0).map enI),.cells 1 ((ini.take k).map enI)])) (fun k=>k≤ini.length) (fun k=>ini.length - k) 0 (y49 _) (by refine swR [0,1] [] rfl rfl ?_;(repeat' first|exact y82 _|exact z57|exact z18 _|((refine z16 rfl ?_ ?_);(focus ((repeat' (first|exact z36|exact z7 (fun _=>rfl)));done)))|constructor)) ?_
    intro k hk
    by_cases hk2:k < ini.length
    · have gk:(ini.map enI)[k]?=some (enI ini[k]):=by rw [y47,y41 hk2];rfl
      have hv:=hi _ (y40 hk2)
      have et:ini.take (k+1)=ini.take k++[ini[k]]:=y46 hk2
      have htl:(ini.take k).length≤100000:=by rw [y44];omega
      generalize hQ' : ini.take (k+1)=Q' at *
      generalize hQ:ini.take k=Q at *
      generalize ini[k]=v at *
      obtain ⟨w,rfl⟩:∃ w:Nat,v=w:=⟨v.toNat,by omega⟩
      have hw:w < rows.length:=by omega
      have g1:=z847 Q P0 hw
      have l1:=z846 rows.length Q P0
      have e1:=z918 (Q:=Q) (u:=-1) hw hrep
      rw [hrs,← et] at e1
      subst et
      repeat' ((first|(apply y4 ok;rfl)|(refine z21 (i:=k) rfl gk ?_)|(refine z21 (i:=w) rfl g1 ?_)|(apply y39;first|omega|(unfold inI;omega)|((try dsimp only);simp only [y45,y44,y43,y42,y54,y55];omega)|exact ⟨rfl,z25 rfl z32⟩)|((apply z8)<;>intro _))<;>conv=>whnf)
      all_goals try (exfalso;omega)
      all_goals refine z44 (k+1) hk2 (by omega) ?_
      all_goals dsimp only
      all_goals rw [hQ']
      all_goals exact (by refine swR [0,3] [] rfl rfl ?_;(repeat' first|exact y82 _|(refine z72 ?_;((simp;done)))|((first|refine z47 rfl ?_ ?_|refine z80 rfl ?_ ?_);(focus ((repeat' (first|exact z7 (fun _=>rfl)|apply z33));done)))|(refine z100 ?_ ?_;(focus (omega)))|constructor)<;>((refine z68 ?_;exact e1)))
    obtain rfl:k=ini.length:=by omega
    rw [y52,hS0]
    repeat' ((first|(apply y4 ok;rfl)|(apply y39;omega)|((first|(with_reducible apply z15;omega)|(apply z15;omega));intro _)|((apply z8)<;>intro _))<;>conv=>whnf)
    all_goals try (exfalso;omega)
    refine z92 (fun i:Nat=>([(0,lst 1 encL rows),(2,.fn (.func f) [] caps),(7,.sref 0 0 rows.length),(9,.sref 1 0 (srS rows ini i).1.length),(12,.int i)],[.cells 1 ((frm rows.length (srS rows ini i).1 (srS rows ini i).2).map enI),.cells 1 ((srS rows ini i).1.map enI)])) (fun i=>i≤rows.length∧∀ k (_:k < i) (h:k < (srS rows ini i).1.length),G ((srS rows ini i).1[k])=false) (fun i=>rows.length+1 - i) 0 ⟨y49 _,fun k h=>by omega⟩ (by refine swR [0,1] [] rfl rfl ?_;(repeat' first|exact y82 _|exact z18 _|refine z16 rfl (z7 (fun _=>rfl)) ?_|constructor)<;>(fail)) ?_
    rintro i ⟨hi1,hno⟩
    have hJ:=z573 hr hi hn i
    have hQl:=z1054 hr hi hn i
    by_cases hi2:i < (srS rows ini i).1.length
    · have hx:=hJ.inn _ (y40 hi2)
      have cf:=hf _ hx.1 hx.2
      have gx:((srS rows ini i).1.map enI)[i]?=some (enI (srS rows ini i).1[i]):=by rw [y47,y41 hi2];rfl
      have hnx:srS rows ini (i+1)=visPs (srS rows ini i).1[i] (srS rows ini i) (rows.getD ((srS rows ini i).1[i]).toNat []):=by rw [srS,dif_pos hi2]
      have hfnd:=fun h=>z1070 hr hi hn (G:=G) hi2 h (fun k hk=>hno k hk (by omega))
      have hpre:=z487 (srS rows ini i).1[i] (rows.getD ((srS rows ini i).1[i]).toNat []) (srS rows ini i)
      by_cases hG:G (srS rows ini i).1[i]=true
      · rw [hfnd hG,z1174,y61]
        have hq0:∃ k,∃ h:k < (srS rows ini i).1.length,(srS rows ini i).1[k]=(srS rows ini i).1[i]∧k≤rows.length:=⟨i,hi2,rfl,hi1⟩
        rw [hG] at cf
        clear hfnd hnx hpre hno
        generalize hS:srS rows ini i=S at *
        obtain ⟨Q,P⟩:=S
        dsimp only at *
        have hi4:i < Q.length:=hi2
        generalize Q[i]=x at *
        repeat' ((first|(apply y4 ok;rfl)|(refine z21 (i:=i) rfl gx ?_)|(apply y39;omega)|((apply z8)<;>intro _)|(apply z6 (cf);rfl;rfl))<;>conv=>whnf)
        all_goals try (exfalso;omega)
        all_goals
          refine y81 (y84 1 rfl) ?_
          have hB1:=chn_pos P rows.length x
          generalize hB:chn P rows.length x=B at *
          refine z92 (fun y:Nat×List Int×Int=>([(7,.sref 0 0 rows.length),(13,.int y.2.2),(14,.sref 1 0 y.2.1.length)],[.cells 1 ((frm rows.length Q P).map enI),.cells 1 (y.2.1.map enI)])) (fun y=>y.2.1.length+y.1≤rows.length+1∧((0≤y.2.2∧y.2.1++chn P (y.1 - 1) y.2.2=B∧1≤y.1∧∃ k,∃ h:k < Q.length,Q[k]=y.2.2∧k+1≤y.1)∨(y.2.2=-1∧y.2.1=B))) (fun y=>y.1+(if 0≤y.2.2 then 1 else 0)) (rows.length+1,[],x) ⟨by simp,.inl ⟨hx.1,by simpa using hB,by omega,by obtain ⟨k,h,h1,h2⟩:=hq0;exact ⟨k,h,h1,by omega⟩⟩⟩ (by refine swR [0,2] [] rfl rfl ?_;(repeat' first|exact y82 _|exact z57|exact z18 _|((refine z16 rfl ?_ ?_);(focus ((repeat' (first|exact z36|exact z7 (fun _=>rfl)));done)))|constructor)) ?_
          rintro ⟨fu,ac,u⟩ ⟨q1,q2⟩
          dsimp only at q1 q2 ⊢
          rcases q2 with ⟨q2,q3,q4,k,hk,q5,q6⟩|⟨rfl,rfl⟩
          · have huN:=hJ.inn u (q5 ▸ y40 hk)
            obtain ⟨w,rfl⟩:∃ w:Nat,u=w:=⟨u.toNat,by omega⟩
            have hw:w < rows.length:=by omega
            have gw:=z847 Q P hw
            rw [if_pos (q5 ▸ y40 hk)] at gw
            have lw:=z846 rows.length Q P
            have hp:=hJ.pre k hk
            rw [q5,y73] at hp
            dsimp only at hp
            obtain ⟨fu,rfl⟩:∃ m,fu=m+1:=⟨fu - 1,by omega⟩
            rw [Nat.add_sub_cancel] at q3
            have hnext:P.getD w 0=-1∧ac++[(w:Int)]=B∨(0≤P.getD w 0∧(ac++[(w:Int)])++chn P (fu - 1) (P.getD w 0)=B∧1≤fu∧∃ k,∃ h:k < Q.length,Q[k]=P.getD w 0∧k+1≤fu):=by
              rcases hp with hp|⟨j,hj,hjk,hp⟩
              · left
                refine ⟨hp,?_⟩
                rw [← q3]
                cases fu with
                | zero=>rfl
                | succ fu =>
                  rw [chn,y73,if_neg (by omega)]
              · right
                have:=hJ.inn _ (y40 hj)
                refine ⟨by omega,?_,by omega,j,hj,hp.symm,by omega⟩
                obtain ⟨fu,rfl⟩:∃ m,fu=m+1:=⟨fu - 1,by omega⟩
                rw [chn,y73,if_pos (by omega)] at q3
                rw [← q3]
                simp
            have hvb : -1≤P.getD w 0∧P.getD w 0 < rows.length:=by
              rcases hnext with ⟨h,_⟩|⟨h,_,_,j,hj,hp2,_⟩
              · omega
              · have:=hJ.inn _ (y40 hj)
                omega
            clear hp
            generalize P.getD w 0=v at *
            repeat' ((first|(apply y4 ok;rfl)|(refine z21 (i:=w) rfl gw ?_)|(apply y39;first|omega|((try dsimp only);simp only [y45,y44,y43,y42,y54,y55];omega)|exact ⟨rfl,z25 rfl z32⟩))<;>conv=>whnf)
            all_goals refine z44 (fu,ac++[(w:Int)],v) ⟨by simp only [y43,List.length_singleton];omega,?_⟩ ?_ (by refine swR [0,3] [] rfl rfl ?_;(repeat' first|exact y82 _|exact z18 _|(refine z72 ?_;((simp;done)))|((first|refine z47 rfl ?_ ?_|refine z16 rfl ?_ ?_);(focus ((repeat' (first|exact z7 (fun _=>rfl)|apply z33));done)))|(refine z100 ?_ ?_;(focus (omega)))|constructor))
            all_goals dsimp only
            all_goals first|(rcases hnext with ⟨h1,h2⟩|h1<;>first|exact .inr ⟨h1,h2⟩|exact .inl h1)|(rw [if_pos (show (0:Int)≤w by omega)];split<;>omega)
          · have cr:=z966 ac (by omega) (by omega)
            have cc:=z535 (rvs ac) (by rw [z633];omega)
            have el:=z633 ac
            rw [← rvs_eq]
            generalize rvs ac=D at *
            rw [el] at cc ⊢
            repeat' ((first|(apply y4 ok;rfl)|((first|(apply z181 [1] [] cr;rfl;(focus ((repeat' first|exact z43|apply z64)<;>(refine z88 rfl ?_;((exact z7 fun _=>rfl))))))|(apply z181 [1] [] cc;rfl;(focus ((repeat' first|exact z43|apply z64)<;>(refine z88 rfl ?_;((exact z7 fun _=>rfl)))))));rfl;(focus ((repeat' first|exact z17|apply z14)<;>(refine z23 ?_;((exact z7 fun _=>rfl)))))))<;>conv=>whnf)
            all_goals (refine rsD [1] [] rfl ?_;(repeat' first|exact y82 _|exact z18 _|refine z16 rfl (z7 (fun _=>rfl)) ?_|constructor))
      · have hG:=(y68 _).mp hG
        rw [hG] at cf
        have hno2:∀ k (_:k < i+1) (h:k < (srS rows ini (i+1)).1.length),G ((srS rows ini (i+1)).1[k])=false:=by
          obtain ⟨t,ht⟩:=z807 (rows:=rows) (ini:=ini) (show i≤i+1 by omega)
          intro k hk h
          have hki:k < (srS rows ini i).1.length:=by omega
          have e:(srS rows ini (i+1)).1[k]=(srS rows ini i).1[k]:=by
            simp only [ht,List.getElem_append_left hki]
          rw [e]
          by_cases hk3:k < i
          · exact hno k hk3 hki
          · obtain rfl:k=i:=by omega
            exact hG
        have hile:i+1≤rows.length:=by omega
        have hJv:=fun l hl=>PJ.visPs (N:=rows.length) l hJ hi2 rfl hl
        clear hfnd hpre hno
        generalize hS' : srS rows ini (i+1)=S' at *
        generalize hS:srS rows ini i=S at *
        obtain ⟨Q,P⟩:=S
        dsimp only at *
        have hi4:i < Q.length:=hi2
        generalize hxx:Q[i]=x at *
        obtain ⟨u,rfl⟩:∃ u:Nat,x=u:=⟨x.toNat,by omega⟩
        rw [y73] at hnx
        have hu:u < rows.length:=by omega
        have gr:=z578 hu
        have hrow:=z275 hr (u:Int)
        rw [y73] at hrow
        have hrowl:(rows.getD u []).length≤1000000000:=by rw [z13 hu];exact hrl _ (y40 _)
        generalize rows.getD u []=row at *
        repeat' ((first|(apply y4 ok;rfl)|(refine z21 (i:=i) rfl gx ?_)|(refine z21 (i:=u) rfl gr ?_)|(apply y39;omega)|((apply z8)<;>intro _)|(apply z6 (cf);rfl;rfl))<;>conv=>whnf)
        all_goals try (exfalso;omega)
        all_goals
          refine z92 (fun j:Nat=>([(0,lst 1 encL rows),(2,.fn (.func f) [] caps),(7,.sref 0 0 rows.length),(9,.sref 1 0 (visPs (u:Int) (Q,P) (row.take j)).1.length),(12,.int i),(76,ints row),(77,.int row.length),(78,.int j)],[.cells 1 ((frm rows.length (visPs (u:Int) (Q,P) (row.take j)).1 (visPs (u:Int) (Q,P) (row.take j)).2).map enI),.cells 1 ((visPs (u:Int) (Q,P) (row.take j)).1.map enI)])) (fun j=>j≤row.length) (fun j=>row.length - j) 0 (y49 _) (by refine swR [0,1] [] rfl rfl ?_;(repeat' first|exact y82 _|exact z18 _|refine z16 rfl (z7 (fun _=>rfl)) ?_|constructor)<;>(fail)) ?_
          intro j hj
          obtain ⟨hJj,hij,hxj⟩:=hJv (row.take j) (fun x hx=>hrow x (List.mem_of_mem_take hx))
          have hQjl:(visPs (u:Int) (Q,P) (row.take j)).1.length≤rows.length:=z219 _ _ hJj.nd hJj.inn
          have gxj:((visPs (u:Int) (Q,P) (row.take j)).1.map enI)[i]?=some (enI (u:Int)):=by
            rw [y47,y41 hij,hxj];rfl
          by_cases hj2:j < row.length
          · have gj:(row.map enI)[j]?=some (enI row[j]):=by rw [y47,y41 hj2];rfl
            have hv:=hrow _ (y40 hj2)
            have et:=z947 (u:=(u:Int)) (x:=(Q,P)) hj2
            have hge:=hJj.pre
            generalize hT' : visPs (u:Int) (Q,P) (row.take (j+1))=T' at *
            generalize hT:visPs (u:Int) (Q,P) (row.take j)=T at *
            generalize row[j]=v at *
            obtain ⟨w,rfl⟩:∃ w:Nat,v=w:=⟨v.toNat,by omega⟩
            have hw:w < rows.length:=by omega
            have gw:=z847 T.1 T.2 hw
            have lw:=z846 rows.length T.1 T.2
            have hTl:=hJj.len
            by_cases hm:(w:Int)∈T.1
            · rw [z614 hm] at et
              rw [if_pos hm] at gw
              have hwv : -1≤T.2.getD w 0:=by
                obtain ⟨k,hk,ek⟩:=List.mem_iff_getElem.1 hm
                have h1:=hge k hk
                rw [ek,y73] at h1
                rcases h1 with h1|⟨y,hy,_,h1⟩
                · omega
                · have:=hJj.inn _ (y40 hy);omega
              generalize T.2.getD w 0=pv at *
              repeat' ((first|(apply y4 ok;rfl)|(refine z21 (i:=j) rfl gj ?_)|(refine z21 (i:=w) rfl gw ?_)|(apply y39;first|omega|(unfold inI;omega))|(((apply z15;omega));intro _)|((apply z8)<;>intro _))<;>conv=>whnf)
              all_goals try (exfalso;omega)
              all_goals refine z44 (j+1) hj2 (by omega) ?_
              all_goals dsimp only
              all_goals rw [hT',et]
              all_goals exact (by refine swR [0,1] [] rfl rfl ?_;(repeat' first|exact y82 _|exact z18 _|refine z16 rfl (z7 (fun _=>rfl)) ?_|constructor))
            · rw [z615 hm,y73] at et
              rw [if_neg hm] at gw
              have e1:=z918 (Q:=T.1) (u:=(u:Int)) hw hTl
              repeat' ((first|(apply y4 ok;rfl)|(refine z21 (i:=j) rfl gj ?_)|(refine z21 (i:=w) rfl gw ?_)|(refine z21 (i:=i) rfl gxj ?_)|(apply y39;first|omega|(unfold inI;omega)|((try dsimp only);simp only [y45,y44,y43,y42,y54,y55];omega)|exact ⟨rfl,z25 rfl z32⟩)|((apply z8)<;>intro _))<;>conv=>whnf)
              all_goals try (exfalso;omega)
              all_goals refine z44 (j+1) hj2 (by omega) ?_
              all_goals dsimp only
              all_goals rw [hT',et]
              all_goals dsimp only
              all_goals exact (by refine swR [0,3] [] rfl rfl ?_;(repeat' first|exact y82 _|(refine z72 ?_;((simp;done)))|((first|refine z47 rfl ?_ ?_|refine z80 rfl ?_ ?_);(focus ((repeat' (first|exact z7 (fun _=>rfl)|apply z33));done)))|(refine z100 ?_ ?_;(focus (omega)))|constructor)<;>((refine z68 ?_;exact e1)))
          obtain rfl:j=row.length:=by omega
          rw [y52,← hnx] at *
          repeat' ((first|(apply y4 ok;rfl)|(apply y39;first|omega|(unfold inI;omega))|((first|(with_reducible apply z15;omega)|(apply z15;omega));intro _)|((apply z8)<;>intro _))<;>conv=>whnf)
          all_goals try (exfalso;omega)
          all_goals refine z44 (i+1) ⟨hile,by rw [hS'];exact hno2⟩ (by omega) ?_
          all_goals dsimp only
          all_goals rw [hS']
          all_goals exact (by refine swR [0,1] [] rfl rfl ?_;(repeat' first|exact y82 _|exact z18 _|refine z16 rfl (z7 (fun _=>rfl)) ?_|constructor))
    · rw [shL_none (G:=G) (by omega) hi1 (fun k hk=>hno k (by omega) hk)]
      repeat' ((first|(apply y4 ok;rfl)|(apply y39;omega)|(((apply z15;omega));intro _)|((apply z8)<;>intro _))<;>conv=>whnf)
      all_goals try (exfalso;omega)
      all_goals (refine y85 1 ?_;refine rsD [2] [] rfl ?_;(repeat' first|exact z57|refine z16 rfl (z36) ?_|constructor))
theorem z632 (rows : List (List Int)) (ini : List Int) (hr : ∀ r ∈ rows, InN rows.length r) (hi : InN rows.length ini) (hn : ini.Nodup) (hN : rows.length ≤ 100000) (hrl : ∀ r ∈ rows, r.length ≤ 1000000000) (G : Int → Bool) (f : FuncId) (c1 : List AC) (hf : ∀ x : Int, 0 ≤ x → x < rows.length → CallsA Tryz.prog f (.int x :: [.pt c1]) [] (.bool (G x)) []) :
    CallsA Tryz.prog 111 [lst 1 encL rows,ints ini,.fn (.func f) [] [.pt c1]] [] (.sref 0 0 (shL rows ini G).length) [.cells 1 ((shL rows ini G).map enI)]:=z367 false rows ini hr hi hn hN hrl G f c1 [] hf
theorem z631 (rows : List (List Int)) (ini : List Int) (hr : ∀ r ∈ rows, InN rows.length r) (hi : InN rows.length ini) (hn : ini.Nodup) (hN : rows.length ≤ 100000) (hrl : ∀ r ∈ rows, r.length ≤ 1000000000) (G : Int → Bool) (f : FuncId) (c1 c2 : List AC) (hf : ∀ x : Int, 0 ≤ x → x < rows.length → CallsA Tryz.prog f (.int x :: [.pt c1, .pt c2]) [] (.bool (G x)) []) :
    CallsA Tryz.prog 111 [lst 1 encL rows,ints ini,.fn (.func f) [] [.pt c1,.pt c2]] [] (.sref 0 0 (shL rows ini G).length) [.cells 1 ((shL rows ini G).map enI)]:=z367 true rows ini hr hi hn hN hrl G f c1 c2 hf
theorem z1118 (v x:Int):CallsA Tryz.prog 112 [.int x,.pt [.int v]] [] (.bool (decide (x=v))) []:=by
 refine z10 z19 Tryz.func112 rfl rfl 7 Tryz.ntmps112 (by simp) ?_
 repeat' (((apply y4 ok;rfl))<;>conv=>whnf)
 all_goals (refine rsD [] [] rfl ?_;(repeat' first|exact y82 _|constructor))
theorem z1020 (rows:List (List Int)) (hrl:∀ r∈rows,r.length≤1000000000) (v x:Int) (hx:0≤x∧x < rows.length):CallsA Tryz.prog 169 [.int x,.pt [.int v],.pt [lst 1 encL rows]] [] (.bool (decide (x≠v) && decide (v∈rows.getD x.toNat []))) []:=by
 obtain ⟨u,rfl⟩:∃ u:Nat,x=u:=⟨x.toNat,by omega⟩
 rw [y73]
 have hu:u < rows.length:=by omega
 have gr:=z578 hu
 have hrow:(rows.getD u []).length≤1000000000:=by rw [z13 hu];exact hrl _ (y40 _)
 have cct:=z138 (rows.getD u []) (by unfold maxLen;omega) v
 generalize rows.getD u []=row at *
 refine z10 z19 Tryz.func169 rfl rfl 16 Tryz.ntmps169 (by simp) ?_
 by_cases h:(u:Int)=v
 ·rw [y79 (by simp [h]),Bool.false_and]
  repeat' ((first|(apply y4 ok;rfl)|(apply z37;kernel_rfl)|(refine z21 (i:=u) rfl gr ?_)|(apply y39;omega)|((apply z41)<;>intro _)|(apply z6 (cct);rfl;rfl))<;>conv=>whnf)
  all_goals try (exfalso;omega)
  all_goals (refine rsD [] [] rfl ?_;(repeat' first|exact y82 _|constructor))
 ·rw [y78 h,Bool.true_and]
  repeat' ((first|(apply y4 ok;rfl)|(apply z37;kernel_rfl)|(refine z21 (i:=u) rfl gr ?_)|(apply y39;omega)|((apply z41)<;>intro _)|(apply z6 (cct);rfl;rfl))<;>conv=>whnf)
  all_goals try (exfalso;omega)
  all_goals (refine rsD [] [] rfl ?_;(repeat' first|exact y82 _|constructor))
set_option maxHeartbeats 3200000 in
theorem z1019 (rows : List (List Int)) (v : Int) (hr : ∀ r ∈ rows, InN rows.length r) (hv : 0 ≤ v ∧ v < rows.length) (hN : rows.length ≤ 100000) (hrl : ∀ r ∈ rows, r.length ≤ 1000000000) :
    CallsA Tryz.prog 113 [lst 1 encL rows,.int v] [] (.sref 0 0 (aroL rows v).length) [.cells 1 ((aroL rows v).map enI)]:=by
  obtain ⟨u,rfl⟩:∃ u:Nat,v=u:=⟨v.toNat,by omega⟩
  have hu:u < rows.length:=by omega
  have gr:=z578 hu
  have hrow:(rows.getD u []).length≤1000000000:=by rw [z13 hu];exact hrl _ (y40 _)
  have cct:=z138 (rows.getD u []) (by unfold maxLen;omega) (u:Int)
  have csh:=z631 rows [(u:Int)] hr (z726 hv) (by simp) hN hrl (fun n=>decide (n≠(u:Int)) && decide ((u:Int)∈rows.getD n.toNat [])) 169 [.int (u:Int)] [lst 1 encL rows] (fun x h0 h1=>z1020 rows hrl u x ⟨h0,h1⟩)
  unfold aroL
  rw [y73]
  by_cases h:(u:Int)∈rows.getD u []
  · rw [if_pos h]
    rw [y78 h] at cct
    generalize rows.getD u []=row at *
    refine z10 z19 Tryz.func113 rfl rfl 18 Tryz.ntmps113 (by simp) ?_
    repeat' ((first|(apply y4 ok;rfl)|(apply z37;kernel_rfl)|(refine z21 (i:=u) rfl gr ?_)|(apply y39;omega)|(apply z6 (cct);rfl;rfl))<;>conv=>whnf)
    all_goals (refine rsD [2] [] rfl ?_;(repeat' first|exact y82 _|apply y83|constructor))
  · rw [if_neg h]
    rw [y79 h] at cct
    generalize shL rows [(u:Int)] (fun n=>decide (n≠(u:Int)) && decide ((u:Int)∈rows.getD n.toNat []))=D at *
    generalize rows.getD u []=row at *
    refine z10 z19 Tryz.func113 rfl rfl 18 Tryz.ntmps113 (by simp) ?_
    repeat' ((first|(apply y4 ok;rfl)|(apply z37;kernel_rfl)|(refine z21 (i:=u) rfl gr ?_)|(apply y39;omega)|(apply z6 (cct);rfl;rfl)|(apply z112 [] [0,1,2] [3] csh;(focus ((repeat' first|exact z84|apply z55)<;>rfl));rfl;rfl;(focus ((repeat' first|exact z17|apply z14)<;>(refine z23 ?_;((exact z7 fun _=>rfl)))));((refine .inr ⟨rfl,?_⟩;repeat' first|exact True.intro|apply y39|exact z121 (fun _=>rfl) _))))<;>conv=>whnf)
    all_goals (refine rsD [3] [] rfl ?_;(repeat' first|exact y82 _|exact z18 _|refine z16 rfl (z7 (fun _=>rfl)) ?_|constructor))
noncomputable def lasR (rows:List (List Int)) (ini:List Int) (G:Int→Bool):List Int×List Int:=(lasL rows ini G).getD ([],[])
set_option maxHeartbeats 6400000 in
theorem z1117 (rows : List (List Int)) (ini : List Int) (hr : ∀ r ∈ rows, InN rows.length r) (hi : InN rows.length ini) (hn : ini.Nodup) (hN : rows.length ≤ 100000) (hrl : ∀ r ∈ rows, r.length ≤ 1000000000) (G : Int → Bool) (f : FuncId) (c1 c2 : List AC) (hf : ∀ x : Int, 0 ≤ x → x < rows.length → CallsA Tryz.prog f [.int x, .pt c1, .pt c2] [] (.bool (G x)) []) :
    CallsA Tryz.prog 55 [lst 1 encL rows,ints ini,.fn (.func f) [] [.pt c1,.pt c2]] [] (.tup [.sref 0 0 ((lasR rows ini G).1.take ((lasR rows ini G).1.length - 1)).length,.sref 1 0 (lasR rows ini G).2.length,.bool (lasL rows ini G).isSome]) [.cells 1 (((lasR rows ini G).1.take ((lasR rows ini G).1.length - 1)).map enI),.cells 1 ((lasR rows ini G).2.map enI)]:=by
  have hil:ini.length≤100000:=by have:=z219 rows.length ini hn hi;omega
  have cC:=z1005 rows hr hN hrl
  have cO:=z1092 rows ini hr hi hN hrl (by omega)
  have hQi:=z773 hr hi rows.length
  have hQl:=z870 hr hi rows.length
  have hcl:=cycB_len rows
  have hcg:∀ i,i < rows.length→((cycB rows).map enB)[i]?=some (enB (cycD rows i)):=fun i h=>z1144 (cycD rows) h
  have hto:=fun v hv=>shL_to (rows:=rows) (ini:=ini) hn (v:=v) hv
  have hrR:∀ k,k < (bfsL rows ini).length→(G ((bfsL rows ini).getD k 0) && cycD rows ((bfsL rows ini).getD k 0).toNat)=true→(∀ j,j < k→(G ((bfsL rows ini).getD j 0) && cycD rows ((bfsL rows ini).getD j 0).toNat)=false)→lasL rows ini G=some (bkw (srP rows ini) rows.length ((bfsL rows ini).getD k 0) [],cycL rows ((bfsL rows ini).getD k 0)):=fun k hk h1 h2=>by
    unfold lasL
    have:(bfsL rows ini).find? (fun v=>G v && cycD rows v.toNat)=some ((bfsL rows ini).getD k 0):=by
      rw [z13 hk] at h1 ⊢
      rw [List.find?_eq_some_iff_getElem]
      refine ⟨h1,k,hk,rfl,fun j hj=>?_⟩
      have:=h2 j hj
      rw [z13 (by omega)] at this
      rw [this];rfl
    rw [this];rfl
  have hrN:(∀ j,j < (bfsL rows ini).length→(G ((bfsL rows ini).getD j 0) && cycD rows ((bfsL rows ini).getD j 0).toNat)=false)→lasL rows ini G=none:=fun h=>by
    unfold lasL
    have:(bfsL rows ini).find? (fun v=>G v && cycD rows v.toNat)=none:=by
      rw [List.find?_eq_none]
      intro x hx
      obtain ⟨j,hj,rfl⟩:=List.mem_iff_getElem.1 hx
      have:=h j hj
      rw [z13 hj] at this
      rw [this];simp
    rw [this];rfl
  unfold lasR
  change (bfsL rows ini).length≤rows.length at hQl
  change InN rows.length (bfsL rows ini) at hQi
  generalize lasL rows ini G=L at *
  generalize cycB rows=C at *
  generalize bfsL rows ini=Q at *
  refine z10 z19 Tryz.func55 rfl rfl 45 Tryz.ntmps55 (by simp) ?_
  repeat' ((first|(apply y4 ok;rfl)|((first|(apply z11 [] [0] cC;rfl;rfl)|(apply z11 [] [1] cO;rfl;rfl));rfl;(focus ((repeat' first|exact z17|apply z14)<;>(refine z23 ?_;((exact z7 fun _=>rfl)))))))<;>conv=>whnf)
  refine z92 (fun i:Nat=>([(0,lst 1 encL rows),(1,ints ini),(2,.fn (.func f) [] [.pt c1,.pt c2]),(9,.sref 0 0 rows.length),(17,.sref 1 0 Q.length),(18,.int Q.length),(19,.int i)],[.cells 1 (C.map enB),.cells 1 (Q.map enI)])) (fun i=>i≤Q.length∧∀ j,j < i→(G (Q.getD j 0) && cycD rows (Q.getD j 0).toNat)=false) (fun i=>Q.length - i) 0 ⟨y49 _,fun j hj=>by omega⟩ (by refine swR [0,1] [] rfl rfl ?_;(repeat' first|exact y82 _|exact z18 _|refine z16 rfl (z7 (fun _=>rfl)) ?_|constructor)) ?_
  rintro i ⟨hi1,hno⟩
  by_cases hi2:i < Q.length
  · have hm:=z393 hi2
    have hx:=hQi _ hm
    have gx:(Q.map enI)[i]?=some (enI (Q.getD i 0)):=by rw [y47,y41 hi2,z13 hi2];rfl
    have cf:=hf _ hx.1 hx.2
    have hsome:=fun h=>hrR i hi2 h hno
    have hnxt:(G (Q.getD i 0) && cycD rows (Q.getD i 0).toNat)=false→∀ j,j < i+1→(G (Q.getD j 0) && cycD rows (Q.getD j 0).toNat)=false:=fun h j hj=>by
      by_cases e:j=i
      · subst e;exact h
      · exact hno j (by omega)
    have hsh:=hto _ hm
    have csh:=z632 rows ini hr hi hn hN hrl (fun n=>decide (n=Q.getD i 0)) 112 [.int (Q.getD i 0)] (fun x _ _=>z1118 (Q.getD i 0) x)
    have car:=z1019 rows (Q.getD i 0) hr hx hN hrl
    rw [hsh] at csh
    rw [aroL_eq] at car
    have hb1:=z678 (srP rows ini) rows.length (Q.getD i 0) []
    have hb2:=z679 (srP rows ini) rows.length (Q.getD i 0) []
    have hc2:=z933 rows (Q.getD i 0)
    have gc:=hcg (Q.getD i 0).toNat (by omega)
    rw [y55] at hb2
    clear hsh hrR hrN hto hcg hm hno
    generalize bkw (srP rows ini) rows.length (Q.getD i 0) []=B at *
    generalize cycL rows (Q.getD i 0)=Y at *
    generalize Q.getD i 0=x at *
    obtain ⟨u,rfl⟩:∃ u:Nat,x=u:=⟨x.toNat,by omega⟩
    rw [y73] at *
    by_cases hg:(G (u:Int) && cycD rows u)=true
    · have hL:=hsome hg
      obtain ⟨hg1,hg2⟩:=Bool.and_eq_true_iff.1 hg
      rw [hg1] at cf
      rw [hg2] at gc
      subst hL
      repeat' ((first|(apply y4 ok;rfl)|(apply z37;kernel_rfl)|(refine z21 (i:=i) rfl gx ?_)|(refine z21 (i:=u) rfl gc ?_)|(apply y39;first|omega|(unfold inI;omega))|((apply z8)<;>intro _)|(apply z6 (cf);rfl;rfl)|((first|(apply z112 [] [2] [3] csh;(focus ((repeat' first|exact z84|apply z55)<;>rfl));rfl)|(apply z112 [] [] [4] car;rfl;rfl));rfl;(focus ((repeat' first|exact z17|apply z14)<;>(refine z23 ?_;((exact z7 fun _=>rfl)))));(first|exact .inl rfl|(refine .inr ⟨rfl,?_⟩;repeat' first|exact True.intro|apply y39|exact z121 (fun _=>rfl) _))))<;>conv=>whnf)
      all_goals try (exfalso;omega)
      all_goals
        show RetS _ _ (.tup [.sref 0 0 (B.take (B.length - 1)).length,.sref 1 0 Y.length,.bool true]) [.cells 1 ((B.take (B.length - 1)).map enI),.cells 1 (Y.map enI)] _
        refine Gl.RetS.trunc 3 (B.length - 1) rfl ?_
        conv=>whnf
        (refine rsD [3,4] [] rfl ?_;(repeat' first|exact y82 _|exact z18 _|(refine z72 ?_;((simp;done)))|((refine z16 rfl ?_ ?_);(focus ((repeat' (first|exact z7 (fun _=>rfl)|apply z33));done)))|apply z113|constructor))
      all_goals (refine z68 ?_;rw [List.map_take])
    · have hg:=(y68 _).mp hg
      have hn2:=hnxt hg
      cases hG:G (u:Int)
      · rw [hG] at cf
        repeat' ((first|(apply y4 ok;rfl)|(refine z21 (i:=i) rfl gx ?_)|(apply y39;first|omega|(unfold inI;omega))|((apply z8)<;>intro _)|(apply z6 (cf);rfl;rfl))<;>conv=>whnf)
        all_goals try (exfalso;omega)
        all_goals refine z44 (i+1) ⟨hi2,hn2⟩ (by omega) (by refine swR [0,1] [] rfl rfl ?_;(repeat' first|exact y82 _|exact z18 _|refine z16 rfl (z7 (fun _=>rfl)) ?_|constructor))
      · rw [hG] at cf
        rw [hG,Bool.true_and] at hg
        rw [hg] at gc
        repeat' ((first|(apply y4 ok;rfl)|(refine z21 (i:=i) rfl gx ?_)|(refine z21 (i:=u) rfl gc ?_)|(apply y39;first|omega|(unfold inI;omega))|((apply z8)<;>intro _)|(apply z6 (cf);rfl;rfl))<;>conv=>whnf)
        all_goals try (exfalso;omega)
        all_goals refine z44 (i+1) ⟨hi2,hn2⟩ (by omega) (by refine swR [0,1] [] rfl rfl ?_;(repeat' first|exact y82 _|exact z18 _|refine z16 rfl (z7 (fun _=>rfl)) ?_|constructor))
  · have hL:=hrN fun j hj=>hno j (by omega)
    subst hL
    repeat' ((first|(apply y4 ok;rfl)|(apply y39;omega)|(((apply z15;omega));intro _)|((apply z8)<;>intro _))<;>conv=>whnf)
    all_goals try (exfalso;omega)
    all_goals show RetS _ _ (.tup [.sref 0 0 0,.sref 1 0 0,.bool false]) [.cells 1 [],.cells 1 []] _
    all_goals (refine y85 1 ?_;refine y85 1 ?_;refine rsD [2,3] [] rfl ?_;(repeat' first|exact y82 _|exact z57|refine z16 rfl (z36) ?_|apply z113|constructor))
end Go.Proofs.YteinbnahinpegaaGreat
namespace Go.Proofs.YteinbnahinpegaaGreat
open Go.Gl
attribute [local irreducible] z20 AWP z30 z35 z34
structure Trace where
 stem:List Int
 loop:List Int
deriving DecidableEq
def Trace.cs (t:Trace):List AC:=[ints t.stem,ints t.loop]
def Trace.all (t:Trace):List Int:=t.stem++t.loop
end Go.Proofs.YteinbnahinpegaaGreat
namespace Go.Proofs.YteinbnahinpegaaGreat
open Go.Gl
attribute [local irreducible] z20 AWP z30 z35 z34 RetS z42
def Aut.sm (a:Aut):Prop:=a.ini.length≤40∧a.acc.length≤20∧a.ed.length≤2100∧∀ t∈a.ed,t.mx
theorem IniP.nd {l:List Int} {n:Int} (h:IniP l n l.length):l.Nodup:=by
 have hs:∀ d i (hi:i+d+1 < l.length),l[i] < l[i+d+1]:=by
  intro d
  induction d with
  |zero=>intro i hi;exact (h (i+1) hi hi).2 i rfl
  |succ d ih =>
   intro i hi
   have h1:=ih i (by omega)
   have h2:=(h (i+(d+1)+1) hi hi).2 (i+d+1) (by omega)
   omega
 rw [List.nodup_iff_pairwise_ne,List.pairwise_iff_getElem]
 intro i j hi hj hij
 have:=hs (j - i - 1) i (by omega)
 have e:i+(j - i - 1)+1=j:=by omega
 simp only [e] at this
 omega
noncomputable def trcO (g:Graph) (ls:List Int) (a:Aut):Option (List Int×List Int):=(finS (z58 g ls a) a.ini a.acc).map fun x=>(stL (x.1.take (x.1.length - 1)) a.acc.length,stL x.2 a.acc.length)
end Go.Proofs.YteinbnahinpegaaGreat
namespace Go.Proofs.YteinbnahinpegaaGreat
open Go.Gl
attribute [local irreducible] z20 AWP z30 z35 z34
section
open Go.ChangeShapes Go.WideShapes Go.ChangeAt Go.RowKit
theorem and_mk {a b:Bool} (h:a=true) (k:b=true):(a && b)=true:=by rw [h,k];rfl
theorem own:ownKnob Tryz.prog.godebug=none:=by kernel_rfl
theorem z982:laidOutB Tryz.prog=true:=by kernel_rfl
end
end Go.Proofs.YteinbnahinpegaaGreat
namespace Go.Proofs.YteinbnahinpegaaGreat
open Go.Gl
attribute [local irreducible] z20 AWP z30 z35 z34
theorem z1186:ArgD Tryz.prog 22 (lst 1 enU) CodeOk :=
 (z1181 (enc1:=lst 1 enU) Tryz.underlying22 (od_list 1 (encL:=fun l=>[lst 1 enU l]) Tryz.underlying22 (by kernel_rfl) (by decide) (od_byte (enc:=enU) Tryz.underlying5 (fun _=>rfl)) (fun _=>rfl)) (fun _=>rfl)).imp fun l h=>⟨l,rfl,h.1,fun x hx=>by
  have:=h.2 x hx
  have h1:IntKind.min .u8=0:=by decide
  have h2:IntKind.max .u8=255:=by decide
  simpa [Lit.wf,h1,h2] using this⟩
end Go.Proofs.YteinbnahinpegaaGreat
namespace Go.Proofs.YteinbnahinpegaaGreat
open Go.Gl
attribute [local irreducible] z20 AWP z30 z35 z34 RetS z42
theorem z668 (a:Aut) (hA:AutP a) (x:Int) (h0:0≤x):CallsA Tryz.prog 56 [.int x,.pt a.cs,.pt [.int a.acc.length]] [] (.bool (a.acc.getD (x % a.acc.length).toNat false)) []:=by
 have hac:=hA.1
 have hm0:0≤x % (a.acc.length:Int):=Int.emod_nonneg _ (by omega)
 have hm1:x % (a.acc.length:Int) < a.acc.length:=Int.emod_lt_of_pos _ (by omega)
 have hga:(a.acc.map enB)[(x % (a.acc.length:Int)).toNat]?=some (enB (a.acc.getD (x % (a.acc.length:Int)).toNat false)):=by
  rw [y47,y41 (by omega),z13 (by omega)];rfl
 refine z10 z19 Tryz.func56 rfl rfl 12 Tryz.ntmps56 (by simp) ?_
 repeat' ((first|(apply y4 ok;rfl)|(apply z37;kernel_rfl)|(refine z21 (i:=(x % (a.acc.length:Int)).toNat) rfl hga ?_)|(apply y39;omega))<;>conv=>whnf)
 all_goals (refine rsD [] [] rfl ?_;(repeat' first|exact y82 _|constructor))
set_option maxHeartbeats 1600000 in
theorem z332 (l:List Int) (n:Nat) (hl:l.length≤1000000) (hn:1≤n) (h0:∀ x∈l,0≤x) (h1:∀ x∈l,x≤1000000000):CallsA Tryz.prog 57 [ints l,.pt [.int n]] [] (.sref 0 0 l.length) [.cells 1 ((stL l n).map enI)]:=by
 refine z10 z19 Tryz.func57 rfl rfl 25 Tryz.ntmps57 (by simp) ?_
 repeat' ((first|(apply y4 ok;rfl)|(apply y39;(dsimp only;omega)))<;>conv=>whnf)
 obtain ⟨qm,hqm⟩:∃ qm:Nat→Nat→Int,qm=fun i j=>if j < i then l.getD j 0 / n else 0:=⟨_,rfl⟩
 have q0:qm 0=fun _=>0:=by rw [hqm];rfl
 have qE:fnL l.length (qm l.length)=stL l n:=by
  apply y71 (by simp [fnL,stL])
  intro i h1 h2
  have hi' : i < l.length:=by rw [z135] at h1;exact h1
  rw [z849,hqm]
  dsimp only
  rw [if_pos hi',z13 hi'];simp [stL]
 have qS:∀ i (h:i < l.length),qm (i+1)=upd (qm i) i (l[i] / n):=fun i h=>by
  funext j
  by_cases h2:j=i
  ·subst h2;rw [z31,hqm];dsimp only;rw [if_pos (by omega),z13 h]
  ·rw [z56 _ _ h2,hqm];dsimp only;split<;>split<;>first|rfl|omega
 clear hqm
 refine z92 (fun i:Nat=>([(1,.pt [.int n]),(4,.sref 0 0 l.length),(10,ints l),(11,.int l.length),(12,.int i)],[.cells 1 ((fnL l.length (qm i)).map enI)])) (fun i=>i≤l.length) (fun i=>l.length - i) 0 (y49 _) (by refine swR [0] [] rfl rfl ?_;(repeat' first|exact y82 _|refine z16 rfl (z75 rfl) ?_|constructor)<;>((refine z68 ?_;rw [q0];exact z395 _))) ?_
 intro i hi
 by_cases hi2:i < l.length
 ·have g1:=z185 (qm i) hi2
  have l1:=z135 l.length (qm i)
  have e1:=z170 (N:=l.length) (u:=i) (qm i) (l[i] / n)
  rw [← qS i hi2] at e1
  have gk:(l.map enI)[i]?=some (enI l[i]):=by rw [y47,y41 hi2];rfl
  have b0:=h0 _ (y40 hi2)
  have b1:=h1 _ (y40 hi2)
  generalize l[i]=v at *
  have d0:0≤v / (n:Int):=Int.ediv_nonneg b0 (by omega)
  have d1:v / (n:Int)≤v:=Int.ediv_le_self _ b0
  repeat' ((first|(apply y4 ok;rfl)|(refine z21 (i:=i) rfl gk ?_)|(refine z21 (i:=i) rfl g1 ?_)|(apply y39;first|omega|(unfold inI;omega))|((apply z8)<;>intro _))<;>conv=>whnf)
  all_goals try (exfalso;omega)
  all_goals refine z44 (i+1) hi2 (by omega) (by refine swR [0] [] rfl rfl ?_;(repeat' first|exact y82 _|refine z80 rfl (z7 (fun _=>rfl)) ?_|constructor)<;>((refine z68 ?_;exact e1)))
 obtain rfl:i=l.length:=by omega
 rw [qE]
 repeat' ((first|(apply y4 ok;rfl)|(apply y39;omega)|((first|(with_reducible apply z15;omega)|(apply z15;omega));intro _)|((apply z8)<;>intro _))<;>conv=>whnf)
 all_goals try (exfalso;omega)
 all_goals (refine rsD [0] [] rfl ?_;(repeat' first|exact y82 _|exact z18 _|refine z16 rfl (z7 (fun _=>rfl)) ?_|constructor))
noncomputable def ftO (g:Graph) (l:List Tree) (a:Aut):Option (List Int×List Int):=if (glB g l && autB a)=true then trcO g (g.st.map (z49 l)) a else none
noncomputable def ftL (g:Graph) (l:List Tree) (a:Aut):Trace:=let t:=(ftO g l a).getD ([],[]);⟨t.1,t.2⟩
set_option maxHeartbeats 6400000 in
theorem z423 (g:Graph) (hg:g.mx) (l:List Tree) (hl:Lmx l) (a:Aut) (ha:a.mx):CallsA Tryz.prog 15 [.agg g.cs,lst 3 Tree.cs' l,.agg a.cs] [] (.tup [.agg [.sref 0 0 (ftL g l a).stem.length,.sref 1 0 (ftL g l a).loop.length],.bool (ftO g l a).isSome]) [.cells 1 ((ftL g l a).stem.map enI),.cells 1 ((ftL g l a).loop.map enI)]:=by
 have k0:=z1009 g hg l hl a ha
 by_cases hgl:(glB g l && autB a)=true
 ·rw [hgl] at k0
  obtain ⟨h1,hab⟩:=Bool.and_eq_true_iff.1 hgl
  have hG:=(z103 g).1 (by unfold glB at h1;exact (Bool.and_eq_true_iff.1 h1).1)
  have hL:=y8 (by unfold glB at h1;exact (Bool.and_eq_true_iff.1 h1).2)
  have hA:=z272.1 hab
  have k1:=z970 g hG l hL a hA
  obtain ⟨f1,f2,f3,f4,f5⟩:=z581 hG hA (g.st.map (z49 l))
  have hnd:=hA.2.2.1.nd
  have hac:=hA.1
  have k2:=z1117 (z58 g (g.st.map (z49 l)) a) a.ini f1 f2 hnd (by omega) f4 (fun v=>a.acc.getD (v % a.acc.length).toNat false) 56 a.cs [.int a.acc.length] (fun x h0 _=>z668 a hA x h0)
  unfold ftL ftO
  rw [if_pos hgl]
  unfold lasR at k2
  unfold trcO
  rw [z471 f1 f2 hnd] at k2
  have hlen:(z58 g (g.st.map (z49 l)) a).length=g.st.length * a.acc.length:=by unfold z58;rw [z125,Nat.mul_comm]
  have hF:∀ p q,finS (z58 g (g.st.map (z49 l)) a) a.ini a.acc=some (p,q)→(∀ x∈p,0≤x∧x≤100000)∧(∀ x∈q,0≤x∧x≤100000)∧p.length≤100000∧q.length≤100000:=by
   intro p q h
   rw [← z471 f1 f2 hnd] at h
   obtain ⟨b1,b2,b3,b4,_⟩:=lasL_bd f1 f2 hnd h
   exact ⟨fun x hx=>by have:=b1 x hx;omega,fun x hx=>by have:=b2 x hx;omega,by omega,by omega⟩
  generalize z58 g (g.st.map (z49 l)) a=rows at *
  cases hfin:finS rows a.ini a.acc with
  |none =>
   rw [hfin] at k2
   change CallsA _ _ _ _ (.tup [.sref 0 0 0,.sref 1 0 0,.bool false]) [.cells 1 [],.cells 1 []] at k2
   show CallsA _ _ _ _ (.tup [.agg [.sref 0 0 0,.sref 1 0 0],.bool false]) [.cells 1 [],.cells 1 []]
   refine z10 z19 Tryz.func15 rfl rfl 50 Tryz.ntmps15 (by simp) ?_
   repeat' ((first|(apply y4 ok;rfl)|(apply z6 (k0);rfl;rfl)|(apply z6 (k1);rfl;rfl)|(apply z112 [] [1,3] [4,5] k2;(focus ((repeat' first|exact z84|apply z55)<;>rfl));rfl;rfl;(focus ((repeat' first|exact z17|apply z14)<;>(refine z23 ?_;(exact z36))));((refine .inr ⟨rfl,?_⟩;repeat' first|exact True.intro|apply y39|exact rfl))))<;>conv=>whnf)
   all_goals (refine y85 1 ?_;refine y85 1 ?_;refine rsD [6,7] [] rfl ?_;(repeat' first|exact y82 _|exact z57|refine z16 rfl (z36) ?_|apply z60|apply z113|constructor))
  |some pq =>
   obtain ⟨p,q⟩:=pq
   rw [hfin] at k2
   obtain ⟨b1,b2,b3,b4⟩:=hF p q hfin
   change CallsA _ _ _ _ (.tup [.sref 0 0 (p.take (p.length - 1)).length,.sref 1 0 q.length,.bool true]) [.cells 1 ((p.take (p.length - 1)).map enI),.cells 1 (q.map enI)] at k2
   have s1:=z332 (p.take (p.length - 1)) a.acc.length (by rw [y44];omega) (by omega) (fun x hx=>(b1 x (List.mem_of_mem_take hx)).1) (fun x hx=>by have:=(b1 x (List.mem_of_mem_take hx)).2;omega)
   have s2:=z332 q a.acc.length (by omega) (by omega) (fun x hx=>(b2 x hx).1) (fun x hx=>by have:=(b2 x hx).2;omega)
   have e1:(stL (p.take (p.length - 1)) a.acc.length).length=(p.take (p.length - 1)).length:=by simp [stL]
   have e2:(stL q a.acc.length).length=q.length:=by simp [stL]
   show CallsA _ _ _ _ (.tup [.agg [.sref 0 0 (stL (p.take (p.length - 1)) a.acc.length).length,.sref 1 0 (stL q a.acc.length).length],.bool true]) [.cells 1 ((stL (p.take (p.length - 1)) a.acc.length).map enI),.cells 1 ((stL q a.acc.length).map enI)]
   rw [e1,e2]
   generalize stL (p.take (p.length - 1)) a.acc.length=S1 at *
   generalize stL q a.acc.length=S2 at *
   generalize p.take (p.length - 1)=p' at *
   refine z10 z19 Tryz.func15 rfl rfl 50 Tryz.ntmps15 (by simp) ?_
   repeat' ((first|(apply y4 ok;rfl)|(apply z6 (k0);rfl;rfl)|(apply z6 (k1);rfl;rfl)|((first|(apply z112 [] [1,3] [4,5] k2;(focus ((repeat' first|exact z84|apply z55)<;>rfl));rfl)|(apply z112 [] [3,4] [6] s1;(focus ((repeat' first|exact z84|apply z55)<;>first|exact z171 rfl rfl rfl|rfl));rfl)|(apply z112 [] [3,5] [7] s2;(focus ((repeat' first|exact z84|apply z55)<;>first|exact z171 rfl rfl rfl|rfl));rfl));rfl;(focus ((repeat' first|exact z17|apply z14)<;>(refine z23 ?_;((exact z7 fun _=>rfl)))));((refine .inr ⟨rfl,?_⟩;repeat' first|exact True.intro|apply y39|exact z121 (fun _=>rfl) _))))<;>conv=>whnf)
   all_goals (refine rsD [6,7] [] rfl ?_;(repeat' first|exact y82 _|exact z18 _|refine z16 rfl (z7 (fun _=>rfl)) ?_|constructor))
 ·have hgl:=(y68 _).mp hgl
  rw [hgl] at k0
  have e1:ftO g l a=none:=by unfold ftO;rw [hgl];rfl
  unfold ftL
  rw [e1]
  show CallsA _ _ _ _ (.tup [.agg [.sref 0 0 0,.sref 1 0 0],.bool false]) [.cells 1 [],.cells 1 []]
  refine z10 z19 Tryz.func15 rfl rfl 50 Tryz.ntmps15 (by simp) ?_
  repeat' ((first|(apply y4 ok;rfl)|(apply z6 (k0);rfl;rfl))<;>conv=>whnf)
  all_goals (refine y85 1 ?_;refine y85 1 ?_;refine rsD [3,4] [] rfl ?_;(repeat' first|exact y82 _|exact z57|refine z16 rfl (z36) ?_|apply z60|apply z113|constructor))
end Go.Proofs.YteinbnahinpegaaGreat
