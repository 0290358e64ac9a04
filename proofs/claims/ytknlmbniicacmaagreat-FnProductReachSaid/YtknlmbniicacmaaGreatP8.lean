/- A part of the proofs over this program: T159, T160, T94W, T29, T94K, T161, T186, T162, T163, T164, T170, T201, T29A, T29C, T202, T166, T204, T207, T190. -/
import Derived.Test.YtknlmbniicacmaaGreatG0
import Derived.Test.YtknlmbniicacmaaGreatG1
import Derived.Test.YtknlmbniicacmaaGreatG2
import Derived.Test.YtknlmbniicacmaaGreatG3
import Derived.Test.YtknlmbniicacmaaGreatP0
import Derived.Test.YtknlmbniicacmaaGreatP1
import Derived.Test.YtknlmbniicacmaaGreatP2
import Derived.Test.YtknlmbniicacmaaGreatP3
import Derived.Test.YtknlmbniicacmaaGreatP4
import Derived.Test.YtknlmbniicacmaaGreatP5
import Derived.Test.YtknlmbniicacmaaGreatP6
import Derived.Test.YtknlmbniicacmaaGreatP7
import Derived.Test.YtknlmbniicacmaaGreatRows
import Derived.WalkKit
import Derived.ProofKit
import Derived.Deep.DeepHandedRow
import Derived.Lib.LaidTab
set_option linter.all false
namespace Go.Proofs.YtknlmbniicacmaaGreat
open Go.Gl
attribute [local irreducible] z31 AWP z48 z52 z50 RetS z57
theorem IniP.nd {l:List Int} {n:Int} (h:IniP l n l.length):l.Nodup:=by
  have hs:∀ d i (hi:i+d+1 < l.length),l[i] < l[i+d+1]:=by
    intro d
    induction d with
    | zero=>intro i hi;exact (h (i+1) hi hi).2 i rfl
    | succ d ih =>
      intro i hi
      have h1:=ih i (by omega)
      have h2:=(h (i+(d+1)+1) hi hi).2 (i+d+1) (by omega)
      omega
  rw [List.nodup_iff_pairwise_ne,List.pairwise_iff_getElem]
  intro i j hi hj hij
  have:=hs (j - i - 1) i (by omega)
  have e:i+(j - i - 1)+1=j:=by omega
  simp only [e] at this
  omega
noncomputable def trcO (g:Graph) (ls:List Int) (a:Aut):Option (List Int×List Int):=(finS (z26 g ls a) a.ini a.acc).map fun x=>(stL (x.1.take (x.1.length - 1)) a.acc.length,stL x.2 a.acc.length)
noncomputable def trcL (g:Graph) (ls:List Int) (a:Aut):List Int×List Int:=(trcO g ls a).getD ([],[])
set_option maxHeartbeats 6400000 in
theorem z1021 (g:Graph) (hG:GB g) (ls:List Int) (hls:ls.length=g.st.length) (hlr:∀ x∈ls,0≤x∧x≤7) (a:Aut) (hA:AutP a):CallsA Tryz.prog 118 [.agg g.cs,ints ls,.agg a.cs] [] (.tup [.agg [ints (trcL g ls a).1,ints (trcL g ls a).2],.bool (trcO g ls a).isSome]) []:=by
  have k2:=z264 g hG ls hls hlr a hA
  obtain ⟨f1,f2,f3,f4,f5⟩:=z111 hG hA ls
  have hlen:(z26 g ls a).length=g.st.length * a.acc.length:=by unfold z26;rw [z83,Nat.mul_comm]
  have hnd:=hA.2.2.1.nd
  have hac:=hA.1
  unfold trcL trcO finS
  generalize z26 g ls a=rows at *
  have k3:=z781 rows a.ini f1 f2 hnd (by omega) f4
  have hQ:=z662 f1 f2 hnd
  have hB:=z828 f1 f2 hnd
  have hPl:=z969 f1 f2 hnd
  have hQl:=z753 f1 f2 hnd
  have hPle:=z965 f1 f2 hnd rows.length
  have k4:=fun v hv=>z902 rows v f1 hv (by omega) f4
  have k5:=fun k hk=>z691 (srP rows a.ini) (by omega) rows.length _ (hB k hk) (by omega)
  have n4:=fun v hv=>z1059 f1 (v:=v) hv
  have m4:=fun v hv=>z1060 f1 (v:=v) hv
  change ∀ y∈srP rows a.ini,y≤(rows.length:Int) at hPle
  generalize srQ rows a.ini=Q at *
  generalize srP rows a.ini=P at *
  generalize hR:finT rows a.acc P Q=R
  refine z10 z18 Tryz.func118 rfl rfl 72 Tryz.ntmps118 (by simp) ?_
  repeat' ((first|(apply AWP.go ok;rfl)|(apply z9 (k2);rfl;rfl)|(apply z9 (k3);rfl;rfl))<;>conv=>whnf)
  all_goals skip
  refine z64 (fun i:Nat=>([(5,.ptr 0 none 0),(6,.ptr 1 none 0),(8,.int a.acc.length),(9,lst 1 encL rows),(10,ints P),(11,ints Q),(12,.int i)],[.cells 3 [a.cs],.cells 2 [[.nils,.nils]]])) (fun i=>i≤Q.length∧finT rows a.acc P (Q.drop i)=R) (fun i=>Q.length - i) 0 ⟨Nat.zero_le _,hR⟩ (by refine SealW.reach [1,2] [] rfl rfl rfl rfl ?_ ?_<;>(repeat' (first|exact LocLe.refl _|exact F2.nil|apply F2.cons|apply ObjLe.box|exact True.intro|apply And.intro))) ?_
  rintro i ⟨hi1,hi2⟩
  by_cases hi3:i < Q.length
  · have hq:=hQ _ (List.getElem_mem hi3)
    have c5:=k5 i hi3
    rw [List.drop_eq_getElem_cons hi3,finT] at hi2
    have hgi:(Q.map enI)[i]?=some (enI Q[i]):=by rw [List.getElem?_map,List.getElem?_eq_getElem hi3];rfl
    generalize Q[i]=u at *
    have hm0:0≤u % (a.acc.length:Int):=Int.emod_nonneg _ (by omega)
    have hm1:u % (a.acc.length:Int) < a.acc.length:=Int.emod_lt_of_pos _ (by omega)
    have hga:(a.acc.map enB)[(u % (a.acc.length:Int)).toNat]?=some (enB (a.acc.getD (u % (a.acc.length:Int)).toNat false)):=by
      rw [List.getElem?_map,List.getElem?_eq_getElem (by omega),z19 (by omega)];rfl
    have c4:=k4 u hq
    have l4:=z626 rows u
    have b1:=z507 P rows.length u []
    simp only [List.length_nil,Nat.add_zero] at b1
    have b2:=z506 P rows.length u []
    have b3:=z863 (P:=P) rows.length u [] hq.1 (fun x hx=>by cases hx)
    have b4:=z864 hPle rows.length u [] (by omega) (by omega) (fun x hx=>by cases hx)
    have n5:=n4 u hq
    have m5:=m4 u hq
    generalize bkw P rows.length u []=b at *
    generalize cycL rows u=c at *
    have c6:=z485 (b.take (b.length - 1)) a.acc.length (by rw [List.length_take];omega) (by omega) (fun x hx=>b3 x (List.mem_of_mem_take hx)) (fun x hx=>by have:=b4 x (List.mem_of_mem_take hx);omega)
    rw [show (b.take (b.length - 1)).length=b.length - 1 by rw [List.length_take];omega] at c6
    have eL:AC.list 1 (((b.length:Int) - 1).toNat - Int.toNat 0) (List.take (((b.length:Int) - 1).toNat - Int.toNat 0) (List.drop (Int.toNat 0) (List.map enI b)))=ints (b.take (b.length - 1)):=by
      rw [show ((b.length:Int) - 1).toNat - Int.toNat 0=b.length - 1 by rw [show Int.toNat 0=0 from rfl];omega]
      show _=AC.list 1 (b.take (b.length - 1)).length ((b.take (b.length - 1)).map enI)
      rw [show (b.take (b.length - 1)).length=b.length - 1 by rw [List.length_take];omega,List.map_take];rfl
    rw [← eL] at c6
    have hs1:(stL (b.take (b.length - 1)) a.acc.length).length=b.length - 1:=by rw [stL,List.length_map,List.length_take];omega
    have hs2:(stL c a.acc.length).length=c.length:=by rw [stL,List.length_map]
    have c7:=z485 c a.acc.length (by omega) (by omega) n5 (fun x hx=>by have:=m5 x hx;omega)
    generalize a.acc.getD (u % (a.acc.length:Int)).toNat false=z at *
    cases z
    · rw [if_neg (by simp)] at hi2
      repeat' ((first|(apply AWP.go ok;rfl)|(apply z34;kernel_rfl)|(refine z16 (i:=i) (by simp) hgi ?_)|(refine z16 (i:=(u % (a.acc.length:Int)).toNat) (by simp) hga ?_)|(apply And.intro;first|omega|(unfold inI;omega))|((apply z7)<;>intro _))<;>conv=>whnf)
      all_goals first|(exfalso;omega)|skip
      all_goals refine z23 (i+1) ⟨hi3,hi2⟩ (by omega) (by refine SealW.reach [0,1] [] rfl rfl rfl rfl ?_ ?_<;>(repeat' (first|exact LocLe.refl _|exact F2.nil|apply F2.cons|apply ObjLe.box|exact True.intro|apply And.intro)))
    · rw [if_pos rfl] at hi2
      by_cases hc:0 < c.length
      · rw [if_pos hc] at hi2
        subst hi2
        repeat' ((first|(apply AWP.go ok;rfl)|(apply z34;kernel_rfl)|(refine z16 (i:=i) (by simp) hgi ?_)|(refine z16 (i:=(u % (a.acc.length:Int)).toNat) (by simp) hga ?_)|(apply And.intro;first|omega|(unfold inI;omega))|((apply z7)<;>intro _)|(apply z9 (c4);rfl;rfl)|(apply z9 (c5);rfl;rfl)|((first|(apply z8 [] [] [2] (c6);rfl;(focus ((repeat' exact z4)<;>fail)))|(apply z8 [] [] [3] (c7);rfl;(focus ((repeat' exact z4)<;>fail))));rfl;rfl;rfl;rfl;rfl;(focus ((repeat' first|exact z15|apply z14)<;>(refine z25 ?_;((exact z6 fun _=>rfl)))));(exact .inl rfl)))<;>conv=>whnf)
        all_goals first|(exfalso;omega)|skip
        all_goals (refine RetS.lay [] [2,3] rfl rfl rfl ?_;refine RetS.done ?_ ?_<;>(repeat' (first|exact LocLe.refl _|exact F2.nil|apply F2.cons|(refine z262 ?_;omega)|((apply z45 rfl rfl rfl);(focus ((repeat ((exact z41 (fun _=>rfl) _)));done));(focus (((simp;omega));done)))|apply z44|apply z95)))
      · rw [if_neg hc] at hi2
        repeat' ((first|(apply AWP.go ok;rfl)|(apply z34;kernel_rfl)|(refine z16 (i:=i) (by simp) hgi ?_)|(refine z16 (i:=(u % (a.acc.length:Int)).toNat) (by simp) hga ?_)|(apply And.intro;first|omega|(unfold inI;omega))|((apply z7)<;>intro _)|(apply z9 (c4);rfl;rfl)|(apply z9 (c5);rfl;rfl))<;>conv=>whnf)
        all_goals first|(exfalso;omega)|skip
        all_goals refine z23 (i+1) ⟨hi3,hi2⟩ (by omega) (by refine SealW.reach [0,1] [] rfl rfl rfl rfl ?_ ?_<;>(repeat' (first|exact LocLe.refl _|exact F2.nil|apply F2.cons|apply ObjLe.box|exact True.intro|apply And.intro)))
  · have e:Q.length=i:=by omega
    subst e
    rw [List.drop_length,finT] at hi2
    subst hi2
    repeat' ((first|(apply AWP.go ok;rfl)|(apply z34;kernel_rfl)|(apply And.intro;omega)|((first|(with_reducible apply z11;omega)|(with_reducible apply z69;omega));intro _)|((first|apply z7|apply z92)<;>intro _))<;>conv=>whnf)
    all_goals first|(exfalso;omega)|skip
    all_goals (refine RetS.lay [] [] rfl rfl rfl ?_;refine RetS.done ?_ ?_<;>(repeat' (first|exact LocLe.refl _|exact z53|exact F2.nil|apply F2.cons|apply z44|apply z95)))
end Go.Proofs.YtknlmbniicacmaaGreat

namespace Go.Proofs.YtknlmbniicacmaaGreat
open Go.Gl
attribute [local irreducible] z31 AWP z48 z52 z50 RetS z57
set_option maxHeartbeats 3200000 in
theorem z1020 (R row:List Int) (z:Bool) {M:Int} (hB:Bd M R) (hM:0≤M) (hM2:M≤1000000000) (hr:InN R.length row) (hRl:R.length≤100000) (hrl:row.length≤1000000000):CallsA Tryz.prog 200 [ints row,ints R,.bool z] [] (.int (rkOf R z row)) []:=by
  refine z10 z18 Tryz.func200 rfl rfl 31 Tryz.ntmps200 (by simp) ?_
  repeat' (((apply AWP.go ok;rfl))<;>conv=>whnf)
  refine z64 (fun i:Nat=>([(0,ints row),(1,ints R),(2,.bool z),(7,.int ((row.take i).foldl (z212 R z) 0)),(8,.int i)],[])) (fun i=>i≤row.length) (fun i=>row.length - i) 0 (Nat.zero_le _) (by refine SealW.reach [] [] rfl rfl rfl rfl ?_ ?_<;>(repeat' (first|exact LocLe.refl _|exact F2.nil|exact True.intro|apply And.intro))) ?_
  intro i hi
  by_cases hi2:i < row.length
  · have hx:=hr _ (List.getElem_mem hi2)
    have hb:=hB.getD hM row[i].toNat
    have ho:=z469 hB hM (z:=z) (row.take i) 0 ⟨by omega,by omega⟩
    have hs:(row.take (i+1)).foldl (z212 R z) 0=z212 R z ((row.take i).foldl (z212 R z) 0) row[i]:=by rw [List.take_succ_eq_append_getElem hi2,List.foldl_append];rfl
    have hg:(row.map enI)[i]?=some (enI row[i]):=by rw [List.getElem?_map,List.getElem?_eq_getElem hi2];rfl
    have hg2:(R.map enI)[row[i].toNat]?=some (enI (R.getD row[i].toNat 0)):=by rw [List.getElem?_map,List.getElem?_eq_getElem (by omega),z19 (by omega)];rfl
    generalize (row.take i).foldl (z212 R z) 0=o at *
    generalize row[i]=v at *
    rw [show z212 R z o v=(if o < R.getD v.toNat 0+(if z=true then 1 else 0) then R.getD v.toNat 0+(if z=true then 1 else 0) else o) from rfl] at hs
    generalize R.getD v.toNat 0=r at *
    cases z
    · simp only [if_neg (show ¬ false=true by simp),Int.add_zero] at hs
      by_cases hlt:o < r
      · rw [if_pos hlt] at hs
        repeat' ((first|(apply AWP.go ok;rfl)|(refine z16 (i:=i) (by simp) hg ?_)|(refine z16 (i:=v.toNat) (by simp) hg2 ?_)|(apply And.intro;first|omega|(unfold inI;omega))|((apply z7)<;>intro _))<;>conv=>whnf)
        all_goals first|(exfalso;omega)|skip
        all_goals refine z23 (i+1) hi2 (by omega) (by refine SealW.reach [] [] rfl rfl rfl rfl ?_ ?_<;>(repeat' (first|exact LocLe.refl _|exact F2.nil|(refine z96 ?_;omega)|exact True.intro|apply And.intro))<;>((rw [hs];exact LocLe.refl _)))
      · rw [if_neg hlt] at hs
        repeat' ((first|(apply AWP.go ok;rfl)|(refine z16 (i:=i) (by simp) hg ?_)|(refine z16 (i:=v.toNat) (by simp) hg2 ?_)|(apply And.intro;first|omega|(unfold inI;omega))|((apply z7)<;>intro _))<;>conv=>whnf)
        all_goals first|(exfalso;omega)|skip
        all_goals refine z23 (i+1) hi2 (by omega) (by refine SealW.reach [] [] rfl rfl rfl rfl ?_ ?_<;>(repeat' (first|exact LocLe.refl _|exact F2.nil|(refine z96 ?_;omega)|exact True.intro|apply And.intro))<;>((rw [hs];exact LocLe.refl _)))
    · simp only [if_pos] at hs
      by_cases hlt:o < r+1
      · rw [if_pos hlt] at hs
        repeat' ((first|(apply AWP.go ok;rfl)|(refine z16 (i:=i) (by simp) hg ?_)|(refine z16 (i:=v.toNat) (by simp) hg2 ?_)|(apply And.intro;first|omega|(unfold inI;omega))|((apply z7)<;>intro _))<;>conv=>whnf)
        all_goals first|(exfalso;omega)|skip
        all_goals refine z23 (i+1) hi2 (by omega) (by refine SealW.reach [] [] rfl rfl rfl rfl ?_ ?_<;>(repeat' (first|exact LocLe.refl _|exact F2.nil|(refine z96 ?_;omega)|exact True.intro|apply And.intro))<;>((rw [hs];exact LocLe.refl _)))
      · rw [if_neg hlt] at hs
        repeat' ((first|(apply AWP.go ok;rfl)|(refine z16 (i:=i) (by simp) hg ?_)|(refine z16 (i:=v.toNat) (by simp) hg2 ?_)|(apply And.intro;first|omega|(unfold inI;omega))|((apply z7)<;>intro _))<;>conv=>whnf)
        all_goals first|(exfalso;omega)|skip
        all_goals refine z23 (i+1) hi2 (by omega) (by refine SealW.reach [] [] rfl rfl rfl rfl ?_ ?_<;>(repeat' (first|exact LocLe.refl _|exact F2.nil|(refine z96 ?_;omega)|exact True.intro|apply And.intro))<;>((rw [hs];exact LocLe.refl _)))
  · have e:row.length=i:=by omega
    subst e
    rw [List.take_length]
    repeat' ((first|(apply AWP.go ok;rfl)|(apply And.intro;omega)|((first|(with_reducible apply z11;omega)|(with_reducible apply z69;omega));intro _)|((first|apply z7|apply z92)<;>intro _))<;>conv=>whnf)
    all_goals first|(exfalso;omega)|skip
    all_goals (refine RetS.lay [] [] rfl rfl rfl ?_;refine RetS.done ?_ ?_<;>(repeat' (first|exact LocLe.refl _|exact F2.nil)))
set_option maxHeartbeats 12800000 in
theorem z901 (rows:List (List Int)) (a:Aut) (hr:∀ r∈rows,InN rows.length r) (hi:InN rows.length a.ini) (hac:1≤a.acc.length∧a.acc.length≤64) (hN:rows.length≤3840) (hrl:∀ r∈rows,r.length≤1000000000) (hil:a.ini.length≤1048576):CallsA Tryz.prog 140 [lst 1 encL rows,.agg a.cs] [] (.sref 0 0 rows.length) [.cells 1 ((z532 rows a.ini a.acc).map enI)]:=by
  have c1:=z551 rows a.ini hr hi (by omega) hrl hil
  have hQn:=z245 hr hi rows.length
  have hQi:=z365 hr hi rows.length
  change (bfsL rows a.ini).length≤rows.length at hQn
  change InN rows.length (bfsL rows a.ini) at hQi
  have hml:=z348 rows a.ini a.acc
  unfold z532 at *
  generalize bfsL rows a.ini=nodes at *
  refine z10 z18 Tryz.func140 rfl rfl 89 Tryz.ntmps140 (by simp) ?_
  repeat' ((first|(apply AWP.go ok;rfl)|(apply z9 (c1);rfl;rfl))<;>conv=>whnf)
  all_goals skip
  refine z64 (fun x:Nat×List Int=>([(0,lst 1 encL rows),(3,.ptr 0 none 0),(5,.int a.acc.length),(6,ints nodes),(7,.sref 1 0 x.2.length),(8,.int x.1)],[.cells 3 [a.cs],.cells 1 (x.2.map enI)])) (fun x=>x.1≤rows.length∧x.2.length=x.1∧x.2=z799 x.1) (fun x=>rows.length - x.1) (0,[]) ⟨Nat.zero_le _,rfl,rfl⟩ (by refine SealW.reach [0,1] [] rfl rfl rfl rfl ?_ ?_<;>(repeat' (first|exact LocLe.refl _|exact F2.nil|apply F2.cons|apply ObjLe.box|((refine z13 rfl ?_ ?_);(focus ((repeat' (exact z37));done)))|exact True.intro|apply And.intro))) ?_
  rintro ⟨i,F⟩ ⟨hF1,hFl,hF2⟩
  dsimp only at hF1 hFl hF2 ⊢
  by_cases hi2:i < rows.length
  · repeat' ((first|(apply AWP.go ok;rfl)|(apply And.intro;first|(unfold inI;omega)|((try dsimp only);simp only [List.length_map,List.length_take,List.length_append,List.length_replicate,List.length_cons,List.length_nil];omega)|exact ⟨rfl,z21 rfl z30⟩)|((apply z7)<;>intro _))<;>conv=>whnf)
    all_goals first|(exfalso;omega)|skip
    all_goals refine z23 (i+1,F++[-1]) ⟨hi2,by rw [List.length_append,hFl];rfl,by show _=z799 (i+1);rw [z560,← hF2]⟩ (by show rows.length - (i+1) < _;omega) (by refine SealW.reach [0,3] [] rfl rfl rfl rfl ?_ ?_<;>(repeat' (first|exact LocLe.refl _|exact F2.nil|apply F2.cons|(refine z39 ?_;((simp;done)))|apply ObjLe.box|((refine z35 rfl ?_ ?_);(focus ((repeat' (first|exact z6 (fun _=>rfl)|apply z22));done)))|(refine z70 ?_ ?_;(focus (omega)))|exact True.intro|apply And.intro)))
  have e:rows.length=i:=by omega
  have hz0:z367 rows.length (nodes.take 0)=F:=by rw [hF2,← e];rfl
  subst e
  clear hF1 hF2 hi2
  repeat' ((first|(apply AWP.go ok;rfl)|(apply And.intro;omega)|((apply z7)<;>intro _))<;>conv=>whnf)
  all_goals first|(exfalso;omega)|skip
  refine z64 (fun x:Nat×List Int=>([(0,lst 1 encL rows),(3,.ptr 0 none 0),(5,.int a.acc.length),(6,ints nodes),(7,.sref 1 0 x.2.length),(9,.int x.1)],[.cells 3 [a.cs],.cells 1 (x.2.map enI)])) (fun x=>x.1≤nodes.length∧z367 rows.length (nodes.take x.1)=x.2) (fun x=>nodes.length - x.1) (0,F) ⟨Nat.zero_le _,hz0⟩ (by refine SealW.reach [0,1] [] rfl rfl rfl rfl ?_ ?_<;>(repeat' (first|exact LocLe.refl _|exact F2.nil|apply F2.cons|exact z12 _|apply ObjLe.box|((refine z13 rfl ?_ ?_);(focus ((repeat' ((exact z6 (fun _=>rfl))));done)))|exact True.intro|apply And.intro))) ?_
  clear hz0 hFl F
  rintro ⟨i,R⟩ ⟨hi1,hR⟩
  dsimp only at hi1 hR ⊢
  have hRl:=z441 rows.length (nodes.take i)
  rw [hR] at hRl
  by_cases hi2:i < nodes.length
  · have hx:=hQi _ (List.getElem_mem hi2)
    have hs:=z872 (N:=rows.length) hi2
    rw [hR] at hs
    repeat' ((first|(apply AWP.go ok;rfl)|(apply And.intro;first|omega|(unfold inI;omega))|((first|(with_reducible apply z11;omega)|(apply z11;omega));intro _)|((apply z7)<;>intro _))<;>conv=>whnf)
    all_goals first|(exfalso;omega)|skip
    all_goals refine z23 (i+1,R.set nodes[i].toNat 0) ⟨hi2,hs⟩ (by show nodes.length - (i+1) < _;omega) (by refine SealW.reach [0,1] [] rfl rfl rfl rfl ?_ ?_<;>(repeat' (first|exact LocLe.refl _|exact F2.nil|apply F2.cons|(refine z39 ?_;((simp;done)))|apply ObjLe.box|((refine z42 rfl ?_ ?_);(focus ((repeat' ((exact z6 (fun _=>rfl))));done)))|(refine z188 (by omega) ?_)|exact True.intro|apply And.intro)))
  have e:nodes.length=i:=by omega
  subst e
  rw [List.take_length] at hR
  have hbd:=z816 rows.length nodes
  rw [hR] at hbd hml ⊢
  clear hi2 hi1 hR
  generalize hRR:z115 rows a.acc nodes (nodes.length+2) R true=RR at *
  have hrevl:nodes.reverse.length=nodes.length:=List.length_reverse
  repeat' ((first|(apply AWP.go ok;rfl)|(apply And.intro;omega)|((first|(with_reducible apply z11;omega)|(apply z11;omega));intro _)|((apply z7)<;>intro _))<;>conv=>whnf)
  all_goals first|(exfalso;omega)|skip
  refine z64 (fun x:Nat×List Int×Bool=>([(0,lst 1 encL rows),(3,.ptr 0 none 0),(5,.int a.acc.length),(6,ints nodes),(7,.sref 1 0 x.2.1.length),(10,.bool x.2.2),(11,.int x.1)],[.cells 3 [a.cs],.cells 1 (x.2.1.map enI)])) (fun x=>x.1≤nodes.length+2∧x.2.1.length=rows.length∧Bd (4000 * x.1) x.2.1∧z115 rows a.acc nodes (nodes.length+2 - x.1) x.2.1 x.2.2=RR) (fun x=>nodes.length+2 - x.1) (0,R,true) ⟨Nat.zero_le _,hRl,hbd,hRR⟩ (by refine SealW.reach [0,1] [] rfl rfl rfl rfl ?_ ?_<;>(repeat' (first|exact LocLe.refl _|exact F2.nil|apply F2.cons|exact z12 _|apply ObjLe.box|((refine z13 rfl ?_ ?_);(focus ((repeat' ((exact z6 (fun _=>rfl))));done)))|exact True.intro|apply And.intro))) ?_
  clear hRR hbd hRl R
  rintro ⟨r,R,ch⟩ ⟨hr1,hRl,hbd,hRR⟩
  dsimp only at hr1 hRl hbd hRR ⊢
  have hend:∀ f,z115 rows a.acc nodes f R false=R:=fun f=>by cases f<;>rfl
  cases ch
  · rw [hend] at hRR
    subst hRR
    repeat' (((apply AWP.go ok;rfl))<;>conv=>whnf)
    all_goals skip
    all_goals (refine RetS.lay [1] [] rfl rfl rfl ?_;refine RetS.done ?_ ?_<;>(repeat' (first|exact F2.nil|apply F2.cons|exact z12 _|(refine z39 ?_;(omega))|((refine z13 rfl ?_ ?_);(focus ((repeat' ((exact z6 (fun _=>rfl))));done))))))
  by_cases hr2:r≤nodes.length+1
  · rw [show nodes.length+2 - r=(nodes.length+1 - r)+1 by omega,z115,if_pos rfl] at hRR
    repeat' ((first|(apply AWP.go ok;rfl)|(apply And.intro;(unfold inI;omega))|((apply z7)<;>intro _))<;>conv=>whnf)
    all_goals first|(exfalso;omega)|skip
    refine z64 (fun y:Nat×List Int×Bool=>([(0,lst 1 encL rows),(3,.ptr 0 none 0),(5,.int a.acc.length),(6,ints nodes),(7,.sref 1 0 y.2.1.length),(10,.bool y.2.2),(11,.int r),(12,.int ((nodes.length:Int) - 1 - y.1))],[.cells 3 [a.cs],.cells 1 (y.2.1.map enI)])) (fun y=>y.1≤nodes.length∧(nodes.reverse.take y.1).foldl (z251 rows a.acc) (R,false)=(y.2.1,y.2.2)) (fun y=>nodes.length - y.1) (0,R,false) ⟨Nat.zero_le _,rfl⟩ (by refine SealW.reach [0,1] [] rfl rfl rfl rfl ?_ ?_<;>(repeat' (first|exact LocLe.refl _|exact F2.nil|apply F2.cons|exact z12 _|(refine z96 ?_;omega)|apply ObjLe.box|((refine z13 rfl ?_ ?_);(focus ((repeat' ((exact z6 (fun _=>rfl))));done)))|exact True.intro|apply And.intro))) ?_
    rintro ⟨k,R',c'⟩ ⟨hk,hV⟩
    dsimp only at hk hV ⊢
    have hb':=z774 (rows:=rows) (acc:=a.acc) (nodes.reverse.take k) (R,false) hbd (by omega)
    have hl':=z425 (rows:=rows) (acc:=a.acc) (nodes.reverse.take k) (R,false)
    rw [hV] at hb' hl'
    rw [show (nodes.reverse.take k).length=k by rw [List.length_take];omega] at hb'
    dsimp only at hb' hl'
    rw [hRl] at hl'
    by_cases hk2:k < nodes.length
    · have hkr:k < nodes.reverse.length:=by omega
      have hn2:nodes.length - 1 - k < nodes.length:=by omega
      have hrev:nodes.reverse[k]=nodes[nodes.length - 1 - k]:=by rw [List.getElem_reverse]
      have hs:(nodes.reverse.take (k+1)).foldl (z251 rows a.acc) (R,false)=z251 rows a.acc (R',c') nodes[nodes.length - 1 - k]:=by
        rw [List.take_succ_eq_append_getElem hkr,List.foldl_append,hV,hrev];rfl
      have hu:=hQi _ (List.getElem_mem hn2)
      have hgn:(nodes.map enI)[nodes.length - 1 - k]?=some (enI nodes[nodes.length - 1 - k]):=by rw [List.getElem?_map,List.getElem?_eq_getElem hn2];rfl
      generalize nodes[nodes.length - 1 - k]=u at *
      have hgr:=rowAt hu
      have hm0:0≤u % (a.acc.length:Int):=Int.emod_nonneg _ (by omega)
      have hm1:u % (a.acc.length:Int) < a.acc.length:=Int.emod_lt_of_pos _ (by omega)
      have hga:(a.acc.map enB)[(u % (a.acc.length:Int)).toNat]?=some (enB (a.acc.getD (u % (a.acc.length:Int)).toNat false)):=by
        rw [List.getElem?_map,List.getElem?_eq_getElem (by omega),z19 (by omega)];rfl
      have hgR:(R'.map enI)[u.toNat]?=some (enI (R'.getD u.toNat 0)):=by rw [List.getElem?_map,List.getElem?_eq_getElem (by omega),z19 (by omega)];rfl
      have hrow:InN R'.length (rows.getD u.toNat []):=by rw [hl'];exact z178 hr u
      have hrowl:=rowLen hrl u
      have hbg:=hb'.getD (by omega) u.toNat
      have c5:=z1020 R' (rows.getD u.toNat []) (a.acc.getD (u % (a.acc.length:Int)).toNat false) hb' (by omega) (by omega) hrow (by omega) hrowl
      have hrk:=z991 hb' (by omega) (a.acc.getD (u % (a.acc.length:Int)).toNat false) (rows.getD u.toNat [])
      rw [show z251 rows a.acc (R',c') u=(if R'.getD u.toNat 0 < rkOf R' (a.acc.getD (u % (a.acc.length:Int)).toNat false) (rows.getD u.toNat []) then (R'.set u.toNat (rkOf R' (a.acc.getD (u % (a.acc.length:Int)).toNat false) (rows.getD u.toNat [])),true) else (R',c')) from rfl] at hs
      generalize rkOf R' (a.acc.getD (u % (a.acc.length:Int)).toNat false) (rows.getD u.toNat [])=w at *
      generalize a.acc.getD (u % (a.acc.length:Int)).toNat false=z at *
      generalize rows.getD u.toNat []=row at *
      by_cases hlt:R'.getD u.toNat 0 < w
      · rw [if_pos hlt] at hs
        generalize R'.getD u.toNat 0=y at *
        repeat' ((first|(apply AWP.go ok;rfl)|(refine z16 (i:=nodes.length - 1 - k) (by omega) hgn ?_)|(refine z16 (i:=u.toNat) (by simp) hgr ?_)|(refine z16 (i:=u.toNat) (by simp) hgR ?_)|(refine z16 (i:=(u % (a.acc.length:Int)).toNat) (by simp) hga ?_)|(apply And.intro;first|omega|(unfold inI;omega))|((apply z7)<;>intro _)|(((apply z8 [] [1] [] (c5);(focus ((repeat' first|exact z84|apply z60)<;>first|exact z122 rfl rfl rfl|rfl));(focus ((repeat' exact z4)<;>fail))));rfl;rfl;rfl;rfl;rfl;(focus ((repeat' exact z15)<;>fail));((refine .inr ⟨rfl,?_⟩;repeat' first|exact True.intro|apply And.intro))))<;>conv=>whnf)
        all_goals first|(exfalso;omega)|kernel_rfl|skip
        all_goals refine z23 (k+1,R'.set u.toNat w,true) ⟨hk2,hs⟩ (by show nodes.length - (k+1) < _;omega) (by refine SealW.reach [0,1] [] rfl rfl rfl rfl ?_ ?_<;>(repeat' (first|exact LocLe.refl _|exact F2.nil|apply F2.cons|(refine z96 ?_;omega)|(refine z39 ?_;((simp;done)))|apply ObjLe.box|((refine z42 rfl ?_ ?_);(focus ((repeat' ((exact z6 (fun _=>rfl))));done)))|(refine z188 (by omega) ?_)|exact True.intro|apply And.intro)))
      · rw [if_neg hlt] at hs
        generalize R'.getD u.toNat 0=y at *
        repeat' ((first|(apply AWP.go ok;rfl)|(refine z16 (i:=nodes.length - 1 - k) (by omega) hgn ?_)|(refine z16 (i:=u.toNat) (by simp) hgr ?_)|(refine z16 (i:=u.toNat) (by simp) hgR ?_)|(refine z16 (i:=(u % (a.acc.length:Int)).toNat) (by simp) hga ?_)|(apply And.intro;first|omega|(unfold inI;omega))|((apply z7)<;>intro _)|(((apply z8 [] [1] [] (c5);(focus ((repeat' first|exact z84|apply z60)<;>first|exact z122 rfl rfl rfl|rfl));(focus ((repeat' exact z4)<;>fail))));rfl;rfl;rfl;rfl;rfl;(focus ((repeat' exact z15)<;>fail));((refine .inr ⟨rfl,?_⟩;repeat' first|exact True.intro|apply And.intro))))<;>conv=>whnf)
        all_goals first|(exfalso;omega)|kernel_rfl|skip
        all_goals refine z23 (k+1,R',c') ⟨hk2,hs⟩ (by show nodes.length - (k+1) < _;omega) (by refine SealW.reach [0,1] [] rfl rfl rfl rfl ?_ ?_<;>(repeat' (first|exact LocLe.refl _|exact F2.nil|apply F2.cons|exact z12 _|(refine z96 ?_;omega)|apply ObjLe.box|((refine z13 rfl ?_ ?_);(focus ((repeat' ((exact z6 (fun _=>rfl))));done)))|exact True.intro|apply And.intro)))
    · have e:nodes.length=k:=by omega
      rw [List.take_of_length_le (by omega)] at hV
      rw [show z383 rows a.acc nodes R=(R',c') from hV] at hRR
      repeat' ((first|(apply AWP.go ok;rfl)|(apply And.intro;first|omega|(unfold inI;omega))|(((with_reducible apply z69;omega));intro _)|((apply z7)<;>intro _))<;>conv=>whnf)
      all_goals first|(exfalso;omega)|skip
      all_goals refine z23 (r+1,R',c') ⟨by show r+1≤nodes.length+2;omega,hl',hb'.mono (by show 4000 * (r:Int)+k≤4000 * ((r+1:Nat):Int);omega),by rw [show nodes.length+2 - (r+1)=nodes.length+1 - r by omega];exact hRR⟩ (by show nodes.length+2 - (r+1) < _;omega) (by refine SealW.reach [0,1] [] rfl rfl rfl rfl ?_ ?_<;>(repeat' (first|exact LocLe.refl _|exact F2.nil|apply F2.cons|exact z12 _|apply ObjLe.box|((refine z13 rfl ?_ ?_);(focus ((repeat' ((exact z6 (fun _=>rfl))));done)))|exact True.intro|apply And.intro)))
  · rw [show nodes.length+2 - r=0 by omega,z115] at hRR
    subst hRR
    repeat' ((first|(apply AWP.go ok;rfl)|(apply And.intro;first|omega|(unfold inI;omega))|((apply z7)<;>intro _))<;>conv=>whnf)
    all_goals first|(exfalso;omega)|skip
    all_goals (refine RetS.lay [1] [] rfl rfl rfl ?_;refine RetS.done ?_ ?_<;>(repeat' (first|exact F2.nil|apply F2.cons|exact z12 _|(refine z39 ?_;(omega))|((refine z13 rfl ?_ ?_);(focus ((repeat' ((exact z6 (fun _=>rfl))));done))))))
end Go.Proofs.YtknlmbniicacmaaGreat

namespace Go.Proofs.YtknlmbniicacmaaGreat
open Go.Gl
attribute [local irreducible] z31
theorem z946 (a b:List Int) (ha:a.length≤maxLen) (hb:b.length≤maxLen):CallsA Tryz.prog 22 [lst 1 enI a,lst 1 enI b] [] (.bool (decide (a=b))) []:=by
  unfold maxLen at ha hb
  refine z17 z18 Tryz.func22 rfl rfl 26 Tryz.ntmps22 (by simp) ?_
  repeat (refine AWP.go ok _ _ _ _ _ rfl ?_)
  refine z38 (fun h=>?_) (fun h=>?_)
  · repeat (refine AWP.go ok _ _ _ _ _ rfl ?_)
    have hne:a≠b:=by rintro rfl;exact h rfl
    rw [decide_eq_false hne]
    exact ⟨[],by decide,rfl,rfl,ACle.of_eq rfl,trivial⟩
  · have hl:a.length=b.length:=by omega
    repeat (refine AWP.go ok _ _ _ _ _ rfl ?_)
    refine z634 (fun k:Nat=>([(0,lst 1 enI a),(1,lst 1 enI b),(5,.int k)],[])) (fun k=>k≤a.length∧a.take k=b.take k) (fun k=>a.length - k) 0 (by simp)
      ⟨[],rfl,by decide,rfl,⟨⟨rfl,rfl⟩,⟨rfl,rfl⟩,⟨rfl,rfl⟩,trivial⟩,trivial⟩ ?_
    intro k hk
    repeat (refine AWP.go ok _ _ _ _ _ rfl ?_)
    refine z7 (fun h=>?_) (fun h=>?_)
    · have hka:k < a.length:=by omega
      repeat (first|refine AWP.go ok _ _ _ _ _ rfl ?_|refine And.intro (by omega) ?_)
      refine ⟨_,z317 _ _ _ (by omega),?_⟩
      repeat ((refine And.intro (by omega) ?_))
      refine ⟨_,z317 _ _ _ (by omega),?_⟩
      repeat (first|refine AWP.go ok _ _ _ _ _ rfl ?_|refine z34 (by kernel_rfl) ?_)
      refine z38 (fun h=>?_) (fun h=>?_)
      · repeat (refine AWP.go ok _ _ _ _ _ rfl ?_)
        have hne:a≠b:=by rintro rfl;exact h rfl
        rw [decide_eq_false hne]
        exact ⟨[],by decide,rfl,rfl,ACle.of_eq rfl,trivial⟩
      · repeat (first|refine AWP.go ok _ _ _ _ _ rfl ?_|refine And.intro (by first|omega|(unfold inI;omega)) ?_)
        refine ⟨k+1,[],⟨by omega,?_⟩,by omega,rfl,by decide,rfl,⟨⟨rfl,rfl⟩,⟨rfl,rfl⟩,⟨rfl,rfl⟩,trivial⟩,trivial⟩
        have h' : a[k]=b[k]:=h
        rw [List.take_succ_eq_append_getElem hka,List.take_succ_eq_append_getElem (by omega),hk.2,h']
    · repeat (refine AWP.go ok _ _ _ _ _ rfl ?_)
      have he:a=b:=by
        have:=hk.2
        rwa [List.take_of_length_le (by omega),List.take_of_length_le (by omega)] at this
      rw [decide_eq_true he]
      exact ⟨[],by decide,rfl,rfl,ACle.of_eq rfl,trivial⟩
end Go.Proofs.YtknlmbniicacmaaGreat

namespace Go.Proofs.YtknlmbniicacmaaGreat
open Go.Gl
attribute [local irreducible] z31 AWP z48 z52 z50
section
open Go.ChangeShapes Go.WideShapes Go.ChangeAt Go.RowKit
theorem z1083 {a b:Bool} (h:a=true) (k:b=true):(a && b)=true:=by rw [h,k];rfl
theorem own:ownKnob Tryz.prog.godebug=none:=by kernel_rfl
theorem z388:laidOutB Tryz.prog=true:=by kernel_rfl
end
end Go.Proofs.YtknlmbniicacmaaGreat

namespace Go.Proofs.YtknlmbniicacmaaGreat
open Go.Gl
attribute [local irreducible] z31 AWP z48 z52 z50
theorem z811:ArgD Tryz.prog 22 (lst 1 enU) CodeOk :=
  (z1080 (enc1:=lst 1 enU) Tryz.underlying22 (od_list 1 (encL:=fun l=>[lst 1 enU l]) Tryz.underlying22 (by kernel_rfl) (by decide) (od_byte (enc:=enU) Tryz.underlying5 (fun _=>rfl)) (fun _=>rfl)) (fun _=>rfl)).imp fun l h=>⟨l,rfl,h.1,fun x hx=>by
    have:=h.2 x hx
    have h1:IntKind.min .u8=0:=by decide
    have h2:IntKind.max .u8=255:=by decide
    simpa [Lit.wf,h1,h2] using this⟩
end Go.Proofs.YtknlmbniicacmaaGreat

namespace Go.Proofs.YtknlmbniicacmaaGreat
open Go.Gl
attribute [local irreducible] z31 AWP z48 z52 z50 RetS z57
noncomputable def mkOk (g:Graph) (l:List Tree) (a:Aut):Bool:=(glB g l && autB a) && !(trcO g (g.st.map (z32 l)) a).isSome
noncomputable def mkR (g:Graph) (l:List Tree) (a:Aut):List Int:=if mkOk g l a=true then z532 (z26 g (g.st.map (z32 l)) a) a.ini a.acc else []
theorem z687 {g:Graph} {l:List Tree} {a:Aut} : (mkOk g l a=true→(mkR g l a).length=(prB g l a).length)∧(mkR g l a).length≤3840∧Bd 16000000 (mkR g l a):=by
  unfold mkR prB
  by_cases h:mkOk g l a=true
  · have h1:(glB g l && autB a)=true:=by unfold mkOk at h;exact (Bool.and_eq_true_iff.1 h).1
    obtain ⟨h2,h3⟩:=Bool.and_eq_true_iff.1 h1
    obtain ⟨f1,f2,f3,f4,f5⟩:=z111 ((z91 g).1 (by unfold glB at h2;exact (Bool.and_eq_true_iff.1 h2).1)) (z108.1 h3) (g.st.map (z32 l))
    rw [if_pos h,if_pos h1,z348,z89]
    refine ⟨fun _=>rfl,f3,?_⟩
    have hQn:=z245 f1 f2 (z26 g (g.st.map (z32 l)) a).length
    have hb:=z674 (rows:=z26 g (g.st.map (z32 l)) a) (acc:=a.acc) (nodes:=bfsL (z26 g (g.st.map (z32 l)) a) a.ini) ((bfsL (z26 g (g.st.map (z32 l)) a) a.ini).length+2) _ true (z816 (z26 g (g.st.map (z32 l)) a).length (bfsL (z26 g (g.st.map (z32 l)) a) a.ini)) (by omega) (by unfold bfsL;omega)
    exact hb.mono (by unfold bfsL;omega)
  · rw [if_neg h]
    exact ⟨fun h'=>absurd h' h,Nat.zero_le _,fun x hx=>by cases hx⟩
set_option maxHeartbeats 3200000 in
theorem z663 (g:Graph) (hg:g.mx) (l:List Tree) (hl:Lmx l) (a:Aut) (ha:a.mx):CallsA Tryz.prog 50 [.agg g.cs,lst 3 Tree.cs' l,.agg a.cs] [] (.tup [.agg [.sref 0 0 (mkR g l a).length],.bool (mkOk g l a)]) [.cells 1 ((mkR g l a).map enI)]:=by
  have k0:=z209 g hg l hl
  have k1:=z160 a ha
  by_cases hgl:(glB g l && autB a)=true
  · obtain ⟨h1,hab⟩:=Bool.and_eq_true_iff.1 hgl
    have hG:=(z91 g).1 (by unfold glB at h1;exact (Bool.and_eq_true_iff.1 h1).1)
    have hL:=LabelsOk.of (by unfold glB at h1;exact (Bool.and_eq_true_iff.1 h1).2)
    have hA:=z108.1 hab
    have k2:=z264 g hG (g.st.map (z32 l)) (by simp) (fun x hx=>by
      obtain ⟨s,_,rfl⟩:=List.mem_map.1 hx
      exact z190 hL s) a hA
    have k3:=z1021 g hG (g.st.map (z32 l)) (by simp) (fun x hx=>by
      obtain ⟨s,_,rfl⟩:=List.mem_map.1 hx
      exact z190 hL s) a hA
    obtain ⟨f1,f2,f3,f4,f5⟩:=z111 hG hA (g.st.map (z32 l))
    have k4:=z901 (z26 g (g.st.map (z32 l)) a) a f1 f2 hA.1 f3 f4 f5
    have hml:=z348 (z26 g (g.st.map (z32 l)) a) a.ini a.acc
    rw [if_pos h1,h1] at k0
    rw [hab] at k1
    unfold mkR mkOk
    rw [hgl,Bool.true_and]
    generalize g.st.map (z32 l)=ls at *
    generalize (trcO g ls a).isSome=tb at *
    generalize trcL g ls a=tl at *
    generalize z532 (z26 g ls a) a.ini a.acc=RR at *
    generalize z26 g ls a=rows at *
    cases tb
    · show CallsA _ _ _ _ (.tup [.agg [.sref 0 0 RR.length],.bool true]) [.cells 1 (RR.map enI)]
      rw [hml]
      refine z10 z18 Tryz.func50 rfl rfl 42 Tryz.ntmps50 (by simp) ?_
      repeat' ((first|(apply AWP.go ok;rfl)|(apply z34;kernel_rfl)|(apply z9 (k0);rfl;rfl)|(apply z9 (k1);rfl;rfl)|(apply z9 (k2);rfl;rfl)|(apply z9 (k3);rfl;rfl)|(((apply z8 [] [] [4] (k4);rfl;(focus ((repeat' exact z4)<;>fail))));rfl;rfl;rfl;rfl;rfl;(focus ((repeat' first|exact z15|apply z14)<;>(refine z25 ?_;((exact z6 fun _=>rfl)))));(exact .inl rfl)))<;>conv=>whnf)
      all_goals skip
      all_goals (refine RetS.lay [4] [] rfl rfl rfl ?_;refine RetS.done ?_ ?_<;>(repeat' (first|exact LocLe.refl _|exact F2.nil|apply F2.cons|exact z12 _|((refine z13 rfl ?_ ?_);(focus ((repeat' ((exact z6 (fun _=>rfl))));done))))))
    · show CallsA _ _ _ _ (.tup [.agg [.sref 0 0 0],.bool false]) [.cells 1 []]
      refine z10 z18 Tryz.func50 rfl rfl 42 Tryz.ntmps50 (by simp) ?_
      repeat' ((first|(apply AWP.go ok;rfl)|(apply z9 (k0);rfl;rfl)|(apply z9 (k1);rfl;rfl)|(apply z9 (k3);rfl;rfl))<;>conv=>whnf)
      all_goals skip
      all_goals (refine RetS.empty 1 ?_;refine RetS.lay [4] [] rfl rfl rfl ?_;refine RetS.done ?_ ?_<;>(repeat' (first|exact LocLe.refl _|exact z46|exact F2.nil|apply F2.cons|((refine z13 rfl ?_ ?_);(focus ((repeat' (exact z37));done)))|apply z44|apply z95)))
  · have e:mkOk g l a=false:=by unfold mkOk;rw [(Bool.not_eq_true _).mp hgl];rfl
    have e2:mkR g l a=[]:=by unfold mkR;rw [e];rfl
    rw [e,e2]
    show CallsA _ _ _ _ (.tup [.agg [.sref 0 0 0],.bool false]) [.cells 1 []]
    generalize (if glB g l=true then g.st.map (z32 l) else [])=ls at *
    refine z10 z18 Tryz.func50 rfl rfl 42 Tryz.ntmps50 (by simp) ?_
    cases hb1:glB g l
    · rw [hb1] at k0
      repeat' ((first|(apply AWP.go ok;rfl)|(apply z9 (k0);rfl;rfl))<;>conv=>whnf)
      all_goals skip
      all_goals (refine RetS.empty 1 ?_;refine RetS.lay [3] [] rfl rfl rfl ?_;refine RetS.done ?_ ?_<;>(repeat' (first|exact LocLe.refl _|exact z46|exact F2.nil|apply F2.cons|((refine z13 rfl ?_ ?_);(focus ((repeat' (exact z37));done)))|apply z44|apply z95)))
    · rw [hb1] at k0 hgl
      have hb2:autB a=false:=by simpa using hgl
      rw [hb2] at k1
      repeat' ((first|(apply AWP.go ok;rfl)|(apply z9 (k0);rfl;rfl)|(apply z9 (k1);rfl;rfl))<;>conv=>whnf)
      all_goals skip
      all_goals (refine RetS.empty 1 ?_;refine RetS.lay [3] [] rfl rfl rfl ?_;refine RetS.done ?_ ?_<;>(repeat' (first|exact LocLe.refl _|exact z46|exact F2.nil|apply F2.cons|((refine z13 rfl ?_ ?_);(focus ((repeat' (exact z37));done)))|apply z44|apply z95)))
end Go.Proofs.YtknlmbniicacmaaGreat

namespace Go.Proofs.YtknlmbniicacmaaGreat
open Go.Gl
attribute [local irreducible] z31 AWP z48 z52 z50 RetS z57
theorem z622 (a:Aut) (hA:AutP a) (x:Int) (h0:0≤x):CallsA Tryz.prog 126 [.int x,.pt a.cs,.pt [.int a.acc.length]] [] (.bool (a.acc.getD (x % a.acc.length).toNat false)) []:=by
  have hac:=hA.1
  have hm0:0≤x % (a.acc.length:Int):=Int.emod_nonneg _ (by omega)
  have hm1:x % (a.acc.length:Int) < a.acc.length:=Int.emod_lt_of_pos _ (by omega)
  have hga:(a.acc.map enB)[(x % (a.acc.length:Int)).toNat]?=some (enB (a.acc.getD (x % (a.acc.length:Int)).toNat false)):=by
    rw [List.getElem?_map,List.getElem?_eq_getElem (by omega),z19 (by omega)];rfl
  refine z10 z18 Tryz.func126 rfl rfl 12 Tryz.ntmps126 (by simp) ?_
  repeat' ((first|(apply AWP.go ok;rfl)|(apply z34;kernel_rfl)|(refine z16 (i:=(x % (a.acc.length:Int)).toNat) rfl hga ?_)|(apply And.intro;omega))<;>conv=>whnf)
  all_goals skip
  all_goals (refine RetS.lay [] [] rfl rfl rfl ?_;refine RetS.done ?_ ?_<;>(repeat' (first|exact LocLe.refl _|exact F2.nil)))
set_option maxHeartbeats 1600000 in
theorem z308 (l:List Int) (n:Nat) (hl:l.length≤1000000) (hn:1≤n) (h0:∀ x∈l,0≤x) (h1:∀ x∈l,x≤1000000000):CallsA Tryz.prog 127 [ints l,.pt [.int n]] [] (.sref 0 0 l.length) [.cells 1 ((stL l n).map enI)]:=by
  refine z10 z18 Tryz.func127 rfl rfl 25 Tryz.ntmps127 (by simp) ?_
  repeat' ((first|(apply AWP.go ok;rfl)|(apply And.intro;(dsimp only;omega)))<;>conv=>whnf)
  all_goals skip
  obtain ⟨qm,hqm⟩:∃ qm:Nat→Nat→Int,qm=fun i j=>if j < i then l.getD j 0 / n else 0:=⟨_,rfl⟩
  have q0:qm 0=fun _=>0:=by rw [hqm];rfl
  have qE:fnL l.length (qm l.length)=stL l n:=by
    apply List.ext_getElem (by simp [fnL,stL])
    intro i h1 h2
    have hi' : i < l.length:=by rw [z97] at h1;exact h1
    rw [z392,hqm]
    dsimp only
    rw [if_pos hi',z19 hi'];simp [stL]
  have qS:∀ i (h:i < l.length),qm (i+1)=upd (qm i) i (l[i] / n):=fun i h=>by
    funext j
    by_cases h2:j=i
    · subst h2;rw [z28,hqm];dsimp only;rw [if_pos (by omega),z19 h]
    · rw [z43 _ _ h2,hqm];dsimp only;split<;>split<;>first|rfl|omega
  clear hqm
  refine z64 (fun i:Nat=>([(1,.pt [.int n]),(4,.sref 0 0 l.length),(10,ints l),(11,.int l.length),(12,.int i)],[.cells 1 ((fnL l.length (qm i)).map enI)])) (fun i=>i≤l.length) (fun i=>l.length - i) 0 (Nat.zero_le _) (by refine SealW.reach [0] [] rfl rfl rfl rfl ?_ ?_<;>(repeat' (first|exact LocLe.refl _|exact F2.nil|apply F2.cons|((refine z13 rfl ?_ ?_);(focus ((repeat' (exact z65 rfl));done)))|exact True.intro|apply And.intro))<;>((refine z29 ?_;rw [q0];exact z287 _))) ?_
  intro i hi
  by_cases hi2:i < l.length
  · have g1:=z147 (qm i) hi2
    have l1:=z97 l.length (qm i)
    have e1:=z130 (N:=l.length) (u:=i) (qm i) (l[i] / n)
    rw [← qS i hi2] at e1
    have gk:(l.map enI)[i]?=some (enI l[i]):=by rw [List.getElem?_map,List.getElem?_eq_getElem hi2];rfl
    have b0:=h0 _ (List.getElem_mem hi2)
    have b1:=h1 _ (List.getElem_mem hi2)
    generalize l[i]=v at *
    have d0:0≤v / (n:Int):=Int.ediv_nonneg b0 (by omega)
    have d1:v / (n:Int)≤v:=Int.ediv_le_self _ b0
    repeat' ((first|(apply AWP.go ok;rfl)|(refine z16 (i:=i) rfl gk ?_)|(refine z16 (i:=i) rfl g1 ?_)|(apply And.intro;first|omega|(unfold inI;omega))|((apply z7)<;>intro _))<;>conv=>whnf)
    all_goals first|(exfalso;omega)|skip
    all_goals refine z23 (i+1) hi2 (by omega) (by refine SealW.reach [0] [] rfl rfl rfl rfl ?_ ?_<;>(repeat' (first|exact LocLe.refl _|exact F2.nil|apply F2.cons|((refine z42 rfl ?_ ?_);(focus ((repeat' ((exact z6 (fun _=>rfl))));done)))|exact True.intro|apply And.intro))<;>((refine z29 ?_;exact e1)))
  obtain rfl:i=l.length:=by omega
  rw [qE]
  repeat' ((first|(apply AWP.go ok;rfl)|(apply And.intro;omega)|((first|(with_reducible apply z11;omega)|(apply z11;omega));intro _)|((apply z7)<;>intro _))<;>conv=>whnf)
  all_goals first|(exfalso;omega)|skip
  all_goals (refine RetS.lay [0] [] rfl rfl rfl ?_;refine RetS.done ?_ ?_<;>(repeat' (first|exact LocLe.refl _|exact F2.nil|apply F2.cons|exact z12 _|((refine z13 rfl ?_ ?_);(focus ((repeat' ((exact z6 (fun _=>rfl))));done))))))
noncomputable def ftO (g:Graph) (l:List Tree) (a:Aut):Option (List Int×List Int):=if (glB g l && autB a)=true then trcO g (g.st.map (z32 l)) a else none
noncomputable def ftL (g:Graph) (l:List Tree) (a:Aut):Trace:=let t:=(ftO g l a).getD ([],[]);⟨t.1,t.2⟩
set_option maxHeartbeats 6400000 in
theorem z215 (g:Graph) (hg:g.mx) (l:List Tree) (hl:Lmx l) (a:Aut) (ha:a.mx):CallsA Tryz.prog 40 [.agg g.cs,lst 3 Tree.cs' l,.agg a.cs] [] (.tup [.agg [.sref 0 0 (ftL g l a).stem.length,.sref 1 0 (ftL g l a).loop.length],.bool (ftO g l a).isSome]) [.cells 1 ((ftL g l a).stem.map enI),.cells 1 ((ftL g l a).loop.map enI)]:=by
  have k0:=z290 g hg l hl a ha
  by_cases hgl:(glB g l && autB a)=true
  · rw [hgl] at k0
    obtain ⟨h1,hab⟩:=Bool.and_eq_true_iff.1 hgl
    have hG:=(z91 g).1 (by unfold glB at h1;exact (Bool.and_eq_true_iff.1 h1).1)
    have hL:=LabelsOk.of (by unfold glB at h1;exact (Bool.and_eq_true_iff.1 h1).2)
    have hA:=z108.1 hab
    have k1:=z282 g hG l hL a hA
    obtain ⟨f1,f2,f3,f4,f5⟩:=z111 hG hA (g.st.map (z32 l))
    have hnd:=hA.2.2.1.nd
    have hac:=hA.1
    have k2:=z1015 (z26 g (g.st.map (z32 l)) a) a.ini f1 f2 hnd (by omega) f4 (fun v=>a.acc.getD (v % a.acc.length).toNat false) 126 a.cs [.int a.acc.length] (fun x h0 _=>z622 a hA x h0)
    unfold ftL ftO
    rw [if_pos hgl]
    unfold lasR at k2
    unfold trcO
    rw [z607 f1 f2 hnd] at k2
    have hlen:(z26 g (g.st.map (z32 l)) a).length=g.st.length * a.acc.length:=by unfold z26;rw [z83,Nat.mul_comm]
    have hF:∀ p q,finS (z26 g (g.st.map (z32 l)) a) a.ini a.acc=some (p,q)→(∀ x∈p,0≤x∧x≤100000)∧(∀ x∈q,0≤x∧x≤100000)∧p.length≤100000∧q.length≤100000:=by
      intro p q h
      rw [← z607 f1 f2 hnd] at h
      obtain ⟨b1,b2,b3,b4,_⟩:=lasL_bd f1 f2 hnd h
      exact ⟨fun x hx=>by have:=b1 x hx;omega,fun x hx=>by have:=b2 x hx;omega,by omega,by omega⟩
    generalize z26 g (g.st.map (z32 l)) a=rows at *
    cases hfin:finS rows a.ini a.acc with
    | none =>
      rw [hfin] at k2
      change CallsA _ _ _ _ (.tup [.sref 0 0 0,.sref 1 0 0,.bool false]) [.cells 1 [],.cells 1 []] at k2
      show CallsA _ _ _ _ (.tup [.agg [.sref 0 0 0,.sref 1 0 0],.bool false]) [.cells 1 [],.cells 1 []]
      refine z10 z18 Tryz.func40 rfl rfl 50 Tryz.ntmps40 (by simp) ?_
      repeat' ((first|(apply AWP.go ok;rfl)|(apply z9 (k0);rfl;rfl)|(apply z9 (k1);rfl;rfl)|(((apply z8 [] [1,3] [4,5] (k2);(focus ((repeat' first|exact z84|apply z60)<;>rfl));(focus ((repeat' exact z4)<;>fail))));rfl;rfl;rfl;rfl;rfl;(focus ((repeat' first|exact z15|apply z14)<;>(refine z25 ?_;(exact z37))));((refine .inr ⟨rfl,?_⟩;repeat' first|exact True.intro|apply And.intro|exact rfl))))<;>conv=>whnf)
      all_goals skip
      all_goals (refine RetS.empty 1 ?_;refine RetS.empty 1 ?_;refine RetS.lay [6,7] [] rfl rfl rfl ?_;refine RetS.done ?_ ?_<;>(repeat' (first|exact LocLe.refl _|exact z46|exact F2.nil|apply F2.cons|((refine z13 rfl ?_ ?_);(focus ((repeat' (exact z37));done)))|apply z44|apply z95)))
    | some pq =>
      obtain ⟨p,q⟩:=pq
      rw [hfin] at k2
      obtain ⟨b1,b2,b3,b4⟩:=hF p q hfin
      change CallsA _ _ _ _ (.tup [.sref 0 0 (p.take (p.length - 1)).length,.sref 1 0 q.length,.bool true]) [.cells 1 ((p.take (p.length - 1)).map enI),.cells 1 (q.map enI)] at k2
      have s1:=z308 (p.take (p.length - 1)) a.acc.length (by rw [List.length_take];omega) (by omega) (fun x hx=>(b1 x (List.mem_of_mem_take hx)).1) (fun x hx=>by have:=(b1 x (List.mem_of_mem_take hx)).2;omega)
      have s2:=z308 q a.acc.length (by omega) (by omega) (fun x hx=>(b2 x hx).1) (fun x hx=>by have:=(b2 x hx).2;omega)
      have e1:(stL (p.take (p.length - 1)) a.acc.length).length=(p.take (p.length - 1)).length:=by simp [stL]
      have e2:(stL q a.acc.length).length=q.length:=by simp [stL]
      show CallsA _ _ _ _ (.tup [.agg [.sref 0 0 (stL (p.take (p.length - 1)) a.acc.length).length,.sref 1 0 (stL q a.acc.length).length],.bool true]) [.cells 1 ((stL (p.take (p.length - 1)) a.acc.length).map enI),.cells 1 ((stL q a.acc.length).map enI)]
      rw [e1,e2]
      generalize stL (p.take (p.length - 1)) a.acc.length=S1 at *
      generalize stL q a.acc.length=S2 at *
      generalize p.take (p.length - 1)=p' at *
      refine z10 z18 Tryz.func40 rfl rfl 50 Tryz.ntmps40 (by simp) ?_
      repeat' ((first|(apply AWP.go ok;rfl)|(apply z9 (k0);rfl;rfl)|(apply z9 (k1);rfl;rfl)|((first|(apply z8 [] [1,3] [4,5] (k2);(focus ((repeat' first|exact z84|apply z60)<;>rfl));(focus ((repeat' exact z4)<;>fail)))|(apply z8 [] [3,4] [6] (s1);(focus ((repeat' first|exact z84|apply z60)<;>first|exact z122 rfl rfl rfl|rfl));(focus ((repeat' exact z4)<;>fail)))|(apply z8 [] [3,5] [7] (s2);(focus ((repeat' first|exact z84|apply z60)<;>first|exact z122 rfl rfl rfl|rfl));(focus ((repeat' exact z4)<;>fail))));rfl;rfl;rfl;rfl;rfl;(focus ((repeat' first|exact z15|apply z14)<;>(refine z25 ?_;((exact z6 fun _=>rfl)))));((refine .inr ⟨rfl,?_⟩;repeat' first|exact True.intro|apply And.intro|exact z229 (fun _=>rfl) _))))<;>conv=>whnf)
      all_goals skip
      all_goals (refine RetS.lay [6,7] [] rfl rfl rfl ?_;refine RetS.done ?_ ?_<;>(repeat' (first|exact LocLe.refl _|exact F2.nil|apply F2.cons|exact z12 _|((refine z13 rfl ?_ ?_);(focus ((repeat' ((exact z6 (fun _=>rfl))));done))))))
  · have hgl:=(Bool.not_eq_true _).mp hgl
    rw [hgl] at k0
    have e1:ftO g l a=none:=by unfold ftO;rw [hgl];rfl
    unfold ftL
    rw [e1]
    show CallsA _ _ _ _ (.tup [.agg [.sref 0 0 0,.sref 1 0 0],.bool false]) [.cells 1 [],.cells 1 []]
    refine z10 z18 Tryz.func40 rfl rfl 50 Tryz.ntmps40 (by simp) ?_
    repeat' ((first|(apply AWP.go ok;rfl)|(apply z9 (k0);rfl;rfl))<;>conv=>whnf)
    all_goals skip
    all_goals (refine RetS.empty 1 ?_;refine RetS.empty 1 ?_;refine RetS.lay [3,4] [] rfl rfl rfl ?_;refine RetS.done ?_ ?_<;>(repeat' (first|exact LocLe.refl _|exact z46|exact F2.nil|apply F2.cons|((refine z13 rfl ?_ ?_);(focus ((repeat' (exact z37));done)))|apply z44|apply z95)))
end Go.Proofs.YtknlmbniicacmaaGreat

namespace Go.Proofs.YtknlmbniicacmaaGreat
open Go.Gl
attribute [local irreducible] z31 AWP z48 z52 z50 RetS z57
end Go.Proofs.YtknlmbniicacmaaGreat

namespace Go.Proofs.YtknlmbniicacmaaGreat
open Go.Gl
attribute [local irreducible] z31 AWP z48 z52 z50 RetS z57
end Go.Proofs.YtknlmbniicacmaaGreat

namespace Go.Proofs.YtknlmbniicacmaaGreat
open Go.Gl
attribute [local irreducible] z31 AWP z48 z52 z50 RetS z57
end Go.Proofs.YtknlmbniicacmaaGreat

namespace Go.Proofs.YtknlmbniicacmaaGreat
open Go.Gl
attribute [local irreducible] z31 AWP z48 z52 z50 RetS z57
def z1094 (rows:List (List Int)) (ini:List Int) (acc:List Bool):Prop:=∀ x,RP rows ini x→Cyc rows x→acc.getD (x % acc.length).toNat false=false
theorem z1084 (acc:List Bool) {x:Int} (hx:0≤x):acc.getD (x % acc.length).toNat false=acc.getD (x.toNat % acc.length) false:=by
  obtain ⟨i,rfl⟩:∃ i:Nat,x=i:=⟨x.toNat,by omega⟩
  rw [← Int.natCast_emod,Int.toNat_natCast,Int.toNat_natCast]
section
variable {rows:List (List Int)} {ini:List Int} {acc:List Bool} {R:List Int}
theorem z636 (k:Nat):∀ u,Wt rows acc k u≤k:=by
  induction k with
  | zero=>intro u;exact Int.le_refl _
  | succ k ih =>
    intro u
    rw [Wt]
    refine z173 (by omega) fun v hv=>?_
    have:=ih v
    have:wtA acc u≤1:=by unfold wtA;split<;>omega
    omega
theorem z259 (z:Int):(rkL rows ini acc z).length=rows.length:=by simp [rkL]
theorem z768 (z:Int) {u:Int} (hu:0≤u∧u < rows.length):rk (rkL rows ini acc z) u=if RP rows ini u then Wt rows acc (bfsL rows ini).length u else z:=by
  unfold rk
  rw [z19 (by rw [z259];omega)]
  simp only [rkL,List.getElem_map,List.getElem_range,Int.toNat_of_nonneg hu.1]
theorem z675 (z:Int) {i:Nat} (hi:i < rows.length):(rkL rows ini acc z).getD i 0=if RP rows ini (i:Int) then Wt rows acc (bfsL rows ini).length i else z:=by
  have:=z768 (rows:=rows) (ini:=ini) (acc:=acc) z (u:=(i:Int)) ⟨by omega,by omega⟩
  unfold rk at this
  rwa [Int.toNat_natCast] at this
theorem rkL_cert (hr:∀ r∈rows,InN rows.length r) (hi:InN rows.length ini) (hno:z1094 rows ini acc) (hN:rows.length≤4000):z928 rows ini acc rows.length (rkL rows ini acc (-1)):=by
  have hm:=z245 hr hi rows.length
  refine ⟨z259 _,fun x hx=>?_,fun x hx=>?_,fun i hil h0 y hy=>?_⟩
  · obtain ⟨i,hil,rfl⟩:=List.mem_iff_getElem.1 hx
    have hil' : i < rows.length:=by rw [z259] at hil;exact hil
    rw [← z19 (d:=0) hil,z675 _ hil']
    split
    · have h1:=z515 (rows:=rows) (acc:=acc) (bfsL rows ini).length (i:Int)
      have h2:=z636 (rows:=rows) (acc:=acc) (bfsL rows ini).length (i:Int)
      unfold bfsL at h1 h2 ⊢
      omega
    · omega
  · rw [z768 _ (hi x hx),if_pos (.base hx)]
    exact z515 _ _
  · have hil' : i < rows.length:=by rw [z259] at hil;exact hil
    have hiy:=z178 hr (i:Int) y (by rw [Int.toNat_natCast];exact hy)
    rw [← z19 (d:=0) hil,z675 _ hil'] at h0 ⊢
    split at h0
    · rename_i hp
      rw [if_pos hp]
      have hpy:RP rows ini y:=.step hp (by rw [Int.toNat_natCast];exact hy)
      rw [z768 _ hiy,if_pos hpy]
      refine ⟨z515 _ _,?_⟩
      have h1:=z868 hr hi hno hp
      have h2:Wt rows acc (bfsL rows ini).length y+wtA acc i≤Wt rows acc ((bfsL rows ini).length+1) i:=(z85 (fun v=>Wt rows acc (bfsL rows ini).length v+wtA acc i) (rows.getD (i:Int).toNat []) 0).2 y (by rw [Int.toNat_natCast];exact hy)
      rw [h1] at h2
      unfold wtA at h2
      rw [z1084 acc (by omega),Int.toNat_natCast] at h2
      unfold less
      split at h2<;>split<;>simp_all<;>omega
    · omega
theorem z867 (hr : ∀ r ∈ rows, InN rows.length r) (hi : InN rows.length ini) (hno : z1094 rows ini acc) {r : Int} (h0 : 1 ≤ r) : ∀ (k : Nat) (u : Int), RP rows ini u → Wt rows acc k u = r → Wt rows acc (bfsL rows ini).length u = r → k ≤ (bfsL rows ini).length →
    ∃ v,RP rows ini v∧acc.getD (v % acc.length).toNat false=true∧Wt rows acc (bfsL rows ini).length v=r∧(r=1∨∃ w,RP rows ini w∧Wt rows acc (bfsL rows ini).length w=r - 1)
  | 0,u,hu,h1,_,_=>by have:(0:Int)=r:=h1;omega
  | k+1,u,hu,h1,h2,hk=>by
    rw [Wt] at h1
    rcases z286 (fun v=>Wt rows acc k v+wtA acc u) (rows.getD u.toNat []) 0 with h3|⟨v,hv,h3⟩
    · rw [h3] at h1;omega
    · rw [h3] at h1
      have hpv:RP rows ini v:=.step hu hv
      have h4:=z868 hr hi hno hu
      have h5:Wt rows acc (bfsL rows ini).length v+wtA acc u≤Wt rows acc ((bfsL rows ini).length+1) u:=(z85 (fun v=>Wt rows acc (bfsL rows ini).length v+wtA acc u) (rows.getD u.toNat []) 0).2 v hv
      rw [h4,h2] at h5
      have h6:=Wt_le (rows:=rows) (acc:=acc) (show k≤(bfsL rows ini).length by omega) v
      have h7:Wt rows acc (bfsL rows ini).length v+wtA acc u=r:=by omega
      by_cases ha:acc.getD (u % acc.length).toNat false=true
      · have hw:wtA acc u=1:=by unfold wtA;rw [if_pos ha]
        exact ⟨u,hu,ha,h2,.inr ⟨v,hpv,by omega⟩⟩
      · have hw:wtA acc u=0:=by unfold wtA;rw [if_neg ha]
        exact z867 hr hi hno h0 k v hpv (by omega) (by omega) (by omega)
end
end Go.Proofs.YtknlmbniicacmaaGreat

namespace Go.Proofs.YtknlmbniicacmaaGreat
open Go.Gl
attribute [local irreducible] z31 AWP z48 z52 z50 RetS z57
attribute [local irreducible] EndR
theorem z654 {g:Graph} {ls:List Int} {a:Aut} (hr:∀ r∈z26 g ls a,InN (z26 g ls a).length r) (hi:InN (z26 g ls a).length a.ini) (hn:a.ini.Nodup) (h:trcO g ls a=none):z1094 (z26 g ls a) a.ini a.acc:=by
  unfold trcO at h
  rw [Option.map_eq_none_iff,← z607 hr hi hn,z1018] at h
  intro x hx hc
  have hxN:=RP.in hr hi hx
  have:=h x ((z132 hr hi x).2 hx)
  cases hb:a.acc.getD (x % a.acc.length).toNat false with
  | false=>rfl
  | true =>
    exfalso
    apply this
    refine ⟨hb,z437.2 ?_⟩
    rw [Int.toNat_of_nonneg hxN.1];exact hc
set_option maxHeartbeats 6400000 in
theorem z704 (g:Graph) (hg:g.mx) (l:List Tree) (hl:Lmx l) (a:Aut) (ha:a.mx):CallsA Tryz.prog 32 [.agg g.cs,lst 3 Tree.cs' l,.agg a.cs] [] (.tup [.agg [.sref 0 0 (mkR g l a).length],.bool (mkOk g l a)]) [.cells 1 ((mkR g l a).map enI)]:=by
  have k0:=z290 g hg l hl a ha
  by_cases hgl:(glB g l && autB a)=true
  · rw [hgl] at k0
    obtain ⟨h1,hab⟩:=Bool.and_eq_true_iff.1 hgl
    have hG:=(z91 g).1 (by unfold glB at h1;exact (Bool.and_eq_true_iff.1 h1).1)
    have hL:=LabelsOk.of (by unfold glB at h1;exact (Bool.and_eq_true_iff.1 h1).2)
    have hA:=z108.1 hab
    have k1:CallsA Tryz.prog 40 [.agg g.cs,lst 3 Tree.cs' l,.agg a.cs] [] (.tup [.agg (ftL g l a).cs,.bool (ftO g l a).isSome]) []:=(by refine CallsA.settle (z215 g hg l hl a ha) [] [0,1] rfl rfl rfl ?_ ?_<;>(repeat' (first|exact LocLe.refl _|exact F2.nil|apply F2.cons|((apply z45 rfl rfl rfl);(focus ((repeat ((exact z41 (fun _=>rfl) _)));done));(focus (((simp;done));done)))|apply z44|apply z95)))
    have k2:=z282 g hG l hL a hA
    obtain ⟨f1,f2,f3,f4,f5⟩:=z111 hG hA (g.st.map (z32 l))
    have hnd:=hA.2.2.1.nd
    have hac:=hA.1
    have hft:ftO g l a=trcO g (g.st.map (z32 l)) a:=by unfold ftO;rw [if_pos hgl]
    have hmk:mkOk g l a=!(trcO g (g.st.map (z32 l)) a).isSome:=by unfold mkOk;rw [hgl];rfl
    have hno:=z654 (g:=g) (ls:=g.st.map (z32 l)) (a:=a) f1 f2 hnd
    have hmR:mkR g l a=if mkOk g l a=true then z532 (z26 g (g.st.map (z32 l)) a) a.ini a.acc else []:=rfl
    rw [hft] at k1
    rw [hmk] at hmR ⊢
    generalize ftL g l a=tl at *
    generalize mkR g l a=MR at *
    generalize trcO g (g.st.map (z32 l)) a=tO at *
    cases tO with
    | some p =>
      have e:MR=[]:=hmR
      subst e
      show CallsA _ _ _ _ (.tup [.agg [.sref 0 0 0],.bool false]) [.cells 1 []]
      refine z10 z18 Tryz.func32 rfl rfl 122 Tryz.ntmps32 (by simp) ?_
      repeat' ((first|(apply AWP.go ok;rfl)|(apply z9 (k0);rfl;rfl)|(apply z9 (k1);rfl;rfl))<;>conv=>whnf)
      all_goals skip
      all_goals (refine RetS.empty 1 ?_;refine RetS.lay [4] [] rfl rfl rfl ?_;refine RetS.done ?_ ?_<;>(repeat' (first|exact LocLe.refl _|exact z46|exact F2.nil|apply F2.cons|((refine z13 rfl ?_ ?_);(focus ((repeat' (exact z37));done)))|apply z44|apply z95)))
    | none =>
      have hno:=hno rfl
      have e:MR=z532 (z26 g (g.st.map (z32 l)) a) a.ini a.acc:=hmR
      rw [z846 f1 f2 hno] at e
      subst e
      generalize hrows:z26 g (g.st.map (z32 l)) a=rows at *
      clear hmR hmk hft hrows
      have k3':=z344 rows a.ini f1 f2 (by omega) f4 f5
      rw [← z89 rows a.ini] at k3'
      have k3:CallsA Tryz.prog 108 [lst 1 encL rows,ints a.ini] [] (lst 1 enB (z100 rows a.ini)) []:=(by refine CallsA.settle (k3') [] [0] rfl rfl rfl ?_ ?_<;>(repeat' (first|exact LocLe.refl _|exact F2.nil|((apply z45 rfl rfl rfl);(focus ((repeat ((exact z41 (fun _=>rfl) _)));done));(focus (((simp;done));done))))))
      clear k3'
      have k4:CallsA Tryz.prog 110 [lst 1 encL rows,ints a.ini] [] (ints (bfsL rows a.ini)) []:=(by refine CallsA.settle (z681 rows a.ini f1 f2 (by omega) f4 (by omega)) [] [0] rfl rfl rfl ?_ ?_<;>(repeat' (first|exact LocLe.refl _|exact F2.nil|((apply z45 rfl rfl rfl);(focus ((repeat ((exact z41 (fun _=>rfl) _)));done));(focus (((simp;done));done))))))
      have hQl:=z245 f1 f2 rows.length
      show CallsA _ _ _ _ (.tup [.agg [.sref 0 0 (rkL rows a.ini a.acc (-1)).length],.bool true]) [.cells 1 ((rkL rows a.ini a.acc (-1)).map enI)]
      refine z10 z18 Tryz.func32 rfl rfl 122 Tryz.ntmps32 (by simp) ?_
      repeat' ((first|(apply AWP.go ok;rfl)|(apply And.intro;(dsimp only;omega))|(apply z9 (k0);rfl;rfl)|(apply z9 (k1);rfl;rfl)|(apply z9 (k2);rfl;rfl)|(apply z9 (k3);rfl;rfl)|(apply z9 (k4);rfl;rfl))<;>conv=>whnf)
      all_goals skip
      have hQ4:(bfsL rows a.ini).length≤3840:=by unfold bfsL;omega
      have k5:=back_ok (bfsL rows a.ini) (by unfold maxLen;omega)
      have hRI:=RoundI.init (rows:=rows) (ini:=a.ini) (acc:=a.acc) f1 f2
      refine z64 (fun x:Nat×List Int×Bool=>([(5,.ptr 0 none 0),(6,.ptr 1 none 0),(10,.ptr 2 none 0),(11,.ptr 3 none 0),(13,lst 1 enB (z100 rows a.ini)),(14,.ptr 5 none 0),(15,ints (bfsL rows a.ini)),(16,.ptr 6 none 0)],[.cells 3 [a.cs],.cells 1 [[.nils]],.cells 1 [[.int a.acc.length]],.cells 1 [[lst 1 encL rows]],.cells 1 (x.2.1.map enI),.cells 1 [[.sref 4 0 rows.length]],.cells 1 [[.bool x.2.2]]])) (fun x=>RoundI rows a.ini a.acc x.1 x.2.1 x.2.2) (fun x=>match x.2.2 with
        | true=>(bfsL rows a.ini).length+1 - x.1+1
        | false=>0) (0,List.replicate rows.length 0,true) hRI (by refine SealW.reach [1,2,4,5,6,7,8] [] rfl rfl rfl rfl ?_ ?_<;>(repeat' (first|exact LocLe.refl _|exact F2.nil|apply F2.cons|apply ObjLe.box|((refine z13 rfl ?_ ?_);(focus ((repeat' (exact z65 rfl));done)))|exact True.intro|apply And.intro))<;>((refine z29 ?_;rw [Int.toNat_natCast,List.map_replicate];rfl))) ?_
      rintro ⟨t,R,c⟩ hI
      dsimp only at hI
      dsimp only
      have hRl:=hI.rk.len
      cases c with
      | false =>
        obtain ⟨qm,hqm⟩:∃ qm:Nat→Nat→Int,qm=fun (i j:Nat)=>if j < i∧¬ RP rows a.ini (j:Int) then -1 else R.getD j 0:=⟨_,rfl⟩
        have q0:fnL rows.length (qm 0)=R:=by
          apply List.ext_getElem (by rw [z97];exact hRl.symm)
          intro i h1 h2
          rw [z392,hqm]
          dsimp only
          rw [if_neg (by omega),z19 h2]
        have qE:fnL rows.length (qm rows.length)=rkL rows a.ini a.acc (-1):=by
          apply List.ext_getElem (by rw [z97,z259])
          intro i h1 h2
          have hi' : i < rows.length:=by rw [z97] at h1;exact h1
          rw [z392,← z19 (d:=0) h2,z675 _ hi',hqm]
          dsimp only
          by_cases hp:RP rows a.ini (i:Int)
          · rw [if_neg (by simp [hp]),if_pos hp]
            have:=hI.fin rfl (i:Int) hp
            rwa [Int.toNat_natCast] at this
          · rw [if_pos ⟨hi',hp⟩,if_neg hp]
        have qT:∀ i:Nat,¬ RP rows a.ini (i:Int)→qm (i+1)=upd (qm i) i (-1):=fun i hp=>by
          funext j
          by_cases h2:j=i
          · subst h2;rw [z28,hqm];dsimp only;rw [if_pos ⟨by omega,hp⟩]
          · rw [z43 _ _ h2,hqm];dsimp only
            by_cases h3:j < i
            · simp only [show j < i+1 by omega,h3]
            · simp only [show ¬ j < i+1 by omega,h3]
        have qF:∀ i:Nat,RP rows a.ini (i:Int)→qm (i+1)=qm i:=fun i hp=>by
          funext j
          rw [hqm];dsimp only
          by_cases h2:j=i
          · subst h2;rw [if_neg (by simp [hp]),if_neg (by simp [hp])]
          · by_cases h3:j < i
            · simp only [show j < i+1 by omega,h3]
            · simp only [show ¬ j < i+1 by omega,h3]
        clear hqm
        have hbl:=z89 rows a.ini
        repeat' (((apply AWP.go ok;rfl))<;>conv=>whnf)
        all_goals skip
        refine z64 (fun i:Nat=>([(6,.ptr 0 none 0),(13,lst 1 enB (z100 rows a.ini)),(14,.ptr 1 none 0),(107,.int rows.length),(108,.int i)],[.cells 1 [[.nils]],.cells 1 [[.sref 2 0 rows.length]],.cells 1 ((fnL rows.length (qm i)).map enI)])) (fun i=>i≤rows.length) (fun i=>rows.length - i) 0 (Nat.zero_le _) (by refine SealW.reach [1,5,4] [] rfl rfl rfl rfl ?_ ?_<;>(repeat' (first|exact LocLe.refl _|exact F2.nil|apply F2.cons|apply ObjLe.box|((refine z13 rfl ?_ ?_);(focus ((repeat' ((exact z6 (fun _=>rfl))));done)))|exact True.intro|apply And.intro))<;>((refine z29 ?_;rw [q0]))) ?_
        intro i hi
        by_cases hil:i < rows.length
        · have gm:((z100 rows a.ini).map enB)[i]?=some (enB (decide (RP rows a.ini (i:Int)))):=by
            rw [List.getElem?_map,List.getElem?_eq_getElem (by omega)]
            simp [z100]
          have g1:=z147 (qm i) hil
          have l1:=z97 rows.length (qm i)
          by_cases hp:RP rows a.ini (i:Int)
          · rw [decide_eq_true hp] at gm
            have e:=qF i hp
            generalize z100 rows a.ini=rb at *
            repeat' ((first|(apply AWP.go ok;rfl)|(refine z16 (i:=i) rfl gm ?_)|(apply And.intro;first|omega|(unfold inI;omega))|((apply z7)<;>intro _))<;>conv=>whnf)
            all_goals first|(exfalso;omega)|skip
            all_goals refine z23 (i+1) hil (by show rows.length - (i+1) < rows.length - i;omega) (by refine SealW.reach [0,1,2] [] rfl rfl rfl rfl ?_ ?_<;>(repeat' (first|exact LocLe.refl _|exact F2.nil|apply F2.cons|apply ObjLe.box|((refine z13 rfl ?_ ?_);(focus ((repeat' ((exact z6 (fun _=>rfl))));done)))|exact True.intro|apply And.intro))<;>((rw [e];(repeat' (exact z12 _)))))
          · rw [decide_eq_false hp] at gm
            have e1:=z130 (N:=rows.length) (u:=i) (qm i) (-1)
            rw [← qT i hp] at e1
            generalize z100 rows a.ini=rb at *
            repeat' ((first|(apply AWP.go ok;rfl)|(refine z16 (i:=i) rfl gm ?_)|(refine z16 (i:=i) rfl g1 ?_)|(apply And.intro;first|omega|(unfold inI;omega))|((apply z7)<;>intro _))<;>conv=>whnf)
            all_goals first|(exfalso;omega)|skip
            all_goals refine z23 (i+1) hil (by show rows.length - (i+1) < rows.length - i;omega) (by refine SealW.reach [0,1,2] [] rfl rfl rfl rfl ?_ ?_<;>(repeat' (first|exact LocLe.refl _|exact F2.nil|apply F2.cons|apply ObjLe.box|((refine z42 rfl ?_ ?_);(focus ((repeat' ((exact z6 (fun _=>rfl))));done)))|exact True.intro|apply And.intro))<;>((refine z29 ?_;exact e1)))
        obtain rfl:i=rows.length:=by omega
        rw [qE,z259]
        repeat' ((first|(apply AWP.go ok;rfl)|(apply And.intro;omega)|((first|(with_reducible apply z11;omega)|(apply z11;omega));intro _)|((first|apply z7|apply z82)<;>intro _))<;>conv=>whnf)
        all_goals first|(exfalso;omega)|skip
        all_goals (refine RetS.lay [2] [] rfl rfl rfl ?_;refine RetS.done ?_ ?_<;>(repeat' (first|exact LocLe.refl _|exact F2.nil|apply F2.cons|exact z12 _|((refine z13 rfl ?_ ?_);(focus ((repeat' ((exact z6 (fun _=>rfl))));done))))))
      | true =>
        have hps:=hI.pass f1 f2 hno
        have hlt:=hI.lt rfl
        repeat' ((first|(apply AWP.go ok;rfl)|(((apply z8 [] [] [7] (k5);rfl;(focus ((repeat' exact z4)<;>fail))));rfl;rfl;rfl;rfl;rfl;(focus ((repeat' first|exact z15|apply z14)<;>exact z20 rfl rfl));(exact .inl rfl)))<;>conv=>whnf)
        all_goals skip
        refine AWP.reach (SealW.reach (env:=[(5,.ptr 1 none 0),(6,.ptr 2 none 0),(10,.ptr 3 none 0),(11,.ptr 4 none 0),(13,lst 1 enB (z100 rows a.ini)),(14,.ptr 6 none 0),(15,ints (bfsL rows a.ini)),(16,.ptr 7 none 0),(59,.fn (.func 186) [] [.ptr 0 none 0])]) (objs:=[.cells 1 [[ints (bfsL rows a.ini)]],.cells 3 [a.cs],.cells 1 [[.nils]],.cells 1 [[.int a.acc.length]],.cells 1 [[lst 1 encL rows]],.cells 1 (R.map enI),.cells 1 [[.sref 5 0 rows.length]],.cells 1 [[.bool false]]]) [7,0,1,2,3,4,5,6] [] rfl rfl rfl rfl ?_ ?_) ?_
        · (repeat' (first|exact LocLe.refl _|exact True.intro|apply And.intro))
        · (repeat' (first|exact LocLe.refl _|exact F2.nil|apply F2.cons|exact z12 _|apply ObjLe.box|((refine z13 rfl ?_ ?_);(focus ((repeat' ((exact z6 (fun _=>rfl))));done)))))
        refine z633 (M:=8) (L:=bfsL rows a.ini) back1 ⟨_,_,Tryz.func186,rfl,rfl⟩ rfl (Nat.le_of_ble_eq_true rfl) (Nat.le_of_ble_eq_true rfl) (by unfold maxLen;omega) (by kernel_rfl) (by decide)
          (fun x:List Int×Bool=>[.cells 3 [a.cs],.cells 1 [[.nils]],.cells 1 [[.int a.acc.length]],.cells 1 [[lst 1 encL rows]],.cells 1 (x.1.map enI),.cells 1 [[.sref 5 0 rows.length]],.cells 1 [[.bool x.2]]])
          (fun k x=>pst rows a.acc (bfsL rows a.ini) R k=x) (R,false) rfl (fun _=>rfl) (z838 _ _) ?_ ?_
        · intro k x hk hx
          have hpi:=pst_inv (acc:=a.acc) f1 f2 hno hI.rk (k+1)
          have hpg:=z594 f1 f2 hRl hI.gr ((bfsL rows a.ini).length - (k+1)) (k+1) (by omega)
          have hst:=z837 (rows:=rows) (acc:=a.acc) (R:=R) hk
          rw [hx] at hpi hpg hst
          obtain ⟨R1,c1⟩:=x
          dsimp only at hpi hpg ⊢
          have hu:=(z132 f1 f2 _).1 (List.getElem_mem hk)
          generalize (bfsL rows a.ini)[k]=u at *
          have huN:=RP.in f1 f2 hu
          have hRl1:=hpi.len
          rw [z424] at hst
          dsimp only at hst
          have hgu:=hpg u hu
          have hle:=z989 (acc:=a.acc) (R:=R1) hu hpi.hi
          have hWs:=z636 (rows:=rows) (acc:=a.acc) ((bfsL rows a.ini).length+1) u
          have hrowR:∀ v∈rows.getD u.toNat [],RP rows a.ini v:=fun v hv=>.step hu hv
          have hv0:∀ v∈rows.getD u.toNat [],0≤R1.getD v.toNat 0∧R1.getD v.toNat 0≤4000:=fun v hv=>by
            have h1:=hpi.lo v (hrowR v hv)
            have h2:=hpi.hi v (hrowR v hv)
            have h3:=z515 (rows:=rows) (acc:=a.acc) t v
            have h4:=z636 (rows:=rows) (acc:=a.acc) (bfsL rows a.ini).length v
            omega
          have hrk:rkU rows a.acc R1 u=rkP R1 (rows.getD u.toNat [])+(if a.acc.getD (u % a.acc.length).toNat false=true∧0 < (rows.getD u.toNat []).length then 1 else 0):=rk_impl fun v hv=>(hv0 v hv).1
          have hm0:0≤u % (a.acc.length:Int):=Int.emod_nonneg _ (by omega)
          have hm1:u % (a.acc.length:Int) < a.acc.length:=Int.emod_lt_of_pos _ (by omega)
          have ga:(a.acc.map enB)[(u % (a.acc.length:Int)).toNat]?=some (enB (a.acc.getD (u % (a.acc.length:Int)).toNat false)):=by
            rw [List.getElem?_map,List.getElem?_eq_getElem (by omega),z19 (by omega)];rfl
          have grow:(rows.map encL)[u.toNat]?=some (encL (rows.getD u.toNat [])):=by
            rw [List.getElem?_map,List.getElem?_eq_getElem (by omega),z19 (by omega)];rfl
          have gu:(R1.map enI)[u.toNat]?=some (enI (R1.getD u.toNat 0)):=by
            rw [List.getElem?_map,List.getElem?_eq_getElem (by omega),z19 (by omega)];rfl
          have hrb:(rows.getD u.toNat []).length≤1000000000:=by rw [z19 (by omega)];exact f4 _ (List.getElem_mem _)
          have hrN:∀ v∈rows.getD u.toNat [],0≤v∧v < rows.length:=fun v hv=>RP.in f1 f2 (hrowR v hv)
          clear hrowR hle hpg hpi hx hps hI hRI hQl
          rw [hrk] at hst hgu
          clear hrk
          generalize rows.getD u.toNat []=row at *
          generalize a.acc.getD (u % (a.acc.length:Int)).toNat false=z at *
          have hpr:∀ j,0≤rkP R1 (row.take j)∧rkP R1 (row.take j)≤4000:=fun j=>⟨(z85 _ _ _).1,z173 (by omega) fun v hv=>(hv0 v (List.mem_of_mem_take hv)).2⟩
          repeat' ((first|(apply AWP.go ok;rfl)|(refine z16 (i:=u.toNat) rfl grow ?_)|(apply And.intro;omega))<;>conv=>whnf)
          all_goals skip
          refine z64 (fun j:Nat=>([(5,.ptr 1 none 0),(10,.ptr 3 none 0),(11,.ptr 4 none 0),(14,.ptr 6 none 0),(16,.ptr 7 none 0),(18,.int u),(19,.int (rkP R1 (row.take j))),(65,ints row),(66,.int row.length),(67,.int j)],[.cells 1 [[ints (bfsL rows a.ini)]],.cells 3 [a.cs],.cells 1 [[.nils]],.cells 1 [[.int a.acc.length]],.cells 1 [[lst 1 encL rows]],.cells 1 (R1.map enI),.cells 1 [[.sref 5 0 rows.length]],.cells 1 [[.bool c1]]])) (fun j=>j≤row.length) (fun j=>row.length - j) 0 (Nat.zero_le _) (by refine SealW.reach [0,1,2,3,4,5,6,7] [] rfl rfl rfl rfl ?_ ?_<;>(repeat' (first|exact LocLe.refl _|exact F2.nil|apply F2.cons|exact z12 _|apply ObjLe.box|((refine z13 rfl ?_ ?_);(focus ((repeat' ((exact z6 (fun _=>rfl))));done)))|exact True.intro|apply And.intro))) ?_
          intro j hj
          by_cases hjl:j < row.length
          · have gv:(row.map enI)[j]?=some (enI row[j]):=by rw [List.getElem?_map,List.getElem?_eq_getElem hjl];rfl
            have hvN:=hrN _ (List.getElem_mem hjl)
            have gR:(R1.map enI)[(row[j]).toNat]?=some (enI (R1.getD (row[j]).toNat 0)):=by
              rw [List.getElem?_map,List.getElem?_eq_getElem (by omega),z19 (by omega)];rfl
            have ht:=rkP_take (R:=R1) hjl
            have hp1:=hpr j
            have hv1:=hv0 _ (List.getElem_mem hjl)
            generalize row[j]=v at *
            generalize rkP R1 (row.take j)=q1 at *
            generalize R1.getD v.toNat 0=rv at *
            repeat' ((first|(apply AWP.go ok;rfl)|(apply z34;kernel_rfl)|(refine z16 (i:=j) rfl gv ?_)|(refine z16 (i:=v.toNat) rfl gR ?_)|(apply And.intro;first|omega|(unfold inI;omega))|((first|(with_reducible apply z69;omega)|(apply z11;omega));intro _)|((first|apply z7|apply z38|apply z92)<;>intro _))<;>conv=>whnf)
            all_goals first|(exfalso;omega)|skip
            all_goals refine z23 (j+1) (by show j+1≤_;omega) (by show row.length - (j+1) < row.length - j;omega) (by refine SealW.reach [0,1,2,3,4,5,6,7] [] rfl rfl rfl rfl ?_ ?_<;>(repeat' (first|exact LocLe.refl _|exact F2.nil|apply F2.cons|exact z12 _|(refine z96 ?_;omega)|apply ObjLe.box|((refine z13 rfl ?_ ?_);(focus ((repeat' ((exact z6 (fun _=>rfl))));done)))|exact True.intro|apply And.intro))<;>((rw [ht];(repeat' (fail)))))
          obtain rfl:j=row.length:=by omega
          rw [List.take_length]
          have hp1:=hpr row.length
          rw [List.take_length] at hp1
          clear hpr hv0 hrN
          generalize rkP R1 row=q at *
          have gs:∀ v,(R1.map enI).set u.toNat (enI v)=(R1.set u.toNat v).map enI:=fun v=>by rw [List.map_set]
          generalize R1.getD u.toNat 0=ru at *
          by_cases hz:z=true∧0 < row.length
          · rw [if_pos hz] at hst hgu
            obtain ⟨rfl,hrl⟩:=hz
            by_cases hc:ru < q+1
            · rw [if_pos hc] at hst
              have gs1:=gs (q+1)
              repeat' ((first|(apply AWP.go ok;rfl)|(apply z34;kernel_rfl)|(refine z16 (i:=u.toNat) rfl grow ?_)|(refine z16 (i:=(u % (a.acc.length:Int)).toNat) rfl ga ?_)|(refine z16 (i:=u.toNat) rfl gu ?_)|(apply And.intro;first|omega|(unfold inI;omega))|((first|(with_reducible apply z11;omega)|(apply z11;omega));intro _)|((first|apply z7|apply z38)<;>intro _))<;>conv=>whnf)
              all_goals first|(exfalso;omega)|skip
              all_goals exact EndR.mk (R1.set u.toNat (q+1),true) hst (by refine SealW.reach [0,1,2,3,4,5,6,7] [] rfl rfl rfl rfl ?_ ?_<;>(repeat' (first|exact LocLe.refl _|exact F2.nil|apply F2.cons|apply ObjLe.box|((refine z42 rfl ?_ ?_);(focus ((repeat' ((exact z6 (fun _=>rfl))));done)))|(refine z188 (by omega) ?_)|exact True.intro))<;>((refine z29 ?_;exact gs1)))
            · rw [if_neg hc] at hst
              repeat' ((first|(apply AWP.go ok;rfl)|(apply z34;kernel_rfl)|(refine z16 (i:=u.toNat) rfl grow ?_)|(refine z16 (i:=(u % (a.acc.length:Int)).toNat) rfl ga ?_)|(refine z16 (i:=u.toNat) rfl gu ?_)|(apply And.intro;first|omega|(unfold inI;omega))|((first|(with_reducible apply z11;omega)|(apply z11;omega));intro _)|((first|apply z7|apply z38)<;>intro _))<;>conv=>whnf)
              all_goals first|(exfalso;omega)|skip
              all_goals exact EndR.mk (R1,c1) hst (by refine SealW.reach [0,1,2,3,4,5,6,7] [] rfl rfl rfl rfl ?_ ?_<;>(repeat' (first|exact LocLe.refl _|exact F2.nil|apply F2.cons|exact z12 _|apply ObjLe.box|((refine z13 rfl ?_ ?_);(focus ((repeat' ((exact z6 (fun _=>rfl))));done)))|exact True.intro)))
          · rw [if_neg hz,Int.add_zero] at hst hgu
            cases z with
            | true =>
              have hrl:row.length=0:=by
                rcases Nat.eq_zero_or_pos row.length with h|h
                · exact h
                · exact absurd ⟨rfl,h⟩ hz
              by_cases hc:ru < q
              · rw [if_pos hc] at hst
                have gs1:=gs (q)
                repeat' ((first|(apply AWP.go ok;rfl)|(apply z34;kernel_rfl)|(refine z16 (i:=u.toNat) rfl grow ?_)|(refine z16 (i:=(u % (a.acc.length:Int)).toNat) rfl ga ?_)|(refine z16 (i:=u.toNat) rfl gu ?_)|(apply And.intro;omega)|((first|(with_reducible apply z11;omega)|(apply z11;omega));intro _)|((first|apply z7|apply z38)<;>intro _))<;>conv=>whnf)
                all_goals first|(exfalso;omega)|skip
                all_goals exact EndR.mk (R1.set u.toNat (q),true) hst (by refine SealW.reach [0,1,2,3,4,5,6,7] [] rfl rfl rfl rfl ?_ ?_<;>(repeat' (first|exact LocLe.refl _|exact F2.nil|apply F2.cons|apply ObjLe.box|((refine z42 rfl ?_ ?_);(focus ((repeat' ((exact z6 (fun _=>rfl))));done)))|(refine z188 (by omega) ?_)|exact True.intro))<;>((refine z29 ?_;exact gs1)))
              · rw [if_neg hc] at hst
                repeat' ((first|(apply AWP.go ok;rfl)|(apply z34;kernel_rfl)|(refine z16 (i:=u.toNat) rfl grow ?_)|(refine z16 (i:=(u % (a.acc.length:Int)).toNat) rfl ga ?_)|(refine z16 (i:=u.toNat) rfl gu ?_)|(apply And.intro;omega)|((first|(with_reducible apply z11;omega)|(apply z11;omega));intro _)|((first|apply z7|apply z38)<;>intro _))<;>conv=>whnf)
                all_goals first|(exfalso;omega)|skip
                all_goals exact EndR.mk (R1,c1) hst (by refine SealW.reach [0,1,2,3,4,5,6,7] [] rfl rfl rfl rfl ?_ ?_<;>(repeat' (first|exact LocLe.refl _|exact F2.nil|apply F2.cons|exact z12 _|apply ObjLe.box|((refine z13 rfl ?_ ?_);(focus ((repeat' ((exact z6 (fun _=>rfl))));done)))|exact True.intro)))
            | false =>
              by_cases hc:ru < q
              · rw [if_pos hc] at hst
                have gs1:=gs (q)
                repeat' ((first|(apply AWP.go ok;rfl)|(apply z34;kernel_rfl)|(refine z16 (i:=(u % (a.acc.length:Int)).toNat) rfl ga ?_)|(refine z16 (i:=u.toNat) rfl gu ?_)|(apply And.intro;omega)|((first|(with_reducible apply z11;omega)|(apply z11;omega));intro _)|((first|apply z7|apply z38)<;>intro _))<;>conv=>whnf)
                all_goals first|(exfalso;omega)|skip
                all_goals exact EndR.mk (R1.set u.toNat (q),true) hst (by refine SealW.reach [0,1,2,3,4,5,6,7] [] rfl rfl rfl rfl ?_ ?_<;>(repeat' (first|exact LocLe.refl _|exact F2.nil|apply F2.cons|apply ObjLe.box|((refine z42 rfl ?_ ?_);(focus ((repeat' ((exact z6 (fun _=>rfl))));done)))|(refine z188 (by omega) ?_)|exact True.intro))<;>((refine z29 ?_;exact gs1)))
              · rw [if_neg hc] at hst
                repeat' ((first|(apply AWP.go ok;rfl)|(apply z34;kernel_rfl)|(refine z16 (i:=(u % (a.acc.length:Int)).toNat) rfl ga ?_)|(refine z16 (i:=u.toNat) rfl gu ?_)|(apply And.intro;omega)|((first|(with_reducible apply z11;omega)|(apply z11;omega));intro _)|((first|apply z7|apply z38)<;>intro _))<;>conv=>whnf)
                all_goals first|(exfalso;omega)|skip
                all_goals exact EndR.mk (R1,c1) hst (by refine SealW.reach [0,1,2,3,4,5,6,7] [] rfl rfl rfl rfl ?_ ?_<;>(repeat' (first|exact LocLe.refl _|exact F2.nil|apply F2.cons|exact z12 _|apply ObjLe.box|((refine z13 rfl ?_ ?_);(focus ((repeat' ((exact z6 (fun _=>rfl))));done)))|exact True.intro)))
        · intro x hx
          rw [z836] at hx
          rw [hx] at hps
          obtain ⟨R1,c1⟩:=x
          dsimp only at hps ⊢
          conv=>whnf
          repeat' (((apply AWP.go ok;rfl))<;>conv=>whnf)
          all_goals skip
          have hμ:∀ c:Bool,(match c with
            | true=>(bfsL rows a.ini).length+1 - (t+1)+1
            | false=>0) < (bfsL rows a.ini).length+1 - t+1:=by
            intro c
            cases c
            · show 0 < _;omega
            · show (bfsL rows a.ini).length+1 - (t+1)+1 < _;omega
          all_goals refine z23 (t+1,R1,c1) hps (hμ c1) (by refine SealW.reach [1,2,3,4,5,6,8] [] rfl rfl rfl rfl ?_ ?_<;>(repeat' (first|exact LocLe.refl _|exact F2.nil|apply F2.cons|exact z12 _|apply ObjLe.box|((refine z13 rfl ?_ ?_);(focus ((repeat' ((exact z6 (fun _=>rfl))));done)))|exact True.intro|apply And.intro)))
  · have e:mkOk g l a=false:=by unfold mkOk;rw [(Bool.not_eq_true _).mp hgl];rfl
    have e2:mkR g l a=[]:=by unfold mkR;rw [e];rfl
    rw [e,e2]
    rw [(Bool.not_eq_true _).mp hgl] at k0
    show CallsA _ _ _ _ (.tup [.agg [.sref 0 0 0],.bool false]) [.cells 1 []]
    refine z10 z18 Tryz.func32 rfl rfl 122 Tryz.ntmps32 (by simp) ?_
    repeat' ((first|(apply AWP.go ok;rfl)|(apply z9 (k0);rfl;rfl))<;>conv=>whnf)
    all_goals skip
    all_goals (refine RetS.empty 1 ?_;refine RetS.lay [3] [] rfl rfl rfl ?_;refine RetS.done ?_ ?_<;>(repeat' (first|exact LocLe.refl _|exact z46|exact F2.nil|apply F2.cons|((refine z13 rfl ?_ ?_);(focus ((repeat' (exact z37));done)))|apply z44|apply z95)))
end Go.Proofs.YtknlmbniicacmaaGreat

namespace Go.Proofs.YtknlmbniicacmaaGreat
open Go.Gl
attribute [local irreducible] z31 AWP z48 z52 z50
end Go.Proofs.YtknlmbniicacmaaGreat

namespace Go.Proofs.YtknlmbniicacmaaGreat
open Go.Gl
attribute [local irreducible] z31 AWP z48 z52 z50
end Go.Proofs.YtknlmbniicacmaaGreat

namespace Go.Proofs.YtknlmbniicacmaaGreat
open Go.Gl
attribute [local irreducible] z31 AWP z48 z52 z50 RetS z57
theorem z456 (g:Graph) (hg:g.mx) (l:List Tree) (hl:Lmx l) (a:Aut) (ha:a.mx):CallsA Tryz.prog 50 [.agg g.cs,lst 3 Tree.cs' l,.agg a.cs] [] (.tup [.agg (Cert.mk (mkR g l a)).cs,.bool (mkOk g l a)]) []:=(by refine CallsA.settle (z663 g hg l hl a ha) [] [0] rfl rfl rfl ?_ ?_<;>(repeat' (first|exact LocLe.refl _|exact F2.nil|apply F2.cons|((apply z45 rfl rfl rfl);(focus ((repeat ((exact z41 (fun _=>rfl) _)));done));(focus (((simp;done));done)))|apply z44|apply z95)))
theorem z320 (g:Graph) (hg:g.mx) (l:List Tree) (hl:Lmx l) (a:Aut) (ha:a.mx):CallsA Tryz.prog 32 [.agg g.cs,lst 3 Tree.cs' l,.agg a.cs] [] (.tup [.agg (Cert.mk (mkR g l a)).cs,.bool (mkOk g l a)]) []:=(by refine CallsA.settle (z704 g hg l hl a ha) [] [0] rfl rfl rfl ?_ ?_<;>(repeat' (first|exact LocLe.refl _|exact F2.nil|apply F2.cons|((apply z45 rfl rfl rfl);(focus ((repeat ((exact z41 (fun _=>rfl) _)));done));(focus (((simp;done));done)))|apply z44|apply z95)))
end Go.Proofs.YtknlmbniicacmaaGreat

namespace Go.Proofs.YtknlmbniicacmaaGreat
open Go.Gl
attribute [local irreducible] z31 AWP z48 z52 z50 RetS z57
def shR (m r:Int):Int:=if 0≤r then r+m else r
def shL (R:List Int) (m:Int):List Int:=R.map (shR m)
end Go.Proofs.YtknlmbniicacmaaGreat

namespace Go.Proofs.YtknlmbniicacmaaGreat
open Go.Gl
attribute [local irreducible] z31 AWP z48 z52 z50 RetS z57
theorem Aut.sm.mx' {a:Aut} (ha:a.sm):a.mx:=⟨by have:=ha.1;unfold maxLen;omega,by have:=ha.2.1;unfold maxLen;omega,by have:=ha.2.2.1;unfold maxLen;omega,ha.2.2.2⟩
theorem z715 (bs:List Int) (hb:CodeOk bs):∃ (g:Graph) (l:List Tree) (a:Aut),(g.d∧Lab.d l∧a.sm)∧CallsA Tryz.prog 68 [lst 1 enU bs] [] (.tup [.agg g.cs,lst 3 Tree.cs' l,.agg a.cs]) []:=by
  have co:=z556 bs hb.len
  have hbt:=hb.take
  generalize bs.take 2000=b0 at *
  obtain ⟨g,l,a,p1,⟨hg,hl,ha,q1,q2⟩,c1⟩:=z550 b0 hbt 0 ⟨by omega,by omega⟩
  refine ⟨g,l,a,⟨hg,hl,ha⟩,?_⟩
  refine z10 z18 Tryz.func68 rfl rfl 11 Tryz.ntmps68 (by simp) ?_
  repeat' ((first|(apply AWP.go ok;rfl)|((first|(apply z8 [] [] [2] (co);rfl;(focus ((repeat' exact z4)<;>fail)))|(apply z8 [2] [] [] (c1);rfl;(focus ((repeat' first|exact z4|apply z5)<;>rfl))));rfl;rfl;rfl;rfl;rfl;(focus ((repeat' first|exact z15|apply z14)<;>exact z20 rfl rfl));(exact .inl rfl)))<;>conv=>whnf)
  all_goals skip
  all_goals (refine RetS.lay [] [] rfl rfl rfl ?_;refine RetS.done ?_ ?_<;>(repeat' (first|exact LocLe.refl _|exact F2.nil)))
structure MkF (g:Graph) (l:List Tree) (a:Aut):Prop where
  gl:(glB g l && autB a)=true
  f1:∀ r∈z26 g (g.st.map (z32 l)) a,InN (z26 g (g.st.map (z32 l)) a).length r
  f2:InN (z26 g (g.st.map (z32 l)) a).length a.ini
  f3:(z26 g (g.st.map (z32 l)) a).length≤3840
  len:(z26 g (g.st.map (z32 l)) a).length=g.st.length * a.acc.length
  no:z1094 (z26 g (g.st.map (z32 l)) a) a.ini a.acc
  eq:mkR g l a=rkL (z26 g (g.st.map (z32 l)) a) a.ini a.acc (-1)
theorem z427 {g:Graph} {l:List Tree} {a:Aut} (h:mkOk g l a=true):MkF g l a:=by
  have h0:=h
  unfold mkOk at h
  obtain ⟨h1,h2⟩:=Bool.and_eq_true_iff.1 h
  obtain ⟨h3,hab⟩:=Bool.and_eq_true_iff.1 h1
  have hG:=(z91 g).1 (by unfold glB at h3;exact (Bool.and_eq_true_iff.1 h3).1)
  have hA:=z108.1 hab
  obtain ⟨f1,f2,f3,f4,f5⟩:=z111 hG hA (g.st.map (z32 l))
  have hno:=z654 (g:=g) (ls:=g.st.map (z32 l)) (a:=a) f1 f2 hA.2.2.1.nd (by
    cases ht:trcO g (g.st.map (z32 l)) a with
    | none=>rfl
    | some p=>rw [ht] at h2;cases h2)
  refine ⟨h1,f1,f2,f3,by unfold z26;rw [z83,Nat.mul_comm],hno,?_⟩
  unfold mkR
  rw [if_pos h0,z846 f1 f2 hno]
theorem mk_cert {g:Graph} {l:List Tree} {a:Aut} (h:mkOk g l a=true):z629 g l a ⟨mkR g l a⟩=true:=by
  have F:=z427 h
  unfold z629
  rw [F.gl,Bool.true_and]
  refine decide_eq_true ?_
  show z928 _ _ _ _ (mkR g l a)
  rw [F.eq,← F.len]
  exact rkL_cert F.f1 F.f2 F.no (by have:=F.f3;omega)
end Go.Proofs.YtknlmbniicacmaaGreat

namespace Go.Proofs.YtknlmbniicacmaaGreat
open Go.Gl
attribute [local irreducible] z31 AWP z48 z52 z50 RetS z57
theorem z1055 (bs:List Int) (hb:CodeOk bs):∃ (g:Graph) (l:List Tree) (a:Aut),(g.d∧Lab.d l∧a.sm)∧CallsA Tryz.prog 29 [lst 1 enU bs] [] (.tup [.agg g.cs,lst 3 Tree.cs' l,.agg a.cs]) []:=by
  have co:=z556 bs hb.len
  have hbt:=hb.take
  generalize bs.take 2000=b0 at *
  obtain ⟨g,l,a,p1,⟨hg,hl,ha,q1,q2⟩,c1⟩:=z550 b0 hbt 0 ⟨by omega,by omega⟩
  refine ⟨g,l,a,⟨hg,hl,ha⟩,?_⟩
  refine z10 z18 Tryz.func29 rfl rfl 11 Tryz.ntmps29 (by simp) ?_
  repeat' ((first|(apply AWP.go ok;rfl)|((first|(apply z8 [] [] [2] (co);rfl;(focus ((repeat' exact z4)<;>fail)))|(apply z8 [2] [] [] (c1);rfl;(focus ((repeat' first|exact z4|apply z5)<;>rfl))));rfl;rfl;rfl;rfl;rfl;(focus ((repeat' first|exact z15|apply z14)<;>exact z20 rfl rfl));(exact .inl rfl)))<;>conv=>whnf)
  all_goals skip
  all_goals (refine RetS.lay [] [] rfl rfl rfl ?_;refine RetS.done ?_ ?_<;>(repeat' (first|exact LocLe.refl _|exact F2.nil)))
structure PrF (g:Graph) (l:List Tree) (a:Aut):Prop where
  len:(prB g l a).length=g.st.length * a.acc.length
  ini:∀ x∈a.ini,(0≤x∧x < (prB g l a).length)∧(prB g l a).getD x.toNat false=true
  made:mkOk g l a=true→(mkR g l a).length=(prB g l a).length∧∀ i,i < (prB g l a).length→(prB g l a).getD i false=decide (0≤(mkR g l a).getD i 0)
theorem pr_facts {g:Graph} {l:List Tree} {a:Aut} (h1:(glB g l && autB a)=true):PrF g l a:=by
  obtain ⟨h3,hab⟩:=Bool.and_eq_true_iff.1 h1
  have hG:=(z91 g).1 (by unfold glB at h3;exact (Bool.and_eq_true_iff.1 h3).1)
  have hA:=z108.1 hab
  obtain ⟨f1,f2,f3,f4,f5⟩:=z111 hG hA (g.st.map (z32 l))
  have e:prB g l a=z100 (z26 g (g.st.map (z32 l)) a) a.ini:=by unfold prB;rw [if_pos h1]
  have hlen:(z26 g (g.st.map (z32 l)) a).length=g.st.length * a.acc.length:=by unfold z26;rw [z83,Nat.mul_comm]
  have hat:∀ i,i < (z26 g (g.st.map (z32 l)) a).length→(prB g l a).getD i false=decide (RP (z26 g (g.st.map (z32 l)) a) a.ini (i:Int)):=fun i hi=>by
    rw [e,z19 (by rw [z89];exact hi)]
    simp [z100]
  refine ⟨by rw [e,z89,hlen],fun x hx=>?_,fun hm=>?_⟩
  · have:=f2 x hx
    refine ⟨by rw [e,z89];exact this,?_⟩
    rw [hat _ (by omega),Int.toNat_of_nonneg this.1]
    exact decide_eq_true (.base hx)
  · have F:=z427 hm
    refine ⟨by rw [F.eq,z259,e,z89],fun i hi=>?_⟩
    rw [e,z89] at hi
    rw [hat i hi,F.eq,z675 _ hi]
    by_cases hp:RP (z26 g (g.st.map (z32 l)) a) a.ini (i:Int)
    · rw [if_pos hp,decide_eq_true hp,decide_eq_true (z515 _ _)]
    · rw [if_neg hp,decide_eq_false hp];rfl
set_option maxHeartbeats 6400000 in
theorem z387 (c:List Int) (hc:CodeOk c):CallsA Tryz.prog 5 [lst 1 enU c] [] (.bool true) []:=by
  obtain ⟨g,l,a,⟨hg,hl,ha⟩,cd⟩:=z1055 c hc
  have hgm:=hg.mx
  have hlm:=hl.mx
  have ham:=Aut.sm.mx' ha
  have hlen:=hc.len
  unfold maxLen at hlen
  have k1:=keepB (z126 g hgm l hlm a ham) rfl rfl
  have k2:=z312 g hgm l hlm a ham
  have k3:=z320 g hgm l hlm a ham
  have hBl:=prB_le g l a
  change CallsA _ _ _ _ (.tup [.agg [ints (mkR g l a)],_]) _ at k3
  by_cases hv:(glB g l && autB a)=true
  · have F:=pr_facts hv
    obtain ⟨pf1,pf2,pf3⟩:=F
    have hil:a.ini.length≤1048576:=by
      have:=ha.1;omega
    rw [hv] at k1 k2
    generalize mkR g l a=M at *
    generalize mkOk g l a=ok1 at *
    generalize prB g l a=B at *
    have hm:((g.st.length:Nat):Int) * (a.acc.length:Nat)=(B.length:Int):=by rw [pf1];simp
    have hm2:0≤((g.st.length:Nat):Int) * (a.acc.length:Nat)∧((g.st.length:Nat):Int) * (a.acc.length:Nat)≤4000:=by rw [hm];omega
    refine z10 z18 Tryz.func5 rfl rfl 125 Tryz.ntmps5 (by simp) ?_
    repeat' ((first|(apply AWP.go ok;rfl)|((first|apply z7|apply z38)<;>intro _)|(apply z9 (cd);rfl;rfl)|(apply z9 (k1);rfl;rfl)|(apply z9 (k2);rfl;rfl))<;>conv=>whnf)
    all_goals first|(exfalso;omega)|(refine RetS.lay [] [] rfl rfl rfl ?_;refine RetS.done ?_ ?_<;>(repeat' (first|exact LocLe.refl _|exact F2.nil)))|skip
    all_goals
      refine z64 (fun i:Nat=>([(3,.ptr 0 none 0),(4,lst 3 Tree.cs' l),(5,.ptr 1 none 0),(6,lst 1 enB B),(8,lst 1 enB B),(10,.int i)],[.cells 2 [g.cs],.cells 3 [a.cs]])) (fun i=>i≤a.ini.length) (fun i=>a.ini.length - i) 0 (Nat.zero_le _) (by refine SealW.reach [0,1] [] rfl rfl rfl rfl ?_ ?_<;>(repeat' (first|exact LocLe.refl _|exact F2.nil|apply F2.cons|apply ObjLe.box|exact True.intro|apply And.intro))) ?_
      intro i hi
      by_cases hi2:i < a.ini.length
      · have g1:(a.ini.map enI)[i]?=some (enI a.ini[i]):=by rw [List.getElem?_map,List.getElem?_eq_getElem hi2];rfl
        obtain ⟨hx1,hx2⟩:=pf2 _ (List.getElem_mem hi2)
        generalize a.ini[i]=x at *
        have g2:(B.map enB)[x.toNat]?=some (enB true):=by rw [List.getElem?_map,List.getElem?_eq_getElem (by omega),← z19 (d:=false) (by omega),hx2];rfl
        repeat' ((first|(apply AWP.go ok;rfl)|(refine z16 (i:=i) rfl g1 ?_)|(refine z16 (i:=x.toNat) rfl g2 ?_)|(apply And.intro;first|omega|(unfold inI;omega))|((apply z7)<;>intro _))<;>conv=>whnf)
        all_goals first|(exfalso;omega)|skip
        all_goals refine z23 (i+1) hi2 (by omega) (by refine SealW.reach [0,1] [] rfl rfl rfl rfl ?_ ?_<;>(repeat' (first|exact LocLe.refl _|exact F2.nil|apply F2.cons|apply ObjLe.box|exact True.intro|apply And.intro)))
      · repeat' ((first|(apply AWP.go ok;rfl)|(apply And.intro;omega)|((first|(with_reducible apply z11;omega)|(with_reducible apply z69;omega));intro _)|((first|apply z7|apply z82)<;>intro _)|(apply z9 (k3);rfl;rfl))<;>conv=>whnf)
        all_goals first|(exfalso;omega)|skip
        all_goals
          refine z64 (fun i:Nat=>([(3,.ptr 0 none 0),(5,.ptr 1 none 0),(6,lst 1 enB B),(8,lst 1 enB B),(11,.ptr 2 none 0),(12,.bool ok1),(13,.int i)],[.cells 2 [g.cs],.cells 3 [a.cs],.cells 1 [[ints M]]])) (fun i=>i≤B.length) (fun i=>B.length - i) 0 (Nat.zero_le _) (by refine SealW.reach [0,1,2] [] rfl rfl rfl rfl ?_ ?_<;>(repeat' (first|exact LocLe.refl _|exact F2.nil|apply F2.cons|apply ObjLe.box|exact True.intro|apply And.intro))) ?_
          intro k hk
          by_cases hk2:k < B.length
          · have g3:(B.map enB)[k]?=some (enB (B.getD k false)):=by rw [List.getElem?_map,List.getElem?_eq_getElem hk2,z19 hk2];rfl
            cases ok1 with
            | false =>
              generalize B.getD k false=b at *
              repeat' ((first|(apply AWP.go ok;rfl)|(apply z34;kernel_rfl)|(refine z16 (i:=k) rfl g3 ?_)|(apply And.intro;first|omega|(unfold inI;omega))|((first|apply z7|apply z38)<;>intro _))<;>conv=>whnf)
              all_goals first|(exfalso;omega)|(exfalso;contradiction)|skip
              all_goals refine z23 (k+1) hk2 (by omega) (by refine SealW.reach [0,1,2] [] rfl rfl rfl rfl ?_ ?_<;>(repeat' (first|exact LocLe.refl _|exact F2.nil|apply F2.cons|apply ObjLe.box|exact True.intro|apply And.intro)))
            | true =>
              obtain ⟨m1,m2⟩:=pf3 rfl
              have g4:(M.map enI)[k]?=some (enI (M.getD k 0)):=by rw [List.getElem?_map,List.getElem?_eq_getElem (by omega),z19 (by omega)];rfl
              rw [m2 k hk2] at g3
              generalize M.getD k 0=y at *
              by_cases hy:0≤y
              · rw [decide_eq_true hy] at g3
                repeat' ((first|(apply AWP.go ok;rfl)|(apply z34;kernel_rfl)|(refine z16 (i:=k) rfl g3 ?_)|(refine z16 (i:=k) rfl g4 ?_)|(apply And.intro;first|omega|(unfold inI;omega))|((first|apply z7|apply z38)<;>intro _))<;>conv=>whnf)
                all_goals first|(exfalso;omega)|(exfalso;rename_i hx;exact hx (decide_eq_true hy).symm)|skip
                all_goals refine z23 (k+1) hk2 (by omega) (by refine SealW.reach [0,1,2] [] rfl rfl rfl rfl ?_ ?_<;>(repeat' (first|exact LocLe.refl _|exact F2.nil|apply F2.cons|apply ObjLe.box|exact True.intro|apply And.intro)))
              · rw [decide_eq_false hy] at g3
                repeat' ((first|(apply AWP.go ok;rfl)|(apply z34;kernel_rfl)|(refine z16 (i:=k) rfl g3 ?_)|(refine z16 (i:=k) rfl g4 ?_)|(apply And.intro;first|omega|(unfold inI;omega))|((first|apply z7|apply z38)<;>intro _))<;>conv=>whnf)
                all_goals first|(exfalso;omega)|(exfalso;rename_i hx;exact hx (decide_eq_false hy).symm)|skip
                all_goals refine z23 (k+1) hk2 (by omega) (by refine SealW.reach [0,1,2] [] rfl rfl rfl rfl ?_ ?_<;>(repeat' (first|exact LocLe.refl _|exact F2.nil|apply F2.cons|apply ObjLe.box|exact True.intro|apply And.intro)))
          · repeat' ((first|(apply AWP.go ok;rfl)|(apply z34;kernel_rfl)|(refine And.intro ?_ ?_;(focus (unfold inI;omega)))|(apply And.intro;omega)|(((with_reducible apply z11;omega));intro _)|((first|apply z7|apply z38|apply z92)<;>intro _))<;>conv=>whnf)
            all_goals first|(exfalso;omega)|skip
            all_goals refine RetS.lay [] [] rfl rfl rfl ?_
            all_goals exact RetS.done (z808 (by rw [hm];simp)) .nil
  · rw [(Bool.not_eq_true _).mp hv] at k1 k2
    have e0:prB g l a=[]:=by unfold prB;rw [if_neg hv]
    rw [e0] at k1 k2
    refine z10 z18 Tryz.func5 rfl rfl 125 Tryz.ntmps5 (by simp) ?_
    repeat' ((first|(apply AWP.go ok;rfl)|((apply z7)<;>intro _)|(apply z9 (cd);rfl;rfl)|(apply z9 (k1);rfl;rfl)|(apply z9 (k2);rfl;rfl))<;>conv=>whnf)
    all_goals (refine RetS.lay [] [] rfl rfl rfl ?_;refine RetS.done ?_ ?_<;>(repeat' (first|exact LocLe.refl _|exact F2.nil)))
end Go.Proofs.YtknlmbniicacmaaGreat

namespace Go.Proofs.YtknlmbniicacmaaGreat
open Go.Gl
attribute [local irreducible] z31 AWP z48 z52 z50 RetS z57
end Go.Proofs.YtknlmbniicacmaaGreat

