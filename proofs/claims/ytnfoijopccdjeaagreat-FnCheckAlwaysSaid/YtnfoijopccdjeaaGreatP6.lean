/- A part of the proofs over this program: T152, T230, T231, T39, T232, T38, T40, T41, T42, T153, T233, T234, T235, T236, T185, T64, T65, T66, T154, T155, T156. -/
import Derived.Test.YtnfoijopccdjeaaGreatG0
import Derived.Test.YtnfoijopccdjeaaGreatG1
import Derived.Test.YtnfoijopccdjeaaGreatG2
import Derived.Test.YtnfoijopccdjeaaGreatG3
import Derived.Test.YtnfoijopccdjeaaGreatP0
import Derived.Test.YtnfoijopccdjeaaGreatP1
import Derived.Test.YtnfoijopccdjeaaGreatP2
import Derived.Test.YtnfoijopccdjeaaGreatP3
import Derived.Test.YtnfoijopccdjeaaGreatP4
import Derived.Test.YtnfoijopccdjeaaGreatP5
set_option linter.all false
namespace Go.Proofs.YtnfoijopccdjeaaGreat
open Go.Gl
attribute [local irreducible] z18 AWP z33 z37 z34 RetS z40
def eT (e:Edg):Trans:=⟨e.src,e.care,e.val,e.dst⟩
noncomputable def z336 (n0:Nat) (x:TrS):Aut:=⟨numI n0,if x.L.length=0 then [false] else x.acc,x.ed.map eT⟩
noncomputable def trO (t:Tree):Option Aut:=if bscB t=true then (trS (bscL (t.nrm false)) (t.nrm false)).map (z336 (iniS (bscL (t.nrm false)) (t.nrm false)).length) else none
noncomputable def trA (t:Tree):Aut:=(trO t).getD ⟨[],[],[]⟩
noncomputable def tsB (t:Tree):Bool:=(trO t).isSome
theorem z568 {t:Tree} (ht:t.fmB=true) (hn:(t.nrm false).fmB=true) (h5:(bscL (t.nrm false)).length≤5) (hs:t.sz≤200):BasL (bscL (t.nrm false))∧In (·∈bscL (t.nrm false)) (t.nrm false)∧(t.nrm false).sz≤1000:=by
 have hg:=y25 ht
 have hz:=y30 t hg false
 obtain ⟨a1,a2,a3,a4,a5,a6⟩:=z1044 (y25 hn) (nrm_NF t hg false)
 exact ⟨⟨h5,a1,fun x hx=>by have:=a2 x hx;omega,a3,a4,a5⟩,a6,by omega⟩
theorem z994 {n:Nat} (h:n≤5):1≤2 ^ n∧2 ^ n≤32:=by
 have:n=0∨n=1∨n=2∨n=3∨n=4∨n=5:=by omega
 rcases this with rfl|rfl|rfl|rfl|rfl|rfl<;>decide
set_option maxHeartbeats 12800000 in
theorem z1080 (t:Tree) (hs:t.sz≤200):CallsA Tryz.prog 178 [z20 Tree.cs' t] [] (.tup [.agg [.sref 0 0 (trA t).ini.length,.sref 1 0 (trA t).acc.length,.sref 2 0 (trA t).ed.length],.bool (tsB t)]) [.cells 1 ((trA t).ini.map enI),.cells 1 ((trA t).acc.map enB),.cells 4 ((trA t).ed.map Trans.cs)]:=by
 have cb:=z1203 t hs
 have cn:=z390 t (by omega)
 unfold trA tsB trO
 by_cases h:bscB t=true
 ·obtain ⟨⟨ht,hn⟩,h5⟩:=of_decide_eq_true (show decide _=true from h)
  obtain ⟨hB,hIn,hsz⟩:=z568 ht hn h5 hs
  rw [if_pos h] at cb ⊢
  rw [h] at cb
  rw [if_pos ⟨ht,hn⟩,y81 ⟨ht,hn⟩] at cn
  clear h ht hn
  generalize t.nrm false=g at *
  generalize bscL g=B at *
  have hp:=z994 h5
  have cU:=z877 B (by omega)
  have hi0:=z685 B g
  have hul:(untB B).length≤B.length:=z256 B B.length
  have e2:((1:Int) * 2 ^ ((B.length:Int).toNat))=((2 ^ B.length:Nat):Int):=by
   rw [y76,Int.one_mul];norm_cast
  have hw:IntKind.u64.wrap (B.length:Int)=B.length:=by
   have:B.length=0∨B.length=1∨B.length=2∨B.length=3∨B.length=4∨B.length=5:=by omega
   rcases this with h|h|h|h|h|h<;>rw [h]<;>rfl
  rw [y16 t] at cb cn ⊢
  have cV:=fun s a b=>z170 B hB s a b g hIn hsz
  rw [y16 g] at cn cV
  refine z7 z14 Tryz.func178 rfl rfl 137 Tryz.ntmps178 (by simp) ?_
  repeat' ((first|(apply y4 ok;rfl)|(apply y43;first|omega|(unfold inI;omega))|(apply z4 (cb);rfl;rfl)|(apply z4 (cn);rfl;rfl)|(apply z4 (cU);rfl;rfl))<;>conv=>whnf)
  refine y84 (y87 1 rfl) ?_
  refine y84 (y87 1 rfl) ?_
  refine y84 (y87 4 rfl) ?_
  refine z64 (fun x:Nat×List (List Int)×List Int=>([(2,.ptr 0 none 0),(4,lst 3 Tree.cs' B),(6,.ptr 1 none 0),(8,.int ((2 ^ B.length:Nat):Int)),(9,ints (untB B)),(10,.ptr 2 none 0),(11,.sref 3 0 x.2.1.length),(12,.int x.1)],[.cells 3 [[.nils,.nils,.nils]],.cells 3 [[.int g.kind,.int g.val,lst 3 Tree.cs' g.kids]],.cells 3 [[.sref 4 0 x.2.2.length,.sref 5 0 0,.sref 6 0 0]],.cells 1 (x.2.1.map encL),.cells 1 (x.2.2.map enI),.cells 1 [],.cells 4 []])) (fun x=>x.1≤2 ^ B.length∧iniK B (fun s=>vlB B (s:Nat) g) x.1=x.2.1∧numI x.2.1.length=x.2.2) (fun x=>2 ^ B.length - x.1) (0,[],[]) ⟨y53 _,rfl,rfl⟩ (by refine swR [1,2,3,4,5,6,7] [] rfl rfl ?_;(repeat' first|exact y85 _|exact z49|(refine z224 ?_;omega)|apply y86|refine z10 rfl (z30) ?_|constructor)<;>((rw [e2];exact y85 _))) ?_
  rintro ⟨k,L,N⟩ ⟨hk,hL,hN⟩
  dsimp only at hk hL hN ⊢
  have hLl:=z948 B (fun s=>vlB B (s:Nat) g) k
  rw [hL] at hLl
  have nl:=z477 L.length
  have ns:=z757 L.length
  rw [hN] at nl ns
  by_cases hkl:k < 2 ^ B.length
  ·have hsu:=z786 B (fun s=>vlB B (s:Nat) g) k
   rw [hL] at hsu
   have cv:=cV k (by omega) (by omega)
   generalize vlB B (k:Nat) g=z at *
   cases z
   ·rw [if_neg (by simp),y64] at hsu
    repeat' ((first|(apply y4 ok;rfl)|(apply y43;(unfold inI;omega))|((apply z6)<;>intro _)|(apply z4 (cv);rfl;rfl))<;>conv=>whnf)
    all_goals try (exfalso;omega)
    all_goals refine z27 (k+1,L,N) ⟨by show k+1≤_;omega,hsu,hN⟩ (by show 2 ^ B.length - (k+1) < 2 ^ B.length - k;omega) (by refine swR [0,1,2,3,4,5,6] [] rfl rfl ?_;(repeat' first|exact y85 _|exact z12 _|apply y86|((refine z10 rfl ?_ ?_);(focus ((repeat' (first|exact z30|exact z5 (fun _=>rfl)));done)))|constructor))
   ·rw [if_pos rfl] at hsu
    repeat' ((first|(apply y4 ok;rfl)|(apply y43;first|(unfold inI;omega)|((try dsimp only);simp only [y49,y48,y47,y46,y57,y58];omega)|exact ⟨rfl,z21 rfl z31⟩)|((apply z6)<;>intro _)|(apply z4 (cv);rfl;rfl))<;>conv=>whnf)
    all_goals try (exfalso;omega)
    all_goals refine z27 (k+1,L++[[(k:Int),0]],N++[(L.length:Int)]) ⟨by show k+1≤_;omega,hsu,by show numI (L++[[(k:Int),0]]).length=_;rw [y47];exact ns⟩ (by show 2 ^ B.length - (k+1) < 2 ^ B.length - k;omega) (by refine swR [0,1,2,11,8,5,6] [9] rfl rfl ?_;(repeat' first|exact y85 _|(refine z45 ?_;((simp;done)))|apply y86|((first|refine z43 rfl ?_ ?_|refine z10 rfl ?_ ?_);(focus ((repeat' (first|exact z30|exact z5 (fun _=>rfl)|apply z28));done)))|(refine z68 ?_ ?_;(focus (omega)))|constructor))
  ·obtain rfl:k=2 ^ B.length:=by omega
   have hrows:=iniK_row B (fun s=>vlB B (s:Nat) g) (2 ^ B.length) B.length (untB B) (y52 _)
   rw [hL] at hrows
   have hL0:iniS B g=L:=hL
   have hR:goS B (untB B) 65 0 ⟨L,[],[]⟩=trS B g:=by rw [← hL0];rfl
   have hO:z336 L.length=fun x=>⟨N,if x.L.length=0 then [false] else x.acc,x.ed.map eT⟩:=by unfold z336;rw [hN]
   rw [hL0,hO]
   clear hO
   clear hL hkl cV cb cn cU hi0 ns hN hIn hsz hw e2 hk
   have hphase:=fun (s ph:Nat) (h:s < 2 ^ B.length) (h2:(untB B).length=0∨ph < (untB B).length)=>z1008 B hB s (by omega) (by omega) ph h2
   have hletter:=fun (s:Nat) (h:s < 2 ^ B.length)=>z878 B hB s (by omega) (by omega)
   have hfol:=fun (s k:Nat) (h:s < 2 ^ B.length) (h2:k < 2 ^ B.length)=>z772 B hB s k (by omega) (by omega) (by omega) (by omega)
   have hrowq:=fun (s ph:Nat) (h:(untB B).length=0∨ph < (untB B).length)=>phB_row (B:=B) (s:=s) h
   generalize trS B g=R at *
   have hRO:∀ x,R=some x→Option.map (fun x:TrS=>(⟨N,if x.L.length=0 then [false] else x.acc,x.ed.map eT⟩:Aut)) R=some ⟨N,if x.L.length=0 then [false] else x.acc,x.ed.map eT⟩:=fun x h=>by rw [h];rfl
   have hRN:R=none→Option.map (fun x:TrS=>(⟨N,if x.L.length=0 then [false] else x.acc,x.ed.map eT⟩:Aut)) R=none:=fun h=>by rw [h];rfl
   generalize Option.map (fun x:TrS=>(⟨N,if x.L.length=0 then [false] else x.acc,x.ed.map eT⟩:Aut)) R=O at *
   repeat' ((first|(apply y4 ok;rfl)|((apply z6)<;>intro _))<;>conv=>whnf)
   all_goals try (exfalso;omega)
   refine z64 (fun x:Nat×TrS=>([(2,.ptr 0 none 0),(4,lst 3 Tree.cs' B),(8,.int ((2 ^ B.length:Nat):Int)),(9,ints (untB B)),(10,.ptr 1 none 0),(11,.sref 2 0 x.2.L.length),(13,.int x.1)],[.cells 3 [[.nils,.nils,.nils]],.cells 3 [[.sref 3 0 N.length,.sref 4 0 x.2.acc.length,.sref 5 0 x.2.ed.length]],.cells 1 (x.2.L.map encL),.cells 1 (N.map enI),.cells 1 (x.2.acc.map enB),.cells 4 (x.2.ed.map fun e=>Trans.cs (eT e))])) (fun x=>x.1≤64∧goS B (untB B) (65 - x.1) x.1 x.2=R∧(∀ r∈x.2.L,RowS B.length (untB B) r)∧x.2.acc.length≤x.1∧x.2.ed.length≤x.1 * 32∧x.2.L.length≤100) (fun x=>65 - x.1) (0,⟨L,[],[]⟩) ⟨by omega,hR,hrows,y52 _,y52 _,by show L.length≤100;omega⟩ (by refine swR [0,2,3,4,5,6] [] rfl rfl ?_;(repeat' first|exact y85 _|exact z12 _|apply y86|((refine z10 rfl ?_ ?_);(focus ((repeat' (first|exact z30|exact z5 (fun _=>rfl)));done)))|constructor)) ?_
   have hN100:N.length≤100:=by omega
   clear hL0 hR hrows hLl nl L
   rintro ⟨i,⟨L,acc,ed⟩⟩ ⟨hi,hR,hrows,hacc,hed,hL⟩
   dsimp only at hi hR hrows hacc hed hL ⊢
   rw [show 65 - i=(64 - i)+1 by omega,goS] at hR
   dsimp only at hR
   by_cases hil:i < L.length
   ·rw [if_pos hil] at hR
    by_cases h64:64 < L.length
    ·rw [if_pos h64] at hR
     have hO:=hRN hR.symm
     subst hO
     repeat' ((first|(apply y4 ok;rfl)|(apply y43;omega)|((first|(with_reducible apply z90;omega)|(apply z9;omega));intro _)|((apply z6)<;>intro _))<;>conv=>whnf)
     all_goals try (exfalso;omega)
     all_goals (refine y88 1 ?_;refine y88 1 ?_;refine y88 4 ?_;refine rsD [6,7,8] [] rfl ?_;(repeat' first|exact y85 _|exact z49|refine z10 rfl (z30) ?_|apply z38|apply z71|constructor))
    ·rw [if_neg h64] at hR
     obtain ⟨s,ph,er,hs2,hph⟩:=hrows (L.getD i []) (by rw [z17 hil];exact y44 _)
     have gk:(L.map encL)[i]?=some (encL [(s:Int),(ph:Int)]):=by rw [y51,y45 hil,← er,z17 hil];rfl
     have cP:=hphase s ph hs2 hph
     have cL:=hletter s hs2
     obtain ⟨q,eq,hq⟩:=hrowq s ph hph
     have hRS:z185 B (untB B) i ⟨L,acc,ed⟩=⟨((List.range (2 ^ B.length)).foldl (z101 B s q i (letB B s).1 (letB B s).2) (L,ed)).1,acc++[(phB B (untB B) s ph).2],((List.range (2 ^ B.length)).foldl (z101 B s q i (letB B s).1 (letB B s).2) (L,ed)).2⟩:=by
      unfold z185
      dsimp only
      rw [er,← eq];rfl
     rw [hRS] at hR
     rw [eq] at cP
     have hfol:=fun k h=>hfol s k hs2 h
     generalize (phB B (untB B) s ph).2=z at *
     generalize (letB B s).1=c at *
     generalize (letB B s).2=v at *
     clear hphase hletter hrowq hRS eq
     repeat' ((first|(apply y4 ok;rfl)|(refine z15 (i:=i) rfl gk ?_)|(refine ⟨_,rfl,?_⟩)|(apply y43;first|omega|((try dsimp only);simp only [y49,y48,y47,y46,y57,y58];omega)|exact ⟨rfl,z21 rfl z31⟩)|((apply z6)<;>intro _)|(apply z4 (cP);rfl;rfl)|(apply z4 (cL);rfl;rfl))<;>conv=>whnf)
     all_goals try (exfalso;omega)
     have hrow0:∀ r∈L,r.length≤1000:=fun r hr=>by obtain ⟨_,_,e,_,_⟩:=hrows r hr;rw [e];simp
     refine z64 (fun y:Nat×List (List Int)×List Edg=>([(2,.ptr 0 none 0),(4,lst 3 Tree.cs' B),(8,.int ((2 ^ B.length:Nat):Int)),(9,ints (untB B)),(10,.ptr 1 none 0),(11,.sref 2 0 y.2.1.length),(13,.int i),(14,.int s),(15,.int q),(17,.int c),(18,.int v),(19,.int y.1)],[.cells 3 [[.nils,.nils,.nils]],.cells 3 [[.sref 3 0 N.length,.sref 4 0 (acc.length+1),.sref 5 0 y.2.2.length]],.cells 1 (y.2.1.map encL),.cells 1 (N.map enI),.cells 1 ((acc++[z]).map enB),.cells 4 (y.2.2.map fun e=>Trans.cs (eT e))])) (fun y=>y.1≤2 ^ B.length∧(List.range y.1).foldl (z101 B s q i c v) (L,ed)=y.2∧(∀ r∈y.2.1,RowS B.length (untB B) r)∧y.2.1.length≤L.length+y.1∧y.2.2.length≤ed.length+y.1) (fun y=>2 ^ B.length - y.1) (0,L,ed) ⟨y53 _,rfl,hrows,y52 _,y52 _⟩ (by refine swR [0,1,2,3,7,5] [] rfl rfl ?_;(repeat' first|exact y85 _|exact z12 _|apply y86|((first|refine z43 rfl ?_ ?_|refine z10 rfl ?_ ?_);(focus ((repeat' (first|exact z5 (fun _=>rfl)|apply z28));done)))|(refine z68 ?_ ?_;(focus (omega)))|constructor)) ?_
     rintro ⟨k,L',ed'⟩ ⟨hk,hf,hrows',hLl,hel⟩
     dsimp only at hk hf hrows' hLl hel ⊢
     by_cases hkl:k < 2 ^ B.length
     ·have cF:=hfol k hkl
      have hfs:(List.range (k+1)).foldl (z101 B s q i c v) (L,ed)=z101 B s q i c v (L',ed') k:=by rw [y61,y62,hf];rfl
      have he:z101 B s q i c v (L',ed') k=if folB B s k=true then (z117 L' [(k:Int),(q:Int)],ed'++[⟨i,c,v,z190 L' [(k:Int),(q:Int)]⟩]) else (L',ed'):=rfl
      rw [he] at hfs
      clear he
      by_cases hb:folB B s k=true
      ·rw [if_pos hb] at hfs
       rw [hb] at cF
       have cQ:=z1146 L' (by omega) (fun r hr=>by obtain ⟨_,_,e,_,_⟩:=hrows' r hr;rw [e];simp) [(k:Int),(q:Int)] (by simp)
       have hpl:(z117 L' [(k:Int),(q:Int)]).length≤L'.length+1:=by unfold z117;split<;>simp
       have hpr:∀ r∈z117 L' [(k:Int),(q:Int)],RowS B.length (untB B) r:=fun r hr=>by
        unfold z117 at hr
        split at hr
        ·exact hrows' r hr
        ·rcases List.mem_append.1 hr with h|h
         ·exact hrows' r h
         ·rw [List.mem_singleton.1 h];exact ⟨k,q,rfl,hkl,hq⟩
       generalize z117 L' [(k:Int),(q:Int)]=L2 at *
       generalize z190 L' [(k:Int),(q:Int)]=n at *
       repeat' ((first|(apply y4 ok;rfl)|(apply y43;first|omega|(unfold inI;omega)|((try dsimp only);simp only [y49,y48,y47,y46,y57,y58];omega)|exact ⟨rfl,z21 rfl z31⟩)|((apply z6)<;>intro _)|(apply z4 (cF);rfl;rfl)|(apply z93 [2,6] [7] cQ;rfl;(focus ((repeat' first|exact z35|apply z44)<;>first|rfl|(refine z59 rfl ?_;((exact z5 fun _=>rfl)))));rfl;(focus ((repeat' first|exact z13|apply z11)<;>first|exact z103|(refine z19 ?_;((exact z5 fun _=>rfl)))))))<;>conv=>whnf)
       all_goals try (exfalso;omega)
       all_goals refine z27 (k+1,L2,ed'++[⟨i,c,v,n⟩]) ⟨by show k+1≤_;omega,hfs,hpr,by show L2.length≤L.length+(k+1);omega,by show (ed'++[_]).length≤ed.length+(k+1);simp;omega⟩ (by show 2 ^ B.length - (k+1) < 2 ^ B.length - k;omega) (by refine swR [0,1,7,3,4,9] [] rfl rfl ?_;(repeat' first|exact y85 _|exact z12 _|(refine z45 ?_;((simp;done)))|apply y86|((first|refine z43 rfl ?_ ?_|refine z10 rfl ?_ ?_);(focus ((repeat' (first|exact z5 (fun _=>rfl)|apply z28));done)))|(refine z68 ?_ ?_;(focus (omega)))|constructor))
      ·rw [if_neg hb] at hfs
       rw [(y71 _).mp hb] at cF
       repeat' ((first|(apply y4 ok;rfl)|(apply y43;first|omega|(unfold inI;omega))|((apply z6)<;>intro _)|(apply z4 (cF);rfl;rfl))<;>conv=>whnf)
       all_goals try (exfalso;omega)
       all_goals refine z27 (k+1,L',ed') ⟨by show k+1≤_;omega,hfs,hrows',by show L'.length≤L.length+(k+1);omega,by show ed'.length≤ed.length+(k+1);omega⟩ (by show 2 ^ B.length - (k+1) < 2 ^ B.length - k;omega) (by refine swR [0,1,2,3,4,5] [] rfl rfl ?_;(repeat' first|exact y85 _|exact z12 _|apply y86|refine z10 rfl (z5 (fun _=>rfl)) ?_|constructor))
     ·obtain rfl:k=2 ^ B.length:=by omega
      rw [hf] at hR
      have hed2:ed'.length≤(i+1) * 32:=by omega
      repeat' ((first|(apply y4 ok;rfl)|(apply y43;(unfold inI;omega))|((apply z6)<;>intro _))<;>conv=>whnf)
      all_goals try (exfalso;omega)
      all_goals refine z27 (i+1,⟨L',acc++[z],ed'⟩) ⟨by show i+1≤64;omega,by rw [show 65 - (i+1)=64 - i by omega];exact hR,hrows',by show (acc++[z]).length≤i+1;simp;omega,hed2,by show L'.length≤100;omega⟩ (by show 65 - (i+1) < 65 - i;omega) (by refine swR [0,1,2,3,4,5] [] rfl rfl ?_;(repeat' first|exact y85 _|exact z12 _|(refine z45 ?_;((simp;done)))|apply y86|refine z10 rfl (z5 (fun _=>rfl)) ?_|constructor))
   ·rw [if_neg hil] at hR
    have hO:=hRO _ hR.symm
    dsimp only at hO
    by_cases h0:L.length=0
    ·rw [if_pos h0] at hO
     subst hO
     repeat' ((first|(apply y4 ok;rfl)|(apply y43;omega)|((first|(with_reducible apply z90;omega)|(apply z9;omega));intro _)|((apply z6)<;>intro _))<;>conv=>whnf)
     all_goals try (exfalso;omega)
     all_goals (refine rsD [3,6,5] [] rfl ?_;(repeat' first|exact y85 _|exact z12 _|(refine z45 ?_;((simp;done)))|apply y86|refine z10 rfl (z5 (fun _=>rfl)) ?_|apply z38|apply z71|constructor))
     all_goals exact z46 (by show _=List.map Trans.cs (List.map eT ed);rw [List.map_map];rfl)
    ·rw [if_neg h0] at hO
     subst hO
     repeat' ((first|(apply y4 ok;rfl)|(apply y43;omega)|((first|(with_reducible apply z90;omega)|(apply z9;omega));intro _)|((apply z6)<;>intro _))<;>conv=>whnf)
     all_goals try (exfalso;omega)
     all_goals (refine rsD [3,4,5] [] rfl ?_;(repeat' first|exact y85 _|exact z12 _|(refine z45 ?_;((simp;done)))|refine z10 rfl (z5 (fun _=>rfl)) ?_|apply z38|apply z71|constructor))
     all_goals exact z46 (by show _=List.map Trans.cs (List.map eT ed);rw [List.map_map];rfl)
 ·rw [if_neg h] at cb ⊢
  rw [(y71 _).mp h] at cb
  refine z7 z14 Tryz.func178 rfl rfl 137 Tryz.ntmps178 (by simp) ?_
  repeat' ((first|(apply y4 ok;rfl)|(apply z4 (cb);rfl;rfl))<;>conv=>whnf)
  all_goals (refine y88 1 ?_;refine y88 1 ?_;refine y88 4 ?_;refine rsD [2,3,4] [] rfl ?_;(repeat' first|exact y85 _|exact z49|refine z10 rfl (z30) ?_|apply z38|apply z71|constructor))
noncomputable def mvK (B:List Tree) (s:Int) (k:Nat):List Nat:=(List.range k).filter fun t=>folB B s t
theorem mvK_succ (B:List Tree) (s:Int) (k:Nat):mvK B s (k+1)=mvK B s k++(if folB B s k=true then [k] else []):=by
 unfold mvK
 rw [y61,List.filter_append]
 congr 1
 by_cases h:folB B s k=true
 ·rw [if_pos h,List.filter_cons_of_pos (p:=fun t:Nat=>folB B s t) h];rfl
 ·rw [if_neg h,List.filter_cons_of_neg (p:=fun t:Nat=>folB B s t) h];rfl
theorem z1131 (B:List Tree) (s:Int) (k:Nat):(mvK B s k).length≤k:=by
 unfold mvK
 have:=List.length_filter_le (fun t:Nat=>folB B s t) (List.range k)
 simpa using this
def enMv (c v:Nat) (q:Int) (x:Nat):List AC:=[.int c,.int v,.int x,.int q]
theorem bit_of (s:Int) (i:Nat):(hasB s i=true→((((s / 2 ^ ((i:Int)).toNat).toNat &&& (1:Int).toNat:Nat):Int))=1)∧(hasB s i=false→((((s / 2 ^ ((i:Int)).toNat).toNat &&& (1:Int).toNat:Nat):Int))=0):=by
 have h1:∀ n:Nat,n &&& 1=n % 2:=fun n=>Nat.and_one_is_mod n
 unfold hasB
 constructor
 ·intro h;exact of_decide_eq_true h
 ·intro h
  have:=of_decide_eq_false h
  rw [show (1:Int).toNat=1 from rfl,h1] at *
  omega
set_option maxHeartbeats 6400000 in
theorem z1132 (B : List Tree) (hB : BasL B) (s ph : Nat) (s1 : s ≤ 31) (hp : (untB B).length = 0 ∧ ph = 0 ∨ ph < (untB B).length) :
    CallsA Tryz.prog 192 [.pt [lst 3 Tree.cs' B,ints (untB B)],.agg [.int s,.int ph]] [] (.sref 0 0 (mvK B s (2 ^ B.length)).length) [.cells 4 ((mvK B s (2 ^ B.length)).map (enMv (letB B s).1 (letB B s).2 (phB B (untB B) s ph).1))]:=by
  have hl:=hB.len
  have hp5:=z994 hl
  have hul:(untB B).length≤B.length:=z256 B B.length
  refine z7 z14 Tryz.func192 rfl rfl 87 Tryz.ntmps192 (by simp) ?_
  repeat' ((first|(apply y4 ok;rfl)|(apply z23;kernel_rfl))<;>conv=>whnf)
  refine z64 (fun x:Nat×Nat×Nat=>([(0,.pt [lst 3 Tree.cs' B,ints (untB B)]),(3,.ptr 0 none 0),(5,.int x.2.1),(6,.int x.2.2),(7,.int ph),(18,lst 3 Tree.cs' B),(19,.int B.length),(20,.int x.1)],[.cells 2 [[.int s,.int ph]]])) (fun x=>x.1≤B.length∧(List.range x.1).foldl (atoI B s) (0,0)=x.2∧x.2.1 < 8∧x.2.2 < 8) (fun x=>B.length - x.1) (0,0,0) ⟨y53 _,rfl,by decide,by decide⟩ (by refine swR [0] [] rfl rfl ?_;(repeat' first|exact y85 _|apply y86|constructor)) ?_
  rintro ⟨i,c,v⟩ ⟨hi,hf,hc,hv⟩
  dsimp only at hi hf hc hv ⊢
  by_cases hil:i < B.length
  · have gk:(B.map Tree.cs')[i]?=some (Tree.cs' (B.getD i dftT)):=by rw [y51,y45 hil,z17 hil];rfl
    have hmem:B.getD i dftT∈B:=by rw [z17 hil];exact y44 _
    have hform:=hB.form hmem
    have hs:=z333 (B:=B) (s:=s) i
    have hbt:=bit_of s i
    have d1:=z801 (s:=s) (i:=i) (by omega) (by omega) (by omega)
    rw [hf] at hs
    unfold atoI at hs
    dsimp only at hs
    by_cases hk:(B.getD i dftT).kind=2
    · rw [if_pos hk] at hs
      have hvv:∃ a:Nat,(B.getD i dftT).val=a∧a≤2:=by
        generalize B.getD i dftT=f at *
        cases hform with
        | «at» v=>have:=hB.av v hmem;exact ⟨v.toNat,by simp [Tree.val];omega,by omega⟩
        | nx a _ _=>simp [Tree.kind] at hk
        | un a b _ _ _ _=>simp [Tree.kind] at hk
        | re a b _ _ _ _=>simp [Tree.kind] at hk
      obtain ⟨a,ea,ha⟩:=hvv
      have gk2:(B.map Tree.cs')[i]?=some [.int 2,.int a,.list 3 (B.getD i dftT).kids.length ((B.getD i dftT).kids.map Tree.cs)]:=by rw [gk,← hk,← ea];rfl
      have o1:=z533 hc ha
      have o2:=z533 hv ha
      have e:=z933 a (by omega)
      have hpb:=z386 (show a < 3 by omega)
      rw [ea,y76] at hs
      clear gk hform hmem hk ea
      generalize hasB s i=z at *
      generalize (B.getD i dftT).kids=ks at *
      cases z
      · rw [if_neg (by simp)] at hs
        have hb:=hbt.2 rfl
        repeat' ((first|(apply y4 ok;rfl)|(apply z23;kernel_rfl)|(refine z15 (i:=i) rfl gk2 ?_)|(rw [hb])|(rw [Int.zero_mul])|(rw [e])|(refine y43 (by unfold z150;first|omega|(rw [y76];omega)) ?_)|(apply y43;first|omega|(unfold inI;omega))|((apply z6)<;>intro _))<;>conv=>whnf)
        all_goals try (exfalso;omega)
        all_goals refine z27 (i+1,c ||| 2 ^ a,v) ⟨by show i+1≤_;omega,hs,o1,hv⟩ (by show B.length - (i+1) < B.length - i;omega) (by refine swR [0] [] rfl rfl ?_;(repeat' first|exact y85 _|apply y86|constructor)<;>((refine z224 ?_;simp)))
      · rw [if_pos rfl] at hs
        have hb:=hbt.1 rfl
        repeat' ((first|(apply y4 ok;rfl)|(apply z23;kernel_rfl)|(refine z15 (i:=i) rfl gk2 ?_)|(rw [hb])|(rw [e])|(refine y43 (by unfold z150;first|omega|(rw [y76];omega)) ?_)|(apply y43;first|omega|(unfold inI;omega))|((apply z6)<;>intro _))<;>conv=>whnf)
        all_goals try (exfalso;omega)
        all_goals refine z27 (i+1,c ||| 2 ^ a,v ||| 2 ^ a) ⟨by show i+1≤_;omega,hs,o1,o2⟩ (by show B.length - (i+1) < B.length - i;omega) (by refine swR [0] [] rfl rfl ?_;(repeat' first|exact y85 _|apply y86|constructor)<;>((refine z224 ?_;simp)))
    · rw [if_neg hk] at hs
      generalize B.getD i dftT=f at *
      repeat' ((first|(apply y4 ok;rfl)|(apply z23;kernel_rfl)|(refine z15 (i:=i) rfl gk ?_)|(apply y43;first|omega|(unfold inI;omega))|((apply z6)<;>intro _))<;>conv=>whnf)
      all_goals try (exfalso;omega)
      all_goals refine z27 (i+1,c,v) ⟨by show i+1≤_;omega,hs,hc,hv⟩ (by show B.length - (i+1) < B.length - i;omega) (by refine swR [0] [] rfl rfl ?_;(repeat' first|exact y85 _|apply y86|constructor))
  · obtain rfl:i=B.length:=by omega
    have eL:letB B s=(c,v):=hf
    rw [eL]
    clear hf eL
    have e2:((1:Int) * 2 ^ ((B.length:Int).toNat))=((2 ^ B.length:Nat):Int):=by
      rw [y76,Int.one_mul];norm_cast
    obtain ⟨q,eq,hcase⟩:∃ q:Nat,(phB B (untB B) s ph).1=q∧(((untB B).length=0∧True∧q=ph)∨(ph < (untB B).length∧fulB B s ((untB B).getD ph 0)=true∧q=(ph+1) % (untB B).length)∨(ph < (untB B).length∧fulB B s ((untB B).getD ph 0)=false∧q=ph)):=by
      unfold phB
      by_cases h0:(untB B).length=0
      · rw [if_pos h0];exact ⟨0,rfl,.inl ⟨h0,trivial,by omega⟩⟩
      · rw [if_neg h0]
        by_cases hb:fulB B s ((untB B).getD ph 0)=true
        · rw [y76,if_pos hb]
          exact ⟨(ph+1) % (untB B).length,by simp,.inr (.inl ⟨by omega,hb,rfl⟩)⟩
        · rw [y76,if_neg hb]
          exact ⟨ph,rfl,.inr (.inr ⟨by omega,(y71 _).mp hb,rfl⟩)⟩
    rw [eq]
    have hu:=fun (h:ph < (untB B).length)=>z646 (B:=B) (x:=(untB B).getD ph 0) (by rw [z17 h];exact y44 _)
    have cFu:ph < (untB B).length→CallsA Tryz.prog 190 [.pt [lst 3 Tree.cs' B,ints (untB B)],.int s,.int ph] [] (.bool (fulB B s ((untB B).getD ph 0))) []:=fun h=>by
      obtain ⟨u,e1,e3,e4⟩:=hu h
      have:=z624 B (untB B) hB s (by omega) (by omega) ph u h (by omega) e1 e3 e4
      rw [← e1] at this;exact this
    have cFo:=fun (k:Nat) (h:k < 2 ^ B.length)=>z1021 B (untB B) hB s k (by omega) (by omega) (by omega) (by omega)
    clear hu
    have hpq:q≤100:=by
      rcases hcase with ⟨_,_,h⟩|⟨h1,_,h⟩|⟨_,_,h⟩
      · omega
      · have h3:(ph+1) % (untB B).length < (untB B).length:=Nat.mod_lt _ (by omega)
        rw [← h] at h3;omega
      · omega
    rcases hcase with ⟨h1,h2,hq⟩|⟨h1,h2,hq⟩|⟨h1,h2,hq⟩
    all_goals first|(have cF:=cFu h1;rw [h2] at cF)|have cF:=True.intro
    all_goals clear cFu eq hp
    all_goals repeat' ((first|(apply y4 ok;rfl)|(apply z23;kernel_rfl)|(rw [e2])|(apply y43;first|omega|(unfold inI;omega))|(((with_reducible apply z9;omega));intro _)|((apply z6)<;>intro _)|(apply z4 (cF);rfl;rfl))<;>conv=>whnf)
    all_goals try (exfalso;omega)
    all_goals
      refine y84 (y87 4 rfl) ?_
      refine z64 (fun x:Nat×List Nat=>([(0,.pt [lst 3 Tree.cs' B,ints (untB B)]),(3,.ptr 0 none 0),(5,.int c),(6,.int v),(7,.int q),(11,.sref 1 0 x.2.length),(67,.int ((2 ^ B.length:Nat):Int)),(68,.int x.1)],[.cells 2 [[.int s,.int ph]],.cells 4 (x.2.map (enMv c v q))])) (fun x=>x.1≤2 ^ B.length∧mvK B s x.1=x.2) (fun x=>2 ^ B.length - x.1) (0,[]) ⟨y53 _,rfl⟩ (by refine swR [0,1] [] rfl rfl ?_;(repeat' first|exact y85 _|exact z49|(refine z224 ?_;omega)|apply y86|refine z10 rfl (z30) ?_|constructor)<;>((refine z224 ?_;rw [hq];(simp;done)))) ?_
      clear h1 h2 hq cF
      rintro ⟨k,M⟩ ⟨hk,hM⟩
      dsimp only at hk hM ⊢
      have hMl:=z1131 B s k
      rw [hM] at hMl
      by_cases hkl:k < 2 ^ B.length
      · have cO:=cFo k hkl
        have hs:=mvK_succ B s k
        rw [hM] at hs
        by_cases hb:folB B s k=true
        · rw [hb] at cO
          rw [if_pos hb] at hs
          repeat' ((first|(apply y4 ok;rfl)|(apply y43;first|(unfold inI;omega)|((try dsimp only);simp only [y49,y48,y47,y46,y57,y58];omega)|exact ⟨rfl,z21 rfl z31⟩)|((apply z6)<;>intro _)|(apply z4 (cO);rfl;rfl))<;>conv=>whnf)
          all_goals try (exfalso;omega)
          all_goals refine z27 (k+1,M++[k]) ⟨by show k+1≤_;omega,hs⟩ (by show 2 ^ B.length - (k+1) < 2 ^ B.length - k;omega) (by refine swR [0,3] [] rfl rfl ?_;(repeat' first|exact y85 _|(refine z45 ?_;((simp;done)))|apply y86|((refine z43 rfl ?_ ?_);(focus ((repeat' (first|exact z5 (fun _=>rfl)|apply z28));done)))|(refine z68 ?_ ?_;(focus (omega)))|constructor))
        · rw [(y71 _).mp hb] at cO
          rw [if_neg hb,y64] at hs
          repeat' ((first|(apply y4 ok;rfl)|(apply y43;(unfold inI;omega))|((apply z6)<;>intro _)|(apply z4 (cO);rfl;rfl))<;>conv=>whnf)
          all_goals try (exfalso;omega)
          all_goals refine z27 (k+1,M) ⟨by show k+1≤_;omega,hs⟩ (by show 2 ^ B.length - (k+1) < 2 ^ B.length - k;omega) (by refine swR [0,1] [] rfl rfl ?_;(repeat' first|exact y85 _|exact z12 _|apply y86|refine z10 rfl (z5 (fun _=>rfl)) ?_|constructor))
      · obtain rfl:k=2 ^ B.length:=by omega
        rw [hM]
        repeat' ((first|(apply y4 ok;rfl)|((apply z6)<;>intro _))<;>conv=>whnf)
        all_goals try (exfalso;omega)
        all_goals (refine rsD [1] [] rfl ?_;(repeat' first|exact y85 _|exact z12 _|refine z10 rfl (z5 (fun _=>rfl)) ?_|constructor))
set_option maxRecDepth 20000 in
theorem keyT_ph:KeyT Tryz.prog 230 2:=by
 refine ⟨by kernel_rfl,by kernel_rfl,?_,by kernel_rfl⟩
 intro i f h
 unfold Program.fieldsOf at h
 rw [Tryz.underlying230] at h
 match i,h with
 |0,h=>cases h;exact ⟨by decide,rfl,Tryz.underlying3⟩
 |1,h=>cases h;exact ⟨by decide,rfl,Tryz.underlying3⟩
 |i+2,h=>simp at h
@[reducible] def objsX (L:List (List Int)):List AObj:=[.cells 1 [[.mref 1]],.mp 2 (z278 0 L),.cells 1 [[.own 2 (L.map enP)]]]
set_option maxRecDepth 20000 in
set_option maxHeartbeats 3200000 in
theorem z1175 (L : List (List Int)) (hL : L.length ≤ 5000) (s ph : Nat) :
    CallsA Tryz.prog 240 [.agg [.int s,.int ph],.ptr 0 none 0,.ptr 2 none 0] (objsX L) (.int (z190 L [(s:Int),(ph:Int)])) (objsX (z117 L [(s:Int),(ph:Int)])):=by
  have m1:=z613 [(s:Int),(ph:Int)] 0 L
  have ke:=keyT_ph
  unfold z190 z117
  by_cases h : [(s:Int),(ph:Int)]∈L
  · rw [if_pos h,Nat.zero_add] at m1
    rw [if_pos h]
    refine z7 z14 Tryz.func240 rfl (by kernel_rfl) 25 Tryz.ntmps240 (by simp) ?_
    repeat' ((first|(apply y4 ok;rfl)|(refine y43 ke ?_)|(rw [m1]))<;>conv=>whnf)
    all_goals (refine rsD [0,1,2] [] rfl ?_;(repeat' first|exact y85 _|apply y86|constructor))
    all_goals rfl
  · rw [if_neg h] at m1
    rw [if_neg h,List.idxOf_eq_length h]
    have m6:mput (z278 0 L) [(s:Int),(ph:Int)] (L.length:Int)=z278 0 (L++[[(s:Int),(ph:Int)]]):=by
      rw [z612 _ _ _ h,z795,Nat.zero_add]
    have e2:(L.map enP).take L.length++[[AC.int s,AC.int ph]]=(L++[[(s:Int),(ph:Int)]]).map enP:=by
      rw [y56 (by simp),y63];rfl
    refine z7 z14 Tryz.func240 rfl (by kernel_rfl) 25 Tryz.ntmps240 (by simp) ?_
    refine y84 (Gl.Reach.expose 2 0 0 rfl rfl rfl (z156 (fun _=>rfl) _) rfl) ?_
    refine y84 (show Gl.Reach _ _ (mkSt _ [(0,.agg [.int s,.int ph]),(1,.ptr 0 none 0),(2,.ptr 2 none 0)] [.cells 1 [[.mref 1]],.mp 2 (z278 0 L),.cells 1 [[.sref 3 0 L.length]],.cells 2 (L.map enP)]) from (by refine swR [0,1,2,3] [] rfl rfl ?_;(repeat' first|exact y85 _|exact z12 _|(refine z45 ?_;((simp;done)))|apply y86|refine z10 rfl (z5 (fun _=>rfl)) ?_|constructor)<;>(rfl))) ?_
    repeat' ((first|(apply y4 ok;rfl)|(refine y43 ke ?_)|(rw [m6])|(rw [m1])|(apply y43;first|((try dsimp only);simp only [y49,y48,y47,y46,y57,y58];omega)|exact ⟨rfl,z21 rfl z31⟩))<;>conv=>whnf)
    all_goals
      refine Gl.RetS.absorb 2 6 0 0 rfl rfl rfl rfl (by simp) rfl (z96 (fun e he=>(z5 (fun _=>rfl)) e (List.mem_of_mem_take he)) (z213 rfl z30)) ?_
      conv=>whnf
      (refine rsD [0,1,2] [] rfl ?_;(repeat' first|exact y85 _|apply y86|constructor))
      all_goals first|rfl|exact y9 (congrArg (AC.own 2) e2)
end Go.Proofs.YtnfoijopccdjeaaGreat
namespace Go.Proofs.YtnfoijopccdjeaaGreat
open Go.Gl
attribute [local irreducible] z18 AWP z33 z37 z34
theorem z1198 {objs:Nat→AObj} {π Bn:List Nat} {o:Nat} {l:List Trans} (ho:objs o=.cells 4 (l.map Trans.cs)) (h1:idx π o=none) (h2:inB Bn o=true):bor objs π Bn (.sref o 0 l.length)=lst 4 Trans.cs l :=
 z194 ho h1 h2 (by simp) (z352 Trans.unown l)
theorem z709 {objs : Nat → AObj} {π Bn : List Nat} {o1 o2 o3 : Nat} {a : Aut} (h1 : objs o1 = .cells 1 (a.ini.map enI)) (h2 : objs o2 = .cells 1 (a.acc.map enB)) (h3 : objs o3 = .cells 4 (a.ed.map Trans.cs)) (i1 : idx π o1 = none) (b1 : inB Bn o1 = true) (i2 : idx π o2 = none) (b2 : inB Bn o2 = true) (i3 : idx π o3 = none) (b3 : inB Bn o3 = true) :
    bor objs π Bn (.agg [.sref o1 0 a.ini.length,.sref o2 0 a.acc.length,.sref o3 0 a.ed.length])=.agg a.cs :=
  bor_agg (z39 (z105 h1 i1 b1) (z39 (z1199 h2 i2 b2) (z39 (z1198 h3 i3 b3) z60)))
structure Aut.ok (a:Aut):Prop where
 mx:a.mx
 ini:a.ini.length≤1048576
 acc:a.acc.length≤1048576
 ed:a.ed.length≤1048576
theorem Aut.ok_of {a:Aut} (h:a.mx) (h1:a.s1≤1048576) (h2:a.s2≤1048576) (h3:a.s3≤1048576):a.ok:=⟨h,h1,h2,h3⟩
theorem clB_full (l:List Bool) (hl:l.length≤1048576) (hp:0 < l.length):CallsA Tryz.prog 281 [lst 1 enB l] [] (.sref 0 0 l.length) [.cells 1 (l.map enB)]:=by
 refine z16 z14 Tryz.func281 rfl rfl 8 Tryz.ntmps281 (by simp) ?_
 repeat' (first|(apply y4 ok;rfl;conv=>whnf)|(apply y43;(first|omega|(dsimp only;omega)|exact z140 (fun _=>rfl));conv=>whnf))
 exact z102 rfl (z5 fun _=>rfl) (Nat.zero_add _) rfl rfl
theorem clB_new0 (l:List Bool) (hl:l.length≤1048576):CallsA Tryz.prog 281 [lst 1 enB l] [] (.sref 0 0 l.length) [.cells 1 (l.map enB)]:=by
 by_cases hp:0 < l.length
 ·exact clB_full l hl hp
 ·obtain rfl:l=[]:=y73 (by omega)
  refine z215 (z297 Tryz.func281 rfl (by rfl)) fun ad cap=>?_
  cases ad with
  |none =>
   refine CallsA.nils (res:=.nils) (l:=[.cells 1 []]) ?_ (by simp) z478
   refine z16 z14 Tryz.func281 rfl rfl 8 Tryz.ntmps281 (by simp) ?_
   repeat' ((apply y4 ok;rfl;conv=>whnf))
   all_goals exact z47 rfl rfl rfl
  |some p =>
   refine z16 z14 Tryz.func281 rfl rfl 8 Tryz.ntmps281 (by simp) ?_
   repeat' (first|(apply y4 ok;rfl;conv=>whnf)|(apply y43;(omega);conv=>whnf))
   all_goals (exact z102 rfl z30 rfl rfl rfl)
theorem clB_clip (l:List Bool) (hl:l.length≤1048576):CallsA Tryz.prog 280 [.sref 0 0 l.length] [.cells 1 (l.map enB)] (.sref 0 0 l.length) [.cells 1 (l.map enB)]:=by
 refine z16 z14 Tryz.func280 rfl rfl 9 Tryz.ntmps280 (by simp) ?_
 repeat' (first|(apply y4 ok;rfl;conv=>whnf)|(apply y43;(omega);conv=>whnf))
 exact z102 rfl (z5 fun _=>rfl) (by omega) rfl rfl
theorem clB_new (l:List Bool) (hl:l.length≤1048576):CallsA Tryz.prog 271 [lst 1 enB l] [] (.sref 0 0 l.length) [.cells 1 (l.map enB)]:=by
 refine z16 z14 Tryz.func271 rfl rfl 6 Tryz.ntmps271 (by simp) ?_
 repeat' (first|(apply y4 ok;rfl;conv=>whnf)|(apply z98 [] [] [0] (clB_new0 l hl);rfl;(focus ((repeat' (exact z35))<;>(fail)));rfl;rfl;rfl;rfl;rfl;(focus ((repeat' (first|exact z13|apply z11))<;>((refine z19 ?_;((exact z5 (fun _=>rfl)))))));(exact .inl rfl);conv=>whnf)|(apply z98 [0] [] [] (clB_clip l hl);rfl;(focus ((repeat' (first|exact z35|apply z44))<;>((refine z59 rfl ?_;((exact z5 (fun _=>rfl)))))));rfl;rfl;rfl;rfl;rfl;(focus ((repeat' (first|exact z13|apply z11))<;>((refine z19 ?_;((exact z5 (fun _=>rfl)))))));(exact .inl rfl);conv=>whnf))
 exact z102 rfl (z5 fun _=>rfl) rfl rfl rfl
theorem clT_full (l:List Trans) (hl:l.length≤1048576) (hp:0 < l.length):CallsA Tryz.prog 283 [lst 4 Trans.cs l] [] (.sref 0 0 l.length) [.cells 4 (l.map Trans.cs)]:=by
 refine z16 z14 Tryz.func283 rfl rfl 8 Tryz.ntmps283 (by simp) ?_
 repeat' (first|(apply y4 ok;rfl;conv=>whnf)|(apply y43;(first|omega|(dsimp only;omega)|exact z140 (fun _=>rfl));conv=>whnf))
 exact z102 rfl (z5 fun _=>rfl) (Nat.zero_add _) rfl rfl
theorem clT_new0 (l:List Trans) (hl:l.length≤1048576):CallsA Tryz.prog 283 [lst 4 Trans.cs l] [] (.sref 0 0 l.length) [.cells 4 (l.map Trans.cs)]:=by
 by_cases hp:0 < l.length
 ·exact clT_full l hl hp
 ·obtain rfl:l=[]:=y73 (by omega)
  refine z215 (z297 Tryz.func283 rfl (by rfl)) fun ad cap=>?_
  cases ad with
  |none =>
   refine CallsA.nils (res:=.nils) (l:=[.cells 4 []]) ?_ (by simp) z478
   refine z16 z14 Tryz.func283 rfl rfl 8 Tryz.ntmps283 (by simp) ?_
   repeat' ((apply y4 ok;rfl;conv=>whnf))
   all_goals exact z47 rfl rfl rfl
  |some p =>
   refine z16 z14 Tryz.func283 rfl rfl 8 Tryz.ntmps283 (by simp) ?_
   repeat' (first|(apply y4 ok;rfl;conv=>whnf)|(apply y43;(omega);conv=>whnf))
   all_goals (exact z102 rfl z30 rfl rfl rfl)
theorem clT_clip (l:List Trans) (hl:l.length≤1048576):CallsA Tryz.prog 282 [.sref 0 0 l.length] [.cells 4 (l.map Trans.cs)] (.sref 0 0 l.length) [.cells 4 (l.map Trans.cs)]:=by
 refine z16 z14 Tryz.func282 rfl rfl 9 Tryz.ntmps282 (by simp) ?_
 repeat' (first|(apply y4 ok;rfl;conv=>whnf)|(apply y43;(omega);conv=>whnf))
 exact z102 rfl (z5 fun _=>rfl) (by omega) rfl rfl
theorem clT_new (l:List Trans) (hl:l.length≤1048576):CallsA Tryz.prog 272 [lst 4 Trans.cs l] [] (.sref 0 0 l.length) [.cells 4 (l.map Trans.cs)]:=by
 refine z16 z14 Tryz.func272 rfl rfl 6 Tryz.ntmps272 (by simp) ?_
 repeat' (first|(apply y4 ok;rfl;conv=>whnf)|(apply z98 [] [] [0] (clT_new0 l hl);rfl;(focus ((repeat' (exact z35))<;>(fail)));rfl;rfl;rfl;rfl;rfl;(focus ((repeat' (first|exact z13|apply z11))<;>((refine z19 ?_;((exact z5 (fun _=>rfl)))))));(exact .inl rfl);conv=>whnf)|(apply z98 [0] [] [] (clT_clip l hl);rfl;(focus ((repeat' (first|exact z35|apply z44))<;>((refine z59 rfl ?_;((exact z5 (fun _=>rfl)))))));rfl;rfl;rfl;rfl;rfl;(focus ((repeat' (first|exact z13|apply z11))<;>((refine z19 ?_;((exact z5 (fun _=>rfl)))))));(exact .inl rfl);conv=>whnf))
 exact z102 rfl (z5 fun _=>rfl) rfl rfl rfl
theorem z911 (a:Aut) (h1:a.ini.length≤100000) (h2:a.acc.length≤100000) (h3:a.ed.length≤100000):CallsA Tryz.prog 241 [.agg a.cs] [] (.agg [.sref 0 0 a.ini.length,.sref 1 0 a.acc.length,.sref 2 0 a.ed.length]) [.cells 1 (a.ini.map enI),.cells 1 (a.acc.map enB),.cells 4 (a.ed.map Trans.cs)]:=by
 have c1:=z266 a.ini (by omega)
 have c2:=clB_new a.acc (by omega)
 have c3:=clT_new a.ed (by omega)
 refine z16 z14 Tryz.func241 rfl rfl 13 Tryz.ntmps241 (by simp) ?_
 repeat' (first|(apply y4 ok;rfl;conv=>whnf)|(apply z23;kernel_rfl;conv=>whnf)|(apply z98 [] [] [2] (c1);rfl;(focus ((repeat' (exact z35))<;>(fail)));rfl;rfl;rfl;rfl;rfl;(focus ((repeat' (first|exact z13|apply z11))<;>((refine z19 ?_;((exact z5 (fun _=>rfl)))))));(exact .inl rfl);conv=>whnf)|(apply z98 [] [] [3] (c2);rfl;(focus ((repeat' (exact z35))<;>(fail)));rfl;rfl;rfl;rfl;rfl;(focus ((repeat' (first|exact z13|apply z11))<;>((refine z19 ?_;((exact z5 (fun _=>rfl)))))));(exact .inl rfl);conv=>whnf)|(apply z98 [] [] [4] (c3);rfl;(focus ((repeat' (exact z35))<;>(fail)));rfl;rfl;rfl;rfl;rfl;(focus ((repeat' (first|exact z13|apply z11))<;>((refine z19 ?_;((exact z5 (fun _=>rfl)))))));(exact .inl rfl);conv=>whnf))
 exact z88 [2,3,4] (by decide) rfl rfl rfl ⟨z70 rfl (z5 fun _=>rfl),z70 rfl (z5 fun _=>rfl),z70 rfl (z5 fun _=>rfl),trivial⟩
theorem z197 {g:Graph} {a:Aut} (hG:GB g) (hA:AutP a) (ls:List Int):(∀ r∈z48 g ls a,InN (z48 g ls a).length r)∧InN (z48 g ls a).length a.ini∧(z48 g ls a).length≤3840∧(∀ r∈z48 g ls a,r.length≤1000000000)∧a.ini.length≤1048576:=by
 have hrl:(z48 g ls a).length=g.st.length * a.acc.length:=by unfold z48;rw [z87,Nat.mul_comm]
 have hN:=z179 (a:=(g.st.length:Int)) (b:=(a.acc.length:Int)) (A:=60) (B:=64) (by omega) (by have:=hG.1;omega) (by omega) (by have:=hA.1;omega)
 have hN2:((g.st.length * a.acc.length:Nat):Int)=(g.st.length:Int) * a.acc.length:=by simp
 have ha1:=hA.1
 refine ⟨fun r hr x hx=>?_,fun x hx=>?_,by omega,fun r hr=>?_,?_⟩
 ·rw [hrl];exact z863 g hG ls a hA r hr x hx
 ·obtain ⟨i,hi,rfl⟩:=List.mem_iff_getElem.1 hx
  have h1:=(hA.2.2.1 i hi hi).1
  have h2:=z179 (a:=(g.st.length:Int) - 1) (b:=(a.acc.length:Int)) (A:=60) (B:=64) (by have:=hG.1;omega) (by have:=hG.1;omega) (by omega) (by omega)
  rw [Int.sub_mul,Int.one_mul] at h2
  omega
 ·have:=z752 g hG ls a hA r hr;omega
 ·have:=hA.2.2.1.le (by omega);omega
structure Cert.ok (c:Cert):Prop where
 mx:c.mx
 len:c.ranks.length≤1048576
theorem Cert.ok_of {c:Cert} (h:c.mx) (h1:c.s1≤1048576):c.ok:=⟨h,h1⟩
theorem z908 {objs:Nat→AObj} {π Bn:List Nat} {xs ys:List AC} (h:borL objs π Bn xs=ys):bor objs π Bn (.tup xs)=.tup ys:=by
 simp only [bor,h]
end Go.Proofs.YtnfoijopccdjeaaGreat
namespace Go.Proofs.YtnfoijopccdjeaaGreat
open Go.Gl
attribute [local irreducible] z18 AWP z33 z37 z34 RetS z40
theorem trans_ok (t:Tree) (hs:t.sz≤200):CallsA Tryz.prog 178 [z20 Tree.cs' t] [] (.tup [.agg (trA t).cs,.bool (tsB t)]) [] :=
 (z1080 t hs).lend [] [0,1,2] rfl rfl rfl (z908 (z39 (z709 rfl rfl rfl rfl rfl rfl rfl rfl rfl) (z39 rfl z60))) z35
theorem trA_len (t:Tree) (hs:t.sz≤200):(trA t).ini.length≤32∧(trA t).acc.length≤66∧(trA t).ed.length≤2080:=by
 unfold trA trO
 by_cases h:bscB t=true
 ·rw [if_pos h]
  obtain ⟨⟨ht,hn⟩,h5⟩:=of_decide_eq_true (show decide _=true from h)
  have hp:=z994 h5
  have hi:=z685 (bscL (t.nrm false)) (t.nrm false)
  cases hS:trS (bscL (t.nrm false)) (t.nrm false) with
  |none=>exact ⟨y53 _,y53 _,y53 _⟩
  |some y =>
   have hg:=z1161 _ _ _ _ _ _ hS
   simp only [y58] at hg
   show (numI _).length≤32∧(if y.L.length=0 then [false] else y.acc).length≤66∧(y.ed.map eT).length≤2080
   rw [z477,y49]
   refine ⟨by omega,?_,by omega⟩
   split
   ·simp
   ·omega
 ·rw [if_neg h];exact ⟨y53 _,y53 _,y53 _⟩
theorem letB_lt {B:List Tree} (hB:BasL B) (s:Int) (i:Nat):((List.range i).foldl (atoI B s) (0,0)).2 < 8:=by
 induction i with
 |zero=>show 0 < 8;omega
 |succ i ih =>
  rw [z333]
  unfold atoI
  split
  ·rename_i hk
   dsimp only
   split
   ·by_cases hil:i < B.length
    ·have hmem:B.getD i dftT∈B:=by rw [z17 hil];exact y44 _
     have hform:=hB.form hmem
     have hvv:(B.getD i dftT).val.toNat≤2:=by
      generalize B.getD i dftT=f at *
      cases hform with
      |«at» v=>have:=hB.av v hmem;show v.toNat≤2;omega
      |nx a _ _=>simp [Tree.kind] at hk
      |un a b _ _ _ _=>simp [Tree.kind] at hk
      |re a b _ _ _ _=>simp [Tree.kind] at hk
     exact z533 ih hvv
    ·rw [y67,y68 (by omega)]
     exact z533 ih (show (0:Nat)≤2 by omega)
   ·exact ih
  ·exact ih
theorem z957 (B:List Tree) (s ph:Int) (i:Nat) (c v:Int):∀ (l:List Nat) (x:List (List Int)×List Edg),∀ e∈(l.foldl (z101 B s ph i c v) x).2,e∈x.2∨e.val=v
 |[],x,e,he=>.inl he
 |t::l,x,e,he=>by
  rw [List.foldl_cons] at he
  rcases z957 B s ph i c v l _ e he with h|h
  ·unfold z101 at h
   split at h
   ·rcases List.mem_append.1 h with h1|h1
    ·exact .inl h1
    ·rw [List.mem_singleton.1 h1];exact .inr rfl
   ·exact .inl h
  ·exact .inr h
theorem z1160 (B:List Tree) (U:List Int):∀ (f i:Nat) (x y:TrS),goS B U f i x=some y→∀ e∈y.ed,e∈x.ed∨∃ s,e.val=((letB B s).2:Int)
 |0,i,x,y,h=>by simp [goS] at h
 |f+1,i,x,y,h=>by
  rw [goS] at h
  split at h
  ·split at h
   ·cases h
   ·intro e he
    rcases z1160 B U f (i+1) _ y h e he with h1|h1
    ·rcases z957 B _ _ i _ _ _ _ e h1 with h2|h2
     ·exact .inl h2
     ·exact .inr ⟨_,h2⟩
    ·exact .inr h1
  ·cases h
   exact fun e he=>.inl he
theorem trA_val (t:Tree) (hs:t.sz≤200):∀ e∈(trA t).ed,e.mx:=by
 unfold trA trO
 by_cases h:bscB t=true
 ·rw [if_pos h]
  obtain ⟨⟨ht,hn⟩,h5⟩:=of_decide_eq_true (show decide _=true from h)
  obtain ⟨hB,_,_⟩:=z568 ht hn h5 hs
  cases hS:trS (bscL (t.nrm false)) (t.nrm false) with
  |none=>intro e he;cases he
  |some y =>
   intro e he
   obtain ⟨e',he',rfl⟩:=List.mem_map.1 (show e∈y.ed.map eT from he)
   rcases z1160 _ _ _ _ _ _ hS e' he' with h1|⟨s,h1⟩
   ·cases h1
   ·have:=letB_lt hB s (bscL (t.nrm false)).length
    show inI e'.val
    unfold inI
    rw [h1]
    unfold letB
    omega
 ·rw [if_neg h];intro e he;cases he
theorem acc_ok (B:List Tree) (hB:BasL B) (s ph:Nat) (s1:s≤31) (hp:(untB B).length=0∧ph=0∨ph < (untB B).length):CallsA Tryz.prog 189 [.agg [.int s,.int ph],.pt [.pt [lst 3 Tree.cs' B,ints (untB B)]]] [] (.bool (phB B (untB B) s ph).2) []:=by
 have hl:=hB.len
 have hul:(untB B).length≤B.length:=z256 B B.length
 have hu:=fun (h:ph < (untB B).length)=>z646 (B:=B) (x:=(untB B).getD ph 0) (by rw [z17 h];exact y44 _)
 have cFu:ph < (untB B).length→CallsA Tryz.prog 190 [.pt [lst 3 Tree.cs' B,ints (untB B)],.int s,.int ph] [] (.bool (fulB B s ((untB B).getD ph 0))) []:=fun h=>by
  obtain ⟨u,e1,e3,e4⟩:=hu h
  have:=z624 B (untB B) hB s (by omega) (by omega) ph u h (by omega) e1 e3 e4
  rw [← e1] at this;exact this
 clear hu
 unfold phB
 generalize untB B=U at *
 by_cases h0:U.length=0
 ·rw [if_pos h0]
  refine z7 z14 Tryz.func189 rfl rfl 21 Tryz.ntmps189 (by simp) ?_
  repeat' ((first|(apply y4 ok;rfl)|((apply z6)<;>intro _))<;>conv=>whnf)
  all_goals first|(exfalso;omega)|(refine rsD [] [] rfl ?_;(repeat' first|exact y85 _|constructor))
 ·rw [if_neg h0,y76]
  by_cases h1:ph=0
  ·subst h1
   have cF:=cFu (by omega)
   generalize fulB B s (U.getD 0 0)=z at *
   cases z
   all_goals
    refine z7 z14 Tryz.func189 rfl rfl 21 Tryz.ntmps189 (by simp) ?_
    repeat' ((first|(apply y4 ok;rfl)|((apply z6)<;>intro _)|(apply z4 (cF);rfl;rfl))<;>conv=>whnf)
    all_goals first|(exfalso;omega)|(refine rsD [] [] rfl ?_;(repeat' first|exact y85 _|constructor))
  ·have e:(if fulB B s (U.getD ph 0)=true then (((ph:Int)+1) % (U.length:Int),decide ((ph:Int)=0)) else ((ph:Int),false)).2=false:=by
    split
    ·exact y82 (by omega)
    ·rfl
   rw [e]
   clear cFu
   refine z7 z14 Tryz.func189 rfl rfl 21 Tryz.ntmps189 (by simp) ?_
   repeat' ((first|(apply y4 ok;rfl)|((apply z6)<;>intro _))<;>conv=>whnf)
   all_goals first|(exfalso;omega)|(refine rsD [] [] rfl ?_;(repeat' first|exact y85 _|constructor))
theorem ren_mp {M d:Nat} {r:Nat→Nat} {es:List (List Int×Int)} : z635 M r (.mp d es) (.mp d es):=⟨trivial,rfl⟩
noncomputable def z894 (q i:Nat) (c v:Nat) (y:List (List Int)×List Edg) (x:Nat):List (List Int)×List Edg:=(z117 y.1 [(x:Int),(q:Int)],y.2++[⟨i,c,v,z190 y.1 [(x:Int),(q:Int)]⟩])
theorem fold_mv (B:List Tree) (s:Int) (q i c v k:Nat) (y:List (List Int)×List Edg):(mvK B s k).foldl (z894 q i c v) y=(List.range k).foldl (z101 B s q i c v) y:=by
 unfold mvK
 rw [List.foldl_filter]
 rfl
theorem numI_ini (n m:Nat) (h:n≤m):IniP (numI n) m (numI n).length:=by
 intro i hi _
 have e:∀ j (hj:j < (numI n).length),(numI n)[j]=(j:Int):=fun j hj=>by simp [numI]
 have hl:=z477 n
 rw [e i hi]
 refine ⟨by omega,fun j hj=>?_⟩
 rw [e j (by omega)];omega
theorem ExI.valid {B:List Tree} {U:List Int} {n0 i:Nat} {x:TrS} (hB:BasL B) (h:ExI B U n0 i x) (h1:1≤n0) (hi:i≤64) (he:x.L.length≤i):autB ⟨numI n0,x.acc,x.ed.map eT⟩=true:=by
 have h2:=h.base;have h3:=h.acc;have h4:=h.edl;have h5:=h.le
 have hp:=z994 hB.len
 have hmul:i * 2 ^ B.length≤64 * 32:=Nat.mul_le_mul hi hp.2
 rw [z143]
 refine ⟨⟨by show 1≤x.acc.length;omega,by show x.acc.length≤64;omega⟩,by show (x.ed.map eT).length≤2048;rw [y49];omega,numI_ini n0 x.acc.length (by omega),fun e he=>?_⟩
 obtain ⟨e',he',rfl⟩:=List.mem_map.1 he
 obtain ⟨⟨a1,a2⟩,⟨a3,a4⟩,s,a5,a6⟩:=h.ed e' he'
 have l1:(letB B s).1 < 8:=by
  have:∀ n,((List.range n).foldl (atoI B s) (0,0)).1 < 8:=by
   intro n
   induction n with
   |zero=>show (0:Nat) < 8;omega
   |succ n ih =>
    rw [z333]
    unfold atoI
    split
    ·rename_i hk
     refine z533 ih ?_
     by_cases hil:n < B.length
     ·have hmem:B.getD n dftT∈B:=by rw [z17 hil];exact y44 _
      have hform:=hB.form hmem
      generalize B.getD n dftT=f at *
      cases hform with
      |«at» v=>have:=hB.av v hmem;show v.toNat≤2;omega
      |nx a _ _=>simp [Tree.kind] at hk
      |un a b _ _ _ _=>simp [Tree.kind] at hk
      |re a b _ _ _ _=>simp [Tree.kind] at hk
     ·rw [y67,y68 (by omega)]
      show (0:Nat)≤2;omega
    ·exact ih
  exact this _
 refine ⟨⟨a1,?_⟩,⟨a3,?_⟩,⟨?_,?_⟩,?_,?_⟩
 ·show e'.src≤(x.acc.length:Int) - 1;omega
 ·show e'.dst≤(x.acc.length:Int) - 1;omega
 ·show 0≤e'.care;omega
 ·show e'.care≤7;omega
 ·show 0≤e'.val;omega
 ·show e'.val.toNat &&& e'.care.toNat=e'.val.toNat
  rw [a5,a6];exact letB_sub B s
@[reducible] noncomputable def accF (B:List Tree):AC:=.fn (.func 189) [] [.pt [.pt [lst 3 Tree.cs' B,ints (untB B)]]]
@[reducible] noncomputable def movF (B:List Tree):AC:=.fn (.func 192) [.pt [lst 3 Tree.cs' B,ints (untB B)]] []
@[reducible] def fndF:AC:=.fn (.func 240) [] [.ptr 3 none 0,.ptr 4 none 0]
@[reducible] def objsE (N:List Int) (L:List (List Int)) (acc:List Bool) (E:List Trans) (fb:AC):List AObj:=[.cells 3 [[.nils,.nils,.nils]],.cells 3 [[.sref 5 0 N.length,.sref 6 0 acc.length,.sref 7 0 E.length]],.mp 2 (z278 0 L),.cells 1 [[.mref 2]],.cells 1 [[fb]],.cells 1 (N.map enI),.cells 1 (acc.map enB),.cells 4 (E.map Trans.cs)]
noncomputable def expO (B:List Tree) (L0:List (List Int)):Option Aut:=(goS B (untB B) 65 0 ⟨L0,[],[]⟩).map (z336 L0.length)
set_option maxRecDepth 20000 in
set_option maxHeartbeats 25600000 in
theorem z893 (B : List Tree) (hB : BasL B) (L0 : List (List Int)) (hr : ∀ r ∈ L0, RowP B.length (untB B) r) (hn : L0.Nodup) (hl0 : L0.length ≤ 32) :
    CallsA Tryz.prog 191 [lst 2 enP L0,accF B,movF B] [] (.tup [.agg [.sref 0 0 ((expO B L0).getD ⟨[],[],[]⟩).ini.length,.sref 1 0 ((expO B L0).getD ⟨[],[],[]⟩).acc.length,.sref 2 0 ((expO B L0).getD ⟨[],[],[]⟩).ed.length],.bool (expO B L0).isSome])
      [.cells 1 (((expO B L0).getD ⟨[],[],[]⟩).ini.map enI),.cells 1 (((expO B L0).getD ⟨[],[],[]⟩).acc.map enB),.cells 4 (((expO B L0).getD ⟨[],[],[]⟩).ed.map Trans.cs)]:=by
  unfold expO
  have hp5:=z994 hB.len
  by_cases h0:L0.length=0
  · obtain rfl:L0=[]:=y73 h0
    refine z7 z14 Tryz.func191 rfl (by kernel_rfl) 98 Tryz.ntmps191 (by simp) ?_
    repeat' ((first|(apply y4 ok;rfl)|(apply y43;(dsimp only;omega)))<;>conv=>whnf)
    all_goals (refine y88 1 ?_;refine y88 4 ?_;refine rsD [2,1,3] [] rfl ?_;(repeat' first|exact y85 _|exact z49|apply y86|refine z10 rfl (z30) ?_|apply z38|apply z71|constructor))
  have hRO:∀ x,goS B (untB B) 65 0 ⟨L0,[],[]⟩=some x→x.L.length≠0→(goS B (untB B) 65 0 ⟨L0,[],[]⟩).map (z336 L0.length)=some ⟨numI L0.length,x.acc,x.ed.map eT⟩:=fun x h h2=>by
    rw [h];unfold z336;simp only [Option.map_some];rw [if_neg h2]
  have hRN:goS B (untB B) 65 0 ⟨L0,[],[]⟩=none→(goS B (untB B) 65 0 ⟨L0,[],[]⟩).map (z336 L0.length)=none:=fun h=>by rw [h];rfl
  generalize (goS B (untB B) 65 0 ⟨L0,[],[]⟩).map (z336 L0.length)=O at *
  obtain ⟨R,hR0⟩:∃ R,goS B (untB B) 65 0 ⟨L0,[],[]⟩=R:=⟨_,rfl⟩
  rw [hR0] at hRO hRN
  refine z7 z14 Tryz.func191 rfl (by kernel_rfl) 98 Tryz.ntmps191 (by simp) ?_
  repeat' ((first|(apply y4 ok;rfl)|(apply y43;omega)|((apply z6)<;>intro _))<;>conv=>whnf)
  all_goals try (exfalso;omega)
  refine y84 (y87 1 rfl) ?_
  refine z64 (fun x:Nat×List Int=>([(1,accF B),(2,movF B),(6,.ptr 0 none 0),(8,.ptr 1 none 0),(10,.ptr 4 none 0),(11,fndF),(24,lst 2 enP L0),(25,.int L0.length),(26,.int x.1)],[.cells 3 [[.nils,.nils,.nils]],.cells 3 [[.sref 5 0 x.2.length,.nils,.nils]],.mp 2 (z278 0 (L0.take x.1)),.cells 1 [[.mref 2]],.cells 1 [[.own 2 ((L0.take x.1).map enP)]],.cells 1 (x.2.map enI)])) (fun x=>x.1≤L0.length∧numI x.1=x.2) (fun x=>L0.length - x.1) (0,[]) ⟨y53 _,rfl⟩ (by refine swR [0,1,2,3,4,5] [] rfl rfl ?_;(repeat' first|exact y85 _|exact z49|apply y86|refine z10 rfl (z30) ?_|constructor)<;>(first|rfl|exact z391)) ?_
  rintro ⟨i,N⟩ ⟨hi,hN⟩
  dsimp only at hi hN ⊢
  have hNl:=z477 i
  rw [hN] at hNl
  by_cases hil:i < L0.length
  · have gk:(L0.map enP)[i]?=some (enP L0[i]):=by rw [y51,y45 hil];rfl
    obtain ⟨s,ph,er,hs,hp⟩:=hr L0[i] (y44 _)
    have hni:L0[i] ∉ L0.take i:=fun h=>by
      obtain ⟨j,hj,e⟩:=List.mem_iff_getElem.1 h
      rw [y48] at hj
      rw [List.getElem_take] at e
      exact List.pairwise_iff_getElem.1 (List.nodup_iff_pairwise_ne.1 hn) j i (by omega) hil (by omega) e
    have hts:L0.take (i+1)=L0.take i++[L0[i]]:=y50 hil
    have htl:(L0.take i).length=i:=by rw [y48];omega
    rw [er] at gk hni hts
    have cf:=z1175 (L0.take i) (by omega) s ph
    have e1:z117 (L0.take i) [(s:Int),(ph:Int)]=L0.take (i+1):=by unfold z117;rw [if_neg hni,hts]
    have e2:z190 (L0.take i) [(s:Int),(ph:Int)]=i:=by unfold z190;rw [List.idxOf_eq_length hni,htl]
    rw [e1,e2] at cf
    have ns:=z757 i
    rw [hN] at ns
    repeat' ((first|(apply y4 ok;rfl)|(apply z23;kernel_rfl)|(refine z15 (i:=i) rfl gk ?_)|(apply y43;first|omega|(unfold inI;omega)|((try dsimp only);simp only [y49,y48,y47,y46,y57,y58];omega)|exact ⟨rfl,z21 rfl z31⟩)|((apply z6)<;>intro _)|(apply z8 [3,2,4] [] cf;rfl;rfl;rfl;(focus ((repeat' first|exact z13|apply z11)<;>first|exact ren_mp|exact z42 rfl rfl))))<;>conv=>whnf)
    all_goals try (exfalso;omega)
    all_goals refine z27 (i+1,N++[(i:Int)]) ⟨by show i+1≤_;omega,ns⟩ (by show L0.length - (i+1) < L0.length - i;omega) (by refine swR [0,1,2,3,4,8] [] rfl rfl ?_;(repeat' first|exact y85 _|(refine z45 ?_;((simp;done)))|apply y86|((refine z43 rfl ?_ ?_);(focus ((repeat' (first|exact z5 (fun _=>rfl)|apply z28));done)))|(refine z68 ?_ ?_;(focus (omega)))|constructor)<;>(rfl))
  obtain rfl:i=L0.length:=by omega
  rw [y55]
  have hNe:numI L0.length=N:=hN
  rw [hNe] at hRO
  have hI0:ExI B (untB B) L0.length 0 ⟨L0,[],[]⟩:=⟨hr,y52 _,rfl,y53 _,y53 _,by show L0.length≤L0.length+0 * _;omega,fun e he=>by cases he⟩
  have hval:=fun i x h h2 h3=>ExI.valid (B:=B) (U:=untB B) (n0:=L0.length) (i:=i) (x:=x) hB h (by omega) h2 h3
  rw [hNe] at hval
  have hN32:N.length≤32:=by omega
  repeat' ((first|(apply y4 ok;rfl)|(apply y43;omega)|(((with_reducible apply z9;omega));intro _)|((apply z6)<;>intro _))<;>conv=>whnf)
  all_goals try (exfalso;omega)
  refine y84 (y87 1 rfl) ?_
  refine y84 (y87 4 rfl) ?_
  refine z64 (fun x:Nat×List (List Int)×List Bool×List Trans=>([(1,accF B),(2,movF B),(6,.ptr 0 none 0),(8,.ptr 1 none 0),(10,.ptr 4 none 0),(11,fndF),(14,.int x.1)],objsE N x.2.1 x.2.2.1 x.2.2.2 (.own 2 (x.2.1.map enP)))) (fun x=>x.1≤64∧∃ ed:List Edg,x.2.2.2=ed.map eT∧(goS B (untB B) (65 - x.1) x.1 ⟨x.2.1,x.2.2.1,ed⟩=R∨(64 < x.2.1.length∧R=none))∧ExI B (untB B) L0.length x.1 ⟨x.2.1,x.2.2.1,ed⟩) (fun x=>65 - x.1) (0,L0,[],[]) ⟨y53 _,[],rfl,.inl hR0,hI0⟩ (by refine swR [0,1,2,3,4,5,6,7] [] rfl rfl ?_;(repeat' first|exact y85 _|exact z49|exact z12 _|apply y86|((refine z10 rfl ?_ ?_);(focus ((repeat' (first|exact z30|exact z5 (fun _=>rfl)));done)))|constructor)<;>(rfl)) ?_
  have hL00:L0.length≠0:=h0
  clear hI0 hR0 hNe hNl hN hi hil hn hr
  rintro ⟨i,L,acc,E⟩ ⟨hi,ed,hE,hR,hI⟩
  dsimp only at hi hE hR hI ⊢
  have hmul:i * 2 ^ B.length≤64 * 32:=Nat.mul_le_mul hi hp5.2
  have hLl:=hI.ln
  have hedl:=hI.edl
  have hacl:=hI.acc
  dsimp only at hLl hedl hacl
  have hEl:E.length=ed.length:=by rw [hE,y49]
  rw [show 65 - i=(64 - i)+1 by omega,goS] at hR
  dsimp only at hR
  refine y84 (Gl.Reach.expose 4 0 0 rfl rfl rfl (z156 (fun _=>rfl) _) rfl) ?_
  refine y84 (show Gl.Reach _ _ (mkSt _ [(1,accF B),(2,movF B),(6,.ptr 0 none 0),(8,.ptr 1 none 0),(10,.ptr 4 none 0),(11,fndF),(14,.int i)] (objsE N L acc E (.sref 8 0 L.length)++[.cells 2 (L.map enP)])) from (by refine swR [0,1,2,3,4,5,6,7,8] [] rfl rfl ?_;(repeat' first|exact y85 _|exact z12 _|(refine z45 ?_;((simp;done)))|apply y86|refine z10 rfl (z5 (fun _=>rfl)) ?_|constructor)<;>(rfl))) ?_
  by_cases hil:i < L.length
  · rw [if_pos hil] at hR
    by_cases h64:i=64
    · have hRn:R=none:=by
        rcases hR with h|h
        · rw [if_pos (by omega)] at h;exact h.symm
        · exact h.2
      have hO:=hRN hRn
      subst hO
      repeat' ((first|(apply y4 ok;rfl)|(apply y43;omega)|(((apply z9;omega));intro _)|((apply z6)<;>intro _))<;>conv=>whnf)
      all_goals try (exfalso;omega)
      all_goals (refine y88 1 ?_;refine y88 1 ?_;refine y88 4 ?_;refine rsD [9,10,11] [] rfl ?_;(repeat' first|exact y85 _|exact z49|refine z10 rfl (z30) ?_|apply z38|apply z71|constructor))
    · obtain ⟨s,ph,er,hs,hp⟩:=hI.rows (L.getD i []) (by rw [z17 hil];exact y44 _)
      have gk:(L.map enP)[i]?=some (enP [(s:Int),(ph:Int)]):=by rw [y51,y45 hil,← er,z17 hil];rfl
      have cA:=acc_ok B hB s ph (by omega) hp
      have cM:=z1132 B hB s ph (by omega) hp
      obtain ⟨q,eq,hq⟩:=z940 (B:=B) (s:=s) hp
      have hst:=hI.step hil
      have hRS:z185 B (untB B) i ⟨L,acc,ed⟩=⟨((mvK B s (2 ^ B.length)).foldl (z894 q i (letB B s).1 (letB B s).2) (L,ed)).1,acc++[(phB B (untB B) s ph).2],((mvK B s (2 ^ B.length)).foldl (z894 q i (letB B s).1 (letB B s).2) (L,ed)).2⟩:=by
        rw [fold_mv]
        unfold z185
        dsimp only
        rw [er,← eq];rfl
      rw [hRS] at hst hR
      rw [eq] at cM
      have hMl:=z1131 B s (2 ^ B.length)
      clear eq hRS gk
      have gk:(L.map enP)[i]?=some (enP [(s:Int),(ph:Int)]):=by rw [y51,y45 hil,← er,z17 hil];rfl
      generalize (phB B (untB B) s ph).2=z at *
      generalize (letB B s).1=c at *
      generalize (letB B s).2=v at *
      generalize mvK B s (2 ^ B.length)=M at *
      repeat' ((first|(apply y4 ok;rfl)|(apply z23;kernel_rfl)|(refine z15 (i:=i) rfl gk ?_)|(apply y43;first|omega|((try dsimp only);simp only [y49,y48,y47,y46,y57,y58];omega)|exact ⟨rfl,z21 rfl z31⟩)|((apply z6)<;>intro _)|(apply z4 (cA);rfl;rfl)|(apply z8 [] [11] cM;rfl;rfl;rfl;(focus ((repeat' first|exact z13|apply z11)<;>(refine z19 ?_;((exact z5 fun _=>rfl)))))))<;>conv=>whnf)
      all_goals try (exfalso;omega)
      refine y84 (Gl.Reach.absorb 4 8 0 0 rfl rfl rfl rfl (by simp) rfl (z5 fun _=>rfl) rfl) ?_
      refine z64 (fun x:Nat×List (List Int)×List Trans=>([(1,accF B),(2,movF B),(6,.ptr 0 none 0),(8,.ptr 1 none 0),(10,.ptr 4 none 0),(11,fndF),(14,.int i),(70,.sref 8 0 M.length),(71,.int M.length),(72,.int x.1)],objsE N x.2.1 (acc++[z]) x.2.2 (.own 2 (x.2.1.map enP))++[.cells 4 (M.map (enMv c v q))])) (fun x=>x.1≤M.length∧∃ ed' : List Edg,x.2.2=ed'.map eT∧(M.take x.1).foldl (z894 q i c v) (L,ed)=(x.2.1,ed')∧x.2.1.length≤L.length+x.1∧x.2.2.length≤E.length+x.1) (fun x=>M.length - x.1) (0,L,E) ⟨y53 _,ed,hE,rfl,y52 _,y52 _⟩ (by refine swR [0,1,2,3,4,5,10,7,11] [] rfl rfl ?_;(repeat' first|exact y85 _|exact z12 _|(refine z45 ?_;((simp;done)))|apply y86|((first|refine z43 rfl ?_ ?_|refine z10 rfl ?_ ?_);(focus ((repeat' (first|exact z5 (fun _=>rfl)|apply z28));done)))|(refine z68 ?_ ?_;(focus (omega)))|constructor)<;>(rfl)) ?_
      rintro ⟨k,L',E'⟩ ⟨hk,ed',hE',hf,hL',hel⟩
      dsimp only at hk hE' hf hL' hel ⊢
      by_cases hkl:k < M.length
      · have gM:(M.map (enMv c v q))[k]?=some (enMv c v q M[k]):=by rw [y51,y45 hkl];rfl
        have hfs:(M.take (k+1)).foldl (z894 q i c v) (L,ed)=z894 q i c v (L',ed') M[k]:=by rw [y50 hkl,y62,hf];rfl
        generalize M[k]=x at *
        have cf:=z1175 L' (by omega) x q
        have hpl:=z669 L' [(x:Int),(q:Int)]
        unfold z894 at hfs
        dsimp only at hfs
        generalize z117 L' [(x:Int),(q:Int)]=L2 at *
        generalize z190 L' [(x:Int),(q:Int)]=n2 at *
        repeat' ((first|(apply y4 ok;rfl)|(apply z23;kernel_rfl)|(refine z15 (i:=k) rfl gM ?_)|(apply y43;first|omega|(unfold inI;omega)|((try dsimp only);simp only [y49,y48,y47,y46,y57,y58];omega)|exact ⟨rfl,z21 rfl z31⟩)|((apply z6)<;>intro _)|(apply z8 [3,2,4] [] cf;rfl;rfl;rfl;(focus ((repeat' first|exact z13|apply z11)<;>first|exact ren_mp|exact z42 rfl rfl))))<;>conv=>whnf)
        all_goals try (exfalso;omega)
        all_goals refine z27 (k+1,L2,E'++[eT ⟨i,c,v,n2⟩]) ⟨by show k+1≤_;omega,_,by rw [hE'];simp,hfs,by show L2.length≤L.length+(k+1);omega,by show (E'++[_]).length≤E.length+(k+1);simp;omega⟩ (by show M.length - (k+1) < M.length - k;omega) (by refine swR [0,1,2,3,4,5,6,11,8] [] rfl rfl ?_;(repeat' first|exact y85 _|exact z12 _|(refine z45 ?_;((simp;done)))|apply y86|((first|refine z43 rfl ?_ ?_|refine z10 rfl ?_ ?_);(focus ((repeat' (first|exact z5 (fun _=>rfl)|apply z28));done)))|(refine z68 ?_ ?_;(focus (omega)))|constructor)<;>(rfl))
      · obtain rfl:k=M.length:=by omega
        rw [y55] at hf
        rw [hf] at hst hR
        dsimp only at hst hR
        repeat' ((first|(apply y4 ok;rfl)|(apply y43;first|omega|(unfold inI;omega))|(((apply z9;omega));intro _)|((apply z6)<;>intro _))<;>conv=>whnf)
        all_goals try (exfalso;omega)
        all_goals refine z27 (i+1,L',acc++[z],E') ⟨by show i+1≤64;omega,ed',hE',?_,hst.1⟩ (by show 65 - (i+1) < 65 - i;omega) (by refine swR [0,1,2,3,4,5,6,7] [] rfl rfl ?_;(repeat' first|exact y85 _|exact z12 _|apply y86|refine z10 rfl (z5 (fun _=>rfl)) ?_|constructor)<;>(rfl))
        all_goals
          show goS B (untB B) (65 - (i+1)) (i+1) ⟨L',acc++[z],ed'⟩=R∨_
          have h2:L.length≤L'.length:=hst.2
          rw [show 65 - (i+1)=64 - i by omega]
          rcases hR with h|h
          · by_cases h65:64 < L.length
            · rw [if_pos h65] at h
              exact .inr ⟨by show 64 < L'.length;omega,h.symm⟩
            · rw [if_neg h65] at h
              exact .inl h
          · exact .inr ⟨by show 64 < L'.length;omega,h.2⟩
  · rw [if_neg hil] at hR
    have hRs:R=some ⟨L,acc,ed⟩:=by
      rcases hR with h|h
      · exact h.symm
      · omega
    have hb:=hI.base
    have hO:=hRO _ hRs (by show L.length≠0;have:L0.length≤L.length:=hb;omega)
    have hv:=hval i ⟨L,acc,ed⟩ hI hi (by show L.length≤i;omega)
    dsimp only at hO hv
    rw [← hE] at hO hv
    subst hO
    have hP:=z143.1 hv
    have hmx:Aut.mx ⟨N,acc,E⟩:=⟨by show N.length≤_;unfold maxLen;omega,by show acc.length≤_;unfold maxLen;omega,by show E.length≤_;unfold maxLen;omega,fun e he=>by
      obtain ⟨_,_,⟨c1,c2⟩,v1,v2⟩:=hP.2.2.2 e he
      have:=@Nat.and_le_right e.val.toNat e.care.toNat
      show inI e.val
      unfold inI;omega⟩
    have cV:=z253 ⟨N,acc,E⟩ hmx
    rw [hv] at cV
    have cC:=z911 ⟨N,acc,E⟩ (by show N.length≤_;omega) (by show acc.length≤_;omega) (by show E.length≤_;omega)
    repeat' ((first|(apply y4 ok;rfl)|(apply y43;omega)|(((apply z9;omega));intro _)|((apply z6)<;>intro _)|((first|(apply z80 [] [5,6,7] [] cV;(focus (exact z39 (z709 (a:=⟨N,acc,E⟩) rfl rfl rfl rfl rfl rfl rfl rfl rfl) z60));rfl)|(apply z80 [] [5,6,7] [9,10,11] cC;(focus (exact z39 (z709 (a:=⟨N,acc,E⟩) rfl rfl rfl rfl rfl rfl rfl rfl rfl) z60));rfl));rfl;(focus ((repeat' first|exact z13|apply z11)<;>(refine z19 ?_;((exact z5 fun _=>rfl)))));((refine .inr ⟨rfl,?_⟩;repeat' first|exact True.intro|apply y43|exact z146 (fun _=>rfl) _))))<;>conv=>whnf)
    all_goals try (exfalso;omega)
    all_goals (refine rsD [9,10,11] [] rfl ?_;(repeat' first|exact y85 _|exact z12 _|refine z10 rfl (z5 (fun _=>rfl)) ?_|constructor))
theorem z785 (B:List Tree) (g:Tree):∀ r∈iniS B g,RowP B.length (untB B) r:=by
 intro r hr
 unfold iniS at hr
 obtain ⟨s,hs,rfl⟩:=List.mem_map.1 hr
 have:=List.mem_range.1 (List.mem_filter.1 hs).1
 exact ⟨s,0,rfl,this,by omega⟩
theorem z1019 (B:List Tree) (g:Tree):(iniS B g).Nodup:=by
 unfold iniS
 exact ((List.nodup_range).filter _).map _ fun a b h e=>h (by simp at e;omega)
set_option maxRecDepth 20000 in
set_option maxHeartbeats 12800000 in
theorem z690 (t:Tree) (hs:t.sz≤200):CallsA Tryz.prog 133 [z20 Tree.cs' t] [] (.tup [.agg [.sref 0 0 (trA t).ini.length,.sref 1 0 (trA t).acc.length,.sref 2 0 (trA t).ed.length],.bool (tsB t)]) [.cells 1 ((trA t).ini.map enI),.cells 1 ((trA t).acc.map enB),.cells 4 ((trA t).ed.map Trans.cs)]:=by
 have cb:=z693 t hs
 unfold trA tsB trO
 by_cases h:bscB t=true
 ·obtain ⟨⟨ht,hn⟩,h5⟩:=of_decide_eq_true (show decide _=true from h)
  obtain ⟨hB,hIn,hsz⟩:=z568 ht hn h5 hs
  have cn:=z621 t (y25 ht) (by omega)
  rw [if_pos h] at cb ⊢
  rw [h] at cb
  rw [if_pos hn,hn] at cn
  clear h ht hn
  generalize t.nrm false=g at *
  generalize bscL g=B at *
  have hp:=z994 h5
  have hi0:=z685 B g
  have cE:=z893 B hB (iniS B g) (z785 B g) (z1019 B g) (by omega)
  have hEx:(trS B g).map (z336 (iniS B g).length)=expO B (iniS B g):=rfl
  rw [hEx]
  clear hEx
  generalize expO B (iniS B g)=O at *
  have hul:(untB B).length≤B.length:=z256 B B.length
  have e2:((1:Int) * 2 ^ ((B.length:Int).toNat))=((2 ^ B.length:Nat):Int):=by
   rw [y76,Int.one_mul];norm_cast
  have cV:=fun s a b=>z268 B (untB B) hB s a b g hIn hsz
  have hkk:=fun i=>z725 B i
  rw [y16 t] at cb cn ⊢
  rw [y16 g] at cn cV
  refine z7 z14 Tryz.func133 rfl rfl 75 Tryz.ntmps133 (by simp) ?_
  repeat' ((first|(apply y4 ok;rfl)|(apply z4 (cb);rfl;rfl)|(apply z4 (cn);rfl;rfl))<;>conv=>whnf)
  refine y84 (y87 1 rfl) ?_
  refine z64 (fun x:Nat×List Int=>([(2,.ptr 1 none 0),(4,lst 3 Tree.cs' B),(6,.ptr 2 none 0),(8,.ptr 4 none 0),(30,lst 3 Tree.cs' B),(31,.int B.length),(32,.int x.1)],[.cells 3 [[.int t.kind,.int t.val,lst 3 Tree.cs' t.kids]],.cells 3 [[.nils,.nils,.nils]],.cells 3 [[.int g.kind,.int g.val,lst 3 Tree.cs' g.kids]],.cells 2 [[lst 3 Tree.cs' B,.sref 5 0 x.2.length]],.cells 1 [[.ptr 3 none 0]],.cells 1 (x.2.map enI)])) (fun x=>x.1≤B.length∧untL B x.1=x.2) (fun x=>B.length - x.1) (0,[]) ⟨y53 _,rfl⟩ (by refine swR [0,1,2,3,4,5] [] rfl rfl ?_;(repeat' first|exact y85 _|exact z49|apply y86|refine z10 rfl (z30) ?_|constructor)) ?_
  rintro ⟨i,U⟩ ⟨hi,hU⟩
  dsimp only at hi hU ⊢
  have hul2:=z256 B i
  rw [hU] at hul2
  by_cases hil:i < B.length
  ·have gk:(B.map Tree.cs')[i]?=some (Tree.cs' (B.getD i dftT)):=by rw [y51,y45 hil,z17 hil];rfl
   have hs:=hkk i
   rw [hU] at hs
   generalize B.getD i dftT=f at *
   by_cases hk:f.kind=7
   ·rw [if_pos hk] at hs
    repeat' ((first|(apply y4 ok;rfl)|(apply z23;kernel_rfl)|(refine z15 (i:=i) rfl gk ?_)|(apply y43;first|omega|(unfold inI;omega)|((try dsimp only);simp only [y49,y48,y47,y46,y57,y58];omega)|exact ⟨rfl,z21 rfl z31⟩)|((apply z6)<;>intro _))<;>conv=>whnf)
    all_goals try (exfalso;omega)
    all_goals refine z27 (i+1,U++[(i:Int)]) ⟨by show i+1≤_;omega,hs⟩ (by show B.length - (i+1) < B.length - i;omega) (by refine swR [0,1,2,3,4,8] [] rfl rfl ?_;(repeat' first|exact y85 _|(refine z45 ?_;((simp;done)))|apply y86|((refine z43 rfl ?_ ?_);(focus ((repeat' (first|exact z5 (fun _=>rfl)|apply z28));done)))|(refine z68 ?_ ?_;(focus (omega)))|constructor))
   ·rw [if_neg hk,y64] at hs
    repeat' ((first|(apply y4 ok;rfl)|(apply z23;kernel_rfl)|(refine z15 (i:=i) rfl gk ?_)|(apply y43;first|omega|(unfold inI;omega))|((apply z6)<;>intro _))<;>conv=>whnf)
    all_goals try (exfalso;omega)
    all_goals refine z27 (i+1,U) ⟨by show i+1≤_;omega,hs⟩ (by show B.length - (i+1) < B.length - i;omega) (by refine swR [0,1,2,3,4,5] [] rfl rfl ?_;(repeat' first|exact y85 _|exact z12 _|apply y86|refine z10 rfl (z5 (fun _=>rfl)) ?_|constructor))
  ·obtain rfl:i=B.length:=by omega
   have hU2:untB B=U:=hU
   rw [hU2] at cV
   have cE2:=cE
   unfold accF movF at cE2
   rw [hU2] at cE2
   clear cE hkk hU hU2
   repeat' ((first|(apply y4 ok;rfl)|(apply z23;kernel_rfl)|(rw [e2])|(apply y43;first|omega|(unfold inI;omega))|(((with_reducible apply z9;omega));intro _)|((apply z6)<;>intro _))<;>conv=>whnf)
   all_goals try (exfalso;omega)
   refine y84 (y87 2 rfl) ?_
   refine y84 (show Gl.Reach _ _ (mkSt _ [(2,.ptr 0 none 0),(6,.ptr 1 none 0),(8,.ptr 3 none 0),(11,.sref 4 0 0),(53,.int ((2 ^ B.length:Nat):Int)),(54,.int 0)] [.cells 3 [[.nils,.nils,.nils]],.cells 3 [[.int g.kind,.int g.val,lst 3 Tree.cs' g.kids]],.cells 2 [[lst 3 Tree.cs' B,ints U]],.cells 1 [[.ptr 2 none 0]],.cells 2 []]) from (by refine swR [1,2,3,4,6] [5] rfl rfl ?_;(repeat' first|exact y85 _|exact z49|apply y86|refine z10 rfl (z30) ?_|((apply z36 rfl rfl rfl);(focus ((repeat ((exact z24 (fun _=>rfl) _)));done));(focus (((simp;done));done)))|constructor))) ?_
   refine y84 (show Gl.Reach _ _ (mkSt _ [(2,.ptr 0 none 0),(6,.ptr 1 none 0),(8,.ptr 2 none 0),(11,.sref 3 0 0),(53,.int ((2 ^ B.length:Nat):Int)),(54,.int 0)] [.cells 3 [[.nils,.nils,.nils]],.cells 3 [[.int g.kind,.int g.val,lst 3 Tree.cs' g.kids]],.cells 1 [[.pt [lst 3 Tree.cs' B,ints U]]],.cells 2 []]) from (by refine swR [0,1,3,4] [2] rfl rfl ?_;(repeat' first|exact y85 _|apply y86|refine z10 rfl (z30) ?_|constructor))) ?_
   refine z64 (fun x:Nat×List (List Int)=>([(2,.ptr 0 none 0),(6,.ptr 1 none 0),(8,.pt [.pt [lst 3 Tree.cs' B,ints U]]),(11,.sref 2 0 x.2.length),(53,.int ((2 ^ B.length:Nat):Int)),(54,.int x.1)],[.cells 3 [[.nils,.nils,.nils]],.cells 3 [[.int g.kind,.int g.val,lst 3 Tree.cs' g.kids]],.cells 2 (x.2.map enP)])) (fun x=>x.1≤2 ^ B.length∧iniK B (fun s=>vlB B (s:Nat) g) x.1=x.2) (fun x=>2 ^ B.length - x.1) (0,[]) ⟨y53 _,rfl⟩ (by refine swR [0,1,3] [2] rfl rfl ?_;(repeat' first|exact y85 _|apply y86|refine z10 rfl (z30) ?_|constructor)) ?_
   rintro ⟨k,L⟩ ⟨hk,hL⟩
   dsimp only at hk hL ⊢
   have hLl:=z948 B (fun s=>vlB B (s:Nat) g) k
   rw [hL] at hLl
   by_cases hkl:k < 2 ^ B.length
   ·have hsu:=z786 B (fun s=>vlB B (s:Nat) g) k
    rw [hL] at hsu
    have cv:=cV k (by omega) (by omega)
    generalize vlB B (k:Nat) g=z at *
    cases z
    ·rw [if_neg (by simp),y64] at hsu
     repeat' ((first|(apply y4 ok;rfl)|(apply y43;(unfold inI;omega))|((apply z6)<;>intro _)|(apply z4 (cv);rfl;rfl))<;>conv=>whnf)
     all_goals try (exfalso;omega)
     all_goals refine z27 (k+1,L) ⟨by show k+1≤_;omega,hsu⟩ (by show 2 ^ B.length - (k+1) < 2 ^ B.length - k;omega) (by refine swR [0,1,2] [] rfl rfl ?_;(repeat' first|exact y85 _|exact z12 _|apply y86|refine z10 rfl (z5 (fun _=>rfl)) ?_|constructor))
    ·rw [if_pos rfl] at hsu
     repeat' ((first|(apply y4 ok;rfl)|(apply y43;first|(unfold inI;omega)|((try dsimp only);simp only [y49,y48,y47,y46,y57,y58];omega)|exact ⟨rfl,z21 rfl z31⟩)|((apply z6)<;>intro _)|(apply z4 (cv);rfl;rfl))<;>conv=>whnf)
     all_goals try (exfalso;omega)
     all_goals refine z27 (k+1,L++[[(k:Int),0]]) ⟨by show k+1≤_;omega,hsu⟩ (by show 2 ^ B.length - (k+1) < 2 ^ B.length - k;omega) (by refine swR [0,1,4] [] rfl rfl ?_;(repeat' first|exact y85 _|(refine z45 ?_;((simp;done)))|apply y86|((refine z43 rfl ?_ ?_);(focus ((repeat' (first|exact z5 (fun _=>rfl)|apply z28));done)))|(refine z68 ?_ ?_;(focus (omega)))|constructor))
   ·obtain rfl:k=2 ^ B.length:=by omega
    have hL0:iniS B g=L:=hL
    rw [hL0] at cE2
    repeat' ((first|(apply y4 ok;rfl)|((apply z6)<;>intro _)|(apply z80 [] [2] [3,4,5] cE2;(focus (exact z39 (z194 rfl rfl rfl (by simp) (z24 (fun _=>rfl) _)) (z39 rfl (z39 rfl z60))));rfl;rfl;(focus ((repeat' first|exact z13|apply z11)<;>(refine z19 ?_;((exact z5 fun _=>rfl)))));((refine .inr ⟨rfl,?_⟩;repeat' first|exact True.intro|apply y43|exact z146 (fun _=>rfl) _))))<;>conv=>whnf)
    all_goals try (exfalso;omega)
    all_goals (refine rsD [3,4,5] [] rfl ?_;(repeat' first|exact y85 _|exact z12 _|refine z10 rfl (z5 (fun _=>rfl)) ?_|constructor))
 ·rw [if_neg h] at cb ⊢
  rw [(y71 _).mp h] at cb
  refine z7 z14 Tryz.func133 rfl rfl 75 Tryz.ntmps133 (by simp) ?_
  repeat' ((first|(apply y4 ok;rfl)|(apply z4 (cb);rfl;rfl))<;>conv=>whnf)
  all_goals (refine y88 1 ?_;refine y88 1 ?_;refine y88 4 ?_;refine rsD [2,3,4] [] rfl ?_;(repeat' first|exact y85 _|exact z49|refine z10 rfl (z30) ?_|apply z38|apply z71|constructor))
noncomputable def ngA (t:Tree):Aut:=if ngB t=true then trA (ngT t) else ⟨[],[],[]⟩
noncomputable def ngS (t:Tree):Bool:=ngB t && tsB (ngT t)
theorem ngB_fm {t:Tree} (h:ngB t=true):t.fmB=true:=by
 unfold ngB at h
 rw [y70] at h
 exact h.1
theorem z356 {t:Tree} (h:ngB t=true):(ngT t).sz≤12:=by
 have h1:=ngT_sz t
 have h2:=fm_sz (ngB_fm h)
 omega
theorem ngA_len (t:Tree):(ngA t).ini.length≤32∧(ngA t).acc.length≤66∧(ngA t).ed.length≤2080:=by
 unfold ngA
 split
 ·rename_i h
  exact trA_len _ (by have:=z356 h;omega)
 ·simp
theorem ngA_mx (t:Tree):(ngA t).mx:=by
 obtain ⟨h1,h2,h3⟩:=ngA_len t
 refine ⟨by unfold maxLen;omega,by unfold maxLen;omega,by unfold maxLen;omega,?_⟩
 unfold ngA
 split
 ·rename_i h
  exact trA_val _ (by have:=z356 h;omega)
 ·intro e he;cases he
theorem z554 (t:Tree) (hm:t.mx):CallsA Tryz.prog 52 [z20 Tree.cs' t] [] (.tup [.agg [.sref 0 0 (ngA t).ini.length,.sref 1 0 (ngA t).acc.length,.sref 2 0 (ngA t).ed.length],.bool (ngS t)]) [.cells 1 ((ngA t).ini.map enI),.cells 1 ((ngA t).acc.map enB),.cells 4 ((ngA t).ed.map Trans.cs)]:=by
 have cN:=z691 t hm
 unfold ngA ngS
 by_cases h:ngB t=true
 ·have hz:=z356 h
  have cT:=z690 (ngT t) (by omega)
  rw [if_pos h,h,Bool.true_and]
  rw [h] at cN
  generalize ngT t=u at *
  generalize trA u=a at *
  generalize tsB u=q at *
  rw [y16 t] at cN ⊢
  rw [y16 u] at cN cT
  refine z7 z14 Tryz.func52 rfl rfl 18 Tryz.ntmps52 (by simp) ?_
  repeat' ((first|(apply y4 ok;rfl)|(apply z4 (cN);rfl;rfl)|(apply z8 [] [3,4,5] cT;rfl;rfl;rfl;(focus ((repeat' first|exact z13|apply z11)<;>(refine z19 ?_;((exact z5 fun _=>rfl)))))))<;>conv=>whnf)
  all_goals (refine rsD [3,4,5] [] rfl ?_;(repeat' first|exact y85 _|exact z12 _|refine z10 rfl (z5 (fun _=>rfl)) ?_|constructor))
 ·rw [if_neg h,(y71 _).mp h,Bool.false_and]
  rw [(y71 _).mp h] at cN
  generalize ngT t=u at *
  rw [y16 t] at cN ⊢
  rw [y16 u] at cN
  refine z7 z14 Tryz.func52 rfl rfl 18 Tryz.ntmps52 (by simp) ?_
  repeat' ((first|(apply y4 ok;rfl)|(apply z4 (cN);rfl;rfl))<;>conv=>whnf)
  all_goals (refine y88 1 ?_;refine y88 1 ?_;refine y88 4 ?_;refine rsD [3,4,5] [] rfl ?_;(repeat' first|exact y85 _|exact z49|refine z10 rfl (z30) ?_|apply z38|apply z71|constructor))
theorem z587 (t:Tree) (hm:t.mx):CallsA Tryz.prog 52 [z20 Tree.cs' t] [] (.tup [.agg (ngA t).cs,.bool (ngS t)]) [] :=
 (z554 t hm).lend [] [0,1,2] rfl rfl rfl (z908 (z39 (z709 rfl rfl rfl rfl rfl rfl rfl rfl rfl) (z39 rfl z60))) z35
theorem z580 (t:Tree) (hm:t.mx):CallsA Tryz.prog 125 [z20 Tree.cs' t] [] (.tup [.agg (ngA t).cs,.bool (ngS t)]) []:=by
 have cN:=z657 t hm
 unfold ngA ngS
 by_cases h:ngB t=true
 ·have hz:=z356 h
  have cT:=trans_ok (ngT t) (by omega)
  rw [if_pos h,h,Bool.true_and]
  rw [h] at cN
  generalize ngT t=u at *
  generalize trA u=a at *
  generalize tsB u=q at *
  rw [y16 t] at cN ⊢
  rw [y16 u] at cN cT
  refine z7 z14 Tryz.func125 rfl rfl 18 Tryz.ntmps125 (by simp) ?_
  repeat' ((first|(apply y4 ok;rfl)|(apply z4 (cN);rfl;rfl)|(apply z4 (cT);rfl;rfl))<;>conv=>whnf)
  all_goals (refine rsD [] [] rfl ?_;(repeat' first|exact y85 _|constructor))
 ·rw [if_neg h,(y71 _).mp h,Bool.false_and]
  rw [(y71 _).mp h] at cN
  generalize ngT t=u at *
  rw [y16 t] at cN ⊢
  rw [y16 u] at cN
  refine z7 z14 Tryz.func125 rfl rfl 18 Tryz.ntmps125 (by simp) ?_
  repeat' ((first|(apply y4 ok;rfl)|(apply z4 (cN);rfl;rfl))<;>conv=>whnf)
  all_goals (refine rsD [] [] rfl ?_;(repeat' first|exact y85 _|exact z26|apply z38|apply z71|constructor))
theorem z1143 (v x:Int):CallsA Tryz.prog 199 [.int x,.pt [.int v]] [] (.bool (decide (x=v))) []:=by
 refine z7 z14 Tryz.func199 rfl rfl 7 Tryz.ntmps199 (by simp) ?_
 repeat' (((apply y4 ok;rfl))<;>conv=>whnf)
 all_goals (refine rsD [] [] rfl ?_;(repeat' first|exact y85 _|constructor))
theorem z1050 (rows:List (List Int)) (hrl:∀ r∈rows,r.length≤1000000000) (v x:Int) (hx:0≤x∧x < rows.length):CallsA Tryz.prog 249 [.int x,.pt [.int v],.pt [lst 1 encL rows]] [] (.bool (decide (x≠v) && decide (v∈rows.getD x.toNat []))) []:=by
 obtain ⟨u,rfl⟩:∃ u:Nat,x=u:=⟨x.toNat,by omega⟩
 rw [y76]
 have hu:u < rows.length:=by omega
 have gr:=z526 hu
 have hrow:(rows.getD u []).length≤1000000000:=by rw [z17 hu];exact hrl _ (y44 _)
 have cct:=z139 (rows.getD u []) (by unfold maxLen;omega) v
 generalize rows.getD u []=row at *
 refine z7 z14 Tryz.func249 rfl rfl 16 Tryz.ntmps249 (by simp) ?_
 by_cases h:(u:Int)=v
 ·rw [y82 (by simp [h]),Bool.false_and]
  repeat' ((first|(apply y4 ok;rfl)|(apply z23;kernel_rfl)|(refine z15 (i:=u) rfl gr ?_)|(apply y43;omega)|((apply z53)<;>intro _)|(apply z4 (cct);rfl;rfl))<;>conv=>whnf)
  all_goals try (exfalso;omega)
  all_goals (refine rsD [] [] rfl ?_;(repeat' first|exact y85 _|constructor))
 ·rw [y81 h,Bool.true_and]
  repeat' ((first|(apply y4 ok;rfl)|(apply z23;kernel_rfl)|(refine z15 (i:=u) rfl gr ?_)|(apply y43;omega)|((apply z53)<;>intro _)|(apply z4 (cct);rfl;rfl))<;>conv=>whnf)
  all_goals try (exfalso;omega)
  all_goals (refine rsD [] [] rfl ?_;(repeat' first|exact y85 _|constructor))
set_option maxHeartbeats 3200000 in
theorem z1049 (rows : List (List Int)) (v : Int) (hr : ∀ r ∈ rows, InN rows.length r) (hv : 0 ≤ v ∧ v < rows.length) (hN : rows.length ≤ 100000) (hrl : ∀ r ∈ rows, r.length ≤ 1000000000) :
    CallsA Tryz.prog 200 [lst 1 encL rows,.int v] [] (.sref 0 0 (aroL rows v).length) [.cells 1 ((aroL rows v).map enI)]:=by
  obtain ⟨u,rfl⟩:∃ u:Nat,v=u:=⟨v.toNat,by omega⟩
  have hu:u < rows.length:=by omega
  have gr:=z526 hu
  have hrow:(rows.getD u []).length≤1000000000:=by rw [z17 hu];exact hrl _ (y44 _)
  have cct:=z139 (rows.getD u []) (by unfold maxLen;omega) (u:Int)
  have csh:=z662 rows [(u:Int)] hr (z291 hv) (by simp) hN hrl (fun n=>decide (n≠(u:Int)) && decide ((u:Int)∈rows.getD n.toNat [])) 249 [.int (u:Int)] [lst 1 encL rows] (fun x h0 h1=>z1050 rows hrl u x ⟨h0,h1⟩)
  unfold aroL
  rw [y76]
  by_cases h:(u:Int)∈rows.getD u []
  · rw [if_pos h]
    rw [y81 h] at cct
    generalize rows.getD u []=row at *
    refine z7 z14 Tryz.func200 rfl rfl 18 Tryz.ntmps200 (by simp) ?_
    repeat' ((first|(apply y4 ok;rfl)|(apply z23;kernel_rfl)|(refine z15 (i:=u) rfl gr ?_)|(apply y43;omega)|(apply z4 (cct);rfl;rfl))<;>conv=>whnf)
    all_goals (refine rsD [2] [] rfl ?_;(repeat' first|exact y85 _|apply y86|constructor))
  · rw [if_neg h]
    rw [y82 h] at cct
    generalize shL rows [(u:Int)] (fun n=>decide (n≠(u:Int)) && decide ((u:Int)∈rows.getD n.toNat []))=D at *
    generalize rows.getD u []=row at *
    refine z7 z14 Tryz.func200 rfl rfl 18 Tryz.ntmps200 (by simp) ?_
    repeat' ((first|(apply y4 ok;rfl)|(apply z23;kernel_rfl)|(refine z15 (i:=u) rfl gr ?_)|(apply y43;omega)|(apply z4 (cct);rfl;rfl)|(apply z80 [] [0,1,2] [3] csh;(focus ((repeat' first|exact z60|apply z39)<;>rfl));rfl;rfl;(focus ((repeat' first|exact z13|apply z11)<;>(refine z19 ?_;((exact z5 fun _=>rfl)))));((refine .inr ⟨rfl,?_⟩;repeat' first|exact True.intro|apply y43|exact z146 (fun _=>rfl) _))))<;>conv=>whnf)
    all_goals (refine rsD [3] [] rfl ?_;(repeat' first|exact y85 _|exact z12 _|refine z10 rfl (z5 (fun _=>rfl)) ?_|constructor))
noncomputable def lasR (rows:List (List Int)) (ini:List Int) (G:Int→Bool):List Int×List Int:=(lasL rows ini G).getD ([],[])
set_option maxHeartbeats 6400000 in
theorem z1142 (rows : List (List Int)) (ini : List Int) (hr : ∀ r ∈ rows, InN rows.length r) (hi : InN rows.length ini) (hn : ini.Nodup) (hN : rows.length ≤ 100000) (hrl : ∀ r ∈ rows, r.length ≤ 1000000000) (G : Int → Bool) (f : FuncId) (c1 c2 : List AC) (hf : ∀ x : Int, 0 ≤ x → x < rows.length → CallsA Tryz.prog f [.int x, .pt c1, .pt c2] [] (.bool (G x)) []) :
    CallsA Tryz.prog 136 [lst 1 encL rows,ints ini,.fn (.func f) [] [.pt c1,.pt c2]] [] (.tup [.sref 0 0 ((lasR rows ini G).1.take ((lasR rows ini G).1.length - 1)).length,.sref 1 0 (lasR rows ini G).2.length,.bool (lasL rows ini G).isSome]) [.cells 1 (((lasR rows ini G).1.take ((lasR rows ini G).1.length - 1)).map enI),.cells 1 ((lasR rows ini G).2.map enI)]:=by
  have hil:ini.length≤100000:=by have:=z166 rows.length ini hn hi;omega
  have cC:=z1033 rows hr hN hrl
  have cO:=z1119 rows ini hr hi hN hrl (by omega)
  have hQi:=z632 hr hi rows.length
  have hQl:=z910 hr hi rows.length
  have hcl:=cycB_len rows
  have hcg:∀ i,i < rows.length→((cycB rows).map enB)[i]?=some (enB (cycD rows i)):=fun i h=>z1171 (cycD rows) h
  have hto:=fun v hv=>z1100 (rows:=rows) (ini:=ini) hn (v:=v) hv
  have hrR:∀ k,k < (bfsL rows ini).length→(G ((bfsL rows ini).getD k 0) && cycD rows ((bfsL rows ini).getD k 0).toNat)=true→(∀ j,j < k→(G ((bfsL rows ini).getD j 0) && cycD rows ((bfsL rows ini).getD j 0).toNat)=false)→lasL rows ini G=some (bkw (srP rows ini) rows.length ((bfsL rows ini).getD k 0) [],cycL rows ((bfsL rows ini).getD k 0)):=fun k hk h1 h2=>by
    unfold lasL
    have:(bfsL rows ini).find? (fun v=>G v && cycD rows v.toNat)=some ((bfsL rows ini).getD k 0):=by
      rw [z17 hk] at h1 ⊢
      rw [List.find?_eq_some_iff_getElem]
      refine ⟨h1,k,hk,rfl,fun j hj=>?_⟩
      have:=h2 j hj
      rw [z17 (by omega)] at this
      rw [this];rfl
    rw [this];rfl
  have hrN:(∀ j,j < (bfsL rows ini).length→(G ((bfsL rows ini).getD j 0) && cycD rows ((bfsL rows ini).getD j 0).toNat)=false)→lasL rows ini G=none:=fun h=>by
    unfold lasL
    have:(bfsL rows ini).find? (fun v=>G v && cycD rows v.toNat)=none:=by
      rw [List.find?_eq_none]
      intro x hx
      obtain ⟨j,hj,rfl⟩:=List.mem_iff_getElem.1 hx
      have:=h j hj
      rw [z17 hj] at this
      rw [this];simp
    rw [this];rfl
  unfold lasR
  change (bfsL rows ini).length≤rows.length at hQl
  change InN rows.length (bfsL rows ini) at hQi
  generalize lasL rows ini G=L at *
  generalize cycB rows=C at *
  generalize bfsL rows ini=Q at *
  refine z7 z14 Tryz.func136 rfl rfl 45 Tryz.ntmps136 (by simp) ?_
  repeat' ((first|(apply y4 ok;rfl)|((first|(apply z8 [] [0] cC;rfl;rfl)|(apply z8 [] [1] cO;rfl;rfl));rfl;(focus ((repeat' first|exact z13|apply z11)<;>(refine z19 ?_;((exact z5 fun _=>rfl)))))))<;>conv=>whnf)
  refine z64 (fun i:Nat=>([(0,lst 1 encL rows),(1,ints ini),(2,.fn (.func f) [] [.pt c1,.pt c2]),(9,.sref 0 0 rows.length),(17,.sref 1 0 Q.length),(18,.int Q.length),(19,.int i)],[.cells 1 (C.map enB),.cells 1 (Q.map enI)])) (fun i=>i≤Q.length∧∀ j,j < i→(G (Q.getD j 0) && cycD rows (Q.getD j 0).toNat)=false) (fun i=>Q.length - i) 0 ⟨y53 _,fun j hj=>by omega⟩ (by refine swR [0,1] [] rfl rfl ?_;(repeat' first|exact y85 _|exact z12 _|refine z10 rfl (z5 (fun _=>rfl)) ?_|constructor)) ?_
  rintro i ⟨hi1,hno⟩
  by_cases hi2:i < Q.length
  · have hm:=z404 hi2
    have hx:=hQi _ hm
    have gx:(Q.map enI)[i]?=some (enI (Q.getD i 0)):=by rw [y51,y45 hi2,z17 hi2];rfl
    have cf:=hf _ hx.1 hx.2
    have hsome:=fun h=>hrR i hi2 h hno
    have hnxt:(G (Q.getD i 0) && cycD rows (Q.getD i 0).toNat)=false→∀ j,j < i+1→(G (Q.getD j 0) && cycD rows (Q.getD j 0).toNat)=false:=fun h j hj=>by
      by_cases e:j=i
      · subst e;exact h
      · exact hno j (by omega)
    have hsh:=hto _ hm
    have csh:=z377 rows ini hr hi hn hN hrl (fun n=>decide (n=Q.getD i 0)) 199 [.int (Q.getD i 0)] (fun x _ _=>z1143 (Q.getD i 0) x)
    have car:=z1049 rows (Q.getD i 0) hr hx hN hrl
    rw [hsh] at csh
    rw [aroL_eq] at car
    have hb1:=z567 (srP rows ini) rows.length (Q.getD i 0) []
    have hb2:=z445 (srP rows ini) rows.length (Q.getD i 0) []
    have hc2:=z701 rows (Q.getD i 0)
    have gc:=hcg (Q.getD i 0).toNat (by omega)
    rw [y58] at hb2
    clear hsh hrR hrN hto hcg hm hno
    generalize bkw (srP rows ini) rows.length (Q.getD i 0) []=B at *
    generalize cycL rows (Q.getD i 0)=Y at *
    generalize Q.getD i 0=x at *
    obtain ⟨u,rfl⟩:∃ u:Nat,x=u:=⟨x.toNat,by omega⟩
    rw [y76] at *
    by_cases hg:(G (u:Int) && cycD rows u)=true
    · have hL:=hsome hg
      obtain ⟨hg1,hg2⟩:=Bool.and_eq_true_iff.1 hg
      rw [hg1] at cf
      rw [hg2] at gc
      subst hL
      repeat' ((first|(apply y4 ok;rfl)|(apply z23;kernel_rfl)|(refine z15 (i:=i) rfl gx ?_)|(refine z15 (i:=u) rfl gc ?_)|(apply y43;first|omega|(unfold inI;omega))|((apply z6)<;>intro _)|(apply z4 (cf);rfl;rfl)|((first|(apply z80 [] [2] [3] csh;(focus ((repeat' first|exact z60|apply z39)<;>rfl));rfl)|(apply z80 [] [] [4] car;rfl;rfl));rfl;(focus ((repeat' first|exact z13|apply z11)<;>(refine z19 ?_;((exact z5 fun _=>rfl)))));(first|exact .inl rfl|(refine .inr ⟨rfl,?_⟩;repeat' first|exact True.intro|apply y43|exact z146 (fun _=>rfl) _))))<;>conv=>whnf)
      all_goals try (exfalso;omega)
      all_goals
        show RetS _ _ (.tup [.sref 0 0 (B.take (B.length - 1)).length,.sref 1 0 Y.length,.bool true]) [.cells 1 ((B.take (B.length - 1)).map enI),.cells 1 (Y.map enI)] _
        refine Gl.RetS.trunc 3 (B.length - 1) rfl ?_
        conv=>whnf
        (refine rsD [3,4] [] rfl ?_;(repeat' first|exact y85 _|exact z12 _|(refine z45 ?_;((simp;done)))|((refine z10 rfl ?_ ?_);(focus ((repeat' (first|exact z5 (fun _=>rfl)|apply z28));done)))|apply z71|constructor))
      all_goals (refine z46 ?_;rw [List.map_take])
    · have hg:=(y71 _).mp hg
      have hn2:=hnxt hg
      cases hG:G (u:Int)
      · rw [hG] at cf
        repeat' ((first|(apply y4 ok;rfl)|(refine z15 (i:=i) rfl gx ?_)|(apply y43;first|omega|(unfold inI;omega))|((apply z6)<;>intro _)|(apply z4 (cf);rfl;rfl))<;>conv=>whnf)
        all_goals try (exfalso;omega)
        all_goals refine z27 (i+1) ⟨hi2,hn2⟩ (by omega) (by refine swR [0,1] [] rfl rfl ?_;(repeat' first|exact y85 _|exact z12 _|refine z10 rfl (z5 (fun _=>rfl)) ?_|constructor))
      · rw [hG] at cf
        rw [hG,Bool.true_and] at hg
        rw [hg] at gc
        repeat' ((first|(apply y4 ok;rfl)|(refine z15 (i:=i) rfl gx ?_)|(refine z15 (i:=u) rfl gc ?_)|(apply y43;first|omega|(unfold inI;omega))|((apply z6)<;>intro _)|(apply z4 (cf);rfl;rfl))<;>conv=>whnf)
        all_goals try (exfalso;omega)
        all_goals refine z27 (i+1) ⟨hi2,hn2⟩ (by omega) (by refine swR [0,1] [] rfl rfl ?_;(repeat' first|exact y85 _|exact z12 _|refine z10 rfl (z5 (fun _=>rfl)) ?_|constructor))
  · have hL:=hrN fun j hj=>hno j (by omega)
    subst hL
    repeat' ((first|(apply y4 ok;rfl)|(apply y43;omega)|(((apply z9;omega));intro _)|((apply z6)<;>intro _))<;>conv=>whnf)
    all_goals try (exfalso;omega)
    all_goals show RetS _ _ (.tup [.sref 0 0 0,.sref 1 0 0,.bool false]) [.cells 1 [],.cells 1 []] _
    all_goals (refine y88 1 ?_;refine y88 1 ?_;refine rsD [2,3] [] rfl ?_;(repeat' first|exact y85 _|exact z49|refine z10 rfl (z30) ?_|apply z71|constructor))
end Go.Proofs.YtnfoijopccdjeaaGreat
namespace Go.Proofs.YtnfoijopccdjeaaGreat
open Go.Gl
attribute [local irreducible] z18 AWP z33 z37 z34
noncomputable def z734 (g:Graph) (p:List Int) (i:Nat):Bool:=(decide (0≤p.getD i 0) && decide (p.getD i 0 < g.st.length)) && (decide (i=0) || decide (p.getD i 0∈g.nx.getD (p.getD (i - 1) 0).toNat []))
noncomputable def z997 (g:Graph) (p:List Int):Bool:=z300 g && (decide (1≤p.length) && (List.range p.length).all (z734 g p))
theorem z996 {g:Graph} {p:List Int} (hg:z300 g=true) (h0:1≤p.length) (h:∀ i,i < p.length→z734 g p i=true):z997 g p=true:=by
 unfold z997
 have:(List.range p.length).all (z734 g p)=true:=by
  rw [y78]
  exact fun i hi=>h i (List.mem_range.1 hi)
 rw [this,hg,y81 h0];rfl
theorem stepP_in {g:Graph} {p:List Int} {j:Nat} (h:j < p.length) (k:z734 g p j=true):0≤p[j]∧p[j] < g.st.length:=by
 unfold z734 at k
 rw [z17 h] at k
 simp only [y70,decide_eq_true_eq] at k
 exact k.1
structure Trace where
 stem:List Int
 loop:List Int
deriving DecidableEq
def Trace.cs (t:Trace):List AC:=[ints t.stem,ints t.loop]
def Trace.all (t:Trace):List Int:=t.stem++t.loop
noncomputable def trB (g:Graph) (t:Trace):Bool:=decide (1≤t.loop.length∧t.stem.length+t.loop.length≤8000) && (z997 g t.all && (decide (t.all.getD 0 0=0) && decide (t.loop.getD 0 0∈g.nx.getD ((t.loop.getD (t.loop.length - 1) 0).toNat) [])))
theorem z753 {g:Graph} {p:List Int} (h:z997 g p=true) (i:Nat) (hi:i < p.length):0≤p[i]∧p[i] < g.st.length:=by
 unfold z997 at h
 rw [y70,y70,y78] at h
 exact stepP_in hi (h.2.2 i (List.mem_range.2 hi))
end Go.Proofs.YtnfoijopccdjeaaGreat
namespace Go.Proofs.YtnfoijopccdjeaaGreat
open Go.Gl
attribute [local irreducible] z18 AWP z33 z37 z34 RetS z40
def Aut.sm (a:Aut):Prop:=a.ini.length≤40∧a.acc.length≤20∧a.ed.length≤2100∧∀ t∈a.ed,t.mx
end Go.Proofs.YtnfoijopccdjeaaGreat
