/- A part of the proofs over this program: T152, T230, T231, T35, T39, T232, T38, T40, T41, T42, T153, T233, T234, T235, T236, T181, T182, T183, T113, T184. -/
import Derived.Test.YteinbnahinpegaaGreatP3
set_option linter.all false
namespace Go.Proofs.YteinbnahinpegaaGreat
open Go.Gl Proofs.Tryz
attribute [local irreducible] z18 AWP z38 z41 z40 RetS z42
def eT (e:Edg):Trans:=⟨e.src,e.care,e.val,e.dst⟩
noncomputable def trOut (n0:Nat) (x:TrS):Aut:=⟨numI n0,if x.L.length=0 then [false] else x.acc,x.ed.map eT⟩
noncomputable def trO (t:Tree):Option Aut:=if bscB t=true then (trS (bscL (t.nrm false)) (t.nrm false)).map (trOut (iniS (bscL (t.nrm false)) (t.nrm false)).length) else none
noncomputable def trA (t:Tree):Aut:=(trO t).getD ⟨[],[],[]⟩
noncomputable def tsB (t:Tree):Bool:=(trO t).isSome
theorem z1256 {t:Tree} (ht:t.fmB=true) (hn:(t.nrm false).fmB=true) (h5:(bscL (t.nrm false)).length≤5) (hs:t.sz≤200):BasL (bscL (t.nrm false))∧In (·∈bscL (t.nrm false)) (t.nrm false)∧(t.nrm false).sz≤1000:=by
 have hg:=y24 ht
 have hz:=y29 t hg false
 obtain ⟨a1,a2,a3,a4,a5,a6⟩:=z1059 (y24 hn) (nrm_NF t hg false)
 exact ⟨⟨h5,a1,fun x hx=>by have:=a2 x hx;omega,a3,a4,a5⟩,a6,by omega⟩
theorem pow_5 {n:Nat} (h:n≤5):1≤2 ^ n∧2 ^ n≤32:=by
 have:n=0∨n=1∨n=2∨n=3∨n=4∨n=5:=by omega
 rcases this with rfl|rfl|rfl|rfl|rfl|rfl<;>decide
set_option maxHeartbeats 12800000 in
theorem z1093 (t:Tree) (hs:t.sz≤200):QQ 96 [z61 Tree.cs' t] [] (.tup [.agg [.sref 0 0 (trA t).ini.length,.sref 1 0 (trA t).acc.length,.sref 2 0 (trA t).ed.length],.bool (tsB t)]) [.cells 1 ((trA t).ini.map enI),.cells 1 ((trA t).acc.map enB),.cells 4 ((trA t).ed.map Trans.cs)]:=by
 have cb:=z1255 t hs
 have cn:=z406 t (by omega)
 unfold trA tsB trO
 by_cases h:bscB t=true
 ·obtain ⟨⟨ht,hn⟩,h5⟩:=of_decide_eq_true (show decide _=true from h)
  obtain ⟨hB,hIn,hsz⟩:=z1256 ht hn h5 hs
  rw [if_pos h] at cb ⊢
  rw [h] at cb
  rw [if_pos ⟨ht,hn⟩,y79 ⟨ht,hn⟩] at cn
  clear h ht hn
  generalize t.nrm false=g at *
  generalize bscL g=B at *
  have hp:=pow_5 h5
  have cU:=z881 B (by omega)
  have hi0:=z958 B g
  have hul:(untB B).length≤B.length:=z653 B B.length
  have e2:((1:Int) * 2 ^ ((B.length:Int).toNat))=((2 ^ B.length:Nat):Int):=by
   rw [y74,Int.one_mul];norm_cast
  have hw:IntKind.u64.wrap (B.length:Int)=B.length:=by
   have:B.length=0∨B.length=1∨B.length=2∨B.length=3∨B.length=4∨B.length=5:=by omega
   rcases this with h|h|h|h|h|h<;>rw [h]<;>rfl
  rw [y16 t] at cb cn ⊢
  have cV:=fun s a b=>z184 B hB s a b g hIn hsz
  rw [y16 g] at cn cV
  refine z12 z24 func96 rfl rfl 137 ntmps96 (by simp) ?_
  repeat' ((first|apply y6 ok;rfl|(apply y40;first|omega|unfold inI;omega)|apply z8 cb;rfl;rfl|apply z8 cn;rfl;rfl|apply z8 cU;rfl;rfl)<;>conv=>whnf)
  refine y82 (y86 1 rfl) ?_
  refine y82 (y86 1 rfl) ?_
  refine y82 (y86 4 rfl) ?_
  refine z69 (fun x:Nat×List (List Int)×List Int=>([(2,.ptr 0 none 0),(4,lst 3 Tree.cs' B),(6,.ptr 1 none 0),(8,.int ((2 ^ B.length:Nat):Int)),(9,ints (untB B)),(10,.ptr 2 none 0),(11,.sref 3 0 x.2.1.length),(12,.int x.1)],[.cells 3 [[.nils,.nils,.nils]],.cells 3 [[.int g.kind,.int g.val,lst 3 Tree.cs' g.kids]],.cells 3 [[.sref 4 0 x.2.2.length,.sref 5 0 0,.sref 6 0 0]],.cells 1 (x.2.1.map encL),.cells 1 (x.2.2.map enI),.cells 1 [],.cells 4 []])) (fun x=>x.1≤2 ^ B.length∧iniK B (fun s=>vlB B (s:Nat) g) x.1=x.2.1∧numI x.2.1.length=x.2.2) (fun x=>2 ^ B.length - x.1) (0,[],[]) ⟨y50 _,rfl,rfl⟩ (by refine swR [1,2,3,4,5,6,7] [] rfl rfl ?_;(repeat' first|exact y83 _|exact z56|refine z160 ?_;omega|apply y85|refine z11 rfl z39 ?_|constructor)<;>((rw [e2];exact y83 _))) ?_
  rintro ⟨k,L,N⟩ ⟨hk,hL,hN⟩
  dsimp only at hk hL hN ⊢
  have hLl:=iniK_len B (fun s=>vlB B (s:Nat) g) k
  rw [hL] at hLl
  have nl:=z679 L.length
  have ns:=z1154 L.length
  rw [hN] at nl ns
  by_cases hkl:k < 2 ^ B.length
  ·have hsu:=z1198 B (fun s=>vlB B (s:Nat) g) k
   rw [hL] at hsu
   have cv:=cV k (by omega) (by omega)
   generalize vlB B (k:Nat) g=z at *
   cases z
   ·rw [if_neg (by simp),y62] at hsu
    repeat' ((first|apply y6 ok;rfl|apply y40;(unfold inI;omega)|apply z7<;>intro _|apply z8 cv;rfl;rfl)<;>conv=>whnf)
    all_goals try (exfalso;omega)
    all_goals refine z29 (k+1,L,N) ⟨by show k+1≤_;omega,hsu,hN⟩ (by show 2 ^ B.length - (k+1) < 2 ^ B.length - k;omega) (by refine swR [0,1,2,3,4,5,6] [] rfl rfl ?_;(repeat' first|exact y83 _|exact z10 _|apply y85|(refine z11 rfl ?_ ?_);(focus ((repeat' (first|exact z39|exact z6 (fun _=>rfl)));done))|constructor))
   ·rw [if_pos rfl] at hsu
    repeat' ((first|apply y6 ok;rfl|(apply y40;first|unfold inI;omega|(try dsimp only);simp only [y46,y45,y44,y43,y55,y56];omega|exact ⟨rfl,z17 rfl z26⟩)|apply z7<;>intro _|apply z8 cv;rfl;rfl)<;>conv=>whnf)
    all_goals try (exfalso;omega)
    all_goals refine z29 (k+1,L++[[(k:Int),0]],N++[(L.length:Int)]) ⟨by show k+1≤_;omega,hsu,by show numI (L++[[(k:Int),0]]).length=_;rw [y44];exact ns⟩ (by show 2 ^ B.length - (k+1) < 2 ^ B.length - k;omega) (by refine swR [0,1,2,11,8,5,6] [9] rfl rfl ?_;(repeat' first|exact y83 _|refine z44 ?_;((simp;done))|apply y85|(first|refine z33 rfl ?_ ?_|refine z11 rfl ?_ ?_);(focus ((repeat' (first|exact z39|exact z6 (fun _=>rfl)|apply z25));done))|refine z77 ?_ ?_;(focus omega)|constructor))
  ·obtain rfl:k=2 ^ B.length:=by omega
   have hrows:=iniK_row B (fun s=>vlB B (s:Nat) g) (2 ^ B.length) B.length (untB B) (y49 _)
   rw [hL] at hrows
   have hL0:iniS B g=L:=hL
   have hR:goS B (untB B) 65 0 ⟨L,[],[]⟩=trS B g:=by rw [← hL0];rfl
   have hO:trOut L.length=fun x=>⟨N,if x.L.length=0 then [false] else x.acc,x.ed.map eT⟩:=by unfold trOut;rw [hN]
   rw [hL0,hO]
   clear hO
   clear hL hkl cV cb cn cU hi0 ns hN hIn hsz hw e2 hk
   have hphase:=fun (s ph:Nat) (h:s < 2 ^ B.length) (h2:(untB B).length=0∨ph < (untB B).length)=>z1025 B hB s (by omega) (by omega) ph h2
   have hletter:=fun (s:Nat) (h:s < 2 ^ B.length)=>z884 B hB s (by omega) (by omega)
   have hfol:=fun (s k:Nat) (h:s < 2 ^ B.length) (h2:k < 2 ^ B.length)=>z783 B hB s k (by omega) (by omega) (by omega) (by omega)
   have hrowq:=fun (s ph:Nat) (h:(untB B).length=0∨ph < (untB B).length)=>phB_row (B:=B) (s:=s) h
   generalize trS B g=R at *
   have hRO:∀ x,R=some x→Option.map (fun x:TrS=>(⟨N,if x.L.length=0 then [false] else x.acc,x.ed.map eT⟩:Aut)) R=some ⟨N,if x.L.length=0 then [false] else x.acc,x.ed.map eT⟩:=fun x h=>by rw [h];rfl
   have hRN:R=none→Option.map (fun x:TrS=>(⟨N,if x.L.length=0 then [false] else x.acc,x.ed.map eT⟩:Aut)) R=none:=fun h=>by rw [h];rfl
   generalize Option.map (fun x:TrS=>(⟨N,if x.L.length=0 then [false] else x.acc,x.ed.map eT⟩:Aut)) R=O at *
   repeat' ((first|apply y6 ok;rfl|apply z7<;>intro _)<;>conv=>whnf)
   all_goals try (exfalso;omega)
   refine z69 (fun x:Nat×TrS=>([(2,.ptr 0 none 0),(4,lst 3 Tree.cs' B),(8,.int ((2 ^ B.length:Nat):Int)),(9,ints (untB B)),(10,.ptr 1 none 0),(11,.sref 2 0 x.2.L.length),(13,.int x.1)],[.cells 3 [[.nils,.nils,.nils]],.cells 3 [[.sref 3 0 N.length,.sref 4 0 x.2.acc.length,.sref 5 0 x.2.ed.length]],.cells 1 (x.2.L.map encL),.cells 1 (N.map enI),.cells 1 (x.2.acc.map enB),.cells 4 (x.2.ed.map fun e=>Trans.cs (eT e))])) (fun x=>x.1≤64∧goS B (untB B) (65 - x.1) x.1 x.2=R∧(∀ r∈x.2.L,RowS B.length (untB B) r)∧x.2.acc.length≤x.1∧x.2.ed.length≤x.1 * 32∧x.2.L.length≤100) (fun x=>65 - x.1) (0,⟨L,[],[]⟩) ⟨by omega,hR,hrows,y49 _,y49 _,by show L.length≤100;omega⟩ (by refine swR [0,2,3,4,5,6] [] rfl rfl ?_;(repeat' first|exact y83 _|exact z10 _|apply y85|(refine z11 rfl ?_ ?_);(focus ((repeat' (first|exact z39|exact z6 (fun _=>rfl)));done))|constructor)) ?_
   have hN100:N.length≤100:=by omega
   clear hL0 hR hrows hLl nl L
   rintro ⟨i,⟨L,acc,ed⟩⟩ ⟨hi,hR,hrows,hacc,hed,hL⟩
   dsimp only at hi hR hrows hacc hed hL ⊢
   rw [show 65 - i=(64 - i)+1 by omega,goS] at hR
   dsimp only at hR
   by_cases hil:i < L.length
   ·rw [if_pos hil] at hR
    by_cases h64:64 < L.length
    ·rw [if_pos h64] at hR
     have hO:=hRN hR.symm
     subst hO
     repeat' ((first|apply y6 ok;rfl|apply y40;omega|(first|with_reducible apply z79;omega|apply z13;omega);intro _|apply z7<;>intro _)<;>conv=>whnf)
     all_goals try (exfalso;omega)
     all_goals (refine y87 1 ?_;refine y87 1 ?_;refine y87 4 ?_;refine rsD [6,7,8] [] rfl ?_;(repeat' first|exact y83 _|exact z56|refine z11 rfl z39 ?_|apply z57|apply z156|constructor))
    ·rw [if_neg h64] at hR
     obtain ⟨s,ph,er,hs2,hph⟩:=hrows (L.getD i []) (by rw [z20 hil];exact y41 _)
     have gk:(L.map encL)[i]?=some (encL [(s:Int),(ph:Int)]):=by rw [y48,y42 hil,← er,z20 hil];rfl
     have cP:=hphase s ph hs2 hph
     have cL:=hletter s hs2
     obtain ⟨q,eq,hq⟩:=hrowq s ph hph
     have hRS:z240 B (untB B) i ⟨L,acc,ed⟩=⟨((List.range (2 ^ B.length)).foldl (z123 B s q i (letB B s).1 (letB B s).2) (L,ed)).1,acc++[(phB B (untB B) s ph).2],((List.range (2 ^ B.length)).foldl (z123 B s q i (letB B s).1 (letB B s).2) (L,ed)).2⟩:=by
      unfold z240
      dsimp only
      rw [er,← eq];rfl
     rw [hRS] at hR
     rw [eq] at cP
     have hfol:=fun k h=>hfol s k hs2 h
     generalize (phB B (untB B) s ph).2=z at *
     generalize (letB B s).1=c at *
     generalize (letB B s).2=v at *
     clear hphase hletter hrowq hRS eq
     repeat' ((first|apply y6 ok;rfl|refine z14 (i:=i) rfl gk ?_|refine ⟨_,rfl,?_⟩|(apply y40;first|omega|(try dsimp only);simp only [y46,y45,y44,y43,y55,y56];omega|exact ⟨rfl,z17 rfl z26⟩)|apply z7<;>intro _|apply z8 cP;rfl;rfl|apply z8 cL;rfl;rfl)<;>conv=>whnf)
     all_goals try (exfalso;omega)
     have hrow0:∀ r∈L,r.length≤1000:=fun r hr=>by obtain ⟨_,_,e,_,_⟩:=hrows r hr;rw [e];simp
     refine z69 (fun y:Nat×List (List Int)×List Edg=>([(2,.ptr 0 none 0),(4,lst 3 Tree.cs' B),(8,.int ((2 ^ B.length:Nat):Int)),(9,ints (untB B)),(10,.ptr 1 none 0),(11,.sref 2 0 y.2.1.length),(13,.int i),(14,.int s),(15,.int q),(17,.int c),(18,.int v),(19,.int y.1)],[.cells 3 [[.nils,.nils,.nils]],.cells 3 [[.sref 3 0 N.length,.sref 4 0 (acc.length+1),.sref 5 0 y.2.2.length]],.cells 1 (y.2.1.map encL),.cells 1 (N.map enI),.cells 1 ((acc++[z]).map enB),.cells 4 (y.2.2.map fun e=>Trans.cs (eT e))])) (fun y=>y.1≤2 ^ B.length∧(List.range y.1).foldl (z123 B s q i c v) (L,ed)=y.2∧(∀ r∈y.2.1,RowS B.length (untB B) r)∧y.2.1.length≤L.length+y.1∧y.2.2.length≤ed.length+y.1) (fun y=>2 ^ B.length - y.1) (0,L,ed) ⟨y50 _,rfl,hrows,y49 _,y49 _⟩ (by refine swR [0,1,2,3,7,5] [] rfl rfl ?_;(repeat' first|exact y83 _|exact z10 _|apply y85|(first|refine z33 rfl ?_ ?_|refine z11 rfl ?_ ?_);(focus ((repeat' (first|exact z6 (fun _=>rfl)|apply z25));done))|refine z77 ?_ ?_;(focus omega)|constructor)) ?_
     rintro ⟨k,L',ed'⟩ ⟨hk,hf,hrows',hLl,hel⟩
     dsimp only at hk hf hrows' hLl hel ⊢
     by_cases hkl:k < 2 ^ B.length
     ·have cF:=hfol k hkl
      have hfs:(List.range (k+1)).foldl (z123 B s q i c v) (L,ed)=z123 B s q i c v (L',ed') k:=by rw [y59,y60,hf];rfl
      have he:z123 B s q i c v (L',ed') k=if folB B s k=true then (z162 L' [(k:Int),(q:Int)],ed'++[⟨i,c,v,z303 L' [(k:Int),(q:Int)]⟩]) else (L',ed'):=rfl
      rw [he] at hfs
      clear he
      by_cases hb:folB B s k=true
      ·rw [if_pos hb] at hfs
       rw [hb] at cF
       have cQ:=z1178 L' (by omega) (fun r hr=>by obtain ⟨_,_,e,_,_⟩:=hrows' r hr;rw [e];simp) [(k:Int),(q:Int)] (by simp)
       have hpl:(z162 L' [(k:Int),(q:Int)]).length≤L'.length+1:=by unfold z162;split<;>simp
       have hpr:∀ r∈z162 L' [(k:Int),(q:Int)],RowS B.length (untB B) r:=fun r hr=>by
        unfold z162 at hr
        split at hr
        ·exact hrows' r hr
        ·rcases List.mem_append.1 hr with h|h
         ·exact hrows' r h
         ·rw [List.mem_singleton.1 h];exact ⟨k,q,rfl,hkl,hq⟩
       generalize z162 L' [(k:Int),(q:Int)]=L2 at *
       generalize z303 L' [(k:Int),(q:Int)]=n at *
       repeat' ((first|apply y6 ok;rfl|(apply y40;first|omega|unfold inI;omega|(try dsimp only);simp only [y46,y45,y44,y43,y55,y56];omega|exact ⟨rfl,z17 rfl z26⟩)|apply z7<;>intro _|apply z8 cF;rfl;rfl|apply z175 [2,6] [7] cQ;rfl;(focus ((repeat' first|exact z62|apply z71)<;>first|rfl|refine z89 rfl ?_;((exact z6 fun _=>rfl))));rfl;(focus ((repeat' first|exact z23|apply z19)<;>first|exact z671|refine z30 ?_;((exact z6 fun _=>rfl)))))<;>conv=>whnf)
       all_goals try (exfalso;omega)
       all_goals refine z29 (k+1,L2,ed'++[⟨i,c,v,n⟩]) ⟨by show k+1≤_;omega,hfs,hpr,by show L2.length≤L.length+(k+1);omega,by show (ed'++[_]).length≤ed.length+(k+1);simp;omega⟩ (by show 2 ^ B.length - (k+1) < 2 ^ B.length - k;omega) (by refine swR [0,1,7,3,4,9] [] rfl rfl ?_;(repeat' first|exact y83 _|exact z10 _|refine z44 ?_;((simp;done))|apply y85|(first|refine z33 rfl ?_ ?_|refine z11 rfl ?_ ?_);(focus ((repeat' (first|exact z6 (fun _=>rfl)|apply z25));done))|refine z77 ?_ ?_;(focus omega)|constructor))
      ·rw [if_neg hb] at hfs
       rw [(y69 _).mp hb] at cF
       repeat' ((first|apply y6 ok;rfl|(apply y40;first|omega|unfold inI;omega)|apply z7<;>intro _|apply z8 cF;rfl;rfl)<;>conv=>whnf)
       all_goals try (exfalso;omega)
       all_goals refine z29 (k+1,L',ed') ⟨by show k+1≤_;omega,hfs,hrows',by show L'.length≤L.length+(k+1);omega,by show ed'.length≤ed.length+(k+1);omega⟩ (by show 2 ^ B.length - (k+1) < 2 ^ B.length - k;omega) (by refine swR [0,1,2,3,4,5] [] rfl rfl ?_;(repeat' first|exact y83 _|exact z10 _|apply y85|refine z11 rfl (z6 (fun _=>rfl)) ?_|constructor))
     ·obtain rfl:k=2 ^ B.length:=by omega
      rw [hf] at hR
      have hed2:ed'.length≤(i+1) * 32:=by omega
      repeat' ((first|apply y6 ok;rfl|apply y40;(unfold inI;omega)|apply z7<;>intro _)<;>conv=>whnf)
      all_goals try (exfalso;omega)
      all_goals refine z29 (i+1,⟨L',acc++[z],ed'⟩) ⟨by show i+1≤64;omega,by rw [show 65 - (i+1)=64 - i by omega];exact hR,hrows',by show (acc++[z]).length≤i+1;simp;omega,hed2,by show L'.length≤100;omega⟩ (by show 65 - (i+1) < 65 - i;omega) (by refine swR [0,1,2,3,4,5] [] rfl rfl ?_;(repeat' first|exact y83 _|exact z10 _|refine z44 ?_;((simp;done))|apply y85|refine z11 rfl (z6 (fun _=>rfl)) ?_|constructor))
   ·rw [if_neg hil] at hR
    have hO:=hRO _ hR.symm
    dsimp only at hO
    by_cases h0:L.length=0
    ·rw [if_pos h0] at hO
     subst hO
     repeat' ((first|apply y6 ok;rfl|apply y40;omega|(first|with_reducible apply z79;omega|apply z13;omega);intro _|apply z7<;>intro _)<;>conv=>whnf)
     all_goals try (exfalso;omega)
     all_goals (refine rsD [3,6,5] [] rfl ?_;(repeat' first|exact y83 _|exact z10 _|refine z44 ?_;((simp;done))|apply y85|refine z11 rfl (z6 (fun _=>rfl)) ?_|apply z57|apply z156|constructor))
     all_goals exact z21 (by show _=List.map Trans.cs (List.map eT ed);rw [List.map_map];rfl)
    ·rw [if_neg h0] at hO
     subst hO
     repeat' ((first|apply y6 ok;rfl|apply y40;omega|(first|with_reducible apply z79;omega|apply z13;omega);intro _|apply z7<;>intro _)<;>conv=>whnf)
     all_goals try (exfalso;omega)
     all_goals (refine rsD [3,4,5] [] rfl ?_;(repeat' first|exact y83 _|exact z10 _|refine z44 ?_;((simp;done))|refine z11 rfl (z6 (fun _=>rfl)) ?_|apply z57|apply z156|constructor))
     all_goals exact z21 (by show _=List.map Trans.cs (List.map eT ed);rw [List.map_map];rfl)
 ·rw [if_neg h] at cb ⊢
  rw [(y69 _).mp h] at cb
  refine z12 z24 func96 rfl rfl 137 ntmps96 (by simp) ?_
  repeat' ((first|apply y6 ok;rfl|apply z8 cb;rfl;rfl)<;>conv=>whnf)
  all_goals (refine y87 1 ?_;refine y87 1 ?_;refine y87 4 ?_;refine rsD [2,3,4] [] rfl ?_;(repeat' first|exact y83 _|exact z56|refine z11 rfl z39 ?_|apply z57|apply z156|constructor))
theorem z1245 {objs:Nat→AObj} {π Bn:List Nat} {o:Nat} {l:List Trans} (ho:objs o=.cells 4 (l.map Trans.cs)) (h1:idx π o=none) (h2:inB Bn o=true):bor objs π Bn (.sref o 0 l.length)=lst 4 Trans.cs l :=
 z353 ho h1 h2 (by simp) (z375 Trans.unown l)
theorem z1248 {objs : Nat → AObj} {π Bn : List Nat} {o1 o2 o3 : Nat} {a : Aut} (h1 : objs o1 = .cells 1 (a.ini.map enI)) (h2 : objs o2 = .cells 1 (a.acc.map enB)) (h3 : objs o3 = .cells 4 (a.ed.map Trans.cs)) (i1 : idx π o1 = none) (b1 : inB Bn o1 = true) (i2 : idx π o2 = none) (b2 : inB Bn o2 = true) (i3 : idx π o3 = none) (b3 : inB Bn o3 = true) :
    bor objs π Bn (.agg [.sref o1 0 a.ini.length,.sref o2 0 a.acc.length,.sref o3 0 a.ed.length])=.agg a.cs :=
  bor_agg (z60 (z147 h1 i1 b1) (z60 (z1247 h2 i2 b2) (z60 (z1245 h3 i3 b3) z87)))
structure Aut.ok (a:Aut):Prop where
 mx:a.mx
 ini:a.ini.length≤1048576
 acc:a.acc.length≤1048576
 ed:a.ed.length≤1048576
theorem Aut.ok_of {a:Aut} (h:a.mx) (h1:a.s1≤1048576) (h2:a.s2≤1048576) (h3:a.s3≤1048576):a.ok:=⟨h,h1,h2,h3⟩
theorem clB_full (l:List Bool) (hl:l.length≤1048576) (hp:0 < l.length):QQ 238 [lst 1 enB l] [] (.sref 0 0 l.length) [.cells 1 (l.map enB)]:=by
 refine z16 z24 func238 rfl rfl 8 ntmps238 (by simp) ?_
 repeat' (first|apply y6 ok;rfl;conv=>whnf|apply y40;(first|omega|dsimp only;omega|exact z49 (fun _=>rfl));conv=>whnf)
 exact z133 rfl (z6 fun _=>rfl) (Nat.zero_add _) rfl rfl
theorem clB_new0 (l:List Bool) (hl:l.length≤1048576):QQ 238 [lst 1 enB l] [] (.sref 0 0 l.length) [.cells 1 (l.map enB)]:=by
 by_cases hp:0 < l.length
 ·exact clB_full l hl hp
 ·obtain rfl:l=[]:=y71 (by omega)
  refine z295 (z227 func238 rfl (by rfl)) fun ad cap=>?_
  cases ad with
  |none =>
   refine CallsA.nils (res:=.nils) (l:=[.cells 1 []]) ?_ (by simp) z684
   refine z16 z24 func238 rfl rfl 8 ntmps238 (by simp) ?_
   repeat' ((apply y6 ok;rfl;conv=>whnf))
   all_goals exact z67 rfl rfl rfl
  |some p =>
   refine z16 z24 func238 rfl rfl 8 ntmps238 (by simp) ?_
   repeat' (first|apply y6 ok;rfl;conv=>whnf|apply y40;(omega);conv=>whnf)
   all_goals (exact z133 rfl z39 rfl rfl rfl)
theorem clB_clip (l:List Bool) (hl:l.length≤1048576):QQ 237 [.sref 0 0 l.length] [.cells 1 (l.map enB)] (.sref 0 0 l.length) [.cells 1 (l.map enB)]:=by
 refine z16 z24 func237 rfl rfl 9 ntmps237 (by simp) ?_
 repeat' (first|apply y6 ok;rfl;conv=>whnf|apply y40;(omega);conv=>whnf)
 exact z133 rfl (z6 fun _=>rfl) (by omega) rfl rfl
theorem clB_new (l:List Bool) (hl:l.length≤1048576):QQ 210 [lst 1 enB l] [] (.sref 0 0 l.length) [.cells 1 (l.map enB)]:=by
 refine z16 z24 func210 rfl rfl 6 ntmps210 (by simp) ?_
 repeat' (first|apply y6 ok;rfl;conv=>whnf|apply z125 [] [] [0] (clB_new0 l hl);rfl;(focus ((repeat' (exact z62))<;>(fail)));rfl;rfl;rfl;rfl;rfl;(focus ((repeat' (first|exact z23|apply z19))<;>((refine z30 ?_;((exact z6 (fun _=>rfl)))))));(exact .inl rfl);conv=>whnf|apply z125 [0] [] [] (clB_clip l hl);rfl;(focus ((repeat' (first|exact z62|apply z71))<;>((refine z89 rfl ?_;((exact z6 (fun _=>rfl)))))));rfl;rfl;rfl;rfl;rfl;(focus ((repeat' (first|exact z23|apply z19))<;>((refine z30 ?_;((exact z6 (fun _=>rfl)))))));(exact .inl rfl);conv=>whnf)
 exact z133 rfl (z6 fun _=>rfl) rfl rfl rfl
theorem clT_full (l:List Trans) (hl:l.length≤1048576) (hp:0 < l.length):QQ 240 [lst 4 Trans.cs l] [] (.sref 0 0 l.length) [.cells 4 (l.map Trans.cs)]:=by
 refine z16 z24 func240 rfl rfl 8 ntmps240 (by simp) ?_
 repeat' (first|apply y6 ok;rfl;conv=>whnf|apply y40;(first|omega|dsimp only;omega|exact z49 (fun _=>rfl));conv=>whnf)
 exact z133 rfl (z6 fun _=>rfl) (Nat.zero_add _) rfl rfl
theorem clT_new0 (l:List Trans) (hl:l.length≤1048576):QQ 240 [lst 4 Trans.cs l] [] (.sref 0 0 l.length) [.cells 4 (l.map Trans.cs)]:=by
 by_cases hp:0 < l.length
 ·exact clT_full l hl hp
 ·obtain rfl:l=[]:=y71 (by omega)
  refine z295 (z227 func240 rfl (by rfl)) fun ad cap=>?_
  cases ad with
  |none =>
   refine CallsA.nils (res:=.nils) (l:=[.cells 4 []]) ?_ (by simp) z684
   refine z16 z24 func240 rfl rfl 8 ntmps240 (by simp) ?_
   repeat' ((apply y6 ok;rfl;conv=>whnf))
   all_goals exact z67 rfl rfl rfl
  |some p =>
   refine z16 z24 func240 rfl rfl 8 ntmps240 (by simp) ?_
   repeat' (first|apply y6 ok;rfl;conv=>whnf|apply y40;(omega);conv=>whnf)
   all_goals (exact z133 rfl z39 rfl rfl rfl)
theorem clT_clip (l:List Trans) (hl:l.length≤1048576):QQ 239 [.sref 0 0 l.length] [.cells 4 (l.map Trans.cs)] (.sref 0 0 l.length) [.cells 4 (l.map Trans.cs)]:=by
 refine z16 z24 func239 rfl rfl 9 ntmps239 (by simp) ?_
 repeat' (first|apply y6 ok;rfl;conv=>whnf|apply y40;(omega);conv=>whnf)
 exact z133 rfl (z6 fun _=>rfl) (by omega) rfl rfl
theorem clT_new (l:List Trans) (hl:l.length≤1048576):QQ 211 [lst 4 Trans.cs l] [] (.sref 0 0 l.length) [.cells 4 (l.map Trans.cs)]:=by
 refine z16 z24 func211 rfl rfl 6 ntmps211 (by simp) ?_
 repeat' (first|apply y6 ok;rfl;conv=>whnf|apply z125 [] [] [0] (clT_new0 l hl);rfl;(focus ((repeat' (exact z62))<;>(fail)));rfl;rfl;rfl;rfl;rfl;(focus ((repeat' (first|exact z23|apply z19))<;>((refine z30 ?_;((exact z6 (fun _=>rfl)))))));(exact .inl rfl);conv=>whnf|apply z125 [0] [] [] (clT_clip l hl);rfl;(focus ((repeat' (first|exact z62|apply z71))<;>((refine z89 rfl ?_;((exact z6 (fun _=>rfl)))))));rfl;rfl;rfl;rfl;rfl;(focus ((repeat' (first|exact z23|apply z19))<;>((refine z30 ?_;((exact z6 (fun _=>rfl)))))));(exact .inl rfl);conv=>whnf)
 exact z133 rfl (z6 fun _=>rfl) rfl rfl rfl
theorem z574 (a:Aut) (h1:a.ini.length≤100000) (h2:a.acc.length≤100000) (h3:a.ed.length≤100000):QQ 160 [.agg a.cs] [] (.agg [.sref 0 0 a.ini.length,.sref 1 0 a.acc.length,.sref 2 0 a.ed.length]) [.cells 1 (a.ini.map enI),.cells 1 (a.acc.map enB),.cells 4 (a.ed.map Trans.cs)]:=by
 have c1:=z413 a.ini (by omega)
 have c2:=clB_new a.acc (by omega)
 have c3:=clT_new a.ed (by omega)
 refine z16 z24 func160 rfl rfl 13 ntmps160 (by simp) ?_
 repeat' (first|apply y6 ok;rfl;conv=>whnf|apply z27;kernel_rfl;conv=>whnf|apply z125 [] [] [2] c1;rfl;(focus ((repeat' (exact z62))<;>(fail)));rfl;rfl;rfl;rfl;rfl;(focus ((repeat' (first|exact z23|apply z19))<;>((refine z30 ?_;((exact z6 (fun _=>rfl)))))));(exact .inl rfl);conv=>whnf|apply z125 [] [] [3] c2;rfl;(focus ((repeat' (exact z62))<;>(fail)));rfl;rfl;rfl;rfl;rfl;(focus ((repeat' (first|exact z23|apply z19))<;>((refine z30 ?_;((exact z6 (fun _=>rfl)))))));(exact .inl rfl);conv=>whnf|apply z125 [] [] [4] c3;rfl;(focus ((repeat' (exact z62))<;>(fail)));rfl;rfl;rfl;rfl;rfl;(focus ((repeat' (first|exact z23|apply z19))<;>((refine z30 ?_;((exact z6 (fun _=>rfl)))))));(exact .inl rfl);conv=>whnf)
 exact z117 [2,3,4] (by decide) rfl rfl rfl ⟨z37 rfl (z6 fun _=>rfl),z37 rfl (z6 fun _=>rfl),z37 rfl (z6 fun _=>rfl),trivial⟩
theorem z722 {Q:List Int} {x:Int} (h:x ∉ Q):z134 Q x=Q++[x]:=by unfold z134;rw [if_neg h]
theorem z721 {Q:List Int} {x:Int} (h:x∈Q):z134 Q x=Q:=by unfold z134;rw [if_pos h]
theorem z617 {Q Q' : List Int} {x:Int} (h:Q'=Q++[x]):((Q.map enI).take Q.length)++[enI x]=Q'.map enI:=by
 subst h
 rw [y54 (by simp),y61];rfl
set_option maxHeartbeats 1600000 in
theorem z549 (rows:List (List Int)) (ini:List Int) (hr:∀ r∈rows,InN rows.length r) (hi:InN rows.length ini) (hN:rows.length≤1048576) (hrl:∀ r∈rows,r.length≤1000000000) (hil:ini.length≤1048576):QQ 105 [lst 1 encL rows,ints ini] [] (.sref 0 0 (bfsL rows ini).length) [.cells 1 ((bfsL rows ini).map enI)]:=by
 refine z16 z24 func105 rfl rfl 83 ntmps105 (by simp) ?_
 repeat' (first|apply y6 ok;rfl;conv=>whnf|apply y40;((dsimp only;omega));conv=>whnf)
 refine z111 (fun i:Nat=>([(0,lst 1 encL rows),(1,ints ini),(5,.sref 0 0 rows.length),(6,.sref 1 0 (z75 [] (ini.take i)).length),(7,.int i)],[.cells 1 ((mkB rows.length (z75 [] (ini.take i))).map enB),.cells 1 ((z75 [] (ini.take i)).map enI)])) (fun i=>i≤ini.length) (fun i=>ini.length - i) 0 (by omega) ⟨[0,1],rfl,by decide,rfl,⟨⟨rfl,rfl⟩,⟨rfl,rfl⟩,⟨rfl,rfl⟩,⟨rfl,rfl⟩,⟨rfl,rfl⟩,trivial⟩,⟨z37 (z45 (by show _=(mkB rows.length []).map enB;rw [z877,List.map_replicate];rfl)) (z6 fun _=>rfl),z37 rfl (z6 fun _=>rfl),trivial⟩⟩ ?_
 intro i hil2
 have hQn:(z75 [] (ini.take i)).length≤rows.length:=z199 _ _ (z155 (by simp)) (z254 (fun x hx=>by cases hx) fun x hx=>hi x (List.mem_of_mem_take hx))
 by_cases hil3:i < ini.length
 ·have hx:=hi ini[i] (y41 _)
  have hv:=z276 (out:=[]) hil3
  by_cases hn:ini[i] ∉ z75 [] (ini.take i)
  ·repeat' (first|apply y6 ok;rfl;conv=>whnf|refine z323 (enc:=enB) (v:=ini[i]) (by rfl) hx.1 hx.2 ?_;conv=>whnf|apply y40;(first|omega|unfold inI;omega|(try dsimp only);simp only [y46,y45,y44,y43,y55,y56];omega|exact ⟨rfl,z17 rfl z26⟩);conv=>whnf|with_reducible apply z13;omega;intro _;conv=>whnf|apply z7<;>intro _<;>conv=>whnf|apply z35<;>intro _<;>conv=>whnf)
   all_goals first|exfalso;omega|exfalso;simp_all;done|skip
   rw [z722 hn] at hv
   exact z92 (i+1) [0,3] (by omega) (by omega) ⟨rfl,by decide,rfl,⟨⟨rfl,rfl⟩,⟨rfl,rfl⟩,⟨rfl,rfl⟩,⟨rfl,z174 (by rw [hv];simp) rfl⟩,⟨rfl,rfl⟩,trivial⟩,⟨z37 (z45 (z525 (enc:=enB) (by rfl) hx.1 hx.2 fun v=>by rw [hv];simp)) (z6 fun _=>rfl),z37 (z45 (z617 hv)) (z6 fun _=>rfl),trivial⟩⟩
  ·have hn:=Decidable.not_not.1 hn
   repeat' (first|apply y6 ok;rfl;conv=>whnf|refine z323 (enc:=enB) (v:=ini[i]) (by rfl) hx.1 hx.2 ?_;conv=>whnf|apply y40;(first|omega|unfold inI;omega|(try dsimp only);simp only [y46,y45,y44,y43,y55,y56];omega|exact ⟨rfl,z17 rfl z26⟩);conv=>whnf|with_reducible apply z13;omega;intro _;conv=>whnf|apply z7<;>intro _<;>conv=>whnf|apply z35<;>intro _<;>conv=>whnf)
   all_goals first|exfalso;omega|exfalso;simp_all;done|skip
   rw [z721 hn] at hv
   exact z92 (i+1) [0,1] (by omega) (by omega) ⟨rfl,by decide,rfl,⟨⟨rfl,rfl⟩,⟨rfl,rfl⟩,⟨rfl,rfl⟩,⟨rfl,z174 (by rw [hv]) rfl⟩,⟨rfl,rfl⟩,trivial⟩,⟨z37 (z45 (by rw [hv])) (z6 fun _=>rfl),z37 (z45 (by rw [hv])) (z6 fun _=>rfl),trivial⟩⟩
 repeat' (first|apply y6 ok;rfl;conv=>whnf|apply y40;(omega);conv=>whnf|with_reducible apply z13;omega;intro _;conv=>whnf|apply z13;omega;intro _;conv=>whnf|apply z7<;>intro _<;>conv=>whnf|apply z82<;>intro _<;>conv=>whnf)
 all_goals try (exfalso;omega)
 obtain rfl:i=ini.length:=by omega
 rw [y53]
 clear hQn
 refine z111 (fun i:Nat=>([(0,lst 1 encL rows),(5,.sref 0 0 rows.length),(6,.sref 1 0 (bfs rows ini i).length),(8,.int i)],[.cells 1 ((mkB rows.length (bfs rows ini i)).map enB),.cells 1 ((bfs rows ini i).map enI)])) (fun i=>i≤(bfs rows ini i).length) (fun i=>rows.length - i) 0 (by omega) ⟨[0,1],rfl,by decide,rfl,⟨⟨rfl,rfl⟩,⟨rfl,rfl⟩,⟨rfl,rfl⟩,⟨rfl,rfl⟩,trivial⟩,⟨z37 rfl (z6 fun _=>rfl),z37 rfl (z6 fun _=>rfl),trivial⟩⟩ ?_
 intro i hi1
 have hbl:=z458 hr hi i
 by_cases hi2:i < (bfs rows ini i).length
 ·have hq:=z432 hr hi i _ (y41 hi2)
  have hb:=bfs.eq_2 rows ini i
  rw [dif_pos hi2] at hb
  have hnd:=z573 (rows:=rows) (ini:=ini) i
  have hin:=z432 hr hi i
  generalize hQ0:bfs rows ini i=Q0 at *
  have hqr:Q0[i].toNat < rows.length:=by omega
  have hrow:rows.getD Q0[i].toNat []=rows[Q0[i].toNat]:=z20 hqr
  have hrin:InN rows.length rows[Q0[i].toNat]:=hr _ (y41 _)
  have hrl2:=hrl rows[Q0[i].toNat] (y41 _)
  rw [hrow] at hb
  repeat' (first|apply y6 ok;rfl;conv=>whnf|apply z7<;>intro _<;>conv=>whnf)
  all_goals try (exfalso;omega)
  refine z111 (fun k:Nat=>([(0,lst 1 encL rows),(5,.sref 0 0 rows.length),(6,.sref 1 0 (z75 Q0 (rows[Q0[i].toNat].take k)).length),(8,.int i),(9,.int k)],[.cells 1 ((mkB rows.length (z75 Q0 (rows[Q0[i].toNat].take k))).map enB),.cells 1 ((z75 Q0 (rows[Q0[i].toNat].take k)).map enI)])) (fun k=>k≤rows[Q0[i].toNat].length) (fun k=>rows[Q0[i].toNat].length - k) 0 (by omega) ⟨[0,1],rfl,by decide,rfl,⟨⟨rfl,rfl⟩,⟨rfl,rfl⟩,⟨rfl,rfl⟩,⟨rfl,rfl⟩,⟨rfl,rfl⟩,trivial⟩,⟨z37 rfl (z6 fun _=>rfl),z37 rfl (z6 fun _=>rfl),trivial⟩⟩ ?_
  intro k hk1
  have hQn:(z75 Q0 (rows[Q0[i].toNat].take k)).length≤rows.length:=z199 _ _ (z155 hnd) (z254 hin fun x hx=>hrin x (List.mem_of_mem_take hx))
  obtain ⟨t,ht⟩:=z436 Q0 (rows[Q0[i].toNat].take k)
  have hgl:i < (z75 Q0 (rows[Q0[i].toNat].take k)).length:=by rw [ht,y44];omega
  have hg:((z75 Q0 (rows[Q0[i].toNat].take k)).map enI)[i]?=some (enI Q0[i]):=by
   rw [ht,y61,y63 (by simpa using hi2),y48,y42 hi2];rfl
  by_cases hk2:k < rows[Q0[i].toNat].length
  ·have hx:=hrin rows[Q0[i].toNat][k] (y41 _)
   have hv:=z276 (out:=Q0) hk2
   by_cases hn:rows[Q0[i].toNat][k] ∉ z75 Q0 (rows[Q0[i].toNat].take k)
   ·repeat' (first|apply y6 ok;rfl;conv=>whnf|refine z323 (enc:=enB) (v:=rows[Q0[i].toNat][k]) (by rfl) hx.1 hx.2 ?_;conv=>whnf|refine z14 (i:=i) (by rfl) hg ?_;conv=>whnf|apply y40;(first|omega|unfold inI;omega|(try dsimp only);simp only [y46,y45,y44,y43,y55,y56];omega|exact ⟨rfl,z17 rfl z26⟩);conv=>whnf|with_reducible apply z13;omega;intro _;conv=>whnf|with_reducible apply z79;omega;intro _;conv=>whnf|apply z7<;>intro _<;>conv=>whnf|apply z35<;>intro _<;>conv=>whnf)
    all_goals first|exfalso;omega|exfalso;simp_all;done|skip
    rw [z722 hn] at hv
    exact z92 (k+1) [0,3] (by omega) (by omega) ⟨rfl,by decide,rfl,⟨⟨rfl,rfl⟩,⟨rfl,rfl⟩,⟨rfl,z174 (by rw [hv];simp) rfl⟩,⟨rfl,rfl⟩,⟨rfl,rfl⟩,trivial⟩,⟨z37 (z45 (z525 (enc:=enB) (by rfl) hx.1 hx.2 fun v=>by rw [hv];simp)) (z6 fun _=>rfl),z37 (z45 (z617 hv)) (z6 fun _=>rfl),trivial⟩⟩
   ·have hn:=Decidable.not_not.1 hn
    repeat' (first|apply y6 ok;rfl;conv=>whnf|refine z323 (enc:=enB) (v:=rows[Q0[i].toNat][k]) (by rfl) hx.1 hx.2 ?_;conv=>whnf|refine z14 (i:=i) (by rfl) hg ?_;conv=>whnf|apply y40;(first|omega|unfold inI;omega|(try dsimp only);simp only [y46,y45,y44,y43,y55,y56];omega|exact ⟨rfl,z17 rfl z26⟩);conv=>whnf|with_reducible apply z13;omega;intro _;conv=>whnf|with_reducible apply z79;omega;intro _;conv=>whnf|apply z7<;>intro _<;>conv=>whnf|apply z35<;>intro _<;>conv=>whnf)
    all_goals first|exfalso;omega|exfalso;simp_all;done|skip
    rw [z721 hn] at hv
    exact z92 (k+1) [0,1] (by omega) (by omega) ⟨rfl,by decide,rfl,⟨⟨rfl,rfl⟩,⟨rfl,rfl⟩,⟨rfl,z174 (by rw [hv]) rfl⟩,⟨rfl,rfl⟩,⟨rfl,rfl⟩,trivial⟩,⟨z37 (z45 (by rw [hv])) (z6 fun _=>rfl),z37 (z45 (by rw [hv])) (z6 fun _=>rfl),trivial⟩⟩
  ·repeat' (first|apply y6 ok;rfl;conv=>whnf|refine z14 (i:=i) (by rfl) hg ?_;conv=>whnf|apply y40;(first|omega|unfold inI;omega);conv=>whnf|with_reducible apply z13;omega;intro _;conv=>whnf|with_reducible apply z79;omega;intro _;conv=>whnf|apply z13;omega;intro _;conv=>whnf|apply z7<;>intro _<;>conv=>whnf|apply z82<;>intro _<;>conv=>whnf)
   all_goals try (exfalso;omega)
   rw [y54 (by omega)] at hgl
   refine z92 (i+1) [0,1] ?_ (by omega) ⟨rfl,by decide,rfl,⟨⟨rfl,rfl⟩,⟨rfl,rfl⟩,⟨rfl,z174 ?_ rfl⟩,⟨rfl,rfl⟩,trivial⟩,⟨z37 (z45 ?_) (z6 fun _=>rfl),z37 (z45 ?_) (z6 fun _=>rfl),trivial⟩⟩
   ·rw [hb];exact hgl
   all_goals (rw [hb,y54 (by omega)])
 ·repeat' (first|apply y6 ok;rfl;conv=>whnf|apply z7<;>intro _<;>conv=>whnf)
  all_goals try (exfalso;omega)
  have he:bfs rows ini i=bfsL rows ini:=z980 hr hi (by omega) (by omega)
  rw [he]
  exact z133 rfl (z6 fun _=>rfl) rfl rfl rfl
theorem z1024 (rows:List (List Int)) (ini:List Int) (hr:∀ r∈rows,InN rows.length r) (hi:InN rows.length ini) (hN:rows.length≤1048576) (hrl:∀ r∈rows,r.length≤1000000000) (hil:ini.length≤1048576):QQ 105 [lst 1 encL rows,ints ini] [] (ints (bfsL rows ini)) [] :=
 keepI (z549 rows ini hr hi hN hrl hil) rfl
theorem z618 {g:Graph} {a:Aut} (hG:GB g) (hA:AutP a) (ls:List Int):(∀ r∈z64 g ls a,InN (z64 g ls a).length r)∧InN (z64 g ls a).length a.ini∧(z64 g ls a).length≤3840∧(∀ r∈z64 g ls a,r.length≤1000000000)∧a.ini.length≤1048576:=by
 have hrl:(z64 g ls a).length=g.st.length * a.acc.length:=by unfold z64;rw [z142,Nat.mul_comm]
 have hN:=z318 (a:=(g.st.length:Int)) (b:=(a.acc.length:Int)) (A:=60) (B:=64) (by omega) (by have:=hG.1;omega) (by omega) (by have:=hA.1;omega)
 have hN2:((g.st.length * a.acc.length:Nat):Int)=(g.st.length:Int) * a.acc.length:=by simp
 have ha1:=hA.1
 refine ⟨fun r hr x hx=>?_,fun x hx=>?_,by omega,fun r hr=>?_,?_⟩
 ·rw [hrl];exact z866 g hG ls a hA r hr x hx
 ·obtain ⟨i,hi,rfl⟩:=List.mem_iff_getElem.1 hx
  have h1:=(hA.2.2.1 i hi hi).1
  have h2:=z318 (a:=(g.st.length:Int) - 1) (b:=(a.acc.length:Int)) (A:=60) (B:=64) (by have:=hG.1;omega) (by have:=hG.1;omega) (by omega) (by omega)
  rw [Int.sub_mul,Int.one_mul] at h2
  omega
 ·have:=z759 g hG ls a hA r hr;omega
 ·have:=hA.2.2.1.le (by omega);omega
structure Cert.ok (c:Cert):Prop where
 mx:c.mx
 len:c.ranks.length≤1048576
theorem Cert.ok_of {c:Cert} (h:c.mx) (h1:c.s1≤1048576):c.ok:=⟨h,h1⟩
theorem trA_len (t:Tree) (hs:t.sz≤200):(trA t).ini.length≤32∧(trA t).acc.length≤66∧(trA t).ed.length≤2080:=by
 unfold trA trO
 by_cases h:bscB t=true
 ·rw [if_pos h]
  obtain ⟨⟨ht,hn⟩,h5⟩:=of_decide_eq_true (show decide _=true from h)
  have hp:=pow_5 h5
  have hi:=z958 (bscL (t.nrm false)) (t.nrm false)
  cases hS:trS (bscL (t.nrm false)) (t.nrm false) with
  |none=>exact ⟨y50 _,y50 _,y50 _⟩
  |some y =>
   have hg:=z1203 _ _ _ _ _ _ hS
   simp only [y56] at hg
   show (numI _).length≤32∧(if y.L.length=0 then [false] else y.acc).length≤66∧(y.ed.map eT).length≤2080
   rw [z679,y46]
   refine ⟨by omega,?_,by omega⟩
   split
   ·simp
   ·omega
 ·rw [if_neg h];exact ⟨y50 _,y50 _,y50 _⟩
theorem letB_lt {B:List Tree} (hB:BasL B) (s:Int) (i:Nat):((List.range i).foldl (atoI B s) (0,0)).2 < 8:=by
 induction i with
 |zero=>show 0 < 8;omega
 |succ i ih =>
  rw [z459]
  unfold atoI
  split
  ·rename_i hk
   dsimp only
   split
   ·by_cases hil:i < B.length
    ·have hmem:B.getD i dftT∈B:=by rw [z20 hil];exact y41 _
     have hform:=hB.form hmem
     have hvv:(B.getD i dftT).val.toNat≤2:=by
      generalize B.getD i dftT=f at *
      cases hform with
      |«at» v=>have:=hB.av v hmem;show v.toNat≤2;omega
      |nx a _ _=>simp [Tree.kind] at hk
      |un a b _ _ _ _=>simp [Tree.kind] at hk
      |re a b _ _ _ _=>simp [Tree.kind] at hk
     exact z765 ih hvv
    ·rw [y65,y66 (by omega)]
     exact z765 ih (show (0:Nat)≤2 by omega)
   ·exact ih
  ·exact ih
theorem z969 (B:List Tree) (s ph:Int) (i:Nat) (c v:Int):∀ (l:List Nat) (x:List (List Int)×List Edg),∀ e∈(l.foldl (z123 B s ph i c v) x).2,e∈x.2∨e.val=v
 |[],x,e,he=>.inl he
 |t::l,x,e,he=>by
  rw [List.foldl_cons] at he
  rcases z969 B s ph i c v l _ e he with h|h
  ·unfold z123 at h
   split at h
   ·rcases List.mem_append.1 h with h1|h1
    ·exact .inl h1
    ·rw [List.mem_singleton.1 h1];exact .inr rfl
   ·exact .inl h
  ·exact .inr h
theorem z1202 (B:List Tree) (U:List Int):∀ (f i:Nat) (x y:TrS),goS B U f i x=some y→∀ e∈y.ed,e∈x.ed∨∃ s,e.val=((letB B s).2:Int)
 |0,i,x,y,h=>by simp [goS] at h
 |f+1,i,x,y,h=>by
  rw [goS] at h
  split at h
  ·split at h
   ·cases h
   ·intro e he
    rcases z1202 B U f (i+1) _ y h e he with h1|h1
    ·rcases z969 B _ _ i _ _ _ _ e h1 with h2|h2
     ·exact .inl h2
     ·exact .inr ⟨_,h2⟩
    ·exact .inr h1
  ·cases h
   exact fun e he=>.inl he
theorem trA_val (t:Tree) (hs:t.sz≤200):∀ e∈(trA t).ed,e.mx:=by
 unfold trA trO
 by_cases h:bscB t=true
 ·rw [if_pos h]
  obtain ⟨⟨ht,hn⟩,h5⟩:=of_decide_eq_true (show decide _=true from h)
  obtain ⟨hB,_,_⟩:=z1256 ht hn h5 hs
  cases hS:trS (bscL (t.nrm false)) (t.nrm false) with
  |none=>intro e he;cases he
  |some y =>
   intro e he
   obtain ⟨e',he',rfl⟩:=List.mem_map.1 (show e∈y.ed.map eT from he)
   rcases z1202 _ _ _ _ _ _ hS e' he' with h1|⟨s,h1⟩
   ·cases h1
   ·have:=letB_lt hB s (bscL (t.nrm false)).length
    show inI e'.val
    unfold inI
    rw [h1]
    unfold letB
    omega
 ·rw [if_neg h];intro e he;cases he
theorem numI_ini (n m:Nat) (h:n≤m):IniP (numI n) m (numI n).length:=by
 intro i hi _
 have e:∀ j (hj:j < (numI n).length),(numI n)[j]=(j:Int):=fun j hj=>by simp [numI]
 have hl:=z679 n
 rw [e i hi]
 refine ⟨by omega,fun j hj=>?_⟩
 rw [e j (by omega)];omega
theorem ExI.valid {B:List Tree} {U:List Int} {n0 i:Nat} {x:TrS} (hB:BasL B) (h:ExI B U n0 i x) (h1:1≤n0) (hi:i≤64) (he:x.L.length≤i):autB ⟨numI n0,x.acc,x.ed.map eT⟩=true:=by
 have h2:=h.base;have h3:=h.acc;have h4:=h.edl;have h5:=h.le
 have hp:=pow_5 hB.len
 have hmul:i * 2 ^ B.length≤64 * 32:=Nat.mul_le_mul hi hp.2
 rw [z153]
 refine ⟨⟨by show 1≤x.acc.length;omega,by show x.acc.length≤64;omega⟩,by show (x.ed.map eT).length≤2048;rw [y46];omega,numI_ini n0 x.acc.length (by omega),fun e he=>?_⟩
 obtain ⟨e',he',rfl⟩:=List.mem_map.1 he
 obtain ⟨⟨a1,a2⟩,⟨a3,a4⟩,s,a5,a6⟩:=h.ed e' he'
 have l1:(letB B s).1 < 8:=by
  have:∀ n,((List.range n).foldl (atoI B s) (0,0)).1 < 8:=by
   intro n
   induction n with
   |zero=>show (0:Nat) < 8;omega
   |succ n ih =>
    rw [z459]
    unfold atoI
    split
    ·rename_i hk
     refine z765 ih ?_
     by_cases hil:n < B.length
     ·have hmem:B.getD n dftT∈B:=by rw [z20 hil];exact y41 _
      have hform:=hB.form hmem
      generalize B.getD n dftT=f at *
      cases hform with
      |«at» v=>have:=hB.av v hmem;show v.toNat≤2;omega
      |nx a _ _=>simp [Tree.kind] at hk
      |un a b _ _ _ _=>simp [Tree.kind] at hk
      |re a b _ _ _ _=>simp [Tree.kind] at hk
     ·rw [y65,y66 (by omega)]
      show (0:Nat)≤2;omega
    ·exact ih
  exact this _
 refine ⟨⟨a1,?_⟩,⟨a3,?_⟩,⟨?_,?_⟩,?_,?_⟩
 ·show e'.src≤(x.acc.length:Int) - 1;omega
 ·show e'.dst≤(x.acc.length:Int) - 1;omega
 ·show 0≤e'.care;omega
 ·show e'.care≤7;omega
 ·show 0≤e'.val;omega
 ·show e'.val.toNat &&& e'.care.toNat=e'.val.toNat
  rw [a5,a6];exact letB_sub B s
theorem z349 (N:Nat):List.replicate N [AC.int 0]=(fnL N fun _=>0).map enI:=by
 apply y72 (by simp [fnL])
 intro i h1 h2
 simp [fnL,enI]
theorem z799 {N:Nat} {f g:Nat→Int} (h:∀ i,i < N→f i=g i):fnL N f=fnL N g:=List.map_congr_left fun i hi=>h i (List.mem_range.1 hi)
theorem z898 {N i:Nat} (f:Nat→Int) (h:i < (fnL N f).length):(fnL N f)[i]=f i:=by simp [fnL]
set_option maxHeartbeats 12800000 in
theorem z609 (rows:List (List Int)) (hr:∀ r∈rows,InN rows.length r) (hN:rows.length≤100000) (hrl:∀ r∈rows,r.length≤1000000000):QQ 166 [lst 1 encL rows] [] (.sref 0 0 rows.length) [.cells 1 ((cmpL rows).map enI)]:=by
 refine z12 z24 func166 rfl rfl 77 ntmps166 (by simp) ?_
 repeat' ((first|apply y6 ok;rfl|apply z27;kernel_rfl|apply y40;(dsimp only;omega))<;>conv=>whnf)
 obtain ⟨qm,hqm⟩:∃ qm:Nat→Nat→Int,qm=fun i j=>if j < i then -1 else 0:=⟨_,rfl⟩
 have q0:qm 0=fun _=>0:=by rw [hqm];rfl
 have qE:fnL rows.length (qm rows.length)=fnL rows.length fun _=>-1:=z799 fun i hi=>by rw [hqm];dsimp only;rw [if_pos hi]
 have qS:∀ i,qm (i+1)=upd (qm i) i (-1):=fun i=>by
  funext j
  by_cases h:j=i
  ·subst h;rw [z36,hqm];dsimp only;rw [if_pos (by omega)]
  ·rw [z52 _ _ h,hqm];dsimp only;split<;>split<;>first|rfl|omega
 clear hqm
 refine z69 (fun i:Nat=>([(1,.ptr 0 none 0),(3,.int rows.length),(4,.ptr 4 none 0),(5,.ptr 5 none 0),(6,.ptr 6 none 0),(27,.int rows.length),(28,.int i)],[.cells 1 [[lst 1 encL rows]],.cells 1 ((fnL rows.length fun _=>0).map enI),.cells 1 ((fnL rows.length fun _=>0).map enI),.cells 1 ((fnL rows.length (qm i)).map enI),.cells 1 [[.sref 1 0 rows.length]],.cells 1 [[.sref 2 0 rows.length]],.cells 1 [[.sref 3 0 rows.length]]])) (fun i=>i≤rows.length) (fun i=>rows.length - i) 0 (y50 _) (by refine swR [0,1,2,3,4,5,6] [] rfl rfl ?_;(repeat' first|exact y83 _|apply y85|refine z11 rfl (z54 rfl) ?_|constructor)<;>(first|refine z21 ?_;exact z349 _|refine z21 ?_;rw [q0];exact z349 _)) ?_
 intro i hi
 by_cases hi2:i < rows.length
 ·have g1:=z172 (qm i) hi2
  have l1:=z136 rows.length (qm i)
  have e1:=z152 (N:=rows.length) (u:=i) (qm i) (-1)
  rw [← qS] at e1
  repeat' ((first|apply y6 ok;rfl|refine z14 (i:=i) rfl g1 ?_|(apply y40;first|omega|unfold inI;omega)|apply z7<;>intro _)<;>conv=>whnf)
  all_goals try (exfalso;omega)
  all_goals refine z29 (i+1) hi2 (by omega) (by refine swR [0,1,2,3,4,5,6] [] rfl rfl ?_;(repeat' first|exact y83 _|exact z10 _|apply y85|refine z50 rfl (z6 (fun _=>rfl)) ?_|refine z11 rfl (z6 (fun _=>rfl)) ?_|constructor)<;>((refine z21 ?_;exact e1)))
 obtain rfl:i=rows.length:=by omega
 rw [qE]
 clear qE qS q0
 repeat' ((first|apply y6 ok;rfl|apply y40;omega|((apply z13;omega));intro _|apply z7<;>intro _)<;>conv=>whnf)
 all_goals try (exfalso;omega)
 obtain ⟨S,hS⟩:∃ S:Nat→TS,S=fun k=>(List.range k).foldl (tTop rows) z388:=⟨_,rfl⟩
 have hTT:∀ k,k≤rows.length→TT rows (S k) k:=fun k hk=>by rw [hS];exact z658 hr k hk
 have hS0:S 0=z388:=by rw [hS];rfl
 have hSs:∀ k,S (k+1)=tTop rows (S k) k:=fun k=>by
  rw [hS];show (List.range (k+1)).foldl _ _=_
  rw [y59,y60];rfl
 have hSE:S rows.length=tAll rows:=by rw [hS];rfl
 clear hS
 refine z69 (fun k:Nat=>([(1,.ptr 6 none 0),(4,.ptr 1 none 0),(6,.ptr 8 none 0),(11,.ptr 7 none 0),(36,.int rows.length),(37,.int k)],z1147 rows (S k))) (fun k=>k≤rows.length) (fun k=>rows.length - k) 0 (y50 _) (by refine swR [8,4,1,5,2,7,0,10,6,3,9] [] rfl rfl ?_;(repeat' first|exact y83 _|apply y85|refine z11 rfl (z6 (fun _=>rfl)) ?_|constructor)<;>(first|rw [hS0];exact y83 _|rw [hS0];exact z10 _|rw [hS0];exact z683)) ?_
 intro k hk
 have hT:=hTT k hk
 have hTn:∀ h:k < rows.length,TT rows (S (k+1)) (k+1):=fun h=>hTT (k+1) h
 by_cases hk2:k < rows.length
 ·have hs2:=hSs k
  generalize hS1:S k=s1 at *
  generalize hS2:S (k+1)=s2 at *
  have g1:=z172 s1.num hk2
  have l1:=z136 rows.length s1.num
  unfold tTop at hs2
  by_cases h0:s1.num k=0
  ·rw [if_pos h0] at hs2
   have cV:=z987 rows hr hN hrl rows.length s1 [] k (by have:=hT.inv.ct;omega) hT.inv h0 hk2 (by simp) hT.prt
   rw [← hs2] at cV
   repeat' ((first|apply y6 ok;rfl|refine z14 (i:=k) rfl g1 ?_|(apply y40;first|omega|unfold inI;omega)|apply z7<;>intro _|apply z175 [0,1,2,3,4,5,6,7,8,9,10] [] cV;rfl;(focus ((repeat' first|exact z62|apply z71)<;>first|rfl|refine z89 rfl ?_;((exact z6 fun _=>rfl))));rfl;(focus ((repeat' first|exact z23|apply z19)<;>first|exact z58 rfl rfl|refine z30 ?_;((exact z6 fun _=>rfl)))))<;>conv=>whnf)
   all_goals try (exfalso;omega)
   all_goals refine z29 (k+1) hk2 (by omega) ?_
   all_goals dsimp only
   all_goals rw [hS2]
   all_goals exact (by refine swR [0,1,2,3,4,5,6,7,8,9,10] [] rfl rfl ?_;(repeat' first|exact y83 _|exact z10 _|apply y85|refine z11 rfl (z6 (fun _=>rfl)) ?_|constructor))
  ·rw [if_neg h0] at hs2
   repeat' ((first|apply y6 ok;rfl|refine z14 (i:=k) rfl g1 ?_|(apply y40;first|omega|unfold inI;omega)|apply z7<;>intro _)<;>conv=>whnf)
   all_goals try (exfalso;omega)
   all_goals refine z29 (k+1) hk2 (by omega) ?_
   all_goals dsimp only
   all_goals rw [hS2,hs2]
   all_goals exact (by refine swR [0,1,2,3,4,5,6,7,8,9,10] [] rfl rfl ?_;(repeat' first|exact y83 _|exact z10 _|apply y85|refine z11 rfl (z6 (fun _=>rfl)) ?_|constructor))
 obtain rfl:k=rows.length:=by omega
 rw [hSE]
 clear hTT hS0 hSs hSE hTn hT
 have hcmp:cmpL rows=(List.range rows.length).map fun i=>nmI (fnL rows.length (tAll rows).part) i:=rfl
 obtain ⟨P,hP⟩:∃ P,P=fnL rows.length (tAll rows).part:=⟨_,rfl⟩
 rw [← hP] at hcmp
 have hPl:P.length=rows.length:=by rw [hP,z136]
 generalize tAll rows=s0 at *
 obtain ⟨pm,hpm⟩:∃ pm:Nat→Nat→Int,pm=fun i j=>if j < i then nmI P j else s0.part j:=⟨_,rfl⟩
 have q0:pm 0=s0.part:=by rw [hpm];funext j;simp
 have qE:fnL rows.length (pm rows.length)=cmpL rows:=by
  rw [hcmp]
  exact z799 fun i hi=>by rw [hpm];dsimp only;rw [if_pos hi]
 have qA:∀ i (h:i < rows.length),pm i i=P[i]'(by omega):=fun i h=>by
  rw [hpm];dsimp only;rw [if_neg (by omega)]
  simp only [hP,z898]
 have qS:∀ i,pm (i+1)=upd (pm i) i (nmI P i):=fun i=>by
  funext j
  by_cases h:j=i
  ·subst h;rw [z36,hpm];dsimp only;rw [if_pos (by omega)]
  ·rw [z52 _ _ h,hpm];dsimp only;split<;>split<;>first|rfl|omega
 clear hpm hcmp
 repeat' ((first|apply y6 ok;rfl|apply y40;omega|((apply z13;omega));intro _|apply z7<;>intro _)<;>conv=>whnf)
 all_goals try (exfalso;omega)
 refine z69 (fun i:Nat=>([(6,.ptr 1 none 0),(13,.mref 0),(50,.sref 2 0 rows.length),(51,.int rows.length),(52,.int i)],[.mp 0 (z269 0 (metL P i)),.cells 1 [[.sref 2 0 rows.length]],.cells 1 ((fnL rows.length (pm i)).map enI)])) (fun i=>i≤rows.length) (fun i=>rows.length - i) 0 (y50 _) (by refine swR [11,8,9] [] rfl rfl ?_;(repeat' first|exact y83 _|apply y85|refine z11 rfl (z6 (fun _=>rfl)) ?_|constructor)<;>(first|rw [q0];exact z10 _|rfl)) ?_
 intro i hi
 by_cases hi2:i < rows.length
 ·have g1:=z172 (pm i) hi2
  have l1:=z136 rows.length (pm i)
  have e1:=z152 (N:=rows.length) (u:=i) (pm i) (nmI P i)
  rw [← qS] at e1
  rw [qA i hi2] at g1
  have hiP:i < P.length:=by omega
  have m1:=z544 P[i] 0 (metL P i)
  have m2:=z544 P[i] 0 (metL P (i+1))
  rw [if_pos (z685 hiP),Nat.zero_add,← nmI_at hiP] at m2
  have m3:=z407 hiP
  have m4:=z564 0 (metL P i)
  by_cases hp:P[i]∈metL P i
  ·rw [if_pos hp] at m1
   have m5:metL P (i+1)=metL P i:=by rw [m3];unfold z134;rw [if_pos hp]
   rw [m5] at m2
   generalize hes:z269 0 (metL P i)=es at *
   generalize hes2:z269 0 (metL P (i+1))=es2 at *
   have m6:es2=es:=by rw [← hes2,m5,hes]
   generalize nmI P i=nm at *
   generalize P[i]=p at *
   repeat' ((first|apply y6 ok;rfl|refine z14 (i:=i) rfl g1 ?_|rw [m2]|(apply y40;first|omega|unfold inI;omega)|apply z7<;>intro _)<;>conv=>whnf)
   all_goals try (exfalso;omega)
   all_goals refine z29 (i+1) hi2 (by omega) ?_
   all_goals dsimp only
   all_goals rw [hes2,m6]
   all_goals exact (by refine swR [0,1,2] [] rfl rfl ?_;(repeat' first|exact y83 _|apply y85|refine z50 rfl (z6 (fun _=>rfl)) ?_|constructor)<;>(first|refine z21 ?_;exact e1|rfl))
  ·rw [if_neg hp] at m1
   have m5:metL P (i+1)=metL P i++[P[i]]:=by rw [m3];unfold z134;rw [if_neg hp]
   have m6:mput (z269 0 (metL P i)) [P[i]] (z269 0 (metL P i)).length=z269 0 (metL P (i+1)):=by
    rw [z774 _ _ _ hp,m5,z805,z564,Nat.zero_add]
   generalize hes:z269 0 (metL P i)=es at *
   generalize hes2:z269 0 (metL P (i+1))=es2 at *
   generalize nmI P i=nm at *
   generalize P[i]=p at *
   repeat' ((first|apply y6 ok;rfl|refine z14 (i:=i) rfl g1 ?_|rw [m6]|rw [m2]|rw [m1]|(apply y40;first|omega|unfold inI;omega)|apply z7<;>intro _)<;>conv=>whnf)
   all_goals try (exfalso;omega)
   all_goals refine z29 (i+1) hi2 (by omega) ?_
   all_goals dsimp only
   all_goals rw [hes2]
   all_goals exact (by refine swR [0,1,2] [] rfl rfl ?_;(repeat' first|exact y83 _|apply y85|refine z50 rfl (z6 (fun _=>rfl)) ?_|constructor)<;>(first|refine z21 ?_;exact e1|rfl))
 obtain rfl:i=rows.length:=by omega
 rw [qE]
 repeat' ((first|apply y6 ok;rfl|apply y40;omega|((apply z13;omega));intro _|(first|apply z7|apply z82)<;>intro _)<;>conv=>whnf)
 all_goals try (exfalso;omega)
 all_goals (refine rsD [2] [] rfl ?_;(repeat' first|exact y83 _|exact z10 _|refine z11 rfl (z6 (fun _=>rfl)) ?_|constructor))
def fnB (N:Nat) (f:Nat→Bool):List Bool:=(List.range N).map f
theorem z173 (N:Nat) (f:Nat→Bool):(fnB N f).length=N:=by simp [fnB]
theorem z324 {N u:Nat} (f:Nat→Bool) (h:u < N):((fnB N f).map enB)[u]?=some (enB (f u)):=by
 unfold fnB
 rw [y48,y48,List.getElem?_range h];rfl
theorem z500 {N u:Nat} (f:Nat→Bool) (x:Bool):((fnB N f).map enB).set u (enB x)=(fnB N (upd f u x)).map enB:=by
 rw [← List.map_set]
 congr 1
 apply y72 (by simp [fnB])
 intro i h1 h2
 rw [List.getElem_set]
 simp only [fnB,List.getElem_map,List.getElem_range]
 split
 ·rename_i e;subst e;rw [z36]
 ·rename_i e;rw [z52 _ _ (fun h=>e h.symm)]
theorem z499 (N:Nat):List.replicate N [AC.bool false]=(fnB N fun _=>false).map enB:=by
 apply y72 (by simp [fnB])
 intro i h1 h2
 simp [fnB,enB]
set_option maxHeartbeats 12800000 in
theorem z633 (rows:List (List Int)) (hr:∀ r∈rows,InN rows.length r) (hN:rows.length≤100000) (hrl:∀ r∈rows,r.length≤1000000000):QQ 109 [lst 1 encL rows] [] (.sref 0 0 rows.length) [.cells 1 ((cycB rows).map enB)]:=by
 have cC:=z609 rows hr hN hrl
 have hPl:=z427 rows
 have hPi:=z1238 (rows:=rows)
 have hcy:=fun x hx=>cyc_cnt hr (x:=x) hx
 have hcl:=fun x (hx:x < rows.length)=>z907 hx
 have ccB:cycB rows=fnB rows.length (cycD rows):=rfl
 rw [ccB]
 generalize cmpL rows=P at *
 refine z12 z24 func109 rfl rfl 56 ntmps109 (by simp) ?_
 repeat' ((first|apply y6 ok;rfl|apply y40;(dsimp only;omega)|apply z15 [] [0] cC;rfl;rfl;rfl;(focus ((repeat' first|exact z23|apply z19)<;>(refine z30 ?_;((exact z6 fun _=>rfl))))))<;>conv=>whnf)
 obtain ⟨cm,hcm⟩:∃ cm:Nat→Nat→Int,cm=fun i v=>((cntL P i v:Nat):Int):=⟨_,rfl⟩
 have c0:cm 0=fun _=>0:=by rw [hcm];funext v;simp [cntL]
 have cS:∀ i (h:i < P.length),cm (i+1)=upd (cm i) (P[i]).toNat (cm i (P[i]).toNat+1):=fun i h=>by
  have hp:=hPi _ (y41 h)
  funext v
  rw [hcm]
  dsimp only
  rw [z810 h]
  by_cases e:v=(P[i]).toNat
  ·rw [e,z36,if_pos (by omega)];omega
  ·rw [z52 _ _ e,if_neg (by omega)];omega
 have cE:∀ v,cm rows.length v=((cntL P rows.length v:Nat):Int):=fun v=>by rw [hcm]
 have cB:∀ i v,0≤cm i v∧cm i v≤i:=fun i v=>by rw [hcm];have:=cntL_le P i v;dsimp only;omega
 clear hcm
 refine z69 (fun i:Nat=>([(0,lst 1 encL rows),(3,.sref 0 0 rows.length),(4,.sref 1 0 rows.length),(14,.sref 0 0 rows.length),(15,.int rows.length),(16,.int i)],[.cells 1 (P.map enI),.cells 1 ((fnL rows.length (cm i)).map enI)])) (fun i=>i≤rows.length) (fun i=>rows.length - i) 0 (y50 _) (by refine swR [0,1] [] rfl rfl ?_;(repeat' first|exact y83 _|exact z10 _|(refine z11 rfl ?_ ?_);(focus ((repeat' (first|exact z54 rfl|exact z6 (fun _=>rfl)));done))|constructor)<;>((refine z21 ?_;rw [c0];exact z349 _))) ?_
 intro i hi
 by_cases hi2:i < rows.length
 ·have hiP:i < P.length:=by omega
  have hp:=hPi _ (y41 hiP)
  have gp:(P.map enI)[i]?=some (enI P[i]):=by rw [y48,y42 hiP];rfl
  have cS2:=cS i hiP
  generalize P[i]=p at *
  obtain ⟨v,rfl⟩:∃ v:Nat,p=v:=⟨p.toNat,by omega⟩
  rw [y74] at cS2
  have hv:v < rows.length:=by omega
  have gv:=z172 (cm i) hv
  have l1:=z136 rows.length (cm i)
  have e1:=z152 (N:=rows.length) (u:=v) (cm i) (cm i v+1)
  rw [← cS2] at e1
  have b1:=cB i v
  repeat' ((first|apply y6 ok;rfl|refine z14 (i:=i) rfl gp ?_|refine z14 (i:=v) rfl gv ?_|(apply y40;first|omega|unfold inI;omega)|apply z7<;>intro _)<;>conv=>whnf)
  all_goals try (exfalso;omega)
  all_goals refine z29 (i+1) hi2 (by omega) (by refine swR [0,1] [] rfl rfl ?_;(repeat' first|exact y83 _|exact z10 _|refine z50 rfl (z6 (fun _=>rfl)) ?_|refine z11 rfl (z6 (fun _=>rfl)) ?_|constructor)<;>((refine z21 ?_;exact e1)))
 obtain rfl:i=rows.length:=by omega
 repeat' ((first|apply y6 ok;rfl|(apply y40;first|omega|dsimp only;omega)|((apply z13;omega));intro _|apply z7<;>intro _)<;>conv=>whnf)
 all_goals try (exfalso;omega)
 obtain ⟨bm,hbm⟩:∃ bm:Nat→Nat→Bool,bm=fun i j=>if j < i then cycD rows j else false:=⟨_,rfl⟩
 have b0:bm 0=fun _=>false:=by rw [hbm];rfl
 have bE:fnB rows.length (bm rows.length)=fnB rows.length (cycD rows):=List.map_congr_left fun i hi=>by
  have:=List.mem_range.1 hi
  rw [hbm];dsimp only;rw [if_pos this]
 have bS:∀ i,bm (i+1)=upd (bm i) i (cycD rows i):=fun i=>by
  funext j
  by_cases h:j=i
  ·subst h;rw [z36,hbm];dsimp only;rw [if_pos (by omega)]
  ·rw [z52 _ _ h,hbm];dsimp only;split<;>split<;>first|rfl|omega
 clear hbm
 refine z69 (fun i:Nat=>([(0,lst 1 encL rows),(3,.sref 0 0 rows.length),(4,.sref 1 0 rows.length),(7,.sref 2 0 rows.length),(31,.int rows.length),(32,.int i)],[.cells 1 (P.map enI),.cells 1 ((fnL rows.length (cm rows.length)).map enI),.cells 1 ((fnB rows.length (bm i)).map enB)])) (fun i=>i≤rows.length) (fun i=>rows.length - i) 0 (y50 _) (by refine swR [0,1,2] [] rfl rfl ?_;(repeat' first|exact y83 _|exact z10 _|(refine z11 rfl ?_ ?_);(focus ((repeat' (first|exact z54 rfl|exact z6 (fun _=>rfl)));done))|constructor)<;>((refine z21 ?_;rw [b0];exact z499 _))) ?_
 intro i hi
 by_cases hi2:i < rows.length
 ·have hiP:i < P.length:=by omega
  have hp:=hPi _ (y41 hiP)
  have gp:(P.map enI)[i]?=some (enI P[i]):=by rw [y48,y42 hiP];rfl
  have hc:=hcy i hi2
  have e1:=z500 (N:=rows.length) (u:=i) (bm i) (cycD rows i)
  rw [← bS] at e1
  rw [z20 hiP] at hc
  generalize P[i]=p at *
  obtain ⟨v,rfl⟩:∃ v:Nat,p=v:=⟨p.toNat,by omega⟩
  rw [y74] at hc
  have hv:v < rows.length:=by omega
  have gv:=z172 (cm rows.length) hv
  have l1:=z136 rows.length (cm rows.length)
  have l2:=z173 rows.length (bm i)
  have g2:=z324 (bm i) hi2
  have gr:=z533 hi2
  have hrow:(rows.getD i []).length≤1000000000:=by rw [z20 hi2];exact hrl _ (y41 _)
  have cct:=z189 (rows.getD i []) (by unfold maxLen;omega) i
  rw [cE] at gv
  generalize cycD rows i=cy at *
  generalize rows.getD i []=row at *
  generalize cntL P rows.length v=cn at *
  by_cases h1:1 < cn
  ·rw [y79 h1,Bool.true_or] at hc
   subst hc
   repeat' ((first|apply y6 ok;rfl|refine z14 (i:=i) rfl gp ?_|refine z14 (i:=v) rfl gv ?_|refine z14 (i:=i) rfl g2 ?_|refine z14 (i:=i) rfl gr ?_|(apply y40;first|omega|unfold inI;omega)|apply z7<;>intro _|apply z8 cct;rfl;rfl)<;>conv=>whnf)
   all_goals try (exfalso;omega)
   all_goals refine z29 (i+1) hi2 (by omega) (by refine swR [0,1,2] [] rfl rfl ?_;(repeat' first|exact y83 _|exact z10 _|refine z50 rfl (z6 (fun _=>rfl)) ?_|refine z11 rfl (z6 (fun _=>rfl)) ?_|constructor)<;>((refine z21 ?_;exact e1)))
  ·rw [y80 h1,Bool.false_or] at hc
   rw [← hc] at cct
   repeat' ((first|apply y6 ok;rfl|refine z14 (i:=i) rfl gp ?_|refine z14 (i:=v) rfl gv ?_|refine z14 (i:=i) rfl g2 ?_|refine z14 (i:=i) rfl gr ?_|(apply y40;first|omega|unfold inI;omega)|apply z7<;>intro _|apply z8 cct;rfl;rfl)<;>conv=>whnf)
   all_goals try (exfalso;omega)
   all_goals refine z29 (i+1) hi2 (by omega) (by refine swR [0,1,2] [] rfl rfl ?_;(repeat' first|exact y83 _|exact z10 _|refine z50 rfl (z6 (fun _=>rfl)) ?_|refine z11 rfl (z6 (fun _=>rfl)) ?_|constructor)<;>((refine z21 ?_;exact e1)))
 obtain rfl:i=rows.length:=by omega
 rw [bE]
 repeat' ((first|apply y6 ok;rfl|apply y40;omega|(first|with_reducible apply z13;omega|apply z13;omega);intro _|apply z7<;>intro _)<;>conv=>whnf)
 all_goals try (exfalso;omega)
 all_goals (refine rsD [2] [] rfl ?_;(repeat' first|exact y83 _|exact z10 _|refine z11 rfl (z6 (fun _=>rfl)) ?_|constructor))
def inM (Q:List Int) (i:Nat):Bool:=decide ((i:Int)∈Q)
theorem inM_upd (Q:List Int) (w:Nat):inM (Q++[(w:Int)])=upd (inM Q) w true:=by
 funext j
 by_cases h:j=w
 ·subst h;rw [z36];unfold inM;simp
 ·rw [z52 _ _ h];unfold inM;congr 1
  have:¬ (j:Int)=w:=by omega
  simp [this]
theorem inM_nil:inM []=fun _=>false:=by funext j;simp [inM]
@[reducible] def findF:AC:=.fn (.func 167) [] [.ptr 0 none 0,.ptr 2 none 0]
@[reducible] def z1148 (N:Nat) (Q:List Int):List AObj:=[.cells 1 [[.sref 1 0 N]],.cells 1 ((fnB N (inM Q)).map enB),.cells 1 [[.own 1 (Q.map enI)]]]
set_option maxHeartbeats 3200000 in
theorem z800 (N : Nat) (hN : N ≤ 100000) (Q : List Int) (hQ : Q.length ≤ 100000) (v : Int) (hv : 0 ≤ v ∧ v < N) :
    QQ 167 [.int v,.ptr 0 none 0,.ptr 2 none 0] (z1148 N Q) (.tup []) (z1148 N (z134 Q v)):=by
  obtain ⟨w,rfl⟩:∃ w:Nat,v=w:=⟨v.toNat,by omega⟩
  have hw:w < N:=by omega
  have g1:=z324 (inM Q) hw
  have l1:=z173 N (inM Q)
  unfold z134
  by_cases h:(w:Int)∈Q
  · rw [if_pos h]
    have e:inM Q w=true:=by unfold inM;simp [h]
    rw [e] at g1
    refine z12 z24 func167 rfl rfl 16 ntmps167 (by simp) ?_
    repeat' ((first|apply y6 ok;rfl|refine z14 (i:=w) rfl g1 ?_|apply y40;omega)<;>conv=>whnf)
    all_goals (refine rsD [0,1,2] [] rfl ?_;(repeat' first|exact y83 _|exact z10 _|apply y85|refine z11 rfl (z6 (fun _=>rfl)) ?_|constructor))
  · rw [if_neg h]
    have e:inM Q w=false:=by unfold inM;simp [h]
    rw [e] at g1
    have e1:=z500 (N:=N) (u:=w) (inM Q) true
    rw [← inM_upd] at e1
    have e2:(List.map enI Q).take (List.map enI Q).length++[enI (w:Int)]=(Q++[(w:Int)]).map enI:=by
      rw [y53];simp
    refine z12 z24 func167 rfl rfl 16 ntmps167 (by simp) ?_
    repeat' ((first|(fail_if_success apply z122 2);(fail_if_success apply z96 2);apply y6 ok;rfl|refine z14 (i:=w) rfl g1 ?_|apply y40;omega)<;>conv=>whnf)
    all_goals
      refine y82 (Gl.Reach.expose 2 0 0 rfl rfl rfl (z168 (fun _=>rfl) _) rfl) ?_
      conv=>whnf
      repeat' ((first|apply y6 ok;rfl|(apply y40;first|(try dsimp only);simp only [y46,y45,y44,y43,y55,y56];omega|exact ⟨rfl,z17 rfl z26⟩))<;>conv=>whnf)
      refine Gl.RetS.absorb 2 5 0 0 rfl rfl rfl rfl (by simp) rfl (z90 (fun e he=>(z6 (fun _=>rfl)) e (List.mem_of_mem_take he)) (z235 rfl z39)) ?_
      conv=>whnf
      (refine rsD [0,1,2] [] rfl ?_;(repeat' first|exact y83 _|apply y85|refine z50 rfl (z6 (fun _=>rfl)) ?_|constructor))
      all_goals first|refine z21 ?_;exact e1|exact y11 (congrArg (AC.own 1) e2)
set_option maxHeartbeats 6400000 in
theorem z1142 (rows : List (List Int)) (ini : List Int) (hr : ∀ r ∈ rows, InN rows.length r) (hi : InN rows.length ini) (hN : rows.length ≤ 100000) (hrl : ∀ r ∈ rows, r.length ≤ 1000000000) (hil : ini.length ≤ 1000000000) :
    QQ 110 [lst 1 encL rows,ints ini] [] (.sref 0 0 (bfsL rows ini).length) [.cells 1 ((bfsL rows ini).map enI)]:=by
  have hvl:∀ l:List Int,InN rows.length l→(z75 [] l).length≤100000:=fun l hl=>by
    have:=z199 rows.length (z75 [] l) (z155 (by simp)) (z254 (fun x hx=>by cases hx) hl)
    omega
  refine z12 z24 func110 rfl rfl 50 ntmps110 (by simp) ?_
  repeat' ((first|apply y6 ok;rfl|apply y40;(dsimp only;omega))<;>conv=>whnf)
  refine z69 (fun i:Nat=>([(0,lst 1 encL rows),(6,.ptr 2 none 0),(7,findF),(17,ints ini),(18,.int ini.length),(19,.int i)],z1148 rows.length (z75 [] (ini.take i)))) (fun i=>i≤ini.length) (fun i=>ini.length - i) 0 (y50 _) (by refine swR [1,0,2] [] rfl rfl ?_;(repeat' first|exact y83 _|apply y85|refine z11 rfl (z54 rfl) ?_|constructor)<;>(first|exact z683|refine z21 ?_;show _=(fnB rows.length (inM [])).map enB;rw [inM_nil];exact z499 _)) ?_
  intro i hil1
  by_cases hil2:i < ini.length
  · have gk:(ini.map enI)[i]?=some (enI ini[i]):=by rw [y48,y42 hil2];rfl
    have hv:=hi _ (y41 hil2)
    have hQl:=hvl (ini.take i) fun x hx=>hi x (List.mem_of_mem_take hx)
    have e1:=z276 (out:=[]) hil2
    generalize ini[i]=v at *
    have cf:=z800 rows.length hN (z75 [] (ini.take i)) hQl v hv
    rw [← e1] at cf
    repeat' ((first|apply y6 ok;rfl|refine z14 (i:=i) rfl gk ?_|(apply y40;first|omega|unfold inI;omega)|apply z7<;>intro _|apply z175 [0,1,2] [] cf;rfl;(focus ((repeat' first|exact z62|apply z71)<;>first|rfl|refine z89 rfl ?_;((exact z6 fun _=>rfl))));rfl;(focus ((repeat' first|exact z23|apply z19)<;>first|exact z58 rfl rfl|refine z30 ?_;((exact z6 fun _=>rfl)))))<;>conv=>whnf)
    all_goals try (exfalso;omega)
    all_goals refine z29 (i+1) hil2 (by omega) (by refine swR [0,1,2] [] rfl rfl ?_;(repeat' first|exact y83 _|exact z10 _|apply y85|refine z11 rfl (z6 (fun _=>rfl)) ?_|constructor))
  obtain rfl:i=ini.length:=by omega
  rw [y53]
  repeat' ((first|apply y6 ok;rfl|apply y40;omega|((with_reducible apply z13;omega));intro _|apply z7<;>intro _)<;>conv=>whnf)
  all_goals try (exfalso;omega)
  refine z69 (fun i:Nat=>([(0,lst 1 encL rows),(6,.ptr 2 none 0),(7,findF),(10,.int i)],z1148 rows.length (bfs rows ini i))) (fun i=>i≤rows.length) (fun i=>rows.length - i) 0 (y50 _) (by refine swR [0,1,2] [] rfl rfl ?_;(repeat' first|exact y83 _|exact z10 _|apply y85|refine z11 rfl (z6 (fun _=>rfl)) ?_|constructor)) ?_
  intro i hi1
  have hQl:=z458 hr hi i
  have hQi:=z432 hr hi i
  refine y82 (Gl.Reach.expose 2 0 0 rfl rfl rfl (z168 (fun _=>rfl) _) rfl) ?_
  by_cases hi2:i < (bfs rows ini i).length
  · have hx:=hQi _ (y41 hi2)
    have gx:((bfs rows ini i).map enI)[i]?=some (enI (bfs rows ini i)[i]):=by rw [y48,y42 hi2];rfl
    have hnx:bfs rows ini (i+1)=z75 (bfs rows ini i) (rows.getD ((bfs rows ini i)[i]).toNat []):=by rw [bfs,dif_pos hi2]
    have hnd:=z573 (rows:=rows) (ini:=ini) i
    generalize hQ' : bfs rows ini (i+1)=Q' at *
    generalize (bfs rows ini i)[i]=x at *
    generalize hQ:bfs rows ini i=Q at *
    obtain ⟨u,rfl⟩:∃ u:Nat,x=u:=⟨x.toNat,by omega⟩
    rw [y74] at hnx
    have hu:u < rows.length:=by omega
    have gr:=z533 hu
    have hrow:=z301 hr (u:Int)
    rw [y74] at hrow
    have hrowl:(rows.getD u []).length≤1000000000:=by rw [z20 hu];exact hrl _ (y41 _)
    generalize rows.getD u []=row at *
    repeat' ((first|apply y6 ok;rfl|refine z14 (i:=i) rfl gx ?_|refine z14 (i:=u) rfl gr ?_|apply y40;omega|apply z7<;>intro _)<;>conv=>whnf)
    all_goals first|(exfalso;simp at *;omega)|skip
    all_goals
      refine y82 (Gl.Reach.absorb 2 3 0 0 rfl rfl rfl rfl (by simp) rfl (z6 fun _=>rfl) rfl) ?_
      refine z69 (fun j:Nat=>([(0,lst 1 encL rows),(6,.ptr 2 none 0),(7,findF),(10,.int i),(39,ints row),(40,.int row.length),(41,.int j)],z1148 rows.length (z75 Q (row.take j)))) (fun j=>j≤row.length) (fun j=>row.length - j) 0 (y50 _) (by refine swR [0,1,2] [] rfl rfl ?_;(repeat' first|exact y83 _|exact z10 _|apply y85|refine z11 rfl (z6 (fun _=>rfl)) ?_|constructor)) ?_
      intro j hj
      by_cases hj2:j < row.length
      · have gj:(row.map enI)[j]?=some (enI row[j]):=by rw [y48,y42 hj2];rfl
        have hv:=hrow _ (y41 hj2)
        have hWl:(z75 Q (row.take j)).length≤100000:=by
          have:=z199 rows.length (z75 Q (row.take j)) (z155 hnd) (z254 hQi fun x hx=>hrow x (List.mem_of_mem_take hx))
          omega
        have e1:=z276 (out:=Q) hj2
        generalize row[j]=v at *
        have cf:=z800 rows.length hN (z75 Q (row.take j)) hWl v hv
        rw [← e1] at cf
        repeat' ((first|apply y6 ok;rfl|refine z14 (i:=j) rfl gj ?_|(apply y40;first|omega|unfold inI;omega)|apply z7<;>intro _|apply z175 [0,1,2] [] cf;rfl;(focus ((repeat' first|exact z62|apply z71)<;>first|rfl|refine z89 rfl ?_;((exact z6 fun _=>rfl))));rfl;(focus ((repeat' first|exact z23|apply z19)<;>first|exact z58 rfl rfl|refine z30 ?_;((exact z6 fun _=>rfl)))))<;>conv=>whnf)
        all_goals try (exfalso;omega)
        all_goals refine z29 (j+1) hj2 (by omega) (by refine swR [0,1,2] [] rfl rfl ?_;(repeat' first|exact y83 _|exact z10 _|apply y85|refine z11 rfl (z6 (fun _=>rfl)) ?_|constructor))
      obtain rfl:j=row.length:=by omega
      rw [y53,← hnx]
      repeat' ((first|apply y6 ok;rfl|(apply y40;first|omega|unfold inI;omega)|((with_reducible apply z13;omega));intro _|apply z7<;>intro _)<;>conv=>whnf)
      all_goals try (exfalso;omega)
      all_goals refine z29 (i+1) (by omega) (by omega) ?_
      all_goals dsimp only
      all_goals rw [hQ']
      all_goals exact (by refine swR [0,1,2] [] rfl rfl ?_;(repeat' first|exact y83 _|exact z10 _|apply y85|refine z11 rfl (z6 (fun _=>rfl)) ?_|constructor))
  · have hE:=z980 hr hi (i:=i) (by omega) hi1
    rw [← hE]
    repeat' ((first|apply y6 ok;rfl|apply y40;omega|apply z7<;>intro _)<;>conv=>whnf)
    all_goals first|(exfalso;simp at *;omega)|skip
    all_goals (refine rsD [3] [] rfl ?_;(repeat' first|exact z10 _|refine z44 ?_;((simp;done))|refine z11 rfl (z6 (fun _=>rfl)) ?_|constructor))
theorem swp_map (l:List Int) (i j:Nat):((l.map enI).set i (enI (l.getD j 0))).set j (enI (l.getD i 0))=(swp l i j).map enI:=by
 unfold swp;rw [List.map_set,List.map_set]
set_option maxHeartbeats 1600000 in
theorem z1007 (l:List Int) (h1:1≤l.length) (h2:l.length≤1048576):QQ 168 [.sref 0 0 l.length] [.cells 1 (l.map enI)] (.tup []) [.cells 1 ((rvs l).map enI)]:=by
 have hR:revG l.length 0 (l.length - 1) l=rvs l:=rfl
 generalize rvs l=R at *
 generalize hn:l.length=n at *
 refine z12 z24 func168 rfl rfl 28 ntmps168 (by simp) ?_
 repeat' ((first|apply y6 ok;rfl|apply y40;(unfold inI;omega))<;>conv=>whnf)
 refine z69 (fun x:Nat×Nat×List Int=>([(0,.sref 0 0 n),(2,.int x.1),(3,.int x.2.1)],[.cells 1 (x.2.2.map enI)])) (fun x=>x.1≤n∧x.2.1 < n∧x.2.2.length=n∧revG (n - x.1) x.1 x.2.1 x.2.2=R) (fun x=>n - x.1) (0,n - 1,l) ⟨by simp,by show n - 1 < n;omega,hn,hR⟩ (by refine swR [0] [] rfl rfl ?_;(repeat' first|exact y83 _|exact z10 _|refine z11 rfl (z6 (fun _=>rfl)) ?_|constructor)<;>((rw [show ((n - 1:Nat):Int)=(n:Int) - 1 by omega];exact y83 _))) ?_
 rintro ⟨i,j,l'⟩ ⟨i1,i2,i3,i4⟩
 dsimp only at i1 i2 i3 i4 ⊢
 by_cases hij:i < j
 ·rw [show n - i=(n - (i+1))+1 by omega,revG,if_pos hij] at i4
  have gi:(l'.map enI)[i]?=some (enI (l'.getD i 0)):=by rw [y48,y42 (by omega),z20 (by omega)];rfl
  have gj:(l'.map enI)[j]?=some (enI (l'.getD j 0)):=by rw [y48,y42 (by omega),z20 (by omega)];rfl
  have gj2:((l'.map enI).set i (enI (l'.getD j 0)))[j]?=some (enI (l'.getD j 0)):=by rw [List.getElem?_set_ne (by omega)];exact gj
  have es:=swp_map l' i j
  repeat' ((first|apply y6 ok;rfl|apply z27;kernel_rfl|refine z14 (i:=i) rfl gi ?_|refine z14 (i:=j) rfl gj ?_|refine z14 (i:=j) rfl gj2 ?_|(apply y40;first|omega|unfold inI;omega)|apply z7<;>intro _)<;>conv=>whnf)
  all_goals try (exfalso;omega)
  all_goals refine z29 (i+1,j - 1,swp l' i j) ⟨by show i+1≤n;omega,by show j - 1 < n;omega,by show (swp l' i j).length=n;simp [swp,i3],i4⟩ (by show n - (i+1) < n - i;omega) (by refine swR [0] [] rfl rfl ?_;(repeat' first|exact y83 _|(refine z50 rfl ?_ ?_);(focus ((repeat' (first|exact z6 (fun _=>rfl)|refine z1215 ?_ _ rfl));done))|constructor)<;>(first|rw [show ((j - 1:Nat):Int)=(j:Int) - 1 by omega];exact y83 _|exact z21 es))
 ·have:revG (n - i) i j l'=l':=by cases n - i<;>simp [revG,hij]
  rw [this] at i4
  subst i4
  repeat' ((first|apply y6 ok;rfl|apply y40;omega|((apply z13;omega));intro _|apply z7<;>intro _)<;>conv=>whnf)
  all_goals try (exfalso;omega)
  all_goals (refine rsD [0] [] rfl ?_;(repeat' first|exact y83 _|exact z10 _|refine z11 rfl (z6 (fun _=>rfl)) ?_|constructor))
theorem z897 {N w:Nat} (Q P:List Int) (hw:w < N):((frm N Q P).map enI)[w]?=some (enI (if (w:Int)∈Q then P.getD w 0 else -2)):=by
 unfold frm
 rw [y48,y48,List.getElem?_range hw];rfl
theorem z962 {N w:Nat} {Q P:List Int} {u:Int} (hw:w < N) (hP:P.length=N):((frm N Q P).map enI).set w (enI u)=(frm N (Q++[(w:Int)]) (P.set w u)).map enI:=by
 have:=frm_set (N:=N) (Q:=Q) (P:=P) (v:=(w:Int)) (u:=u) ⟨by omega,by omega⟩ hP
 rw [y74] at this
 rw [← this,List.map_set]
@[reducible] def capB (b:Bool) (c1 c2:List AC):List AC:=match b with
 |true=>[.pt c1,.pt c2]
 |false=>[.pt c1]
set_option maxHeartbeats 25600000 in
theorem z392 (b : Bool) (rows : List (List Int)) (ini : List Int) (hr : ∀ r ∈ rows, InN rows.length r) (hi : InN rows.length ini) (hn : ini.Nodup) (hN : rows.length ≤ 100000) (hrl : ∀ r ∈ rows, r.length ≤ 1000000000) (G : Int → Bool) (f : FuncId) (c1 c2 : List AC) (hf : ∀ x : Int, 0 ≤ x → x < rows.length → QQ f (.int x :: (capB b c1 c2)) [] (.bool (G x)) []) :
    QQ 111 [lst 1 encL rows,ints ini,.fn (.func f) [] (capB b c1 c2)] [] (.sref 0 0 (shL rows ini G).length) [.cells 1 ((shL rows ini G).map enI)]:=by
  cases b
  case' true=>let caps:List AC:=[.pt c1,.pt c2]
  case' false=>let caps:List AC:=[.pt c1]
  all_goals
    have hil:ini.length≤100000:=by have:=z199 rows.length ini hn hi;omega
    refine z12 z24 func111 rfl rfl 99 ntmps111 (by simp) ?_
    repeat' ((first|apply y6 ok;rfl|apply y40;(dsimp only;omega))<;>conv=>whnf)
    obtain ⟨qm,hqm⟩:∃ qm:Nat→Nat→Int,qm=fun i j=>if j < i then -2 else 0:=⟨_,rfl⟩
    have q0:qm 0=fun _=>0:=by rw [hqm];rfl
    have qE:(fnL rows.length (qm rows.length)).map enI=(frm rows.length [] (List.replicate rows.length (-1))).map enI:=by
      rw [frm_nil]
      congr 1
      apply y72 (by simp [fnL])
      intro i h1 h2
      rw [z898,hqm]
      have hi' : i < rows.length:=by rw [z136] at h1;exact h1
      dsimp only
      rw [if_pos hi'];simp
    have qS:∀ i,qm (i+1)=upd (qm i) i (-2):=fun i=>by
      funext j
      by_cases h:j=i
      · subst h;rw [z36,hqm];dsimp only;rw [if_pos (by omega)]
      · rw [z52 _ _ h,hqm];dsimp only;split<;>split<;>first|rfl|omega
    clear hqm
    refine z69 (fun i:Nat=>([(0,lst 1 encL rows),(1,ints ini),(2,.fn (.func f) [] caps),(7,.sref 0 0 rows.length),(21,.int rows.length),(22,.int i)],[.cells 1 ((fnL rows.length (qm i)).map enI)])) (fun i=>i≤rows.length) (fun i=>rows.length - i) 0 (y50 _) (by refine swR [0] [] rfl rfl ?_;(repeat' first|exact y83 _|refine z11 rfl (z54 rfl) ?_|constructor)<;>((refine z21 ?_;rw [q0];exact z349 _))) ?_
    intro i hi1
    by_cases hi2:i < rows.length
    · have g1:=z172 (qm i) hi2
      have l1:=z136 rows.length (qm i)
      have e1:=z152 (N:=rows.length) (u:=i) (qm i) (-2)
      rw [← qS] at e1
      repeat' ((first|apply y6 ok;rfl|refine z14 (i:=i) rfl g1 ?_|(apply y40;first|omega|unfold inI;omega)|apply z7<;>intro _)<;>conv=>whnf)
      all_goals try (exfalso;omega)
      all_goals refine z29 (i+1) hi2 (by omega) (by refine swR [0] [] rfl rfl ?_;(repeat' first|exact y83 _|refine z50 rfl (z6 (fun _=>rfl)) ?_|constructor)<;>((refine z21 ?_;exact e1)))
    obtain rfl:i=rows.length:=by omega
    rw [qE]
    clear qE qS q0
    repeat' ((first|apply y6 ok;rfl|apply y40;omega|((apply z13;omega));intro _|apply z7<;>intro _)<;>conv=>whnf)
    all_goals try (exfalso;omega)
    refine y82 (y86 1 rfl) ?_
    have hrep:(List.replicate rows.length (-1:Int)).length=rows.length:=by simp
    have hrs:∀ w,(List.replicate rows.length (-1:Int)).set w (-1)=List.replicate rows.length (-1):=fun w=>by
      apply y72 (by simp)
      intro i h1 h2
      rw [List.getElem_set]
      split<;>simp
    have hS0:(frm rows.length ini (List.replicate rows.length (-1)))=frm rows.length (srS rows ini 0).1 (srS rows ini 0).2:=rfl
    generalize List.replicate rows.length (-1:Int)=P0 at *
    refine z69 (fun k:Nat=>([(0,lst 1 encL rows),(2,.fn (.func f) [] caps),(7,.sref 0 0 rows.length),(9,.sref 1 0 (ini.take k).length),(29,ints ini),(30,.int ini.length),(31,.int k)],[.cells 1 ((frm rows.length (ini.take k) P0).map enI),.cells 1 ((ini.take k).map enI)])) (fun k=>k≤ini.length) (fun k=>ini.length - k) 0 (y50 _) (by refine swR [0,1] [] rfl rfl ?_;(repeat' first|exact y83 _|exact z56|exact z10 _|(refine z11 rfl ?_ ?_);(focus ((repeat' (first|exact z39|exact z6 (fun _=>rfl)));done))|constructor)) ?_
    intro k hk
    by_cases hk2:k < ini.length
    · have gk:(ini.map enI)[k]?=some (enI ini[k]):=by rw [y48,y42 hk2];rfl
      have hv:=hi _ (y41 hk2)
      have et:ini.take (k+1)=ini.take k++[ini[k]]:=y47 hk2
      have htl:(ini.take k).length≤100000:=by rw [y45];omega
      generalize hQ' : ini.take (k+1)=Q' at *
      generalize hQ:ini.take k=Q at *
      generalize ini[k]=v at *
      obtain ⟨w,rfl⟩:∃ w:Nat,v=w:=⟨v.toNat,by omega⟩
      have hw:w < rows.length:=by omega
      have g1:=z897 Q P0 hw
      have l1:=z896 rows.length Q P0
      have e1:=z962 (Q:=Q) (u:=-1) hw hrep
      rw [hrs,← et] at e1
      subst et
      repeat' ((first|apply y6 ok;rfl|refine z14 (i:=k) rfl gk ?_|refine z14 (i:=w) rfl g1 ?_|(apply y40;first|omega|unfold inI;omega|(try dsimp only);simp only [y46,y45,y44,y43,y55,y56];omega|exact ⟨rfl,z17 rfl z26⟩)|apply z7<;>intro _)<;>conv=>whnf)
      all_goals try (exfalso;omega)
      all_goals refine z29 (k+1) hk2 (by omega) ?_
      all_goals dsimp only
      all_goals rw [hQ']
      all_goals exact (by refine swR [0,3] [] rfl rfl ?_;(repeat' first|exact y83 _|refine z44 ?_;((simp;done))|(first|refine z33 rfl ?_ ?_|refine z50 rfl ?_ ?_);(focus ((repeat' (first|exact z6 (fun _=>rfl)|apply z25));done))|refine z77 ?_ ?_;(focus omega)|constructor)<;>((refine z21 ?_;exact e1)))
    obtain rfl:k=ini.length:=by omega
    rw [y53,hS0]
    repeat' ((first|apply y6 ok;rfl|apply y40;omega|(first|with_reducible apply z13;omega|apply z13;omega);intro _|apply z7<;>intro _)<;>conv=>whnf)
    all_goals try (exfalso;omega)
    refine z69 (fun i:Nat=>([(0,lst 1 encL rows),(2,.fn (.func f) [] caps),(7,.sref 0 0 rows.length),(9,.sref 1 0 (srS rows ini i).1.length),(12,.int i)],[.cells 1 ((frm rows.length (srS rows ini i).1 (srS rows ini i).2).map enI),.cells 1 ((srS rows ini i).1.map enI)])) (fun i=>i≤rows.length∧∀ k (_:k < i) (h:k < (srS rows ini i).1.length),G ((srS rows ini i).1[k])=false) (fun i=>rows.length+1 - i) 0 ⟨y50 _,fun k h=>by omega⟩ (by refine swR [0,1] [] rfl rfl ?_;(repeat' first|exact y83 _|exact z10 _|refine z11 rfl (z6 (fun _=>rfl)) ?_|constructor)<;>(fail)) ?_
    rintro i ⟨hi1,hno⟩
    have hJ:=z611 hr hi hn i
    have hQl:=z1098 hr hi hn i
    by_cases hi2:i < (srS rows ini i).1.length
    · have hx:=hJ.inn _ (y41 hi2)
      have cf:=hf _ hx.1 hx.2
      have gx:((srS rows ini i).1.map enI)[i]?=some (enI (srS rows ini i).1[i]):=by rw [y48,y42 hi2];rfl
      have hnx:srS rows ini (i+1)=visPs (srS rows ini i).1[i] (srS rows ini i) (rows.getD ((srS rows ini i).1[i]).toNat []):=by rw [srS,dif_pos hi2]
      have hfnd:=fun h=>z1115 hr hi hn (G:=G) hi2 h (fun k hk=>hno k hk (by omega))
      have hpre:=z510 (srS rows ini i).1[i] (rows.getD ((srS rows ini i).1[i]).toNat []) (srS rows ini i)
      by_cases hG:G (srS rows ini i).1[i]=true
      · rw [hfnd hG,z1252,y62]
        have hq0:∃ k,∃ h:k < (srS rows ini i).1.length,(srS rows ini i).1[k]=(srS rows ini i).1[i]∧k≤rows.length:=⟨i,hi2,rfl,hi1⟩
        rw [hG] at cf
        clear hfnd hnx hpre hno
        generalize hS:srS rows ini i=S at *
        obtain ⟨Q,P⟩:=S
        dsimp only at *
        have hi4:i < Q.length:=hi2
        generalize Q[i]=x at *
        repeat' ((first|apply y6 ok;rfl|refine z14 (i:=i) rfl gx ?_|apply y40;omega|apply z7<;>intro _|apply z8 cf;rfl;rfl)<;>conv=>whnf)
        all_goals try (exfalso;omega)
        all_goals
          refine y82 (y86 1 rfl) ?_
          have hB1:=chn_pos P rows.length x
          generalize hB:chn P rows.length x=B at *
          refine z69 (fun y:Nat×List Int×Int=>([(7,.sref 0 0 rows.length),(13,.int y.2.2),(14,.sref 1 0 y.2.1.length)],[.cells 1 ((frm rows.length Q P).map enI),.cells 1 (y.2.1.map enI)])) (fun y=>y.2.1.length+y.1≤rows.length+1∧((0≤y.2.2∧y.2.1++chn P (y.1 - 1) y.2.2=B∧1≤y.1∧∃ k,∃ h:k < Q.length,Q[k]=y.2.2∧k+1≤y.1)∨(y.2.2=-1∧y.2.1=B))) (fun y=>y.1+(if 0≤y.2.2 then 1 else 0)) (rows.length+1,[],x) ⟨by simp,.inl ⟨hx.1,by simpa using hB,by omega,by obtain ⟨k,h,h1,h2⟩:=hq0;exact ⟨k,h,h1,by omega⟩⟩⟩ (by refine swR [0,2] [] rfl rfl ?_;(repeat' first|exact y83 _|exact z56|exact z10 _|(refine z11 rfl ?_ ?_);(focus ((repeat' (first|exact z39|exact z6 (fun _=>rfl)));done))|constructor)) ?_
          rintro ⟨fu,ac,u⟩ ⟨q1,q2⟩
          dsimp only at q1 q2 ⊢
          rcases q2 with ⟨q2,q3,q4,k,hk,q5,q6⟩|⟨rfl,rfl⟩
          · have huN:=hJ.inn u (q5 ▸ y41 hk)
            obtain ⟨w,rfl⟩:∃ w:Nat,u=w:=⟨u.toNat,by omega⟩
            have hw:w < rows.length:=by omega
            have gw:=z897 Q P hw
            rw [if_pos (q5 ▸ y41 hk)] at gw
            have lw:=z896 rows.length Q P
            have hp:=hJ.pre k hk
            rw [q5,y74] at hp
            dsimp only at hp
            obtain ⟨fu,rfl⟩:∃ m,fu=m+1:=⟨fu - 1,by omega⟩
            rw [Nat.add_sub_cancel] at q3
            have hnext:P.getD w 0=-1∧ac++[(w:Int)]=B∨(0≤P.getD w 0∧(ac++[(w:Int)])++chn P (fu - 1) (P.getD w 0)=B∧1≤fu∧∃ k,∃ h:k < Q.length,Q[k]=P.getD w 0∧k+1≤fu):=by
              rcases hp with hp|⟨j,hj,hjk,hp⟩
              · left
                refine ⟨hp,?_⟩
                rw [← q3]
                cases fu with
                | zero=>rfl
                | succ fu =>
                  rw [chn,y74,if_neg (by omega)]
              · right
                have:=hJ.inn _ (y41 hj)
                refine ⟨by omega,?_,by omega,j,hj,hp.symm,by omega⟩
                obtain ⟨fu,rfl⟩:∃ m,fu=m+1:=⟨fu - 1,by omega⟩
                rw [chn,y74,if_pos (by omega)] at q3
                rw [← q3]
                simp
            have hvb : -1≤P.getD w 0∧P.getD w 0 < rows.length:=by
              rcases hnext with ⟨h,_⟩|⟨h,_,_,j,hj,hp2,_⟩
              · omega
              · have:=hJ.inn _ (y41 hj)
                omega
            clear hp
            generalize P.getD w 0=v at *
            repeat' ((first|apply y6 ok;rfl|refine z14 (i:=w) rfl gw ?_|(apply y40;first|omega|(try dsimp only);simp only [y46,y45,y44,y43,y55,y56];omega|exact ⟨rfl,z17 rfl z26⟩))<;>conv=>whnf)
            all_goals refine z29 (fu,ac++[(w:Int)],v) ⟨by simp only [y44,List.length_singleton];omega,?_⟩ ?_ (by refine swR [0,3] [] rfl rfl ?_;(repeat' first|exact y83 _|exact z10 _|refine z44 ?_;((simp;done))|(first|refine z33 rfl ?_ ?_|refine z11 rfl ?_ ?_);(focus ((repeat' (first|exact z6 (fun _=>rfl)|apply z25));done))|refine z77 ?_ ?_;(focus omega)|constructor))
            all_goals dsimp only
            all_goals first|(rcases hnext with ⟨h1,h2⟩|h1<;>first|exact .inr ⟨h1,h2⟩|exact .inl h1)|rw [if_pos (show (0:Int)≤w by omega)];split<;>omega
          · have cr:=z1007 ac (by omega) (by omega)
            have cc:=z566 (rvs ac) (by rw [z668];omega)
            have el:=z668 ac
            rw [← rvs_eq]
            generalize rvs ac=D at *
            rw [el] at cc ⊢
            repeat' ((first|apply y6 ok;rfl|(first|apply z175 [1] [] cr;rfl;(focus ((repeat' first|exact z62|apply z71)<;>(refine z89 rfl ?_;((exact z6 fun _=>rfl)))))|apply z175 [1] [] cc;rfl;(focus ((repeat' first|exact z62|apply z71)<;>(refine z89 rfl ?_;((exact z6 fun _=>rfl))))));rfl;(focus ((repeat' first|exact z23|apply z19)<;>(refine z30 ?_;((exact z6 fun _=>rfl))))))<;>conv=>whnf)
            all_goals (refine rsD [1] [] rfl ?_;(repeat' first|exact y83 _|exact z10 _|refine z11 rfl (z6 (fun _=>rfl)) ?_|constructor))
      · have hG:=(y69 _).mp hG
        rw [hG] at cf
        have hno2:∀ k (_:k < i+1) (h:k < (srS rows ini (i+1)).1.length),G ((srS rows ini (i+1)).1[k])=false:=by
          obtain ⟨t,ht⟩:=z847 (rows:=rows) (ini:=ini) (show i≤i+1 by omega)
          intro k hk h
          have hki:k < (srS rows ini i).1.length:=by omega
          have e:(srS rows ini (i+1)).1[k]=(srS rows ini i).1[k]:=by
            simp only [ht,List.getElem_append_left hki]
          rw [e]
          by_cases hk3:k < i
          · exact hno k hk3 hki
          · obtain rfl:k=i:=by omega
            exact hG
        have hile:i+1≤rows.length:=by omega
        have hJv:=fun l hl=>PJ.visPs (N:=rows.length) l hJ hi2 rfl hl
        clear hfnd hpre hno
        generalize hS' : srS rows ini (i+1)=S' at *
        generalize hS:srS rows ini i=S at *
        obtain ⟨Q,P⟩:=S
        dsimp only at *
        have hi4:i < Q.length:=hi2
        generalize hxx:Q[i]=x at *
        obtain ⟨u,rfl⟩:∃ u:Nat,x=u:=⟨x.toNat,by omega⟩
        rw [y74] at hnx
        have hu:u < rows.length:=by omega
        have gr:=z533 hu
        have hrow:=z301 hr (u:Int)
        rw [y74] at hrow
        have hrowl:(rows.getD u []).length≤1000000000:=by rw [z20 hu];exact hrl _ (y41 _)
        generalize rows.getD u []=row at *
        repeat' ((first|apply y6 ok;rfl|refine z14 (i:=i) rfl gx ?_|refine z14 (i:=u) rfl gr ?_|apply y40;omega|apply z7<;>intro _|apply z8 cf;rfl;rfl)<;>conv=>whnf)
        all_goals try (exfalso;omega)
        all_goals
          refine z69 (fun j:Nat=>([(0,lst 1 encL rows),(2,.fn (.func f) [] caps),(7,.sref 0 0 rows.length),(9,.sref 1 0 (visPs (u:Int) (Q,P) (row.take j)).1.length),(12,.int i),(76,ints row),(77,.int row.length),(78,.int j)],[.cells 1 ((frm rows.length (visPs (u:Int) (Q,P) (row.take j)).1 (visPs (u:Int) (Q,P) (row.take j)).2).map enI),.cells 1 ((visPs (u:Int) (Q,P) (row.take j)).1.map enI)])) (fun j=>j≤row.length) (fun j=>row.length - j) 0 (y50 _) (by refine swR [0,1] [] rfl rfl ?_;(repeat' first|exact y83 _|exact z10 _|refine z11 rfl (z6 (fun _=>rfl)) ?_|constructor)<;>(fail)) ?_
          intro j hj
          obtain ⟨hJj,hij,hxj⟩:=hJv (row.take j) (fun x hx=>hrow x (List.mem_of_mem_take hx))
          have hQjl:(visPs (u:Int) (Q,P) (row.take j)).1.length≤rows.length:=z199 _ _ hJj.nd hJj.inn
          have gxj:((visPs (u:Int) (Q,P) (row.take j)).1.map enI)[i]?=some (enI (u:Int)):=by
            rw [y48,y42 hij,hxj];rfl
          by_cases hj2:j < row.length
          · have gj:(row.map enI)[j]?=some (enI row[j]):=by rw [y48,y42 hj2];rfl
            have hv:=hrow _ (y41 hj2)
            have et:=z988 (u:=(u:Int)) (x:=(Q,P)) hj2
            have hge:=hJj.pre
            generalize hT' : visPs (u:Int) (Q,P) (row.take (j+1))=T' at *
            generalize hT:visPs (u:Int) (Q,P) (row.take j)=T at *
            generalize row[j]=v at *
            obtain ⟨w,rfl⟩:∃ w:Nat,v=w:=⟨v.toNat,by omega⟩
            have hw:w < rows.length:=by omega
            have gw:=z897 T.1 T.2 hw
            have lw:=z896 rows.length T.1 T.2
            have hTl:=hJj.len
            by_cases hm:(w:Int)∈T.1
            · rw [z647 hm] at et
              rw [if_pos hm] at gw
              have hwv : -1≤T.2.getD w 0:=by
                obtain ⟨k,hk,ek⟩:=List.mem_iff_getElem.1 hm
                have h1:=hge k hk
                rw [ek,y74] at h1
                rcases h1 with h1|⟨y,hy,_,h1⟩
                · omega
                · have:=hJj.inn _ (y41 hy);omega
              generalize T.2.getD w 0=pv at *
              repeat' ((first|apply y6 ok;rfl|refine z14 (i:=j) rfl gj ?_|refine z14 (i:=w) rfl gw ?_|(apply y40;first|omega|unfold inI;omega)|((apply z13;omega));intro _|apply z7<;>intro _)<;>conv=>whnf)
              all_goals try (exfalso;omega)
              all_goals refine z29 (j+1) hj2 (by omega) ?_
              all_goals dsimp only
              all_goals rw [hT',et]
              all_goals exact (by refine swR [0,1] [] rfl rfl ?_;(repeat' first|exact y83 _|exact z10 _|refine z11 rfl (z6 (fun _=>rfl)) ?_|constructor))
            · rw [z648 hm,y74] at et
              rw [if_neg hm] at gw
              have e1:=z962 (Q:=T.1) (u:=(u:Int)) hw hTl
              repeat' ((first|apply y6 ok;rfl|refine z14 (i:=j) rfl gj ?_|refine z14 (i:=w) rfl gw ?_|refine z14 (i:=i) rfl gxj ?_|(apply y40;first|omega|unfold inI;omega|(try dsimp only);simp only [y46,y45,y44,y43,y55,y56];omega|exact ⟨rfl,z17 rfl z26⟩)|apply z7<;>intro _)<;>conv=>whnf)
              all_goals try (exfalso;omega)
              all_goals refine z29 (j+1) hj2 (by omega) ?_
              all_goals dsimp only
              all_goals rw [hT',et]
              all_goals dsimp only
              all_goals exact (by refine swR [0,3] [] rfl rfl ?_;(repeat' first|exact y83 _|refine z44 ?_;((simp;done))|(first|refine z33 rfl ?_ ?_|refine z50 rfl ?_ ?_);(focus ((repeat' (first|exact z6 (fun _=>rfl)|apply z25));done))|refine z77 ?_ ?_;(focus omega)|constructor)<;>((refine z21 ?_;exact e1)))
          obtain rfl:j=row.length:=by omega
          rw [y53,← hnx] at *
          repeat' ((first|apply y6 ok;rfl|(apply y40;first|omega|unfold inI;omega)|(first|with_reducible apply z13;omega|apply z13;omega);intro _|apply z7<;>intro _)<;>conv=>whnf)
          all_goals try (exfalso;omega)
          all_goals refine z29 (i+1) ⟨hile,by rw [hS'];exact hno2⟩ (by omega) ?_
          all_goals dsimp only
          all_goals rw [hS']
          all_goals exact (by refine swR [0,1] [] rfl rfl ?_;(repeat' first|exact y83 _|exact z10 _|refine z11 rfl (z6 (fun _=>rfl)) ?_|constructor))
    · rw [shL_none (G:=G) (by omega) hi1 (fun k hk=>hno k (by omega) hk)]
      repeat' ((first|apply y6 ok;rfl|apply y40;omega|((apply z13;omega));intro _|apply z7<;>intro _)<;>conv=>whnf)
      all_goals try (exfalso;omega)
      all_goals (refine y87 1 ?_;refine rsD [2] [] rfl ?_;(repeat' first|exact z56|refine z11 rfl z39 ?_|constructor))
theorem z667 (rows : List (List Int)) (ini : List Int) (hr : ∀ r ∈ rows, InN rows.length r) (hi : InN rows.length ini) (hn : ini.Nodup) (hN : rows.length ≤ 100000) (hrl : ∀ r ∈ rows, r.length ≤ 1000000000) (G : Int → Bool) (f : FuncId) (c1 : List AC) (hf : ∀ x : Int, 0 ≤ x → x < rows.length → QQ f (.int x :: [.pt c1]) [] (.bool (G x)) []) :
    QQ 111 [lst 1 encL rows,ints ini,.fn (.func f) [] [.pt c1]] [] (.sref 0 0 (shL rows ini G).length) [.cells 1 ((shL rows ini G).map enI)]:=z392 false rows ini hr hi hn hN hrl G f c1 [] hf
theorem z666 (rows : List (List Int)) (ini : List Int) (hr : ∀ r ∈ rows, InN rows.length r) (hi : InN rows.length ini) (hn : ini.Nodup) (hN : rows.length ≤ 100000) (hrl : ∀ r ∈ rows, r.length ≤ 1000000000) (G : Int → Bool) (f : FuncId) (c1 c2 : List AC) (hf : ∀ x : Int, 0 ≤ x → x < rows.length → QQ f (.int x :: [.pt c1, .pt c2]) [] (.bool (G x)) []) :
    QQ 111 [lst 1 encL rows,ints ini,.fn (.func f) [] [.pt c1,.pt c2]] [] (.sref 0 0 (shL rows ini G).length) [.cells 1 ((shL rows ini G).map enI)]:=z392 true rows ini hr hi hn hN hrl G f c1 c2 hf
end Go.Proofs.YteinbnahinpegaaGreat
