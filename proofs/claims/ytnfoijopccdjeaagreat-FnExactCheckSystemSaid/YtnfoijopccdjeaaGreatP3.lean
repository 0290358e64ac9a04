/- A part of the proofs over this program: T285, T94W, T180, T181, T182, T183, T113, T184, T220, T93, T94. -/
import Derived.Test.YtnfoijopccdjeaaGreatG0
import Derived.Test.YtnfoijopccdjeaaGreatG1
import Derived.Test.YtnfoijopccdjeaaGreatG2
import Derived.Test.YtnfoijopccdjeaaGreatG3
import Derived.Test.YtnfoijopccdjeaaGreatP0
import Derived.Test.YtnfoijopccdjeaaGreatP1
import Derived.Test.YtnfoijopccdjeaaGreatP2
set_option linter.all false
namespace Go.Proofs.YtnfoijopccdjeaaGreat
open Go.Gl
attribute [local irreducible] z16 AWP z29 z32 z30 RetS z36
theorem z1050 (l:List State) (hl:l.length≤1048576):CallsA Tryz.prog 111 [.sref 0 0 l.length] [.cells 2 (l.map State.cs)] (.sref 0 0 l.length) [.cells 2 (l.map State.cs)]:=by
 refine z6 z9 Tryz.func111 rfl rfl 9 Tryz.ntmps111 (by simp) ?_
 repeat' ((first|(apply y4 ok;rfl)|(apply y50;omega))<;>conv=>whnf)
 all_goals (refine rsD [0] [] rfl ?_;(repeat' first|exact y93 _|exact z11 _|refine z10 rfl (z4 (fun _=>rfl)) ?_|constructor))
theorem z1051 (l:List (List Int)) (hl:l.length≤1048576):CallsA Tryz.prog 112 [.sref 0 0 l.length] [.cells 1 (l.map encL)] (.sref 0 0 l.length) [.cells 1 (l.map encL)]:=by
 refine z6 z9 Tryz.func112 rfl rfl 9 Tryz.ntmps112 (by simp) ?_
 repeat' ((first|(apply y4 ok;rfl)|(apply y50;omega))<;>conv=>whnf)
 all_goals (refine rsD [0] [] rfl ?_;(repeat' first|exact y93 _|exact z11 _|refine z10 rfl (z4 (fun _=>rfl)) ?_|constructor))
set_option maxHeartbeats 12800000 in
theorem z794 (s:Sys) (hsB:sysB s=true):CallsA Tryz.prog 43 [.agg s.cs] [] (.tup [.agg ((z137 s).getD ⟨[],[]⟩).cs,.bool (z137 s).isSome]) []:=by
 have hs:=y15 hsB
 have hn3:=hs.n3
 have c0:=z596 s hs
 have eb:z137 s=grow s 61 [⟨List.replicate s.ps.length 0,s.init⟩] [] 0:=by unfold z137;rw [if_pos hsB]
 have hI0:GInv s [⟨List.replicate s.ps.length 0,s.init⟩] [] 0:=⟨by simp,by simp,by simp,rfl,fun t ht=>by
  rw [List.mem_singleton.1 ht]
  exact ⟨by simp,hs.init⟩,by simp⟩
 rw [eb]
 generalize (⟨List.replicate s.ps.length 0,s.init⟩:State)=st1 at *
 generalize hR:grow s 61 [st1] [] 0=R at *
 refine z6 z9 Tryz.func43 rfl rfl 90 Tryz.ntmps43 (by simp) ?_
 repeat' ((first|(apply y4 ok;rfl)|(apply z0 (c0);rfl;rfl))<;>conv=>whnf)
 refine y92 (y95 1 rfl) ?_
 refine z77 (fun x:Nat×List State×List (List Int)=>([(1,.ptr 0 none 0),(2,.ptr 1 none 0),(4,.ptr 2 none 0),(5,.int x.1)],[.cells 2 [s.cs],.cells 2 [[.nils,.nils]],.cells 2 [[.sref 3 0 x.2.1.length,.sref 4 0 x.2.2.length]],.cells 2 (x.2.1.map State.cs),.cells 1 (x.2.2.map encL)])) (fun x=>GInv s x.2.1 x.2.2 x.1∧grow s (61 - x.1) x.2.1 x.2.2 x.1=R) (fun x=>61 - x.1) (0,[st1],[]) ⟨hI0,hR⟩ (by refine swR [0,1,3,2,4] [] rfl rfl ?_;(repeat' first|exact y93 _|exact z57|apply y94|refine z10 rfl (z33) ?_|constructor)) ?_
 rintro ⟨i,S,G⟩ ⟨hI,hg⟩
 simp only at hI hg
 have hS60:=hI.n
 have hGi:=hI.g
 have hile:=hI.le
 by_cases hil:i < S.length
 ·obtain ⟨st0,hst⟩:∃ st0,S[i]?=some st0:=⟨S[i],y52 hil⟩
  have h0:=hI.st st0 (List.mem_of_getElem? hst)
  rw [show 61 - i=(60 - i)+1 by omega,grow,hst] at hg
  dsimp only at hg
  have cS:=z1044 s hs st0 h0
  have hLl:=z510 hs (st:=st0)
  have hLo:∀ x∈z145 s st0,x.ok s:=fun x hx=>z663 x hx
  have gS:(S.map State.cs)[i]?=some (State.cs st0):=by rw [y58,hst];rfl
  rw [z953 _ _ _ hS60] at hg
  generalize z145 s st0=LST at *
  have hIok:=innI_ok hs h0 LST hLo S [] hI.st
  have hImo:=z790 (s:=s) (st0:=st0) LST S []
  have hInil:LST=[]→(innI s st0 LST S []).2=[]:=fun e=>by subst e;rfl
  have hIpre:(innI s st0 LST S []).1.length≤60→(innI s st0 LST S []).2.length≤LST.length:=fun hq=>by
   have e:=z953 (s:=s) (st0:=st0) LST S [] hS60
   rw [if_pos hq] at e
   have:=(inn_inv hs h0 LST hLo S [] _ _ hS60 hI.st e).2.2.2.1
   simpa using this
  generalize hRI:innI s st0 LST S []=RI at *
  repeat' ((first|(apply y4 ok;rfl)|(apply z17;kernel_rfl)|(refine z13 (i:=i) rfl gS ?_)|(apply y50;omega)|((apply z5)<;>intro _)|(apply z0 (cS);rfl;rfl))<;>conv=>whnf)
  all_goals first|(exfalso;dsimp only at *;omega)|skip
  refine y92 (y95 1 rfl) ?_
  refine z77 (fun x:Nat×List State×List Int=>([(1,.ptr 0 none 0),(2,.ptr 1 none 0),(4,.ptr 2 none 0),(5,.int i),(6,.sref 5 0 x.2.2.length),(28,lst 4 Stp.cs LST),(29,.int LST.length),(30,.int x.1)],[.cells 2 [s.cs],.cells 2 [[.nils,.nils]],.cells 2 [[.sref 3 0 x.2.1.length,.sref 4 0 G.length]],.cells 2 (x.2.1.map State.cs),.cells 1 (G.map encL),.cells 1 (x.2.2.map enI)])) (fun x=>x.1≤LST.length∧x.2.1.length≤60+x.1∧(∀ t∈x.2.1,t.ok s)∧x.2.1[i]?=some st0∧x.2.2.length≤x.1∧innI s st0 (LST.drop x.1) x.2.1 x.2.2=RI) (fun x=>LST.length - x.1) (0,S,[]) ⟨by simp,by simpa using hS60,hI.st,hst,by simp,hRI⟩ (by refine swR [0,1,2,3,4,5] [] rfl rfl ?_;(repeat' first|exact y93 _|exact z57|exact z11 _|apply y94|((refine z10 rfl ?_ ?_);(focus ((repeat' (first|exact z33|exact z4 (fun _=>rfl)));done)))|constructor)) ?_
  rintro ⟨k,S',N⟩ ⟨hk,hS',hSo,hSi,hN,hin⟩
  simp only at hk hS' hSo hSi hN hin
  by_cases hkl:k < LST.length
  ·rw [y86 hkl,innI] at hin
   have hx:=hLo LST[k] (y51 _)
   have g1:(LST.map Stp.cs)[k]?=some (Stp.cs LST[k]):=by rw [y58,y52 hkl];rfl
   have c83:=z795 s hs st0 h0 LST[k] hx
   have hto:=z310 hs h0 hx
   have g0:(S'.map State.cs)[i]?=some (State.cs st0):=by rw [y58,hSi];rfl
   have hiS:i < S'.length:=(List.getElem?_eq_some_iff.1 hSi).1
   generalize z76 s st0 LST[k]=to at *
   have c84:=z696 to S' (by unfold maxLen;omega) (fun x=>decide (x=to)) 108 (fun x hx=>z1209 to x ((hSo x hx).sm hs) (hto.sm hs))
   rw [z1038] at c84
   have hfr:=z355 to S' 0 (by omega)
   generalize z113 to S' 0=n at *
   generalize LST[k]=x at *
   have cN:=fun v=>z141 N (by unfold maxLen;omega) v
   by_cases hn:n < 0
   ·rw [if_pos hn] at hin
    have cM:=cN S'.length
    by_cases hm:(S'.length:Int)∈N
    ·rw [if_pos hm] at hin
     rw [y89 hm] at cM
     repeat' ((first|(apply y4 ok;rfl)|(apply z17;kernel_rfl)|(refine z13 (i:=i) rfl g0 ?_)|(refine z13 (i:=k) rfl g1 ?_)|(apply y50;first|omega|(unfold inI;omega)|(dsimp only;omega)|((try dsimp only);simp only [y56,y55,y54,y53,y64,y65];omega)|exact ⟨rfl,z38 rfl z45⟩)|((apply z5)<;>intro _)|(apply z0 (c83);rfl;rfl)|((first|(apply z83 [] [3,7] [] c84;(focus (exact z23 (z226 rfl rfl rfl) (z23 rfl z48)));rfl)|(apply z83 [] [5] [] cM;(focus ((repeat' first|exact z48|apply z23)<;>first|exact z91 rfl rfl rfl|rfl));rfl));rfl;(focus ((repeat' exact z12)<;>fail));((refine .inr ⟨rfl,?_⟩;repeat' exact True.intro))))<;>conv=>whnf)
     all_goals try (exfalso;omega)
     all_goals refine z34 (k+1,S'++[to],N) ⟨by omega,by simp;omega,fun t ht=>by rcases List.mem_append.1 ht with h|h;exact hSo t h;rw [List.mem_singleton.1 h];exact hto,by rw [← hSi];exact y72 hiS,by show N.length≤k+1;omega,hin⟩ (by show LST.length - (k+1) < LST.length - k;omega) (by refine swR [0,1,2,9,4,5] [] rfl rfl ?_;(repeat' first|exact y93 _|exact z11 _|(refine z43 ?_;((simp;done)))|apply y94|((first|refine z51 rfl ?_ ?_|refine z10 rfl ?_ ?_);(focus ((repeat' (first|exact z4 (fun _=>rfl)|apply z40));done)))|(refine z73 ?_ ?_;(focus (omega)))|constructor))
    ·rw [if_neg hm] at hin
     rw [y90 hm] at cM
     repeat' ((first|(apply y4 ok;rfl)|(apply z17;kernel_rfl)|(refine z13 (i:=i) rfl g0 ?_)|(refine z13 (i:=k) rfl g1 ?_)|(apply y50;first|omega|(unfold inI;omega)|(dsimp only;omega)|((try dsimp only);simp only [y56,y55,y54,y53,y64,y65];omega)|exact ⟨rfl,z38 rfl z45⟩)|((apply z5)<;>intro _)|(apply z0 (c83);rfl;rfl)|((first|(apply z83 [] [3,7] [] c84;(focus (exact z23 (z226 rfl rfl rfl) (z23 rfl z48)));rfl)|(apply z83 [] [5] [] cM;(focus ((repeat' first|exact z48|apply z23)<;>first|exact z91 rfl rfl rfl|rfl));rfl));rfl;(focus ((repeat' exact z12)<;>fail));((refine .inr ⟨rfl,?_⟩;repeat' exact True.intro))))<;>conv=>whnf)
     all_goals try (exfalso;omega)
     all_goals refine z34 (k+1,S'++[to],N++[(S'.length:Int)]) ⟨by omega,by simp;omega,fun t ht=>by rcases List.mem_append.1 ht with h|h;exact hSo t h;rw [List.mem_singleton.1 h];exact hto,by rw [← hSi];exact y72 hiS,by simp;omega,hin⟩ (by show LST.length - (k+1) < LST.length - k;omega) (by refine swR [0,1,2,9,4,11] [] rfl rfl ?_;(repeat' first|exact y93 _|exact z11 _|(refine z43 ?_;((simp;done)))|apply y94|((first|refine z51 rfl ?_ ?_|refine z10 rfl ?_ ?_);(focus ((repeat' (first|exact z4 (fun _=>rfl)|apply z40));done)))|(refine z73 ?_ ?_;(focus (omega)))|constructor))
   ·rw [if_neg hn] at hin
    have cM:=cN n
    by_cases hm:n∈N
    ·rw [if_pos hm] at hin
     rw [y89 hm] at cM
     repeat' ((first|(apply y4 ok;rfl)|(apply z17;kernel_rfl)|(refine z13 (i:=i) rfl g0 ?_)|(refine z13 (i:=k) rfl g1 ?_)|(apply y50;first|omega|(unfold inI;omega)|(dsimp only;omega))|((apply z5)<;>intro _)|(apply z0 (c83);rfl;rfl)|((first|(apply z83 [] [3,7] [] c84;(focus (exact z23 (z226 rfl rfl rfl) (z23 rfl z48)));rfl)|(apply z83 [] [5] [] cM;(focus ((repeat' first|exact z48|apply z23)<;>first|exact z91 rfl rfl rfl|rfl));rfl));rfl;(focus ((repeat' exact z12)<;>fail));((refine .inr ⟨rfl,?_⟩;repeat' exact True.intro))))<;>conv=>whnf)
     all_goals try (exfalso;omega)
     all_goals refine z34 (k+1,S',N) ⟨by omega,by show S'.length≤60+(k+1);omega,hSo,hSi,by show N.length≤k+1;omega,hin⟩ (by show LST.length - (k+1) < LST.length - k;omega) (by refine swR [0,1,2,3,4,5] [] rfl rfl ?_;(repeat' first|exact y93 _|exact z11 _|apply y94|refine z10 rfl (z4 (fun _=>rfl)) ?_|constructor))
    ·rw [if_neg hm] at hin
     rw [y90 hm] at cM
     repeat' ((first|(apply y4 ok;rfl)|(apply z17;kernel_rfl)|(refine z13 (i:=i) rfl g0 ?_)|(refine z13 (i:=k) rfl g1 ?_)|(apply y50;first|omega|(unfold inI;omega)|(dsimp only;omega)|((try dsimp only);simp only [y56,y55,y54,y53,y64,y65];omega)|exact ⟨rfl,z38 rfl z45⟩)|((apply z5)<;>intro _)|(apply z0 (c83);rfl;rfl)|((first|(apply z83 [] [3,7] [] c84;(focus (exact z23 (z226 rfl rfl rfl) (z23 rfl z48)));rfl)|(apply z83 [] [5] [] cM;(focus ((repeat' first|exact z48|apply z23)<;>first|exact z91 rfl rfl rfl|rfl));rfl));rfl;(focus ((repeat' exact z12)<;>fail));((refine .inr ⟨rfl,?_⟩;repeat' exact True.intro))))<;>conv=>whnf)
     all_goals try (exfalso;omega)
     all_goals refine z34 (k+1,S',N++[n]) ⟨by omega,by show S'.length≤60+(k+1);omega,hSo,hSi,by simp;omega,hin⟩ (by show LST.length - (k+1) < LST.length - k;omega) (by refine swR [0,1,2,3,4,9] [] rfl rfl ?_;(repeat' first|exact y93 _|exact z11 _|(refine z43 ?_;((simp;done)))|apply y94|((first|refine z51 rfl ?_ ?_|refine z10 rfl ?_ ?_);(focus ((repeat' (first|exact z4 (fun _=>rfl)|apply z40));done)))|(refine z73 ?_ ?_;(focus (omega)))|constructor))
  ·rw [y91 (by omega),innI] at hin
   subst hin
   dsimp only at hg hIok hImo hInil hIpre
   have hiS:i < S'.length:=(List.getElem?_eq_some_iff.1 hSi).1
   rw [show 60 - i=61 - (i+1) by omega] at hg
   have hnext:S'.length≤60→GInv s S' (G++[z199 LST N i]) (i+1):=fun h60=>⟨by omega,h60,by omega,by simp [hGi],hSo,fun r hr=>by
    rcases List.mem_append.1 hr with h|h
    ·exact hI.row r h
    ·rw [List.mem_singleton.1 h]
     unfold z199
     have:=hIpre h60
     split<;>(try simp)<;>omega⟩
   by_cases hz:LST=[]
   ·have hN0:=hInil hz
    subst hN0
    have er:z199 LST [] i=[(i:Int)]:=by unfold z199;rw [if_pos hz];rfl
    have hz0:LST.length=0:=by rw [hz];rfl
    have cc:=z265 [(i:Int)] (by simp)
    rw [er] at hnext
    by_cases h60:S'.length≤60
    ·rw [if_pos h60] at hg
     dsimp only at hg
     rw [er] at hg
     repeat' ((first|(apply y4 ok;rfl)|(apply z17;kernel_rfl)|(apply y50;first|omega|(unfold inI;omega)|((try dsimp only);simp only [y56,y55,y54,y53,y64,y65];omega)|exact ⟨rfl,z38 rfl z45⟩)|((first|(with_reducible apply z8;omega)|(apply z8;omega));intro _)|((apply z5)<;>intro _)|(apply z266 [6] [] cc;rfl;rfl;rfl))<;>conv=>whnf)
     all_goals first|(exfalso;omega)|(exfalso;dsimp only at *;omega)|skip
     all_goals refine z34 (i+1,S',G++[[(i:Int)]]) ⟨hnext h60,hg⟩ (by show 61 - (i+1) < 61 - i;omega) (by refine swR [0,1,2,3,8] [6] rfl rfl ?_;(repeat' first|exact y93 _|exact z11 _|(refine z43 ?_;((simp;done)))|apply y94|((first|refine z51 rfl ?_ ?_|refine z10 rfl ?_ ?_);(focus ((repeat' (first|exact z4 (fun _=>rfl)|apply z40));done)))|(refine z73 ?_ ?_;(focus (omega)))|constructor))
    ·rw [if_neg h60] at hg
     dsimp only at hg
     subst hg
     repeat' ((first|(apply y4 ok;rfl)|(apply z17;kernel_rfl)|(apply y50;omega)|((first|(with_reducible apply z8;omega)|(apply z8;omega));intro _)|((apply z5)<;>intro _)|(apply z266 [6] [] cc;rfl;rfl;rfl))<;>conv=>whnf)
     all_goals (exfalso;omega)
     all_goals refine y14 [] [] rfl rfl rfl ?_
     all_goals exact y13 z359 .nil
   ·have er:z199 LST N i=N:=by unfold z199;rw [if_neg hz]
    have hN1:=hImo.2.2.2 hz
    have cc:=z265 N (by omega)
    rw [er] at hnext
    by_cases h60:S'.length≤60
    ·rw [if_pos h60] at hg
     dsimp only at hg
     rw [er] at hg
     repeat' ((first|(apply y4 ok;rfl)|(apply z17;kernel_rfl)|(apply y50;first|omega|(unfold inI;omega)|((try dsimp only);simp only [y56,y55,y54,y53,y64,y65];omega)|exact ⟨rfl,z38 rfl z45⟩)|((first|(with_reducible apply z8;omega)|(apply z8;omega));intro _)|((apply z5)<;>intro _)|(apply z95 [5] [] cc;rfl;(focus ((repeat' first|exact z14|apply z27)<;>(refine z41 rfl ?_;((exact z4 fun _=>rfl)))));rfl;(focus ((repeat' first|exact z12|apply z15)<;>(refine z22 ?_;((exact z4 fun _=>rfl)))))))<;>conv=>whnf)
     all_goals first|(exfalso;omega)|(exfalso;dsimp only at *;omega)|skip
     all_goals refine z34 (i+1,S',G++[N]) ⟨hnext h60,hg⟩ (by show 61 - (i+1) < 61 - i;omega) (by refine swR [0,1,2,3,7] [5] rfl rfl ?_;(repeat' first|exact y93 _|exact z11 _|(refine z43 ?_;((simp;done)))|apply y94|((first|refine z51 rfl ?_ ?_|refine z10 rfl ?_ ?_);(focus ((repeat' (first|exact z4 (fun _=>rfl)|apply z40));done)))|(refine z73 ?_ ?_;(focus (omega)))|((apply z285 rfl rfl rfl);(focus ((repeat ((exact z53 (fun _=>rfl) _)));done));(focus (((simp;done));done)))|constructor))
    ·rw [if_neg h60] at hg
     dsimp only at hg
     subst hg
     repeat' ((first|(apply y4 ok;rfl)|(apply z17;kernel_rfl)|(apply y50;first|omega|(unfold inI;omega)|((try dsimp only);simp only [y56,y55,y54,y53,y64,y65];omega)|exact ⟨rfl,z38 rfl z45⟩)|((first|(with_reducible apply z8;omega)|(apply z8;omega));intro _)|((apply z5)<;>intro _)|(apply z95 [5] [] cc;rfl;(focus ((repeat' first|exact z14|apply z27)<;>(refine z41 rfl ?_;((exact z4 fun _=>rfl)))));rfl;(focus ((repeat' first|exact z12|apply z15)<;>(refine z22 ?_;((exact z4 fun _=>rfl)))))))<;>conv=>whnf)
     all_goals first|(exfalso;omega)|(exfalso;dsimp only at *;omega)|skip
     all_goals refine y14 [] [] rfl rfl rfl ?_
     all_goals exact y13 z359 .nil
 ·have hn:S[i]?=none:=List.getElem?_eq_none_iff.2 (by omega)
  rw [show 61 - i=(60 - i)+1 by omega,grow,hn] at hg
  dsimp only at hg
  subst hg
  have cc1:=z1050 S (by omega)
  have cc2:=z1051 G (by omega)
  repeat' ((first|(apply y4 ok;rfl)|(apply z17;kernel_rfl)|(apply y50;omega)|(((apply z8;omega));intro _)|((apply z5)<;>intro _)|((first|(apply z95 [3] [] cc1;rfl;(focus ((repeat' first|exact z14|apply z27)<;>(refine z41 rfl ?_;((exact z4 fun _=>rfl))))))|(apply z95 [4] [] cc2;rfl;(focus ((repeat' first|exact z14|apply z27)<;>(refine z41 rfl ?_;((exact z4 fun _=>rfl)))))));rfl;(focus ((repeat' first|exact z12|apply z15)<;>(refine z22 ?_;((exact z4 fun _=>rfl)))))))<;>conv=>whnf)
  all_goals first|(exfalso;contradiction)|skip
  all_goals (refine rsD [] [3,4] rfl ?_;(repeat' first|exact y93 _|((apply z66 rfl rfl rfl);(focus ((repeat ((exact z53 (fun _=>rfl) _)));done));(focus (((simp;done));done)))|apply z64|apply z72|constructor))
end Go.Proofs.YtnfoijopccdjeaaGreat
namespace Go.Proofs.YtnfoijopccdjeaaGreat
open Go.Gl
attribute [local irreducible] z16
end Go.Proofs.YtnfoijopccdjeaaGreat
namespace Go.Proofs.YtnfoijopccdjeaaGreat
open Go.Gl
attribute [local irreducible] z16 AWP z29 z32 z30 RetS z36
def fnL (N:Nat) (f:Nat→Int):List Int:=(List.range N).map f
theorem z138 (N:Nat) (f:Nat→Int):(fnL N f).length=N:=by simp [fnL]
theorem z186 {N u:Nat} (f:Nat→Int) (h:u < N):((fnL N f).map enI)[u]?=some (enI (f u)):=by
 unfold fnL
 rw [y58,y58,List.getElem?_range h];rfl
theorem fnL_set {N u:Nat} (f:Nat→Int) (x:Int):(fnL N f).set u x=fnL N (upd f u x):=by
 apply y81 (by simp [fnL])
 intro i h1 h2
 rw [List.getElem_set]
 simp only [fnL,List.getElem_map,List.getElem_range]
 split
 ·rename_i e;subst e;rw [z31]
 ·rename_i e;rw [z47 _ _ (fun h=>e h.symm)]
theorem z174 {N u:Nat} (f:Nat→Int) (x:Int):((fnL N f).map enI).set u (enI x)=(fnL N (upd f u x)).map enI:=by rw [← fnL_set,List.map_set]
def natL (l:List Nat):List Int:=l.map fun x:Nat=>(x:Int)
theorem z479 (l:List Nat):(natL l).length=l.length:=by simp [natL]
theorem natL_at {l:List Nat} {i:Nat} (h:i < l.length):((natL l).map enI)[i]?=some (enI (l[i]:Nat)):=by
 unfold natL
 rw [y58,y58,y52 h];rfl
theorem z619 {rows:List (List Int)} {u:Nat} (h:u < rows.length):(rows.map encL)[u]?=some (encL (rows.getD u [])):=by
 rw [y58,y52 h,z18 h];rfl
@[reducible] def visF:AC:=.fn (.func 274) [] [.ptr 0 none 0,.ptr 1 none 0,.ptr 3 none 0,.ptr 5 none 0,.ptr 6 none 0,.ptr 7 none 0,.ptr 8 none 0,.ptr 10 none 0]
@[reducible] def z1140 (rows:List (List Int)) (s:TS):List AObj:=[.cells 1 [[.int s.cnt]],.cells 1 [[.sref 2 0 rows.length]],.cells 1 ((fnL rows.length s.num).map enI),.cells 1 [[.sref 4 0 rows.length]],.cells 1 ((fnL rows.length s.low).map enI),.cells 1 [[.own 1 ((natL s.stk).map enI)]],.cells 1 [[lst 1 encL rows]],.cells 1 [[visF]],.cells 1 [[.sref 9 0 rows.length]],.cells 1 ((fnL rows.length s.part).map enI),.cells 1 [[.int s.prt]]]
set_option maxHeartbeats 12800000 in
theorem z978 (rows : List (List Int)) (hr : ∀ r ∈ rows, InN rows.length r) (hN : rows.length ≤ 100000) (hrl : ∀ r ∈ rows, r.length ≤ 1000000000) : ∀ (f : Nat) (s : TS) (g : List Nat) (u : Nat), unvN rows.length s.num ≤ f → TI rows s g → s.num u = 0 → u < rows.length → (∀ x ∈ g, RN rows x u) → s.prt ≤ s.cnt →
  CallsA Tryz.prog 274 [.int (u:Int),.ptr 0 none 0,.ptr 1 none 0,.ptr 3 none 0,.ptr 5 none 0,.ptr 6 none 0,.ptr 7 none 0,.ptr 8 none 0,.ptr 10 none 0] (z1140 rows s) (.tup []) (z1140 rows (z229 rows f u s)):=by
 intro f
 induction f with
 |zero =>
  intro s g u hf _ h0 hu _ _
  have:=z1087 (num:=s.num) hu h0
  omega
 |succ f ih =>
  intro s g u hf hI h0 hu hg hsp
  have hTL:=z1231 hr hf hI h0 hu hg
  have hc0:s.cnt≤100000:=by have:=hI.ct;omega
  have gr:=z619 hu
  have hrow:=z233 hr (u:Int)
  rw [y83] at hrow
  have hrowl:(rows.getD u []).length≤1000000000:=by rw [z18 hu];exact hrl _ (y51 _)
  have hte:z229 rows (f+1) u s=tEnd u ((rows.getD u []).foldl (z368 (z229 rows f) u) (z198 u s)):=rfl
  generalize hR:z229 rows (f+1) u s=R at *
  generalize hrw:rows.getD u []=row at *
  have e1:=z174 (N:=rows.length) (u:=u) s.num (s.cnt+1)
  have e2:=z174 (N:=rows.length) (u:=u) s.low (s.cnt+1)
  have g1:=z186 s.num hu
  have g2:=z186 s.low hu
  have l1:=z138 rows.length s.num
  have l2:=z138 rows.length s.low
  have hsl:s.stk.length≤100000:=by
   have:=z185 rows.length (natL s.stk) ?_ ?_
   ·rw [z479] at this;omega
   ·exact (hI.nd).map _ fun a b h=>by omega
   ·intro x hx
    obtain ⟨y,hy,rfl⟩:=List.mem_map.1 hx
    have:=hI.lt y ((hI.stk y).1 hy).1
    omega
  refine z6 z9 Tryz.func274 rfl rfl 105 Tryz.ntmps274 (by simp) ?_
  repeat' ((first|((fail_if_success apply z65 2);(fail_if_success apply z50 2);apply y4 ok;rfl)|(apply z17;kernel_rfl)|(refine z13 (i:=u) rfl g1 ?_)|(refine z13 (i:=u) rfl g2 ?_)|(apply y50;first|omega|(unfold inI;omega)))<;>conv=>whnf)
  refine y92 (Gl.Reach.expose 5 0 0 rfl rfl rfl (z155 (fun _=>rfl) _) rfl) ?_
  conv=>whnf
  repeat' ((first|((fail_if_success apply z65 3);(fail_if_success apply z50 3);apply y4 ok;rfl)|(refine y50 ?_ ?_;(focus (dsimp only;simp only [y56,z479];omega)))|(refine z13 (i:=u) rfl gr ?_)|(apply y50;first|omega|exact ⟨rfl,z38 rfl z45⟩))<;>conv=>whnf)
  refine y92 (Gl.Reach.absorb 5 13 0 0 rfl rfl rfl rfl (by simp) rfl (z52 (fun e he=>(z4 (fun _=>rfl)) e (List.mem_of_mem_take he)) (z206 rfl z33)) rfl) ?_
  conv=>whnf
  have e3:((natL s.stk).map enI).take ((natL s.stk).map enI).length++[enI (u:Int)]=(natL (s.stk++[u])).map enI:=by
   rw [y62];unfold natL;simp
  obtain ⟨T,hT⟩:∃ T:Nat→TS,T=fun k=>(row.take k).foldl (z368 (z229 rows f) u) (z198 u s):=⟨_,rfl⟩
  have hT0:T 0=z198 u s:=by rw [hT];rfl
  have hTs:∀ k (hk:k < row.length),T (k+1)=z368 (z229 rows f) u (T k) row[k]:=fun k hk=>by
   rw [hT]
   show (row.take (k+1)).foldl _ _=_
   rw [y57 hk,y69];rfl
  have hTn:R=tEnd u (T row.length):=by
   rw [hT,hte]
   show _=tEnd u ((row.take row.length).foldl _ _)
   rw [y62]
  have hTT:∀ k,k≤row.length→TL rows s (T k) g u (row.take k):=fun k hk=>by rw [hT];exact hTL k hk
  clear hT hTL hte hR
  have f1:(T 0).num=upd s.num u (s.cnt+1):=by rw [hT0];rfl
  have f2:(T 0).low=upd s.low u (s.cnt+1):=by rw [hT0];rfl
  have f3:(T 0).stk=s.stk++[u]:=by rw [hT0];rfl
  have f4:(T 0).cnt=s.cnt+1:=by rw [hT0];rfl
  have f5:(T 0).part=s.part:=by rw [hT0];rfl
  have f6:(T 0).prt=s.prt:=by rw [hT0];rfl
  refine z77 (fun k:Nat=>([(0,.int (u:Int)),(1,.ptr 0 none 0),(2,.ptr 1 none 0),(3,.ptr 3 none 0),(4,.ptr 5 none 0),(5,.ptr 6 none 0),(6,.ptr 7 none 0),(7,.ptr 8 none 0),(8,.ptr 10 none 0),(30,ints row),(31,.int row.length),(32,.int k)],[.cells 1 [[.int (T k).cnt]],.cells 1 [[.sref 2 0 rows.length]],.cells 1 ((fnL rows.length (T k).num).map enI),.cells 1 [[.sref 4 0 rows.length]],.cells 1 ((fnL rows.length (T k).low).map enI),.cells 1 [[.own 1 ((natL (T k).stk).map enI)]],.cells 1 [[lst 1 encL rows]],.cells 1 [[visF]],.cells 1 [[.sref 9 0 rows.length]],.cells 1 ((fnL rows.length (T k).part).map enI),.cells 1 [[.int (T k).prt]]])) (fun k=>k≤row.length) (fun k=>row.length - k) 0 (y60 _) (by refine swR [0,1,2,3,4,5,6,7,8,9,10] [] rfl rfl ?_;(repeat' first|exact y93 _|(refine z453 ?_;omega)|apply y94|refine z82 rfl (z4 (fun _=>rfl)) ?_|refine z10 rfl (z4 (fun _=>rfl)) ?_|constructor)<;>(first|(refine z55 ?_;rw [f1];exact e1)|(refine z55 ?_;rw [f2];exact e2)|(rw [f5];exact z11 _)|(rw [f3];refine y9 ?_;rw [← e3];rfl))) ?_
  clear f1 f2 f3 f4 f5 f6 hT0 e1 e2 e3 g1 g2 l1 l2
  intro k hk
  have hL:=hTT k hk
  have hLI:=hL.inv
  have hL2:=hL.num
  have gu1:=z186 (T k).num hu
  have gu2:=z186 (T k).low hu
  have l1:=z138 rows.length (T k).num
  have l2:=z138 rows.length (T k).low
  have l3:=z138 rows.length (T k).part
  by_cases hk2:k < row.length
  ·have hs2:=hTs k hk2
   have gk:(row.map enI)[k]?=some (enI row[k]):=by rw [y58,y52 hk2];rfl
   have hv:=hrow _ (y51 hk2)
   have hvm:row[k]∈rows.getD u []:=by rw [hrw];exact y51 hk2
   generalize row[k]=v at *
   obtain ⟨w,rfl⟩:∃ w:Nat,v=w:=⟨v.toNat,by omega⟩
   have hw:w < rows.length:=by omega
   have gw1:=z186 (T k).num hw
   have gw3:=z186 (T k).part hw
   unfold z368 at hs2
   simp only [y83] at hs2
   have hnx:k+1≤row.length:=hk2
   generalize hS:T k=S at *
   generalize hS2:T (k+1)=S2 at *
   by_cases hw0:S.num w=0
   ·rw [if_pos hw0] at hs2
    have cW:=ih S (u::g) w (by have h1:=hL.cnt;have h2:=hLI.ct;have h3:=hI.ct;omega) hLI hw0 hw (fun x hx=>by
     rcases List.mem_cons.1 hx with rfl|hx
     ·exact .edge hvm
     ·exact (hg x hx).trans (.edge hvm)) (by have:=hL.prt;omega)
    generalize z229 rows f w S=S1 at *
    have hu1:=z186 S1.low hu
    have hw1:=z186 S1.low hw
    have l4:=z138 rows.length S1.low
    have e1:=z174 (N:=rows.length) (u:=u) S1.low (min (S1.low u) (S1.low w))
    have q1:S2.low=upd S1.low u (min (S1.low u) (S1.low w)):=by rw [hs2];rfl
    have q2:S2.num=S1.num:=by rw [hs2];rfl
    have q3:S2.part=S1.part:=by rw [hs2];rfl
    have q4:S2.stk=S1.stk:=by rw [hs2];rfl
    have q5:S2.cnt=S1.cnt:=by rw [hs2];rfl
    have q6:S2.prt=S1.prt:=by rw [hs2];rfl
    repeat' ((first|((fail_if_success apply z65 8);(fail_if_success apply z50 8);apply y4 ok;rfl)|(apply z17;kernel_rfl)|(refine z13 (i:=k) rfl gk ?_)|(refine z13 (i:=w) rfl gw1 ?_)|(apply y50;omega)|(((apply z8;omega));intro _)|((apply z5)<;>intro _)|(apply z95 [0,1,2,3,4,5,6,7,8,9,10] [] cW;rfl;(focus ((repeat' first|exact z14|apply z27)<;>first|rfl|(refine z41 rfl ?_;((exact z4 fun _=>rfl)))));rfl;(focus ((repeat' first|exact z12|apply z15)<;>first|exact z117 rfl rfl|(refine z22 ?_;((exact z4 fun _=>rfl)))))))<;>conv=>whnf)
    all_goals try (exfalso;omega)
    repeat' ((first|(apply y4 ok;rfl)|(apply z17;kernel_rfl)|(refine z13 (i:=u) rfl hu1 ?_)|(refine z13 (i:=w) rfl hw1 ?_)|(apply y50;first|omega|(unfold inI;omega)))<;>conv=>whnf)
    all_goals refine z34 (k+1) hk2 (by omega) ?_
    all_goals dsimp only
    all_goals rw [hS2,q2,q3,q4,q5,q6,q1]
    all_goals exact (by refine swR [0,1,2,3,4,5,6,7,8,9,10] [] rfl rfl ?_;(repeat' first|exact y93 _|exact z11 _|apply y94|refine z82 rfl (z4 (fun _=>rfl)) ?_|refine z10 rfl (z4 (fun _=>rfl)) ?_|constructor)<;>((refine z55 ?_;exact e1)))
   ·rw [if_neg hw0] at hs2
    by_cases hp0:S.part w < 0
    ·rw [if_pos hp0] at hs2
     have e1:=z174 (N:=rows.length) (u:=u) S.low (min (S.low u) (S.num w))
     have q1:S2.low=upd S.low u (min (S.low u) (S.num w)):=by rw [hs2];rfl
     have q2:S2.num=S.num:=by rw [hs2];rfl
     have q3:S2.part=S.part:=by rw [hs2];rfl
     have q4:S2.stk=S.stk:=by rw [hs2];rfl
     have q5:S2.cnt=S.cnt:=by rw [hs2];rfl
     have q6:S2.prt=S.prt:=by rw [hs2];rfl
     repeat' ((first|(apply y4 ok;rfl)|(apply z17;kernel_rfl)|(refine z13 (i:=k) rfl gk ?_)|(refine z13 (i:=w) rfl gw1 ?_)|(refine z13 (i:=w) rfl gw3 ?_)|(refine z13 (i:=u) rfl gu2 ?_)|(apply y50;first|omega|(unfold inI;omega))|(((apply z8;omega));intro _)|((apply z5)<;>intro _))<;>conv=>whnf)
     all_goals try (exfalso;omega)
     all_goals refine z34 (k+1) hk2 (by omega) ?_
     all_goals dsimp only
     all_goals rw [hS2,q2,q3,q4,q5,q6,q1]
     all_goals exact (by refine swR [0,1,2,3,4,5,6,7,8,9,10] [] rfl rfl ?_;(repeat' first|exact y93 _|exact z11 _|apply y94|refine z82 rfl (z4 (fun _=>rfl)) ?_|refine z10 rfl (z4 (fun _=>rfl)) ?_|constructor)<;>((refine z55 ?_;exact e1)))
    ·rw [if_neg hp0] at hs2
     repeat' ((first|(apply y4 ok;rfl)|(apply z17;kernel_rfl)|(refine z13 (i:=k) rfl gk ?_)|(refine z13 (i:=w) rfl gw1 ?_)|(refine z13 (i:=w) rfl gw3 ?_)|(apply y50;first|omega|(unfold inI;omega))|(((apply z8;omega));intro _)|((apply z5)<;>intro _))<;>conv=>whnf)
     all_goals try (exfalso;omega)
     all_goals refine z34 (k+1) hk2 (by omega) ?_
     all_goals dsimp only
     all_goals rw [hS2,hs2]
     all_goals exact (by refine swR [0,1,2,3,4,5,6,7,8,9,10] [] rfl rfl ?_;(repeat' first|exact y93 _|exact z11 _|apply y94|refine z10 rfl (z4 (fun _=>rfl)) ?_|constructor))
  ·obtain rfl:k=row.length:=by omega
   have hpf:=hL.pref
   have hsu:u ∉ s.stk:=fun hm=>((hI.stk u).1 hm).1 h0
   have hnd:=hLI.nd
   have hpp:(T row.length).prt≤100001:=by have h1:=hL.prt;have h2:=hLI.ct;have h3:=hI.ct;have h4:=hL.cnt;omega
   generalize hS:T row.length=S at *
   unfold tEnd at hTn
   by_cases he:S.low u=S.num u
   ·rw [if_pos he] at hTn
    obtain ⟨B,hB⟩:=hpf
    have hcut:=z937 (A:=s.stk) (B:=B) hsu
    have hLl:S.stk.length=s.stk.length+1+B.length:=by rw [hB];simp;omega
    have hLs:S.stk.length≤100000:=by
     have:=z185 rows.length (natL S.stk) ?_ ?_
     ·rw [z479] at this;omega
     ·exact hnd.map _ fun a b h=>by omega
     ·intro x hx
      obtain ⟨y,hy,rfl⟩:=List.mem_map.1 hx
      have:=hLI.lt y ((hLI.stk y).1 hy).1
      omega
    have r1:R.stk=S.stk.take s.stk.length:=by
     rw [hTn];show S.stk.takeWhile _=_
     rw [hB,hcut.1];simp
    have r2:R.part=fun x=>if x∈S.stk.drop s.stk.length then (S.prt:Int) else S.part x:=by
     rw [hTn];show (fun x=>if x∈S.stk.dropWhile _ then _ else _)=_
     rw [hB,hcut.2];simp
    have r3:R.num=S.num:=by rw [hTn];rfl
    have r4:R.low=S.low:=by rw [hTn];rfl
    have r5:R.cnt=S.cnt:=by rw [hTn];rfl
    have r6:R.prt=S.prt+1:=by rw [hTn];rfl
    have hat:∀ j (hj:j < S.stk.length),(S.stk[j]=u↔j=s.stk.length):=by
     intro j hj
     have hu2:S.stk[s.stk.length]'(by omega)=u:=by simp [hB]
     constructor
     ·intro e
      have hne:=List.pairwise_iff_getElem.1 (List.nodup_iff_pairwise_ne.1 hnd)
      rcases Nat.lt_trichotomy j s.stk.length with h|h|h
      ·exact absurd (e.trans hu2.symm) (hne j s.stk.length hj (by omega) h)
      ·exact h
      ·exact absurd (hu2.trans e.symm) (hne s.stk.length j (by omega) hj h)
     ·rintro rfl;exact hu2
    have hlt:∀ j (hj:j < S.stk.length),S.stk[j] < rows.length:=fun j hj=>hLI.lt _ ((hLI.stk _).1 (y51 hj)).1
    have sl:=z479 S.stk
    repeat' ((first|((fail_if_success apply z65 14);(fail_if_success apply z50 14);apply y4 ok;rfl)|(apply z17;kernel_rfl)|(refine z13 (i:=u) rfl gu1 ?_)|(refine z13 (i:=u) rfl gu2 ?_)|(apply y50;omega)|((first|(with_reducible apply z8;omega)|(apply z8;omega));intro _)|((apply z5)<;>intro _))<;>conv=>whnf)
    all_goals try (exfalso;omega)
    refine y92 (Gl.Reach.expose 5 0 0 rfl rfl rfl (z155 (fun _=>rfl) _) rfl) ?_
    obtain ⟨pm,hpm⟩:∃ pm:Nat→Nat→Int,pm=fun m x=>if x∈S.stk.drop m then (S.prt:Int) else S.part x:=⟨_,rfl⟩
    have hpm0:pm S.stk.length=S.part:=by rw [hpm];funext x;simp
    have hpmE:pm s.stk.length=R.part:=by rw [hpm,r2]
    have hpmS:∀ m (hm:m < S.stk.length),pm m=upd (pm (m+1)) S.stk[m] S.prt:=by
     intro m hm
     funext x
     by_cases hx:x=S.stk[m]
     ·rw [hx,z31,hpm]
      dsimp only
      rw [if_pos]
      rw [y86 hm]
      exact List.mem_cons_self
     ·rw [z47 _ _ hx,hpm]
      dsimp only
      rw [y86 hm]
      simp only [List.mem_cons,hx,false_or]
    clear hpm
    refine z77 (fun m:Nat=>([(0,.int (u:Int)),(1,.ptr 0 none 0),(2,.ptr 1 none 0),(3,.ptr 3 none 0),(4,.ptr 5 none 0),(5,.ptr 6 none 0),(6,.ptr 7 none 0),(7,.ptr 8 none 0),(8,.ptr 10 none 0),(12,.int ((natL S.stk).getD m (-1)))],[.cells 1 [[.int S.cnt]],.cells 1 [[.sref 2 0 rows.length]],.cells 1 ((fnL rows.length S.num).map enI),.cells 1 [[.sref 4 0 rows.length]],.cells 1 ((fnL rows.length S.low).map enI),.cells 1 [[.sref 11 0 m]],.cells 1 [[lst 1 encL rows]],.cells 1 [[visF]],.cells 1 [[.sref 9 0 rows.length]],.cells 1 ((fnL rows.length (pm m)).map enI),.cells 1 [[.int S.prt]],.cells 1 ((natL S.stk).map enI)])) (fun m=>s.stk.length≤m∧m≤S.stk.length) (fun m=>m) S.stk.length ⟨by omega,y59 _⟩ (by refine swR [0,1,2,3,4,5,6,7,8,9,10,11] [] rfl rfl ?_;(repeat' first|exact y93 _|exact z11 _|(refine z43 ?_;((simp;omega)))|apply y94|refine z10 rfl (z4 (fun _=>rfl)) ?_|constructor)<;>(first|(rw [hpm0];exact z11 _)|(refine z453 ?_;simp [natL]))) ?_
    rintro m ⟨hm1,hm2⟩
    by_cases hm:m=s.stk.length
    ·subst hm
     have htop:(natL S.stk).getD s.stk.length (-1)=(u:Int):=by
      rw [z18 (by rw [sl];omega)]
      unfold natL
      rw [List.getElem_map,(hat _ (by omega)).2 rfl]
     rw [htop]
     repeat' ((first|((fail_if_success apply z65 18);(fail_if_success apply z50 18);apply y4 ok;rfl)|(apply y50;omega)|(((apply z8;omega));intro _)|((apply z28)<;>intro _))<;>conv=>whnf)
     all_goals try (exfalso;omega)
     refine y92 (Gl.Reach.trunc 11 s.stk.length rfl rfl) ?_
     refine y92 (Gl.Reach.absorb 5 11 0 0 rfl rfl rfl rfl (by simp [natL];omega) rfl (fun e he=>(z4 (fun _=>rfl)) e (List.mem_of_mem_take he)) rfl) ?_
     conv=>whnf
     repeat' ((first|(apply y4 ok;rfl)|(apply y50;(unfold inI;omega)))<;>conv=>whnf)
     have eR:z1140 rows R=[.cells 1 [[.int S.cnt]],.cells 1 [[.sref 2 0 rows.length]],.cells 1 ((fnL rows.length S.num).map enI),.cells 1 [[.sref 4 0 rows.length]],.cells 1 ((fnL rows.length S.low).map enI),.cells 1 [[.own 1 (((natL S.stk).map enI).take s.stk.length)]],.cells 1 [[lst 1 encL rows]],.cells 1 [[visF]],.cells 1 [[.sref 9 0 rows.length]],.cells 1 ((fnL rows.length (pm s.stk.length)).map enI),.cells 1 [[.int ((S.prt+1:Nat):Int)]]]:=by
      unfold z1140
      rw [r1,r3,r4,r5,r6,hpmE]
      simp [natL,List.map_take]
     rw [eR]
     (refine rsD [0,1,2,3,4,5,6,7,8,9,10] [] rfl ?_;(repeat' first|exact y93 _|exact z11 _|apply y94|refine z10 rfl (z4 (fun _=>rfl)) ?_|constructor))
    ·obtain ⟨m,rfl⟩:∃ m',m=m'+1:=⟨m - 1,by omega⟩
     have hmL:m < S.stk.length:=by omega
     have htop:(natL S.stk).getD (m+1) (-1)≠(u:Int):=by
      by_cases h:m+1 < S.stk.length
      ·rw [z18 (by rw [sl];exact h)]
       unfold natL
       rw [List.getElem_map]
       have:=(hat (m+1) h)
       omega
      ·rw [y74,y75 (by rw [sl];omega)]
       show (-1:Int)≠u
       omega
     have hnx:(natL S.stk).getD m (-1)=((S.stk[m]:Nat):Int):=by
      rw [z18 (by rw [sl];exact hmL)]
      unfold natL
      rw [List.getElem_map]
     have gst:=natL_at hmL
     have hwN:=hlt m hmL
     have hps:=hpmS m hmL
     generalize S.stk[m]=w at *
     have gw:=z186 (pm (m+1)) hwN
     have e1:=z174 (N:=rows.length) (u:=w) (pm (m+1)) S.prt
     rw [← hps] at e1
     generalize (natL S.stk).getD (m+1) (-1)=tp at *
     repeat' ((first|(apply y4 ok;rfl)|(refine z13 (i:=m) ?_ gst ?_;(focus (omega)))|(refine z13 (i:=w) rfl gw ?_)|(apply y50;first|omega|(unfold inI;omega))|((apply z28)<;>intro _))<;>conv=>whnf)
     all_goals try (exfalso;omega)
     all_goals refine z34 m ⟨by omega,by omega⟩ (by omega) ?_
     all_goals dsimp only
     all_goals rw [hnx]
     all_goals exact (by refine swR [0,1,2,3,4,5,6,7,8,9,10,11] [] rfl rfl ?_;(repeat' first|exact y93 _|exact z11 _|(refine z43 ?_;(omega))|apply y94|refine z82 rfl (z4 (fun _=>rfl)) ?_|refine z10 rfl (z4 (fun _=>rfl)) ?_|constructor)<;>((refine z55 ?_;exact e1)))
   ·rw [if_neg he] at hTn
    subst hTn
    repeat' ((first|(apply y4 ok;rfl)|(apply z17;kernel_rfl)|(refine z13 (i:=u) rfl gu1 ?_)|(refine z13 (i:=u) rfl gu2 ?_)|(apply y50;omega)|((first|(with_reducible apply z8;omega)|(apply z8;omega));intro _)|((apply z5)<;>intro _))<;>conv=>whnf)
    all_goals try (exfalso;omega)
    all_goals (refine rsD [0,1,2,3,4,5,6,7,8,9,10] [] rfl ?_;(repeat' first|exact y93 _|exact z11 _|apply y94|refine z10 rfl (z4 (fun _=>rfl)) ?_|constructor))
theorem z398 (N:Nat):List.replicate N [AC.int 0]=(fnL N fun _=>0).map enI:=by
 apply y81 (by simp [fnL])
 intro i h1 h2
 simp [fnL,enI]
theorem z798 {N:Nat} {f g:Nat→Int} (h:∀ i,i < N→f i=g i):fnL N f=fnL N g:=List.map_congr_left fun i hi=>h i (List.mem_range.1 hi)
theorem z893 {N i:Nat} (f:Nat→Int) (h:i < (fnL N f).length):(fnL N f)[i]=f i:=by simp [fnL]
set_option maxHeartbeats 12800000 in
theorem z605 (rows:List (List Int)) (hr:∀ r∈rows,InN rows.length r) (hN:rows.length≤100000) (hrl:∀ r∈rows,r.length≤1000000000):CallsA Tryz.prog 246 [lst 1 encL rows] [] (.sref 0 0 rows.length) [.cells 1 ((cmpL rows).map enI)]:=by
 refine z6 z9 Tryz.func246 rfl rfl 77 Tryz.ntmps246 (by simp) ?_
 repeat' ((first|(apply y4 ok;rfl)|(apply z17;kernel_rfl)|(apply y50;(dsimp only;omega)))<;>conv=>whnf)
 obtain ⟨qm,hqm⟩:∃ qm:Nat→Nat→Int,qm=fun i j=>if j < i then -1 else 0:=⟨_,rfl⟩
 have q0:qm 0=fun _=>0:=by rw [hqm];rfl
 have qE:fnL rows.length (qm rows.length)=fnL rows.length fun _=>-1:=z798 fun i hi=>by rw [hqm];dsimp only;rw [if_pos hi]
 have qS:∀ i,qm (i+1)=upd (qm i) i (-1):=fun i=>by
  funext j
  by_cases h:j=i
  ·subst h;rw [z31,hqm];dsimp only;rw [if_pos (by omega)]
  ·rw [z47 _ _ h,hqm];dsimp only;split<;>split<;>first|rfl|omega
 clear hqm
 refine z77 (fun i:Nat=>([(1,.ptr 0 none 0),(3,.int rows.length),(4,.ptr 4 none 0),(5,.ptr 5 none 0),(6,.ptr 6 none 0),(27,.int rows.length),(28,.int i)],[.cells 1 [[lst 1 encL rows]],.cells 1 ((fnL rows.length fun _=>0).map enI),.cells 1 ((fnL rows.length fun _=>0).map enI),.cells 1 ((fnL rows.length (qm i)).map enI),.cells 1 [[.sref 1 0 rows.length]],.cells 1 [[.sref 2 0 rows.length]],.cells 1 [[.sref 3 0 rows.length]]])) (fun i=>i≤rows.length) (fun i=>rows.length - i) 0 (y60 _) (by refine swR [0,1,2,3,4,5,6] [] rfl rfl ?_;(repeat' first|exact y93 _|apply y94|refine z10 rfl (z19 rfl) ?_|constructor)<;>(first|(refine z55 ?_;exact z398 _)|(refine z55 ?_;rw [q0];exact z398 _))) ?_
 intro i hi
 by_cases hi2:i < rows.length
 ·have g1:=z186 (qm i) hi2
  have l1:=z138 rows.length (qm i)
  have e1:=z174 (N:=rows.length) (u:=i) (qm i) (-1)
  rw [← qS] at e1
  repeat' ((first|(apply y4 ok;rfl)|(refine z13 (i:=i) rfl g1 ?_)|(apply y50;first|omega|(unfold inI;omega))|((apply z5)<;>intro _))<;>conv=>whnf)
  all_goals try (exfalso;omega)
  all_goals refine z34 (i+1) hi2 (by omega) (by refine swR [0,1,2,3,4,5,6] [] rfl rfl ?_;(repeat' first|exact y93 _|exact z11 _|apply y94|refine z82 rfl (z4 (fun _=>rfl)) ?_|refine z10 rfl (z4 (fun _=>rfl)) ?_|constructor)<;>((refine z55 ?_;exact e1)))
 obtain rfl:i=rows.length:=by omega
 rw [qE]
 clear qE qS q0
 repeat' ((first|(apply y4 ok;rfl)|(apply y50;omega)|(((apply z8;omega));intro _)|((apply z5)<;>intro _))<;>conv=>whnf)
 all_goals try (exfalso;omega)
 obtain ⟨S,hS⟩:∃ S:Nat→TS,S=fun k=>(List.range k).foldl (tTop rows) z367:=⟨_,rfl⟩
 have hTT:∀ k,k≤rows.length→TT rows (S k) k:=fun k hk=>by rw [hS];exact z660 hr k hk
 have hS0:S 0=z367:=by rw [hS];rfl
 have hSs:∀ k,S (k+1)=tTop rows (S k) k:=fun k=>by
  rw [hS];show (List.range (k+1)).foldl _ _=_
  rw [y68,y69];rfl
 have hSE:S rows.length=tAll rows:=by rw [hS];rfl
 clear hS
 refine z77 (fun k:Nat=>([(1,.ptr 6 none 0),(4,.ptr 1 none 0),(6,.ptr 8 none 0),(11,.ptr 7 none 0),(36,.int rows.length),(37,.int k)],z1140 rows (S k))) (fun k=>k≤rows.length) (fun k=>rows.length - k) 0 (y60 _) (by refine swR [8,4,1,5,2,7,0,10,6,3,9] [] rfl rfl ?_;(repeat' first|exact y93 _|apply y94|refine z10 rfl (z4 (fun _=>rfl)) ?_|constructor)<;>(first|(rw [hS0];exact y93 _)|(rw [hS0];exact z11 _)|(rw [hS0];exact z385))) ?_
 intro k hk
 have hT:=hTT k hk
 have hTn:∀ h:k < rows.length,TT rows (S (k+1)) (k+1):=fun h=>hTT (k+1) h
 by_cases hk2:k < rows.length
 ·have hs2:=hSs k
  generalize hS1:S k=s1 at *
  generalize hS2:S (k+1)=s2 at *
  have g1:=z186 s1.num hk2
  have l1:=z138 rows.length s1.num
  unfold tTop at hs2
  by_cases h0:s1.num k=0
  ·rw [if_pos h0] at hs2
   have cV:=z978 rows hr hN hrl rows.length s1 [] k (by have:=hT.inv.ct;omega) hT.inv h0 hk2 (by simp) hT.prt
   rw [← hs2] at cV
   repeat' ((first|(apply y4 ok;rfl)|(refine z13 (i:=k) rfl g1 ?_)|(apply y50;first|omega|(unfold inI;omega))|((apply z5)<;>intro _)|(apply z95 [0,1,2,3,4,5,6,7,8,9,10] [] cV;rfl;(focus ((repeat' first|exact z14|apply z27)<;>first|rfl|(refine z41 rfl ?_;((exact z4 fun _=>rfl)))));rfl;(focus ((repeat' first|exact z12|apply z15)<;>first|exact z117 rfl rfl|(refine z22 ?_;((exact z4 fun _=>rfl)))))))<;>conv=>whnf)
   all_goals try (exfalso;omega)
   all_goals refine z34 (k+1) hk2 (by omega) ?_
   all_goals dsimp only
   all_goals rw [hS2]
   all_goals exact (by refine swR [0,1,2,3,4,5,6,7,8,9,10] [] rfl rfl ?_;(repeat' first|exact y93 _|exact z11 _|apply y94|refine z10 rfl (z4 (fun _=>rfl)) ?_|constructor))
  ·rw [if_neg h0] at hs2
   repeat' ((first|(apply y4 ok;rfl)|(refine z13 (i:=k) rfl g1 ?_)|(apply y50;first|omega|(unfold inI;omega))|((apply z5)<;>intro _))<;>conv=>whnf)
   all_goals try (exfalso;omega)
   all_goals refine z34 (k+1) hk2 (by omega) ?_
   all_goals dsimp only
   all_goals rw [hS2,hs2]
   all_goals exact (by refine swR [0,1,2,3,4,5,6,7,8,9,10] [] rfl rfl ?_;(repeat' first|exact y93 _|exact z11 _|apply y94|refine z10 rfl (z4 (fun _=>rfl)) ?_|constructor))
 obtain rfl:k=rows.length:=by omega
 rw [hSE]
 clear hTT hS0 hSs hSE hTn hT
 have hcmp:cmpL rows=(List.range rows.length).map fun i=>nmI (fnL rows.length (tAll rows).part) i:=rfl
 obtain ⟨P,hP⟩:∃ P,P=fnL rows.length (tAll rows).part:=⟨_,rfl⟩
 rw [← hP] at hcmp
 have hPl:P.length=rows.length:=by rw [hP,z138]
 generalize tAll rows=s0 at *
 obtain ⟨pm,hpm⟩:∃ pm:Nat→Nat→Int,pm=fun i j=>if j < i then nmI P j else s0.part j:=⟨_,rfl⟩
 have q0:pm 0=s0.part:=by rw [hpm];funext j;simp
 have qE:fnL rows.length (pm rows.length)=cmpL rows:=by
  rw [hcmp]
  exact z798 fun i hi=>by rw [hpm];dsimp only;rw [if_pos hi]
 have qA:∀ i (h:i < rows.length),pm i i=P[i]'(by omega):=fun i h=>by
  rw [hpm];dsimp only;rw [if_neg (by omega)]
  simp only [hP,z893]
 have qS:∀ i,pm (i+1)=upd (pm i) i (nmI P i):=fun i=>by
  funext j
  by_cases h:j=i
  ·subst h;rw [z31,hpm];dsimp only;rw [if_pos (by omega)]
  ·rw [z47 _ _ h,hpm];dsimp only;split<;>split<;>first|rfl|omega
 clear hpm hcmp
 repeat' ((first|(apply y4 ok;rfl)|(apply y50;omega)|(((apply z8;omega));intro _)|((apply z5)<;>intro _))<;>conv=>whnf)
 all_goals try (exfalso;omega)
 refine z77 (fun i:Nat=>([(6,.ptr 1 none 0),(13,.mref 0),(50,.sref 2 0 rows.length),(51,.int rows.length),(52,.int i)],[.mp 0 (z242 0 (metL P i)),.cells 1 [[.sref 2 0 rows.length]],.cells 1 ((fnL rows.length (pm i)).map enI)])) (fun i=>i≤rows.length) (fun i=>rows.length - i) 0 (y60 _) (by refine swR [11,8,9] [] rfl rfl ?_;(repeat' first|exact y93 _|apply y94|refine z10 rfl (z4 (fun _=>rfl)) ?_|constructor)<;>(first|(rw [q0];exact z11 _)|rfl)) ?_
 intro i hi
 by_cases hi2:i < rows.length
 ·have g1:=z186 (pm i) hi2
  have l1:=z138 rows.length (pm i)
  have e1:=z174 (N:=rows.length) (u:=i) (pm i) (nmI P i)
  rw [← qS] at e1
  rw [qA i hi2] at g1
  have hiP:i < P.length:=by omega
  have m1:=z537 P[i] 0 (metL P i)
  have m2:=z537 P[i] 0 (metL P (i+1))
  rw [if_pos (z683 hiP),Nat.zero_add,← nmI_at hiP] at m2
  have m3:=z388 hiP
  have m4:=z564 0 (metL P i)
  by_cases hp:P[i]∈metL P i
  ·rw [if_pos hp] at m1
   have m5:metL P (i+1)=metL P i:=by rw [m3];unfold z197;rw [if_pos hp]
   rw [m5] at m2
   generalize hes:z242 0 (metL P i)=es at *
   generalize hes2:z242 0 (metL P (i+1))=es2 at *
   have m6:es2=es:=by rw [← hes2,m5,hes]
   generalize nmI P i=nm at *
   generalize P[i]=p at *
   repeat' ((first|(apply y4 ok;rfl)|(refine z13 (i:=i) rfl g1 ?_)|(rw [m2])|(apply y50;first|omega|(unfold inI;omega))|((apply z5)<;>intro _))<;>conv=>whnf)
   all_goals try (exfalso;omega)
   all_goals refine z34 (i+1) hi2 (by omega) ?_
   all_goals dsimp only
   all_goals rw [hes2,m6]
   all_goals exact (by refine swR [0,1,2] [] rfl rfl ?_;(repeat' first|exact y93 _|apply y94|refine z82 rfl (z4 (fun _=>rfl)) ?_|constructor)<;>(first|(refine z55 ?_;exact e1)|rfl))
  ·rw [if_neg hp] at m1
   have m5:metL P (i+1)=metL P i++[P[i]]:=by rw [m3];unfold z197;rw [if_neg hp]
   have m6:mput (z242 0 (metL P i)) [P[i]] (z242 0 (metL P i)).length=z242 0 (metL P (i+1)):=by
    rw [z769 _ _ _ hp,m5,z807,z564,Nat.zero_add]
   generalize hes:z242 0 (metL P i)=es at *
   generalize hes2:z242 0 (metL P (i+1))=es2 at *
   generalize nmI P i=nm at *
   generalize P[i]=p at *
   repeat' ((first|(apply y4 ok;rfl)|(refine z13 (i:=i) rfl g1 ?_)|(rw [m6])|(rw [m2])|(rw [m1])|(apply y50;first|omega|(unfold inI;omega))|((apply z5)<;>intro _))<;>conv=>whnf)
   all_goals try (exfalso;omega)
   all_goals refine z34 (i+1) hi2 (by omega) ?_
   all_goals dsimp only
   all_goals rw [hes2]
   all_goals exact (by refine swR [0,1,2] [] rfl rfl ?_;(repeat' first|exact y93 _|apply y94|refine z82 rfl (z4 (fun _=>rfl)) ?_|constructor)<;>(first|(refine z55 ?_;exact e1)|rfl))
 obtain rfl:i=rows.length:=by omega
 rw [qE]
 repeat' ((first|(apply y4 ok;rfl)|(apply y50;omega)|(((apply z8;omega));intro _)|((first|apply z5|apply z96)<;>intro _))<;>conv=>whnf)
 all_goals try (exfalso;omega)
 all_goals (refine rsD [2] [] rfl ?_;(repeat' first|exact y93 _|exact z11 _|refine z10 rfl (z4 (fun _=>rfl)) ?_|constructor))
def fnB (N:Nat) (f:Nat→Bool):List Bool:=(List.range N).map f
theorem z1184 (N:Nat) (f:Nat→Bool):(fnB N f).length=N:=by simp [fnB]
theorem z1185 {N u:Nat} (f:Nat→Bool) (h:u < N):((fnB N f).map enB)[u]?=some (enB (f u)):=by
 unfold fnB
 rw [y58,y58,List.getElem?_range h];rfl
theorem z961 {N u:Nat} (f:Nat→Bool) (x:Bool):((fnB N f).map enB).set u (enB x)=(fnB N (upd f u x)).map enB:=by
 rw [← List.map_set]
 congr 1
 apply y81 (by simp [fnB])
 intro i h1 h2
 rw [List.getElem_set]
 simp only [fnB,List.getElem_map,List.getElem_range]
 split
 ·rename_i e;subst e;rw [z31]
 ·rename_i e;rw [z47 _ _ (fun h=>e h.symm)]
theorem z960 (N:Nat):List.replicate N [AC.bool false]=(fnB N fun _=>false).map enB:=by
 apply y81 (by simp [fnB])
 intro i h1 h2
 simp [fnB,enB]
set_option maxHeartbeats 12800000 in
theorem z1047 (rows:List (List Int)) (hr:∀ r∈rows,InN rows.length r) (hN:rows.length≤100000) (hrl:∀ r∈rows,r.length≤1000000000):CallsA Tryz.prog 196 [lst 1 encL rows] [] (.sref 0 0 rows.length) [.cells 1 ((cycB rows).map enB)]:=by
 have cC:=z605 rows hr hN hrl
 have hPl:=z408 rows
 have hPi:=z1202 (rows:=rows)
 have hcy:=fun x hx=>cyc_cnt hr (x:=x) hx
 have hcl:=fun x (hx:x < rows.length)=>z906 hx
 have ccB:cycB rows=fnB rows.length (cycD rows):=rfl
 rw [ccB]
 generalize cmpL rows=P at *
 refine z6 z9 Tryz.func196 rfl rfl 56 Tryz.ntmps196 (by simp) ?_
 repeat' ((first|(apply y4 ok;rfl)|(apply y50;(dsimp only;omega))|(apply z54 [] [0] cC;rfl;rfl;rfl;(focus ((repeat' first|exact z12|apply z15)<;>(refine z22 ?_;((exact z4 fun _=>rfl)))))))<;>conv=>whnf)
 obtain ⟨cm,hcm⟩:∃ cm:Nat→Nat→Int,cm=fun i v=>((cntL P i v:Nat):Int):=⟨_,rfl⟩
 have c0:cm 0=fun _=>0:=by rw [hcm];funext v;simp [cntL]
 have cS:∀ i (h:i < P.length),cm (i+1)=upd (cm i) (P[i]).toNat (cm i (P[i]).toNat+1):=fun i h=>by
  have hp:=hPi _ (y51 h)
  funext v
  rw [hcm]
  dsimp only
  rw [z815 h]
  by_cases e:v=(P[i]).toNat
  ·rw [e,z31,if_pos (by omega)];omega
  ·rw [z47 _ _ e,if_neg (by omega)];omega
 have cE:∀ v,cm rows.length v=((cntL P rows.length v:Nat):Int):=fun v=>by rw [hcm]
 have cB:∀ i v,0≤cm i v∧cm i v≤i:=fun i v=>by rw [hcm];have:=cntL_le P i v;dsimp only;omega
 clear hcm
 refine z77 (fun i:Nat=>([(0,lst 1 encL rows),(3,.sref 0 0 rows.length),(4,.sref 1 0 rows.length),(14,.sref 0 0 rows.length),(15,.int rows.length),(16,.int i)],[.cells 1 (P.map enI),.cells 1 ((fnL rows.length (cm i)).map enI)])) (fun i=>i≤rows.length) (fun i=>rows.length - i) 0 (y60 _) (by refine swR [0,1] [] rfl rfl ?_;(repeat' first|exact y93 _|exact z11 _|((refine z10 rfl ?_ ?_);(focus ((repeat' (first|exact z19 rfl|exact z4 (fun _=>rfl)));done)))|constructor)<;>((refine z55 ?_;rw [c0];exact z398 _))) ?_
 intro i hi
 by_cases hi2:i < rows.length
 ·have hiP:i < P.length:=by omega
  have hp:=hPi _ (y51 hiP)
  have gp:(P.map enI)[i]?=some (enI P[i]):=by rw [y58,y52 hiP];rfl
  have cS2:=cS i hiP
  generalize P[i]=p at *
  obtain ⟨v,rfl⟩:∃ v:Nat,p=v:=⟨p.toNat,by omega⟩
  rw [y83] at cS2
  have hv:v < rows.length:=by omega
  have gv:=z186 (cm i) hv
  have l1:=z138 rows.length (cm i)
  have e1:=z174 (N:=rows.length) (u:=v) (cm i) (cm i v+1)
  rw [← cS2] at e1
  have b1:=cB i v
  repeat' ((first|(apply y4 ok;rfl)|(refine z13 (i:=i) rfl gp ?_)|(refine z13 (i:=v) rfl gv ?_)|(apply y50;first|omega|(unfold inI;omega))|((apply z5)<;>intro _))<;>conv=>whnf)
  all_goals try (exfalso;omega)
  all_goals refine z34 (i+1) hi2 (by omega) (by refine swR [0,1] [] rfl rfl ?_;(repeat' first|exact y93 _|exact z11 _|refine z82 rfl (z4 (fun _=>rfl)) ?_|refine z10 rfl (z4 (fun _=>rfl)) ?_|constructor)<;>((refine z55 ?_;exact e1)))
 obtain rfl:i=rows.length:=by omega
 repeat' ((first|(apply y4 ok;rfl)|(apply y50;first|omega|(dsimp only;omega))|(((apply z8;omega));intro _)|((apply z5)<;>intro _))<;>conv=>whnf)
 all_goals try (exfalso;omega)
 obtain ⟨bm,hbm⟩:∃ bm:Nat→Nat→Bool,bm=fun i j=>if j < i then cycD rows j else false:=⟨_,rfl⟩
 have b0:bm 0=fun _=>false:=by rw [hbm];rfl
 have bE:fnB rows.length (bm rows.length)=fnB rows.length (cycD rows):=List.map_congr_left fun i hi=>by
  have:=List.mem_range.1 hi
  rw [hbm];dsimp only;rw [if_pos this]
 have bS:∀ i,bm (i+1)=upd (bm i) i (cycD rows i):=fun i=>by
  funext j
  by_cases h:j=i
  ·subst h;rw [z31,hbm];dsimp only;rw [if_pos (by omega)]
  ·rw [z47 _ _ h,hbm];dsimp only;split<;>split<;>first|rfl|omega
 clear hbm
 refine z77 (fun i:Nat=>([(0,lst 1 encL rows),(3,.sref 0 0 rows.length),(4,.sref 1 0 rows.length),(7,.sref 2 0 rows.length),(31,.int rows.length),(32,.int i)],[.cells 1 (P.map enI),.cells 1 ((fnL rows.length (cm rows.length)).map enI),.cells 1 ((fnB rows.length (bm i)).map enB)])) (fun i=>i≤rows.length) (fun i=>rows.length - i) 0 (y60 _) (by refine swR [0,1,2] [] rfl rfl ?_;(repeat' first|exact y93 _|exact z11 _|((refine z10 rfl ?_ ?_);(focus ((repeat' (first|exact z19 rfl|exact z4 (fun _=>rfl)));done)))|constructor)<;>((refine z55 ?_;rw [b0];exact z960 _))) ?_
 intro i hi
 by_cases hi2:i < rows.length
 ·have hiP:i < P.length:=by omega
  have hp:=hPi _ (y51 hiP)
  have gp:(P.map enI)[i]?=some (enI P[i]):=by rw [y58,y52 hiP];rfl
  have hc:=hcy i hi2
  have e1:=z961 (N:=rows.length) (u:=i) (bm i) (cycD rows i)
  rw [← bS] at e1
  rw [z18 hiP] at hc
  generalize P[i]=p at *
  obtain ⟨v,rfl⟩:∃ v:Nat,p=v:=⟨p.toNat,by omega⟩
  rw [y83] at hc
  have hv:v < rows.length:=by omega
  have gv:=z186 (cm rows.length) hv
  have l1:=z138 rows.length (cm rows.length)
  have l2:=z1184 rows.length (bm i)
  have g2:=z1185 (bm i) hi2
  have gr:=z619 hi2
  have hrow:(rows.getD i []).length≤1000000000:=by rw [z18 hi2];exact hrl _ (y51 _)
  have cct:=z141 (rows.getD i []) (by unfold maxLen;omega) i
  rw [cE] at gv
  generalize cycD rows i=cy at *
  generalize rows.getD i []=row at *
  generalize cntL P rows.length v=cn at *
  by_cases h1:1 < cn
  ·rw [y89 h1,Bool.true_or] at hc
   subst hc
   repeat' ((first|(apply y4 ok;rfl)|(refine z13 (i:=i) rfl gp ?_)|(refine z13 (i:=v) rfl gv ?_)|(refine z13 (i:=i) rfl g2 ?_)|(refine z13 (i:=i) rfl gr ?_)|(apply y50;first|omega|(unfold inI;omega))|((apply z5)<;>intro _)|(apply z0 (cct);rfl;rfl))<;>conv=>whnf)
   all_goals try (exfalso;omega)
   all_goals refine z34 (i+1) hi2 (by omega) (by refine swR [0,1,2] [] rfl rfl ?_;(repeat' first|exact y93 _|exact z11 _|refine z82 rfl (z4 (fun _=>rfl)) ?_|refine z10 rfl (z4 (fun _=>rfl)) ?_|constructor)<;>((refine z55 ?_;exact e1)))
  ·rw [y90 h1,Bool.false_or] at hc
   rw [← hc] at cct
   repeat' ((first|(apply y4 ok;rfl)|(refine z13 (i:=i) rfl gp ?_)|(refine z13 (i:=v) rfl gv ?_)|(refine z13 (i:=i) rfl g2 ?_)|(refine z13 (i:=i) rfl gr ?_)|(apply y50;first|omega|(unfold inI;omega))|((apply z5)<;>intro _)|(apply z0 (cct);rfl;rfl))<;>conv=>whnf)
   all_goals try (exfalso;omega)
   all_goals refine z34 (i+1) hi2 (by omega) (by refine swR [0,1,2] [] rfl rfl ?_;(repeat' first|exact y93 _|exact z11 _|refine z82 rfl (z4 (fun _=>rfl)) ?_|refine z10 rfl (z4 (fun _=>rfl)) ?_|constructor)<;>((refine z55 ?_;exact e1)))
 obtain rfl:i=rows.length:=by omega
 rw [bE]
 repeat' ((first|(apply y4 ok;rfl)|(apply y50;omega)|((first|(with_reducible apply z8;omega)|(apply z8;omega));intro _)|((apply z5)<;>intro _))<;>conv=>whnf)
 all_goals try (exfalso;omega)
 all_goals (refine rsD [2] [] rfl ?_;(repeat' first|exact y93 _|exact z11 _|refine z10 rfl (z4 (fun _=>rfl)) ?_|constructor))
def inM (Q:List Int) (i:Nat):Bool:=decide ((i:Int)∈Q)
theorem inM_upd (Q:List Int) (w:Nat):inM (Q++[(w:Int)])=upd (inM Q) w true:=by
 funext j
 by_cases h:j=w
 ·subst h;rw [z31];unfold inM;simp
 ·rw [z47 _ _ h];unfold inM;congr 1
  have:¬ (j:Int)=w:=by omega
  simp [this]
theorem inM_nil:inM []=fun _=>false:=by funext j;simp [inM]
@[reducible] def findF:AC:=.fn (.func 247) [] [.ptr 0 none 0,.ptr 2 none 0]
@[reducible] def z1141 (N:Nat) (Q:List Int):List AObj:=[.cells 1 [[.sref 1 0 N]],.cells 1 ((fnB N (inM Q)).map enB),.cells 1 [[.own 1 (Q.map enI)]]]
set_option maxHeartbeats 3200000 in
theorem z799 (N : Nat) (hN : N ≤ 100000) (Q : List Int) (hQ : Q.length ≤ 100000) (v : Int) (hv : 0 ≤ v ∧ v < N) :
    CallsA Tryz.prog 247 [.int v,.ptr 0 none 0,.ptr 2 none 0] (z1141 N Q) (.tup []) (z1141 N (z197 Q v)):=by
  obtain ⟨w,rfl⟩:∃ w:Nat,v=w:=⟨v.toNat,by omega⟩
  have hw:w < N:=by omega
  have g1:=z1185 (inM Q) hw
  have l1:=z1184 N (inM Q)
  unfold z197
  by_cases h:(w:Int)∈Q
  · rw [if_pos h]
    have e:inM Q w=true:=by unfold inM;simp [h]
    rw [e] at g1
    refine z6 z9 Tryz.func247 rfl rfl 16 Tryz.ntmps247 (by simp) ?_
    repeat' ((first|(apply y4 ok;rfl)|(refine z13 (i:=w) rfl g1 ?_)|(apply y50;omega))<;>conv=>whnf)
    all_goals (refine rsD [0,1,2] [] rfl ?_;(repeat' first|exact y93 _|exact z11 _|apply y94|refine z10 rfl (z4 (fun _=>rfl)) ?_|constructor))
  · rw [if_neg h]
    have e:inM Q w=false:=by unfold inM;simp [h]
    rw [e] at g1
    have e1:=z961 (N:=N) (u:=w) (inM Q) true
    rw [← inM_upd] at e1
    have e2:(List.map enI Q).take (List.map enI Q).length++[enI (w:Int)]=(Q++[(w:Int)]).map enI:=by
      rw [y62];simp
    refine z6 z9 Tryz.func247 rfl rfl 16 Tryz.ntmps247 (by simp) ?_
    repeat' ((first|((fail_if_success apply z65 2);(fail_if_success apply z50 2);apply y4 ok;rfl)|(refine z13 (i:=w) rfl g1 ?_)|(apply y50;omega))<;>conv=>whnf)
    all_goals
      refine y92 (Gl.Reach.expose 2 0 0 rfl rfl rfl (z155 (fun _=>rfl) _) rfl) ?_
      conv=>whnf
      repeat' ((first|(apply y4 ok;rfl)|(apply y50;first|((try dsimp only);simp only [y56,y55,y54,y53,y64,y65];omega)|exact ⟨rfl,z38 rfl z45⟩))<;>conv=>whnf)
      refine Gl.RetS.absorb 2 5 0 0 rfl rfl rfl rfl (by simp) rfl (z52 (fun e he=>(z4 (fun _=>rfl)) e (List.mem_of_mem_take he)) (z206 rfl z33)) ?_
      conv=>whnf
      (refine rsD [0,1,2] [] rfl ?_;(repeat' first|exact y93 _|apply y94|refine z82 rfl (z4 (fun _=>rfl)) ?_|constructor))
      all_goals first|(refine z55 ?_;exact e1)|exact y9 (congrArg (AC.own 1) e2)
set_option maxHeartbeats 6400000 in
theorem z1136 (rows : List (List Int)) (ini : List Int) (hr : ∀ r ∈ rows, InN rows.length r) (hi : InN rows.length ini) (hN : rows.length ≤ 100000) (hrl : ∀ r ∈ rows, r.length ≤ 1000000000) (hil : ini.length ≤ 1000000000) :
    CallsA Tryz.prog 197 [lst 1 encL rows,ints ini] [] (.sref 0 0 (bfsL rows ini).length) [.cells 1 ((bfsL rows ini).map enI)]:=by
  have hvl:∀ l:List Int,InN rows.length l→(z90 [] l).length≤100000:=fun l hl=>by
    have:=z185 rows.length (z90 [] l) (z211 (by simp)) (z360 (fun x hx=>by cases hx) hl)
    omega
  refine z6 z9 Tryz.func197 rfl rfl 50 Tryz.ntmps197 (by simp) ?_
  repeat' ((first|(apply y4 ok;rfl)|(apply y50;(dsimp only;omega)))<;>conv=>whnf)
  refine z77 (fun i:Nat=>([(0,lst 1 encL rows),(6,.ptr 2 none 0),(7,findF),(17,ints ini),(18,.int ini.length),(19,.int i)],z1141 rows.length (z90 [] (ini.take i)))) (fun i=>i≤ini.length) (fun i=>ini.length - i) 0 (y60 _) (by refine swR [1,0,2] [] rfl rfl ?_;(repeat' first|exact y93 _|apply y94|refine z10 rfl (z19 rfl) ?_|constructor)<;>(first|exact z385|(refine z55 ?_;show _=(fnB rows.length (inM [])).map enB;rw [inM_nil];exact z960 _))) ?_
  intro i hil1
  by_cases hil2:i < ini.length
  · have gk:(ini.map enI)[i]?=some (enI ini[i]):=by rw [y58,y52 hil2];rfl
    have hv:=hi _ (y51 hil2)
    have hQl:=hvl (ini.take i) fun x hx=>hi x (List.mem_of_mem_take hx)
    have e1:=z498 (out:=[]) hil2
    generalize ini[i]=v at *
    have cf:=z799 rows.length hN (z90 [] (ini.take i)) hQl v hv
    rw [← e1] at cf
    repeat' ((first|(apply y4 ok;rfl)|(refine z13 (i:=i) rfl gk ?_)|(apply y50;first|omega|(unfold inI;omega))|((apply z5)<;>intro _)|(apply z95 [0,1,2] [] cf;rfl;(focus ((repeat' first|exact z14|apply z27)<;>first|rfl|(refine z41 rfl ?_;((exact z4 fun _=>rfl)))));rfl;(focus ((repeat' first|exact z12|apply z15)<;>first|exact z117 rfl rfl|(refine z22 ?_;((exact z4 fun _=>rfl)))))))<;>conv=>whnf)
    all_goals try (exfalso;omega)
    all_goals refine z34 (i+1) hil2 (by omega) (by refine swR [0,1,2] [] rfl rfl ?_;(repeat' first|exact y93 _|exact z11 _|apply y94|refine z10 rfl (z4 (fun _=>rfl)) ?_|constructor))
  obtain rfl:i=ini.length:=by omega
  rw [y62]
  repeat' ((first|(apply y4 ok;rfl)|(apply y50;omega)|(((with_reducible apply z8;omega));intro _)|((apply z5)<;>intro _))<;>conv=>whnf)
  all_goals try (exfalso;omega)
  refine z77 (fun i:Nat=>([(0,lst 1 encL rows),(6,.ptr 2 none 0),(7,findF),(10,.int i)],z1141 rows.length (bfs rows ini i))) (fun i=>i≤rows.length) (fun i=>rows.length - i) 0 (y60 _) (by refine swR [0,1,2] [] rfl rfl ?_;(repeat' first|exact y93 _|exact z11 _|apply y94|refine z10 rfl (z4 (fun _=>rfl)) ?_|constructor)) ?_
  intro i hi1
  have hQl:=z918 hr hi i
  have hQi:=z642 hr hi i
  refine y92 (Gl.Reach.expose 2 0 0 rfl rfl rfl (z155 (fun _=>rfl) _) rfl) ?_
  by_cases hi2:i < (bfs rows ini i).length
  · have hx:=hQi _ (y51 hi2)
    have gx:((bfs rows ini i).map enI)[i]?=some (enI (bfs rows ini i)[i]):=by rw [y58,y52 hi2];rfl
    have hnx:bfs rows ini (i+1)=z90 (bfs rows ini i) (rows.getD ((bfs rows ini i)[i]).toNat []):=by rw [bfs,dif_pos hi2]
    have hnd:=z820 (rows:=rows) (ini:=ini) i
    generalize hQ' : bfs rows ini (i+1)=Q' at *
    generalize (bfs rows ini i)[i]=x at *
    generalize hQ:bfs rows ini i=Q at *
    obtain ⟨u,rfl⟩:∃ u:Nat,x=u:=⟨x.toNat,by omega⟩
    rw [y83] at hnx
    have hu:u < rows.length:=by omega
    have gr:=z619 hu
    have hrow:=z233 hr (u:Int)
    rw [y83] at hrow
    have hrowl:(rows.getD u []).length≤1000000000:=by rw [z18 hu];exact hrl _ (y51 _)
    generalize rows.getD u []=row at *
    repeat' ((first|(apply y4 ok;rfl)|(refine z13 (i:=i) rfl gx ?_)|(refine z13 (i:=u) rfl gr ?_)|(apply y50;omega)|((apply z5)<;>intro _))<;>conv=>whnf)
    all_goals first|(exfalso;simp at *;omega)|skip
    all_goals
      refine y92 (Gl.Reach.absorb 2 3 0 0 rfl rfl rfl rfl (by simp) rfl (z4 fun _=>rfl) rfl) ?_
      refine z77 (fun j:Nat=>([(0,lst 1 encL rows),(6,.ptr 2 none 0),(7,findF),(10,.int i),(39,ints row),(40,.int row.length),(41,.int j)],z1141 rows.length (z90 Q (row.take j)))) (fun j=>j≤row.length) (fun j=>row.length - j) 0 (y60 _) (by refine swR [0,1,2] [] rfl rfl ?_;(repeat' first|exact y93 _|exact z11 _|apply y94|refine z10 rfl (z4 (fun _=>rfl)) ?_|constructor)) ?_
      intro j hj
      by_cases hj2:j < row.length
      · have gj:(row.map enI)[j]?=some (enI row[j]):=by rw [y58,y52 hj2];rfl
        have hv:=hrow _ (y51 hj2)
        have hWl:(z90 Q (row.take j)).length≤100000:=by
          have:=z185 rows.length (z90 Q (row.take j)) (z211 hnd) (z360 hQi fun x hx=>hrow x (List.mem_of_mem_take hx))
          omega
        have e1:=z498 (out:=Q) hj2
        generalize row[j]=v at *
        have cf:=z799 rows.length hN (z90 Q (row.take j)) hWl v hv
        rw [← e1] at cf
        repeat' ((first|(apply y4 ok;rfl)|(refine z13 (i:=j) rfl gj ?_)|(apply y50;first|omega|(unfold inI;omega))|((apply z5)<;>intro _)|(apply z95 [0,1,2] [] cf;rfl;(focus ((repeat' first|exact z14|apply z27)<;>first|rfl|(refine z41 rfl ?_;((exact z4 fun _=>rfl)))));rfl;(focus ((repeat' first|exact z12|apply z15)<;>first|exact z117 rfl rfl|(refine z22 ?_;((exact z4 fun _=>rfl)))))))<;>conv=>whnf)
        all_goals try (exfalso;omega)
        all_goals refine z34 (j+1) hj2 (by omega) (by refine swR [0,1,2] [] rfl rfl ?_;(repeat' first|exact y93 _|exact z11 _|apply y94|refine z10 rfl (z4 (fun _=>rfl)) ?_|constructor))
      obtain rfl:j=row.length:=by omega
      rw [y62,← hnx]
      repeat' ((first|(apply y4 ok;rfl)|(apply y50;first|omega|(unfold inI;omega))|(((with_reducible apply z8;omega));intro _)|((apply z5)<;>intro _))<;>conv=>whnf)
      all_goals try (exfalso;omega)
      all_goals refine z34 (i+1) (by omega) (by omega) ?_
      all_goals dsimp only
      all_goals rw [hQ']
      all_goals exact (by refine swR [0,1,2] [] rfl rfl ?_;(repeat' first|exact y93 _|exact z11 _|apply y94|refine z10 rfl (z4 (fun _=>rfl)) ?_|constructor))
  · have hE:=bfsL_end hr hi (i:=i) (by omega) hi1
    rw [← hE]
    repeat' ((first|(apply y4 ok;rfl)|(apply y50;omega)|((apply z5)<;>intro _))<;>conv=>whnf)
    all_goals first|(exfalso;simp at *;omega)|skip
    all_goals (refine rsD [3] [] rfl ?_;(repeat' first|exact z11 _|(refine z43 ?_;((simp;done)))|refine z10 rfl (z4 (fun _=>rfl)) ?_|constructor))
theorem swp_map (l:List Int) (i j:Nat):((l.map enI).set i (enI (l.getD j 0))).set j (enI (l.getD i 0))=(swp l i j).map enI:=by
 unfold swp;rw [List.map_set,List.map_set]
set_option maxHeartbeats 1600000 in
theorem z1002 (l:List Int) (h1:1≤l.length) (h2:l.length≤1048576):CallsA Tryz.prog 248 [.sref 0 0 l.length] [.cells 1 (l.map enI)] (.tup []) [.cells 1 ((rvs l).map enI)]:=by
 have hR:revG l.length 0 (l.length - 1) l=rvs l:=rfl
 generalize rvs l=R at *
 generalize hn:l.length=n at *
 refine z6 z9 Tryz.func248 rfl rfl 28 Tryz.ntmps248 (by simp) ?_
 repeat' ((first|(apply y4 ok;rfl)|(apply y50;(unfold inI;omega)))<;>conv=>whnf)
 refine z77 (fun x:Nat×Nat×List Int=>([(0,.sref 0 0 n),(2,.int x.1),(3,.int x.2.1)],[.cells 1 (x.2.2.map enI)])) (fun x=>x.1≤n∧x.2.1 < n∧x.2.2.length=n∧revG (n - x.1) x.1 x.2.1 x.2.2=R) (fun x=>n - x.1) (0,n - 1,l) ⟨by simp,by show n - 1 < n;omega,hn,hR⟩ (by refine swR [0] [] rfl rfl ?_;(repeat' first|exact y93 _|exact z11 _|refine z10 rfl (z4 (fun _=>rfl)) ?_|constructor)<;>((rw [show ((n - 1:Nat):Int)=(n:Int) - 1 by omega];exact y93 _))) ?_
 rintro ⟨i,j,l'⟩ ⟨i1,i2,i3,i4⟩
 dsimp only at i1 i2 i3 i4 ⊢
 by_cases hij:i < j
 ·rw [show n - i=(n - (i+1))+1 by omega,revG,if_pos hij] at i4
  have gi:(l'.map enI)[i]?=some (enI (l'.getD i 0)):=by rw [y58,y52 (by omega),z18 (by omega)];rfl
  have gj:(l'.map enI)[j]?=some (enI (l'.getD j 0)):=by rw [y58,y52 (by omega),z18 (by omega)];rfl
  have gj2:((l'.map enI).set i (enI (l'.getD j 0)))[j]?=some (enI (l'.getD j 0)):=by rw [List.getElem?_set_ne (by omega)];exact gj
  have es:=swp_map l' i j
  repeat' ((first|(apply y4 ok;rfl)|(apply z17;kernel_rfl)|(refine z13 (i:=i) rfl gi ?_)|(refine z13 (i:=j) rfl gj ?_)|(refine z13 (i:=j) rfl gj2 ?_)|(apply y50;first|omega|(unfold inI;omega))|((apply z5)<;>intro _))<;>conv=>whnf)
  all_goals try (exfalso;omega)
  all_goals refine z34 (i+1,j - 1,swp l' i j) ⟨by show i+1≤n;omega,by show j - 1 < n;omega,by show (swp l' i j).length=n;simp [swp,i3],i4⟩ (by show n - (i+1) < n - i;omega) (by refine swR [0] [] rfl rfl ?_;(repeat' first|exact y93 _|((refine z82 rfl ?_ ?_);(focus ((repeat' (first|exact z4 (fun _=>rfl)|(refine z1187 ?_ _ rfl)));done)))|constructor)<;>(first|(rw [show ((j - 1:Nat):Int)=(j:Int) - 1 by omega];exact y93 _)|exact z55 es))
 ·have:revG (n - i) i j l'=l':=by cases n - i<;>simp [revG,hij]
  rw [this] at i4
  subst i4
  repeat' ((first|(apply y4 ok;rfl)|(apply y50;omega)|(((apply z8;omega));intro _)|((apply z5)<;>intro _))<;>conv=>whnf)
  all_goals try (exfalso;omega)
  all_goals (refine rsD [0] [] rfl ?_;(repeat' first|exact y93 _|exact z11 _|refine z10 rfl (z4 (fun _=>rfl)) ?_|constructor))
theorem z890 {N w:Nat} (Q P:List Int) (hw:w < N):((frm N Q P).map enI)[w]?=some (enI (if (w:Int)∈Q then P.getD w 0 else -2)):=by
 unfold frm
 rw [y58,y58,List.getElem?_range hw];rfl
theorem z958 {N w:Nat} {Q P:List Int} {u:Int} (hw:w < N) (hP:P.length=N):((frm N Q P).map enI).set w (enI u)=(frm N (Q++[(w:Int)]) (P.set w u)).map enI:=by
 have:=frm_set (N:=N) (Q:=Q) (P:=P) (v:=(w:Int)) (u:=u) ⟨by omega,by omega⟩ hP
 rw [y83] at this
 rw [← this,List.map_set]
@[reducible] def capB (b:Bool) (c1 c2:List AC):List AC:=match b with
 |true=>[.pt c1,.pt c2]
 |false=>[.pt c1]
set_option maxHeartbeats 25600000 in
theorem z370 (b : Bool) (rows : List (List Int)) (ini : List Int) (hr : ∀ r ∈ rows, InN rows.length r) (hi : InN rows.length ini) (hn : ini.Nodup) (hN : rows.length ≤ 100000) (hrl : ∀ r ∈ rows, r.length ≤ 1000000000) (G : Int → Bool) (f : FuncId) (c1 c2 : List AC) (hf : ∀ x : Int, 0 ≤ x → x < rows.length → CallsA Tryz.prog f (.int x :: (capB b c1 c2)) [] (.bool (G x)) []) :
    CallsA Tryz.prog 198 [lst 1 encL rows,ints ini,.fn (.func f) [] (capB b c1 c2)] [] (.sref 0 0 (shL rows ini G).length) [.cells 1 ((shL rows ini G).map enI)]:=by
  cases b
  case' true=>let caps:List AC:=[.pt c1,.pt c2]
  case' false=>let caps:List AC:=[.pt c1]
  all_goals
    have hil:ini.length≤100000:=by have:=z185 rows.length ini hn hi;omega
    refine z6 z9 Tryz.func198 rfl rfl 99 Tryz.ntmps198 (by simp) ?_
    repeat' ((first|(apply y4 ok;rfl)|(apply y50;(dsimp only;omega)))<;>conv=>whnf)
    obtain ⟨qm,hqm⟩:∃ qm:Nat→Nat→Int,qm=fun i j=>if j < i then -2 else 0:=⟨_,rfl⟩
    have q0:qm 0=fun _=>0:=by rw [hqm];rfl
    have qE:(fnL rows.length (qm rows.length)).map enI=(frm rows.length [] (List.replicate rows.length (-1))).map enI:=by
      rw [frm_nil]
      congr 1
      apply y81 (by simp [fnL])
      intro i h1 h2
      rw [z893,hqm]
      have hi' : i < rows.length:=by rw [z138] at h1;exact h1
      dsimp only
      rw [if_pos hi'];simp
    have qS:∀ i,qm (i+1)=upd (qm i) i (-2):=fun i=>by
      funext j
      by_cases h:j=i
      · subst h;rw [z31,hqm];dsimp only;rw [if_pos (by omega)]
      · rw [z47 _ _ h,hqm];dsimp only;split<;>split<;>first|rfl|omega
    clear hqm
    refine z77 (fun i:Nat=>([(0,lst 1 encL rows),(1,ints ini),(2,.fn (.func f) [] caps),(7,.sref 0 0 rows.length),(21,.int rows.length),(22,.int i)],[.cells 1 ((fnL rows.length (qm i)).map enI)])) (fun i=>i≤rows.length) (fun i=>rows.length - i) 0 (y60 _) (by refine swR [0] [] rfl rfl ?_;(repeat' first|exact y93 _|refine z10 rfl (z19 rfl) ?_|constructor)<;>((refine z55 ?_;rw [q0];exact z398 _))) ?_
    intro i hi1
    by_cases hi2:i < rows.length
    · have g1:=z186 (qm i) hi2
      have l1:=z138 rows.length (qm i)
      have e1:=z174 (N:=rows.length) (u:=i) (qm i) (-2)
      rw [← qS] at e1
      repeat' ((first|(apply y4 ok;rfl)|(refine z13 (i:=i) rfl g1 ?_)|(apply y50;first|omega|(unfold inI;omega))|((apply z5)<;>intro _))<;>conv=>whnf)
      all_goals try (exfalso;omega)
      all_goals refine z34 (i+1) hi2 (by omega) (by refine swR [0] [] rfl rfl ?_;(repeat' first|exact y93 _|refine z82 rfl (z4 (fun _=>rfl)) ?_|constructor)<;>((refine z55 ?_;exact e1)))
    obtain rfl:i=rows.length:=by omega
    rw [qE]
    clear qE qS q0
    repeat' ((first|(apply y4 ok;rfl)|(apply y50;omega)|(((apply z8;omega));intro _)|((apply z5)<;>intro _))<;>conv=>whnf)
    all_goals try (exfalso;omega)
    refine y92 (y95 1 rfl) ?_
    have hrep:(List.replicate rows.length (-1:Int)).length=rows.length:=by simp
    have hrs:∀ w,(List.replicate rows.length (-1:Int)).set w (-1)=List.replicate rows.length (-1):=fun w=>by
      apply y81 (by simp)
      intro i h1 h2
      rw [List.getElem_set]
      split<;>simp
    have hS0:(frm rows.length ini (List.replicate rows.length (-1)))=frm rows.length (srS rows ini 0).1 (srS rows ini 0).2:=rfl
    generalize List.replicate rows.length (-1:Int)=P0 at *
    refine z77 (fun k:Nat=>([(0,lst 1 encL rows),(2,.fn (.func f) [] caps),(7,.sref 0 0 rows.length),(9,.sref 1 0 (ini.take k).length),(29,ints ini),(30,.int ini.length),(31,.int k)],[.cells 1 ((frm rows.length (ini.take k) P0).map enI),.cells 1 ((ini.take k).map enI)])) (fun k=>k≤ini.length) (fun k=>ini.length - k) 0 (y60 _) (by refine swR [0,1] [] rfl rfl ?_;(repeat' first|exact y93 _|exact z57|exact z11 _|((refine z10 rfl ?_ ?_);(focus ((repeat' (first|exact z33|exact z4 (fun _=>rfl)));done)))|constructor)) ?_
    intro k hk
    by_cases hk2:k < ini.length
    · have gk:(ini.map enI)[k]?=some (enI ini[k]):=by rw [y58,y52 hk2];rfl
      have hv:=hi _ (y51 hk2)
      have et:ini.take (k+1)=ini.take k++[ini[k]]:=y57 hk2
      have htl:(ini.take k).length≤100000:=by rw [y55];omega
      generalize hQ' : ini.take (k+1)=Q' at *
      generalize hQ:ini.take k=Q at *
      generalize ini[k]=v at *
      obtain ⟨w,rfl⟩:∃ w:Nat,v=w:=⟨v.toNat,by omega⟩
      have hw:w < rows.length:=by omega
      have g1:=z890 Q P0 hw
      have l1:=z889 rows.length Q P0
      have e1:=z958 (Q:=Q) (u:=-1) hw hrep
      rw [hrs,← et] at e1
      subst et
      repeat' ((first|(apply y4 ok;rfl)|(refine z13 (i:=k) rfl gk ?_)|(refine z13 (i:=w) rfl g1 ?_)|(apply y50;first|omega|(unfold inI;omega)|((try dsimp only);simp only [y56,y55,y54,y53,y64,y65];omega)|exact ⟨rfl,z38 rfl z45⟩)|((apply z5)<;>intro _))<;>conv=>whnf)
      all_goals try (exfalso;omega)
      all_goals refine z34 (k+1) hk2 (by omega) ?_
      all_goals dsimp only
      all_goals rw [hQ']
      all_goals exact (by refine swR [0,3] [] rfl rfl ?_;(repeat' first|exact y93 _|(refine z43 ?_;((simp;done)))|((first|refine z51 rfl ?_ ?_|refine z82 rfl ?_ ?_);(focus ((repeat' (first|exact z4 (fun _=>rfl)|apply z40));done)))|(refine z73 ?_ ?_;(focus (omega)))|constructor)<;>((refine z55 ?_;exact e1)))
    obtain rfl:k=ini.length:=by omega
    rw [y62,hS0]
    repeat' ((first|(apply y4 ok;rfl)|(apply y50;omega)|((first|(with_reducible apply z8;omega)|(apply z8;omega));intro _)|((apply z5)<;>intro _))<;>conv=>whnf)
    all_goals try (exfalso;omega)
    refine z77 (fun i:Nat=>([(0,lst 1 encL rows),(2,.fn (.func f) [] caps),(7,.sref 0 0 rows.length),(9,.sref 1 0 (srS rows ini i).1.length),(12,.int i)],[.cells 1 ((frm rows.length (srS rows ini i).1 (srS rows ini i).2).map enI),.cells 1 ((srS rows ini i).1.map enI)])) (fun i=>i≤rows.length∧∀ k (_:k < i) (h:k < (srS rows ini i).1.length),G ((srS rows ini i).1[k])=false) (fun i=>rows.length+1 - i) 0 ⟨y60 _,fun k h=>by omega⟩ (by refine swR [0,1] [] rfl rfl ?_;(repeat' first|exact y93 _|exact z11 _|refine z10 rfl (z4 (fun _=>rfl)) ?_|constructor)<;>(fail)) ?_
    rintro i ⟨hi1,hno⟩
    have hJ:=z339 hr hi hn i
    have hQl:=z854 hr hi hn i
    by_cases hi2:i < (srS rows ini i).1.length
    · have hx:=hJ.inn _ (y51 hi2)
      have cf:=hf _ hx.1 hx.2
      have gx:((srS rows ini i).1.map enI)[i]?=some (enI (srS rows ini i).1[i]):=by rw [y58,y52 hi2];rfl
      have hnx:srS rows ini (i+1)=visPs (srS rows ini i).1[i] (srS rows ini i) (rows.getD ((srS rows ini i).1[i]).toNat []):=by rw [srS,dif_pos hi2]
      have hfnd:=fun h=>z1116 hr hi hn (G:=G) hi2 h (fun k hk=>hno k hk (by omega))
      have hpre:=z500 (srS rows ini i).1[i] (rows.getD ((srS rows ini i).1[i]).toNat []) (srS rows ini i)
      by_cases hG:G (srS rows ini i).1[i]=true
      · rw [hfnd hG,z1213,y71]
        have hq0:∃ k,∃ h:k < (srS rows ini i).1.length,(srS rows ini i).1[k]=(srS rows ini i).1[i]∧k≤rows.length:=⟨i,hi2,rfl,hi1⟩
        rw [hG] at cf
        clear hfnd hnx hpre hno
        generalize hS:srS rows ini i=S at *
        obtain ⟨Q,P⟩:=S
        dsimp only at *
        have hi4:i < Q.length:=hi2
        generalize Q[i]=x at *
        repeat' ((first|(apply y4 ok;rfl)|(refine z13 (i:=i) rfl gx ?_)|(apply y50;omega)|((apply z5)<;>intro _)|(apply z0 (cf);rfl;rfl))<;>conv=>whnf)
        all_goals try (exfalso;omega)
        all_goals
          refine y92 (y95 1 rfl) ?_
          have hB1:=z1203 P rows.length x
          generalize hB:chn P rows.length x=B at *
          refine z77 (fun y:Nat×List Int×Int=>([(7,.sref 0 0 rows.length),(13,.int y.2.2),(14,.sref 1 0 y.2.1.length)],[.cells 1 ((frm rows.length Q P).map enI),.cells 1 (y.2.1.map enI)])) (fun y=>y.2.1.length+y.1≤rows.length+1∧((0≤y.2.2∧y.2.1++chn P (y.1 - 1) y.2.2=B∧1≤y.1∧∃ k,∃ h:k < Q.length,Q[k]=y.2.2∧k+1≤y.1)∨(y.2.2=-1∧y.2.1=B))) (fun y=>y.1+(if 0≤y.2.2 then 1 else 0)) (rows.length+1,[],x) ⟨by simp,.inl ⟨hx.1,by simpa using hB,by omega,by obtain ⟨k,h,h1,h2⟩:=hq0;exact ⟨k,h,h1,by omega⟩⟩⟩ (by refine swR [0,2] [] rfl rfl ?_;(repeat' first|exact y93 _|exact z57|exact z11 _|((refine z10 rfl ?_ ?_);(focus ((repeat' (first|exact z33|exact z4 (fun _=>rfl)));done)))|constructor)) ?_
          rintro ⟨fu,ac,u⟩ ⟨q1,q2⟩
          dsimp only at q1 q2 ⊢
          rcases q2 with ⟨q2,q3,q4,k,hk,q5,q6⟩|⟨rfl,rfl⟩
          · have huN:=hJ.inn u (q5 ▸ y51 hk)
            obtain ⟨w,rfl⟩:∃ w:Nat,u=w:=⟨u.toNat,by omega⟩
            have hw:w < rows.length:=by omega
            have gw:=z890 Q P hw
            rw [if_pos (q5 ▸ y51 hk)] at gw
            have lw:=z889 rows.length Q P
            have hp:=hJ.pre k hk
            rw [q5,y83] at hp
            dsimp only at hp
            obtain ⟨fu,rfl⟩:∃ m,fu=m+1:=⟨fu - 1,by omega⟩
            rw [Nat.add_sub_cancel] at q3
            have hnext:P.getD w 0=-1∧ac++[(w:Int)]=B∨(0≤P.getD w 0∧(ac++[(w:Int)])++chn P (fu - 1) (P.getD w 0)=B∧1≤fu∧∃ k,∃ h:k < Q.length,Q[k]=P.getD w 0∧k+1≤fu):=by
              rcases hp with hp|⟨j,hj,hjk,hp⟩
              · left
                refine ⟨hp,?_⟩
                rw [← q3]
                cases fu with
                | zero=>rfl
                | succ fu =>
                  rw [chn,y83,if_neg (by omega)]
              · right
                have:=hJ.inn _ (y51 hj)
                refine ⟨by omega,?_,by omega,j,hj,hp.symm,by omega⟩
                obtain ⟨fu,rfl⟩:∃ m,fu=m+1:=⟨fu - 1,by omega⟩
                rw [chn,y83,if_pos (by omega)] at q3
                rw [← q3]
                simp
            have hvb : -1≤P.getD w 0∧P.getD w 0 < rows.length:=by
              rcases hnext with ⟨h,_⟩|⟨h,_,_,j,hj,hp2,_⟩
              · omega
              · have:=hJ.inn _ (y51 hj)
                omega
            clear hp
            generalize P.getD w 0=v at *
            repeat' ((first|(apply y4 ok;rfl)|(refine z13 (i:=w) rfl gw ?_)|(apply y50;first|omega|((try dsimp only);simp only [y56,y55,y54,y53,y64,y65];omega)|exact ⟨rfl,z38 rfl z45⟩))<;>conv=>whnf)
            all_goals refine z34 (fu,ac++[(w:Int)],v) ⟨by simp only [y54,List.length_singleton];omega,?_⟩ ?_ (by refine swR [0,3] [] rfl rfl ?_;(repeat' first|exact y93 _|exact z11 _|(refine z43 ?_;((simp;done)))|((first|refine z51 rfl ?_ ?_|refine z10 rfl ?_ ?_);(focus ((repeat' (first|exact z4 (fun _=>rfl)|apply z40));done)))|(refine z73 ?_ ?_;(focus (omega)))|constructor))
            all_goals dsimp only
            all_goals first|(rcases hnext with ⟨h1,h2⟩|h1<;>first|exact .inr ⟨h1,h2⟩|exact .inl h1)|(rw [if_pos (show (0:Int)≤w by omega)];split<;>omega)
          · have cr:=z1002 ac (by omega) (by omega)
            have cc:=z265 (rvs ac) (by rw [z677];omega)
            have el:=z677 ac
            rw [← rvs_eq]
            generalize rvs ac=D at *
            rw [el] at cc ⊢
            repeat' ((first|(apply y4 ok;rfl)|((first|(apply z95 [1] [] cr;rfl;(focus ((repeat' first|exact z14|apply z27)<;>(refine z41 rfl ?_;((exact z4 fun _=>rfl))))))|(apply z95 [1] [] cc;rfl;(focus ((repeat' first|exact z14|apply z27)<;>(refine z41 rfl ?_;((exact z4 fun _=>rfl)))))));rfl;(focus ((repeat' first|exact z12|apply z15)<;>(refine z22 ?_;((exact z4 fun _=>rfl)))))))<;>conv=>whnf)
            all_goals (refine rsD [1] [] rfl ?_;(repeat' first|exact y93 _|exact z11 _|refine z10 rfl (z4 (fun _=>rfl)) ?_|constructor))
      · have hG:=(y78 _).mp hG
        rw [hG] at cf
        have hno2:∀ k (_:k < i+1) (h:k < (srS rows ini (i+1)).1.length),G ((srS rows ini (i+1)).1[k])=false:=by
          obtain ⟨t,ht⟩:=z853 (rows:=rows) (ini:=ini) (show i≤i+1 by omega)
          intro k hk h
          have hki:k < (srS rows ini i).1.length:=by omega
          have e:(srS rows ini (i+1)).1[k]=(srS rows ini i).1[k]:=by
            simp only [ht,List.getElem_append_left hki]
          rw [e]
          by_cases hk3:k < i
          · exact hno k hk3 hki
          · obtain rfl:k=i:=by omega
            exact hG
        have hile:i+1≤rows.length:=by omega
        have hJv:=fun l hl=>PJ.visPs (N:=rows.length) l hJ hi2 rfl hl
        clear hfnd hpre hno
        generalize hS' : srS rows ini (i+1)=S' at *
        generalize hS:srS rows ini i=S at *
        obtain ⟨Q,P⟩:=S
        dsimp only at *
        have hi4:i < Q.length:=hi2
        generalize hxx:Q[i]=x at *
        obtain ⟨u,rfl⟩:∃ u:Nat,x=u:=⟨x.toNat,by omega⟩
        rw [y83] at hnx
        have hu:u < rows.length:=by omega
        have gr:=z619 hu
        have hrow:=z233 hr (u:Int)
        rw [y83] at hrow
        have hrowl:(rows.getD u []).length≤1000000000:=by rw [z18 hu];exact hrl _ (y51 _)
        generalize rows.getD u []=row at *
        repeat' ((first|(apply y4 ok;rfl)|(refine z13 (i:=i) rfl gx ?_)|(refine z13 (i:=u) rfl gr ?_)|(apply y50;omega)|((apply z5)<;>intro _)|(apply z0 (cf);rfl;rfl))<;>conv=>whnf)
        all_goals try (exfalso;omega)
        all_goals
          refine z77 (fun j:Nat=>([(0,lst 1 encL rows),(2,.fn (.func f) [] caps),(7,.sref 0 0 rows.length),(9,.sref 1 0 (visPs (u:Int) (Q,P) (row.take j)).1.length),(12,.int i),(76,ints row),(77,.int row.length),(78,.int j)],[.cells 1 ((frm rows.length (visPs (u:Int) (Q,P) (row.take j)).1 (visPs (u:Int) (Q,P) (row.take j)).2).map enI),.cells 1 ((visPs (u:Int) (Q,P) (row.take j)).1.map enI)])) (fun j=>j≤row.length) (fun j=>row.length - j) 0 (y60 _) (by refine swR [0,1] [] rfl rfl ?_;(repeat' first|exact y93 _|exact z11 _|refine z10 rfl (z4 (fun _=>rfl)) ?_|constructor)<;>(fail)) ?_
          intro j hj
          obtain ⟨hJj,hij,hxj⟩:=hJv (row.take j) (fun x hx=>hrow x (List.mem_of_mem_take hx))
          have hQjl:(visPs (u:Int) (Q,P) (row.take j)).1.length≤rows.length:=z185 _ _ hJj.nd hJj.inn
          have gxj:((visPs (u:Int) (Q,P) (row.take j)).1.map enI)[i]?=some (enI (u:Int)):=by
            rw [y58,y52 hij,hxj];rfl
          by_cases hj2:j < row.length
          · have gj:(row.map enI)[j]?=some (enI row[j]):=by rw [y58,y52 hj2];rfl
            have hv:=hrow _ (y51 hj2)
            have et:=z608 (u:=(u:Int)) (x:=(Q,P)) hj2
            have hge:=hJj.pre
            generalize hT' : visPs (u:Int) (Q,P) (row.take (j+1))=T' at *
            generalize hT:visPs (u:Int) (Q,P) (row.take j)=T at *
            generalize row[j]=v at *
            obtain ⟨w,rfl⟩:∃ w:Nat,v=w:=⟨v.toNat,by omega⟩
            have hw:w < rows.length:=by omega
            have gw:=z890 T.1 T.2 hw
            have lw:=z889 rows.length T.1 T.2
            have hTl:=hJj.len
            by_cases hm:(w:Int)∈T.1
            · rw [z361 hm] at et
              rw [if_pos hm] at gw
              have hwv : -1≤T.2.getD w 0:=by
                obtain ⟨k,hk,ek⟩:=List.mem_iff_getElem.1 hm
                have h1:=hge k hk
                rw [ek,y83] at h1
                rcases h1 with h1|⟨y,hy,_,h1⟩
                · omega
                · have:=hJj.inn _ (y51 hy);omega
              generalize T.2.getD w 0=pv at *
              repeat' ((first|(apply y4 ok;rfl)|(refine z13 (i:=j) rfl gj ?_)|(refine z13 (i:=w) rfl gw ?_)|(apply y50;first|omega|(unfold inI;omega))|(((apply z8;omega));intro _)|((apply z5)<;>intro _))<;>conv=>whnf)
              all_goals try (exfalso;omega)
              all_goals refine z34 (j+1) hj2 (by omega) ?_
              all_goals dsimp only
              all_goals rw [hT',et]
              all_goals exact (by refine swR [0,1] [] rfl rfl ?_;(repeat' first|exact y93 _|exact z11 _|refine z10 rfl (z4 (fun _=>rfl)) ?_|constructor))
            · rw [z362 hm,y83] at et
              rw [if_neg hm] at gw
              have e1:=z958 (Q:=T.1) (u:=(u:Int)) hw hTl
              repeat' ((first|(apply y4 ok;rfl)|(refine z13 (i:=j) rfl gj ?_)|(refine z13 (i:=w) rfl gw ?_)|(refine z13 (i:=i) rfl gxj ?_)|(apply y50;first|omega|(unfold inI;omega)|((try dsimp only);simp only [y56,y55,y54,y53,y64,y65];omega)|exact ⟨rfl,z38 rfl z45⟩)|((apply z5)<;>intro _))<;>conv=>whnf)
              all_goals try (exfalso;omega)
              all_goals refine z34 (j+1) hj2 (by omega) ?_
              all_goals dsimp only
              all_goals rw [hT',et]
              all_goals dsimp only
              all_goals exact (by refine swR [0,3] [] rfl rfl ?_;(repeat' first|exact y93 _|(refine z43 ?_;((simp;done)))|((first|refine z51 rfl ?_ ?_|refine z82 rfl ?_ ?_);(focus ((repeat' (first|exact z4 (fun _=>rfl)|apply z40));done)))|(refine z73 ?_ ?_;(focus (omega)))|constructor)<;>((refine z55 ?_;exact e1)))
          obtain rfl:j=row.length:=by omega
          rw [y62,← hnx] at *
          repeat' ((first|(apply y4 ok;rfl)|(apply y50;first|omega|(unfold inI;omega))|((first|(with_reducible apply z8;omega)|(apply z8;omega));intro _)|((apply z5)<;>intro _))<;>conv=>whnf)
          all_goals try (exfalso;omega)
          all_goals refine z34 (i+1) ⟨hile,by rw [hS'];exact hno2⟩ (by omega) ?_
          all_goals dsimp only
          all_goals rw [hS']
          all_goals exact (by refine swR [0,1] [] rfl rfl ?_;(repeat' first|exact y93 _|exact z11 _|refine z10 rfl (z4 (fun _=>rfl)) ?_|constructor))
    · rw [shL_none (G:=G) (by omega) hi1 (fun k hk=>hno k (by omega) hk)]
      repeat' ((first|(apply y4 ok;rfl)|(apply y50;omega)|(((apply z8;omega));intro _)|((apply z5)<;>intro _))<;>conv=>whnf)
      all_goals try (exfalso;omega)
      all_goals (refine y96 1 ?_;refine rsD [2] [] rfl ?_;(repeat' first|exact z57|refine z10 rfl (z33) ?_|constructor))
theorem z676 (rows : List (List Int)) (ini : List Int) (hr : ∀ r ∈ rows, InN rows.length r) (hi : InN rows.length ini) (hn : ini.Nodup) (hN : rows.length ≤ 100000) (hrl : ∀ r ∈ rows, r.length ≤ 1000000000) (G : Int → Bool) (f : FuncId) (c1 : List AC) (hf : ∀ x : Int, 0 ≤ x → x < rows.length → CallsA Tryz.prog f (.int x :: [.pt c1]) [] (.bool (G x)) []) :
    CallsA Tryz.prog 198 [lst 1 encL rows,ints ini,.fn (.func f) [] [.pt c1]] [] (.sref 0 0 (shL rows ini G).length) [.cells 1 ((shL rows ini G).map enI)]:=z370 false rows ini hr hi hn hN hrl G f c1 [] hf
theorem z675 (rows : List (List Int)) (ini : List Int) (hr : ∀ r ∈ rows, InN rows.length r) (hi : InN rows.length ini) (hn : ini.Nodup) (hN : rows.length ≤ 100000) (hrl : ∀ r ∈ rows, r.length ≤ 1000000000) (G : Int → Bool) (f : FuncId) (c1 c2 : List AC) (hf : ∀ x : Int, 0 ≤ x → x < rows.length → CallsA Tryz.prog f (.int x :: [.pt c1, .pt c2]) [] (.bool (G x)) []) :
    CallsA Tryz.prog 198 [lst 1 encL rows,ints ini,.fn (.func f) [] [.pt c1,.pt c2]] [] (.sref 0 0 (shL rows ini G).length) [.cells 1 ((shL rows ini G).map enI)]:=z370 true rows ini hr hi hn hN hrl G f c1 c2 hf
end Go.Proofs.YtnfoijopccdjeaaGreat
namespace Go.Proofs.YtnfoijopccdjeaaGreat
open Go.Gl
attribute [local irreducible] z16 AWP z29 z32 z30
theorem z467 {d : Int} (l : List Tree) (hl : l.length ≤ maxLen) (p : Tree → Int → Bool) (nx : Tree → Int → Int) (okS : Int → Prop) (hok : ∀ x s, okS s → p x s = false → okS (nx x s)) (f : FuncId) (s : Int) (h0 : okS s)
    (hf:∀ x∈l,∀ s,okS s→CallsA Tryz.prog f [z20 Tree.cs' x,.pt [.int d],.ptr 1 none 0] [.cells 1 [[.int s]],.cells 1 [[.ptr 0 none 0]]] (.bool (p x s)) [.cells 1 [[.int (nx x s)]],.cells 1 [[.ptr 0 none 0]]]) :
    CallsA Tryz.prog 256 [lst 3 Tree.cs' l,.fn (.func f) [] [.pt [.int d],.ptr 1 none 0]] [.cells 1 [[.int s]],.cells 1 [[.ptr 0 none 0]]] (.int (idxS p nx l s 0).1) [.cells 1 [[.int (idxS p nx l s 0).2]],.cells 1 [[.ptr 0 none 0]]]:=by
  unfold maxLen at hl
  refine z7 z9 Tryz.func256 rfl rfl 19 Tryz.ntmps256 (by simp) ?_
  repeat' ((apply y4 ok;rfl;conv=>whnf))
  refine z85 (fun x:Nat×Int=>([(0,lst 3 Tree.cs' l),(1,.fn (.func f) [] [.pt [.int d],.ptr 1 none 0]),(7,.int l.length),(8,.int x.1)],[.cells 1 [[.int x.2]],.cells 1 [[.ptr 0 none 0]]])) (fun x=>x.1≤l.length∧okS x.2∧idxS p nx l s 0=idxS p nx (l.drop x.1) x.2 x.1) (fun x=>l.length - x.1) (0,s) ⟨by omega,h0,rfl⟩
    ⟨[0,1],rfl,by decide,rfl,⟨⟨rfl,rfl⟩,⟨rfl,rfl⟩,⟨rfl,rfl⟩,⟨rfl,rfl⟩,trivial⟩,⟨z24 rfl rfl,z24 rfl rfl,trivial⟩⟩ ?_
  rintro ⟨k,t⟩ ⟨hk1,hk2,hk3⟩
  dsimp only at hk1 hk2 hk3
  repeat' (first|(apply y4 ok;rfl;conv=>whnf)|(apply y50;(first|omega|(unfold inI;omega));conv=>whnf)|(with_reducible apply z8;omega;intro _;conv=>whnf)|(apply z5<;>intro _<;>conv=>whnf)|(apply z93<;>intro _<;>conv=>whnf)|(apply z35 [0,1] [] [] (hf l[k] (y51 _) t hk2);rfl;(focus ((repeat' (first|exact z14|apply z27))<;>(rfl)));rfl;rfl;rfl;rfl;rfl;(focus ((repeat' (first|exact z12|apply z15))<;>(exact z117 rfl rfl)));(exact .inl rfl);conv=>whnf))
  · rename_i h hkl h1
    rw [y86 hkl,idxS,if_pos h1] at hk3
    rw [hk3]
    exact z70 [0,1] (by decide) rfl rfl rfl ⟨z24 rfl rfl,z24 rfl rfl,trivial⟩
  · rename_i h hkl h1
    rw [y86 hkl,idxS,if_neg (by rw [h1];simp)] at hk3
    exact z78 (k+1,nx l[k] t) [0,1] ⟨by dsimp only;omega,hok _ _ hk2 h1,hk3⟩ (by dsimp only;omega) ⟨rfl,by decide,rfl,⟨⟨rfl,rfl⟩,⟨rfl,rfl⟩,⟨rfl,rfl⟩,⟨rfl,rfl⟩,trivial⟩,⟨z24 rfl rfl,z24 rfl rfl,trivial⟩⟩
  · rw [y91 (by omega),idxS] at hk3
    rw [hk3]
    exact z70 [0,1] (by decide) rfl rfl rfl ⟨z24 rfl rfl,z24 rfl rfl,trivial⟩
theorem z814 {d : Int} (l : List Tree) (hl : l.length ≤ maxLen) (p : Tree → Int → Bool) (nx : Tree → Int → Int) (okS : Int → Prop) (hok : ∀ x s, okS s → p x s = false → okS (nx x s)) (f : FuncId) (s : Int) (h0 : okS s)
    (hf:∀ x∈l,∀ s,okS s→CallsA Tryz.prog f [z20 Tree.cs' x,.pt [.int d],.ptr 1 none 0] [.cells 1 [[.int s]],.cells 1 [[.ptr 0 none 0]]] (.bool (p x s)) [.cells 1 [[.int (nx x s)]],.cells 1 [[.ptr 0 none 0]]]) :
    CallsA Tryz.prog 218 [lst 3 Tree.cs' l,.fn (.func f) [] [.pt [.int d],.ptr 1 none 0]] [.cells 1 [[.int s]],.cells 1 [[.ptr 0 none 0]]] (.bool (decide (0≤(idxS p nx l s 0).1))) [.cells 1 [[.int (idxS p nx l s 0).2]],.cells 1 [[.ptr 0 none 0]]]:=by
  refine z7 z9 Tryz.func218 rfl rfl 9 Tryz.ntmps218 (by simp) ?_
  repeat' (first|(apply y4 ok;rfl;conv=>whnf)|(apply z35 [0,1] [] [] (z467 (d:=d) l hl p nx okS hok f s h0 hf);rfl;(focus ((repeat' (first|exact z14|apply z27))<;>(rfl)));rfl;rfl;rfl;rfl;rfl;(focus ((repeat' (first|exact z12|apply z15))<;>(exact z117 rfl rfl)));(exact .inl rfl);conv=>whnf))
  exact z70 [0,1] (by decide) rfl rfl rfl ⟨z24 rfl rfl,z24 rfl rfl,trivial⟩
theorem z874 (k:Int):CallsA Tryz.prog 217 [.int k] [] (.int (if k=1∨k=2 then 0 else if k=4∨k=5∨k=7∨k=8 then 2 else 1)) []:=by
 refine z7 z9 Tryz.func217 rfl rfl 12 Tryz.ntmps217 (by simp) ?_
 repeat' (first|(apply y4 ok;rfl;conv=>whnf)|(apply z5<;>intro _<;>conv=>whnf))
 all_goals (refine z42 rfl rfl ?_;first|(rw [if_pos (by omega)];rfl)|(rw [if_neg (by omega),if_pos (by omega)];rfl)|(rw [if_neg (by omega),if_neg (by omega)];rfl))
theorem walkF_ok (t:Tree):t.mx→∀ d n:Int,0≤d→d≤100→0≤n→n≤12→CallsA Tryz.prog 163 [z20 Tree.cs' t,.int d,.ptr 0 none 0] [.cells 1 [[.int n]]] (.bool (t.walkF d n).2) [.cells 1 [[.int (t.walkF d n).1]]]:=by
  induction t using y32 with|h t ih=>?_
  intro hm d n hd0 hd1 h0 h1
  rw [y34] at hm
  have hs:=Tree.walkF_spec.1
  have hk:d≤6→n+1≤12→CallsA Tryz.prog 218 [lst 3 Tree.cs' t.kids,.fn (.func 219) [] [.pt [.int d],.ptr 1 none 0]] [.cells 1 [[.int (n+1)]],.cells 1 [[.ptr 0 none 0]]] (.bool (!(Tree.walkFs t.kids (d+1) (n+1)).2)) [.cells 1 [[.int (Tree.walkFs t.kids (d+1) (n+1)).1]],.cells 1 [[.ptr 0 none 0]]]:=by
    intro hd hn
    have h:=z814 (d:=d) t.kids hm.1 (fun x s=>!(x.walkF (d+1) s).2) (fun x s=>(x.walkF (d+1) s).1) (fun s=>0≤s∧s≤12) (fun x s h1 h2=>by
      obtain ⟨a1,a2,a3,a4⟩:=hs x (d+1) s h1.1 h1.2
      have h3:(x.walkF (d+1) s).2=true:=by simpa using h2
      have:=(a1.1 h3).2
      rw [← a2 h3] at this
      exact ⟨by omega,this⟩) 219 (n+1) ⟨by omega,by omega⟩ (fun x hx s h=>by
        have hc:=ih x hx (hm.2 x hx) (d+1) s (by omega) (by omega) h.1 h.2
        refine z7 z9 Tryz.func219 rfl rfl 11 Tryz.ntmps219 (by simp) ?_
        repeat' (first|(apply y4 ok;rfl;conv=>whnf)|(apply y50;((unfold inI;omega));conv=>whnf)|(apply z35 [0] [] [] (hc);rfl;(focus ((repeat' (first|exact z14|apply z27))<;>(rfl)));rfl;rfl;rfl;rfl;rfl;(focus ((repeat' (first|exact z12|apply z15))<;>(exact z117 rfl rfl)));(exact .inl rfl);conv=>whnf))
        exact z70 [0,1] (by decide) rfl rfl rfl ⟨z24 rfl rfl,z24 rfl rfl,trivial⟩)
    rw [y49 (d+1) t.kids (n+1) 0,Bool.not_not]
    exact h
  have hk2:=fun h1 h2=>by
    have:=hk h1 h2
    unfold lst at this
    rw [← y22] at this
    exact this
  refine z7 z9 Tryz.func163 rfl rfl 51 Tryz.ntmps163 (by simp) ?_
  repeat' (first|(apply y4 ok;rfl;conv=>whnf)|(apply z17;kernel_rfl;conv=>whnf)|(apply y50;((unfold inI;omega));conv=>whnf)|(apply z5<;>intro _<;>conv=>whnf)|(apply z28<;>intro _<;>conv=>whnf)|(apply z96<;>intro _<;>conv=>whnf)|(apply z0 (z223 _ 1 10);rfl;rfl;conv=>whnf)|(apply z0 (z223 _ 0 2);rfl;rfl;conv=>whnf)|(apply z0 (z223 _ 0 0);rfl;rfl;conv=>whnf)|(apply z0 (z874 t.kind);rfl;rfl;conv=>whnf)|(apply z35 [0,3] [2] [] (hk2 (by omega) (by omega));rfl;(focus ((repeat' (first|exact z14|apply z27))<;>(rfl)));rfl;rfl;rfl;rfl;rfl;(focus ((repeat' (first|exact z12|apply z15))<;>(exact z117 rfl rfl)));((refine .inr ⟨rfl,?_⟩;repeat' (first|exact True.intro|apply y50|exact rfl)));conv=>whnf))
  all_goals first
    | (have e : t.walkF d n = (n + 1, false) := by
        rw [y48,if_neg]
        clear hk hk2 hs ih
        rintro ⟨c1,c2,c3,c4,c5⟩
        try simp only [z308,z119] at *
        unfold z386 at c4
        unfold z209 at c5
        grind
       rw [e]
       exact z70 [0] (by decide) rfl rfl rfl ⟨z24 rfl rfl,trivial⟩)
    | (have e : t.walkF d n = Tree.walkFs t.kids (d + 1) (n + 1) := by
        rw [y48,if_pos]
        clear hk hk2 hs ih
        try simp only [z308,z119] at *
        unfold z386 z209
        grind
       rw [e]
       refine z70 [0] (by decide) rfl rfl ?_ ⟨z24 rfl rfl,trivial⟩
       show AC.raw (.bool (!!_))=_
       rw [Bool.not_not];rfl)
theorem z1035 (t:Tree) (hm:t.mx):CallsA Tryz.prog 103 [z20 Tree.cs' t] [] (.int (if t.fmB=true then (t.walkF 1 0).1 else 0)) []:=by
 have hk:=walkF_ok t hm 1 0 (by omega) (by omega) (by omega) (by omega)
 unfold Tree.fmB
 refine z7 z9 Tryz.func103 rfl rfl 8 Tryz.ntmps103 (by simp) ?_
 repeat' (first|(apply y4 ok;rfl;conv=>whnf)|(apply z96<;>intro _<;>conv=>whnf)|(apply z35 [1] [] [] (hk);rfl;(focus ((repeat' (first|exact z14|apply z27))<;>(rfl)));rfl;rfl;rfl;rfl;rfl;(focus ((repeat' (first|exact z12|apply z15))<;>(exact z117 rfl rfl)));(exact .inl rfl);conv=>whnf))
 all_goals exact z522 rfl (by simp [*])
theorem z115 (t:Tree) (hm:t.mx):CallsA Tryz.prog 42 [z20 Tree.cs' t] [] (.bool t.fmB) []:=by
 have hk:=z1035 t hm
 have e:decide (0 < if t.fmB=true then (t.walkF 1 0).1 else 0)=t.fmB:=by
  by_cases h:t.fmB=true
  ·have h2:=(Tree.walkF_spec.1 t 1 0 (by omega) (by omega)).2.1 h
   have h3:=Tree.count_pos.1 t (7 - 1)
   rw [h,if_pos rfl];exact y89 (by omega)
  ·rw [if_neg h,(y78 _).mp h];rfl
 refine z7 z9 Tryz.func42 rfl rfl 6 Tryz.ntmps42 (by simp) ?_
 repeat' (first|(apply y4 ok;rfl;conv=>whnf)|(apply z0 (hk);rfl;rfl;conv=>whnf))
 all_goals exact z21 rfl e.symm
end Go.Proofs.YtnfoijopccdjeaaGreat
namespace Go.Proofs.YtnfoijopccdjeaaGreat
open Go.Gl
attribute [local irreducible] z16 AWP z29 z32 z30 RetS z36
def isSt (bs:List Int) (i:Int) (q:Int) (t:State) (q' : Int):Prop:=∃ a b:Int,t=⟨[i % 3],[a,b,0]⟩∧q'=q+1+1 ∧
 CallsA Tryz.prog 88 [.ptr 0 none 0,.int 3] [rdO bs q] (.int a) [rdO bs (q+1)]∧CallsA Tryz.prog 88 [.ptr 0 none 0,.int 2] [rdO bs (q+1)] (.int b) [rdO bs (q+1+1)]
def isRow (bs:List Int) (n:Nat) (q:Int) (r:List Int) (q' : Int):Prop:=∃ a b c:Int,r=(if c=0∧b≠a then [a,b] else [a])∧q'=q+1+1+1 ∧
 CallsA Tryz.prog 88 [.ptr 0 none 0,.int n] [rdO bs q] (.int a) [rdO bs (q+1)]∧CallsA Tryz.prog 88 [.ptr 0 none 0,.int n] [rdO bs (q+1)] (.int b) [rdO bs (q+1+1)] ∧
 CallsA Tryz.prog 88 [.ptr 0 none 0,.int 2] [rdO bs (q+1+1)] (.int c) [rdO bs (q+1+1+1)]
structure Small (bs:List Int) (q q' : Int) (g:Graph) (m:Nat) (pf pg:Nat→Int):Prop where
 num:CallsA Tryz.prog 91 [.ptr 0 none 0,.sref 1 0 6] [rdO bs q,.cells 1 ([3,4,2,5,1,6].map enI)] (.int m) [rdO bs (pf 0),.cells 1 ([3,4,2,5,1,6].map enI)]
 m1:1≤m
 m6:m≤6
 sl:g.st.length=m
 nl:g.nx.length=m
 st:∀ k (h:k < g.st.length),isSt bs (m - k) (pf k) g.st[k] (pf (k+1))
 mid:pf m=pg 0
 row:∀ k (h:k < g.nx.length),isRow bs m (pg k) g.nx[k] (pg (k+1))
 last:pg m=q'
 q0:q≤q'
 q1:q'≤q+40
theorem Small.sm {bs:List Int} {q q' : Int} {g:Graph} {m:Nat} {pf pg:Nat→Int} (h:Small bs q q' g m pf pg):g.sm:=by
 have h1:=h.sl
 have h2:=h.nl
 have h3:=h.m6
 refine ⟨by omega,by omega,fun s hs=>?_,fun r hr=>?_⟩
 ·obtain ⟨i,hi,rfl⟩:=List.mem_iff_getElem.1 hs
  obtain ⟨a,b,e,_⟩:=h.st i hi
  rw [e];exact ⟨by simp,by simp⟩
 ·obtain ⟨i,hi,rfl⟩:=List.mem_iff_getElem.1 hr
  obtain ⟨a,b,c,e,_⟩:=h.row i hi
  rw [e];split<;>simp
structure Graph.d (g:Graph):Prop where
 st:g.st.length≤100
 nx:g.nx.length≤101
 el:∀ s∈g.st,s.sm
 row:∀ r∈g.nx,r.length≤1001
theorem Graph.d.mx {g:Graph} (h:g.d):g.mx:=by
 have h1:=h.st
 have h2:=h.nx
 have h3:=h.el
 exact ⟨⟨by unfold maxLen;omega,fun s hs=>⟨by have:=(h3 s hs).a;unfold maxLen;omega,by have:=(h3 s hs).b;unfold maxLen;omega⟩⟩,by unfold maxLen;omega,fun l hl=>by have:=h.row l hl;unfold maxLen;omega⟩
structure Lab.d (l:List Tree):Prop where
 len:l.length≤3
 el:∀ t∈l,t.sz≤5
theorem Lab.d.mx {l:List Tree} (h:Lab.d l):Lmx l:=Lmx_of (by have:=h.len;omega) fun t ht=>by have:=h.el t ht;omega
structure CodeOk (bs:List Int):Prop where
 len:bs.length≤maxLen
 el:∀ x∈bs,0≤x∧x≤255
theorem CodeOk.take {bs:List Int} (h:CodeOk bs):BytesOk (bs.take 2000):=⟨by simp;omega,fun x hx=>h.el x (List.mem_of_mem_take hx)⟩
end Go.Proofs.YtnfoijopccdjeaaGreat
