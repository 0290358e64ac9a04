/- A part of the proofs over this program: T92, T93, T94, T140, T141, T142, T221, T222, T223, T143, T224. -/
import Derived.Test.YtjhgpfaodkchjaaGreatG0
import Derived.Test.YtjhgpfaodkchjaaGreatG1
import Derived.Test.YtjhgpfaodkchjaaGreatG2
import Derived.Test.YtjhgpfaodkchjaaGreatG3
import Derived.Test.YtjhgpfaodkchjaaGreatP0
import Derived.Test.YtjhgpfaodkchjaaGreatP1
import Derived.Test.YtjhgpfaodkchjaaGreatP2
set_option linter.all false
namespace Go.Proofs.YtjhgpfaodkchjaaGreat
open Go.Gl
attribute [local irreducible] z18 AWP z41 z46 z44 RetS z51
noncomputable def z334 (s:Sys):Option Graph:=if sysB s=true then grow s 61 [⟨List.replicate s.ps.length 0,s.init⟩] [] 0 else none
theorem z603 {q:Bool} : LocLe (.tup [.agg [.nils,.nils],.bool q]) (.tup [.agg (⟨[],[]⟩:Graph).cs,.bool q]):=z69 (.cons (z36 (.cons z38 (.cons z38 .nil))) (.cons (y83 _) .nil))
theorem z426 {objs:Nat→AObj} {π Bn:List Nat} {o:Nat} {l:List State} (ho:objs o=.cells 2 (l.map State.cs)) (h1:idx π o=none) (h2:inB Bn o=true):bor objs π Bn (.sref o 0 l.length)=lst 2 State.cs l :=
 z190 ho h1 h2 (by simp) (z32 (fun _=>rfl) _)
set_option maxHeartbeats 6400000 in
theorem z665 (s:Sys) (hsm:s.s1):CallsA Tryz.prog 108 [.agg s.cs] [] (.tup [.agg ((z334 s).getD ⟨[],[]⟩).cs,.bool (z334 s).isSome]) []:=by
 have c0:=z737 s hsm
 by_cases hv:sysB s=true
 ·have hs:=Sys.ok_of hv
  have hn3:=hs.n3
  have eb:z334 s=grow s 61 [⟨List.replicate s.ps.length 0,s.init⟩] [] 0:=by unfold z334;rw [if_pos hv]
  rw [if_pos hv,hv] at c0
  have hI0:GInv s [⟨List.replicate s.ps.length 0,s.init⟩] [] 0:=⟨by simp,by simp,by simp,rfl,fun t ht=>by
   rw [List.mem_singleton.1 ht]
   exact ⟨by simp,hs.init⟩,by simp⟩
  rw [eb]
  generalize (⟨List.replicate s.ps.length 0,s.init⟩:State)=st1 at *
  generalize hR:grow s 61 [st1] [] 0=R at *
  refine z7 z14 Tryz.func108 rfl rfl 96 Tryz.ntmps108 (by simp) ?_
  repeat' ((first|(apply y81 ok;rfl)|(apply z4 (c0);rfl;rfl))<;>conv=>whnf)
  refine y82 (y85 1 rfl) ?_
  refine z64 (fun x:Nat×List State×List (List Int)=>([(1,.ptr 0 none 0),(2,.ptr 1 none 0),(6,.ptr 2 none 0),(7,.int x.1)],[.cells 2 [s.cs],.cells 2 [[.nils,.nils]],.cells 2 [[.sref 3 0 x.2.1.length,.sref 4 0 x.2.2.length]],.cells 2 (x.2.1.map State.cs),.cells 1 (x.2.2.map encL)])) (fun x=>GInv s x.2.1 x.2.2 x.1∧grow s (61 - x.1) x.2.1 x.2.2 x.1=R) (fun x=>61 - x.1) (0,[st1],[]) ⟨hI0,hR⟩ (by refine swR [0,1,4,3,5] [] rfl rfl ?_;(repeat' first|exact y83 _|exact z37|apply y84|refine z8 rfl (z24) ?_|constructor)) ?_
  rintro ⟨i,S,G⟩ ⟨hI,hg⟩
  simp only at hI hg
  have hS60:=hI.n
  have hGi:=hI.g
  have hile:=hI.le
  by_cases hil:i < S.length
  ·obtain ⟨st0,hst⟩:∃ st0,S[i]?=some st0:=⟨S[i],y43 hil⟩
   have h0:=hI.st st0 (List.mem_of_getElem? hst)
   rw [show 61 - i=(60 - i)+1 by omega,grow,hst] at hg
   dsimp only at hg
   have cS:=z965 s hs st0 h0
   have hLl:=z697 hs (st:=st0)
   have hLo:∀ x∈z555 s st0,x.ok s:=fun x hx=>z876 x hx
   have gS:(S.map State.cs)[i]?=some (State.cs st0):=by rw [y49,hst];rfl
   generalize z555 s st0=LST at *
   generalize hRIN:inn s st0 LST S []=RIN at *
   repeat' ((first|(apply y81 ok;rfl)|(apply z31;kernel_rfl)|(refine z13 (i:=i) rfl gS ?_)|(apply y41;omega)|((apply z6)<;>intro _)|(apply z4 (cS);rfl;rfl))<;>conv=>whnf)
   all_goals first|(exfalso;dsimp only at *;omega)|skip
   refine z64 (fun x:Nat×List State×List Int=>([(1,.ptr 0 none 0),(2,.ptr 1 none 0),(6,.ptr 2 none 0),(7,.int i),(8,lst 4 Stp.cs LST),(9,.sref 5 0 x.2.2.length),(10,.int x.1)],[.cells 2 [s.cs],.cells 2 [[.nils,.nils]],.cells 2 [[.sref 3 0 x.2.1.length,.sref 4 0 G.length]],.cells 2 (x.2.1.map State.cs),.cells 1 (G.map encL),.cells 1 (x.2.2.map enI)])) (fun x=>x.1≤LST.length∧x.2.1.length≤60∧(∀ t∈x.2.1,t.ok s)∧x.2.1[i]?=some st0∧x.2.2.length≤x.1∧inn s st0 (LST.drop x.1) x.2.1 x.2.2=RIN) (fun x=>LST.length - x.1) (0,S,[]) ⟨by simp,hS60,hI.st,hst,by simp,hRIN⟩ (by refine swR [0,1,2,3,4,5] [] rfl rfl ?_;(repeat' first|exact y83 _|exact z11 _|apply y84|((refine z8 rfl ?_ ?_);(focus ((repeat' (first|exact z24|exact z5 (fun _=>rfl)));done)))|constructor)) ?_
   rintro ⟨k,S',N⟩ ⟨hk,hS',hSo,hSi,hN,hin⟩
   simp only at hk hS' hSo hSi hN hin
   by_cases hkl:k < LST.length
   ·rw [y76 hkl,inn] at hin
    have hx:=hLo LST[k] (y42 _)
    have g1:(LST.map Stp.cs)[k]?=some (Stp.cs LST[k]):=by rw [y49,y43 hkl];rfl
    have c83:=z966 s hs st0 h0 LST[k] hx
    have hto:=z766 hs h0 hx
    have g0:(S'.map State.cs)[i]?=some (State.cs st0):=by rw [y49,hSi];rfl
    have hiS:i < S'.length:=(List.getElem?_eq_some_iff.1 hSi).1
    generalize z240 s st0 LST[k]=to at *
    have c84:=z1093 S' to (by omega) (fun t ht=>(hSo t ht).sm hs) (hto.sm hs)
    have hfr:=z842 to S' 0 (by omega)
    generalize z321 to S' 0=n at *
    generalize LST[k]=x at *
    have cN:=fun v=>z640 N (by unfold maxLen;omega) v
    by_cases hn:n < 0
    ·rw [if_pos hn] at hin
     by_cases h60:60≤(S'.length:Int)
     ·rw [if_pos h60] at hin
      subst hin
      dsimp only at hg
      subst hg
      repeat' ((first|(apply y81 ok;rfl)|(apply z31;kernel_rfl)|(refine z13 (i:=i) rfl g0 ?_)|(refine z13 (i:=k) rfl g1 ?_)|(apply y41;first|omega|(dsimp only;omega)|((try dsimp only);simp only [y47,y46,y45,y44,y56,y57];omega)|exact ⟨rfl,z21 rfl z29⟩)|((apply z6)<;>intro _)|(apply z4 (c83);rfl;rfl)|(apply z95 [] [3] [] c84;(focus (exact z48 (z426 rfl rfl rfl) (z48 rfl z72)));rfl;rfl;(focus ((repeat' exact z16)<;>fail));((refine .inr ⟨rfl,?_⟩;repeat' exact True.intro))))<;>conv=>whnf)
      all_goals first|(exfalso;omega)|(exfalso;dsimp only at *;omega)|skip
      all_goals refine y11 [] [] rfl rfl rfl ?_
      all_goals exact RetS.done z603 .nil
     ·rw [if_neg h60] at hin
      have cM:=cN S'.length
      by_cases hm:(S'.length:Int)∈N
      ·rw [if_pos hm] at hin
       rw [y78 hm] at cM
       repeat' ((first|(apply y81 ok;rfl)|(apply z31;kernel_rfl)|(refine z13 (i:=i) rfl g0 ?_)|(refine z13 (i:=k) rfl g1 ?_)|(apply y41;first|omega|(unfold inI;omega)|(dsimp only;omega)|((try dsimp only);simp only [y47,y46,y45,y44,y56,y57];omega)|exact ⟨rfl,z21 rfl z29⟩)|((apply z6)<;>intro _)|(apply z4 (c83);rfl;rfl)|((first|(apply z95 [] [3] [] c84;(focus (exact z48 (z426 rfl rfl rfl) (z48 rfl z72)));rfl)|(apply z95 [] [5] [] cM;(focus ((repeat' first|exact z72|apply z48)<;>first|exact z117 rfl rfl rfl|rfl));rfl));rfl;(focus ((repeat' exact z16)<;>fail));((refine .inr ⟨rfl,?_⟩;repeat' exact True.intro))))<;>conv=>whnf)
       all_goals first|(exfalso;omega)|(exfalso;contradiction)|skip
       all_goals refine z26 (k+1,S'++[to],N) ⟨by omega,by simp;omega,fun t ht=>by rcases List.mem_append.1 ht with h|h;exact hSo t h;rw [List.mem_singleton.1 h];exact hto,by rw [← hSi];exact y63 hiS,by show N.length≤k+1;omega,hin⟩ (by show LST.length - (k+1) < LST.length - k;omega) (by refine swR [0,1,2,8,4,5] [] rfl rfl ?_;(repeat' first|exact y83 _|exact z11 _|(refine z50 ?_;((simp;done)))|apply y84|((first|refine z33 rfl ?_ ?_|refine z8 rfl ?_ ?_);(focus ((repeat' (first|exact z5 (fun _=>rfl)|apply z22));done)))|(refine z76 ?_ ?_;(focus (omega)))|constructor))
      ·rw [if_neg hm] at hin
       rw [y79 hm] at cM
       repeat' ((first|(apply y81 ok;rfl)|(apply z31;kernel_rfl)|(refine z13 (i:=i) rfl g0 ?_)|(refine z13 (i:=k) rfl g1 ?_)|(apply y41;first|omega|(unfold inI;omega)|(dsimp only;omega)|((try dsimp only);simp only [y47,y46,y45,y44,y56,y57];omega)|exact ⟨rfl,z21 rfl z29⟩)|((apply z6)<;>intro _)|(apply z4 (c83);rfl;rfl)|((first|(apply z95 [] [3] [] c84;(focus (exact z48 (z426 rfl rfl rfl) (z48 rfl z72)));rfl)|(apply z95 [] [5] [] cM;(focus ((repeat' first|exact z72|apply z48)<;>first|exact z117 rfl rfl rfl|rfl));rfl));rfl;(focus ((repeat' exact z16)<;>fail));((refine .inr ⟨rfl,?_⟩;repeat' exact True.intro))))<;>conv=>whnf)
       all_goals first|(exfalso;omega)|(exfalso;contradiction)|skip
       all_goals refine z26 (k+1,S'++[to],N++[(S'.length:Int)]) ⟨by omega,by simp;omega,fun t ht=>by rcases List.mem_append.1 ht with h|h;exact hSo t h;rw [List.mem_singleton.1 h];exact hto,by rw [← hSi];exact y63 hiS,by simp;omega,hin⟩ (by show LST.length - (k+1) < LST.length - k;omega) (by refine swR [0,1,2,8,4,10] [] rfl rfl ?_;(repeat' first|exact y83 _|exact z11 _|(refine z50 ?_;((simp;done)))|apply y84|((first|refine z33 rfl ?_ ?_|refine z8 rfl ?_ ?_);(focus ((repeat' (first|exact z5 (fun _=>rfl)|apply z22));done)))|(refine z76 ?_ ?_;(focus (omega)))|constructor))
    ·rw [if_neg hn] at hin
     by_cases h60:60≤n
     ·rw [if_pos h60] at hin
      subst hin
      dsimp only at hg
      subst hg
      repeat' ((first|(apply y81 ok;rfl)|(apply z31;kernel_rfl)|(refine z13 (i:=i) rfl g0 ?_)|(refine z13 (i:=k) rfl g1 ?_)|(apply y41;omega)|((apply z6)<;>intro _)|(apply z4 (c83);rfl;rfl)|(apply z95 [] [3] [] c84;(focus (exact z48 (z426 rfl rfl rfl) (z48 rfl z72)));rfl;rfl;(focus ((repeat' exact z16)<;>fail));((refine .inr ⟨rfl,?_⟩;repeat' exact True.intro))))<;>conv=>whnf)
      all_goals (exfalso;omega)
      all_goals refine y11 [] [] rfl rfl rfl ?_
      all_goals exact RetS.done z603 .nil
     ·rw [if_neg h60] at hin
      have cM:=cN n
      by_cases hm:n∈N
      ·rw [if_pos hm] at hin
       rw [y78 hm] at cM
       repeat' ((first|(apply y81 ok;rfl)|(apply z31;kernel_rfl)|(refine z13 (i:=i) rfl g0 ?_)|(refine z13 (i:=k) rfl g1 ?_)|(apply y41;first|omega|(unfold inI;omega)|(dsimp only;omega))|((apply z6)<;>intro _)|(apply z4 (c83);rfl;rfl)|((first|(apply z95 [] [3] [] c84;(focus (exact z48 (z426 rfl rfl rfl) (z48 rfl z72)));rfl)|(apply z95 [] [5] [] cM;(focus ((repeat' first|exact z72|apply z48)<;>first|exact z117 rfl rfl rfl|rfl));rfl));rfl;(focus ((repeat' exact z16)<;>fail));((refine .inr ⟨rfl,?_⟩;repeat' exact True.intro))))<;>conv=>whnf)
       all_goals try (exfalso;omega)
       all_goals refine z26 (k+1,S',N) ⟨by omega,hS',hSo,hSi,by show N.length≤k+1;omega,hin⟩ (by show LST.length - (k+1) < LST.length - k;omega) (by refine swR [0,1,2,3,4,5] [] rfl rfl ?_;(repeat' first|exact y83 _|exact z11 _|apply y84|refine z8 rfl (z5 (fun _=>rfl)) ?_|constructor))
      ·rw [if_neg hm] at hin
       rw [y79 hm] at cM
       repeat' ((first|(apply y81 ok;rfl)|(apply z31;kernel_rfl)|(refine z13 (i:=i) rfl g0 ?_)|(refine z13 (i:=k) rfl g1 ?_)|(apply y41;first|omega|(unfold inI;omega)|(dsimp only;omega)|((try dsimp only);simp only [y47,y46,y45,y44,y56,y57];omega)|exact ⟨rfl,z21 rfl z29⟩)|((apply z6)<;>intro _)|(apply z4 (c83);rfl;rfl)|((first|(apply z95 [] [3] [] c84;(focus (exact z48 (z426 rfl rfl rfl) (z48 rfl z72)));rfl)|(apply z95 [] [5] [] cM;(focus ((repeat' first|exact z72|apply z48)<;>first|exact z117 rfl rfl rfl|rfl));rfl));rfl;(focus ((repeat' exact z16)<;>fail));((refine .inr ⟨rfl,?_⟩;repeat' exact True.intro))))<;>conv=>whnf)
       all_goals try (exfalso;omega)
       all_goals refine z26 (k+1,S',N++[n]) ⟨by omega,hS',hSo,hSi,by simp;omega,hin⟩ (by show LST.length - (k+1) < LST.length - k;omega) (by refine swR [0,1,2,3,4,8] [] rfl rfl ?_;(repeat' first|exact y83 _|exact z11 _|(refine z50 ?_;((simp;done)))|apply y84|((first|refine z33 rfl ?_ ?_|refine z8 rfl ?_ ?_);(focus ((repeat' (first|exact z5 (fun _=>rfl)|apply z22));done)))|(refine z76 ?_ ?_;(focus (omega)))|constructor))
   ·rw [y80 (by omega),inn] at hin
    subst hin
    dsimp only at hg
    have hiS:i < S'.length:=(List.getElem?_eq_some_iff.1 hSi).1
    have hnext:GInv s S' (G++[z710 LST N i]) (i+1):=⟨by omega,hS',by omega,by simp [hGi],hSo,fun r hr=>by
     rcases List.mem_append.1 hr with h|h
     ·exact hI.row r h
     ·rw [List.mem_singleton.1 h]
      unfold z710
      split<;>(try simp)<;>omega⟩
    rw [show 60 - i=61 - (i+1) by omega] at hg
    by_cases hz:LST=[]
    ·have er:z710 LST N i=N++[(i:Int)]:=by unfold z710;rw [if_pos hz]
     have hz0:LST.length=0:=by rw [hz];rfl
     rw [er] at hg hnext
     repeat' ((first|(apply y81 ok;rfl)|(apply y41;first|omega|(unfold inI;omega)|(dsimp only;omega)|((try dsimp only);simp only [y47,y46,y45,y44,y56,y57];omega)|exact ⟨rfl,z21 rfl z29⟩)|((first|(with_reducible apply z9;omega)|(apply z9;omega));intro _)|((apply z6)<;>intro _))<;>conv=>whnf)
     all_goals try (exfalso;omega)
     all_goals refine z26 (i+1,S',G++[N++[(i:Int)]]) ⟨hnext,hg⟩ (by show 61 - (i+1) < 61 - i;omega) (by refine swR [0,1,2,3,9] [7] rfl rfl ?_;(repeat' first|exact y83 _|exact z11 _|(refine z50 ?_;((simp;done)))|apply y84|((first|refine z33 rfl ?_ ?_|refine z8 rfl ?_ ?_);(focus ((repeat' (first|exact z5 (fun _=>rfl)|apply z22));done)))|(refine z76 ?_ ?_;(focus (omega)))|((apply z83 rfl rfl rfl);(focus ((repeat (first|exact z32 (fun _=>rfl) _|apply z177|apply z245|rfl));done));(focus (((simp;done));done)))|(refine z78 ?_ ?_;(focus (simp;done)))|constructor))
    ·have er:z710 LST N i=N:=by unfold z710;rw [if_neg hz]
     have hz0:LST.length≠0:=fun h=>hz (y71 h)
     rw [er] at hg hnext
     repeat' ((first|(apply y81 ok;rfl)|(apply y41;first|omega|(unfold inI;omega)|((try dsimp only);simp only [y47,y46,y45,y44,y56,y57];omega)|exact ⟨rfl,z21 rfl z29⟩)|((first|(with_reducible apply z9;omega)|(apply z9;omega));intro _)|((apply z6)<;>intro _))<;>conv=>whnf)
     all_goals try (exfalso;omega)
     all_goals refine z26 (i+1,S',G++[N]) ⟨hnext,hg⟩ (by show 61 - (i+1) < 61 - i;omega) (by refine swR [0,1,2,3,7] [5] rfl rfl ?_;(repeat' first|exact y83 _|exact z11 _|(refine z50 ?_;((simp;done)))|apply y84|((first|refine z33 rfl ?_ ?_|refine z8 rfl ?_ ?_);(focus ((repeat' (first|exact z5 (fun _=>rfl)|apply z22));done)))|(refine z76 ?_ ?_;(focus (omega)))|((apply z83 rfl rfl rfl);(focus ((repeat ((exact z32 (fun _=>rfl) _)));done));(focus (((simp;done));done)))|constructor))
  ·have hn:S[i]?=none:=List.getElem?_eq_none_iff.2 (by omega)
   rw [show 61 - i=(60 - i)+1 by omega,grow,hn] at hg
   dsimp only at hg
   subst hg
   repeat' ((first|(apply y81 ok;rfl)|(apply y41;omega)|(((apply z9;omega));intro _)|((apply z6)<;>intro _))<;>conv=>whnf)
   all_goals first|(exfalso;contradiction)|skip
   all_goals (refine rsD [] [3,4] rfl ?_;(repeat' first|exact y83 _|((apply z43 rfl rfl rfl);(focus ((repeat ((exact z32 (fun _=>rfl) _)));done));(focus (((simp;done));done)))|apply z36|apply z69|constructor))
 ·have eb:z334 s=none:=by unfold z334;rw [if_neg hv]
  rw [if_neg hv,(y69 _).mp hv] at c0
  rw [eb]
  refine z7 z14 Tryz.func108 rfl rfl 96 Tryz.ntmps108 (by simp) ?_
  repeat' ((first|(apply y81 ok;rfl)|(apply z4 (c0);rfl;rfl))<;>conv=>whnf)
  all_goals refine y11 [] [] rfl rfl rfl ?_
  all_goals exact RetS.done z603 .nil
def isSt (bs:List Int) (i:Int) (q:Int) (t:State) (q' : Int):Prop:=∃ a b:Int,t=⟨[i % 3],[a,b,0]⟩∧q'=q+1+1 ∧
 CallsA Tryz.prog 101 [.ptr 0 none 0,.int 3] [rdO bs q] (.int a) [rdO bs (q+1)]∧CallsA Tryz.prog 101 [.ptr 0 none 0,.int 2] [rdO bs (q+1)] (.int b) [rdO bs (q+1+1)]
def isRow (bs:List Int) (n:Nat) (q:Int) (r:List Int) (q' : Int):Prop:=∃ a b c:Int,r=(if c=0∧b≠a then [a,b] else [a])∧q'=q+1+1+1 ∧
 CallsA Tryz.prog 101 [.ptr 0 none 0,.int n] [rdO bs q] (.int a) [rdO bs (q+1)]∧CallsA Tryz.prog 101 [.ptr 0 none 0,.int n] [rdO bs (q+1)] (.int b) [rdO bs (q+1+1)] ∧
 CallsA Tryz.prog 101 [.ptr 0 none 0,.int 2] [rdO bs (q+1+1)] (.int c) [rdO bs (q+1+1+1)]
structure Small (bs:List Int) (q q' : Int) (g:Graph) (m:Nat) (pf pg:Nat→Int):Prop where
 num:CallsA Tryz.prog 104 [.ptr 0 none 0,.sref 1 0 6] [rdO bs q,.cells 1 ([3,4,2,5,1,6].map enI)] (.int m) [rdO bs (pf 0),.cells 1 ([3,4,2,5,1,6].map enI)]
 m1:1≤m
 m6:m≤6
 sl:g.st.length=m
 nl:g.nx.length=m
 st:∀ k (h:k < g.st.length),isSt bs (m - k) (pf k) g.st[k] (pf (k+1))
 mid:pf m=pg 0
 row:∀ k (h:k < g.nx.length),isRow bs m (pg k) g.nx[k] (pg (k+1))
 last:pg m=q'
 q0:q≤q'
 q1:q'≤q+40
theorem z879 (bs:List Int) (hb:BytesOk bs) (q:Int) (hq:0≤q∧q≤999990000):∃ g q' m pf pg,Small bs q q' g m pf pg:=by
 obtain ⟨w,mw,cw⟩:=z106 bs hb q (by omega) (by omega) [3,4,2,5,1,6] (by decide) (by decide)
 simp only [List.mem_cons,List.not_mem_nil,or_false] at mw
 obtain ⟨m,rfl⟩:∃ m:Nat,w=m:=⟨w.toNat,by omega⟩
 obtain ⟨S,pf,h1,h2,h3,h4⟩:=z493 (fun k r t r'=>isSt bs (m - k) r t r') (q+1) 2 m (fun k r hk a1 a2=>by
  obtain ⟨a,_,ca⟩:=z70 bs hb r 3 (by omega) (by omega) (by omega)
  obtain ⟨b,_,cb⟩:=z70 bs hb (r+1) 2 (by omega) (by omega) (by omega)
  exact ⟨_,_,⟨a,b,rfl,rfl,ca,cb⟩,by omega,by omega⟩)
 have h5:=h4 m (y50 _)
 obtain ⟨G,pg,g1,g2,g3,g4⟩:=z493 (fun _ r t r'=>isRow bs m r t r') (pf m) 3 m (fun k r hk a1 a2=>by
  obtain ⟨a,_,ca⟩:=z70 bs hb r m (by omega) (by omega) (by omega)
  obtain ⟨b,_,cb⟩:=z70 bs hb (r+1) m (by omega) (by omega) (by omega)
  obtain ⟨c,_,cc⟩:=z70 bs hb (r+1+1) 2 (by omega) (by omega) (by omega)
  exact ⟨_,_,⟨a,b,c,rfl,rfl,ca,cb,cc⟩,by omega,by omega⟩)
 have g5:=g4 m (y50 _)
 exact ⟨⟨S,G⟩,pg m,m,pf,pg,by rw [← h2] at cw;exact cw,by omega,by omega,h1,g1,h3,g2.symm,g3,rfl,by omega,by omega⟩
theorem Small.sm {bs:List Int} {q q' : Int} {g:Graph} {m:Nat} {pf pg:Nat→Int} (h:Small bs q q' g m pf pg):g.sm:=by
 have h1:=h.sl
 have h2:=h.nl
 have h3:=h.m6
 refine ⟨by omega,by omega,fun s hs=>?_,fun r hr=>?_⟩
 ·obtain ⟨i,hi,rfl⟩:=List.mem_iff_getElem.1 hs
  obtain ⟨a,b,e,_⟩:=h.st i hi
  rw [e];exact ⟨by simp,by simp⟩
 ·obtain ⟨i,hi,rfl⟩:=List.mem_iff_getElem.1 hr
  obtain ⟨a,b,c,e,_⟩:=h.row i hi
  rw [e];split<;>simp
set_option maxHeartbeats 6400000 in
theorem z962 (bs:List Int) (hb:BytesOk bs) (p:Int) (hp:few3 p):∃ (g:Graph) (p' : Int),(g.sm∧1≤g.st.length∧g.nx.length=g.st.length∧p≤p'∧p'≤p+5000)∧CallsA Tryz.prog 45 [.ptr 0 none 0] [rdO bs p] (.agg g.cs) [rdO bs p']:=by
 obtain ⟨v,⟨v0,v1⟩,cv⟩:=z70 bs hb p 3 (by omega) (by omega) (by omega)
 by_cases hv:0 < v
 ·obtain ⟨s,q0,⟨hs,s0,s1⟩,cs⟩:=z833 bs hb (p+1) ⟨by omega,by omega⟩
  have cB:=z665 s hs.s1
  by_cases hr:∃ g,z334 s=some g∧g.st.length≤24
  ·obtain ⟨g,hg,hl⟩:=hr
   have hI:GInv s g.st g.nx g.st.length:=by
    have h:=hg
    unfold z334 at h
    split at h
    ·rename_i hv2
     have hso:=Sys.ok_of hv2
     exact grow_inv hso 61 _ _ 0 g ⟨by simp,by simp,by simp,rfl,fun t ht=>by
      rw [List.mem_singleton.1 ht]
      exact ⟨by simp,hso.init⟩,by simp⟩ h
    ·cases h
   have hso:s.ok:=by
    have h:=hg
    unfold z334 at h
    split at h
    ·exact Sys.ok_of (by assumption)
    ·cases h
   refine ⟨g,q0,⟨⟨by omega,by have:=hI.g;omega,fun t ht=>(hI.st t ht).sm hso,fun r hr=>by have:=hI.row r hr;omega⟩,hI.one,hI.g,by omega,by omega⟩,?_⟩
   rw [hg] at cB
   simp only [Option.getD_some,Option.isSome_some] at cB
   refine z7 z14 Tryz.func45 rfl rfl 88 Tryz.ntmps45 (by simp) ?_
   repeat' ((first|(apply y81 ok;rfl)|((apply z6)<;>intro _)|(apply z4 (cB);rfl;rfl)|((first|(apply z40 [0] [] cv;rfl;rfl)|(apply z40 [0] [] cs;rfl;rfl));rfl))<;>conv=>whnf)
   all_goals try (exfalso;omega)
   all_goals (refine rsD [0] [] rfl ?_;(repeat' first|exact y83 _|apply y84|constructor))
  ·obtain ⟨g,q',m,pf,pg,F⟩:=z879 bs hb q0 (by omega)
   have m1:=F.m1
   have m6:=F.m6
   have sl:=F.sl
   have nl:=F.nl
   have z0:=F.q0
   have z1:=F.q1
   cases hB:z334 s with
   |none =>
    rw [hB] at cB
    simp only [Option.getD_none,Option.isSome_none] at cB
    refine ⟨g,q',⟨F.sm,by omega,by omega,by omega,by omega⟩,?_⟩
    have Fn:=F.num
    refine z7 z14 Tryz.func45 rfl rfl 88 Tryz.ntmps45 (by simp) ?_
    repeat' ((first|(apply y81 ok;rfl)|((apply z6)<;>intro _)|(apply z4 (cB);rfl;rfl)|((first|(apply z10 [0] [] cv;rfl;rfl)|(apply z10 [0] [] cs;rfl;rfl)|(apply z10 [0,4] [] Fn;rfl;rfl));rfl;(focus ((repeat' first|exact z16|apply z15)<;>first|exact z52 rfl rfl|(refine z19 ?_;((exact z5 fun _=>rfl)))))))<;>conv=>whnf)
    all_goals try (exfalso;omega)
    all_goals
     refine y82 (y85 2 rfl) ?_
     refine z64 (fun k:Nat=>([(0,.ptr 0 none 0),(2,.ptr 1 none 0),(5,.ptr 2 none 0),(6,.int (m - k))],[rdO bs (pf k),.cells 2 [[.nils,.nils]],.cells 2 [[.sref 3 0 k,.nils]],.cells 2 ((g.st.take k).map State.cs)])) (fun k=>k≤m) (fun k=>m - k) 0 (by omega) (by refine swR [0,1,3,5] [] rfl rfl ?_;(repeat' first|exact y83 _|exact z37|apply y84|refine z8 rfl (z24) ?_|constructor)) ?_
     intro k hk
     by_cases hkm:k < m
     ·have hkl:k < g.st.length:=by omega
      obtain ⟨a,b,es,eq,ca,cb⟩:=F.st k hkl
      rw [← eq] at cb
      repeat' ((first|(apply y81 ok;rfl)|(apply z31;kernel_rfl)|(apply y41;first|omega|(unfold inI;omega)|((try dsimp only);simp only [y47,y46,y45,y44,y56,y57];omega)|exact ⟨rfl,z21 rfl z29⟩)|((apply z6)<;>intro _)|((first|(apply z40 [0] [] ca;rfl;rfl)|(apply z40 [0] [] cb;rfl;rfl));rfl))<;>conv=>whnf)
      all_goals try (exfalso;omega)
      all_goals refine z26 (k+1) (by omega) (by omega) (by refine swR [0,1,2,7] [4,5] rfl rfl ?_;(repeat' first|exact y83 _|(refine z107 ?_;omega)|apply y84|((refine z33 rfl ?_ ?_);(focus ((repeat' (first|exact z5 (fun _=>rfl)|apply z22));done)))|refine z125 (by omega) (by omega) ?_|refine z83 rfl rfl rfl rfl rfl ?_|constructor)<;>(rw [es];exact y83 _))
     ·have e:k=m:=by omega
      subst e
      rw [y55 (show g.st.length≤k by omega)]
      repeat' ((first|(apply y81 ok;rfl)|(apply y41;omega)|((apply z6)<;>intro _))<;>conv=>whnf)
      all_goals try (exfalso;omega)
      refine y82 (y85 1 rfl) ?_
      have Fm:=F.mid
      rw [Fm]
      refine z64 (fun i:Nat=>([(0,.ptr 0 none 0),(2,.ptr 1 none 0),(5,.ptr 2 none 0),(7,.int i)],[rdO bs (pg i),.cells 2 [[.nils,.nils]],.cells 2 [[.sref 3 0 k,.sref 4 0 i]],.cells 2 (g.st.map State.cs),.cells 1 ((g.nx.take i).map encL)])) (fun i=>i≤k) (fun i=>k - i) 0 (by omega) (by refine swR [0,1,2,3,4] [] rfl rfl ?_;(repeat' first|exact y83 _|exact z37|exact z11 _|apply y84|((refine z8 rfl ?_ ?_);(focus ((repeat' (first|exact z24|exact z5 (fun _=>rfl)));done)))|constructor)) ?_
      intro i hi
      by_cases hik:i < k
      ·have hil:i < g.nx.length:=by omega
       obtain ⟨a,b,c,er,eq,ca,cb,cc⟩:=F.row i hil
       rw [← eq] at cc
       by_cases hc:c=0
       ·by_cases hba:b=a
        ·rw [if_neg (fun h=>h.2 hba)] at er
         repeat' ((first|(apply y81 ok;rfl)|(apply y41;first|omega|(unfold inI;omega)|((try dsimp only);simp only [y47,y46,y45,y44,y56,y57];omega)|exact ⟨rfl,z21 rfl z29⟩)|apply z132|((first|apply z6|apply z35)<;>intro _)|((first|(apply z40 [0] [] ca;rfl;rfl)|(apply z40 [0] [] cb;rfl;rfl)|(apply z40 [0] [] cc;rfl;rfl));rfl))<;>conv=>whnf)
         all_goals try (exfalso;omega)
         all_goals refine z26 (i+1) (by omega) (by omega) (by refine swR [0,1,2,3,7] [5] rfl rfl ?_;(repeat' first|exact y83 _|exact z11 _|apply y84|((first|refine z33 rfl ?_ ?_|refine z8 rfl ?_ ?_);(focus ((repeat' (first|exact z5 (fun _=>rfl)|apply z22));done)))|refine z125 (by omega) (by omega) ?_|refine z83 rfl rfl rfl rfl rfl ?_|constructor)<;>((rw [er];exact y83 _)))
        ·rw [if_pos ⟨hc,hba⟩] at er
         repeat' ((first|(apply y81 ok;rfl)|(apply y41;first|omega|(unfold inI;omega)|((try dsimp only);simp only [y47,y46,y45,y44,y56,y57];omega)|exact ⟨rfl,z21 rfl z29⟩)|apply z132|((first|apply z6|apply z35)<;>intro _)|((first|(apply z40 [0] [] ca;rfl;rfl)|(apply z40 [0] [] cb;rfl;rfl)|(apply z40 [0] [] cc;rfl;rfl));rfl))<;>conv=>whnf)
         all_goals try (exfalso;omega)
         all_goals refine z26 (i+1) (by omega) (by omega) (by refine swR [0,1,2,3,9] [7] rfl rfl ?_;(repeat' first|exact y83 _|exact z11 _|apply y84|((first|refine z33 rfl ?_ ?_|refine z8 rfl ?_ ?_);(focus ((repeat' (first|exact z5 (fun _=>rfl)|apply z22));done)))|refine z125 (by omega) (by omega) ?_|((apply z83 rfl rfl rfl);(focus ((repeat (first|apply z177|apply z245|rfl));done));(focus ((rfl);done)))|constructor)<;>((rw [er];exact y83 _)))
       ·rw [if_neg (fun h=>hc h.1)] at er
        repeat' ((first|(apply y81 ok;rfl)|(apply y41;first|omega|(unfold inI;omega)|((try dsimp only);simp only [y47,y46,y45,y44,y56,y57];omega)|exact ⟨rfl,z21 rfl z29⟩)|apply z132|((first|apply z6|apply z35)<;>intro _)|((first|(apply z40 [0] [] ca;rfl;rfl)|(apply z40 [0] [] cb;rfl;rfl)|(apply z40 [0] [] cc;rfl;rfl));rfl))<;>conv=>whnf)
        all_goals try (exfalso;omega)
        all_goals refine z26 (i+1) (by omega) (by omega) (by refine swR [0,1,2,3,7] [5] rfl rfl ?_;(repeat' first|exact y83 _|exact z11 _|apply y84|((first|refine z33 rfl ?_ ?_|refine z8 rfl ?_ ?_);(focus ((repeat' (first|exact z5 (fun _=>rfl)|apply z22));done)))|refine z125 (by omega) (by omega) ?_|refine z83 rfl rfl rfl rfl rfl ?_|constructor)<;>((rw [er];exact y83 _)))
      ·have e:i=k:=by omega
       subst e
       rw [y55 (show g.nx.length≤i by omega)]
       repeat' ((first|(apply y81 ok;rfl)|((apply z6)<;>intro _))<;>conv=>whnf)
       all_goals try (exfalso;omega)
       all_goals rw [F.last]
       all_goals (refine rsD [0] [3,4] rfl ?_;(repeat' first|exact y83 _|(refine z282 ?_;omega)|apply y84|((apply z43 rfl rfl rfl);(focus ((repeat ((exact z32 (fun _=>rfl) _)));done));(focus (((simp;omega));done)))|apply z36|constructor))
   |some g0 =>
    have hl:¬(g0.st.length≤24):=fun h=>hr ⟨g0,hB,h⟩
    rw [hB] at cB
    simp only [Option.getD_some,Option.isSome_some] at cB
    refine ⟨g,q',⟨F.sm,by omega,by omega,by omega,by omega⟩,?_⟩
    have Fn:=F.num
    refine z7 z14 Tryz.func45 rfl rfl 88 Tryz.ntmps45 (by simp) ?_
    repeat' ((first|(apply y81 ok;rfl)|((apply z6)<;>intro _)|(apply z4 (cB);rfl;rfl)|((first|(apply z10 [0] [] cv;rfl;rfl)|(apply z10 [0] [] cs;rfl;rfl)|(apply z10 [0,4] [] Fn;rfl;rfl));rfl;(focus ((repeat' first|exact z16|apply z15)<;>first|exact z52 rfl rfl|(refine z19 ?_;((exact z5 fun _=>rfl)))))))<;>conv=>whnf)
    all_goals try (exfalso;omega)
    all_goals
     refine y82 (y85 2 rfl) ?_
     refine z64 (fun k:Nat=>([(0,.ptr 0 none 0),(2,.ptr 1 none 0),(5,.ptr 2 none 0),(6,.int (m - k))],[rdO bs (pf k),.cells 2 [[.nils,.nils]],.cells 2 [[.sref 3 0 k,.nils]],.cells 2 ((g.st.take k).map State.cs)])) (fun k=>k≤m) (fun k=>m - k) 0 (by omega) (by refine swR [0,1,3,5] [] rfl rfl ?_;(repeat' first|exact y83 _|exact z37|apply y84|refine z8 rfl (z24) ?_|constructor)) ?_
     intro k hk
     by_cases hkm:k < m
     ·have hkl:k < g.st.length:=by omega
      obtain ⟨a,b,es,eq,ca,cb⟩:=F.st k hkl
      rw [← eq] at cb
      repeat' ((first|(apply y81 ok;rfl)|(apply z31;kernel_rfl)|(apply y41;first|omega|(unfold inI;omega)|((try dsimp only);simp only [y47,y46,y45,y44,y56,y57];omega)|exact ⟨rfl,z21 rfl z29⟩)|((apply z6)<;>intro _)|((first|(apply z40 [0] [] ca;rfl;rfl)|(apply z40 [0] [] cb;rfl;rfl));rfl))<;>conv=>whnf)
      all_goals try (exfalso;omega)
      all_goals refine z26 (k+1) (by omega) (by omega) (by refine swR [0,1,2,7] [4,5] rfl rfl ?_;(repeat' first|exact y83 _|(refine z107 ?_;omega)|apply y84|((refine z33 rfl ?_ ?_);(focus ((repeat' (first|exact z5 (fun _=>rfl)|apply z22));done)))|refine z125 (by omega) (by omega) ?_|refine z83 rfl rfl rfl rfl rfl ?_|constructor)<;>(rw [es];exact y83 _))
     ·have e:k=m:=by omega
      subst e
      rw [y55 (show g.st.length≤k by omega)]
      repeat' ((first|(apply y81 ok;rfl)|(apply y41;omega)|((apply z6)<;>intro _))<;>conv=>whnf)
      all_goals try (exfalso;omega)
      refine y82 (y85 1 rfl) ?_
      have Fm:=F.mid
      rw [Fm]
      refine z64 (fun i:Nat=>([(0,.ptr 0 none 0),(2,.ptr 1 none 0),(5,.ptr 2 none 0),(7,.int i)],[rdO bs (pg i),.cells 2 [[.nils,.nils]],.cells 2 [[.sref 3 0 k,.sref 4 0 i]],.cells 2 (g.st.map State.cs),.cells 1 ((g.nx.take i).map encL)])) (fun i=>i≤k) (fun i=>k - i) 0 (by omega) (by refine swR [0,1,2,3,4] [] rfl rfl ?_;(repeat' first|exact y83 _|exact z37|exact z11 _|apply y84|((refine z8 rfl ?_ ?_);(focus ((repeat' (first|exact z24|exact z5 (fun _=>rfl)));done)))|constructor)) ?_
      intro i hi
      by_cases hik:i < k
      ·have hil:i < g.nx.length:=by omega
       obtain ⟨a,b,c,er,eq,ca,cb,cc⟩:=F.row i hil
       rw [← eq] at cc
       by_cases hc:c=0
       ·by_cases hba:b=a
        ·rw [if_neg (fun h=>h.2 hba)] at er
         repeat' ((first|(apply y81 ok;rfl)|(apply y41;first|omega|(unfold inI;omega)|((try dsimp only);simp only [y47,y46,y45,y44,y56,y57];omega)|exact ⟨rfl,z21 rfl z29⟩)|apply z132|((first|apply z6|apply z35)<;>intro _)|((first|(apply z40 [0] [] ca;rfl;rfl)|(apply z40 [0] [] cb;rfl;rfl)|(apply z40 [0] [] cc;rfl;rfl));rfl))<;>conv=>whnf)
         all_goals try (exfalso;omega)
         all_goals refine z26 (i+1) (by omega) (by omega) (by refine swR [0,1,2,3,7] [5] rfl rfl ?_;(repeat' first|exact y83 _|exact z11 _|apply y84|((first|refine z33 rfl ?_ ?_|refine z8 rfl ?_ ?_);(focus ((repeat' (first|exact z5 (fun _=>rfl)|apply z22));done)))|refine z125 (by omega) (by omega) ?_|refine z83 rfl rfl rfl rfl rfl ?_|constructor)<;>((rw [er];exact y83 _)))
        ·rw [if_pos ⟨hc,hba⟩] at er
         repeat' ((first|(apply y81 ok;rfl)|(apply y41;first|omega|(unfold inI;omega)|((try dsimp only);simp only [y47,y46,y45,y44,y56,y57];omega)|exact ⟨rfl,z21 rfl z29⟩)|apply z132|((first|apply z6|apply z35)<;>intro _)|((first|(apply z40 [0] [] ca;rfl;rfl)|(apply z40 [0] [] cb;rfl;rfl)|(apply z40 [0] [] cc;rfl;rfl));rfl))<;>conv=>whnf)
         all_goals try (exfalso;omega)
         all_goals refine z26 (i+1) (by omega) (by omega) (by refine swR [0,1,2,3,9] [7] rfl rfl ?_;(repeat' first|exact y83 _|exact z11 _|apply y84|((first|refine z33 rfl ?_ ?_|refine z8 rfl ?_ ?_);(focus ((repeat' (first|exact z5 (fun _=>rfl)|apply z22));done)))|refine z125 (by omega) (by omega) ?_|((apply z83 rfl rfl rfl);(focus ((repeat (first|apply z177|apply z245|rfl));done));(focus ((rfl);done)))|constructor)<;>((rw [er];exact y83 _)))
       ·rw [if_neg (fun h=>hc h.1)] at er
        repeat' ((first|(apply y81 ok;rfl)|(apply y41;first|omega|(unfold inI;omega)|((try dsimp only);simp only [y47,y46,y45,y44,y56,y57];omega)|exact ⟨rfl,z21 rfl z29⟩)|apply z132|((first|apply z6|apply z35)<;>intro _)|((first|(apply z40 [0] [] ca;rfl;rfl)|(apply z40 [0] [] cb;rfl;rfl)|(apply z40 [0] [] cc;rfl;rfl));rfl))<;>conv=>whnf)
        all_goals try (exfalso;omega)
        all_goals refine z26 (i+1) (by omega) (by omega) (by refine swR [0,1,2,3,7] [5] rfl rfl ?_;(repeat' first|exact y83 _|exact z11 _|apply y84|((first|refine z33 rfl ?_ ?_|refine z8 rfl ?_ ?_);(focus ((repeat' (first|exact z5 (fun _=>rfl)|apply z22));done)))|refine z125 (by omega) (by omega) ?_|refine z83 rfl rfl rfl rfl rfl ?_|constructor)<;>((rw [er];exact y83 _)))
      ·have e:i=k:=by omega
       subst e
       rw [y55 (show g.nx.length≤i by omega)]
       repeat' ((first|(apply y81 ok;rfl)|((apply z6)<;>intro _))<;>conv=>whnf)
       all_goals try (exfalso;omega)
       all_goals rw [F.last]
       all_goals (refine rsD [0] [3,4] rfl ?_;(repeat' first|exact y83 _|(refine z282 ?_;omega)|apply y84|((apply z43 rfl rfl rfl);(focus ((repeat ((exact z32 (fun _=>rfl) _)));done));(focus (((simp;omega));done)))|apply z36|constructor))
 ·obtain ⟨g,q',m,pf,pg,F⟩:=z879 bs hb (p+1) (by omega)
  have m1:=F.m1
  have m6:=F.m6
  have sl:=F.sl
  have nl:=F.nl
  have z0:=F.q0
  have z1:=F.q1
  refine ⟨g,q',⟨F.sm,by omega,by omega,by omega,by omega⟩,?_⟩
  have Fn:=F.num
  refine z7 z14 Tryz.func45 rfl rfl 88 Tryz.ntmps45 (by simp) ?_
  repeat' ((first|(apply y81 ok;rfl)|((apply z6)<;>intro _)|((first|(apply z10 [0] [] cv;rfl;rfl)|(apply z10 [0,3] [] Fn;rfl;rfl));rfl;(focus ((repeat' first|exact z16|apply z15)<;>first|exact z52 rfl rfl|(refine z19 ?_;((exact z5 fun _=>rfl)))))))<;>conv=>whnf)
  all_goals try (exfalso;omega)
  all_goals
   refine y82 (y85 2 rfl) ?_
   refine z64 (fun k:Nat=>([(0,.ptr 0 none 0),(2,.ptr 1 none 0),(5,.ptr 2 none 0),(6,.int (m - k))],[rdO bs (pf k),.cells 2 [[.nils,.nils]],.cells 2 [[.sref 3 0 k,.nils]],.cells 2 ((g.st.take k).map State.cs)])) (fun k=>k≤m) (fun k=>m - k) 0 (by omega) (by refine swR [0,1,2,4] [] rfl rfl ?_;(repeat' first|exact y83 _|exact z37|apply y84|refine z8 rfl (z24) ?_|constructor)) ?_
   intro k hk
   by_cases hkm:k < m
   ·have hkl:k < g.st.length:=by omega
    obtain ⟨a,b,es,eq,ca,cb⟩:=F.st k hkl
    rw [← eq] at cb
    repeat' ((first|(apply y81 ok;rfl)|(apply z31;kernel_rfl)|(apply y41;first|omega|(unfold inI;omega)|((try dsimp only);simp only [y47,y46,y45,y44,y56,y57];omega)|exact ⟨rfl,z21 rfl z29⟩)|((apply z6)<;>intro _)|((first|(apply z40 [0] [] ca;rfl;rfl)|(apply z40 [0] [] cb;rfl;rfl));rfl))<;>conv=>whnf)
    all_goals try (exfalso;omega)
    all_goals refine z26 (k+1) (by omega) (by omega) (by refine swR [0,1,2,7] [4,5] rfl rfl ?_;(repeat' first|exact y83 _|(refine z107 ?_;omega)|apply y84|((refine z33 rfl ?_ ?_);(focus ((repeat' (first|exact z5 (fun _=>rfl)|apply z22));done)))|refine z125 (by omega) (by omega) ?_|refine z83 rfl rfl rfl rfl rfl ?_|constructor)<;>(rw [es];exact y83 _))
   ·have e:k=m:=by omega
    subst e
    rw [y55 (show g.st.length≤k by omega)]
    repeat' ((first|(apply y81 ok;rfl)|(apply y41;omega)|((apply z6)<;>intro _))<;>conv=>whnf)
    all_goals try (exfalso;omega)
    refine y82 (y85 1 rfl) ?_
    have Fm:=F.mid
    rw [Fm]
    refine z64 (fun i:Nat=>([(0,.ptr 0 none 0),(2,.ptr 1 none 0),(5,.ptr 2 none 0),(7,.int i)],[rdO bs (pg i),.cells 2 [[.nils,.nils]],.cells 2 [[.sref 3 0 k,.sref 4 0 i]],.cells 2 (g.st.map State.cs),.cells 1 ((g.nx.take i).map encL)])) (fun i=>i≤k) (fun i=>k - i) 0 (by omega) (by refine swR [0,1,2,3,4] [] rfl rfl ?_;(repeat' first|exact y83 _|exact z37|exact z11 _|apply y84|((refine z8 rfl ?_ ?_);(focus ((repeat' (first|exact z24|exact z5 (fun _=>rfl)));done)))|constructor)) ?_
    intro i hi
    by_cases hik:i < k
    ·have hil:i < g.nx.length:=by omega
     obtain ⟨a,b,c,er,eq,ca,cb,cc⟩:=F.row i hil
     rw [← eq] at cc
     by_cases hc:c=0
     ·by_cases hba:b=a
      ·rw [if_neg (fun h=>h.2 hba)] at er
       repeat' ((first|(apply y81 ok;rfl)|(apply y41;first|omega|(unfold inI;omega)|((try dsimp only);simp only [y47,y46,y45,y44,y56,y57];omega)|exact ⟨rfl,z21 rfl z29⟩)|apply z132|((first|apply z6|apply z35)<;>intro _)|((first|(apply z40 [0] [] ca;rfl;rfl)|(apply z40 [0] [] cb;rfl;rfl)|(apply z40 [0] [] cc;rfl;rfl));rfl))<;>conv=>whnf)
       all_goals try (exfalso;omega)
       all_goals refine z26 (i+1) (by omega) (by omega) (by refine swR [0,1,2,3,7] [5] rfl rfl ?_;(repeat' first|exact y83 _|exact z11 _|apply y84|((first|refine z33 rfl ?_ ?_|refine z8 rfl ?_ ?_);(focus ((repeat' (first|exact z5 (fun _=>rfl)|apply z22));done)))|refine z125 (by omega) (by omega) ?_|refine z83 rfl rfl rfl rfl rfl ?_|constructor)<;>((rw [er];exact y83 _)))
      ·rw [if_pos ⟨hc,hba⟩] at er
       repeat' ((first|(apply y81 ok;rfl)|(apply y41;first|omega|(unfold inI;omega)|((try dsimp only);simp only [y47,y46,y45,y44,y56,y57];omega)|exact ⟨rfl,z21 rfl z29⟩)|apply z132|((first|apply z6|apply z35)<;>intro _)|((first|(apply z40 [0] [] ca;rfl;rfl)|(apply z40 [0] [] cb;rfl;rfl)|(apply z40 [0] [] cc;rfl;rfl));rfl))<;>conv=>whnf)
       all_goals try (exfalso;omega)
       all_goals refine z26 (i+1) (by omega) (by omega) (by refine swR [0,1,2,3,9] [7] rfl rfl ?_;(repeat' first|exact y83 _|exact z11 _|apply y84|((first|refine z33 rfl ?_ ?_|refine z8 rfl ?_ ?_);(focus ((repeat' (first|exact z5 (fun _=>rfl)|apply z22));done)))|refine z125 (by omega) (by omega) ?_|((apply z83 rfl rfl rfl);(focus ((repeat (first|apply z177|apply z245|rfl));done));(focus ((rfl);done)))|constructor)<;>((rw [er];exact y83 _)))
     ·rw [if_neg (fun h=>hc h.1)] at er
      repeat' ((first|(apply y81 ok;rfl)|(apply y41;first|omega|(unfold inI;omega)|((try dsimp only);simp only [y47,y46,y45,y44,y56,y57];omega)|exact ⟨rfl,z21 rfl z29⟩)|apply z132|((first|apply z6|apply z35)<;>intro _)|((first|(apply z40 [0] [] ca;rfl;rfl)|(apply z40 [0] [] cb;rfl;rfl)|(apply z40 [0] [] cc;rfl;rfl));rfl))<;>conv=>whnf)
      all_goals try (exfalso;omega)
      all_goals refine z26 (i+1) (by omega) (by omega) (by refine swR [0,1,2,3,7] [5] rfl rfl ?_;(repeat' first|exact y83 _|exact z11 _|apply y84|((first|refine z33 rfl ?_ ?_|refine z8 rfl ?_ ?_);(focus ((repeat' (first|exact z5 (fun _=>rfl)|apply z22));done)))|refine z125 (by omega) (by omega) ?_|refine z83 rfl rfl rfl rfl rfl ?_|constructor)<;>((rw [er];exact y83 _)))
    ·have e:i=k:=by omega
     subst e
     rw [y55 (show g.nx.length≤i by omega)]
     repeat' ((first|(apply y81 ok;rfl)|((apply z6)<;>intro _))<;>conv=>whnf)
     all_goals try (exfalso;omega)
     all_goals rw [F.last]
     all_goals (refine rsD [0] [3,4] rfl ?_;(repeat' first|exact y83 _|(refine z282 ?_;omega)|apply y84|((apply z43 rfl rfl rfl);(focus ((repeat ((exact z32 (fun _=>rfl) _)));done));(focus (((simp;omega));done)))|apply z36|constructor))
structure Graph.d (g:Graph):Prop where
 st:g.st.length≤100
 nx:g.nx.length≤101
 el:∀ s∈g.st,s.sm
 row:∀ r∈g.nx,r.length≤1001
theorem Graph.d.mx {g:Graph} (h:g.d):g.mx:=by
 have h1:=h.st
 have h2:=h.nx
 have h3:=h.el
 exact ⟨⟨by unfold maxLen;omega,fun s hs=>⟨by have:=(h3 s hs).a;unfold maxLen;omega,by have:=(h3 s hs).b;unfold maxLen;omega⟩⟩,by unfold maxLen;omega,fun l hl=>by have:=h.row l hl;unfold maxLen;omega⟩
structure Lab.d (l:List Tree):Prop where
 len:l.length≤3
 el:∀ t∈l,t.sz≤5
theorem Lab.d.mx {l:List Tree} (h:Lab.d l):Lmx l:=Lmx_of (by have:=h.len;omega) fun t ht=>by have:=h.el t ht;omega
structure CodeOk (bs:List Int):Prop where
 len:bs.length≤maxLen
 el:∀ x∈bs,0≤x∧x≤255
theorem CodeOk.take {bs:List Int} (h:CodeOk bs):BytesOk (bs.take 2000):=⟨by simp;omega,fun x hx=>h.el x (List.mem_of_mem_take hx)⟩
theorem mutG_ok (bs:List Int) (hb:BytesOk bs) (p:Int) (hp:few3 p):∃ (g0 g:Graph) (p1 p2:Int),CallsA Tryz.prog 45 [.ptr 0 none 0] [rdO bs p] (.agg g0.cs) [rdO bs p1]∧CallsA Tryz.prog 44 [.ptr 0 none 0,.agg g0.cs] [rdO bs p1] (.agg g.cs) [rdO bs p2]∧g.d∧p≤p2∧p2≤p+6000:=by
 obtain ⟨g0,p1,⟨h1,h2,h3,h4,h5⟩,c1⟩:=z962 bs hb p hp
 obtain ⟨g,p2,⟨k1,k2,k3,k4,k5,k6⟩,c2⟩:=z832 bs hb p1 ⟨by omega,by omega⟩ g0 h1 h2 h3
 exact ⟨g0,g,p1,p2,c1,c2,⟨k1,k2,k3,k4⟩,by omega,by omega⟩
end Go.Proofs.YtjhgpfaodkchjaaGreat
namespace Go.Proofs.YtjhgpfaodkchjaaGreat
open Go.Gl
attribute [local irreducible] z18 AWP z41 z46 z44
theorem z585 (k:Int):CallsA Tryz.prog 181 [.int k] [] (.int (z181 k)) []:=by
 refine z12 z14 Tryz.func181 rfl rfl 17 Tryz.ntmps181 (by simp) ?_
 repeat' (first|(apply y81 ok;rfl;conv=>whnf)|(apply z6<;>intro _<;>conv=>whnf))
 all_goals (refine z54 rfl rfl ?_;unfold z181;first|(rw [if_pos (by omega)];rfl)|(rw [if_neg (by omega),if_pos (by omega)];rfl)|(rw [if_neg (by omega),if_neg (by omega),if_pos (by omega)];rfl)|(rw [if_neg (by omega),if_neg (by omega),if_neg (by omega)];rfl))
theorem z804 (l:List Tree) (d:Int):Tree.shapeFs l d=l.all (fun t=>t.shapeF d):=by
 induction l with
 |nil=>rfl
 |cons t l ih=>simp [Tree.shapeFs,ih]
theorem z360 (t:Tree) (d:Int):t.shapeF d=(decide (1≤d∧(t.kids.length:Int)=z181 t.kind∧0≤t.val∧t.val≤z370 t.kind) && t.kids.all fun t=>t.shapeF (d - 1)):=by
 cases t;simp only [Tree.shapeF,Tree.kids,Tree.kind,Tree.val,z804];rfl
theorem z960 (t:Tree):t.mx→∀ d:Int,-100≤d→d≤100→CallsA Tryz.prog 123 [z25 Tree.cs' t,.int d] [] (.bool (t.shapeF d)) []:=by
  induction t using y26 with|h t ih=>?_
  intro hm d h0 h1
  rw [y27] at hm
  have hl:=hm.1
  unfold maxLen at hl
  rw [y14,z360]
  refine z12 z14 Tryz.func123 rfl rfl 51 Tryz.ntmps123 (by simp) ?_
  repeat' (first|(apply y81 ok;rfl;conv=>whnf)|(apply z31;kernel_rfl;conv=>whnf)|(apply z6<;>intro _<;>conv=>whnf)|(apply z35<;>intro _<;>conv=>whnf)|(apply z4 (z585 _);rfl;rfl;conv=>whnf))
  all_goals first
    | (refine z23 rfl ?_
       rw [y79]
       · rfl
       · clear ih
         rintro ⟨c1,c2,c3,c4⟩
         unfold z370 at c4
         grind)
    | (have hg : decide (1 ≤ d ∧ (t.kids.length : Int) = z181 t.kind ∧ 0 ≤ t.val ∧ t.val ≤ z370 t.kind) = true := by
         clear ih
         refine y78 ?_
         unfold z370
         grind
       rw [hg,Bool.true_and]
       refine z93 (fun k:Nat=>([(1,.int d),(2,.ptr 0 none 0),(5,.int k)],[.cells 3 [[.int t.kind,.int t.val,lst 3 Tree.cs' t.kids]]])) (fun k=>k≤t.kids.length∧(t.kids.all fun t=>t.shapeF (d - 1))=(t.kids.drop k).all fun t=>t.shapeF (d - 1)) (fun k=>t.kids.length - k) 0 ⟨by omega,rfl⟩ ⟨[0],rfl,by decide,rfl,by repeat' (first|exact True.intro|exact ⟨rfl,rfl⟩|apply y41),by repeat' (first|exact True.intro|exact z20 rfl rfl|apply y41)⟩ ?_
       intro k hk
       repeat' (first|(apply y81 ok;rfl;conv=>whnf)|(apply y41;(first|omega|(unfold inI;omega));conv=>whnf)|(with_reducible apply z9;omega;intro _;conv=>whnf)|(apply z6<;>intro _<;>conv=>whnf)|(apply z89<;>intro _<;>conv=>whnf)|(apply z4 (ih t.kids[k] (y42 _) (hm.2 _ (y42 _)) (d - 1) (by omega) (by omega));rfl;rfl;conv=>whnf))
       · rename_i h1
         exact z23 rfl (by rw [hk.2,z157 _ _ _ (by assumption)];simp [h1])
       · rename_i h1
         exact z86 (k+1) [0] ⟨by omega,by rw [hk.2,z157 _ _ _ (by assumption)];simp [h1]⟩ (by omega) ⟨rfl,by decide,rfl,by repeat' (first|exact True.intro|exact ⟨rfl,rfl⟩|apply y41),by repeat' (first|exact True.intro|exact z20 rfl rfl|apply y41)⟩
       · exact z23 rfl (by rw [hk.2,z148 _ _ _ (by omega)]))
theorem z1127 (t:Tree):∀ d n:Nat,t.shapeF d=true→t.count n≤2 ^ d - 1:=by
 induction t using y26 with|h t ih=>?_
 intro d n h
 rw [z360,y68,decide_eq_true_eq] at h
 obtain ⟨⟨h1,h2,_,_⟩,h3⟩:=h
 rw [y75] at h3
 obtain ⟨d,rfl⟩:∃ e,d=e+1:=⟨d - 1,by omega⟩
 have e:((d+1:Nat):Int) - 1=(d:Nat):=by omega
 rw [e] at h3
 rw [z470]
 have hp:(1:Int)≤2 ^ d:=by exact_mod_cast Nat.one_le_two_pow
 have hq:((2:Int) ^ (d+1))=2 * 2 ^ d:=by rw [Int.pow_succ];omega
 split
 ·rename_i hn
  obtain ⟨n,rfl⟩:∃ e,n=e+1:=⟨n - 1,by omega⟩
  have e:((n+1:Nat):Int) - 1=(n:Nat):=by omega
  rw [e]
  have hl:(t.kids.length:Int)≤2:=by rw [h2];unfold z181;grind
  have hk:∀ u∈t.kids,u.count n≤2 ^ d - 1:=fun u hu=>ih u hu d n (h3 u hu)
  match hkk:t.kids with
  |[]=>simp only [List.map_nil,List.sum_nil];omega
  |[a] =>
   have:=hk a (by simp [hkk])
   simp only [List.map_cons,List.map_nil,List.sum_cons,List.sum_nil];omega
  |[a,b] =>
   have:=hk a (by simp [hkk])
   have:=hk b (by simp [hkk])
   simp only [List.map_cons,List.map_nil,List.sum_cons,List.sum_nil];omega
  |a::b::c::r=>rw [hkk] at hl;simp only [y56] at hl;omega
 ·omega
theorem z755 (t:Tree) (e d:Int) (he:e≤50) (hd:0≤d) (h:t.shapeF e=true):t.count d≤2 ^ 50:=by
 have h1:1≤e:=by
  rw [z360,y68,decide_eq_true_eq] at h;exact h.1.1
 obtain ⟨n,rfl⟩:=Int.eq_ofNat_of_zero_le (show 0≤e by omega)
 obtain ⟨m,rfl⟩:=Int.eq_ofNat_of_zero_le hd
 have h2:=z1127 t n m h
 have h4:(2:Int) ^ n≤2 ^ 50:=by exact_mod_cast Nat.pow_le_pow_right (by omega) (by omega)
 omega
theorem z961 (t:Tree):t.mx→∀ e d:Int,e≤50→0≤d→d≤50→t.shapeF e=true→CallsA Tryz.prog 124 [z25 Tree.cs' t,.int d] [] (.int (t.count d)) []:=by
 induction t using y26 with|h t ih=>?_
 intro hm e d h0 h1 h2 hs
 rw [y27] at hm
 rw [z360,y68,decide_eq_true_eq,y75] at hs
 obtain ⟨⟨hs1,hs2,_,_⟩,hs3⟩:=hs
 have hl:(t.kids.length:Int)≤2:=by rw [hs2];unfold z181;grind
 rw [y14,z470]
 have hb:0 < d→∀ k,k≤t.kids.length→0≤((t.kids.take k).map fun t=>t.count (d - 1)).sum∧((t.kids.take k).map fun t=>t.count (d - 1)).sum≤k * 2 ^ 50:=by
  intro hd k
  induction k with
  |zero=>intro _;simp
  |succ k ihk =>
   intro hk
   have h1:=ihk (by omega)
   rw [z451 _ _ _ (by omega)]
   have h2:=z755 t.kids[k] (e - 1) (d - 1) (by omega) (by omega) (hs3 _ (y42 _))
   have h3:=Tree.count_pos.1 t.kids[k] (d - 1)
   omega
 refine z12 z14 Tryz.func124 rfl rfl 29 Tryz.ntmps124 (by simp) ?_
 repeat' ((apply y81 ok;rfl;conv=>whnf))
 by_cases hd:0 < d
 ·rw [if_pos hd]
  refine z93 (fun k:Nat=>([(1,.int d),(2,.ptr 0 none 0),(5,.int (1+((t.kids.take k).map fun t=>t.count (d - 1)).sum)),(6,.int k)],[.cells 3 [[.int t.kind,.int t.val,lst 3 Tree.cs' t.kids]]])) (fun k=>k≤t.kids.length) (fun k=>t.kids.length - k) 0 (by omega) ⟨[0],rfl,by decide,rfl,by repeat' (first|exact True.intro|exact ⟨rfl,rfl⟩|apply y41),by repeat' (first|exact True.intro|exact z20 rfl rfl|apply y41)⟩ ?_
  intro k hk
  have hbk:=hb hd k hk
  have hbk1:=fun h=>hb hd (k+1) h
  have hss:=fun h=>z451 (fun t=>t.count (d - 1)) t.kids k h
  repeat' (first|(apply y81 ok;rfl;conv=>whnf)|(apply y41;(first|omega|(unfold inI;omega));conv=>whnf)|(with_reducible apply z9;omega;intro _;conv=>whnf)|(apply z6<;>intro _<;>conv=>whnf)|(apply z4 (ih t.kids[k] (y42 _) (hm.2 _ (y42 _)) (e - 1) (d - 1) (by omega) (by omega) (by omega) (hs3 _ (y42 _)));rfl;rfl;conv=>whnf))
  ·have e1:=hss ‹_›
   have e2:=hbk1 (by omega)
   refine y41 (by unfold inI;omega) ?_
   conv=>whnf
   repeat' (first|(apply y81 ok;rfl;conv=>whnf)|(apply y41;((unfold inI;omega));conv=>whnf))
   exact z86 (k+1) [0] (by omega) (by omega) ⟨rfl,by decide,rfl,⟨⟨rfl,rfl⟩,⟨rfl,rfl⟩,⟨rfl,by rw [e1,← Int.add_assoc];rfl⟩,⟨rfl,rfl⟩,trivial⟩,⟨z20 rfl rfl,trivial⟩⟩
  ·omega
  ·obtain rfl:k=t.kids.length:=by omega
   exact z54 rfl rfl (by rw [y54];rfl)
 ·rw [if_neg hd]
  refine z93 (fun k:Nat=>([(1,.int d),(2,.ptr 0 none 0),(5,.int 1),(6,.int k)],[.cells 3 [[.int t.kind,.int t.val,lst 3 Tree.cs' t.kids]]])) (fun k=>k≤t.kids.length) (fun k=>t.kids.length - k) 0 (by omega) ⟨[0],rfl,by decide,rfl,by repeat' (first|exact True.intro|exact ⟨rfl,rfl⟩|apply y41),by repeat' (first|exact True.intro|exact z20 rfl rfl|apply y41)⟩ ?_
  intro k hk
  repeat' (first|(apply y81 ok;rfl;conv=>whnf)|(apply y41;(omega);conv=>whnf)|(with_reducible apply z9;omega;intro _;conv=>whnf)|(apply z6<;>intro _<;>conv=>whnf))
  ·omega
  ·exact z54 rfl rfl rfl
  ·exact z54 rfl rfl rfl
theorem z135 (t:Tree) (hm:t.mx):CallsA Tryz.prog 53 [z25 Tree.cs' t] [] (.bool t.fmB) []:=by
 rw [y20]
 refine z12 z14 Tryz.func53 rfl rfl 10 Tryz.ntmps53 (by simp) ?_
 repeat' (first|(apply y81 ok;rfl;conv=>whnf)|(apply z92<;>intro _<;>conv=>whnf)|(apply z4 (z960 t hm 6 (by omega) (by omega));rfl;rfl;conv=>whnf)|(apply z4 (z961 t hm 6 6 (by omega) (by omega) (by omega) (by assumption));rfl;rfl;conv=>whnf))
 all_goals (refine z23 rfl ?_;(simp [*];done))
end Go.Proofs.YtjhgpfaodkchjaaGreat
namespace Go.Proofs.YtjhgpfaodkchjaaGreat
open Go.Gl
attribute [local irreducible] z18 AWP z41 z46 z44 RetS z51
theorem z376:CallsA Tryz.prog 105 [] [] (.agg [.int 1,.int 0,.list 3 0 []]) []:=by
 refine z7 z14 Tryz.func105 rfl rfl 2 Tryz.ntmps105 (by simp) ?_
 repeat' (((apply y81 ok;rfl))<;>conv=>whnf)
 all_goals (refine rsD [] [] rfl ?_;(repeat' first|exact y83 _|exact z38|apply z36|constructor))
set_option maxHeartbeats 1600000 in
theorem z830 (bs:List Int) (hb:BytesOk bs):∀ (n:Nat) (d p:Int),d≤n+1→n≤100→0≤d→0≤p→p+drK n≤1000000000→∃ (t:Tree) (p' : Int),(t.sz≤drS n∧p≤p'∧p'≤p+drK n)∧CallsA Tryz.prog 106 [.ptr 0 none 0,.int d] [rdO bs p] (z25 Tree.cs' t) [rdO bs p']:=by
 intro n
 induction n with
 |zero =>
  intro d p hd hd1 hd0 hp hq
  rw [drK] at hq ⊢
  obtain ⟨v0,⟨l0,u0⟩,c0⟩:=z70 bs hb p 8 (by omega) (by omega) (by omega)
  by_cases h0:v0=0
  ·subst h0
   refine ⟨leaf 1 0,p+1,⟨by rw [z90];omega,by omega,by omega⟩,?_⟩
   refine z7 z14 Tryz.func106 rfl rfl 43 Tryz.ntmps106 (by simp) ?_
   repeat' ((first|(apply y81 ok;rfl)|((apply z6)<;>intro _)|(apply z4 (z376);rfl;rfl)|(apply z40 [0] [] c0;rfl;rfl;rfl))<;>conv=>whnf)
   all_goals try (exfalso;omega)
   all_goals (refine rsD [0] [] rfl ?_;(repeat' first|exact y83 _|apply y84|constructor))
  ·obtain ⟨v1,m1,c1⟩:=z106 bs hb (p+1) (by omega) (by omega) [0,1,0,2] (by decide) (by decide)
   refine ⟨leaf 2 v1,p+1+1,⟨by rw [z90];omega,by omega,by omega⟩,?_⟩
   refine z7 z14 Tryz.func106 rfl rfl 43 Tryz.ntmps106 (by simp) ?_
   repeat' ((first|(apply y81 ok;rfl)|((apply z6)<;>intro _)|((first|(apply z10 [0] [] c0;rfl;rfl)|(apply z10 [0,2] [] c1;rfl;rfl));rfl;(focus ((repeat' first|exact z16|apply z15)<;>first|exact z52 rfl rfl|(refine z19 ?_;((exact z5 fun _=>rfl)))))))<;>conv=>whnf)
   all_goals try (exfalso;omega)
   all_goals (refine rsD [0] [] rfl ?_;(repeat' first|exact y83 _|exact z38|apply y84|apply z36|constructor))
 |succ n ih =>
  intro d p hd hd1 hd0 hp hq
  have hK:=z1121 n
  by_cases hlt:d < 2
  ·obtain ⟨t,p',h1,h2⟩:=ih d p (by omega) (by omega) hd0 hp (by rw [drK] at hq;omega)
   exact ⟨t,p',⟨by rw [drS];omega,h1.2.1,by rw [drK];omega⟩,h2⟩
  rw [drK] at hq
  rw [drK,drS]
  obtain ⟨w,⟨lw,uw⟩,cw⟩:=z70 bs hb p 5 (by omega) (by omega) (by omega)
  by_cases hw:w=0
  ·subst hw
   obtain ⟨v0,⟨l0,u0⟩,c0⟩:=z70 bs hb (p+1) 8 (by omega) (by omega) (by omega)
   by_cases h0:v0=0
   ·subst h0
    refine ⟨leaf 1 0,p+1+1,⟨by rw [z90];omega,by omega,by omega⟩,?_⟩
    refine z7 z14 Tryz.func106 rfl rfl 43 Tryz.ntmps106 (by simp) ?_
    repeat' ((first|(apply y81 ok;rfl)|((apply z6)<;>intro _)|(apply z4 (z376);rfl;rfl)|((first|(apply z40 [0] [] cw;rfl;rfl)|(apply z40 [0] [] c0;rfl;rfl));rfl))<;>conv=>whnf)
    all_goals try (exfalso;omega)
    all_goals (refine rsD [0] [] rfl ?_;(repeat' first|exact y83 _|apply y84|constructor))
   ·obtain ⟨v1,m1,c1⟩:=z106 bs hb (p+1+1) (by omega) (by omega) [0,1,0,2] (by decide) (by decide)
    refine ⟨leaf 2 v1,p+1+1+1,⟨by rw [z90];omega,by omega,by omega⟩,?_⟩
    refine z7 z14 Tryz.func106 rfl rfl 43 Tryz.ntmps106 (by simp) ?_
    repeat' ((first|(apply y81 ok;rfl)|((apply z6)<;>intro _)|((first|(apply z10 [0] [] cw;rfl;rfl)|(apply z10 [0] [] c0;rfl;rfl)|(apply z10 [0,2] [] c1;rfl;rfl));rfl;(focus ((repeat' first|exact z16|apply z15)<;>first|exact z52 rfl rfl|(refine z19 ?_;((exact z5 fun _=>rfl)))))))<;>conv=>whnf)
    all_goals try (exfalso;omega)
    all_goals (refine rsD [0] [] rfl ?_;(repeat' first|exact y83 _|exact z38|apply y84|apply z36|constructor))
  ·obtain ⟨kd,mk,ck⟩:=z106 bs hb (p+1) (by omega) (by omega) [7,9,10,3,4,5,6,8] (by decide) (by decide)
   have ca:=z585 kd
   have ham:∃ m:Nat,z181 kd=m∧m≤2:=by
    simp only [List.mem_cons,List.not_mem_nil,or_false] at mk
    unfold z181
    rcases mk with rfl|rfl|rfl|rfl|rfl|rfl|rfl|rfl
    all_goals first|exact ⟨2,rfl,by omega⟩|exact ⟨1,rfl,by omega⟩
   obtain ⟨m,em,hm⟩:=ham
   rw [em] at ca
   obtain ⟨ks,pf,hks,hp0,hst,hpf⟩:=z493 (fun k q (t:Tree) q'=>t.sz≤drS n∧CallsA Tryz.prog 106 [.ptr 0 none 0,.int (d - 1)] [rdO bs q] (z25 Tree.cs' t) [rdO bs q']) (p+1+1) (drK n) m (fun k q hk h1 h2=>by
    have:drK n * k≤drK n:=by
     have:k=0∨k=1:=by omega
     rcases this with rfl|rfl<;>simp<;>omega
    obtain ⟨t,q',⟨a1,a2,a3⟩,a4⟩:=ih (d - 1) q (by omega) (by omega) (by omega) (by omega) (by omega)
    exact ⟨t,q',⟨a1,a4⟩,a2,a3⟩)
   have hpm:=hpf m (y50 _)
   have hKm:drK n * m≤2 * drK n:=by
    have:m=0∨m=1∨m=2:=by omega
    rcases this with rfl|rfl|rfl<;>simp<;>omega
   have hsum:(ks.map Tree.sz).sum≤2 * drS n:=by
    have:∀ (l:List Tree),(∀ t∈l,t.sz≤drS n)→(l.map Tree.sz).sum≤l.length * drS n:=by
     intro l
     induction l with
     |nil=>intro _;simp
     |cons t l ih =>
      intro h
      have h1:=h t (by simp)
      have h2:=ih fun u hu=>h u (by simp [hu])
      simp only [List.map_cons,List.sum_cons,y56,Nat.add_mul]
      omega
    have h1:=this ks fun t ht=>by
     obtain ⟨i,hi,rfl⟩:=List.mem_iff_getElem.1 ht
     exact (hst i hi).1
    have h2:ks.length * drS n≤2 * drS n:=Nat.mul_le_mul_right _ (by omega)
    omega
   refine ⟨.mk kd 0 ks,pf m,⟨by rw [z232];omega,by omega,by omega⟩,?_⟩
   refine z7 z14 Tryz.func106 rfl rfl 43 Tryz.ntmps106 (by simp) ?_
   rw [← hp0] at ck
   repeat' ((first|(apply y81 ok;rfl)|((apply z6)<;>intro _)|(apply z4 (ca);rfl;rfl)|((first|(apply z10 [0] [] cw;rfl;rfl)|(apply z10 [0,2] [] ck;rfl;rfl));rfl;(focus ((repeat' first|exact z16|apply z15)<;>first|exact z52 rfl rfl|(refine z19 ?_;((exact z5 fun _=>rfl)))))))<;>conv=>whnf)
   all_goals try (exfalso;omega)
   refine y82 (y85 3 rfl) ?_
   refine z64 (fun k:Nat=>([(0,.ptr 0 none 0),(1,.int d),(4,.ptr 1 none 0),(5,.ptr 2 none 0),(6,.int (m - k))],[rdO bs (pf k),.cells 3 [[.int 0,.int 0,.nils]],.cells 3 [[.int kd,.int 0,.sref 3 0 k]],.cells 3 ((ks.take k).map Tree.cs')])) (fun k=>k≤m) (fun k=>m - k) 0 (by omega) (by refine swR [0,1,3,4] [] rfl rfl ?_;(repeat' first|exact y83 _|exact z37|apply y84|refine z8 rfl (z24) ?_|constructor)) ?_
   intro k hk
   by_cases hkm:k < m
   ·have hc:=(hst k (by omega)).2
    have hkl:k < ks.length:=by omega
    rw [y14] at hc
    repeat' ((first|(apply y81 ok;rfl)|(apply z31;kernel_rfl)|(apply y41;first|(unfold inI;omega)|((try dsimp only);simp only [y47,y46,y45,y44,y56,y57];omega)|exact ⟨rfl,z21 rfl z29⟩)|((apply z6)<;>intro _)|(apply z40 [0] [] hc;rfl;rfl;rfl))<;>conv=>whnf)
    all_goals try (exfalso;omega)
    refine z26 (k+1) (by omega) (by omega) (by refine swR [0,1,2,5] [] rfl rfl ?_;(repeat' first|exact y83 _|exact z265|(refine z107 ?_;omega)|apply y84|((refine z33 rfl ?_ ?_);(focus ((repeat' (first|exact z5 (fun _=>rfl)|apply z22));done)))|refine z125 (by omega) (by omega) ?_|(apply z78;rfl)|constructor))
   ·have:k=m:=by omega
    subst this
    repeat' ((first|(apply y81 ok;rfl)|(apply y41;omega)|((apply z6)<;>intro _))<;>conv=>whnf)
    all_goals try (exfalso;omega)
    all_goals (refine rsD [0] [3] rfl ?_;(repeat' first|exact y83 _|(refine z523 ?_;omega)|apply y84|((apply z43 rfl rfl rfl);(focus ((repeat ((exact z32 (fun _=>rfl) _)));done));(focus (((simp;omega));done)))|apply z36|constructor))
theorem z729 (bs:List Int) (hb:BytesOk bs) (p:Int) (hp:few p):∃ (t:Tree) (p' : Int),(t.sz≤20∧p≤p'∧p'≤p+100)∧CallsA Tryz.prog 43 [.ptr 0 none 0] [rdO bs p] (z25 Tree.cs' t) [rdO bs p']:=by
 obtain ⟨d,md,cd⟩:=z106 bs hb p (by omega) (by omega) [3,2,4,3] (by decide) (by decide)
 have hd:0≤d∧d≤4:=by simp at md;omega
 obtain ⟨t,q,⟨t1,t2,t3⟩,ct⟩:=z830 bs hb 3 d (p+1) (by omega) (by omega) (by omega) (by omega) (by simp only [drK];omega)
 simp only [drK] at t3
 simp only [drS] at t1
 have cv:=z135 t (z98 t (by unfold maxLen;omega))
 by_cases hv:t.fmB=true
 ·refine ⟨t,q,⟨by omega,by omega,by omega⟩,?_⟩
  rw [hv] at cv
  rw [y14] at *
  refine z7 z14 Tryz.func43 rfl rfl 15 Tryz.ntmps43 (by simp) ?_
  repeat' ((first|(apply y81 ok;rfl)|(apply z4 (cv);rfl;rfl)|((first|(apply z10 [0,2] [] cd;rfl;rfl)|(apply z10 [0] [] ct;rfl;rfl));rfl;(focus ((repeat' first|exact z16|apply z15)<;>first|exact z52 rfl rfl|(refine z19 ?_;((exact z5 fun _=>rfl)))))))<;>conv=>whnf)
  all_goals (refine rsD [0] [] rfl ?_;(repeat' first|exact y83 _|apply y84|constructor))
 ·refine ⟨.mk 10 0 [leaf 2 0],q,⟨by rw [z232];simp [z90],by omega,by omega⟩,?_⟩
  rw [(y69 _).mp hv] at cv
  rw [y14] at cv ct
  refine z7 z14 Tryz.func43 rfl rfl 15 Tryz.ntmps43 (by simp) ?_
  repeat' ((first|(apply y81 ok;rfl)|(apply z4 (cv);rfl;rfl)|((first|(apply z10 [0,2] [] cd;rfl;rfl)|(apply z10 [0] [] ct;rfl;rfl));rfl;(focus ((repeat' first|exact z16|apply z15)<;>first|exact z52 rfl rfl|(refine z19 ?_;((exact z5 fun _=>rfl)))))))<;>conv=>whnf)
  all_goals (refine rsD [0] [4] rfl ?_;(repeat' first|exact y83 _|exact z38|apply y84|refine z43 rfl rfl rfl rfl rfl ?_|apply z36|(apply z78;rfl)|constructor))
theorem argU (k v:Int) (a:Tree):z25 Tree.cs' (.mk k v [a])=.agg [.int k,.int v,.list 3 1 [Tree.cs' a]]:=by
 rw [y14]
 show AC.agg [AC.int k,AC.int v,lst 3 Tree.cs' [a]]=_
 rfl
theorem argB (k v:Int) (a b:Tree):z25 Tree.cs' (.mk k v [a,b])=.agg [.int k,.int v,.list 3 2 [Tree.cs' a,Tree.cs' b]]:=by
 rw [y14]
 rfl
theorem z481 (x:Tree):F2 LocLe (z262 [AC.int x.kind,AC.int x.val,lst 3 Tree.cs' x.kids]) (Tree.cs x):=by
 have e:Tree.cs x=[AC.int x.kind,AC.int x.val,lst 3 Tree.cs' x.kids]:=by rw [y17];exact AC.agg.inj (y14 x)
 rw [e];exact z290 _
theorem z462 (t:Tree):CallsA Tryz.prog 156 [z25 Tree.cs' t] [] (z25 Tree.cs' (notT t)) []:=by
 unfold notT
 rw [y14 t,y14]
 refine z7 z14 Tryz.func156 rfl rfl 6 Tryz.ntmps156 (by simp) ?_
 repeat' (((apply y81 ok;rfl))<;>conv=>whnf)
 all_goals (refine rsD [] [2] rfl ?_;(repeat' first|exact y83 _|exact z265|refine z43 rfl rfl rfl rfl rfl ?_|apply z36|(apply z78;rfl)|constructor))
 all_goals exact z481 _
theorem z1091 (k:Int):CallsA Tryz.prog 277 [.int k] [] (.int (z846 k)) []:=by
 unfold z846
 refine z7 z14 Tryz.func277 rfl rfl 10 Tryz.ntmps277 (by simp) ?_
 repeat' ((first|(apply y81 ok;rfl)|((apply z6)<;>intro _))<;>conv=>whnf)
 all_goals (refine rsL [] [] rfl ?_;refine RetS.done (z107 ?_) .nil;first|(rw [if_pos (by omega)];done)|(rw [if_neg (by omega),if_pos (by omega)];done)|(rw [if_neg (by omega),if_neg (by omega),if_pos (by omega)];done)|(rw [if_neg (by omega),if_neg (by omega),if_neg (by omega)];done))
set_option maxHeartbeats 3200000 in
theorem z1090 (t:Tree):t.goodF→∀ neg:Bool,CallsA Tryz.prog 238 [z25 Tree.cs' t,.bool neg] [] (z25 Tree.cs' (t.nrm neg)) []:=by
 induction t using y26 with|h t ih=>?_
 intro hg neg
 have hT:=z376
 cases y21 hg with
 |tr =>
  rw [z890]
  have cn:=(z462 (.mk 1 0 [])).arg (args0:=[.agg [.int 1,.int 0,.nils]]) (by (repeat' first|exact y83 _|exact z38|apply z36|constructor))
  cases neg
  all_goals
   refine z7 z14 Tryz.func238 rfl rfl 86 Tryz.ntmps238 (by simp) ?_
   repeat' ((first|(apply y81 ok;rfl)|(apply z4 (cn);rfl;rfl))<;>conv=>whnf)
   all_goals (refine rsD [] [] rfl ?_;(repeat' first|exact y83 _|exact z38|apply z36|constructor))
 |«at» v h0 h1 =>
  rw [z892]
  have cn:=(z462 (.mk 2 v [])).arg (args0:=[.agg [.int 2,.int v,.nils]]) (by (repeat' first|exact y83 _|exact z38|apply z36|constructor))
  cases neg
  all_goals
   refine z7 z14 Tryz.func238 rfl rfl 86 Tryz.ntmps238 (by simp) ?_
   repeat' ((first|(apply y81 ok;rfl)|(apply z4 (cn);rfl;rfl))<;>conv=>whnf)
   all_goals (refine rsD [] [] rfl ?_;(repeat' first|exact y83 _|exact z38|apply z36|constructor))
 |un k a hk ha =>
  have ca:=ih a (by simp [Tree.kids]) ha
  clear ih
  have cn:=z462 truT
  rcases hk with rfl|rfl|rfl|rfl
  ·rw [z632,argU 3 0 a]
   have ca:=ca (!neg)
   refine z7 z14 Tryz.func238 rfl rfl 86 Tryz.ntmps238 (by simp) ?_
   repeat' ((first|(apply y81 ok;rfl)|(refine ⟨_,rfl,?_⟩)|(apply y41;omega)|(apply z4 (ca);rfl;rfl))<;>conv=>whnf)
   all_goals (refine rsD [] [] rfl ?_;(repeat' first|exact y83 _|constructor))
  ·rw [z456,argU 6 0 a]
   have ca:=ca neg
   generalize a.nrm neg=x at *
   rw [y14 x] at ca
   refine z7 z14 Tryz.func238 rfl rfl 86 Tryz.ntmps238 (by simp) ?_
   repeat' ((first|(apply y81 ok;rfl)|(refine ⟨_,rfl,?_⟩)|(apply y41;omega)|(apply z4 (ca);rfl;rfl))<;>conv=>whnf)
   all_goals (refine rsD [] [2] rfl ?_;(repeat' first|exact y83 _|refine z43 rfl rfl rfl rfl rfl ?_|apply z36|(apply z78;rfl)|constructor))
   all_goals exact z481 _
  ·rw [z891,argU 9 0 a]
   have ca:=ca neg
   generalize a.nrm neg=x at *
   rw [y14 x] at ca
   cases neg
   all_goals
    refine z7 z14 Tryz.func238 rfl rfl 86 Tryz.ntmps238 (by simp) ?_
    repeat' ((first|(apply y81 ok;rfl)|(apply z31;kernel_rfl)|(refine ⟨_,rfl,?_⟩)|(apply y41;omega)|(apply z4 (ca);rfl;rfl)|(apply z4 (hT);rfl;rfl)|(apply z4 (cn);rfl;rfl))<;>conv=>whnf)
    all_goals (refine rsD [] [3] rfl ?_;(repeat' first|exact y83 _|refine z43 rfl rfl rfl rfl rfl ?_|apply z36|(apply z78;rfl)|constructor))
    all_goals exact z481 _
  ·rw [z893,argU 10 0 a]
   have ca:=ca neg
   generalize a.nrm neg=x at *
   rw [y14 x] at ca
   cases neg
   all_goals
    refine z7 z14 Tryz.func238 rfl rfl 86 Tryz.ntmps238 (by simp) ?_
    repeat' ((first|(apply y81 ok;rfl)|(apply z31;kernel_rfl)|(refine ⟨_,rfl,?_⟩)|(apply y41;omega)|(apply z4 (ca);rfl;rfl)|(apply z4 (hT);rfl;rfl)|(apply z4 (cn);rfl;rfl))<;>conv=>whnf)
    all_goals (refine rsD [] [3] rfl ?_;(repeat' first|exact y83 _|refine z43 rfl rfl rfl rfl rfl ?_|apply z36|(apply z78;rfl)|constructor))
    all_goals exact z481 _
 |bin k a b hk ha hb =>
  have ca:=ih a (by simp [Tree.kids]) ha neg
  have cb:=ih b (by simp [Tree.kids]) hb neg
  clear ih
  have cd:=z1091 k
  rw [z633 _ _ _ _ _ hk,argB k 0 a b]
  generalize a.nrm neg=x at *
  generalize b.nrm neg=y at *
  rw [y14 x] at ca
  rw [y14 y] at cb
  generalize z846 k=k' at *
  cases neg
  all_goals
   refine z7 z14 Tryz.func238 rfl rfl 86 Tryz.ntmps238 (by simp) ?_
   repeat' ((first|(apply y81 ok;rfl)|(apply z31;kernel_rfl)|(refine ⟨_,rfl,?_⟩)|(apply y41;omega)|((first|apply z6|apply z35)<;>intro _)|(apply z4 (ca);rfl;rfl)|(apply z4 (cb);rfl;rfl)|(apply z4 (cd);rfl;rfl))<;>conv=>whnf)
   all_goals try (exfalso;omega)
   all_goals (refine rsD [] [2] rfl ?_;(repeat' first|exact y83 _|refine z43 rfl rfl rfl rfl rfl ?_|apply z36|(apply z78;rfl)|constructor))
   all_goals exact z481 _
end Go.Proofs.YtjhgpfaodkchjaaGreat
namespace Go.Proofs.YtjhgpfaodkchjaaGreat
open Go.Gl
attribute [local irreducible] z18 AWP z41 z46 z44
theorem z852 (l:List Tree) (hl:l.length≤1048576) (hp:0 < l.length):CallsA Tryz.prog 297 [lst 3 Tree.cs' l] [] (.sref 0 0 l.length) [.cells 3 (l.map Tree.cs')]:=by
 refine z12 z14 Tryz.func297 rfl rfl 8 Tryz.ntmps297 (by simp) ?_
 repeat' (first|(apply y81 ok;rfl;conv=>whnf)|(apply y41;(first|omega|(dsimp only;omega)|exact z139 (fun _=>rfl));conv=>whnf))
 exact z101 rfl (z5 fun _=>rfl) (Nat.zero_add _) rfl rfl
theorem z986 (l:List Tree) (hl:l.length≤1048576):CallsA Tryz.prog 297 [lst 3 Tree.cs' l] [] (.sref 0 0 l.length) [.cells 3 (l.map Tree.cs')]:=by
 by_cases hp:0 < l.length
 ·exact z852 l hl hp
 ·obtain rfl:l=[]:=y71 (by omega)
  refine z205 (z286 Tryz.func297 rfl (by rfl)) fun ad cap=>?_
  cases ad with
  |none =>
   refine CallsA.nils (res:=.nils) (l:=[.cells 3 []]) ?_ (by simp) z457
   refine z12 z14 Tryz.func297 rfl rfl 8 Tryz.ntmps297 (by simp) ?_
   repeat' ((apply y81 ok;rfl;conv=>whnf))
   all_goals exact z54 rfl rfl rfl
  |some p =>
   refine z12 z14 Tryz.func297 rfl rfl 8 Tryz.ntmps297 (by simp) ?_
   repeat' (first|(apply y81 ok;rfl;conv=>whnf)|(apply y41;(omega);conv=>whnf))
   all_goals (exact z101 rfl z24 rfl rfl rfl)
theorem z534 (l:List Tree) (hl:l.length≤1048576):CallsA Tryz.prog 268 [.sref 0 0 l.length] [.cells 3 (l.map Tree.cs')] (.sref 0 0 l.length) [.cells 3 (l.map Tree.cs')]:=by
 refine z12 z14 Tryz.func268 rfl rfl 9 Tryz.ntmps268 (by simp) ?_
 repeat' (first|(apply y81 ok;rfl;conv=>whnf)|(apply y41;(omega);conv=>whnf))
 exact z101 rfl (z5 fun _=>rfl) (by omega) rfl rfl
theorem z171 (l:List Tree) (hl:l.length≤1048576):CallsA Tryz.prog 266 [lst 3 Tree.cs' l] [] (.sref 0 0 l.length) [.cells 3 (l.map Tree.cs')]:=by
 refine z12 z14 Tryz.func266 rfl rfl 6 Tryz.ntmps266 (by simp) ?_
 repeat' (first|(apply y81 ok;rfl;conv=>whnf)|(apply z94 [] [] [0] (z986 l hl);rfl;(focus ((repeat' (exact z45))<;>(fail)));rfl;rfl;rfl;rfl;rfl;(focus ((repeat' (first|exact z16|apply z15))<;>((refine z19 ?_;((exact z5 (fun _=>rfl)))))));(exact .inl rfl);conv=>whnf)|(apply z94 [0] [] [] (z534 l hl);rfl;(focus ((repeat' (first|exact z45|apply z55))<;>((refine z77 rfl ?_;((exact z5 (fun _=>rfl)))))));rfl;rfl;rfl;rfl;rfl;(focus ((repeat' (first|exact z16|apply z15))<;>((refine z19 ?_;((exact z5 (fun _=>rfl)))))));(exact .inl rfl);conv=>whnf))
 exact z101 rfl (z5 fun _=>rfl) rfl rfl rfl
end Go.Proofs.YtjhgpfaodkchjaaGreat
namespace Go.Proofs.YtjhgpfaodkchjaaGreat
open Go.Gl
attribute [local irreducible] z18 AWP z41 z46 z44 RetS z51
theorem z973 (k:Int) (l:List Tree) (hl:l.length≤1048576):CallsA Tryz.prog 226 [.int k,lst 3 Tree.cs' l] [] (.agg [.int k,.int 0,lst 3 Tree.cs' l]) []:=by
 have c:=z171 l hl
 refine z7 z14 Tryz.func226 rfl rfl 9 Tryz.ntmps226 (by simp) ?_
 repeat' ((first|(apply y81 ok;rfl)|(apply z10 [] [1] c;rfl;rfl;rfl;(focus ((repeat' first|exact z16|apply z15)<;>(refine z19 ?_;((exact z5 fun _=>rfl)))))))<;>conv=>whnf)
 all_goals (refine rsD [] [1] rfl ?_;(repeat' first|exact y83 _|((apply z43 rfl rfl rfl);(focus ((repeat ((exact z32 (fun _=>rfl) _)));done));(focus (((simp;done));done)))|apply z36|constructor))
theorem z839 (k:Int):CallsA Tryz.prog 226 [.int k,.nils] [] (.agg [.int k,.int 0,.list 3 0 []]) []:=(z973 k [] (by simp)).arg (by (repeat' first|exact y83 _|exact z38|constructor))
theorem z122 (k:Int) (l:List Tree) (hl:l.length≤1048576):CallsA Tryz.prog 226 [.int k,.sref 0 0 l.length] [.cells 3 (l.map Tree.cs')] (.agg [.int k,.int 0,lst 3 Tree.cs' l]) [.dead]:=by
 have c:=z171 l hl
 refine z7 z14 Tryz.func226 rfl rfl 9 Tryz.ntmps226 (by simp) ?_
 refine y82 (Reach.rnm 0 rfl) ?_
 refine y82 (show Gl.Reach _ _ (mkSt _ [(0,.int k),(1,lst 3 Tree.cs' l)] [.dead]) from (by refine swR [0] [1] rfl rfl ?_;(repeat' first|exact y83 _|((apply z43 rfl rfl rfl);(focus ((repeat ((exact z32 (fun _=>rfl) _)));done));(focus (((simp;done));done)))|constructor))) ?_
 repeat' ((first|(apply y81 ok;rfl)|(apply z10 [] [2] c;rfl;rfl;rfl;(focus ((repeat' first|exact z16|apply z15)<;>(refine z19 ?_;((exact z5 fun _=>rfl)))))))<;>conv=>whnf)
 all_goals (refine rsD [0] [2] rfl ?_;(repeat' first|exact y83 _|((apply z43 rfl rfl rfl);(focus ((repeat ((exact z32 (fun _=>rfl) _)));done));(focus (((simp;done));done)))|apply z36|constructor))
theorem z439 (k kd v:Int):CallsA Tryz.prog 226 [.int k,.sref 0 0 1] [.cells 3 [[.int kd,.int v,.nils]]] (.agg [.int k,.int 0,lst 3 Tree.cs' [.mk kd v []]]) [.dead]:=by
 have c:=z171 [.mk kd v []] (by simp)
 refine z7 z14 Tryz.func226 rfl rfl 9 Tryz.ntmps226 (by simp) ?_
 refine y82 (Reach.rnm 0 rfl) ?_
 refine y82 (show Gl.Reach _ _ (mkSt _ [(0,.int k),(1,lst 3 Tree.cs' [.mk kd v []])] [.dead]) from (by refine swR [0] [1] rfl rfl ?_;(repeat' first|exact y83 _|exact z38|refine z43 rfl rfl rfl rfl rfl ?_|(apply z78;rfl)|constructor))) ?_
 repeat' ((first|(apply y81 ok;rfl)|(apply z40 [] [2] c;rfl;rfl;rfl))<;>conv=>whnf)
 all_goals (refine rsD [0] [2] rfl ?_;(repeat' first|exact y83 _|constructor))
theorem z280 (k v : Int) (l : List Tree) (neg : Bool) (i : Nat) (hi : i < l.length) (x : Tree) (hx : CallsA Tryz.prog 229 [z25 Tree.cs' l[i], .bool neg] [] (z25 Tree.cs' x) []) :
    CallsA Tryz.prog 269 [.int i,.ptr 0 none 0,.ptr 1 none 0] [.cells 3 [[.int k,.int v,lst 3 Tree.cs' l]],.cells 1 [[.bool neg]]] (z25 Tree.cs' x) [.cells 3 [[.int k,.int v,lst 3 Tree.cs' l]],.cells 1 [[.bool neg]]]:=by
  have g:(l.map Tree.cs')[i]?=some (Tree.cs' l[i]):=by rw [y49,y43 hi];rfl
  generalize l[i]=y at *
  refine z7 z14 Tryz.func269 rfl rfl 12 Tryz.ntmps269 (by simp) ?_
  repeat' ((first|(apply y81 ok;rfl)|(apply z31;kernel_rfl)|(refine z13 (i:=i) rfl g ?_)|(apply y41;omega)|(apply z4 (hx);rfl;rfl))<;>conv=>whnf)
  all_goals (refine rsD [0,1] [] rfl ?_;(repeat' first|exact y83 _|apply y84|constructor))
theorem z949 (a b:Int) (neg:Bool):CallsA Tryz.prog 270 [.int a,.int b,.ptr 0 none 0] [.cells 1 [[.bool neg]]] (.int (if neg then b else a)) [.cells 1 [[.bool neg]]]:=by
 refine z7 z14 Tryz.func270 rfl rfl 9 Tryz.ntmps270 (by simp) ?_
 cases neg
 all_goals
  repeat' (((apply y81 ok;rfl))<;>conv=>whnf)
  all_goals (refine rsD [0] [] rfl ?_;(repeat' first|exact y83 _|apply y84|constructor))
set_option maxHeartbeats 6400000 in
theorem z1067 (t:Tree):t.goodF→∀ neg:Bool,CallsA Tryz.prog 229 [z25 Tree.cs' t,.bool neg] [] (z25 Tree.cs' (t.nrm neg)) []:=by
 induction t using y26 with|h t ih=>?_
 intro hg neg
 have cT:=z839 1
 have cF:=z122 3 [.mk 1 0 []] (by simp)
 cases y21 hg with
 |tr =>
  rw [z890]
  clear ih
  cases neg
  all_goals
   refine z7 z14 Tryz.func229 rfl rfl 99 Tryz.ntmps229 (by simp) ?_
   repeat' ((first|(apply y81 ok;rfl)|(apply z4 (cT);rfl;rfl)|((first|(apply z10 [3] [] cF;rfl;rfl)|(apply z10 [6] [] (z439 3 1 0);rfl;rfl));rfl;(focus ((repeat' first|exact z16|apply z15)<;>exact z128))))<;>conv=>whnf)
   all_goals (refine rsD [] [] rfl ?_;(repeat' first|exact y83 _|exact z38|apply z36|constructor))
 |«at» v h0 h1 =>
  rw [z892]
  clear ih
  cases neg
  all_goals
   refine z7 z14 Tryz.func229 rfl rfl 99 Tryz.ntmps229 (by simp) ?_
   repeat' ((first|(apply y81 ok;rfl)|(apply z4 (cT);rfl;rfl)|((first|(apply z10 [3] [] cF;rfl;rfl)|(apply z10 [6] [] (z439 3 2 v);rfl;rfl));rfl;(focus ((repeat' first|exact z16|apply z15)<;>exact z128))))<;>conv=>whnf)
   all_goals (refine rsD [] [] rfl ?_;(repeat' first|exact y83 _|exact z38|apply z36|constructor))
 |un k a hk ha =>
  have ca:=fun n=>ih a (by simp [Tree.kids]) ha n
  clear ih
  rcases hk with rfl|rfl|rfl|rfl
  ·rw [z632,argU 3 0 a]
   have ca:=ca (!neg)
   refine z7 z14 Tryz.func229 rfl rfl 99 Tryz.ntmps229 (by simp) ?_
   repeat' ((first|(apply y81 ok;rfl)|(apply z31;kernel_rfl)|(refine ⟨_,rfl,?_⟩)|(apply y41;omega)|(apply z4 (cT);rfl;rfl)|(apply z4 (ca);rfl;rfl)|(apply z10 [3] [] cF;rfl;rfl;rfl;(focus ((repeat' first|exact z16|apply z15)<;>exact z128))))<;>conv=>whnf)
   all_goals (refine rsD [] [] rfl ?_;(repeat' first|exact y83 _|constructor))
  ·rw [z456,argU 6 0 a,argU]
   have ck:=z280 6 0 [a] neg 0 (by simp) (a.nrm neg) (ca neg)
   have cf:=z122 6 [a.nrm neg] (by simp)
   generalize a.nrm neg=x at *
   refine z7 z14 Tryz.func229 rfl rfl 99 Tryz.ntmps229 (by simp) ?_
   repeat' ((first|(apply y81 ok;rfl)|(apply z4 (cT);rfl;rfl)|((first|(apply z10 [3] [] cF;rfl;rfl)|(apply z10 [0,1] [] ck;rfl;rfl)|(apply z10 [5] [] cf;rfl;rfl));rfl;(focus ((repeat' first|exact z16|apply z15)<;>first|exact z128|exact z52 rfl rfl))))<;>conv=>whnf)
   all_goals (refine rsD [] [] rfl ?_;(repeat' first|exact y83 _|constructor))
  ·rw [z891,argU 9 0 a]
   have ck:=z280 9 0 [a] neg 0 (by simp) (a.nrm neg) (ca neg)
   have c7:=z122 7 [truT,a.nrm neg] (by simp)
   have c8:=z122 8 [notT truT,a.nrm neg] (by simp)
   generalize a.nrm neg=x at *
   cases neg
   ·rw [if_neg (by simp),argB]
    refine z7 z14 Tryz.func229 rfl rfl 99 Tryz.ntmps229 (by simp) ?_
    repeat' ((first|(apply y81 ok;rfl)|(apply z4 (cT);rfl;rfl)|((first|(apply z10 [3] [] cF;rfl;rfl)|(apply z10 [0,1] [] ck;rfl;rfl)|(apply z10 [5] [] c7;rfl;rfl));rfl;(focus ((repeat' first|exact z16|apply z15)<;>first|exact z128|exact z52 rfl rfl))))<;>conv=>whnf)
    all_goals (refine rsD [] [] rfl ?_;(repeat' first|exact y83 _|constructor))
   ·rw [if_pos rfl,argB]
    refine z7 z14 Tryz.func229 rfl rfl 99 Tryz.ntmps229 (by simp) ?_
    repeat' ((first|(apply y81 ok;rfl)|(apply z31;kernel_rfl)|(apply z4 (cT);rfl;rfl)|((first|(apply z10 [3] [] cF;rfl;rfl)|(apply z10 [0,1] [] ck;rfl;rfl)|(apply z10 [5] [] c8;rfl;rfl));rfl;(focus ((repeat' first|exact z16|apply z15)<;>first|exact z128|exact z52 rfl rfl))))<;>conv=>whnf)
    all_goals (refine rsD [] [] rfl ?_;(repeat' first|exact y83 _|constructor))
  ·rw [z893,argU 10 0 a]
   have ck:=z280 10 0 [a] neg 0 (by simp) (a.nrm neg) (ca neg)
   have c7:=z122 7 [truT,a.nrm neg] (by simp)
   have c8:=z122 8 [notT truT,a.nrm neg] (by simp)
   generalize a.nrm neg=x at *
   cases neg
   ·rw [if_neg (by simp),argB]
    refine z7 z14 Tryz.func229 rfl rfl 99 Tryz.ntmps229 (by simp) ?_
    repeat' ((first|(apply y81 ok;rfl)|(apply z31;kernel_rfl)|(apply z4 (cT);rfl;rfl)|((first|(apply z10 [3] [] cF;rfl;rfl)|(apply z10 [0,1] [] ck;rfl;rfl)|(apply z10 [5] [] c8;rfl;rfl));rfl;(focus ((repeat' first|exact z16|apply z15)<;>first|exact z128|exact z52 rfl rfl))))<;>conv=>whnf)
    all_goals (refine rsD [] [] rfl ?_;(repeat' first|exact y83 _|constructor))
   ·rw [if_pos rfl,argB]
    refine z7 z14 Tryz.func229 rfl rfl 99 Tryz.ntmps229 (by simp) ?_
    repeat' ((first|(apply y81 ok;rfl)|(apply z4 (cT);rfl;rfl)|((first|(apply z10 [3] [] cF;rfl;rfl)|(apply z10 [0,1] [] ck;rfl;rfl)|(apply z10 [5] [] c7;rfl;rfl));rfl;(focus ((repeat' first|exact z16|apply z15)<;>first|exact z128|exact z52 rfl rfl))))<;>conv=>whnf)
    all_goals (refine rsD [] [] rfl ?_;(repeat' first|exact y83 _|constructor))
 |bin k a b hk ha hb =>
  have ca:=z280 k 0 [a,b] neg 0 (by simp) (a.nrm neg) (ih a (by simp [Tree.kids]) ha neg)
  have cb:=z280 k 0 [a,b] neg 1 (by simp) (b.nrm neg) (ih b (by simp [Tree.kids]) hb neg)
  clear ih
  have cf:=z122 (if neg then z846 k else k) [a.nrm neg,b.nrm neg] (by simp)
  have cp:=z949 k (z846 k) neg
  rw [z633 _ _ _ _ _ hk,argB k 0 a b,argB]
  generalize a.nrm neg=x at *
  generalize b.nrm neg=y at *
  rcases hk with rfl|rfl|rfl|rfl
  all_goals
   refine z7 z14 Tryz.func229 rfl rfl 99 Tryz.ntmps229 (by simp) ?_
   repeat' ((first|(apply y81 ok;rfl)|(apply z4 (cT);rfl;rfl)|((first|(apply z10 [3] [] cF;rfl;rfl)|(apply z10 [0,1] [] ca;rfl;rfl)|(apply z10 [0,1] [] cb;rfl;rfl)|(apply z10 [1] [] cp;rfl;rfl)|(apply z10 [5] [] cf;rfl;rfl));rfl;(focus ((repeat' first|exact z16|apply z15)<;>first|exact z128|exact z52 rfl rfl))))<;>conv=>whnf)
   all_goals (refine rsD [] [] rfl ?_;(repeat' first|exact y83 _|constructor))
theorem z308 (t:Tree) (h:t.sz≤1000000):CallsA Tryz.prog 103 [z25 Tree.cs' t] [] (ownT t) [.cells 3 (t.kids.map Tree.cs')]:=by
 induction t using y26 with|h t ih=>?_
 have hkl:t.kids.length≤1000000:=by rw [y36] at h;omega
 have hks:∀ u∈t.kids,u.sz≤1000000:=fun u hu=>by
  have:=z331 Tree.sz hu
  rw [y36] at h;omega
 rw [y14 t]
 obtain ⟨k,v,l⟩:=t
 simp only [Tree.kind,Tree.val,Tree.kids] at *
 have hcs:∀ (i:Nat) (hi:i < l.length),CallsA Tryz.prog 103 [z25 Tree.cs' l[i]] [] (z25 Tree.cs' l[i]) []:=fun i hi =>
  z250 (ih _ (y42 _) (hks _ (y42 _)))
 unfold ownT
 simp only [Tree.kind,Tree.val,Tree.kids] at *
 refine z7 z14 Tryz.func103 rfl rfl 29 Tryz.ntmps103 (by simp) ?_
 repeat' (((apply y81 ok;rfl))<;>conv=>whnf)
 refine y82 (y85 3 rfl) ?_
 refine z64 (fun i:Nat=>([(1,.ptr 0 none 0),(2,.ptr 1 none 0),(3,.ptr 2 none 0),(4,.int i)],[.cells 3 [[.int k,.int v,lst 3 Tree.cs' l]],.cells 3 [[.int 0,.int 0,.nils]],.cells 3 [[.int k,.int v,.sref 3 0 i]],.cells 3 ((l.take i).map Tree.cs')])) (fun i=>i≤l.length) (fun i=>l.length - i) 0 (by omega) (by refine swR [0,1,2,3] [] rfl rfl ?_;(repeat' first|exact y83 _|exact z37|apply y84|refine z8 rfl (z24) ?_|constructor)) ?_
 intro i hi
 by_cases hil:i < l.length
 ·have hc:=hcs i hil
  repeat' ((first|(apply y81 ok;rfl)|(apply z31;kernel_rfl)|(apply y41;first|omega|(unfold inI;omega)|((try dsimp only);simp only [y47,y46,y45,y44,y56,y57];omega)|exact ⟨rfl,z21 rfl z29⟩)|(((with_reducible apply z9;omega));intro _)|((apply z6)<;>intro _)|(apply z4 (hc);rfl;rfl))<;>conv=>whnf)
  all_goals try (exfalso;omega)
  refine z26 (i+1) (by omega) (by omega) (by refine swR [0,1,2,5] [] rfl rfl ?_;(repeat' first|exact y83 _|apply y84|((refine z33 rfl ?_ ?_);(focus ((repeat' (first|exact z5 (fun _=>rfl)|apply z22));done)))|refine z125 (by omega) (by omega) ?_|constructor))
 ·have e:i=l.length:=by omega
  subst e
  rw [y54]
  repeat' ((first|(apply y81 ok;rfl)|(apply y41;omega)|(((with_reducible apply z9;omega));intro _)|((apply z6)<;>intro _))<;>conv=>whnf)
  all_goals try (exfalso;omega)
  all_goals (refine rsD [3] [] rfl ?_;(repeat' first|exact y83 _|exact z11 _|refine z8 rfl (z5 (fun _=>rfl)) ?_|constructor))
set_option maxHeartbeats 1600000 in
theorem z831 (bs:List Int) (hb:BytesOk bs) (p:Int) (hp:few p) (t:Tree) (ht:t.sz≤1000):∃ (t' : Tree) (p' : Int),(t'.sz≤t.sz+1∧p≤p'∧p'≤p+2)∧CallsA Tryz.prog 42 [.ptr 0 none 0,z25 Tree.cs' t] [rdO bs p] (z25 Tree.cs' t') [rdO bs p']:=by
 have cs:=z308 t (by omega)
 obtain ⟨u,hu⟩:∃ u,u=t:=⟨t,rfl⟩
 have hsz:u.sz≤t.sz:=by rw [hu];exact y50 _
 have cs:CallsA Tryz.prog 103 [z25 Tree.cs' t] [] (ownT u) [.cells 3 (u.kids.map Tree.cs')]:=by rw [hu];exact cs
 clear hu
 have hul:u.kids.length≤1000:=by rw [y36] at hsz;omega
 obtain ⟨v,⟨lv,uv⟩,cv⟩:=z70 bs hb p 50 (by omega) (by omega) (by omega)
 rw [y14 t]
 rw [y14 t] at cs
 unfold ownT at cs
 by_cases h0:v=0
 ·subst h0
  obtain ⟨k,mk,ck⟩:=z106 bs hb (p+1) (by omega) (by omega) [0,11,-1,2,3,4] (by decide) (by decide)
  refine ⟨.mk k u.val u.kids,p+1+1,⟨by rw [z232];rw [y36] at hsz;omega,by omega,by omega⟩,?_⟩
  refine z7 z14 Tryz.func42 rfl rfl 34 Tryz.ntmps42 (by simp) ?_
  repeat' ((first|(apply y81 ok;rfl)|((first|(apply z10 [] [3] cs;rfl;rfl)|(apply z10 [0] [] cv;rfl;rfl)|(apply z10 [0,5] [] ck;rfl;rfl));rfl;(focus ((repeat' first|exact z16|apply z15)<;>first|exact z52 rfl rfl|(refine z19 ?_;((exact z5 fun _=>rfl)))))))<;>conv=>whnf)
  all_goals (refine rsD [0] [3] rfl ?_;(repeat' first|exact y83 _|exact z265|apply y84|((apply z43 rfl rfl rfl);(focus ((repeat ((exact z32 (fun _=>rfl) _)));done));(focus (((simp;done));done)))|apply z36|(apply z78;rfl)|constructor))
 by_cases h1:v=1
 ·subst h1
  obtain ⟨k,mk,ck⟩:=z106 bs hb (p+1) (by omega) (by omega) [-1,3,2,9223372036854775807] (by decide) (by decide)
  refine ⟨.mk u.kind k u.kids,p+1+1,⟨by rw [z232];rw [y36] at hsz;omega,by omega,by omega⟩,?_⟩
  refine z7 z14 Tryz.func42 rfl rfl 34 Tryz.ntmps42 (by simp) ?_
  repeat' ((first|(apply y81 ok;rfl)|((first|(apply z10 [] [3] cs;rfl;rfl)|(apply z10 [0] [] cv;rfl;rfl)|(apply z10 [0,5] [] ck;rfl;rfl));rfl;(focus ((repeat' first|exact z16|apply z15)<;>first|exact z52 rfl rfl|(refine z19 ?_;((exact z5 fun _=>rfl)))))))<;>conv=>whnf)
  all_goals (refine rsD [0] [3] rfl ?_;(repeat' first|exact y83 _|exact z265|apply y84|((apply z43 rfl rfl rfl);(focus ((repeat ((exact z32 (fun _=>rfl) _)));done));(focus (((simp;done));done)))|apply z36|(apply z78;rfl)|constructor))
 by_cases h2:v=2
 ·subst h2
  refine ⟨.mk u.kind u.val (u.kids++[leaf 1 0]),p+1,⟨by rw [z232];rw [y36] at hsz;simp [z90];omega,by omega,by omega⟩,?_⟩
  refine z7 z14 Tryz.func42 rfl rfl 34 Tryz.ntmps42 (by simp) ?_
  repeat' ((first|(apply y81 ok;rfl)|(apply z31;kernel_rfl)|(apply y41;first|((try dsimp only);simp only [y47,y46,y45,y44,y56,y57];omega)|exact ⟨rfl,z21 rfl z29⟩)|(apply z4 (z376);rfl;rfl)|((first|(apply z10 [] [3] cs;rfl;rfl)|(apply z10 [0] [] cv;rfl;rfl));rfl;(focus ((repeat' first|exact z16|apply z15)<;>first|exact z52 rfl rfl|(refine z19 ?_;((exact z5 fun _=>rfl)))))))<;>conv=>whnf)
  all_goals (refine rsD [0] [6] rfl ?_;(repeat' first|exact y83 _|apply y84|((apply z43 rfl rfl rfl);(focus ((repeat (first|exact z32 (fun _=>rfl) _|apply z177|apply z245|rfl));done));(focus (((simp;done));done)))|apply z36|constructor))
  all_goals exact z704 rfl rfl (node_le' (y83 _))
 by_cases h3:v=3
 ·subst h3
  refine ⟨leaf 0 0,p+1,⟨by rw [z90];omega,by omega,by omega⟩,?_⟩
  refine z7 z14 Tryz.func42 rfl rfl 34 Tryz.ntmps42 (by simp) ?_
  repeat' ((first|(apply y81 ok;rfl)|((first|(apply z10 [] [3] cs;rfl;rfl)|(apply z10 [0] [] cv;rfl;rfl));rfl;(focus ((repeat' first|exact z16|apply z15)<;>first|exact z52 rfl rfl|(refine z19 ?_;((exact z5 fun _=>rfl)))))))<;>conv=>whnf)
  all_goals (refine rsD [0] [] rfl ?_;(repeat' first|exact y83 _|exact z38|apply y84|apply z36|constructor))
 ·refine ⟨.mk u.kind u.val u.kids,p+1,⟨by rw [z232];rw [y36] at hsz;omega,by omega,by omega⟩,?_⟩
  refine z7 z14 Tryz.func42 rfl rfl 34 Tryz.ntmps42 (by simp) ?_
  repeat' ((first|(apply y81 ok;rfl)|((apply z6)<;>intro _)|((first|(apply z10 [] [3] cs;rfl;rfl)|(apply z10 [0] [] cv;rfl;rfl));rfl;(focus ((repeat' first|exact z16|apply z15)<;>first|exact z52 rfl rfl|(refine z19 ?_;((exact z5 fun _=>rfl)))))))<;>conv=>whnf)
  all_goals try (exfalso;omega)
  all_goals (refine rsD [0] [3] rfl ?_;(repeat' first|exact y83 _|exact z265|apply y84|((apply z43 rfl rfl rfl);(focus ((repeat ((exact z32 (fun _=>rfl) _)));done));(focus (((simp;done));done)))|apply z36|(apply z78;rfl)|constructor))
theorem z647 (c:Tree) (l:List Tree) (hl:l.length≤maxLen) (p:Tree→Bool) (f:FuncId) (hf:∀ x∈l,CallsA Tryz.prog f [z25 Tree.cs' x,.pt [.int c.kind,.int c.val,lst 3 Tree.cs' c.kids]] [] (.bool (p x)) []):CallsA Tryz.prog 271 [lst 3 Tree.cs' l,.fn (.func f) [] [.pt [.int c.kind,.int c.val,lst 3 Tree.cs' c.kids]]] [] (.int (idxF p l)) []:=by
 unfold maxLen at hl
 refine z12 z14 Tryz.func271 rfl rfl 19 Tryz.ntmps271 (by simp) ?_
 repeat' (((apply y81 ok;rfl))<;>conv=>whnf)
 refine z93 (fun k:Nat=>([(0,lst 3 Tree.cs' l),(1,.fn (.func f) [] [.pt [.int c.kind,.int c.val,lst 3 Tree.cs' c.kids]]),(7,.int l.length),(8,.int k)],[])) (fun k=>k≤l.length∧∀ j (hj:j < l.length),j < k→p l[j]=false) (fun k=>l.length - k) 0 (by simp)
  ⟨[],rfl,by decide,rfl,⟨⟨rfl,rfl⟩,⟨rfl,rfl⟩,⟨rfl,rfl⟩,⟨rfl,rfl⟩,trivial⟩,trivial⟩ ?_
 intro k hk
 repeat' ((first|(apply y81 ok;rfl)|(apply y41;first|omega|(unfold inI;omega))|(((with_reducible apply z9;omega));intro _)|((first|apply z6|apply z92)<;>intro _)|(apply z4 (hf l[k] (y42 _));rfl;rfl))<;>conv=>whnf)
 ·rename_i h h1
  exact z54 rfl rfl (by rw [z179 (by omega) h1 hk.2];rfl)
 ·rename_i h h1
  refine z86 (k+1) [] ⟨by omega,fun j hj hjk=>?_⟩ (by omega) ⟨rfl,by decide,rfl,⟨⟨rfl,rfl⟩,⟨rfl,rfl⟩,⟨rfl,rfl⟩,⟨rfl,rfl⟩,trivial⟩,trivial⟩
  rcases y67 j k with h2|h2
  ·exact hk.2 j hj h2
  ·obtain rfl:j=k:=by omega
   exact h1
 ·exact z54 rfl rfl (by rw [z155 fun j hj=>hk.2 j hj (by omega)];rfl)
theorem z1117 (A B : List Tree) (hA : A.length ≤ maxLen) (hB : B.length ≤ maxLen) (f : FuncId) (hf : ∀ i (h : i < A.length) (h2 : i < B.length), CallsA Tryz.prog f [z25 Tree.cs' A[i], z25 Tree.cs' B[i]] [] (.bool (decide (A[i] = B[i]))) []) :
    CallsA Tryz.prog 299 [lst 3 Tree.cs' A,lst 3 Tree.cs' B,.fn (.func f) [] []] [] (.bool (decide (A=B))) []:=by
  unfold maxLen at hA hB
  by_cases hl:A.length=B.length
  · have hT:(∀ i (h:i < A.length) (h2:i < B.length),A[i]=B[i])→decide (A=B)=true:=fun h=>y78 (y72 hl h)
    have hF:∀ i (h:i < A.length) (h2:i < B.length),A[i]≠B[i]→decide (A=B)=false:=fun i h h2 hne=>y79 fun e=>hne (by subst e;rfl)
    generalize decide (A=B)=D at *
    refine z7 z14 Tryz.func299 rfl (by kernel_rfl) 32 Tryz.ntmps299 (by simp) ?_
    repeat' ((first|(apply y81 ok;rfl)|((apply z35)<;>intro _))<;>conv=>whnf)
    all_goals try (exfalso;omega)
    refine z64 (fun i:Nat=>([(0,lst 3 Tree.cs' A),(1,lst 3 Tree.cs' B),(2,.fn (.func f) [] []),(15,lst 3 Tree.cs' A),(16,.int A.length),(17,.int i)],[])) (fun i=>i≤A.length∧∀ j (h:j < A.length) (h2:j < B.length),j < i→A[j]=B[j]) (fun i=>A.length - i) 0 ⟨y51 _,fun j _ _ h=>absurd h (Nat.not_lt_zero _)⟩ (by refine swR [] [] rfl rfl ?_;(repeat' first|exact y83 _|constructor)) ?_
    rintro i ⟨hi,hj⟩
    by_cases hil:i < A.length
    · have hil2:i < B.length:=by omega
      have c1:=hf i hil hil2
      have gA:(A.map Tree.cs')[i]?=some (Tree.cs' A[i]):=by rw [y49,y43 hil];rfl
      have gB:(B.map Tree.cs')[i]?=some (Tree.cs' B[i]):=by rw [y49,y43 hil2];rfl
      by_cases he:A[i]=B[i]
      · rw [y78 he] at c1
        have hj2:∀ j (h:j < A.length) (h2:j < B.length),j < i+1→A[j]=B[j]:=fun j h h2 hji=>by
          rcases y67 j i with h3|h3
          · exact hj j h h2 h3
          · obtain rfl:j=i:=by omega
            exact he
        generalize A[i]=x at *
        generalize B[i]=y at *
        repeat' ((first|(apply y81 ok;rfl)|(refine z13 (i:=i) rfl gA ?_)|(refine z13 (i:=i) rfl gB ?_)|(apply y41;first|omega|(unfold inI;omega))|((apply z6)<;>intro _)|(apply z4 (c1);rfl;rfl))<;>conv=>whnf)
        all_goals try (exfalso;omega)
        all_goals refine z26 (i+1) ⟨by omega,hj2⟩ (by omega) (by refine swR [] [] rfl rfl ?_;(repeat' first|exact y83 _|constructor))
      · rw [y79 he] at c1
        have hD:=hF i hil hil2 he
        subst hD
        generalize A[i]=x at *
        generalize B[i]=y at *
        repeat' ((first|(apply y81 ok;rfl)|(refine z13 (i:=i) rfl gA ?_)|(refine z13 (i:=i) rfl gB ?_)|(apply y41;omega)|((apply z6)<;>intro _)|(apply z4 (c1);rfl;rfl))<;>conv=>whnf)
        all_goals try (exfalso;omega)
        all_goals (refine rsD [] [] rfl ?_;(repeat' first|exact y83 _|constructor))
    · have hD:=hT (fun j h h2=>hj j h h2 (by omega))
      subst hD
      repeat' ((first|(apply y81 ok;rfl)|(apply y41;omega)|(((with_reducible apply z9;omega));intro _)|((apply z6)<;>intro _))<;>conv=>whnf)
      all_goals try (exfalso;omega)
      all_goals (refine rsD [] [] rfl ?_;(repeat' first|exact y83 _|constructor))
  · rw [y79 (fun e=>hl (by rw [e]))]
    refine z7 z14 Tryz.func299 rfl (by kernel_rfl) 32 Tryz.ntmps299 (by simp) ?_
    repeat' ((first|(apply y81 ok;rfl)|((apply z35)<;>intro _))<;>conv=>whnf)
    all_goals first|(exfalso;omega)|(refine rsD [] [] rfl ?_;(repeat' first|exact y83 _|constructor))
theorem z651 (a:Tree):a.mx→∀ b:Tree,b.mx→CallsA Tryz.prog 273 [z25 Tree.cs' a,z25 Tree.cs' b] [] (.bool (decide (a=b))) []:=by
 induction a using y26 with|h a ih=>?_
 intro ha b hb
 rw [y27] at ha hb
 have cE:=z1117 a.kids b.kids ha.1 hb.1 273 (fun i h h2=>ih _ (y42 _) (ha.2 _ (y42 _)) _ (hb.2 _ (y42 _)))
 clear ih
 rw [y14,y14]
 by_cases hk:a.kind=b.kind∧a.val=b.val
 ·obtain ⟨k1,k2⟩:=hk
  have e:decide (a.kids=b.kids)=decide (a=b):=decide_eq_decide.2 ⟨fun h=>Tree.ext k1 k2 h,fun h=>by rw [h]⟩
  rw [e] at cE
  generalize decide (a=b)=D at *
  cases D
  all_goals
   refine z7 z14 Tryz.func273 rfl rfl 24 Tryz.ntmps273 (by simp) ?_
   repeat' ((first|(apply y81 ok;rfl)|((apply z6)<;>intro _)|(apply z4 (cE);rfl;rfl))<;>conv=>whnf)
   all_goals try (exfalso;omega)
   all_goals (refine rsD [] [] rfl ?_;(repeat' first|exact y83 _|constructor))
 ·rw [y79 (fun e=>hk (by subst e;exact ⟨rfl,rfl⟩))]
  clear cE
  refine z7 z14 Tryz.func273 rfl rfl 24 Tryz.ntmps273 (by simp) ?_
  repeat' ((first|(apply y81 ok;rfl)|((apply z6)<;>intro _))<;>conv=>whnf)
  all_goals first|(exfalso;omega)|(refine rsD [] [] rfl ?_;(repeat' first|exact y83 _|constructor))
theorem z289 (l:List Tree) (hl:l.length≤1000000) (hm:∀ t∈l,t.mx) (t:Tree) (ht:t.mx):CallsA Tryz.prog 230 [lst 3 Tree.cs' l,z25 Tree.cs' t] [] (.int (idxF (fun x=>decide (x=t)) l)) []:=by
 have cI:=z647 t l (by unfold maxLen;omega) (fun x=>decide (x=t)) 272 (fun x hx=>by
  have cS:=z651 x (hm x hx) t ht
  rw [y14 t] at cS
  refine z7 z14 Tryz.func272 rfl rfl 7 Tryz.ntmps272 (by simp) ?_
  rw [y14 x] at cS ⊢
  repeat' ((first|(apply y81 ok;rfl)|(apply z4 (cS);rfl;rfl))<;>conv=>whnf)
  all_goals (refine rsD [] [] rfl ?_;(repeat' first|exact y83 _|constructor)))
 rw [y14 t]
 refine z7 z14 Tryz.func230 rfl rfl 8 Tryz.ntmps230 (by simp) ?_
 repeat' ((first|(apply y81 ok;rfl)|(apply z95 [] [0] [] cI;(focus ((repeat' first|exact z72|apply z48)<;>rfl));rfl;rfl;(focus ((repeat' exact z16)<;>fail));((refine .inr ⟨rfl,?_⟩;repeat' exact True.intro))))<;>conv=>whnf)
 all_goals (refine rsD [] [] rfl ?_;(repeat' first|exact y83 _|constructor))
theorem z1128 (t:Tree) (h:t.sz≤1000000):CallsA Tryz.prog 225 [z25 Tree.cs' t] [] (ownT t) [.cells 3 (t.kids.map Tree.cs')]:=by
 induction t using y26 with|h t ih=>?_
 have hkl:t.kids.length≤1000000:=by rw [y36] at h;omega
 have hks:∀ u∈t.kids,u.sz≤1000000:=fun u hu=>by
  have:=z331 Tree.sz hu
  rw [y36] at h;omega
 rw [y14 t]
 obtain ⟨k,v,l⟩:=t
 simp only [Tree.kind,Tree.val,Tree.kids] at *
 have hcs:∀ (i:Nat) (hi:i < l.length),CallsA Tryz.prog 225 [z25 Tree.cs' l[i]] [] (z25 Tree.cs' l[i]) []:=fun i hi =>
  z250 (ih _ (y42 _) (hks _ (y42 _)))
 have cC:=z171 l (by omega)
 unfold ownT
 simp only [Tree.kind,Tree.val,Tree.kids] at *
 refine z7 z14 Tryz.func225 rfl rfl 30 Tryz.ntmps225 (by simp) ?_
 repeat' ((first|(apply y81 ok;rfl)|(apply z31;kernel_rfl)|(apply z10 [] [2] cC;rfl;rfl;rfl;(focus ((repeat' first|exact z16|apply z15)<;>(refine z19 ?_;((exact z5 fun _=>rfl)))))))<;>conv=>whnf)
 refine z64 (fun i:Nat=>([(1,.ptr 0 none 0),(2,.ptr 1 none 0),(3,.ptr 3 none 0),(15,lst 3 Tree.cs' l),(16,.int l.length),(17,.int i)],[.cells 3 [[.int k,.int v,lst 3 Tree.cs' l]],.cells 3 [[.int 0,.int 0,.nils]],.cells 3 (l.map Tree.cs'),.cells 3 [[.int k,.int v,.sref 2 0 l.length]]])) (fun i=>i≤l.length) (fun i=>l.length - i) 0 (by omega) (by refine swR [0,1,2,3] [] rfl rfl ?_;(repeat' first|exact y83 _|exact z11 _|apply y84|refine z8 rfl (z5 (fun _=>rfl)) ?_|constructor)) ?_
 intro i hi
 by_cases hil:i < l.length
 ·have hc:=hcs i hil
  have gk:(l.map Tree.cs')[i]?=some (Tree.cs' l[i]):=by rw [y49,y43 hil];rfl
  have hset:(l.map Tree.cs').set i (Tree.cs' l[i])=l.map Tree.cs':=by
   apply y72 (by simp)
   intro j h1 h2
   rw [List.getElem_set]
   split
   ·rename_i e;subst e;simp
   ·rfl
  generalize l[i]=x at *
  repeat' ((first|(apply y81 ok;rfl)|(apply z31;kernel_rfl)|(refine z13 (i:=i) rfl gk ?_)|(apply y41;first|omega|(unfold inI;omega))|((apply z6)<;>intro _)|(apply z4 (hc);rfl;rfl))<;>conv=>whnf)
  all_goals try (exfalso;omega)
  all_goals refine z26 (i+1) (by omega) (by omega) (by refine swR [0,1,2,3] [] rfl rfl ?_;(repeat' first|exact y83 _|apply y84|refine z61 rfl (z5 (fun _=>rfl)) ?_|constructor)<;>((refine z49 ?_;exact hset)))
 ·have e:i=l.length:=by omega
  subst e
  repeat' ((first|(apply y81 ok;rfl)|(apply y41;omega)|(((with_reducible apply z9;omega));intro _)|((apply z6)<;>intro _))<;>conv=>whnf)
  all_goals try (exfalso;omega)
  all_goals (refine rsD [2] [] rfl ?_;(repeat' first|exact y83 _|exact z11 _|refine z8 rfl (z5 (fun _=>rfl)) ?_|constructor))
theorem z661 (t:Tree) (h:t.sz≤1000000):CallsA Tryz.prog 225 [z25 Tree.cs' t] [] (z25 Tree.cs' t) []:=z250 (z1128 t h)
end Go.Proofs.YtjhgpfaodkchjaaGreat
