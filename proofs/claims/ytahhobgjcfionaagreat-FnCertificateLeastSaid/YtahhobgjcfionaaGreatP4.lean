/- A part of the proofs over this program: T92, T93, T94, T140, T141, T142, T143, T144, T145, T146, T147, T148. -/
import Derived.Test.YtahhobgjcfionaaGreatG0
import Derived.Test.YtahhobgjcfionaaGreatG1
import Derived.Test.YtahhobgjcfionaaGreatG2
import Derived.Test.YtahhobgjcfionaaGreatG3
import Derived.Test.YtahhobgjcfionaaGreatP0
import Derived.Test.YtahhobgjcfionaaGreatP1
import Derived.Test.YtahhobgjcfionaaGreatP2
import Derived.Test.YtahhobgjcfionaaGreatP3
set_option linter.all false
namespace Go.Proofs.YtahhobgjcfionaaGreat
open Go.Gl
attribute [local irreducible] z29 AWP z46 z50 z47 RetS z58
noncomputable def z337 (s:Sys):Option Graph:=if sysB s=true then grow s 61 [⟨List.replicate s.ps.length 0,s.init⟩] [] 0 else none
theorem z613 {q:Bool} : LocLe (.tup [.agg [.nils,.nils],.bool q]) (.tup [.agg (⟨[],[]⟩:Graph).cs,.bool q]):=z92 (.cons (z41 (.cons z53 (.cons z53 .nil))) (.cons (y78 _) .nil))
theorem z436 {objs:Nat→AObj} {π Bn:List Nat} {o:Nat} {l:List State} (ho:objs o=.cells 2 (l.map State.cs)) (h1:idx π o=none) (h2:inB Bn o=true):bor objs π Bn (.sref o 0 l.length)=lst 2 State.cs l :=
 z266 ho h1 h2 (by simp) (z31 (fun _=>rfl) _)
set_option maxHeartbeats 6400000 in
theorem z683 (s:Sys) (hsm:s.sm):CallsA Tryz.prog 136 [.agg s.cs] [] (.tup [.agg ((z337 s).getD ⟨[],[]⟩).cs,.bool (z337 s).isSome]) []:=by
 have c0:=z759 s hsm
 by_cases hv:sysB s=true
 ·have hs:=Sys.ok_of hv
  have hn3:=hs.n3
  have eb:z337 s=grow s 61 [⟨List.replicate s.ps.length 0,s.init⟩] [] 0:=by unfold z337;rw [if_pos hv]
  rw [if_pos hv,hv] at c0
  have hI0:GInv s [⟨List.replicate s.ps.length 0,s.init⟩] [] 0:=⟨by simp,by simp,by simp,rfl,fun t ht=>by
   rw [List.mem_singleton.1 ht]
   exact ⟨by simp,hs.init⟩,by simp⟩
  rw [eb]
  generalize (⟨List.replicate s.ps.length 0,s.init⟩:State)=st1 at *
  generalize hR:grow s 61 [st1] [] 0=R at *
  refine z7 z15 Tryz.func136 rfl rfl 96 Tryz.ntmps136 (by simp) ?_
  repeat' ((first|(apply y76 ok;rfl)|(apply z6 (c0);rfl;rfl))<;>conv=>whnf)
  refine y77 (y81 1 rfl) ?_
  refine z65 (fun x:Nat×List State×List (List Int)=>([(1,.ptr 0 none 0),(2,.ptr 1 none 0),(6,.ptr 2 none 0),(7,.int x.1)],[.cells 2 [s.cs],.cells 2 [[.nils,.nils]],.cells 2 [[.sref 3 0 x.2.1.length,.sref 4 0 x.2.2.length]],.cells 2 (x.2.1.map State.cs),.cells 1 (x.2.2.map encL)])) (fun x=>GInv s x.2.1 x.2.2 x.1∧grow s (61 - x.1) x.2.1 x.2.2 x.1=R) (fun x=>61 - x.1) (0,[st1],[]) ⟨hI0,hR⟩ (by refine swR [0,1,4,3,5] [] rfl rfl ?_;(repeat' first|exact y78 _|exact z48|apply y79|refine z10 rfl (z34) ?_|constructor)) ?_
  rintro ⟨i,S,G⟩ ⟨hI,hg⟩
  simp only at hI hg
  have hS60:=hI.n
  have hGi:=hI.g
  have hile:=hI.le
  by_cases hil:i < S.length
  ·obtain ⟨st0,hst⟩:∃ st0,S[i]?=some st0:=⟨S[i],y38 hil⟩
   have h0:=hI.st st0 (List.mem_of_getElem? hst)
   rw [show 61 - i=(60 - i)+1 by omega,grow,hst] at hg
   dsimp only at hg
   have cS:=z978 s hs st0 h0
   have hLl:=z714 hs (st:=st0)
   have hLo:∀ x∈z564 s st0,x.ok s:=fun x hx=>z891 x hx
   have gS:(S.map State.cs)[i]?=some (State.cs st0):=by rw [y44,hst];rfl
   generalize z564 s st0=LST at *
   generalize hRIN:inn s st0 LST S []=RIN at *
   repeat' ((first|(apply y76 ok;rfl)|(apply z21;kernel_rfl)|(refine z12 (i:=i) rfl gS ?_)|(apply y36;omega)|((apply z5)<;>intro _)|(apply z6 (cS);rfl;rfl))<;>conv=>whnf)
   all_goals first|(exfalso;dsimp only at *;omega)|skip
   refine z65 (fun x:Nat×List State×List Int=>([(1,.ptr 0 none 0),(2,.ptr 1 none 0),(6,.ptr 2 none 0),(7,.int i),(8,lst 4 Stp.cs LST),(9,.sref 5 0 x.2.2.length),(10,.int x.1)],[.cells 2 [s.cs],.cells 2 [[.nils,.nils]],.cells 2 [[.sref 3 0 x.2.1.length,.sref 4 0 G.length]],.cells 2 (x.2.1.map State.cs),.cells 1 (G.map encL),.cells 1 (x.2.2.map enI)])) (fun x=>x.1≤LST.length∧x.2.1.length≤60∧(∀ t∈x.2.1,t.ok s)∧x.2.1[i]?=some st0∧x.2.2.length≤x.1∧inn s st0 (LST.drop x.1) x.2.1 x.2.2=RIN) (fun x=>LST.length - x.1) (0,S,[]) ⟨by simp,hS60,hI.st,hst,by simp,hRIN⟩ (by refine swR [0,1,2,3,4,5] [] rfl rfl ?_;(repeat' first|exact y78 _|exact z9 _|apply y79|((refine z10 rfl ?_ ?_);(focus ((repeat' (first|exact z34|exact z4 (fun _=>rfl)));done)))|constructor)) ?_
   rintro ⟨k,S',N⟩ ⟨hk,hS',hSo,hSi,hN,hin⟩
   simp only at hk hS' hSo hSi hN hin
   by_cases hkl:k < LST.length
   ·rw [y71 hkl,inn] at hin
    have hx:=hLo LST[k] (y37 _)
    have g1:(LST.map Stp.cs)[k]?=some (Stp.cs LST[k]):=by rw [y44,y38 hkl];rfl
    have c83:=z979 s hs st0 h0 LST[k] hx
    have hto:=z781 hs h0 hx
    have g0:(S'.map State.cs)[i]?=some (State.cs st0):=by rw [y44,hSi];rfl
    have hiS:i < S'.length:=(List.getElem?_eq_some_iff.1 hSi).1
    generalize z247 s st0 LST[k]=to at *
    have c84:=z1098 S' to (by omega) (fun t ht=>(hSo t ht).sm hs) (hto.sm hs)
    have hfr:=z858 to S' 0 (by omega)
    generalize z327 to S' 0=n at *
    generalize LST[k]=x at *
    have cN:=fun v=>z662 N (by unfold maxLen;omega) v
    by_cases hn:n < 0
    ·rw [if_pos hn] at hin
     by_cases h60:60≤(S'.length:Int)
     ·rw [if_pos h60] at hin
      subst hin
      dsimp only at hg
      subst hg
      repeat' ((first|(apply y76 ok;rfl)|(apply z21;kernel_rfl)|(refine z12 (i:=i) rfl g0 ?_)|(refine z12 (i:=k) rfl g1 ?_)|(apply y36;first|omega|(dsimp only;omega)|((try dsimp only);simp only [y42,y41,y40,y39,y51,y52];omega)|exact ⟨rfl,z19 rfl z26⟩)|((apply z5)<;>intro _)|(apply z6 (c83);rfl;rfl)|(apply z112 [] [3] [] c84;(focus (exact z56 (z436 rfl rfl rfl) (z56 rfl z84)));rfl;rfl;(focus ((repeat' exact z17)<;>fail));((refine .inr ⟨rfl,?_⟩;repeat' exact True.intro))))<;>conv=>whnf)
      all_goals first|(exfalso;omega)|(exfalso;dsimp only at *;omega)|skip
      all_goals refine y11 [] [] rfl rfl rfl ?_
      all_goals exact RetS.done z613 .nil
     ·rw [if_neg h60] at hin
      have cM:=cN S'.length
      by_cases hm:(S'.length:Int)∈N
      ·rw [if_pos hm] at hin
       rw [y73 hm] at cM
       repeat' ((first|(apply y76 ok;rfl)|(apply z21;kernel_rfl)|(refine z12 (i:=i) rfl g0 ?_)|(refine z12 (i:=k) rfl g1 ?_)|(apply y36;first|omega|(unfold inI;omega)|(dsimp only;omega)|((try dsimp only);simp only [y42,y41,y40,y39,y51,y52];omega)|exact ⟨rfl,z19 rfl z26⟩)|((apply z5)<;>intro _)|(apply z6 (c83);rfl;rfl)|((first|(apply z112 [] [3] [] c84;(focus (exact z56 (z436 rfl rfl rfl) (z56 rfl z84)));rfl)|(apply z112 [] [5] [] cM;(focus ((repeat' first|exact z84|apply z56)<;>first|exact z102 rfl rfl rfl|rfl));rfl));rfl;(focus ((repeat' exact z17)<;>fail));((refine .inr ⟨rfl,?_⟩;repeat' exact True.intro))))<;>conv=>whnf)
       all_goals first|(exfalso;omega)|(exfalso;contradiction)|skip
       all_goals refine z25 (k+1,S'++[to],N) ⟨by omega,by simp;omega,fun t ht=>by rcases List.mem_append.1 ht with h|h;exact hSo t h;rw [List.mem_singleton.1 h];exact hto,by rw [← hSi];exact y58 hiS,by show N.length≤k+1;omega,hin⟩ (by show LST.length - (k+1) < LST.length - k;omega) (by refine swR [0,1,2,8,4,5] [] rfl rfl ?_;(repeat' first|exact y78 _|exact z9 _|(refine z38 ?_;((simp;done)))|apply y79|((first|refine z33 rfl ?_ ?_|refine z10 rfl ?_ ?_);(focus ((repeat' (first|exact z4 (fun _=>rfl)|apply z22));done)))|(refine z76 ?_ ?_;(focus (omega)))|constructor))
      ·rw [if_neg hm] at hin
       rw [y74 hm] at cM
       repeat' ((first|(apply y76 ok;rfl)|(apply z21;kernel_rfl)|(refine z12 (i:=i) rfl g0 ?_)|(refine z12 (i:=k) rfl g1 ?_)|(apply y36;first|omega|(unfold inI;omega)|(dsimp only;omega)|((try dsimp only);simp only [y42,y41,y40,y39,y51,y52];omega)|exact ⟨rfl,z19 rfl z26⟩)|((apply z5)<;>intro _)|(apply z6 (c83);rfl;rfl)|((first|(apply z112 [] [3] [] c84;(focus (exact z56 (z436 rfl rfl rfl) (z56 rfl z84)));rfl)|(apply z112 [] [5] [] cM;(focus ((repeat' first|exact z84|apply z56)<;>first|exact z102 rfl rfl rfl|rfl));rfl));rfl;(focus ((repeat' exact z17)<;>fail));((refine .inr ⟨rfl,?_⟩;repeat' exact True.intro))))<;>conv=>whnf)
       all_goals first|(exfalso;omega)|(exfalso;contradiction)|skip
       all_goals refine z25 (k+1,S'++[to],N++[(S'.length:Int)]) ⟨by omega,by simp;omega,fun t ht=>by rcases List.mem_append.1 ht with h|h;exact hSo t h;rw [List.mem_singleton.1 h];exact hto,by rw [← hSi];exact y58 hiS,by simp;omega,hin⟩ (by show LST.length - (k+1) < LST.length - k;omega) (by refine swR [0,1,2,8,4,10] [] rfl rfl ?_;(repeat' first|exact y78 _|exact z9 _|(refine z38 ?_;((simp;done)))|apply y79|((first|refine z33 rfl ?_ ?_|refine z10 rfl ?_ ?_);(focus ((repeat' (first|exact z4 (fun _=>rfl)|apply z22));done)))|(refine z76 ?_ ?_;(focus (omega)))|constructor))
    ·rw [if_neg hn] at hin
     by_cases h60:60≤n
     ·rw [if_pos h60] at hin
      subst hin
      dsimp only at hg
      subst hg
      repeat' ((first|(apply y76 ok;rfl)|(apply z21;kernel_rfl)|(refine z12 (i:=i) rfl g0 ?_)|(refine z12 (i:=k) rfl g1 ?_)|(apply y36;omega)|((apply z5)<;>intro _)|(apply z6 (c83);rfl;rfl)|(apply z112 [] [3] [] c84;(focus (exact z56 (z436 rfl rfl rfl) (z56 rfl z84)));rfl;rfl;(focus ((repeat' exact z17)<;>fail));((refine .inr ⟨rfl,?_⟩;repeat' exact True.intro))))<;>conv=>whnf)
      all_goals (exfalso;omega)
      all_goals refine y11 [] [] rfl rfl rfl ?_
      all_goals exact RetS.done z613 .nil
     ·rw [if_neg h60] at hin
      have cM:=cN n
      by_cases hm:n∈N
      ·rw [if_pos hm] at hin
       rw [y73 hm] at cM
       repeat' ((first|(apply y76 ok;rfl)|(apply z21;kernel_rfl)|(refine z12 (i:=i) rfl g0 ?_)|(refine z12 (i:=k) rfl g1 ?_)|(apply y36;first|omega|(unfold inI;omega)|(dsimp only;omega))|((apply z5)<;>intro _)|(apply z6 (c83);rfl;rfl)|((first|(apply z112 [] [3] [] c84;(focus (exact z56 (z436 rfl rfl rfl) (z56 rfl z84)));rfl)|(apply z112 [] [5] [] cM;(focus ((repeat' first|exact z84|apply z56)<;>first|exact z102 rfl rfl rfl|rfl));rfl));rfl;(focus ((repeat' exact z17)<;>fail));((refine .inr ⟨rfl,?_⟩;repeat' exact True.intro))))<;>conv=>whnf)
       all_goals try (exfalso;omega)
       all_goals refine z25 (k+1,S',N) ⟨by omega,hS',hSo,hSi,by show N.length≤k+1;omega,hin⟩ (by show LST.length - (k+1) < LST.length - k;omega) (by refine swR [0,1,2,3,4,5] [] rfl rfl ?_;(repeat' first|exact y78 _|exact z9 _|apply y79|refine z10 rfl (z4 (fun _=>rfl)) ?_|constructor))
      ·rw [if_neg hm] at hin
       rw [y74 hm] at cM
       repeat' ((first|(apply y76 ok;rfl)|(apply z21;kernel_rfl)|(refine z12 (i:=i) rfl g0 ?_)|(refine z12 (i:=k) rfl g1 ?_)|(apply y36;first|omega|(unfold inI;omega)|(dsimp only;omega)|((try dsimp only);simp only [y42,y41,y40,y39,y51,y52];omega)|exact ⟨rfl,z19 rfl z26⟩)|((apply z5)<;>intro _)|(apply z6 (c83);rfl;rfl)|((first|(apply z112 [] [3] [] c84;(focus (exact z56 (z436 rfl rfl rfl) (z56 rfl z84)));rfl)|(apply z112 [] [5] [] cM;(focus ((repeat' first|exact z84|apply z56)<;>first|exact z102 rfl rfl rfl|rfl));rfl));rfl;(focus ((repeat' exact z17)<;>fail));((refine .inr ⟨rfl,?_⟩;repeat' exact True.intro))))<;>conv=>whnf)
       all_goals try (exfalso;omega)
       all_goals refine z25 (k+1,S',N++[n]) ⟨by omega,hS',hSo,hSi,by simp;omega,hin⟩ (by show LST.length - (k+1) < LST.length - k;omega) (by refine swR [0,1,2,3,4,8] [] rfl rfl ?_;(repeat' first|exact y78 _|exact z9 _|(refine z38 ?_;((simp;done)))|apply y79|((first|refine z33 rfl ?_ ?_|refine z10 rfl ?_ ?_);(focus ((repeat' (first|exact z4 (fun _=>rfl)|apply z22));done)))|(refine z76 ?_ ?_;(focus (omega)))|constructor))
   ·rw [y75 (by omega),inn] at hin
    subst hin
    dsimp only at hg
    have hiS:i < S'.length:=(List.getElem?_eq_some_iff.1 hSi).1
    have hnext:GInv s S' (G++[z724 LST N i]) (i+1):=⟨by omega,hS',by omega,by simp [hGi],hSo,fun r hr=>by
     rcases List.mem_append.1 hr with h|h
     ·exact hI.row r h
     ·rw [List.mem_singleton.1 h]
      unfold z724
      split<;>(try simp)<;>omega⟩
    rw [show 60 - i=61 - (i+1) by omega] at hg
    by_cases hz:LST=[]
    ·have er:z724 LST N i=N++[(i:Int)]:=by unfold z724;rw [if_pos hz]
     have hz0:LST.length=0:=by rw [hz];rfl
     rw [er] at hg hnext
     repeat' ((first|(apply y76 ok;rfl)|(apply y36;first|omega|(unfold inI;omega)|(dsimp only;omega)|((try dsimp only);simp only [y42,y41,y40,y39,y51,y52];omega)|exact ⟨rfl,z19 rfl z26⟩)|((first|(with_reducible apply z8;omega)|(apply z8;omega));intro _)|((apply z5)<;>intro _))<;>conv=>whnf)
     all_goals try (exfalso;omega)
     all_goals refine z25 (i+1,S',G++[N++[(i:Int)]]) ⟨hnext,hg⟩ (by show 61 - (i+1) < 61 - i;omega) (by refine swR [0,1,2,3,9] [7] rfl rfl ?_;(repeat' first|exact y78 _|exact z9 _|(refine z38 ?_;((simp;done)))|apply y79|((first|refine z33 rfl ?_ ?_|refine z10 rfl ?_ ?_);(focus ((repeat' (first|exact z4 (fun _=>rfl)|apply z22));done)))|(refine z76 ?_ ?_;(focus (omega)))|((apply z89 rfl rfl rfl);(focus ((repeat (first|exact z31 (fun _=>rfl) _|apply z198|apply z309|rfl));done));(focus (((simp;done));done)))|(refine z81 ?_ ?_;(focus (simp;done)))|constructor))
    ·have er:z724 LST N i=N:=by unfold z724;rw [if_neg hz]
     have hz0:LST.length≠0:=fun h=>hz (y66 h)
     rw [er] at hg hnext
     repeat' ((first|(apply y76 ok;rfl)|(apply y36;first|omega|(unfold inI;omega)|((try dsimp only);simp only [y42,y41,y40,y39,y51,y52];omega)|exact ⟨rfl,z19 rfl z26⟩)|((first|(with_reducible apply z8;omega)|(apply z8;omega));intro _)|((apply z5)<;>intro _))<;>conv=>whnf)
     all_goals try (exfalso;omega)
     all_goals refine z25 (i+1,S',G++[N]) ⟨hnext,hg⟩ (by show 61 - (i+1) < 61 - i;omega) (by refine swR [0,1,2,3,7] [5] rfl rfl ?_;(repeat' first|exact y78 _|exact z9 _|(refine z38 ?_;((simp;done)))|apply y79|((first|refine z33 rfl ?_ ?_|refine z10 rfl ?_ ?_);(focus ((repeat' (first|exact z4 (fun _=>rfl)|apply z22));done)))|(refine z76 ?_ ?_;(focus (omega)))|((apply z89 rfl rfl rfl);(focus ((repeat ((exact z31 (fun _=>rfl) _)));done));(focus (((simp;done));done)))|constructor))
  ·have hn:S[i]?=none:=List.getElem?_eq_none_iff.2 (by omega)
   rw [show 61 - i=(60 - i)+1 by omega,grow,hn] at hg
   dsimp only at hg
   subst hg
   repeat' ((first|(apply y76 ok;rfl)|(apply y36;omega)|(((apply z8;omega));intro _)|((apply z5)<;>intro _))<;>conv=>whnf)
   all_goals first|(exfalso;contradiction)|skip
   all_goals (refine rsD [] [3,4] rfl ?_;(repeat' first|exact y78 _|((apply z36 rfl rfl rfl);(focus ((repeat ((exact z31 (fun _=>rfl) _)));done));(focus (((simp;done));done)))|apply z41|apply z92|constructor))
 ·have eb:z337 s=none:=by unfold z337;rw [if_neg hv]
  rw [if_neg hv,(y64 _).mp hv] at c0
  rw [eb]
  refine z7 z15 Tryz.func136 rfl rfl 96 Tryz.ntmps136 (by simp) ?_
  repeat' ((first|(apply y76 ok;rfl)|(apply z6 (c0);rfl;rfl))<;>conv=>whnf)
  all_goals refine y11 [] [] rfl rfl rfl ?_
  all_goals exact RetS.done z613 .nil
def isSt (bs:List Int) (i:Int) (q:Int) (t:State) (q' : Int):Prop:=∃ a b:Int,t=⟨[i % 3],[a,b,0]⟩∧q'=q+1+1 ∧
 CallsA Tryz.prog 92 [.ptr 0 none 0,.int 3] [rdO bs q] (.int a) [rdO bs (q+1)]∧CallsA Tryz.prog 92 [.ptr 0 none 0,.int 2] [rdO bs (q+1)] (.int b) [rdO bs (q+1+1)]
def isRow (bs:List Int) (n:Nat) (q:Int) (r:List Int) (q' : Int):Prop:=∃ a b c:Int,r=(if c=0∧b≠a then [a,b] else [a])∧q'=q+1+1+1 ∧
 CallsA Tryz.prog 92 [.ptr 0 none 0,.int n] [rdO bs q] (.int a) [rdO bs (q+1)]∧CallsA Tryz.prog 92 [.ptr 0 none 0,.int n] [rdO bs (q+1)] (.int b) [rdO bs (q+1+1)] ∧
 CallsA Tryz.prog 92 [.ptr 0 none 0,.int 2] [rdO bs (q+1+1)] (.int c) [rdO bs (q+1+1+1)]
structure Small (bs:List Int) (q q' : Int) (g:Graph) (m:Nat) (pf pg:Nat→Int):Prop where
 num:CallsA Tryz.prog 133 [.ptr 0 none 0,.sref 1 0 6] [rdO bs q,.cells 1 ([3,4,2,5,1,6].map enI)] (.int m) [rdO bs (pf 0),.cells 1 ([3,4,2,5,1,6].map enI)]
 m1:1≤m
 m6:m≤6
 sl:g.st.length=m
 nl:g.nx.length=m
 st:∀ k (h:k < g.st.length),isSt bs (m - k) (pf k) g.st[k] (pf (k+1))
 mid:pf m=pg 0
 row:∀ k (h:k < g.nx.length),isRow bs m (pg k) g.nx[k] (pg (k+1))
 last:pg m=q'
 q0:q≤q'
 q1:q'≤q+40
theorem z894 (bs:List Int) (hb:BytesOk bs) (q:Int) (hq:0≤q∧q≤999990000):∃ g q' m pf pg,Small bs q q' g m pf pg:=by
 obtain ⟨w,mw,cw⟩:=z98 bs hb q (by omega) (by omega) [3,4,2,5,1,6] (by decide) (by decide)
 simp only [List.mem_cons,List.not_mem_nil,or_false] at mw
 obtain ⟨m,rfl⟩:∃ m:Nat,w=m:=⟨w.toNat,by omega⟩
 obtain ⟨S,pf,h1,h2,h3,h4⟩:=z271 (fun k r t r'=>isSt bs (m - k) r t r') (q+1) 2 m (fun k r hk a1 a2=>by
  obtain ⟨a,_,ca⟩:=z57 bs hb r 3 (by omega) (by omega) (by omega)
  obtain ⟨b,_,cb⟩:=z57 bs hb (r+1) 2 (by omega) (by omega) (by omega)
  exact ⟨_,_,⟨a,b,rfl,rfl,ca,cb⟩,by omega,by omega⟩)
 have h5:=h4 m (y45 _)
 obtain ⟨G,pg,g1,g2,g3,g4⟩:=z271 (fun _ r t r'=>isRow bs m r t r') (pf m) 3 m (fun k r hk a1 a2=>by
  obtain ⟨a,_,ca⟩:=z57 bs hb r m (by omega) (by omega) (by omega)
  obtain ⟨b,_,cb⟩:=z57 bs hb (r+1) m (by omega) (by omega) (by omega)
  obtain ⟨c,_,cc⟩:=z57 bs hb (r+1+1) 2 (by omega) (by omega) (by omega)
  exact ⟨_,_,⟨a,b,c,rfl,rfl,ca,cb,cc⟩,by omega,by omega⟩)
 have g5:=g4 m (y45 _)
 exact ⟨⟨S,G⟩,pg m,m,pf,pg,by rw [← h2] at cw;exact cw,by omega,by omega,h1,g1,h3,g2.symm,g3,rfl,by omega,by omega⟩
theorem Small.sm {bs:List Int} {q q' : Int} {g:Graph} {m:Nat} {pf pg:Nat→Int} (h:Small bs q q' g m pf pg):g.sm:=by
 have h1:=h.sl
 have h2:=h.nl
 have h3:=h.m6
 refine ⟨by omega,by omega,fun s hs=>?_,fun r hr=>?_⟩
 ·obtain ⟨i,hi,rfl⟩:=List.mem_iff_getElem.1 hs
  obtain ⟨a,b,e,_⟩:=h.st i hi
  rw [e];exact ⟨by simp,by simp⟩
 ·obtain ⟨i,hi,rfl⟩:=List.mem_iff_getElem.1 hr
  obtain ⟨a,b,c,e,_⟩:=h.row i hi
  rw [e];split<;>simp
set_option maxHeartbeats 6400000 in
theorem z975 (bs:List Int) (hb:BytesOk bs) (p:Int) (hp:few3 p):∃ (g:Graph) (p' : Int),(g.sm∧1≤g.st.length∧g.nx.length=g.st.length∧p≤p'∧p'≤p+5000)∧CallsA Tryz.prog 66 [.ptr 0 none 0] [rdO bs p] (.agg g.cs) [rdO bs p']:=by
 obtain ⟨v,⟨v0,v1⟩,cv⟩:=z57 bs hb p 3 (by omega) (by omega) (by omega)
 by_cases hv:0 < v
 ·obtain ⟨s,q0,⟨hs,s0,s1⟩,cs⟩:=z846 bs hb (p+1) ⟨by omega,by omega⟩
  have cB:=z683 s hs
  by_cases hr:∃ g,z337 s=some g∧g.st.length≤24
  ·obtain ⟨g,hg,hl⟩:=hr
   have hI:GInv s g.st g.nx g.st.length:=by
    have h:=hg
    unfold z337 at h
    split at h
    ·rename_i hv2
     have hso:=Sys.ok_of hv2
     exact grow_inv hso 61 _ _ 0 g ⟨by simp,by simp,by simp,rfl,fun t ht=>by
      rw [List.mem_singleton.1 ht]
      exact ⟨by simp,hso.init⟩,by simp⟩ h
    ·cases h
   have hso:s.ok:=by
    have h:=hg
    unfold z337 at h
    split at h
    ·exact Sys.ok_of (by assumption)
    ·cases h
   refine ⟨g,q0,⟨⟨by omega,by have:=hI.g;omega,fun t ht=>(hI.st t ht).sm hso,fun r hr=>by have:=hI.row r hr;omega⟩,hI.one,hI.g,by omega,by omega⟩,?_⟩
   rw [hg] at cB
   simp only [Option.getD_some,Option.isSome_some] at cB
   refine z7 z15 Tryz.func66 rfl rfl 88 Tryz.ntmps66 (by simp) ?_
   repeat' ((first|(apply y76 ok;rfl)|((apply z5)<;>intro _)|(apply z6 (cB);rfl;rfl)|((first|(apply z18 [0] [] cv;rfl;rfl)|(apply z18 [0] [] cs;rfl;rfl));rfl))<;>conv=>whnf)
   all_goals try (exfalso;omega)
   all_goals (refine rsD [0] [] rfl ?_;(repeat' first|exact y78 _|apply y79|constructor))
  ·obtain ⟨g,q',m,pf,pg,F⟩:=z894 bs hb q0 (by omega)
   have m1:=F.m1
   have m6:=F.m6
   have sl:=F.sl
   have nl:=F.nl
   have z0:=F.q0
   have z1:=F.q1
   cases hB:z337 s with
   |none =>
    rw [hB] at cB
    simp only [Option.getD_none,Option.isSome_none] at cB
    refine ⟨g,q',⟨F.sm,by omega,by omega,by omega,by omega⟩,?_⟩
    have Fn:=F.num
    refine z7 z15 Tryz.func66 rfl rfl 88 Tryz.ntmps66 (by simp) ?_
    repeat' ((first|(apply y76 ok;rfl)|((apply z5)<;>intro _)|(apply z6 (cB);rfl;rfl)|((first|(apply z11 [0] [] cv;rfl;rfl)|(apply z11 [0] [] cs;rfl;rfl)|(apply z11 [0,4] [] Fn;rfl;rfl));rfl;(focus ((repeat' first|exact z17|apply z16)<;>first|exact z44 rfl rfl|(refine z23 ?_;((exact z4 fun _=>rfl)))))))<;>conv=>whnf)
    all_goals try (exfalso;omega)
    all_goals
     refine y77 (y81 2 rfl) ?_
     refine z65 (fun k:Nat=>([(0,.ptr 0 none 0),(2,.ptr 1 none 0),(5,.ptr 2 none 0),(6,.int (m - k))],[rdO bs (pf k),.cells 2 [[.nils,.nils]],.cells 2 [[.sref 3 0 k,.nils]],.cells 2 ((g.st.take k).map State.cs)])) (fun k=>k≤m) (fun k=>m - k) 0 (by omega) (by refine swR [0,1,3,5] [] rfl rfl ?_;(repeat' first|exact y78 _|exact z48|apply y79|refine z10 rfl (z34) ?_|constructor)) ?_
     intro k hk
     by_cases hkm:k < m
     ·have hkl:k < g.st.length:=by omega
      obtain ⟨a,b,es,eq,ca,cb⟩:=F.st k hkl
      rw [← eq] at cb
      repeat' ((first|(apply y76 ok;rfl)|(apply z21;kernel_rfl)|(apply y36;first|omega|(unfold inI;omega)|((try dsimp only);simp only [y42,y41,y40,y39,y51,y52];omega)|exact ⟨rfl,z19 rfl z26⟩)|((apply z5)<;>intro _)|((first|(apply z18 [0] [] ca;rfl;rfl)|(apply z18 [0] [] cb;rfl;rfl));rfl))<;>conv=>whnf)
      all_goals try (exfalso;omega)
      all_goals refine z25 (k+1) (by omega) (by omega) (by refine swR [0,1,2,7] [4,5] rfl rfl ?_;(repeat' first|exact y78 _|(refine z105 ?_;omega)|apply y79|((refine z33 rfl ?_ ?_);(focus ((repeat' (first|exact z4 (fun _=>rfl)|apply z22));done)))|refine z119 (by omega) (by omega) ?_|refine z89 rfl rfl rfl rfl rfl ?_|constructor)<;>(rw [es];exact y78 _))
     ·have e:k=m:=by omega
      subst e
      rw [y50 (show g.st.length≤k by omega)]
      repeat' ((first|(apply y76 ok;rfl)|(apply y36;omega)|((apply z5)<;>intro _))<;>conv=>whnf)
      all_goals try (exfalso;omega)
      refine y77 (y81 1 rfl) ?_
      have Fm:=F.mid
      rw [Fm]
      refine z65 (fun i:Nat=>([(0,.ptr 0 none 0),(2,.ptr 1 none 0),(5,.ptr 2 none 0),(7,.int i)],[rdO bs (pg i),.cells 2 [[.nils,.nils]],.cells 2 [[.sref 3 0 k,.sref 4 0 i]],.cells 2 (g.st.map State.cs),.cells 1 ((g.nx.take i).map encL)])) (fun i=>i≤k) (fun i=>k - i) 0 (by omega) (by refine swR [0,1,2,3,4] [] rfl rfl ?_;(repeat' first|exact y78 _|exact z48|exact z9 _|apply y79|((refine z10 rfl ?_ ?_);(focus ((repeat' (first|exact z34|exact z4 (fun _=>rfl)));done)))|constructor)) ?_
      intro i hi
      by_cases hik:i < k
      ·have hil:i < g.nx.length:=by omega
       obtain ⟨a,b,c,er,eq,ca,cb,cc⟩:=F.row i hil
       rw [← eq] at cc
       by_cases hc:c=0
       ·by_cases hba:b=a
        ·rw [if_neg (fun h=>h.2 hba)] at er
         repeat' ((first|(apply y76 ok;rfl)|(apply y36;first|omega|(unfold inI;omega)|((try dsimp only);simp only [y42,y41,y40,y39,y51,y52];omega)|exact ⟨rfl,z19 rfl z26⟩)|apply z108|((first|apply z5|apply z37)<;>intro _)|((first|(apply z18 [0] [] ca;rfl;rfl)|(apply z18 [0] [] cb;rfl;rfl)|(apply z18 [0] [] cc;rfl;rfl));rfl))<;>conv=>whnf)
         all_goals try (exfalso;omega)
         all_goals refine z25 (i+1) (by omega) (by omega) (by refine swR [0,1,2,3,7] [5] rfl rfl ?_;(repeat' first|exact y78 _|exact z9 _|apply y79|((first|refine z33 rfl ?_ ?_|refine z10 rfl ?_ ?_);(focus ((repeat' (first|exact z4 (fun _=>rfl)|apply z22));done)))|refine z119 (by omega) (by omega) ?_|refine z89 rfl rfl rfl rfl rfl ?_|constructor)<;>((rw [er];exact y78 _)))
        ·rw [if_pos ⟨hc,hba⟩] at er
         repeat' ((first|(apply y76 ok;rfl)|(apply y36;first|omega|(unfold inI;omega)|((try dsimp only);simp only [y42,y41,y40,y39,y51,y52];omega)|exact ⟨rfl,z19 rfl z26⟩)|apply z108|((first|apply z5|apply z37)<;>intro _)|((first|(apply z18 [0] [] ca;rfl;rfl)|(apply z18 [0] [] cb;rfl;rfl)|(apply z18 [0] [] cc;rfl;rfl));rfl))<;>conv=>whnf)
         all_goals try (exfalso;omega)
         all_goals refine z25 (i+1) (by omega) (by omega) (by refine swR [0,1,2,3,9] [7] rfl rfl ?_;(repeat' first|exact y78 _|exact z9 _|apply y79|((first|refine z33 rfl ?_ ?_|refine z10 rfl ?_ ?_);(focus ((repeat' (first|exact z4 (fun _=>rfl)|apply z22));done)))|refine z119 (by omega) (by omega) ?_|((apply z89 rfl rfl rfl);(focus ((repeat (first|apply z198|apply z309|rfl));done));(focus ((rfl);done)))|constructor)<;>((rw [er];exact y78 _)))
       ·rw [if_neg (fun h=>hc h.1)] at er
        repeat' ((first|(apply y76 ok;rfl)|(apply y36;first|omega|(unfold inI;omega)|((try dsimp only);simp only [y42,y41,y40,y39,y51,y52];omega)|exact ⟨rfl,z19 rfl z26⟩)|apply z108|((first|apply z5|apply z37)<;>intro _)|((first|(apply z18 [0] [] ca;rfl;rfl)|(apply z18 [0] [] cb;rfl;rfl)|(apply z18 [0] [] cc;rfl;rfl));rfl))<;>conv=>whnf)
        all_goals try (exfalso;omega)
        all_goals refine z25 (i+1) (by omega) (by omega) (by refine swR [0,1,2,3,7] [5] rfl rfl ?_;(repeat' first|exact y78 _|exact z9 _|apply y79|((first|refine z33 rfl ?_ ?_|refine z10 rfl ?_ ?_);(focus ((repeat' (first|exact z4 (fun _=>rfl)|apply z22));done)))|refine z119 (by omega) (by omega) ?_|refine z89 rfl rfl rfl rfl rfl ?_|constructor)<;>((rw [er];exact y78 _)))
      ·have e:i=k:=by omega
       subst e
       rw [y50 (show g.nx.length≤i by omega)]
       repeat' ((first|(apply y76 ok;rfl)|((apply z5)<;>intro _))<;>conv=>whnf)
       all_goals try (exfalso;omega)
       all_goals rw [F.last]
       all_goals (refine rsD [0] [3,4] rfl ?_;(repeat' first|exact y78 _|(refine z239 ?_;omega)|apply y79|((apply z36 rfl rfl rfl);(focus ((repeat ((exact z31 (fun _=>rfl) _)));done));(focus (((simp;omega));done)))|apply z41|constructor))
   |some g0 =>
    have hl:¬(g0.st.length≤24):=fun h=>hr ⟨g0,hB,h⟩
    rw [hB] at cB
    simp only [Option.getD_some,Option.isSome_some] at cB
    refine ⟨g,q',⟨F.sm,by omega,by omega,by omega,by omega⟩,?_⟩
    have Fn:=F.num
    refine z7 z15 Tryz.func66 rfl rfl 88 Tryz.ntmps66 (by simp) ?_
    repeat' ((first|(apply y76 ok;rfl)|((apply z5)<;>intro _)|(apply z6 (cB);rfl;rfl)|((first|(apply z11 [0] [] cv;rfl;rfl)|(apply z11 [0] [] cs;rfl;rfl)|(apply z11 [0,4] [] Fn;rfl;rfl));rfl;(focus ((repeat' first|exact z17|apply z16)<;>first|exact z44 rfl rfl|(refine z23 ?_;((exact z4 fun _=>rfl)))))))<;>conv=>whnf)
    all_goals try (exfalso;omega)
    all_goals
     refine y77 (y81 2 rfl) ?_
     refine z65 (fun k:Nat=>([(0,.ptr 0 none 0),(2,.ptr 1 none 0),(5,.ptr 2 none 0),(6,.int (m - k))],[rdO bs (pf k),.cells 2 [[.nils,.nils]],.cells 2 [[.sref 3 0 k,.nils]],.cells 2 ((g.st.take k).map State.cs)])) (fun k=>k≤m) (fun k=>m - k) 0 (by omega) (by refine swR [0,1,3,5] [] rfl rfl ?_;(repeat' first|exact y78 _|exact z48|apply y79|refine z10 rfl (z34) ?_|constructor)) ?_
     intro k hk
     by_cases hkm:k < m
     ·have hkl:k < g.st.length:=by omega
      obtain ⟨a,b,es,eq,ca,cb⟩:=F.st k hkl
      rw [← eq] at cb
      repeat' ((first|(apply y76 ok;rfl)|(apply z21;kernel_rfl)|(apply y36;first|omega|(unfold inI;omega)|((try dsimp only);simp only [y42,y41,y40,y39,y51,y52];omega)|exact ⟨rfl,z19 rfl z26⟩)|((apply z5)<;>intro _)|((first|(apply z18 [0] [] ca;rfl;rfl)|(apply z18 [0] [] cb;rfl;rfl));rfl))<;>conv=>whnf)
      all_goals try (exfalso;omega)
      all_goals refine z25 (k+1) (by omega) (by omega) (by refine swR [0,1,2,7] [4,5] rfl rfl ?_;(repeat' first|exact y78 _|(refine z105 ?_;omega)|apply y79|((refine z33 rfl ?_ ?_);(focus ((repeat' (first|exact z4 (fun _=>rfl)|apply z22));done)))|refine z119 (by omega) (by omega) ?_|refine z89 rfl rfl rfl rfl rfl ?_|constructor)<;>(rw [es];exact y78 _))
     ·have e:k=m:=by omega
      subst e
      rw [y50 (show g.st.length≤k by omega)]
      repeat' ((first|(apply y76 ok;rfl)|(apply y36;omega)|((apply z5)<;>intro _))<;>conv=>whnf)
      all_goals try (exfalso;omega)
      refine y77 (y81 1 rfl) ?_
      have Fm:=F.mid
      rw [Fm]
      refine z65 (fun i:Nat=>([(0,.ptr 0 none 0),(2,.ptr 1 none 0),(5,.ptr 2 none 0),(7,.int i)],[rdO bs (pg i),.cells 2 [[.nils,.nils]],.cells 2 [[.sref 3 0 k,.sref 4 0 i]],.cells 2 (g.st.map State.cs),.cells 1 ((g.nx.take i).map encL)])) (fun i=>i≤k) (fun i=>k - i) 0 (by omega) (by refine swR [0,1,2,3,4] [] rfl rfl ?_;(repeat' first|exact y78 _|exact z48|exact z9 _|apply y79|((refine z10 rfl ?_ ?_);(focus ((repeat' (first|exact z34|exact z4 (fun _=>rfl)));done)))|constructor)) ?_
      intro i hi
      by_cases hik:i < k
      ·have hil:i < g.nx.length:=by omega
       obtain ⟨a,b,c,er,eq,ca,cb,cc⟩:=F.row i hil
       rw [← eq] at cc
       by_cases hc:c=0
       ·by_cases hba:b=a
        ·rw [if_neg (fun h=>h.2 hba)] at er
         repeat' ((first|(apply y76 ok;rfl)|(apply y36;first|omega|(unfold inI;omega)|((try dsimp only);simp only [y42,y41,y40,y39,y51,y52];omega)|exact ⟨rfl,z19 rfl z26⟩)|apply z108|((first|apply z5|apply z37)<;>intro _)|((first|(apply z18 [0] [] ca;rfl;rfl)|(apply z18 [0] [] cb;rfl;rfl)|(apply z18 [0] [] cc;rfl;rfl));rfl))<;>conv=>whnf)
         all_goals try (exfalso;omega)
         all_goals refine z25 (i+1) (by omega) (by omega) (by refine swR [0,1,2,3,7] [5] rfl rfl ?_;(repeat' first|exact y78 _|exact z9 _|apply y79|((first|refine z33 rfl ?_ ?_|refine z10 rfl ?_ ?_);(focus ((repeat' (first|exact z4 (fun _=>rfl)|apply z22));done)))|refine z119 (by omega) (by omega) ?_|refine z89 rfl rfl rfl rfl rfl ?_|constructor)<;>((rw [er];exact y78 _)))
        ·rw [if_pos ⟨hc,hba⟩] at er
         repeat' ((first|(apply y76 ok;rfl)|(apply y36;first|omega|(unfold inI;omega)|((try dsimp only);simp only [y42,y41,y40,y39,y51,y52];omega)|exact ⟨rfl,z19 rfl z26⟩)|apply z108|((first|apply z5|apply z37)<;>intro _)|((first|(apply z18 [0] [] ca;rfl;rfl)|(apply z18 [0] [] cb;rfl;rfl)|(apply z18 [0] [] cc;rfl;rfl));rfl))<;>conv=>whnf)
         all_goals try (exfalso;omega)
         all_goals refine z25 (i+1) (by omega) (by omega) (by refine swR [0,1,2,3,9] [7] rfl rfl ?_;(repeat' first|exact y78 _|exact z9 _|apply y79|((first|refine z33 rfl ?_ ?_|refine z10 rfl ?_ ?_);(focus ((repeat' (first|exact z4 (fun _=>rfl)|apply z22));done)))|refine z119 (by omega) (by omega) ?_|((apply z89 rfl rfl rfl);(focus ((repeat (first|apply z198|apply z309|rfl));done));(focus ((rfl);done)))|constructor)<;>((rw [er];exact y78 _)))
       ·rw [if_neg (fun h=>hc h.1)] at er
        repeat' ((first|(apply y76 ok;rfl)|(apply y36;first|omega|(unfold inI;omega)|((try dsimp only);simp only [y42,y41,y40,y39,y51,y52];omega)|exact ⟨rfl,z19 rfl z26⟩)|apply z108|((first|apply z5|apply z37)<;>intro _)|((first|(apply z18 [0] [] ca;rfl;rfl)|(apply z18 [0] [] cb;rfl;rfl)|(apply z18 [0] [] cc;rfl;rfl));rfl))<;>conv=>whnf)
        all_goals try (exfalso;omega)
        all_goals refine z25 (i+1) (by omega) (by omega) (by refine swR [0,1,2,3,7] [5] rfl rfl ?_;(repeat' first|exact y78 _|exact z9 _|apply y79|((first|refine z33 rfl ?_ ?_|refine z10 rfl ?_ ?_);(focus ((repeat' (first|exact z4 (fun _=>rfl)|apply z22));done)))|refine z119 (by omega) (by omega) ?_|refine z89 rfl rfl rfl rfl rfl ?_|constructor)<;>((rw [er];exact y78 _)))
      ·have e:i=k:=by omega
       subst e
       rw [y50 (show g.nx.length≤i by omega)]
       repeat' ((first|(apply y76 ok;rfl)|((apply z5)<;>intro _))<;>conv=>whnf)
       all_goals try (exfalso;omega)
       all_goals rw [F.last]
       all_goals (refine rsD [0] [3,4] rfl ?_;(repeat' first|exact y78 _|(refine z239 ?_;omega)|apply y79|((apply z36 rfl rfl rfl);(focus ((repeat ((exact z31 (fun _=>rfl) _)));done));(focus (((simp;omega));done)))|apply z41|constructor))
 ·obtain ⟨g,q',m,pf,pg,F⟩:=z894 bs hb (p+1) (by omega)
  have m1:=F.m1
  have m6:=F.m6
  have sl:=F.sl
  have nl:=F.nl
  have z0:=F.q0
  have z1:=F.q1
  refine ⟨g,q',⟨F.sm,by omega,by omega,by omega,by omega⟩,?_⟩
  have Fn:=F.num
  refine z7 z15 Tryz.func66 rfl rfl 88 Tryz.ntmps66 (by simp) ?_
  repeat' ((first|(apply y76 ok;rfl)|((apply z5)<;>intro _)|((first|(apply z11 [0] [] cv;rfl;rfl)|(apply z11 [0,3] [] Fn;rfl;rfl));rfl;(focus ((repeat' first|exact z17|apply z16)<;>first|exact z44 rfl rfl|(refine z23 ?_;((exact z4 fun _=>rfl)))))))<;>conv=>whnf)
  all_goals try (exfalso;omega)
  all_goals
   refine y77 (y81 2 rfl) ?_
   refine z65 (fun k:Nat=>([(0,.ptr 0 none 0),(2,.ptr 1 none 0),(5,.ptr 2 none 0),(6,.int (m - k))],[rdO bs (pf k),.cells 2 [[.nils,.nils]],.cells 2 [[.sref 3 0 k,.nils]],.cells 2 ((g.st.take k).map State.cs)])) (fun k=>k≤m) (fun k=>m - k) 0 (by omega) (by refine swR [0,1,2,4] [] rfl rfl ?_;(repeat' first|exact y78 _|exact z48|apply y79|refine z10 rfl (z34) ?_|constructor)) ?_
   intro k hk
   by_cases hkm:k < m
   ·have hkl:k < g.st.length:=by omega
    obtain ⟨a,b,es,eq,ca,cb⟩:=F.st k hkl
    rw [← eq] at cb
    repeat' ((first|(apply y76 ok;rfl)|(apply z21;kernel_rfl)|(apply y36;first|omega|(unfold inI;omega)|((try dsimp only);simp only [y42,y41,y40,y39,y51,y52];omega)|exact ⟨rfl,z19 rfl z26⟩)|((apply z5)<;>intro _)|((first|(apply z18 [0] [] ca;rfl;rfl)|(apply z18 [0] [] cb;rfl;rfl));rfl))<;>conv=>whnf)
    all_goals try (exfalso;omega)
    all_goals refine z25 (k+1) (by omega) (by omega) (by refine swR [0,1,2,7] [4,5] rfl rfl ?_;(repeat' first|exact y78 _|(refine z105 ?_;omega)|apply y79|((refine z33 rfl ?_ ?_);(focus ((repeat' (first|exact z4 (fun _=>rfl)|apply z22));done)))|refine z119 (by omega) (by omega) ?_|refine z89 rfl rfl rfl rfl rfl ?_|constructor)<;>(rw [es];exact y78 _))
   ·have e:k=m:=by omega
    subst e
    rw [y50 (show g.st.length≤k by omega)]
    repeat' ((first|(apply y76 ok;rfl)|(apply y36;omega)|((apply z5)<;>intro _))<;>conv=>whnf)
    all_goals try (exfalso;omega)
    refine y77 (y81 1 rfl) ?_
    have Fm:=F.mid
    rw [Fm]
    refine z65 (fun i:Nat=>([(0,.ptr 0 none 0),(2,.ptr 1 none 0),(5,.ptr 2 none 0),(7,.int i)],[rdO bs (pg i),.cells 2 [[.nils,.nils]],.cells 2 [[.sref 3 0 k,.sref 4 0 i]],.cells 2 (g.st.map State.cs),.cells 1 ((g.nx.take i).map encL)])) (fun i=>i≤k) (fun i=>k - i) 0 (by omega) (by refine swR [0,1,2,3,4] [] rfl rfl ?_;(repeat' first|exact y78 _|exact z48|exact z9 _|apply y79|((refine z10 rfl ?_ ?_);(focus ((repeat' (first|exact z34|exact z4 (fun _=>rfl)));done)))|constructor)) ?_
    intro i hi
    by_cases hik:i < k
    ·have hil:i < g.nx.length:=by omega
     obtain ⟨a,b,c,er,eq,ca,cb,cc⟩:=F.row i hil
     rw [← eq] at cc
     by_cases hc:c=0
     ·by_cases hba:b=a
      ·rw [if_neg (fun h=>h.2 hba)] at er
       repeat' ((first|(apply y76 ok;rfl)|(apply y36;first|omega|(unfold inI;omega)|((try dsimp only);simp only [y42,y41,y40,y39,y51,y52];omega)|exact ⟨rfl,z19 rfl z26⟩)|apply z108|((first|apply z5|apply z37)<;>intro _)|((first|(apply z18 [0] [] ca;rfl;rfl)|(apply z18 [0] [] cb;rfl;rfl)|(apply z18 [0] [] cc;rfl;rfl));rfl))<;>conv=>whnf)
       all_goals try (exfalso;omega)
       all_goals refine z25 (i+1) (by omega) (by omega) (by refine swR [0,1,2,3,7] [5] rfl rfl ?_;(repeat' first|exact y78 _|exact z9 _|apply y79|((first|refine z33 rfl ?_ ?_|refine z10 rfl ?_ ?_);(focus ((repeat' (first|exact z4 (fun _=>rfl)|apply z22));done)))|refine z119 (by omega) (by omega) ?_|refine z89 rfl rfl rfl rfl rfl ?_|constructor)<;>((rw [er];exact y78 _)))
      ·rw [if_pos ⟨hc,hba⟩] at er
       repeat' ((first|(apply y76 ok;rfl)|(apply y36;first|omega|(unfold inI;omega)|((try dsimp only);simp only [y42,y41,y40,y39,y51,y52];omega)|exact ⟨rfl,z19 rfl z26⟩)|apply z108|((first|apply z5|apply z37)<;>intro _)|((first|(apply z18 [0] [] ca;rfl;rfl)|(apply z18 [0] [] cb;rfl;rfl)|(apply z18 [0] [] cc;rfl;rfl));rfl))<;>conv=>whnf)
       all_goals try (exfalso;omega)
       all_goals refine z25 (i+1) (by omega) (by omega) (by refine swR [0,1,2,3,9] [7] rfl rfl ?_;(repeat' first|exact y78 _|exact z9 _|apply y79|((first|refine z33 rfl ?_ ?_|refine z10 rfl ?_ ?_);(focus ((repeat' (first|exact z4 (fun _=>rfl)|apply z22));done)))|refine z119 (by omega) (by omega) ?_|((apply z89 rfl rfl rfl);(focus ((repeat (first|apply z198|apply z309|rfl));done));(focus ((rfl);done)))|constructor)<;>((rw [er];exact y78 _)))
     ·rw [if_neg (fun h=>hc h.1)] at er
      repeat' ((first|(apply y76 ok;rfl)|(apply y36;first|omega|(unfold inI;omega)|((try dsimp only);simp only [y42,y41,y40,y39,y51,y52];omega)|exact ⟨rfl,z19 rfl z26⟩)|apply z108|((first|apply z5|apply z37)<;>intro _)|((first|(apply z18 [0] [] ca;rfl;rfl)|(apply z18 [0] [] cb;rfl;rfl)|(apply z18 [0] [] cc;rfl;rfl));rfl))<;>conv=>whnf)
      all_goals try (exfalso;omega)
      all_goals refine z25 (i+1) (by omega) (by omega) (by refine swR [0,1,2,3,7] [5] rfl rfl ?_;(repeat' first|exact y78 _|exact z9 _|apply y79|((first|refine z33 rfl ?_ ?_|refine z10 rfl ?_ ?_);(focus ((repeat' (first|exact z4 (fun _=>rfl)|apply z22));done)))|refine z119 (by omega) (by omega) ?_|refine z89 rfl rfl rfl rfl rfl ?_|constructor)<;>((rw [er];exact y78 _)))
    ·have e:i=k:=by omega
     subst e
     rw [y50 (show g.nx.length≤i by omega)]
     repeat' ((first|(apply y76 ok;rfl)|((apply z5)<;>intro _))<;>conv=>whnf)
     all_goals try (exfalso;omega)
     all_goals rw [F.last]
     all_goals (refine rsD [0] [3,4] rfl ?_;(repeat' first|exact y78 _|(refine z239 ?_;omega)|apply y79|((apply z36 rfl rfl rfl);(focus ((repeat ((exact z31 (fun _=>rfl) _)));done));(focus (((simp;omega));done)))|apply z41|constructor))
structure Graph.d (g:Graph):Prop where
 st:g.st.length≤100
 nx:g.nx.length≤101
 el:∀ s∈g.st,s.sm
 row:∀ r∈g.nx,r.length≤1001
theorem Graph.d.mx {g:Graph} (h:g.d):g.mx:=by
 have h1:=h.st
 have h2:=h.nx
 have h3:=h.el
 exact ⟨⟨by unfold maxLen;omega,fun s hs=>⟨by have:=(h3 s hs).a;unfold maxLen;omega,by have:=(h3 s hs).b;unfold maxLen;omega⟩⟩,by unfold maxLen;omega,fun l hl=>by have:=h.row l hl;unfold maxLen;omega⟩
structure Lab.d (l:List Tree):Prop where
 len:l.length≤3
 el:∀ t∈l,t.sz≤5
theorem Lab.d.mx {l:List Tree} (h:Lab.d l):Lmx l:=Lmx_of (by have:=h.len;omega) fun t ht=>by have:=h.el t ht;omega
structure CodeOk (bs:List Int):Prop where
 len:bs.length≤maxLen
 el:∀ x∈bs,0≤x∧x≤255
theorem CodeOk.take {bs:List Int} (h:CodeOk bs):BytesOk (bs.take 2000):=⟨by simp;omega,fun x hx=>h.el x (List.mem_of_mem_take hx)⟩
theorem z835 (bs:List Int) (hb:BytesOk bs) (p:Int) (hp:few3 p):∃ (g0 g:Graph) (p1 p2:Int),CallsA Tryz.prog 66 [.ptr 0 none 0] [rdO bs p] (.agg g0.cs) [rdO bs p1]∧CallsA Tryz.prog 65 [.ptr 0 none 0,.agg g0.cs] [rdO bs p1] (.agg g.cs) [rdO bs p2]∧g.d∧p≤p2∧p2≤p+6000:=by
 obtain ⟨g0,p1,⟨h1,h2,h3,h4,h5⟩,c1⟩:=z975 bs hb p hp
 obtain ⟨g,p2,⟨k1,k2,k3,k4,k5,k6⟩,c2⟩:=z845 bs hb p1 ⟨by omega,by omega⟩ g0 h1 h2 h3
 exact ⟨g0,g,p1,p2,c1,c2,⟨k1,k2,k3,k4⟩,by omega,by omega⟩
end Go.Proofs.YtahhobgjcfionaaGreat
namespace Go.Proofs.YtahhobgjcfionaaGreat
open Go.Gl
attribute [local irreducible] z29 AWP z46 z50 z47
theorem z595 (k:Int):CallsA Tryz.prog 229 [.int k] [] (.int (z220 k)) []:=by
 refine z13 z15 Tryz.func229 rfl rfl 17 Tryz.ntmps229 (by simp) ?_
 repeat' (first|(apply y76 ok;rfl;conv=>whnf)|(apply z5<;>intro _<;>conv=>whnf))
 all_goals (refine z60 rfl rfl ?_;unfold z220;first|(rw [if_pos (by omega)];rfl)|(rw [if_neg (by omega),if_pos (by omega)];rfl)|(rw [if_neg (by omega),if_neg (by omega),if_pos (by omega)];rfl)|(rw [if_neg (by omega),if_neg (by omega),if_neg (by omega)];rfl))
theorem z819 (l:List Tree) (d:Int):Tree.shapeFs l d=l.all (fun t=>t.shapeF d):=by
 induction l with
 |nil=>rfl
 |cons t l ih=>simp [Tree.shapeFs,ih]
theorem z367 (t:Tree) (d:Int):t.shapeF d=(decide (1≤d∧(t.kids.length:Int)=z220 t.kind∧0≤t.val∧t.val≤z519 t.kind) && t.kids.all fun t=>t.shapeF (d - 1)):=by
 cases t;simp only [Tree.shapeF,Tree.kids,Tree.kind,Tree.val,z819];rfl
theorem z972 (t:Tree):t.mx→∀ d:Int,-100≤d→d≤100→CallsA Tryz.prog 179 [z52 Tree.cs' t,.int d] [] (.bool (t.shapeF d)) []:=by
  induction t using y24 with|h t ih=>?_
  intro hm d h0 h1
  rw [y25] at hm
  have hl:=hm.1
  unfold maxLen at hl
  rw [y14,z367]
  refine z13 z15 Tryz.func179 rfl rfl 51 Tryz.ntmps179 (by simp) ?_
  repeat' (first|(apply y76 ok;rfl;conv=>whnf)|(apply z21;kernel_rfl;conv=>whnf)|(apply z5<;>intro _<;>conv=>whnf)|(apply z37<;>intro _<;>conv=>whnf)|(apply z6 (z595 _);rfl;rfl;conv=>whnf))
  all_goals first
    | (refine z20 rfl ?_
       rw [y74]
       · rfl
       · clear ih
         rintro ⟨c1,c2,c3,c4⟩
         unfold z519 at c4
         grind)
    | (have hg : decide (1 ≤ d ∧ (t.kids.length : Int) = z220 t.kind ∧ 0 ≤ t.val ∧ t.val ≤ z519 t.kind) = true := by
         clear ih
         refine y73 ?_
         unfold z519
         grind
       rw [hg,Bool.true_and]
       refine z94 (fun k:Nat=>([(1,.int d),(2,.ptr 0 none 0),(5,.int k)],[.cells 3 [[.int t.kind,.int t.val,lst 3 Tree.cs' t.kids]]])) (fun k=>k≤t.kids.length∧(t.kids.all fun t=>t.shapeF (d - 1))=(t.kids.drop k).all fun t=>t.shapeF (d - 1)) (fun k=>t.kids.length - k) 0 ⟨by omega,rfl⟩ ⟨[0],rfl,by decide,rfl,by repeat' (first|exact True.intro|exact ⟨rfl,rfl⟩|apply y36),by repeat' (first|exact True.intro|exact z24 rfl rfl|apply y36)⟩ ?_
       intro k hk
       repeat' (first|(apply y76 ok;rfl;conv=>whnf)|(apply y36;(first|omega|(unfold inI;omega));conv=>whnf)|(with_reducible apply z8;omega;intro _;conv=>whnf)|(apply z5<;>intro _<;>conv=>whnf)|(apply z74<;>intro _<;>conv=>whnf)|(apply z6 (ih t.kids[k] (y37 _) (hm.2 _ (y37 _)) (d - 1) (by omega) (by omega));rfl;rfl;conv=>whnf))
       · rename_i h1
         exact z20 rfl (by rw [hk.2,z158 _ _ _ (by assumption)];simp [h1])
       · rename_i h1
         exact z79 (k+1) [0] ⟨by omega,by rw [hk.2,z158 _ _ _ (by assumption)];simp [h1]⟩ (by omega) ⟨rfl,by decide,rfl,by repeat' (first|exact True.intro|exact ⟨rfl,rfl⟩|apply y36),by repeat' (first|exact True.intro|exact z24 rfl rfl|apply y36)⟩
       · exact z20 rfl (by rw [hk.2,z150 _ _ _ (by omega)]))
theorem z1136 (t:Tree):∀ d n:Nat,t.shapeF d=true→t.count n≤2 ^ d - 1:=by
 induction t using y24 with|h t ih=>?_
 intro d n h
 rw [z367,y63,decide_eq_true_eq] at h
 obtain ⟨⟨h1,h2,_,_⟩,h3⟩:=h
 rw [y70] at h3
 obtain ⟨d,rfl⟩:∃ e,d=e+1:=⟨d - 1,by omega⟩
 have e:((d+1:Nat):Int) - 1=(d:Nat):=by omega
 rw [e] at h3
 rw [z476]
 have hp:(1:Int)≤2 ^ d:=by exact_mod_cast Nat.one_le_two_pow
 have hq:((2:Int) ^ (d+1))=2 * 2 ^ d:=by rw [Int.pow_succ];omega
 split
 ·rename_i hn
  obtain ⟨n,rfl⟩:∃ e,n=e+1:=⟨n - 1,by omega⟩
  have e:((n+1:Nat):Int) - 1=(n:Nat):=by omega
  rw [e]
  have hl:(t.kids.length:Int)≤2:=by rw [h2];unfold z220;grind
  have hk:∀ u∈t.kids,u.count n≤2 ^ d - 1:=fun u hu=>ih u hu d n (h3 u hu)
  match hkk:t.kids with
  |[]=>simp only [List.map_nil,List.sum_nil];omega
  |[a] =>
   have:=hk a (by simp [hkk])
   simp only [List.map_cons,List.map_nil,List.sum_cons,List.sum_nil];omega
  |[a,b] =>
   have:=hk a (by simp [hkk])
   have:=hk b (by simp [hkk])
   simp only [List.map_cons,List.map_nil,List.sum_cons,List.sum_nil];omega
  |a::b::c::r=>rw [hkk] at hl;simp only [y51] at hl;omega
 ·omega
theorem z772 (t:Tree) (e d:Int) (he:e≤50) (hd:0≤d) (h:t.shapeF e=true):t.count d≤2 ^ 50:=by
 have h1:1≤e:=by
  rw [z367,y63,decide_eq_true_eq] at h;exact h.1.1
 obtain ⟨n,rfl⟩:=Int.eq_ofNat_of_zero_le (show 0≤e by omega)
 obtain ⟨m,rfl⟩:=Int.eq_ofNat_of_zero_le hd
 have h2:=z1136 t n m h
 have h4:(2:Int) ^ n≤2 ^ 50:=by exact_mod_cast Nat.pow_le_pow_right (by omega) (by omega)
 omega
theorem z973 (t:Tree):t.mx→∀ e d:Int,e≤50→0≤d→d≤50→t.shapeF e=true→CallsA Tryz.prog 180 [z52 Tree.cs' t,.int d] [] (.int (t.count d)) []:=by
 induction t using y24 with|h t ih=>?_
 intro hm e d h0 h1 h2 hs
 rw [y25] at hm
 rw [z367,y63,decide_eq_true_eq,y70] at hs
 obtain ⟨⟨hs1,hs2,_,_⟩,hs3⟩:=hs
 have hl:(t.kids.length:Int)≤2:=by rw [hs2];unfold z220;grind
 rw [y14,z476]
 have hb:0 < d→∀ k,k≤t.kids.length→0≤((t.kids.take k).map fun t=>t.count (d - 1)).sum∧((t.kids.take k).map fun t=>t.count (d - 1)).sum≤k * 2 ^ 50:=by
  intro hd k
  induction k with
  |zero=>intro _;simp
  |succ k ihk =>
   intro hk
   have h1:=ihk (by omega)
   rw [z463 _ _ _ (by omega)]
   have h2:=z772 t.kids[k] (e - 1) (d - 1) (by omega) (by omega) (hs3 _ (y37 _))
   have h3:=Tree.count_pos.1 t.kids[k] (d - 1)
   omega
 refine z13 z15 Tryz.func180 rfl rfl 29 Tryz.ntmps180 (by simp) ?_
 repeat' ((apply y76 ok;rfl;conv=>whnf))
 by_cases hd:0 < d
 ·rw [if_pos hd]
  refine z94 (fun k:Nat=>([(1,.int d),(2,.ptr 0 none 0),(5,.int (1+((t.kids.take k).map fun t=>t.count (d - 1)).sum)),(6,.int k)],[.cells 3 [[.int t.kind,.int t.val,lst 3 Tree.cs' t.kids]]])) (fun k=>k≤t.kids.length) (fun k=>t.kids.length - k) 0 (by omega) ⟨[0],rfl,by decide,rfl,by repeat' (first|exact True.intro|exact ⟨rfl,rfl⟩|apply y36),by repeat' (first|exact True.intro|exact z24 rfl rfl|apply y36)⟩ ?_
  intro k hk
  have hbk:=hb hd k hk
  have hbk1:=fun h=>hb hd (k+1) h
  have hss:=fun h=>z463 (fun t=>t.count (d - 1)) t.kids k h
  repeat' (first|(apply y76 ok;rfl;conv=>whnf)|(apply y36;(first|omega|(unfold inI;omega));conv=>whnf)|(with_reducible apply z8;omega;intro _;conv=>whnf)|(apply z5<;>intro _<;>conv=>whnf)|(apply z6 (ih t.kids[k] (y37 _) (hm.2 _ (y37 _)) (e - 1) (d - 1) (by omega) (by omega) (by omega) (hs3 _ (y37 _)));rfl;rfl;conv=>whnf))
  ·have e1:=hss ‹_›
   have e2:=hbk1 (by omega)
   refine y36 (by unfold inI;omega) ?_
   conv=>whnf
   repeat' (first|(apply y76 ok;rfl;conv=>whnf)|(apply y36;((unfold inI;omega));conv=>whnf))
   exact z79 (k+1) [0] (by omega) (by omega) ⟨rfl,by decide,rfl,⟨⟨rfl,rfl⟩,⟨rfl,rfl⟩,⟨rfl,by rw [e1,← Int.add_assoc];rfl⟩,⟨rfl,rfl⟩,trivial⟩,⟨z24 rfl rfl,trivial⟩⟩
  ·omega
  ·obtain rfl:k=t.kids.length:=by omega
   exact z60 rfl rfl (by rw [y49];rfl)
 ·rw [if_neg hd]
  refine z94 (fun k:Nat=>([(1,.int d),(2,.ptr 0 none 0),(5,.int 1),(6,.int k)],[.cells 3 [[.int t.kind,.int t.val,lst 3 Tree.cs' t.kids]]])) (fun k=>k≤t.kids.length) (fun k=>t.kids.length - k) 0 (by omega) ⟨[0],rfl,by decide,rfl,by repeat' (first|exact True.intro|exact ⟨rfl,rfl⟩|apply y36),by repeat' (first|exact True.intro|exact z24 rfl rfl|apply y36)⟩ ?_
  intro k hk
  repeat' (first|(apply y76 ok;rfl;conv=>whnf)|(apply y36;(omega);conv=>whnf)|(with_reducible apply z8;omega;intro _;conv=>whnf)|(apply z5<;>intro _<;>conv=>whnf))
  ·omega
  ·exact z60 rfl rfl rfl
  ·exact z60 rfl rfl rfl
theorem z222 (t:Tree) (hm:t.mx):CallsA Tryz.prog 121 [z52 Tree.cs' t] [] (.bool t.fmB) []:=by
 rw [y18]
 refine z13 z15 Tryz.func121 rfl rfl 10 Tryz.ntmps121 (by simp) ?_
 repeat' (first|(apply y76 ok;rfl;conv=>whnf)|(apply z87<;>intro _<;>conv=>whnf)|(apply z6 (z972 t hm 6 (by omega) (by omega));rfl;rfl;conv=>whnf)|(apply z6 (z973 t hm 6 6 (by omega) (by omega) (by omega) (by assumption));rfl;rfl;conv=>whnf))
 all_goals (refine z20 rfl ?_;(simp [*];done))
end Go.Proofs.YtahhobgjcfionaaGreat
namespace Go.Proofs.YtahhobgjcfionaaGreat
open Go.Gl
attribute [local irreducible] z29 AWP z46 z50 z47 RetS z58
theorem z526:CallsA Tryz.prog 183 [] [] (.agg [.int 1,.int 0,.list 3 0 []]) []:=by
 refine z7 z15 Tryz.func183 rfl rfl 2 Tryz.ntmps183 (by simp) ?_
 repeat' (((apply y76 ok;rfl))<;>conv=>whnf)
 all_goals (refine rsD [] [] rfl ?_;(repeat' first|exact y78 _|exact z53|apply z41|constructor))
set_option maxHeartbeats 1600000 in
theorem z844 (bs:List Int) (hb:BytesOk bs):∀ (n:Nat) (d p:Int),d≤n+1→n≤100→0≤d→0≤p→p+drK n≤1000000000→∃ (t:Tree) (p' : Int),(t.sz≤drS n∧p≤p'∧p'≤p+drK n)∧CallsA Tryz.prog 184 [.ptr 0 none 0,.int d] [rdO bs p] (z52 Tree.cs' t) [rdO bs p']:=by
 intro n
 induction n with
 |zero =>
  intro d p hd hd1 hd0 hp hq
  rw [drK] at hq ⊢
  obtain ⟨v0,⟨l0,u0⟩,c0⟩:=z57 bs hb p 8 (by omega) (by omega) (by omega)
  by_cases h0:v0=0
  ·subst h0
   refine ⟨leaf 1 0,p+1,⟨by rw [z100];omega,by omega,by omega⟩,?_⟩
   refine z7 z15 Tryz.func184 rfl rfl 43 Tryz.ntmps184 (by simp) ?_
   repeat' ((first|(apply y76 ok;rfl)|((apply z5)<;>intro _)|(apply z6 (z526);rfl;rfl)|(apply z18 [0] [] c0;rfl;rfl;rfl))<;>conv=>whnf)
   all_goals try (exfalso;omega)
   all_goals (refine rsD [0] [] rfl ?_;(repeat' first|exact y78 _|apply y79|constructor))
  ·obtain ⟨v1,m1,c1⟩:=z98 bs hb (p+1) (by omega) (by omega) [0,1,0,2] (by decide) (by decide)
   refine ⟨leaf 2 v1,p+1+1,⟨by rw [z100];omega,by omega,by omega⟩,?_⟩
   refine z7 z15 Tryz.func184 rfl rfl 43 Tryz.ntmps184 (by simp) ?_
   repeat' ((first|(apply y76 ok;rfl)|((apply z5)<;>intro _)|((first|(apply z11 [0] [] c0;rfl;rfl)|(apply z11 [0,2] [] c1;rfl;rfl));rfl;(focus ((repeat' first|exact z17|apply z16)<;>first|exact z44 rfl rfl|(refine z23 ?_;((exact z4 fun _=>rfl)))))))<;>conv=>whnf)
   all_goals try (exfalso;omega)
   all_goals (refine rsD [0] [] rfl ?_;(repeat' first|exact y78 _|exact z53|apply y79|apply z41|constructor))
 |succ n ih =>
  intro d p hd hd1 hd0 hp hq
  have hK:=z1128 n
  by_cases hlt:d < 2
  ·obtain ⟨t,p',h1,h2⟩:=ih d p (by omega) (by omega) hd0 hp (by rw [drK] at hq;omega)
   exact ⟨t,p',⟨by rw [drS];omega,h1.2.1,by rw [drK];omega⟩,h2⟩
  rw [drK] at hq
  rw [drK,drS]
  obtain ⟨w,⟨lw,uw⟩,cw⟩:=z57 bs hb p 5 (by omega) (by omega) (by omega)
  by_cases hw:w=0
  ·subst hw
   obtain ⟨v0,⟨l0,u0⟩,c0⟩:=z57 bs hb (p+1) 8 (by omega) (by omega) (by omega)
   by_cases h0:v0=0
   ·subst h0
    refine ⟨leaf 1 0,p+1+1,⟨by rw [z100];omega,by omega,by omega⟩,?_⟩
    refine z7 z15 Tryz.func184 rfl rfl 43 Tryz.ntmps184 (by simp) ?_
    repeat' ((first|(apply y76 ok;rfl)|((apply z5)<;>intro _)|(apply z6 (z526);rfl;rfl)|((first|(apply z18 [0] [] cw;rfl;rfl)|(apply z18 [0] [] c0;rfl;rfl));rfl))<;>conv=>whnf)
    all_goals try (exfalso;omega)
    all_goals (refine rsD [0] [] rfl ?_;(repeat' first|exact y78 _|apply y79|constructor))
   ·obtain ⟨v1,m1,c1⟩:=z98 bs hb (p+1+1) (by omega) (by omega) [0,1,0,2] (by decide) (by decide)
    refine ⟨leaf 2 v1,p+1+1+1,⟨by rw [z100];omega,by omega,by omega⟩,?_⟩
    refine z7 z15 Tryz.func184 rfl rfl 43 Tryz.ntmps184 (by simp) ?_
    repeat' ((first|(apply y76 ok;rfl)|((apply z5)<;>intro _)|((first|(apply z11 [0] [] cw;rfl;rfl)|(apply z11 [0] [] c0;rfl;rfl)|(apply z11 [0,2] [] c1;rfl;rfl));rfl;(focus ((repeat' first|exact z17|apply z16)<;>first|exact z44 rfl rfl|(refine z23 ?_;((exact z4 fun _=>rfl)))))))<;>conv=>whnf)
    all_goals try (exfalso;omega)
    all_goals (refine rsD [0] [] rfl ?_;(repeat' first|exact y78 _|exact z53|apply y79|apply z41|constructor))
  ·obtain ⟨kd,mk,ck⟩:=z98 bs hb (p+1) (by omega) (by omega) [7,9,10,3,4,5,6,8] (by decide) (by decide)
   have ca:=z595 kd
   have ham:∃ m:Nat,z220 kd=m∧m≤2:=by
    simp only [List.mem_cons,List.not_mem_nil,or_false] at mk
    unfold z220
    rcases mk with rfl|rfl|rfl|rfl|rfl|rfl|rfl|rfl
    all_goals first|exact ⟨2,rfl,by omega⟩|exact ⟨1,rfl,by omega⟩
   obtain ⟨m,em,hm⟩:=ham
   rw [em] at ca
   obtain ⟨ks,pf,hks,hp0,hst,hpf⟩:=z271 (fun k q (t:Tree) q'=>t.sz≤drS n∧CallsA Tryz.prog 184 [.ptr 0 none 0,.int (d - 1)] [rdO bs q] (z52 Tree.cs' t) [rdO bs q']) (p+1+1) (drK n) m (fun k q hk h1 h2=>by
    have:drK n * k≤drK n:=by
     have:k=0∨k=1:=by omega
     rcases this with rfl|rfl<;>simp<;>omega
    obtain ⟨t,q',⟨a1,a2,a3⟩,a4⟩:=ih (d - 1) q (by omega) (by omega) (by omega) (by omega) (by omega)
    exact ⟨t,q',⟨a1,a4⟩,a2,a3⟩)
   have hpm:=hpf m (y45 _)
   have hKm:drK n * m≤2 * drK n:=by
    have:m=0∨m=1∨m=2:=by omega
    rcases this with rfl|rfl|rfl<;>simp<;>omega
   have hsum:(ks.map Tree.sz).sum≤2 * drS n:=by
    have:∀ (l:List Tree),(∀ t∈l,t.sz≤drS n)→(l.map Tree.sz).sum≤l.length * drS n:=by
     intro l
     induction l with
     |nil=>intro _;simp
     |cons t l ih =>
      intro h
      have h1:=h t (by simp)
      have h2:=ih fun u hu=>h u (by simp [hu])
      simp only [List.map_cons,List.sum_cons,y51,Nat.add_mul]
      omega
    have h1:=this ks fun t ht=>by
     obtain ⟨i,hi,rfl⟩:=List.mem_iff_getElem.1 ht
     exact (hst i hi).1
    have h2:ks.length * drS n≤2 * drS n:=Nat.mul_le_mul_right _ (by omega)
    omega
   refine ⟨.mk kd 0 ks,pf m,⟨by rw [z325];omega,by omega,by omega⟩,?_⟩
   refine z7 z15 Tryz.func184 rfl rfl 43 Tryz.ntmps184 (by simp) ?_
   rw [← hp0] at ck
   repeat' ((first|(apply y76 ok;rfl)|((apply z5)<;>intro _)|(apply z6 (ca);rfl;rfl)|((first|(apply z11 [0] [] cw;rfl;rfl)|(apply z11 [0,2] [] ck;rfl;rfl));rfl;(focus ((repeat' first|exact z17|apply z16)<;>first|exact z44 rfl rfl|(refine z23 ?_;((exact z4 fun _=>rfl)))))))<;>conv=>whnf)
   all_goals try (exfalso;omega)
   refine y77 (y81 3 rfl) ?_
   refine z65 (fun k:Nat=>([(0,.ptr 0 none 0),(1,.int d),(4,.ptr 1 none 0),(5,.ptr 2 none 0),(6,.int (m - k))],[rdO bs (pf k),.cells 3 [[.int 0,.int 0,.nils]],.cells 3 [[.int kd,.int 0,.sref 3 0 k]],.cells 3 ((ks.take k).map Tree.cs')])) (fun k=>k≤m) (fun k=>m - k) 0 (by omega) (by refine swR [0,1,3,4] [] rfl rfl ?_;(repeat' first|exact y78 _|exact z48|apply y79|refine z10 rfl (z34) ?_|constructor)) ?_
   intro k hk
   by_cases hkm:k < m
   ·have hc:=(hst k (by omega)).2
    have hkl:k < ks.length:=by omega
    rw [y14] at hc
    repeat' ((first|(apply y76 ok;rfl)|(apply z21;kernel_rfl)|(apply y36;first|(unfold inI;omega)|((try dsimp only);simp only [y42,y41,y40,y39,y51,y52];omega)|exact ⟨rfl,z19 rfl z26⟩)|((apply z5)<;>intro _)|(apply z18 [0] [] hc;rfl;rfl;rfl))<;>conv=>whnf)
    all_goals try (exfalso;omega)
    refine z25 (k+1) (by omega) (by omega) (by refine swR [0,1,2,5] [] rfl rfl ?_;(repeat' first|exact y78 _|exact z388|(refine z105 ?_;omega)|apply y79|((refine z33 rfl ?_ ?_);(focus ((repeat' (first|exact z4 (fun _=>rfl)|apply z22));done)))|refine z119 (by omega) (by omega) ?_|(apply z81;rfl)|constructor))
   ·have:k=m:=by omega
    subst this
    repeat' ((first|(apply y76 ok;rfl)|(apply y36;omega)|((apply z5)<;>intro _))<;>conv=>whnf)
    all_goals try (exfalso;omega)
    all_goals (refine rsD [0] [3] rfl ?_;(repeat' first|exact y78 _|(refine z530 ?_;omega)|apply y79|((apply z36 rfl rfl rfl);(focus ((repeat ((exact z31 (fun _=>rfl) _)));done));(focus (((simp;omega));done)))|apply z41|constructor))
theorem z750 (bs:List Int) (hb:BytesOk bs) (p:Int) (hp:few p):∃ (t:Tree) (p' : Int),(t.sz≤20∧p≤p'∧p'≤p+100)∧CallsA Tryz.prog 129 [.ptr 0 none 0] [rdO bs p] (z52 Tree.cs' t) [rdO bs p']:=by
 obtain ⟨d,md,cd⟩:=z98 bs hb p (by omega) (by omega) [3,2,4,3] (by decide) (by decide)
 have hd:0≤d∧d≤4:=by simp at md;omega
 obtain ⟨t,q,⟨t1,t2,t3⟩,ct⟩:=z844 bs hb 3 d (p+1) (by omega) (by omega) (by omega) (by omega) (by simp only [drK];omega)
 simp only [drK] at t3
 simp only [drS] at t1
 have cv:=z222 t (z175 t (by unfold maxLen;omega))
 by_cases hv:t.fmB=true
 ·refine ⟨t,q,⟨by omega,by omega,by omega⟩,?_⟩
  rw [hv] at cv
  rw [y14] at *
  refine z7 z15 Tryz.func129 rfl rfl 15 Tryz.ntmps129 (by simp) ?_
  repeat' ((first|(apply y76 ok;rfl)|(apply z6 (cv);rfl;rfl)|((first|(apply z11 [0,2] [] cd;rfl;rfl)|(apply z11 [0] [] ct;rfl;rfl));rfl;(focus ((repeat' first|exact z17|apply z16)<;>first|exact z44 rfl rfl|(refine z23 ?_;((exact z4 fun _=>rfl)))))))<;>conv=>whnf)
  all_goals (refine rsD [0] [] rfl ?_;(repeat' first|exact y78 _|apply y79|constructor))
 ·refine ⟨.mk 10 0 [leaf 2 0],q,⟨by rw [z325];simp [z100],by omega,by omega⟩,?_⟩
  rw [(y64 _).mp hv] at cv
  rw [y14] at cv ct
  refine z7 z15 Tryz.func129 rfl rfl 15 Tryz.ntmps129 (by simp) ?_
  repeat' ((first|(apply y76 ok;rfl)|(apply z6 (cv);rfl;rfl)|((first|(apply z11 [0,2] [] cd;rfl;rfl)|(apply z11 [0] [] ct;rfl;rfl));rfl;(focus ((repeat' first|exact z17|apply z16)<;>first|exact z44 rfl rfl|(refine z23 ?_;((exact z4 fun _=>rfl)))))))<;>conv=>whnf)
  all_goals (refine rsD [0] [4] rfl ?_;(repeat' first|exact y78 _|exact z53|apply y79|refine z36 rfl rfl rfl rfl rfl ?_|apply z41|(apply z81;rfl)|constructor))
theorem argU (k v:Int) (a:Tree):z52 Tree.cs' (.mk k v [a])=.agg [.int k,.int v,.list 3 1 [Tree.cs' a]]:=by
 rw [y14]
 show AC.agg [AC.int k,AC.int v,lst 3 Tree.cs' [a]]=_
 rfl
theorem argB (k v:Int) (a b:Tree):z52 Tree.cs' (.mk k v [a,b])=.agg [.int k,.int v,.list 3 2 [Tree.cs' a,Tree.cs' b]]:=by
 rw [y14]
 rfl
theorem z489 (x:Tree):F2 LocLe (z269 [AC.int x.kind,AC.int x.val,lst 3 Tree.cs' x.kids]) (Tree.cs x):=by
 have e:Tree.cs x=[AC.int x.kind,AC.int x.val,lst 3 Tree.cs' x.kids]:=by rw [y15];exact AC.agg.inj (y14 x)
 rw [e];exact z294 _
theorem z661 (t:Tree):CallsA Tryz.prog 221 [z52 Tree.cs' t] [] (z52 Tree.cs' (notT t)) []:=by
 unfold notT
 rw [y14 t,y14]
 refine z7 z15 Tryz.func221 rfl rfl 6 Tryz.ntmps221 (by simp) ?_
 repeat' (((apply y76 ok;rfl))<;>conv=>whnf)
 all_goals (refine rsD [] [2] rfl ?_;(repeat' first|exact y78 _|exact z388|refine z36 rfl rfl rfl rfl rfl ?_|apply z41|(apply z81;rfl)|constructor))
 all_goals exact z489 _
theorem z1096 (k:Int):CallsA Tryz.prog 262 [.int k] [] (.int (z1124 k)) []:=by
 unfold z1124
 refine z7 z15 Tryz.func262 rfl rfl 10 Tryz.ntmps262 (by simp) ?_
 repeat' ((first|(apply y76 ok;rfl)|((apply z5)<;>intro _))<;>conv=>whnf)
 all_goals (refine rsL [] [] rfl ?_;refine RetS.done (z105 ?_) .nil;first|(rw [if_pos (by omega)];done)|(rw [if_neg (by omega),if_pos (by omega)];done)|(rw [if_neg (by omega),if_neg (by omega),if_pos (by omega)];done)|(rw [if_neg (by omega),if_neg (by omega),if_neg (by omega)];done))
set_option maxHeartbeats 3200000 in
theorem z1095 (t:Tree):t.goodF→∀ neg:Bool,CallsA Tryz.prog 234 [z52 Tree.cs' t,.bool neg] [] (z52 Tree.cs' (t.nrm neg)) []:=by
 induction t using y24 with|h t ih=>?_
 intro hg neg
 have hT:=z526
 cases y19 hg with
 |tr =>
  rw [z1073]
  have cn:=(z661 (.mk 1 0 [])).arg (args0:=[.agg [.int 1,.int 0,.nils]]) (by (repeat' first|exact y78 _|exact z53|apply z41|constructor))
  cases neg
  all_goals
   refine z7 z15 Tryz.func234 rfl rfl 86 Tryz.ntmps234 (by simp) ?_
   repeat' ((first|(apply y76 ok;rfl)|(apply z6 (cn);rfl;rfl))<;>conv=>whnf)
   all_goals (refine rsD [] [] rfl ?_;(repeat' first|exact y78 _|exact z53|apply z41|constructor))
 |«at» v h0 h1 =>
  rw [z1075]
  have cn:=(z661 (.mk 2 v [])).arg (args0:=[.agg [.int 2,.int v,.nils]]) (by (repeat' first|exact y78 _|exact z53|apply z41|constructor))
  cases neg
  all_goals
   refine z7 z15 Tryz.func234 rfl rfl 86 Tryz.ntmps234 (by simp) ?_
   repeat' ((first|(apply y76 ok;rfl)|(apply z6 (cn);rfl;rfl))<;>conv=>whnf)
   all_goals (refine rsD [] [] rfl ?_;(repeat' first|exact y78 _|exact z53|apply z41|constructor))
 |un k a hk ha =>
  have ca:=ih a (by simp [Tree.kids]) ha
  clear ih
  have cn:=z661 truT
  rcases hk with rfl|rfl|rfl|rfl
  ·rw [z831,argU 3 0 a]
   have ca:=ca (!neg)
   refine z7 z15 Tryz.func234 rfl rfl 86 Tryz.ntmps234 (by simp) ?_
   repeat' ((first|(apply y76 ok;rfl)|(refine ⟨_,rfl,?_⟩)|(apply y36;omega)|(apply z6 (ca);rfl;rfl))<;>conv=>whnf)
   all_goals (refine rsD [] [] rfl ?_;(repeat' first|exact y78 _|constructor))
  ·rw [z649,argU 6 0 a]
   have ca:=ca neg
   generalize a.nrm neg=x at *
   rw [y14 x] at ca
   refine z7 z15 Tryz.func234 rfl rfl 86 Tryz.ntmps234 (by simp) ?_
   repeat' ((first|(apply y76 ok;rfl)|(refine ⟨_,rfl,?_⟩)|(apply y36;omega)|(apply z6 (ca);rfl;rfl))<;>conv=>whnf)
   all_goals (refine rsD [] [2] rfl ?_;(repeat' first|exact y78 _|refine z36 rfl rfl rfl rfl rfl ?_|apply z41|(apply z81;rfl)|constructor))
   all_goals exact z489 _
  ·rw [z1074,argU 9 0 a]
   have ca:=ca neg
   generalize a.nrm neg=x at *
   rw [y14 x] at ca
   cases neg
   all_goals
    refine z7 z15 Tryz.func234 rfl rfl 86 Tryz.ntmps234 (by simp) ?_
    repeat' ((first|(apply y76 ok;rfl)|(apply z21;kernel_rfl)|(refine ⟨_,rfl,?_⟩)|(apply y36;omega)|(apply z6 (ca);rfl;rfl)|(apply z6 (hT);rfl;rfl)|(apply z6 (cn);rfl;rfl))<;>conv=>whnf)
    all_goals (refine rsD [] [3] rfl ?_;(repeat' first|exact y78 _|refine z36 rfl rfl rfl rfl rfl ?_|apply z41|(apply z81;rfl)|constructor))
    all_goals exact z489 _
  ·rw [z1076,argU 10 0 a]
   have ca:=ca neg
   generalize a.nrm neg=x at *
   rw [y14 x] at ca
   cases neg
   all_goals
    refine z7 z15 Tryz.func234 rfl rfl 86 Tryz.ntmps234 (by simp) ?_
    repeat' ((first|(apply y76 ok;rfl)|(apply z21;kernel_rfl)|(refine ⟨_,rfl,?_⟩)|(apply y36;omega)|(apply z6 (ca);rfl;rfl)|(apply z6 (hT);rfl;rfl)|(apply z6 (cn);rfl;rfl))<;>conv=>whnf)
    all_goals (refine rsD [] [3] rfl ?_;(repeat' first|exact y78 _|refine z36 rfl rfl rfl rfl rfl ?_|apply z41|(apply z81;rfl)|constructor))
    all_goals exact z489 _
 |bin k a b hk ha hb =>
  have ca:=ih a (by simp [Tree.kids]) ha neg
  have cb:=ih b (by simp [Tree.kids]) hb neg
  clear ih
  have cd:=z1096 k
  rw [z832 _ _ _ _ _ hk,argB k 0 a b]
  generalize a.nrm neg=x at *
  generalize b.nrm neg=y at *
  rw [y14 x] at ca
  rw [y14 y] at cb
  generalize z1124 k=k' at *
  cases neg
  all_goals
   refine z7 z15 Tryz.func234 rfl rfl 86 Tryz.ntmps234 (by simp) ?_
   repeat' ((first|(apply y76 ok;rfl)|(apply z21;kernel_rfl)|(refine ⟨_,rfl,?_⟩)|(apply y36;omega)|((first|apply z5|apply z37)<;>intro _)|(apply z6 (ca);rfl;rfl)|(apply z6 (cb);rfl;rfl)|(apply z6 (cd);rfl;rfl))<;>conv=>whnf)
   all_goals try (exfalso;omega)
   all_goals (refine rsD [] [2] rfl ?_;(repeat' first|exact y78 _|refine z36 rfl rfl rfl rfl rfl ?_|apply z41|(apply z81;rfl)|constructor))
   all_goals exact z489 _
theorem z974 (t:Tree) (h:t.sz≤1000000):CallsA Tryz.prog 182 [z52 Tree.cs' t] [] (ownT t) [.cells 3 (t.kids.map Tree.cs')]:=by
 induction t using y24 with|h t ih=>?_
 have hkl:t.kids.length≤1000000:=by rw [y33] at h;omega
 have hks:∀ u∈t.kids,u.sz≤1000000:=fun u hu=>by
  have:=z449 Tree.sz hu
  rw [y33] at h;omega
 rw [y14 t]
 obtain ⟨k,v,l⟩:=t
 simp only [Tree.kind,Tree.val,Tree.kids] at *
 have hcs:∀ (i:Nat) (hi:i < l.length),CallsA Tryz.prog 182 [z52 Tree.cs' l[i]] [] (z52 Tree.cs' l[i]) []:=fun i hi =>
  z648 (ih _ (y37 _) (hks _ (y37 _)))
 unfold ownT
 simp only [Tree.kind,Tree.val,Tree.kids] at *
 refine z7 z15 Tryz.func182 rfl rfl 29 Tryz.ntmps182 (by simp) ?_
 repeat' (((apply y76 ok;rfl))<;>conv=>whnf)
 refine y77 (y81 3 rfl) ?_
 refine z65 (fun i:Nat=>([(1,.ptr 0 none 0),(2,.ptr 1 none 0),(3,.ptr 2 none 0),(4,.int i)],[.cells 3 [[.int k,.int v,lst 3 Tree.cs' l]],.cells 3 [[.int 0,.int 0,.nils]],.cells 3 [[.int k,.int v,.sref 3 0 i]],.cells 3 ((l.take i).map Tree.cs')])) (fun i=>i≤l.length) (fun i=>l.length - i) 0 (by omega) (by refine swR [0,1,2,3] [] rfl rfl ?_;(repeat' first|exact y78 _|exact z48|apply y79|refine z10 rfl (z34) ?_|constructor)) ?_
 intro i hi
 by_cases hil:i < l.length
 ·have hc:=hcs i hil
  repeat' ((first|(apply y76 ok;rfl)|(apply z21;kernel_rfl)|(apply y36;first|omega|(unfold inI;omega)|((try dsimp only);simp only [y42,y41,y40,y39,y51,y52];omega)|exact ⟨rfl,z19 rfl z26⟩)|(((with_reducible apply z8;omega));intro _)|((apply z5)<;>intro _)|(apply z6 (hc);rfl;rfl))<;>conv=>whnf)
  all_goals try (exfalso;omega)
  refine z25 (i+1) (by omega) (by omega) (by refine swR [0,1,2,5] [] rfl rfl ?_;(repeat' first|exact y78 _|apply y79|((refine z33 rfl ?_ ?_);(focus ((repeat' (first|exact z4 (fun _=>rfl)|apply z22));done)))|refine z119 (by omega) (by omega) ?_|constructor))
 ·have e:i=l.length:=by omega
  subst e
  rw [y49]
  repeat' ((first|(apply y76 ok;rfl)|(apply y36;omega)|(((with_reducible apply z8;omega));intro _)|((apply z5)<;>intro _))<;>conv=>whnf)
  all_goals try (exfalso;omega)
  all_goals (refine rsD [3] [] rfl ?_;(repeat' first|exact y78 _|exact z9 _|refine z10 rfl (z4 (fun _=>rfl)) ?_|constructor))
theorem z377 (t:Tree) (hs:t.sz≤1000):CallsA Tryz.prog 189 [z52 Tree.cs' t] [] (.tup [z52 Tree.cs' (if t.fmB=true∧(t.nrm false).fmB=true then t.nrm false else dftT),.bool (decide (t.fmB=true∧(t.nrm false).fmB=true))]) []:=by
 have cv:=z222 t (z175 t (by unfold maxLen;omega))
 by_cases h1:t.fmB=true
 ·have hg:=y21 h1
  have cp:=z1095 t hg false
  have hz:=y26 t hg false
  have cw:=z222 (t.nrm false) (z175 _ (by unfold maxLen;omega))
  rw [h1] at cv ⊢
  generalize t.nrm false=u at *
  by_cases h2:u.fmB=true
  ·rw [h2] at cw ⊢
   rw [if_pos ⟨rfl,rfl⟩,y73 ⟨rfl,rfl⟩]
   rw [y14 t] at cv cp ⊢
   rw [y14 u] at cp cw ⊢
   refine z7 z15 Tryz.func189 rfl rfl 16 Tryz.ntmps189 (by simp) ?_
   repeat' ((first|(apply y76 ok;rfl)|(apply z6 (cv);rfl;rfl)|(apply z6 (cp);rfl;rfl)|(apply z6 (cw);rfl;rfl))<;>conv=>whnf)
   all_goals (refine rsD [] [] rfl ?_;(repeat' first|exact y78 _|constructor))
  ·rw [if_neg (fun h=>h2 h.2),y74 (fun h=>h2 h.2)]
   rw [(y64 _).mp h2] at cw
   rw [y14 t] at cv cp ⊢
   rw [y14 u] at cp cw
   refine z7 z15 Tryz.func189 rfl rfl 16 Tryz.ntmps189 (by simp) ?_
   repeat' ((first|(apply y76 ok;rfl)|(apply z6 (cv);rfl;rfl)|(apply z6 (cp);rfl;rfl)|(apply z6 (cw);rfl;rfl))<;>conv=>whnf)
   all_goals (refine rsD [] [] rfl ?_;(repeat' first|exact y78 _|exact z53|apply z41|apply z92|constructor))
 ·rw [if_neg (fun h=>h1 h.1),y74 (fun h=>h1 h.1)]
  rw [(y64 _).mp h1] at cv
  rw [y14 t] at cv ⊢
  refine z7 z15 Tryz.func189 rfl rfl 16 Tryz.ntmps189 (by simp) ?_
  repeat' ((first|(apply y76 ok;rfl)|(apply z6 (cv);rfl;rfl))<;>conv=>whnf)
  all_goals (refine rsD [] [] rfl ?_;(repeat' first|exact y78 _|exact z53|apply z41|apply z92|constructor))
theorem z1118 (a:Tree):a.mx→∀ b:Tree,b.mx→CallsA Tryz.prog 263 [z52 Tree.cs' a,z52 Tree.cs' b] [] (.bool (decide (a=b))) []:=by
 induction a using y24 with|h a ih=>?_
 intro ha b hb
 rw [y25] at ha hb
 have hal:=ha.1
 have hbl:=hb.1
 unfold maxLen at hal hbl
 rw [y14,y14]
 by_cases hk:a.kind=b.kind∧a.val=b.val∧a.kids.length=b.kids.length
 ·obtain ⟨k1,k2,k3⟩:=hk
  have hiff:(a=b)↔∀ i (h:i < a.kids.length) (h2:i < b.kids.length),a.kids[i]=b.kids[i]:=⟨fun e=>by subst e;exact fun _ _ _=>rfl,fun h=>Tree.ext k1 k2 (y67 k3 h)⟩
  have hc:∀ i (h:i < a.kids.length) (h2:i < b.kids.length),CallsA Tryz.prog 263 [z52 Tree.cs' a.kids[i],z52 Tree.cs' b.kids[i]] [] (.bool (decide (a.kids[i]=b.kids[i]))) []:=fun i h h2=>ih _ (y37 _) (ha.2 _ (y37 _)) _ (hb.2 _ (y37 _))
  clear ih
  have hT:(∀ i (h:i < a.kids.length) (h2:i < b.kids.length),a.kids[i]=b.kids[i])→decide (a=b)=true:=fun h=>y73 (hiff.2 h)
  have hF:∀ i (h:i < a.kids.length) (h2:i < b.kids.length),a.kids[i]≠b.kids[i]→decide (a=b)=false:=fun i h h2 hne=>y74 fun e=>hne (hiff.1 e i h h2)
  generalize decide (a=b)=D at *
  clear hiff
  generalize a.kids=A at *
  generalize b.kids=B at *
  refine z7 z15 Tryz.func263 rfl rfl 46 Tryz.ntmps263 (by simp) ?_
  repeat' ((first|(apply y76 ok;rfl)|((apply z37)<;>intro _))<;>conv=>whnf)
  all_goals try (exfalso;omega)
  refine z65 (fun i:Nat=>([(2,.ptr 0 none 0),(3,.ptr 1 none 0),(5,.int i)],[.cells 3 [[.int a.kind,.int a.val,lst 3 Tree.cs' A]],.cells 3 [[.int b.kind,.int b.val,lst 3 Tree.cs' B]]])) (fun i=>i≤A.length∧∀ j (h:j < A.length) (h2:j < B.length),j < i→A[j]=B[j]) (fun i=>A.length - i) 0 ⟨y46 _,fun j _ _ h=>absurd h (Nat.not_lt_zero _)⟩ (by refine swR [0,1] [] rfl rfl ?_;(repeat' first|exact y78 _|apply y79|constructor)) ?_
  rintro i ⟨hi,hj⟩
  by_cases hil:i < A.length
  ·have hil2:i < B.length:=by omega
   have c1:=hc i hil hil2
   have gA:(A.map Tree.cs')[i]?=some (Tree.cs' A[i]):=by rw [y44,y38 hil];rfl
   have gB:(B.map Tree.cs')[i]?=some (Tree.cs' B[i]):=by rw [y44,y38 hil2];rfl
   by_cases he:A[i]=B[i]
   ·rw [y73 he] at c1
    have hj2:∀ j (h:j < A.length) (h2:j < B.length),j < i+1→A[j]=B[j]:=fun j h h2 hji=>by
     rcases y62 j i with h3|h3
     ·exact hj j h h2 h3
     ·obtain rfl:j=i:=by omega
      exact he
    generalize A[i]=x at *
    generalize B[i]=y at *
    repeat' ((first|(apply y76 ok;rfl)|(apply z21;kernel_rfl)|(refine z12 (i:=i) rfl gA ?_)|(refine z12 (i:=i) rfl gB ?_)|(apply y36;first|omega|(unfold inI;omega))|((apply z5)<;>intro _)|(apply z6 (c1);rfl;rfl))<;>conv=>whnf)
    all_goals try (exfalso;omega)
    all_goals refine z25 (i+1) ⟨by omega,hj2⟩ (by omega) (by refine swR [0,1] [] rfl rfl ?_;(repeat' first|exact y78 _|apply y79|constructor))
   ·rw [y74 he] at c1
    have hD:=hF i hil hil2 he
    subst hD
    generalize A[i]=x at *
    generalize B[i]=y at *
    repeat' ((first|(apply y76 ok;rfl)|(apply z21;kernel_rfl)|(refine z12 (i:=i) rfl gA ?_)|(refine z12 (i:=i) rfl gB ?_)|(apply y36;omega)|((apply z5)<;>intro _)|(apply z6 (c1);rfl;rfl))<;>conv=>whnf)
    all_goals try (exfalso;omega)
    all_goals (refine rsD [] [] rfl ?_;(repeat' first|exact y78 _|constructor))
  ·have hD:=hT (fun j h h2=>hj j h h2 (by omega))
   subst hD
   repeat' ((first|(apply y76 ok;rfl)|(apply y36;omega)|(((with_reducible apply z8;omega));intro _)|((apply z5)<;>intro _))<;>conv=>whnf)
   all_goals try (exfalso;omega)
   all_goals (refine rsD [] [] rfl ?_;(repeat' first|exact y78 _|constructor))
 ·rw [y74 (fun e=>hk (by subst e;exact ⟨rfl,rfl,rfl⟩))]
  clear ih
  refine z7 z15 Tryz.func263 rfl rfl 46 Tryz.ntmps263 (by simp) ?_
  repeat' ((first|(apply y76 ok;rfl)|((apply z37)<;>intro _))<;>conv=>whnf)
  all_goals first|(exfalso;omega)|(refine rsD [] [] rfl ?_;(repeat' first|exact y78 _|constructor))
theorem z751 (l:List Tree) (hl:l.length≤1000000) (hm:∀ t∈l,t.mx) (t:Tree) (ht:t.mx):CallsA Tryz.prog 236 [lst 3 Tree.cs' l,z52 Tree.cs' t] [] (.int (idxF (fun x=>decide (x=t)) l)) []:=by
 have hc:∀ i (h:i < l.length),CallsA Tryz.prog 263 [z52 Tree.cs' l[i],z52 Tree.cs' t] [] (.bool (decide (l[i]=t))) []:=fun i h=>z1118 _ (hm _ (y37 _)) _ ht
 rw [y14 t] at *
 refine z7 z15 Tryz.func236 rfl rfl 19 Tryz.ntmps236 (by simp) ?_
 repeat' (((apply y76 ok;rfl))<;>conv=>whnf)
 refine z65 (fun i:Nat=>([(0,lst 3 Tree.cs' l),(3,.ptr 0 none 0),(5,.int i)],[.cells 3 [[.int t.kind,.int t.val,lst 3 Tree.cs' t.kids]]])) (fun i=>i≤l.length∧∀ j (h:j < l.length),j < i→decide (l[j]=t)=false) (fun i=>l.length - i) 0 ⟨y46 _,fun j _ h=>absurd h (Nat.not_lt_zero _)⟩ (by refine swR [0] [] rfl rfl ?_;(repeat' first|exact y78 _|apply y79|constructor)) ?_
 rintro i ⟨hi,hj⟩
 by_cases hil:i < l.length
 ·have c1:=hc i hil
  have gl:(l.map Tree.cs')[i]?=some (Tree.cs' l[i]):=by rw [y44,y38 hil];rfl
  by_cases he:l[i]=t
  ·have e:idxF (fun x=>decide (x=t)) l=i:=z204 hil (y73 he) fun j h h2=>hj j h h2
   rw [e]
   rw [y73 he] at c1
   generalize l[i]=x at *
   repeat' ((first|(apply y76 ok;rfl)|(apply z21;kernel_rfl)|(refine z12 (i:=i) rfl gl ?_)|(apply y36;omega)|((apply z5)<;>intro _)|(apply z6 (c1);rfl;rfl))<;>conv=>whnf)
   all_goals try (exfalso;omega)
   all_goals (refine rsD [] [] rfl ?_;(repeat' first|exact y78 _|constructor))
  ·have hj2:∀ j (h:j < l.length),j < i+1→decide (l[j]=t)=false:=fun j h hji=>by
    rcases y62 j i with h3|h3
    ·exact hj j h h3
    ·obtain rfl:j=i:=by omega
     exact y74 he
   rw [y74 he] at c1
   generalize l[i]=x at *
   repeat' ((first|(apply y76 ok;rfl)|(apply z21;kernel_rfl)|(refine z12 (i:=i) rfl gl ?_)|(apply y36;first|omega|(unfold inI;omega))|((apply z5)<;>intro _)|(apply z6 (c1);rfl;rfl))<;>conv=>whnf)
   all_goals try (exfalso;omega)
   all_goals refine z25 (i+1) ⟨by omega,hj2⟩ (by omega) (by refine swR [0] [] rfl rfl ?_;(repeat' first|exact y78 _|apply y79|constructor))
 ·have e:idxF (fun x=>decide (x=t)) l=-1:=z205 fun j h=>hj j h (by omega)
  rw [e]
  repeat' ((first|(apply y76 ok;rfl)|(apply y36;omega)|(((with_reducible apply z8;omega));intro _)|((apply z5)<;>intro _))<;>conv=>whnf)
  all_goals try (exfalso;omega)
  all_goals (refine rsD [] [] rfl ?_;(repeat' first|exact y78 _|constructor))
theorem z1097 (t:Tree) (h:t.sz≤1000000):CallsA Tryz.prog 182 [z52 Tree.cs' t] [] (z52 Tree.cs' t) []:=z648 (z974 t h)
set_option maxHeartbeats 3200000 in
theorem z1094 (t:Tree):t.sz≤1000→∀ (o:List Tree),o.length+t.sz≤2000→(∀ x∈o,x.sz≤1000)→CallsA Tryz.prog 232 [.sref 0 0 o.length,z52 Tree.cs' t] [.cells 3 (o.map Tree.cs')] (.sref 1 0 (t.subs o).length) [.dead,.cells 3 ((t.subs o).map Tree.cs')]:=by
 induction t using y24 with|h t ih=>?_
 intro hs o ho hm
 have hsz:=y33 t
 have hkid:∀ k (h:k < t.kids.length),t.kids[k].sz≤1000:=fun k h=>by have:=z449 Tree.sz (y37 h);omega
 have hpre:∀ k,k≤t.kids.length→(Tree.subss (t.kids.take k) o).length≤o.length+((t.kids.take k).map fun u=>u.sz+1).sum∧∀ x∈Tree.subss (t.kids.take k) o,x.sz≤1000:=by
  intro k
  induction k with
  |zero=>intro _;exact ⟨by simp [Tree.subss],hm⟩
  |succ k ihk =>
   intro hk
   obtain ⟨a1,a2⟩:=ihk (by omega)
   obtain ⟨_,_,_,b4,b5,_⟩:=z409 t.kids[k] (Tree.subss (t.kids.take k) o)
   rw [y32 (by omega)]
   refine ⟨?_,fun x hx=>?_⟩
   ·rw [y43 (by omega),y56,List.sum_append]
    simp only [List.map_cons,List.map_nil,List.sum_cons,List.sum_nil]
    omega
   ·rcases b5 x hx with h|h
    ·exact a2 x h
    ·have:=hkid k (by omega);omega
 have hsum:∀ k,k≤t.kids.length→((t.kids.take k).map fun u=>u.sz+1).sum≤t.sz:=fun k hk=>by
  have h1:∀ l:List Tree,(l.map fun u=>u.sz+1).sum=l.length+(l.map Tree.sz).sum:=by
   intro l
   induction l with
   |nil=>rfl
   |cons a l ih=>simp only [List.map_cons,List.sum_cons,y51,ih];omega
  have h2:=z807 Tree.sz t.kids k
  rw [h1,y41];omega
 rw [y14 t,y30]
 have hl5:t.kids.length≤1000:=by omega
 have hfs:(∀ x∈Tree.subss t.kids o,x.sz≤1000):=by have:=(hpre t.kids.length (y45 _)).2;rwa [y49] at this
 have hfl:(Tree.subss t.kids o).length≤2000:=by have h1:=(hpre t.kids.length (y45 _)).1;have h2:=hsum t.kids.length (y45 _);rw [y49] at h1 h2;omega
 have cF:=z751 (Tree.subss t.kids o) (by omega) (fun x hx=>z175 x (by have:=hfs x hx;unfold maxLen;omega)) t (z175 t (by unfold maxLen;omega))
 have cC:=z1097 t (by omega)
 have hidx:=z258 (fun x=>decide (x=t)) (Tree.subss t.kids o)
 refine z7 z15 Tryz.func232 rfl rfl 30 Tryz.ntmps232 (by simp) ?_
 refine y77 (Reach.rnm 0 rfl) ?_
 conv=>whnf
 repeat' (((apply y76 ok;rfl))<;>conv=>whnf)
 refine z65 (fun x:Nat×List Tree=>([(0,.sref 1 0 x.2.length),(3,.ptr 2 none 0),(5,.int x.1)],[.dead,.cells 3 (x.2.map Tree.cs'),.cells 3 [[.int t.kind,.int t.val,lst 3 Tree.cs' t.kids]]])) (fun x=>x.1≤t.kids.length∧Tree.subss (t.kids.take x.1) o=x.2) (fun x=>t.kids.length - x.1) (0,o) ⟨y46 _,by simp [Tree.subss]⟩ (by refine swR [0,1,2] [] rfl rfl ?_;(repeat' first|exact y78 _|exact z9 _|apply y79|refine z10 rfl (z4 (fun _=>rfl)) ?_|constructor)) ?_
 rintro ⟨i,q⟩ ⟨hi,hq⟩
 dsimp only at hi hq ⊢
 obtain ⟨p1,p2⟩:=hpre i hi
 have p3:=hsum i hi
 rw [hq] at p1 p2
 have hql:q.length≤2000:=by omega
 by_cases hil:i < t.kids.length
 ·have ci:=ih t.kids[i] (y37 _) (hkid i hil) q (by
   have h1:=hsum (i+1) (by omega)
   rw [y43 hil,y56,List.sum_append] at h1
   simp only [List.map_cons,List.map_nil,List.sum_cons,List.sum_nil] at h1
   omega) p2
  have ht:=y32 hil o
  rw [hq] at ht
  have gk:(t.kids.map Tree.cs')[i]?=some (Tree.cs' t.kids[i]):=by rw [y44,y38 hil];rfl
  clear ih cF hidx
  generalize t.kids[i]=u at *
  generalize u.subs q=q' at *
  repeat' ((first|(apply y76 ok;rfl)|(refine z12 (i:=i) rfl gk ?_)|(apply y36;first|omega|(unfold inI;omega))|((apply z5)<;>intro _)|(apply z159 [1] [3] ci;rfl;(focus ((repeat' first|exact z59|apply z66)<;>(refine z80 rfl ?_;((exact z4 fun _=>rfl)))));rfl;(focus ((repeat' first|exact z17|apply z16)<;>first|exact z372|(refine z23 ?_;((exact z4 fun _=>rfl)))))))<;>conv=>whnf)
  all_goals try (exfalso;omega)
  all_goals refine z25 (i+1,q') ⟨by show i+1≤_;omega,ht⟩ (by show t.kids.length - (i+1) < t.kids.length - i;omega) (by refine swR [0,3,2] [] rfl rfl ?_;(repeat' first|exact y78 _|exact z9 _|apply y79|refine z10 rfl (z4 (fun _=>rfl)) ?_|constructor))
 ·obtain rfl:i=t.kids.length:=by omega
  rw [y49] at hq
  rw [hq] at cF hidx ⊢
  unfold addT
  by_cases hin:t∈q
  ·rw [if_pos hin]
   have hx:0≤idxF (fun x=>decide (x=t)) q:=by
    rw [List.any_eq_true.2 ⟨t,hin,by simp⟩] at hidx
    exact of_decide_eq_true hidx
   generalize idxF (fun x=>decide (x=t)) q=z at *
   rw [y14 t] at cF
   repeat' ((first|(apply y76 ok;rfl)|(apply y36;omega)|(((with_reducible apply z8;omega));intro _)|((apply z5)<;>intro _)|(apply z112 [] [1] [] cF;(focus (exact z56 (z266 rfl rfl rfl (by simp) (z31 (fun _=>rfl) _)) (z56 rfl z84)));rfl;rfl;(focus ((repeat' exact z17)<;>fail));((refine .inr ⟨rfl,?_⟩;repeat' exact True.intro))))<;>conv=>whnf)
   all_goals try (exfalso;omega)
   all_goals (refine rsD [0,1] [] rfl ?_;(repeat' first|exact y78 _|exact z9 _|refine z10 rfl (z4 (fun _=>rfl)) ?_|constructor))
  ·rw [if_neg hin]
   have hx:¬ 0≤idxF (fun x=>decide (x=t)) q:=fun h=>by
    rw [y73 h] at hidx
    obtain ⟨x,h1,h2⟩:=List.any_eq_true.1 hidx.symm
    rw [of_decide_eq_true h2] at h1
    exact hin h1
   generalize idxF (fun x=>decide (x=t)) q=z at *
   rw [y14 t] at cC cF
   repeat' ((first|(apply y76 ok;rfl)|(apply y36;first|omega|((try dsimp only);simp only [y42,y41,y40,y39,y51,y52];omega)|exact ⟨rfl,z19 rfl z26⟩)|(((with_reducible apply z8;omega));intro _)|((apply z5)<;>intro _)|(apply z6 (cC);rfl;rfl)|(apply z112 [] [1] [] cF;(focus (exact z56 (z266 rfl rfl rfl (by simp) (z31 (fun _=>rfl) _)) (z56 rfl z84)));rfl;rfl;(focus ((repeat' exact z17)<;>fail));((refine .inr ⟨rfl,?_⟩;repeat' exact True.intro))))<;>conv=>whnf)
   all_goals try (exfalso;omega)
   all_goals (refine rsD [0,4] [] rfl ?_;(repeat' first|exact y78 _|exact z388|(refine z38 ?_;((simp;done)))|((refine z33 rfl ?_ ?_);(focus ((repeat' (first|exact z4 (fun _=>rfl)|apply z22));done)))|(refine z76 ?_ ?_;(focus (omega)))|(apply z81;rfl)|constructor))
theorem z971 (t:Tree):CallsA Tryz.prog 233 [z52 Tree.cs' t] [] (.bool (z101 t)) []:=by
 rw [y14]
 unfold z101
 refine z7 z15 Tryz.func233 rfl rfl 21 Tryz.ntmps233 (by simp) ?_
 repeat' ((first|(apply y76 ok;rfl)|((apply z5)<;>intro _))<;>conv=>whnf)
 all_goals (refine rsL [] [] rfl ?_;refine RetS.done (bool_le ?_) .nil;first|(rw [y73 (by omega)];done)|(rw [decide_eq_decide];omega))
set_option maxHeartbeats 3200000 in
theorem z1148 (t:Tree) (hs:t.sz≤200):CallsA Tryz.prog 188 [z52 Tree.cs' t] [] (.tup [lst 3 Tree.cs' (if bscB t then bscL (t.nrm false) else []),.bool (bscB t)]) []:=by
 have cn:=z377 t (by omega)
 unfold bscB
 by_cases h:t.fmB=true∧(t.nrm false).fmB=true
 ·rw [if_pos h,y73 h] at cn
  have hz:=y26 t (y21 h.1) false
  have hd:decide ((t.fmB=true∧(t.nrm false).fmB=true)∧(bscL (t.nrm false)).length≤5)=decide ((bscL (t.nrm false)).length≤5):=by
   rw [decide_eq_decide];exact ⟨fun h=>h.2,fun h2=>⟨h,h2⟩⟩
  rw [hd]
  clear hd h
  generalize t.nrm false=u at *
  have cS:=(z1094 u (by omega) [] (by simp;omega) (fun x hx=>by cases hx)).arg (args0:=[.nils,z52 Tree.cs' u]) (by (repeat' first|exact y78 _|exact z48|constructor))
  obtain ⟨_,_,_,hl,hz2,_⟩:=z409 u []
  unfold bscL
  simp only [y52,Nat.zero_add] at hl
  generalize u.subs []=L at *
  have hb:∀ k (hk:k < L.length),CallsA Tryz.prog 233 [z52 Tree.cs' L[k]] [] (.bool (z101 L[k])) []:=fun k hk=>z971 _
  rw [y14 u] at cn cS
  refine z7 z15 Tryz.func188 rfl rfl 43 Tryz.ntmps188 (by simp) ?_
  repeat' ((first|((fail_if_success apply z104 5);(fail_if_success apply z88 5);apply y76 ok;rfl)|(apply z6 (cn);rfl;rfl))<;>conv=>whnf)
  refine y77 (y81 3 rfl) ?_
  repeat' ((first|(apply y76 ok;rfl)|(apply z11 [3] [4] cS;rfl;rfl;rfl;(focus ((repeat' first|exact z17|apply z16)<;>first|exact z372|(refine z23 ?_;((exact z4 fun _=>rfl)))))))<;>conv=>whnf)
  refine z65 (fun x:Nat×List Tree=>([(6,.sref 0 0 x.2.length),(7,.sref 1 0 L.length),(8,.int x.1)],[.cells 3 (x.2.map Tree.cs'),.cells 3 (L.map Tree.cs')])) (fun x=>x.1≤L.length∧(L.take x.1).filter z101=x.2) (fun x=>L.length - x.1) (0,[]) ⟨y46 _,rfl⟩ (by refine swR [2,4] [] rfl rfl ?_;(repeat' first|exact y78 _|exact z9 _|((refine z10 rfl ?_ ?_);(focus ((repeat' (first|exact z34|exact z4 (fun _=>rfl)));done)))|constructor)) ?_
  rintro ⟨k,O⟩ ⟨hk,hO⟩
  dsimp only at hk hO ⊢
  have hOl:O.length≤L.length:=by
   rw [← hO]
   have:=List.length_filter_le z101 (L.take k)
   rw [y41] at this
   omega
  by_cases hkl:k < L.length
  ·have gk:(L.map Tree.cs')[k]?=some (Tree.cs' L[k]):=by rw [y44,y38 hkl];rfl
   have cb:=hb k hkl
   have ht:(L.take (k+1)).filter z101=O++(if z101 L[k]=true then [L[k]] else []):=by
    rw [y43 hkl,List.filter_append,hO]
    congr 1
    by_cases hb:z101 L[k]=true
    ·rw [if_pos hb,List.filter_cons_of_pos hb];rfl
    ·rw [if_neg hb,List.filter_cons_of_neg hb];rfl
   generalize L[k]=y at *
   by_cases hy:z101 y=true
   ·rw [hy] at cb
    rw [if_pos hy] at ht
    repeat' ((first|(apply y76 ok;rfl)|(refine z12 (i:=k) rfl gk ?_)|(apply y36;first|omega|(unfold inI;omega)|((try dsimp only);simp only [y42,y41,y40,y39,y51,y52];omega)|exact ⟨rfl,z19 rfl z26⟩)|((apply z5)<;>intro _)|(apply z6 (cb);rfl;rfl))<;>conv=>whnf)
    all_goals try (exfalso;omega)
    all_goals refine z25 (k+1,O++[y]) ⟨by show k+1≤_;omega,ht⟩ (by show L.length - (k+1) < L.length - k;omega) (by refine swR [3,1] [] rfl rfl ?_;(repeat' first|exact y78 _|exact z9 _|(refine z38 ?_;((simp;done)))|((first|refine z33 rfl ?_ ?_|refine z10 rfl ?_ ?_);(focus ((repeat' (first|exact z4 (fun _=>rfl)|apply z22));done)))|(refine z76 ?_ ?_;(focus (omega)))|constructor))
   ·rw [(y64 _).mp hy] at cb
    rw [if_neg hy,y57] at ht
    repeat' ((first|(apply y76 ok;rfl)|(refine z12 (i:=k) rfl gk ?_)|(apply y36;first|omega|(unfold inI;omega))|((apply z5)<;>intro _)|(apply z6 (cb);rfl;rfl))<;>conv=>whnf)
    all_goals try (exfalso;omega)
    all_goals refine z25 (k+1,O) ⟨by show k+1≤_;omega,ht⟩ (by show L.length - (k+1) < L.length - k;omega) (by refine swR [0,1] [] rfl rfl ?_;(repeat' first|exact y78 _|exact z9 _|refine z10 rfl (z4 (fun _=>rfl)) ?_|constructor))
  ·obtain rfl:k=L.length:=by omega
   rw [y49] at hO
   rw [hO]
   by_cases h5:O.length≤5
   ·rw [y73 h5,if_pos rfl]
    repeat' ((first|(apply y76 ok;rfl)|(apply y36;omega)|(((apply z8;omega));intro _)|((apply z5)<;>intro _))<;>conv=>whnf)
    all_goals try (exfalso;omega)
    all_goals (refine rsD [] [0] rfl ?_;(repeat' first|exact y78 _|((apply z36 rfl rfl rfl);(focus ((repeat ((exact z31 (fun _=>rfl) _)));done));(focus (((simp;done));done)))|apply z92|constructor))
   ·rw [y74 h5,if_neg (by simp)]
    repeat' ((first|(apply y76 ok;rfl)|(apply y36;omega)|(((apply z8;omega));intro _)|((apply z5)<;>intro _))<;>conv=>whnf)
    all_goals try (exfalso;omega)
    all_goals (refine rsD [] [2] rfl ?_;(repeat' first|exact y78 _|constructor))
 ·rw [if_neg h,y74 h] at cn
  have hd:decide ((t.fmB=true∧(t.nrm false).fmB=true)∧(bscL (t.nrm false)).length≤5)=false:=y74 fun h2=>h h2.1
  rw [hd,if_neg (by simp)]
  refine z7 z15 Tryz.func188 rfl rfl 43 Tryz.ntmps188 (by simp) ?_
  repeat' ((first|(apply y76 ok;rfl)|(apply z6 (cn);rfl;rfl))<;>conv=>whnf)
  all_goals (refine rsD [] [2] rfl ?_;(repeat' first|exact y78 _|constructor))
theorem z292 (x a:Int) (h0:0≤x) (h1:x≤31) (h2:0≤a) (h3:a≤5):CallsA Tryz.prog 235 [.int x,.int a] [] (.bool (hasB x a)) []:=by
 have ha:a=0∨a=1∨a=2∨a=3∨a=4∨a=5:=by omega
 have h5:0≤x / 2 ^ a.toNat∧x / 2 ^ a.toNat≤31:=by
  rcases ha with rfl|rfl|rfl|rfl|rfl|rfl<;>simp<;>omega
 have hw:IntKind.u64.wrap a=a:=by
  rcases ha with rfl|rfl|rfl|rfl|rfl|rfl<;>decide
 refine z7 z15 Tryz.func235 rfl rfl 11 Tryz.ntmps235 (by simp) ?_
 repeat' ((first|(apply y76 ok;rfl)|(apply y36;omega))<;>conv=>whnf)
 refine y36 (by unfold z106;omega) ?_
 conv=>whnf
 repeat' (((apply y76 ok;rfl))<;>conv=>whnf)
 all_goals (refine rsD [] [] rfl ?_;(repeat' first|exact y78 _|constructor))
structure BasL (B:List Tree):Prop where
 len:B.length≤5
 nd:B.Nodup
 sz:∀ x∈B,x.sz≤1000
 cl:∀ x∈B,In (·∈B) x
 bk:∀ x∈B,z101 x=true
 av:∀ v,Tree.mk 2 v []∈B→0≤v∧v≤2
theorem BasL.mx {B:List Tree} (h:BasL B):∀ x∈B,x.mx:=fun x hx=>z175 x (by have:=h.sz x hx;unfold maxLen;omega)
set_option maxHeartbeats 3200000 in
theorem z169 (B:List Tree) (hB:BasL B) (s:Int) (s0:0≤s) (s1:s≤31) (t:Tree) (h:In (·∈B) t):t.sz≤1000→CallsA Tryz.prog 191 [lst 3 Tree.cs' B,.int s,z52 Tree.cs' t] [] (.bool (vlB B s t)) []:=by
 have basic:∀ t,t∈B→z101 t=true→CallsA Tryz.prog 191 [lst 3 Tree.cs' B,.int s,z52 Tree.cs' t] [] (.bool (sgB B s t)) []:=fun t ht hb=>by
  have hl:=hB.len
  have cF:=z751 B (by omega) hB.mx t (hB.mx t ht)
  have hp:=plc_mem ht
  have cH:=z292 s (plc B t) s0 s1 hp.1 (by omega)
  have e:idxF (fun x=>decide (x=t)) B=plc B t:=rfl
  rw [e] at cF
  unfold sgB
  generalize plc B t=p at *
  unfold z101 at hb
  have hb:=of_decide_eq_true hb
  rw [y14 t] at cF ⊢
  refine z7 z15 Tryz.func191 rfl rfl 62 Tryz.ntmps191 (by simp) ?_
  repeat' ((first|(apply y76 ok;rfl)|(apply y36;omega)|(((with_reducible apply z55;omega));intro _)|((apply z5)<;>intro _)|(apply z6 (cF);rfl;rfl)|(apply z6 (cH);rfl;rfl))<;>conv=>whnf)
  all_goals first|(exfalso;omega)|(refine rsD [] [] rfl ?_;(repeat' first|exact y78 _|constructor))
 unfold vlB
 induction h with
 |tr =>
  intro _
  rw [vl_tr]
  refine z7 z15 Tryz.func191 rfl rfl 62 Tryz.ntmps191 (by simp) ?_
  repeat' (((apply y76 ok;rfl))<;>conv=>whnf)
  all_goals (refine rsD [] [] rfl ?_;(repeat' first|exact y78 _|constructor))
 |«at» v hb=>intro _;rw [vl_at];exact basic _ hb (by simp [z101,Tree.kind])
 |nt =>
  intro _
  rw [vl_not,vl_tr]
  have c1:CallsA Tryz.prog 191 [lst 3 Tree.cs' B,.int s,z52 Tree.cs' (.mk 1 0 [])] [] (.bool true) []:=by
   refine z7 z15 Tryz.func191 rfl rfl 62 Tryz.ntmps191 (by simp) ?_
   repeat' (((apply y76 ok;rfl))<;>conv=>whnf)
   all_goals (refine rsD [] [] rfl ?_;(repeat' first|exact y78 _|constructor))
  rw [argU]
  refine z7 z15 Tryz.func191 rfl rfl 62 Tryz.ntmps191 (by simp) ?_
  repeat' ((first|(apply y76 ok;rfl)|(refine ⟨_,rfl,?_⟩)|(apply y36;omega)|(apply z6 (c1);rfl;rfl))<;>conv=>whnf)
  all_goals (refine rsD [] [] rfl ?_;(repeat' first|exact y78 _|constructor))
 |na v hb =>
  intro _
  rw [vl_not,vl_at]
  have c1:=basic _ hb (by simp [z101,Tree.kind])
  rw [argU]
  refine z7 z15 Tryz.func191 rfl rfl 62 Tryz.ntmps191 (by simp) ?_
  repeat' ((first|(apply y76 ok;rfl)|(refine ⟨_,rfl,?_⟩)|(apply y36;omega)|(apply z6 (c1);rfl;rfl))<;>conv=>whnf)
  all_goals (refine rsD [] [] rfl ?_;(repeat' first|exact y78 _|constructor))
 |an _ _ iha ihb =>
  rename_i a b _ _
  intro hs
  rw [z441] at hs
  have ca:=iha (by omega)
  have cb:=ihb (by omega)
  rw [vl_and,argB]
  generalize a.vl (sgB B s)=x at *
  generalize b.vl (sgB B s)=y at *
  cases x
  all_goals
   refine z7 z15 Tryz.func191 rfl rfl 62 Tryz.ntmps191 (by simp) ?_
   repeat' ((first|(apply y76 ok;rfl)|(refine ⟨_,rfl,?_⟩)|(apply y36;omega)|(apply z6 (ca);rfl;rfl)|(apply z6 (cb);rfl;rfl))<;>conv=>whnf)
   all_goals (refine rsD [] [] rfl ?_;(repeat' first|exact y78 _|constructor))
 |or _ _ iha ihb =>
  rename_i a b _ _
  intro hs
  rw [z441] at hs
  have ca:=iha (by omega)
  have cb:=ihb (by omega)
  rw [vl_or,argB]
  generalize a.vl (sgB B s)=x at *
  generalize b.vl (sgB B s)=y at *
  cases x
  all_goals
   refine z7 z15 Tryz.func191 rfl rfl 62 Tryz.ntmps191 (by simp) ?_
   repeat' ((first|(apply y76 ok;rfl)|(refine ⟨_,rfl,?_⟩)|(apply y36;omega)|(apply z6 (ca);rfl;rfl)|(apply z6 (cb);rfl;rfl))<;>conv=>whnf)
   all_goals (refine rsD [] [] rfl ?_;(repeat' first|exact y78 _|constructor))
 |nx hb _ _=>intro _;rw [vl_nx];exact basic _ hb (by simp [z101,Tree.kind])
 |un hb _ _ _ _=>intro _;rw [vl_un];exact basic _ hb (by simp [z101,Tree.kind])
 |re hb _ _ _ _=>intro _;rw [vl_re];exact basic _ hb (by simp [z101,Tree.kind])
theorem csU (k v:Int) (a:Tree):Tree.cs' (.mk k v [a])=[.int k,.int v,.list 3 1 [Tree.cs' a]]:=AC.agg.inj (argU k v a)
theorem csB2 (k v:Int) (a b:Tree):Tree.cs' (.mk k v [a,b])=[.int k,.int v,.list 3 2 [Tree.cs' a,Tree.cs' b]]:=AC.agg.inj (argB k v a b)
inductive FormB (B:List Tree):Tree→Prop
 |at (v:Int):FormB B (.mk 2 v [])
 |nx (a:Tree) (ha:In (·∈B) a) (sa:a.sz≤1000):FormB B (.mk 6 0 [a])
 |un (a b:Tree) (ha:In (·∈B) a) (hb:In (·∈B) b) (sa:a.sz≤1000) (sb:b.sz≤1000):FormB B (.mk 7 0 [a,b])
 |re (a b:Tree) (ha:In (·∈B) a) (hb:In (·∈B) b) (sa:a.sz≤1000) (sb:b.sz≤1000):FormB B (.mk 8 0 [a,b])
theorem BasL.form {B:List Tree} (h:BasL B) {x:Tree} (hx:x∈B):FormB B x:=by
 have h1:=h.cl x hx
 have h2:=h.bk x hx
 have h3:=h.sz x hx
 cases h1 with
 |tr=>simp [z101,Tree.kind] at h2
 |«at» v _=>exact .at v
 |nt=>simp [z101,Tree.kind] at h2
 |na v _=>simp [z101,Tree.kind] at h2
 |an _ _=>simp [z101,Tree.kind] at h2
 |or _ _=>simp [z101,Tree.kind] at h2
 |nx _ ha=>rw [z492] at h3;exact .nx _ ha (by omega)
 |un _ ha hb=>rw [z441] at h3;exact .un _ _ ha hb (by omega) (by omega)
 |re _ ha hb=>rw [z441] at h3;exact .re _ _ ha hb (by omega) (by omega)
theorem z1115 {B:List Tree} {s t:Int} (h:∀ i,i < B.length→folI B s t i=true):folB B s t=true:=by
 unfold folB;rw [y70];exact fun i hi=>h i (List.mem_range.1 hi)
theorem z984 {B:List Tree} {s t:Int} {i:Nat} (hi:i < B.length) (h:folI B s t i=false):folB B s t=false:=by
 unfold folB;rw [List.all_eq_false];exact ⟨i,List.mem_range.2 hi,by rw [h];simp⟩
set_option maxHeartbeats 6400000 in
theorem z749 (B:List Tree) (hB:BasL B) (s t:Int) (s0:0≤s) (s1:s≤31) (t0:0≤t) (t1:t≤31):CallsA Tryz.prog 194 [lst 3 Tree.cs' B,.int s,.int t] [] (.bool (folB B s t)) []:=by
 have hl:=hB.len
 refine z7 z15 Tryz.func194 rfl rfl 85 Tryz.ntmps194 (by simp) ?_
 repeat' (((apply y76 ok;rfl))<;>conv=>whnf)
 refine z65 (fun i:Nat=>([(0,lst 3 Tree.cs' B),(1,.int s),(2,.int t),(7,.int i)],[])) (fun i=>i≤B.length∧∀ j,j < i→folI B s t j=true) (fun i=>B.length - i) 0 ⟨y46 _,fun j h=>absurd h (Nat.not_lt_zero _)⟩ (by refine swR [] [] rfl rfl ?_;(repeat' first|exact y78 _|constructor)) ?_
 rintro i ⟨hi,hj⟩
 by_cases hil:i < B.length
 ·have gk:(B.map Tree.cs')[i]?=some (Tree.cs' (B.getD i dftT)):=by rw [y44,y38 hil,z14 hil];rfl
  have hf:=hB.form (x:=B.getD i dftT) (by rw [z14 hil];exact y37 _)
  have cw:=z292 s i s0 s1 (by omega) (by omega)
  have cn:=z292 t i t0 t1 (by omega) (by omega)
  have hI:folI B s t i=(folV B s t (B.getD i dftT) (hasB s i) (hasB t i) == hasB s i):=rfl
  have hT:folI B s t i=true→∀ j,j < i+1→folI B s t j=true:=fun h j hji=>by
   rcases y62 j i with h3|h3
   ·exact hj j h3
   ·obtain rfl:j=i:=by omega
    exact h
  have hF:folI B s t i=false→folB B s t=false:=z984 hil
  rw [hI] at hT hF
  clear hI hj
  generalize B.getD i dftT=f at *
  generalize hasB s i=x at *
  generalize hasB t i=y at *
  cases hf with
  |«at» v =>
   have hT2:=hT (by simp [folV,Tree.kind])
   clear hT hF
   cases x
   all_goals
    repeat' ((first|(apply y76 ok;rfl)|(refine z12 (i:=i) rfl gk ?_)|(apply y36;first|omega|(unfold inI;omega))|((apply z5)<;>intro _)|(apply z6 (cw);rfl;rfl))<;>conv=>whnf)
    all_goals try (exfalso;omega)
    all_goals refine z25 (i+1) ⟨by omega,hT2⟩ (by omega) (by refine swR [] [] rfl rfl ?_;(repeat' first|exact y78 _|constructor))
  |nx a ha sa =>
   have ca:=z169 B hB t t0 t1 a ha sa
   have e:folV B s t (.mk 6 0 [a]) x y=vlB B t a:=by simp [folV,kidV,Tree.kind,Tree.kids]
   rw [e] at hT hF
   rw [csU] at gk
   clear e
   generalize vlB B t a=z at *
   cases x<;>cases z
   all_goals first|have hT:=hT rfl|(have hF:=hF rfl;rw [hF])
   all_goals
    repeat' ((first|(apply y76 ok;rfl)|(refine z12 (i:=i) rfl gk ?_)|(refine ⟨_,rfl,?_⟩)|(apply y36;first|omega|(unfold inI;omega))|((apply z5)<;>intro _)|(apply z6 (cw);rfl;rfl)|(apply z6 (ca);rfl;rfl))<;>conv=>whnf)
    all_goals try (exfalso;omega)
    all_goals first|(refine z25 (i+1) ⟨by omega,hT⟩ (by omega) (by refine swR [] [] rfl rfl ?_;(repeat' first|exact y78 _|constructor)))|(refine rsD [] [] rfl ?_;(repeat' first|exact y78 _|constructor))
  |un a b ha hb sa sb =>
   have ca:=z169 B hB s s0 s1 a ha sa
   have cb:=z169 B hB s s0 s1 b hb sb
   have e:folV B s t (.mk 7 0 [a,b]) x y=(vlB B s b || (vlB B s a && y)):=by simp [folV,kidV,Tree.kind,Tree.kids]
   rw [e] at hT hF
   rw [csB2] at gk
   clear e
   generalize vlB B s a=z at *
   generalize vlB B s b=u at *
   cases x<;>cases y<;>cases z<;>cases u
   all_goals first|have hT:=hT rfl|(have hF:=hF rfl;rw [hF])
   all_goals
    repeat' ((first|(apply y76 ok;rfl)|(refine z12 (i:=i) rfl gk ?_)|(refine ⟨_,rfl,?_⟩)|(apply y36;first|omega|(unfold inI;omega))|((apply z5)<;>intro _)|(apply z6 (cw);rfl;rfl)|(apply z6 (cn);rfl;rfl)|(apply z6 (ca);rfl;rfl)|(apply z6 (cb);rfl;rfl))<;>conv=>whnf)
    all_goals try (exfalso;omega)
    all_goals first|(refine z25 (i+1) ⟨by omega,hT⟩ (by omega) (by refine swR [] [] rfl rfl ?_;(repeat' first|exact y78 _|constructor)))|(refine rsD [] [] rfl ?_;(repeat' first|exact y78 _|constructor))
  |re a b ha hb sa sb =>
   have ca:=z169 B hB s s0 s1 a ha sa
   have cb:=z169 B hB s s0 s1 b hb sb
   have e:folV B s t (.mk 8 0 [a,b]) x y=(vlB B s b && (vlB B s a || y)):=by simp [folV,kidV,Tree.kind,Tree.kids]
   rw [e] at hT hF
   rw [csB2] at gk
   clear e
   generalize vlB B s a=z at *
   generalize vlB B s b=u at *
   cases x<;>cases y<;>cases z<;>cases u
   all_goals first|have hT:=hT rfl|(have hF:=hF rfl;rw [hF])
   all_goals
    repeat' ((first|(apply y76 ok;rfl)|(refine z12 (i:=i) rfl gk ?_)|(refine ⟨_,rfl,?_⟩)|(apply y36;first|omega|(unfold inI;omega))|((apply z5)<;>intro _)|(apply z6 (cw);rfl;rfl)|(apply z6 (cn);rfl;rfl)|(apply z6 (ca);rfl;rfl)|(apply z6 (cb);rfl;rfl))<;>conv=>whnf)
    all_goals try (exfalso;omega)
    all_goals first|(refine z25 (i+1) ⟨by omega,hT⟩ (by omega) (by refine swR [] [] rfl rfl ?_;(repeat' first|exact y78 _|constructor)))|(refine rsD [] [] rfl ?_;(repeat' first|exact y78 _|constructor))
 ·obtain rfl:i=B.length:=by omega
  rw [z1115 fun j hji=>hj j hji]
  repeat' ((first|(apply y76 ok;rfl)|(apply y36;omega)|(((with_reducible apply z8;omega));intro _)|((apply z5)<;>intro _))<;>conv=>whnf)
  all_goals first|(exfalso;omega)|(refine rsD [] [] rfl ?_;(repeat' first|exact y78 _|constructor))
end Go.Proofs.YtahhobgjcfionaaGreat
