/- A part of the proofs over this program: T92, T93, T94, T140, T141, T142, T221, T222, T223, T143, T224. -/
import Derived.Test.YtjhgpfaodkchjaaGreatP2
set_option linter.all false
namespace Go.Proofs.YtjhgpfaodkchjaaGreat
open Go.Gl Proofs.Tryz
attribute [local irreducible] z18 AWP z31 z35 z34 RetS z45
noncomputable def z352 (s:Sys):Option Graph:=if sysB s=true then grow s 61 [⟨List.replicate s.ps.length 0,s.init⟩] [] 0 else none
theorem z638 {q:Bool} : LocLe (.tup [.agg [.nils,.nils],.bool q]) (.tup [.agg (⟨[],[]⟩:Graph).cs,.bool q]):=z80 (.cons (z41 (.cons z43 (.cons z43 .nil))) (.cons (y86 _) .nil))
theorem z441 {objs:Nat→AObj} {π Bn:List Nat} {o:Nat} {l:List State} (ho:objs o=.cells 2 (l.map State.cs)) (h1:idx π o=none) (h2:inB Bn o=true):bor objs π Bn (.sref o 0 l.length)=lst 2 State.cs l :=
 z161 ho h1 h2 (by simp) (z30 (fun _=>rfl) _)
set_option maxHeartbeats 6400000 in
theorem z710 (s:Sys) (hsm:s.s1):QQ 108 [.agg s.cs] [] (.tup [.agg ((z352 s).getD ⟨[],[]⟩).cs,.bool (z352 s).isSome]) []:=by
 have c0:=z786 s hsm
 by_cases hv:sysB s=true
 ·have hs:=Sys.ok_of hv
  have hn3:=hs.n3
  have eb:z352 s=grow s 61 [⟨List.replicate s.ps.length 0,s.init⟩] [] 0:=by unfold z352;rw [if_pos hv]
  rw [if_pos hv,hv] at c0
  have hI0:GInv s [⟨List.replicate s.ps.length 0,s.init⟩] [] 0:=⟨by simp,by simp,by simp,rfl,fun t ht=>by
   rw [List.mem_singleton.1 ht]
   exact ⟨by simp,hs.init⟩,by simp⟩
  rw [eb]
  generalize (⟨List.replicate s.ps.length 0,s.init⟩:State)=st1 at *
  generalize hR:grow s 61 [st1] [] 0=R at *
  refine z7 z15 func108 rfl rfl 96 ntmps108 (by simp) ?_
  repeat' ((first|apply y4 ok;rfl|apply z4 c0;rfl;rfl)<;>conv=>whnf)
  refine y85 (y88 1 rfl) ?_
  refine z64 (fun x:Nat×List State×List (List Int)=>([(1,.ptr 0 none 0),(2,.ptr 1 none 0),(6,.ptr 2 none 0),(7,.int x.1)],[.cells 2 [s.cs],.cells 2 [[.nils,.nils]],.cells 2 [[.sref 3 0 x.2.1.length,.sref 4 0 x.2.2.length]],.cells 2 (x.2.1.map State.cs),.cells 1 (x.2.2.map encL)])) (fun x=>GInv s x.2.1 x.2.2 x.1∧grow s (61 - x.1) x.2.1 x.2.2 x.1=R) (fun x=>61 - x.1) (0,[st1],[]) ⟨hI0,hR⟩ (by refine swR [0,1,4,3,5] [] rfl rfl ?_;(repeat' first|exact y86 _|exact z49|apply y87|refine z9 rfl z25 ?_|constructor)) ?_
  rintro ⟨i,S,G⟩ ⟨hI,hg⟩
  simp only at hI hg
  have hS60:=hI.n
  have hGi:=hI.g
  have hile:=hI.le
  by_cases hil:i < S.length
  ·obtain ⟨st0,hst⟩:∃ st0,S[i]?=some st0:=⟨S[i],y45 hil⟩
   have h0:=hI.st st0 (List.mem_of_getElem? hst)
   rw [show 61 - i=(60 - i)+1 by omega,grow,hst] at hg
   dsimp only at hg
   have cS:=z1049 s hs st0 h0
   have hLl:=z736 hs (st:=st0)
   have hLo:∀ x∈z577 s st0,x.ok s:=fun x hx=>z947 x hx
   have gS:(S.map State.cs)[i]?=some (State.cs st0):=by rw [y51,hst];rfl
   generalize z577 s st0=LST at *
   generalize hRIN:inn s st0 LST S []=RIN at *
   repeat' ((first|apply y4 ok;rfl|apply z23;kernel_rfl|refine z13 (i:=i) rfl gS ?_|apply y43;omega|apply z6<;>intro _|apply z4 cS;rfl;rfl)<;>conv=>whnf)
   all_goals first|(exfalso;dsimp only at *;omega)|skip
   refine z64 (fun x:Nat×List State×List Int=>([(1,.ptr 0 none 0),(2,.ptr 1 none 0),(6,.ptr 2 none 0),(7,.int i),(8,lst 4 Stp.cs LST),(9,.sref 5 0 x.2.2.length),(10,.int x.1)],[.cells 2 [s.cs],.cells 2 [[.nils,.nils]],.cells 2 [[.sref 3 0 x.2.1.length,.sref 4 0 G.length]],.cells 2 (x.2.1.map State.cs),.cells 1 (G.map encL),.cells 1 (x.2.2.map enI)])) (fun x=>x.1≤LST.length∧x.2.1.length≤60∧(∀ t∈x.2.1,t.ok s)∧x.2.1[i]?=some st0∧x.2.2.length≤x.1∧inn s st0 (LST.drop x.1) x.2.1 x.2.2=RIN) (fun x=>LST.length - x.1) (0,S,[]) ⟨by simp,hS60,hI.st,hst,by simp,hRIN⟩ (by refine swR [0,1,2,3,4,5] [] rfl rfl ?_;(repeat' first|exact y86 _|exact z10 _|apply y87|(refine z9 rfl ?_ ?_);(focus ((repeat' (first|exact z25|exact z5 (fun _=>rfl)));done))|constructor)) ?_
   rintro ⟨k,S',N⟩ ⟨hk,hS',hSo,hSi,hN,hin⟩
   simp only at hk hS' hSo hSi hN hin
   by_cases hkl:k < LST.length
   ·rw [y80 hkl,inn] at hin
    have hx:=hLo LST[k] (y44 _)
    have g1:(LST.map Stp.cs)[k]?=some (Stp.cs LST[k]):=by rw [y51,y45 hkl];rfl
    have c83:=z1050 s hs st0 h0 LST[k] hx
    have hto:=z819 hs h0 hx
    have g0:(S'.map State.cs)[i]?=some (State.cs st0):=by rw [y51,hSi];rfl
    have hiS:i < S'.length:=(List.getElem?_eq_some_iff.1 hSi).1
    generalize z252 s st0 LST[k]=to at *
    have c84:=z1195 S' to (by omega) (fun t ht=>(hSo t ht).sm hs) (hto.sm hs)
    have hfr:=z904 to S' 0 (by omega)
    generalize z335 to S' 0=n at *
    generalize LST[k]=x at *
    have cN:=fun v=>z682 N (by unfold maxLen;omega) v
    by_cases hn:n < 0
    ·rw [if_pos hn] at hin
     by_cases h60:60≤(S'.length:Int)
     ·rw [if_pos h60] at hin
      subst hin
      dsimp only at hg
      subst hg
      repeat' ((first|apply y4 ok;rfl|apply z23;kernel_rfl|refine z13 (i:=i) rfl g0 ?_|refine z13 (i:=k) rfl g1 ?_|(apply y43;first|omega|dsimp only;omega|(try dsimp only);simp only [y49,y48,y47,y46,y58,y59];omega|exact ⟨rfl,z22 rfl z28⟩)|apply z6<;>intro _|apply z4 c83;rfl;rfl|apply z99 [] [3] [] c84;(focus (exact z44 (z441 rfl rfl rfl) (z44 rfl z69)));rfl;rfl;(focus ((repeat' exact z17)<;>fail));((refine .inr ⟨rfl,?_⟩;repeat' exact True.intro)))<;>conv=>whnf)
      all_goals first|exfalso;omega|(exfalso;dsimp only at *;omega)|skip
      all_goals refine y13 [] [] rfl rfl rfl ?_
      all_goals exact y12 z638 .nil
     ·rw [if_neg h60] at hin
      have cM:=cN S'.length
      by_cases hm:(S'.length:Int)∈N
      ·rw [if_pos hm] at hin
       rw [y82 hm] at cM
       repeat' ((first|apply y4 ok;rfl|apply z23;kernel_rfl|refine z13 (i:=i) rfl g0 ?_|refine z13 (i:=k) rfl g1 ?_|(apply y43;first|omega|unfold inI;omega|dsimp only;omega|(try dsimp only);simp only [y49,y48,y47,y46,y58,y59];omega|exact ⟨rfl,z22 rfl z28⟩)|apply z6<;>intro _|apply z4 c83;rfl;rfl|(first|apply z99 [] [3] [] c84;(focus (exact z44 (z441 rfl rfl rfl) (z44 rfl z69)));rfl|apply z99 [] [5] [] cM;(focus ((repeat' first|exact z69|apply z44)<;>first|exact z104 rfl rfl rfl|rfl));rfl);rfl;(focus ((repeat' exact z17)<;>fail));((refine .inr ⟨rfl,?_⟩;repeat' exact True.intro)))<;>conv=>whnf)
       all_goals first|exfalso;omega|exfalso;contradiction|skip
       all_goals refine z24 (k+1,S'++[to],N) ⟨by omega,by simp;omega,fun t ht=>by rcases List.mem_append.1 ht with h|h;exact hSo t h;rw [List.mem_singleton.1 h];exact hto,by rw [← hSi];exact y66 hiS,by show N.length≤k+1;omega,hin⟩ (by show LST.length - (k+1) < LST.length - k;omega) (by refine swR [0,1,2,8,4,5] [] rfl rfl ?_;(repeat' first|exact y86 _|exact z10 _|refine z50 ?_;((simp;done))|apply y87|(first|refine z39 rfl ?_ ?_|refine z9 rfl ?_ ?_);(focus ((repeat' (first|exact z5 (fun _=>rfl)|apply z26));done))|refine z86 ?_ ?_;(focus omega)|constructor))
      ·rw [if_neg hm] at hin
       rw [y83 hm] at cM
       repeat' ((first|apply y4 ok;rfl|apply z23;kernel_rfl|refine z13 (i:=i) rfl g0 ?_|refine z13 (i:=k) rfl g1 ?_|(apply y43;first|omega|unfold inI;omega|dsimp only;omega|(try dsimp only);simp only [y49,y48,y47,y46,y58,y59];omega|exact ⟨rfl,z22 rfl z28⟩)|apply z6<;>intro _|apply z4 c83;rfl;rfl|(first|apply z99 [] [3] [] c84;(focus (exact z44 (z441 rfl rfl rfl) (z44 rfl z69)));rfl|apply z99 [] [5] [] cM;(focus ((repeat' first|exact z69|apply z44)<;>first|exact z104 rfl rfl rfl|rfl));rfl);rfl;(focus ((repeat' exact z17)<;>fail));((refine .inr ⟨rfl,?_⟩;repeat' exact True.intro)))<;>conv=>whnf)
       all_goals first|exfalso;omega|exfalso;contradiction|skip
       all_goals refine z24 (k+1,S'++[to],N++[(S'.length:Int)]) ⟨by omega,by simp;omega,fun t ht=>by rcases List.mem_append.1 ht with h|h;exact hSo t h;rw [List.mem_singleton.1 h];exact hto,by rw [← hSi];exact y66 hiS,by simp;omega,hin⟩ (by show LST.length - (k+1) < LST.length - k;omega) (by refine swR [0,1,2,8,4,10] [] rfl rfl ?_;(repeat' first|exact y86 _|exact z10 _|refine z50 ?_;((simp;done))|apply y87|(first|refine z39 rfl ?_ ?_|refine z9 rfl ?_ ?_);(focus ((repeat' (first|exact z5 (fun _=>rfl)|apply z26));done))|refine z86 ?_ ?_;(focus omega)|constructor))
    ·rw [if_neg hn] at hin
     by_cases h60:60≤n
     ·rw [if_pos h60] at hin
      subst hin
      dsimp only at hg
      subst hg
      repeat' ((first|apply y4 ok;rfl|apply z23;kernel_rfl|refine z13 (i:=i) rfl g0 ?_|refine z13 (i:=k) rfl g1 ?_|apply y43;omega|apply z6<;>intro _|apply z4 c83;rfl;rfl|apply z99 [] [3] [] c84;(focus (exact z44 (z441 rfl rfl rfl) (z44 rfl z69)));rfl;rfl;(focus ((repeat' exact z17)<;>fail));((refine .inr ⟨rfl,?_⟩;repeat' exact True.intro)))<;>conv=>whnf)
      all_goals (exfalso;omega)
      all_goals refine y13 [] [] rfl rfl rfl ?_
      all_goals exact y12 z638 .nil
     ·rw [if_neg h60] at hin
      have cM:=cN n
      by_cases hm:n∈N
      ·rw [if_pos hm] at hin
       rw [y82 hm] at cM
       repeat' ((first|apply y4 ok;rfl|apply z23;kernel_rfl|refine z13 (i:=i) rfl g0 ?_|refine z13 (i:=k) rfl g1 ?_|(apply y43;first|omega|unfold inI;omega|dsimp only;omega)|apply z6<;>intro _|apply z4 c83;rfl;rfl|(first|apply z99 [] [3] [] c84;(focus (exact z44 (z441 rfl rfl rfl) (z44 rfl z69)));rfl|apply z99 [] [5] [] cM;(focus ((repeat' first|exact z69|apply z44)<;>first|exact z104 rfl rfl rfl|rfl));rfl);rfl;(focus ((repeat' exact z17)<;>fail));((refine .inr ⟨rfl,?_⟩;repeat' exact True.intro)))<;>conv=>whnf)
       all_goals try (exfalso;omega)
       all_goals refine z24 (k+1,S',N) ⟨by omega,hS',hSo,hSi,by show N.length≤k+1;omega,hin⟩ (by show LST.length - (k+1) < LST.length - k;omega) (by refine swR [0,1,2,3,4,5] [] rfl rfl ?_;(repeat' first|exact y86 _|exact z10 _|apply y87|refine z9 rfl (z5 (fun _=>rfl)) ?_|constructor))
      ·rw [if_neg hm] at hin
       rw [y83 hm] at cM
       repeat' ((first|apply y4 ok;rfl|apply z23;kernel_rfl|refine z13 (i:=i) rfl g0 ?_|refine z13 (i:=k) rfl g1 ?_|(apply y43;first|omega|unfold inI;omega|dsimp only;omega|(try dsimp only);simp only [y49,y48,y47,y46,y58,y59];omega|exact ⟨rfl,z22 rfl z28⟩)|apply z6<;>intro _|apply z4 c83;rfl;rfl|(first|apply z99 [] [3] [] c84;(focus (exact z44 (z441 rfl rfl rfl) (z44 rfl z69)));rfl|apply z99 [] [5] [] cM;(focus ((repeat' first|exact z69|apply z44)<;>first|exact z104 rfl rfl rfl|rfl));rfl);rfl;(focus ((repeat' exact z17)<;>fail));((refine .inr ⟨rfl,?_⟩;repeat' exact True.intro)))<;>conv=>whnf)
       all_goals try (exfalso;omega)
       all_goals refine z24 (k+1,S',N++[n]) ⟨by omega,hS',hSo,hSi,by simp;omega,hin⟩ (by show LST.length - (k+1) < LST.length - k;omega) (by refine swR [0,1,2,3,4,8] [] rfl rfl ?_;(repeat' first|exact y86 _|exact z10 _|refine z50 ?_;((simp;done))|apply y87|(first|refine z39 rfl ?_ ?_|refine z9 rfl ?_ ?_);(focus ((repeat' (first|exact z5 (fun _=>rfl)|apply z26));done))|refine z86 ?_ ?_;(focus omega)|constructor))
   ·rw [y84 (by omega),inn] at hin
    subst hin
    dsimp only at hg
    have hiS:i < S'.length:=(List.getElem?_eq_some_iff.1 hSi).1
    have hnext:GInv s S' (G++[z751 LST N i]) (i+1):=⟨by omega,hS',by omega,by simp [hGi],hSo,fun r hr=>by
     rcases List.mem_append.1 hr with h|h
     ·exact hI.row r h
     ·rw [List.mem_singleton.1 h]
      unfold z751
      split<;>(try simp)<;>omega⟩
    rw [show 60 - i=61 - (i+1) by omega] at hg
    by_cases hz:LST=[]
    ·have er:z751 LST N i=N++[(i:Int)]:=by unfold z751;rw [if_pos hz]
     have hz0:LST.length=0:=by rw [hz];rfl
     rw [er] at hg hnext
     repeat' ((first|apply y4 ok;rfl|(apply y43;first|omega|unfold inI;omega|dsimp only;omega|(try dsimp only);simp only [y49,y48,y47,y46,y58,y59];omega|exact ⟨rfl,z22 rfl z28⟩)|(first|with_reducible apply z8;omega|apply z8;omega);intro _|apply z6<;>intro _)<;>conv=>whnf)
     all_goals try (exfalso;omega)
     all_goals refine z24 (i+1,S',G++[N++[(i:Int)]]) ⟨hnext,hg⟩ (by show 61 - (i+1) < 61 - i;omega) (by refine swR [0,1,2,3,9] [7] rfl rfl ?_;(repeat' first|exact y86 _|exact z10 _|refine z50 ?_;((simp;done))|apply y87|(first|refine z39 rfl ?_ ?_|refine z9 rfl ?_ ?_);(focus ((repeat' (first|exact z5 (fun _=>rfl)|apply z26));done))|refine z86 ?_ ?_;(focus omega)|(apply z89 rfl rfl rfl);(focus ((repeat (first|exact z30 (fun _=>rfl) _|apply z179|apply z257|rfl));done));(focus (((simp;done));done))|refine z75 ?_ ?_;(focus (simp;done))|constructor))
    ·have er:z751 LST N i=N:=by unfold z751;rw [if_neg hz]
     have hz0:LST.length≠0:=fun h=>hz (y74 h)
     rw [er] at hg hnext
     repeat' ((first|apply y4 ok;rfl|(apply y43;first|omega|unfold inI;omega|(try dsimp only);simp only [y49,y48,y47,y46,y58,y59];omega|exact ⟨rfl,z22 rfl z28⟩)|(first|with_reducible apply z8;omega|apply z8;omega);intro _|apply z6<;>intro _)<;>conv=>whnf)
     all_goals try (exfalso;omega)
     all_goals refine z24 (i+1,S',G++[N]) ⟨hnext,hg⟩ (by show 61 - (i+1) < 61 - i;omega) (by refine swR [0,1,2,3,7] [5] rfl rfl ?_;(repeat' first|exact y86 _|exact z10 _|refine z50 ?_;((simp;done))|apply y87|(first|refine z39 rfl ?_ ?_|refine z9 rfl ?_ ?_);(focus ((repeat' (first|exact z5 (fun _=>rfl)|apply z26));done))|refine z86 ?_ ?_;(focus omega)|(apply z89 rfl rfl rfl);(focus ((repeat ((exact z30 (fun _=>rfl) _)));done));(focus (((simp;done));done))|constructor))
  ·have hn:S[i]?=none:=List.getElem?_eq_none_iff.2 (by omega)
   rw [show 61 - i=(60 - i)+1 by omega,grow,hn] at hg
   dsimp only at hg
   subst hg
   repeat' ((first|apply y4 ok;rfl|apply y43;omega|((apply z8;omega));intro _|apply z6<;>intro _)<;>conv=>whnf)
   all_goals first|exfalso;contradiction|skip
   all_goals (refine rsD [] [3,4] rfl ?_;(repeat' first|exact y86 _|(apply z40 rfl rfl rfl);(focus ((repeat ((exact z30 (fun _=>rfl) _)));done));(focus (((simp;done));done))|apply z41|apply z80|constructor))
 ·have eb:z352 s=none:=by unfold z352;rw [if_neg hv]
  rw [if_neg hv,(y72 _).mp hv] at c0
  rw [eb]
  refine z7 z15 func108 rfl rfl 96 ntmps108 (by simp) ?_
  repeat' ((first|apply y4 ok;rfl|apply z4 c0;rfl;rfl)<;>conv=>whnf)
  all_goals refine y13 [] [] rfl rfl rfl ?_
  all_goals exact y12 z638 .nil
def isSt (bs:List Int) (i:Int) (q:Int) (t:State) (q' : Int):Prop:=∃ a b:Int,t=⟨[i % 3],[a,b,0]⟩∧q'=q+1+1 ∧
 QQ 101 [.ptr 0 none 0,.int 3] [rdO bs q] (.int a) [rdO bs (q+1)]∧QQ 101 [.ptr 0 none 0,.int 2] [rdO bs (q+1)] (.int b) [rdO bs (q+1+1)]
def isRow (bs:List Int) (n:Nat) (q:Int) (r:List Int) (q' : Int):Prop:=∃ a b c:Int,r=(if c=0∧b≠a then [a,b] else [a])∧q'=q+1+1+1 ∧
 QQ 101 [.ptr 0 none 0,.int n] [rdO bs q] (.int a) [rdO bs (q+1)]∧QQ 101 [.ptr 0 none 0,.int n] [rdO bs (q+1)] (.int b) [rdO bs (q+1+1)] ∧
 QQ 101 [.ptr 0 none 0,.int 2] [rdO bs (q+1+1)] (.int c) [rdO bs (q+1+1+1)]
structure Small (bs:List Int) (q q' : Int) (g:Graph) (m:Nat) (pf pg:Nat→Int):Prop where
 num:QQ 104 [.ptr 0 none 0,.sref 1 0 6] [rdO bs q,.cells 1 ([3,4,2,5,1,6].map enI)] (.int m) [rdO bs (pf 0),.cells 1 ([3,4,2,5,1,6].map enI)]
 m1:1≤m
 m6:m≤6
 sl:g.st.length=m
 nl:g.nx.length=m
 st:∀ k (h:k < g.st.length),isSt bs (m - k) (pf k) g.st[k] (pf (k+1))
 mid:pf m=pg 0
 row:∀ k (h:k < g.nx.length),isRow bs m (pg k) g.nx[k] (pg (k+1))
 last:pg m=q'
 q0:q≤q'
 q1:q'≤q+40
theorem z950 (bs:List Int) (hb:BytesOk bs) (q:Int) (hq:0≤q∧q≤999990000):∃ g q' m pf pg,Small bs q q' g m pf pg:=by
 obtain ⟨w,mw,cw⟩:=z112 bs hb q (by omega) (by omega) [3,4,2,5,1,6] (by decide) (by decide)
 simp only [List.mem_cons,List.not_mem_nil,or_false] at mw
 obtain ⟨m,rfl⟩:∃ m:Nat,w=m:=⟨w.toNat,by omega⟩
 obtain ⟨S,pf,h1,h2,h3,h4⟩:=z510 (fun k r t r'=>isSt bs (m - k) r t r') (q+1) 2 m (fun k r hk a1 a2=>by
  obtain ⟨a,_,ca⟩:=z73 bs hb r 3 (by omega) (by omega) (by omega)
  obtain ⟨b,_,cb⟩:=z73 bs hb (r+1) 2 (by omega) (by omega) (by omega)
  exact ⟨_,_,⟨a,b,rfl,rfl,ca,cb⟩,by omega,by omega⟩)
 have h5:=h4 m (y52 _)
 obtain ⟨G,pg,g1,g2,g3,g4⟩:=z510 (fun _ r t r'=>isRow bs m r t r') (pf m) 3 m (fun k r hk a1 a2=>by
  obtain ⟨a,_,ca⟩:=z73 bs hb r m (by omega) (by omega) (by omega)
  obtain ⟨b,_,cb⟩:=z73 bs hb (r+1) m (by omega) (by omega) (by omega)
  obtain ⟨c,_,cc⟩:=z73 bs hb (r+1+1) 2 (by omega) (by omega) (by omega)
  exact ⟨_,_,⟨a,b,c,rfl,rfl,ca,cb,cc⟩,by omega,by omega⟩)
 have g5:=g4 m (y52 _)
 exact ⟨⟨S,G⟩,pg m,m,pf,pg,by rw [← h2] at cw;exact cw,by omega,by omega,h1,g1,h3,g2.symm,g3,rfl,by omega,by omega⟩
theorem Small.sm {bs:List Int} {q q' : Int} {g:Graph} {m:Nat} {pf pg:Nat→Int} (h:Small bs q q' g m pf pg):g.sm:=by
 have h1:=h.sl
 have h2:=h.nl
 have h3:=h.m6
 refine ⟨by omega,by omega,fun s hs=>?_,fun r hr=>?_⟩
 ·obtain ⟨i,hi,rfl⟩:=List.mem_iff_getElem.1 hs
  obtain ⟨a,b,e,_⟩:=h.st i hi
  rw [e];exact ⟨by simp,by simp⟩
 ·obtain ⟨i,hi,rfl⟩:=List.mem_iff_getElem.1 hr
  obtain ⟨a,b,c,e,_⟩:=h.row i hi
  rw [e];split<;>simp
set_option maxHeartbeats 6400000 in
theorem z1046 (bs:List Int) (hb:BytesOk bs) (p:Int) (hp:few3 p):∃ (g:Graph) (p' : Int),(g.sm∧1≤g.st.length∧g.nx.length=g.st.length∧p≤p'∧p'≤p+5000)∧QQ 45 [.ptr 0 none 0] [rdO bs p] (.agg g.cs) [rdO bs p']:=by
 obtain ⟨v,⟨v0,v1⟩,cv⟩:=z73 bs hb p 3 (by omega) (by omega) (by omega)
 by_cases hv:0 < v
 ·obtain ⟨s,q0,⟨hs,s0,s1⟩,cs⟩:=z890 bs hb (p+1) ⟨by omega,by omega⟩
  have cB:=z710 s hs.s1
  by_cases hr:∃ g,z352 s=some g∧g.st.length≤24
  ·obtain ⟨g,hg,hl⟩:=hr
   have hI:GInv s g.st g.nx g.st.length:=by
    have h:=hg
    unfold z352 at h
    split at h
    ·rename_i hv2
     have hso:=Sys.ok_of hv2
     exact grow_inv hso 61 _ _ 0 g ⟨by simp,by simp,by simp,rfl,fun t ht=>by
      rw [List.mem_singleton.1 ht]
      exact ⟨by simp,hso.init⟩,by simp⟩ h
    ·cases h
   have hso:s.ok:=by
    have h:=hg
    unfold z352 at h
    split at h
    ·exact Sys.ok_of (by assumption)
    ·cases h
   refine ⟨g,q0,⟨⟨by omega,by have:=hI.g;omega,fun t ht=>(hI.st t ht).sm hso,fun r hr=>by have:=hI.row r hr;omega⟩,hI.one,hI.g,by omega,by omega⟩,?_⟩
   rw [hg] at cB
   simp only [Option.getD_some,Option.isSome_some] at cB
   refine z7 z15 func45 rfl rfl 88 ntmps45 (by simp) ?_
   repeat' ((first|apply y4 ok;rfl|apply z6<;>intro _|apply z4 cB;rfl;rfl|(first|apply z37 [0] [] cv;rfl;rfl|apply z37 [0] [] cs;rfl;rfl);rfl)<;>conv=>whnf)
   all_goals try (exfalso;omega)
   all_goals (refine rsD [0] [] rfl ?_;(repeat' first|exact y86 _|apply y87|constructor))
  ·obtain ⟨g,q',m,pf,pg,F⟩:=z950 bs hb q0 (by omega)
   have m1:=F.m1
   have m6:=F.m6
   have sl:=F.sl
   have nl:=F.nl
   have z0:=F.q0
   have z1:=F.q1
   cases hB:z352 s with
   |none =>
    rw [hB] at cB
    simp only [Option.getD_none,Option.isSome_none] at cB
    refine ⟨g,q',⟨F.sm,by omega,by omega,by omega,by omega⟩,?_⟩
    have Fn:=F.num
    refine z7 z15 func45 rfl rfl 88 ntmps45 (by simp) ?_
    repeat' ((first|apply y4 ok;rfl|apply z6<;>intro _|apply z4 cB;rfl;rfl|(first|apply z11 [0] [] cv;rfl;rfl|apply z11 [0] [] cs;rfl;rfl|apply z11 [0,4] [] Fn;rfl;rfl);rfl;(focus ((repeat' first|exact z17|apply z16)<;>first|exact z47 rfl rfl|refine z20 ?_;((exact z5 fun _=>rfl)))))<;>conv=>whnf)
    all_goals try (exfalso;omega)
    all_goals
     refine y85 (y88 2 rfl) ?_
     refine z64 (fun k:Nat=>([(0,.ptr 0 none 0),(2,.ptr 1 none 0),(5,.ptr 2 none 0),(6,.int (m - k))],[rdO bs (pf k),.cells 2 [[.nils,.nils]],.cells 2 [[.sref 3 0 k,.nils]],.cells 2 ((g.st.take k).map State.cs)])) (fun k=>k≤m) (fun k=>m - k) 0 (by omega) (by refine swR [0,1,3,5] [] rfl rfl ?_;(repeat' first|exact y86 _|exact z49|apply y87|refine z9 rfl z25 ?_|constructor)) ?_
     intro k hk
     by_cases hkm:k < m
     ·have hkl:k < g.st.length:=by omega
      obtain ⟨a,b,es,eq,ca,cb⟩:=F.st k hkl
      rw [← eq] at cb
      repeat' ((first|apply y4 ok;rfl|apply z23;kernel_rfl|(apply y43;first|omega|unfold inI;omega|(try dsimp only);simp only [y49,y48,y47,y46,y58,y59];omega|exact ⟨rfl,z22 rfl z28⟩)|apply z6<;>intro _|(first|apply z37 [0] [] ca;rfl;rfl|apply z37 [0] [] cb;rfl;rfl);rfl)<;>conv=>whnf)
      all_goals try (exfalso;omega)
      all_goals refine z24 (k+1) (by omega) (by omega) (by refine swR [0,1,2,7] [4,5] rfl rfl ?_;(repeat' first|exact y86 _|refine z115 ?_;omega|apply y87|(refine z39 rfl ?_ ?_);(focus ((repeat' (first|exact z5 (fun _=>rfl)|apply z26));done))|refine z134 (by omega) (by omega) ?_|refine z89 rfl rfl rfl rfl rfl ?_|constructor)<;>(rw [es];exact y86 _))
     ·have e:k=m:=by omega
      subst e
      rw [y57 (show g.st.length≤k by omega)]
      repeat' ((first|apply y4 ok;rfl|apply y43;omega|apply z6<;>intro _)<;>conv=>whnf)
      all_goals try (exfalso;omega)
      refine y85 (y88 1 rfl) ?_
      have Fm:=F.mid
      rw [Fm]
      refine z64 (fun i:Nat=>([(0,.ptr 0 none 0),(2,.ptr 1 none 0),(5,.ptr 2 none 0),(7,.int i)],[rdO bs (pg i),.cells 2 [[.nils,.nils]],.cells 2 [[.sref 3 0 k,.sref 4 0 i]],.cells 2 (g.st.map State.cs),.cells 1 ((g.nx.take i).map encL)])) (fun i=>i≤k) (fun i=>k - i) 0 (by omega) (by refine swR [0,1,2,3,4] [] rfl rfl ?_;(repeat' first|exact y86 _|exact z49|exact z10 _|apply y87|(refine z9 rfl ?_ ?_);(focus ((repeat' (first|exact z25|exact z5 (fun _=>rfl)));done))|constructor)) ?_
      intro i hi
      by_cases hik:i < k
      ·have hil:i < g.nx.length:=by omega
       obtain ⟨a,b,c,er,eq,ca,cb,cc⟩:=F.row i hil
       rw [← eq] at cc
       by_cases hc:c=0
       ·by_cases hba:b=a
        ·rw [if_neg (fun h=>h.2 hba)] at er
         repeat' ((first|apply y4 ok;rfl|(apply y43;first|omega|unfold inI;omega|(try dsimp only);simp only [y49,y48,y47,y46,y58,y59];omega|exact ⟨rfl,z22 rfl z28⟩)|apply z107|(first|apply z6|apply z42)<;>intro _|(first|apply z37 [0] [] ca;rfl;rfl|apply z37 [0] [] cb;rfl;rfl|apply z37 [0] [] cc;rfl;rfl);rfl)<;>conv=>whnf)
         all_goals try (exfalso;omega)
         all_goals refine z24 (i+1) (by omega) (by omega) (by refine swR [0,1,2,3,7] [5] rfl rfl ?_;(repeat' first|exact y86 _|exact z10 _|apply y87|(first|refine z39 rfl ?_ ?_|refine z9 rfl ?_ ?_);(focus ((repeat' (first|exact z5 (fun _=>rfl)|apply z26));done))|refine z134 (by omega) (by omega) ?_|refine z89 rfl rfl rfl rfl rfl ?_|constructor)<;>((rw [er];exact y86 _)))
        ·rw [if_pos ⟨hc,hba⟩] at er
         repeat' ((first|apply y4 ok;rfl|(apply y43;first|omega|unfold inI;omega|(try dsimp only);simp only [y49,y48,y47,y46,y58,y59];omega|exact ⟨rfl,z22 rfl z28⟩)|apply z107|(first|apply z6|apply z42)<;>intro _|(first|apply z37 [0] [] ca;rfl;rfl|apply z37 [0] [] cb;rfl;rfl|apply z37 [0] [] cc;rfl;rfl);rfl)<;>conv=>whnf)
         all_goals try (exfalso;omega)
         all_goals refine z24 (i+1) (by omega) (by omega) (by refine swR [0,1,2,3,9] [7] rfl rfl ?_;(repeat' first|exact y86 _|exact z10 _|apply y87|(first|refine z39 rfl ?_ ?_|refine z9 rfl ?_ ?_);(focus ((repeat' (first|exact z5 (fun _=>rfl)|apply z26));done))|refine z134 (by omega) (by omega) ?_|(apply z89 rfl rfl rfl);(focus ((repeat (first|apply z179|apply z257|rfl));done));(focus ((rfl);done))|constructor)<;>((rw [er];exact y86 _)))
       ·rw [if_neg (fun h=>hc h.1)] at er
        repeat' ((first|apply y4 ok;rfl|(apply y43;first|omega|unfold inI;omega|(try dsimp only);simp only [y49,y48,y47,y46,y58,y59];omega|exact ⟨rfl,z22 rfl z28⟩)|apply z107|(first|apply z6|apply z42)<;>intro _|(first|apply z37 [0] [] ca;rfl;rfl|apply z37 [0] [] cb;rfl;rfl|apply z37 [0] [] cc;rfl;rfl);rfl)<;>conv=>whnf)
        all_goals try (exfalso;omega)
        all_goals refine z24 (i+1) (by omega) (by omega) (by refine swR [0,1,2,3,7] [5] rfl rfl ?_;(repeat' first|exact y86 _|exact z10 _|apply y87|(first|refine z39 rfl ?_ ?_|refine z9 rfl ?_ ?_);(focus ((repeat' (first|exact z5 (fun _=>rfl)|apply z26));done))|refine z134 (by omega) (by omega) ?_|refine z89 rfl rfl rfl rfl rfl ?_|constructor)<;>((rw [er];exact y86 _)))
      ·have e:i=k:=by omega
       subst e
       rw [y57 (show g.nx.length≤i by omega)]
       repeat' ((first|apply y4 ok;rfl|apply z6<;>intro _)<;>conv=>whnf)
       all_goals try (exfalso;omega)
       all_goals rw [F.last]
       all_goals (refine rsD [0] [3,4] rfl ?_;(repeat' first|exact y86 _|refine z245 ?_;omega|apply y87|(apply z40 rfl rfl rfl);(focus ((repeat ((exact z30 (fun _=>rfl) _)));done));(focus (((simp;omega));done))|apply z41|constructor))
   |some g0 =>
    have hl:¬(g0.st.length≤24):=fun h=>hr ⟨g0,hB,h⟩
    rw [hB] at cB
    simp only [Option.getD_some,Option.isSome_some] at cB
    refine ⟨g,q',⟨F.sm,by omega,by omega,by omega,by omega⟩,?_⟩
    have Fn:=F.num
    refine z7 z15 func45 rfl rfl 88 ntmps45 (by simp) ?_
    repeat' ((first|apply y4 ok;rfl|apply z6<;>intro _|apply z4 cB;rfl;rfl|(first|apply z11 [0] [] cv;rfl;rfl|apply z11 [0] [] cs;rfl;rfl|apply z11 [0,4] [] Fn;rfl;rfl);rfl;(focus ((repeat' first|exact z17|apply z16)<;>first|exact z47 rfl rfl|refine z20 ?_;((exact z5 fun _=>rfl)))))<;>conv=>whnf)
    all_goals try (exfalso;omega)
    all_goals
     refine y85 (y88 2 rfl) ?_
     refine z64 (fun k:Nat=>([(0,.ptr 0 none 0),(2,.ptr 1 none 0),(5,.ptr 2 none 0),(6,.int (m - k))],[rdO bs (pf k),.cells 2 [[.nils,.nils]],.cells 2 [[.sref 3 0 k,.nils]],.cells 2 ((g.st.take k).map State.cs)])) (fun k=>k≤m) (fun k=>m - k) 0 (by omega) (by refine swR [0,1,3,5] [] rfl rfl ?_;(repeat' first|exact y86 _|exact z49|apply y87|refine z9 rfl z25 ?_|constructor)) ?_
     intro k hk
     by_cases hkm:k < m
     ·have hkl:k < g.st.length:=by omega
      obtain ⟨a,b,es,eq,ca,cb⟩:=F.st k hkl
      rw [← eq] at cb
      repeat' ((first|apply y4 ok;rfl|apply z23;kernel_rfl|(apply y43;first|omega|unfold inI;omega|(try dsimp only);simp only [y49,y48,y47,y46,y58,y59];omega|exact ⟨rfl,z22 rfl z28⟩)|apply z6<;>intro _|(first|apply z37 [0] [] ca;rfl;rfl|apply z37 [0] [] cb;rfl;rfl);rfl)<;>conv=>whnf)
      all_goals try (exfalso;omega)
      all_goals refine z24 (k+1) (by omega) (by omega) (by refine swR [0,1,2,7] [4,5] rfl rfl ?_;(repeat' first|exact y86 _|refine z115 ?_;omega|apply y87|(refine z39 rfl ?_ ?_);(focus ((repeat' (first|exact z5 (fun _=>rfl)|apply z26));done))|refine z134 (by omega) (by omega) ?_|refine z89 rfl rfl rfl rfl rfl ?_|constructor)<;>(rw [es];exact y86 _))
     ·have e:k=m:=by omega
      subst e
      rw [y57 (show g.st.length≤k by omega)]
      repeat' ((first|apply y4 ok;rfl|apply y43;omega|apply z6<;>intro _)<;>conv=>whnf)
      all_goals try (exfalso;omega)
      refine y85 (y88 1 rfl) ?_
      have Fm:=F.mid
      rw [Fm]
      refine z64 (fun i:Nat=>([(0,.ptr 0 none 0),(2,.ptr 1 none 0),(5,.ptr 2 none 0),(7,.int i)],[rdO bs (pg i),.cells 2 [[.nils,.nils]],.cells 2 [[.sref 3 0 k,.sref 4 0 i]],.cells 2 (g.st.map State.cs),.cells 1 ((g.nx.take i).map encL)])) (fun i=>i≤k) (fun i=>k - i) 0 (by omega) (by refine swR [0,1,2,3,4] [] rfl rfl ?_;(repeat' first|exact y86 _|exact z49|exact z10 _|apply y87|(refine z9 rfl ?_ ?_);(focus ((repeat' (first|exact z25|exact z5 (fun _=>rfl)));done))|constructor)) ?_
      intro i hi
      by_cases hik:i < k
      ·have hil:i < g.nx.length:=by omega
       obtain ⟨a,b,c,er,eq,ca,cb,cc⟩:=F.row i hil
       rw [← eq] at cc
       by_cases hc:c=0
       ·by_cases hba:b=a
        ·rw [if_neg (fun h=>h.2 hba)] at er
         repeat' ((first|apply y4 ok;rfl|(apply y43;first|omega|unfold inI;omega|(try dsimp only);simp only [y49,y48,y47,y46,y58,y59];omega|exact ⟨rfl,z22 rfl z28⟩)|apply z107|(first|apply z6|apply z42)<;>intro _|(first|apply z37 [0] [] ca;rfl;rfl|apply z37 [0] [] cb;rfl;rfl|apply z37 [0] [] cc;rfl;rfl);rfl)<;>conv=>whnf)
         all_goals try (exfalso;omega)
         all_goals refine z24 (i+1) (by omega) (by omega) (by refine swR [0,1,2,3,7] [5] rfl rfl ?_;(repeat' first|exact y86 _|exact z10 _|apply y87|(first|refine z39 rfl ?_ ?_|refine z9 rfl ?_ ?_);(focus ((repeat' (first|exact z5 (fun _=>rfl)|apply z26));done))|refine z134 (by omega) (by omega) ?_|refine z89 rfl rfl rfl rfl rfl ?_|constructor)<;>((rw [er];exact y86 _)))
        ·rw [if_pos ⟨hc,hba⟩] at er
         repeat' ((first|apply y4 ok;rfl|(apply y43;first|omega|unfold inI;omega|(try dsimp only);simp only [y49,y48,y47,y46,y58,y59];omega|exact ⟨rfl,z22 rfl z28⟩)|apply z107|(first|apply z6|apply z42)<;>intro _|(first|apply z37 [0] [] ca;rfl;rfl|apply z37 [0] [] cb;rfl;rfl|apply z37 [0] [] cc;rfl;rfl);rfl)<;>conv=>whnf)
         all_goals try (exfalso;omega)
         all_goals refine z24 (i+1) (by omega) (by omega) (by refine swR [0,1,2,3,9] [7] rfl rfl ?_;(repeat' first|exact y86 _|exact z10 _|apply y87|(first|refine z39 rfl ?_ ?_|refine z9 rfl ?_ ?_);(focus ((repeat' (first|exact z5 (fun _=>rfl)|apply z26));done))|refine z134 (by omega) (by omega) ?_|(apply z89 rfl rfl rfl);(focus ((repeat (first|apply z179|apply z257|rfl));done));(focus ((rfl);done))|constructor)<;>((rw [er];exact y86 _)))
       ·rw [if_neg (fun h=>hc h.1)] at er
        repeat' ((first|apply y4 ok;rfl|(apply y43;first|omega|unfold inI;omega|(try dsimp only);simp only [y49,y48,y47,y46,y58,y59];omega|exact ⟨rfl,z22 rfl z28⟩)|apply z107|(first|apply z6|apply z42)<;>intro _|(first|apply z37 [0] [] ca;rfl;rfl|apply z37 [0] [] cb;rfl;rfl|apply z37 [0] [] cc;rfl;rfl);rfl)<;>conv=>whnf)
        all_goals try (exfalso;omega)
        all_goals refine z24 (i+1) (by omega) (by omega) (by refine swR [0,1,2,3,7] [5] rfl rfl ?_;(repeat' first|exact y86 _|exact z10 _|apply y87|(first|refine z39 rfl ?_ ?_|refine z9 rfl ?_ ?_);(focus ((repeat' (first|exact z5 (fun _=>rfl)|apply z26));done))|refine z134 (by omega) (by omega) ?_|refine z89 rfl rfl rfl rfl rfl ?_|constructor)<;>((rw [er];exact y86 _)))
      ·have e:i=k:=by omega
       subst e
       rw [y57 (show g.nx.length≤i by omega)]
       repeat' ((first|apply y4 ok;rfl|apply z6<;>intro _)<;>conv=>whnf)
       all_goals try (exfalso;omega)
       all_goals rw [F.last]
       all_goals (refine rsD [0] [3,4] rfl ?_;(repeat' first|exact y86 _|refine z245 ?_;omega|apply y87|(apply z40 rfl rfl rfl);(focus ((repeat ((exact z30 (fun _=>rfl) _)));done));(focus (((simp;omega));done))|apply z41|constructor))
 ·obtain ⟨g,q',m,pf,pg,F⟩:=z950 bs hb (p+1) (by omega)
  have m1:=F.m1
  have m6:=F.m6
  have sl:=F.sl
  have nl:=F.nl
  have z0:=F.q0
  have z1:=F.q1
  refine ⟨g,q',⟨F.sm,by omega,by omega,by omega,by omega⟩,?_⟩
  have Fn:=F.num
  refine z7 z15 func45 rfl rfl 88 ntmps45 (by simp) ?_
  repeat' ((first|apply y4 ok;rfl|apply z6<;>intro _|(first|apply z11 [0] [] cv;rfl;rfl|apply z11 [0,3] [] Fn;rfl;rfl);rfl;(focus ((repeat' first|exact z17|apply z16)<;>first|exact z47 rfl rfl|refine z20 ?_;((exact z5 fun _=>rfl)))))<;>conv=>whnf)
  all_goals try (exfalso;omega)
  all_goals
   refine y85 (y88 2 rfl) ?_
   refine z64 (fun k:Nat=>([(0,.ptr 0 none 0),(2,.ptr 1 none 0),(5,.ptr 2 none 0),(6,.int (m - k))],[rdO bs (pf k),.cells 2 [[.nils,.nils]],.cells 2 [[.sref 3 0 k,.nils]],.cells 2 ((g.st.take k).map State.cs)])) (fun k=>k≤m) (fun k=>m - k) 0 (by omega) (by refine swR [0,1,2,4] [] rfl rfl ?_;(repeat' first|exact y86 _|exact z49|apply y87|refine z9 rfl z25 ?_|constructor)) ?_
   intro k hk
   by_cases hkm:k < m
   ·have hkl:k < g.st.length:=by omega
    obtain ⟨a,b,es,eq,ca,cb⟩:=F.st k hkl
    rw [← eq] at cb
    repeat' ((first|apply y4 ok;rfl|apply z23;kernel_rfl|(apply y43;first|omega|unfold inI;omega|(try dsimp only);simp only [y49,y48,y47,y46,y58,y59];omega|exact ⟨rfl,z22 rfl z28⟩)|apply z6<;>intro _|(first|apply z37 [0] [] ca;rfl;rfl|apply z37 [0] [] cb;rfl;rfl);rfl)<;>conv=>whnf)
    all_goals try (exfalso;omega)
    all_goals refine z24 (k+1) (by omega) (by omega) (by refine swR [0,1,2,7] [4,5] rfl rfl ?_;(repeat' first|exact y86 _|refine z115 ?_;omega|apply y87|(refine z39 rfl ?_ ?_);(focus ((repeat' (first|exact z5 (fun _=>rfl)|apply z26));done))|refine z134 (by omega) (by omega) ?_|refine z89 rfl rfl rfl rfl rfl ?_|constructor)<;>(rw [es];exact y86 _))
   ·have e:k=m:=by omega
    subst e
    rw [y57 (show g.st.length≤k by omega)]
    repeat' ((first|apply y4 ok;rfl|apply y43;omega|apply z6<;>intro _)<;>conv=>whnf)
    all_goals try (exfalso;omega)
    refine y85 (y88 1 rfl) ?_
    have Fm:=F.mid
    rw [Fm]
    refine z64 (fun i:Nat=>([(0,.ptr 0 none 0),(2,.ptr 1 none 0),(5,.ptr 2 none 0),(7,.int i)],[rdO bs (pg i),.cells 2 [[.nils,.nils]],.cells 2 [[.sref 3 0 k,.sref 4 0 i]],.cells 2 (g.st.map State.cs),.cells 1 ((g.nx.take i).map encL)])) (fun i=>i≤k) (fun i=>k - i) 0 (by omega) (by refine swR [0,1,2,3,4] [] rfl rfl ?_;(repeat' first|exact y86 _|exact z49|exact z10 _|apply y87|(refine z9 rfl ?_ ?_);(focus ((repeat' (first|exact z25|exact z5 (fun _=>rfl)));done))|constructor)) ?_
    intro i hi
    by_cases hik:i < k
    ·have hil:i < g.nx.length:=by omega
     obtain ⟨a,b,c,er,eq,ca,cb,cc⟩:=F.row i hil
     rw [← eq] at cc
     by_cases hc:c=0
     ·by_cases hba:b=a
      ·rw [if_neg (fun h=>h.2 hba)] at er
       repeat' ((first|apply y4 ok;rfl|(apply y43;first|omega|unfold inI;omega|(try dsimp only);simp only [y49,y48,y47,y46,y58,y59];omega|exact ⟨rfl,z22 rfl z28⟩)|apply z107|(first|apply z6|apply z42)<;>intro _|(first|apply z37 [0] [] ca;rfl;rfl|apply z37 [0] [] cb;rfl;rfl|apply z37 [0] [] cc;rfl;rfl);rfl)<;>conv=>whnf)
       all_goals try (exfalso;omega)
       all_goals refine z24 (i+1) (by omega) (by omega) (by refine swR [0,1,2,3,7] [5] rfl rfl ?_;(repeat' first|exact y86 _|exact z10 _|apply y87|(first|refine z39 rfl ?_ ?_|refine z9 rfl ?_ ?_);(focus ((repeat' (first|exact z5 (fun _=>rfl)|apply z26));done))|refine z134 (by omega) (by omega) ?_|refine z89 rfl rfl rfl rfl rfl ?_|constructor)<;>((rw [er];exact y86 _)))
      ·rw [if_pos ⟨hc,hba⟩] at er
       repeat' ((first|apply y4 ok;rfl|(apply y43;first|omega|unfold inI;omega|(try dsimp only);simp only [y49,y48,y47,y46,y58,y59];omega|exact ⟨rfl,z22 rfl z28⟩)|apply z107|(first|apply z6|apply z42)<;>intro _|(first|apply z37 [0] [] ca;rfl;rfl|apply z37 [0] [] cb;rfl;rfl|apply z37 [0] [] cc;rfl;rfl);rfl)<;>conv=>whnf)
       all_goals try (exfalso;omega)
       all_goals refine z24 (i+1) (by omega) (by omega) (by refine swR [0,1,2,3,9] [7] rfl rfl ?_;(repeat' first|exact y86 _|exact z10 _|apply y87|(first|refine z39 rfl ?_ ?_|refine z9 rfl ?_ ?_);(focus ((repeat' (first|exact z5 (fun _=>rfl)|apply z26));done))|refine z134 (by omega) (by omega) ?_|(apply z89 rfl rfl rfl);(focus ((repeat (first|apply z179|apply z257|rfl));done));(focus ((rfl);done))|constructor)<;>((rw [er];exact y86 _)))
     ·rw [if_neg (fun h=>hc h.1)] at er
      repeat' ((first|apply y4 ok;rfl|(apply y43;first|omega|unfold inI;omega|(try dsimp only);simp only [y49,y48,y47,y46,y58,y59];omega|exact ⟨rfl,z22 rfl z28⟩)|apply z107|(first|apply z6|apply z42)<;>intro _|(first|apply z37 [0] [] ca;rfl;rfl|apply z37 [0] [] cb;rfl;rfl|apply z37 [0] [] cc;rfl;rfl);rfl)<;>conv=>whnf)
      all_goals try (exfalso;omega)
      all_goals refine z24 (i+1) (by omega) (by omega) (by refine swR [0,1,2,3,7] [5] rfl rfl ?_;(repeat' first|exact y86 _|exact z10 _|apply y87|(first|refine z39 rfl ?_ ?_|refine z9 rfl ?_ ?_);(focus ((repeat' (first|exact z5 (fun _=>rfl)|apply z26));done))|refine z134 (by omega) (by omega) ?_|refine z89 rfl rfl rfl rfl rfl ?_|constructor)<;>((rw [er];exact y86 _)))
    ·have e:i=k:=by omega
     subst e
     rw [y57 (show g.nx.length≤i by omega)]
     repeat' ((first|apply y4 ok;rfl|apply z6<;>intro _)<;>conv=>whnf)
     all_goals try (exfalso;omega)
     all_goals rw [F.last]
     all_goals (refine rsD [0] [3,4] rfl ?_;(repeat' first|exact y86 _|refine z245 ?_;omega|apply y87|(apply z40 rfl rfl rfl);(focus ((repeat ((exact z30 (fun _=>rfl) _)));done));(focus (((simp;omega));done))|apply z41|constructor))
structure Graph.d (g:Graph):Prop where
 st:g.st.length≤100
 nx:g.nx.length≤101
 el:∀ s∈g.st,s.sm
 row:∀ r∈g.nx,r.length≤1001
theorem Graph.d.mx {g:Graph} (h:g.d):g.mx:=by
 have h1:=h.st
 have h2:=h.nx
 have h3:=h.el
 exact ⟨⟨by unfold maxLen;omega,fun s hs=>⟨by have:=(h3 s hs).a;unfold maxLen;omega,by have:=(h3 s hs).b;unfold maxLen;omega⟩⟩,by unfold maxLen;omega,fun l hl=>by have:=h.row l hl;unfold maxLen;omega⟩
structure Lab.d (l:List Tree):Prop where
 len:l.length≤3
 el:∀ t∈l,t.sz≤5
theorem Lab.d.mx {l:List Tree} (h:Lab.d l):Lmx l:=Lmx_of (by have:=h.len;omega) fun t ht=>by have:=h.el t ht;omega
structure CodeOk (bs:List Int):Prop where
 len:bs.length≤maxLen
 el:∀ x∈bs,0≤x∧x≤255
theorem CodeOk.take {bs:List Int} (h:CodeOk bs):BytesOk (bs.take 2000):=⟨by simp;omega,fun x hx=>h.el x (List.mem_of_mem_take hx)⟩
theorem mutG_ok (bs:List Int) (hb:BytesOk bs) (p:Int) (hp:few3 p):∃ (g0 g:Graph) (p1 p2:Int),QQ 45 [.ptr 0 none 0] [rdO bs p] (.agg g0.cs) [rdO bs p1]∧QQ 44 [.ptr 0 none 0,.agg g0.cs] [rdO bs p1] (.agg g.cs) [rdO bs p2]∧g.d∧p≤p2∧p2≤p+6000:=by
 obtain ⟨g0,p1,⟨h1,h2,h3,h4,h5⟩,c1⟩:=z1046 bs hb p hp
 obtain ⟨g,p2,⟨k1,k2,k3,k4,k5,k6⟩,c2⟩:=z889 bs hb p1 ⟨by omega,by omega⟩ g0 h1 h2 h3
 exact ⟨g0,g,p1,p2,c1,c2,⟨k1,k2,k3,k4⟩,by omega,by omega⟩
theorem z614 (k:Int):QQ 181 [.int k] [] (.int (z184 k)) []:=by
 refine z12 z15 func181 rfl rfl 17 ntmps181 (by simp) ?_
 repeat' (first|apply y4 ok;rfl;conv=>whnf|apply z6<;>intro _<;>conv=>whnf)
 all_goals (refine z55 rfl rfl ?_;unfold z184;first|rw [if_pos (by omega)];rfl|rw [if_neg (by omega),if_pos (by omega)];rfl|rw [if_neg (by omega),if_neg (by omega),if_pos (by omega)];rfl|rw [if_neg (by omega),if_neg (by omega),if_neg (by omega)];rfl)
theorem z862 (l:List Tree) (d:Int):Tree.shapeFs l d=l.all (fun t=>t.shapeF d):=by
 induction l with
 |nil=>rfl
 |cons t l ih=>simp [Tree.shapeFs,ih]
theorem z379 (t:Tree) (d:Int):t.shapeF d=(decide (1≤d∧(t.kids.length:Int)=z184 t.kind∧0≤t.val∧t.val≤z394 t.kind) && t.kids.all fun t=>t.shapeF (d - 1)):=by
 cases t;simp only [Tree.shapeF,Tree.kids,Tree.kind,Tree.val,z862];rfl
theorem z1044 (t:Tree):t.mx→∀ d:Int,-100≤d→d≤100→QQ 123 [z27 Tree.cs' t,.int d] [] (.bool (t.shapeF d)) []:=by
  induction t using y27 with|h t ih=>?_
  intro hm d h0 h1
  rw [y28] at hm
  have hl:=hm.1
  unfold maxLen at hl
  rw [y15,z379]
  refine z12 z15 func123 rfl rfl 51 ntmps123 (by simp) ?_
  repeat' (first|apply y4 ok;rfl;conv=>whnf|apply z23;kernel_rfl;conv=>whnf|apply z6<;>intro _<;>conv=>whnf|apply z42<;>intro _<;>conv=>whnf|apply z4 (z614 _);rfl;rfl;conv=>whnf)
  all_goals first
    | (refine z19 rfl ?_
       rw [y83]
       · rfl
       · clear ih
         rintro ⟨c1,c2,c3,c4⟩
         unfold z394 at c4
         grind)
    | (have hg : decide (1 ≤ d ∧ (t.kids.length : Int) = z184 t.kind ∧ 0 ≤ t.val ∧ t.val ≤ z394 t.kind) = true := by
         clear ih
         refine y82 ?_
         unfold z394
         grind
       rw [hg,Bool.true_and]
       refine z97 (fun k:Nat=>([(1,.int d),(2,.ptr 0 none 0),(5,.int k)],[.cells 3 [[.int t.kind,.int t.val,lst 3 Tree.cs' t.kids]]])) (fun k=>k≤t.kids.length∧(t.kids.all fun t=>t.shapeF (d - 1))=(t.kids.drop k).all fun t=>t.shapeF (d - 1)) (fun k=>t.kids.length - k) 0 ⟨by omega,rfl⟩ ⟨[0],rfl,by decide,rfl,by repeat' (first|exact True.intro|exact ⟨rfl,rfl⟩|apply y43),by repeat' (first|exact True.intro|exact z21 rfl rfl|apply y43)⟩ ?_
       intro k hk
       repeat' (first|apply y4 ok;rfl;conv=>whnf|apply y43;(first|omega|unfold inI;omega);conv=>whnf|with_reducible apply z8;omega;intro _;conv=>whnf|apply z6<;>intro _<;>conv=>whnf|apply z78<;>intro _<;>conv=>whnf|apply z4 (ih t.kids[k] (y44 _) (hm.2 _ (y44 _)) (d - 1) (by omega) (by omega));rfl;rfl;conv=>whnf)
       · rename_i h1
         exact z19 rfl (by rw [hk.2,z159 _ _ _ (by assumption)];simp [h1])
       · rename_i h1
         exact z85 (k+1) [0] ⟨by omega,by rw [hk.2,z159 _ _ _ (by assumption)];simp [h1]⟩ (by omega) ⟨rfl,by decide,rfl,by repeat' (first|exact True.intro|exact ⟨rfl,rfl⟩|apply y43),by repeat' (first|exact True.intro|exact z21 rfl rfl|apply y43)⟩
       · exact z19 rfl (by rw [hk.2,z151 _ _ _ (by omega)]))
theorem z1231 (t:Tree):∀ d n:Nat,t.shapeF d=true→t.count n≤2 ^ d - 1:=by
 induction t using y27 with|h t ih=>?_
 intro d n h
 rw [z379,y71,decide_eq_true_eq] at h
 obtain ⟨⟨h1,h2,_,_⟩,h3⟩:=h
 rw [y79] at h3
 obtain ⟨d,rfl⟩:∃ e,d=e+1:=⟨d - 1,by omega⟩
 have e:((d+1:Nat):Int) - 1=(d:Nat):=by omega
 rw [e] at h3
 rw [z487]
 have hp:(1:Int)≤2 ^ d:=by exact_mod_cast Nat.one_le_two_pow
 have hq:((2:Int) ^ (d+1))=2 * 2 ^ d:=by rw [Int.pow_succ];omega
 split
 ·rename_i hn
  obtain ⟨n,rfl⟩:∃ e,n=e+1:=⟨n - 1,by omega⟩
  have e:((n+1:Nat):Int) - 1=(n:Nat):=by omega
  rw [e]
  have hl:(t.kids.length:Int)≤2:=by rw [h2];unfold z184;grind
  have hk:∀ u∈t.kids,u.count n≤2 ^ d - 1:=fun u hu=>ih u hu d n (h3 u hu)
  match hkk:t.kids with
  |[]=>simp only [List.map_nil,List.sum_nil];omega
  |[a] =>
   have:=hk a (by simp [hkk])
   simp only [List.map_cons,List.map_nil,List.sum_cons,List.sum_nil];omega
  |[a,b] =>
   have:=hk a (by simp [hkk])
   have:=hk b (by simp [hkk])
   simp only [List.map_cons,List.map_nil,List.sum_cons,List.sum_nil];omega
  |a::b::c::r=>rw [hkk] at hl;simp only [y58] at hl;omega
 ·omega
theorem z807 (t:Tree) (e d:Int) (he:e≤50) (hd:0≤d) (h:t.shapeF e=true):t.count d≤2 ^ 50:=by
 have h1:1≤e:=by
  rw [z379,y71,decide_eq_true_eq] at h;exact h.1.1
 obtain ⟨n,rfl⟩:=Int.eq_ofNat_of_zero_le (show 0≤e by omega)
 obtain ⟨m,rfl⟩:=Int.eq_ofNat_of_zero_le hd
 have h2:=z1231 t n m h
 have h4:(2:Int) ^ n≤2 ^ 50:=by exact_mod_cast Nat.pow_le_pow_right (by omega) (by omega)
 omega
theorem z1045 (t:Tree):t.mx→∀ e d:Int,e≤50→0≤d→d≤50→t.shapeF e=true→QQ 124 [z27 Tree.cs' t,.int d] [] (.int (t.count d)) []:=by
 induction t using y27 with|h t ih=>?_
 intro hm e d h0 h1 h2 hs
 rw [y28] at hm
 rw [z379,y71,decide_eq_true_eq,y79] at hs
 obtain ⟨⟨hs1,hs2,_,_⟩,hs3⟩:=hs
 have hl:(t.kids.length:Int)≤2:=by rw [hs2];unfold z184;grind
 rw [y15,z487]
 have hb:0 < d→∀ k,k≤t.kids.length→0≤((t.kids.take k).map fun t=>t.count (d - 1)).sum∧((t.kids.take k).map fun t=>t.count (d - 1)).sum≤k * 2 ^ 50:=by
  intro hd k
  induction k with
  |zero=>intro _;simp
  |succ k ihk =>
   intro hk
   have h1:=ihk (by omega)
   rw [z471 _ _ _ (by omega)]
   have h2:=z807 t.kids[k] (e - 1) (d - 1) (by omega) (by omega) (hs3 _ (y44 _))
   have h3:=Tree.count_pos.1 t.kids[k] (d - 1)
   omega
 refine z12 z15 func124 rfl rfl 29 ntmps124 (by simp) ?_
 repeat' ((apply y4 ok;rfl;conv=>whnf))
 by_cases hd:0 < d
 ·rw [if_pos hd]
  refine z97 (fun k:Nat=>([(1,.int d),(2,.ptr 0 none 0),(5,.int (1+((t.kids.take k).map fun t=>t.count (d - 1)).sum)),(6,.int k)],[.cells 3 [[.int t.kind,.int t.val,lst 3 Tree.cs' t.kids]]])) (fun k=>k≤t.kids.length) (fun k=>t.kids.length - k) 0 (by omega) ⟨[0],rfl,by decide,rfl,by repeat' (first|exact True.intro|exact ⟨rfl,rfl⟩|apply y43),by repeat' (first|exact True.intro|exact z21 rfl rfl|apply y43)⟩ ?_
  intro k hk
  have hbk:=hb hd k hk
  have hbk1:=fun h=>hb hd (k+1) h
  have hss:=fun h=>z471 (fun t=>t.count (d - 1)) t.kids k h
  repeat' (first|apply y4 ok;rfl;conv=>whnf|apply y43;(first|omega|unfold inI;omega);conv=>whnf|with_reducible apply z8;omega;intro _;conv=>whnf|apply z6<;>intro _<;>conv=>whnf|apply z4 (ih t.kids[k] (y44 _) (hm.2 _ (y44 _)) (e - 1) (d - 1) (by omega) (by omega) (by omega) (hs3 _ (y44 _)));rfl;rfl;conv=>whnf)
  ·have e1:=hss ‹_›
   have e2:=hbk1 (by omega)
   refine y43 (by unfold inI;omega) ?_
   conv=>whnf
   repeat' (first|apply y4 ok;rfl;conv=>whnf|apply y43;((unfold inI;omega));conv=>whnf)
   exact z85 (k+1) [0] (by omega) (by omega) ⟨rfl,by decide,rfl,⟨⟨rfl,rfl⟩,⟨rfl,rfl⟩,⟨rfl,by rw [e1,← Int.add_assoc];rfl⟩,⟨rfl,rfl⟩,trivial⟩,⟨z21 rfl rfl,trivial⟩⟩
  ·omega
  ·obtain rfl:k=t.kids.length:=by omega
   exact z55 rfl rfl (by rw [y56];rfl)
 ·rw [if_neg hd]
  refine z97 (fun k:Nat=>([(1,.int d),(2,.ptr 0 none 0),(5,.int 1),(6,.int k)],[.cells 3 [[.int t.kind,.int t.val,lst 3 Tree.cs' t.kids]]])) (fun k=>k≤t.kids.length) (fun k=>t.kids.length - k) 0 (by omega) ⟨[0],rfl,by decide,rfl,by repeat' (first|exact True.intro|exact ⟨rfl,rfl⟩|apply y43),by repeat' (first|exact True.intro|exact z21 rfl rfl|apply y43)⟩ ?_
  intro k hk
  repeat' (first|apply y4 ok;rfl;conv=>whnf|apply y43;(omega);conv=>whnf|with_reducible apply z8;omega;intro _;conv=>whnf|apply z6<;>intro _<;>conv=>whnf)
  ·omega
  ·exact z55 rfl rfl rfl
  ·exact z55 rfl rfl rfl
theorem z141 (t:Tree) (hm:t.mx):QQ 53 [z27 Tree.cs' t] [] (.bool t.fmB) []:=by
 rw [y21]
 refine z12 z15 func53 rfl rfl 10 ntmps53 (by simp) ?_
 repeat' (first|apply y4 ok;rfl;conv=>whnf|apply z82<;>intro _<;>conv=>whnf|apply z4 (z1044 t hm 6 (by omega) (by omega));rfl;rfl;conv=>whnf|apply z4 (z1045 t hm 6 6 (by omega) (by omega) (by omega) (by assumption));rfl;rfl;conv=>whnf)
 all_goals (refine z19 rfl ?_;(simp [*];done))
theorem z400:QQ 105 [] [] (.agg [.int 1,.int 0,.list 3 0 []]) []:=by
 refine z7 z15 func105 rfl rfl 2 ntmps105 (by simp) ?_
 repeat' (((apply y4 ok;rfl))<;>conv=>whnf)
 all_goals (refine rsD [] [] rfl ?_;(repeat' first|exact y86 _|exact z43|apply z41|constructor))
set_option maxHeartbeats 1600000 in
theorem z887 (bs:List Int) (hb:BytesOk bs):∀ (n:Nat) (d p:Int),d≤n+1→n≤100→0≤d→0≤p→p+drK n≤1000000000→∃ (t:Tree) (p' : Int),(t.sz≤drS n∧p≤p'∧p'≤p+drK n)∧QQ 106 [.ptr 0 none 0,.int d] [rdO bs p] (z27 Tree.cs' t) [rdO bs p']:=by
 intro n
 induction n with
 |zero =>
  intro d p hd hd1 hd0 hp hq
  rw [drK] at hq ⊢
  obtain ⟨v0,⟨l0,u0⟩,c0⟩:=z73 bs hb p 8 (by omega) (by omega) (by omega)
  by_cases h0:v0=0
  ·subst h0
   refine ⟨leaf 1 0,p+1,⟨by rw [z98];omega,by omega,by omega⟩,?_⟩
   refine z7 z15 func106 rfl rfl 43 ntmps106 (by simp) ?_
   repeat' ((first|apply y4 ok;rfl|apply z6<;>intro _|apply z4 z400;rfl;rfl|apply z37 [0] [] c0;rfl;rfl;rfl)<;>conv=>whnf)
   all_goals try (exfalso;omega)
   all_goals (refine rsD [0] [] rfl ?_;(repeat' first|exact y86 _|apply y87|constructor))
  ·obtain ⟨v1,m1,c1⟩:=z112 bs hb (p+1) (by omega) (by omega) [0,1,0,2] (by decide) (by decide)
   refine ⟨leaf 2 v1,p+1+1,⟨by rw [z98];omega,by omega,by omega⟩,?_⟩
   refine z7 z15 func106 rfl rfl 43 ntmps106 (by simp) ?_
   repeat' ((first|apply y4 ok;rfl|apply z6<;>intro _|(first|apply z11 [0] [] c0;rfl;rfl|apply z11 [0,2] [] c1;rfl;rfl);rfl;(focus ((repeat' first|exact z17|apply z16)<;>first|exact z47 rfl rfl|refine z20 ?_;((exact z5 fun _=>rfl)))))<;>conv=>whnf)
   all_goals try (exfalso;omega)
   all_goals (refine rsD [0] [] rfl ?_;(repeat' first|exact y86 _|exact z43|apply y87|apply z41|constructor))
 |succ n ih =>
  intro d p hd hd1 hd0 hp hq
  have hK:=z1224 n
  by_cases hlt:d < 2
  ·obtain ⟨t,p',h1,h2⟩:=ih d p (by omega) (by omega) hd0 hp (by rw [drK] at hq;omega)
   exact ⟨t,p',⟨by rw [drS];omega,h1.2.1,by rw [drK];omega⟩,h2⟩
  rw [drK] at hq
  rw [drK,drS]
  obtain ⟨w,⟨lw,uw⟩,cw⟩:=z73 bs hb p 5 (by omega) (by omega) (by omega)
  by_cases hw:w=0
  ·subst hw
   obtain ⟨v0,⟨l0,u0⟩,c0⟩:=z73 bs hb (p+1) 8 (by omega) (by omega) (by omega)
   by_cases h0:v0=0
   ·subst h0
    refine ⟨leaf 1 0,p+1+1,⟨by rw [z98];omega,by omega,by omega⟩,?_⟩
    refine z7 z15 func106 rfl rfl 43 ntmps106 (by simp) ?_
    repeat' ((first|apply y4 ok;rfl|apply z6<;>intro _|apply z4 z400;rfl;rfl|(first|apply z37 [0] [] cw;rfl;rfl|apply z37 [0] [] c0;rfl;rfl);rfl)<;>conv=>whnf)
    all_goals try (exfalso;omega)
    all_goals (refine rsD [0] [] rfl ?_;(repeat' first|exact y86 _|apply y87|constructor))
   ·obtain ⟨v1,m1,c1⟩:=z112 bs hb (p+1+1) (by omega) (by omega) [0,1,0,2] (by decide) (by decide)
    refine ⟨leaf 2 v1,p+1+1+1,⟨by rw [z98];omega,by omega,by omega⟩,?_⟩
    refine z7 z15 func106 rfl rfl 43 ntmps106 (by simp) ?_
    repeat' ((first|apply y4 ok;rfl|apply z6<;>intro _|(first|apply z11 [0] [] cw;rfl;rfl|apply z11 [0] [] c0;rfl;rfl|apply z11 [0,2] [] c1;rfl;rfl);rfl;(focus ((repeat' first|exact z17|apply z16)<;>first|exact z47 rfl rfl|refine z20 ?_;((exact z5 fun _=>rfl)))))<;>conv=>whnf)
    all_goals try (exfalso;omega)
    all_goals (refine rsD [0] [] rfl ?_;(repeat' first|exact y86 _|exact z43|apply y87|apply z41|constructor))
  ·obtain ⟨kd,mk,ck⟩:=z112 bs hb (p+1) (by omega) (by omega) [7,9,10,3,4,5,6,8] (by decide) (by decide)
   have ca:=z614 kd
   have ham:∃ m:Nat,z184 kd=m∧m≤2:=by
    simp only [List.mem_cons,List.not_mem_nil,or_false] at mk
    unfold z184
    rcases mk with rfl|rfl|rfl|rfl|rfl|rfl|rfl|rfl
    all_goals first|exact ⟨2,rfl,by omega⟩|exact ⟨1,rfl,by omega⟩
   obtain ⟨m,em,hm⟩:=ham
   rw [em] at ca
   obtain ⟨ks,pf,hks,hp0,hst,hpf⟩:=z510 (fun k q (t:Tree) q'=>t.sz≤drS n∧QQ 106 [.ptr 0 none 0,.int (d - 1)] [rdO bs q] (z27 Tree.cs' t) [rdO bs q']) (p+1+1) (drK n) m (fun k q hk h1 h2=>by
    have:drK n * k≤drK n:=by
     have:k=0∨k=1:=by omega
     rcases this with rfl|rfl<;>simp<;>omega
    obtain ⟨t,q',⟨a1,a2,a3⟩,a4⟩:=ih (d - 1) q (by omega) (by omega) (by omega) (by omega) (by omega)
    exact ⟨t,q',⟨a1,a4⟩,a2,a3⟩)
   have hpm:=hpf m (y52 _)
   have hKm:drK n * m≤2 * drK n:=by
    have:m=0∨m=1∨m=2:=by omega
    rcases this with rfl|rfl|rfl<;>simp<;>omega
   have hsum:(ks.map Tree.sz).sum≤2 * drS n:=by
    have:∀ (l:List Tree),(∀ t∈l,t.sz≤drS n)→(l.map Tree.sz).sum≤l.length * drS n:=by
     intro l
     induction l with
     |nil=>intro _;simp
     |cons t l ih =>
      intro h
      have h1:=h t (by simp)
      have h2:=ih fun u hu=>h u (by simp [hu])
      simp only [List.map_cons,List.sum_cons,y58,Nat.add_mul]
      omega
    have h1:=this ks fun t ht=>by
     obtain ⟨i,hi,rfl⟩:=List.mem_iff_getElem.1 ht
     exact (hst i hi).1
    have h2:ks.length * drS n≤2 * drS n:=Nat.mul_le_mul_right _ (by omega)
    omega
   refine ⟨.mk kd 0 ks,pf m,⟨by rw [z244];omega,by omega,by omega⟩,?_⟩
   refine z7 z15 func106 rfl rfl 43 ntmps106 (by simp) ?_
   rw [← hp0] at ck
   repeat' ((first|apply y4 ok;rfl|apply z6<;>intro _|apply z4 ca;rfl;rfl|(first|apply z11 [0] [] cw;rfl;rfl|apply z11 [0,2] [] ck;rfl;rfl);rfl;(focus ((repeat' first|exact z17|apply z16)<;>first|exact z47 rfl rfl|refine z20 ?_;((exact z5 fun _=>rfl)))))<;>conv=>whnf)
   all_goals try (exfalso;omega)
   refine y85 (y88 3 rfl) ?_
   refine z64 (fun k:Nat=>([(0,.ptr 0 none 0),(1,.int d),(4,.ptr 1 none 0),(5,.ptr 2 none 0),(6,.int (m - k))],[rdO bs (pf k),.cells 3 [[.int 0,.int 0,.nils]],.cells 3 [[.int kd,.int 0,.sref 3 0 k]],.cells 3 ((ks.take k).map Tree.cs')])) (fun k=>k≤m) (fun k=>m - k) 0 (by omega) (by refine swR [0,1,3,4] [] rfl rfl ?_;(repeat' first|exact y86 _|exact z49|apply y87|refine z9 rfl z25 ?_|constructor)) ?_
   intro k hk
   by_cases hkm:k < m
   ·have hc:=(hst k (by omega)).2
    have hkl:k < ks.length:=by omega
    rw [y15] at hc
    repeat' ((first|apply y4 ok;rfl|apply z23;kernel_rfl|(apply y43;first|unfold inI;omega|(try dsimp only);simp only [y49,y48,y47,y46,y58,y59];omega|exact ⟨rfl,z22 rfl z28⟩)|apply z6<;>intro _|apply z37 [0] [] hc;rfl;rfl;rfl)<;>conv=>whnf)
    all_goals try (exfalso;omega)
    refine z24 (k+1) (by omega) (by omega) (by refine swR [0,1,2,5] [] rfl rfl ?_;(repeat' first|exact y86 _|exact z280|refine z115 ?_;omega|apply y87|(refine z39 rfl ?_ ?_);(focus ((repeat' (first|exact z5 (fun _=>rfl)|apply z26));done))|refine z134 (by omega) (by omega) ?_|apply z75;rfl|constructor))
   ·have:k=m:=by omega
    subst this
    repeat' ((first|apply y4 ok;rfl|apply y43;omega|apply z6<;>intro _)<;>conv=>whnf)
    all_goals try (exfalso;omega)
    all_goals (refine rsD [0] [3] rfl ?_;(repeat' first|exact y86 _|refine z544 ?_;omega|apply y87|(apply z40 rfl rfl rfl);(focus ((repeat ((exact z30 (fun _=>rfl) _)));done));(focus (((simp;omega));done))|apply z41|constructor))
theorem z778 (bs:List Int) (hb:BytesOk bs) (p:Int) (hp:few p):∃ (t:Tree) (p' : Int),(t.sz≤20∧p≤p'∧p'≤p+100)∧QQ 43 [.ptr 0 none 0] [rdO bs p] (z27 Tree.cs' t) [rdO bs p']:=by
 obtain ⟨d,md,cd⟩:=z112 bs hb p (by omega) (by omega) [3,2,4,3] (by decide) (by decide)
 have hd:0≤d∧d≤4:=by simp at md;omega
 obtain ⟨t,q,⟨t1,t2,t3⟩,ct⟩:=z887 bs hb 3 d (p+1) (by omega) (by omega) (by omega) (by omega) (by simp only [drK];omega)
 simp only [drK] at t3
 simp only [drS] at t1
 have cv:=z141 t (z101 t (by unfold maxLen;omega))
 by_cases hv:t.fmB=true
 ·refine ⟨t,q,⟨by omega,by omega,by omega⟩,?_⟩
  rw [hv] at cv
  rw [y15] at *
  refine z7 z15 func43 rfl rfl 15 ntmps43 (by simp) ?_
  repeat' ((first|apply y4 ok;rfl|apply z4 cv;rfl;rfl|(first|apply z11 [0,2] [] cd;rfl;rfl|apply z11 [0] [] ct;rfl;rfl);rfl;(focus ((repeat' first|exact z17|apply z16)<;>first|exact z47 rfl rfl|refine z20 ?_;((exact z5 fun _=>rfl)))))<;>conv=>whnf)
  all_goals (refine rsD [0] [] rfl ?_;(repeat' first|exact y86 _|apply y87|constructor))
 ·refine ⟨.mk 10 0 [leaf 2 0],q,⟨by rw [z244];simp [z98],by omega,by omega⟩,?_⟩
  rw [(y72 _).mp hv] at cv
  rw [y15] at cv ct
  refine z7 z15 func43 rfl rfl 15 ntmps43 (by simp) ?_
  repeat' ((first|apply y4 ok;rfl|apply z4 cv;rfl;rfl|(first|apply z11 [0,2] [] cd;rfl;rfl|apply z11 [0] [] ct;rfl;rfl);rfl;(focus ((repeat' first|exact z17|apply z16)<;>first|exact z47 rfl rfl|refine z20 ?_;((exact z5 fun _=>rfl)))))<;>conv=>whnf)
  all_goals (refine rsD [0] [4] rfl ?_;(repeat' first|exact y86 _|exact z43|apply y87|refine z40 rfl rfl rfl rfl rfl ?_|apply z41|apply z75;rfl|constructor))
theorem argU (k v:Int) (a:Tree):z27 Tree.cs' (.mk k v [a])=.agg [.int k,.int v,.list 3 1 [Tree.cs' a]]:=by
 rw [y15]
 show AC.agg [AC.int k,AC.int v,lst 3 Tree.cs' [a]]=_
 rfl
theorem argB (k v:Int) (a b:Tree):z27 Tree.cs' (.mk k v [a,b])=.agg [.int k,.int v,.list 3 2 [Tree.cs' a,Tree.cs' b]]:=by
 rw [y15]
 rfl
theorem z500 (x:Tree):F2 LocLe (z277 [AC.int x.kind,AC.int x.val,lst 3 Tree.cs' x.kids]) (Tree.cs x):=by
 have e:Tree.cs x=[AC.int x.kind,AC.int x.val,lst 3 Tree.cs' x.kids]:=by rw [y18];exact AC.agg.inj (y15 x)
 rw [e];exact z303 _
theorem z480 (t:Tree):QQ 156 [z27 Tree.cs' t] [] (z27 Tree.cs' (notT t)) []:=by
 unfold notT
 rw [y15 t,y15]
 refine z7 z15 func156 rfl rfl 6 ntmps156 (by simp) ?_
 repeat' (((apply y4 ok;rfl))<;>conv=>whnf)
 all_goals (refine rsD [] [2] rfl ?_;(repeat' first|exact y86 _|exact z280|refine z40 rfl rfl rfl rfl rfl ?_|apply z41|apply z75;rfl|constructor))
 all_goals exact z500 _
theorem z1193 (k:Int):QQ 277 [.int k] [] (.int (z552 k)) []:=by
 unfold z552
 refine z7 z15 func277 rfl rfl 10 ntmps277 (by simp) ?_
 repeat' ((first|apply y4 ok;rfl|apply z6<;>intro _)<;>conv=>whnf)
 all_goals (refine rsL [] [] rfl ?_;refine y12 (z115 ?_) .nil;first|rw [if_pos (by omega)];done|rw [if_neg (by omega),if_pos (by omega)];done|rw [if_neg (by omega),if_neg (by omega),if_pos (by omega)];done|rw [if_neg (by omega),if_neg (by omega),if_neg (by omega)];done)
set_option maxHeartbeats 3200000 in
theorem z1192 (t:Tree):t.goodF→∀ neg:Bool,QQ 238 [z27 Tree.cs' t,.bool neg] [] (z27 Tree.cs' (t.nrm neg)) []:=by
 induction t using y27 with|h t ih=>?_
 intro hg neg
 have hT:=z400
 cases y22 hg with
 |tr =>
  rw [z758]
  have cn:=(z480 (.mk 1 0 [])).arg (args0:=[.agg [.int 1,.int 0,.nils]]) (by (repeat' first|exact y86 _|exact z43|apply z41|constructor))
  cases neg
  all_goals
   refine z7 z15 func238 rfl rfl 86 ntmps238 (by simp) ?_
   repeat' ((first|apply y4 ok;rfl|apply z4 cn;rfl;rfl)<;>conv=>whnf)
   all_goals (refine rsD [] [] rfl ?_;(repeat' first|exact y86 _|exact z43|apply z41|constructor))
 |«at» v h0 h1 =>
  rw [z760]
  have cn:=(z480 (.mk 2 v [])).arg (args0:=[.agg [.int 2,.int v,.nils]]) (by (repeat' first|exact y86 _|exact z43|apply z41|constructor))
  cases neg
  all_goals
   refine z7 z15 func238 rfl rfl 86 ntmps238 (by simp) ?_
   repeat' ((first|apply y4 ok;rfl|apply z4 cn;rfl;rfl)<;>conv=>whnf)
   all_goals (refine rsD [] [] rfl ?_;(repeat' first|exact y86 _|exact z43|apply z41|constructor))
 |un k a hk ha =>
  have ca:=ih a (by simp [Tree.kids]) ha
  clear ih
  have cn:=z480 truT
  rcases hk with rfl|rfl|rfl|rfl
  ·rw [z532,argU 3 0 a]
   have ca:=ca (!neg)
   refine z7 z15 func238 rfl rfl 86 ntmps238 (by simp) ?_
   repeat' ((first|apply y4 ok;rfl|refine ⟨_,rfl,?_⟩|apply y43;omega|apply z4 ca;rfl;rfl)<;>conv=>whnf)
   all_goals (refine rsD [] [] rfl ?_;(repeat' first|exact y86 _|constructor))
  ·rw [z391,argU 6 0 a]
   have ca:=ca neg
   generalize a.nrm neg=x at *
   rw [y15 x] at ca
   refine z7 z15 func238 rfl rfl 86 ntmps238 (by simp) ?_
   repeat' ((first|apply y4 ok;rfl|refine ⟨_,rfl,?_⟩|apply y43;omega|apply z4 ca;rfl;rfl)<;>conv=>whnf)
   all_goals (refine rsD [] [2] rfl ?_;(repeat' first|exact y86 _|refine z40 rfl rfl rfl rfl rfl ?_|apply z41|apply z75;rfl|constructor))
   all_goals exact z500 _
  ·rw [z759,argU 9 0 a]
   have ca:=ca neg
   generalize a.nrm neg=x at *
   rw [y15 x] at ca
   cases neg
   all_goals
    refine z7 z15 func238 rfl rfl 86 ntmps238 (by simp) ?_
    repeat' ((first|apply y4 ok;rfl|apply z23;kernel_rfl|refine ⟨_,rfl,?_⟩|apply y43;omega|apply z4 ca;rfl;rfl|apply z4 hT;rfl;rfl|apply z4 cn;rfl;rfl)<;>conv=>whnf)
    all_goals (refine rsD [] [3] rfl ?_;(repeat' first|exact y86 _|refine z40 rfl rfl rfl rfl rfl ?_|apply z41|apply z75;rfl|constructor))
    all_goals exact z500 _
  ·rw [z761,argU 10 0 a]
   have ca:=ca neg
   generalize a.nrm neg=x at *
   rw [y15 x] at ca
   cases neg
   all_goals
    refine z7 z15 func238 rfl rfl 86 ntmps238 (by simp) ?_
    repeat' ((first|apply y4 ok;rfl|apply z23;kernel_rfl|refine ⟨_,rfl,?_⟩|apply y43;omega|apply z4 ca;rfl;rfl|apply z4 hT;rfl;rfl|apply z4 cn;rfl;rfl)<;>conv=>whnf)
    all_goals (refine rsD [] [3] rfl ?_;(repeat' first|exact y86 _|refine z40 rfl rfl rfl rfl rfl ?_|apply z41|apply z75;rfl|constructor))
    all_goals exact z500 _
 |bin k a b hk ha hb =>
  have ca:=ih a (by simp [Tree.kids]) ha neg
  have cb:=ih b (by simp [Tree.kids]) hb neg
  clear ih
  have cd:=z1193 k
  rw [z533 _ _ _ _ _ hk,argB k 0 a b]
  generalize a.nrm neg=x at *
  generalize b.nrm neg=y at *
  rw [y15 x] at ca
  rw [y15 y] at cb
  generalize z552 k=k' at *
  cases neg
  all_goals
   refine z7 z15 func238 rfl rfl 86 ntmps238 (by simp) ?_
   repeat' ((first|apply y4 ok;rfl|apply z23;kernel_rfl|refine ⟨_,rfl,?_⟩|apply y43;omega|(first|apply z6|apply z42)<;>intro _|apply z4 ca;rfl;rfl|apply z4 cb;rfl;rfl|apply z4 cd;rfl;rfl)<;>conv=>whnf)
   all_goals try (exfalso;omega)
   all_goals (refine rsD [] [2] rfl ?_;(repeat' first|exact y86 _|refine z40 rfl rfl rfl rfl rfl ?_|apply z41|apply z75;rfl|constructor))
   all_goals exact z500 _
theorem z913 (l:List Tree) (hl:l.length≤1048576) (hp:0 < l.length):QQ 297 [lst 3 Tree.cs' l] [] (.sref 0 0 l.length) [.cells 3 (l.map Tree.cs')]:=by
 refine z12 z15 func297 rfl rfl 8 ntmps297 (by simp) ?_
 repeat' (first|apply y4 ok;rfl;conv=>whnf|apply y43;(first|omega|dsimp only;omega|exact z62 (fun _=>rfl));conv=>whnf)
 exact z108 rfl (z5 fun _=>rfl) (Nat.zero_add _) rfl rfl
theorem z1069 (l:List Tree) (hl:l.length≤1048576):QQ 297 [lst 3 Tree.cs' l] [] (.sref 0 0 l.length) [.cells 3 (l.map Tree.cs')]:=by
 by_cases hp:0 < l.length
 ·exact z913 l hl hp
 ·obtain rfl:l=[]:=y74 (by omega)
  refine z211 (z300 func297 rfl (by rfl)) fun ad cap=>?_
  cases ad with
  |none =>
   refine CallsA.nils (res:=.nils) (l:=[.cells 3 []]) ?_ (by simp) z322
   refine z12 z15 func297 rfl rfl 8 ntmps297 (by simp) ?_
   repeat' ((apply y4 ok;rfl;conv=>whnf))
   all_goals exact z55 rfl rfl rfl
  |some p =>
   refine z12 z15 func297 rfl rfl 8 ntmps297 (by simp) ?_
   repeat' (first|apply y4 ok;rfl;conv=>whnf|apply y43;(omega);conv=>whnf)
   all_goals (exact z108 rfl z25 rfl rfl rfl)
theorem z555 (l:List Tree) (hl:l.length≤1048576):QQ 268 [.sref 0 0 l.length] [.cells 3 (l.map Tree.cs')] (.sref 0 0 l.length) [.cells 3 (l.map Tree.cs')]:=by
 refine z12 z15 func268 rfl rfl 9 ntmps268 (by simp) ?_
 repeat' (first|apply y4 ok;rfl;conv=>whnf|apply y43;(omega);conv=>whnf)
 exact z108 rfl (z5 fun _=>rfl) (by omega) rfl rfl
theorem z174 (l:List Tree) (hl:l.length≤1048576):QQ 266 [lst 3 Tree.cs' l] [] (.sref 0 0 l.length) [.cells 3 (l.map Tree.cs')]:=by
 refine z12 z15 func266 rfl rfl 6 ntmps266 (by simp) ?_
 repeat' (first|apply y4 ok;rfl;conv=>whnf|apply z103 [] [] [0] (z1069 l hl);rfl;(focus ((repeat' (exact z38))<;>(fail)));rfl;rfl;rfl;rfl;rfl;(focus ((repeat' (first|exact z17|apply z16))<;>((refine z20 ?_;((exact z5 (fun _=>rfl)))))));(exact .inl rfl);conv=>whnf|apply z103 [0] [] [] (z555 l hl);rfl;(focus ((repeat' (first|exact z38|apply z48))<;>((refine z65 rfl ?_;((exact z5 (fun _=>rfl)))))));rfl;rfl;rfl;rfl;rfl;(focus ((repeat' (first|exact z17|apply z16))<;>((refine z20 ?_;((exact z5 (fun _=>rfl)))))));(exact .inl rfl);conv=>whnf)
 exact z108 rfl (z5 fun _=>rfl) rfl rfl rfl
theorem z1058 (k:Int) (l:List Tree) (hl:l.length≤1048576):QQ 226 [.int k,lst 3 Tree.cs' l] [] (.agg [.int k,.int 0,lst 3 Tree.cs' l]) []:=by
 have c:=z174 l hl
 refine z7 z15 func226 rfl rfl 9 ntmps226 (by simp) ?_
 repeat' ((first|apply y4 ok;rfl|apply z11 [] [1] c;rfl;rfl;rfl;(focus ((repeat' first|exact z17|apply z16)<;>(refine z20 ?_;((exact z5 fun _=>rfl))))))<;>conv=>whnf)
 all_goals (refine rsD [] [1] rfl ?_;(repeat' first|exact y86 _|(apply z40 rfl rfl rfl);(focus ((repeat ((exact z30 (fun _=>rfl) _)));done));(focus (((simp;done));done))|apply z41|constructor))
theorem z900 (k:Int):QQ 226 [.int k,.nils] [] (.agg [.int k,.int 0,.list 3 0 []]) []:=(z1058 k [] (by simp)).arg (by (repeat' first|exact y86 _|exact z43|constructor))
theorem z131 (k:Int) (l:List Tree) (hl:l.length≤1048576):QQ 226 [.int k,.sref 0 0 l.length] [.cells 3 (l.map Tree.cs')] (.agg [.int k,.int 0,lst 3 Tree.cs' l]) [.dead]:=by
 have c:=z174 l hl
 refine z7 z15 func226 rfl rfl 9 ntmps226 (by simp) ?_
 refine y85 (Reach.rnm 0 rfl) ?_
 refine y85 (show Gl.Reach _ _ (mkSt _ [(0,.int k),(1,lst 3 Tree.cs' l)] [.dead]) from (by refine swR [0] [1] rfl rfl ?_;(repeat' first|exact y86 _|(apply z40 rfl rfl rfl);(focus ((repeat ((exact z30 (fun _=>rfl) _)));done));(focus (((simp;done));done))|constructor))) ?_
 repeat' ((first|apply y4 ok;rfl|apply z11 [] [2] c;rfl;rfl;rfl;(focus ((repeat' first|exact z17|apply z16)<;>(refine z20 ?_;((exact z5 fun _=>rfl))))))<;>conv=>whnf)
 all_goals (refine rsD [0] [2] rfl ?_;(repeat' first|exact y86 _|(apply z40 rfl rfl rfl);(focus ((repeat ((exact z30 (fun _=>rfl) _)));done));(focus (((simp;done));done))|apply z41|constructor))
theorem z455 (k kd v:Int):QQ 226 [.int k,.sref 0 0 1] [.cells 3 [[.int kd,.int v,.nils]]] (.agg [.int k,.int 0,lst 3 Tree.cs' [.mk kd v []]]) [.dead]:=by
 have c:=z174 [.mk kd v []] (by simp)
 refine z7 z15 func226 rfl rfl 9 ntmps226 (by simp) ?_
 refine y85 (Reach.rnm 0 rfl) ?_
 refine y85 (show Gl.Reach _ _ (mkSt _ [(0,.int k),(1,lst 3 Tree.cs' [.mk kd v []])] [.dead]) from (by refine swR [0] [1] rfl rfl ?_;(repeat' first|exact y86 _|exact z43|refine z40 rfl rfl rfl rfl rfl ?_|apply z75;rfl|constructor))) ?_
 repeat' ((first|apply y4 ok;rfl|apply z37 [] [2] c;rfl;rfl;rfl)<;>conv=>whnf)
 all_goals (refine rsD [0] [2] rfl ?_;(repeat' first|exact y86 _|constructor))
theorem z296 (k v : Int) (l : List Tree) (neg : Bool) (i : Nat) (hi : i < l.length) (x : Tree) (hx : QQ 229 [z27 Tree.cs' l[i], .bool neg] [] (z27 Tree.cs' x) []) :
    QQ 269 [.int i,.ptr 0 none 0,.ptr 1 none 0] [.cells 3 [[.int k,.int v,lst 3 Tree.cs' l]],.cells 1 [[.bool neg]]] (z27 Tree.cs' x) [.cells 3 [[.int k,.int v,lst 3 Tree.cs' l]],.cells 1 [[.bool neg]]]:=by
  have g:(l.map Tree.cs')[i]?=some (Tree.cs' l[i]):=by rw [y51,y45 hi];rfl
  generalize l[i]=y at *
  refine z7 z15 func269 rfl rfl 12 ntmps269 (by simp) ?_
  repeat' ((first|apply y4 ok;rfl|apply z23;kernel_rfl|refine z13 (i:=i) rfl g ?_|apply y43;omega|apply z4 hx;rfl;rfl)<;>conv=>whnf)
  all_goals (refine rsD [0,1] [] rfl ?_;(repeat' first|exact y86 _|apply y87|constructor))
theorem z1032 (a b:Int) (neg:Bool):QQ 270 [.int a,.int b,.ptr 0 none 0] [.cells 1 [[.bool neg]]] (.int (if neg then b else a)) [.cells 1 [[.bool neg]]]:=by
 refine z7 z15 func270 rfl rfl 9 ntmps270 (by simp) ?_
 cases neg
 all_goals
  repeat' (((apply y4 ok;rfl))<;>conv=>whnf)
  all_goals (refine rsD [0] [] rfl ?_;(repeat' first|exact y86 _|apply y87|constructor))
set_option maxHeartbeats 6400000 in
theorem z1164 (t:Tree):t.goodF→∀ neg:Bool,QQ 229 [z27 Tree.cs' t,.bool neg] [] (z27 Tree.cs' (t.nrm neg)) []:=by
 induction t using y27 with|h t ih=>?_
 intro hg neg
 have cT:=z900 1
 have cF:=z131 3 [.mk 1 0 []] (by simp)
 cases y22 hg with
 |tr =>
  rw [z758]
  clear ih
  cases neg
  all_goals
   refine z7 z15 func229 rfl rfl 99 ntmps229 (by simp) ?_
   repeat' ((first|apply y4 ok;rfl|apply z4 cT;rfl;rfl|(first|apply z11 [3] [] cF;rfl;rfl|apply z11 [6] [] (z455 3 1 0);rfl;rfl);rfl;(focus ((repeat' first|exact z17|apply z16)<;>exact z117)))<;>conv=>whnf)
   all_goals (refine rsD [] [] rfl ?_;(repeat' first|exact y86 _|exact z43|apply z41|constructor))
 |«at» v h0 h1 =>
  rw [z760]
  clear ih
  cases neg
  all_goals
   refine z7 z15 func229 rfl rfl 99 ntmps229 (by simp) ?_
   repeat' ((first|apply y4 ok;rfl|apply z4 cT;rfl;rfl|(first|apply z11 [3] [] cF;rfl;rfl|apply z11 [6] [] (z455 3 2 v);rfl;rfl);rfl;(focus ((repeat' first|exact z17|apply z16)<;>exact z117)))<;>conv=>whnf)
   all_goals (refine rsD [] [] rfl ?_;(repeat' first|exact y86 _|exact z43|apply z41|constructor))
 |un k a hk ha =>
  have ca:=fun n=>ih a (by simp [Tree.kids]) ha n
  clear ih
  rcases hk with rfl|rfl|rfl|rfl
  ·rw [z532,argU 3 0 a]
   have ca:=ca (!neg)
   refine z7 z15 func229 rfl rfl 99 ntmps229 (by simp) ?_
   repeat' ((first|apply y4 ok;rfl|apply z23;kernel_rfl|refine ⟨_,rfl,?_⟩|apply y43;omega|apply z4 cT;rfl;rfl|apply z4 ca;rfl;rfl|apply z11 [3] [] cF;rfl;rfl;rfl;(focus ((repeat' first|exact z17|apply z16)<;>exact z117)))<;>conv=>whnf)
   all_goals (refine rsD [] [] rfl ?_;(repeat' first|exact y86 _|constructor))
  ·rw [z391,argU 6 0 a,argU]
   have ck:=z296 6 0 [a] neg 0 (by simp) (a.nrm neg) (ca neg)
   have cf:=z131 6 [a.nrm neg] (by simp)
   generalize a.nrm neg=x at *
   refine z7 z15 func229 rfl rfl 99 ntmps229 (by simp) ?_
   repeat' ((first|apply y4 ok;rfl|apply z4 cT;rfl;rfl|(first|apply z11 [3] [] cF;rfl;rfl|apply z11 [0,1] [] ck;rfl;rfl|apply z11 [5] [] cf;rfl;rfl);rfl;(focus ((repeat' first|exact z17|apply z16)<;>first|exact z117|exact z47 rfl rfl)))<;>conv=>whnf)
   all_goals (refine rsD [] [] rfl ?_;(repeat' first|exact y86 _|constructor))
  ·rw [z759,argU 9 0 a]
   have ck:=z296 9 0 [a] neg 0 (by simp) (a.nrm neg) (ca neg)
   have c7:=z131 7 [truT,a.nrm neg] (by simp)
   have c8:=z131 8 [notT truT,a.nrm neg] (by simp)
   generalize a.nrm neg=x at *
   cases neg
   ·rw [if_neg (by simp),argB]
    refine z7 z15 func229 rfl rfl 99 ntmps229 (by simp) ?_
    repeat' ((first|apply y4 ok;rfl|apply z4 cT;rfl;rfl|(first|apply z11 [3] [] cF;rfl;rfl|apply z11 [0,1] [] ck;rfl;rfl|apply z11 [5] [] c7;rfl;rfl);rfl;(focus ((repeat' first|exact z17|apply z16)<;>first|exact z117|exact z47 rfl rfl)))<;>conv=>whnf)
    all_goals (refine rsD [] [] rfl ?_;(repeat' first|exact y86 _|constructor))
   ·rw [if_pos rfl,argB]
    refine z7 z15 func229 rfl rfl 99 ntmps229 (by simp) ?_
    repeat' ((first|apply y4 ok;rfl|apply z23;kernel_rfl|apply z4 cT;rfl;rfl|(first|apply z11 [3] [] cF;rfl;rfl|apply z11 [0,1] [] ck;rfl;rfl|apply z11 [5] [] c8;rfl;rfl);rfl;(focus ((repeat' first|exact z17|apply z16)<;>first|exact z117|exact z47 rfl rfl)))<;>conv=>whnf)
    all_goals (refine rsD [] [] rfl ?_;(repeat' first|exact y86 _|constructor))
  ·rw [z761,argU 10 0 a]
   have ck:=z296 10 0 [a] neg 0 (by simp) (a.nrm neg) (ca neg)
   have c7:=z131 7 [truT,a.nrm neg] (by simp)
   have c8:=z131 8 [notT truT,a.nrm neg] (by simp)
   generalize a.nrm neg=x at *
   cases neg
   ·rw [if_neg (by simp),argB]
    refine z7 z15 func229 rfl rfl 99 ntmps229 (by simp) ?_
    repeat' ((first|apply y4 ok;rfl|apply z23;kernel_rfl|apply z4 cT;rfl;rfl|(first|apply z11 [3] [] cF;rfl;rfl|apply z11 [0,1] [] ck;rfl;rfl|apply z11 [5] [] c8;rfl;rfl);rfl;(focus ((repeat' first|exact z17|apply z16)<;>first|exact z117|exact z47 rfl rfl)))<;>conv=>whnf)
    all_goals (refine rsD [] [] rfl ?_;(repeat' first|exact y86 _|constructor))
   ·rw [if_pos rfl,argB]
    refine z7 z15 func229 rfl rfl 99 ntmps229 (by simp) ?_
    repeat' ((first|apply y4 ok;rfl|apply z4 cT;rfl;rfl|(first|apply z11 [3] [] cF;rfl;rfl|apply z11 [0,1] [] ck;rfl;rfl|apply z11 [5] [] c7;rfl;rfl);rfl;(focus ((repeat' first|exact z17|apply z16)<;>first|exact z117|exact z47 rfl rfl)))<;>conv=>whnf)
    all_goals (refine rsD [] [] rfl ?_;(repeat' first|exact y86 _|constructor))
 |bin k a b hk ha hb =>
  have ca:=z296 k 0 [a,b] neg 0 (by simp) (a.nrm neg) (ih a (by simp [Tree.kids]) ha neg)
  have cb:=z296 k 0 [a,b] neg 1 (by simp) (b.nrm neg) (ih b (by simp [Tree.kids]) hb neg)
  clear ih
  have cf:=z131 (if neg then z552 k else k) [a.nrm neg,b.nrm neg] (by simp)
  have cp:=z1032 k (z552 k) neg
  rw [z533 _ _ _ _ _ hk,argB k 0 a b,argB]
  generalize a.nrm neg=x at *
  generalize b.nrm neg=y at *
  rcases hk with rfl|rfl|rfl|rfl
  all_goals
   refine z7 z15 func229 rfl rfl 99 ntmps229 (by simp) ?_
   repeat' ((first|apply y4 ok;rfl|apply z4 cT;rfl;rfl|(first|apply z11 [3] [] cF;rfl;rfl|apply z11 [0,1] [] ca;rfl;rfl|apply z11 [0,1] [] cb;rfl;rfl|apply z11 [1] [] cp;rfl;rfl|apply z11 [5] [] cf;rfl;rfl);rfl;(focus ((repeat' first|exact z17|apply z16)<;>first|exact z117|exact z47 rfl rfl)))<;>conv=>whnf)
   all_goals (refine rsD [] [] rfl ?_;(repeat' first|exact y86 _|constructor))
theorem z324 (t:Tree) (h:t.sz≤1000000):QQ 103 [z27 Tree.cs' t] [] (ownT t) [.cells 3 (t.kids.map Tree.cs')]:=by
 induction t using y27 with|h t ih=>?_
 have hkl:t.kids.length≤1000000:=by rw [y38] at h;omega
 have hks:∀ u∈t.kids,u.sz≤1000000:=fun u hu=>by
  have:=z349 Tree.sz hu
  rw [y38] at h;omega
 rw [y15 t]
 obtain ⟨k,v,l⟩:=t
 simp only [Tree.kind,Tree.val,Tree.kids] at *
 have hcs:∀ (i:Nat) (hi:i < l.length),QQ 103 [z27 Tree.cs' l[i]] [] (z27 Tree.cs' l[i]) []:=fun i hi =>
  z263 (ih _ (y44 _) (hks _ (y44 _)))
 unfold ownT
 simp only [Tree.kind,Tree.val,Tree.kids] at *
 refine z7 z15 func103 rfl rfl 29 ntmps103 (by simp) ?_
 repeat' (((apply y4 ok;rfl))<;>conv=>whnf)
 refine y85 (y88 3 rfl) ?_
 refine z64 (fun i:Nat=>([(1,.ptr 0 none 0),(2,.ptr 1 none 0),(3,.ptr 2 none 0),(4,.int i)],[.cells 3 [[.int k,.int v,lst 3 Tree.cs' l]],.cells 3 [[.int 0,.int 0,.nils]],.cells 3 [[.int k,.int v,.sref 3 0 i]],.cells 3 ((l.take i).map Tree.cs')])) (fun i=>i≤l.length) (fun i=>l.length - i) 0 (by omega) (by refine swR [0,1,2,3] [] rfl rfl ?_;(repeat' first|exact y86 _|exact z49|apply y87|refine z9 rfl z25 ?_|constructor)) ?_
 intro i hi
 by_cases hil:i < l.length
 ·have hc:=hcs i hil
  repeat' ((first|apply y4 ok;rfl|apply z23;kernel_rfl|(apply y43;first|omega|unfold inI;omega|(try dsimp only);simp only [y49,y48,y47,y46,y58,y59];omega|exact ⟨rfl,z22 rfl z28⟩)|((with_reducible apply z8;omega));intro _|apply z6<;>intro _|apply z4 hc;rfl;rfl)<;>conv=>whnf)
  all_goals try (exfalso;omega)
  refine z24 (i+1) (by omega) (by omega) (by refine swR [0,1,2,5] [] rfl rfl ?_;(repeat' first|exact y86 _|apply y87|(refine z39 rfl ?_ ?_);(focus ((repeat' (first|exact z5 (fun _=>rfl)|apply z26));done))|refine z134 (by omega) (by omega) ?_|constructor))
 ·have e:i=l.length:=by omega
  subst e
  rw [y56]
  repeat' ((first|apply y4 ok;rfl|apply y43;omega|((with_reducible apply z8;omega));intro _|apply z6<;>intro _)<;>conv=>whnf)
  all_goals try (exfalso;omega)
  all_goals (refine rsD [3] [] rfl ?_;(repeat' first|exact y86 _|exact z10 _|refine z9 rfl (z5 (fun _=>rfl)) ?_|constructor))
set_option maxHeartbeats 1600000 in
theorem z888 (bs:List Int) (hb:BytesOk bs) (p:Int) (hp:few p) (t:Tree) (ht:t.sz≤1000):∃ (t' : Tree) (p' : Int),(t'.sz≤t.sz+1∧p≤p'∧p'≤p+2)∧QQ 42 [.ptr 0 none 0,z27 Tree.cs' t] [rdO bs p] (z27 Tree.cs' t') [rdO bs p']:=by
 have cs:=z324 t (by omega)
 obtain ⟨u,hu⟩:∃ u,u=t:=⟨t,rfl⟩
 have hsz:u.sz≤t.sz:=by rw [hu];exact y52 _
 have cs:QQ 103 [z27 Tree.cs' t] [] (ownT u) [.cells 3 (u.kids.map Tree.cs')]:=by rw [hu];exact cs
 clear hu
 have hul:u.kids.length≤1000:=by rw [y38] at hsz;omega
 obtain ⟨v,⟨lv,uv⟩,cv⟩:=z73 bs hb p 50 (by omega) (by omega) (by omega)
 rw [y15 t]
 rw [y15 t] at cs
 unfold ownT at cs
 by_cases h0:v=0
 ·subst h0
  obtain ⟨k,mk,ck⟩:=z112 bs hb (p+1) (by omega) (by omega) [0,11,-1,2,3,4] (by decide) (by decide)
  refine ⟨.mk k u.val u.kids,p+1+1,⟨by rw [z244];rw [y38] at hsz;omega,by omega,by omega⟩,?_⟩
  refine z7 z15 func42 rfl rfl 34 ntmps42 (by simp) ?_
  repeat' ((first|apply y4 ok;rfl|(first|apply z11 [] [3] cs;rfl;rfl|apply z11 [0] [] cv;rfl;rfl|apply z11 [0,5] [] ck;rfl;rfl);rfl;(focus ((repeat' first|exact z17|apply z16)<;>first|exact z47 rfl rfl|refine z20 ?_;((exact z5 fun _=>rfl)))))<;>conv=>whnf)
  all_goals (refine rsD [0] [3] rfl ?_;(repeat' first|exact y86 _|exact z280|apply y87|(apply z40 rfl rfl rfl);(focus ((repeat ((exact z30 (fun _=>rfl) _)));done));(focus (((simp;done));done))|apply z41|apply z75;rfl|constructor))
 by_cases h1:v=1
 ·subst h1
  obtain ⟨k,mk,ck⟩:=z112 bs hb (p+1) (by omega) (by omega) [-1,3,2,9223372036854775807] (by decide) (by decide)
  refine ⟨.mk u.kind k u.kids,p+1+1,⟨by rw [z244];rw [y38] at hsz;omega,by omega,by omega⟩,?_⟩
  refine z7 z15 func42 rfl rfl 34 ntmps42 (by simp) ?_
  repeat' ((first|apply y4 ok;rfl|(first|apply z11 [] [3] cs;rfl;rfl|apply z11 [0] [] cv;rfl;rfl|apply z11 [0,5] [] ck;rfl;rfl);rfl;(focus ((repeat' first|exact z17|apply z16)<;>first|exact z47 rfl rfl|refine z20 ?_;((exact z5 fun _=>rfl)))))<;>conv=>whnf)
  all_goals (refine rsD [0] [3] rfl ?_;(repeat' first|exact y86 _|exact z280|apply y87|(apply z40 rfl rfl rfl);(focus ((repeat ((exact z30 (fun _=>rfl) _)));done));(focus (((simp;done));done))|apply z41|apply z75;rfl|constructor))
 by_cases h2:v=2
 ·subst h2
  refine ⟨.mk u.kind u.val (u.kids++[leaf 1 0]),p+1,⟨by rw [z244];rw [y38] at hsz;simp [z98];omega,by omega,by omega⟩,?_⟩
  refine z7 z15 func42 rfl rfl 34 ntmps42 (by simp) ?_
  repeat' ((first|apply y4 ok;rfl|apply z23;kernel_rfl|(apply y43;first|(try dsimp only);simp only [y49,y48,y47,y46,y58,y59];omega|exact ⟨rfl,z22 rfl z28⟩)|apply z4 z400;rfl;rfl|(first|apply z11 [] [3] cs;rfl;rfl|apply z11 [0] [] cv;rfl;rfl);rfl;(focus ((repeat' first|exact z17|apply z16)<;>first|exact z47 rfl rfl|refine z20 ?_;((exact z5 fun _=>rfl)))))<;>conv=>whnf)
  all_goals (refine rsD [0] [6] rfl ?_;(repeat' first|exact y86 _|apply y87|(apply z40 rfl rfl rfl);(focus ((repeat (first|exact z30 (fun _=>rfl) _|apply z179|apply z257|rfl));done));(focus (((simp;done));done))|apply z41|constructor))
  all_goals exact z745 rfl rfl (node_le' (y86 _))
 by_cases h3:v=3
 ·subst h3
  refine ⟨leaf 0 0,p+1,⟨by rw [z98];omega,by omega,by omega⟩,?_⟩
  refine z7 z15 func42 rfl rfl 34 ntmps42 (by simp) ?_
  repeat' ((first|apply y4 ok;rfl|(first|apply z11 [] [3] cs;rfl;rfl|apply z11 [0] [] cv;rfl;rfl);rfl;(focus ((repeat' first|exact z17|apply z16)<;>first|exact z47 rfl rfl|refine z20 ?_;((exact z5 fun _=>rfl)))))<;>conv=>whnf)
  all_goals (refine rsD [0] [] rfl ?_;(repeat' first|exact y86 _|exact z43|apply y87|apply z41|constructor))
 ·refine ⟨.mk u.kind u.val u.kids,p+1,⟨by rw [z244];rw [y38] at hsz;omega,by omega,by omega⟩,?_⟩
  refine z7 z15 func42 rfl rfl 34 ntmps42 (by simp) ?_
  repeat' ((first|apply y4 ok;rfl|apply z6<;>intro _|(first|apply z11 [] [3] cs;rfl;rfl|apply z11 [0] [] cv;rfl;rfl);rfl;(focus ((repeat' first|exact z17|apply z16)<;>first|exact z47 rfl rfl|refine z20 ?_;((exact z5 fun _=>rfl)))))<;>conv=>whnf)
  all_goals try (exfalso;omega)
  all_goals (refine rsD [0] [3] rfl ?_;(repeat' first|exact y86 _|exact z280|apply y87|(apply z40 rfl rfl rfl);(focus ((repeat ((exact z30 (fun _=>rfl) _)));done));(focus (((simp;done));done))|apply z41|apply z75;rfl|constructor))
theorem z690 (c:Tree) (l:List Tree) (hl:l.length≤maxLen) (p:Tree→Bool) (f:FuncId) (hf:∀ x∈l,QQ f [z27 Tree.cs' x,.pt [.int c.kind,.int c.val,lst 3 Tree.cs' c.kids]] [] (.bool (p x)) []):QQ 271 [lst 3 Tree.cs' l,.fn (.func f) [] [.pt [.int c.kind,.int c.val,lst 3 Tree.cs' c.kids]]] [] (.int (idxF p l)) []:=by
 unfold maxLen at hl
 refine z12 z15 func271 rfl rfl 19 ntmps271 (by simp) ?_
 repeat' (((apply y4 ok;rfl))<;>conv=>whnf)
 refine z97 (fun k:Nat=>([(0,lst 3 Tree.cs' l),(1,.fn (.func f) [] [.pt [.int c.kind,.int c.val,lst 3 Tree.cs' c.kids]]),(7,.int l.length),(8,.int k)],[])) (fun k=>k≤l.length∧∀ j (hj:j < l.length),j < k→p l[j]=false) (fun k=>l.length - k) 0 (by simp)
  ⟨[],rfl,by decide,rfl,⟨⟨rfl,rfl⟩,⟨rfl,rfl⟩,⟨rfl,rfl⟩,⟨rfl,rfl⟩,trivial⟩,trivial⟩ ?_
 intro k hk
 repeat' ((first|apply y4 ok;rfl|(apply y43;first|omega|unfold inI;omega)|((with_reducible apply z8;omega));intro _|(first|apply z6|apply z82)<;>intro _|apply z4 (hf l[k] (y44 _));rfl;rfl)<;>conv=>whnf)
 ·rename_i h h1
  exact z55 rfl rfl (by rw [z182 (by omega) h1 hk.2];rfl)
 ·rename_i h h1
  refine z85 (k+1) [] ⟨by omega,fun j hj hjk=>?_⟩ (by omega) ⟨rfl,by decide,rfl,⟨⟨rfl,rfl⟩,⟨rfl,rfl⟩,⟨rfl,rfl⟩,⟨rfl,rfl⟩,trivial⟩,trivial⟩
  rcases y70 j k with h2|h2
  ·exact hk.2 j hj h2
  ·obtain rfl:j=k:=by omega
   exact h1
 ·exact z55 rfl rfl (by rw [z157 fun j hj=>hk.2 j hj (by omega)];rfl)
theorem z1220 (A B : List Tree) (hA : A.length ≤ maxLen) (hB : B.length ≤ maxLen) (f : FuncId) (hf : ∀ i (h : i < A.length) (h2 : i < B.length), QQ f [z27 Tree.cs' A[i], z27 Tree.cs' B[i]] [] (.bool (decide (A[i] = B[i]))) []) :
    QQ 299 [lst 3 Tree.cs' A,lst 3 Tree.cs' B,.fn (.func f) [] []] [] (.bool (decide (A=B))) []:=by
  unfold maxLen at hA hB
  by_cases hl:A.length=B.length
  · have hT:(∀ i (h:i < A.length) (h2:i < B.length),A[i]=B[i])→decide (A=B)=true:=fun h=>y82 (y75 hl h)
    have hF:∀ i (h:i < A.length) (h2:i < B.length),A[i]≠B[i]→decide (A=B)=false:=fun i h h2 hne=>y83 fun e=>hne (by subst e;rfl)
    generalize decide (A=B)=D at *
    refine z7 z15 func299 rfl (by kernel_rfl) 32 ntmps299 (by simp) ?_
    repeat' ((first|apply y4 ok;rfl|apply z42<;>intro _)<;>conv=>whnf)
    all_goals try (exfalso;omega)
    refine z64 (fun i:Nat=>([(0,lst 3 Tree.cs' A),(1,lst 3 Tree.cs' B),(2,.fn (.func f) [] []),(15,lst 3 Tree.cs' A),(16,.int A.length),(17,.int i)],[])) (fun i=>i≤A.length∧∀ j (h:j < A.length) (h2:j < B.length),j < i→A[j]=B[j]) (fun i=>A.length - i) 0 ⟨y53 _,fun j _ _ h=>absurd h (Nat.not_lt_zero _)⟩ (by refine swR [] [] rfl rfl ?_;(repeat' first|exact y86 _|constructor)) ?_
    rintro i ⟨hi,hj⟩
    by_cases hil:i < A.length
    · have hil2:i < B.length:=by omega
      have c1:=hf i hil hil2
      have gA:(A.map Tree.cs')[i]?=some (Tree.cs' A[i]):=by rw [y51,y45 hil];rfl
      have gB:(B.map Tree.cs')[i]?=some (Tree.cs' B[i]):=by rw [y51,y45 hil2];rfl
      by_cases he:A[i]=B[i]
      · rw [y82 he] at c1
        have hj2:∀ j (h:j < A.length) (h2:j < B.length),j < i+1→A[j]=B[j]:=fun j h h2 hji=>by
          rcases y70 j i with h3|h3
          · exact hj j h h2 h3
          · obtain rfl:j=i:=by omega
            exact he
        generalize A[i]=x at *
        generalize B[i]=y at *
        repeat' ((first|apply y4 ok;rfl|refine z13 (i:=i) rfl gA ?_|refine z13 (i:=i) rfl gB ?_|(apply y43;first|omega|unfold inI;omega)|apply z6<;>intro _|apply z4 c1;rfl;rfl)<;>conv=>whnf)
        all_goals try (exfalso;omega)
        all_goals refine z24 (i+1) ⟨by omega,hj2⟩ (by omega) (by refine swR [] [] rfl rfl ?_;(repeat' first|exact y86 _|constructor))
      · rw [y83 he] at c1
        have hD:=hF i hil hil2 he
        subst hD
        generalize A[i]=x at *
        generalize B[i]=y at *
        repeat' ((first|apply y4 ok;rfl|refine z13 (i:=i) rfl gA ?_|refine z13 (i:=i) rfl gB ?_|apply y43;omega|apply z6<;>intro _|apply z4 c1;rfl;rfl)<;>conv=>whnf)
        all_goals try (exfalso;omega)
        all_goals (refine rsD [] [] rfl ?_;(repeat' first|exact y86 _|constructor))
    · have hD:=hT (fun j h h2=>hj j h h2 (by omega))
      subst hD
      repeat' ((first|apply y4 ok;rfl|apply y43;omega|((with_reducible apply z8;omega));intro _|apply z6<;>intro _)<;>conv=>whnf)
      all_goals try (exfalso;omega)
      all_goals (refine rsD [] [] rfl ?_;(repeat' first|exact y86 _|constructor))
  · rw [y83 (fun e=>hl (by rw [e]))]
    refine z7 z15 func299 rfl (by kernel_rfl) 32 ntmps299 (by simp) ?_
    repeat' ((first|apply y4 ok;rfl|apply z42<;>intro _)<;>conv=>whnf)
    all_goals first|exfalso;omega|refine rsD [] [] rfl ?_;(repeat' first|exact y86 _|constructor)
theorem z694 (a:Tree):a.mx→∀ b:Tree,b.mx→QQ 273 [z27 Tree.cs' a,z27 Tree.cs' b] [] (.bool (decide (a=b))) []:=by
 induction a using y27 with|h a ih=>?_
 intro ha b hb
 rw [y28] at ha hb
 have cE:=z1220 a.kids b.kids ha.1 hb.1 273 (fun i h h2=>ih _ (y44 _) (ha.2 _ (y44 _)) _ (hb.2 _ (y44 _)))
 clear ih
 rw [y15,y15]
 by_cases hk:a.kind=b.kind∧a.val=b.val
 ·obtain ⟨k1,k2⟩:=hk
  have e:decide (a.kids=b.kids)=decide (a=b):=decide_eq_decide.2 ⟨fun h=>Tree.ext k1 k2 h,fun h=>by rw [h]⟩
  rw [e] at cE
  generalize decide (a=b)=D at *
  cases D
  all_goals
   refine z7 z15 func273 rfl rfl 24 ntmps273 (by simp) ?_
   repeat' ((first|apply y4 ok;rfl|apply z6<;>intro _|apply z4 cE;rfl;rfl)<;>conv=>whnf)
   all_goals try (exfalso;omega)
   all_goals (refine rsD [] [] rfl ?_;(repeat' first|exact y86 _|constructor))
 ·rw [y83 (fun e=>hk (by subst e;exact ⟨rfl,rfl⟩))]
  clear cE
  refine z7 z15 func273 rfl rfl 24 ntmps273 (by simp) ?_
  repeat' ((first|apply y4 ok;rfl|apply z6<;>intro _)<;>conv=>whnf)
  all_goals first|exfalso;omega|refine rsD [] [] rfl ?_;(repeat' first|exact y86 _|constructor)
theorem z302 (l:List Tree) (hl:l.length≤1000000) (hm:∀ t∈l,t.mx) (t:Tree) (ht:t.mx):QQ 230 [lst 3 Tree.cs' l,z27 Tree.cs' t] [] (.int (idxF (fun x=>decide (x=t)) l)) []:=by
 have cI:=z690 t l (by unfold maxLen;omega) (fun x=>decide (x=t)) 272 (fun x hx=>by
  have cS:=z694 x (hm x hx) t ht
  rw [y15 t] at cS
  refine z7 z15 func272 rfl rfl 7 ntmps272 (by simp) ?_
  rw [y15 x] at cS ⊢
  repeat' ((first|apply y4 ok;rfl|apply z4 cS;rfl;rfl)<;>conv=>whnf)
  all_goals (refine rsD [] [] rfl ?_;(repeat' first|exact y86 _|constructor)))
 rw [y15 t]
 refine z7 z15 func230 rfl rfl 8 ntmps230 (by simp) ?_
 repeat' ((first|apply y4 ok;rfl|apply z99 [] [0] [] cI;(focus ((repeat' first|exact z69|apply z44)<;>rfl));rfl;rfl;(focus ((repeat' exact z17)<;>fail));((refine .inr ⟨rfl,?_⟩;repeat' exact True.intro)))<;>conv=>whnf)
 all_goals (refine rsD [] [] rfl ?_;(repeat' first|exact y86 _|constructor))
theorem z1232 (t:Tree) (h:t.sz≤1000000):QQ 225 [z27 Tree.cs' t] [] (ownT t) [.cells 3 (t.kids.map Tree.cs')]:=by
 induction t using y27 with|h t ih=>?_
 have hkl:t.kids.length≤1000000:=by rw [y38] at h;omega
 have hks:∀ u∈t.kids,u.sz≤1000000:=fun u hu=>by
  have:=z349 Tree.sz hu
  rw [y38] at h;omega
 rw [y15 t]
 obtain ⟨k,v,l⟩:=t
 simp only [Tree.kind,Tree.val,Tree.kids] at *
 have hcs:∀ (i:Nat) (hi:i < l.length),QQ 225 [z27 Tree.cs' l[i]] [] (z27 Tree.cs' l[i]) []:=fun i hi =>
  z263 (ih _ (y44 _) (hks _ (y44 _)))
 have cC:=z174 l (by omega)
 unfold ownT
 simp only [Tree.kind,Tree.val,Tree.kids] at *
 refine z7 z15 func225 rfl rfl 30 ntmps225 (by simp) ?_
 repeat' ((first|apply y4 ok;rfl|apply z23;kernel_rfl|apply z11 [] [2] cC;rfl;rfl;rfl;(focus ((repeat' first|exact z17|apply z16)<;>(refine z20 ?_;((exact z5 fun _=>rfl))))))<;>conv=>whnf)
 refine z64 (fun i:Nat=>([(1,.ptr 0 none 0),(2,.ptr 1 none 0),(3,.ptr 3 none 0),(15,lst 3 Tree.cs' l),(16,.int l.length),(17,.int i)],[.cells 3 [[.int k,.int v,lst 3 Tree.cs' l]],.cells 3 [[.int 0,.int 0,.nils]],.cells 3 (l.map Tree.cs'),.cells 3 [[.int k,.int v,.sref 2 0 l.length]]])) (fun i=>i≤l.length) (fun i=>l.length - i) 0 (by omega) (by refine swR [0,1,2,3] [] rfl rfl ?_;(repeat' first|exact y86 _|exact z10 _|apply y87|refine z9 rfl (z5 (fun _=>rfl)) ?_|constructor)) ?_
 intro i hi
 by_cases hil:i < l.length
 ·have hc:=hcs i hil
  have gk:(l.map Tree.cs')[i]?=some (Tree.cs' l[i]):=by rw [y51,y45 hil];rfl
  have hset:(l.map Tree.cs').set i (Tree.cs' l[i])=l.map Tree.cs':=by
   apply y75 (by simp)
   intro j h1 h2
   rw [List.getElem_set]
   split
   ·rename_i e;subst e;simp
   ·rfl
  generalize l[i]=x at *
  repeat' ((first|apply y4 ok;rfl|apply z23;kernel_rfl|refine z13 (i:=i) rfl gk ?_|(apply y43;first|omega|unfold inI;omega)|apply z6<;>intro _|apply z4 hc;rfl;rfl)<;>conv=>whnf)
  all_goals try (exfalso;omega)
  all_goals refine z24 (i+1) (by omega) (by omega) (by refine swR [0,1,2,3] [] rfl rfl ?_;(repeat' first|exact y86 _|apply y87|refine z60 rfl (z5 (fun _=>rfl)) ?_|constructor)<;>((refine z57 ?_;exact hset)))
 ·have e:i=l.length:=by omega
  subst e
  repeat' ((first|apply y4 ok;rfl|apply y43;omega|((with_reducible apply z8;omega));intro _|apply z6<;>intro _)<;>conv=>whnf)
  all_goals try (exfalso;omega)
  all_goals (refine rsD [2] [] rfl ?_;(repeat' first|exact y86 _|exact z10 _|refine z9 rfl (z5 (fun _=>rfl)) ?_|constructor))
theorem z705 (t:Tree) (h:t.sz≤1000000):QQ 225 [z27 Tree.cs' t] [] (z27 Tree.cs' t) []:=z263 (z1232 t h)
end Go.Proofs.YtjhgpfaodkchjaaGreat
