/- A part of the proofs over this program: T92, T34, T35, T43R, T43E, T24, T25, T26, T27, T37C, T37, T120W, T281, T282, T280, T283, T274, T284. -/
import Derived.Test.YtnfoijopccdjeaaGreatG0
import Derived.Test.YtnfoijopccdjeaaGreatG1
import Derived.Test.YtnfoijopccdjeaaGreatG2
import Derived.Test.YtnfoijopccdjeaaGreatG3
import Derived.Test.YtnfoijopccdjeaaGreatP0
import Derived.Test.YtnfoijopccdjeaaGreatP1
set_option linter.all false
namespace Go.Proofs.YtnfoijopccdjeaaGreat
open Go.Gl
attribute [local irreducible] z16 AWP z29 z32 z30 RetS z36
noncomputable def z137 (s:Sys):Option Graph:=if sysB s=true then grow s 61 [⟨List.replicate s.ps.length 0,s.init⟩] [] 0 else none
theorem z359 {q:Bool} : LocLe (.tup [.agg [.nils,.nils],.bool q]) (.tup [.agg (⟨[],[]⟩:Graph).cs,.bool q]):=z72 (.cons (z64 (.cons z61 (.cons z61 .nil))) (.cons (y93 _) .nil))
theorem z226 {objs:Nat→AObj} {π Bn:List Nat} {o:Nat} {l:List State} (ho:objs o=.cells 2 (l.map State.cs)) (h1:idx π o=none) (h2:inB Bn o=true):bor objs π Bn (.sref o 0 l.length)=lst 2 State.cs l :=
 z143 ho h1 h2 (by simp) (z53 (fun _=>rfl) _)
set_option maxHeartbeats 6400000 in
theorem z718 (s:Sys) (hsm:s.s1):CallsA Tryz.prog 48 [.agg s.cs] [] (.tup [.agg ((z137 s).getD ⟨[],[]⟩).cs,.bool (z137 s).isSome]) []:=by
 have c0:=z791 s hsm
 by_cases hv:sysB s=true
 ·have hs:=y15 hv
  have hn3:=hs.n3
  have eb:z137 s=grow s 61 [⟨List.replicate s.ps.length 0,s.init⟩] [] 0:=by unfold z137;rw [if_pos hv]
  rw [if_pos hv,hv] at c0
  have hI0:GInv s [⟨List.replicate s.ps.length 0,s.init⟩] [] 0:=⟨by simp,by simp,by simp,rfl,fun t ht=>by
   rw [List.mem_singleton.1 ht]
   exact ⟨by simp,hs.init⟩,by simp⟩
  rw [eb]
  generalize (⟨List.replicate s.ps.length 0,s.init⟩:State)=st1 at *
  generalize hR:grow s 61 [st1] [] 0=R at *
  refine z6 z9 Tryz.func48 rfl rfl 96 Tryz.ntmps48 (by simp) ?_
  repeat' ((first|(apply y4 ok;rfl)|(apply z0 (c0);rfl;rfl))<;>conv=>whnf)
  refine y92 (y95 1 rfl) ?_
  refine z77 (fun x:Nat×List State×List (List Int)=>([(1,.ptr 0 none 0),(2,.ptr 1 none 0),(6,.ptr 2 none 0),(7,.int x.1)],[.cells 2 [s.cs],.cells 2 [[.nils,.nils]],.cells 2 [[.sref 3 0 x.2.1.length,.sref 4 0 x.2.2.length]],.cells 2 (x.2.1.map State.cs),.cells 1 (x.2.2.map encL)])) (fun x=>GInv s x.2.1 x.2.2 x.1∧grow s (61 - x.1) x.2.1 x.2.2 x.1=R) (fun x=>61 - x.1) (0,[st1],[]) ⟨hI0,hR⟩ (by refine swR [0,1,4,3,5] [] rfl rfl ?_;(repeat' first|exact y93 _|exact z57|apply y94|refine z10 rfl (z33) ?_|constructor)) ?_
  rintro ⟨i,S,G⟩ ⟨hI,hg⟩
  simp only at hI hg
  have hS60:=hI.n
  have hGi:=hI.g
  have hile:=hI.le
  by_cases hil:i < S.length
  ·obtain ⟨st0,hst⟩:∃ st0,S[i]?=some st0:=⟨S[i],y52 hil⟩
   have h0:=hI.st st0 (List.mem_of_getElem? hst)
   rw [show 61 - i=(60 - i)+1 by omega,grow,hst] at hg
   dsimp only at hg
   have cS:=z1026 s hs st0 h0
   have hLl:=z510 hs (st:=st0)
   have hLo:∀ x∈z145 s st0,x.ok s:=fun x hx=>z663 x hx
   have gS:(S.map State.cs)[i]?=some (State.cs st0):=by rw [y58,hst];rfl
   generalize z145 s st0=LST at *
   generalize hRIN:inn s st0 LST S []=RIN at *
   repeat' ((first|(apply y4 ok;rfl)|(apply z17;kernel_rfl)|(refine z13 (i:=i) rfl gS ?_)|(apply y50;omega)|((apply z5)<;>intro _)|(apply z0 (cS);rfl;rfl))<;>conv=>whnf)
   all_goals first|(exfalso;dsimp only at *;omega)|skip
   refine z77 (fun x:Nat×List State×List Int=>([(1,.ptr 0 none 0),(2,.ptr 1 none 0),(6,.ptr 2 none 0),(7,.int i),(8,lst 4 Stp.cs LST),(9,.sref 5 0 x.2.2.length),(10,.int x.1)],[.cells 2 [s.cs],.cells 2 [[.nils,.nils]],.cells 2 [[.sref 3 0 x.2.1.length,.sref 4 0 G.length]],.cells 2 (x.2.1.map State.cs),.cells 1 (G.map encL),.cells 1 (x.2.2.map enI)])) (fun x=>x.1≤LST.length∧x.2.1.length≤60∧(∀ t∈x.2.1,t.ok s)∧x.2.1[i]?=some st0∧x.2.2.length≤x.1∧inn s st0 (LST.drop x.1) x.2.1 x.2.2=RIN) (fun x=>LST.length - x.1) (0,S,[]) ⟨by simp,hS60,hI.st,hst,by simp,hRIN⟩ (by refine swR [0,1,2,3,4,5] [] rfl rfl ?_;(repeat' first|exact y93 _|exact z11 _|apply y94|((refine z10 rfl ?_ ?_);(focus ((repeat' (first|exact z33|exact z4 (fun _=>rfl)));done)))|constructor)) ?_
   rintro ⟨k,S',N⟩ ⟨hk,hS',hSo,hSi,hN,hin⟩
   simp only at hk hS' hSo hSi hN hin
   by_cases hkl:k < LST.length
   ·rw [y86 hkl,inn] at hin
    have hx:=hLo LST[k] (y51 _)
    have g1:(LST.map Stp.cs)[k]?=some (Stp.cs LST[k]):=by rw [y58,y52 hkl];rfl
    have c83:=z1027 s hs st0 h0 LST[k] hx
    have hto:=z310 hs h0 hx
    have g0:(S'.map State.cs)[i]?=some (State.cs st0):=by rw [y58,hSi];rfl
    have hiS:i < S'.length:=(List.getElem?_eq_some_iff.1 hSi).1
    generalize z76 s st0 LST[k]=to at *
    have c84:=z1169 S' to (by omega) (fun t ht=>(hSo t ht).sm hs) (hto.sm hs)
    have hfr:=z355 to S' 0 (by omega)
    generalize z113 to S' 0=n at *
    generalize LST[k]=x at *
    have cN:=fun v=>z691 N (by unfold maxLen;omega) v
    by_cases hn:n < 0
    ·rw [if_pos hn] at hin
     by_cases h60:60≤(S'.length:Int)
     ·rw [if_pos h60] at hin
      subst hin
      dsimp only at hg
      subst hg
      repeat' ((first|(apply y4 ok;rfl)|(apply z17;kernel_rfl)|(refine z13 (i:=i) rfl g0 ?_)|(refine z13 (i:=k) rfl g1 ?_)|(apply y50;first|omega|(dsimp only;omega)|((try dsimp only);simp only [y56,y55,y54,y53,y64,y65];omega)|exact ⟨rfl,z38 rfl z45⟩)|((apply z5)<;>intro _)|(apply z0 (c83);rfl;rfl)|(apply z83 [] [3] [] c84;(focus (exact z23 (z226 rfl rfl rfl) (z23 rfl z48)));rfl;rfl;(focus ((repeat' exact z12)<;>fail));((refine .inr ⟨rfl,?_⟩;repeat' exact True.intro))))<;>conv=>whnf)
      all_goals first|(exfalso;omega)|(exfalso;dsimp only at *;omega)|skip
      all_goals refine y14 [] [] rfl rfl rfl ?_
      all_goals exact y13 z359 .nil
     ·rw [if_neg h60] at hin
      have cM:=cN S'.length
      by_cases hm:(S'.length:Int)∈N
      ·rw [if_pos hm] at hin
       rw [y89 hm] at cM
       repeat' ((first|(apply y4 ok;rfl)|(apply z17;kernel_rfl)|(refine z13 (i:=i) rfl g0 ?_)|(refine z13 (i:=k) rfl g1 ?_)|(apply y50;first|omega|(unfold inI;omega)|(dsimp only;omega)|((try dsimp only);simp only [y56,y55,y54,y53,y64,y65];omega)|exact ⟨rfl,z38 rfl z45⟩)|((apply z5)<;>intro _)|(apply z0 (c83);rfl;rfl)|((first|(apply z83 [] [3] [] c84;(focus (exact z23 (z226 rfl rfl rfl) (z23 rfl z48)));rfl)|(apply z83 [] [5] [] cM;(focus ((repeat' first|exact z48|apply z23)<;>first|exact z91 rfl rfl rfl|rfl));rfl));rfl;(focus ((repeat' exact z12)<;>fail));((refine .inr ⟨rfl,?_⟩;repeat' exact True.intro))))<;>conv=>whnf)
       all_goals first|(exfalso;omega)|(exfalso;contradiction)|skip
       all_goals refine z34 (k+1,S'++[to],N) ⟨by omega,by simp;omega,fun t ht=>by rcases List.mem_append.1 ht with h|h;exact hSo t h;rw [List.mem_singleton.1 h];exact hto,by rw [← hSi];exact y72 hiS,by show N.length≤k+1;omega,hin⟩ (by show LST.length - (k+1) < LST.length - k;omega) (by refine swR [0,1,2,8,4,5] [] rfl rfl ?_;(repeat' first|exact y93 _|exact z11 _|(refine z43 ?_;((simp;done)))|apply y94|((first|refine z51 rfl ?_ ?_|refine z10 rfl ?_ ?_);(focus ((repeat' (first|exact z4 (fun _=>rfl)|apply z40));done)))|(refine z73 ?_ ?_;(focus (omega)))|constructor))
      ·rw [if_neg hm] at hin
       rw [y90 hm] at cM
       repeat' ((first|(apply y4 ok;rfl)|(apply z17;kernel_rfl)|(refine z13 (i:=i) rfl g0 ?_)|(refine z13 (i:=k) rfl g1 ?_)|(apply y50;first|omega|(unfold inI;omega)|(dsimp only;omega)|((try dsimp only);simp only [y56,y55,y54,y53,y64,y65];omega)|exact ⟨rfl,z38 rfl z45⟩)|((apply z5)<;>intro _)|(apply z0 (c83);rfl;rfl)|((first|(apply z83 [] [3] [] c84;(focus (exact z23 (z226 rfl rfl rfl) (z23 rfl z48)));rfl)|(apply z83 [] [5] [] cM;(focus ((repeat' first|exact z48|apply z23)<;>first|exact z91 rfl rfl rfl|rfl));rfl));rfl;(focus ((repeat' exact z12)<;>fail));((refine .inr ⟨rfl,?_⟩;repeat' exact True.intro))))<;>conv=>whnf)
       all_goals first|(exfalso;omega)|(exfalso;contradiction)|skip
       all_goals refine z34 (k+1,S'++[to],N++[(S'.length:Int)]) ⟨by omega,by simp;omega,fun t ht=>by rcases List.mem_append.1 ht with h|h;exact hSo t h;rw [List.mem_singleton.1 h];exact hto,by rw [← hSi];exact y72 hiS,by simp;omega,hin⟩ (by show LST.length - (k+1) < LST.length - k;omega) (by refine swR [0,1,2,8,4,10] [] rfl rfl ?_;(repeat' first|exact y93 _|exact z11 _|(refine z43 ?_;((simp;done)))|apply y94|((first|refine z51 rfl ?_ ?_|refine z10 rfl ?_ ?_);(focus ((repeat' (first|exact z4 (fun _=>rfl)|apply z40));done)))|(refine z73 ?_ ?_;(focus (omega)))|constructor))
    ·rw [if_neg hn] at hin
     by_cases h60:60≤n
     ·rw [if_pos h60] at hin
      subst hin
      dsimp only at hg
      subst hg
      repeat' ((first|(apply y4 ok;rfl)|(apply z17;kernel_rfl)|(refine z13 (i:=i) rfl g0 ?_)|(refine z13 (i:=k) rfl g1 ?_)|(apply y50;omega)|((apply z5)<;>intro _)|(apply z0 (c83);rfl;rfl)|(apply z83 [] [3] [] c84;(focus (exact z23 (z226 rfl rfl rfl) (z23 rfl z48)));rfl;rfl;(focus ((repeat' exact z12)<;>fail));((refine .inr ⟨rfl,?_⟩;repeat' exact True.intro))))<;>conv=>whnf)
      all_goals (exfalso;omega)
      all_goals refine y14 [] [] rfl rfl rfl ?_
      all_goals exact y13 z359 .nil
     ·rw [if_neg h60] at hin
      have cM:=cN n
      by_cases hm:n∈N
      ·rw [if_pos hm] at hin
       rw [y89 hm] at cM
       repeat' ((first|(apply y4 ok;rfl)|(apply z17;kernel_rfl)|(refine z13 (i:=i) rfl g0 ?_)|(refine z13 (i:=k) rfl g1 ?_)|(apply y50;first|omega|(unfold inI;omega)|(dsimp only;omega))|((apply z5)<;>intro _)|(apply z0 (c83);rfl;rfl)|((first|(apply z83 [] [3] [] c84;(focus (exact z23 (z226 rfl rfl rfl) (z23 rfl z48)));rfl)|(apply z83 [] [5] [] cM;(focus ((repeat' first|exact z48|apply z23)<;>first|exact z91 rfl rfl rfl|rfl));rfl));rfl;(focus ((repeat' exact z12)<;>fail));((refine .inr ⟨rfl,?_⟩;repeat' exact True.intro))))<;>conv=>whnf)
       all_goals try (exfalso;omega)
       all_goals refine z34 (k+1,S',N) ⟨by omega,hS',hSo,hSi,by show N.length≤k+1;omega,hin⟩ (by show LST.length - (k+1) < LST.length - k;omega) (by refine swR [0,1,2,3,4,5] [] rfl rfl ?_;(repeat' first|exact y93 _|exact z11 _|apply y94|refine z10 rfl (z4 (fun _=>rfl)) ?_|constructor))
      ·rw [if_neg hm] at hin
       rw [y90 hm] at cM
       repeat' ((first|(apply y4 ok;rfl)|(apply z17;kernel_rfl)|(refine z13 (i:=i) rfl g0 ?_)|(refine z13 (i:=k) rfl g1 ?_)|(apply y50;first|omega|(unfold inI;omega)|(dsimp only;omega)|((try dsimp only);simp only [y56,y55,y54,y53,y64,y65];omega)|exact ⟨rfl,z38 rfl z45⟩)|((apply z5)<;>intro _)|(apply z0 (c83);rfl;rfl)|((first|(apply z83 [] [3] [] c84;(focus (exact z23 (z226 rfl rfl rfl) (z23 rfl z48)));rfl)|(apply z83 [] [5] [] cM;(focus ((repeat' first|exact z48|apply z23)<;>first|exact z91 rfl rfl rfl|rfl));rfl));rfl;(focus ((repeat' exact z12)<;>fail));((refine .inr ⟨rfl,?_⟩;repeat' exact True.intro))))<;>conv=>whnf)
       all_goals try (exfalso;omega)
       all_goals refine z34 (k+1,S',N++[n]) ⟨by omega,hS',hSo,hSi,by simp;omega,hin⟩ (by show LST.length - (k+1) < LST.length - k;omega) (by refine swR [0,1,2,3,4,8] [] rfl rfl ?_;(repeat' first|exact y93 _|exact z11 _|(refine z43 ?_;((simp;done)))|apply y94|((first|refine z51 rfl ?_ ?_|refine z10 rfl ?_ ?_);(focus ((repeat' (first|exact z4 (fun _=>rfl)|apply z40));done)))|(refine z73 ?_ ?_;(focus (omega)))|constructor))
   ·rw [y91 (by omega),inn] at hin
    subst hin
    dsimp only at hg
    have hiS:i < S'.length:=(List.getElem?_eq_some_iff.1 hSi).1
    have hnext:GInv s S' (G++[z199 LST N i]) (i+1):=⟨by omega,hS',by omega,by simp [hGi],hSo,fun r hr=>by
     rcases List.mem_append.1 hr with h|h
     ·exact hI.row r h
     ·rw [List.mem_singleton.1 h]
      unfold z199
      split<;>(try simp)<;>omega⟩
    rw [show 60 - i=61 - (i+1) by omega] at hg
    by_cases hz:LST=[]
    ·have er:z199 LST N i=N++[(i:Int)]:=by unfold z199;rw [if_pos hz]
     have hz0:LST.length=0:=by rw [hz];rfl
     rw [er] at hg hnext
     repeat' ((first|(apply y4 ok;rfl)|(apply y50;first|omega|(unfold inI;omega)|(dsimp only;omega)|((try dsimp only);simp only [y56,y55,y54,y53,y64,y65];omega)|exact ⟨rfl,z38 rfl z45⟩)|((first|(with_reducible apply z8;omega)|(apply z8;omega));intro _)|((apply z5)<;>intro _))<;>conv=>whnf)
     all_goals try (exfalso;omega)
     all_goals refine z34 (i+1,S',G++[N++[(i:Int)]]) ⟨hnext,hg⟩ (by show 61 - (i+1) < 61 - i;omega) (by refine swR [0,1,2,3,9] [7] rfl rfl ?_;(repeat' first|exact y93 _|exact z11 _|(refine z43 ?_;((simp;done)))|apply y94|((first|refine z51 rfl ?_ ?_|refine z10 rfl ?_ ?_);(focus ((repeat' (first|exact z4 (fun _=>rfl)|apply z40));done)))|(refine z73 ?_ ?_;(focus (omega)))|((apply z285 rfl rfl rfl);(focus ((repeat (first|exact z53 (fun _=>rfl) _|apply z1089|apply unown_tk|rfl));done));(focus (((simp;done));done)))|(refine z221 ?_ ?_;(focus (simp;done)))|constructor))
    ·have er:z199 LST N i=N:=by unfold z199;rw [if_neg hz]
     have hz0:LST.length≠0:=fun h=>hz (y80 h)
     rw [er] at hg hnext
     repeat' ((first|(apply y4 ok;rfl)|(apply y50;first|omega|(unfold inI;omega)|((try dsimp only);simp only [y56,y55,y54,y53,y64,y65];omega)|exact ⟨rfl,z38 rfl z45⟩)|((first|(with_reducible apply z8;omega)|(apply z8;omega));intro _)|((apply z5)<;>intro _))<;>conv=>whnf)
     all_goals try (exfalso;omega)
     all_goals refine z34 (i+1,S',G++[N]) ⟨hnext,hg⟩ (by show 61 - (i+1) < 61 - i;omega) (by refine swR [0,1,2,3,7] [5] rfl rfl ?_;(repeat' first|exact y93 _|exact z11 _|(refine z43 ?_;((simp;done)))|apply y94|((first|refine z51 rfl ?_ ?_|refine z10 rfl ?_ ?_);(focus ((repeat' (first|exact z4 (fun _=>rfl)|apply z40));done)))|(refine z73 ?_ ?_;(focus (omega)))|((apply z285 rfl rfl rfl);(focus ((repeat ((exact z53 (fun _=>rfl) _)));done));(focus (((simp;done));done)))|constructor))
  ·have hn:S[i]?=none:=List.getElem?_eq_none_iff.2 (by omega)
   rw [show 61 - i=(60 - i)+1 by omega,grow,hn] at hg
   dsimp only at hg
   subst hg
   repeat' ((first|(apply y4 ok;rfl)|(apply y50;omega)|(((apply z8;omega));intro _)|((apply z5)<;>intro _))<;>conv=>whnf)
   all_goals first|(exfalso;contradiction)|skip
   all_goals (refine rsD [] [3,4] rfl ?_;(repeat' first|exact y93 _|((apply z66 rfl rfl rfl);(focus ((repeat ((exact z53 (fun _=>rfl) _)));done));(focus (((simp;done));done)))|apply z64|apply z72|constructor))
 ·have eb:z137 s=none:=by unfold z137;rw [if_neg hv]
  rw [if_neg hv,(y78 _).mp hv] at c0
  rw [eb]
  refine z6 z9 Tryz.func48 rfl rfl 96 Tryz.ntmps48 (by simp) ?_
  repeat' ((first|(apply y4 ok;rfl)|(apply z0 (c0);rfl;rfl))<;>conv=>whnf)
  all_goals refine y14 [] [] rfl rfl rfl ?_
  all_goals exact y13 z359 .nil
end Go.Proofs.YtnfoijopccdjeaaGreat
namespace Go.Proofs.YtnfoijopccdjeaaGreat
open Go.Gl
attribute [local irreducible] z16 AWP z29 z32 z30
theorem z171 {objs:Nat→AObj} {π Bn:List Nat} {o:Nat} {l:List State} (ho:objs o=.cells 2 (l.map State.co)) (h1:idx π o=none) (h2:inB Bn o=true):bor objs π Bn (.sref o 0 l.length)=lst 2 State.cs l:=by
 refine z143 ho h1 h2 (by simp) ?_
 rw [z104,List.map_map]
 refine List.map_congr_left fun s _=>?_
 show [AC.list 1 _ (z62 _),AC.list 1 _ (z62 _)]=_
 have e:∀ l:List Int,z62 (l.map enI)=l.map enI:=fun l=>z170 (fun n=>Value.int .i64 n) l
 rw [e,e]
 simp [State.cs,ints]
theorem z569 {objs:Nat→AObj} {π Bn:List Nat} {o:Nat} {l:List Tree} (ho:objs o=.cells 3 (l.map Tree.co')) (h1:idx π o=none) (h2:inB Bn o=true):bor objs π Bn (.sref o 0 l.length)=lst 3 Tree.cs' l :=
 z143 ho h1 h2 (by simp) (y45 l)
theorem toExprSN {l:List Tree} (h:LabOk l):CallsA Tryz.prog 17 [lst 3 Tree.cs' l] [] (.sref 0 0 l.length) [.cells 3 (l.map Tree.co')]:=z506 l h.len (fun t ht=>z418 t (h.el t ht))
def Graph.ml (g:Graph):Nat:=(g.st.map State.sz).sum+(g.nx.map List.length).sum
def lml (l:List Tree):Nat:=2 * (l.length+(l.map Tree.sz).sum)
theorem lml_le {l:List Tree} (h:LabOk l):lml l≤4194304:=by
 have:=h.len;have:=h.sum
 unfold lml;omega
theorem Graph.ml_le {g:Graph} (h:g.ok):g.ml≤4194304:=by
 have:=h.sumS;have:=h.sumN
 unfold Graph.ml;omega
theorem z1017 {l:List Tree} (h:LabOk l) (k:Int) (h0:0≤k) (h1:k≤1000000000):CallsA Tryz.prog 24 [.sref 0 0 l.length,.int k] [.cells 3 (l.map Tree.co')] (.int (k+lml l)) [.cells 3 (List.replicate l.length [.any,.any,.any])]:=by
 have h2:=h.len
 have h3:=h.sum
 have:=z771 l k h.len h.el h0 (by omega)
 rw [show (k+2 * ((l.length+(l.map Tree.sz).sum:Nat):Int))=k+lml l by unfold lml;omega] at this
 exact this
theorem GB.row {g:Graph} (h:GB g):∀ i (hi:i < g.nx.length),1≤g.nx[i].length∧g.nx[i].length≤60∧InN g.st.length g.nx[i]:=fun i hi=>by
 obtain ⟨⟨g1,g2⟩,g3,g4⟩:=h
 have h4:=g4 i hi hi (by omega)
 refine ⟨by have:=h4.2.1;omega,by have:=h4.2.1;omega,fun x hx=>?_⟩
 obtain ⟨j,hj,rfl⟩:=List.mem_iff_getElem.1 hx
 have:=(h4.2.2.2 j hj hj).1
 omega
theorem z802 (a b:List Int) (ha:a.length≤maxLen) (hb:b.length≤maxLen):CallsA Tryz.prog 54 [ints a,ints b] [] (.bool (decide (a=b))) []:=by
 unfold maxLen at ha hb
 refine z7 z9 Tryz.func54 rfl rfl 26 Tryz.ntmps54 (by simp) ?_
 by_cases hl:a.length=b.length
 ·repeat' (first|(apply y4 ok;rfl;conv=>whnf)|(apply z28<;>intro _<;>conv=>whnf))
  all_goals try (exfalso;omega)
  refine z85 (fun k:Nat=>([(0,ints a),(1,ints b),(12,.int a.length),(13,.int k)],[])) (fun k=>k≤a.length∧a.take k=b.take k) (fun k=>a.length - k) 0 (by simp) ⟨[],rfl,by decide,rfl,⟨⟨rfl,rfl⟩,⟨rfl,rfl⟩,⟨rfl,rfl⟩,⟨rfl,rfl⟩,trivial⟩,trivial⟩ ?_
  rintro k ⟨hk1,hk2⟩
  by_cases hkl:k < a.length
  ·have hkb:k < b.length:=by omega
   by_cases he:a[k]=b[k]
   ·repeat' (first|(apply y4 ok;rfl;conv=>whnf)|(apply z17;kernel_rfl;conv=>whnf)|(apply y50;(first|omega|(unfold inI;omega));conv=>whnf)|(with_reducible apply z8;omega;intro _;conv=>whnf)|(apply z5<;>intro _<;>conv=>whnf)|(apply z28<;>intro _<;>conv=>whnf))
    all_goals try (exfalso;omega)
    refine z78 (k+1) [] ⟨by omega,?_⟩ (by omega) ⟨rfl,by decide,rfl,⟨⟨rfl,rfl⟩,⟨rfl,rfl⟩,⟨rfl,rfl⟩,⟨rfl,rfl⟩,trivial⟩,trivial⟩
    rw [y57 hkl,y57 hkb,hk2,he]
   ·have hne:a≠b:=by rintro rfl;exact he rfl
    repeat' (first|(apply y4 ok;rfl;conv=>whnf)|(apply z17;kernel_rfl;conv=>whnf)|(apply y50;(omega);conv=>whnf)|(with_reducible apply z8;omega;intro _;conv=>whnf)|(apply z5<;>intro _<;>conv=>whnf)|(apply z28<;>intro _<;>conv=>whnf))
    all_goals try (exfalso;omega)
    exact z21 rfl (y90 hne)
  ·repeat' (first|(apply y4 ok;rfl;conv=>whnf)|(apply z17;kernel_rfl;conv=>whnf)|(apply y50;(omega);conv=>whnf)|(with_reducible apply z8;omega;intro _;conv=>whnf)|(apply z5<;>intro _<;>conv=>whnf)|(apply z28<;>intro _<;>conv=>whnf))
   all_goals try (exfalso;omega)
   rw [y63 (by omega),y63 (by omega)] at hk2
   exact z21 rfl (y89 hk2)
 ·have hne:a≠b:=by rintro rfl;exact hl rfl
  repeat' (first|(apply y4 ok;rfl;conv=>whnf)|(apply z28<;>intro _<;>conv=>whnf))
  all_goals try (exfalso;omega)
  exact z21 rfl (y90 hne)
def onB (t:Trans) (n:Int):Bool:=decide (((n.toNat &&& t.care.toNat:Nat):Int)=t.val)
def z288 (n:Nat) (i:Nat) (ℓ to:Int) (e:Trans):List (Nat×Int):=if onB e ℓ then [((i:Nat) * n+e.src.toNat,to * n+e.dst)] else []
def z527 (n:Nat) (ed:List Trans) (i:Nat) (ℓ to:Int):List (Nat×Int):=ed.flatMap (z288 n i ℓ to)
def z427 (n:Nat) (ed:List Trans) (nx:List (List Int)) (ls:List Int) (i:Nat):List (Nat×Int):=(nx.getD i []).flatMap (z527 n ed i (ls.getD i 0))
def z526 (g:Graph) (ls:List Int) (a:Aut):List (Nat×Int):=(List.range g.st.length).flatMap (z427 a.acc.length a.ed g.nx ls)
def z44 (g:Graph) (ls:List Int) (a:Aut):List (List Int):=build (a.acc.length * g.st.length) (z526 g ls a)
theorem z525 (g:Graph) (hg:GB g) (ls:List Int) (a:Aut) (ha:AutP a):(z526 g ls a).length≤7372800:=by
 obtain ⟨⟨g1,g2⟩,g3,g4⟩:=hg
 have h1:∀ i ℓ to,(z527 a.acc.length a.ed i ℓ to).length≤2048:=fun i ℓ to=>by
  have:=z260 (f:=z288 a.acc.length i ℓ to) (c:=1) a.ed (fun e _=>by unfold z288;split<;>simp)
  have:=ha.2.1
  unfold z527;omega
 have h2:∀ i∈List.range g.st.length,(z427 a.acc.length a.ed g.nx ls i).length≤122880:=fun i hi=>by
  rw [y67] at hi
  unfold z427
  rw [z18 (l:=g.nx) (by omega)]
  have h3:=z260 (f:=z527 a.acc.length a.ed i (ls.getD i 0)) (c:=2048) g.nx[i] (fun e _=>h1 _ _ _)
  have h4:=(g4 i (by omega) (by omega) hi).2.1
  have:g.nx[i].length * 2048≤60 * 2048:=Nat.mul_le_mul_right _ (by omega)
  omega
 have h5:=z260 (f:=z427 a.acc.length a.ed g.nx ls) (c:=122880) (List.range g.st.length) h2
 rw [List.length_range] at h5
 have:g.st.length * 122880≤60 * 122880:=Nat.mul_le_mul_right _ (by omega)
 unfold z526;omega
theorem z689 (g:Graph) (hg:GB g) (ls:List Int) (hls:ls.length=g.st.length) (hlr:∀ x∈ls,0≤x∧x≤7) (a:Aut) (ha:AutP a):CallsA Tryz.prog 179 [.agg g.cs,ints ls,.agg a.cs] [] (.sref 0 0 (a.acc.length * g.st.length)) [.cells 1 ((z44 g ls a).map z122)]:=by
 have hpl:=z525 g hg ls a ha
 obtain ⟨⟨g1,g2⟩,g3,g4⟩:=hg
 obtain ⟨⟨a1,a2⟩,a3,_,a5⟩:=ha
 have hN:=z179 (a:=(a.acc.length:Int)) (b:=(g.st.length:Int)) (A:=64) (B:=60) (by omega) (by omega) (by omega) (by omega)
 have hNn:((a.acc.length * g.st.length:Nat):Int)=(a.acc.length:Int) * g.st.length:=by simp
 refine z7 z9 Tryz.func179 rfl rfl 93 Tryz.ntmps179 (by simp) ?_
 repeat' (first|(apply y4 ok;rfl;conv=>whnf)|(apply y50;(first|(unfold inI;omega)|(dsimp only;omega));conv=>whnf))
 refine y92 (Gl.Reach.weaken (es':=List.replicate (a.acc.length * g.st.length) [.own 1 []]) 2 rfl (by rw [y53,y53];rfl) z349 rfl) ?_
 conv=>whnf
 have hrow:∀ i (hi:i < g.nx.length),∀ x∈g.nx[i],0≤x∧x≤g.st.length - 1:=fun i hi x hx=>by
  obtain ⟨j,hj,rfl⟩:=List.mem_iff_getElem.1 hx
  exact ((g4 i hi hi (by omega)).2.2.2 j hj hj).1
 have hlen:∀ i (hi:i < g.nx.length),g.nx[i].length≤60:=fun i hi=>by
  have:=(g4 i hi hi (by omega)).2.1;omega
 refine z85 (fun x:Nat×List (Nat×Int)=>([(1,ints ls),(3,.ptr 0 none 0),(5,.ptr 1 none 0),(7,.int a.acc.length),(8,.sref 2 0 (a.acc.length * g.st.length)),(9,.int x.1)],[.cells 2 [[lst 2 State.cs g.st,lst 1 encL g.nx]],.cells 3 [[lst 1 enI a.ini,lst 1 enB a.acc,lst 4 Trans.cs a.ed]],.cells 1 ((build (a.acc.length * g.st.length) x.2).map z122)])) (fun x=>x.1≤g.st.length∧x.2++((List.range g.st.length).drop x.1).flatMap (z427 a.acc.length a.ed g.nx ls)=z526 g ls a) (fun x=>g.st.length - x.1) (0,[]) ⟨by omega,rfl⟩
  ⟨[0,1,2],rfl,by decide,rfl,⟨⟨rfl,rfl⟩,⟨rfl,rfl⟩,⟨rfl,rfl⟩,⟨rfl,rfl⟩,⟨rfl,rfl⟩,⟨rfl,rfl⟩,trivial⟩,⟨z24 rfl rfl,z24 rfl rfl,z25 (z39 (z944 _).symm) (z4 fun _=>rfl),trivial⟩⟩ ?_
 rintro ⟨i,ps⟩ ⟨hi1,hi2⟩
 dsimp only at hi1 hi2 ⊢
 repeat' (first|(apply y4 ok;rfl;conv=>whnf)|(apply z5<;>intro _<;>conv=>whnf))
 ·have hig:i < g.st.length:=by omega
  rw [z181 _ _ _ (by simpa using hig),List.getElem_range] at hi2
  have hin:i < g.nx.length:=by omega
  have hrow:=hrow i hin
  have hlen:=hlen i hin
  have hli:=hlr ls[i] (y51 _)
  have hpI:z427 a.acc.length a.ed g.nx ls i=g.nx[i].flatMap (z527 a.acc.length a.ed i ls[i]):=by
   unfold z427
   rw [z18 hin,z18 (by omega)]
  rw [hpI] at hi2
  refine z85 (fun x:Nat×List (Nat×Int)=>([(1,ints ls),(3,.ptr 0 none 0),(5,.ptr 1 none 0),(7,.int a.acc.length),(8,.sref 2 0 (a.acc.length * g.st.length)),(9,.int i),(10,.int x.1)],[.cells 2 [[lst 2 State.cs g.st,lst 1 encL g.nx]],.cells 3 [[lst 1 enI a.ini,lst 1 enB a.acc,lst 4 Trans.cs a.ed]],.cells 1 ((build (a.acc.length * g.st.length) x.2).map z122)])) (fun x=>x.1≤g.nx[i].length∧x.2++((g.nx[i].drop x.1).flatMap (z527 a.acc.length a.ed i ls[i])++((List.range g.st.length).drop (i+1)).flatMap (z427 a.acc.length a.ed g.nx ls))=z526 g ls a) (fun x=>g.nx[i].length - x.1) (0,ps) ⟨by omega,hi2⟩
   ⟨[0,1,2],rfl,by decide,rfl,⟨⟨rfl,rfl⟩,⟨rfl,rfl⟩,⟨rfl,rfl⟩,⟨rfl,rfl⟩,⟨rfl,rfl⟩,⟨rfl,rfl⟩,⟨rfl,rfl⟩,trivial⟩,⟨z24 rfl rfl,z24 rfl rfl,z25 rfl (z4 fun _=>rfl),trivial⟩⟩ ?_
  rintro ⟨j,ps⟩ ⟨hj1,hj2⟩
  dsimp only at hj1 hj2 ⊢
  repeat' (first|(apply y4 ok;rfl;conv=>whnf)|(apply y50;(first|omega|(unfold inI;omega));conv=>whnf)|(with_reducible apply z8;omega;intro _;conv=>whnf)|(apply z5<;>intro _<;>conv=>whnf))
  ·have hjn:j < g.nx[i].length:=by omega
   rw [z181 _ _ _ hjn,List.append_assoc] at hj2
   have hto:=hrow g.nx[i][j] (y51 _)
   refine z85 (fun x:Nat×List (Nat×Int)=>([(1,ints ls),(3,.ptr 0 none 0),(5,.ptr 1 none 0),(7,.int a.acc.length),(8,.sref 2 0 (a.acc.length * g.st.length)),(9,.int i),(10,.int j),(11,.int x.1)],[.cells 2 [[lst 2 State.cs g.st,lst 1 encL g.nx]],.cells 3 [[lst 1 enI a.ini,lst 1 enB a.acc,lst 4 Trans.cs a.ed]],.cells 1 ((build (a.acc.length * g.st.length) x.2).map z122)])) (fun x=>x.1≤a.ed.length∧x.2++((a.ed.drop x.1).flatMap (z288 a.acc.length i ls[i] g.nx[i][j])++((g.nx[i].drop (j+1)).flatMap (z527 a.acc.length a.ed i ls[i])++((List.range g.st.length).drop (i+1)).flatMap (z427 a.acc.length a.ed g.nx ls)))=z526 g ls a) (fun x=>a.ed.length - x.1) (0,ps) ⟨by omega,hj2⟩
    ⟨[0,1,2],rfl,by decide,rfl,⟨⟨rfl,rfl⟩,⟨rfl,rfl⟩,⟨rfl,rfl⟩,⟨rfl,rfl⟩,⟨rfl,rfl⟩,⟨rfl,rfl⟩,⟨rfl,rfl⟩,⟨rfl,rfl⟩,trivial⟩,⟨z24 rfl rfl,z24 rfl rfl,z25 rfl (z4 fun _=>rfl),trivial⟩⟩ ?_
   rintro ⟨k,ps⟩ ⟨hk1,hk2⟩
   dsimp only at hk1 hk2 ⊢
   have hm1:=z179 (a:=(i:Int)) (b:=(a.acc.length:Int)) (A:=60) (B:=64) (by omega) (by omega) (by omega) (by omega)
   have hm2:=z179 (a:=g.nx[i][j]) (b:=(a.acc.length:Int)) (A:=60) (B:=64) (by omega) (by omega) (by omega) (by omega)
   by_cases hke:k < a.ed.length
   ·have he:=a5 a.ed[k] (y51 hke)
    unfold z401 at he
    have hlt:i * a.acc.length+a.ed[k].src.toNat < (build (a.acc.length * g.st.length) ps).length:=by
     rw [z86]
     have h1:(i+1) * a.acc.length≤g.st.length * a.acc.length:=Nat.mul_le_mul_right _ hig
     rw [Nat.add_mul,Nat.one_mul,Nat.mul_comm g.st.length] at h1
     omega
    repeat' (first|((fail_if_success apply z65 14);(fail_if_success apply z50 14);apply y4 ok;rfl;conv=>whnf)|(apply z17;kernel_rfl;conv=>whnf)|(apply y50;(first|omega|(unfold inI;omega));conv=>whnf)|(with_reducible apply z8;omega;intro _;conv=>whnf)|(apply z5<;>intro _<;>conv=>whnf)|(apply z0 (l7On_ok a.ed[k] ls[i] hli.1 hli.2 (a5 _ (y51 _)).2.2.1);rfl;rfl;conv=>whnf))
    ·have hon:((ls[i].toNat &&& a.ed[k].care.toNat:Nat):Int)=a.ed[k].val:=by assumption
     have hrl:(build (a.acc.length * g.st.length) ps)[i * a.acc.length+a.ed[k].src.toNat].length≤1000000000:=by
      have h1:=z307 (N:=a.acc.length * g.st.length) (ps:=ps) hlt
      have h2:=congrArg List.length hk2
      rw [y54] at h2
      omega
     have hin:((i:Int) * a.acc.length+a.ed[k].src).toNat=i * a.acc.length+a.ed[k].src.toNat:=by
      have e:((i * a.acc.length:Nat):Int)=(i:Int) * a.acc.length:=by simp
      omega
     have hlt2:((i:Int) * a.acc.length+a.ed[k].src).toNat < a.acc.length * g.st.length:=by
      rw [hin,← z86 (a.acc.length * g.st.length) ps];exact hlt
     have hmap:i * a.acc.length+a.ed[k].src.toNat < ((build (a.acc.length * g.st.length) ps).map z122).length:=by rw [y56];exact hlt
     refine y92 (Gl.Reach.expose (e:=z122 (build (a.acc.length * g.st.length) ps)[i * a.acc.length+a.ed[k].src.toNat]) 2 (i * a.acc.length+a.ed[k].src.toNat) 0 rfl (by rw [y58,y52 hlt];rfl) rfl (z155 (fun _=>rfl) _) rfl) ?_
     conv=>whnf
     (apply y4 ok;rfl;conv=>whnf)
     repeat' (first|(apply z17;kernel_rfl;conv=>whnf)|(apply z225;exact hin;exact hmap;conv=>whnf)|(apply y50;(first|omega|(unfold inI;omega)|((try dsimp only);simp only [y56,y55,y54,y53,y64,y65];omega)|exact ⟨rfl,z38 rfl z45⟩);conv=>whnf)|(with_reducible apply z8;omega;intro _;conv=>whnf))
     refine y92 (Gl.Reach.absorb 2 5 (i * a.acc.length+a.ed[k].src.toNat) 0 rfl (z148 hin (by rw [y88];exact hmap)) rfl rfl (by simp) rfl (z52 (fun e he=>(z4 (fun _=>rfl)) e (List.mem_of_mem_take he)) (z206 rfl z33)) rfl) ?_
     conv=>whnf
     repeat' (first|(apply y4 ok;rfl;conv=>whnf)|(apply y50;((unfold inI;omega));conv=>whnf))
     rw [z181 _ _ _ hke] at hk2
     have hpe:z288 a.acc.length i ls[i] g.nx[i][j] a.ed[k]=[(i * a.acc.length+a.ed[k].src.toNat,g.nx[i][j] * a.acc.length+a.ed[k].dst)]:=by
      unfold z288 onB;rw [if_pos (y89 hon)]
     rw [hpe,List.append_assoc,← List.append_assoc] at hk2
     exact z78 (k+1,ps++[(i * a.acc.length+a.ed[k].src.toNat,g.nx[i][j] * a.acc.length+a.ed[k].dst)]) [0,1,2] ⟨by dsimp only;omega,hk2⟩ (by dsimp only;omega)
      ⟨rfl,by decide,rfl,⟨⟨rfl,rfl⟩,⟨rfl,rfl⟩,⟨rfl,rfl⟩,⟨rfl,rfl⟩,⟨rfl,rfl⟩,⟨rfl,rfl⟩,⟨rfl,rfl⟩,⟨rfl,rfl⟩,trivial⟩,⟨z24 rfl rfl,z24 rfl rfl,z25 (z39 (rows_push' hlt hin (by simp))) (z4 fun _=>rfl),trivial⟩⟩
    ·rename_i hon
     rw [z181 _ _ _ hke] at hk2
     have hpe:z288 a.acc.length i ls[i] g.nx[i][j] a.ed[k]=[]:=by
      unfold z288 onB;rw [if_neg (by simpa using hon)]
     rw [hpe,List.nil_append] at hk2
     exact z78 (k+1,ps) [0,1,2] ⟨by dsimp only;omega,hk2⟩ (by dsimp only;omega)
      ⟨rfl,by decide,rfl,⟨⟨rfl,rfl⟩,⟨rfl,rfl⟩,⟨rfl,rfl⟩,⟨rfl,rfl⟩,⟨rfl,rfl⟩,⟨rfl,rfl⟩,⟨rfl,rfl⟩,⟨rfl,rfl⟩,trivial⟩,⟨z24 rfl rfl,z24 rfl rfl,z25 rfl (z4 fun _=>rfl),trivial⟩⟩
    ·omega
   ·repeat' (first|((fail_if_success apply z65 14);(fail_if_success apply z50 14);apply y4 ok;rfl;conv=>whnf)|(apply y50;(first|omega|(unfold inI;omega));conv=>whnf)|(with_reducible apply z8;omega;intro _;conv=>whnf)|(apply z5<;>intro _<;>conv=>whnf))
    ·omega
    ·rw [z109 _ _ _ (by omega),List.nil_append] at hk2
     exact z78 (j+1,ps) [0,1,2] ⟨by dsimp only;omega,hk2⟩ (by dsimp only;omega)
      ⟨rfl,by decide,rfl,⟨⟨rfl,rfl⟩,⟨rfl,rfl⟩,⟨rfl,rfl⟩,⟨rfl,rfl⟩,⟨rfl,rfl⟩,⟨rfl,rfl⟩,⟨rfl,rfl⟩,trivial⟩,⟨z24 rfl rfl,z24 rfl rfl,z25 rfl (z4 fun _=>rfl),trivial⟩⟩
  ·rw [z109 _ _ _ (by omega),List.nil_append] at hj2
   exact z78 (i+1,ps) [0,1,2] ⟨by dsimp only;omega,hj2⟩ (by dsimp only;omega)
    ⟨rfl,by decide,rfl,⟨⟨rfl,rfl⟩,⟨rfl,rfl⟩,⟨rfl,rfl⟩,⟨rfl,rfl⟩,⟨rfl,rfl⟩,⟨rfl,rfl⟩,trivial⟩,⟨z24 rfl rfl,z24 rfl rfl,z25 rfl (z4 fun _=>rfl),trivial⟩⟩
 ·rw [z109 _ _ _ (by simp;omega),y71] at hi2
  subst hi2
  exact z252 rfl (z4 fun _=>rfl) rfl rfl
theorem keepRows {f:FuncId} {args:List AC} {n:Nat} {l:List (List Int)} (h:CallsA Tryz.prog f args [] (.sref 0 0 n) [.cells 1 (l.map z122)]) (hl:l.length=n):CallsA Tryz.prog f args [] (lst 1 encL l) []:=by
 refine h.lend [] [0] rfl rfl rfl ?_ z14
 rw [z330 (w:=1) (es:=l.map z122) rfl rfl rfl (by rw [y56];exact hl),z618,← hl];rfl
theorem z777 (g:Graph) (hg:GB g) (ls:List Int) (hls:ls.length=g.st.length) (hlr:∀ x∈ls,0≤x∧x≤7) (a:Aut) (ha:AutP a):CallsA Tryz.prog 179 [.agg g.cs,ints ls,.agg a.cs] [] (lst 1 encL (z44 g ls a)) [] :=
 keepRows (z689 g hg ls hls hlr a ha) (z86 _ _)
def z69 (a:Aut):List (List Trans):=z106 a.acc.length (a.ed.map fun e=>(e.src.toNat,e))
def encT (r:List Trans):List AC:=[.list 4 r.length (r.map Trans.cs)]
theorem ltr_lt (v:List Int):∀ (l:List Tree) (k n:Nat),n < 2 ^ k→ltr v l k n < 2 ^ (k+l.length):=by
 intro l
 induction l with
 |nil=>intro k n h;simpa [ltr] using h
 |cons t l ih =>
  intro k n h
  rw [ltr]
  have e:k+(t::l).length=k+1+l.length:=by simp only [y64];omega
  rw [e]
  refine ih (k+1) _ ?_
  split
  ·rw [Nat.pow_succ];omega
  ·exact or_lt h
theorem z294 {l:List Tree} (hl:z165 l) (s:State):0≤z49 l s∧z49 l s≤7:=by
 have:=ltr_lt s.b l 0 0 (by decide)
 rw [hl.1] at this
 unfold z49
 have e:(2:Nat) ^ (0+3)=8:=by decide
 omega
def pE2 (n i q:Nat) (ℓ to:Int) (e:Trans):List (Nat×Int):=if onB e ℓ then [(i * n+q,to * n+e.dst)] else []
def pTo (n:Nat) (row:List Trans) (i q:Nat) (ℓ to:Int):List (Nat×Int):=row.flatMap (pE2 n i q ℓ to)
def pQ (n:Nat) (nxi:List Int) (rows:List (List Trans)) (i:Nat) (ℓ:Int) (q:Nat):List (Nat×Int):=nxi.flatMap (pTo n (rows.getD q []) i q ℓ)
def pI2 (n:Nat) (nx:List (List Int)) (rows:List (List Trans)) (ls:List Int) (i:Nat):List (Nat×Int):=(List.range n).flatMap (pQ n (nx.getD i []) rows i (ls.getD i 0))
def pS2 (g:Graph) (ls:List Int) (a:Aut):List (Nat×Int):=(List.range g.st.length).flatMap (pI2 a.acc.length g.nx (z69 a) ls)
theorem z326 {a:Aut} {q:Nat} (h:q < a.acc.length):(z69 a).getD q []=a.ed.filter (fun e=>e.src.toNat == q):=by
 unfold z69
 rw [z18 (by rw [z160];exact h),z328,List.filter_map,List.map_map]
 exact List.map_id _
theorem z1129 {β:Type} {F:Nat→List β} {n q0:Nat} (hq:q0 < n) (h:∀ q,q < n→q≠q0→F q=[]):(List.range n).flatMap F=F q0:=by
 have:∀ m,(List.range m).flatMap F=if q0 < m∧m≤n then F q0 else if m≤n then [] else (List.range m).flatMap F:=by
  intro m
  induction m with
  |zero=>simp
  |succ m ih =>
   by_cases hm:m+1≤n
   ·rw [y68,List.flatMap_append,ih,List.flatMap_cons,List.flatMap_nil,y71]
    by_cases h1:q0 < m
    ·rw [if_pos ⟨h1,by omega⟩,if_pos ⟨by omega,hm⟩,h m (by omega) (by omega),y71]
    ·rw [if_neg (by omega),if_pos (by omega)]
     by_cases h2:q0=m
     ·subst h2;rw [if_pos ⟨by omega,hm⟩];rfl
     ·rw [if_neg (by omega),if_pos hm,h m (by omega) (by omega)];rfl
   ·rw [if_neg (by omega),if_neg hm]
 rw [this n,if_pos ⟨hq,y59 _⟩]
theorem z1003 {β:Type} {F:Nat→List β} {n:Nat} (h:∀ q,q < n→F q=[]):(List.range n).flatMap F=[]:=by
 rw [List.flatMap_eq_nil_iff]
 intro q hq
 exact h q (List.mem_range.1 hq)
theorem pS2_rows (g:Graph) (ls:List Int) (a:Aut) (ha:AutP a) (r:Nat):(pS2 g ls a).filter (fun p=>p.1 == r)=(z526 g ls a).filter (fun p=>p.1 == r):=by
 unfold pS2 z526
 rw [List.filter_flatMap,List.filter_flatMap]
 refine z634 fun i hi=>?_
 unfold pI2 z427
 rw [List.filter_flatMap,List.filter_flatMap]
 have hsrc:∀ e∈a.ed,e.src.toNat < a.acc.length:=fun e he=>by
  have:=(ha.2.2.2 e he).1;omega
 by_cases hr:i * a.acc.length≤r∧r < i * a.acc.length+a.acc.length
 ·obtain ⟨q0,rfl⟩:∃ q0,r=i * a.acc.length+q0:=⟨r - i * a.acc.length,by omega⟩
  have hq0:q0 < a.acc.length:=by omega
  rw [z1129 hq0 (fun q hq hne=>by
   unfold pQ
   rw [List.filter_flatMap]
   refine List.flatMap_eq_nil_iff.2 fun to _=>?_
   unfold pTo
   rw [List.filter_flatMap]
   refine List.flatMap_eq_nil_iff.2 fun e _=>?_
   unfold pE2
   split
   ·simp;omega
   ·rfl)]
  unfold pQ
  rw [List.filter_flatMap,z326 hq0]
  refine z634 fun to _=>?_
  unfold pTo z527
  rw [List.filter_flatMap,List.filter_flatMap]
  induction a.ed with
  |nil=>rfl
  |cons e es ih =>
   rw [List.flatMap_cons,← ih,List.filter_cons]
   by_cases he:e.src.toNat=q0
   ·rw [if_pos (by simpa using he),List.flatMap_cons]
    unfold pE2 z288
    rw [he]
   ·rw [if_neg (by simpa using he)]
    have:(z288 a.acc.length i (ls.getD i 0) to e).filter (fun p=>p.1 == i * a.acc.length+q0)=[]:=by
     unfold z288
     split
     ·simp;omega
     ·rfl
    rw [this,List.nil_append]
 ·rw [z1003 (fun q hq=>by
   unfold pQ
   rw [List.filter_flatMap]
   refine List.flatMap_eq_nil_iff.2 fun to _=>?_
   unfold pTo
   rw [List.filter_flatMap]
   refine List.flatMap_eq_nil_iff.2 fun e _=>?_
   unfold pE2
   split
   ·simp;omega
   ·rfl)]
  symm
  refine List.flatMap_eq_nil_iff.2 fun to _=>?_
  unfold z527
  rw [List.filter_flatMap]
  refine List.flatMap_eq_nil_iff.2 fun e he=>?_
  have:=hsrc e he
  unfold z288
  split
  ·simp;omega
  ·rfl
theorem pS2_len (g:Graph) (hg:GB g) (ls:List Int) (a:Aut) (ha:AutP a):(pS2 g ls a).length≤1000000000:=by
 obtain ⟨⟨g1,g2⟩,g3,g4⟩:=hg
 have h2:∀ i∈List.range g.st.length,(pI2 a.acc.length g.nx (z69 a) ls i).length≤7864320:=fun i hi=>by
  rw [y67] at hi
  unfold pI2
  rw [z18 (l:=g.nx) (by omega)]
  have h3:=z260 (f:=pQ a.acc.length g.nx[i] (z69 a) i (ls.getD i 0)) (c:=122880) (List.range a.acc.length) (fun q hq=>by
   have h1:∀ to,(pTo a.acc.length ((z69 a).getD q []) i q (ls.getD i 0) to).length≤2048:=fun to=>by
    have h5:=z260 (f:=pE2 a.acc.length i q (ls.getD i 0) to) (c:=1) ((z69 a).getD q []) (fun e _=>by unfold pE2;split<;>simp)
    rw [z326 (List.mem_range.1 hq)] at h5 ⊢
    have:=List.length_filter_le (fun e:Trans=>e.src.toNat == q) a.ed
    have:=ha.2.1
    unfold pTo;omega
   have h3:=z260 (f:=pTo a.acc.length ((z69 a).getD q []) i q (ls.getD i 0)) (c:=2048) g.nx[i] (fun to _=>h1 to)
   have h4:=(g4 i (by omega) (by omega) hi).2.1
   have:g.nx[i].length * 2048≤60 * 2048:=Nat.mul_le_mul_right _ (by omega)
   unfold pQ;omega)
  rw [List.length_range] at h3
  have:a.acc.length * 122880≤64 * 122880:=Nat.mul_le_mul_right _ ha.1.2
  omega
 have h5:=z260 (f:=pI2 a.acc.length g.nx (z69 a) ls) (c:=7864320) (List.range g.st.length) h2
 rw [List.length_range] at h5
 have:g.st.length * 7864320≤60 * 7864320:=Nat.mul_le_mul_right _ (by omega)
 unfold pS2;omega
theorem z1207 (g:Graph) (ls:List Int) (a:Aut) (ha:AutP a):build (g.st.length * a.acc.length) (pS2 g ls a)=z44 g ls a:=by
 unfold z44 build
 rw [Nat.mul_comm]
 refine List.map_congr_left fun r _=>?_
 rw [pS2_rows g ls a ha r]
set_option maxHeartbeats 800000 in
theorem z870 (g:Graph) (hg:GB g) (l:List Tree) (hl:z165 l) (a:Aut) (ha:AutP a):CallsA Tryz.prog 135 [.agg g.cs,lst 3 Tree.cs' l,.agg a.cs] [] (.tup [.sref 0 0 (g.st.length * a.acc.length),ints a.ini]) [.cells 1 ((z44 g (g.st.map (z49 l)) a).map z122)]:=by
 have hvals:=hg.vals
 have hpl:=z525 g hg (g.st.map (z49 l)) a ha
 have hini:=ha.2.2.1.le (by omega)
 obtain ⟨⟨g1,g2⟩,g3,g4⟩:=hg
 obtain ⟨⟨a1,a2⟩,a3,a4,a5⟩:=ha
 have hN:=z179 (a:=(g.st.length:Int)) (b:=(a.acc.length:Int)) (A:=60) (B:=64) (by omega) (by omega) (by omega) (by omega)
 refine z7 z9 Tryz.func135 rfl rfl 117 Tryz.ntmps135 (by simp) ?_
 repeat' (first|(apply y4 ok;rfl;conv=>whnf)|(apply y50;((dsimp only;omega));conv=>whnf))
 refine y92 (Gl.Reach.weaken (es':=List.replicate a.acc.length [.own 4 []]) 2 rfl (by rw [y53,y53];rfl) z349 rfl) ?_
 conv=>whnf
 refine z85 (fun k:Nat=>([(1,lst 3 Tree.cs' l),(3,.ptr 0 none 0),(5,.ptr 1 none 0),(8,.int a.acc.length),(9,.sref 2 0 a.acc.length),(26,lst 4 Trans.cs a.ed),(27,.int a.ed.length),(28,.int k)],[.cells 2 [[lst 2 State.cs g.st,lst 1 encL g.nx]],.cells 3 [[lst 1 enI a.ini,lst 1 enB a.acc,lst 4 Trans.cs a.ed]],.cells 1 ((z106 a.acc.length ((a.ed.take k).map fun e=>(e.src.toNat,e))).map (ownG 4 Trans.cs))])) (fun k=>k≤a.ed.length) (fun k=>a.ed.length - k) 0 (by omega)
  ⟨[0,1,2],rfl,by decide,rfl,⟨⟨rfl,rfl⟩,⟨rfl,rfl⟩,⟨rfl,rfl⟩,⟨rfl,rfl⟩,⟨rfl,rfl⟩,⟨rfl,rfl⟩,⟨rfl,rfl⟩,⟨rfl,rfl⟩,trivial⟩,⟨z24 rfl rfl,z24 rfl rfl,z25 (z39 (z1126 _ _ _).symm) (z4 fun _=>rfl),trivial⟩⟩ ?_
 intro k hk
 have hN2:((g.st.length * a.acc.length:Nat):Int)=(g.st.length:Int) * a.acc.length:=by simp
 repeat' (first|((fail_if_success apply z65 6);(fail_if_success apply z50 6);(fail_if_success apply z65 8);(fail_if_success apply z50 8);apply y4 ok;rfl;conv=>whnf)|(apply y50;(omega);conv=>whnf)|(with_reducible apply z8;omega;intro _;conv=>whnf)|(apply z5<;>intro _<;>conv=>whnf))
 ·have hkl:k < a.ed.length:=by assumption
  have he:=a5 a.ed[k] (y51 hkl)
  unfold z401 at he
  have hlt:a.ed[k].src.toNat < (z106 a.acc.length ((a.ed.take k).map fun e=>(e.src.toNat,e))).length:=by rw [z160];omega
  have hmap:a.ed[k].src.toNat < ((z106 a.acc.length ((a.ed.take k).map fun e=>(e.src.toNat,e))).map (ownG 4 Trans.cs)).length:=by rw [y56];exact hlt
  have hrl:=z719 hlt
  rw [y56,y55] at hrl
  refine y92 (Gl.Reach.expose (e:=ownG 4 Trans.cs (z106 a.acc.length ((a.ed.take k).map fun e=>(e.src.toNat,e)))[a.ed[k].src.toNat]) 2 a.ed[k].src.toNat 0 rfl (by rw [y58,y52 hlt];rfl) rfl (z155 (fun _=>rfl) _) rfl) ?_
  conv=>whnf
  (apply y4 ok;rfl;conv=>whnf)
  repeat' (first|(apply z17;kernel_rfl;conv=>whnf)|(apply z225;exact Nat.add_zero _;exact hmap;conv=>whnf)|(apply y50;(first|omega|((try dsimp only);simp only [y56,y55,y54,y53,y64,y65];omega)|exact ⟨rfl,z38 rfl z45⟩);conv=>whnf))
  refine y92 (Gl.Reach.absorb 2 6 a.ed[k].src.toNat 0 rfl (z148 (Nat.add_zero _) (by rw [y88];exact hmap)) rfl rfl (by simp) rfl (z52 (fun e he=>(z4 (fun _=>rfl)) e (List.mem_of_mem_take he)) (z206 rfl z33)) rfl) ?_
  conv=>whnf
  repeat' (first|((fail_if_success apply z65 6);(fail_if_success apply z50 6);(fail_if_success apply z65 8);(fail_if_success apply z50 8);apply y4 ok;rfl;conv=>whnf)|(apply y50;((unfold inI;omega));conv=>whnf))
  refine z78 (k+1) [0,1,2] (by omega) (by omega)
   ⟨rfl,by decide,rfl,⟨⟨rfl,rfl⟩,⟨rfl,rfl⟩,⟨rfl,rfl⟩,⟨rfl,rfl⟩,⟨rfl,rfl⟩,⟨rfl,rfl⟩,⟨rfl,rfl⟩,⟨rfl,rfl⟩,trivial⟩,⟨z24 rfl rfl,z24 rfl rfl,z25 (z39 ?_) (z4 fun _=>rfl),trivial⟩⟩
  have e1:((a.ed.take (k+1)).map fun e=>(e.src.toNat,e))=((a.ed.take k).map fun e=>(e.src.toNat,e))++[(a.ed[k].src.toNat,a.ed[k])]:=by
   rw [y57 hkl,y70];rfl
  rw [e1]
  exact z1001 hlt (Nat.add_zero _) (by simp) rfl
 obtain rfl:k=a.ed.length:=by omega
 refine y92 (SealL.reach (π:=[0,1]) (Bn:=[2]) (env:=[(1,lst 3 Tree.cs' l),(3,.ptr 0 none 0),(5,.ptr 1 none 0),(8,.int a.acc.length),(9,lst 1 encT (z69 a))]) (objs:=[.cells 2 [[lst 2 State.cs g.st,lst 1 encL g.nx]],.cells 3 [[lst 1 enI a.ini,lst 1 enB a.acc,lst 4 Trans.cs a.ed]]]) ⟨rfl,rfl,by simp,rfl,by intro o ho;simp at ho;rcases ho with rfl|rfl<;>rfl,⟨rfl,rfl,rfl,rfl,?_,trivial⟩,rfl⟩) ?_
 ·show bor _ _ _ (.sref 2 0 a.acc.length)=_
  rw [z330 (w:=1) (es:=(z106 a.acc.length ((a.ed.take a.ed.length).map fun e=>(e.src.toNat,e))).map (ownG 4 Trans.cs)) rfl rfl rfl (by rw [y56,z160]),z867 (fun t=>Trans.unown t),y62]
  unfold lst z69
  rw [z160];rfl
 conv=>whnf
 repeat' (first|(apply y4 ok;rfl;conv=>whnf)|(apply y50;(first|(unfold inI;omega)|(dsimp only;omega));conv=>whnf)|(apply z0 (label_ok g hvals g2 l hl);rfl;rfl;conv=>whnf))
 refine y92 (Gl.Reach.weaken (es':=List.replicate (g.st.length * a.acc.length) [.own 1 []]) 2 rfl (by rw [y53,y53];rfl) z349 rfl) ?_
 conv=>whnf
 have hls:(g.st.map (z49 l)).length=g.st.length:=by simp
 have hlr:∀ x∈g.st.map (z49 l),0≤x∧x≤7:=fun x hx=>by
  obtain ⟨s,_,rfl⟩:=List.mem_map.1 hx
  exact z294 hl s
 rw [← z1207 g _ a ⟨⟨a1,a2⟩,a3,a4,a5⟩]
 have hpl2:=pS2_len g ⟨⟨g1,g2⟩,g3,g4⟩ (g.st.map (z49 l)) a ⟨⟨a1,a2⟩,a3,a4,a5⟩
 generalize hlsd:g.st.map (z49 l)=ls at hls hlr hpl hpl2
 have hrow:∀ i (hi:i < g.nx.length),∀ x∈g.nx[i],0≤x∧x≤g.st.length - 1:=fun i hi x hx=>by
  obtain ⟨j,hj,rfl⟩:=List.mem_iff_getElem.1 hx
  exact ((g4 i hi hi (by omega)).2.2.2 j hj hj).1
 have hlen:∀ i (hi:i < g.nx.length),g.nx[i].length≤60:=fun i hi=>by
  have:=(g4 i hi hi (by omega)).2.1;omega
 have hel:(z69 a).length=a.acc.length:=z160 _ _
 have hed:∀ q (hq:q < (z69 a).length),∀ e∈(z69 a)[q],e∈a.ed:=fun q hq e he=>by
  rw [← z18 (d:=[]) hq,z326 (by omega)] at he;exact (List.mem_filter.1 he).1
 have hedl:∀ q (hq:q < (z69 a).length),(z69 a)[q].length≤2048:=fun q hq=>by
  rw [← z18 (d:=[]) hq,z326 (by omega)];exact Nat.le_trans (List.length_filter_le _ _) a3
 refine z85 (fun x:Nat×List (Nat×Int)=>([(3,.ptr 0 none 0),(5,.ptr 1 none 0),(8,.int a.acc.length),(9,lst 1 encT (z69 a)),(12,.sref 2 0 (g.st.length * a.acc.length)),(53,ints ls),(54,.int ls.length),(55,.int x.1)],[.cells 2 [[lst 2 State.cs g.st,lst 1 encL g.nx]],.cells 3 [[lst 1 enI a.ini,lst 1 enB a.acc,lst 4 Trans.cs a.ed]],.cells 1 ((build (g.st.length * a.acc.length) x.2).map z122)])) (fun x=>x.1≤ls.length∧x.2++((List.range g.st.length).drop x.1).flatMap (pI2 a.acc.length g.nx (z69 a) ls)=pS2 g ls a) (fun x=>ls.length - x.1) (0,[]) ⟨by omega,rfl⟩
  ⟨[0,1,2],rfl,by decide,rfl,⟨⟨rfl,by rfl⟩,⟨rfl,by rfl⟩,⟨rfl,by rfl⟩,⟨rfl,by rfl⟩,⟨rfl,by rfl⟩,⟨rfl,by rfl⟩,⟨rfl,by rfl⟩,⟨rfl,by rfl⟩,trivial⟩,⟨z24 rfl rfl,z24 rfl rfl,z25 (z39 (z944 _).symm) (z4 fun _=>rfl),trivial⟩⟩ ?_
 rintro ⟨i,ps⟩ ⟨hi1,hi2⟩
 dsimp only at hi1 hi2 ⊢
 repeat' (first|(apply y4 ok;rfl;conv=>whnf)|(apply y50;(omega);conv=>whnf)|(with_reducible apply z8;omega;intro _;conv=>whnf)|(apply z5<;>intro _<;>conv=>whnf))
 ·have hig:i < g.st.length:=by omega
  rw [z181 _ _ _ (by simpa using hig),List.getElem_range] at hi2
  have hin:i < g.nx.length:=by omega
  have hrow:=hrow i hin
  have hlen:=hlen i hin
  have hil:i < ls.length:=by omega
  have hli:=hlr ls[i] (y51 _)
  have hpI:pI2 a.acc.length g.nx (z69 a) ls i=(List.range a.acc.length).flatMap (pQ a.acc.length g.nx[i] (z69 a) i ls[i]):=by
   unfold pI2
   rw [z18 (l:=g.nx) hin,z18 (l:=ls) hil]
  rw [hpI] at hi2
  have hm1:=z179 (a:=(i:Int)) (b:=(a.acc.length:Int)) (A:=60) (B:=64) (by omega) (by omega) (by omega) (by omega)
  refine z85 (fun x:Nat×List (Nat×Int)=>([(3,.ptr 0 none 0),(5,.ptr 1 none 0),(8,.int a.acc.length),(9,lst 1 encT (z69 a)),(12,.sref 2 0 (g.st.length * a.acc.length)),(53,ints ls),(54,.int ls.length),(55,.int i),(13,.int i),(14,.int ls[i]),(60,.int a.acc.length),(61,.int x.1)],[.cells 2 [[lst 2 State.cs g.st,lst 1 encL g.nx]],.cells 3 [[lst 1 enI a.ini,lst 1 enB a.acc,lst 4 Trans.cs a.ed]],.cells 1 ((build (g.st.length * a.acc.length) x.2).map z122)])) (fun x=>x.1≤a.acc.length∧x.2++(((List.range a.acc.length).drop x.1).flatMap (pQ a.acc.length g.nx[i] (z69 a) i ls[i])++((List.range g.st.length).drop (i+1)).flatMap (pI2 a.acc.length g.nx (z69 a) ls))=pS2 g ls a) (fun x=>a.acc.length - x.1) (0,ps) ⟨by omega,hi2⟩
   ⟨[0,1,2],rfl,by decide,rfl,⟨⟨rfl,rfl⟩,⟨rfl,rfl⟩,⟨rfl,rfl⟩,⟨rfl,rfl⟩,⟨rfl,rfl⟩,⟨rfl,rfl⟩,⟨rfl,rfl⟩,⟨rfl,rfl⟩,⟨rfl,rfl⟩,⟨rfl,rfl⟩,⟨rfl,rfl⟩,⟨rfl,rfl⟩,trivial⟩,⟨z24 rfl rfl,z24 rfl rfl,z25 rfl (z4 fun _=>rfl),trivial⟩⟩ ?_
  rintro ⟨q,ps⟩ ⟨hq1,hq2⟩
  dsimp only at hq1 hq2 ⊢
  repeat' (first|(apply y4 ok;rfl;conv=>whnf)|(apply y50;(first|omega|(unfold inI;omega));conv=>whnf)|(with_reducible apply z8;omega;intro _;conv=>whnf)|(apply z5<;>intro _<;>conv=>whnf))
  ·have hqn:q < a.acc.length:=by omega
   rw [z181 _ _ _ (by simpa using hqn),List.getElem_range,List.append_assoc] at hq2
   have hqe:q < (z69 a).length:=by omega
   have hpQ:pQ a.acc.length g.nx[i] (z69 a) i ls[i] q=g.nx[i].flatMap (pTo a.acc.length (z69 a)[q] i q ls[i]):=by
    unfold pQ;rw [z18 hqe]
   rw [hpQ] at hq2
   have hedl:=hedl q hqe
   have hlt:i * a.acc.length+q < g.st.length * a.acc.length:=by
    have h1:(i+1) * a.acc.length≤g.st.length * a.acc.length:=Nat.mul_le_mul_right _ hig
    rw [Nat.add_mul,Nat.one_mul] at h1
    omega
   refine z85 (fun x:Nat×List (Nat×Int)=>([(3,.ptr 0 none 0),(5,.ptr 1 none 0),(8,.int a.acc.length),(9,lst 1 encT (z69 a)),(12,.sref 2 0 (g.st.length * a.acc.length)),(53,ints ls),(54,.int ls.length),(55,.int i),(13,.int i),(14,.int ls[i]),(60,.int a.acc.length),(61,.int q),(15,.int q),(68,ints g.nx[i]),(69,.int g.nx[i].length),(70,.int x.1)],[.cells 2 [[lst 2 State.cs g.st,lst 1 encL g.nx]],.cells 3 [[lst 1 enI a.ini,lst 1 enB a.acc,lst 4 Trans.cs a.ed]],.cells 1 ((build (g.st.length * a.acc.length) x.2).map z122)])) (fun x=>x.1≤g.nx[i].length∧x.2++((g.nx[i].drop x.1).flatMap (pTo a.acc.length (z69 a)[q] i q ls[i])++(((List.range a.acc.length).drop (q+1)).flatMap (pQ a.acc.length g.nx[i] (z69 a) i ls[i])++((List.range g.st.length).drop (i+1)).flatMap (pI2 a.acc.length g.nx (z69 a) ls)))=pS2 g ls a) (fun x=>g.nx[i].length - x.1) (0,ps) ⟨by omega,hq2⟩
    ⟨[0,1,2],rfl,by decide,rfl,⟨⟨rfl,rfl⟩,⟨rfl,rfl⟩,⟨rfl,rfl⟩,⟨rfl,rfl⟩,⟨rfl,rfl⟩,⟨rfl,rfl⟩,⟨rfl,rfl⟩,⟨rfl,rfl⟩,⟨rfl,rfl⟩,⟨rfl,rfl⟩,⟨rfl,rfl⟩,⟨rfl,rfl⟩,⟨rfl,rfl⟩,⟨rfl,rfl⟩,⟨rfl,rfl⟩,⟨rfl,rfl⟩,trivial⟩,⟨z24 rfl rfl,z24 rfl rfl,z25 rfl (z4 fun _=>rfl),trivial⟩⟩ ?_
   rintro ⟨j,ps⟩ ⟨hj1,hj2⟩
   dsimp only at hj1 hj2 ⊢
   repeat' (first|(apply y4 ok;rfl;conv=>whnf)|(apply y50;(first|omega|(unfold inI;omega));conv=>whnf)|(with_reducible apply z8;omega;intro _;conv=>whnf)|(apply z5<;>intro _<;>conv=>whnf))
   ·have hjn:j < g.nx[i].length:=by omega
    rw [z181 _ _ _ hjn,List.append_assoc] at hj2
    have hto:=hrow g.nx[i][j] (y51 _)
    have hm2:=z179 (a:=g.nx[i][j]) (b:=(a.acc.length:Int)) (A:=60) (B:=64) (by omega) (by omega) (by omega) (by omega)
    refine z85 (fun x:Nat×List (Nat×Int)=>([(3,.ptr 0 none 0),(5,.ptr 1 none 0),(8,.int a.acc.length),(9,lst 1 encT (z69 a)),(12,.sref 2 0 (g.st.length * a.acc.length)),(53,ints ls),(54,.int ls.length),(55,.int i),(13,.int i),(14,.int ls[i]),(60,.int a.acc.length),(61,.int q),(15,.int q),(68,ints g.nx[i]),(69,.int g.nx[i].length),(70,.int j),(17,.int g.nx[i][j]),(77,lst 4 Trans.cs (z69 a)[q]),(78,.int (z69 a)[q].length),(79,.int x.1)],[.cells 2 [[lst 2 State.cs g.st,lst 1 encL g.nx]],.cells 3 [[lst 1 enI a.ini,lst 1 enB a.acc,lst 4 Trans.cs a.ed]],.cells 1 ((build (g.st.length * a.acc.length) x.2).map z122)])) (fun x=>x.1≤(z69 a)[q].length∧x.2++(((z69 a)[q].drop x.1).flatMap (pE2 a.acc.length i q ls[i] g.nx[i][j])++((g.nx[i].drop (j+1)).flatMap (pTo a.acc.length (z69 a)[q] i q ls[i])++(((List.range a.acc.length).drop (q+1)).flatMap (pQ a.acc.length g.nx[i] (z69 a) i ls[i])++((List.range g.st.length).drop (i+1)).flatMap (pI2 a.acc.length g.nx (z69 a) ls))))=pS2 g ls a) (fun x=>(z69 a)[q].length - x.1) (0,ps) ⟨by omega,hj2⟩
     ⟨[0,1,2],rfl,by decide,rfl,⟨⟨rfl,rfl⟩,⟨rfl,rfl⟩,⟨rfl,rfl⟩,⟨rfl,rfl⟩,⟨rfl,rfl⟩,⟨rfl,rfl⟩,⟨rfl,rfl⟩,⟨rfl,rfl⟩,⟨rfl,rfl⟩,⟨rfl,rfl⟩,⟨rfl,rfl⟩,⟨rfl,rfl⟩,⟨rfl,rfl⟩,⟨rfl,rfl⟩,⟨rfl,rfl⟩,⟨rfl,rfl⟩,⟨rfl,rfl⟩,⟨rfl,rfl⟩,⟨rfl,rfl⟩,⟨rfl,rfl⟩,trivial⟩,⟨z24 rfl rfl,z24 rfl rfl,z25 rfl (z4 fun _=>rfl),trivial⟩⟩ ?_
    rintro ⟨k,ps⟩ ⟨hk1,hk2⟩
    dsimp only at hk1 hk2 ⊢
    by_cases hke:k < (z69 a)[q].length
    ·have he:=a5 (z69 a)[q][k] (hed q hqe _ (y51 hke))
     unfold z401 at he
     have hlt' : i * a.acc.length+q < (build (g.st.length * a.acc.length) ps).length:=by rw [z86];exact hlt
     have hmap:i * a.acc.length+q < ((build (g.st.length * a.acc.length) ps).map z122).length:=by rw [y56];exact hlt'
     have hrl:(build (g.st.length * a.acc.length) ps)[i * a.acc.length+q].length≤1000000000:=by
      have h1:=z307 (N:=g.st.length * a.acc.length) (ps:=ps) hlt'
      have h2:=congrArg List.length hk2
      rw [y54] at h2
      omega
     have hix:((i:Int) * a.acc.length+q).toNat=i * a.acc.length+q:=by
      have e:((i * a.acc.length:Nat):Int)=(i:Int) * a.acc.length:=by simp
      omega
     have hlt2:((i:Int) * a.acc.length+q).toNat < g.st.length * a.acc.length:=by rw [hix];exact hlt
     rw [z181 _ _ _ hke] at hk2
     repeat' (first|((fail_if_success apply z65 22);(fail_if_success apply z50 22);apply y4 ok;rfl;conv=>whnf)|(apply y50;(first|omega|(unfold inI;omega));conv=>whnf)|(with_reducible apply z8;omega;intro _;conv=>whnf)|(apply z5<;>intro _<;>conv=>whnf)|(apply z0 (takes_ok (z69 a)[q][k] ls[i] hli.1 hli.2 he.2.2.1);rfl;rfl;conv=>whnf))
     ·have hon:((ls[i].toNat &&& (z69 a)[q][k].care.toNat:Nat):Int)=(z69 a)[q][k].val:=by assumption
      refine y92 (Gl.Reach.expose (e:=z122 (build (g.st.length * a.acc.length) ps)[i * a.acc.length+q]) 2 (i * a.acc.length+q) 0 rfl (by rw [y58,y52 hlt'];rfl) rfl (z155 (fun _=>rfl) _) rfl) ?_
      conv=>whnf
      (apply y4 ok;rfl;conv=>whnf)
      repeat' (first|(apply z17;kernel_rfl;conv=>whnf)|(apply z225;exact hix;exact hmap;conv=>whnf)|(apply y50;(first|omega|(unfold inI;omega)|((try dsimp only);simp only [y56,y55,y54,y53,y64,y65];omega)|exact ⟨rfl,z38 rfl z45⟩);conv=>whnf))
      refine y92 (Gl.Reach.absorb 2 6 (i * a.acc.length+q) 0 rfl (z148 hix (by rw [y88];exact hmap)) rfl rfl (by simp) rfl (z52 (fun e he=>(z4 (fun _=>rfl)) e (List.mem_of_mem_take he)) (z206 rfl z33)) rfl) ?_
      conv=>whnf
      repeat' (first|(apply y4 ok;rfl;conv=>whnf)|(apply y50;((unfold inI;omega));conv=>whnf))
      have hpe:pE2 a.acc.length i q ls[i] g.nx[i][j] (z69 a)[q][k]=[(i * a.acc.length+q,g.nx[i][j] * a.acc.length+(z69 a)[q][k].dst)]:=by
       unfold pE2 onB;rw [if_pos (y89 hon)]
      rw [hpe,List.append_assoc,← List.append_assoc] at hk2
      exact z78 (k+1,ps++[(i * a.acc.length+q,g.nx[i][j] * a.acc.length+(z69 a)[q][k].dst)]) [0,1,2] ⟨by dsimp only;omega,hk2⟩ (by dsimp only;omega) ⟨rfl,by decide,rfl,⟨⟨rfl,rfl⟩,⟨rfl,rfl⟩,⟨rfl,rfl⟩,⟨rfl,rfl⟩,⟨rfl,rfl⟩,⟨rfl,rfl⟩,⟨rfl,rfl⟩,⟨rfl,rfl⟩,⟨rfl,rfl⟩,⟨rfl,rfl⟩,⟨rfl,rfl⟩,⟨rfl,rfl⟩,⟨rfl,rfl⟩,⟨rfl,rfl⟩,⟨rfl,rfl⟩,⟨rfl,rfl⟩,⟨rfl,rfl⟩,⟨rfl,rfl⟩,⟨rfl,rfl⟩,⟨rfl,rfl⟩,trivial⟩,⟨z24 rfl rfl,z24 rfl rfl,z25 (z39 (rows_push' hlt' hix (by simp))) (z4 fun _=>rfl),trivial⟩⟩
     ·have hon:¬ ((ls[i].toNat &&& (z69 a)[q][k].care.toNat:Nat):Int)=(z69 a)[q][k].val:=by assumption
      have hpe:pE2 a.acc.length i q ls[i] g.nx[i][j] (z69 a)[q][k]=[]:=by
       unfold pE2 onB;rw [if_neg (by simpa using hon)]
      rw [hpe,List.nil_append] at hk2
      exact z78 (k+1,ps) [0,1,2] ⟨by dsimp only;omega,hk2⟩ (by dsimp only;omega) ⟨rfl,by decide,rfl,⟨⟨rfl,rfl⟩,⟨rfl,rfl⟩,⟨rfl,rfl⟩,⟨rfl,rfl⟩,⟨rfl,rfl⟩,⟨rfl,rfl⟩,⟨rfl,rfl⟩,⟨rfl,rfl⟩,⟨rfl,rfl⟩,⟨rfl,rfl⟩,⟨rfl,rfl⟩,⟨rfl,rfl⟩,⟨rfl,rfl⟩,⟨rfl,rfl⟩,⟨rfl,rfl⟩,⟨rfl,rfl⟩,⟨rfl,rfl⟩,⟨rfl,rfl⟩,⟨rfl,rfl⟩,⟨rfl,rfl⟩,trivial⟩,⟨z24 rfl rfl,z24 rfl rfl,z25 rfl (z4 fun _=>rfl),trivial⟩⟩
     ·omega
    ·repeat' (first|((fail_if_success apply z65 22);(fail_if_success apply z50 22);apply y4 ok;rfl;conv=>whnf)|(apply y50;(first|omega|(unfold inI;omega));conv=>whnf)|(with_reducible apply z8;omega;intro _;conv=>whnf)|(apply z5<;>intro _<;>conv=>whnf))
     ·omega
     ·rw [z109 _ _ _ (by omega),List.nil_append] at hk2
      exact z78 (j+1,ps) [0,1,2] ⟨by dsimp only;omega,hk2⟩ (by dsimp only;omega) ⟨rfl,by decide,rfl,⟨⟨rfl,rfl⟩,⟨rfl,rfl⟩,⟨rfl,rfl⟩,⟨rfl,rfl⟩,⟨rfl,rfl⟩,⟨rfl,rfl⟩,⟨rfl,rfl⟩,⟨rfl,rfl⟩,⟨rfl,rfl⟩,⟨rfl,rfl⟩,⟨rfl,rfl⟩,⟨rfl,rfl⟩,⟨rfl,rfl⟩,⟨rfl,rfl⟩,⟨rfl,rfl⟩,⟨rfl,rfl⟩,trivial⟩,⟨z24 rfl rfl,z24 rfl rfl,z25 rfl (z4 fun _=>rfl),trivial⟩⟩
   ·rw [z109 _ _ _ (by omega),List.nil_append] at hj2
    exact z78 (q+1,ps) [0,1,2] ⟨by dsimp only;omega,hj2⟩ (by dsimp only;omega) ⟨rfl,by decide,rfl,⟨⟨rfl,rfl⟩,⟨rfl,rfl⟩,⟨rfl,rfl⟩,⟨rfl,rfl⟩,⟨rfl,rfl⟩,⟨rfl,rfl⟩,⟨rfl,rfl⟩,⟨rfl,rfl⟩,⟨rfl,rfl⟩,⟨rfl,rfl⟩,⟨rfl,rfl⟩,⟨rfl,rfl⟩,trivial⟩,⟨z24 rfl rfl,z24 rfl rfl,z25 rfl (z4 fun _=>rfl),trivial⟩⟩
  ·rw [z109 _ _ _ (by simp;omega),List.nil_append] at hq2
   exact z78 (i+1,ps) [0,1,2] ⟨by dsimp only;omega,hq2⟩ (by dsimp only;omega) ⟨rfl,by decide,rfl,⟨⟨rfl,rfl⟩,⟨rfl,rfl⟩,⟨rfl,rfl⟩,⟨rfl,rfl⟩,⟨rfl,rfl⟩,⟨rfl,rfl⟩,⟨rfl,rfl⟩,⟨rfl,rfl⟩,trivial⟩,⟨z24 rfl rfl,z24 rfl rfl,z25 rfl (z4 fun _=>rfl),trivial⟩⟩
 ·rw [z109 _ _ _ (by simp;omega),y71] at hi2
  subst hi2
  repeat' (first|(apply y4 ok;rfl;conv=>whnf)|(apply z0 (z455 a.ini (by omega));rfl;rfl;conv=>whnf))
  exact z70 [2] (by decide) rfl rfl rfl ⟨z25 rfl (z4 fun _=>rfl),trivial⟩
theorem z1004 (g:Graph) (hg:GB g) (l:List Tree) (hl:z165 l) (a:Aut) (ha:AutP a):CallsA Tryz.prog 135 [.agg g.cs,lst 3 Tree.cs' l,.agg a.cs] [] (.tup [lst 1 encL (z44 g (g.st.map (z49 l)) a),ints a.ini]) []:=by
 have h:=z870 g hg l hl a ha
 have hlen:(z44 g (g.st.map (z49 l)) a).length=g.st.length * a.acc.length:=by unfold z44;rw [z86,Nat.mul_comm]
 refine h.lend [] [0] rfl rfl rfl ?_ z14
 show AC.tup [bor _ _ _ (.sref 0 0 _),bor _ _ _ (ints a.ini)]=_
 rw [z330 (w:=1) (es:=(z44 g (g.st.map (z49 l)) a).map z122) rfl rfl rfl (by rw [y56];exact hlen),z618,← hlen]
 rfl
theorem z871 (g:Graph) (hg:GB g) (ls:List Int) (a:Aut) (ha:AutP a):∀ row∈z44 g ls a,∀ x∈row,0≤x∧x < ((g.st.length * a.acc.length:Nat):Int):=by
 intro row hrow x hx
 unfold z44 build at hrow
 obtain ⟨r,_,rfl⟩:=List.mem_map.1 hrow
 obtain ⟨⟨p,v⟩,hp,rfl⟩:=List.mem_map.1 hx
 have hp:=(List.mem_filter.1 hp).1
 unfold z526 at hp
 obtain ⟨i,hi,hp⟩:=List.mem_flatMap.1 hp
 rw [y67] at hi
 unfold z427 at hp
 obtain ⟨to,hto,hp⟩:=List.mem_flatMap.1 hp
 unfold z527 at hp
 obtain ⟨e,he,hp⟩:=List.mem_flatMap.1 hp
 have hin:i < g.nx.length:=by have:=hg.2.1;omega
 rw [z18 hin] at hto
 obtain ⟨j,hj,rfl⟩:=List.mem_iff_getElem.1 hto
 have h1:=((hg.2.2 i hin hin hi).2.2.2 j hj hj).1
 have h2:=(ha.2.2.2 e he).2.1
 unfold z288 at hp
 split at hp
 ·simp only [y61,Prod.mk.injEq] at hp
  obtain ⟨_,rfl⟩:=hp
  have h3:0≤g.nx[i][j] * (a.acc.length:Int):=Int.mul_nonneg h1.1 (by omega)
  have h4:(g.nx[i][j]+1) * (a.acc.length:Int)≤g.st.length * a.acc.length:=Int.mul_le_mul_of_nonneg_right (by omega) (by omega)
  rw [Int.add_mul,Int.one_mul] at h4
  have e:((g.st.length * a.acc.length:Nat):Int)=(g.st.length:Int) * a.acc.length:=by simp
  rw [e]
  dsimp only
  omega
 ·simp at hp
theorem z758 (g:Graph) (hg:GB g) (ls:List Int) (a:Aut) (ha:AutP a):∀ row∈z44 g ls a,row.length≤7372800:=by
 intro row hrow
 obtain ⟨i,hi,rfl⟩:=List.mem_iff_getElem.1 hrow
 exact Nat.le_trans (z307 (N:=a.acc.length * g.st.length) (ps:=z526 g ls a) hi) (z525 g hg ls a ha)
def rk (ranks:List Int) (x:Int):Int:=ranks.getD x.toNat 0
def less (acc:Bool) (r:Int):Int:=if acc then r - 1 else r
def nodeP (row ranks:List Int) (rank:Int) (acc:Bool):Prop:=∀ x∈row,0≤rk ranks x∧rk ranks x≤less acc rank
instance {row ranks:List Int} {rank:Int} {acc:Bool} : Decidable (nodeP row ranks rank acc):=by unfold nodeP;infer_instance
def certP (rows:List (List Int)) (ini:List Int) (acc:List Bool) (N:Nat) (ranks:List Int):Prop :=
 ranks.length=N∧(∀ x∈ranks,-1≤x∧x≤4000)∧(∀ x∈ini,0≤rk ranks x)∧∀ i (h:i < ranks.length),0≤ranks[i]→nodeP (rows.getD i []) ranks ranks[i] (acc.getD (i % acc.length) false)
noncomputable instance {rows:List (List Int)} {ini:List Int} {acc:List Bool} {N:Nat} {ranks:List Int} : Decidable (certP rows ini acc N ranks):=Classical.propDecidable _
def Cert.mx (c:Cert):Prop:=c.ranks.length≤maxLen
theorem z265 (l:List Int) (hl:l.length≤1048576):CallsA Tryz.prog 110 [.sref 0 0 l.length] [.cells 1 (l.map enI)] (.sref 0 0 l.length) [.cells 1 (l.map enI)]:=by
 refine z7 z9 Tryz.func110 rfl rfl 9 Tryz.ntmps110 (by simp) ?_
 repeat' (first|(apply y4 ok;rfl;conv=>whnf)|(apply y50;(omega);conv=>whnf))
 exact z97 rfl (z4 fun _=>rfl) (by omega) rfl rfl
theorem z816 (l:List Int) (hl:l.length≤1048576):CallsA Tryz.prog 208 [ints l] [] (.sref 0 0 l.length) [.cells 1 (l.map enI)]:=by
 by_cases hp:0 < l.length
 ·exact z637 l hl hp
 ·obtain rfl:l=[]:=y80 (by omega)
  refine z207 (z297 Tryz.func208 rfl (by rfl)) fun ad cap=>?_
  cases ad with
  |none =>
   refine CallsA.nils (res:=.nils) (l:=[.cells 1 []]) ?_ (by simp) z478
   refine z7 z9 Tryz.func208 rfl rfl 8 Tryz.ntmps208 (by simp) ?_
   repeat' ((apply y4 ok;rfl;conv=>whnf))
   all_goals exact z42 rfl rfl rfl
  |some p =>
   refine z7 z9 Tryz.func208 rfl rfl 8 Tryz.ntmps208 (by simp) ?_
   repeat' (first|(apply y4 ok;rfl;conv=>whnf)|(apply y50;(omega);conv=>whnf))
   all_goals (exact z97 rfl z33 rfl rfl rfl)
theorem z257 (l:List Int) (hl:l.length≤1048576):CallsA Tryz.prog 150 [ints l] [] (.sref 0 0 l.length) [.cells 1 (l.map enI)]:=by
 refine z7 z9 Tryz.func150 rfl rfl 6 Tryz.ntmps150 (by simp) ?_
 repeat' (first|(apply y4 ok;rfl;conv=>whnf)|(apply z35 [] [] [0] (z816 l hl);rfl;(focus ((repeat' (exact z14))<;>(fail)));rfl;rfl;rfl;rfl;rfl;(focus ((repeat' (first|exact z12|apply z15))<;>((refine z22 ?_;((exact z4 (fun _=>rfl)))))));(exact .inl rfl);conv=>whnf)|(apply z35 [0] [] [] (z265 l hl);rfl;(focus ((repeat' (first|exact z14|apply z27))<;>((refine z41 rfl ?_;((exact z4 (fun _=>rfl)))))));rfl;rfl;rfl;rfl;rfl;(focus ((repeat' (first|exact z12|apply z15))<;>((refine z22 ?_;((exact z4 (fun _=>rfl)))))));(exact .inl rfl);conv=>whnf))
 exact z97 rfl (z4 fun _=>rfl) rfl rfl rfl
structure RI (rows:List (List Int)) (ini S L:List Int):Prop where
 inS:InN rows.length S
 sub:∀ x∈L,x∈S
 rp:∀ x∈S,RP rows ini x
 base:∀ x∈ini,x∈S
end Go.Proofs.YtnfoijopccdjeaaGreat
namespace Go.Proofs.YtnfoijopccdjeaaGreat
open Go.Gl
attribute [local irreducible] z16 AWP z29 z32 z30 RetS z36
theorem z700 (a b:State) (ha:a.sm) (hb:b.sm):CallsA Tryz.prog 12 [.agg a.cs,.agg b.cs] [] (.bool (decide (a=b))) []:=by
 have h1:=ha.a
 have h2:=ha.b
 have h3:=hb.a
 have h4:=hb.b
 have c1:=z802 a.a b.a (by unfold maxLen;omega) (by unfold maxLen;omega)
 have c2:=z802 a.b b.b (by unfold maxLen;omega) (by unfold maxLen;omega)
 obtain ⟨a1,a2⟩:=a
 obtain ⟨b1,b2⟩:=b
 simp only at *
 have e:decide ((⟨a1,a2⟩:State)=⟨b1,b2⟩)=(decide (a1=b1) && decide (a2=b2)):=by
  by_cases h:a1=b1<;>by_cases k:a2=b2<;>simp [h,k]
 rw [e]
 generalize decide (a1=b1)=p at *
 generalize decide (a2=b2)=q at *
 refine z6 z9 Tryz.func12 rfl rfl 17 Tryz.ntmps12 (by simp) ?_
 cases p
 all_goals
  repeat' ((first|(apply y4 ok;rfl)|(apply z0 (c1);rfl;rfl)|(apply z0 (c2);rfl;rfl))<;>conv=>whnf)
  all_goals (refine rsD [] [] rfl ?_;(repeat' first|exact y93 _|constructor))
theorem z454 (s:Sys) (hs:s.ok) (st:State) (h:st.ok s) (i k:Nat) (hi:i < s.ps.length) (hk:k < (s.pr i).es.length):CallsA Tryz.prog 164 [.agg s.cs,.agg st.cs,.int i,.int k] [] (.bool (rdyE ((s.pr i).eg k) st i)) []:=by
  have gp:=y16 hi
  have ge:=y12 hk
  have hE:=hs.eg i k hi hk
  have h3:=hs.n3
  have ha:=h.a
  have h6:=hs.ne i hi
  generalize (s.pr i).eg k=e at *
  have hb:=h.b.1
  have ga:(st.a.map enI)[i]?=some (enI (st.a.getD i 0)):=by rw [y58,z18 (show i < st.a.length by omega),y52 (by omega)];rfl
  have ce:=z898 st.b h.b e.gd hE.gd
  rw [y17] at ce
  unfold rdyE
  generalize st.a.getD i 0=x at *
  generalize s.pr i=p at *
  generalize e.gd.ev st.b=z at *
  refine z6 z9 Tryz.func164 rfl rfl 35 Tryz.ntmps164 (by simp) ?_
  repeat' ((first|(apply y4 ok;rfl)|(apply z17;kernel_rfl)|(refine z13 (i:=i) rfl gp ?_)|(refine z13 (i:=k) rfl ge ?_)|(refine z13 (i:=i) rfl ga ?_)|(apply y50;omega)|((apply z5)<;>intro _)|(apply z0 (ce);rfl;rfl))<;>conv=>whnf)
  all_goals (refine rsD [] [] rfl ?_;(repeat' constructor))
  all_goals refine z268 ?_
  all_goals first
    | (have q : e.fr = x := by omega
       simp only [q,decide_true,Bool.true_and,ne_eq,decide_not])
    | (simp only [y90 (show ¬ e.fr=x by omega),Bool.false_and])
theorem z553 (st:State) (e:Edge) (n:Int) (he:e.ok n) (i:Nat) (hi:i < st.a.length) (hl:st.a.length≤10) (hv:ValsOk st.b):CallsA Tryz.prog 166 [.agg [.sref 0 0 st.a.length,.sref 1 0 st.b.length],.int i,.agg e.cs] [.cells 1 (st.a.map enI),.cells 1 (st.b.map enI)] (.tup []) [.cells 1 ((z107 st i e).a.map enI),.cells 1 ((z107 st i e).b.map enI)]:=by
 have hb:=hv.1
 have hvar:=he.var
 by_cases h0:0≤e.var
 ·have c:=z898 st.b hv e.val (he.val h0)
  rw [y17] at c
  have hr:=y23 hv e.val (he.val h0)
  have e1:z107 st i e=⟨st.a.set i e.to,st.b.set e.var.toNat (e.val.ev st.b)⟩:=by unfold z107;rw [if_pos h0]
  rw [e1]
  generalize e.val.ev st.b=x at *
  refine z6 z9 Tryz.func166 rfl rfl 25 Tryz.ntmps166 (by simp) ?_
  repeat' ((first|(apply y4 ok;rfl)|(apply z17;kernel_rfl)|(apply y50;omega)|(((apply z8;omega));intro _)|((apply z5)<;>intro _)|(apply z83 [] [1] [] c;(focus ((repeat' first|exact z48|apply z23)<;>first|exact z91 rfl rfl rfl|rfl));rfl;rfl;(focus ((repeat' exact z12)<;>fail));((refine .inr ⟨rfl,?_⟩;repeat' first|exact True.intro|apply y50))))<;>conv=>whnf)
  all_goals first|(exfalso;omega)|exact h0|(show e.var.toNat < st.b.length;omega)|skip
  all_goals (refine rsD [0,1] [] rfl ?_;(repeat' first|exact y93 _|refine z82 rfl (z4 (fun _=>rfl)) ?_|refine z757 (by omega) ?_|constructor))
 ·have e1:z107 st i e=⟨st.a.set i e.to,st.b⟩:=by unfold z107;rw [if_neg h0]
  rw [e1]
  refine z6 z9 Tryz.func166 rfl rfl 25 Tryz.ntmps166 (by simp) ?_
  repeat' ((first|(apply y4 ok;rfl)|(apply y50;omega)|(((apply z8;omega));intro _)|((apply z5)<;>intro _))<;>conv=>whnf)
  all_goals try (exfalso;omega)
  all_goals (refine rsD [0,1] [] rfl ?_;(repeat' first|exact y93 _|exact z11 _|refine z82 rfl (z4 (fun _=>rfl)) ?_|refine z10 rfl (z4 (fun _=>rfl)) ?_|refine z757 (by omega) ?_|constructor))
theorem z403 (s:State) (hs:s.sm):CallsA Tryz.prog 113 [.agg s.cs] [] (.agg [.sref 0 0 s.a.length,.sref 1 0 s.b.length]) [.cells 1 (s.a.map enI),.cells 1 (s.b.map enI)]:=by
 have h1:=hs.a
 have h2:=hs.b
 have c1:=z257 s.a (by omega)
 have c2:=z257 s.b (by omega)
 refine z6 z9 Tryz.func113 rfl rfl 10 Tryz.ntmps113 (by simp) ?_
 repeat' ((first|(apply y4 ok;rfl)|(apply z17;kernel_rfl)|((first|(apply z54 [] [2] c1;rfl;rfl)|(apply z54 [] [3] c2;rfl;rfl));rfl;(focus ((repeat' first|exact z12|apply z15)<;>(refine z22 ?_;((exact z4 fun _=>rfl)))))))<;>conv=>whnf)
 all_goals (refine rsD [2,3] [] rfl ?_;(repeat' first|exact y93 _|exact z11 _|refine z10 rfl (z4 (fun _=>rfl)) ?_|constructor))
set_option maxHeartbeats 3200000 in
theorem z795 (s:Sys) (hs:s.ok) (st:State) (h:st.ok s) (x:Stp) (hx:x.ok s):CallsA Tryz.prog 106 [.agg s.cs,.agg st.cs,.agg x.cs] [] (.agg (z76 s st x).cs) []:=by
 have hn3:=hs.n3
 have ha:=h.a
 have hb:=h.b.1
 obtain ⟨p,e,q,f⟩:=x
 obtain ⟨hp,he,hq,hf⟩:=hx
 simp only at hp he hq hf
 obtain ⟨pi,rfl,hpi⟩:=z447 hp.1 hp.2
 simp only [y83] at he
 obtain ⟨ei,rfl,hei⟩:=z447 he.1 he.2
 have gp:=y16 hpi
 have ge:=y12 hei
 have hE:=hs.eg pi ei hpi hei
 have hP6:=hs.ne pi hpi
 have c0:=z403 st (h.sm hs)
 have c1:=z553 st ((s.pr pi).eg ei) _ hE pi (by omega) (by omega) h.b
 have h1:=z470 (i:=pi) h hE
 have hl1:=z366 st pi ((s.pr pi).eg ei)
 by_cases hq0:0≤q
 ·have hf:=hf hq0
  obtain ⟨qi,rfl,hqi⟩:=z447 hq0 hq.2
  simp only [y83] at hf
  obtain ⟨fi,rfl,hfi⟩:=z447 hf.1 hf.2
  have gq:=y16 hqi
  have gf:=y12 hfi
  have hF:=hs.eg qi fi hqi hfi
  have hQ6:=hs.ne qi hqi
  have e0:z76 s st ⟨pi,ei,qi,fi⟩=z107 (z107 st pi ((s.pr pi).eg ei)) qi ((s.pr qi).eg fi):=by unfold z76;rw [if_pos hq0];rfl
  have c2:=z553 (z107 st pi ((s.pr pi).eg ei)) ((s.pr qi).eg fi) _ hF qi (by omega) (by omega) h1.b
  have hl2:=z366 (z107 st pi ((s.pr pi).eg ei)) qi ((s.pr qi).eg fi)
  rw [hl1.1,hl1.2] at c2
  rw [e0]
  generalize z107 (z107 st pi ((s.pr pi).eg ei)) qi ((s.pr qi).eg fi)=s2 at *
  generalize z107 st pi ((s.pr pi).eg ei)=s1 at *
  generalize (s.pr pi).eg ei=ed at *
  generalize (s.pr qi).eg fi=fd at *
  generalize s.pr pi=pp at *
  generalize s.pr qi=qq at *
  refine z6 z9 Tryz.func106 rfl rfl 44 Tryz.ntmps106 (by simp) ?_
  repeat' ((first|(apply y4 ok;rfl)|(apply z17;kernel_rfl)|(refine z13 (i:=pi) rfl gp ?_)|(refine z13 (i:=ei) rfl ge ?_)|(refine z13 (i:=qi) rfl gq ?_)|(refine z13 (i:=fi) rfl gf ?_)|(apply y50;first|omega|(dsimp only;omega))|((first|(apply z54 [] [4,5] c0;rfl;rfl)|(apply z95 [4,5] [] c1;rfl;(focus ((repeat' first|exact z14|apply z27)<;>(refine z41 rfl ?_;((exact z4 fun _=>rfl))))))|(apply z95 [4,5] [] c2;rfl;(focus ((repeat' first|exact z14|apply z27)<;>(refine z41 rfl ?_;((exact z4 fun _=>rfl)))))));rfl;(focus ((repeat' first|exact z12|apply z15)<;>(refine z22 ?_;((exact z4 fun _=>rfl)))))))<;>conv=>whnf)
  all_goals (refine rsD [] [4,5] rfl ?_;(repeat' first|(refine z541 ?_;omega)|((apply z66 rfl rfl rfl);(focus ((repeat ((exact z53 (fun _=>rfl) _)));done));(focus (((simp;omega));done)))|apply z64|constructor))
 ·have e0:z76 s st ⟨pi,ei,q,f⟩=z107 st pi ((s.pr pi).eg ei):=by unfold z76;rw [if_neg hq0];rfl
  rw [e0]
  generalize z107 st pi ((s.pr pi).eg ei)=s1 at *
  generalize (s.pr pi).eg ei=ed at *
  generalize s.pr pi=pp at *
  refine z6 z9 Tryz.func106 rfl rfl 44 Tryz.ntmps106 (by simp) ?_
  repeat' ((first|(apply y4 ok;rfl)|(apply z17;kernel_rfl)|(refine z13 (i:=pi) rfl gp ?_)|(refine z13 (i:=ei) rfl ge ?_)|(apply y50;first|omega|(dsimp only;omega))|((apply z5)<;>intro _)|((first|(apply z54 [] [4,5] c0;rfl;rfl)|(apply z95 [4,5] [] c1;rfl;(focus ((repeat' first|exact z14|apply z27)<;>(refine z41 rfl ?_;((exact z4 fun _=>rfl)))))));rfl;(focus ((repeat' first|exact z12|apply z15)<;>(refine z22 ?_;((exact z4 fun _=>rfl)))))))<;>conv=>whnf)
  all_goals first|(exfalso;apply hq0;assumption)|skip
  all_goals (refine rsD [] [4,5] rfl ?_;(repeat' first|(refine z541 ?_;omega)|((apply z66 rfl rfl rfl);(focus ((repeat ((exact z53 (fun _=>rfl) _)));done));(focus (((simp;omega));done)))|apply z64|constructor))
theorem z909 (l:List Stp) (hl:l.length≤1048576):CallsA Tryz.prog 165 [.sref 0 0 l.length] [.cells 4 (l.map Stp.cs)] (.sref 0 0 l.length) [.cells 4 (l.map Stp.cs)]:=by
 refine z7 z9 Tryz.func165 rfl rfl 9 Tryz.ntmps165 (by simp) ?_
 repeat' ((first|(apply y4 ok;rfl)|(apply y50;omega))<;>conv=>whnf)
 exact z97 rfl (z4 fun _=>rfl) (by omega) rfl rfl
set_option maxHeartbeats 12800000 in
theorem z1044 (s:Sys) (hs:s.ok) (st:State) (h:st.ok s):CallsA Tryz.prog 105 [.agg s.cs,.agg st.cs] [] (lst 4 Stp.cs (z145 s st)) []:=by
  have h3:=hs.n3
  have hlen:=z510 hs (st:=st)
  have hfin:z145 s st=cat s.ps.length (fun j=>cat (s.pr j).es.length (z249 s st j)):=rfl
  have hR0:∀ j m,(((s.pr j).eg m).sync < 0∨rdyE ((s.pr j).eg m) st j=false)→z249 s st j m=[]:=fun _ _ h=>if_pos h
  have hR1:∀ j m,¬(((s.pr j).eg m).sync < 0∨rdyE ((s.pr j).eg m) st j=false)→((s.pr j).eg m).sync=0→z249 s st j m=[⟨j,m,-1,-1⟩]:=fun _ _ h k=>by unfold z249;rw [if_neg h,if_pos k]
  have hR2:∀ j m,¬(((s.pr j).eg m).sync < 0∨rdyE ((s.pr j).eg m) st j=false)→((s.pr j).eg m).sync≠0→z249 s st j m=cat s.ps.length (fun j'=>cat (s.pr j').es.length (z429 s st j m j')):=fun _ _ h k=>by unfold z249;rw [if_neg h,if_neg k];rfl
  have hP1:∀ i k j m,(j≠i∧((s.pr j).eg m).sync=-((s.pr i).eg k).sync∧rdyE ((s.pr j).eg m) st j=true)→z429 s st i k j m=[⟨i,k,j,m⟩]:=fun _ _ _ _ h=>if_pos h
  have hP0:∀ i k j m,¬(j≠i∧((s.pr j).eg m).sync=-((s.pr i).eg k).sync∧rdyE ((s.pr j).eg m) st j=true)→z429 s st i k j m=[]:=fun _ _ _ _ h=>if_neg h
  generalize z145 s st=FIN at *
  generalize z249 s st=R at *
  generalize z429 s st=PR at *
  have cF:=z909 FIN (by omega)
  refine z6 z9 Tryz.func105 rfl rfl 100 Tryz.ntmps105 (by simp) ?_
  repeat' (((apply y4 ok;rfl))<;>conv=>whnf)
  refine y92 (y95 4 rfl) ?_
  refine z77 (fun x:Nat×List Stp=>([(2,.ptr 0 none 0),(3,.ptr 1 none 0),(5,.sref 2 0 x.2.length),(15,lst 2 Proc.cs s.ps),(16,.int s.ps.length),(17,.int x.1)],[.cells 2 [s.cs],.cells 2 [st.cs],.cells 4 (x.2.map Stp.cs)])) (fun x=>x.1≤s.ps.length∧x.2.length≤1000 * x.1∧x.2=cat x.1 fun j=>cat (s.pr j).es.length (R j)) (fun x=>s.ps.length - x.1) (0,[]) ⟨by omega,by simp,rfl⟩ (by refine swR [0,1,2] [] rfl rfl ?_;(repeat' first|exact y93 _|exact z57|apply y94|refine z10 rfl (z33) ?_|constructor)) ?_
  rintro ⟨i,L⟩ ⟨hi,hLl,hL⟩
  simp only at hi hL hLl
  by_cases hil:i < s.ps.length
  · have gi:=y16 hil
    have hi6:=hs.ne i hil
    repeat' ((first|(apply y4 ok;rfl)|(refine z13 (i:=i) rfl gi ?_)|(apply y50;omega)|((apply z5)<;>intro _))<;>conv=>whnf)
    all_goals try (exfalso;omega)
    refine z77 (fun x:Nat×List Stp=>([(2,.ptr 0 none 0),(3,.ptr 1 none 0),(5,.sref 2 0 x.2.length),(6,.int i),(15,lst 2 Proc.cs s.ps),(16,.int s.ps.length),(17,.int i),(23,lst 10 Edge.cs (s.pr i).es),(24,.int (s.pr i).es.length),(25,.int x.1)],[.cells 2 [s.cs],.cells 2 [st.cs],.cells 4 (x.2.map Stp.cs)])) (fun x=>x.1≤(s.pr i).es.length∧x.2.length≤1000 * i+150 * x.1∧x.2=L++cat x.1 (R i)) (fun x=>(s.pr i).es.length - x.1) (0,L) ⟨by omega,by simpa using hLl,by rw [z410,y71]⟩ (by refine swR [0,1,2] [] rfl rfl ?_;(repeat' first|exact y93 _|exact z11 _|apply y94|refine z10 rfl (z4 (fun _=>rfl)) ?_|constructor)) ?_
    rintro ⟨k,M⟩ ⟨hk,hMl,hM⟩
    simp only at hk hM hMl
    by_cases hkl:k < (s.pr i).es.length
    · have gk:=y12 hkl
      have hl:=z454 s hs st h i k hil hkl
      have hR0k:=hR0 i k
      have hR1k:=hR1 i k
      have hR2k:=hR2 i k
      have hP1k:=hP1 i k
      have hP0k:=hP0 i k
      have hcs:=z192 k (R i)
      have hE:=(hs.eg i k hil hkl).sync
      generalize (s.pr i).eg k=e at *
      generalize rdyE e st i=rd at *
      generalize PR i k=Q at *
      by_cases hgo:e.sync < 0∨rd=false
      · have hz:=hR0k hgo
        generalize hpi:s.pr i=pi at *
        cases rd
        all_goals
          repeat' ((first|(apply y4 ok;rfl)|(refine z13 (i:=k) rfl gk ?_)|(apply y50;first|omega|(unfold inI;omega)|((try dsimp only);simp only [y56,y55,y54,y53,y64,y65];omega)|exact ⟨rfl,z38 rfl z45⟩)|((apply z5)<;>intro _)|(apply z0 (hl);rfl;rfl))<;>conv=>whnf)
          all_goals first|(exfalso;omega)|(exfalso;rcases hgo with hgo|hgo<;>first|omega|cases hgo)|skip
        all_goals refine z34 (k+1,M) ⟨by omega,by simp;omega,by rw [hM,hcs,hz,y71]⟩ (by show pi.es.length - (k+1) < pi.es.length - k;omega) (by refine swR [0,1,2] [] rfl rfl ?_;(repeat' first|exact y93 _|exact z11 _|apply y94|refine z10 rfl (z4 (fun _=>rfl)) ?_|constructor))
      have hrd:rd=true:=by cases rd<;>simp_all
      subst hrd
      by_cases h0:e.sync=0
      · have hz:=hR1k hgo h0
        generalize hpi:s.pr i=pi at *
        repeat' ((first|(apply y4 ok;rfl)|(refine z13 (i:=k) rfl gk ?_)|(apply y50;first|omega|(unfold inI;omega)|((try dsimp only);simp only [y56,y55,y54,y53,y64,y65];omega)|exact ⟨rfl,z38 rfl z45⟩)|((apply z5)<;>intro _)|(apply z0 (hl);rfl;rfl))<;>conv=>whnf)
        all_goals try (exfalso;omega)
        all_goals refine z34 (k+1,M++[⟨i,k,-1,-1⟩]) ⟨by omega,by simp;omega,by rw [hM,hcs,hz,List.append_assoc]⟩ (by show pi.es.length - (k+1) < pi.es.length - k;omega) (by refine swR [0,1,5] [] rfl rfl ?_;(repeat' first|exact y93 _|(refine z43 ?_;((simp;done)))|apply y94|((refine z51 rfl ?_ ?_);(focus ((repeat' (first|exact z4 (fun _=>rfl)|apply z40));done)))|(refine z73 ?_ ?_;(focus (omega)))|constructor))
      have hz:=hR2k hgo h0
      have hpos:0≤e.sync:=by omega
      repeat' ((first|(apply y4 ok;rfl)|(refine z13 (i:=k) rfl gk ?_)|(apply y50;omega)|((apply z5)<;>intro _)|(apply z0 (hl);rfl;rfl))<;>conv=>whnf)
      all_goals try (exfalso;omega)
      refine z77 (fun x:Nat×List Stp=>([(2,.ptr 0 none 0),(3,.ptr 1 none 0),(5,.sref 2 0 x.2.length),(6,.int i),(8,.int k),(9,.ptr 3 none 0),(15,lst 2 Proc.cs s.ps),(16,.int s.ps.length),(17,.int i),(23,lst 10 Edge.cs (s.pr i).es),(24,.int (s.pr i).es.length),(25,.int k),(53,lst 2 Proc.cs s.ps),(54,.int s.ps.length),(55,.int x.1)],[.cells 2 [s.cs],.cells 2 [st.cs],.cells 4 (x.2.map Stp.cs),.cells 10 [e.cs]])) (fun x=>x.1≤s.ps.length∧x.2.length≤1000 * i+150 * k+6 * x.1∧x.2=M++cat x.1 fun j'=>cat (s.pr j').es.length (Q j')) (fun x=>s.ps.length - x.1) (0,M) ⟨by omega,by simpa using hMl,by rw [z410,y71]⟩ (by refine swR [0,1,2,3] [] rfl rfl ?_;(repeat' first|exact y93 _|exact z11 _|apply y94|refine z10 rfl (z4 (fun _=>rfl)) ?_|constructor)) ?_
      rintro ⟨j,A⟩ ⟨hj,hAl,hA⟩
      simp only at hj hA hAl
      by_cases hjl:j < s.ps.length
      · have gj:=y16 hjl
        have hj6:=hs.ne j hjl
        repeat' ((first|(apply y4 ok;rfl)|(refine z13 (i:=j) rfl gj ?_)|(apply y50;omega)|((apply z5)<;>intro _))<;>conv=>whnf)
        all_goals try (exfalso;omega)
        refine z77 (fun x:Nat×List Stp=>([(2,.ptr 0 none 0),(3,.ptr 1 none 0),(5,.sref 2 0 x.2.length),(6,.int i),(8,.int k),(9,.ptr 3 none 0),(10,.int j),(15,lst 2 Proc.cs s.ps),(16,.int s.ps.length),(17,.int i),(23,lst 10 Edge.cs (s.pr i).es),(24,.int (s.pr i).es.length),(25,.int k),(53,lst 2 Proc.cs s.ps),(54,.int s.ps.length),(55,.int j),(61,lst 10 Edge.cs (s.pr j).es),(62,.int (s.pr j).es.length),(63,.int x.1)],[.cells 2 [s.cs],.cells 2 [st.cs],.cells 4 (x.2.map Stp.cs),.cells 10 [e.cs]])) (fun x=>x.1≤(s.pr j).es.length∧x.2.length≤1000 * i+150 * k+6 * j+x.1∧x.2=A++cat x.1 (Q j)) (fun x=>(s.pr j).es.length - x.1) (0,A) ⟨by omega,by simpa using hAl,by rw [z410,y71]⟩ (by refine swR [0,1,2,3] [] rfl rfl ?_;(repeat' first|exact y93 _|exact z11 _|apply y94|refine z10 rfl (z4 (fun _=>rfl)) ?_|constructor)) ?_
        rintro ⟨m,B⟩ ⟨hm,hBl,hB⟩
        simp only at hm hB hBl
        by_cases hml:m < (s.pr j).es.length
        · have gm:=y12 hml
          have hl2:=z454 s hs st h j m hjl hml
          have hQ1:=hP1k j m
          have hQ0:=hP0k j m
          have hcq:=z192 m (Q j)
          have hE2:=(hs.eg j m hjl hml).sync
          generalize (s.pr j).eg m=e2 at *
          generalize rdyE e2 st j=rd2 at *
          generalize hpj:s.pr j=pj at *
          cases rd2
          all_goals
            repeat' ((first|(apply y4 ok;rfl)|(refine z13 (i:=m) rfl gm ?_)|(apply y50;first|omega|(unfold inI;omega)|((try dsimp only);simp only [y56,y55,y54,y53,y64,y65];omega)|exact ⟨rfl,z38 rfl z45⟩)|((first|apply z5|apply z28)<;>intro _)|(apply z0 (hl2);rfl;rfl))<;>conv=>whnf)
            all_goals try (exfalso;omega)
          all_goals first
            | (have hy := hQ1 ⟨by omega, by omega, rfl⟩
               refine z34 (m+1,B++[⟨i,k,j,m⟩]) ⟨by omega,by simp;omega,by rw [hB,hcq,hy,List.append_assoc]⟩ (by show pj.es.length - (m+1) < pj.es.length - m;omega) (by refine swR [0,1,6,3] [] rfl rfl ?_;(repeat' first|exact y93 _|(refine z43 ?_;((simp;done)))|apply y94|((refine z51 rfl ?_ ?_);(focus ((repeat' (first|exact z4 (fun _=>rfl)|apply z40));done)))|(refine z73 ?_ ?_;(focus (omega)))|constructor)))
            | (have hy := hQ0 (by rintro ⟨z1, z2, z3⟩; first | exact absurd z3 (by decide) | omega)
               refine z34 (m+1,B) ⟨by omega,by simp;omega,by rw [hB,hcq,hy,y71]⟩ (by show pj.es.length - (m+1) < pj.es.length - m;omega) (by refine swR [0,1,2,3] [] rfl rfl ?_;(repeat' first|exact y93 _|exact z11 _|apply y94|refine z10 rfl (z4 (fun _=>rfl)) ?_|constructor)))
        · have em:m=(s.pr j).es.length:=by omega
          repeat' ((first|(apply y4 ok;rfl)|(apply y50;first|omega|(unfold inI;omega))|(((with_reducible apply z8;omega));intro _)|((first|apply z5|apply z28)<;>intro _))<;>conv=>whnf)
          all_goals try (exfalso;omega)
          all_goals refine z34 (j+1,B) ⟨by omega,by simp;omega,by rw [hB,hA,em,List.append_assoc];exact congrArg _ (z192 j fun j'=>cat (s.pr j').es.length (Q j')).symm⟩ (by show s.ps.length - (j+1) < s.ps.length - j;omega) (by refine swR [0,1,2,3] [] rfl rfl ?_;(repeat' first|exact y93 _|exact z11 _|apply y94|refine z10 rfl (z4 (fun _=>rfl)) ?_|constructor))
      · have ej:j=s.ps.length:=by omega
        repeat' ((first|(apply y4 ok;rfl)|(apply y50;first|omega|(unfold inI;omega))|(((with_reducible apply z8;omega));intro _)|((apply z5)<;>intro _))<;>conv=>whnf)
        all_goals try (exfalso;omega)
        all_goals refine z34 (k+1,A) ⟨by omega,by simp;omega,by rw [hA,hM,hcs,hz,ej,List.append_assoc]⟩ (by show (s.pr i).es.length - (k+1) < (s.pr i).es.length - k;omega) (by refine swR [0,1,2] [] rfl rfl ?_;(repeat' first|exact y93 _|exact z11 _|apply y94|refine z10 rfl (z4 (fun _=>rfl)) ?_|constructor))
    · have ek:k=(s.pr i).es.length:=by omega
      repeat' ((first|(apply y4 ok;rfl)|(apply y50;first|omega|(unfold inI;omega))|(((with_reducible apply z8;omega));intro _)|((apply z5)<;>intro _))<;>conv=>whnf)
      all_goals try (exfalso;omega)
      all_goals refine z34 (i+1,M) ⟨by omega,by simp;omega,by rw [hM,hL,ek];exact (z192 i fun j=>cat (s.pr j).es.length (R j)).symm⟩ (by show s.ps.length - (i+1) < s.ps.length - i;omega) (by refine swR [0,1,2] [] rfl rfl ?_;(repeat' first|exact y93 _|exact z11 _|apply y94|refine z10 rfl (z4 (fun _=>rfl)) ?_|constructor))
  · have ei:i=s.ps.length:=by omega
    have eL:L=FIN:=by rw [hfin,hL,ei]
    subst eL
    repeat' ((first|(apply y4 ok;rfl)|(apply y50;omega)|(((with_reducible apply z8;omega));intro _)|((apply z5)<;>intro _)|(apply z95 [2] [] cF;rfl;(focus ((repeat' first|exact z14|apply z27)<;>(refine z41 rfl ?_;((exact z4 fun _=>rfl)))));rfl;(focus ((repeat' first|exact z12|apply z15)<;>(refine z22 ?_;((exact z4 fun _=>rfl)))))))<;>conv=>whnf)
    all_goals try (exfalso;omega)
    all_goals (refine rsD [] [2] rfl ?_;(repeat' first|exact y93 _|((apply z66 rfl rfl rfl);(focus ((repeat ((exact z53 (fun _=>rfl) _)));done));(focus (((simp;done));done)))|constructor))
theorem edgOk_eq {e:Edge} {n:Int} (h1:1≤n) (h4:n≤4):z159 e n=(btw e.fr 0 (n - 1) && (btw e.to 0 (n - 1) && (e.gd.exprB && (btw e.var (-1) 2 && ((if e.var < 0 then z464 e.val else e.val.exprB) && btw e.sync (-2) 2))))):=by
 unfold z159
 generalize e.gd.exprB=g
 generalize (if e.var < 0 then z464 e.val else e.val.exprB)=v
 rw [Bool.eq_iff_iff]
 simp only [y77,decide_eq_true_eq,z119]
 constructor
 ·rintro ⟨a,b,c,d⟩
  exact ⟨by omega,by omega,b,by omega,d,by omega⟩
 ·rintro ⟨a,b,c,d,f,g⟩
  exact ⟨by omega,c,by omega,f⟩
end Go.Proofs.YtnfoijopccdjeaaGreat
namespace Go.Proofs.YtnfoijopccdjeaaGreat
open Go.Gl
attribute [local irreducible] z16 AWP z29 z32 z30
open Classical in
noncomputable def innI (s:Sys) (st0:State):List Stp→List State→List Int→List State×List Int
 |[],S,N=>(S,N)
 |x::r,S,N =>
  if z113 (z76 s st0 x) S 0 < 0 then innI s st0 r (S++[z76 s st0 x]) (if (S.length:Int)∈N then N else N++[(S.length:Int)])
  else innI s st0 r S (if z113 (z76 s st0 x) S 0∈N then N else N++[z113 (z76 s st0 x) S 0])
theorem z790 {s:Sys} {st0:State} : ∀ (L:List Stp) (S:List State) (N:List Int),S.length≤(innI s st0 L S N).1.length∧(innI s st0 L S N).1.length≤S.length+L.length∧N.length≤(innI s st0 L S N).2.length∧(L≠[]→1≤(innI s st0 L S N).2.length):=by
 intro L
 induction L with
 |nil=>intro S N;simp [innI]
 |cons x L ih =>
  intro S N
  have put:∀ (N:List Int) (v:Int),N.length≤(open Classical in if v∈N then N else N++[v]).length∧1≤(open Classical in if v∈N then N else N++[v]).length:=fun N v=>by
   split
   ·rename_i h
    exact ⟨y59 _,List.length_pos_of_mem h⟩
   ·simp
  simp only [innI]
  split
  ·obtain ⟨a,b,c,d⟩:=ih (S++[z76 s st0 x]) (open Classical in if (S.length:Int)∈N then N else N++[(S.length:Int)])
   have:=put N S.length
   simp only [y54,y64,y65] at *
   exact ⟨by omega,by omega,by omega,fun _=>by omega⟩
  ·obtain ⟨a,b,c,d⟩:=ih S (open Classical in if z113 (z76 s st0 x) S 0∈N then N else N++[z113 (z76 s st0 x) S 0])
   have:=put N (z113 (z76 s st0 x) S 0)
   simp only [y64] at *
   exact ⟨by omega,by omega,by omega,fun _=>by omega⟩
theorem z953 {s:Sys} {st0:State} : ∀ (L:List Stp) (S:List State) (N:List Int),S.length≤60→inn s st0 L S N=if (innI s st0 L S N).1.length≤60 then some (innI s st0 L S N) else none:=by
 intro L
 induction L with
 |nil=>intro S N h;simp only [inn,innI];exact (if_pos h).symm
 |cons x L ih =>
  intro S N h
  have hr:=z355 (z76 s st0 x) S 0 (by omega)
  by_cases hz:z113 (z76 s st0 x) S 0 < 0
  ·have hI:innI s st0 (x::L) S N=innI s st0 L (S++[z76 s st0 x]) (open Classical in if (S.length:Int)∈N then N else N++[(S.length:Int)]):=by
    simp only [innI];exact if_pos hz
   simp only [hI,inn]
   rw [if_pos hz]
   by_cases h60:60≤(S.length:Int)
   ·rw [if_pos h60,if_neg]
    have:=(z790 (s:=s) (st0:=st0) L (S++[z76 s st0 x]) (open Classical in if (S.length:Int)∈N then N else N++[(S.length:Int)])).1
    simp only [y54,y64,y65] at this
    omega
   ·rw [if_neg h60,ih _ _ (by simp;omega)]
  ·have hI:innI s st0 (x::L) S N=innI s st0 L S (open Classical in if z113 (z76 s st0 x) S 0∈N then N else N++[z113 (z76 s st0 x) S 0]):=by
    simp only [innI];exact if_neg hz
   simp only [hI,inn]
   rw [if_neg hz,if_neg (by omega),ih _ _ h]
theorem innI_ok {s:Sys} (hs:s.ok) {st0:State} (h0:st0.ok s):∀ (L:List Stp),(∀ x∈L,x.ok s)→∀ (S:List State) (N:List Int),(∀ t∈S,t.ok s)→∀ t∈(innI s st0 L S N).1,t.ok s:=by
 intro L
 induction L with
 |nil=>intro _ S N h;exact h
 |cons x L ih =>
  intro hx S N h
  simp only [innI]
  split
  ·refine ih (fun y hy=>hx y (by simp [hy])) _ _ fun t ht=>?_
   rcases List.mem_append.1 ht with ht|ht
   ·exact h t ht
   ·rw [List.mem_singleton.1 ht];exact z310 hs h0 (hx x (by simp))
  ·exact ih (fun y hy=>hx y (by simp [hy])) _ _ h
theorem z1038 (t:State):∀ (l:List State),idxF (fun x=>decide (x=t)) l=z113 t l 0:=by
 have key:∀ (l:List State) (k:Nat),z113 t l k=if idxF (fun x=>decide (x=t)) l < 0 then -1 else idxF (fun x=>decide (x=t)) l+k:=by
  intro l
  induction l with
  |nil=>intro k;rfl
  |cons x l ih =>
   intro k
   simp only [z113]
   by_cases hx:x=t
   ·have e:idxF (fun x=>decide (x=t)) (x::l)=0:=by unfold idxF;simp [List.findIdx?_cons,hx]
    rw [if_pos hx,e,if_neg (by omega)];omega
   ·have ih:=ih (k+1)
    rw [if_neg hx,show ((k:Int)+1)=((k+1:Nat):Int) by omega,ih]
    unfold idxF
    rw [List.findIdx?_cons]
    simp only [hx,decide_false,Bool.false_eq_true,if_false]
    cases l.findIdx? (fun x=>decide (x=t)) with
    |none=>simp
    |some i=>simp;omega
 intro l
 have:=key l 0
 rw [show ((0:Nat):Int)=0 from rfl] at this
 rw [this]
 have h1 : -1≤idxF (fun x=>decide (x=t)) l:=by
  unfold idxF
  cases l.findIdx? (fun x=>decide (x=t)) with
  |none=>simp
  |some i=>simp<;>omega
 split<;>omega
end Go.Proofs.YtnfoijopccdjeaaGreat
namespace Go.Proofs.YtnfoijopccdjeaaGreat
open Go.Gl
attribute [local irreducible] z16 AWP z29 z32 z30 RetS z36
theorem z596 (s:Sys) (hs:s.ok):CallsA Tryz.prog 104 [.agg s.cs] [] (.agg (⟨List.replicate s.ps.length 0,s.init⟩:State).cs) []:=by
 have hl:=hs.n3
 have hi:=hs.init.1
 have c:=z455 s.init (by omega)
 refine z6 z9 Tryz.func104 rfl rfl 11 Tryz.ntmps104 (by simp) ?_
 repeat' ((first|(apply y4 ok;rfl)|(apply z17;kernel_rfl)|(apply y50;(dsimp only;omega))|(apply z0 (c);rfl;rfl))<;>conv=>whnf)
 all_goals (refine rsD [] [2] rfl ?_;(repeat' first|exact y93 _|((apply z66 rfl rfl rfl);(focus ((repeat (rfl));done));(focus (((simp;done));done)))|apply z64|(refine z221 ?_ ?_;(focus (simp;done)))|constructor))
 all_goals exact z55 (by rw [z735];simp only [List.map_replicate,y83];rfl)
theorem z1209 (st x:State) (h1:x.sm) (h2:st.sm):CallsA Tryz.prog 108 [z20 State.cs x,.pt st.cs] [] (.bool (decide (x=st))) []:=by
 have c:=z700 x st h1 h2
 unfold z20
 generalize decide (x=st)=b at *
 refine z6 z9 Tryz.func108 rfl rfl 7 Tryz.ntmps108 (by simp) ?_
 repeat' ((first|(apply y4 ok;rfl)|(apply z0 (c);rfl;rfl))<;>conv=>whnf)
 all_goals (refine rsD [] [] rfl ?_;(repeat' first|exact y93 _|constructor))
theorem z696 (c:State) (l:List State) (hl:l.length≤maxLen) (p:State→Bool) (f:FuncId) (hf:∀ x∈l,CallsA Tryz.prog f [z20 State.cs x,.pt c.cs] [] (.bool (p x)) []):CallsA Tryz.prog 107 [lst 2 State.cs l,.fn (.func f) [] [.pt c.cs]] [] (.int (idxF p l)) []:=by
 unfold maxLen at hl
 refine z7 z9 Tryz.func107 rfl rfl 19 Tryz.ntmps107 (by simp) ?_
 repeat' (((apply y4 ok;rfl))<;>conv=>whnf)
 refine z85 (fun k:Nat=>([(0,lst 2 State.cs l),(1,.fn (.func f) [] [.pt c.cs]),(7,.int l.length),(8,.int k)],[])) (fun k=>k≤l.length∧∀ j (hj:j < l.length),j < k→p l[j]=false) (fun k=>l.length - k) 0 (by simp)
  ⟨[],rfl,by decide,rfl,⟨⟨rfl,rfl⟩,⟨rfl,rfl⟩,⟨rfl,rfl⟩,⟨rfl,rfl⟩,trivial⟩,trivial⟩ ?_
 intro k hk
 repeat' ((first|(apply y4 ok;rfl)|(apply y50;first|omega|(unfold inI;omega))|(((with_reducible apply z8;omega));intro _)|((first|apply z5|apply z93)<;>intro _)|(apply z0 (hf l[k] (y51 _));rfl;rfl))<;>conv=>whnf)
 ·rename_i h h1
  exact z42 rfl rfl (by rw [z140 (by omega) h1 hk.2];rfl)
 ·rename_i h h1
  refine z78 (k+1) [] ⟨by omega,fun j hj hjk=>?_⟩ (by omega) ⟨rfl,by decide,rfl,⟨⟨rfl,rfl⟩,⟨rfl,rfl⟩,⟨rfl,rfl⟩,⟨rfl,rfl⟩,trivial⟩,trivial⟩
  rcases y76 j k with h2|h2
  ·exact hk.2 j hj h2
  ·obtain rfl:j=k:=by omega
   exact h1
 ·exact z42 rfl rfl (by rw [z129 fun j hj=>hk.2 j hj (by omega)];rfl)
end Go.Proofs.YtnfoijopccdjeaaGreat
