/- A part of the proofs over this program: T284, T285, T94W, T180, T181, T182, T183, T113. -/
import Derived.Test.YtnfoijopccdjeaaGreatG0
import Derived.Test.YtnfoijopccdjeaaGreatG1
import Derived.Test.YtnfoijopccdjeaaGreatG2
import Derived.Test.YtnfoijopccdjeaaGreatG3
import Derived.Test.YtnfoijopccdjeaaGreatP0
import Derived.Test.YtnfoijopccdjeaaGreatP1
import Derived.Test.YtnfoijopccdjeaaGreatP2
set_option linter.all false
namespace Go.Proofs.YtnfoijopccdjeaaGreat
open Go.Gl
attribute [local irreducible] z18 AWP z30 z36 z32 RetS z38
set_option maxHeartbeats 6400000 in
theorem z206 (s:Sys) (hs:s.s1):CallsA Tryz.prog 40 [.agg s.cs] [] (.bool (sysB s)) []:=by
 have hl:=hs.len
 have hi:=hs.init
 have cv:=z699 s.init (by unfold maxLen;omega)
 have cn:=z232 s.ps.length 1 3
 have e0:sysB s=(s.ps.all z257 && (z280 s.init && btw s.ps.length 1 3)):=by
  unfold sysB
  congr 2
  rw [Bool.eq_iff_iff,decide_eq_true_iff,z116];omega
 rw [e0]
 generalize z280 s.init=vb at *
 generalize btw s.ps.length 1 3=nb at *
 cases vb
 ·refine z7 z16 Tryz.func40 rfl rfl 40 Tryz.ntmps40 (by simp) ?_
  repeat' ((first|(apply y4 ok;rfl)|(apply z6 (cv);rfl;rfl))<;>conv=>whnf)
  all_goals (refine rsD [] [] rfl ?_;(repeat' constructor))
  all_goals exact z183 (by simp)
 cases nb
 ·refine z7 z16 Tryz.func40 rfl rfl 40 Tryz.ntmps40 (by simp) ?_
  repeat' ((first|(apply y4 ok;rfl)|(apply z6 (cv);rfl;rfl)|(apply z6 (cn);rfl;rfl))<;>conv=>whnf)
  all_goals (refine rsD [] [] rfl ?_;(repeat' constructor))
  all_goals exact z183 (by simp)
 rw [Bool.and_true,Bool.and_true]
 refine z7 z16 Tryz.func40 rfl rfl 40 Tryz.ntmps40 (by simp) ?_
 repeat' ((first|(apply y4 ok;rfl)|(apply z6 (cv);rfl;rfl)|(apply z6 (cn);rfl;rfl))<;>conv=>whnf)
 refine z58 (fun i:Nat=>([(1,.ptr 0 none 0),(17,lst 2 Proc.cs s.ps),(18,.int s.ps.length),(19,.int i)],[.cells 2 [s.cs]])) (fun i=>i≤s.ps.length∧s.ps.all z257=(s.ps.drop i).all z257) (fun i=>s.ps.length - i) 0 ⟨by omega,rfl⟩ (by refine swR [0] [] rfl rfl ?_;(repeat' first|exact y85 _|apply y86|constructor)) ?_
 intro i hi
 by_cases hil:i < s.ps.length
 ·have gp:(s.ps.map Proc.cs)[i]?=some (Proc.cs s.ps[i]):=by rw [y51,y45 hil];rfl
  have hp:=hs.el _ (y44 hil)
  have e:=z145 z257 s.ps i hil
  rw [e] at hi
  generalize s.ps[i]=p at *
  have hpl:=hp.len
  have c1:=z232 p.loc 1 4
  have c2:=z400 p p.es (by unfold maxLen;omega) (fun e=>!z209 e p.loc) 99 (fun e he=>z706 p e (hp.el e he))
  have e1:z257 p=(btw p.loc 1 4 && (decide (p.es.length≤6) && !(p.es.any fun e=>!z209 e p.loc))):=by
   unfold z257
   rw [List.all_eq_not_any_not,Bool.eq_iff_iff]
   generalize (p.es.any fun e=>!z209 e p.loc)=b
   simp only [y70,decide_eq_true_iff,z116]
   constructor
   ·rintro ⟨a,b⟩;exact ⟨by omega,by omega,a⟩
   ·rintro ⟨a,b,c⟩;exact ⟨c,by omega⟩
  rw [e1] at hi
  generalize (p.es.any fun e=>!z209 e p.loc)=b2 at *
  generalize btw p.loc 1 4=b1 at *
  by_cases h6:p.es.length≤6
  ·rw [y81 h6] at hi
   cases b1<;>cases b2
   all_goals
    repeat' ((first|(apply y4 ok;rfl)|(refine z15 (i:=i) rfl gp ?_)|(apply y43;first|omega|(unfold inI;omega))|((apply z5)<;>intro _)|(apply z482 [1] (c2);rfl;rfl;rfl;rfl)|(apply z6 (c1);rfl;rfl))<;>conv=>whnf)
    all_goals try (exfalso;omega)
   all_goals first
    |(refine z21 (i+1) ⟨by omega,by rw [hi.2];rfl⟩ (by omega) (by refine swR [0] [] rfl rfl ?_;(repeat' first|exact y85 _|apply y86|constructor)))
    |(refine rsL [] [] rfl ?_;refine y12 (z183 ?_) .nil;rw [hi.2];rfl)
  ·rw [y82 h6] at hi
   cases b1<;>cases b2
   all_goals
    repeat' ((first|(apply y4 ok;rfl)|(refine z15 (i:=i) rfl gp ?_)|(apply y43;omega)|((apply z5)<;>intro _)|(apply z482 [1] (c2);rfl;rfl;rfl;rfl)|(apply z6 (c1);rfl;rfl))<;>conv=>whnf)
    all_goals try (exfalso;omega)
   all_goals (refine rsL [] [] rfl ?_;refine y12 (z183 ?_) .nil;rw [hi.2];rfl)
 ·have e:=z126 z257 s.ps i (by omega)
  rw [e] at hi
  repeat' ((first|(apply y4 ok;rfl)|(apply y43;omega)|(((with_reducible apply z13;omega));intro _)|((apply z5)<;>intro _))<;>conv=>whnf)
  all_goals first|(exfalso;contradiction)|skip
  all_goals (refine rsL [] [] rfl ?_;refine y12 (z183 ?_) .nil;rw [hi.2])
theorem z575 (s:Sys) (hs:s.ok):CallsA Tryz.prog 104 [.agg s.cs] [] (.agg (⟨List.replicate s.ps.length 0,s.init⟩:State).cs) []:=by
 have hl:=hs.n3
 have hi:=hs.init.1
 have c:=z219 s.init (by omega)
 refine z7 z16 Tryz.func104 rfl rfl 11 Tryz.ntmps104 (by simp) ?_
 repeat' ((first|(apply y4 ok;rfl)|(apply z26;kernel_rfl)|(apply y43;(dsimp only;omega))|(apply z6 (c);rfl;rfl))<;>conv=>whnf)
 all_goals (refine rsD [] [2] rfl ?_;(repeat' first|exact y85 _|((apply z37 rfl rfl rfl);(focus ((repeat (rfl));done));(focus (((simp;done));done)))|apply z46|(refine z66 ?_ ?_;(focus (simp;done)))|constructor))
 all_goals exact z45 (by rw [z701];simp only [List.map_replicate,y76];rfl)
theorem z1198 (st x:State) (h1:x.sm) (h2:st.sm):CallsA Tryz.prog 108 [z24 State.cs x,.pt st.cs] [] (.bool (decide (x=st))) []:=by
 have c:=z665 x st h1 h2
 unfold z24
 generalize decide (x=st)=b at *
 refine z7 z16 Tryz.func108 rfl rfl 7 Tryz.ntmps108 (by simp) ?_
 repeat' ((first|(apply y4 ok;rfl)|(apply z6 (c);rfl;rfl))<;>conv=>whnf)
 all_goals (refine rsD [] [] rfl ?_;(repeat' first|exact y85 _|constructor))
theorem z661 (c:State) (l:List State) (hl:l.length≤maxLen) (p:State→Bool) (f:FuncId) (hf:∀ x∈l,CallsA Tryz.prog f [z24 State.cs x,.pt c.cs] [] (.bool (p x)) []):CallsA Tryz.prog 107 [lst 2 State.cs l,.fn (.func f) [] [.pt c.cs]] [] (.int (idxF p l)) []:=by
 unfold maxLen at hl
 refine z14 z16 Tryz.func107 rfl rfl 19 Tryz.ntmps107 (by simp) ?_
 repeat' (((apply y4 ok;rfl))<;>conv=>whnf)
 refine z134 (fun k:Nat=>([(0,lst 2 State.cs l),(1,.fn (.func f) [] [.pt c.cs]),(7,.int l.length),(8,.int k)],[])) (fun k=>k≤l.length∧∀ j (hj:j < l.length),j < k→p l[j]=false) (fun k=>l.length - k) 0 (by simp)
  ⟨[],rfl,by decide,rfl,⟨⟨rfl,rfl⟩,⟨rfl,rfl⟩,⟨rfl,rfl⟩,⟨rfl,rfl⟩,trivial⟩,trivial⟩ ?_
 intro k hk
 repeat' ((first|(apply y4 ok;rfl)|(apply y43;first|omega|(unfold inI;omega))|(((with_reducible apply z13;omega));intro _)|((first|apply z5|apply z91)<;>intro _)|(apply z6 (hf l[k] (y44 _));rfl;rfl))<;>conv=>whnf)
 ·rename_i h h1
  exact z49 rfl rfl (by rw [z155 (by omega) h1 hk.2];rfl)
 ·rename_i h h1
  refine z117 (k+1) [] ⟨by omega,fun j hj hjk=>?_⟩ (by omega) ⟨rfl,by decide,rfl,⟨⟨rfl,rfl⟩,⟨rfl,rfl⟩,⟨rfl,rfl⟩,⟨rfl,rfl⟩,trivial⟩,trivial⟩
  rcases y69 j k with h2|h2
  ·exact hk.2 j hj h2
  ·obtain rfl:j=k:=by omega
   exact h1
 ·exact z49 rfl rfl (by rw [z139 fun j hj=>hk.2 j hj (by omega)];rfl)
theorem z1021 (l:List State) (hl:l.length≤1048576):CallsA Tryz.prog 111 [.sref 0 0 l.length] [.cells 2 (l.map State.cs)] (.sref 0 0 l.length) [.cells 2 (l.map State.cs)]:=by
 refine z7 z16 Tryz.func111 rfl rfl 9 Tryz.ntmps111 (by simp) ?_
 repeat' ((first|(apply y4 ok;rfl)|(apply y43;omega))<;>conv=>whnf)
 all_goals (refine rsD [0] [] rfl ?_;(repeat' first|exact y85 _|exact z9 _|refine z10 rfl (z4 (fun _=>rfl)) ?_|constructor))
theorem z1022 (l:List (List Int)) (hl:l.length≤1048576):CallsA Tryz.prog 112 [.sref 0 0 l.length] [.cells 1 (l.map encL)] (.sref 0 0 l.length) [.cells 1 (l.map encL)]:=by
 refine z7 z16 Tryz.func112 rfl rfl 9 Tryz.ntmps112 (by simp) ?_
 repeat' ((first|(apply y4 ok;rfl)|(apply y43;omega))<;>conv=>whnf)
 all_goals (refine rsD [0] [] rfl ?_;(repeat' first|exact y85 _|exact z9 _|refine z10 rfl (z4 (fun _=>rfl)) ?_|constructor))
set_option maxHeartbeats 12800000 in
theorem z765 (s:Sys) (hsB:sysB s=true):CallsA Tryz.prog 43 [.agg s.cs] [] (.tup [.agg ((z90 s).getD ⟨[],[]⟩).cs,.bool (z90 s).isSome]) []:=by
 have hs:=y14 hsB
 have hn3:=hs.n3
 have c0:=z575 s hs
 have eb:z90 s=grow s 61 [⟨List.replicate s.ps.length 0,s.init⟩] [] 0:=by unfold z90;rw [if_pos hsB]
 have hI0:GInv s [⟨List.replicate s.ps.length 0,s.init⟩] [] 0:=⟨by simp,by simp,by simp,rfl,fun t ht=>by
  rw [List.mem_singleton.1 ht]
  exact ⟨by simp,hs.init⟩,by simp⟩
 rw [eb]
 generalize (⟨List.replicate s.ps.length 0,s.init⟩:State)=st1 at *
 generalize hR:grow s 61 [st1] [] 0=R at *
 refine z7 z16 Tryz.func43 rfl rfl 90 Tryz.ntmps43 (by simp) ?_
 repeat' ((first|(apply y4 ok;rfl)|(apply z6 (c0);rfl;rfl))<;>conv=>whnf)
 refine y84 (y87 1 rfl) ?_
 refine z58 (fun x:Nat×List State×List (List Int)=>([(1,.ptr 0 none 0),(2,.ptr 1 none 0),(4,.ptr 2 none 0),(5,.int x.1)],[.cells 2 [s.cs],.cells 2 [[.nils,.nils]],.cells 2 [[.sref 3 0 x.2.1.length,.sref 4 0 x.2.2.length]],.cells 2 (x.2.1.map State.cs),.cells 1 (x.2.2.map encL)])) (fun x=>GInv s x.2.1 x.2.2 x.1∧grow s (61 - x.1) x.2.1 x.2.2 x.1=R) (fun x=>61 - x.1) (0,[st1],[]) ⟨hI0,hR⟩ (by refine swR [0,1,3,2,4] [] rfl rfl ?_;(repeat' first|exact y85 _|exact z47|apply y86|refine z10 rfl (z31) ?_|constructor)) ?_
 rintro ⟨i,S,G⟩ ⟨hI,hg⟩
 simp only at hI hg
 have hS60:=hI.n
 have hGi:=hI.g
 have hile:=hI.le
 by_cases hil:i < S.length
 ·obtain ⟨st0,hst⟩:∃ st0,S[i]?=some st0:=⟨S[i],y45 hil⟩
  have h0:=hI.st st0 (List.mem_of_getElem? hst)
  rw [show 61 - i=(60 - i)+1 by omega,grow,hst] at hg
  dsimp only at hg
  have cS:=z1015 s hs st0 h0
  have hLl:=z368 hs (st:=st0)
  have hLo:∀ x∈z133 s st0,x.ok s:=fun x hx=>z313 x hx
  have gS:(S.map State.cs)[i]?=some (State.cs st0):=by rw [y51,hst];rfl
  rw [z932 _ _ _ hS60] at hg
  generalize z133 s st0=LST at *
  have hIok:=innI_ok hs h0 LST hLo S [] hI.st
  have hImo:=z760 (s:=s) (st0:=st0) LST S []
  have hInil:LST=[]→(innI s st0 LST S []).2=[]:=fun e=>by subst e;rfl
  have hIpre:(innI s st0 LST S []).1.length≤60→(innI s st0 LST S []).2.length≤LST.length:=fun hq=>by
   have e:=z932 (s:=s) (st0:=st0) LST S [] hS60
   rw [if_pos hq] at e
   have:=(z1153 hs h0 LST hLo S [] _ _ hS60 hI.st e).2.2.2.1
   simpa using this
  generalize hRI:innI s st0 LST S []=RI at *
  repeat' ((first|(apply y4 ok;rfl)|(apply z26;kernel_rfl)|(refine z15 (i:=i) rfl gS ?_)|(apply y43;omega)|((apply z5)<;>intro _)|(apply z6 (cS);rfl;rfl))<;>conv=>whnf)
  all_goals first|(exfalso;dsimp only at *;omega)|skip
  refine y84 (y87 1 rfl) ?_
  refine z58 (fun x:Nat×List State×List Int=>([(1,.ptr 0 none 0),(2,.ptr 1 none 0),(4,.ptr 2 none 0),(5,.int i),(6,.sref 5 0 x.2.2.length),(28,lst 4 Stp.cs LST),(29,.int LST.length),(30,.int x.1)],[.cells 2 [s.cs],.cells 2 [[.nils,.nils]],.cells 2 [[.sref 3 0 x.2.1.length,.sref 4 0 G.length]],.cells 2 (x.2.1.map State.cs),.cells 1 (G.map encL),.cells 1 (x.2.2.map enI)])) (fun x=>x.1≤LST.length∧x.2.1.length≤60+x.1∧(∀ t∈x.2.1,t.ok s)∧x.2.1[i]?=some st0∧x.2.2.length≤x.1∧innI s st0 (LST.drop x.1) x.2.1 x.2.2=RI) (fun x=>LST.length - x.1) (0,S,[]) ⟨by simp,by simpa using hS60,hI.st,hst,by simp,hRI⟩ (by refine swR [0,1,2,3,4,5] [] rfl rfl ?_;(repeat' first|exact y85 _|exact z47|exact z9 _|apply y86|((refine z10 rfl ?_ ?_);(focus ((repeat' (first|exact z31|exact z4 (fun _=>rfl)));done)))|constructor)) ?_
  rintro ⟨k,S',N⟩ ⟨hk,hS',hSo,hSi,hN,hin⟩
  simp only at hk hS' hSo hSi hN hin
  by_cases hkl:k < LST.length
  ·rw [y79 hkl,innI] at hin
   have hx:=hLo LST[k] (y44 _)
   have g1:(LST.map Stp.cs)[k]?=some (Stp.cs LST[k]):=by rw [y51,y45 hkl];rfl
   have c83:=z766 s hs st0 h0 LST[k] hx
   have hto:=z307 hs h0 hx
   have g0:(S'.map State.cs)[i]?=some (State.cs st0):=by rw [y51,hSi];rfl
   have hiS:i < S'.length:=(List.getElem?_eq_some_iff.1 hSi).1
   generalize z73 s st0 LST[k]=to at *
   have c84:=z661 to S' (by unfold maxLen;omega) (fun x=>decide (x=to)) 108 (fun x hx=>z1198 to x ((hSo x hx).sm hs) (hto.sm hs))
   rw [z1012] at c84
   have hfr:=z350 to S' 0 (by omega)
   generalize z111 to S' 0=n at *
   generalize LST[k]=x at *
   have cN:=fun v=>z140 N (by unfold maxLen;omega) v
   by_cases hn:n < 0
   ·rw [if_pos hn] at hin
    have cM:=cN S'.length
    by_cases hm:(S'.length:Int)∈N
    ·rw [if_pos hm] at hin
     rw [y81 hm] at cM
     repeat' ((first|(apply y4 ok;rfl)|(apply z26;kernel_rfl)|(refine z15 (i:=i) rfl g0 ?_)|(refine z15 (i:=k) rfl g1 ?_)|(apply y43;first|omega|(unfold inI;omega)|(dsimp only;omega)|((try dsimp only);simp only [y49,y48,y47,y46,y57,y58];omega)|exact ⟨rfl,z20 rfl z29⟩)|((apply z5)<;>intro _)|(apply z6 (c83);rfl;rfl)|((first|(apply z89 [] [3,7] [] c84;(focus (exact z48 (z234 rfl rfl rfl) (z48 rfl z75)));rfl)|(apply z89 [] [5] [] cM;(focus ((repeat' first|exact z75|apply z48)<;>first|exact z135 rfl rfl rfl|rfl));rfl));rfl;(focus ((repeat' exact z12)<;>fail));((refine .inr ⟨rfl,?_⟩;repeat' exact True.intro))))<;>conv=>whnf)
     all_goals try (exfalso;omega)
     all_goals refine z21 (k+1,S'++[to],N) ⟨by omega,by simp;omega,fun t ht=>by rcases List.mem_append.1 ht with h|h;exact hSo t h;rw [List.mem_singleton.1 h];exact hto,by rw [← hSi];exact y65 hiS,by show N.length≤k+1;omega,hin⟩ (by show LST.length - (k+1) < LST.length - k;omega) (by refine swR [0,1,2,9,4,5] [] rfl rfl ?_;(repeat' first|exact y85 _|exact z9 _|(refine z60 ?_;((simp;done)))|apply y86|((first|refine z40 rfl ?_ ?_|refine z10 rfl ?_ ?_);(focus ((repeat' (first|exact z4 (fun _=>rfl)|apply z22));done)))|(refine z84 ?_ ?_;(focus (omega)))|constructor))
    ·rw [if_neg hm] at hin
     rw [y82 hm] at cM
     repeat' ((first|(apply y4 ok;rfl)|(apply z26;kernel_rfl)|(refine z15 (i:=i) rfl g0 ?_)|(refine z15 (i:=k) rfl g1 ?_)|(apply y43;first|omega|(unfold inI;omega)|(dsimp only;omega)|((try dsimp only);simp only [y49,y48,y47,y46,y57,y58];omega)|exact ⟨rfl,z20 rfl z29⟩)|((apply z5)<;>intro _)|(apply z6 (c83);rfl;rfl)|((first|(apply z89 [] [3,7] [] c84;(focus (exact z48 (z234 rfl rfl rfl) (z48 rfl z75)));rfl)|(apply z89 [] [5] [] cM;(focus ((repeat' first|exact z75|apply z48)<;>first|exact z135 rfl rfl rfl|rfl));rfl));rfl;(focus ((repeat' exact z12)<;>fail));((refine .inr ⟨rfl,?_⟩;repeat' exact True.intro))))<;>conv=>whnf)
     all_goals try (exfalso;omega)
     all_goals refine z21 (k+1,S'++[to],N++[(S'.length:Int)]) ⟨by omega,by simp;omega,fun t ht=>by rcases List.mem_append.1 ht with h|h;exact hSo t h;rw [List.mem_singleton.1 h];exact hto,by rw [← hSi];exact y65 hiS,by simp;omega,hin⟩ (by show LST.length - (k+1) < LST.length - k;omega) (by refine swR [0,1,2,9,4,11] [] rfl rfl ?_;(repeat' first|exact y85 _|exact z9 _|(refine z60 ?_;((simp;done)))|apply y86|((first|refine z40 rfl ?_ ?_|refine z10 rfl ?_ ?_);(focus ((repeat' (first|exact z4 (fun _=>rfl)|apply z22));done)))|(refine z84 ?_ ?_;(focus (omega)))|constructor))
   ·rw [if_neg hn] at hin
    have cM:=cN n
    by_cases hm:n∈N
    ·rw [if_pos hm] at hin
     rw [y81 hm] at cM
     repeat' ((first|(apply y4 ok;rfl)|(apply z26;kernel_rfl)|(refine z15 (i:=i) rfl g0 ?_)|(refine z15 (i:=k) rfl g1 ?_)|(apply y43;first|omega|(unfold inI;omega)|(dsimp only;omega))|((apply z5)<;>intro _)|(apply z6 (c83);rfl;rfl)|((first|(apply z89 [] [3,7] [] c84;(focus (exact z48 (z234 rfl rfl rfl) (z48 rfl z75)));rfl)|(apply z89 [] [5] [] cM;(focus ((repeat' first|exact z75|apply z48)<;>first|exact z135 rfl rfl rfl|rfl));rfl));rfl;(focus ((repeat' exact z12)<;>fail));((refine .inr ⟨rfl,?_⟩;repeat' exact True.intro))))<;>conv=>whnf)
     all_goals try (exfalso;omega)
     all_goals refine z21 (k+1,S',N) ⟨by omega,by show S'.length≤60+(k+1);omega,hSo,hSi,by show N.length≤k+1;omega,hin⟩ (by show LST.length - (k+1) < LST.length - k;omega) (by refine swR [0,1,2,3,4,5] [] rfl rfl ?_;(repeat' first|exact y85 _|exact z9 _|apply y86|refine z10 rfl (z4 (fun _=>rfl)) ?_|constructor))
    ·rw [if_neg hm] at hin
     rw [y82 hm] at cM
     repeat' ((first|(apply y4 ok;rfl)|(apply z26;kernel_rfl)|(refine z15 (i:=i) rfl g0 ?_)|(refine z15 (i:=k) rfl g1 ?_)|(apply y43;first|omega|(unfold inI;omega)|(dsimp only;omega)|((try dsimp only);simp only [y49,y48,y47,y46,y57,y58];omega)|exact ⟨rfl,z20 rfl z29⟩)|((apply z5)<;>intro _)|(apply z6 (c83);rfl;rfl)|((first|(apply z89 [] [3,7] [] c84;(focus (exact z48 (z234 rfl rfl rfl) (z48 rfl z75)));rfl)|(apply z89 [] [5] [] cM;(focus ((repeat' first|exact z75|apply z48)<;>first|exact z135 rfl rfl rfl|rfl));rfl));rfl;(focus ((repeat' exact z12)<;>fail));((refine .inr ⟨rfl,?_⟩;repeat' exact True.intro))))<;>conv=>whnf)
     all_goals try (exfalso;omega)
     all_goals refine z21 (k+1,S',N++[n]) ⟨by omega,by show S'.length≤60+(k+1);omega,hSo,hSi,by simp;omega,hin⟩ (by show LST.length - (k+1) < LST.length - k;omega) (by refine swR [0,1,2,3,4,9] [] rfl rfl ?_;(repeat' first|exact y85 _|exact z9 _|(refine z60 ?_;((simp;done)))|apply y86|((first|refine z40 rfl ?_ ?_|refine z10 rfl ?_ ?_);(focus ((repeat' (first|exact z4 (fun _=>rfl)|apply z22));done)))|(refine z84 ?_ ?_;(focus (omega)))|constructor))
  ·rw [y83 (by omega),innI] at hin
   subst hin
   dsimp only at hg hIok hImo hInil hIpre
   have hiS:i < S'.length:=(List.getElem?_eq_some_iff.1 hSi).1
   rw [show 60 - i=61 - (i+1) by omega] at hg
   have hnext:S'.length≤60→GInv s S' (G++[z188 LST N i]) (i+1):=fun h60=>⟨by omega,h60,by omega,by simp [hGi],hSo,fun r hr=>by
    rcases List.mem_append.1 hr with h|h
    ·exact hI.row r h
    ·rw [List.mem_singleton.1 h]
     unfold z188
     have:=hIpre h60
     split<;>(try simp)<;>omega⟩
   by_cases hz:LST=[]
   ·have hN0:=hInil hz
    subst hN0
    have er:z188 LST [] i=[(i:Int)]:=by unfold z188;rw [if_pos hz];rfl
    have hz0:LST.length=0:=by rw [hz];rfl
    have cc:=z210 [(i:Int)] (by simp)
    rw [er] at hnext
    by_cases h60:S'.length≤60
    ·rw [if_pos h60] at hg
     dsimp only at hg
     rw [er] at hg
     repeat' ((first|(apply y4 ok;rfl)|(apply z26;kernel_rfl)|(apply y43;first|omega|(unfold inI;omega)|((try dsimp only);simp only [y49,y48,y47,y46,y57,y58];omega)|exact ⟨rfl,z20 rfl z29⟩)|((first|(with_reducible apply z13;omega)|(apply z13;omega));intro _)|((apply z5)<;>intro _)|(apply z25 [6] [] cc;rfl;rfl;rfl))<;>conv=>whnf)
     all_goals first|(exfalso;omega)|(exfalso;dsimp only at *;omega)|skip
     all_goals refine z21 (i+1,S',G++[[(i:Int)]]) ⟨hnext h60,hg⟩ (by show 61 - (i+1) < 61 - i;omega) (by refine swR [0,1,2,3,8] [6] rfl rfl ?_;(repeat' first|exact y85 _|exact z9 _|(refine z60 ?_;((simp;done)))|apply y86|((first|refine z40 rfl ?_ ?_|refine z10 rfl ?_ ?_);(focus ((repeat' (first|exact z4 (fun _=>rfl)|apply z22));done)))|(refine z84 ?_ ?_;(focus (omega)))|constructor))
    ·rw [if_neg h60] at hg
     dsimp only at hg
     subst hg
     repeat' ((first|(apply y4 ok;rfl)|(apply z26;kernel_rfl)|(apply y43;omega)|((first|(with_reducible apply z13;omega)|(apply z13;omega));intro _)|((apply z5)<;>intro _)|(apply z25 [6] [] cc;rfl;rfl;rfl))<;>conv=>whnf)
     all_goals (exfalso;omega)
     all_goals refine y13 [] [] rfl rfl rfl ?_
     all_goals exact y12 z354 .nil
   ·have er:z188 LST N i=N:=by unfold z188;rw [if_neg hz]
    have hN1:=hImo.2.2.2 hz
    have cc:=z210 N (by omega)
    rw [er] at hnext
    by_cases h60:S'.length≤60
    ·rw [if_pos h60] at hg
     dsimp only at hg
     rw [er] at hg
     repeat' ((first|(apply y4 ok;rfl)|(apply z26;kernel_rfl)|(apply y43;first|omega|(unfold inI;omega)|((try dsimp only);simp only [y49,y48,y47,y46,y57,y58];omega)|exact ⟨rfl,z20 rfl z29⟩)|((first|(with_reducible apply z13;omega)|(apply z13;omega));intro _)|((apply z5)<;>intro _)|(apply z77 [5] [] cc;rfl;(focus ((repeat' first|exact z28|apply z35)<;>(refine z54 rfl ?_;((exact z4 fun _=>rfl)))));rfl;(focus ((repeat' first|exact z12|apply z11)<;>(refine z17 ?_;((exact z4 fun _=>rfl)))))))<;>conv=>whnf)
     all_goals first|(exfalso;omega)|(exfalso;dsimp only at *;omega)|skip
     all_goals refine z21 (i+1,S',G++[N]) ⟨hnext h60,hg⟩ (by show 61 - (i+1) < 61 - i;omega) (by refine swR [0,1,2,3,7] [5] rfl rfl ?_;(repeat' first|exact y85 _|exact z9 _|(refine z60 ?_;((simp;done)))|apply y86|((first|refine z40 rfl ?_ ?_|refine z10 rfl ?_ ?_);(focus ((repeat' (first|exact z4 (fun _=>rfl)|apply z22));done)))|(refine z84 ?_ ?_;(focus (omega)))|((apply z80 rfl rfl rfl);(focus ((repeat ((exact z23 (fun _=>rfl) _)));done));(focus (((simp;done));done)))|constructor))
    ·rw [if_neg h60] at hg
     dsimp only at hg
     subst hg
     repeat' ((first|(apply y4 ok;rfl)|(apply z26;kernel_rfl)|(apply y43;first|omega|(unfold inI;omega)|((try dsimp only);simp only [y49,y48,y47,y46,y57,y58];omega)|exact ⟨rfl,z20 rfl z29⟩)|((first|(with_reducible apply z13;omega)|(apply z13;omega));intro _)|((apply z5)<;>intro _)|(apply z77 [5] [] cc;rfl;(focus ((repeat' first|exact z28|apply z35)<;>(refine z54 rfl ?_;((exact z4 fun _=>rfl)))));rfl;(focus ((repeat' first|exact z12|apply z11)<;>(refine z17 ?_;((exact z4 fun _=>rfl)))))))<;>conv=>whnf)
     all_goals first|(exfalso;omega)|(exfalso;dsimp only at *;omega)|skip
     all_goals refine y13 [] [] rfl rfl rfl ?_
     all_goals exact y12 z354 .nil
 ·have hn:S[i]?=none:=List.getElem?_eq_none_iff.2 (by omega)
  rw [show 61 - i=(60 - i)+1 by omega,grow,hn] at hg
  dsimp only at hg
  subst hg
  have cc1:=z1021 S (by omega)
  have cc2:=z1022 G (by omega)
  repeat' ((first|(apply y4 ok;rfl)|(apply z26;kernel_rfl)|(apply y43;omega)|(((apply z13;omega));intro _)|((apply z5)<;>intro _)|((first|(apply z77 [3] [] cc1;rfl;(focus ((repeat' first|exact z28|apply z35)<;>(refine z54 rfl ?_;((exact z4 fun _=>rfl))))))|(apply z77 [4] [] cc2;rfl;(focus ((repeat' first|exact z28|apply z35)<;>(refine z54 rfl ?_;((exact z4 fun _=>rfl)))))));rfl;(focus ((repeat' first|exact z12|apply z11)<;>(refine z17 ?_;((exact z4 fun _=>rfl)))))))<;>conv=>whnf)
  all_goals first|(exfalso;contradiction)|skip
  all_goals (refine rsD [] [3,4] rfl ?_;(repeat' first|exact y85 _|((apply z37 rfl rfl rfl);(focus ((repeat ((exact z23 (fun _=>rfl) _)));done));(focus (((simp;done));done)))|apply z46|apply z93|constructor))
end Go.Proofs.YtnfoijopccdjeaaGreat
namespace Go.Proofs.YtnfoijopccdjeaaGreat
open Go.Gl
attribute [local irreducible] z18
end Go.Proofs.YtnfoijopccdjeaaGreat
namespace Go.Proofs.YtnfoijopccdjeaaGreat
open Go.Gl
attribute [local irreducible] z18 AWP z30 z36 z32 RetS z38
def fnL (N:Nat) (f:Nat→Int):List Int:=(List.range N).map f
theorem z114 (N:Nat) (f:Nat→Int):(fnL N f).length=N:=by simp [fnL]
theorem z179 {N u:Nat} (f:Nat→Int) (h:u < N):((fnL N f).map enI)[u]?=some (enI (f u)):=by
 unfold fnL
 rw [y51,y51,List.getElem?_range h];rfl
theorem fnL_set {N u:Nat} (f:Nat→Int) (x:Int):(fnL N f).set u x=fnL N (upd f u x):=by
 apply y74 (by simp [fnL])
 intro i h1 h2
 rw [List.getElem_set]
 simp only [fnL,List.getElem_map,List.getElem_range]
 split
 ·rename_i e;subst e;rw [z34]
 ·rename_i e;rw [z53 _ _ (fun h=>e h.symm)]
theorem z158 {N u:Nat} (f:Nat→Int) (x:Int):((fnL N f).map enI).set u (enI x)=(fnL N (upd f u x)).map enI:=by rw [← fnL_set,List.map_set]
def natL (l:List Nat):List Int:=l.map fun x:Nat=>(x:Int)
theorem z470 (l:List Nat):(natL l).length=l.length:=by simp [natL]
theorem natL_at {l:List Nat} {i:Nat} (h:i < l.length):((natL l).map enI)[i]?=some (enI (l[i]:Nat)):=by
 unfold natL
 rw [y51,y51,y45 h];rfl
theorem z510 {rows:List (List Int)} {u:Nat} (h:u < rows.length):(rows.map encL)[u]?=some (encL (rows.getD u [])):=by
 rw [y51,y45 h,z19 h];rfl
@[reducible] def visF:AC:=.fn (.func 274) [] [.ptr 0 none 0,.ptr 1 none 0,.ptr 3 none 0,.ptr 5 none 0,.ptr 6 none 0,.ptr 7 none 0,.ptr 8 none 0,.ptr 10 none 0]
@[reducible] def z1117 (rows:List (List Int)) (s:TS):List AObj:=[.cells 1 [[.int s.cnt]],.cells 1 [[.sref 2 0 rows.length]],.cells 1 ((fnL rows.length s.num).map enI),.cells 1 [[.sref 4 0 rows.length]],.cells 1 ((fnL rows.length s.low).map enI),.cells 1 [[.own 1 ((natL s.stk).map enI)]],.cells 1 [[lst 1 encL rows]],.cells 1 [[visF]],.cells 1 [[.sref 9 0 rows.length]],.cells 1 ((fnL rows.length s.part).map enI),.cells 1 [[.int s.prt]]]
set_option maxHeartbeats 12800000 in
theorem z958 (rows : List (List Int)) (hr : ∀ r ∈ rows, InN rows.length r) (hN : rows.length ≤ 100000) (hrl : ∀ r ∈ rows, r.length ≤ 1000000000) : ∀ (f : Nat) (s : TS) (g : List Nat) (u : Nat), unvN rows.length s.num ≤ f → TI rows s g → s.num u = 0 → u < rows.length → (∀ x ∈ g, RN rows x u) → s.prt ≤ s.cnt →
  CallsA Tryz.prog 274 [.int (u:Int),.ptr 0 none 0,.ptr 1 none 0,.ptr 3 none 0,.ptr 5 none 0,.ptr 6 none 0,.ptr 7 none 0,.ptr 8 none 0,.ptr 10 none 0] (z1117 rows s) (.tup []) (z1117 rows (z237 rows f u s)):=by
 intro f
 induction f with
 |zero =>
  intro s g u hf _ h0 hu _ _
  have:=z1061 (num:=s.num) hu h0
  omega
 |succ f ih =>
  intro s g u hf hI h0 hu hg hsp
  have hTL:=z1221 hr hf hI h0 hu hg
  have hc0:s.cnt≤100000:=by have:=hI.ct;omega
  have gr:=z510 hu
  have hrow:=z215 hr (u:Int)
  rw [y76] at hrow
  have hrowl:(rows.getD u []).length≤1000000000:=by rw [z19 hu];exact hrl _ (y44 _)
  have hte:z237 rows (f+1) u s=tEnd u ((rows.getD u []).foldl (z366 (z237 rows f) u) (z199 u s)):=rfl
  generalize hR:z237 rows (f+1) u s=R at *
  generalize hrw:rows.getD u []=row at *
  have e1:=z158 (N:=rows.length) (u:=u) s.num (s.cnt+1)
  have e2:=z158 (N:=rows.length) (u:=u) s.low (s.cnt+1)
  have g1:=z179 s.num hu
  have g2:=z179 s.low hu
  have l1:=z114 rows.length s.num
  have l2:=z114 rows.length s.low
  have hsl:s.stk.length≤100000:=by
   have:=z202 rows.length (natL s.stk) ?_ ?_
   ·rw [z470] at this;omega
   ·exact (hI.nd).map _ fun a b h=>by omega
   ·intro x hx
    obtain ⟨y,hy,rfl⟩:=List.mem_map.1 hx
    have:=hI.lt y ((hI.stk y).1 hy).1
    omega
  refine z7 z16 Tryz.func274 rfl rfl 105 Tryz.ntmps274 (by simp) ?_
  repeat' ((first|((fail_if_success apply z184 2);(fail_if_success apply z137 2);apply y4 ok;rfl)|(apply z26;kernel_rfl)|(refine z15 (i:=u) rfl g1 ?_)|(refine z15 (i:=u) rfl g2 ?_)|(apply y43;first|omega|(unfold inI;omega)))<;>conv=>whnf)
  refine y84 (Gl.Reach.expose 5 0 0 rfl rfl rfl (z168 (fun _=>rfl) _) rfl) ?_
  conv=>whnf
  repeat' ((first|((fail_if_success apply z184 3);(fail_if_success apply z137 3);apply y4 ok;rfl)|(refine y43 ?_ ?_;(focus (dsimp only;simp only [y49,z470];omega)))|(refine z15 (i:=u) rfl gr ?_)|(apply y43;first|omega|exact ⟨rfl,z20 rfl z29⟩))<;>conv=>whnf)
  refine y84 (Gl.Reach.absorb 5 13 0 0 rfl rfl rfl rfl (by simp) rfl (z92 (fun e he=>(z4 (fun _=>rfl)) e (List.mem_of_mem_take he)) (z297 rfl z31)) rfl) ?_
  conv=>whnf
  have e3:((natL s.stk).map enI).take ((natL s.stk).map enI).length++[enI (u:Int)]=(natL (s.stk++[u])).map enI:=by
   rw [y55];unfold natL;simp
  obtain ⟨T,hT⟩:∃ T:Nat→TS,T=fun k=>(row.take k).foldl (z366 (z237 rows f) u) (z199 u s):=⟨_,rfl⟩
  have hT0:T 0=z199 u s:=by rw [hT];rfl
  have hTs:∀ k (hk:k < row.length),T (k+1)=z366 (z237 rows f) u (T k) row[k]:=fun k hk=>by
   rw [hT]
   show (row.take (k+1)).foldl _ _=_
   rw [y50 hk,y62];rfl
  have hTn:R=tEnd u (T row.length):=by
   rw [hT,hte]
   show _=tEnd u ((row.take row.length).foldl _ _)
   rw [y55]
  have hTT:∀ k,k≤row.length→TL rows s (T k) g u (row.take k):=fun k hk=>by rw [hT];exact hTL k hk
  clear hT hTL hte hR
  have f1:(T 0).num=upd s.num u (s.cnt+1):=by rw [hT0];rfl
  have f2:(T 0).low=upd s.low u (s.cnt+1):=by rw [hT0];rfl
  have f3:(T 0).stk=s.stk++[u]:=by rw [hT0];rfl
  have f4:(T 0).cnt=s.cnt+1:=by rw [hT0];rfl
  have f5:(T 0).part=s.part:=by rw [hT0];rfl
  have f6:(T 0).prt=s.prt:=by rw [hT0];rfl
  refine z58 (fun k:Nat=>([(0,.int (u:Int)),(1,.ptr 0 none 0),(2,.ptr 1 none 0),(3,.ptr 3 none 0),(4,.ptr 5 none 0),(5,.ptr 6 none 0),(6,.ptr 7 none 0),(7,.ptr 8 none 0),(8,.ptr 10 none 0),(30,ints row),(31,.int row.length),(32,.int k)],[.cells 1 [[.int (T k).cnt]],.cells 1 [[.sref 2 0 rows.length]],.cells 1 ((fnL rows.length (T k).num).map enI),.cells 1 [[.sref 4 0 rows.length]],.cells 1 ((fnL rows.length (T k).low).map enI),.cells 1 [[.own 1 ((natL (T k).stk).map enI)]],.cells 1 [[lst 1 encL rows]],.cells 1 [[visF]],.cells 1 [[.sref 9 0 rows.length]],.cells 1 ((fnL rows.length (T k).part).map enI),.cells 1 [[.int (T k).prt]]])) (fun k=>k≤row.length) (fun k=>row.length - k) 0 (y53 _) (by refine swR [0,1,2,3,4,5,6,7,8,9,10] [] rfl rfl ?_;(repeat' first|exact y85 _|(refine z121 ?_;omega)|apply y86|refine z50 rfl (z4 (fun _=>rfl)) ?_|refine z10 rfl (z4 (fun _=>rfl)) ?_|constructor)<;>(first|(refine z45 ?_;rw [f1];exact e1)|(refine z45 ?_;rw [f2];exact e2)|(rw [f5];exact z9 _)|(rw [f3];refine y9 ?_;rw [← e3];rfl))) ?_
  clear f1 f2 f3 f4 f5 f6 hT0 e1 e2 e3 g1 g2 l1 l2
  intro k hk
  have hL:=hTT k hk
  have hLI:=hL.inv
  have hL2:=hL.num
  have gu1:=z179 (T k).num hu
  have gu2:=z179 (T k).low hu
  have l1:=z114 rows.length (T k).num
  have l2:=z114 rows.length (T k).low
  have l3:=z114 rows.length (T k).part
  by_cases hk2:k < row.length
  ·have hs2:=hTs k hk2
   have gk:(row.map enI)[k]?=some (enI row[k]):=by rw [y51,y45 hk2];rfl
   have hv:=hrow _ (y44 hk2)
   have hvm:row[k]∈rows.getD u []:=by rw [hrw];exact y44 hk2
   generalize row[k]=v at *
   obtain ⟨w,rfl⟩:∃ w:Nat,v=w:=⟨v.toNat,by omega⟩
   have hw:w < rows.length:=by omega
   have gw1:=z179 (T k).num hw
   have gw3:=z179 (T k).part hw
   unfold z366 at hs2
   simp only [y76] at hs2
   have hnx:k+1≤row.length:=hk2
   generalize hS:T k=S at *
   generalize hS2:T (k+1)=S2 at *
   by_cases hw0:S.num w=0
   ·rw [if_pos hw0] at hs2
    have cW:=ih S (u::g) w (by have h1:=hL.cnt;have h2:=hLI.ct;have h3:=hI.ct;omega) hLI hw0 hw (fun x hx=>by
     rcases List.mem_cons.1 hx with rfl|hx
     ·exact .edge hvm
     ·exact (hg x hx).trans (.edge hvm)) (by have:=hL.prt;omega)
    generalize z237 rows f w S=S1 at *
    have hu1:=z179 S1.low hu
    have hw1:=z179 S1.low hw
    have l4:=z114 rows.length S1.low
    have e1:=z158 (N:=rows.length) (u:=u) S1.low (min (S1.low u) (S1.low w))
    have q1:S2.low=upd S1.low u (min (S1.low u) (S1.low w)):=by rw [hs2];rfl
    have q2:S2.num=S1.num:=by rw [hs2];rfl
    have q3:S2.part=S1.part:=by rw [hs2];rfl
    have q4:S2.stk=S1.stk:=by rw [hs2];rfl
    have q5:S2.cnt=S1.cnt:=by rw [hs2];rfl
    have q6:S2.prt=S1.prt:=by rw [hs2];rfl
    repeat' ((first|((fail_if_success apply z184 8);(fail_if_success apply z137 8);apply y4 ok;rfl)|(apply z26;kernel_rfl)|(refine z15 (i:=k) rfl gk ?_)|(refine z15 (i:=w) rfl gw1 ?_)|(apply y43;omega)|(((apply z13;omega));intro _)|((apply z5)<;>intro _)|(apply z77 [0,1,2,3,4,5,6,7,8,9,10] [] cW;rfl;(focus ((repeat' first|exact z28|apply z35)<;>first|rfl|(refine z54 rfl ?_;((exact z4 fun _=>rfl)))));rfl;(focus ((repeat' first|exact z12|apply z11)<;>first|exact z33 rfl rfl|(refine z17 ?_;((exact z4 fun _=>rfl)))))))<;>conv=>whnf)
    all_goals try (exfalso;omega)
    repeat' ((first|(apply y4 ok;rfl)|(apply z26;kernel_rfl)|(refine z15 (i:=u) rfl hu1 ?_)|(refine z15 (i:=w) rfl hw1 ?_)|(apply y43;first|omega|(unfold inI;omega)))<;>conv=>whnf)
    all_goals refine z21 (k+1) hk2 (by omega) ?_
    all_goals dsimp only
    all_goals rw [hS2,q2,q3,q4,q5,q6,q1]
    all_goals exact (by refine swR [0,1,2,3,4,5,6,7,8,9,10] [] rfl rfl ?_;(repeat' first|exact y85 _|exact z9 _|apply y86|refine z50 rfl (z4 (fun _=>rfl)) ?_|refine z10 rfl (z4 (fun _=>rfl)) ?_|constructor)<;>((refine z45 ?_;exact e1)))
   ·rw [if_neg hw0] at hs2
    by_cases hp0:S.part w < 0
    ·rw [if_pos hp0] at hs2
     have e1:=z158 (N:=rows.length) (u:=u) S.low (min (S.low u) (S.num w))
     have q1:S2.low=upd S.low u (min (S.low u) (S.num w)):=by rw [hs2];rfl
     have q2:S2.num=S.num:=by rw [hs2];rfl
     have q3:S2.part=S.part:=by rw [hs2];rfl
     have q4:S2.stk=S.stk:=by rw [hs2];rfl
     have q5:S2.cnt=S.cnt:=by rw [hs2];rfl
     have q6:S2.prt=S.prt:=by rw [hs2];rfl
     repeat' ((first|(apply y4 ok;rfl)|(apply z26;kernel_rfl)|(refine z15 (i:=k) rfl gk ?_)|(refine z15 (i:=w) rfl gw1 ?_)|(refine z15 (i:=w) rfl gw3 ?_)|(refine z15 (i:=u) rfl gu2 ?_)|(apply y43;first|omega|(unfold inI;omega))|(((apply z13;omega));intro _)|((apply z5)<;>intro _))<;>conv=>whnf)
     all_goals try (exfalso;omega)
     all_goals refine z21 (k+1) hk2 (by omega) ?_
     all_goals dsimp only
     all_goals rw [hS2,q2,q3,q4,q5,q6,q1]
     all_goals exact (by refine swR [0,1,2,3,4,5,6,7,8,9,10] [] rfl rfl ?_;(repeat' first|exact y85 _|exact z9 _|apply y86|refine z50 rfl (z4 (fun _=>rfl)) ?_|refine z10 rfl (z4 (fun _=>rfl)) ?_|constructor)<;>((refine z45 ?_;exact e1)))
    ·rw [if_neg hp0] at hs2
     repeat' ((first|(apply y4 ok;rfl)|(apply z26;kernel_rfl)|(refine z15 (i:=k) rfl gk ?_)|(refine z15 (i:=w) rfl gw1 ?_)|(refine z15 (i:=w) rfl gw3 ?_)|(apply y43;first|omega|(unfold inI;omega))|(((apply z13;omega));intro _)|((apply z5)<;>intro _))<;>conv=>whnf)
     all_goals try (exfalso;omega)
     all_goals refine z21 (k+1) hk2 (by omega) ?_
     all_goals dsimp only
     all_goals rw [hS2,hs2]
     all_goals exact (by refine swR [0,1,2,3,4,5,6,7,8,9,10] [] rfl rfl ?_;(repeat' first|exact y85 _|exact z9 _|apply y86|refine z10 rfl (z4 (fun _=>rfl)) ?_|constructor))
  ·obtain rfl:k=row.length:=by omega
   have hpf:=hL.pref
   have hsu:u ∉ s.stk:=fun hm=>((hI.stk u).1 hm).1 h0
   have hnd:=hLI.nd
   have hpp:(T row.length).prt≤100001:=by have h1:=hL.prt;have h2:=hLI.ct;have h3:=hI.ct;have h4:=hL.cnt;omega
   generalize hS:T row.length=S at *
   unfold tEnd at hTn
   by_cases he:S.low u=S.num u
   ·rw [if_pos he] at hTn
    obtain ⟨B,hB⟩:=hpf
    have hcut:=z908 (A:=s.stk) (B:=B) hsu
    have hLl:S.stk.length=s.stk.length+1+B.length:=by rw [hB];simp;omega
    have hLs:S.stk.length≤100000:=by
     have:=z202 rows.length (natL S.stk) ?_ ?_
     ·rw [z470] at this;omega
     ·exact hnd.map _ fun a b h=>by omega
     ·intro x hx
      obtain ⟨y,hy,rfl⟩:=List.mem_map.1 hx
      have:=hLI.lt y ((hLI.stk y).1 hy).1
      omega
    have r1:R.stk=S.stk.take s.stk.length:=by
     rw [hTn];show S.stk.takeWhile _=_
     rw [hB,hcut.1];simp
    have r2:R.part=fun x=>if x∈S.stk.drop s.stk.length then (S.prt:Int) else S.part x:=by
     rw [hTn];show (fun x=>if x∈S.stk.dropWhile _ then _ else _)=_
     rw [hB,hcut.2];simp
    have r3:R.num=S.num:=by rw [hTn];rfl
    have r4:R.low=S.low:=by rw [hTn];rfl
    have r5:R.cnt=S.cnt:=by rw [hTn];rfl
    have r6:R.prt=S.prt+1:=by rw [hTn];rfl
    have hat:∀ j (hj:j < S.stk.length),(S.stk[j]=u↔j=s.stk.length):=by
     intro j hj
     have hu2:S.stk[s.stk.length]'(by omega)=u:=by simp [hB]
     constructor
     ·intro e
      have hne:=List.pairwise_iff_getElem.1 (List.nodup_iff_pairwise_ne.1 hnd)
      rcases Nat.lt_trichotomy j s.stk.length with h|h|h
      ·exact absurd (e.trans hu2.symm) (hne j s.stk.length hj (by omega) h)
      ·exact h
      ·exact absurd (hu2.trans e.symm) (hne s.stk.length j (by omega) hj h)
     ·rintro rfl;exact hu2
    have hlt:∀ j (hj:j < S.stk.length),S.stk[j] < rows.length:=fun j hj=>hLI.lt _ ((hLI.stk _).1 (y44 hj)).1
    have sl:=z470 S.stk
    repeat' ((first|((fail_if_success apply z184 14);(fail_if_success apply z137 14);apply y4 ok;rfl)|(apply z26;kernel_rfl)|(refine z15 (i:=u) rfl gu1 ?_)|(refine z15 (i:=u) rfl gu2 ?_)|(apply y43;omega)|((first|(with_reducible apply z13;omega)|(apply z13;omega));intro _)|((apply z5)<;>intro _))<;>conv=>whnf)
    all_goals try (exfalso;omega)
    refine y84 (Gl.Reach.expose 5 0 0 rfl rfl rfl (z168 (fun _=>rfl) _) rfl) ?_
    obtain ⟨pm,hpm⟩:∃ pm:Nat→Nat→Int,pm=fun m x=>if x∈S.stk.drop m then (S.prt:Int) else S.part x:=⟨_,rfl⟩
    have hpm0:pm S.stk.length=S.part:=by rw [hpm];funext x;simp
    have hpmE:pm s.stk.length=R.part:=by rw [hpm,r2]
    have hpmS:∀ m (hm:m < S.stk.length),pm m=upd (pm (m+1)) S.stk[m] S.prt:=by
     intro m hm
     funext x
     by_cases hx:x=S.stk[m]
     ·rw [hx,z34,hpm]
      dsimp only
      rw [if_pos]
      rw [y79 hm]
      exact List.mem_cons_self
     ·rw [z53 _ _ hx,hpm]
      dsimp only
      rw [y79 hm]
      simp only [List.mem_cons,hx,false_or]
    clear hpm
    refine z58 (fun m:Nat=>([(0,.int (u:Int)),(1,.ptr 0 none 0),(2,.ptr 1 none 0),(3,.ptr 3 none 0),(4,.ptr 5 none 0),(5,.ptr 6 none 0),(6,.ptr 7 none 0),(7,.ptr 8 none 0),(8,.ptr 10 none 0),(12,.int ((natL S.stk).getD m (-1)))],[.cells 1 [[.int S.cnt]],.cells 1 [[.sref 2 0 rows.length]],.cells 1 ((fnL rows.length S.num).map enI),.cells 1 [[.sref 4 0 rows.length]],.cells 1 ((fnL rows.length S.low).map enI),.cells 1 [[.sref 11 0 m]],.cells 1 [[lst 1 encL rows]],.cells 1 [[visF]],.cells 1 [[.sref 9 0 rows.length]],.cells 1 ((fnL rows.length (pm m)).map enI),.cells 1 [[.int S.prt]],.cells 1 ((natL S.stk).map enI)])) (fun m=>s.stk.length≤m∧m≤S.stk.length) (fun m=>m) S.stk.length ⟨by omega,y52 _⟩ (by refine swR [0,1,2,3,4,5,6,7,8,9,10,11] [] rfl rfl ?_;(repeat' first|exact y85 _|exact z9 _|(refine z60 ?_;((simp;omega)))|apply y86|refine z10 rfl (z4 (fun _=>rfl)) ?_|constructor)<;>(first|(rw [hpm0];exact z9 _)|(refine z121 ?_;simp [natL]))) ?_
    rintro m ⟨hm1,hm2⟩
    by_cases hm:m=s.stk.length
    ·subst hm
     have htop:(natL S.stk).getD s.stk.length (-1)=(u:Int):=by
      rw [z19 (by rw [sl];omega)]
      unfold natL
      rw [List.getElem_map,(hat _ (by omega)).2 rfl]
     rw [htop]
     repeat' ((first|((fail_if_success apply z184 18);(fail_if_success apply z137 18);apply y4 ok;rfl)|(apply y43;omega)|(((apply z13;omega));intro _)|((apply z52)<;>intro _))<;>conv=>whnf)
     all_goals try (exfalso;omega)
     refine y84 (Gl.Reach.trunc 11 s.stk.length rfl rfl) ?_
     refine y84 (Gl.Reach.absorb 5 11 0 0 rfl rfl rfl rfl (by simp [natL];omega) rfl (fun e he=>(z4 (fun _=>rfl)) e (List.mem_of_mem_take he)) rfl) ?_
     conv=>whnf
     repeat' ((first|(apply y4 ok;rfl)|(apply y43;(unfold inI;omega)))<;>conv=>whnf)
     have eR:z1117 rows R=[.cells 1 [[.int S.cnt]],.cells 1 [[.sref 2 0 rows.length]],.cells 1 ((fnL rows.length S.num).map enI),.cells 1 [[.sref 4 0 rows.length]],.cells 1 ((fnL rows.length S.low).map enI),.cells 1 [[.own 1 (((natL S.stk).map enI).take s.stk.length)]],.cells 1 [[lst 1 encL rows]],.cells 1 [[visF]],.cells 1 [[.sref 9 0 rows.length]],.cells 1 ((fnL rows.length (pm s.stk.length)).map enI),.cells 1 [[.int ((S.prt+1:Nat):Int)]]]:=by
      unfold z1117
      rw [r1,r3,r4,r5,r6,hpmE]
      simp [natL,List.map_take]
     rw [eR]
     (refine rsD [0,1,2,3,4,5,6,7,8,9,10] [] rfl ?_;(repeat' first|exact y85 _|exact z9 _|apply y86|refine z10 rfl (z4 (fun _=>rfl)) ?_|constructor))
    ·obtain ⟨m,rfl⟩:∃ m',m=m'+1:=⟨m - 1,by omega⟩
     have hmL:m < S.stk.length:=by omega
     have htop:(natL S.stk).getD (m+1) (-1)≠(u:Int):=by
      by_cases h:m+1 < S.stk.length
      ·rw [z19 (by rw [sl];exact h)]
       unfold natL
       rw [List.getElem_map]
       have:=(hat (m+1) h)
       omega
      ·rw [y67,y68 (by rw [sl];omega)]
       show (-1:Int)≠u
       omega
     have hnx:(natL S.stk).getD m (-1)=((S.stk[m]:Nat):Int):=by
      rw [z19 (by rw [sl];exact hmL)]
      unfold natL
      rw [List.getElem_map]
     have gst:=natL_at hmL
     have hwN:=hlt m hmL
     have hps:=hpmS m hmL
     generalize S.stk[m]=w at *
     have gw:=z179 (pm (m+1)) hwN
     have e1:=z158 (N:=rows.length) (u:=w) (pm (m+1)) S.prt
     rw [← hps] at e1
     generalize (natL S.stk).getD (m+1) (-1)=tp at *
     repeat' ((first|(apply y4 ok;rfl)|(refine z15 (i:=m) ?_ gst ?_;(focus (omega)))|(refine z15 (i:=w) rfl gw ?_)|(apply y43;first|omega|(unfold inI;omega))|((apply z52)<;>intro _))<;>conv=>whnf)
     all_goals try (exfalso;omega)
     all_goals refine z21 m ⟨by omega,by omega⟩ (by omega) ?_
     all_goals dsimp only
     all_goals rw [hnx]
     all_goals exact (by refine swR [0,1,2,3,4,5,6,7,8,9,10,11] [] rfl rfl ?_;(repeat' first|exact y85 _|exact z9 _|(refine z60 ?_;(omega))|apply y86|refine z50 rfl (z4 (fun _=>rfl)) ?_|refine z10 rfl (z4 (fun _=>rfl)) ?_|constructor)<;>((refine z45 ?_;exact e1)))
   ·rw [if_neg he] at hTn
    subst hTn
    repeat' ((first|(apply y4 ok;rfl)|(apply z26;kernel_rfl)|(refine z15 (i:=u) rfl gu1 ?_)|(refine z15 (i:=u) rfl gu2 ?_)|(apply y43;omega)|((first|(with_reducible apply z13;omega)|(apply z13;omega));intro _)|((apply z5)<;>intro _))<;>conv=>whnf)
    all_goals try (exfalso;omega)
    all_goals (refine rsD [0,1,2,3,4,5,6,7,8,9,10] [] rfl ?_;(repeat' first|exact y85 _|exact z9 _|apply y86|refine z10 rfl (z4 (fun _=>rfl)) ?_|constructor))
theorem z320 (N:Nat):List.replicate N [AC.int 0]=(fnL N fun _=>0).map enI:=by
 apply y74 (by simp [fnL])
 intro i h1 h2
 simp [fnL,enI]
theorem z769 {N:Nat} {f g:Nat→Int} (h:∀ i,i < N→f i=g i):fnL N f=fnL N g:=List.map_congr_left fun i hi=>h i (List.mem_range.1 hi)
theorem z672 {N i:Nat} (f:Nat→Int) (h:i < (fnL N f).length):(fnL N f)[i]=f i:=by simp [fnL]
set_option maxHeartbeats 12800000 in
theorem z582 (rows:List (List Int)) (hr:∀ r∈rows,InN rows.length r) (hN:rows.length≤100000) (hrl:∀ r∈rows,r.length≤1000000000):CallsA Tryz.prog 246 [lst 1 encL rows] [] (.sref 0 0 rows.length) [.cells 1 ((cmpL rows).map enI)]:=by
 refine z7 z16 Tryz.func246 rfl rfl 77 Tryz.ntmps246 (by simp) ?_
 repeat' ((first|(apply y4 ok;rfl)|(apply z26;kernel_rfl)|(apply y43;(dsimp only;omega)))<;>conv=>whnf)
 obtain ⟨qm,hqm⟩:∃ qm:Nat→Nat→Int,qm=fun i j=>if j < i then -1 else 0:=⟨_,rfl⟩
 have q0:qm 0=fun _=>0:=by rw [hqm];rfl
 have qE:fnL rows.length (qm rows.length)=fnL rows.length fun _=>-1:=z769 fun i hi=>by rw [hqm];dsimp only;rw [if_pos hi]
 have qS:∀ i,qm (i+1)=upd (qm i) i (-1):=fun i=>by
  funext j
  by_cases h:j=i
  ·subst h;rw [z34,hqm];dsimp only;rw [if_pos (by omega)]
  ·rw [z53 _ _ h,hqm];dsimp only;split<;>split<;>first|rfl|omega
 clear hqm
 refine z58 (fun i:Nat=>([(1,.ptr 0 none 0),(3,.int rows.length),(4,.ptr 4 none 0),(5,.ptr 5 none 0),(6,.ptr 6 none 0),(27,.int rows.length),(28,.int i)],[.cells 1 [[lst 1 encL rows]],.cells 1 ((fnL rows.length fun _=>0).map enI),.cells 1 ((fnL rows.length fun _=>0).map enI),.cells 1 ((fnL rows.length (qm i)).map enI),.cells 1 [[.sref 1 0 rows.length]],.cells 1 [[.sref 2 0 rows.length]],.cells 1 [[.sref 3 0 rows.length]]])) (fun i=>i≤rows.length) (fun i=>rows.length - i) 0 (y53 _) (by refine swR [0,1,2,3,4,5,6] [] rfl rfl ?_;(repeat' first|exact y85 _|apply y86|refine z10 rfl (z69 rfl) ?_|constructor)<;>(first|(refine z45 ?_;exact z320 _)|(refine z45 ?_;rw [q0];exact z320 _))) ?_
 intro i hi
 by_cases hi2:i < rows.length
 ·have g1:=z179 (qm i) hi2
  have l1:=z114 rows.length (qm i)
  have e1:=z158 (N:=rows.length) (u:=i) (qm i) (-1)
  rw [← qS] at e1
  repeat' ((first|(apply y4 ok;rfl)|(refine z15 (i:=i) rfl g1 ?_)|(apply y43;first|omega|(unfold inI;omega))|((apply z5)<;>intro _))<;>conv=>whnf)
  all_goals try (exfalso;omega)
  all_goals refine z21 (i+1) hi2 (by omega) (by refine swR [0,1,2,3,4,5,6] [] rfl rfl ?_;(repeat' first|exact y85 _|exact z9 _|apply y86|refine z50 rfl (z4 (fun _=>rfl)) ?_|refine z10 rfl (z4 (fun _=>rfl)) ?_|constructor)<;>((refine z45 ?_;exact e1)))
 obtain rfl:i=rows.length:=by omega
 rw [qE]
 clear qE qS q0
 repeat' ((first|(apply y4 ok;rfl)|(apply y43;omega)|(((apply z13;omega));intro _)|((apply z5)<;>intro _))<;>conv=>whnf)
 all_goals try (exfalso;omega)
 obtain ⟨S,hS⟩:∃ S:Nat→TS,S=fun k=>(List.range k).foldl (tTop rows) z365:=⟨_,rfl⟩
 have hTT:∀ k,k≤rows.length→TT rows (S k) k:=fun k hk=>by rw [hS];exact z630 hr k hk
 have hS0:S 0=z365:=by rw [hS];rfl
 have hSs:∀ k,S (k+1)=tTop rows (S k) k:=fun k=>by
  rw [hS];show (List.range (k+1)).foldl _ _=_
  rw [y61,y62];rfl
 have hSE:S rows.length=tAll rows:=by rw [hS];rfl
 clear hS
 refine z58 (fun k:Nat=>([(1,.ptr 6 none 0),(4,.ptr 1 none 0),(6,.ptr 8 none 0),(11,.ptr 7 none 0),(36,.int rows.length),(37,.int k)],z1117 rows (S k))) (fun k=>k≤rows.length) (fun k=>rows.length - k) 0 (y53 _) (by refine swR [8,4,1,5,2,7,0,10,6,3,9] [] rfl rfl ?_;(repeat' first|exact y85 _|apply y86|refine z10 rfl (z4 (fun _=>rfl)) ?_|constructor)<;>(first|(rw [hS0];exact y85 _)|(rw [hS0];exact z9 _)|(rw [hS0];exact z383))) ?_
 intro k hk
 have hT:=hTT k hk
 have hTn:∀ h:k < rows.length,TT rows (S (k+1)) (k+1):=fun h=>hTT (k+1) h
 by_cases hk2:k < rows.length
 ·have hs2:=hSs k
  generalize hS1:S k=s1 at *
  generalize hS2:S (k+1)=s2 at *
  have g1:=z179 s1.num hk2
  have l1:=z114 rows.length s1.num
  unfold tTop at hs2
  by_cases h0:s1.num k=0
  ·rw [if_pos h0] at hs2
   have cV:=z958 rows hr hN hrl rows.length s1 [] k (by have:=hT.inv.ct;omega) hT.inv h0 hk2 (by simp) hT.prt
   rw [← hs2] at cV
   repeat' ((first|(apply y4 ok;rfl)|(refine z15 (i:=k) rfl g1 ?_)|(apply y43;first|omega|(unfold inI;omega))|((apply z5)<;>intro _)|(apply z77 [0,1,2,3,4,5,6,7,8,9,10] [] cV;rfl;(focus ((repeat' first|exact z28|apply z35)<;>first|rfl|(refine z54 rfl ?_;((exact z4 fun _=>rfl)))));rfl;(focus ((repeat' first|exact z12|apply z11)<;>first|exact z33 rfl rfl|(refine z17 ?_;((exact z4 fun _=>rfl)))))))<;>conv=>whnf)
   all_goals try (exfalso;omega)
   all_goals refine z21 (k+1) hk2 (by omega) ?_
   all_goals dsimp only
   all_goals rw [hS2]
   all_goals exact (by refine swR [0,1,2,3,4,5,6,7,8,9,10] [] rfl rfl ?_;(repeat' first|exact y85 _|exact z9 _|apply y86|refine z10 rfl (z4 (fun _=>rfl)) ?_|constructor))
  ·rw [if_neg h0] at hs2
   repeat' ((first|(apply y4 ok;rfl)|(refine z15 (i:=k) rfl g1 ?_)|(apply y43;first|omega|(unfold inI;omega))|((apply z5)<;>intro _))<;>conv=>whnf)
   all_goals try (exfalso;omega)
   all_goals refine z21 (k+1) hk2 (by omega) ?_
   all_goals dsimp only
   all_goals rw [hS2,hs2]
   all_goals exact (by refine swR [0,1,2,3,4,5,6,7,8,9,10] [] rfl rfl ?_;(repeat' first|exact y85 _|exact z9 _|apply y86|refine z10 rfl (z4 (fun _=>rfl)) ?_|constructor))
 obtain rfl:k=rows.length:=by omega
 rw [hSE]
 clear hTT hS0 hSs hSE hTn hT
 have hcmp:cmpL rows=(List.range rows.length).map fun i=>nmI (fnL rows.length (tAll rows).part) i:=rfl
 obtain ⟨P,hP⟩:∃ P,P=fnL rows.length (tAll rows).part:=⟨_,rfl⟩
 rw [← hP] at hcmp
 have hPl:P.length=rows.length:=by rw [hP,z114]
 generalize tAll rows=s0 at *
 obtain ⟨pm,hpm⟩:∃ pm:Nat→Nat→Int,pm=fun i j=>if j < i then nmI P j else s0.part j:=⟨_,rfl⟩
 have q0:pm 0=s0.part:=by rw [hpm];funext j;simp
 have qE:fnL rows.length (pm rows.length)=cmpL rows:=by
  rw [hcmp]
  exact z769 fun i hi=>by rw [hpm];dsimp only;rw [if_pos hi]
 have qA:∀ i (h:i < rows.length),pm i i=P[i]'(by omega):=fun i h=>by
  rw [hpm];dsimp only;rw [if_neg (by omega)]
  simp only [hP,z672]
 have qS:∀ i,pm (i+1)=upd (pm i) i (nmI P i):=fun i=>by
  funext j
  by_cases h:j=i
  ·subst h;rw [z34,hpm];dsimp only;rw [if_pos (by omega)]
  ·rw [z53 _ _ h,hpm];dsimp only;split<;>split<;>first|rfl|omega
 clear hpm hcmp
 repeat' ((first|(apply y4 ok;rfl)|(apply y43;omega)|(((apply z13;omega));intro _)|((apply z5)<;>intro _))<;>conv=>whnf)
 all_goals try (exfalso;omega)
 refine z58 (fun i:Nat=>([(6,.ptr 1 none 0),(13,.mref 0),(50,.sref 2 0 rows.length),(51,.int rows.length),(52,.int i)],[.mp 0 (z247 0 (metL P i)),.cells 1 [[.sref 2 0 rows.length]],.cells 1 ((fnL rows.length (pm i)).map enI)])) (fun i=>i≤rows.length) (fun i=>rows.length - i) 0 (y53 _) (by refine swR [11,8,9] [] rfl rfl ?_;(repeat' first|exact y85 _|apply y86|refine z10 rfl (z4 (fun _=>rfl)) ?_|constructor)<;>(first|(rw [q0];exact z9 _)|rfl)) ?_
 intro i hi
 by_cases hi2:i < rows.length
 ·have g1:=z179 (pm i) hi2
  have l1:=z114 rows.length (pm i)
  have e1:=z158 (N:=rows.length) (u:=i) (pm i) (nmI P i)
  rw [← qS] at e1
  rw [qA i hi2] at g1
  have hiP:i < P.length:=by omega
  have m1:=z521 P[i] 0 (metL P i)
  have m2:=z521 P[i] 0 (metL P (i+1))
  rw [if_pos (z651 hiP),Nat.zero_add,← nmI_at hiP] at m2
  have m3:=z385 hiP
  have m4:=z546 0 (metL P i)
  by_cases hp:P[i]∈metL P i
  ·rw [if_pos hp] at m1
   have m5:metL P (i+1)=metL P i:=by rw [m3];unfold z198;rw [if_pos hp]
   rw [m5] at m2
   generalize hes:z247 0 (metL P i)=es at *
   generalize hes2:z247 0 (metL P (i+1))=es2 at *
   have m6:es2=es:=by rw [← hes2,m5,hes]
   generalize nmI P i=nm at *
   generalize P[i]=p at *
   repeat' ((first|(apply y4 ok;rfl)|(refine z15 (i:=i) rfl g1 ?_)|(rw [m2])|(apply y43;first|omega|(unfold inI;omega))|((apply z5)<;>intro _))<;>conv=>whnf)
   all_goals try (exfalso;omega)
   all_goals refine z21 (i+1) hi2 (by omega) ?_
   all_goals dsimp only
   all_goals rw [hes2,m6]
   all_goals exact (by refine swR [0,1,2] [] rfl rfl ?_;(repeat' first|exact y85 _|apply y86|refine z50 rfl (z4 (fun _=>rfl)) ?_|constructor)<;>(first|(refine z45 ?_;exact e1)|rfl))
  ·rw [if_neg hp] at m1
   have m5:metL P (i+1)=metL P i++[P[i]]:=by rw [m3];unfold z198;rw [if_neg hp]
   have m6:mput (z247 0 (metL P i)) [P[i]] (z247 0 (metL P i)).length=z247 0 (metL P (i+1)):=by
    rw [z742 _ _ _ hp,m5,z774,z546,Nat.zero_add]
   generalize hes:z247 0 (metL P i)=es at *
   generalize hes2:z247 0 (metL P (i+1))=es2 at *
   generalize nmI P i=nm at *
   generalize P[i]=p at *
   repeat' ((first|(apply y4 ok;rfl)|(refine z15 (i:=i) rfl g1 ?_)|(rw [m6])|(rw [m2])|(rw [m1])|(apply y43;first|omega|(unfold inI;omega))|((apply z5)<;>intro _))<;>conv=>whnf)
   all_goals try (exfalso;omega)
   all_goals refine z21 (i+1) hi2 (by omega) ?_
   all_goals dsimp only
   all_goals rw [hes2]
   all_goals exact (by refine swR [0,1,2] [] rfl rfl ?_;(repeat' first|exact y85 _|apply y86|refine z50 rfl (z4 (fun _=>rfl)) ?_|constructor)<;>(first|(refine z45 ?_;exact e1)|rfl))
 obtain rfl:i=rows.length:=by omega
 rw [qE]
 repeat' ((first|(apply y4 ok;rfl)|(apply y43;omega)|(((apply z13;omega));intro _)|((first|apply z5|apply z100)<;>intro _))<;>conv=>whnf)
 all_goals try (exfalso;omega)
 all_goals (refine rsD [2] [] rfl ?_;(repeat' first|exact y85 _|exact z9 _|refine z10 rfl (z4 (fun _=>rfl)) ?_|constructor))
def fnB (N:Nat) (f:Nat→Bool):List Bool:=(List.range N).map f
theorem z1169 (N:Nat) (f:Nat→Bool):(fnB N f).length=N:=by simp [fnB]
theorem z1170 {N u:Nat} (f:Nat→Bool) (h:u < N):((fnB N f).map enB)[u]?=some (enB (f u)):=by
 unfold fnB
 rw [y51,y51,List.getElem?_range h];rfl
theorem z940 {N u:Nat} (f:Nat→Bool) (x:Bool):((fnB N f).map enB).set u (enB x)=(fnB N (upd f u x)).map enB:=by
 rw [← List.map_set]
 congr 1
 apply y74 (by simp [fnB])
 intro i h1 h2
 rw [List.getElem_set]
 simp only [fnB,List.getElem_map,List.getElem_range]
 split
 ·rename_i e;subst e;rw [z34]
 ·rename_i e;rw [z53 _ _ (fun h=>e h.symm)]
theorem z939 (N:Nat):List.replicate N [AC.bool false]=(fnB N fun _=>false).map enB:=by
 apply y74 (by simp [fnB])
 intro i h1 h2
 simp [fnB,enB]
set_option maxHeartbeats 12800000 in
theorem z1018 (rows:List (List Int)) (hr:∀ r∈rows,InN rows.length r) (hN:rows.length≤100000) (hrl:∀ r∈rows,r.length≤1000000000):CallsA Tryz.prog 196 [lst 1 encL rows] [] (.sref 0 0 rows.length) [.cells 1 ((cycB rows).map enB)]:=by
 have cC:=z582 rows hr hN hrl
 have hPl:=z401 rows
 have hPi:=z1190 (rows:=rows)
 have hcy:=fun x hx=>cyc_cnt hr (x:=x) hx
 have hcl:=fun x (hx:x < rows.length)=>z876 hx
 have ccB:cycB rows=fnB rows.length (cycD rows):=rfl
 rw [ccB]
 generalize cmpL rows=P at *
 refine z7 z16 Tryz.func196 rfl rfl 56 Tryz.ntmps196 (by simp) ?_
 repeat' ((first|(apply y4 ok;rfl)|(apply y43;(dsimp only;omega))|(apply z8 [] [0] cC;rfl;rfl;rfl;(focus ((repeat' first|exact z12|apply z11)<;>(refine z17 ?_;((exact z4 fun _=>rfl)))))))<;>conv=>whnf)
 obtain ⟨cm,hcm⟩:∃ cm:Nat→Nat→Int,cm=fun i v=>((cntL P i v:Nat):Int):=⟨_,rfl⟩
 have c0:cm 0=fun _=>0:=by rw [hcm];funext v;simp [cntL]
 have cS:∀ i (h:i < P.length),cm (i+1)=upd (cm i) (P[i]).toNat (cm i (P[i]).toNat+1):=fun i h=>by
  have hp:=hPi _ (y44 h)
  funext v
  rw [hcm]
  dsimp only
  rw [z785 h]
  by_cases e:v=(P[i]).toNat
  ·rw [e,z34,if_pos (by omega)];omega
  ·rw [z53 _ _ e,if_neg (by omega)];omega
 have cE:∀ v,cm rows.length v=((cntL P rows.length v:Nat):Int):=fun v=>by rw [hcm]
 have cB:∀ i v,0≤cm i v∧cm i v≤i:=fun i v=>by rw [hcm];have:=cntL_le P i v;dsimp only;omega
 clear hcm
 refine z58 (fun i:Nat=>([(0,lst 1 encL rows),(3,.sref 0 0 rows.length),(4,.sref 1 0 rows.length),(14,.sref 0 0 rows.length),(15,.int rows.length),(16,.int i)],[.cells 1 (P.map enI),.cells 1 ((fnL rows.length (cm i)).map enI)])) (fun i=>i≤rows.length) (fun i=>rows.length - i) 0 (y53 _) (by refine swR [0,1] [] rfl rfl ?_;(repeat' first|exact y85 _|exact z9 _|((refine z10 rfl ?_ ?_);(focus ((repeat' (first|exact z69 rfl|exact z4 (fun _=>rfl)));done)))|constructor)<;>((refine z45 ?_;rw [c0];exact z320 _))) ?_
 intro i hi
 by_cases hi2:i < rows.length
 ·have hiP:i < P.length:=by omega
  have hp:=hPi _ (y44 hiP)
  have gp:(P.map enI)[i]?=some (enI P[i]):=by rw [y51,y45 hiP];rfl
  have cS2:=cS i hiP
  generalize P[i]=p at *
  obtain ⟨v,rfl⟩:∃ v:Nat,p=v:=⟨p.toNat,by omega⟩
  rw [y76] at cS2
  have hv:v < rows.length:=by omega
  have gv:=z179 (cm i) hv
  have l1:=z114 rows.length (cm i)
  have e1:=z158 (N:=rows.length) (u:=v) (cm i) (cm i v+1)
  rw [← cS2] at e1
  have b1:=cB i v
  repeat' ((first|(apply y4 ok;rfl)|(refine z15 (i:=i) rfl gp ?_)|(refine z15 (i:=v) rfl gv ?_)|(apply y43;first|omega|(unfold inI;omega))|((apply z5)<;>intro _))<;>conv=>whnf)
  all_goals try (exfalso;omega)
  all_goals refine z21 (i+1) hi2 (by omega) (by refine swR [0,1] [] rfl rfl ?_;(repeat' first|exact y85 _|exact z9 _|refine z50 rfl (z4 (fun _=>rfl)) ?_|refine z10 rfl (z4 (fun _=>rfl)) ?_|constructor)<;>((refine z45 ?_;exact e1)))
 obtain rfl:i=rows.length:=by omega
 repeat' ((first|(apply y4 ok;rfl)|(apply y43;first|omega|(dsimp only;omega))|(((apply z13;omega));intro _)|((apply z5)<;>intro _))<;>conv=>whnf)
 all_goals try (exfalso;omega)
 obtain ⟨bm,hbm⟩:∃ bm:Nat→Nat→Bool,bm=fun i j=>if j < i then cycD rows j else false:=⟨_,rfl⟩
 have b0:bm 0=fun _=>false:=by rw [hbm];rfl
 have bE:fnB rows.length (bm rows.length)=fnB rows.length (cycD rows):=List.map_congr_left fun i hi=>by
  have:=List.mem_range.1 hi
  rw [hbm];dsimp only;rw [if_pos this]
 have bS:∀ i,bm (i+1)=upd (bm i) i (cycD rows i):=fun i=>by
  funext j
  by_cases h:j=i
  ·subst h;rw [z34,hbm];dsimp only;rw [if_pos (by omega)]
  ·rw [z53 _ _ h,hbm];dsimp only;split<;>split<;>first|rfl|omega
 clear hbm
 refine z58 (fun i:Nat=>([(0,lst 1 encL rows),(3,.sref 0 0 rows.length),(4,.sref 1 0 rows.length),(7,.sref 2 0 rows.length),(31,.int rows.length),(32,.int i)],[.cells 1 (P.map enI),.cells 1 ((fnL rows.length (cm rows.length)).map enI),.cells 1 ((fnB rows.length (bm i)).map enB)])) (fun i=>i≤rows.length) (fun i=>rows.length - i) 0 (y53 _) (by refine swR [0,1,2] [] rfl rfl ?_;(repeat' first|exact y85 _|exact z9 _|((refine z10 rfl ?_ ?_);(focus ((repeat' (first|exact z69 rfl|exact z4 (fun _=>rfl)));done)))|constructor)<;>((refine z45 ?_;rw [b0];exact z939 _))) ?_
 intro i hi
 by_cases hi2:i < rows.length
 ·have hiP:i < P.length:=by omega
  have hp:=hPi _ (y44 hiP)
  have gp:(P.map enI)[i]?=some (enI P[i]):=by rw [y51,y45 hiP];rfl
  have hc:=hcy i hi2
  have e1:=z940 (N:=rows.length) (u:=i) (bm i) (cycD rows i)
  rw [← bS] at e1
  rw [z19 hiP] at hc
  generalize P[i]=p at *
  obtain ⟨v,rfl⟩:∃ v:Nat,p=v:=⟨p.toNat,by omega⟩
  rw [y76] at hc
  have hv:v < rows.length:=by omega
  have gv:=z179 (cm rows.length) hv
  have l1:=z114 rows.length (cm rows.length)
  have l2:=z1169 rows.length (bm i)
  have g2:=z1170 (bm i) hi2
  have gr:=z510 hi2
  have hrow:(rows.getD i []).length≤1000000000:=by rw [z19 hi2];exact hrl _ (y44 _)
  have cct:=z140 (rows.getD i []) (by unfold maxLen;omega) i
  rw [cE] at gv
  generalize cycD rows i=cy at *
  generalize rows.getD i []=row at *
  generalize cntL P rows.length v=cn at *
  by_cases h1:1 < cn
  ·rw [y81 h1,Bool.true_or] at hc
   subst hc
   repeat' ((first|(apply y4 ok;rfl)|(refine z15 (i:=i) rfl gp ?_)|(refine z15 (i:=v) rfl gv ?_)|(refine z15 (i:=i) rfl g2 ?_)|(refine z15 (i:=i) rfl gr ?_)|(apply y43;first|omega|(unfold inI;omega))|((apply z5)<;>intro _)|(apply z6 (cct);rfl;rfl))<;>conv=>whnf)
   all_goals try (exfalso;omega)
   all_goals refine z21 (i+1) hi2 (by omega) (by refine swR [0,1,2] [] rfl rfl ?_;(repeat' first|exact y85 _|exact z9 _|refine z50 rfl (z4 (fun _=>rfl)) ?_|refine z10 rfl (z4 (fun _=>rfl)) ?_|constructor)<;>((refine z45 ?_;exact e1)))
  ·rw [y82 h1,Bool.false_or] at hc
   rw [← hc] at cct
   repeat' ((first|(apply y4 ok;rfl)|(refine z15 (i:=i) rfl gp ?_)|(refine z15 (i:=v) rfl gv ?_)|(refine z15 (i:=i) rfl g2 ?_)|(refine z15 (i:=i) rfl gr ?_)|(apply y43;first|omega|(unfold inI;omega))|((apply z5)<;>intro _)|(apply z6 (cct);rfl;rfl))<;>conv=>whnf)
   all_goals try (exfalso;omega)
   all_goals refine z21 (i+1) hi2 (by omega) (by refine swR [0,1,2] [] rfl rfl ?_;(repeat' first|exact y85 _|exact z9 _|refine z50 rfl (z4 (fun _=>rfl)) ?_|refine z10 rfl (z4 (fun _=>rfl)) ?_|constructor)<;>((refine z45 ?_;exact e1)))
 obtain rfl:i=rows.length:=by omega
 rw [bE]
 repeat' ((first|(apply y4 ok;rfl)|(apply y43;omega)|((first|(with_reducible apply z13;omega)|(apply z13;omega));intro _)|((apply z5)<;>intro _))<;>conv=>whnf)
 all_goals try (exfalso;omega)
 all_goals (refine rsD [2] [] rfl ?_;(repeat' first|exact y85 _|exact z9 _|refine z10 rfl (z4 (fun _=>rfl)) ?_|constructor))
def inM (Q:List Int) (i:Nat):Bool:=decide ((i:Int)∈Q)
theorem inM_upd (Q:List Int) (w:Nat):inM (Q++[(w:Int)])=upd (inM Q) w true:=by
 funext j
 by_cases h:j=w
 ·subst h;rw [z34];unfold inM;simp
 ·rw [z53 _ _ h];unfold inM;congr 1
  have:¬ (j:Int)=w:=by omega
  simp [this]
theorem inM_nil:inM []=fun _=>false:=by funext j;simp [inM]
@[reducible] def findF:AC:=.fn (.func 247) [] [.ptr 0 none 0,.ptr 2 none 0]
@[reducible] def z1118 (N:Nat) (Q:List Int):List AObj:=[.cells 1 [[.sref 1 0 N]],.cells 1 ((fnB N (inM Q)).map enB),.cells 1 [[.own 1 (Q.map enI)]]]
set_option maxHeartbeats 3200000 in
theorem z770 (N : Nat) (hN : N ≤ 100000) (Q : List Int) (hQ : Q.length ≤ 100000) (v : Int) (hv : 0 ≤ v ∧ v < N) :
    CallsA Tryz.prog 247 [.int v,.ptr 0 none 0,.ptr 2 none 0] (z1118 N Q) (.tup []) (z1118 N (z198 Q v)):=by
  obtain ⟨w,rfl⟩:∃ w:Nat,v=w:=⟨v.toNat,by omega⟩
  have hw:w < N:=by omega
  have g1:=z1170 (inM Q) hw
  have l1:=z1169 N (inM Q)
  unfold z198
  by_cases h:(w:Int)∈Q
  · rw [if_pos h]
    have e:inM Q w=true:=by unfold inM;simp [h]
    rw [e] at g1
    refine z7 z16 Tryz.func247 rfl rfl 16 Tryz.ntmps247 (by simp) ?_
    repeat' ((first|(apply y4 ok;rfl)|(refine z15 (i:=w) rfl g1 ?_)|(apply y43;omega))<;>conv=>whnf)
    all_goals (refine rsD [0,1,2] [] rfl ?_;(repeat' first|exact y85 _|exact z9 _|apply y86|refine z10 rfl (z4 (fun _=>rfl)) ?_|constructor))
  · rw [if_neg h]
    have e:inM Q w=false:=by unfold inM;simp [h]
    rw [e] at g1
    have e1:=z940 (N:=N) (u:=w) (inM Q) true
    rw [← inM_upd] at e1
    have e2:(List.map enI Q).take (List.map enI Q).length++[enI (w:Int)]=(Q++[(w:Int)]).map enI:=by
      rw [y55];simp
    refine z7 z16 Tryz.func247 rfl rfl 16 Tryz.ntmps247 (by simp) ?_
    repeat' ((first|((fail_if_success apply z184 2);(fail_if_success apply z137 2);apply y4 ok;rfl)|(refine z15 (i:=w) rfl g1 ?_)|(apply y43;omega))<;>conv=>whnf)
    all_goals
      refine y84 (Gl.Reach.expose 2 0 0 rfl rfl rfl (z168 (fun _=>rfl) _) rfl) ?_
      conv=>whnf
      repeat' ((first|(apply y4 ok;rfl)|(apply y43;first|((try dsimp only);simp only [y49,y48,y47,y46,y57,y58];omega)|exact ⟨rfl,z20 rfl z29⟩))<;>conv=>whnf)
      refine Gl.RetS.absorb 2 5 0 0 rfl rfl rfl rfl (by simp) rfl (z92 (fun e he=>(z4 (fun _=>rfl)) e (List.mem_of_mem_take he)) (z297 rfl z31)) ?_
      conv=>whnf
      (refine rsD [0,1,2] [] rfl ?_;(repeat' first|exact y85 _|apply y86|refine z50 rfl (z4 (fun _=>rfl)) ?_|constructor))
      all_goals first|(refine z45 ?_;exact e1)|exact y9 (congrArg (AC.own 1) e2)
set_option maxHeartbeats 6400000 in
theorem z1113 (rows : List (List Int)) (ini : List Int) (hr : ∀ r ∈ rows, InN rows.length r) (hi : InN rows.length ini) (hN : rows.length ≤ 100000) (hrl : ∀ r ∈ rows, r.length ≤ 1000000000) (hil : ini.length ≤ 1000000000) :
    CallsA Tryz.prog 197 [lst 1 encL rows,ints ini] [] (.sref 0 0 (bfsL rows ini).length) [.cells 1 ((bfsL rows ini).map enI)]:=by
  have hvl:∀ l:List Int,InN rows.length l→(z96 [] l).length≤100000:=fun l hl=>by
    have:=z202 rows.length (z96 [] l) (z213 (by simp)) (z355 (fun x hx=>by cases hx) hl)
    omega
  refine z7 z16 Tryz.func197 rfl rfl 50 Tryz.ntmps197 (by simp) ?_
  repeat' ((first|(apply y4 ok;rfl)|(apply y43;(dsimp only;omega)))<;>conv=>whnf)
  refine z58 (fun i:Nat=>([(0,lst 1 encL rows),(6,.ptr 2 none 0),(7,findF),(17,ints ini),(18,.int ini.length),(19,.int i)],z1118 rows.length (z96 [] (ini.take i)))) (fun i=>i≤ini.length) (fun i=>ini.length - i) 0 (y53 _) (by refine swR [1,0,2] [] rfl rfl ?_;(repeat' first|exact y85 _|apply y86|refine z10 rfl (z69 rfl) ?_|constructor)<;>(first|exact z383|(refine z45 ?_;show _=(fnB rows.length (inM [])).map enB;rw [inM_nil];exact z939 _))) ?_
  intro i hil1
  by_cases hil2:i < ini.length
  · have gk:(ini.map enI)[i]?=some (enI ini[i]):=by rw [y51,y45 hil2];rfl
    have hv:=hi _ (y44 hil2)
    have hQl:=hvl (ini.take i) fun x hx=>hi x (List.mem_of_mem_take hx)
    have e1:=z489 (out:=[]) hil2
    generalize ini[i]=v at *
    have cf:=z770 rows.length hN (z96 [] (ini.take i)) hQl v hv
    rw [← e1] at cf
    repeat' ((first|(apply y4 ok;rfl)|(refine z15 (i:=i) rfl gk ?_)|(apply y43;first|omega|(unfold inI;omega))|((apply z5)<;>intro _)|(apply z77 [0,1,2] [] cf;rfl;(focus ((repeat' first|exact z28|apply z35)<;>first|rfl|(refine z54 rfl ?_;((exact z4 fun _=>rfl)))));rfl;(focus ((repeat' first|exact z12|apply z11)<;>first|exact z33 rfl rfl|(refine z17 ?_;((exact z4 fun _=>rfl)))))))<;>conv=>whnf)
    all_goals try (exfalso;omega)
    all_goals refine z21 (i+1) hil2 (by omega) (by refine swR [0,1,2] [] rfl rfl ?_;(repeat' first|exact y85 _|exact z9 _|apply y86|refine z10 rfl (z4 (fun _=>rfl)) ?_|constructor))
  obtain rfl:i=ini.length:=by omega
  rw [y55]
  repeat' ((first|(apply y4 ok;rfl)|(apply y43;omega)|(((with_reducible apply z13;omega));intro _)|((apply z5)<;>intro _))<;>conv=>whnf)
  all_goals try (exfalso;omega)
  refine z58 (fun i:Nat=>([(0,lst 1 encL rows),(6,.ptr 2 none 0),(7,findF),(10,.int i)],z1118 rows.length (bfs rows ini i))) (fun i=>i≤rows.length) (fun i=>rows.length - i) 0 (y53 _) (by refine swR [0,1,2] [] rfl rfl ?_;(repeat' first|exact y85 _|exact z9 _|apply y86|refine z10 rfl (z4 (fun _=>rfl)) ?_|constructor)) ?_
  intro i hi1
  have hQl:=z888 hr hi i
  have hQi:=z615 hr hi i
  refine y84 (Gl.Reach.expose 2 0 0 rfl rfl rfl (z168 (fun _=>rfl) _) rfl) ?_
  by_cases hi2:i < (bfs rows ini i).length
  · have hx:=hQi _ (y44 hi2)
    have gx:((bfs rows ini i).map enI)[i]?=some (enI (bfs rows ini i)[i]):=by rw [y51,y45 hi2];rfl
    have hnx:bfs rows ini (i+1)=z96 (bfs rows ini i) (rows.getD ((bfs rows ini i)[i]).toNat []):=by rw [bfs,dif_pos hi2]
    have hnd:=z790 (rows:=rows) (ini:=ini) i
    generalize hQ' : bfs rows ini (i+1)=Q' at *
    generalize (bfs rows ini i)[i]=x at *
    generalize hQ:bfs rows ini i=Q at *
    obtain ⟨u,rfl⟩:∃ u:Nat,x=u:=⟨x.toNat,by omega⟩
    rw [y76] at hnx
    have hu:u < rows.length:=by omega
    have gr:=z510 hu
    have hrow:=z215 hr (u:Int)
    rw [y76] at hrow
    have hrowl:(rows.getD u []).length≤1000000000:=by rw [z19 hu];exact hrl _ (y44 _)
    generalize rows.getD u []=row at *
    repeat' ((first|(apply y4 ok;rfl)|(refine z15 (i:=i) rfl gx ?_)|(refine z15 (i:=u) rfl gr ?_)|(apply y43;omega)|((apply z5)<;>intro _))<;>conv=>whnf)
    all_goals first|(exfalso;simp at *;omega)|skip
    all_goals
      refine y84 (Gl.Reach.absorb 2 3 0 0 rfl rfl rfl rfl (by simp) rfl (z4 fun _=>rfl) rfl) ?_
      refine z58 (fun j:Nat=>([(0,lst 1 encL rows),(6,.ptr 2 none 0),(7,findF),(10,.int i),(39,ints row),(40,.int row.length),(41,.int j)],z1118 rows.length (z96 Q (row.take j)))) (fun j=>j≤row.length) (fun j=>row.length - j) 0 (y53 _) (by refine swR [0,1,2] [] rfl rfl ?_;(repeat' first|exact y85 _|exact z9 _|apply y86|refine z10 rfl (z4 (fun _=>rfl)) ?_|constructor)) ?_
      intro j hj
      by_cases hj2:j < row.length
      · have gj:(row.map enI)[j]?=some (enI row[j]):=by rw [y51,y45 hj2];rfl
        have hv:=hrow _ (y44 hj2)
        have hWl:(z96 Q (row.take j)).length≤100000:=by
          have:=z202 rows.length (z96 Q (row.take j)) (z213 hnd) (z355 hQi fun x hx=>hrow x (List.mem_of_mem_take hx))
          omega
        have e1:=z489 (out:=Q) hj2
        generalize row[j]=v at *
        have cf:=z770 rows.length hN (z96 Q (row.take j)) hWl v hv
        rw [← e1] at cf
        repeat' ((first|(apply y4 ok;rfl)|(refine z15 (i:=j) rfl gj ?_)|(apply y43;first|omega|(unfold inI;omega))|((apply z5)<;>intro _)|(apply z77 [0,1,2] [] cf;rfl;(focus ((repeat' first|exact z28|apply z35)<;>first|rfl|(refine z54 rfl ?_;((exact z4 fun _=>rfl)))));rfl;(focus ((repeat' first|exact z12|apply z11)<;>first|exact z33 rfl rfl|(refine z17 ?_;((exact z4 fun _=>rfl)))))))<;>conv=>whnf)
        all_goals try (exfalso;omega)
        all_goals refine z21 (j+1) hj2 (by omega) (by refine swR [0,1,2] [] rfl rfl ?_;(repeat' first|exact y85 _|exact z9 _|apply y86|refine z10 rfl (z4 (fun _=>rfl)) ?_|constructor))
      obtain rfl:j=row.length:=by omega
      rw [y55,← hnx]
      repeat' ((first|(apply y4 ok;rfl)|(apply y43;first|omega|(unfold inI;omega))|(((with_reducible apply z13;omega));intro _)|((apply z5)<;>intro _))<;>conv=>whnf)
      all_goals try (exfalso;omega)
      all_goals refine z21 (i+1) (by omega) (by omega) ?_
      all_goals dsimp only
      all_goals rw [hQ']
      all_goals exact (by refine swR [0,1,2] [] rfl rfl ?_;(repeat' first|exact y85 _|exact z9 _|apply y86|refine z10 rfl (z4 (fun _=>rfl)) ?_|constructor))
  · have hE:=bfsL_end hr hi (i:=i) (by omega) hi1
    rw [← hE]
    repeat' ((first|(apply y4 ok;rfl)|(apply y43;omega)|((apply z5)<;>intro _))<;>conv=>whnf)
    all_goals first|(exfalso;simp at *;omega)|skip
    all_goals (refine rsD [3] [] rfl ?_;(repeat' first|exact z9 _|(refine z60 ?_;((simp;done)))|refine z10 rfl (z4 (fun _=>rfl)) ?_|constructor))
theorem swp_map (l:List Int) (i j:Nat):((l.map enI).set i (enI (l.getD j 0))).set j (enI (l.getD i 0))=(swp l i j).map enI:=by
 unfold swp;rw [List.map_set,List.map_set]
set_option maxHeartbeats 1600000 in
theorem z591 (l:List Int) (h1:1≤l.length) (h2:l.length≤1048576):CallsA Tryz.prog 248 [.sref 0 0 l.length] [.cells 1 (l.map enI)] (.tup []) [.cells 1 ((rvs l).map enI)]:=by
 have hR:revG l.length 0 (l.length - 1) l=rvs l:=rfl
 generalize rvs l=R at *
 generalize hn:l.length=n at *
 refine z7 z16 Tryz.func248 rfl rfl 28 Tryz.ntmps248 (by simp) ?_
 repeat' ((first|(apply y4 ok;rfl)|(apply y43;(unfold inI;omega)))<;>conv=>whnf)
 refine z58 (fun x:Nat×Nat×List Int=>([(0,.sref 0 0 n),(2,.int x.1),(3,.int x.2.1)],[.cells 1 (x.2.2.map enI)])) (fun x=>x.1≤n∧x.2.1 < n∧x.2.2.length=n∧revG (n - x.1) x.1 x.2.1 x.2.2=R) (fun x=>n - x.1) (0,n - 1,l) ⟨by simp,by show n - 1 < n;omega,hn,hR⟩ (by refine swR [0] [] rfl rfl ?_;(repeat' first|exact y85 _|exact z9 _|refine z10 rfl (z4 (fun _=>rfl)) ?_|constructor)<;>((rw [show ((n - 1:Nat):Int)=(n:Int) - 1 by omega];exact y85 _))) ?_
 rintro ⟨i,j,l'⟩ ⟨i1,i2,i3,i4⟩
 dsimp only at i1 i2 i3 i4 ⊢
 by_cases hij:i < j
 ·rw [show n - i=(n - (i+1))+1 by omega,revG,if_pos hij] at i4
  have gi:(l'.map enI)[i]?=some (enI (l'.getD i 0)):=by rw [y51,y45 (by omega),z19 (by omega)];rfl
  have gj:(l'.map enI)[j]?=some (enI (l'.getD j 0)):=by rw [y51,y45 (by omega),z19 (by omega)];rfl
  have gj2:((l'.map enI).set i (enI (l'.getD j 0)))[j]?=some (enI (l'.getD j 0)):=by rw [List.getElem?_set_ne (by omega)];exact gj
  have es:=swp_map l' i j
  repeat' ((first|(apply y4 ok;rfl)|(apply z26;kernel_rfl)|(refine z15 (i:=i) rfl gi ?_)|(refine z15 (i:=j) rfl gj ?_)|(refine z15 (i:=j) rfl gj2 ?_)|(apply y43;first|omega|(unfold inI;omega))|((apply z5)<;>intro _))<;>conv=>whnf)
  all_goals try (exfalso;omega)
  all_goals refine z21 (i+1,j - 1,swp l' i j) ⟨by show i+1≤n;omega,by show j - 1 < n;omega,by show (swp l' i j).length=n;simp [swp,i3],i4⟩ (by show n - (i+1) < n - i;omega) (by refine swR [0] [] rfl rfl ?_;(repeat' first|exact y85 _|((refine z50 rfl ?_ ?_);(focus ((repeat' (first|exact z4 (fun _=>rfl)|(refine z1171 ?_ _ rfl)));done)))|constructor)<;>(first|(rw [show ((j - 1:Nat):Int)=(j:Int) - 1 by omega];exact y85 _)|exact z45 es))
 ·have:revG (n - i) i j l'=l':=by cases n - i<;>simp [revG,hij]
  rw [this] at i4
  subst i4
  repeat' ((first|(apply y4 ok;rfl)|(apply y43;omega)|(((apply z13;omega));intro _)|((apply z5)<;>intro _))<;>conv=>whnf)
  all_goals try (exfalso;omega)
  all_goals (refine rsD [0] [] rfl ?_;(repeat' first|exact y85 _|exact z9 _|refine z10 rfl (z4 (fun _=>rfl)) ?_|constructor))
end Go.Proofs.YtnfoijopccdjeaaGreat
