/- A part of the proofs over this program: T33, T90, T91, T92, T34, T35, T43R, T43E, T24, T25, T26, T27, T37C, T37, T120W, T281, T282, T280, T283, T274. -/
import Derived.Test.YtnfoijopccdjeaaGreatG0
import Derived.Test.YtnfoijopccdjeaaGreatG1
import Derived.Test.YtnfoijopccdjeaaGreatG2
import Derived.Test.YtnfoijopccdjeaaGreatG3
import Derived.Test.YtnfoijopccdjeaaGreatP0
import Derived.Test.YtnfoijopccdjeaaGreatP1
set_option linter.all false
namespace Go.Proofs.YtnfoijopccdjeaaGreat
open Go.Gl
section
attribute [local irreducible] z18
theorem z753 (a b:List Int) (ha:a.length≤maxLen) (hb:b.length≤maxLen):CallsA Tryz.prog 222 [lst 1 enI a,lst 1 enI b] [] (.bool (decide (a=b))) []:=by
 unfold maxLen at ha hb
 refine z14 z16 Tryz.func222 rfl rfl 26 Tryz.ntmps222 (by simp) ?_
 repeat (refine y4 ok _ _ _ _ _ rfl ?_)
 refine z52 (fun h=>?_) (fun h=>?_)
 ·repeat (refine y4 ok _ _ _ _ _ rfl ?_)
  have hne:a≠b:=by rintro rfl;exact h rfl
  rw [y82 hne]
  exact ⟨[],by decide,rfl,rfl,y3 rfl,trivial⟩
 ·have hl:a.length=b.length:=by omega
  repeat (refine y4 ok _ _ _ _ _ rfl ?_)
  refine z954 (fun k:Nat=>([(0,lst 1 enI a),(1,lst 1 enI b),(5,.int k)],[])) (fun k=>k≤a.length∧a.take k=b.take k) (fun k=>a.length - k) 0 (by simp)
   ⟨[],rfl,by decide,rfl,⟨⟨rfl,rfl⟩,⟨rfl,rfl⟩,⟨rfl,rfl⟩,trivial⟩,trivial⟩ ?_
  intro k hk
  repeat (refine y4 ok _ _ _ _ _ rfl ?_)
  refine z5 (fun h=>?_) (fun h=>?_)
  ·have hka:k < a.length:=by omega
   repeat (first|refine y4 ok _ _ _ _ _ rfl ?_|refine y43 (by omega) ?_)
   refine ⟨_,z522 _ _ _ (by omega),?_⟩
   repeat ((refine y43 (by omega) ?_))
   refine ⟨_,z522 _ _ _ (by omega),?_⟩
   repeat (first|refine y4 ok _ _ _ _ _ rfl ?_|refine z26 (by kernel_rfl) ?_)
   refine z52 (fun h=>?_) (fun h=>?_)
   ·repeat (refine y4 ok _ _ _ _ _ rfl ?_)
    have hne:a≠b:=by rintro rfl;exact h rfl
    rw [y82 hne]
    exact ⟨[],by decide,rfl,rfl,y3 rfl,trivial⟩
   ·repeat (first|refine y4 ok _ _ _ _ _ rfl ?_|refine y43 (by first|omega|(unfold inI;omega)) ?_)
    refine ⟨k+1,[],⟨by omega,?_⟩,by omega,rfl,by decide,rfl,⟨⟨rfl,rfl⟩,⟨rfl,rfl⟩,⟨rfl,rfl⟩,trivial⟩,trivial⟩
    have h' : a[k]=b[k]:=h
    rw [y50 hka,y50 (by omega),hk.2,h']
  ·repeat (refine y4 ok _ _ _ _ _ rfl ?_)
   have he:a=b:=by
    have:=hk.2
    rwa [y56 (by omega),y56 (by omega)] at this
   rw [y81 he]
   exact ⟨[],by decide,rfl,rfl,y3 rfl,trivial⟩
end
attribute [local irreducible] z18 AWP z30 z36 z32
end Go.Proofs.YtnfoijopccdjeaaGreat
namespace Go.Proofs.YtnfoijopccdjeaaGreat
open Go.Gl
attribute [local irreducible] z18 AWP z30 z36 z32 RetS z38
theorem z711 (a b:State) (ha:a.sm) (hb:b.sm):CallsA Tryz.prog 174 [.agg a.cs,.agg b.cs] [] (.bool (decide (a=b))) []:=by
 have h1:=ha.a
 have h2:=ha.b
 have h3:=hb.a
 have h4:=hb.b
 have c1:=z753 a.a b.a (by unfold maxLen;omega) (by unfold maxLen;omega)
 have c2:=z753 a.b b.b (by unfold maxLen;omega) (by unfold maxLen;omega)
 obtain ⟨a1,a2⟩:=a
 obtain ⟨b1,b2⟩:=b
 simp only at *
 have e:decide ((⟨a1,a2⟩:State)=⟨b1,b2⟩)=(decide (a1=b1) && decide (a2=b2)):=by
  by_cases h:a1=b1<;>by_cases k:a2=b2<;>simp [h,k]
 rw [e]
 generalize decide (a1=b1)=p at *
 generalize decide (a2=b2)=q at *
 refine z14 z16 Tryz.func174 rfl rfl 17 Tryz.ntmps174 (by simp) ?_
 cases p
 all_goals
  repeat' ((first|(apply y4 ok;rfl)|(apply z6 (c1);rfl;rfl)|(apply z6 (c2);rfl;rfl))<;>conv=>whnf)
  all_goals exact z44 rfl rfl
def z111 (t:State):List State→Int→Int
 |[],_=>-1
 |x::r,k=>if x=t then k else z111 t r (k+1)
theorem z350 (t:State):∀ (l:List State) (k:Int),0≤k→-1≤z111 t l k∧z111 t l k < k+l.length:=by
 intro l
 induction l with
 |nil=>intro k h;simp only [z111,y58];omega
 |cons x l ih =>
  intro k h
  simp only [z111,y57]
  split
  ·omega
  ·have:=ih (k+1) (by omega);omega
theorem z1013 (t:State) (l:List State) (k:Nat) (h:k < l.length):z111 t (l.drop k) k=if l[k]=t then (k:Int) else z111 t (l.drop (k+1)) ((k+1:Nat):Int):=by
 rw [y79 h,z111];rfl
theorem z1146 (l:List State) (t:State) (hl:l.length≤1000) (hs:∀ s∈l,s.sm) (ht:t.sm):CallsA Tryz.prog 122 [lst 2 State.cs l,.agg t.cs] [] (.int (z111 t l 0)) []:=by
 refine z14 z16 Tryz.func122 rfl rfl 19 Tryz.ntmps122 (by simp) ?_
 repeat' (((apply y4 ok;rfl))<;>conv=>whnf)
 refine z134 (fun k:Nat=>([(0,lst 2 State.cs l),(3,.ptr 0 none 0),(5,.int k)],[.cells 2 [t.cs]])) (fun k=>k≤l.length∧z111 t l 0=z111 t (l.drop k) k) (fun k=>l.length - k) 0 ⟨by omega,rfl⟩ ⟨[0],rfl,by decide,rfl,by repeat' (first|exact True.intro|exact ⟨rfl,rfl⟩|apply y43),by repeat' (first|exact True.intro|exact z42 rfl rfl|apply y43)⟩ ?_
 intro k hk
 by_cases hkl:k < l.length
 ·have c:=z711 l[k] t (hs _ (y44 _)) ht
  have e:=z1013 t l k hkl
  rw [e] at hk
  have g0:(l.map State.cs)[k]?=some (State.cs l[k]):=by rw [y51,y45 hkl];rfl
  by_cases hx:l[k]=t
  ·rw [if_pos hx] at hk
   rw [y81 hx] at c
   generalize l[k]=x at *
   repeat' ((first|(apply y4 ok;rfl)|(apply z26;kernel_rfl)|(refine z15 (i:=k) rfl g0 ?_)|(apply y43;omega)|((apply z5)<;>intro _)|(apply z6 (c);rfl;rfl))<;>conv=>whnf)
   all_goals first|(exfalso;omega)|exact z511 rfl hk.2
  ·rw [if_neg hx] at hk
   rw [y82 hx] at c
   generalize l[k]=x at *
   repeat' ((first|(apply y4 ok;rfl)|(apply z26;kernel_rfl)|(refine z15 (i:=k) rfl g0 ?_)|(apply y43;first|omega|(unfold inI;omega))|((apply z5)<;>intro _)|(apply z6 (c);rfl;rfl))<;>conv=>whnf)
   all_goals try (exfalso;omega)
   exact z117 (k+1) [0] ⟨by omega,hk.2⟩ (by omega) ⟨rfl,by decide,rfl,by repeat' (first|exact True.intro|exact ⟨rfl,rfl⟩|apply y43),by repeat' (first|exact True.intro|exact z42 rfl rfl|apply y43)⟩
 ·have e:l.drop k=[]:=y83 (by omega)
  rw [e] at hk
  repeat' ((first|(apply y4 ok;rfl)|(apply y43;omega)|(((with_reducible apply z13;omega));intro _)|((apply z5)<;>intro _))<;>conv=>whnf)
  all_goals first|(exfalso;omega)|exact z511 rfl hk.2
end Go.Proofs.YtnfoijopccdjeaaGreat
namespace Go.Proofs.YtnfoijopccdjeaaGreat
open Go.Gl
attribute [local irreducible] z18 AWP z30 z36 z32 RetS z38
open Classical in
noncomputable def inn (s:Sys) (st0:State):List Stp→List State→List Int→Option (List State×List Int)
 |[],S,N=>some (S,N)
 |x::r,S,N =>
  if z111 (z73 s st0 x) S 0 < 0 then
   (if 60≤(S.length:Int) then none else inn s st0 r (S++[z73 s st0 x]) (if (S.length:Int)∈N then N else N++[(S.length:Int)]))
  else
   (if 60≤z111 (z73 s st0 x) S 0 then none else inn s st0 r S (if z111 (z73 s st0 x) S 0∈N then N else N++[z111 (z73 s st0 x) S 0]))
open Classical in
noncomputable def z188 (L:List Stp) (N:List Int) (i:Nat):List Int:=if L=[] then N++[(i:Int)] else N
noncomputable def grow (s:Sys):Nat→List State→List (List Int)→Nat→Option Graph
 |0,_,_,_=>none
 |f+1,S,G,i=>match S[i]? with
  |none=>some ⟨S,G⟩
  |some st0=>match inn s st0 (z133 s st0) S [] with
   |none=>none
   |some (S',N)=>grow s f S' (G++[z188 (z133 s st0) N i]) (i+1)
theorem State.ok.sm {s:Sys} (hs:s.ok) {st:State} (h:st.ok s):st.sm:=⟨by have:=h.a;have:=hs.n3;omega,by have:=h.b.1;omega⟩
theorem z368 {s:Sys} (hs:s.ok) {st:State} : (z133 s st).length≤324:=by
 have h3:=hs.n3
 have:=z681 (n:=s.ps.length) (c:=108) (f:=fun j=>cat (s.pr j).es.length (z238 s st j)) (fun j hj=>by
  have h6:=hs.ne j hj
  have:=z681 (n:=(s.pr j).es.length) (c:=18) (f:=z238 s st j) (fun m _=>by
   unfold z238
   split
   ·simp
   split
   ·simp
   ·exact z735 hs)
  omega)
 unfold z133
 omega
structure GInv (s:Sys) (S:List State) (G:List (List Int)) (i:Nat):Prop where
 le:i≤S.length
 n:S.length≤60
 one:1≤S.length
 g:G.length=i
 st:∀ t∈S,t.ok s
 row:∀ r∈G,r.length≤400
theorem z1153 {s:Sys} (hs:s.ok) {st0:State} (h0:st0.ok s):∀ (L:List Stp),(∀ x∈L,x.ok s)→∀ (S:List State) (N:List Int) (S' : List State) (N' : List Int),S.length≤60→(∀ t∈S,t.ok s)→inn s st0 L S N=some (S',N')→S'.length≤60∧S.length≤S'.length∧(∀ t∈S',t.ok s)∧N'.length≤N.length+L.length∧∀ i,i < S.length→S'[i]?=S[i]?:=by
 intro L
 induction L with
 |nil =>
  intro _ S N S' N' h1 h2 h3
  simp only [inn,Option.some.injEq,Prod.mk.injEq] at h3
  obtain ⟨rfl,rfl⟩:=h3
  exact ⟨h1,y52 _,h2,by simp,fun _ _=>rfl⟩
 |cons x L ih =>
  intro hx S N S' N' h1 h2 h3
  have hxo:=z307 hs h0 (hx x (by simp))
  have ih:=ih fun y hy=>hx y (by simp [hy])
  simp only [inn] at h3
  split at h3
  ·split at h3
   ·cases h3
   ·obtain ⟨a1,a2,a3,a4,a5⟩:=ih _ _ S' N' (by simp;omega) (fun t ht=>by
     rcases List.mem_append.1 ht with h|h
     ·exact h2 t h
     ·rw [List.mem_singleton.1 h];exact hxo) h3
    refine ⟨a1,by simp at a2;omega,a3,?_,fun i hi=>by rw [a5 i (by simp;omega),y65 hi]⟩
    simp only [y57]
    split at a4<;>(try simp at a4)<;>omega
  ·split at h3
   ·cases h3
   ·obtain ⟨a1,a2,a3,a4,a5⟩:=ih _ _ S' N' h1 h2 h3
    refine ⟨a1,a2,a3,?_,a5⟩
    simp only [y57]
    split at a4<;>(try simp at a4)<;>omega
theorem grow_inv {s:Sys} (hs:s.ok):∀ (f:Nat) (S:List State) (G:List (List Int)) (i:Nat) (g:Graph),GInv s S G i→grow s f S G i=some g→GInv s g.st g.nx g.st.length:=by
 intro f
 induction f with
 |zero=>intro S G i g _ h;simp [grow] at h
 |succ f ih =>
  intro S G i g hI h
  simp only [grow] at h
  split at h
  ·rename_i hn
   simp only [Option.some.injEq] at h
   subst h
   have:S.length≤i:=List.getElem?_eq_none_iff.1 hn
   have e:i=S.length:=by have:=hI.le;omega
   subst e
   exact hI
  ·rename_i st0 hst
   have hil:=(List.getElem?_eq_some_iff.1 hst).1
   have h0:=hI.st st0 (List.mem_of_getElem? hst)
   split at h
   ·cases h
   ·rename_i S' N hin
    obtain ⟨a1,a2,a3,a4,a5⟩:=z1153 hs h0 _ (fun x hx=>z313 x hx) _ _ _ _ hI.n hI.st hin
    have hl:=z368 hs (st:=st0)
    refine ih _ _ _ _ ⟨by omega,a1,by have:=hI.one;omega,by simp [hI.g],a3,fun r hr=>?_⟩ h
    rcases List.mem_append.1 hr with h|h
    ·exact hI.row r h
    ·rw [List.mem_singleton.1 h]
     unfold z188
     simp only [y58] at a4
     split<;>(try simp)<;>omega
end Go.Proofs.YtnfoijopccdjeaaGreat
namespace Go.Proofs.YtnfoijopccdjeaaGreat
open Go.Gl
attribute [local irreducible] z18 AWP z30 z36 z32 RetS z38
noncomputable def z90 (s:Sys):Option Graph:=if sysB s=true then grow s 61 [⟨List.replicate s.ps.length 0,s.init⟩] [] 0 else none
theorem z354 {q:Bool} : LocLe (.tup [.agg [.nils,.nils],.bool q]) (.tup [.agg (⟨[],[]⟩:Graph).cs,.bool q]):=z93 (.cons (z46 (.cons z41 (.cons z41 .nil))) (.cons (y85 _) .nil))
theorem z234 {objs:Nat→AObj} {π Bn:List Nat} {o:Nat} {l:List State} (ho:objs o=.cells 2 (l.map State.cs)) (h1:idx π o=none) (h2:inB Bn o=true):bor objs π Bn (.sref o 0 l.length)=lst 2 State.cs l :=
 z270 ho h1 h2 (by simp) (z23 (fun _=>rfl) _)
set_option maxHeartbeats 6400000 in
theorem z682 (s:Sys) (hsm:s.s1):CallsA Tryz.prog 48 [.agg s.cs] [] (.tup [.agg ((z90 s).getD ⟨[],[]⟩).cs,.bool (z90 s).isSome]) []:=by
 have c0:=z761 s hsm
 by_cases hv:sysB s=true
 ·have hs:=y14 hv
  have hn3:=hs.n3
  have eb:z90 s=grow s 61 [⟨List.replicate s.ps.length 0,s.init⟩] [] 0:=by unfold z90;rw [if_pos hv]
  rw [if_pos hv,hv] at c0
  have hI0:GInv s [⟨List.replicate s.ps.length 0,s.init⟩] [] 0:=⟨by simp,by simp,by simp,rfl,fun t ht=>by
   rw [List.mem_singleton.1 ht]
   exact ⟨by simp,hs.init⟩,by simp⟩
  rw [eb]
  generalize (⟨List.replicate s.ps.length 0,s.init⟩:State)=st1 at *
  generalize hR:grow s 61 [st1] [] 0=R at *
  refine z7 z16 Tryz.func48 rfl rfl 96 Tryz.ntmps48 (by simp) ?_
  repeat' ((first|(apply y4 ok;rfl)|(apply z6 (c0);rfl;rfl))<;>conv=>whnf)
  refine y84 (y87 1 rfl) ?_
  refine z58 (fun x:Nat×List State×List (List Int)=>([(1,.ptr 0 none 0),(2,.ptr 1 none 0),(6,.ptr 2 none 0),(7,.int x.1)],[.cells 2 [s.cs],.cells 2 [[.nils,.nils]],.cells 2 [[.sref 3 0 x.2.1.length,.sref 4 0 x.2.2.length]],.cells 2 (x.2.1.map State.cs),.cells 1 (x.2.2.map encL)])) (fun x=>GInv s x.2.1 x.2.2 x.1∧grow s (61 - x.1) x.2.1 x.2.2 x.1=R) (fun x=>61 - x.1) (0,[st1],[]) ⟨hI0,hR⟩ (by refine swR [0,1,4,3,5] [] rfl rfl ?_;(repeat' first|exact y85 _|exact z47|apply y86|refine z10 rfl (z31) ?_|constructor)) ?_
  rintro ⟨i,S,G⟩ ⟨hI,hg⟩
  simp only at hI hg
  have hS60:=hI.n
  have hGi:=hI.g
  have hile:=hI.le
  by_cases hil:i < S.length
  ·obtain ⟨st0,hst⟩:∃ st0,S[i]?=some st0:=⟨S[i],y45 hil⟩
   have h0:=hI.st st0 (List.mem_of_getElem? hst)
   rw [show 61 - i=(60 - i)+1 by omega,grow,hst] at hg
   dsimp only at hg
   have cS:=z999 s hs st0 h0
   have hLl:=z368 hs (st:=st0)
   have hLo:∀ x∈z133 s st0,x.ok s:=fun x hx=>z313 x hx
   have gS:(S.map State.cs)[i]?=some (State.cs st0):=by rw [y51,hst];rfl
   generalize z133 s st0=LST at *
   generalize hRIN:inn s st0 LST S []=RIN at *
   repeat' ((first|(apply y4 ok;rfl)|(apply z26;kernel_rfl)|(refine z15 (i:=i) rfl gS ?_)|(apply y43;omega)|((apply z5)<;>intro _)|(apply z6 (cS);rfl;rfl))<;>conv=>whnf)
   all_goals first|(exfalso;dsimp only at *;omega)|skip
   refine z58 (fun x:Nat×List State×List Int=>([(1,.ptr 0 none 0),(2,.ptr 1 none 0),(6,.ptr 2 none 0),(7,.int i),(8,lst 4 Stp.cs LST),(9,.sref 5 0 x.2.2.length),(10,.int x.1)],[.cells 2 [s.cs],.cells 2 [[.nils,.nils]],.cells 2 [[.sref 3 0 x.2.1.length,.sref 4 0 G.length]],.cells 2 (x.2.1.map State.cs),.cells 1 (G.map encL),.cells 1 (x.2.2.map enI)])) (fun x=>x.1≤LST.length∧x.2.1.length≤60∧(∀ t∈x.2.1,t.ok s)∧x.2.1[i]?=some st0∧x.2.2.length≤x.1∧inn s st0 (LST.drop x.1) x.2.1 x.2.2=RIN) (fun x=>LST.length - x.1) (0,S,[]) ⟨by simp,hS60,hI.st,hst,by simp,hRIN⟩ (by refine swR [0,1,2,3,4,5] [] rfl rfl ?_;(repeat' first|exact y85 _|exact z9 _|apply y86|((refine z10 rfl ?_ ?_);(focus ((repeat' (first|exact z31|exact z4 (fun _=>rfl)));done)))|constructor)) ?_
   rintro ⟨k,S',N⟩ ⟨hk,hS',hSo,hSi,hN,hin⟩
   simp only at hk hS' hSo hSi hN hin
   by_cases hkl:k < LST.length
   ·rw [y79 hkl,inn] at hin
    have hx:=hLo LST[k] (y44 _)
    have g1:(LST.map Stp.cs)[k]?=some (Stp.cs LST[k]):=by rw [y51,y45 hkl];rfl
    have c83:=z1000 s hs st0 h0 LST[k] hx
    have hto:=z307 hs h0 hx
    have g0:(S'.map State.cs)[i]?=some (State.cs st0):=by rw [y51,hSi];rfl
    have hiS:i < S'.length:=(List.getElem?_eq_some_iff.1 hSi).1
    generalize z73 s st0 LST[k]=to at *
    have c84:=z1146 S' to (by omega) (fun t ht=>(hSo t ht).sm hs) (hto.sm hs)
    have hfr:=z350 to S' 0 (by omega)
    generalize z111 to S' 0=n at *
    generalize LST[k]=x at *
    have cN:=fun v=>l4In_ok N (by unfold maxLen;omega) v
    by_cases hn:n < 0
    ·rw [if_pos hn] at hin
     by_cases h60:60≤(S'.length:Int)
     ·rw [if_pos h60] at hin
      subst hin
      dsimp only at hg
      subst hg
      repeat' ((first|(apply y4 ok;rfl)|(apply z26;kernel_rfl)|(refine z15 (i:=i) rfl g0 ?_)|(refine z15 (i:=k) rfl g1 ?_)|(apply y43;first|omega|(dsimp only;omega)|((try dsimp only);simp only [y49,y48,y47,y46,y57,y58];omega)|exact ⟨rfl,z20 rfl z29⟩)|((apply z5)<;>intro _)|(apply z6 (c83);rfl;rfl)|(apply z89 [] [3] [] c84;(focus (exact z48 (z234 rfl rfl rfl) (z48 rfl z75)));rfl;rfl;(focus ((repeat' exact z12)<;>fail));((refine .inr ⟨rfl,?_⟩;repeat' exact True.intro))))<;>conv=>whnf)
      all_goals first|(exfalso;omega)|(exfalso;dsimp only at *;omega)|skip
      all_goals refine y13 [] [] rfl rfl rfl ?_
      all_goals exact y12 z354 .nil
     ·rw [if_neg h60] at hin
      have cM:=cN S'.length
      by_cases hm:(S'.length:Int)∈N
      ·rw [if_pos hm] at hin
       rw [y81 hm] at cM
       repeat' ((first|(apply y4 ok;rfl)|(apply z26;kernel_rfl)|(refine z15 (i:=i) rfl g0 ?_)|(refine z15 (i:=k) rfl g1 ?_)|(apply y43;first|omega|(unfold inI;omega)|(dsimp only;omega)|((try dsimp only);simp only [y49,y48,y47,y46,y57,y58];omega)|exact ⟨rfl,z20 rfl z29⟩)|((apply z5)<;>intro _)|(apply z6 (c83);rfl;rfl)|((first|(apply z89 [] [3] [] c84;(focus (exact z48 (z234 rfl rfl rfl) (z48 rfl z75)));rfl)|(apply z89 [] [5] [] cM;(focus ((repeat' first|exact z75|apply z48)<;>first|exact z135 rfl rfl rfl|rfl));rfl));rfl;(focus ((repeat' exact z12)<;>fail));((refine .inr ⟨rfl,?_⟩;repeat' exact True.intro))))<;>conv=>whnf)
       all_goals first|(exfalso;omega)|(exfalso;contradiction)|skip
       all_goals refine z21 (k+1,S'++[to],N) ⟨by omega,by simp;omega,fun t ht=>by rcases List.mem_append.1 ht with h|h;exact hSo t h;rw [List.mem_singleton.1 h];exact hto,by rw [← hSi];exact y65 hiS,by show N.length≤k+1;omega,hin⟩ (by show LST.length - (k+1) < LST.length - k;omega) (by refine swR [0,1,2,8,4,5] [] rfl rfl ?_;(repeat' first|exact y85 _|exact z9 _|(refine z60 ?_;((simp;done)))|apply y86|((first|refine z40 rfl ?_ ?_|refine z10 rfl ?_ ?_);(focus ((repeat' (first|exact z4 (fun _=>rfl)|apply z22));done)))|(refine z84 ?_ ?_;(focus (omega)))|constructor))
      ·rw [if_neg hm] at hin
       rw [y82 hm] at cM
       repeat' ((first|(apply y4 ok;rfl)|(apply z26;kernel_rfl)|(refine z15 (i:=i) rfl g0 ?_)|(refine z15 (i:=k) rfl g1 ?_)|(apply y43;first|omega|(unfold inI;omega)|(dsimp only;omega)|((try dsimp only);simp only [y49,y48,y47,y46,y57,y58];omega)|exact ⟨rfl,z20 rfl z29⟩)|((apply z5)<;>intro _)|(apply z6 (c83);rfl;rfl)|((first|(apply z89 [] [3] [] c84;(focus (exact z48 (z234 rfl rfl rfl) (z48 rfl z75)));rfl)|(apply z89 [] [5] [] cM;(focus ((repeat' first|exact z75|apply z48)<;>first|exact z135 rfl rfl rfl|rfl));rfl));rfl;(focus ((repeat' exact z12)<;>fail));((refine .inr ⟨rfl,?_⟩;repeat' exact True.intro))))<;>conv=>whnf)
       all_goals first|(exfalso;omega)|(exfalso;contradiction)|skip
       all_goals refine z21 (k+1,S'++[to],N++[(S'.length:Int)]) ⟨by omega,by simp;omega,fun t ht=>by rcases List.mem_append.1 ht with h|h;exact hSo t h;rw [List.mem_singleton.1 h];exact hto,by rw [← hSi];exact y65 hiS,by simp;omega,hin⟩ (by show LST.length - (k+1) < LST.length - k;omega) (by refine swR [0,1,2,8,4,10] [] rfl rfl ?_;(repeat' first|exact y85 _|exact z9 _|(refine z60 ?_;((simp;done)))|apply y86|((first|refine z40 rfl ?_ ?_|refine z10 rfl ?_ ?_);(focus ((repeat' (first|exact z4 (fun _=>rfl)|apply z22));done)))|(refine z84 ?_ ?_;(focus (omega)))|constructor))
    ·rw [if_neg hn] at hin
     by_cases h60:60≤n
     ·rw [if_pos h60] at hin
      subst hin
      dsimp only at hg
      subst hg
      repeat' ((first|(apply y4 ok;rfl)|(apply z26;kernel_rfl)|(refine z15 (i:=i) rfl g0 ?_)|(refine z15 (i:=k) rfl g1 ?_)|(apply y43;omega)|((apply z5)<;>intro _)|(apply z6 (c83);rfl;rfl)|(apply z89 [] [3] [] c84;(focus (exact z48 (z234 rfl rfl rfl) (z48 rfl z75)));rfl;rfl;(focus ((repeat' exact z12)<;>fail));((refine .inr ⟨rfl,?_⟩;repeat' exact True.intro))))<;>conv=>whnf)
      all_goals (exfalso;omega)
      all_goals refine y13 [] [] rfl rfl rfl ?_
      all_goals exact y12 z354 .nil
     ·rw [if_neg h60] at hin
      have cM:=cN n
      by_cases hm:n∈N
      ·rw [if_pos hm] at hin
       rw [y81 hm] at cM
       repeat' ((first|(apply y4 ok;rfl)|(apply z26;kernel_rfl)|(refine z15 (i:=i) rfl g0 ?_)|(refine z15 (i:=k) rfl g1 ?_)|(apply y43;first|omega|(unfold inI;omega)|(dsimp only;omega))|((apply z5)<;>intro _)|(apply z6 (c83);rfl;rfl)|((first|(apply z89 [] [3] [] c84;(focus (exact z48 (z234 rfl rfl rfl) (z48 rfl z75)));rfl)|(apply z89 [] [5] [] cM;(focus ((repeat' first|exact z75|apply z48)<;>first|exact z135 rfl rfl rfl|rfl));rfl));rfl;(focus ((repeat' exact z12)<;>fail));((refine .inr ⟨rfl,?_⟩;repeat' exact True.intro))))<;>conv=>whnf)
       all_goals try (exfalso;omega)
       all_goals refine z21 (k+1,S',N) ⟨by omega,hS',hSo,hSi,by show N.length≤k+1;omega,hin⟩ (by show LST.length - (k+1) < LST.length - k;omega) (by refine swR [0,1,2,3,4,5] [] rfl rfl ?_;(repeat' first|exact y85 _|exact z9 _|apply y86|refine z10 rfl (z4 (fun _=>rfl)) ?_|constructor))
      ·rw [if_neg hm] at hin
       rw [y82 hm] at cM
       repeat' ((first|(apply y4 ok;rfl)|(apply z26;kernel_rfl)|(refine z15 (i:=i) rfl g0 ?_)|(refine z15 (i:=k) rfl g1 ?_)|(apply y43;first|omega|(unfold inI;omega)|(dsimp only;omega)|((try dsimp only);simp only [y49,y48,y47,y46,y57,y58];omega)|exact ⟨rfl,z20 rfl z29⟩)|((apply z5)<;>intro _)|(apply z6 (c83);rfl;rfl)|((first|(apply z89 [] [3] [] c84;(focus (exact z48 (z234 rfl rfl rfl) (z48 rfl z75)));rfl)|(apply z89 [] [5] [] cM;(focus ((repeat' first|exact z75|apply z48)<;>first|exact z135 rfl rfl rfl|rfl));rfl));rfl;(focus ((repeat' exact z12)<;>fail));((refine .inr ⟨rfl,?_⟩;repeat' exact True.intro))))<;>conv=>whnf)
       all_goals try (exfalso;omega)
       all_goals refine z21 (k+1,S',N++[n]) ⟨by omega,hS',hSo,hSi,by simp;omega,hin⟩ (by show LST.length - (k+1) < LST.length - k;omega) (by refine swR [0,1,2,3,4,8] [] rfl rfl ?_;(repeat' first|exact y85 _|exact z9 _|(refine z60 ?_;((simp;done)))|apply y86|((first|refine z40 rfl ?_ ?_|refine z10 rfl ?_ ?_);(focus ((repeat' (first|exact z4 (fun _=>rfl)|apply z22));done)))|(refine z84 ?_ ?_;(focus (omega)))|constructor))
   ·rw [y83 (by omega),inn] at hin
    subst hin
    dsimp only at hg
    have hiS:i < S'.length:=(List.getElem?_eq_some_iff.1 hSi).1
    have hnext:GInv s S' (G++[z188 LST N i]) (i+1):=⟨by omega,hS',by omega,by simp [hGi],hSo,fun r hr=>by
     rcases List.mem_append.1 hr with h|h
     ·exact hI.row r h
     ·rw [List.mem_singleton.1 h]
      unfold z188
      split<;>(try simp)<;>omega⟩
    rw [show 60 - i=61 - (i+1) by omega] at hg
    by_cases hz:LST=[]
    ·have er:z188 LST N i=N++[(i:Int)]:=by unfold z188;rw [if_pos hz]
     have hz0:LST.length=0:=by rw [hz];rfl
     rw [er] at hg hnext
     repeat' ((first|(apply y4 ok;rfl)|(apply y43;first|omega|(unfold inI;omega)|(dsimp only;omega)|((try dsimp only);simp only [y49,y48,y47,y46,y57,y58];omega)|exact ⟨rfl,z20 rfl z29⟩)|((first|(with_reducible apply z13;omega)|(apply z13;omega));intro _)|((apply z5)<;>intro _))<;>conv=>whnf)
     all_goals try (exfalso;omega)
     all_goals refine z21 (i+1,S',G++[N++[(i:Int)]]) ⟨hnext,hg⟩ (by show 61 - (i+1) < 61 - i;omega) (by refine swR [0,1,2,3,9] [7] rfl rfl ?_;(repeat' first|exact y85 _|exact z9 _|(refine z60 ?_;((simp;done)))|apply y86|((first|refine z40 rfl ?_ ?_|refine z10 rfl ?_ ?_);(focus ((repeat' (first|exact z4 (fun _=>rfl)|apply z22));done)))|(refine z84 ?_ ?_;(focus (omega)))|((apply z80 rfl rfl rfl);(focus ((repeat (first|exact z23 (fun _=>rfl) _|apply z101|apply z132|rfl));done));(focus (((simp;done));done)))|(refine z66 ?_ ?_;(focus (simp;done)))|constructor))
    ·have er:z188 LST N i=N:=by unfold z188;rw [if_neg hz]
     have hz0:LST.length≠0:=fun h=>hz (y73 h)
     rw [er] at hg hnext
     repeat' ((first|(apply y4 ok;rfl)|(apply y43;first|omega|(unfold inI;omega)|((try dsimp only);simp only [y49,y48,y47,y46,y57,y58];omega)|exact ⟨rfl,z20 rfl z29⟩)|((first|(with_reducible apply z13;omega)|(apply z13;omega));intro _)|((apply z5)<;>intro _))<;>conv=>whnf)
     all_goals try (exfalso;omega)
     all_goals refine z21 (i+1,S',G++[N]) ⟨hnext,hg⟩ (by show 61 - (i+1) < 61 - i;omega) (by refine swR [0,1,2,3,7] [5] rfl rfl ?_;(repeat' first|exact y85 _|exact z9 _|(refine z60 ?_;((simp;done)))|apply y86|((first|refine z40 rfl ?_ ?_|refine z10 rfl ?_ ?_);(focus ((repeat' (first|exact z4 (fun _=>rfl)|apply z22));done)))|(refine z84 ?_ ?_;(focus (omega)))|((apply z80 rfl rfl rfl);(focus ((repeat ((exact z23 (fun _=>rfl) _)));done));(focus (((simp;done));done)))|constructor))
  ·have hn:S[i]?=none:=List.getElem?_eq_none_iff.2 (by omega)
   rw [show 61 - i=(60 - i)+1 by omega,grow,hn] at hg
   dsimp only at hg
   subst hg
   repeat' ((first|(apply y4 ok;rfl)|(apply y43;omega)|(((apply z13;omega));intro _)|((apply z5)<;>intro _))<;>conv=>whnf)
   all_goals first|(exfalso;contradiction)|skip
   all_goals (refine rsD [] [3,4] rfl ?_;(repeat' first|exact y85 _|((apply z37 rfl rfl rfl);(focus ((repeat ((exact z23 (fun _=>rfl) _)));done));(focus (((simp;done));done)))|apply z46|apply z93|constructor))
 ·have eb:z90 s=none:=by unfold z90;rw [if_neg hv]
  rw [if_neg hv,(y71 _).mp hv] at c0
  rw [eb]
  refine z7 z16 Tryz.func48 rfl rfl 96 Tryz.ntmps48 (by simp) ?_
  repeat' ((first|(apply y4 ok;rfl)|(apply z6 (c0);rfl;rfl))<;>conv=>whnf)
  all_goals refine y13 [] [] rfl rfl rfl ?_
  all_goals exact y12 z354 .nil
end Go.Proofs.YtnfoijopccdjeaaGreat
namespace Go.Proofs.YtnfoijopccdjeaaGreat
open Go.Gl
attribute [local irreducible] z18 AWP z30 z36 z32
theorem GB.row {g:Graph} (h:GB g):∀ i (hi:i < g.nx.length),1≤g.nx[i].length∧g.nx[i].length≤60∧InN g.st.length g.nx[i]:=fun i hi=>by
 obtain ⟨⟨g1,g2⟩,g3,g4⟩:=h
 have h4:=g4 i hi hi (by omega)
 refine ⟨by have:=h4.2.1;omega,by have:=h4.2.1;omega,fun x hx=>?_⟩
 obtain ⟨j,hj,rfl⟩:=List.mem_iff_getElem.1 hx
 have:=(h4.2.2.2 j hj hj).1
 omega
theorem z545 (a b:List Int) (ha:a.length≤maxLen) (hb:b.length≤maxLen):CallsA Tryz.prog 54 [ints a,ints b] [] (.bool (decide (a=b))) []:=by
 unfold maxLen at ha hb
 refine z14 z16 Tryz.func54 rfl rfl 26 Tryz.ntmps54 (by simp) ?_
 by_cases hl:a.length=b.length
 ·repeat' (first|(apply y4 ok;rfl;conv=>whnf)|(apply z52<;>intro _<;>conv=>whnf))
  all_goals try (exfalso;omega)
  refine z134 (fun k:Nat=>([(0,ints a),(1,ints b),(12,.int a.length),(13,.int k)],[])) (fun k=>k≤a.length∧a.take k=b.take k) (fun k=>a.length - k) 0 (by simp) ⟨[],rfl,by decide,rfl,⟨⟨rfl,rfl⟩,⟨rfl,rfl⟩,⟨rfl,rfl⟩,⟨rfl,rfl⟩,trivial⟩,trivial⟩ ?_
  rintro k ⟨hk1,hk2⟩
  by_cases hkl:k < a.length
  ·have hkb:k < b.length:=by omega
   by_cases he:a[k]=b[k]
   ·repeat' (first|(apply y4 ok;rfl;conv=>whnf)|(apply z26;kernel_rfl;conv=>whnf)|(apply y43;(first|omega|(unfold inI;omega));conv=>whnf)|(with_reducible apply z13;omega;intro _;conv=>whnf)|(apply z5<;>intro _<;>conv=>whnf)|(apply z52<;>intro _<;>conv=>whnf))
    all_goals try (exfalso;omega)
    refine z117 (k+1) [] ⟨by omega,?_⟩ (by omega) ⟨rfl,by decide,rfl,⟨⟨rfl,rfl⟩,⟨rfl,rfl⟩,⟨rfl,rfl⟩,⟨rfl,rfl⟩,trivial⟩,trivial⟩
    rw [y50 hkl,y50 hkb,hk2,he]
   ·have hne:a≠b:=by rintro rfl;exact he rfl
    repeat' (first|(apply y4 ok;rfl;conv=>whnf)|(apply z26;kernel_rfl;conv=>whnf)|(apply y43;(omega);conv=>whnf)|(with_reducible apply z13;omega;intro _;conv=>whnf)|(apply z5<;>intro _<;>conv=>whnf)|(apply z52<;>intro _<;>conv=>whnf))
    all_goals try (exfalso;omega)
    exact z44 rfl (y82 hne)
  ·repeat' (first|(apply y4 ok;rfl;conv=>whnf)|(apply z26;kernel_rfl;conv=>whnf)|(apply y43;(omega);conv=>whnf)|(with_reducible apply z13;omega;intro _;conv=>whnf)|(apply z5<;>intro _<;>conv=>whnf)|(apply z52<;>intro _<;>conv=>whnf))
   all_goals try (exfalso;omega)
   rw [y56 (by omega),y56 (by omega)] at hk2
   exact z44 rfl (y81 hk2)
 ·have hne:a≠b:=by rintro rfl;exact hl rfl
  repeat' (first|(apply y4 ok;rfl;conv=>whnf)|(apply z52<;>intro _<;>conv=>whnf))
  all_goals try (exfalso;omega)
  exact z44 rfl (y82 hne)
def onB (t:Trans) (n:Int):Bool:=decide (((n.toNat &&& t.care.toNat:Nat):Int)=t.val)
def z452 (n:Nat) (i:Nat) (ℓ to:Int) (e:Trans):List (Nat×Int):=if onB e ℓ then [((i:Nat) * n+e.src.toNat,to * n+e.dst)] else []
def z730 (n:Nat) (ed:List Trans) (i:Nat) (ℓ to:Int):List (Nat×Int):=ed.flatMap (z452 n i ℓ to)
def z731 (n:Nat) (ed:List Trans) (nx:List (List Int)) (ls:List Int) (i:Nat):List (Nat×Int):=(nx.getD i []).flatMap (z730 n ed i (ls.getD i 0))
def z729 (g:Graph) (ls:List Int) (a:Aut):List (Nat×Int):=(List.range g.st.length).flatMap (z731 a.acc.length a.ed g.nx ls)
def z55 (g:Graph) (ls:List Int) (a:Aut):List (List Int):=build (a.acc.length * g.st.length) (z729 g ls a)
theorem z728 (g:Graph) (hg:GB g) (ls:List Int) (a:Aut) (ha:AutP a):(z729 g ls a).length≤7372800:=by
 obtain ⟨⟨g1,g2⟩,g3,g4⟩:=hg
 have h1:∀ i ℓ to,(z730 a.acc.length a.ed i ℓ to).length≤2048:=fun i ℓ to=>by
  have:=z265 (f:=z452 a.acc.length i ℓ to) (c:=1) a.ed (fun e _=>by unfold z452;split<;>simp)
  have:=ha.2.1
  unfold z730;omega
 have h2:∀ i∈List.range g.st.length,(z731 a.acc.length a.ed g.nx ls i).length≤122880:=fun i hi=>by
  rw [y60] at hi
  unfold z731
  rw [z19 (l:=g.nx) (by omega)]
  have h3:=z265 (f:=z730 a.acc.length a.ed i (ls.getD i 0)) (c:=2048) g.nx[i] (fun e _=>h1 _ _ _)
  have h4:=(g4 i (by omega) (by omega) hi).2.1
  have:g.nx[i].length * 2048≤60 * 2048:=Nat.mul_le_mul_right _ (by omega)
  omega
 have h5:=z265 (f:=z731 a.acc.length a.ed g.nx ls) (c:=122880) (List.range g.st.length) h2
 rw [List.length_range] at h5
 have:g.st.length * 122880≤60 * 122880:=Nat.mul_le_mul_right _ (by omega)
 unfold z729;omega
def z70 (a:Aut):List (List Trans):=z108 a.acc.length (a.ed.map fun e=>(e.src.toNat,e))
def encT (r:List Trans):List AC:=[.list 4 r.length (r.map Trans.cs)]
theorem ltr_lt (v:List Int):∀ (l:List Tree) (k n:Nat),n < 2 ^ k→ltr v l k n < 2 ^ (k+l.length):=by
 intro l
 induction l with
 |nil=>intro k n h;simpa [ltr] using h
 |cons t l ih =>
  intro k n h
  rw [ltr]
  have e:k+(t::l).length=k+1+l.length:=by simp only [y57];omega
  rw [e]
  refine ih (k+1) _ ?_
  split
  ·rw [Nat.pow_succ];omega
  ·exact or_lt h
theorem z439 {l:List Tree} (hl:z172 l) (s:State):0≤z59 l s∧z59 l s≤7:=by
 have:=ltr_lt s.b l 0 0 (by decide)
 rw [hl.1] at this
 unfold z59
 have e:(2:Nat) ^ (0+3)=8:=by decide
 omega
def pE2 (n i q:Nat) (ℓ to:Int) (e:Trans):List (Nat×Int):=if onB e ℓ then [(i * n+q,to * n+e.dst)] else []
def pTo (n:Nat) (row:List Trans) (i q:Nat) (ℓ to:Int):List (Nat×Int):=row.flatMap (pE2 n i q ℓ to)
def pQ (n:Nat) (nxi:List Int) (rows:List (List Trans)) (i:Nat) (ℓ:Int) (q:Nat):List (Nat×Int):=nxi.flatMap (pTo n (rows.getD q []) i q ℓ)
def pI2 (n:Nat) (nx:List (List Int)) (rows:List (List Trans)) (ls:List Int) (i:Nat):List (Nat×Int):=(List.range n).flatMap (pQ n (nx.getD i []) rows i (ls.getD i 0))
def pS2 (g:Graph) (ls:List Int) (a:Aut):List (Nat×Int):=(List.range g.st.length).flatMap (pI2 a.acc.length g.nx (z70 a) ls)
theorem z322 {a:Aut} {q:Nat} (h:q < a.acc.length):(z70 a).getD q []=a.ed.filter (fun e=>e.src.toNat == q):=by
 unfold z70
 rw [z19 (by rw [z161];exact h),z326,List.filter_map,List.map_map]
 exact List.map_id _
theorem z1103 {β:Type} {F:Nat→List β} {n q0:Nat} (hq:q0 < n) (h:∀ q,q < n→q≠q0→F q=[]):(List.range n).flatMap F=F q0:=by
 have:∀ m,(List.range m).flatMap F=if q0 < m∧m≤n then F q0 else if m≤n then [] else (List.range m).flatMap F:=by
  intro m
  induction m with
  |zero=>simp
  |succ m ih =>
   by_cases hm:m+1≤n
   ·rw [y61,List.flatMap_append,ih,List.flatMap_cons,List.flatMap_nil,y64]
    by_cases h1:q0 < m
    ·rw [if_pos ⟨h1,by omega⟩,if_pos ⟨by omega,hm⟩,h m (by omega) (by omega),y64]
    ·rw [if_neg (by omega),if_pos (by omega)]
     by_cases h2:q0=m
     ·subst h2;rw [if_pos ⟨by omega,hm⟩];rfl
     ·rw [if_neg (by omega),if_pos hm,h m (by omega) (by omega)];rfl
   ·rw [if_neg (by omega),if_neg hm]
 rw [this n,if_pos ⟨hq,y52 _⟩]
theorem z979 {β:Type} {F:Nat→List β} {n:Nat} (h:∀ q,q < n→F q=[]):(List.range n).flatMap F=[]:=by
 rw [List.flatMap_eq_nil_iff]
 intro q hq
 exact h q (List.mem_range.1 hq)
theorem pS2_rows (g:Graph) (ls:List Int) (a:Aut) (ha:AutP a) (r:Nat):(pS2 g ls a).filter (fun p=>p.1 == r)=(z729 g ls a).filter (fun p=>p.1 == r):=by
 unfold pS2 z729
 rw [List.filter_flatMap,List.filter_flatMap]
 refine z609 fun i hi=>?_
 unfold pI2 z731
 rw [List.filter_flatMap,List.filter_flatMap]
 have hsrc:∀ e∈a.ed,e.src.toNat < a.acc.length:=fun e he=>by
  have:=(ha.2.2.2 e he).1;omega
 by_cases hr:i * a.acc.length≤r∧r < i * a.acc.length+a.acc.length
 ·obtain ⟨q0,rfl⟩:∃ q0,r=i * a.acc.length+q0:=⟨r - i * a.acc.length,by omega⟩
  have hq0:q0 < a.acc.length:=by omega
  rw [z1103 hq0 (fun q hq hne=>by
   unfold pQ
   rw [List.filter_flatMap]
   refine List.flatMap_eq_nil_iff.2 fun to _=>?_
   unfold pTo
   rw [List.filter_flatMap]
   refine List.flatMap_eq_nil_iff.2 fun e _=>?_
   unfold pE2
   split
   ·simp;omega
   ·rfl)]
  unfold pQ
  rw [List.filter_flatMap,z322 hq0]
  refine z609 fun to _=>?_
  unfold pTo z730
  rw [List.filter_flatMap,List.filter_flatMap]
  induction a.ed with
  |nil=>rfl
  |cons e es ih =>
   rw [List.flatMap_cons,← ih,List.filter_cons]
   by_cases he:e.src.toNat=q0
   ·rw [if_pos (by simpa using he),List.flatMap_cons]
    unfold pE2 z452
    rw [he]
   ·rw [if_neg (by simpa using he)]
    have:(z452 a.acc.length i (ls.getD i 0) to e).filter (fun p=>p.1 == i * a.acc.length+q0)=[]:=by
     unfold z452
     split
     ·simp;omega
     ·rfl
    rw [this,List.nil_append]
 ·rw [z979 (fun q hq=>by
   unfold pQ
   rw [List.filter_flatMap]
   refine List.flatMap_eq_nil_iff.2 fun to _=>?_
   unfold pTo
   rw [List.filter_flatMap]
   refine List.flatMap_eq_nil_iff.2 fun e _=>?_
   unfold pE2
   split
   ·simp;omega
   ·rfl)]
  symm
  refine List.flatMap_eq_nil_iff.2 fun to _=>?_
  unfold z730
  rw [List.filter_flatMap]
  refine List.flatMap_eq_nil_iff.2 fun e he=>?_
  have:=hsrc e he
  unfold z452
  split
  ·simp;omega
  ·rfl
theorem pS2_len (g:Graph) (hg:GB g) (ls:List Int) (a:Aut) (ha:AutP a):(pS2 g ls a).length≤1000000000:=by
 obtain ⟨⟨g1,g2⟩,g3,g4⟩:=hg
 have h2:∀ i∈List.range g.st.length,(pI2 a.acc.length g.nx (z70 a) ls i).length≤7864320:=fun i hi=>by
  rw [y60] at hi
  unfold pI2
  rw [z19 (l:=g.nx) (by omega)]
  have h3:=z265 (f:=pQ a.acc.length g.nx[i] (z70 a) i (ls.getD i 0)) (c:=122880) (List.range a.acc.length) (fun q hq=>by
   have h1:∀ to,(pTo a.acc.length ((z70 a).getD q []) i q (ls.getD i 0) to).length≤2048:=fun to=>by
    have h5:=z265 (f:=pE2 a.acc.length i q (ls.getD i 0) to) (c:=1) ((z70 a).getD q []) (fun e _=>by unfold pE2;split<;>simp)
    rw [z322 (List.mem_range.1 hq)] at h5 ⊢
    have:=List.length_filter_le (fun e:Trans=>e.src.toNat == q) a.ed
    have:=ha.2.1
    unfold pTo;omega
   have h3:=z265 (f:=pTo a.acc.length ((z70 a).getD q []) i q (ls.getD i 0)) (c:=2048) g.nx[i] (fun to _=>h1 to)
   have h4:=(g4 i (by omega) (by omega) hi).2.1
   have:g.nx[i].length * 2048≤60 * 2048:=Nat.mul_le_mul_right _ (by omega)
   unfold pQ;omega)
  rw [List.length_range] at h3
  have:a.acc.length * 122880≤64 * 122880:=Nat.mul_le_mul_right _ ha.1.2
  omega
 have h5:=z265 (f:=pI2 a.acc.length g.nx (z70 a) ls) (c:=7864320) (List.range g.st.length) h2
 rw [List.length_range] at h5
 have:g.st.length * 7864320≤60 * 7864320:=Nat.mul_le_mul_right _ (by omega)
 unfold pS2;omega
theorem z1195 (g:Graph) (ls:List Int) (a:Aut) (ha:AutP a):build (g.st.length * a.acc.length) (pS2 g ls a)=z55 g ls a:=by
 unfold z55 build
 rw [Nat.mul_comm]
 refine List.map_congr_left fun r _=>?_
 rw [pS2_rows g ls a ha r]
set_option maxHeartbeats 800000 in
theorem z843 (g:Graph) (hg:GB g) (l:List Tree) (hl:z172 l) (a:Aut) (ha:AutP a):CallsA Tryz.prog 135 [.agg g.cs,lst 3 Tree.cs' l,.agg a.cs] [] (.tup [.sref 0 0 (g.st.length * a.acc.length),ints a.ini]) [.cells 1 ((z55 g (g.st.map (z59 l)) a).map z99)]:=by
 have hvals:=hg.vals
 have hpl:=z728 g hg (g.st.map (z59 l)) a ha
 have hini:=ha.2.2.1.le (by omega)
 obtain ⟨⟨g1,g2⟩,g3,g4⟩:=hg
 obtain ⟨⟨a1,a2⟩,a3,a4,a5⟩:=ha
 have hN:=z289 (a:=(g.st.length:Int)) (b:=(a.acc.length:Int)) (A:=60) (B:=64) (by omega) (by omega) (by omega) (by omega)
 refine z14 z16 Tryz.func135 rfl rfl 117 Tryz.ntmps135 (by simp) ?_
 repeat' (first|(apply y4 ok;rfl;conv=>whnf)|(apply y43;((dsimp only;omega));conv=>whnf))
 refine y84 (Gl.Reach.weaken (es':=List.replicate a.acc.length [.own 4 []]) 2 rfl (by rw [y46,y46];rfl) z509 rfl) ?_
 conv=>whnf
 refine z134 (fun k:Nat=>([(1,lst 3 Tree.cs' l),(3,.ptr 0 none 0),(5,.ptr 1 none 0),(8,.int a.acc.length),(9,.sref 2 0 a.acc.length),(26,lst 4 Trans.cs a.ed),(27,.int a.ed.length),(28,.int k)],[.cells 2 [[lst 2 State.cs g.st,lst 1 encL g.nx]],.cells 3 [[lst 1 enI a.ini,lst 1 enB a.acc,lst 4 Trans.cs a.ed]],.cells 1 ((z108 a.acc.length ((a.ed.take k).map fun e=>(e.src.toNat,e))).map (ownG 4 Trans.cs))])) (fun k=>k≤a.ed.length) (fun k=>a.ed.length - k) 0 (by omega)
  ⟨[0,1,2],rfl,by decide,rfl,⟨⟨rfl,rfl⟩,⟨rfl,rfl⟩,⟨rfl,rfl⟩,⟨rfl,rfl⟩,⟨rfl,rfl⟩,⟨rfl,rfl⟩,⟨rfl,rfl⟩,⟨rfl,rfl⟩,trivial⟩,⟨z42 rfl rfl,z42 rfl rfl,z94 (z269 (z1095 _ _ _).symm) (z4 fun _=>rfl),trivial⟩⟩ ?_
 intro k hk
 have hN2:((g.st.length * a.acc.length:Nat):Int)=(g.st.length:Int) * a.acc.length:=by simp
 repeat' (first|((fail_if_success apply z184 6);(fail_if_success apply z137 6);(fail_if_success apply z184 8);(fail_if_success apply z137 8);apply y4 ok;rfl;conv=>whnf)|(apply y43;(omega);conv=>whnf)|(with_reducible apply z13;omega;intro _;conv=>whnf)|(apply z5<;>intro _<;>conv=>whnf))
 ·have hkl:k < a.ed.length:=by assumption
  have he:=a5 a.ed[k] (y44 hkl)
  unfold z426 at he
  have hlt:a.ed[k].src.toNat < (z108 a.acc.length ((a.ed.take k).map fun e=>(e.src.toNat,e))).length:=by rw [z161];omega
  have hmap:a.ed[k].src.toNat < ((z108 a.acc.length ((a.ed.take k).map fun e=>(e.src.toNat,e))).map (ownG 4 Trans.cs)).length:=by rw [y49];exact hlt
  have hrl:=z683 hlt
  rw [y49,y48] at hrl
  refine y84 (Gl.Reach.expose (e:=ownG 4 Trans.cs (z108 a.acc.length ((a.ed.take k).map fun e=>(e.src.toNat,e)))[a.ed[k].src.toNat]) 2 a.ed[k].src.toNat 0 rfl (by rw [y51,y45 hlt];rfl) rfl (z168 (fun _=>rfl) _) rfl) ?_
  conv=>whnf
  (apply y4 ok;rfl;conv=>whnf)
  repeat' (first|(apply z26;kernel_rfl;conv=>whnf)|(apply z537;exact Nat.add_zero _;exact hmap;conv=>whnf)|(apply y43;(first|omega|((try dsimp only);simp only [y49,y48,y47,y46,y57,y58];omega)|exact ⟨rfl,z20 rfl z29⟩);conv=>whnf))
  refine y84 (Gl.Reach.absorb 2 6 a.ed[k].src.toNat 0 rfl (getset (Nat.add_zero _) (by rw [List.length_set];exact hmap)) rfl rfl (by simp) rfl (z92 (fun e he=>(z4 (fun _=>rfl)) e (List.mem_of_mem_take he)) (z297 rfl z31)) rfl) ?_
  conv=>whnf
  repeat' (first|((fail_if_success apply z184 6);(fail_if_success apply z137 6);(fail_if_success apply z184 8);(fail_if_success apply z137 8);apply y4 ok;rfl;conv=>whnf)|(apply y43;((unfold inI;omega));conv=>whnf))
  refine z117 (k+1) [0,1,2] (by omega) (by omega)
   ⟨rfl,by decide,rfl,⟨⟨rfl,rfl⟩,⟨rfl,rfl⟩,⟨rfl,rfl⟩,⟨rfl,rfl⟩,⟨rfl,rfl⟩,⟨rfl,rfl⟩,⟨rfl,rfl⟩,⟨rfl,rfl⟩,trivial⟩,⟨z42 rfl rfl,z42 rfl rfl,z94 (z269 ?_) (z4 fun _=>rfl),trivial⟩⟩
  have e1:((a.ed.take (k+1)).map fun e=>(e.src.toNat,e))=((a.ed.take k).map fun e=>(e.src.toNat,e))++[(a.ed[k].src.toNat,a.ed[k])]:=by
   rw [y50 hkl,y63];rfl
  rw [e1]
  exact z978 hlt (Nat.add_zero _) (by simp) rfl
 obtain rfl:k=a.ed.length:=by omega
 refine y84 (SealL.reach (π:=[0,1]) (Bn:=[2]) (env:=[(1,lst 3 Tree.cs' l),(3,.ptr 0 none 0),(5,.ptr 1 none 0),(8,.int a.acc.length),(9,lst 1 encT (z70 a))]) (objs:=[.cells 2 [[lst 2 State.cs g.st,lst 1 encL g.nx]],.cells 3 [[lst 1 enI a.ini,lst 1 enB a.acc,lst 4 Trans.cs a.ed]]]) ⟨rfl,rfl,by simp,rfl,by intro o ho;simp at ho;rcases ho with rfl|rfl<;>rfl,⟨rfl,rfl,rfl,rfl,?_,trivial⟩,rfl⟩) ?_
 ·show bor _ _ _ (.sref 2 0 a.acc.length)=_
  rw [z406 (w:=1) (es:=(z108 a.acc.length ((a.ed.take a.ed.length).map fun e=>(e.src.toNat,e))).map (ownG 4 Trans.cs)) rfl rfl rfl (by rw [y49,z161]),z839 (fun t=>Trans.unown t),y55]
  unfold lst z70
  rw [z161];rfl
 conv=>whnf
 repeat' (first|(apply y4 ok;rfl;conv=>whnf)|(apply y43;(first|(unfold inI;omega)|(dsimp only;omega));conv=>whnf)|(apply z6 (label_ok g hvals g2 l hl);rfl;rfl;conv=>whnf))
 refine y84 (Gl.Reach.weaken (es':=List.replicate (g.st.length * a.acc.length) [.own 1 []]) 2 rfl (by rw [y46,y46];rfl) z509 rfl) ?_
 conv=>whnf
 have hls:(g.st.map (z59 l)).length=g.st.length:=by simp
 have hlr:∀ x∈g.st.map (z59 l),0≤x∧x≤7:=fun x hx=>by
  obtain ⟨s,_,rfl⟩:=List.mem_map.1 hx
  exact z439 hl s
 rw [← z1195 g _ a ⟨⟨a1,a2⟩,a3,a4,a5⟩]
 have hpl2:=pS2_len g ⟨⟨g1,g2⟩,g3,g4⟩ (g.st.map (z59 l)) a ⟨⟨a1,a2⟩,a3,a4,a5⟩
 generalize hlsd:g.st.map (z59 l)=ls at hls hlr hpl hpl2
 have hrow:∀ i (hi:i < g.nx.length),∀ x∈g.nx[i],0≤x∧x≤g.st.length - 1:=fun i hi x hx=>by
  obtain ⟨j,hj,rfl⟩:=List.mem_iff_getElem.1 hx
  exact ((g4 i hi hi (by omega)).2.2.2 j hj hj).1
 have hlen:∀ i (hi:i < g.nx.length),g.nx[i].length≤60:=fun i hi=>by
  have:=(g4 i hi hi (by omega)).2.1;omega
 have hel:(z70 a).length=a.acc.length:=z161 _ _
 have hed:∀ q (hq:q < (z70 a).length),∀ e∈(z70 a)[q],e∈a.ed:=fun q hq e he=>by
  rw [← z19 (d:=[]) hq,z322 (by omega)] at he;exact (List.mem_filter.1 he).1
 have hedl:∀ q (hq:q < (z70 a).length),(z70 a)[q].length≤2048:=fun q hq=>by
  rw [← z19 (d:=[]) hq,z322 (by omega)];exact Nat.le_trans (List.length_filter_le _ _) a3
 refine z134 (fun x:Nat×List (Nat×Int)=>([(3,.ptr 0 none 0),(5,.ptr 1 none 0),(8,.int a.acc.length),(9,lst 1 encT (z70 a)),(12,.sref 2 0 (g.st.length * a.acc.length)),(53,ints ls),(54,.int ls.length),(55,.int x.1)],[.cells 2 [[lst 2 State.cs g.st,lst 1 encL g.nx]],.cells 3 [[lst 1 enI a.ini,lst 1 enB a.acc,lst 4 Trans.cs a.ed]],.cells 1 ((build (g.st.length * a.acc.length) x.2).map z99)])) (fun x=>x.1≤ls.length∧x.2++((List.range g.st.length).drop x.1).flatMap (pI2 a.acc.length g.nx (z70 a) ls)=pS2 g ls a) (fun x=>ls.length - x.1) (0,[]) ⟨by omega,rfl⟩
  ⟨[0,1,2],rfl,by decide,rfl,⟨⟨rfl,by rfl⟩,⟨rfl,by rfl⟩,⟨rfl,by rfl⟩,⟨rfl,by rfl⟩,⟨rfl,by rfl⟩,⟨rfl,by rfl⟩,⟨rfl,by rfl⟩,⟨rfl,by rfl⟩,trivial⟩,⟨z42 rfl rfl,z42 rfl rfl,z94 (z269 (rows_nil _).symm) (z4 fun _=>rfl),trivial⟩⟩ ?_
 rintro ⟨i,ps⟩ ⟨hi1,hi2⟩
 dsimp only at hi1 hi2 ⊢
 repeat' (first|(apply y4 ok;rfl;conv=>whnf)|(apply y43;(omega);conv=>whnf)|(with_reducible apply z13;omega;intro _;conv=>whnf)|(apply z5<;>intro _<;>conv=>whnf))
 ·have hig:i < g.st.length:=by omega
  rw [z396 _ _ _ (by simpa using hig),List.getElem_range] at hi2
  have hin:i < g.nx.length:=by omega
  have hrow:=hrow i hin
  have hlen:=hlen i hin
  have hil:i < ls.length:=by omega
  have hli:=hlr ls[i] (y44 _)
  have hpI:pI2 a.acc.length g.nx (z70 a) ls i=(List.range a.acc.length).flatMap (pQ a.acc.length g.nx[i] (z70 a) i ls[i]):=by
   unfold pI2
   rw [z19 (l:=g.nx) hin,z19 (l:=ls) hil]
  rw [hpI] at hi2
  have hm1:=z289 (a:=(i:Int)) (b:=(a.acc.length:Int)) (A:=60) (B:=64) (by omega) (by omega) (by omega) (by omega)
  refine z134 (fun x:Nat×List (Nat×Int)=>([(3,.ptr 0 none 0),(5,.ptr 1 none 0),(8,.int a.acc.length),(9,lst 1 encT (z70 a)),(12,.sref 2 0 (g.st.length * a.acc.length)),(53,ints ls),(54,.int ls.length),(55,.int i),(13,.int i),(14,.int ls[i]),(60,.int a.acc.length),(61,.int x.1)],[.cells 2 [[lst 2 State.cs g.st,lst 1 encL g.nx]],.cells 3 [[lst 1 enI a.ini,lst 1 enB a.acc,lst 4 Trans.cs a.ed]],.cells 1 ((build (g.st.length * a.acc.length) x.2).map z99)])) (fun x=>x.1≤a.acc.length∧x.2++(((List.range a.acc.length).drop x.1).flatMap (pQ a.acc.length g.nx[i] (z70 a) i ls[i])++((List.range g.st.length).drop (i+1)).flatMap (pI2 a.acc.length g.nx (z70 a) ls))=pS2 g ls a) (fun x=>a.acc.length - x.1) (0,ps) ⟨by omega,hi2⟩
   ⟨[0,1,2],rfl,by decide,rfl,⟨⟨rfl,rfl⟩,⟨rfl,rfl⟩,⟨rfl,rfl⟩,⟨rfl,rfl⟩,⟨rfl,rfl⟩,⟨rfl,rfl⟩,⟨rfl,rfl⟩,⟨rfl,rfl⟩,⟨rfl,rfl⟩,⟨rfl,rfl⟩,⟨rfl,rfl⟩,⟨rfl,rfl⟩,trivial⟩,⟨z42 rfl rfl,z42 rfl rfl,z94 rfl (z4 fun _=>rfl),trivial⟩⟩ ?_
  rintro ⟨q,ps⟩ ⟨hq1,hq2⟩
  dsimp only at hq1 hq2 ⊢
  repeat' (first|(apply y4 ok;rfl;conv=>whnf)|(apply y43;(first|omega|(unfold inI;omega));conv=>whnf)|(with_reducible apply z13;omega;intro _;conv=>whnf)|(apply z5<;>intro _<;>conv=>whnf))
  ·have hqn:q < a.acc.length:=by omega
   rw [z396 _ _ _ (by simpa using hqn),List.getElem_range,List.append_assoc] at hq2
   have hqe:q < (z70 a).length:=by omega
   have hpQ:pQ a.acc.length g.nx[i] (z70 a) i ls[i] q=g.nx[i].flatMap (pTo a.acc.length (z70 a)[q] i q ls[i]):=by
    unfold pQ;rw [z19 hqe]
   rw [hpQ] at hq2
   have hedl:=hedl q hqe
   have hlt:i * a.acc.length+q < g.st.length * a.acc.length:=by
    have h1:(i+1) * a.acc.length≤g.st.length * a.acc.length:=Nat.mul_le_mul_right _ hig
    rw [Nat.add_mul,Nat.one_mul] at h1
    omega
   refine z134 (fun x:Nat×List (Nat×Int)=>([(3,.ptr 0 none 0),(5,.ptr 1 none 0),(8,.int a.acc.length),(9,lst 1 encT (z70 a)),(12,.sref 2 0 (g.st.length * a.acc.length)),(53,ints ls),(54,.int ls.length),(55,.int i),(13,.int i),(14,.int ls[i]),(60,.int a.acc.length),(61,.int q),(15,.int q),(68,ints g.nx[i]),(69,.int g.nx[i].length),(70,.int x.1)],[.cells 2 [[lst 2 State.cs g.st,lst 1 encL g.nx]],.cells 3 [[lst 1 enI a.ini,lst 1 enB a.acc,lst 4 Trans.cs a.ed]],.cells 1 ((build (g.st.length * a.acc.length) x.2).map z99)])) (fun x=>x.1≤g.nx[i].length∧x.2++((g.nx[i].drop x.1).flatMap (pTo a.acc.length (z70 a)[q] i q ls[i])++(((List.range a.acc.length).drop (q+1)).flatMap (pQ a.acc.length g.nx[i] (z70 a) i ls[i])++((List.range g.st.length).drop (i+1)).flatMap (pI2 a.acc.length g.nx (z70 a) ls)))=pS2 g ls a) (fun x=>g.nx[i].length - x.1) (0,ps) ⟨by omega,hq2⟩
    ⟨[0,1,2],rfl,by decide,rfl,⟨⟨rfl,rfl⟩,⟨rfl,rfl⟩,⟨rfl,rfl⟩,⟨rfl,rfl⟩,⟨rfl,rfl⟩,⟨rfl,rfl⟩,⟨rfl,rfl⟩,⟨rfl,rfl⟩,⟨rfl,rfl⟩,⟨rfl,rfl⟩,⟨rfl,rfl⟩,⟨rfl,rfl⟩,⟨rfl,rfl⟩,⟨rfl,rfl⟩,⟨rfl,rfl⟩,⟨rfl,rfl⟩,trivial⟩,⟨z42 rfl rfl,z42 rfl rfl,z94 rfl (z4 fun _=>rfl),trivial⟩⟩ ?_
   rintro ⟨j,ps⟩ ⟨hj1,hj2⟩
   dsimp only at hj1 hj2 ⊢
   repeat' (first|(apply y4 ok;rfl;conv=>whnf)|(apply y43;(first|omega|(unfold inI;omega));conv=>whnf)|(with_reducible apply z13;omega;intro _;conv=>whnf)|(apply z5<;>intro _<;>conv=>whnf))
   ·have hjn:j < g.nx[i].length:=by omega
    rw [z396 _ _ _ hjn,List.append_assoc] at hj2
    have hto:=hrow g.nx[i][j] (y44 _)
    have hm2:=z289 (a:=g.nx[i][j]) (b:=(a.acc.length:Int)) (A:=60) (B:=64) (by omega) (by omega) (by omega) (by omega)
    refine z134 (fun x:Nat×List (Nat×Int)=>([(3,.ptr 0 none 0),(5,.ptr 1 none 0),(8,.int a.acc.length),(9,lst 1 encT (z70 a)),(12,.sref 2 0 (g.st.length * a.acc.length)),(53,ints ls),(54,.int ls.length),(55,.int i),(13,.int i),(14,.int ls[i]),(60,.int a.acc.length),(61,.int q),(15,.int q),(68,ints g.nx[i]),(69,.int g.nx[i].length),(70,.int j),(17,.int g.nx[i][j]),(77,lst 4 Trans.cs (z70 a)[q]),(78,.int (z70 a)[q].length),(79,.int x.1)],[.cells 2 [[lst 2 State.cs g.st,lst 1 encL g.nx]],.cells 3 [[lst 1 enI a.ini,lst 1 enB a.acc,lst 4 Trans.cs a.ed]],.cells 1 ((build (g.st.length * a.acc.length) x.2).map z99)])) (fun x=>x.1≤(z70 a)[q].length∧x.2++(((z70 a)[q].drop x.1).flatMap (pE2 a.acc.length i q ls[i] g.nx[i][j])++((g.nx[i].drop (j+1)).flatMap (pTo a.acc.length (z70 a)[q] i q ls[i])++(((List.range a.acc.length).drop (q+1)).flatMap (pQ a.acc.length g.nx[i] (z70 a) i ls[i])++((List.range g.st.length).drop (i+1)).flatMap (pI2 a.acc.length g.nx (z70 a) ls))))=pS2 g ls a) (fun x=>(z70 a)[q].length - x.1) (0,ps) ⟨by omega,hj2⟩
     ⟨[0,1,2],rfl,by decide,rfl,⟨⟨rfl,rfl⟩,⟨rfl,rfl⟩,⟨rfl,rfl⟩,⟨rfl,rfl⟩,⟨rfl,rfl⟩,⟨rfl,rfl⟩,⟨rfl,rfl⟩,⟨rfl,rfl⟩,⟨rfl,rfl⟩,⟨rfl,rfl⟩,⟨rfl,rfl⟩,⟨rfl,rfl⟩,⟨rfl,rfl⟩,⟨rfl,rfl⟩,⟨rfl,rfl⟩,⟨rfl,rfl⟩,⟨rfl,rfl⟩,⟨rfl,rfl⟩,⟨rfl,rfl⟩,⟨rfl,rfl⟩,trivial⟩,⟨z42 rfl rfl,z42 rfl rfl,z94 rfl (z4 fun _=>rfl),trivial⟩⟩ ?_
    rintro ⟨k,ps⟩ ⟨hk1,hk2⟩
    dsimp only at hk1 hk2 ⊢
    by_cases hke:k < (z70 a)[q].length
    ·have he:=a5 (z70 a)[q][k] (hed q hqe _ (y44 hke))
     unfold z426 at he
     have hlt' : i * a.acc.length+q < (build (g.st.length * a.acc.length) ps).length:=by rw [z128];exact hlt
     have hmap:i * a.acc.length+q < ((build (g.st.length * a.acc.length) ps).map z99).length:=by rw [y49];exact hlt'
     have hrl:(build (g.st.length * a.acc.length) ps)[i * a.acc.length+q].length≤1000000000:=by
      have h1:=z446 (N:=g.st.length * a.acc.length) (ps:=ps) hlt'
      have h2:=congrArg List.length hk2
      rw [y47] at h2
      omega
     have hix:((i:Int) * a.acc.length+q).toNat=i * a.acc.length+q:=by
      have e:((i * a.acc.length:Nat):Int)=(i:Int) * a.acc.length:=by simp
      omega
     have hlt2:((i:Int) * a.acc.length+q).toNat < g.st.length * a.acc.length:=by rw [hix];exact hlt
     rw [z396 _ _ _ hke] at hk2
     repeat' (first|((fail_if_success apply z184 22);(fail_if_success apply z137 22);apply y4 ok;rfl;conv=>whnf)|(apply y43;(first|omega|(unfold inI;omega));conv=>whnf)|(with_reducible apply z13;omega;intro _;conv=>whnf)|(apply z5<;>intro _<;>conv=>whnf)|(apply z6 (takes_ok (z70 a)[q][k] ls[i] hli.1 hli.2 he.2.2.1);rfl;rfl;conv=>whnf))
     ·have hon:((ls[i].toNat &&& (z70 a)[q][k].care.toNat:Nat):Int)=(z70 a)[q][k].val:=by assumption
      refine y84 (Gl.Reach.expose (e:=z99 (build (g.st.length * a.acc.length) ps)[i * a.acc.length+q]) 2 (i * a.acc.length+q) 0 rfl (by rw [y51,y45 hlt'];rfl) rfl (z168 (fun _=>rfl) _) rfl) ?_
      conv=>whnf
      (apply y4 ok;rfl;conv=>whnf)
      repeat' (first|(apply z26;kernel_rfl;conv=>whnf)|(apply z537;exact hix;exact hmap;conv=>whnf)|(apply y43;(first|omega|(unfold inI;omega)|((try dsimp only);simp only [y49,y48,y47,y46,y57,y58];omega)|exact ⟨rfl,z20 rfl z29⟩);conv=>whnf))
      refine y84 (Gl.Reach.absorb 2 6 (i * a.acc.length+q) 0 rfl (getset hix (by rw [List.length_set];exact hmap)) rfl rfl (by simp) rfl (z92 (fun e he=>(z4 (fun _=>rfl)) e (List.mem_of_mem_take he)) (z297 rfl z31)) rfl) ?_
      conv=>whnf
      repeat' (first|(apply y4 ok;rfl;conv=>whnf)|(apply y43;((unfold inI;omega));conv=>whnf))
      have hpe:pE2 a.acc.length i q ls[i] g.nx[i][j] (z70 a)[q][k]=[(i * a.acc.length+q,g.nx[i][j] * a.acc.length+(z70 a)[q][k].dst)]:=by
       unfold pE2 onB;rw [if_pos (y81 hon)]
      rw [hpe,List.append_assoc,← List.append_assoc] at hk2
      exact z117 (k+1,ps++[(i * a.acc.length+q,g.nx[i][j] * a.acc.length+(z70 a)[q][k].dst)]) [0,1,2] ⟨by dsimp only;omega,hk2⟩ (by dsimp only;omega) ⟨rfl,by decide,rfl,⟨⟨rfl,rfl⟩,⟨rfl,rfl⟩,⟨rfl,rfl⟩,⟨rfl,rfl⟩,⟨rfl,rfl⟩,⟨rfl,rfl⟩,⟨rfl,rfl⟩,⟨rfl,rfl⟩,⟨rfl,rfl⟩,⟨rfl,rfl⟩,⟨rfl,rfl⟩,⟨rfl,rfl⟩,⟨rfl,rfl⟩,⟨rfl,rfl⟩,⟨rfl,rfl⟩,⟨rfl,rfl⟩,⟨rfl,rfl⟩,⟨rfl,rfl⟩,⟨rfl,rfl⟩,⟨rfl,rfl⟩,trivial⟩,⟨z42 rfl rfl,z42 rfl rfl,z94 (z269 (rows_push' hlt' hix (by simp))) (z4 fun _=>rfl),trivial⟩⟩
     ·have hon:¬ ((ls[i].toNat &&& (z70 a)[q][k].care.toNat:Nat):Int)=(z70 a)[q][k].val:=by assumption
      have hpe:pE2 a.acc.length i q ls[i] g.nx[i][j] (z70 a)[q][k]=[]:=by
       unfold pE2 onB;rw [if_neg (by simpa using hon)]
      rw [hpe,List.nil_append] at hk2
      exact z117 (k+1,ps) [0,1,2] ⟨by dsimp only;omega,hk2⟩ (by dsimp only;omega) ⟨rfl,by decide,rfl,⟨⟨rfl,rfl⟩,⟨rfl,rfl⟩,⟨rfl,rfl⟩,⟨rfl,rfl⟩,⟨rfl,rfl⟩,⟨rfl,rfl⟩,⟨rfl,rfl⟩,⟨rfl,rfl⟩,⟨rfl,rfl⟩,⟨rfl,rfl⟩,⟨rfl,rfl⟩,⟨rfl,rfl⟩,⟨rfl,rfl⟩,⟨rfl,rfl⟩,⟨rfl,rfl⟩,⟨rfl,rfl⟩,⟨rfl,rfl⟩,⟨rfl,rfl⟩,⟨rfl,rfl⟩,⟨rfl,rfl⟩,trivial⟩,⟨z42 rfl rfl,z42 rfl rfl,z94 rfl (z4 fun _=>rfl),trivial⟩⟩
     ·omega
    ·repeat' (first|((fail_if_success apply z184 22);(fail_if_success apply z137 22);apply y4 ok;rfl;conv=>whnf)|(apply y43;(first|omega|(unfold inI;omega));conv=>whnf)|(with_reducible apply z13;omega;intro _;conv=>whnf)|(apply z5<;>intro _<;>conv=>whnf))
     ·omega
     ·rw [z193 _ _ _ (by omega),List.nil_append] at hk2
      exact z117 (j+1,ps) [0,1,2] ⟨by dsimp only;omega,hk2⟩ (by dsimp only;omega) ⟨rfl,by decide,rfl,⟨⟨rfl,rfl⟩,⟨rfl,rfl⟩,⟨rfl,rfl⟩,⟨rfl,rfl⟩,⟨rfl,rfl⟩,⟨rfl,rfl⟩,⟨rfl,rfl⟩,⟨rfl,rfl⟩,⟨rfl,rfl⟩,⟨rfl,rfl⟩,⟨rfl,rfl⟩,⟨rfl,rfl⟩,⟨rfl,rfl⟩,⟨rfl,rfl⟩,⟨rfl,rfl⟩,⟨rfl,rfl⟩,trivial⟩,⟨z42 rfl rfl,z42 rfl rfl,z94 rfl (z4 fun _=>rfl),trivial⟩⟩
   ·rw [z193 _ _ _ (by omega),List.nil_append] at hj2
    exact z117 (q+1,ps) [0,1,2] ⟨by dsimp only;omega,hj2⟩ (by dsimp only;omega) ⟨rfl,by decide,rfl,⟨⟨rfl,rfl⟩,⟨rfl,rfl⟩,⟨rfl,rfl⟩,⟨rfl,rfl⟩,⟨rfl,rfl⟩,⟨rfl,rfl⟩,⟨rfl,rfl⟩,⟨rfl,rfl⟩,⟨rfl,rfl⟩,⟨rfl,rfl⟩,⟨rfl,rfl⟩,⟨rfl,rfl⟩,trivial⟩,⟨z42 rfl rfl,z42 rfl rfl,z94 rfl (z4 fun _=>rfl),trivial⟩⟩
  ·rw [z193 _ _ _ (by simp;omega),List.nil_append] at hq2
   exact z117 (i+1,ps) [0,1,2] ⟨by dsimp only;omega,hq2⟩ (by dsimp only;omega) ⟨rfl,by decide,rfl,⟨⟨rfl,rfl⟩,⟨rfl,rfl⟩,⟨rfl,rfl⟩,⟨rfl,rfl⟩,⟨rfl,rfl⟩,⟨rfl,rfl⟩,⟨rfl,rfl⟩,⟨rfl,rfl⟩,trivial⟩,⟨z42 rfl rfl,z42 rfl rfl,z94 rfl (z4 fun _=>rfl),trivial⟩⟩
 ·rw [z193 _ _ _ (by simp;omega),y64] at hi2
  subst hi2
  repeat' (first|(apply y4 ok;rfl;conv=>whnf)|(apply z6 (z219 a.ini (by omega));rfl;rfl;conv=>whnf))
  exact z88 [2] (by decide) rfl rfl rfl ⟨z94 rfl (z4 fun _=>rfl),trivial⟩
theorem z980 (g:Graph) (hg:GB g) (l:List Tree) (hl:z172 l) (a:Aut) (ha:AutP a):CallsA Tryz.prog 135 [.agg g.cs,lst 3 Tree.cs' l,.agg a.cs] [] (.tup [lst 1 encL (z55 g (g.st.map (z59 l)) a),ints a.ini]) []:=by
 have h:=z843 g hg l hl a ha
 have hlen:(z55 g (g.st.map (z59 l)) a).length=g.st.length * a.acc.length:=by unfold z55;rw [z128,Nat.mul_comm]
 refine h.lend [] [0] rfl rfl rfl ?_ z28
 show AC.tup [bor _ _ _ (.sref 0 0 _),bor _ _ _ (ints a.ini)]=_
 rw [z406 (w:=1) (es:=(z55 g (g.st.map (z59 l)) a).map z99) rfl rfl rfl (by rw [y49];exact hlen),z195,← hlen]
 rfl
theorem z844 (g:Graph) (hg:GB g) (ls:List Int) (a:Aut) (ha:AutP a):∀ row∈z55 g ls a,∀ x∈row,0≤x∧x < ((g.st.length * a.acc.length:Nat):Int):=by
 intro row hrow x hx
 unfold z55 build at hrow
 obtain ⟨r,_,rfl⟩:=List.mem_map.1 hrow
 obtain ⟨⟨p,v⟩,hp,rfl⟩:=List.mem_map.1 hx
 have hp:=(List.mem_filter.1 hp).1
 unfold z729 at hp
 obtain ⟨i,hi,hp⟩:=List.mem_flatMap.1 hp
 rw [y60] at hi
 unfold z731 at hp
 obtain ⟨to,hto,hp⟩:=List.mem_flatMap.1 hp
 unfold z730 at hp
 obtain ⟨e,he,hp⟩:=List.mem_flatMap.1 hp
 have hin:i < g.nx.length:=by have:=hg.2.1;omega
 rw [z19 hin] at hto
 obtain ⟨j,hj,rfl⟩:=List.mem_iff_getElem.1 hto
 have h1:=((hg.2.2 i hin hin hi).2.2.2 j hj hj).1
 have h2:=(ha.2.2.2 e he).2.1
 unfold z452 at hp
 split at hp
 ·simp only [y54,Prod.mk.injEq] at hp
  obtain ⟨_,rfl⟩:=hp
  have h3:0≤g.nx[i][j] * (a.acc.length:Int):=Int.mul_nonneg h1.1 (by omega)
  have h4:(g.nx[i][j]+1) * (a.acc.length:Int)≤g.st.length * a.acc.length:=Int.mul_le_mul_of_nonneg_right (by omega) (by omega)
  rw [Int.add_mul,Int.one_mul] at h4
  have e:((g.st.length * a.acc.length:Nat):Int)=(g.st.length:Int) * a.acc.length:=by simp
  rw [e]
  dsimp only
  omega
 ·simp at hp
theorem z732 (g:Graph) (hg:GB g) (ls:List Int) (a:Aut) (ha:AutP a):∀ row∈z55 g ls a,row.length≤7372800:=by
 intro row hrow
 obtain ⟨i,hi,rfl⟩:=List.mem_iff_getElem.1 hrow
 exact Nat.le_trans (z446 (N:=a.acc.length * g.st.length) (ps:=z729 g ls a) hi) (z728 g hg ls a ha)
def rk (ranks:List Int) (x:Int):Int:=ranks.getD x.toNat 0
def less (acc:Bool) (r:Int):Int:=if acc then r - 1 else r
def nodeP (row ranks:List Int) (rank:Int) (acc:Bool):Prop:=∀ x∈row,0≤rk ranks x∧rk ranks x≤less acc rank
instance {row ranks:List Int} {rank:Int} {acc:Bool} : Decidable (nodeP row ranks rank acc):=by unfold nodeP;infer_instance
def certP (rows:List (List Int)) (ini:List Int) (acc:List Bool) (N:Nat) (ranks:List Int):Prop :=
 ranks.length=N∧(∀ x∈ranks,-1≤x∧x≤4000)∧(∀ x∈ini,0≤rk ranks x)∧∀ i (h:i < ranks.length),0≤ranks[i]→nodeP (rows.getD i []) ranks ranks[i] (acc.getD (i % acc.length) false)
noncomputable instance {rows:List (List Int)} {ini:List Int} {acc:List Bool} {N:Nat} {ranks:List Int} : Decidable (certP rows ini acc N ranks):=Classical.propDecidable _
def Cert.mx (c:Cert):Prop:=c.ranks.length≤maxLen
theorem z210 (l:List Int) (hl:l.length≤1048576):CallsA Tryz.prog 110 [.sref 0 0 l.length] [.cells 1 (l.map enI)] (.sref 0 0 l.length) [.cells 1 (l.map enI)]:=by
 refine z14 z16 Tryz.func110 rfl rfl 9 Tryz.ntmps110 (by simp) ?_
 repeat' (first|(apply y4 ok;rfl;conv=>whnf)|(apply y43;(omega);conv=>whnf))
 exact z71 rfl (z4 fun _=>rfl) (by omega) rfl rfl
theorem z786 (l:List Int) (hl:l.length≤1048576):CallsA Tryz.prog 208 [ints l] [] (.sref 0 0 l.length) [.cells 1 (l.map enI)]:=by
 by_cases hp:0 < l.length
 ·exact z611 l hl hp
 ·obtain rfl:l=[]:=y73 (by omega)
  refine z127 (z178 Tryz.func208 rfl (by rfl)) fun ad cap=>?_
  cases ad with
  |none =>
   refine CallsA.nils (res:=.nils) (l:=[.cells 1 []]) ?_ (by simp) z259
   refine z14 z16 Tryz.func208 rfl rfl 8 Tryz.ntmps208 (by simp) ?_
   repeat' ((apply y4 ok;rfl;conv=>whnf))
   all_goals exact z49 rfl rfl rfl
  |some p =>
   refine z14 z16 Tryz.func208 rfl rfl 8 Tryz.ntmps208 (by simp) ?_
   repeat' (first|(apply y4 ok;rfl;conv=>whnf)|(apply y43;(omega);conv=>whnf))
   all_goals (exact z71 rfl z31 rfl rfl rfl)
theorem z191 (l:List Int) (hl:l.length≤1048576):CallsA Tryz.prog 150 [ints l] [] (.sref 0 0 l.length) [.cells 1 (l.map enI)]:=by
 refine z14 z16 Tryz.func150 rfl rfl 6 Tryz.ntmps150 (by simp) ?_
 repeat' (first|(apply y4 ok;rfl;conv=>whnf)|(apply z97 [] [] [0] (z786 l hl);rfl;(focus ((repeat' (exact z28))<;>(fail)));rfl;rfl;rfl;rfl;rfl;(focus ((repeat' (first|exact z12|apply z11))<;>((refine z17 ?_;((exact z4 (fun _=>rfl)))))));(exact .inl rfl);conv=>whnf)|(apply z97 [0] [] [] (z210 l hl);rfl;(focus ((repeat' (first|exact z28|apply z35))<;>((refine z54 rfl ?_;((exact z4 (fun _=>rfl)))))));rfl;rfl;rfl;rfl;rfl;(focus ((repeat' (first|exact z12|apply z11))<;>((refine z17 ?_;((exact z4 (fun _=>rfl)))))));(exact .inl rfl);conv=>whnf))
 exact z71 rfl (z4 fun _=>rfl) rfl rfl rfl
structure RI (rows:List (List Int)) (ini S L:List Int):Prop where
 inS:InN rows.length S
 sub:∀ x∈L,x∈S
 rp:∀ x∈S,RP rows ini x
 base:∀ x∈ini,x∈S
end Go.Proofs.YtnfoijopccdjeaaGreat
namespace Go.Proofs.YtnfoijopccdjeaaGreat
open Go.Gl
attribute [local irreducible] z18 AWP z30 z36 z32 RetS z38
theorem z783 (s:State) (hs:s.sm):CallsA Tryz.prog 113 [z24 State.cs s] [] (z24 State.cs s) []:=by
 have h1:=hs.a
 have h2:=hs.b
 have c1:=z219 s.a (by omega)
 have c2:=z219 s.b (by omega)
 refine z7 z16 Tryz.func113 rfl rfl 10 Tryz.ntmps113 (by simp) ?_
 repeat' ((first|(apply y4 ok;rfl)|(apply z26;kernel_rfl)|(apply z6 (c1);rfl;rfl)|(apply z6 (c2);rfl;rfl))<;>conv=>whnf)
 all_goals (refine rsD [] [] rfl ?_;(repeat' first|exact y85 _|constructor))
theorem z665 (a b:State) (ha:a.sm) (hb:b.sm):CallsA Tryz.prog 12 [.agg a.cs,.agg b.cs] [] (.bool (decide (a=b))) []:=by
 have h1:=ha.a
 have h2:=ha.b
 have h3:=hb.a
 have h4:=hb.b
 have c1:=z545 a.a b.a (by unfold maxLen;omega) (by unfold maxLen;omega)
 have c2:=z545 a.b b.b (by unfold maxLen;omega) (by unfold maxLen;omega)
 obtain ⟨a1,a2⟩:=a
 obtain ⟨b1,b2⟩:=b
 simp only at *
 have e:decide ((⟨a1,a2⟩:State)=⟨b1,b2⟩)=(decide (a1=b1) && decide (a2=b2)):=by
  by_cases h:a1=b1<;>by_cases k:a2=b2<;>simp [h,k]
 rw [e]
 generalize decide (a1=b1)=p at *
 generalize decide (a2=b2)=q at *
 refine z7 z16 Tryz.func12 rfl rfl 17 Tryz.ntmps12 (by simp) ?_
 cases p
 all_goals
  repeat' ((first|(apply y4 ok;rfl)|(apply z6 (c1);rfl;rfl)|(apply z6 (c2);rfl;rfl))<;>conv=>whnf)
  all_goals (refine rsD [] [] rfl ?_;(repeat' first|exact y85 _|constructor))
theorem z442 (s:Sys) (hs:s.ok) (st:State) (h:st.ok s) (i k:Nat) (hi:i < s.ps.length) (hk:k < (s.pr i).es.length):CallsA Tryz.prog 164 [.agg s.cs,.agg st.cs,.int i,.int k] [] (.bool (rdyE ((s.pr i).eg k) st i)) []:=by
  have gp:=y15 hi
  have ge:=y11 hk
  have hE:=hs.eg i k hi hk
  have h3:=hs.n3
  have ha:=h.a
  have h6:=hs.ne i hi
  generalize (s.pr i).eg k=e at *
  have hb:=h.b.1
  have ga:(st.a.map enI)[i]?=some (enI (st.a.getD i 0)):=by rw [y51,z19 (show i < st.a.length by omega),y45 (by omega)];rfl
  have ce:=z869 st.b h.b e.gd hE.gd
  rw [y16] at ce
  unfold rdyE
  generalize st.a.getD i 0=x at *
  generalize s.pr i=p at *
  generalize e.gd.ev st.b=z at *
  refine z7 z16 Tryz.func164 rfl rfl 35 Tryz.ntmps164 (by simp) ?_
  repeat' ((first|(apply y4 ok;rfl)|(apply z26;kernel_rfl)|(refine z15 (i:=i) rfl gp ?_)|(refine z15 (i:=k) rfl ge ?_)|(refine z15 (i:=i) rfl ga ?_)|(apply y43;omega)|((apply z5)<;>intro _)|(apply z6 (ce);rfl;rfl))<;>conv=>whnf)
  all_goals (refine rsD [] [] rfl ?_;(repeat' constructor))
  all_goals refine z183 ?_
  all_goals first
    | (have q : e.fr = x := by omega
       simp only [q,decide_true,Bool.true_and,ne_eq,decide_not])
    | (simp only [y82 (show ¬ e.fr=x by omega),Bool.false_and])
theorem z534 (st:State) (e:Edge) (n:Int) (he:e.ok n) (i:Nat) (hi:i < st.a.length) (hl:st.a.length≤10) (hv:ValsOk st.b):CallsA Tryz.prog 166 [.agg [.sref 0 0 st.a.length,.sref 1 0 st.b.length],.int i,.agg e.cs] [.cells 1 (st.a.map enI),.cells 1 (st.b.map enI)] (.tup []) [.cells 1 ((z86 st i e).a.map enI),.cells 1 ((z86 st i e).b.map enI)]:=by
 have hb:=hv.1
 have hvar:=he.var
 by_cases h0:0≤e.var
 ·have c:=z869 st.b hv e.val (he.val h0)
  rw [y16] at c
  have hr:=y18 hv e.val (he.val h0)
  have e1:z86 st i e=⟨st.a.set i e.to,st.b.set e.var.toNat (e.val.ev st.b)⟩:=by unfold z86;rw [if_pos h0]
  rw [e1]
  generalize e.val.ev st.b=x at *
  refine z7 z16 Tryz.func166 rfl rfl 25 Tryz.ntmps166 (by simp) ?_
  repeat' ((first|(apply y4 ok;rfl)|(apply z26;kernel_rfl)|(apply y43;omega)|(((apply z13;omega));intro _)|((apply z5)<;>intro _)|(apply z89 [] [1] [] c;(focus ((repeat' first|exact z75|apply z48)<;>first|exact z135 rfl rfl rfl|rfl));rfl;rfl;(focus ((repeat' exact z12)<;>fail));((refine .inr ⟨rfl,?_⟩;repeat' first|exact True.intro|apply y43))))<;>conv=>whnf)
  all_goals first|(exfalso;omega)|exact h0|(show e.var.toNat < st.b.length;omega)|skip
  all_goals (refine rsD [0,1] [] rfl ?_;(repeat' first|exact y85 _|refine z50 rfl (z4 (fun _=>rfl)) ?_|refine z515 (by omega) ?_|constructor))
 ·have e1:z86 st i e=⟨st.a.set i e.to,st.b⟩:=by unfold z86;rw [if_neg h0]
  rw [e1]
  refine z7 z16 Tryz.func166 rfl rfl 25 Tryz.ntmps166 (by simp) ?_
  repeat' ((first|(apply y4 ok;rfl)|(apply y43;omega)|(((apply z13;omega));intro _)|((apply z5)<;>intro _))<;>conv=>whnf)
  all_goals try (exfalso;omega)
  all_goals (refine rsD [0,1] [] rfl ?_;(repeat' first|exact y85 _|exact z9 _|refine z50 rfl (z4 (fun _=>rfl)) ?_|refine z10 rfl (z4 (fun _=>rfl)) ?_|refine z515 (by omega) ?_|constructor))
theorem z678 (s:State) (hs:s.sm):CallsA Tryz.prog 113 [.agg s.cs] [] (.agg [.sref 0 0 s.a.length,.sref 1 0 s.b.length]) [.cells 1 (s.a.map enI),.cells 1 (s.b.map enI)]:=by
 have h1:=hs.a
 have h2:=hs.b
 have c1:=z191 s.a (by omega)
 have c2:=z191 s.b (by omega)
 refine z7 z16 Tryz.func113 rfl rfl 10 Tryz.ntmps113 (by simp) ?_
 repeat' ((first|(apply y4 ok;rfl)|(apply z26;kernel_rfl)|((first|(apply z8 [] [2] c1;rfl;rfl)|(apply z8 [] [3] c2;rfl;rfl));rfl;(focus ((repeat' first|exact z12|apply z11)<;>(refine z17 ?_;((exact z4 fun _=>rfl)))))))<;>conv=>whnf)
 all_goals (refine rsD [2,3] [] rfl ?_;(repeat' first|exact y85 _|exact z9 _|refine z10 rfl (z4 (fun _=>rfl)) ?_|constructor))
set_option maxHeartbeats 3200000 in
theorem z766 (s:Sys) (hs:s.ok) (st:State) (h:st.ok s) (x:Stp) (hx:x.ok s):CallsA Tryz.prog 106 [.agg s.cs,.agg st.cs,.agg x.cs] [] (.agg (z73 s st x).cs) []:=by
 have hn3:=hs.n3
 have ha:=h.a
 have hb:=h.b.1
 obtain ⟨p,e,q,f⟩:=x
 obtain ⟨hp,he,hq,hf⟩:=hx
 simp only at hp he hq hf
 obtain ⟨pi,rfl,hpi⟩:=z437 hp.1 hp.2
 simp only [y76] at he
 obtain ⟨ei,rfl,hei⟩:=z437 he.1 he.2
 have gp:=y15 hpi
 have ge:=y11 hei
 have hE:=hs.eg pi ei hpi hei
 have hP6:=hs.ne pi hpi
 have c0:=z678 st (h.sm hs)
 have c1:=z534 st ((s.pr pi).eg ei) _ hE pi (by omega) (by omega) h.b
 have h1:=z363 (i:=pi) h hE
 have hl1:=z364 st pi ((s.pr pi).eg ei)
 by_cases hq0:0≤q
 ·have hf:=hf hq0
  obtain ⟨qi,rfl,hqi⟩:=z437 hq0 hq.2
  simp only [y76] at hf
  obtain ⟨fi,rfl,hfi⟩:=z437 hf.1 hf.2
  have gq:=y15 hqi
  have gf:=y11 hfi
  have hF:=hs.eg qi fi hqi hfi
  have hQ6:=hs.ne qi hqi
  have e0:z73 s st ⟨pi,ei,qi,fi⟩=z86 (z86 st pi ((s.pr pi).eg ei)) qi ((s.pr qi).eg fi):=by unfold z73;rw [if_pos hq0];rfl
  have c2:=z534 (z86 st pi ((s.pr pi).eg ei)) ((s.pr qi).eg fi) _ hF qi (by omega) (by omega) h1.b
  have hl2:=z364 (z86 st pi ((s.pr pi).eg ei)) qi ((s.pr qi).eg fi)
  rw [hl1.1,hl1.2] at c2
  rw [e0]
  generalize z86 (z86 st pi ((s.pr pi).eg ei)) qi ((s.pr qi).eg fi)=s2 at *
  generalize z86 st pi ((s.pr pi).eg ei)=s1 at *
  generalize (s.pr pi).eg ei=ed at *
  generalize (s.pr qi).eg fi=fd at *
  generalize s.pr pi=pp at *
  generalize s.pr qi=qq at *
  refine z7 z16 Tryz.func106 rfl rfl 44 Tryz.ntmps106 (by simp) ?_
  repeat' ((first|(apply y4 ok;rfl)|(apply z26;kernel_rfl)|(refine z15 (i:=pi) rfl gp ?_)|(refine z15 (i:=ei) rfl ge ?_)|(refine z15 (i:=qi) rfl gq ?_)|(refine z15 (i:=fi) rfl gf ?_)|(apply y43;first|omega|(dsimp only;omega))|((first|(apply z8 [] [4,5] c0;rfl;rfl)|(apply z77 [4,5] [] c1;rfl;(focus ((repeat' first|exact z28|apply z35)<;>(refine z54 rfl ?_;((exact z4 fun _=>rfl))))))|(apply z77 [4,5] [] c2;rfl;(focus ((repeat' first|exact z28|apply z35)<;>(refine z54 rfl ?_;((exact z4 fun _=>rfl)))))));rfl;(focus ((repeat' first|exact z12|apply z11)<;>(refine z17 ?_;((exact z4 fun _=>rfl)))))))<;>conv=>whnf)
  all_goals (refine rsD [] [4,5] rfl ?_;(repeat' first|(refine z274 ?_;omega)|((apply z37 rfl rfl rfl);(focus ((repeat ((exact z23 (fun _=>rfl) _)));done));(focus (((simp;omega));done)))|apply z46|constructor))
 ·have e0:z73 s st ⟨pi,ei,q,f⟩=z86 st pi ((s.pr pi).eg ei):=by unfold z73;rw [if_neg hq0];rfl
  rw [e0]
  generalize z86 st pi ((s.pr pi).eg ei)=s1 at *
  generalize (s.pr pi).eg ei=ed at *
  generalize s.pr pi=pp at *
  refine z7 z16 Tryz.func106 rfl rfl 44 Tryz.ntmps106 (by simp) ?_
  repeat' ((first|(apply y4 ok;rfl)|(apply z26;kernel_rfl)|(refine z15 (i:=pi) rfl gp ?_)|(refine z15 (i:=ei) rfl ge ?_)|(apply y43;first|omega|(dsimp only;omega))|((apply z5)<;>intro _)|((first|(apply z8 [] [4,5] c0;rfl;rfl)|(apply z77 [4,5] [] c1;rfl;(focus ((repeat' first|exact z28|apply z35)<;>(refine z54 rfl ?_;((exact z4 fun _=>rfl)))))));rfl;(focus ((repeat' first|exact z12|apply z11)<;>(refine z17 ?_;((exact z4 fun _=>rfl)))))))<;>conv=>whnf)
  all_goals first|(exfalso;apply hq0;assumption)|skip
  all_goals (refine rsD [] [4,5] rfl ?_;(repeat' first|(refine z274 ?_;omega)|((apply z37 rfl rfl rfl);(focus ((repeat ((exact z23 (fun _=>rfl) _)));done));(focus (((simp;omega));done)))|apply z46|constructor))
theorem z879 (l:List Stp) (hl:l.length≤1048576):CallsA Tryz.prog 165 [.sref 0 0 l.length] [.cells 4 (l.map Stp.cs)] (.sref 0 0 l.length) [.cells 4 (l.map Stp.cs)]:=by
 refine z14 z16 Tryz.func165 rfl rfl 9 Tryz.ntmps165 (by simp) ?_
 repeat' ((first|(apply y4 ok;rfl)|(apply y43;omega))<;>conv=>whnf)
 exact z71 rfl (z4 fun _=>rfl) (by omega) rfl rfl
set_option maxHeartbeats 12800000 in
theorem z1015 (s:Sys) (hs:s.ok) (st:State) (h:st.ok s):CallsA Tryz.prog 105 [.agg s.cs,.agg st.cs] [] (lst 4 Stp.cs (z133 s st)) []:=by
  have h3:=hs.n3
  have hlen:=z368 hs (st:=st)
  have hfin:z133 s st=cat s.ps.length (fun j=>cat (s.pr j).es.length (z238 s st j)):=rfl
  have hR0:∀ j m,(((s.pr j).eg m).sync < 0∨rdyE ((s.pr j).eg m) st j=false)→z238 s st j m=[]:=fun _ _ h=>if_pos h
  have hR1:∀ j m,¬(((s.pr j).eg m).sync < 0∨rdyE ((s.pr j).eg m) st j=false)→((s.pr j).eg m).sync=0→z238 s st j m=[⟨j,m,-1,-1⟩]:=fun _ _ h k=>by unfold z238;rw [if_neg h,if_pos k]
  have hR2:∀ j m,¬(((s.pr j).eg m).sync < 0∨rdyE ((s.pr j).eg m) st j=false)→((s.pr j).eg m).sync≠0→z238 s st j m=cat s.ps.length (fun j'=>cat (s.pr j').es.length (z382 s st j m j')):=fun _ _ h k=>by unfold z238;rw [if_neg h,if_neg k];rfl
  have hP1:∀ i k j m,(j≠i∧((s.pr j).eg m).sync=-((s.pr i).eg k).sync∧rdyE ((s.pr j).eg m) st j=true)→z382 s st i k j m=[⟨i,k,j,m⟩]:=fun _ _ _ _ h=>if_pos h
  have hP0:∀ i k j m,¬(j≠i∧((s.pr j).eg m).sync=-((s.pr i).eg k).sync∧rdyE ((s.pr j).eg m) st j=true)→z382 s st i k j m=[]:=fun _ _ _ _ h=>if_neg h
  generalize z133 s st=FIN at *
  generalize z238 s st=R at *
  generalize z382 s st=PR at *
  have cF:=z879 FIN (by omega)
  refine z7 z16 Tryz.func105 rfl rfl 100 Tryz.ntmps105 (by simp) ?_
  repeat' (((apply y4 ok;rfl))<;>conv=>whnf)
  refine y84 (y87 4 rfl) ?_
  refine z58 (fun x:Nat×List Stp=>([(2,.ptr 0 none 0),(3,.ptr 1 none 0),(5,.sref 2 0 x.2.length),(15,lst 2 Proc.cs s.ps),(16,.int s.ps.length),(17,.int x.1)],[.cells 2 [s.cs],.cells 2 [st.cs],.cells 4 (x.2.map Stp.cs)])) (fun x=>x.1≤s.ps.length∧x.2.length≤1000 * x.1∧x.2=cat x.1 fun j=>cat (s.pr j).es.length (R j)) (fun x=>s.ps.length - x.1) (0,[]) ⟨by omega,by simp,rfl⟩ (by refine swR [0,1,2] [] rfl rfl ?_;(repeat' first|exact y85 _|exact z47|apply y86|refine z10 rfl (z31) ?_|constructor)) ?_
  rintro ⟨i,L⟩ ⟨hi,hLl,hL⟩
  simp only at hi hL hLl
  by_cases hil:i < s.ps.length
  · have gi:=y15 hil
    have hi6:=hs.ne i hil
    repeat' ((first|(apply y4 ok;rfl)|(refine z15 (i:=i) rfl gi ?_)|(apply y43;omega)|((apply z5)<;>intro _))<;>conv=>whnf)
    all_goals try (exfalso;omega)
    refine z58 (fun x:Nat×List Stp=>([(2,.ptr 0 none 0),(3,.ptr 1 none 0),(5,.sref 2 0 x.2.length),(6,.int i),(15,lst 2 Proc.cs s.ps),(16,.int s.ps.length),(17,.int i),(23,lst 10 Edge.cs (s.pr i).es),(24,.int (s.pr i).es.length),(25,.int x.1)],[.cells 2 [s.cs],.cells 2 [st.cs],.cells 4 (x.2.map Stp.cs)])) (fun x=>x.1≤(s.pr i).es.length∧x.2.length≤1000 * i+150 * x.1∧x.2=L++cat x.1 (R i)) (fun x=>(s.pr i).es.length - x.1) (0,L) ⟨by omega,by simpa using hLl,by rw [z403,y64]⟩ (by refine swR [0,1,2] [] rfl rfl ?_;(repeat' first|exact y85 _|exact z9 _|apply y86|refine z10 rfl (z4 (fun _=>rfl)) ?_|constructor)) ?_
    rintro ⟨k,M⟩ ⟨hk,hMl,hM⟩
    simp only at hk hM hMl
    by_cases hkl:k < (s.pr i).es.length
    · have gk:=y11 hkl
      have hl:=z442 s hs st h i k hil hkl
      have hR0k:=hR0 i k
      have hR1k:=hR1 i k
      have hR2k:=hR2 i k
      have hP1k:=hP1 i k
      have hP0k:=hP0 i k
      have hcs:=z160 k (R i)
      have hE:=(hs.eg i k hil hkl).sync
      generalize (s.pr i).eg k=e at *
      generalize rdyE e st i=rd at *
      generalize PR i k=Q at *
      by_cases hgo:e.sync < 0∨rd=false
      · have hz:=hR0k hgo
        generalize hpi:s.pr i=pi at *
        cases rd
        all_goals
          repeat' ((first|(apply y4 ok;rfl)|(refine z15 (i:=k) rfl gk ?_)|(apply y43;first|omega|(unfold inI;omega)|((try dsimp only);simp only [y49,y48,y47,y46,y57,y58];omega)|exact ⟨rfl,z20 rfl z29⟩)|((apply z5)<;>intro _)|(apply z6 (hl);rfl;rfl))<;>conv=>whnf)
          all_goals first|(exfalso;omega)|(exfalso;rcases hgo with hgo|hgo<;>first|omega|cases hgo)|skip
        all_goals refine z21 (k+1,M) ⟨by omega,by simp;omega,by rw [hM,hcs,hz,y64]⟩ (by show pi.es.length - (k+1) < pi.es.length - k;omega) (by refine swR [0,1,2] [] rfl rfl ?_;(repeat' first|exact y85 _|exact z9 _|apply y86|refine z10 rfl (z4 (fun _=>rfl)) ?_|constructor))
      have hrd:rd=true:=by cases rd<;>simp_all
      subst hrd
      by_cases h0:e.sync=0
      · have hz:=hR1k hgo h0
        generalize hpi:s.pr i=pi at *
        repeat' ((first|(apply y4 ok;rfl)|(refine z15 (i:=k) rfl gk ?_)|(apply y43;first|omega|(unfold inI;omega)|((try dsimp only);simp only [y49,y48,y47,y46,y57,y58];omega)|exact ⟨rfl,z20 rfl z29⟩)|((apply z5)<;>intro _)|(apply z6 (hl);rfl;rfl))<;>conv=>whnf)
        all_goals try (exfalso;omega)
        all_goals refine z21 (k+1,M++[⟨i,k,-1,-1⟩]) ⟨by omega,by simp;omega,by rw [hM,hcs,hz,List.append_assoc]⟩ (by show pi.es.length - (k+1) < pi.es.length - k;omega) (by refine swR [0,1,5] [] rfl rfl ?_;(repeat' first|exact y85 _|(refine z60 ?_;((simp;done)))|apply y86|((refine z40 rfl ?_ ?_);(focus ((repeat' (first|exact z4 (fun _=>rfl)|apply z22));done)))|(refine z84 ?_ ?_;(focus (omega)))|constructor))
      have hz:=hR2k hgo h0
      have hpos:0≤e.sync:=by omega
      repeat' ((first|(apply y4 ok;rfl)|(refine z15 (i:=k) rfl gk ?_)|(apply y43;omega)|((apply z5)<;>intro _)|(apply z6 (hl);rfl;rfl))<;>conv=>whnf)
      all_goals try (exfalso;omega)
      refine z58 (fun x:Nat×List Stp=>([(2,.ptr 0 none 0),(3,.ptr 1 none 0),(5,.sref 2 0 x.2.length),(6,.int i),(8,.int k),(9,.ptr 3 none 0),(15,lst 2 Proc.cs s.ps),(16,.int s.ps.length),(17,.int i),(23,lst 10 Edge.cs (s.pr i).es),(24,.int (s.pr i).es.length),(25,.int k),(53,lst 2 Proc.cs s.ps),(54,.int s.ps.length),(55,.int x.1)],[.cells 2 [s.cs],.cells 2 [st.cs],.cells 4 (x.2.map Stp.cs),.cells 10 [e.cs]])) (fun x=>x.1≤s.ps.length∧x.2.length≤1000 * i+150 * k+6 * x.1∧x.2=M++cat x.1 fun j'=>cat (s.pr j').es.length (Q j')) (fun x=>s.ps.length - x.1) (0,M) ⟨by omega,by simpa using hMl,by rw [z403,y64]⟩ (by refine swR [0,1,2,3] [] rfl rfl ?_;(repeat' first|exact y85 _|exact z9 _|apply y86|refine z10 rfl (z4 (fun _=>rfl)) ?_|constructor)) ?_
      rintro ⟨j,A⟩ ⟨hj,hAl,hA⟩
      simp only at hj hA hAl
      by_cases hjl:j < s.ps.length
      · have gj:=y15 hjl
        have hj6:=hs.ne j hjl
        repeat' ((first|(apply y4 ok;rfl)|(refine z15 (i:=j) rfl gj ?_)|(apply y43;omega)|((apply z5)<;>intro _))<;>conv=>whnf)
        all_goals try (exfalso;omega)
        refine z58 (fun x:Nat×List Stp=>([(2,.ptr 0 none 0),(3,.ptr 1 none 0),(5,.sref 2 0 x.2.length),(6,.int i),(8,.int k),(9,.ptr 3 none 0),(10,.int j),(15,lst 2 Proc.cs s.ps),(16,.int s.ps.length),(17,.int i),(23,lst 10 Edge.cs (s.pr i).es),(24,.int (s.pr i).es.length),(25,.int k),(53,lst 2 Proc.cs s.ps),(54,.int s.ps.length),(55,.int j),(61,lst 10 Edge.cs (s.pr j).es),(62,.int (s.pr j).es.length),(63,.int x.1)],[.cells 2 [s.cs],.cells 2 [st.cs],.cells 4 (x.2.map Stp.cs),.cells 10 [e.cs]])) (fun x=>x.1≤(s.pr j).es.length∧x.2.length≤1000 * i+150 * k+6 * j+x.1∧x.2=A++cat x.1 (Q j)) (fun x=>(s.pr j).es.length - x.1) (0,A) ⟨by omega,by simpa using hAl,by rw [z403,y64]⟩ (by refine swR [0,1,2,3] [] rfl rfl ?_;(repeat' first|exact y85 _|exact z9 _|apply y86|refine z10 rfl (z4 (fun _=>rfl)) ?_|constructor)) ?_
        rintro ⟨m,B⟩ ⟨hm,hBl,hB⟩
        simp only at hm hB hBl
        by_cases hml:m < (s.pr j).es.length
        · have gm:=y11 hml
          have hl2:=z442 s hs st h j m hjl hml
          have hQ1:=hP1k j m
          have hQ0:=hP0k j m
          have hcq:=z160 m (Q j)
          have hE2:=(hs.eg j m hjl hml).sync
          generalize (s.pr j).eg m=e2 at *
          generalize rdyE e2 st j=rd2 at *
          generalize hpj:s.pr j=pj at *
          cases rd2
          all_goals
            repeat' ((first|(apply y4 ok;rfl)|(refine z15 (i:=m) rfl gm ?_)|(apply y43;first|omega|(unfold inI;omega)|((try dsimp only);simp only [y49,y48,y47,y46,y57,y58];omega)|exact ⟨rfl,z20 rfl z29⟩)|((first|apply z5|apply z52)<;>intro _)|(apply z6 (hl2);rfl;rfl))<;>conv=>whnf)
            all_goals try (exfalso;omega)
          all_goals first
            | (have hy := hQ1 ⟨by omega, by omega, rfl⟩
               refine z21 (m+1,B++[⟨i,k,j,m⟩]) ⟨by omega,by simp;omega,by rw [hB,hcq,hy,List.append_assoc]⟩ (by show pj.es.length - (m+1) < pj.es.length - m;omega) (by refine swR [0,1,6,3] [] rfl rfl ?_;(repeat' first|exact y85 _|(refine z60 ?_;((simp;done)))|apply y86|((refine z40 rfl ?_ ?_);(focus ((repeat' (first|exact z4 (fun _=>rfl)|apply z22));done)))|(refine z84 ?_ ?_;(focus (omega)))|constructor)))
            | (have hy := hQ0 (by rintro ⟨z1, z2, z3⟩; first | exact absurd z3 (by decide) | omega)
               refine z21 (m+1,B) ⟨by omega,by simp;omega,by rw [hB,hcq,hy,y64]⟩ (by show pj.es.length - (m+1) < pj.es.length - m;omega) (by refine swR [0,1,2,3] [] rfl rfl ?_;(repeat' first|exact y85 _|exact z9 _|apply y86|refine z10 rfl (z4 (fun _=>rfl)) ?_|constructor)))
        · have em:m=(s.pr j).es.length:=by omega
          repeat' ((first|(apply y4 ok;rfl)|(apply y43;first|omega|(unfold inI;omega))|(((with_reducible apply z13;omega));intro _)|((first|apply z5|apply z52)<;>intro _))<;>conv=>whnf)
          all_goals try (exfalso;omega)
          all_goals refine z21 (j+1,B) ⟨by omega,by simp;omega,by rw [hB,hA,em,List.append_assoc];exact congrArg _ (z160 j fun j'=>cat (s.pr j').es.length (Q j')).symm⟩ (by show s.ps.length - (j+1) < s.ps.length - j;omega) (by refine swR [0,1,2,3] [] rfl rfl ?_;(repeat' first|exact y85 _|exact z9 _|apply y86|refine z10 rfl (z4 (fun _=>rfl)) ?_|constructor))
      · have ej:j=s.ps.length:=by omega
        repeat' ((first|(apply y4 ok;rfl)|(apply y43;first|omega|(unfold inI;omega))|(((with_reducible apply z13;omega));intro _)|((apply z5)<;>intro _))<;>conv=>whnf)
        all_goals try (exfalso;omega)
        all_goals refine z21 (k+1,A) ⟨by omega,by simp;omega,by rw [hA,hM,hcs,hz,ej,List.append_assoc]⟩ (by show (s.pr i).es.length - (k+1) < (s.pr i).es.length - k;omega) (by refine swR [0,1,2] [] rfl rfl ?_;(repeat' first|exact y85 _|exact z9 _|apply y86|refine z10 rfl (z4 (fun _=>rfl)) ?_|constructor))
    · have ek:k=(s.pr i).es.length:=by omega
      repeat' ((first|(apply y4 ok;rfl)|(apply y43;first|omega|(unfold inI;omega))|(((with_reducible apply z13;omega));intro _)|((apply z5)<;>intro _))<;>conv=>whnf)
      all_goals try (exfalso;omega)
      all_goals refine z21 (i+1,M) ⟨by omega,by simp;omega,by rw [hM,hL,ek];exact (z160 i fun j=>cat (s.pr j).es.length (R j)).symm⟩ (by show s.ps.length - (i+1) < s.ps.length - i;omega) (by refine swR [0,1,2] [] rfl rfl ?_;(repeat' first|exact y85 _|exact z9 _|apply y86|refine z10 rfl (z4 (fun _=>rfl)) ?_|constructor))
  · have ei:i=s.ps.length:=by omega
    have eL:L=FIN:=by rw [hfin,hL,ei]
    subst eL
    repeat' ((first|(apply y4 ok;rfl)|(apply y43;omega)|(((with_reducible apply z13;omega));intro _)|((apply z5)<;>intro _)|(apply z77 [2] [] cF;rfl;(focus ((repeat' first|exact z28|apply z35)<;>(refine z54 rfl ?_;((exact z4 fun _=>rfl)))));rfl;(focus ((repeat' first|exact z12|apply z11)<;>(refine z17 ?_;((exact z4 fun _=>rfl)))))))<;>conv=>whnf)
    all_goals try (exfalso;omega)
    all_goals (refine rsD [] [2] rfl ?_;(repeat' first|exact y85 _|((apply z37 rfl rfl rfl);(focus ((repeat ((exact z23 (fun _=>rfl) _)));done));(focus (((simp;done));done)))|constructor))
theorem equalRE (l:List Tree) (hl:l.length≤100000) (f:FuncId) (hf:∀ x∈l,CallsA Tryz.prog f [z24 Tree.cs' x,z24 Tree.cs' x] [] (.bool true) []):CallsA Tryz.prog 214 [lst 3 Tree.cs' l,lst 3 Tree.cs' l,.fn (.func f) [] []] [] (.bool true) []:=by
 refine z7 z16 Tryz.func214 rfl (by kernel_rfl) 32 Tryz.ntmps214 (by simp) ?_
 repeat' ((first|(apply y4 ok;rfl)|((apply z52)<;>intro _))<;>conv=>whnf)
 all_goals first|(exfalso;contradiction)|skip
 refine z58 (fun i:Nat=>([(1,lst 3 Tree.cs' l),(2,.fn (.func f) [] []),(15,lst 3 Tree.cs' l),(16,.int l.length),(17,.int i)],[])) (fun i=>i≤l.length) (fun i=>l.length - i) 0 (by omega) (by refine swR [] [] rfl rfl ?_;(repeat' first|exact y85 _|constructor)) ?_
 intro i hi
 by_cases hil:i < l.length
 ·have gs:(l.map Tree.cs')[i]?=some (Tree.cs' l[i]):=by rw [y51,y45 hil];rfl
  have c1:=hf l[i] (y44 hil)
  generalize l[i]=s at *
  repeat' ((first|(apply y4 ok;rfl)|(refine z15 (i:=i) rfl gs ?_)|(apply y43;first|omega|(unfold inI;omega))|((apply z5)<;>intro _)|(apply z6 (c1);rfl;rfl))<;>conv=>whnf)
  all_goals try (exfalso;omega)
  all_goals refine z21 (i+1) (by omega) (by omega) (by refine swR [] [] rfl rfl ?_;(repeat' first|exact y85 _|constructor))
 ·repeat' ((first|(apply y4 ok;rfl)|(apply y43;omega)|(((with_reducible apply z13;omega));intro _)|((apply z5)<;>intro _))<;>conv=>whnf)
  all_goals first|(exfalso;omega)|(refine rsD [] [] rfl ?_;(repeat' first|exact y85 _|constructor))
theorem z293 (a:Tree):a.sz≤1000→CallsA Tryz.prog 156 [z24 Tree.cs' a,z24 Tree.cs' a] [] (.bool true) []:=by
 induction a using y26 with|h a ih=>?_
 intro ha
 have hz:=y38 a
 have hk:=equalRE a.kids (by omega) 156 (fun u hu=>ih u hu (by have:=z244 Tree.sz hu;omega))
 rw [y16]
 refine z7 z16 Tryz.func156 rfl rfl 24 Tryz.ntmps156 (by simp) ?_
 repeat' ((first|(apply y4 ok;rfl)|((apply z5)<;>intro _)|(apply z6 (hk);rfl;rfl))<;>conv=>whnf)
 all_goals first|(exfalso;contradiction)|(refine rsD [] [] rfl ?_;(repeat' first|exact y85 _|constructor))
theorem z870 (e:Edge) (he:e.s1):CallsA Tryz.prog 86 [.agg e.cs,.agg e.cs] [] (.bool true) []:=by
 have c1:=z293 e.gd he.gd
 have c2:=z293 e.val he.val
 rw [y16] at c1 c2
 refine z7 z16 Tryz.func86 rfl rfl 45 Tryz.ntmps86 (by simp) ?_
 repeat' ((first|(apply y4 ok;rfl)|((apply z5)<;>intro _)|(apply z6 (c1);rfl;rfl)|(apply z6 (c2);rfl;rfl))<;>conv=>whnf)
 all_goals first|(exfalso;contradiction)|(refine rsD [] [] rfl ?_;(repeat' constructor))
 all_goals exact z183 (by simp)
theorem z1176 (l:List Tree) (hl:l.length≤100000) (f:FuncId):CallsA Tryz.prog 214 [lst 3 Tree.cs' l,.nils,.fn (.func f) [] []] [] (.bool (decide (l.length=0))) []:=by
 by_cases h0:l.length=0
 ·rw [y81 h0]
  refine z7 z16 Tryz.func214 rfl (by kernel_rfl) 32 Tryz.ntmps214 (by simp) ?_
  repeat' ((first|(apply y4 ok;rfl)|((apply z52)<;>intro _))<;>conv=>whnf)
  all_goals try (exfalso;omega)
  refine z58 (fun i:Nat=>([(15,lst 3 Tree.cs' l),(16,.int l.length),(17,.int i)],[])) (fun i=>i≤l.length) (fun i=>l.length - i) 0 (by omega) (by refine swR [] [] rfl rfl ?_;(repeat' first|exact y85 _|constructor)) ?_
  intro i hi
  repeat' ((first|(apply y4 ok;rfl)|(apply y43;omega)|(((with_reducible apply z13;omega));intro _)|((apply z5)<;>intro _))<;>conv=>whnf)
  all_goals first|(exfalso;omega)|(refine rsD [] [] rfl ?_;(repeat' first|exact y85 _|constructor))
 ·rw [y82 h0]
  refine z7 z16 Tryz.func214 rfl (by kernel_rfl) 32 Tryz.ntmps214 (by simp) ?_
  repeat' ((first|(apply y4 ok;rfl)|((apply z52)<;>intro _))<;>conv=>whnf)
  all_goals first|(exfalso;omega)|(refine rsD [] [] rfl ?_;(repeat' first|exact y85 _|constructor))
theorem z867 (t:Tree) (h:t.sz≤1000):CallsA Tryz.prog 156 [z24 Tree.cs' t,.agg [.int 0,.int 0,.nils]] [] (.bool (z420 t)) []:=by
 have hz:=y38 t
 have hk:=z1176 t.kids (by omega) 156
 rw [y16]
 have e:z420 t=(decide (t.kind=0) && (decide (t.val=0) && decide (t.kids.length=0))):=by
  unfold z420
  by_cases h1:t.kind=0<;>by_cases h2:t.val=0<;>by_cases h3:t.kids.length=0<;>simp [h1,h2,h3]
 rw [e]
 generalize decide (t.kids.length=0)=b at *
 refine z7 z16 Tryz.func156 rfl rfl 24 Tryz.ntmps156 (by simp) ?_
 repeat' ((first|(apply y4 ok;rfl)|((apply z5)<;>intro _)|(apply z6 (hk);rfl;rfl))<;>conv=>whnf)
 all_goals (refine rsD [] [] rfl ?_;(repeat' constructor))
 all_goals refine z183 ?_
 all_goals first|(rw [y81 (by omega),y81 (by omega)];rfl)|(rw [y82 (show ¬ t.kind=0 by omega)];rfl)|(rw [y82 (show ¬ t.val=0 by omega)];simp)
theorem edgOk_eq {e:Edge} {n:Int} (h1:1≤n) (h4:n≤4):z209 e n=(btw e.fr 0 (n - 1) && (btw e.to 0 (n - 1) && (e.gd.exprB && (btw e.var (-1) 2 && ((if e.var < 0 then z420 e.val else e.val.exprB) && btw e.sync (-2) 2))))):=by
 unfold z209
 generalize e.gd.exprB=g
 generalize (if e.var < 0 then z420 e.val else e.val.exprB)=v
 rw [Bool.eq_iff_iff]
 simp only [y70,decide_eq_true_eq,z116]
 constructor
 ·rintro ⟨a,b,c,d⟩
  exact ⟨by omega,by omega,b,by omega,d,by omega⟩
 ·rintro ⟨a,b,c,d,f,g⟩
  exact ⟨by omega,c,by omega,f⟩
set_option maxHeartbeats 6400000 in
theorem z456 (e:Edge) (he:e.s1) (n:Int):CallsA Tryz.prog 100 [.agg e.cs,.int n] [] (.bool (z209 e n)) []:=by
 have h1:=he.gd
 have h2:=he.val
 have c0:=z232 n 1 4
 by_cases hn:1≤n∧n≤4
 ·rw [edgOk_eq hn.1 hn.2]
  have q0:btw n 1 4=true:=z116.2 hn
  rw [q0] at c0
  have c1:=z232 e.fr 0 (n - 1)
  have c2:=z232 e.to 0 (n - 1)
  have c3:=z299 e.gd (z109 _ (by unfold maxLen;omega))
  have c4:=z232 e.var (-1) 2
  have c5:=z299 e.val (z109 _ (by unfold maxLen;omega))
  have c6:=z867 e.val h2
  have c7:=z232 e.sync (-2) 2
  rw [y16] at c3 c5 c6
  generalize e.gd.exprB=b3 at *
  generalize e.val.exprB=b5 at *
  generalize z420 e.val=b6 at *
  generalize btw e.fr 0 (n - 1)=b1 at *
  generalize btw e.to 0 (n - 1)=b2 at *
  generalize btw e.var (-1) 2=b4 at *
  generalize btw e.sync (-2) 2=b7 at *
  by_cases hv:e.var < 0
  all_goals
   refine z7 z16 Tryz.func100 rfl rfl 57 Tryz.ntmps100 (by simp) ?_
   repeat' ((first|(apply y4 ok;rfl)|(apply y43;(unfold inI;omega))|((first|apply z5|apply z91)<;>intro _)|(apply z6 (c0);rfl;rfl)|(apply z6 (c1);rfl;rfl)|(apply z6 (c2);rfl;rfl)|(apply z6 (c3);rfl;rfl)|(apply z6 (c4);rfl;rfl)|(apply z6 (c5);rfl;rfl)|(apply z6 (c6);rfl;rfl)|(apply z6 (c7);rfl;rfl))<;>conv=>whnf)
   all_goals first|(exfalso;contradiction)|(exfalso;omega)|skip
   all_goals refine y13 [] [] rfl rfl rfl ?_
   all_goals refine y12 (z183 ?_) .nil
   all_goals simp [*]
 ·have e0:z209 e n=false:=by
   unfold z209
   rw [y82 (by omega),Bool.false_and]
  rw [e0]
  have q0:btw n 1 4=false:=z304.2 hn
  rw [q0] at c0
  refine z7 z16 Tryz.func100 rfl rfl 57 Tryz.ntmps100 (by simp) ?_
  repeat' ((first|(apply y4 ok;rfl)|(apply z6 (c0);rfl;rfl))<;>conv=>whnf)
  all_goals (refine rsD [] [] rfl ?_;(repeat' first|exact y85 _|constructor))
theorem z706 (p:Proc) (e:Edge) (he:e.s1):CallsA Tryz.prog 99 [z24 Edge.cs e,.pt p.cs] [] (.bool (!z209 e p.loc)) []:=by
 have c:=z456 e he p.loc
 unfold z24
 generalize z209 e p.loc=b at *
 refine z7 z16 Tryz.func99 rfl rfl 9 Tryz.ntmps99 (by simp) ?_
 repeat' ((first|(apply y4 ok;rfl)|(apply z6 (c);rfl;rfl))<;>conv=>whnf)
 all_goals (refine rsD [] [] rfl ?_;(repeat' first|exact y85 _|constructor))
theorem z533 (c:Proc) (l:List Edge) (hl:l.length≤maxLen) (p:Edge→Bool) (f:FuncId) (hf:∀ x∈l,CallsA Tryz.prog f [z24 Edge.cs x,.pt c.cs] [] (.bool (p x)) []):CallsA Tryz.prog 161 [lst 10 Edge.cs l,.fn (.func f) [] [.pt c.cs]] [] (.int (idxF p l)) []:=by
 unfold maxLen at hl
 refine z14 z16 Tryz.func161 rfl rfl 19 Tryz.ntmps161 (by simp) ?_
 repeat' (((apply y4 ok;rfl))<;>conv=>whnf)
 refine z134 (fun k:Nat=>([(0,lst 10 Edge.cs l),(1,.fn (.func f) [] [.pt c.cs]),(7,.int l.length),(8,.int k)],[])) (fun k=>k≤l.length∧∀ j (hj:j < l.length),j < k→p l[j]=false) (fun k=>l.length - k) 0 (by simp)
  ⟨[],rfl,by decide,rfl,⟨⟨rfl,rfl⟩,⟨rfl,rfl⟩,⟨rfl,rfl⟩,⟨rfl,rfl⟩,trivial⟩,trivial⟩ ?_
 intro k hk
 repeat' ((first|(apply y4 ok;rfl)|(apply y43;first|omega|(unfold inI;omega))|(((with_reducible apply z13;omega));intro _)|((first|apply z5|apply z91)<;>intro _)|(apply z6 (hf l[k] (y44 _));rfl;rfl))<;>conv=>whnf)
 ·rename_i h h1
  exact z49 rfl rfl (by rw [z155 (by omega) h1 hk.2];rfl)
 ·rename_i h h1
  refine z117 (k+1) [] ⟨by omega,fun j hj hjk=>?_⟩ (by omega) ⟨rfl,by decide,rfl,⟨⟨rfl,rfl⟩,⟨rfl,rfl⟩,⟨rfl,rfl⟩,⟨rfl,rfl⟩,trivial⟩,trivial⟩
  rcases y69 j k with h2|h2
  ·exact hk.2 j hj h2
  ·obtain rfl:j=k:=by omega
   exact h1
 ·exact z49 rfl rfl (by rw [z139 fun j hj=>hk.2 j hj (by omega)];rfl)
theorem z400 (c:Proc) (l:List Edge) (hl:l.length≤maxLen) (p:Edge→Bool) (f:FuncId) (hf:∀ x∈l,CallsA Tryz.prog f [z24 Edge.cs x,.pt c.cs] [] (.bool (p x)) []):CallsA Tryz.prog 98 [lst 10 Edge.cs l,.fn (.func f) [] [.pt c.cs]] [] (.bool (l.any p)) []:=by
 refine z14 z16 Tryz.func98 rfl rfl 9 Tryz.ntmps98 (by simp) ?_
 repeat' ((first|(apply y4 ok;rfl)|(apply z6 (z533 c l hl p f hf);rfl;rfl))<;>conv=>whnf)
 exact z44 rfl (by rw [← z220])
end Go.Proofs.YtnfoijopccdjeaaGreat
namespace Go.Proofs.YtnfoijopccdjeaaGreat
open Go.Gl
attribute [local irreducible] z18 AWP z30 z36 z32
open Classical in
noncomputable def innI (s:Sys) (st0:State):List Stp→List State→List Int→List State×List Int
 |[],S,N=>(S,N)
 |x::r,S,N =>
  if z111 (z73 s st0 x) S 0 < 0 then innI s st0 r (S++[z73 s st0 x]) (if (S.length:Int)∈N then N else N++[(S.length:Int)])
  else innI s st0 r S (if z111 (z73 s st0 x) S 0∈N then N else N++[z111 (z73 s st0 x) S 0])
theorem z760 {s:Sys} {st0:State} : ∀ (L:List Stp) (S:List State) (N:List Int),S.length≤(innI s st0 L S N).1.length∧(innI s st0 L S N).1.length≤S.length+L.length∧N.length≤(innI s st0 L S N).2.length∧(L≠[]→1≤(innI s st0 L S N).2.length):=by
 intro L
 induction L with
 |nil=>intro S N;simp [innI]
 |cons x L ih =>
  intro S N
  have put:∀ (N:List Int) (v:Int),N.length≤(open Classical in if v∈N then N else N++[v]).length∧1≤(open Classical in if v∈N then N else N++[v]).length:=fun N v=>by
   split
   ·rename_i h
    exact ⟨y52 _,List.length_pos_of_mem h⟩
   ·simp
  simp only [innI]
  split
  ·obtain ⟨a,b,c,d⟩:=ih (S++[z73 s st0 x]) (open Classical in if (S.length:Int)∈N then N else N++[(S.length:Int)])
   have:=put N S.length
   simp only [y47,y57,y58] at *
   exact ⟨by omega,by omega,by omega,fun _=>by omega⟩
  ·obtain ⟨a,b,c,d⟩:=ih S (open Classical in if z111 (z73 s st0 x) S 0∈N then N else N++[z111 (z73 s st0 x) S 0])
   have:=put N (z111 (z73 s st0 x) S 0)
   simp only [y57] at *
   exact ⟨by omega,by omega,by omega,fun _=>by omega⟩
theorem z932 {s:Sys} {st0:State} : ∀ (L:List Stp) (S:List State) (N:List Int),S.length≤60→inn s st0 L S N=if (innI s st0 L S N).1.length≤60 then some (innI s st0 L S N) else none:=by
 intro L
 induction L with
 |nil=>intro S N h;simp only [inn,innI];exact (if_pos h).symm
 |cons x L ih =>
  intro S N h
  have hr:=z350 (z73 s st0 x) S 0 (by omega)
  by_cases hz:z111 (z73 s st0 x) S 0 < 0
  ·have hI:innI s st0 (x::L) S N=innI s st0 L (S++[z73 s st0 x]) (open Classical in if (S.length:Int)∈N then N else N++[(S.length:Int)]):=by
    simp only [innI];exact if_pos hz
   simp only [hI,inn]
   rw [if_pos hz]
   by_cases h60:60≤(S.length:Int)
   ·rw [if_pos h60,if_neg]
    have:=(z760 (s:=s) (st0:=st0) L (S++[z73 s st0 x]) (open Classical in if (S.length:Int)∈N then N else N++[(S.length:Int)])).1
    simp only [y47,y57,y58] at this
    omega
   ·rw [if_neg h60,ih _ _ (by simp;omega)]
  ·have hI:innI s st0 (x::L) S N=innI s st0 L S (open Classical in if z111 (z73 s st0 x) S 0∈N then N else N++[z111 (z73 s st0 x) S 0]):=by
    simp only [innI];exact if_neg hz
   simp only [hI,inn]
   rw [if_neg hz,if_neg (by omega),ih _ _ h]
theorem innI_ok {s:Sys} (hs:s.ok) {st0:State} (h0:st0.ok s):∀ (L:List Stp),(∀ x∈L,x.ok s)→∀ (S:List State) (N:List Int),(∀ t∈S,t.ok s)→∀ t∈(innI s st0 L S N).1,t.ok s:=by
 intro L
 induction L with
 |nil=>intro _ S N h;exact h
 |cons x L ih =>
  intro hx S N h
  simp only [innI]
  split
  ·refine ih (fun y hy=>hx y (by simp [hy])) _ _ fun t ht=>?_
   rcases List.mem_append.1 ht with ht|ht
   ·exact h t ht
   ·rw [List.mem_singleton.1 ht];exact z307 hs h0 (hx x (by simp))
  ·exact ih (fun y hy=>hx y (by simp [hy])) _ _ h
theorem z1012 (t:State):∀ (l:List State),idxF (fun x=>decide (x=t)) l=z111 t l 0:=by
 have key:∀ (l:List State) (k:Nat),z111 t l k=if idxF (fun x=>decide (x=t)) l < 0 then -1 else idxF (fun x=>decide (x=t)) l+k:=by
  intro l
  induction l with
  |nil=>intro k;rfl
  |cons x l ih =>
   intro k
   simp only [z111]
   by_cases hx:x=t
   ·have e:idxF (fun x=>decide (x=t)) (x::l)=0:=by unfold idxF;simp [List.findIdx?_cons,hx]
    rw [if_pos hx,e,if_neg (by omega)];omega
   ·have ih:=ih (k+1)
    rw [if_neg hx,show ((k:Int)+1)=((k+1:Nat):Int) by omega,ih]
    unfold idxF
    rw [List.findIdx?_cons]
    simp only [hx,decide_false,Bool.false_eq_true,if_false]
    cases l.findIdx? (fun x=>decide (x=t)) with
    |none=>simp
    |some i=>simp;omega
 intro l
 have:=key l 0
 rw [show ((0:Nat):Int)=0 from rfl] at this
 rw [this]
 have h1 : -1≤idxF (fun x=>decide (x=t)) l:=by
  unfold idxF
  cases l.findIdx? (fun x=>decide (x=t)) with
  |none=>simp
  |some i=>simp<;>omega
 split<;>omega
end Go.Proofs.YtnfoijopccdjeaaGreat
