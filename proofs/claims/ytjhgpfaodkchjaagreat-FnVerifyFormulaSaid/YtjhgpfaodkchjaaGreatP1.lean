/- A part of the proofs over this program: T220, T31, T32, T33I, T33, T34, T24, T25, T26, T27, T37C, T37, T35A, T70, T71, T72, T73. -/
import Derived.Test.YtjhgpfaodkchjaaGreatP0
set_option linter.all false
namespace Go.Proofs.YtjhgpfaodkchjaaGreat
open Go.Gl Proofs.Tryz
attribute [local irreducible] z18 AWP z31 z35 z34 RetS z45
theorem z467 {d : Int} (l : List Tree) (hl : l.length ≤ maxLen) (p : Tree → Int → Bool) (nx : Tree → Int → Int) (okS : Int → Prop) (hok : ∀ x s, okS s → p x s = false → okS (nx x s)) (f : FuncId) (s : Int) (h0 : okS s)
    (hf:∀ x∈l,∀ s,okS s→QQ f [z27 Tree.cs' x,.pt [.int d],.ptr 1 none 0] [.cells 1 [[.int s]],.cells 1 [[.ptr 0 none 0]]] (.bool (p x s)) [.cells 1 [[.int (nx x s)]],.cells 1 [[.ptr 0 none 0]]]) :
    QQ 271 [lst 3 Tree.cs' l,.fn (.func f) [] [.pt [.int d],.ptr 1 none 0]] [.cells 1 [[.int s]],.cells 1 [[.ptr 0 none 0]]] (.int (idxS p nx l s 0).1) [.cells 1 [[.int (idxS p nx l s 0).2]],.cells 1 [[.ptr 0 none 0]]]:=by
  unfold maxLen at hl
  refine z12 z15 func271 rfl rfl 19 ntmps271 (by simp) ?_
  repeat' ((apply y4 ok;rfl;conv=>whnf))
  refine z97 (fun x:Nat×Int=>([(0,lst 3 Tree.cs' l),(1,.fn (.func f) [] [.pt [.int d],.ptr 1 none 0]),(7,.int l.length),(8,.int x.1)],[.cells 1 [[.int x.2]],.cells 1 [[.ptr 0 none 0]]])) (fun x=>x.1≤l.length∧okS x.2∧idxS p nx l s 0=idxS p nx (l.drop x.1) x.2 x.1) (fun x=>l.length - x.1) (0,s) ⟨by omega,h0,rfl⟩
    ⟨[0,1],rfl,by decide,rfl,⟨⟨rfl,rfl⟩,⟨rfl,rfl⟩,⟨rfl,rfl⟩,⟨rfl,rfl⟩,trivial⟩,⟨z21 rfl rfl,z21 rfl rfl,trivial⟩⟩ ?_
  rintro ⟨k,t⟩ ⟨hk1,hk2,hk3⟩
  dsimp only at hk1 hk2 hk3
  repeat' (first|apply y4 ok;rfl;conv=>whnf|apply y43;(first|omega|unfold inI;omega);conv=>whnf|with_reducible apply z8;omega;intro _;conv=>whnf|apply z6<;>intro _<;>conv=>whnf|apply z82<;>intro _<;>conv=>whnf|apply z103 [0,1] [] [] (hf l[k] (y44 _) t hk2);rfl;(focus ((repeat' (first|exact z38|apply z48))<;>(rfl)));rfl;rfl;rfl;rfl;rfl;(focus ((repeat' (first|exact z17|apply z16))<;>(exact z47 rfl rfl)));(exact .inl rfl);conv=>whnf)
  · rename_i h hkl h1
    rw [y80 hkl,idxS,if_pos h1] at hk3
    rw [hk3]
    exact z90 [0,1] (by decide) rfl rfl rfl ⟨z21 rfl rfl,z21 rfl rfl,trivial⟩
  · rename_i h hkl h1
    rw [y80 hkl,idxS,if_neg (by rw [h1];simp)] at hk3
    exact z85 (k+1,nx l[k] t) [0,1] ⟨by dsimp only;omega,hok _ _ hk2 h1,hk3⟩ (by dsimp only;omega) ⟨rfl,by decide,rfl,⟨⟨rfl,rfl⟩,⟨rfl,rfl⟩,⟨rfl,rfl⟩,⟨rfl,rfl⟩,trivial⟩,⟨z21 rfl rfl,z21 rfl rfl,trivial⟩⟩
  · rw [y84 (by omega),idxS] at hk3
    rw [hk3]
    exact z90 [0,1] (by decide) rfl rfl rfl ⟨z21 rfl rfl,z21 rfl rfl,trivial⟩
theorem z808 {d : Int} (l : List Tree) (hl : l.length ≤ maxLen) (p : Tree → Int → Bool) (nx : Tree → Int → Int) (okS : Int → Prop) (hok : ∀ x s, okS s → p x s = false → okS (nx x s)) (f : FuncId) (s : Int) (h0 : okS s)
    (hf:∀ x∈l,∀ s,okS s→QQ f [z27 Tree.cs' x,.pt [.int d],.ptr 1 none 0] [.cells 1 [[.int s]],.cells 1 [[.ptr 0 none 0]]] (.bool (p x s)) [.cells 1 [[.int (nx x s)]],.cells 1 [[.ptr 0 none 0]]]) :
    QQ 243 [lst 3 Tree.cs' l,.fn (.func f) [] [.pt [.int d],.ptr 1 none 0]] [.cells 1 [[.int s]],.cells 1 [[.ptr 0 none 0]]] (.bool (decide (0≤(idxS p nx l s 0).1))) [.cells 1 [[.int (idxS p nx l s 0).2]],.cells 1 [[.ptr 0 none 0]]]:=by
  refine z12 z15 func243 rfl rfl 9 ntmps243 (by simp) ?_
  repeat' (first|apply y4 ok;rfl;conv=>whnf|apply z103 [0,1] [] [] (z467 (d:=d) l hl p nx okS hok f s h0 hf);rfl;(focus ((repeat' (first|exact z38|apply z48))<;>(rfl)));rfl;rfl;rfl;rfl;rfl;(focus ((repeat' (first|exact z17|apply z16))<;>(exact z47 rfl rfl)));(exact .inl rfl);conv=>whnf)
  exact z90 [0,1] (by decide) rfl rfl rfl ⟨z21 rfl rfl,z21 rfl rfl,trivial⟩
theorem z873 (k:Int):QQ 242 [.int k] [] (.int (if k=1∨k=2 then 0 else if k=4∨k=5∨k=7∨k=8 then 2 else 1)) []:=by
 refine z12 z15 func242 rfl rfl 12 ntmps242 (by simp) ?_
 repeat' (first|apply y4 ok;rfl;conv=>whnf|apply z6<;>intro _<;>conv=>whnf)
 all_goals (refine z55 rfl rfl ?_;first|rw [if_pos (by omega)];rfl|rw [if_neg (by omega),if_pos (by omega)];rfl|rw [if_neg (by omega),if_neg (by omega)];rfl)
theorem walkF_ok (t:Tree):t.mx→∀ d n:Int,0≤d→d≤100→0≤n→n≤12→QQ 174 [z27 Tree.cs' t,.int d,.ptr 0 none 0] [.cells 1 [[.int n]]] (.bool (t.walkF d n).2) [.cells 1 [[.int (t.walkF d n).1]]]:=by
  induction t using y27 with|h t ih=>?_
  intro hm d n hd0 hd1 h0 h1
  rw [y28] at hm
  have hs:=Tree.walkF_spec.1
  have hk:d≤6→n+1≤12→QQ 243 [lst 3 Tree.cs' t.kids,.fn (.func 244) [] [.pt [.int d],.ptr 1 none 0]] [.cells 1 [[.int (n+1)]],.cells 1 [[.ptr 0 none 0]]] (.bool (!(Tree.walkFs t.kids (d+1) (n+1)).2)) [.cells 1 [[.int (Tree.walkFs t.kids (d+1) (n+1)).1]],.cells 1 [[.ptr 0 none 0]]]:=by
    intro hd hn
    have h:=z808 (d:=d) t.kids hm.1 (fun x s=>!(x.walkF (d+1) s).2) (fun x s=>(x.walkF (d+1) s).1) (fun s=>0≤s∧s≤12) (fun x s h1 h2=>by
      obtain ⟨a1,a2,a3,a4⟩:=hs x (d+1) s h1.1 h1.2
      have h3:(x.walkF (d+1) s).2=true:=by simpa using h2
      have:=(a1.1 h3).2
      rw [← a2 h3] at this
      exact ⟨by omega,this⟩) 244 (n+1) ⟨by omega,by omega⟩ (fun x hx s h=>by
        have hc:=ih x hx (hm.2 x hx) (d+1) s (by omega) (by omega) h.1 h.2
        refine z12 z15 func244 rfl rfl 11 ntmps244 (by simp) ?_
        repeat' (first|apply y4 ok;rfl;conv=>whnf|apply y43;((unfold inI;omega));conv=>whnf|apply z103 [0] [] [] hc;rfl;(focus ((repeat' (first|exact z38|apply z48))<;>(rfl)));rfl;rfl;rfl;rfl;rfl;(focus ((repeat' (first|exact z17|apply z16))<;>(exact z47 rfl rfl)));(exact .inl rfl);conv=>whnf)
        exact z90 [0,1] (by decide) rfl rfl rfl ⟨z21 rfl rfl,z21 rfl rfl,trivial⟩)
    rw [y42 (d+1) t.kids (n+1) 0,Bool.not_not]
    exact h
  have hk2:=fun h1 h2=>by
    have:=hk h1 h2
    unfold lst at this
    rw [← y18] at this
    exact this
  refine z12 z15 func174 rfl rfl 51 ntmps174 (by simp) ?_
  repeat' (first|apply y4 ok;rfl;conv=>whnf|apply z23;kernel_rfl;conv=>whnf|apply y43;((unfold inI;omega));conv=>whnf|apply z6<;>intro _<;>conv=>whnf|apply z42<;>intro _<;>conv=>whnf|apply z78<;>intro _<;>conv=>whnf|apply z4 (z266 _ 1 10);rfl;rfl;conv=>whnf|apply z4 (z266 _ 0 2);rfl;rfl;conv=>whnf|apply z4 (z266 _ 0 0);rfl;rfl;conv=>whnf|apply z4 (z873 t.kind);rfl;rfl;conv=>whnf|apply z103 [0,3] [2] [] (hk2 (by omega) (by omega));rfl;(focus ((repeat' (first|exact z38|apply z48))<;>(rfl)));rfl;rfl;rfl;rfl;rfl;(focus ((repeat' (first|exact z17|apply z16))<;>(exact z47 rfl rfl)));((refine .inr ⟨rfl,?_⟩;repeat' (first|exact True.intro|apply y43|exact rfl)));conv=>whnf)
  all_goals first
    | (have e : t.walkF d n = (n + 1, false) := by
        rw [y41,if_neg]
        clear hk hk2 hs ih
        rintro ⟨c1,c2,c3,c4,c5⟩
        try simp only [z250,z94] at *
        unfold z394 at c4
        unfold z184 at c5
        grind
       rw [e]
       exact z90 [0] (by decide) rfl rfl rfl ⟨z21 rfl rfl,trivial⟩)
    | (have e : t.walkF d n = Tree.walkFs t.kids (d + 1) (n + 1) := by
        rw [y41,if_pos]
        clear hk hk2 hs ih
        try simp only [z250,z94] at *
        unfold z394 z184
        grind
       rw [e]
       refine z90 [0] (by decide) rfl rfl ?_ ⟨z21 rfl rfl,trivial⟩
       show AC.raw (.bool (!!_))=_
       rw [Bool.not_not];rfl)
theorem z1060 (t:Tree) (hm:t.mx):QQ 94 [z27 Tree.cs' t] [] (.int (if t.fmB=true then (t.walkF 1 0).1 else 0)) []:=by
 have hk:=walkF_ok t hm 1 0 (by omega) (by omega) (by omega) (by omega)
 unfold Tree.fmB
 refine z12 z15 func94 rfl rfl 8 ntmps94 (by simp) ?_
 repeat' (first|apply y4 ok;rfl;conv=>whnf|apply z78<;>intro _<;>conv=>whnf|apply z103 [1] [] [] hk;rfl;(focus ((repeat' (first|exact z38|apply z48))<;>(rfl)));rfl;rfl;rfl;rfl;rfl;(focus ((repeat' (first|exact z17|apply z16))<;>(exact z47 rfl rfl)));(exact .inl rfl);conv=>whnf)
 all_goals exact z520 rfl (by simp [*])
theorem z122 (t:Tree) (hm:t.mx):QQ 37 [z27 Tree.cs' t] [] (.bool t.fmB) []:=by
 have hk:=z1060 t hm
 have e:decide (0 < if t.fmB=true then (t.walkF 1 0).1 else 0)=t.fmB:=by
  by_cases h:t.fmB=true
  ·have h2:=(Tree.walkF_spec.1 t 1 0 (by omega) (by omega)).2.1 h
   have h3:=Tree.count_pos.1 t (7 - 1)
   rw [h,if_pos rfl];exact y82 (by omega)
  ·rw [if_neg h,(y72 _).mp h];rfl
 refine z12 z15 func37 rfl rfl 6 ntmps37 (by simp) ?_
 repeat' (first|apply y4 ok;rfl;conv=>whnf|apply z4 hk;rfl;rfl;conv=>whnf)
 all_goals exact z19 rfl e.symm
def State.co (s:State):List AC:=[.own 1 (s.a.map enI),.own 1 (s.b.map enI)]
theorem keepI {f:FuncId} {args:List AC} {n:Nat} {l:List Int} (h:QQ f args [] (.sref 0 0 n) [.cells 1 (l.map enI)]) (hl:l.length=n):QQ f args [] (ints l) []:=by
 subst hl
 exact h.keep (z172 _ _) (by simp)
theorem z104 {objs:Nat→AObj} {π Bn:List Nat} {o:Nat} {l:List Int} (ho:objs o=.cells 1 (l.map enI)) (h1:idx π o=none) (h2:inB Bn o=true):bor objs π Bn (.sref o 0 l.length)=ints l :=
 z161 ho h1 h2 (by simp) (z172 _ _)
theorem z814 {objs:Nat→AObj} {π Bn:List Nat} {o n:Nat} {l:List Int} (ho:objs o=.cells 1 (l.map enI)) (h1:idx π o=none) (h2:inB Bn o=true) (hl:l.length=n):bor objs π Bn (.sref o 0 n)=ints l:=by
 subst hl;exact z104 ho h1 h2
end Go.Proofs.YtjhgpfaodkchjaaGreat
namespace Go.Proofs.YtjhgpfaodkchjaaGreat
open Go.Gl Proofs.Tryz
section
attribute [local irreducible] z18 RetS z45
theorem z541 (a b:List Int) (ha:a.length≤maxLen) (hb:b.length≤maxLen):QQ 62 [lst 1 enI a,lst 1 enI b] [] (.bool (decide (a=b))) []:=by
 unfold maxLen at ha hb
 refine z12 z15 func62 rfl rfl 26 ntmps62 (by simp) ?_
 repeat (refine y4 ok _ _ _ _ _ rfl ?_)
 refine z42 (fun h=>?_) (fun h=>?_)
 ·repeat (refine y4 ok _ _ _ _ _ rfl ?_)
  have hne:a≠b:=by rintro rfl;exact h rfl
  rw [y83 hne]
  exact ⟨[],by decide,rfl,rfl,y3 rfl,trivial⟩
 ·have hl:a.length=b.length:=by omega
  repeat (refine y4 ok _ _ _ _ _ rfl ?_)
  refine z993 (fun k:Nat=>([(0,lst 1 enI a),(1,lst 1 enI b),(5,.int k)],[])) (fun k=>k≤a.length∧a.take k=b.take k) (fun k=>a.length - k) 0 (by simp)
   ⟨[],rfl,by decide,rfl,⟨⟨rfl,rfl⟩,⟨rfl,rfl⟩,⟨rfl,rfl⟩,trivial⟩,trivial⟩ ?_
  intro k hk
  repeat (refine y4 ok _ _ _ _ _ rfl ?_)
  refine z6 (fun h=>?_) (fun h=>?_)
  ·have hka:k < a.length:=by omega
   repeat (first|refine y4 ok _ _ _ _ _ rfl ?_|refine y43 (by omega) ?_)
   refine ⟨_,z536 _ _ _ (by omega),?_⟩
   repeat ((refine y43 (by omega) ?_))
   refine ⟨_,z536 _ _ _ (by omega),?_⟩
   repeat (first|refine y4 ok _ _ _ _ _ rfl ?_|refine z23 (by kernel_rfl) ?_)
   refine z42 (fun h=>?_) (fun h=>?_)
   ·repeat (refine y4 ok _ _ _ _ _ rfl ?_)
    have hne:a≠b:=by rintro rfl;exact h rfl
    rw [y83 hne]
    exact ⟨[],by decide,rfl,rfl,y3 rfl,trivial⟩
   ·repeat (first|refine y4 ok _ _ _ _ _ rfl ?_|refine y43 (by first|omega|unfold inI;omega) ?_)
    refine ⟨k+1,[],⟨by omega,?_⟩,by omega,rfl,by decide,rfl,⟨⟨rfl,rfl⟩,⟨rfl,rfl⟩,⟨rfl,rfl⟩,trivial⟩,trivial⟩
    have h' : a[k]=b[k]:=h
    rw [y50 hka,y50 (by omega),hk.2,h']
  ·repeat (refine y4 ok _ _ _ _ _ rfl ?_)
   have he:a=b:=by
    have:=hk.2
    rwa [y57 (by omega),y57 (by omega)] at this
   rw [y82 he]
   exact ⟨[],by decide,rfl,rfl,y3 rfl,trivial⟩
end
attribute [local irreducible] z18 AWP z31 z35 z34
def sameL (l:List Int) (i k:Nat):Bool:=decide (l.getD i 0=l.getD k 0)
end Go.Proofs.YtjhgpfaodkchjaaGreat
namespace Go.Proofs.YtjhgpfaodkchjaaGreat
open Go.Gl Proofs.Tryz
attribute [local irreducible] z18 AWP z31 z35 z34 RetS z45
def onB (t:Trans) (n:Int):Bool:=decide (((n.toNat &&& t.care.toNat:Nat):Int)=t.val)
def z292 (n:Nat) (i:Nat) (ℓ to:Int) (e:Trans):List (Nat×Int):=if onB e ℓ then [((i:Nat) * n+e.src.toNat,to * n+e.dst)] else []
def z525 (n:Nat) (ed:List Trans) (i:Nat) (ℓ to:Int):List (Nat×Int):=ed.flatMap (z292 n i ℓ to)
def z429 (n:Nat) (ed:List Trans) (nx:List (List Int)) (ls:List Int) (i:Nat):List (Nat×Int):=(nx.getD i []).flatMap (z525 n ed i (ls.getD i 0))
def z524 (g:Graph) (ls:List Int) (a:Aut):List (Nat×Int):=(List.range g.st.length).flatMap (z429 a.acc.length a.ed g.nx ls)
def z33 (g:Graph) (ls:List Int) (a:Aut):List (List Int):=build (a.acc.length * g.st.length) (z524 g ls a)
theorem z523 (g:Graph) (hg:GB g) (ls:List Int) (a:Aut) (ha:AutP a):(z524 g ls a).length≤7372800:=by
 obtain ⟨⟨g1,g2⟩,g3,g4⟩:=hg
 have h1:∀ i ℓ to,(z525 a.acc.length a.ed i ℓ to).length≤2048:=fun i ℓ to=>by
  have:=z272 (f:=z292 a.acc.length i ℓ to) (c:=1) a.ed (fun e _=>by unfold z292;split<;>simp)
  have:=ha.2.1
  unfold z525;omega
 have h2:∀ i∈List.range g.st.length,(z429 a.acc.length a.ed g.nx ls i).length≤122880:=fun i hi=>by
  rw [y61] at hi
  unfold z429
  rw [z14 (l:=g.nx) (by omega)]
  have h3:=z272 (f:=z525 a.acc.length a.ed i (ls.getD i 0)) (c:=2048) g.nx[i] (fun e _=>h1 _ _ _)
  have h4:=(g4 i (by omega) (by omega) hi).2.1
  have:g.nx[i].length * 2048≤60 * 2048:=Nat.mul_le_mul_right _ (by omega)
  omega
 have h5:=z272 (f:=z429 a.acc.length a.ed g.nx ls) (c:=122880) (List.range g.st.length) h2
 rw [List.length_range] at h5
 have:g.st.length * 122880≤60 * 122880:=Nat.mul_le_mul_right _ (by omega)
 unfold z524;omega
theorem z680 (g:Graph) (hg:GB g) (ls:List Int) (hls:ls.length=g.st.length) (hlr:∀ x∈ls,0≤x∧x≤7) (a:Aut) (ha:AutP a):QQ 83 [.agg g.cs,ints ls,.agg a.cs] [] (.sref 0 0 (a.acc.length * g.st.length)) [.cells 1 ((z33 g ls a).map z93)]:=by
 have hpl:=z523 g hg ls a ha
 obtain ⟨⟨g1,g2⟩,g3,g4⟩:=hg
 obtain ⟨⟨a1,a2⟩,a3,_,a5⟩:=ha
 have hN:=z120 (a:=(a.acc.length:Int)) (b:=(g.st.length:Int)) (A:=64) (B:=60) (by omega) (by omega) (by omega) (by omega)
 have hNn:((a.acc.length * g.st.length:Nat):Int)=(a.acc.length:Int) * g.st.length:=by simp
 refine z12 z15 func83 rfl rfl 93 ntmps83 (by simp) ?_
 repeat' (first|apply y4 ok;rfl;conv=>whnf|apply y43;(first|unfold inI;omega|dsimp only;omega);conv=>whnf)
 refine y85 (Gl.Reach.weaken (es':=List.replicate (a.acc.length * g.st.length) [.own 1 []]) 2 rfl (by rw [y46,y46];rfl) z360 rfl) ?_
 conv=>whnf
 have hrow:∀ i (hi:i < g.nx.length),∀ x∈g.nx[i],0≤x∧x≤g.st.length - 1:=fun i hi x hx=>by
  obtain ⟨j,hj,rfl⟩:=List.mem_iff_getElem.1 hx
  exact ((g4 i hi hi (by omega)).2.2.2 j hj hj).1
 have hlen:∀ i (hi:i < g.nx.length),g.nx[i].length≤60:=fun i hi=>by
  have:=(g4 i hi hi (by omega)).2.1;omega
 refine z97 (fun x:Nat×List (Nat×Int)=>([(1,ints ls),(3,.ptr 0 none 0),(5,.ptr 1 none 0),(7,.int a.acc.length),(8,.sref 2 0 (a.acc.length * g.st.length)),(9,.int x.1)],[.cells 2 [[lst 2 State.cs g.st,lst 1 encL g.nx]],.cells 3 [[lst 1 enI a.ini,lst 1 enB a.acc,lst 4 Trans.cs a.ed]],.cells 1 ((build (a.acc.length * g.st.length) x.2).map z93)])) (fun x=>x.1≤g.st.length∧x.2++((List.range g.st.length).drop x.1).flatMap (z429 a.acc.length a.ed g.nx ls)=z524 g ls a) (fun x=>g.st.length - x.1) (0,[]) ⟨by omega,rfl⟩
  ⟨[0,1,2],rfl,by decide,rfl,⟨⟨rfl,rfl⟩,⟨rfl,rfl⟩,⟨rfl,rfl⟩,⟨rfl,rfl⟩,⟨rfl,rfl⟩,⟨rfl,rfl⟩,trivial⟩,⟨z21 rfl rfl,z21 rfl rfl,z51 (z68 (z955 _).symm) (z5 fun _=>rfl),trivial⟩⟩ ?_
 rintro ⟨i,ps⟩ ⟨hi1,hi2⟩
 dsimp only at hi1 hi2 ⊢
 repeat' (first|apply y4 ok;rfl;conv=>whnf|apply z6<;>intro _<;>conv=>whnf)
 ·have hig:i < g.st.length:=by omega
  rw [z183 _ _ _ (by simpa using hig),List.getElem_range] at hi2
  have hin:i < g.nx.length:=by omega
  have hrow:=hrow i hin
  have hlen:=hlen i hin
  have hli:=hlr ls[i] (y44 _)
  have hpI:z429 a.acc.length a.ed g.nx ls i=g.nx[i].flatMap (z525 a.acc.length a.ed i ls[i]):=by
   unfold z429
   rw [z14 hin,z14 (by omega)]
  rw [hpI] at hi2
  refine z97 (fun x:Nat×List (Nat×Int)=>([(1,ints ls),(3,.ptr 0 none 0),(5,.ptr 1 none 0),(7,.int a.acc.length),(8,.sref 2 0 (a.acc.length * g.st.length)),(9,.int i),(10,.int x.1)],[.cells 2 [[lst 2 State.cs g.st,lst 1 encL g.nx]],.cells 3 [[lst 1 enI a.ini,lst 1 enB a.acc,lst 4 Trans.cs a.ed]],.cells 1 ((build (a.acc.length * g.st.length) x.2).map z93)])) (fun x=>x.1≤g.nx[i].length∧x.2++((g.nx[i].drop x.1).flatMap (z525 a.acc.length a.ed i ls[i])++((List.range g.st.length).drop (i+1)).flatMap (z429 a.acc.length a.ed g.nx ls))=z524 g ls a) (fun x=>g.nx[i].length - x.1) (0,ps) ⟨by omega,hi2⟩
   ⟨[0,1,2],rfl,by decide,rfl,⟨⟨rfl,rfl⟩,⟨rfl,rfl⟩,⟨rfl,rfl⟩,⟨rfl,rfl⟩,⟨rfl,rfl⟩,⟨rfl,rfl⟩,⟨rfl,rfl⟩,trivial⟩,⟨z21 rfl rfl,z21 rfl rfl,z51 rfl (z5 fun _=>rfl),trivial⟩⟩ ?_
  rintro ⟨j,ps⟩ ⟨hj1,hj2⟩
  dsimp only at hj1 hj2 ⊢
  repeat' (first|apply y4 ok;rfl;conv=>whnf|apply y43;(first|omega|unfold inI;omega);conv=>whnf|with_reducible apply z8;omega;intro _;conv=>whnf|apply z6<;>intro _<;>conv=>whnf)
  ·have hjn:j < g.nx[i].length:=by omega
   rw [z183 _ _ _ hjn,List.append_assoc] at hj2
   have hto:=hrow g.nx[i][j] (y44 _)
   refine z97 (fun x:Nat×List (Nat×Int)=>([(1,ints ls),(3,.ptr 0 none 0),(5,.ptr 1 none 0),(7,.int a.acc.length),(8,.sref 2 0 (a.acc.length * g.st.length)),(9,.int i),(10,.int j),(11,.int x.1)],[.cells 2 [[lst 2 State.cs g.st,lst 1 encL g.nx]],.cells 3 [[lst 1 enI a.ini,lst 1 enB a.acc,lst 4 Trans.cs a.ed]],.cells 1 ((build (a.acc.length * g.st.length) x.2).map z93)])) (fun x=>x.1≤a.ed.length∧x.2++((a.ed.drop x.1).flatMap (z292 a.acc.length i ls[i] g.nx[i][j])++((g.nx[i].drop (j+1)).flatMap (z525 a.acc.length a.ed i ls[i])++((List.range g.st.length).drop (i+1)).flatMap (z429 a.acc.length a.ed g.nx ls)))=z524 g ls a) (fun x=>a.ed.length - x.1) (0,ps) ⟨by omega,hj2⟩
    ⟨[0,1,2],rfl,by decide,rfl,⟨⟨rfl,rfl⟩,⟨rfl,rfl⟩,⟨rfl,rfl⟩,⟨rfl,rfl⟩,⟨rfl,rfl⟩,⟨rfl,rfl⟩,⟨rfl,rfl⟩,⟨rfl,rfl⟩,trivial⟩,⟨z21 rfl rfl,z21 rfl rfl,z51 rfl (z5 fun _=>rfl),trivial⟩⟩ ?_
   rintro ⟨k,ps⟩ ⟨hk1,hk2⟩
   dsimp only at hk1 hk2 ⊢
   have hm1:=z120 (a:=(i:Int)) (b:=(a.acc.length:Int)) (A:=60) (B:=64) (by omega) (by omega) (by omega) (by omega)
   have hm2:=z120 (a:=g.nx[i][j]) (b:=(a.acc.length:Int)) (A:=60) (B:=64) (by omega) (by omega) (by omega) (by omega)
   by_cases hke:k < a.ed.length
   ·have he:=a5 a.ed[k] (y44 hke)
    unfold z336 at he
    have hlt:i * a.acc.length+a.ed[k].src.toNat < (build (a.acc.length * g.st.length) ps).length:=by
     rw [z84]
     have h1:(i+1) * a.acc.length≤g.st.length * a.acc.length:=Nat.mul_le_mul_right _ hig
     rw [Nat.add_mul,Nat.one_mul,Nat.mul_comm g.st.length] at h1
     omega
    repeat' (first|(fail_if_success apply z96 14);(fail_if_success apply z77 14);apply y4 ok;rfl;conv=>whnf|apply z23;kernel_rfl;conv=>whnf|apply y43;(first|omega|unfold inI;omega);conv=>whnf|with_reducible apply z8;omega;intro _;conv=>whnf|apply z6<;>intro _<;>conv=>whnf|apply z4 (l7On_ok a.ed[k] ls[i] hli.1 hli.2 (a5 _ (y44 _)).2.2.1);rfl;rfl;conv=>whnf)
    ·have hon:((ls[i].toNat &&& a.ed[k].care.toNat:Nat):Int)=a.ed[k].val:=by assumption
     have hrl:(build (a.acc.length * g.st.length) ps)[i * a.acc.length+a.ed[k].src.toNat].length≤1000000000:=by
      have h1:=z311 (N:=a.acc.length * g.st.length) (ps:=ps) hlt
      have h2:=congrArg List.length hk2
      rw [y47] at h2
      omega
     have hin:((i:Int) * a.acc.length+a.ed[k].src).toNat=i * a.acc.length+a.ed[k].src.toNat:=by
      have e:((i * a.acc.length:Nat):Int)=(i:Int) * a.acc.length:=by simp
      omega
     have hlt2:((i:Int) * a.acc.length+a.ed[k].src).toNat < a.acc.length * g.st.length:=by
      rw [hin,← z84 (a.acc.length * g.st.length) ps];exact hlt
     have hmap:i * a.acc.length+a.ed[k].src.toNat < ((build (a.acc.length * g.st.length) ps).map z93).length:=by rw [y49];exact hlt
     refine y85 (Gl.Reach.expose (e:=z93 (build (a.acc.length * g.st.length) ps)[i * a.acc.length+a.ed[k].src.toNat]) 2 (i * a.acc.length+a.ed[k].src.toNat) 0 rfl (by rw [y51,y45 hlt];rfl) rfl (z155 (fun _=>rfl) _) rfl) ?_
     conv=>whnf
     (apply y4 ok;rfl;conv=>whnf)
     repeat' (first|apply z23;kernel_rfl;conv=>whnf|apply z698;exact hin;exact hmap;conv=>whnf|apply y43;(first|omega|unfold inI;omega|(try dsimp only);simp only [y49,y48,y47,y46,y58,y59];omega|exact ⟨rfl,z22 rfl z28⟩);conv=>whnf|with_reducible apply z8;omega;intro _;conv=>whnf)
     refine y85 (Gl.Reach.absorb 2 5 (i * a.acc.length+a.ed[k].src.toNat) 0 rfl (z1207 hin (by rw [List.length_set];exact hmap)) rfl rfl (by simp) rfl (z67 (fun e he=>(z5 (fun _=>rfl)) e (List.mem_of_mem_take he)) (z210 rfl z25)) rfl) ?_
     conv=>whnf
     repeat' (first|apply y4 ok;rfl;conv=>whnf|apply y43;((unfold inI;omega));conv=>whnf)
     rw [z183 _ _ _ hke] at hk2
     have hpe:z292 a.acc.length i ls[i] g.nx[i][j] a.ed[k]=[(i * a.acc.length+a.ed[k].src.toNat,g.nx[i][j] * a.acc.length+a.ed[k].dst)]:=by
      unfold z292 onB;rw [if_pos (y82 hon)]
     rw [hpe,List.append_assoc,← List.append_assoc] at hk2
     exact z85 (k+1,ps++[(i * a.acc.length+a.ed[k].src.toNat,g.nx[i][j] * a.acc.length+a.ed[k].dst)]) [0,1,2] ⟨by dsimp only;omega,hk2⟩ (by dsimp only;omega)
      ⟨rfl,by decide,rfl,⟨⟨rfl,rfl⟩,⟨rfl,rfl⟩,⟨rfl,rfl⟩,⟨rfl,rfl⟩,⟨rfl,rfl⟩,⟨rfl,rfl⟩,⟨rfl,rfl⟩,⟨rfl,rfl⟩,trivial⟩,⟨z21 rfl rfl,z21 rfl rfl,z51 (z68 (rows_push' hlt hin (by simp))) (z5 fun _=>rfl),trivial⟩⟩
    ·rename_i hon
     rw [z183 _ _ _ hke] at hk2
     have hpe:z292 a.acc.length i ls[i] g.nx[i][j] a.ed[k]=[]:=by
      unfold z292 onB;rw [if_neg (by simpa using hon)]
     rw [hpe,List.nil_append] at hk2
     exact z85 (k+1,ps) [0,1,2] ⟨by dsimp only;omega,hk2⟩ (by dsimp only;omega)
      ⟨rfl,by decide,rfl,⟨⟨rfl,rfl⟩,⟨rfl,rfl⟩,⟨rfl,rfl⟩,⟨rfl,rfl⟩,⟨rfl,rfl⟩,⟨rfl,rfl⟩,⟨rfl,rfl⟩,⟨rfl,rfl⟩,trivial⟩,⟨z21 rfl rfl,z21 rfl rfl,z51 rfl (z5 fun _=>rfl),trivial⟩⟩
    ·omega
   ·repeat' (first|(fail_if_success apply z96 14);(fail_if_success apply z77 14);apply y4 ok;rfl;conv=>whnf|apply y43;(first|omega|unfold inI;omega);conv=>whnf|with_reducible apply z8;omega;intro _;conv=>whnf|apply z6<;>intro _<;>conv=>whnf)
    ·omega
    ·rw [z119 _ _ _ (by omega),List.nil_append] at hk2
     exact z85 (j+1,ps) [0,1,2] ⟨by dsimp only;omega,hk2⟩ (by dsimp only;omega)
      ⟨rfl,by decide,rfl,⟨⟨rfl,rfl⟩,⟨rfl,rfl⟩,⟨rfl,rfl⟩,⟨rfl,rfl⟩,⟨rfl,rfl⟩,⟨rfl,rfl⟩,⟨rfl,rfl⟩,trivial⟩,⟨z21 rfl rfl,z21 rfl rfl,z51 rfl (z5 fun _=>rfl),trivial⟩⟩
  ·rw [z119 _ _ _ (by omega),List.nil_append] at hj2
   exact z85 (i+1,ps) [0,1,2] ⟨by dsimp only;omega,hj2⟩ (by dsimp only;omega)
    ⟨rfl,by decide,rfl,⟨⟨rfl,rfl⟩,⟨rfl,rfl⟩,⟨rfl,rfl⟩,⟨rfl,rfl⟩,⟨rfl,rfl⟩,⟨rfl,rfl⟩,trivial⟩,⟨z21 rfl rfl,z21 rfl rfl,z51 rfl (z5 fun _=>rfl),trivial⟩⟩
 ·rw [z119 _ _ _ (by simp;omega),y65] at hi2
  subst hi2
  exact z519 rfl (z5 fun _=>rfl) rfl rfl
theorem keepRows {f:FuncId} {args:List AC} {n:Nat} {l:List (List Int)} (h:QQ f args [] (.sref 0 0 n) [.cells 1 (l.map z93)]) (hl:l.length=n):QQ f args [] (lst 1 encL l) []:=by
 refine h.lend [] [0] rfl rfl rfl ?_ z38
 rw [z329 (w:=1) (es:=l.map z93) rfl rfl rfl (by rw [y49];exact hl),z167,← hl];rfl
theorem z298 (g:Graph) (hg:GB g) (ls:List Int) (hls:ls.length=g.st.length) (hlr:∀ x∈ls,0≤x∧x≤7) (a:Aut) (ha:AutP a):QQ 83 [.agg g.cs,ints ls,.agg a.cs] [] (lst 1 encL (z33 g ls a)) [] :=
 keepRows (z680 g hg ls hls hlr a ha) (z84 _ _)
def z74 (a:Aut):List (List Trans):=z116 a.acc.length (a.ed.map fun e=>(e.src.toNat,e))
def encT (r:List Trans):List AC:=[.list 4 r.length (r.map Trans.cs)]
theorem ltr_lt (v:List Int):∀ (l:List Tree) (k n:Nat),n < 2 ^ k→ltr v l k n < 2 ^ (k+l.length):=by
 intro l
 induction l with
 |nil=>intro k n h;simpa [ltr] using h
 |cons t l ih =>
  intro k n h
  rw [ltr]
  have e:k+(t::l).length=k+1+l.length:=by simp only [y58];omega
  rw [e]
  refine ih (k+1) _ ?_
  split
  ·rw [Nat.pow_succ];omega
  ·exact or_lt h
theorem z181 {l:List Tree} (hl:z144 l) (s:State):0≤z32 l s∧z32 l s≤7:=by
 have:=ltr_lt s.b l 0 0 (by decide)
 rw [hl.1] at this
 unfold z32
 have e:(2:Nat) ^ (0+3)=8:=by decide
 omega
def pE2 (n i q:Nat) (ℓ to:Int) (e:Trans):List (Nat×Int):=if onB e ℓ then [(i * n+q,to * n+e.dst)] else []
def pTo (n:Nat) (row:List Trans) (i q:Nat) (ℓ to:Int):List (Nat×Int):=row.flatMap (pE2 n i q ℓ to)
def pQ (n:Nat) (nxi:List Int) (rows:List (List Trans)) (i:Nat) (ℓ:Int) (q:Nat):List (Nat×Int):=nxi.flatMap (pTo n (rows.getD q []) i q ℓ)
def pI2 (n:Nat) (nx:List (List Int)) (rows:List (List Trans)) (ls:List Int) (i:Nat):List (Nat×Int):=(List.range n).flatMap (pQ n (nx.getD i []) rows i (ls.getD i 0))
def pS2 (g:Graph) (ls:List Int) (a:Aut):List (Nat×Int):=(List.range g.st.length).flatMap (pI2 a.acc.length g.nx (z74 a) ls)
theorem z326 {a:Aut} {q:Nat} (h:q < a.acc.length):(z74 a).getD q []=a.ed.filter (fun e=>e.src.toNat == q):=by
 unfold z74
 rw [z14 (by rw [z160];exact h),z328,List.filter_map,List.map_map]
 exact List.map_id _
theorem z1150 {β:Type} {F:Nat→List β} {n q0:Nat} (hq:q0 < n) (h:∀ q,q < n→q≠q0→F q=[]):(List.range n).flatMap F=F q0:=by
 have:∀ m,(List.range m).flatMap F=if q0 < m∧m≤n then F q0 else if m≤n then [] else (List.range m).flatMap F:=by
  intro m
  induction m with
  |zero=>simp
  |succ m ih =>
   by_cases hm:m+1≤n
   ·rw [y62,List.flatMap_append,ih,List.flatMap_cons,List.flatMap_nil,y65]
    by_cases h1:q0 < m
    ·rw [if_pos ⟨h1,by omega⟩,if_pos ⟨by omega,hm⟩,h m (by omega) (by omega),y65]
    ·rw [if_neg (by omega),if_pos (by omega)]
     by_cases h2:q0=m
     ·subst h2;rw [if_pos ⟨by omega,hm⟩];rfl
     ·rw [if_neg (by omega),if_pos hm,h m (by omega) (by omega)];rfl
   ·rw [if_neg (by omega),if_neg hm]
 rw [this n,if_pos ⟨hq,y52 _⟩]
theorem z1023 {β:Type} {F:Nat→List β} {n:Nat} (h:∀ q,q < n→F q=[]):(List.range n).flatMap F=[]:=by
 rw [List.flatMap_eq_nil_iff]
 intro q hq
 exact h q (List.mem_range.1 hq)
theorem pS2_rows (g:Graph) (ls:List Int) (a:Aut) (ha:AutP a) (r:Nat):(pS2 g ls a).filter (fun p=>p.1 == r)=(z524 g ls a).filter (fun p=>p.1 == r):=by
 unfold pS2 z524
 rw [List.filter_flatMap,List.filter_flatMap]
 refine z625 fun i hi=>?_
 unfold pI2 z429
 rw [List.filter_flatMap,List.filter_flatMap]
 have hsrc:∀ e∈a.ed,e.src.toNat < a.acc.length:=fun e he=>by
  have:=(ha.2.2.2 e he).1;omega
 by_cases hr:i * a.acc.length≤r∧r < i * a.acc.length+a.acc.length
 ·obtain ⟨q0,rfl⟩:∃ q0,r=i * a.acc.length+q0:=⟨r - i * a.acc.length,by omega⟩
  have hq0:q0 < a.acc.length:=by omega
  rw [z1150 hq0 (fun q hq hne=>by
   unfold pQ
   rw [List.filter_flatMap]
   refine List.flatMap_eq_nil_iff.2 fun to _=>?_
   unfold pTo
   rw [List.filter_flatMap]
   refine List.flatMap_eq_nil_iff.2 fun e _=>?_
   unfold pE2
   split
   ·simp;omega
   ·rfl)]
  unfold pQ
  rw [List.filter_flatMap,z326 hq0]
  refine z625 fun to _=>?_
  unfold pTo z525
  rw [List.filter_flatMap,List.filter_flatMap]
  induction a.ed with
  |nil=>rfl
  |cons e es ih =>
   rw [List.flatMap_cons,← ih,List.filter_cons]
   by_cases he:e.src.toNat=q0
   ·rw [if_pos (by simpa using he),List.flatMap_cons]
    unfold pE2 z292
    rw [he]
   ·rw [if_neg (by simpa using he)]
    have:(z292 a.acc.length i (ls.getD i 0) to e).filter (fun p=>p.1 == i * a.acc.length+q0)=[]:=by
     unfold z292
     split
     ·simp;omega
     ·rfl
    rw [this,List.nil_append]
 ·rw [z1023 (fun q hq=>by
   unfold pQ
   rw [List.filter_flatMap]
   refine List.flatMap_eq_nil_iff.2 fun to _=>?_
   unfold pTo
   rw [List.filter_flatMap]
   refine List.flatMap_eq_nil_iff.2 fun e _=>?_
   unfold pE2
   split
   ·simp;omega
   ·rfl)]
  symm
  refine List.flatMap_eq_nil_iff.2 fun to _=>?_
  unfold z525
  rw [List.filter_flatMap]
  refine List.flatMap_eq_nil_iff.2 fun e he=>?_
  have:=hsrc e he
  unfold z292
  split
  ·simp;omega
  ·rfl
theorem pS2_len (g:Graph) (hg:GB g) (ls:List Int) (a:Aut) (ha:AutP a):(pS2 g ls a).length≤1000000000:=by
 obtain ⟨⟨g1,g2⟩,g3,g4⟩:=hg
 have h2:∀ i∈List.range g.st.length,(pI2 a.acc.length g.nx (z74 a) ls i).length≤7864320:=fun i hi=>by
  rw [y61] at hi
  unfold pI2
  rw [z14 (l:=g.nx) (by omega)]
  have h3:=z272 (f:=pQ a.acc.length g.nx[i] (z74 a) i (ls.getD i 0)) (c:=122880) (List.range a.acc.length) (fun q hq=>by
   have h1:∀ to,(pTo a.acc.length ((z74 a).getD q []) i q (ls.getD i 0) to).length≤2048:=fun to=>by
    have h5:=z272 (f:=pE2 a.acc.length i q (ls.getD i 0) to) (c:=1) ((z74 a).getD q []) (fun e _=>by unfold pE2;split<;>simp)
    rw [z326 (List.mem_range.1 hq)] at h5 ⊢
    have:=List.length_filter_le (fun e:Trans=>e.src.toNat == q) a.ed
    have:=ha.2.1
    unfold pTo;omega
   have h3:=z272 (f:=pTo a.acc.length ((z74 a).getD q []) i q (ls.getD i 0)) (c:=2048) g.nx[i] (fun to _=>h1 to)
   have h4:=(g4 i (by omega) (by omega) hi).2.1
   have:g.nx[i].length * 2048≤60 * 2048:=Nat.mul_le_mul_right _ (by omega)
   unfold pQ;omega)
  rw [List.length_range] at h3
  have:a.acc.length * 122880≤64 * 122880:=Nat.mul_le_mul_right _ ha.1.2
  omega
 have h5:=z272 (f:=pI2 a.acc.length g.nx (z74 a) ls) (c:=7864320) (List.range g.st.length) h2
 rw [List.length_range] at h5
 have:g.st.length * 7864320≤60 * 7864320:=Nat.mul_le_mul_right _ (by omega)
 unfold pS2;omega
theorem z1237 (g:Graph) (ls:List Int) (a:Aut) (ha:AutP a):build (g.st.length * a.acc.length) (pS2 g ls a)=z33 g ls a:=by
 unfold z33 build
 rw [Nat.mul_comm]
 refine List.map_congr_left fun r _=>?_
 rw [pS2_rows g ls a ha r]
set_option maxHeartbeats 800000 in
theorem z869 (g:Graph) (hg:GB g) (l:List Tree) (hl:z144 l) (a:Aut) (ha:AutP a):QQ 75 [.agg g.cs,lst 3 Tree.cs' l,.agg a.cs] [] (.tup [.sref 0 0 (g.st.length * a.acc.length),ints a.ini]) [.cells 1 ((z33 g (g.st.map (z32 l)) a).map z93)]:=by
 have hvals:=hg.vals
 have hpl:=z523 g hg (g.st.map (z32 l)) a ha
 have hini:=ha.2.2.1.le (by omega)
 obtain ⟨⟨g1,g2⟩,g3,g4⟩:=hg
 obtain ⟨⟨a1,a2⟩,a3,a4,a5⟩:=ha
 have hN:=z120 (a:=(g.st.length:Int)) (b:=(a.acc.length:Int)) (A:=60) (B:=64) (by omega) (by omega) (by omega) (by omega)
 refine z12 z15 func75 rfl rfl 117 ntmps75 (by simp) ?_
 repeat' (first|apply y4 ok;rfl;conv=>whnf|apply y43;((dsimp only;omega));conv=>whnf)
 refine y85 (Gl.Reach.weaken (es':=List.replicate a.acc.length [.own 4 []]) 2 rfl (by rw [y46,y46];rfl) z360 rfl) ?_
 conv=>whnf
 refine z97 (fun k:Nat=>([(1,lst 3 Tree.cs' l),(3,.ptr 0 none 0),(5,.ptr 1 none 0),(8,.int a.acc.length),(9,.sref 2 0 a.acc.length),(26,lst 4 Trans.cs a.ed),(27,.int a.ed.length),(28,.int k)],[.cells 2 [[lst 2 State.cs g.st,lst 1 encL g.nx]],.cells 3 [[lst 1 enI a.ini,lst 1 enB a.acc,lst 4 Trans.cs a.ed]],.cells 1 ((z116 a.acc.length ((a.ed.take k).map fun e=>(e.src.toNat,e))).map (ownG 4 Trans.cs))])) (fun k=>k≤a.ed.length) (fun k=>a.ed.length - k) 0 (by omega)
  ⟨[0,1,2],rfl,by decide,rfl,⟨⟨rfl,rfl⟩,⟨rfl,rfl⟩,⟨rfl,rfl⟩,⟨rfl,rfl⟩,⟨rfl,rfl⟩,⟨rfl,rfl⟩,⟨rfl,rfl⟩,⟨rfl,rfl⟩,trivial⟩,⟨z21 rfl rfl,z21 rfl rfl,z51 (z68 (z1142 _ _ _).symm) (z5 fun _=>rfl),trivial⟩⟩ ?_
 intro k hk
 have hN2:((g.st.length * a.acc.length:Nat):Int)=(g.st.length:Int) * a.acc.length:=by simp
 repeat' (first|(fail_if_success apply z96 6);(fail_if_success apply z77 6);(fail_if_success apply z96 8);(fail_if_success apply z77 8);apply y4 ok;rfl;conv=>whnf|apply y43;(omega);conv=>whnf|with_reducible apply z8;omega;intro _;conv=>whnf|apply z6<;>intro _<;>conv=>whnf)
 ·have hkl:k < a.ed.length:=by assumption
  have he:=a5 a.ed[k] (y44 hkl)
  unfold z336 at he
  have hlt:a.ed[k].src.toNat < (z116 a.acc.length ((a.ed.take k).map fun e=>(e.src.toNat,e))).length:=by rw [z160];omega
  have hmap:a.ed[k].src.toNat < ((z116 a.acc.length ((a.ed.take k).map fun e=>(e.src.toNat,e))).map (ownG 4 Trans.cs)).length:=by rw [y49];exact hlt
  have hrl:=z711 hlt
  rw [y49,y48] at hrl
  refine y85 (Gl.Reach.expose (e:=ownG 4 Trans.cs (z116 a.acc.length ((a.ed.take k).map fun e=>(e.src.toNat,e)))[a.ed[k].src.toNat]) 2 a.ed[k].src.toNat 0 rfl (by rw [y51,y45 hlt];rfl) rfl (z155 (fun _=>rfl) _) rfl) ?_
  conv=>whnf
  (apply y4 ok;rfl;conv=>whnf)
  repeat' (first|apply z23;kernel_rfl;conv=>whnf|apply z698;exact Nat.add_zero _;exact hmap;conv=>whnf|apply y43;(first|omega|(try dsimp only);simp only [y49,y48,y47,y46,y58,y59];omega|exact ⟨rfl,z22 rfl z28⟩);conv=>whnf)
  refine y85 (Gl.Reach.absorb 2 6 a.ed[k].src.toNat 0 rfl (z1207 (Nat.add_zero _) (by rw [List.length_set];exact hmap)) rfl rfl (by simp) rfl (z67 (fun e he=>(z5 (fun _=>rfl)) e (List.mem_of_mem_take he)) (z210 rfl z25)) rfl) ?_
  conv=>whnf
  repeat' (first|(fail_if_success apply z96 6);(fail_if_success apply z77 6);(fail_if_success apply z96 8);(fail_if_success apply z77 8);apply y4 ok;rfl;conv=>whnf|apply y43;((unfold inI;omega));conv=>whnf)
  refine z85 (k+1) [0,1,2] (by omega) (by omega)
   ⟨rfl,by decide,rfl,⟨⟨rfl,rfl⟩,⟨rfl,rfl⟩,⟨rfl,rfl⟩,⟨rfl,rfl⟩,⟨rfl,rfl⟩,⟨rfl,rfl⟩,⟨rfl,rfl⟩,⟨rfl,rfl⟩,trivial⟩,⟨z21 rfl rfl,z21 rfl rfl,z51 (z68 ?_) (z5 fun _=>rfl),trivial⟩⟩
  have e1:((a.ed.take (k+1)).map fun e=>(e.src.toNat,e))=((a.ed.take k).map fun e=>(e.src.toNat,e))++[(a.ed[k].src.toNat,a.ed[k])]:=by
   rw [y50 hkl,y64];rfl
  rw [e1]
  exact z1020 hlt (Nat.add_zero _) (by simp) rfl
 obtain rfl:k=a.ed.length:=by omega
 refine y85 (SealL.reach (π:=[0,1]) (Bn:=[2]) (env:=[(1,lst 3 Tree.cs' l),(3,.ptr 0 none 0),(5,.ptr 1 none 0),(8,.int a.acc.length),(9,lst 1 encT (z74 a))]) (objs:=[.cells 2 [[lst 2 State.cs g.st,lst 1 encL g.nx]],.cells 3 [[lst 1 enI a.ini,lst 1 enB a.acc,lst 4 Trans.cs a.ed]]]) ⟨rfl,rfl,by simp,rfl,by intro o ho;simp at ho;rcases ho with rfl|rfl<;>rfl,⟨rfl,rfl,rfl,rfl,?_,trivial⟩,rfl⟩) ?_
 ·show bor _ _ _ (.sref 2 0 a.acc.length)=_
  rw [z329 (w:=1) (es:=(z116 a.acc.length ((a.ed.take a.ed.length).map fun e=>(e.src.toNat,e))).map (ownG 4 Trans.cs)) rfl rfl rfl (by rw [y49,z160]),z866 (fun t=>Trans.unown t),y56]
  unfold lst z74
  rw [z160];rfl
 conv=>whnf
 repeat' (first|apply y4 ok;rfl;conv=>whnf|apply y43;(first|unfold inI;omega|dsimp only;omega);conv=>whnf|apply z4 (z967 g hvals g2 l hl);rfl;rfl;conv=>whnf)
 refine y85 (Gl.Reach.weaken (es':=List.replicate (g.st.length * a.acc.length) [.own 1 []]) 2 rfl (by rw [y46,y46];rfl) z360 rfl) ?_
 conv=>whnf
 have hls:(g.st.map (z32 l)).length=g.st.length:=by simp
 have hlr:∀ x∈g.st.map (z32 l),0≤x∧x≤7:=fun x hx=>by
  obtain ⟨s,_,rfl⟩:=List.mem_map.1 hx
  exact z181 hl s
 rw [← z1237 g _ a ⟨⟨a1,a2⟩,a3,a4,a5⟩]
 have hpl2:=pS2_len g ⟨⟨g1,g2⟩,g3,g4⟩ (g.st.map (z32 l)) a ⟨⟨a1,a2⟩,a3,a4,a5⟩
 generalize hlsd:g.st.map (z32 l)=ls at hls hlr hpl hpl2
 have hrow:∀ i (hi:i < g.nx.length),∀ x∈g.nx[i],0≤x∧x≤g.st.length - 1:=fun i hi x hx=>by
  obtain ⟨j,hj,rfl⟩:=List.mem_iff_getElem.1 hx
  exact ((g4 i hi hi (by omega)).2.2.2 j hj hj).1
 have hlen:∀ i (hi:i < g.nx.length),g.nx[i].length≤60:=fun i hi=>by
  have:=(g4 i hi hi (by omega)).2.1;omega
 have hel:(z74 a).length=a.acc.length:=z160 _ _
 have hed:∀ q (hq:q < (z74 a).length),∀ e∈(z74 a)[q],e∈a.ed:=fun q hq e he=>by
  rw [← z14 (d:=[]) hq,z326 (by omega)] at he;exact (List.mem_filter.1 he).1
 have hedl:∀ q (hq:q < (z74 a).length),(z74 a)[q].length≤2048:=fun q hq=>by
  rw [← z14 (d:=[]) hq,z326 (by omega)];exact Nat.le_trans (List.length_filter_le _ _) a3
 refine z97 (fun x:Nat×List (Nat×Int)=>([(3,.ptr 0 none 0),(5,.ptr 1 none 0),(8,.int a.acc.length),(9,lst 1 encT (z74 a)),(12,.sref 2 0 (g.st.length * a.acc.length)),(53,ints ls),(54,.int ls.length),(55,.int x.1)],[.cells 2 [[lst 2 State.cs g.st,lst 1 encL g.nx]],.cells 3 [[lst 1 enI a.ini,lst 1 enB a.acc,lst 4 Trans.cs a.ed]],.cells 1 ((build (g.st.length * a.acc.length) x.2).map z93)])) (fun x=>x.1≤ls.length∧x.2++((List.range g.st.length).drop x.1).flatMap (pI2 a.acc.length g.nx (z74 a) ls)=pS2 g ls a) (fun x=>ls.length - x.1) (0,[]) ⟨by omega,rfl⟩
  ⟨[0,1,2],rfl,by decide,rfl,⟨⟨rfl,by rfl⟩,⟨rfl,by rfl⟩,⟨rfl,by rfl⟩,⟨rfl,by rfl⟩,⟨rfl,by rfl⟩,⟨rfl,by rfl⟩,⟨rfl,by rfl⟩,⟨rfl,by rfl⟩,trivial⟩,⟨z21 rfl rfl,z21 rfl rfl,z51 (z68 (z955 _).symm) (z5 fun _=>rfl),trivial⟩⟩ ?_
 rintro ⟨i,ps⟩ ⟨hi1,hi2⟩
 dsimp only at hi1 hi2 ⊢
 repeat' (first|apply y4 ok;rfl;conv=>whnf|apply y43;(omega);conv=>whnf|with_reducible apply z8;omega;intro _;conv=>whnf|apply z6<;>intro _<;>conv=>whnf)
 ·have hig:i < g.st.length:=by omega
  rw [z183 _ _ _ (by simpa using hig),List.getElem_range] at hi2
  have hin:i < g.nx.length:=by omega
  have hrow:=hrow i hin
  have hlen:=hlen i hin
  have hil:i < ls.length:=by omega
  have hli:=hlr ls[i] (y44 _)
  have hpI:pI2 a.acc.length g.nx (z74 a) ls i=(List.range a.acc.length).flatMap (pQ a.acc.length g.nx[i] (z74 a) i ls[i]):=by
   unfold pI2
   rw [z14 (l:=g.nx) hin,z14 (l:=ls) hil]
  rw [hpI] at hi2
  have hm1:=z120 (a:=(i:Int)) (b:=(a.acc.length:Int)) (A:=60) (B:=64) (by omega) (by omega) (by omega) (by omega)
  refine z97 (fun x:Nat×List (Nat×Int)=>([(3,.ptr 0 none 0),(5,.ptr 1 none 0),(8,.int a.acc.length),(9,lst 1 encT (z74 a)),(12,.sref 2 0 (g.st.length * a.acc.length)),(53,ints ls),(54,.int ls.length),(55,.int i),(13,.int i),(14,.int ls[i]),(60,.int a.acc.length),(61,.int x.1)],[.cells 2 [[lst 2 State.cs g.st,lst 1 encL g.nx]],.cells 3 [[lst 1 enI a.ini,lst 1 enB a.acc,lst 4 Trans.cs a.ed]],.cells 1 ((build (g.st.length * a.acc.length) x.2).map z93)])) (fun x=>x.1≤a.acc.length∧x.2++(((List.range a.acc.length).drop x.1).flatMap (pQ a.acc.length g.nx[i] (z74 a) i ls[i])++((List.range g.st.length).drop (i+1)).flatMap (pI2 a.acc.length g.nx (z74 a) ls))=pS2 g ls a) (fun x=>a.acc.length - x.1) (0,ps) ⟨by omega,hi2⟩
   ⟨[0,1,2],rfl,by decide,rfl,⟨⟨rfl,rfl⟩,⟨rfl,rfl⟩,⟨rfl,rfl⟩,⟨rfl,rfl⟩,⟨rfl,rfl⟩,⟨rfl,rfl⟩,⟨rfl,rfl⟩,⟨rfl,rfl⟩,⟨rfl,rfl⟩,⟨rfl,rfl⟩,⟨rfl,rfl⟩,⟨rfl,rfl⟩,trivial⟩,⟨z21 rfl rfl,z21 rfl rfl,z51 rfl (z5 fun _=>rfl),trivial⟩⟩ ?_
  rintro ⟨q,ps⟩ ⟨hq1,hq2⟩
  dsimp only at hq1 hq2 ⊢
  repeat' (first|apply y4 ok;rfl;conv=>whnf|apply y43;(first|omega|unfold inI;omega);conv=>whnf|with_reducible apply z8;omega;intro _;conv=>whnf|apply z6<;>intro _<;>conv=>whnf)
  ·have hqn:q < a.acc.length:=by omega
   rw [z183 _ _ _ (by simpa using hqn),List.getElem_range,List.append_assoc] at hq2
   have hqe:q < (z74 a).length:=by omega
   have hpQ:pQ a.acc.length g.nx[i] (z74 a) i ls[i] q=g.nx[i].flatMap (pTo a.acc.length (z74 a)[q] i q ls[i]):=by
    unfold pQ;rw [z14 hqe]
   rw [hpQ] at hq2
   have hedl:=hedl q hqe
   have hlt:i * a.acc.length+q < g.st.length * a.acc.length:=by
    have h1:(i+1) * a.acc.length≤g.st.length * a.acc.length:=Nat.mul_le_mul_right _ hig
    rw [Nat.add_mul,Nat.one_mul] at h1
    omega
   refine z97 (fun x:Nat×List (Nat×Int)=>([(3,.ptr 0 none 0),(5,.ptr 1 none 0),(8,.int a.acc.length),(9,lst 1 encT (z74 a)),(12,.sref 2 0 (g.st.length * a.acc.length)),(53,ints ls),(54,.int ls.length),(55,.int i),(13,.int i),(14,.int ls[i]),(60,.int a.acc.length),(61,.int q),(15,.int q),(68,ints g.nx[i]),(69,.int g.nx[i].length),(70,.int x.1)],[.cells 2 [[lst 2 State.cs g.st,lst 1 encL g.nx]],.cells 3 [[lst 1 enI a.ini,lst 1 enB a.acc,lst 4 Trans.cs a.ed]],.cells 1 ((build (g.st.length * a.acc.length) x.2).map z93)])) (fun x=>x.1≤g.nx[i].length∧x.2++((g.nx[i].drop x.1).flatMap (pTo a.acc.length (z74 a)[q] i q ls[i])++(((List.range a.acc.length).drop (q+1)).flatMap (pQ a.acc.length g.nx[i] (z74 a) i ls[i])++((List.range g.st.length).drop (i+1)).flatMap (pI2 a.acc.length g.nx (z74 a) ls)))=pS2 g ls a) (fun x=>g.nx[i].length - x.1) (0,ps) ⟨by omega,hq2⟩
    ⟨[0,1,2],rfl,by decide,rfl,⟨⟨rfl,rfl⟩,⟨rfl,rfl⟩,⟨rfl,rfl⟩,⟨rfl,rfl⟩,⟨rfl,rfl⟩,⟨rfl,rfl⟩,⟨rfl,rfl⟩,⟨rfl,rfl⟩,⟨rfl,rfl⟩,⟨rfl,rfl⟩,⟨rfl,rfl⟩,⟨rfl,rfl⟩,⟨rfl,rfl⟩,⟨rfl,rfl⟩,⟨rfl,rfl⟩,⟨rfl,rfl⟩,trivial⟩,⟨z21 rfl rfl,z21 rfl rfl,z51 rfl (z5 fun _=>rfl),trivial⟩⟩ ?_
   rintro ⟨j,ps⟩ ⟨hj1,hj2⟩
   dsimp only at hj1 hj2 ⊢
   repeat' (first|apply y4 ok;rfl;conv=>whnf|apply y43;(first|omega|unfold inI;omega);conv=>whnf|with_reducible apply z8;omega;intro _;conv=>whnf|apply z6<;>intro _<;>conv=>whnf)
   ·have hjn:j < g.nx[i].length:=by omega
    rw [z183 _ _ _ hjn,List.append_assoc] at hj2
    have hto:=hrow g.nx[i][j] (y44 _)
    have hm2:=z120 (a:=g.nx[i][j]) (b:=(a.acc.length:Int)) (A:=60) (B:=64) (by omega) (by omega) (by omega) (by omega)
    refine z97 (fun x:Nat×List (Nat×Int)=>([(3,.ptr 0 none 0),(5,.ptr 1 none 0),(8,.int a.acc.length),(9,lst 1 encT (z74 a)),(12,.sref 2 0 (g.st.length * a.acc.length)),(53,ints ls),(54,.int ls.length),(55,.int i),(13,.int i),(14,.int ls[i]),(60,.int a.acc.length),(61,.int q),(15,.int q),(68,ints g.nx[i]),(69,.int g.nx[i].length),(70,.int j),(17,.int g.nx[i][j]),(77,lst 4 Trans.cs (z74 a)[q]),(78,.int (z74 a)[q].length),(79,.int x.1)],[.cells 2 [[lst 2 State.cs g.st,lst 1 encL g.nx]],.cells 3 [[lst 1 enI a.ini,lst 1 enB a.acc,lst 4 Trans.cs a.ed]],.cells 1 ((build (g.st.length * a.acc.length) x.2).map z93)])) (fun x=>x.1≤(z74 a)[q].length∧x.2++(((z74 a)[q].drop x.1).flatMap (pE2 a.acc.length i q ls[i] g.nx[i][j])++((g.nx[i].drop (j+1)).flatMap (pTo a.acc.length (z74 a)[q] i q ls[i])++(((List.range a.acc.length).drop (q+1)).flatMap (pQ a.acc.length g.nx[i] (z74 a) i ls[i])++((List.range g.st.length).drop (i+1)).flatMap (pI2 a.acc.length g.nx (z74 a) ls))))=pS2 g ls a) (fun x=>(z74 a)[q].length - x.1) (0,ps) ⟨by omega,hj2⟩
     ⟨[0,1,2],rfl,by decide,rfl,⟨⟨rfl,rfl⟩,⟨rfl,rfl⟩,⟨rfl,rfl⟩,⟨rfl,rfl⟩,⟨rfl,rfl⟩,⟨rfl,rfl⟩,⟨rfl,rfl⟩,⟨rfl,rfl⟩,⟨rfl,rfl⟩,⟨rfl,rfl⟩,⟨rfl,rfl⟩,⟨rfl,rfl⟩,⟨rfl,rfl⟩,⟨rfl,rfl⟩,⟨rfl,rfl⟩,⟨rfl,rfl⟩,⟨rfl,rfl⟩,⟨rfl,rfl⟩,⟨rfl,rfl⟩,⟨rfl,rfl⟩,trivial⟩,⟨z21 rfl rfl,z21 rfl rfl,z51 rfl (z5 fun _=>rfl),trivial⟩⟩ ?_
    rintro ⟨k,ps⟩ ⟨hk1,hk2⟩
    dsimp only at hk1 hk2 ⊢
    by_cases hke:k < (z74 a)[q].length
    ·have he:=a5 (z74 a)[q][k] (hed q hqe _ (y44 hke))
     unfold z336 at he
     have hlt' : i * a.acc.length+q < (build (g.st.length * a.acc.length) ps).length:=by rw [z84];exact hlt
     have hmap:i * a.acc.length+q < ((build (g.st.length * a.acc.length) ps).map z93).length:=by rw [y49];exact hlt'
     have hrl:(build (g.st.length * a.acc.length) ps)[i * a.acc.length+q].length≤1000000000:=by
      have h1:=z311 (N:=g.st.length * a.acc.length) (ps:=ps) hlt'
      have h2:=congrArg List.length hk2
      rw [y47] at h2
      omega
     have hix:((i:Int) * a.acc.length+q).toNat=i * a.acc.length+q:=by
      have e:((i * a.acc.length:Nat):Int)=(i:Int) * a.acc.length:=by simp
      omega
     have hlt2:((i:Int) * a.acc.length+q).toNat < g.st.length * a.acc.length:=by rw [hix];exact hlt
     rw [z183 _ _ _ hke] at hk2
     repeat' (first|(fail_if_success apply z96 22);(fail_if_success apply z77 22);apply y4 ok;rfl;conv=>whnf|apply y43;(first|omega|unfold inI;omega);conv=>whnf|with_reducible apply z8;omega;intro _;conv=>whnf|apply z6<;>intro _<;>conv=>whnf|apply z4 (takes_ok (z74 a)[q][k] ls[i] hli.1 hli.2 he.2.2.1);rfl;rfl;conv=>whnf)
     ·have hon:((ls[i].toNat &&& (z74 a)[q][k].care.toNat:Nat):Int)=(z74 a)[q][k].val:=by assumption
      refine y85 (Gl.Reach.expose (e:=z93 (build (g.st.length * a.acc.length) ps)[i * a.acc.length+q]) 2 (i * a.acc.length+q) 0 rfl (by rw [y51,y45 hlt'];rfl) rfl (z155 (fun _=>rfl) _) rfl) ?_
      conv=>whnf
      (apply y4 ok;rfl;conv=>whnf)
      repeat' (first|apply z23;kernel_rfl;conv=>whnf|apply z698;exact hix;exact hmap;conv=>whnf|apply y43;(first|omega|unfold inI;omega|(try dsimp only);simp only [y49,y48,y47,y46,y58,y59];omega|exact ⟨rfl,z22 rfl z28⟩);conv=>whnf)
      refine y85 (Gl.Reach.absorb 2 6 (i * a.acc.length+q) 0 rfl (z1207 hix (by rw [List.length_set];exact hmap)) rfl rfl (by simp) rfl (z67 (fun e he=>(z5 (fun _=>rfl)) e (List.mem_of_mem_take he)) (z210 rfl z25)) rfl) ?_
      conv=>whnf
      repeat' (first|apply y4 ok;rfl;conv=>whnf|apply y43;((unfold inI;omega));conv=>whnf)
      have hpe:pE2 a.acc.length i q ls[i] g.nx[i][j] (z74 a)[q][k]=[(i * a.acc.length+q,g.nx[i][j] * a.acc.length+(z74 a)[q][k].dst)]:=by
       unfold pE2 onB;rw [if_pos (y82 hon)]
      rw [hpe,List.append_assoc,← List.append_assoc] at hk2
      exact z85 (k+1,ps++[(i * a.acc.length+q,g.nx[i][j] * a.acc.length+(z74 a)[q][k].dst)]) [0,1,2] ⟨by dsimp only;omega,hk2⟩ (by dsimp only;omega) ⟨rfl,by decide,rfl,⟨⟨rfl,rfl⟩,⟨rfl,rfl⟩,⟨rfl,rfl⟩,⟨rfl,rfl⟩,⟨rfl,rfl⟩,⟨rfl,rfl⟩,⟨rfl,rfl⟩,⟨rfl,rfl⟩,⟨rfl,rfl⟩,⟨rfl,rfl⟩,⟨rfl,rfl⟩,⟨rfl,rfl⟩,⟨rfl,rfl⟩,⟨rfl,rfl⟩,⟨rfl,rfl⟩,⟨rfl,rfl⟩,⟨rfl,rfl⟩,⟨rfl,rfl⟩,⟨rfl,rfl⟩,⟨rfl,rfl⟩,trivial⟩,⟨z21 rfl rfl,z21 rfl rfl,z51 (z68 (rows_push' hlt' hix (by simp))) (z5 fun _=>rfl),trivial⟩⟩
     ·have hon:¬ ((ls[i].toNat &&& (z74 a)[q][k].care.toNat:Nat):Int)=(z74 a)[q][k].val:=by assumption
      have hpe:pE2 a.acc.length i q ls[i] g.nx[i][j] (z74 a)[q][k]=[]:=by
       unfold pE2 onB;rw [if_neg (by simpa using hon)]
      rw [hpe,List.nil_append] at hk2
      exact z85 (k+1,ps) [0,1,2] ⟨by dsimp only;omega,hk2⟩ (by dsimp only;omega) ⟨rfl,by decide,rfl,⟨⟨rfl,rfl⟩,⟨rfl,rfl⟩,⟨rfl,rfl⟩,⟨rfl,rfl⟩,⟨rfl,rfl⟩,⟨rfl,rfl⟩,⟨rfl,rfl⟩,⟨rfl,rfl⟩,⟨rfl,rfl⟩,⟨rfl,rfl⟩,⟨rfl,rfl⟩,⟨rfl,rfl⟩,⟨rfl,rfl⟩,⟨rfl,rfl⟩,⟨rfl,rfl⟩,⟨rfl,rfl⟩,⟨rfl,rfl⟩,⟨rfl,rfl⟩,⟨rfl,rfl⟩,⟨rfl,rfl⟩,trivial⟩,⟨z21 rfl rfl,z21 rfl rfl,z51 rfl (z5 fun _=>rfl),trivial⟩⟩
     ·omega
    ·repeat' (first|(fail_if_success apply z96 22);(fail_if_success apply z77 22);apply y4 ok;rfl;conv=>whnf|apply y43;(first|omega|unfold inI;omega);conv=>whnf|with_reducible apply z8;omega;intro _;conv=>whnf|apply z6<;>intro _<;>conv=>whnf)
     ·omega
     ·rw [z119 _ _ _ (by omega),List.nil_append] at hk2
      exact z85 (j+1,ps) [0,1,2] ⟨by dsimp only;omega,hk2⟩ (by dsimp only;omega) ⟨rfl,by decide,rfl,⟨⟨rfl,rfl⟩,⟨rfl,rfl⟩,⟨rfl,rfl⟩,⟨rfl,rfl⟩,⟨rfl,rfl⟩,⟨rfl,rfl⟩,⟨rfl,rfl⟩,⟨rfl,rfl⟩,⟨rfl,rfl⟩,⟨rfl,rfl⟩,⟨rfl,rfl⟩,⟨rfl,rfl⟩,⟨rfl,rfl⟩,⟨rfl,rfl⟩,⟨rfl,rfl⟩,⟨rfl,rfl⟩,trivial⟩,⟨z21 rfl rfl,z21 rfl rfl,z51 rfl (z5 fun _=>rfl),trivial⟩⟩
   ·rw [z119 _ _ _ (by omega),List.nil_append] at hj2
    exact z85 (q+1,ps) [0,1,2] ⟨by dsimp only;omega,hj2⟩ (by dsimp only;omega) ⟨rfl,by decide,rfl,⟨⟨rfl,rfl⟩,⟨rfl,rfl⟩,⟨rfl,rfl⟩,⟨rfl,rfl⟩,⟨rfl,rfl⟩,⟨rfl,rfl⟩,⟨rfl,rfl⟩,⟨rfl,rfl⟩,⟨rfl,rfl⟩,⟨rfl,rfl⟩,⟨rfl,rfl⟩,⟨rfl,rfl⟩,trivial⟩,⟨z21 rfl rfl,z21 rfl rfl,z51 rfl (z5 fun _=>rfl),trivial⟩⟩
  ·rw [z119 _ _ _ (by simp;omega),List.nil_append] at hq2
   exact z85 (i+1,ps) [0,1,2] ⟨by dsimp only;omega,hq2⟩ (by dsimp only;omega) ⟨rfl,by decide,rfl,⟨⟨rfl,rfl⟩,⟨rfl,rfl⟩,⟨rfl,rfl⟩,⟨rfl,rfl⟩,⟨rfl,rfl⟩,⟨rfl,rfl⟩,⟨rfl,rfl⟩,⟨rfl,rfl⟩,trivial⟩,⟨z21 rfl rfl,z21 rfl rfl,z51 rfl (z5 fun _=>rfl),trivial⟩⟩
 ·rw [z119 _ _ _ (by simp;omega),y65] at hi2
  subst hi2
  repeat' (first|apply y4 ok;rfl;conv=>whnf|apply z4 (z790 a.ini (by omega));rfl;rfl;conv=>whnf)
  exact z90 [2] (by decide) rfl rfl rfl ⟨z51 rfl (z5 fun _=>rfl),trivial⟩
theorem z604 (g:Graph) (hg:GB g) (l:List Tree) (hl:z144 l) (a:Aut) (ha:AutP a):QQ 75 [.agg g.cs,lst 3 Tree.cs' l,.agg a.cs] [] (.tup [lst 1 encL (z33 g (g.st.map (z32 l)) a),ints a.ini]) []:=by
 have h:=z869 g hg l hl a ha
 have hlen:(z33 g (g.st.map (z32 l)) a).length=g.st.length * a.acc.length:=by unfold z33;rw [z84,Nat.mul_comm]
 refine h.lend [] [0] rfl rfl rfl ?_ z38
 show AC.tup [bor _ _ _ (.sref 0 0 _),bor _ _ _ (ints a.ini)]=_
 rw [z329 (w:=1) (es:=(z33 g (g.st.map (z32 l)) a).map z93) rfl rfl rfl (by rw [y49];exact hlen),z167,← hlen]
 rfl
theorem z361 (g:Graph) (hg:GB g) (ls:List Int) (a:Aut) (ha:AutP a):∀ row∈z33 g ls a,∀ x∈row,0≤x∧x < ((g.st.length * a.acc.length:Nat):Int):=by
 intro row hrow x hx
 unfold z33 build at hrow
 obtain ⟨r,_,rfl⟩:=List.mem_map.1 hrow
 obtain ⟨⟨p,v⟩,hp,rfl⟩:=List.mem_map.1 hx
 have hp:=(List.mem_filter.1 hp).1
 unfold z524 at hp
 obtain ⟨i,hi,hp⟩:=List.mem_flatMap.1 hp
 rw [y61] at hi
 unfold z429 at hp
 obtain ⟨to,hto,hp⟩:=List.mem_flatMap.1 hp
 unfold z525 at hp
 obtain ⟨e,he,hp⟩:=List.mem_flatMap.1 hp
 have hin:i < g.nx.length:=by have:=hg.2.1;omega
 rw [z14 hin] at hto
 obtain ⟨j,hj,rfl⟩:=List.mem_iff_getElem.1 hto
 have h1:=((hg.2.2 i hin hin hi).2.2.2 j hj hj).1
 have h2:=(ha.2.2.2 e he).2.1
 unfold z292 at hp
 split at hp
 ·simp only [y55,Prod.mk.injEq] at hp
  obtain ⟨_,rfl⟩:=hp
  have h3:0≤g.nx[i][j] * (a.acc.length:Int):=Int.mul_nonneg h1.1 (by omega)
  have h4:(g.nx[i][j]+1) * (a.acc.length:Int)≤g.st.length * a.acc.length:=Int.mul_le_mul_of_nonneg_right (by omega) (by omega)
  rw [Int.add_mul,Int.one_mul] at h4
  have e:((g.st.length * a.acc.length:Nat):Int)=(g.st.length:Int) * a.acc.length:=by simp
  rw [e]
  dsimp only
  omega
 ·simp at hp
theorem z293 (g:Graph) (hg:GB g) (ls:List Int) (a:Aut) (ha:AutP a):∀ row∈z33 g ls a,row.length≤7372800:=by
 intro row hrow
 obtain ⟨i,hi,rfl⟩:=List.mem_iff_getElem.1 hrow
 exact Nat.le_trans (z311 (N:=a.acc.length * g.st.length) (ps:=z524 g ls a) hi) (z523 g hg ls a ha)
def rk (ranks:List Int) (x:Int):Int:=ranks.getD x.toNat 0
def less (acc:Bool) (r:Int):Int:=if acc then r - 1 else r
def z431 (row ranks:List Int) (rank:Int) (acc:Bool):Prop:=∀ x∈row,0≤rk ranks x∧rk ranks x≤less acc rank
instance {row ranks:List Int} {rank:Int} {acc:Bool} : Decidable (z431 row ranks rank acc):=by unfold z431;infer_instance
theorem z1187 (row ranks:List Int) (rank:Int) (acc:Bool) (hr:row.length≤maxLen) (hb:∀ x∈row,0≤x∧x < ranks.length):QQ 110 [ints row,ints ranks,.int rank,.bool acc] [] (.bool (decide (z431 row ranks rank acc))) []:=by
 unfold maxLen at hr
 refine z12 z15 func110 rfl rfl 39 ntmps110 (by simp) ?_
 repeat' ((apply y4 ok;rfl;conv=>whnf))
 refine z97 (fun k:Nat=>([(0,ints row),(1,ints ranks),(2,.int rank),(3,.bool acc),(9,.int k)],[])) (fun k=>k≤row.length∧∀ i (h:i < row.length),i < k→0≤rk ranks row[i]∧rk ranks row[i]≤less acc rank) (fun k=>row.length - k) 0 ⟨by omega,fun i h hi=>by omega⟩ ⟨[],rfl,by decide,rfl,by repeat' (first|exact True.intro|exact ⟨rfl,rfl⟩|apply y43),by repeat' (exact True.intro)⟩ ?_
 rintro k ⟨hk1,hk2⟩
 by_cases hkl:k < row.length
 ·have hx:=hb row[k] (y44 _)
  have hrk:rk ranks row[k]=ranks[row[k].toNat]'(by omega):=z14 (by omega)
  have hno:(¬ 0≤rk ranks row[k]∨rank < rk ranks row[k]∨(acc=true∧rk ranks row[k]=rank))→¬ z431 row ranks rank acc:=fun h h2=>by
   have h3:=h2 _ (y44 hkl)
   unfold less at h3
   rcases h with h|h|⟨rfl,h⟩
   ·omega
   ·split at h3<;>omega
   ·rw [if_pos rfl] at h3;omega
  have hyes:(0≤rk ranks row[k]∧rk ranks row[k]≤rank∧(acc=false∨rk ranks row[k]≠rank))→∀ i (h:i < row.length),i < k+1→0≤rk ranks row[i]∧rk ranks row[i]≤less acc rank:=fun h i hi hik=>by
   rcases y70 i k with h3|h3
   ·exact hk2 i hi h3
   ·obtain rfl:i=k:=by omega
    refine ⟨h.1,?_⟩
    unfold less
    rcases h.2.2 with h4|h4
    ·rw [h4,if_neg (by simp)];omega
    ·split<;>omega
  rw [hrk] at hno hyes
  repeat' (first|apply y4 ok;rfl;conv=>whnf|apply y43;(first|omega|unfold inI;omega);conv=>whnf|with_reducible apply z8;omega;intro _;conv=>whnf|with_reducible apply z52;omega;intro _;conv=>whnf|apply z6<;>intro _<;>conv=>whnf|apply z82<;>intro _<;>conv=>whnf)
  all_goals first
   |exact z19 rfl (y83 (hno (by first|exact .inl (by omega)|exact .inr (.inl (by omega))|exact .inr (.inr ⟨by assumption,by assumption⟩))))
   |exact z85 (k+1) [] ⟨by omega,hyes ⟨by omega,by omega,by first|exact .inl (by assumption)|exact .inr (by assumption)⟩⟩ (by omega) ⟨rfl,by decide,rfl,by repeat' (first|exact True.intro|exact ⟨rfl,rfl⟩|apply y43),by repeat' (exact True.intro)⟩
   |omega
 ·repeat' (first|apply y4 ok;rfl;conv=>whnf|apply y43;(omega);conv=>whnf|with_reducible apply z8;omega;intro _;conv=>whnf|with_reducible apply z52;omega;intro _;conv=>whnf|apply z6<;>intro _<;>conv=>whnf|apply z82<;>intro _<;>conv=>whnf)
  all_goals try (exfalso;omega)
  refine z19 rfl (y82 ?_)
  intro x hx
  obtain ⟨i,hi,rfl⟩:=List.mem_iff_getElem.1 hx
  exact hk2 i hi (by omega)
def z593 (rows:List (List Int)) (ini:List Int) (acc:List Bool) (N:Nat) (ranks:List Int):Prop :=
 ranks.length=N∧(∀ x∈ranks,-1≤x∧x≤4000)∧(∀ x∈ini,0≤rk ranks x)∧∀ i (h:i < ranks.length),0≤ranks[i]→z431 (rows.getD i []) ranks ranks[i] (acc.getD (i % acc.length) false)
noncomputable instance {rows:List (List Int)} {ini:List Int} {acc:List Bool} {N:Nat} {ranks:List Int} : Decidable (z593 rows ini acc N ranks):=Classical.propDecidable _
noncomputable def z309 (g:Graph) (l:List Tree) (a:Aut) (c:Cert):Bool:=glB g l && autB a && decide (z593 (z33 g (g.st.map (z32 l)) a) a.ini a.acc (g.st.length * a.acc.length) c.ranks)
def Cert.mx (c:Cert):Prop:=c.ranks.length≤maxLen
set_option maxHeartbeats 800000 in
theorem z260 (g:Graph) (hg:g.mx) (l:List Tree) (hl:Lmx l) (a:Aut) (ha:a.mx) (c:Cert) (hc:c.mx):QQ 47 [.agg g.cs,lst 3 Tree.cs' l,.agg a.cs,.agg c.cs] [] (.bool (z309 g l a c)) []:=by
 have hcm:=hc
 unfold Cert.mx maxLen at hcm
 by_cases hgl:glB g l=true
 ·have hG:=(z95 g).1 (by unfold glB at hgl;exact (Bool.and_eq_true_iff.1 hgl).1)
  have hL:=y8 (by unfold glB at hgl;exact (Bool.and_eq_true_iff.1 hgl).2)
  have k1:=z166 g hg l hl
  rw [hgl,if_pos rfl] at k1
  by_cases hab:autB a=true
  ·have hA:=z137.1 hab
   have hlr:∀ x∈g.st.map (z32 l),0≤x∧x≤7:=fun x hx=>by
    obtain ⟨s,_,rfl⟩:=List.mem_map.1 hx
    exact z181 hL s
   have k2:=z298 g hG (g.st.map (z32 l)) (by simp) hlr a hA
   have hrows:=z361 g hG (g.st.map (z32 l)) a hA
   have hrl:(z33 g (g.st.map (z32 l)) a).length=g.st.length * a.acc.length:=by unfold z33;rw [z84,Nat.mul_comm]
   have hN:=z120 (a:=(g.st.length:Int)) (b:=(a.acc.length:Int)) (A:=60) (B:=64) (by omega) (by have:=hG.1;omega) (by omega) (by have:=hA.1;omega)
   have hN2:((g.st.length * a.acc.length:Nat):Int)=(g.st.length:Int) * a.acc.length:=by simp
   have hini:=hA.2.2.1
   have e:z309 g l a c=decide (z593 (z33 g (g.st.map (z32 l)) a) a.ini a.acc (g.st.length * a.acc.length) c.ranks):=by unfold z309;rw [hgl,hab];rfl
   rw [e]
   have hrowl:=z293 g hG (g.st.map (z32 l)) a hA
   generalize z33 g (g.st.map (z32 l)) a=rows at k2 hrows hrl hrowl
   have k3:=z129 a ha
   rw [hab] at k3
   have ha1:=hA.1
   refine z12 z15 func47 rfl rfl 112 ntmps47 (by simp) ?_
   repeat' (first|apply y4 ok;rfl;conv=>whnf|apply y43;((unfold inI;omega));conv=>whnf|apply z42<;>intro _<;>conv=>whnf|apply z4 k1;rfl;rfl;conv=>whnf|apply z4 k3;rfl;rfl;conv=>whnf|apply z4 k2;rfl;rfl;conv=>whnf)
   ·rename_i hlen
    exact z19 rfl (y83 fun h=>hlen (by rw [h.1];exact hN2))
   rename_i hlen
   have hcl:c.ranks.length=g.st.length * a.acc.length:=by omega
   have hmod:∀ k:Nat,(((k:Int) % (a.acc.length:Int)).toNat)=k % a.acc.length:=fun k=>by omega
   have hmodlt:∀ k:Nat,k % a.acc.length < a.acc.length:=fun k=>Nat.mod_lt _ (by omega)
   refine z97 (fun k:Nat=>([(4,.ptr 0 none 0),(6,.ptr 1 none 0),(7,.ptr 2 none 0),(11,lst 1 encL rows),(12,.int k)],[.cells 2 [[lst 2 State.cs g.st,lst 1 encL g.nx]],.cells 3 [[lst 1 enI a.ini,lst 1 enB a.acc,lst 4 Trans.cs a.ed]],.cells 1 [[lst 1 enI c.ranks]]])) (fun k=>k≤c.ranks.length∧∀ i (h:i < c.ranks.length),i < k→(-1≤c.ranks[i]∧c.ranks[i]≤4000)∧(0≤c.ranks[i]→z431 (rows.getD i []) c.ranks c.ranks[i] (a.acc.getD (i % a.acc.length) false))) (fun k=>c.ranks.length - k) 0 ⟨by omega,fun i h hi=>by omega⟩ ⟨[0,1,2],rfl,by decide,rfl,by repeat' (first|exact True.intro|exact ⟨rfl,rfl⟩|apply y43),by repeat' (first|exact True.intro|exact z21 rfl rfl|apply y43)⟩ ?_
   rintro k ⟨hk1,hk2⟩
   have hm:=hmod k
   have hml:=hmodlt k
   by_cases hkl:k < c.ranks.length
   ·have hrr:k < rows.length:=by omega
    have hacc:a.acc.getD (k % a.acc.length) false=a.acc[((k:Int) % (a.acc.length:Int)).toNat]'(by omega):=by
     rw [z14 hml];simp only [hm]
    have hrw:rows.getD k []=rows[k]:=z14 hrr
    have hrl2:rows[k].length≤maxLen:=by have:=hrowl _ (y44 hrr);unfold maxLen;omega
    have hxs:∀ x∈rows[k],0≤x∧x < c.ranks.length:=fun x hx=>by
     have:=hrows _ (y44 hrr) x hx
     rw [hcl];exact this
    have hkacc:((k:Int) % (a.acc.length:Int)).toNat < a.acc.length:=by omega
    have hnode:=z1187 rows[k] c.ranks c.ranks[k] (a.acc[((k:Int) % (a.acc.length:Int)).toNat]'hkacc) hrl2 hxs
    have hno:z593 rows a.ini a.acc (g.st.length * a.acc.length) c.ranks→(-1≤c.ranks[k]∧c.ranks[k]≤4000)∧(0≤c.ranks[k]→z431 rows[k] c.ranks c.ranks[k] (a.acc[((k:Int) % (a.acc.length:Int)).toNat]'hkacc)):=fun h=>by
     have h1:=h.2.2.2 k hkl
     rw [hrw,hacc] at h1
     exact ⟨h.2.1 _ (y44 _),h1⟩
    have hyes:((-1≤c.ranks[k]∧c.ranks[k]≤4000)∧(0≤c.ranks[k]→z431 rows[k] c.ranks c.ranks[k] (a.acc[((k:Int) % (a.acc.length:Int)).toNat]'hkacc)))→∀ i (h:i < c.ranks.length),i < k+1→(-1≤c.ranks[i]∧c.ranks[i]≤4000)∧(0≤c.ranks[i]→z431 (rows.getD i []) c.ranks c.ranks[i] (a.acc.getD (i % a.acc.length) false)):=fun h i hi hik=>by
     rcases y70 i k with h3|h3
     ·exact hk2 i hi h3
     ·obtain rfl:i=k:=by omega
      rw [hrw,hacc];exact h
    repeat' (first|apply y4 ok;rfl;conv=>whnf|apply z23;kernel_rfl;conv=>whnf|apply y43;(first|omega|unfold inI;omega);conv=>whnf|with_reducible apply z8;omega;intro _;conv=>whnf|with_reducible apply z52;omega;intro _;conv=>whnf|apply z6<;>intro _<;>conv=>whnf|apply z42<;>intro _<;>conv=>whnf|apply z4 hnode;rfl;rfl;conv=>whnf)
    ·exact z19 rfl (y83 fun h=>by have:=(hno h).1;omega)
    ·exact z19 rfl (y83 fun h=>by have:=(hno h).1;omega)
    ·rename_i hn
     exact z19 rfl (y83 fun h=>hn ((hno h).2 (by assumption)))
    ·rename_i hn
     exact z85 (k+1) [0,1,2] ⟨by omega,hyes ⟨by omega,fun _=>hn⟩⟩ (by omega) ⟨rfl,by decide,rfl,by repeat' (first|exact True.intro|exact ⟨rfl,rfl⟩|apply y43),by repeat' (first|exact True.intro|exact z21 rfl rfl|apply y43)⟩
    ·rename_i hn
     exact z85 (k+1) [0,1,2] ⟨by omega,hyes ⟨by omega,fun h=>absurd h hn⟩⟩ (by omega) ⟨rfl,by decide,rfl,by repeat' (first|exact True.intro|exact ⟨rfl,rfl⟩|apply y43),by repeat' (first|exact True.intro|exact z21 rfl rfl|apply y43)⟩
    ·omega
   ·repeat' (first|apply y4 ok;rfl;conv=>whnf|apply z23;kernel_rfl;conv=>whnf|apply y43;(omega);conv=>whnf|with_reducible apply z8;omega;intro _;conv=>whnf|with_reducible apply z52;omega;intro _;conv=>whnf|apply z6<;>intro _<;>conv=>whnf)
    all_goals try (exfalso;omega)
    obtain rfl:k=c.ranks.length:=by omega
    have hil:=hini.le (by omega)
    refine z97 (fun j:Nat=>([(6,.ptr 1 none 0),(7,.ptr 2 none 0),(13,.int j)],[.cells 2 [[lst 2 State.cs g.st,lst 1 encL g.nx]],.cells 3 [[lst 1 enI a.ini,lst 1 enB a.acc,lst 4 Trans.cs a.ed]],.cells 1 [[lst 1 enI c.ranks]]])) (fun j=>j≤a.ini.length∧∀ i (h:i < a.ini.length),i < j→0≤rk c.ranks a.ini[i]) (fun j=>a.ini.length - j) 0 ⟨by omega,fun i h hi=>by omega⟩ ⟨[0,1,2],rfl,by decide,rfl,by repeat' (first|exact True.intro|exact ⟨rfl,rfl⟩|apply y43),by repeat' (first|exact True.intro|exact z21 rfl rfl|apply y43)⟩ ?_
    rintro j ⟨hj1,hj2⟩
    by_cases hjl:j < a.ini.length
    ·have hin:=(hini j hjl hjl).1
     have hb1:=z120 (a:=(g.st.length:Int) - 1) (b:=(a.acc.length:Int)) (A:=60) (B:=64) (by have:=hG.1;omega) (by have:=hG.1;omega) (by omega) (by omega)
     rw [Int.sub_mul,Int.one_mul] at hb1
     have hix:a.ini[j].toNat < c.ranks.length:=by rw [hcl];omega
     have hrk:rk c.ranks a.ini[j]=c.ranks[a.ini[j].toNat]'hix:=z14 hix
     repeat' (first|apply y4 ok;rfl;conv=>whnf|apply z23;kernel_rfl;conv=>whnf|apply y43;(first|omega|unfold inI;omega);conv=>whnf|with_reducible apply z8;omega;intro _;conv=>whnf|with_reducible apply z52;omega;intro _;conv=>whnf|apply z6<;>intro _<;>conv=>whnf)
     ·exact z19 rfl (y83 fun h=>by have:=h.2.2.1 _ (y44 hjl);rw [hrk] at this;omega)
     ·refine z85 (j+1) [0,1,2] ⟨by omega,fun i hi hij=>?_⟩ (by omega) ⟨rfl,by decide,rfl,by repeat' (first|exact True.intro|exact ⟨rfl,rfl⟩|apply y43),by repeat' (first|exact True.intro|exact z21 rfl rfl|apply y43)⟩
      rcases y70 i j with h3|h3
      ·exact hj2 i hi h3
      ·obtain rfl:i=j:=by omega
       rw [hrk];omega
     ·omega
    ·repeat' (first|apply y4 ok;rfl;conv=>whnf|apply z23;kernel_rfl;conv=>whnf|apply y43;(omega);conv=>whnf|with_reducible apply z8;omega;intro _;conv=>whnf|with_reducible apply z52;omega;intro _;conv=>whnf|apply z6<;>intro _<;>conv=>whnf)
     all_goals try (exfalso;omega)
     refine z19 rfl (y82 ⟨hcl,fun x hx=>?_,fun x hx=>?_,fun i h=>?_⟩)
     ·obtain ⟨i,hi,rfl⟩:=List.mem_iff_getElem.1 hx
      exact (hk2 i hi hi).1
     ·obtain ⟨i,hi,rfl⟩:=List.mem_iff_getElem.1 hx
      exact hj2 i hi (by omega)
     ·exact (hk2 i h h).2
  ·have hab:=(y72 _).mp hab
   have e:z309 g l a c=false:=by unfold z309;rw [hab,Bool.and_false];rfl
   have k3:=z129 a ha
   rw [hab] at k3
   rw [e]
   refine z12 z15 func47 rfl rfl 112 ntmps47 (by simp) ?_
   repeat' (first|apply y4 ok;rfl;conv=>whnf|apply z4 k1;rfl;rfl;conv=>whnf|apply z4 k3;rfl;rfl;conv=>whnf)
   all_goals (refine z19 rfl ?_;rfl)
 ·have k1:=z166 g hg l hl
  have hgl:=(y72 _).mp hgl
  rw [hgl,if_neg (by simp)] at k1
  have e:z309 g l a c=false:=by unfold z309;rw [hgl];rfl
  rw [e]
  refine z12 z15 func47 rfl rfl 112 ntmps47 (by simp) ?_
  repeat' (first|apply y4 ok;rfl;conv=>whnf|apply z4 k1;rfl;rfl;conv=>whnf)
  all_goals (refine z19 rfl ?_;rfl)
theorem z708 (n:Int):QQ 99 [.int n] [] (.bool (!btw n (-1) 4000)) []:=by
 refine z12 z15 func99 rfl rfl 6 ntmps99 (by simp) ?_
 repeat' (first|apply y4 ok;rfl;conv=>whnf|apply z4 (z266 n (-1) 4000);rfl;rfl;conv=>whnf)
 exact z19 rfl rfl
set_option maxHeartbeats 1600000 in
theorem z367 (g:Graph) (hg:g.mx) (l:List Tree) (hl:Lmx l) (a:Aut) (ha:a.mx) (c:Cert) (hc:c.mx):QQ 39 [.agg g.cs,lst 3 Tree.cs' l,.agg a.cs,.agg c.cs] [] (.bool (z309 g l a c)) []:=by
 have hcm:=hc
 unfold Cert.mx maxLen at hcm
 have k1:=z632 g hg l hl a ha
 by_cases hgl:(glB g l && autB a)=true
 ·rw [hgl] at k1
  obtain ⟨hgl,hab⟩:=Bool.and_eq_true_iff.1 hgl
  have hG:=(z95 g).1 (by unfold glB at hgl;exact (Bool.and_eq_true_iff.1 hgl).1)
  have hL:=y8 (by unfold glB at hgl;exact (Bool.and_eq_true_iff.1 hgl).2)
  have hA:=z137.1 hab
  have k2:=z604 g hG l hL a hA
  have kc:=z187 c.ranks hc (fun n=>!btw n (-1) 4000) 99 (fun x _=>z708 x)
  have hrows:=z361 g hG (g.st.map (z32 l)) a hA
  have hrowl:=z293 g hG (g.st.map (z32 l)) a hA
  have hrl:(z33 g (g.st.map (z32 l)) a).length=g.st.length * a.acc.length:=by unfold z33;rw [z84,Nat.mul_comm]
  have ha1:=hA.1
  have hN:=z120 (a:=(g.st.length:Int)) (b:=(a.acc.length:Int)) (A:=60) (B:=64) (by omega) (by have:=hG.1;omega) (by omega) (by omega)
  have hN2:((g.st.length * a.acc.length:Nat):Int)=(g.st.length:Int) * a.acc.length:=by simp
  have hini:=hA.2.2.1
  have e:z309 g l a c=decide (z593 (z33 g (g.st.map (z32 l)) a) a.ini a.acc (g.st.length * a.acc.length) c.ranks):=by unfold z309;rw [hgl,hab];rfl
  rw [e]
  generalize z33 g (g.st.map (z32 l)) a=rows at k2 hrows hrl hrowl
  refine z12 z15 func39 rfl rfl 104 ntmps39 (by simp) ?_
  repeat' (first|apply y4 ok;rfl;conv=>whnf|apply y43;((unfold inI;omega));conv=>whnf|apply z42<;>intro _<;>conv=>whnf|apply z82<;>intro _<;>conv=>whnf|apply z4 k1;rfl;rfl;conv=>whnf|apply z4 kc;rfl;rfl;conv=>whnf|apply z4 k2;rfl;rfl;conv=>whnf)
  ·rename_i hlen
   exact z19 rfl (y83 fun h=>hlen (by rw [h.1];exact hN2))
  ·rename_i hlen hany
   refine z19 rfl (y83 fun h=>?_)
   obtain ⟨x,hx,hb⟩:=List.any_eq_true.1 hany
   have:=h.2.1 x hx
   rw [← z94] at this
   rw [this] at hb;simp at hb
  rename_i hlen hany
  have hcl:c.ranks.length=g.st.length * a.acc.length:=by omega
  have hrng:∀ x∈c.ranks,-1≤x∧x≤4000:=fun x hx=>by
   have:=List.any_eq_false.1 hany x hx
   rw [← z94];simpa using this
  have hmod:∀ k:Nat,(((k:Int) % (a.acc.length:Int)).toNat)=k % a.acc.length:=fun k=>by omega
  have hmodlt:∀ k:Nat,k % a.acc.length < a.acc.length:=fun k=>Nat.mod_lt _ (by omega)
  have hil:=hini.le (by omega)
  refine z97 (fun j:Nat=>([(6,.ptr 1 none 0),(7,.ptr 2 none 0),(9,lst 1 encL rows),(48,ints a.ini),(49,.int a.ini.length),(50,.int j)],[.cells 2 [[lst 2 State.cs g.st,lst 1 encL g.nx]],.cells 3 [[lst 1 enI a.ini,lst 1 enB a.acc,lst 4 Trans.cs a.ed]],.cells 1 [[lst 1 enI c.ranks]]])) (fun j=>j≤a.ini.length∧∀ i (h:i < a.ini.length),i < j→0≤rk c.ranks a.ini[i]) (fun j=>a.ini.length - j) 0 ⟨by omega,fun i h hi=>by omega⟩ ⟨[0,1,2],rfl,by decide,rfl,by repeat' (first|exact True.intro|exact ⟨rfl,rfl⟩|apply y43),by repeat' (first|exact True.intro|exact z21 rfl rfl|apply y43)⟩ ?_
  rintro j ⟨hj1,hj2⟩
  by_cases hjl:j < a.ini.length
  ·have hin:=(hini j hjl hjl).1
   have hb1:=z120 (a:=(g.st.length:Int) - 1) (b:=(a.acc.length:Int)) (A:=60) (B:=64) (by have:=hG.1;omega) (by have:=hG.1;omega) (by omega) (by omega)
   rw [Int.sub_mul,Int.one_mul] at hb1
   have hix:a.ini[j].toNat < c.ranks.length:=by rw [hcl];omega
   have hrk:rk c.ranks a.ini[j]=c.ranks[a.ini[j].toNat]'hix:=z14 hix
   repeat' (first|apply y4 ok;rfl;conv=>whnf|apply y43;(first|omega|unfold inI;omega);conv=>whnf|with_reducible apply z8;omega;intro _;conv=>whnf|with_reducible apply z52;omega;intro _;conv=>whnf|apply z6<;>intro _<;>conv=>whnf)
   ·exact z19 rfl (y83 fun h=>by have:=h.2.2.1 _ (y44 hjl);rw [hrk] at this;omega)
   ·refine z85 (j+1) [0,1,2] ⟨by omega,fun i hi hij=>?_⟩ (by omega) ⟨rfl,by decide,rfl,by repeat' (first|exact True.intro|exact ⟨rfl,rfl⟩|apply y43),by repeat' (first|exact True.intro|exact z21 rfl rfl|apply y43)⟩
    rcases y70 i j with h3|h3
    ·exact hj2 i hi h3
    ·obtain rfl:i=j:=by omega
     rw [hrk];omega
   ·omega
  repeat' (first|apply y4 ok;rfl;conv=>whnf|apply y43;(omega);conv=>whnf|with_reducible apply z8;omega;intro _;conv=>whnf|with_reducible apply z52;omega;intro _;conv=>whnf|apply z6<;>intro _<;>conv=>whnf)
  all_goals try (exfalso;omega)
  have hiniR:∀ x∈a.ini,0≤rk c.ranks x:=fun x hx=>by
   obtain ⟨i,hi,rfl⟩:=List.mem_iff_getElem.1 hx
   exact hj2 i hi (by omega)
  clear hj1 hj2 hjl
  refine z97 (fun k:Nat=>([(6,.ptr 1 none 0),(7,.ptr 2 none 0),(9,lst 1 encL rows),(62,ints c.ranks),(63,.int c.ranks.length),(64,.int k)],[.cells 2 [[lst 2 State.cs g.st,lst 1 encL g.nx]],.cells 3 [[lst 1 enI a.ini,lst 1 enB a.acc,lst 4 Trans.cs a.ed]],.cells 1 [[lst 1 enI c.ranks]]])) (fun k=>k≤c.ranks.length∧∀ i (h:i < c.ranks.length),i < k→0≤c.ranks[i]→z431 (rows.getD i []) c.ranks c.ranks[i] (a.acc.getD (i % a.acc.length) false)) (fun k=>c.ranks.length - k) 0 ⟨by omega,fun i h hi=>by omega⟩ ⟨[0,1,2],rfl,by decide,rfl,by repeat' (first|exact True.intro|exact ⟨rfl,rfl⟩|apply y43),by repeat' (first|exact True.intro|exact z21 rfl rfl|apply y43)⟩ ?_
  rintro k ⟨hk1,hk2⟩
  have hm:=hmod k
  have hml:=hmodlt k
  by_cases hkl:k < c.ranks.length
  ·have hrr:k < rows.length:=by omega
   have hkacc:((k:Int) % (a.acc.length:Int)).toNat < a.acc.length:=by omega
   have hacc:a.acc.getD (k % a.acc.length) false=(a.acc[((k:Int) % (a.acc.length:Int)).toNat]'hkacc):=by
    rw [z14 hml];simp only [hm]
   have hrw:rows.getD k []=rows[k]:=z14 hrr
   have hrl2:rows[k].length≤7372800:=hrowl _ (y44 hrr)
   have hxs:∀ x∈rows[k],0≤x∧x < c.ranks.length:=fun x hx=>by
    have:=hrows _ (y44 hrr) x hx
    rw [hcl];exact this
   have hrk:=hrng c.ranks[k] (y44 hkl)
   have hno:z593 rows a.ini a.acc (g.st.length * a.acc.length) c.ranks→0≤c.ranks[k]→z431 rows[k] c.ranks c.ranks[k] (a.acc[((k:Int) % (a.acc.length:Int)).toNat]'hkacc):=fun h=>by
    have h1:=h.2.2.2 k hkl
    rw [hrw,hacc] at h1
    exact h1
   have hyes:(0≤c.ranks[k]→z431 rows[k] c.ranks c.ranks[k] (a.acc[((k:Int) % (a.acc.length:Int)).toNat]'hkacc))→∀ i (h:i < c.ranks.length),i < k+1→0≤c.ranks[i]→z431 (rows.getD i []) c.ranks c.ranks[i] (a.acc.getD (i % a.acc.length) false):=fun h i hi hik=>by
    rcases y70 i k with h3|h3
    ·exact hk2 i hi h3
    ·obtain rfl:i=k:=by omega
     rw [hrw,hacc];exact h
   generalize hacd:(a.acc[((k:Int) % (a.acc.length:Int)).toNat]'hkacc)=ac at hno hyes
   repeat' (first|apply y4 ok;rfl;conv=>whnf|apply z23;kernel_rfl;conv=>whnf|apply y43;(first|omega|unfold inI;omega);conv=>whnf|with_reducible apply z8;omega;intro _;conv=>whnf|with_reducible apply z52;omega;intro _;conv=>whnf|apply z6<;>intro _<;>conv=>whnf|apply z82<;>intro _<;>conv=>whnf)
   all_goals try (exfalso;omega)
   all_goals (rw [hacd] at *)
   all_goals
    refine z97 (fun j:Nat=>([(6,.ptr 1 none 0),(7,.ptr 2 none 0),(9,lst 1 encL rows),(62,ints c.ranks),(63,.int c.ranks.length),(64,.int k),(14,.int c.ranks[k]),(15,.int (less ac c.ranks[k])),(84,ints rows[k]),(85,.int rows[k].length),(86,.int j)],[.cells 2 [[lst 2 State.cs g.st,lst 1 encL g.nx]],.cells 3 [[lst 1 enI a.ini,lst 1 enB a.acc,lst 4 Trans.cs a.ed]],.cells 1 [[lst 1 enI c.ranks]]])) (fun j=>j≤rows[k].length∧∀ i (h:i < rows[k].length),i < j→0≤c.ranks[k]→0≤rk c.ranks rows[k][i]∧rk c.ranks rows[k][i]≤less ac c.ranks[k]) (fun j=>rows[k].length - j) 0 ⟨by omega,fun i h hi=>by omega⟩ ⟨[0,1,2],rfl,by decide,rfl,⟨⟨rfl,rfl⟩,⟨rfl,rfl⟩,⟨rfl,rfl⟩,⟨rfl,rfl⟩,⟨rfl,rfl⟩,⟨rfl,rfl⟩,⟨rfl,rfl⟩,⟨rfl,by first|rw [show less ac c.ranks[k]=c.ranks[k] - 1 from if_pos (by assumption)];rfl|(rw [show less ac c.ranks[k]=c.ranks[k] from if_neg (by simp [*])];rfl)⟩,⟨rfl,rfl⟩,⟨rfl,rfl⟩,⟨rfl,rfl⟩,trivial⟩,⟨z21 rfl rfl,z21 rfl rfl,z21 rfl rfl,trivial⟩⟩ ?_
    rintro j ⟨hj1,hj2⟩
    by_cases hjl:j < rows[k].length
    ·have hx:=hxs _ (y44 hjl)
     have hix:rows[k][j].toNat < c.ranks.length:=by omega
     have hrk2:rk c.ranks rows[k][j]=c.ranks[rows[k][j].toNat]'hix:=z14 hix
     repeat' (first|apply y4 ok;rfl;conv=>whnf|apply y43;(first|omega|unfold inI;omega);conv=>whnf|with_reducible apply z8;omega;intro _;conv=>whnf|with_reducible apply z52;omega;intro _;conv=>whnf|apply z6<;>intro _<;>conv=>whnf|apply z78<;>intro _<;>conv=>whnf|apply z4 (z266 _ 0 (less ac c.ranks[k]));rfl;rfl;conv=>whnf)
     ·rename_i hb
      rw [z250] at hb
      exact z19 rfl (y83 fun h=>hb (by rw [← hrk2];exact hno h (by assumption) _ (y44 hjl)))
     ·rename_i hb
      refine z85 (j+1) [0,1,2] ⟨by omega,fun i hi hij h0=>?_⟩ (by omega) ⟨rfl,by decide,rfl,by repeat' (first|exact True.intro|exact ⟨rfl,rfl⟩|apply y43),by repeat' (first|exact True.intro|exact z21 rfl rfl|apply y43)⟩
      rcases y70 i j with h3|h3
      ·exact hj2 i hi h3 h0
      ·obtain rfl:i=j:=by omega
       rw [hrk2];exact z94.1 hb
     ·refine z85 (j+1) [0,1,2] ⟨by omega,fun i hi hij h0=>?_⟩ (by omega) ⟨rfl,by decide,rfl,by repeat' (first|exact True.intro|exact ⟨rfl,rfl⟩|apply y43),by repeat' (first|exact True.intro|exact z21 rfl rfl|apply y43)⟩
      exact absurd h0 (by assumption)
     ·omega
    ·repeat' (first|apply y4 ok;rfl;conv=>whnf|apply y43;(first|omega|unfold inI;omega);conv=>whnf|with_reducible apply z8;omega;intro _;conv=>whnf|with_reducible apply z52;omega;intro _;conv=>whnf|apply z6<;>intro _<;>conv=>whnf)
     all_goals try (exfalso;omega)
     refine z85 (k+1) [0,1,2] ⟨by omega,hyes fun h0 x hx=>?_⟩ (by omega) ⟨rfl,by decide,rfl,by repeat' (first|exact True.intro|exact ⟨rfl,rfl⟩|apply y43),by repeat' (first|exact True.intro|exact z21 rfl rfl|apply y43)⟩
     obtain ⟨i,hi,rfl⟩:=List.mem_iff_getElem.1 hx
     exact hj2 i hi (by omega) h0
  ·repeat' (first|apply y4 ok;rfl;conv=>whnf|apply z23;kernel_rfl;conv=>whnf|apply y43;(omega);conv=>whnf|with_reducible apply z8;omega;intro _;conv=>whnf|with_reducible apply z52;omega;intro _;conv=>whnf|apply z6<;>intro _<;>conv=>whnf|apply z82<;>intro _<;>conv=>whnf)
   all_goals try (exfalso;omega)
   exact z19 rfl (y82 ⟨hcl,hrng,hiniR,fun i h=>hk2 i h (by omega)⟩)
 ·have hgl:=(y72 _).mp hgl
  rw [hgl] at k1
  have e:z309 g l a c=false:=by unfold z309;rw [hgl];rfl
  rw [e]
  refine z12 z15 func39 rfl rfl 104 ntmps39 (by simp) ?_
  repeat' (first|apply y4 ok;rfl;conv=>whnf|apply z4 k1;rfl;rfl;conv=>whnf)
  all_goals (refine z19 rfl ?_;rfl)
theorem z554 (l:List Int) (hl:l.length≤1048576):QQ 66 [.sref 0 0 l.length] [.cells 1 (l.map enI)] (.sref 0 0 l.length) [.cells 1 (l.map enI)]:=by
 refine z12 z15 func66 rfl rfl 9 ntmps66 (by simp) ?_
 repeat' (first|apply y4 ok;rfl;conv=>whnf|apply y43;(omega);conv=>whnf)
 exact z108 rfl (z5 fun _=>rfl) (by omega) rfl rfl
theorem z810 (l:List Int) (hl:l.length≤1048576):QQ 201 [ints l] [] (.sref 0 0 l.length) [.cells 1 (l.map enI)]:=by
 by_cases hp:0 < l.length
 ·exact z630 l hl hp
 ·obtain rfl:l=[]:=y74 (by omega)
  refine z211 (z300 func201 rfl (by rfl)) fun ad cap=>?_
  cases ad with
  |none =>
   refine CallsA.nils (res:=.nils) (l:=[.cells 1 []]) ?_ (by simp) z322
   refine z12 z15 func201 rfl rfl 8 ntmps201 (by simp) ?_
   repeat' ((apply y4 ok;rfl;conv=>whnf))
   all_goals exact z55 rfl rfl rfl
  |some p =>
   refine z12 z15 func201 rfl rfl 8 ntmps201 (by simp) ?_
   repeat' (first|apply y4 ok;rfl;conv=>whnf|apply y43;(omega);conv=>whnf)
   all_goals (exact z108 rfl z25 rfl rfl rfl)
theorem z695 (l:List Int) (hl:l.length≤1048576):QQ 137 [ints l] [] (.sref 0 0 l.length) [.cells 1 (l.map enI)]:=by
 refine z12 z15 func137 rfl rfl 6 ntmps137 (by simp) ?_
 repeat' (first|apply y4 ok;rfl;conv=>whnf|apply z103 [] [] [0] (z810 l hl);rfl;(focus ((repeat' (exact z38))<;>(fail)));rfl;rfl;rfl;rfl;rfl;(focus ((repeat' (first|exact z17|apply z16))<;>((refine z20 ?_;((exact z5 (fun _=>rfl)))))));(exact .inl rfl);conv=>whnf|apply z103 [0] [] [] (z554 l hl);rfl;(focus ((repeat' (first|exact z38|apply z48))<;>((refine z65 rfl ?_;((exact z5 (fun _=>rfl)))))));rfl;rfl;rfl;rfl;rfl;(focus ((repeat' (first|exact z17|apply z16))<;>((refine z20 ?_;((exact z5 (fun _=>rfl)))))));(exact .inl rfl);conv=>whnf)
 exact z108 rfl (z5 fun _=>rfl) rfl rfl rfl
structure Graph.ok (g:Graph):Prop where
 mx:g.mx
 st:g.st.length≤1048576
 nx:g.nx.length≤1048576
 states:∀ s∈g.st,s.small
 rows:∀ r∈g.nx,r.length≤1048576
 sumS:(g.st.map State.sz).sum≤1048576
 sumN:(g.nx.map List.length).sum≤1048576
theorem Graph.ok_of {g:Graph} (hg:g.mx) (h1:g.s1≤1048576) (h2:g.s2≤1048576):g.ok:=by
 unfold Graph.s1 tot at h1
 unfold Graph.s2 tot at h2
 refine ⟨hg,by omega,by omega,fun s hs=>?_,fun r hr=>?_,by omega,by omega⟩
 ·have:=z349 State.sz hs
  unfold State.sz at this h1
  exact ⟨by omega,by omega⟩
 ·have:=z349 List.length hr;omega
structure LabOk (l:List Tree):Prop where
 mx:Lmx l
 len:l.length≤1048576
 el:∀ t∈l,t.sz≤1048576
 sum:(l.map Tree.sz).sum≤1048576
theorem LabOk.of {l:List Tree} (hl:Lmx l) (h:tot Tree.sz l≤1048576):LabOk l:=by
 unfold tot at h
 exact ⟨hl,by omega,fun t ht=>by have:=z349 Tree.sz ht;omega,by omega⟩
def enU (n:Int):List AC:=[.raw (.int .u8 n)]
def rdO (bs:List Int) (p:Int):AObj:=.cells 2 [[lst 1 enU bs,.int p]]
structure BytesOk (bs:List Int):Prop where
 len:bs.length≤2000
 el:∀ x∈bs,0≤x∧x≤255
theorem u_at {l:List Int} {i:Nat} (h:i < l.length):(l.map enU)[i]?=some (enU l[i]):=by rw [y51,y45 h];rfl
theorem rem_at {l:List Int} {i:Int} (h:0 < l.length) (h0:0≤i):(i % (l.length:Int)).toNat < l.length:=by
 have:=Int.emod_lt_of_pos i (show (0:Int) < l.length by omega)
 have:=Int.emod_nonneg i (show (l.length:Int)≠0 by omega)
 omega
set_option maxHeartbeats 1600000 in
theorem z73 (bs:List Int) (hb:BytesOk bs) (p n:Int) (h0:0≤p) (h1:p≤1000000000) (hn:n≤1000000000):∃ v:Int,(0≤v∧(1≤n→v < n))∧QQ 101 [.ptr 0 none 0,.int n] [rdO bs p] (.int v) [rdO bs (p+1)]:=by
 have hlen:=hb.len
 by_cases hz:n < 1∨bs.length=0
 ·refine ⟨0,⟨by omega,fun _=>by omega⟩,?_⟩
  refine z12 z15 func101 rfl rfl 99 ntmps101 (by simp) ?_
  repeat' (first|apply y4 ok;rfl;conv=>whnf|apply z23;kernel_rfl;conv=>whnf|apply y43;(first|omega|unfold inI;omega);conv=>whnf|with_reducible apply z52;omega;intro _;conv=>whnf|apply z6<;>intro _<;>conv=>whnf)
  all_goals first|exfalso;omega|exact z90 [0] (by decide) rfl rfl rfl ⟨z21 rfl rfl,trivial⟩
 by_cases hk:p < bs.length
 ·have hp:(p+1 - 1).toNat < bs.length:=by omega
  have g0:=u_at (l:=bs) (i:=(p+1 - 1).toNat) hp
  have hr:=hb.el bs[(p+1 - 1).toNat] (y44 _)
  generalize bs[(p+1 - 1).toNat]=b at *
  have hw:IntKind.i64.wrap b=b:=IntWalk.i64_in _ (by omega)
  refine ⟨b % n,⟨Int.emod_nonneg _ (by omega),fun _=>Int.emod_lt_of_pos _ (by omega)⟩,?_⟩
  refine z12 z15 func101 rfl rfl 99 ntmps101 (by simp) ?_
  repeat' (first|apply y4 ok;rfl;conv=>whnf|apply z23;kernel_rfl;conv=>whnf|refine z13 (i:=(p+1 - 1).toNat) rfl g0 ?_;conv=>whnf|apply y43;(first|omega|unfold inI;omega);conv=>whnf|with_reducible apply z52;omega;intro _;conv=>whnf|apply z6<;>intro _<;>conv=>whnf)
  all_goals first|exfalso;omega|exact z90 [0] (by decide) rfl rfl rfl ⟨z21 rfl rfl,trivial⟩
 have hl0:0 < bs.length:=by omega
 have m1:=rem_at (l:=bs) (i:=p+1 - 1) hl0 (by omega)
 have m2:=rem_at (l:=bs) (i:=(p+1 - 1) * 7+3) hl0 (by omega)
 have g1:=u_at m1
 have g2:=u_at m2
 have r1:=hb.el bs[((p+1 - 1) % (bs.length:Int)).toNat] (y44 _)
 have r2:=hb.el bs[(((p+1 - 1) * 7+3) % (bs.length:Int)).toNat] (y44 _)
 generalize bs[((p+1 - 1) % (bs.length:Int)).toNat]=b1 at *
 generalize bs[(((p+1 - 1) * 7+3) % (bs.length:Int)).toNat]=b2 at *
 have w1:IntKind.i64.wrap b1=b1:=IntWalk.i64_in _ (by omega)
 have w2:IntKind.i64.wrap b2=b2:=IntWalk.i64_in _ (by omega)
 have n1:=Int.emod_nonneg (p+1 - 1) (show (bs.length:Int)≠0 by omega)
 have n2:=Int.emod_nonneg ((p+1 - 1) * 7+3) (show (bs.length:Int)≠0 by omega)
 have l1:=Int.emod_lt_of_pos (p+1 - 1) (show (0:Int) < bs.length by omega)
 have l2:=Int.emod_lt_of_pos ((p+1 - 1) * 7+3) (show (0:Int) < bs.length by omega)
 have q0:0≤(p+1 - 1) / (bs.length:Int):=Int.ediv_nonneg (by omega) (by omega)
 have q1:(p+1 - 1) / (bs.length:Int)≤p+1 - 1:=Int.ediv_le_self _ (by omega)
 have hx0:0≤b1 * 131+b2 * 1117+(p+1 - 1) * 29+(p+1 - 1) / (bs.length:Int) * 53:=by omega
 have hx1:b1 * 131+b2 * 1117+(p+1 - 1) * 29+(p+1 - 1) / (bs.length:Int) * 53≤1000000000000:=by omega
 have hq:0≤(b1 * 131+b2 * 1117+(p+1 - 1) * 29+(p+1 - 1) / (bs.length:Int) * 53) / 64∧(b1 * 131+b2 * 1117+(p+1 - 1) * 29+(p+1 - 1) / (bs.length:Int) * 53) / 64≤1000000000000:=by omega
 refine ⟨(((b1 * 131+b2 * 1117+(p+1 - 1) * 29+(p+1 - 1) / (bs.length:Int) * 53).toNat ^^^ ((b1 * 131+b2 * 1117+(p+1 - 1) * 29+(p+1 - 1) / (bs.length:Int) * 53) / 64).toNat:Nat):Int) % n,⟨Int.emod_nonneg _ (by omega),fun _=>Int.emod_lt_of_pos _ (by omega)⟩,?_⟩
 refine z12 z15 func101 rfl rfl 99 ntmps101 (by simp) ?_
 repeat' (first|apply y4 ok;rfl;conv=>whnf|apply z23;kernel_rfl;conv=>whnf|refine z13 (i:=(((p+1 - 1) * 7+3) % (bs.length:Int)).toNat) rfl g2 ?_;conv=>whnf|refine z13 (i:=((p+1 - 1) % (bs.length:Int)).toNat) rfl g1 ?_;conv=>whnf|apply y43;(first|omega|unfold inI;omega|unfold z100;omega);conv=>whnf|with_reducible apply z52;omega;intro _;conv=>whnf|apply z6<;>intro _<;>conv=>whnf)
 all_goals first|exfalso;omega|exact z90 [0] (by decide) rfl rfl rfl ⟨z21 rfl rfl,trivial⟩
theorem z1053 (bs:List Int) (hl:bs.length≤maxLen):QQ 40 [lst 1 enU bs] [] (.ptr 0 none 0) [rdO (bs.take 2000) 0]:=by
 unfold maxLen at hl
 refine z12 z15 func40 rfl rfl 11 ntmps40 (by simp) ?_
 by_cases h:bs.length≤2000
 ·rw [y57 h]
  repeat' (first|apply y4 ok;rfl;conv=>whnf|apply y43;(omega);conv=>whnf|apply z6<;>intro _<;>conv=>whnf)
  all_goals first|exfalso;omega|exact z90 [0] (by decide) rfl rfl rfl ⟨z21 rfl rfl,trivial⟩
 ·repeat' (first|apply y4 ok;rfl;conv=>whnf|apply y43;(omega);conv=>whnf|apply z6<;>intro _<;>conv=>whnf)
  all_goals try (exfalso;omega)
  all_goals exact z90 [0] (by decide) rfl rfl rfl ⟨z21 rfl (congrArg (fun x=>AObj.cells 2 [[x,AC.int 0]]) (z318 1 enU bs 2000 (by omega))),trivial⟩
theorem z112 (bs:List Int) (hb:BytesOk bs) (p:Int) (h0:0≤p) (h1:p≤1000000000) (l:List Int) (hl:0 < l.length) (hl2:l.length≤1000):∃ v:Int,v∈l∧QQ 104 [.ptr 0 none 0,.sref 1 0 l.length] [rdO bs p,.cells 1 (l.map enI)] (.int v) [rdO bs (p+1),.cells 1 (l.map enI)]:=by
 obtain ⟨k,⟨hk0,hk1⟩,hc⟩:=z73 bs hb p l.length h0 h1 (by omega)
 have hk:k.toNat < l.length:=by omega
 have g0:(l.map enI)[k.toNat]?=some (enI l[k.toNat]):=by rw [y51,y45 hk];rfl
 refine ⟨l[k.toNat],y44 _,?_⟩
 generalize l[k.toNat]=v at *
 refine z12 z15 func104 rfl rfl 12 ntmps104 (by simp) ?_
 repeat' (first|apply y4 ok;rfl;conv=>whnf|refine z13 (i:=k.toNat) rfl g0 ?_;conv=>whnf|apply y43;(omega);conv=>whnf|apply z103 [0] [] [] hc;rfl;(focus ((repeat' (first|exact z38|apply z48))<;>(rfl)));rfl;rfl;rfl;rfl;rfl;(focus ((repeat' (first|exact z17|apply z16))<;>(exact z47 rfl rfl)));(exact .inl rfl);conv=>whnf)
 all_goals (exact z90 [0,1] (by decide) rfl rfl rfl ⟨z21 rfl rfl,z51 rfl (z5 fun _=>rfl),trivial⟩)
theorem z101 (t:Tree):t.sz≤maxLen→t.mx:=by
 induction t using y27 with|h t ih=>?_
 intro h
 rw [y28]
 rw [y38] at h
 refine ⟨by omega,fun u hu=>ih u hu ?_⟩
 have:=z349 Tree.sz hu
 omega
abbrev few (p:Int):Prop:=0≤p∧p≤999999000
abbrev few1 (p:Int):Prop:=0≤p∧p≤999990000
abbrev few2 (p:Int):Prop:=0≤p∧p≤999900000
abbrev few3 (p:Int):Prop:=0≤p∧p≤999000000
def leaf (k v:Int):Tree:=.mk k v []
theorem z98 (k v:Int):(leaf k v).sz=0:=rfl
theorem z244 (k v:Int) (l:List Tree):(Tree.mk k v l).sz=l.length+(l.map Tree.sz).sum:=y38 _
set_option maxHeartbeats 1600000 in
theorem z616 (bs:List Int) (hb:BytesOk bs) (p:Int) (hp:few p):∃ (t:Tree) (p' : Int),(t.sz≤3∧p≤p'∧p'≤p+5)∧QQ 100 [.ptr 0 none 0] [rdO bs p] (z27 Tree.cs' t) [rdO bs p']:=by
 obtain ⟨v0,⟨l0,u0⟩,c0⟩:=z73 bs hb p 3 (by omega) (by omega) (by omega)
 by_cases h0:v0=0
 ·subst h0
  refine ⟨leaf 1 1,p+1,⟨by rw [z98];omega,by omega,by omega⟩,?_⟩
  refine z7 z15 func100 rfl rfl 31 ntmps100 (by simp) ?_
  repeat' ((first|apply y4 ok;rfl|apply z37 [0] [] c0;rfl;rfl;rfl)<;>conv=>whnf)
  all_goals (refine rsD [0] [] rfl ?_;(repeat' first|exact y86 _|exact z43|apply y87|apply z41|constructor))
 ·obtain ⟨v1,m1,c1⟩:=z112 bs hb (p+1) (by omega) (by omega) [0,1,0,2] (by decide) (by decide)
  obtain ⟨v2,⟨l2,u2⟩,c2⟩:=z73 bs hb (p+1+1) 3 (by omega) (by omega) (by omega)
  obtain ⟨v3,m3,c3⟩:=z112 bs hb (p+1+1+1) (by omega) (by omega) [6,7,6] (by decide) (by decide)
  obtain ⟨v4,⟨l4,u4⟩,c4⟩:=z73 bs hb (p+1+1+1+1) 5 (by omega) (by omega) (by omega)
  have z0:v0≠0:=h0
  by_cases h4:v4=0
  ·subst h4
   refine ⟨.mk 3 0 [.mk v3 0 [leaf 2 v1,leaf 1 v2]],p+1+1+1+1+1,⟨by simp [z244,z98],by omega,by omega⟩,?_⟩
   refine z7 z15 func100 rfl rfl 31 ntmps100 (by simp) ?_
   repeat' ((first|apply y4 ok;rfl|apply z23;kernel_rfl|apply z6<;>intro _|(first|apply z11 [0] [] c0;rfl;rfl|apply z11 [0,2] [] c1;rfl;rfl|apply z11 [0] [] c2;rfl;rfl|apply z11 [0,5] [] c3;rfl;rfl|apply z11 [0] [] c4;rfl;rfl);rfl;(focus ((repeat' first|exact z17|apply z16)<;>first|exact z47 rfl rfl|refine z20 ?_;((exact z5 fun _=>rfl)))))<;>conv=>whnf)
   all_goals try (exfalso;omega)
   all_goals (refine rsL [0,8] [6] rfl ?_;refine rsD [0] [1] rfl ?_;(repeat' first|exact y86 _|exact z43|apply y87|(first|apply z40 rfl rfl rfl|apply z89 rfl rfl rfl);(focus ((repeat rfl);done));(focus ((rfl);done))|apply z41|apply z75;rfl|constructor))
  ·refine ⟨.mk v3 0 [leaf 2 v1,leaf 1 v2],p+1+1+1+1+1,⟨by simp [z244,z98],by omega,by omega⟩,?_⟩
   refine z7 z15 func100 rfl rfl 31 ntmps100 (by simp) ?_
   repeat' ((first|apply y4 ok;rfl|apply z23;kernel_rfl|apply z6<;>intro _|(first|apply z11 [0] [] c0;rfl;rfl|apply z11 [0,2] [] c1;rfl;rfl|apply z11 [0] [] c2;rfl;rfl|apply z11 [0,5] [] c3;rfl;rfl|apply z11 [0] [] c4;rfl;rfl);rfl;(focus ((repeat' first|exact z17|apply z16)<;>first|exact z47 rfl rfl|refine z20 ?_;((exact z5 fun _=>rfl)))))<;>conv=>whnf)
   all_goals try (exfalso;omega)
   all_goals (refine rsD [0] [6] rfl ?_;(repeat' first|exact y86 _|exact z43|apply y87|refine z40 rfl rfl rfl rfl rfl ?_|apply z41|apply z75;rfl|constructor))
def drK:Nat→Int
 |0=>4
 |n+1=>4+2 * drK n
def drS:Nat→Nat
 |0=>0
 |n+1=>2+2 * drS n
theorem z1224 (n:Nat):4≤drK n:=by induction n with
 |zero=>decide
 |succ n ih=>rw [drK];omega
set_option maxHeartbeats 1600000 in
theorem z892 (bs:List Int) (hb:BytesOk bs):∀ (n:Nat) (d p:Int),d≤n+1→n≤100→0≤d→0≤p→p+drK n≤1000000000→∃ (t:Tree) (p' : Int),(t.sz≤drS n∧p≤p'∧p'≤p+drK n)∧QQ 282 [.ptr 0 none 0,.int d] [rdO bs p] (z27 Tree.cs' t) [rdO bs p']:=by
 intro n
 induction n with
 |zero =>
  intro d p hd hd1 hd0 hp hq
  rw [drK] at hq ⊢
  obtain ⟨v0,⟨l0,u0⟩,c0⟩:=z73 bs hb p 3 (by omega) (by omega) (by omega)
  by_cases h0:v0=0
  ·subst h0
   obtain ⟨v1,⟨l1,u1⟩,c1⟩:=z73 bs hb (p+1) 4 (by omega) (by omega) (by omega)
   refine ⟨leaf 1 v1,p+1+1,⟨by rw [z98];omega,by omega,by omega⟩,?_⟩
   refine z7 z15 func282 rfl rfl 46 ntmps282 (by simp) ?_
   repeat' ((first|apply y4 ok;rfl|apply z6<;>intro _|(first|apply z37 [0] [] c0;rfl;rfl|apply z37 [0] [] c1;rfl;rfl);rfl)<;>conv=>whnf)
   all_goals try (exfalso;omega)
   all_goals (refine rsD [0] [] rfl ?_;(repeat' first|exact y86 _|exact z43|apply y87|apply z41|constructor))
  ·obtain ⟨v1,m1,c1⟩:=z112 bs hb (p+1) (by omega) (by omega) [0,1,0,2] (by decide) (by decide)
   refine ⟨leaf 2 v1,p+1+1,⟨by rw [z98];omega,by omega,by omega⟩,?_⟩
   refine z7 z15 func282 rfl rfl 46 ntmps282 (by simp) ?_
   repeat' ((first|apply y4 ok;rfl|apply z6<;>intro _|(first|apply z11 [0] [] c0;rfl;rfl|apply z11 [0,2] [] c1;rfl;rfl);rfl;(focus ((repeat' first|exact z17|apply z16)<;>first|exact z47 rfl rfl|refine z20 ?_;((exact z5 fun _=>rfl)))))<;>conv=>whnf)
   all_goals try (exfalso;omega)
   all_goals (refine rsD [0] [] rfl ?_;(repeat' first|exact y86 _|exact z43|apply y87|apply z41|constructor))
 |succ n ih =>
  intro d p hd hd1 hd0 hp hq
  have hK:=z1224 n
  by_cases hlt:d < 2
  ·obtain ⟨t,p',h1,h2⟩:=ih d p (by omega) (by omega) hd0 hp (by rw [drK] at hq;omega)
   exact ⟨t,p',⟨by rw [drS];omega,h1.2.1,by rw [drK];omega⟩,h2⟩
  rw [drK] at hq
  rw [drK,drS]
  obtain ⟨w,⟨lw,uw⟩,cw⟩:=z73 bs hb p 5 (by omega) (by omega) (by omega)
  by_cases hw:w=0
  ·subst hw
   obtain ⟨v0,⟨l0,u0⟩,c0⟩:=z73 bs hb (p+1) 3 (by omega) (by omega) (by omega)
   by_cases h0:v0=0
   ·subst h0
    obtain ⟨v1,⟨l1,u1⟩,c1⟩:=z73 bs hb (p+1+1) 4 (by omega) (by omega) (by omega)
    refine ⟨leaf 1 v1,p+1+1+1,⟨by rw [z98];omega,by omega,by omega⟩,?_⟩
    refine z7 z15 func282 rfl rfl 46 ntmps282 (by simp) ?_
    repeat' ((first|apply y4 ok;rfl|apply z6<;>intro _|(first|apply z37 [0] [] cw;rfl;rfl|apply z37 [0] [] c0;rfl;rfl|apply z37 [0] [] c1;rfl;rfl);rfl)<;>conv=>whnf)
    all_goals try (exfalso;omega)
    all_goals (refine rsD [0] [] rfl ?_;(repeat' first|exact y86 _|exact z43|apply y87|apply z41|constructor))
   ·obtain ⟨v1,m1,c1⟩:=z112 bs hb (p+1+1) (by omega) (by omega) [0,1,0,2] (by decide) (by decide)
    refine ⟨leaf 2 v1,p+1+1+1,⟨by rw [z98];omega,by omega,by omega⟩,?_⟩
    refine z7 z15 func282 rfl rfl 46 ntmps282 (by simp) ?_
    repeat' ((first|apply y4 ok;rfl|apply z6<;>intro _|(first|apply z11 [0] [] cw;rfl;rfl|apply z11 [0] [] c0;rfl;rfl|apply z11 [0,2] [] c1;rfl;rfl);rfl;(focus ((repeat' first|exact z17|apply z16)<;>first|exact z47 rfl rfl|refine z20 ?_;((exact z5 fun _=>rfl)))))<;>conv=>whnf)
    all_goals try (exfalso;omega)
    all_goals (refine rsD [0] [] rfl ?_;(repeat' first|exact y86 _|exact z43|apply y87|apply z41|constructor))
  ·obtain ⟨kd,mk,ck⟩:=z112 bs hb (p+1) (by omega) (by omega) [6,8,7,4,3,5,9] (by decide) (by decide)
   have ca:=z617 kd
   have ham:∃ m:Nat,z337 kd=m∧m≤2:=by
    simp only [List.mem_cons,List.not_mem_nil,or_false] at mk
    unfold z337
    rcases mk with rfl|rfl|rfl|rfl|rfl|rfl|rfl
    all_goals first|exact ⟨2,rfl,by omega⟩|exact ⟨1,rfl,by omega⟩
   obtain ⟨m,em,hm⟩:=ham
   rw [em] at ca
   obtain ⟨ks,pf,hks,hp0,hst,hpf⟩:=z510 (fun k q (t:Tree) q'=>t.sz≤drS n∧QQ 282 [.ptr 0 none 0,.int (d - 1)] [rdO bs q] (z27 Tree.cs' t) [rdO bs q']) (p+1+1) (drK n) m (fun k q hk h1 h2=>by
    have:drK n * k≤drK n:=by
     have:k=0∨k=1:=by omega
     rcases this with rfl|rfl<;>simp<;>omega
    obtain ⟨t,q',⟨a1,a2,a3⟩,a4⟩:=ih (d - 1) q (by omega) (by omega) (by omega) (by omega) (by omega)
    exact ⟨t,q',⟨a1,a4⟩,a2,a3⟩)
   have hpm:=hpf m (y52 _)
   have hKm:drK n * m≤2 * drK n:=by
    have:m=0∨m=1∨m=2:=by omega
    rcases this with rfl|rfl|rfl<;>simp<;>omega
   have hsum:(ks.map Tree.sz).sum≤2 * drS n:=by
    have:∀ (l:List Tree),(∀ t∈l,t.sz≤drS n)→(l.map Tree.sz).sum≤l.length * drS n:=by
     intro l
     induction l with
     |nil=>intro _;simp
     |cons t l ih =>
      intro h
      have h1:=h t (by simp)
      have h2:=ih fun u hu=>h u (by simp [hu])
      simp only [List.map_cons,List.sum_cons,y58,Nat.add_mul]
      omega
    have h1:=this ks fun t ht=>by
     obtain ⟨i,hi,rfl⟩:=List.mem_iff_getElem.1 ht
     exact (hst i hi).1
    have h2:ks.length * drS n≤2 * drS n:=Nat.mul_le_mul_right _ (by omega)
    omega
   refine ⟨.mk kd 0 ks,pf m,⟨by rw [z244];omega,by omega,by omega⟩,?_⟩
   refine z7 z15 func282 rfl rfl 46 ntmps282 (by simp) ?_
   rw [← hp0] at ck
   repeat' ((first|apply y4 ok;rfl|apply z6<;>intro _|apply z4 ca;rfl;rfl|(first|apply z11 [0] [] cw;rfl;rfl|apply z11 [0,2] [] ck;rfl;rfl);rfl;(focus ((repeat' first|exact z17|apply z16)<;>first|exact z47 rfl rfl|refine z20 ?_;((exact z5 fun _=>rfl)))))<;>conv=>whnf)
   all_goals try (exfalso;omega)
   refine y85 (y88 3 rfl) ?_
   refine z64 (fun k:Nat=>([(0,.ptr 0 none 0),(1,.int d),(4,.ptr 1 none 0),(6,.ptr 2 none 0),(7,.int (m - k))],[rdO bs (pf k),.cells 3 [[.int 0,.int 0,.nils]],.cells 3 [[.int kd,.int 0,.sref 3 0 k]],.cells 3 ((ks.take k).map Tree.cs')])) (fun k=>k≤m) (fun k=>m - k) 0 (by omega) (by refine swR [0,1,3,4] [] rfl rfl ?_;(repeat' first|exact y86 _|exact z49|apply y87|refine z9 rfl z25 ?_|constructor)) ?_
   intro k hk
   by_cases hkm:k < m
   ·have hc:=(hst k (by omega)).2
    have hkl:k < ks.length:=by omega
    rw [y15] at hc
    repeat' ((first|apply y4 ok;rfl|apply z23;kernel_rfl|(apply y43;first|unfold inI;omega|(try dsimp only);simp only [y49,y48,y47,y46,y58,y59];omega|exact ⟨rfl,z22 rfl z28⟩)|apply z6<;>intro _|apply z37 [0] [] hc;rfl;rfl;rfl)<;>conv=>whnf)
    all_goals try (exfalso;omega)
    refine z24 (k+1) (by omega) (by omega) (by refine swR [0,1,2,5] [] rfl rfl ?_;(repeat' first|exact y86 _|exact z280|refine z115 ?_;omega|apply y87|(refine z39 rfl ?_ ?_);(focus ((repeat' (first|exact z5 (fun _=>rfl)|apply z26));done))|refine z134 (by omega) (by omega) ?_|apply z75;rfl|constructor))
   ·have:k=m:=by omega
    subst this
    repeat' ((first|apply y4 ok;rfl|apply y43;omega|apply z6<;>intro _)<;>conv=>whnf)
    all_goals try (exfalso;omega)
    all_goals (refine rsD [0] [3] rfl ?_;(repeat' first|exact y86 _|refine z544 ?_;omega|apply y87|(apply z40 rfl rfl rfl);(focus ((repeat ((exact z30 (fun _=>rfl) _)));done));(focus (((simp;omega));done))|apply z41|constructor))
end Go.Proofs.YtjhgpfaodkchjaaGreat
