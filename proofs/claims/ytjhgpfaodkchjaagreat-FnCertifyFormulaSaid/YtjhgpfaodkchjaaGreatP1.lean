/- A part of the proofs over this program: T220, T31, T32, T33I, T33, T34, T24, T25, T26, T27, T37C, T37, T35A, T70, T71, T72, T73. -/
import Derived.Test.YtjhgpfaodkchjaaGreatG0
import Derived.Test.YtjhgpfaodkchjaaGreatG1
import Derived.Test.YtjhgpfaodkchjaaGreatG2
import Derived.Test.YtjhgpfaodkchjaaGreatG3
import Derived.Test.YtjhgpfaodkchjaaGreatP0
set_option linter.all false
namespace Go.Proofs.YtjhgpfaodkchjaaGreat
open Go.Gl
attribute [local irreducible] z18 AWP z41 z46 z44
theorem z449 {d : Int} (l : List Tree) (hl : l.length ≤ maxLen) (p : Tree → Int → Bool) (nx : Tree → Int → Int) (okS : Int → Prop) (hok : ∀ x s, okS s → p x s = false → okS (nx x s)) (f : FuncId) (s : Int) (h0 : okS s)
    (hf:∀ x∈l,∀ s,okS s→CallsA Tryz.prog f [z25 Tree.cs' x,.pt [.int d],.ptr 1 none 0] [.cells 1 [[.int s]],.cells 1 [[.ptr 0 none 0]]] (.bool (p x s)) [.cells 1 [[.int (nx x s)]],.cells 1 [[.ptr 0 none 0]]]) :
    CallsA Tryz.prog 271 [lst 3 Tree.cs' l,.fn (.func f) [] [.pt [.int d],.ptr 1 none 0]] [.cells 1 [[.int s]],.cells 1 [[.ptr 0 none 0]]] (.int (idxS p nx l s 0).1) [.cells 1 [[.int (idxS p nx l s 0).2]],.cells 1 [[.ptr 0 none 0]]]:=by
  unfold maxLen at hl
  refine z12 z14 Tryz.func271 rfl rfl 19 Tryz.ntmps271 (by simp) ?_
  repeat' ((apply y81 ok;rfl;conv=>whnf))
  refine z93 (fun x:Nat×Int=>([(0,lst 3 Tree.cs' l),(1,.fn (.func f) [] [.pt [.int d],.ptr 1 none 0]),(7,.int l.length),(8,.int x.1)],[.cells 1 [[.int x.2]],.cells 1 [[.ptr 0 none 0]]])) (fun x=>x.1≤l.length∧okS x.2∧idxS p nx l s 0=idxS p nx (l.drop x.1) x.2 x.1) (fun x=>l.length - x.1) (0,s) ⟨by omega,h0,rfl⟩
    ⟨[0,1],rfl,by decide,rfl,⟨⟨rfl,rfl⟩,⟨rfl,rfl⟩,⟨rfl,rfl⟩,⟨rfl,rfl⟩,trivial⟩,⟨z20 rfl rfl,z20 rfl rfl,trivial⟩⟩ ?_
  rintro ⟨k,t⟩ ⟨hk1,hk2,hk3⟩
  dsimp only at hk1 hk2 hk3
  repeat' (first|(apply y81 ok;rfl;conv=>whnf)|(apply y41;(first|omega|(unfold inI;omega));conv=>whnf)|(with_reducible apply z9;omega;intro _;conv=>whnf)|(apply z6<;>intro _<;>conv=>whnf)|(apply z92<;>intro _<;>conv=>whnf)|(apply z94 [0,1] [] [] (hf l[k] (y42 _) t hk2);rfl;(focus ((repeat' (first|exact z45|apply z55))<;>(rfl)));rfl;rfl;rfl;rfl;rfl;(focus ((repeat' (first|exact z16|apply z15))<;>(exact z52 rfl rfl)));(exact .inl rfl);conv=>whnf))
  · rename_i h hkl h1
    rw [y76 hkl,idxS,if_pos h1] at hk3
    rw [hk3]
    exact z91 [0,1] (by decide) rfl rfl rfl ⟨z20 rfl rfl,z20 rfl rfl,trivial⟩
  · rename_i h hkl h1
    rw [y76 hkl,idxS,if_neg (by rw [h1];simp)] at hk3
    exact z86 (k+1,nx l[k] t) [0,1] ⟨by dsimp only;omega,hok _ _ hk2 h1,hk3⟩ (by dsimp only;omega) ⟨rfl,by decide,rfl,⟨⟨rfl,rfl⟩,⟨rfl,rfl⟩,⟨rfl,rfl⟩,⟨rfl,rfl⟩,trivial⟩,⟨z20 rfl rfl,z20 rfl rfl,trivial⟩⟩
  · rw [y80 (by omega),idxS] at hk3
    rw [hk3]
    exact z91 [0,1] (by decide) rfl rfl rfl ⟨z20 rfl rfl,z20 rfl rfl,trivial⟩
theorem z756 {d : Int} (l : List Tree) (hl : l.length ≤ maxLen) (p : Tree → Int → Bool) (nx : Tree → Int → Int) (okS : Int → Prop) (hok : ∀ x s, okS s → p x s = false → okS (nx x s)) (f : FuncId) (s : Int) (h0 : okS s)
    (hf:∀ x∈l,∀ s,okS s→CallsA Tryz.prog f [z25 Tree.cs' x,.pt [.int d],.ptr 1 none 0] [.cells 1 [[.int s]],.cells 1 [[.ptr 0 none 0]]] (.bool (p x s)) [.cells 1 [[.int (nx x s)]],.cells 1 [[.ptr 0 none 0]]]) :
    CallsA Tryz.prog 243 [lst 3 Tree.cs' l,.fn (.func f) [] [.pt [.int d],.ptr 1 none 0]] [.cells 1 [[.int s]],.cells 1 [[.ptr 0 none 0]]] (.bool (decide (0≤(idxS p nx l s 0).1))) [.cells 1 [[.int (idxS p nx l s 0).2]],.cells 1 [[.ptr 0 none 0]]]:=by
  refine z12 z14 Tryz.func243 rfl rfl 9 Tryz.ntmps243 (by simp) ?_
  repeat' (first|(apply y81 ok;rfl;conv=>whnf)|(apply z94 [0,1] [] [] (z449 (d:=d) l hl p nx okS hok f s h0 hf);rfl;(focus ((repeat' (first|exact z45|apply z55))<;>(rfl)));rfl;rfl;rfl;rfl;rfl;(focus ((repeat' (first|exact z16|apply z15))<;>(exact z52 rfl rfl)));(exact .inl rfl);conv=>whnf))
  exact z91 [0,1] (by decide) rfl rfl rfl ⟨z20 rfl rfl,z20 rfl rfl,trivial⟩
theorem z816 (k:Int):CallsA Tryz.prog 242 [.int k] [] (.int (if k=1∨k=2 then 0 else if k=4∨k=5∨k=7∨k=8 then 2 else 1)) []:=by
 refine z12 z14 Tryz.func242 rfl rfl 12 Tryz.ntmps242 (by simp) ?_
 repeat' (first|(apply y81 ok;rfl;conv=>whnf)|(apply z6<;>intro _<;>conv=>whnf))
 all_goals (refine z54 rfl rfl ?_;first|(rw [if_pos (by omega)];rfl)|(rw [if_neg (by omega),if_pos (by omega)];rfl)|(rw [if_neg (by omega),if_neg (by omega)];rfl))
theorem walkF_ok (t:Tree):t.mx→∀ d n:Int,0≤d→d≤100→0≤n→n≤12→CallsA Tryz.prog 174 [z25 Tree.cs' t,.int d,.ptr 0 none 0] [.cells 1 [[.int n]]] (.bool (t.walkF d n).2) [.cells 1 [[.int (t.walkF d n).1]]]:=by
  induction t using y26 with|h t ih=>?_
  intro hm d n hd0 hd1 h0 h1
  rw [y27] at hm
  have hs:=Tree.walkF_spec.1
  have hk:d≤6→n+1≤12→CallsA Tryz.prog 243 [lst 3 Tree.cs' t.kids,.fn (.func 244) [] [.pt [.int d],.ptr 1 none 0]] [.cells 1 [[.int (n+1)]],.cells 1 [[.ptr 0 none 0]]] (.bool (!(Tree.walkFs t.kids (d+1) (n+1)).2)) [.cells 1 [[.int (Tree.walkFs t.kids (d+1) (n+1)).1]],.cells 1 [[.ptr 0 none 0]]]:=by
    intro hd hn
    have h:=z756 (d:=d) t.kids hm.1 (fun x s=>!(x.walkF (d+1) s).2) (fun x s=>(x.walkF (d+1) s).1) (fun s=>0≤s∧s≤12) (fun x s h1 h2=>by
      obtain ⟨a1,a2,a3,a4⟩:=hs x (d+1) s h1.1 h1.2
      have h3:(x.walkF (d+1) s).2=true:=by simpa using h2
      have:=(a1.1 h3).2
      rw [← a2 h3] at this
      exact ⟨by omega,this⟩) 244 (n+1) ⟨by omega,by omega⟩ (fun x hx s h=>by
        have hc:=ih x hx (hm.2 x hx) (d+1) s (by omega) (by omega) h.1 h.2
        refine z12 z14 Tryz.func244 rfl rfl 11 Tryz.ntmps244 (by simp) ?_
        repeat' (first|(apply y81 ok;rfl;conv=>whnf)|(apply y41;((unfold inI;omega));conv=>whnf)|(apply z94 [0] [] [] (hc);rfl;(focus ((repeat' (first|exact z45|apply z55))<;>(rfl)));rfl;rfl;rfl;rfl;rfl;(focus ((repeat' (first|exact z16|apply z15))<;>(exact z52 rfl rfl)));(exact .inl rfl);conv=>whnf))
        exact z91 [0,1] (by decide) rfl rfl rfl ⟨z20 rfl rfl,z20 rfl rfl,trivial⟩)
    rw [y40 (d+1) t.kids (n+1) 0,Bool.not_not]
    exact h
  have hk2:=fun h1 h2=>by
    have:=hk h1 h2
    unfold lst at this
    rw [← y17] at this
    exact this
  refine z12 z14 Tryz.func174 rfl rfl 51 Tryz.ntmps174 (by simp) ?_
  repeat' (first|(apply y81 ok;rfl;conv=>whnf)|(apply z31;kernel_rfl;conv=>whnf)|(apply y41;((unfold inI;omega));conv=>whnf)|(apply z6<;>intro _<;>conv=>whnf)|(apply z35<;>intro _<;>conv=>whnf)|(apply z89<;>intro _<;>conv=>whnf)|(apply z4 (z320 _ 1 10);rfl;rfl;conv=>whnf)|(apply z4 (z320 _ 0 2);rfl;rfl;conv=>whnf)|(apply z4 (z320 _ 0 0);rfl;rfl;conv=>whnf)|(apply z4 (z816 t.kind);rfl;rfl;conv=>whnf)|(apply z94 [0,3] [2] [] (hk2 (by omega) (by omega));rfl;(focus ((repeat' (first|exact z45|apply z55))<;>(rfl)));rfl;rfl;rfl;rfl;rfl;(focus ((repeat' (first|exact z16|apply z15))<;>(exact z52 rfl rfl)));((refine .inr ⟨rfl,?_⟩;repeat' (first|exact True.intro|apply y41|exact rfl)));conv=>whnf))
  all_goals first
    | (have e : t.walkF d n = (n + 1, false) := by
        rw [y39,if_neg]
        clear hk hk2 hs ih
        rintro ⟨c1,c2,c3,c4,c5⟩
        try simp only [z297,z134] at *
        unfold z370 at c4
        unfold z181 at c5
        grind
       rw [e]
       exact z91 [0] (by decide) rfl rfl rfl ⟨z20 rfl rfl,trivial⟩)
    | (have e : t.walkF d n = Tree.walkFs t.kids (d + 1) (n + 1) := by
        rw [y39,if_pos]
        clear hk hk2 hs ih
        try simp only [z297,z134] at *
        unfold z370 z181
        grind
       rw [e]
       refine z91 [0] (by decide) rfl rfl ?_ ⟨z20 rfl rfl,trivial⟩
       show AC.raw (.bool (!!_))=_
       rw [Bool.not_not];rfl)
theorem z975 (t:Tree) (hm:t.mx):CallsA Tryz.prog 94 [z25 Tree.cs' t] [] (.int (if t.fmB=true then (t.walkF 1 0).1 else 0)) []:=by
 have hk:=walkF_ok t hm 1 0 (by omega) (by omega) (by omega) (by omega)
 unfold Tree.fmB
 refine z12 z14 Tryz.func94 rfl rfl 8 Tryz.ntmps94 (by simp) ?_
 repeat' (first|(apply y81 ok;rfl;conv=>whnf)|(apply z89<;>intro _<;>conv=>whnf)|(apply z94 [1] [] [] (hk);rfl;(focus ((repeat' (first|exact z45|apply z55))<;>(rfl)));rfl;rfl;rfl;rfl;rfl;(focus ((repeat' (first|exact z16|apply z15))<;>(exact z52 rfl rfl)));(exact .inl rfl);conv=>whnf))
 all_goals exact z502 rfl (by simp [*])
theorem z137 (t:Tree) (hm:t.mx):CallsA Tryz.prog 37 [z25 Tree.cs' t] [] (.bool t.fmB) []:=by
 have hk:=z975 t hm
 have e:decide (0 < if t.fmB=true then (t.walkF 1 0).1 else 0)=t.fmB:=by
  by_cases h:t.fmB=true
  ·have h2:=(Tree.walkF_spec.1 t 1 0 (by omega) (by omega)).2.1 h
   have h3:=Tree.count_pos.1 t (7 - 1)
   rw [h,if_pos rfl];exact y78 (by omega)
  ·rw [if_neg h,(y69 _).mp h];rfl
 refine z12 z14 Tryz.func37 rfl rfl 6 Tryz.ntmps37 (by simp) ?_
 repeat' (first|(apply y81 ok;rfl;conv=>whnf)|(apply z4 (hk);rfl;rfl;conv=>whnf))
 all_goals exact z23 rfl e.symm
def State.co (s:State):List AC:=[.own 1 (s.a.map enI),.own 1 (s.b.map enI)]
theorem keepI {f:FuncId} {args:List AC} {n:Nat} {l:List Int} (h:CallsA Tryz.prog f args [] (.sref 0 0 n) [.cells 1 (l.map enI)]) (hl:l.length=n):CallsA Tryz.prog f args [] (ints l) []:=by
 subst hl
 exact h.keep (z169 _ _) (by simp)
theorem z117 {objs:Nat→AObj} {π Bn:List Nat} {o:Nat} {l:List Int} (ho:objs o=.cells 1 (l.map enI)) (h1:idx π o=none) (h2:inB Bn o=true):bor objs π Bn (.sref o 0 l.length)=ints l :=
 z190 ho h1 h2 (by simp) (z169 _ _)
end Go.Proofs.YtjhgpfaodkchjaaGreat
namespace Go.Proofs.YtjhgpfaodkchjaaGreat
open Go.Gl
section
attribute [local irreducible] z18
theorem z520 (a b:List Int) (ha:a.length≤maxLen) (hb:b.length≤maxLen):CallsA Tryz.prog 62 [lst 1 enI a,lst 1 enI b] [] (.bool (decide (a=b))) []:=by
 unfold maxLen at ha hb
 refine z12 z14 Tryz.func62 rfl rfl 26 Tryz.ntmps62 (by simp) ?_
 repeat (refine y81 ok _ _ _ _ _ rfl ?_)
 refine z35 (fun h=>?_) (fun h=>?_)
 ·repeat (refine y81 ok _ _ _ _ _ rfl ?_)
  have hne:a≠b:=by rintro rfl;exact h rfl
  rw [y79 hne]
  exact ⟨[],by decide,rfl,rfl,y3 rfl,trivial⟩
 ·have hl:a.length=b.length:=by omega
  repeat (refine y81 ok _ _ _ _ _ rfl ?_)
  refine z670 (fun k:Nat=>([(0,lst 1 enI a),(1,lst 1 enI b),(5,.int k)],[])) (fun k=>k≤a.length∧a.take k=b.take k) (fun k=>a.length - k) 0 (by simp)
   ⟨[],rfl,by decide,rfl,⟨⟨rfl,rfl⟩,⟨rfl,rfl⟩,⟨rfl,rfl⟩,trivial⟩,trivial⟩ ?_
  intro k hk
  repeat (refine y81 ok _ _ _ _ _ rfl ?_)
  refine z6 (fun h=>?_) (fun h=>?_)
  ·have hka:k < a.length:=by omega
   repeat (first|refine y81 ok _ _ _ _ _ rfl ?_|refine y41 (by omega) ?_)
   refine ⟨_,z340 _ _ _ (by omega),?_⟩
   repeat ((refine y41 (by omega) ?_))
   refine ⟨_,z340 _ _ _ (by omega),?_⟩
   repeat (first|refine y81 ok _ _ _ _ _ rfl ?_|refine z31 (by kernel_rfl) ?_)
   refine z35 (fun h=>?_) (fun h=>?_)
   ·repeat (refine y81 ok _ _ _ _ _ rfl ?_)
    have hne:a≠b:=by rintro rfl;exact h rfl
    rw [y79 hne]
    exact ⟨[],by decide,rfl,rfl,y3 rfl,trivial⟩
   ·repeat (first|refine y81 ok _ _ _ _ _ rfl ?_|refine y41 (by first|omega|(unfold inI;omega)) ?_)
    refine ⟨k+1,[],⟨by omega,?_⟩,by omega,rfl,by decide,rfl,⟨⟨rfl,rfl⟩,⟨rfl,rfl⟩,⟨rfl,rfl⟩,trivial⟩,trivial⟩
    have h' : a[k]=b[k]:=h
    rw [y48 hka,y48 (by omega),hk.2,h']
  ·repeat (refine y81 ok _ _ _ _ _ rfl ?_)
   have he:a=b:=by
    have:=hk.2
    rwa [y55 (by omega),y55 (by omega)] at this
   rw [y78 he]
   exact ⟨[],by decide,rfl,rfl,y3 rfl,trivial⟩
end
attribute [local irreducible] z18 AWP z41 z46 z44
end Go.Proofs.YtjhgpfaodkchjaaGreat
namespace Go.Proofs.YtjhgpfaodkchjaaGreat
open Go.Gl
attribute [local irreducible] z18 AWP z41 z46 z44
def onB (t:Trans) (n:Int):Bool:=decide (((n.toNat &&& t.care.toNat:Nat):Int)=t.val)
def z319 (n:Nat) (i:Nat) (ℓ to:Int) (e:Trans):List (Nat×Int):=if onB e ℓ then [((i:Nat) * n+e.src.toNat,to * n+e.dst)] else []
def z507 (n:Nat) (ed:List Trans) (i:Nat) (ℓ to:Int):List (Nat×Int):=ed.flatMap (z319 n i ℓ to)
def z447 (n:Nat) (ed:List Trans) (nx:List (List Int)) (ls:List Int) (i:Nat):List (Nat×Int):=(nx.getD i []).flatMap (z507 n ed i (ls.getD i 0))
def z506 (g:Graph) (ls:List Int) (a:Aut):List (Nat×Int):=(List.range g.st.length).flatMap (z447 a.acc.length a.ed g.nx ls)
def z30 (g:Graph) (ls:List Int) (a:Aut):List (List Int):=build (a.acc.length * g.st.length) (z506 g ls a)
theorem z505 (g:Graph) (hg:GB g) (ls:List Int) (a:Aut) (ha:AutP a):(z506 g ls a).length≤7372800:=by
 obtain ⟨⟨g1,g2⟩,g3,g4⟩:=hg
 have h1:∀ i ℓ to,(z507 a.acc.length a.ed i ℓ to).length≤2048:=fun i ℓ to=>by
  have:=z256 (f:=z319 a.acc.length i ℓ to) (c:=1) a.ed (fun e _=>by unfold z319;split<;>simp)
  have:=ha.2.1
  unfold z507;omega
 have h2:∀ i∈List.range g.st.length,(z447 a.acc.length a.ed g.nx ls i).length≤122880:=fun i hi=>by
  rw [y58] at hi
  unfold z447
  rw [z17 (l:=g.nx) (by omega)]
  have h3:=z256 (f:=z507 a.acc.length a.ed i (ls.getD i 0)) (c:=2048) g.nx[i] (fun e _=>h1 _ _ _)
  have h4:=(g4 i (by omega) (by omega) hi).2.1
  have:g.nx[i].length * 2048≤60 * 2048:=Nat.mul_le_mul_right _ (by omega)
  omega
 have h5:=z256 (f:=z447 a.acc.length a.ed g.nx ls) (c:=122880) (List.range g.st.length) h2
 rw [List.length_range] at h5
 have:g.st.length * 122880≤60 * 122880:=Nat.mul_le_mul_right _ (by omega)
 unfold z506;omega
theorem z638 (g:Graph) (hg:GB g) (ls:List Int) (hls:ls.length=g.st.length) (hlr:∀ x∈ls,0≤x∧x≤7) (a:Aut) (ha:AutP a):CallsA Tryz.prog 83 [.agg g.cs,ints ls,.agg a.cs] [] (.sref 0 0 (a.acc.length * g.st.length)) [.cells 1 ((z30 g ls a).map z87)]:=by
 have hpl:=z505 g hg ls a ha
 obtain ⟨⟨g1,g2⟩,g3,g4⟩:=hg
 obtain ⟨⟨a1,a2⟩,a3,_,a5⟩:=ha
 have hN:=z136 (a:=(a.acc.length:Int)) (b:=(g.st.length:Int)) (A:=64) (B:=60) (by omega) (by omega) (by omega) (by omega)
 have hNn:((a.acc.length * g.st.length:Nat):Int)=(a.acc.length:Int) * g.st.length:=by simp
 refine z12 z14 Tryz.func83 rfl rfl 93 Tryz.ntmps83 (by simp) ?_
 repeat' (first|(apply y81 ok;rfl;conv=>whnf)|(apply y41;(first|(unfold inI;omega)|(dsimp only;omega));conv=>whnf))
 refine y82 (Gl.Reach.weaken (es':=List.replicate (a.acc.length * g.st.length) [.own 1 []]) 2 rfl (by rw [y44,y44];rfl) z338 rfl) ?_
 conv=>whnf
 have hrow:∀ i (hi:i < g.nx.length),∀ x∈g.nx[i],0≤x∧x≤g.st.length - 1:=fun i hi x hx=>by
  obtain ⟨j,hj,rfl⟩:=List.mem_iff_getElem.1 hx
  exact ((g4 i hi hi (by omega)).2.2.2 j hj hj).1
 have hlen:∀ i (hi:i < g.nx.length),g.nx[i].length≤60:=fun i hi=>by
  have:=(g4 i hi hi (by omega)).2.1;omega
 refine z93 (fun x:Nat×List (Nat×Int)=>([(1,ints ls),(3,.ptr 0 none 0),(5,.ptr 1 none 0),(7,.int a.acc.length),(8,.sref 2 0 (a.acc.length * g.st.length)),(9,.int x.1)],[.cells 2 [[lst 2 State.cs g.st,lst 1 encL g.nx]],.cells 3 [[lst 1 enI a.ini,lst 1 enB a.acc,lst 4 Trans.cs a.ed]],.cells 1 ((build (a.acc.length * g.st.length) x.2).map z87)])) (fun x=>x.1≤g.st.length∧x.2++((List.range g.st.length).drop x.1).flatMap (z447 a.acc.length a.ed g.nx ls)=z506 g ls a) (fun x=>g.st.length - x.1) (0,[]) ⟨by omega,rfl⟩
  ⟨[0,1,2],rfl,by decide,rfl,⟨⟨rfl,rfl⟩,⟨rfl,rfl⟩,⟨rfl,rfl⟩,⟨rfl,rfl⟩,⟨rfl,rfl⟩,⟨rfl,rfl⟩,trivial⟩,⟨z20 rfl rfl,z20 rfl rfl,z42 (z60 (z884 _).symm) (z5 fun _=>rfl),trivial⟩⟩ ?_
 rintro ⟨i,ps⟩ ⟨hi1,hi2⟩
 dsimp only at hi1 hi2 ⊢
 repeat' (first|(apply y81 ok;rfl;conv=>whnf)|(apply z6<;>intro _<;>conv=>whnf))
 ·have hig:i < g.st.length:=by omega
  rw [z180 _ _ _ (by simpa using hig),List.getElem_range] at hi2
  have hin:i < g.nx.length:=by omega
  have hrow:=hrow i hin
  have hlen:=hlen i hin
  have hli:=hlr ls[i] (y42 _)
  have hpI:z447 a.acc.length a.ed g.nx ls i=g.nx[i].flatMap (z507 a.acc.length a.ed i ls[i]):=by
   unfold z447
   rw [z17 hin,z17 (by omega)]
  rw [hpI] at hi2
  refine z93 (fun x:Nat×List (Nat×Int)=>([(1,ints ls),(3,.ptr 0 none 0),(5,.ptr 1 none 0),(7,.int a.acc.length),(8,.sref 2 0 (a.acc.length * g.st.length)),(9,.int i),(10,.int x.1)],[.cells 2 [[lst 2 State.cs g.st,lst 1 encL g.nx]],.cells 3 [[lst 1 enI a.ini,lst 1 enB a.acc,lst 4 Trans.cs a.ed]],.cells 1 ((build (a.acc.length * g.st.length) x.2).map z87)])) (fun x=>x.1≤g.nx[i].length∧x.2++((g.nx[i].drop x.1).flatMap (z507 a.acc.length a.ed i ls[i])++((List.range g.st.length).drop (i+1)).flatMap (z447 a.acc.length a.ed g.nx ls))=z506 g ls a) (fun x=>g.nx[i].length - x.1) (0,ps) ⟨by omega,hi2⟩
   ⟨[0,1,2],rfl,by decide,rfl,⟨⟨rfl,rfl⟩,⟨rfl,rfl⟩,⟨rfl,rfl⟩,⟨rfl,rfl⟩,⟨rfl,rfl⟩,⟨rfl,rfl⟩,⟨rfl,rfl⟩,trivial⟩,⟨z20 rfl rfl,z20 rfl rfl,z42 rfl (z5 fun _=>rfl),trivial⟩⟩ ?_
  rintro ⟨j,ps⟩ ⟨hj1,hj2⟩
  dsimp only at hj1 hj2 ⊢
  repeat' (first|(apply y81 ok;rfl;conv=>whnf)|(apply y41;(first|omega|(unfold inI;omega));conv=>whnf)|(with_reducible apply z9;omega;intro _;conv=>whnf)|(apply z6<;>intro _<;>conv=>whnf))
  ·have hjn:j < g.nx[i].length:=by omega
   rw [z180 _ _ _ hjn,List.append_assoc] at hj2
   have hto:=hrow g.nx[i][j] (y42 _)
   refine z93 (fun x:Nat×List (Nat×Int)=>([(1,ints ls),(3,.ptr 0 none 0),(5,.ptr 1 none 0),(7,.int a.acc.length),(8,.sref 2 0 (a.acc.length * g.st.length)),(9,.int i),(10,.int j),(11,.int x.1)],[.cells 2 [[lst 2 State.cs g.st,lst 1 encL g.nx]],.cells 3 [[lst 1 enI a.ini,lst 1 enB a.acc,lst 4 Trans.cs a.ed]],.cells 1 ((build (a.acc.length * g.st.length) x.2).map z87)])) (fun x=>x.1≤a.ed.length∧x.2++((a.ed.drop x.1).flatMap (z319 a.acc.length i ls[i] g.nx[i][j])++((g.nx[i].drop (j+1)).flatMap (z507 a.acc.length a.ed i ls[i])++((List.range g.st.length).drop (i+1)).flatMap (z447 a.acc.length a.ed g.nx ls)))=z506 g ls a) (fun x=>a.ed.length - x.1) (0,ps) ⟨by omega,hj2⟩
    ⟨[0,1,2],rfl,by decide,rfl,⟨⟨rfl,rfl⟩,⟨rfl,rfl⟩,⟨rfl,rfl⟩,⟨rfl,rfl⟩,⟨rfl,rfl⟩,⟨rfl,rfl⟩,⟨rfl,rfl⟩,⟨rfl,rfl⟩,trivial⟩,⟨z20 rfl rfl,z20 rfl rfl,z42 rfl (z5 fun _=>rfl),trivial⟩⟩ ?_
   rintro ⟨k,ps⟩ ⟨hk1,hk2⟩
   dsimp only at hk1 hk2 ⊢
   have hm1:=z136 (a:=(i:Int)) (b:=(a.acc.length:Int)) (A:=60) (B:=64) (by omega) (by omega) (by omega) (by omega)
   have hm2:=z136 (a:=g.nx[i][j]) (b:=(a.acc.length:Int)) (A:=60) (B:=64) (by omega) (by omega) (by omega) (by omega)
   by_cases hke:k < a.ed.length
   ·have he:=a5 a.ed[k] (y42 hke)
    unfold z384 at he
    have hlt:i * a.acc.length+a.ed[k].src.toNat < (build (a.acc.length * g.st.length) ps).length:=by
     rw [z75]
     have h1:(i+1) * a.acc.length≤g.st.length * a.acc.length:=Nat.mul_le_mul_right _ hig
     rw [Nat.add_mul,Nat.one_mul,Nat.mul_comm g.st.length] at h1
     omega
    repeat' (first|((fail_if_success apply z150 14);(fail_if_success apply z109 14);apply y81 ok;rfl;conv=>whnf)|(apply z31;kernel_rfl;conv=>whnf)|(apply y41;(first|omega|(unfold inI;omega));conv=>whnf)|(with_reducible apply z9;omega;intro _;conv=>whnf)|(apply z6<;>intro _<;>conv=>whnf)|(apply z4 (l7On_ok a.ed[k] ls[i] hli.1 hli.2 (a5 _ (y42 _)).2.2.1);rfl;rfl;conv=>whnf))
    ·have hon:((ls[i].toNat &&& a.ed[k].care.toNat:Nat):Int)=a.ed[k].val:=by assumption
     have hrl:(build (a.acc.length * g.st.length) ps)[i * a.acc.length+a.ed[k].src.toNat].length≤1000000000:=by
      have h1:=z296 (N:=a.acc.length * g.st.length) (ps:=ps) hlt
      have h2:=congrArg List.length hk2
      rw [y45] at h2
      omega
     have hin:((i:Int) * a.acc.length+a.ed[k].src).toNat=i * a.acc.length+a.ed[k].src.toNat:=by
      have e:((i * a.acc.length:Nat):Int)=(i:Int) * a.acc.length:=by simp
      omega
     have hlt2:((i:Int) * a.acc.length+a.ed[k].src).toNat < a.acc.length * g.st.length:=by
      rw [hin,← z75 (a.acc.length * g.st.length) ps];exact hlt
     have hmap:i * a.acc.length+a.ed[k].src.toNat < ((build (a.acc.length * g.st.length) ps).map z87).length:=by rw [y47];exact hlt
     refine y82 (Gl.Reach.expose (e:=z87 (build (a.acc.length * g.st.length) ps)[i * a.acc.length+a.ed[k].src.toNat]) 2 (i * a.acc.length+a.ed[k].src.toNat) 0 rfl (by rw [y49,y43 hlt];rfl) rfl (z153 (fun _=>rfl) _) rfl) ?_
     conv=>whnf
     (apply y81 ok;rfl;conv=>whnf)
     repeat' (first|(apply z31;kernel_rfl;conv=>whnf)|(apply z654;exact hin;exact hmap;conv=>whnf)|(apply y41;(first|omega|(unfold inI;omega)|((try dsimp only);simp only [y47,y46,y45,y44,y56,y57];omega)|exact ⟨rfl,z21 rfl z29⟩);conv=>whnf)|(with_reducible apply z9;omega;intro _;conv=>whnf))
     refine y82 (Gl.Reach.absorb 2 5 (i * a.acc.length+a.ed[k].src.toNat) 0 rfl (z1105 hin (by rw [List.length_set];exact hmap)) rfl rfl (by simp) rfl (z97 (fun e he=>(z5 (fun _=>rfl)) e (List.mem_of_mem_take he)) (z204 rfl z24)) rfl) ?_
     conv=>whnf
     repeat' (first|(apply y81 ok;rfl;conv=>whnf)|(apply y41;((unfold inI;omega));conv=>whnf))
     rw [z180 _ _ _ hke] at hk2
     have hpe:z319 a.acc.length i ls[i] g.nx[i][j] a.ed[k]=[(i * a.acc.length+a.ed[k].src.toNat,g.nx[i][j] * a.acc.length+a.ed[k].dst)]:=by
      unfold z319 onB;rw [if_pos (y78 hon)]
     rw [hpe,List.append_assoc,← List.append_assoc] at hk2
     exact z86 (k+1,ps++[(i * a.acc.length+a.ed[k].src.toNat,g.nx[i][j] * a.acc.length+a.ed[k].dst)]) [0,1,2] ⟨by dsimp only;omega,hk2⟩ (by dsimp only;omega)
      ⟨rfl,by decide,rfl,⟨⟨rfl,rfl⟩,⟨rfl,rfl⟩,⟨rfl,rfl⟩,⟨rfl,rfl⟩,⟨rfl,rfl⟩,⟨rfl,rfl⟩,⟨rfl,rfl⟩,⟨rfl,rfl⟩,trivial⟩,⟨z20 rfl rfl,z20 rfl rfl,z42 (z60 (rows_push' hlt hin (by simp))) (z5 fun _=>rfl),trivial⟩⟩
    ·rename_i hon
     rw [z180 _ _ _ hke] at hk2
     have hpe:z319 a.acc.length i ls[i] g.nx[i][j] a.ed[k]=[]:=by
      unfold z319 onB;rw [if_neg (by simpa using hon)]
     rw [hpe,List.nil_append] at hk2
     exact z86 (k+1,ps) [0,1,2] ⟨by dsimp only;omega,hk2⟩ (by dsimp only;omega)
      ⟨rfl,by decide,rfl,⟨⟨rfl,rfl⟩,⟨rfl,rfl⟩,⟨rfl,rfl⟩,⟨rfl,rfl⟩,⟨rfl,rfl⟩,⟨rfl,rfl⟩,⟨rfl,rfl⟩,⟨rfl,rfl⟩,trivial⟩,⟨z20 rfl rfl,z20 rfl rfl,z42 rfl (z5 fun _=>rfl),trivial⟩⟩
    ·omega
   ·repeat' (first|((fail_if_success apply z150 14);(fail_if_success apply z109 14);apply y81 ok;rfl;conv=>whnf)|(apply y41;(first|omega|(unfold inI;omega));conv=>whnf)|(with_reducible apply z9;omega;intro _;conv=>whnf)|(apply z6<;>intro _<;>conv=>whnf))
    ·omega
    ·rw [z111 _ _ _ (by omega),List.nil_append] at hk2
     exact z86 (j+1,ps) [0,1,2] ⟨by dsimp only;omega,hk2⟩ (by dsimp only;omega)
      ⟨rfl,by decide,rfl,⟨⟨rfl,rfl⟩,⟨rfl,rfl⟩,⟨rfl,rfl⟩,⟨rfl,rfl⟩,⟨rfl,rfl⟩,⟨rfl,rfl⟩,⟨rfl,rfl⟩,trivial⟩,⟨z20 rfl rfl,z20 rfl rfl,z42 rfl (z5 fun _=>rfl),trivial⟩⟩
  ·rw [z111 _ _ _ (by omega),List.nil_append] at hj2
   exact z86 (i+1,ps) [0,1,2] ⟨by dsimp only;omega,hj2⟩ (by dsimp only;omega)
    ⟨rfl,by decide,rfl,⟨⟨rfl,rfl⟩,⟨rfl,rfl⟩,⟨rfl,rfl⟩,⟨rfl,rfl⟩,⟨rfl,rfl⟩,⟨rfl,rfl⟩,trivial⟩,⟨z20 rfl rfl,z20 rfl rfl,z42 rfl (z5 fun _=>rfl),trivial⟩⟩
 ·rw [z111 _ _ _ (by simp;omega),y62] at hi2
  subst hi2
  exact z501 rfl (z5 fun _=>rfl) rfl rfl
theorem keepRows {f:FuncId} {args:List AC} {n:Nat} {l:List (List Int)} (h:CallsA Tryz.prog f args [] (.sref 0 0 n) [.cells 1 (l.map z87)]) (hl:l.length=n):CallsA Tryz.prog f args [] (lst 1 encL l) []:=by
 refine h.lend [] [0] rfl rfl rfl ?_ z45
 rw [z314 (w:=1) (es:=l.map z87) rfl rfl rfl (by rw [y47];exact hl),z163,← hl];rfl
theorem z438 (g:Graph) (hg:GB g) (ls:List Int) (hls:ls.length=g.st.length) (hlr:∀ x∈ls,0≤x∧x≤7) (a:Aut) (ha:AutP a):CallsA Tryz.prog 83 [.agg g.cs,ints ls,.agg a.cs] [] (lst 1 encL (z30 g ls a)) [] :=
 keepRows (z638 g hg ls hls hlr a ha) (z75 _ _)
def z68 (a:Aut):List (List Trans):=z108 a.acc.length (a.ed.map fun e=>(e.src.toNat,e))
def encT (r:List Trans):List AC:=[.list 4 r.length (r.map Trans.cs)]
theorem ltr_lt (v:List Int):∀ (l:List Tree) (k n:Nat),n < 2 ^ k→ltr v l k n < 2 ^ (k+l.length):=by
 intro l
 induction l with
 |nil=>intro k n h;simpa [ltr] using h
 |cons t l ih =>
  intro k n h
  rw [ltr]
  have e:k+(t::l).length=k+1+l.length:=by simp only [y56];omega
  rw [e]
  refine ih (k+1) _ ?_
  split
  ·rw [Nat.pow_succ];omega
  ·exact or_lt h
theorem z283 {l:List Tree} (hl:z174 l) (s:State):0≤z39 l s∧z39 l s≤7:=by
 have:=ltr_lt s.b l 0 0 (by decide)
 rw [hl.1] at this
 unfold z39
 have e:(2:Nat) ^ (0+3)=8:=by decide
 omega
def pE2 (n i q:Nat) (ℓ to:Int) (e:Trans):List (Nat×Int):=if onB e ℓ then [(i * n+q,to * n+e.dst)] else []
def pTo (n:Nat) (row:List Trans) (i q:Nat) (ℓ to:Int):List (Nat×Int):=row.flatMap (pE2 n i q ℓ to)
def pQ (n:Nat) (nxi:List Int) (rows:List (List Trans)) (i:Nat) (ℓ:Int) (q:Nat):List (Nat×Int):=nxi.flatMap (pTo n (rows.getD q []) i q ℓ)
def pI2 (n:Nat) (nx:List (List Int)) (rows:List (List Trans)) (ls:List Int) (i:Nat):List (Nat×Int):=(List.range n).flatMap (pQ n (nx.getD i []) rows i (ls.getD i 0))
def pS2 (g:Graph) (ls:List Int) (a:Aut):List (Nat×Int):=(List.range g.st.length).flatMap (pI2 a.acc.length g.nx (z68 a) ls)
theorem z311 {a:Aut} {q:Nat} (h:q < a.acc.length):(z68 a).getD q []=a.ed.filter (fun e=>e.src.toNat == q):=by
 unfold z68
 rw [z17 (by rw [z158];exact h),z313,List.filter_map,List.map_map]
 exact List.map_id _
theorem z1057 {β:Type} {F:Nat→List β} {n q0:Nat} (hq:q0 < n) (h:∀ q,q < n→q≠q0→F q=[]):(List.range n).flatMap F=F q0:=by
 have:∀ m,(List.range m).flatMap F=if q0 < m∧m≤n then F q0 else if m≤n then [] else (List.range m).flatMap F:=by
  intro m
  induction m with
  |zero=>simp
  |succ m ih =>
   by_cases hm:m+1≤n
   ·rw [y59,List.flatMap_append,ih,List.flatMap_cons,List.flatMap_nil,y62]
    by_cases h1:q0 < m
    ·rw [if_pos ⟨h1,by omega⟩,if_pos ⟨by omega,hm⟩,h m (by omega) (by omega),y62]
    ·rw [if_neg (by omega),if_pos (by omega)]
     by_cases h2:q0=m
     ·subst h2;rw [if_pos ⟨by omega,hm⟩];rfl
     ·rw [if_neg (by omega),if_pos hm,h m (by omega) (by omega)];rfl
   ·rw [if_neg (by omega),if_neg hm]
 rw [this n,if_pos ⟨hq,y50 _⟩]
theorem z942 {β:Type} {F:Nat→List β} {n:Nat} (h:∀ q,q < n→F q=[]):(List.range n).flatMap F=[]:=by
 rw [List.flatMap_eq_nil_iff]
 intro q hq
 exact h q (List.mem_range.1 hq)
theorem pS2_rows (g:Graph) (ls:List Int) (a:Aut) (ha:AutP a) (r:Nat):(pS2 g ls a).filter (fun p=>p.1 == r)=(z506 g ls a).filter (fun p=>p.1 == r):=by
 unfold pS2 z506
 rw [List.filter_flatMap,List.filter_flatMap]
 refine z594 fun i hi=>?_
 unfold pI2 z447
 rw [List.filter_flatMap,List.filter_flatMap]
 have hsrc:∀ e∈a.ed,e.src.toNat < a.acc.length:=fun e he=>by
  have:=(ha.2.2.2 e he).1;omega
 by_cases hr:i * a.acc.length≤r∧r < i * a.acc.length+a.acc.length
 ·obtain ⟨q0,rfl⟩:∃ q0,r=i * a.acc.length+q0:=⟨r - i * a.acc.length,by omega⟩
  have hq0:q0 < a.acc.length:=by omega
  rw [z1057 hq0 (fun q hq hne=>by
   unfold pQ
   rw [List.filter_flatMap]
   refine List.flatMap_eq_nil_iff.2 fun to _=>?_
   unfold pTo
   rw [List.filter_flatMap]
   refine List.flatMap_eq_nil_iff.2 fun e _=>?_
   unfold pE2
   split
   ·simp;omega
   ·rfl)]
  unfold pQ
  rw [List.filter_flatMap,z311 hq0]
  refine z594 fun to _=>?_
  unfold pTo z507
  rw [List.filter_flatMap,List.filter_flatMap]
  induction a.ed with
  |nil=>rfl
  |cons e es ih =>
   rw [List.flatMap_cons,← ih,List.filter_cons]
   by_cases he:e.src.toNat=q0
   ·rw [if_pos (by simpa using he),List.flatMap_cons]
    unfold pE2 z319
    rw [he]
   ·rw [if_neg (by simpa using he)]
    have:(z319 a.acc.length i (ls.getD i 0) to e).filter (fun p=>p.1 == i * a.acc.length+q0)=[]:=by
     unfold z319
     split
     ·simp;omega
     ·rfl
    rw [this,List.nil_append]
 ·rw [z942 (fun q hq=>by
   unfold pQ
   rw [List.filter_flatMap]
   refine List.flatMap_eq_nil_iff.2 fun to _=>?_
   unfold pTo
   rw [List.filter_flatMap]
   refine List.flatMap_eq_nil_iff.2 fun e _=>?_
   unfold pE2
   split
   ·simp;omega
   ·rfl)]
  symm
  refine List.flatMap_eq_nil_iff.2 fun to _=>?_
  unfold z507
  rw [List.filter_flatMap]
  refine List.flatMap_eq_nil_iff.2 fun e he=>?_
  have:=hsrc e he
  unfold z319
  split
  ·simp;omega
  ·rfl
theorem pS2_len (g:Graph) (hg:GB g) (ls:List Int) (a:Aut) (ha:AutP a):(pS2 g ls a).length≤1000000000:=by
 obtain ⟨⟨g1,g2⟩,g3,g4⟩:=hg
 have h2:∀ i∈List.range g.st.length,(pI2 a.acc.length g.nx (z68 a) ls i).length≤7864320:=fun i hi=>by
  rw [y58] at hi
  unfold pI2
  rw [z17 (l:=g.nx) (by omega)]
  have h3:=z256 (f:=pQ a.acc.length g.nx[i] (z68 a) i (ls.getD i 0)) (c:=122880) (List.range a.acc.length) (fun q hq=>by
   have h1:∀ to,(pTo a.acc.length ((z68 a).getD q []) i q (ls.getD i 0) to).length≤2048:=fun to=>by
    have h5:=z256 (f:=pE2 a.acc.length i q (ls.getD i 0) to) (c:=1) ((z68 a).getD q []) (fun e _=>by unfold pE2;split<;>simp)
    rw [z311 (List.mem_range.1 hq)] at h5 ⊢
    have:=List.length_filter_le (fun e:Trans=>e.src.toNat == q) a.ed
    have:=ha.2.1
    unfold pTo;omega
   have h3:=z256 (f:=pTo a.acc.length ((z68 a).getD q []) i q (ls.getD i 0)) (c:=2048) g.nx[i] (fun to _=>h1 to)
   have h4:=(g4 i (by omega) (by omega) hi).2.1
   have:g.nx[i].length * 2048≤60 * 2048:=Nat.mul_le_mul_right _ (by omega)
   unfold pQ;omega)
  rw [List.length_range] at h3
  have:a.acc.length * 122880≤64 * 122880:=Nat.mul_le_mul_right _ ha.1.2
  omega
 have h5:=z256 (f:=pI2 a.acc.length g.nx (z68 a) ls) (c:=7864320) (List.range g.st.length) h2
 rw [List.length_range] at h5
 have:g.st.length * 7864320≤60 * 7864320:=Nat.mul_le_mul_right _ (by omega)
 unfold pS2;omega
theorem z1135 (g:Graph) (ls:List Int) (a:Aut) (ha:AutP a):build (g.st.length * a.acc.length) (pS2 g ls a)=z30 g ls a:=by
 unfold z30 build
 rw [Nat.mul_comm]
 refine List.map_congr_left fun r _=>?_
 rw [pS2_rows g ls a ha r]
set_option maxHeartbeats 800000 in
theorem z812 (g:Graph) (hg:GB g) (l:List Tree) (hl:z174 l) (a:Aut) (ha:AutP a):CallsA Tryz.prog 75 [.agg g.cs,lst 3 Tree.cs' l,.agg a.cs] [] (.tup [.sref 0 0 (g.st.length * a.acc.length),ints a.ini]) [.cells 1 ((z30 g (g.st.map (z39 l)) a).map z87)]:=by
 have hvals:=hg.vals
 have hpl:=z505 g hg (g.st.map (z39 l)) a ha
 have hini:=ha.2.2.1.le (by omega)
 obtain ⟨⟨g1,g2⟩,g3,g4⟩:=hg
 obtain ⟨⟨a1,a2⟩,a3,a4,a5⟩:=ha
 have hN:=z136 (a:=(g.st.length:Int)) (b:=(a.acc.length:Int)) (A:=60) (B:=64) (by omega) (by omega) (by omega) (by omega)
 refine z12 z14 Tryz.func75 rfl rfl 117 Tryz.ntmps75 (by simp) ?_
 repeat' (first|(apply y81 ok;rfl;conv=>whnf)|(apply y41;((dsimp only;omega));conv=>whnf))
 refine y82 (Gl.Reach.weaken (es':=List.replicate a.acc.length [.own 4 []]) 2 rfl (by rw [y44,y44];rfl) z338 rfl) ?_
 conv=>whnf
 refine z93 (fun k:Nat=>([(1,lst 3 Tree.cs' l),(3,.ptr 0 none 0),(5,.ptr 1 none 0),(8,.int a.acc.length),(9,.sref 2 0 a.acc.length),(26,lst 4 Trans.cs a.ed),(27,.int a.ed.length),(28,.int k)],[.cells 2 [[lst 2 State.cs g.st,lst 1 encL g.nx]],.cells 3 [[lst 1 enI a.ini,lst 1 enB a.acc,lst 4 Trans.cs a.ed]],.cells 1 ((z108 a.acc.length ((a.ed.take k).map fun e=>(e.src.toNat,e))).map (ownG 4 Trans.cs))])) (fun k=>k≤a.ed.length) (fun k=>a.ed.length - k) 0 (by omega)
  ⟨[0,1,2],rfl,by decide,rfl,⟨⟨rfl,rfl⟩,⟨rfl,rfl⟩,⟨rfl,rfl⟩,⟨rfl,rfl⟩,⟨rfl,rfl⟩,⟨rfl,rfl⟩,⟨rfl,rfl⟩,⟨rfl,rfl⟩,trivial⟩,⟨z20 rfl rfl,z20 rfl rfl,z42 (z60 (z1047 _ _ _).symm) (z5 fun _=>rfl),trivial⟩⟩ ?_
 intro k hk
 have hN2:((g.st.length * a.acc.length:Nat):Int)=(g.st.length:Int) * a.acc.length:=by simp
 repeat' (first|((fail_if_success apply z150 6);(fail_if_success apply z109 6);(fail_if_success apply z150 8);(fail_if_success apply z109 8);apply y81 ok;rfl;conv=>whnf)|(apply y41;(omega);conv=>whnf)|(with_reducible apply z9;omega;intro _;conv=>whnf)|(apply z6<;>intro _<;>conv=>whnf))
 ·have hkl:k < a.ed.length:=by assumption
  have he:=a5 a.ed[k] (y42 hkl)
  unfold z384 at he
  have hlt:a.ed[k].src.toNat < (z108 a.acc.length ((a.ed.take k).map fun e=>(e.src.toNat,e))).length:=by rw [z158];omega
  have hmap:a.ed[k].src.toNat < ((z108 a.acc.length ((a.ed.take k).map fun e=>(e.src.toNat,e))).map (ownG 4 Trans.cs)).length:=by rw [y47];exact hlt
  have hrl:=z666 hlt
  rw [y47,y46] at hrl
  refine y82 (Gl.Reach.expose (e:=ownG 4 Trans.cs (z108 a.acc.length ((a.ed.take k).map fun e=>(e.src.toNat,e)))[a.ed[k].src.toNat]) 2 a.ed[k].src.toNat 0 rfl (by rw [y49,y43 hlt];rfl) rfl (z153 (fun _=>rfl) _) rfl) ?_
  conv=>whnf
  (apply y81 ok;rfl;conv=>whnf)
  repeat' (first|(apply z31;kernel_rfl;conv=>whnf)|(apply z654;exact Nat.add_zero _;exact hmap;conv=>whnf)|(apply y41;(first|omega|((try dsimp only);simp only [y47,y46,y45,y44,y56,y57];omega)|exact ⟨rfl,z21 rfl z29⟩);conv=>whnf))
  refine y82 (Gl.Reach.absorb 2 6 a.ed[k].src.toNat 0 rfl (z1105 (Nat.add_zero _) (by rw [List.length_set];exact hmap)) rfl rfl (by simp) rfl (z97 (fun e he=>(z5 (fun _=>rfl)) e (List.mem_of_mem_take he)) (z204 rfl z24)) rfl) ?_
  conv=>whnf
  repeat' (first|((fail_if_success apply z150 6);(fail_if_success apply z109 6);(fail_if_success apply z150 8);(fail_if_success apply z109 8);apply y81 ok;rfl;conv=>whnf)|(apply y41;((unfold inI;omega));conv=>whnf))
  refine z86 (k+1) [0,1,2] (by omega) (by omega)
   ⟨rfl,by decide,rfl,⟨⟨rfl,rfl⟩,⟨rfl,rfl⟩,⟨rfl,rfl⟩,⟨rfl,rfl⟩,⟨rfl,rfl⟩,⟨rfl,rfl⟩,⟨rfl,rfl⟩,⟨rfl,rfl⟩,trivial⟩,⟨z20 rfl rfl,z20 rfl rfl,z42 (z60 ?_) (z5 fun _=>rfl),trivial⟩⟩
  have e1:((a.ed.take (k+1)).map fun e=>(e.src.toNat,e))=((a.ed.take k).map fun e=>(e.src.toNat,e))++[(a.ed[k].src.toNat,a.ed[k])]:=by
   rw [y48 hkl,y61];rfl
  rw [e1]
  exact z941 hlt (Nat.add_zero _) (by simp) rfl
 obtain rfl:k=a.ed.length:=by omega
 refine y82 (SealL.reach (π:=[0,1]) (Bn:=[2]) (env:=[(1,lst 3 Tree.cs' l),(3,.ptr 0 none 0),(5,.ptr 1 none 0),(8,.int a.acc.length),(9,lst 1 encT (z68 a))]) (objs:=[.cells 2 [[lst 2 State.cs g.st,lst 1 encL g.nx]],.cells 3 [[lst 1 enI a.ini,lst 1 enB a.acc,lst 4 Trans.cs a.ed]]]) ⟨rfl,rfl,by simp,rfl,by intro o ho;simp at ho;rcases ho with rfl|rfl<;>rfl,⟨rfl,rfl,rfl,rfl,?_,trivial⟩,rfl⟩) ?_
 ·show bor _ _ _ (.sref 2 0 a.acc.length)=_
  rw [z314 (w:=1) (es:=(z108 a.acc.length ((a.ed.take a.ed.length).map fun e=>(e.src.toNat,e))).map (ownG 4 Trans.cs)) rfl rfl rfl (by rw [y47,z158]),z808 (fun t=>Trans.unown t),y54]
  unfold lst z68
  rw [z158];rfl
 conv=>whnf
 repeat' (first|(apply y81 ok;rfl;conv=>whnf)|(apply y41;(first|(unfold inI;omega)|(dsimp only;omega));conv=>whnf)|(apply z4 (label_ok g hvals g2 l hl);rfl;rfl;conv=>whnf))
 refine y82 (Gl.Reach.weaken (es':=List.replicate (g.st.length * a.acc.length) [.own 1 []]) 2 rfl (by rw [y44,y44];rfl) z338 rfl) ?_
 conv=>whnf
 have hls:(g.st.map (z39 l)).length=g.st.length:=by simp
 have hlr:∀ x∈g.st.map (z39 l),0≤x∧x≤7:=fun x hx=>by
  obtain ⟨s,_,rfl⟩:=List.mem_map.1 hx
  exact z283 hl s
 rw [← z1135 g _ a ⟨⟨a1,a2⟩,a3,a4,a5⟩]
 have hpl2:=pS2_len g ⟨⟨g1,g2⟩,g3,g4⟩ (g.st.map (z39 l)) a ⟨⟨a1,a2⟩,a3,a4,a5⟩
 generalize hlsd:g.st.map (z39 l)=ls at hls hlr hpl hpl2
 have hrow:∀ i (hi:i < g.nx.length),∀ x∈g.nx[i],0≤x∧x≤g.st.length - 1:=fun i hi x hx=>by
  obtain ⟨j,hj,rfl⟩:=List.mem_iff_getElem.1 hx
  exact ((g4 i hi hi (by omega)).2.2.2 j hj hj).1
 have hlen:∀ i (hi:i < g.nx.length),g.nx[i].length≤60:=fun i hi=>by
  have:=(g4 i hi hi (by omega)).2.1;omega
 have hel:(z68 a).length=a.acc.length:=z158 _ _
 have hed:∀ q (hq:q < (z68 a).length),∀ e∈(z68 a)[q],e∈a.ed:=fun q hq e he=>by
  rw [← z17 (d:=[]) hq,z311 (by omega)] at he;exact (List.mem_filter.1 he).1
 have hedl:∀ q (hq:q < (z68 a).length),(z68 a)[q].length≤2048:=fun q hq=>by
  rw [← z17 (d:=[]) hq,z311 (by omega)];exact Nat.le_trans (List.length_filter_le _ _) a3
 refine z93 (fun x:Nat×List (Nat×Int)=>([(3,.ptr 0 none 0),(5,.ptr 1 none 0),(8,.int a.acc.length),(9,lst 1 encT (z68 a)),(12,.sref 2 0 (g.st.length * a.acc.length)),(53,ints ls),(54,.int ls.length),(55,.int x.1)],[.cells 2 [[lst 2 State.cs g.st,lst 1 encL g.nx]],.cells 3 [[lst 1 enI a.ini,lst 1 enB a.acc,lst 4 Trans.cs a.ed]],.cells 1 ((build (g.st.length * a.acc.length) x.2).map z87)])) (fun x=>x.1≤ls.length∧x.2++((List.range g.st.length).drop x.1).flatMap (pI2 a.acc.length g.nx (z68 a) ls)=pS2 g ls a) (fun x=>ls.length - x.1) (0,[]) ⟨by omega,rfl⟩
  ⟨[0,1,2],rfl,by decide,rfl,⟨⟨rfl,by rfl⟩,⟨rfl,by rfl⟩,⟨rfl,by rfl⟩,⟨rfl,by rfl⟩,⟨rfl,by rfl⟩,⟨rfl,by rfl⟩,⟨rfl,by rfl⟩,⟨rfl,by rfl⟩,trivial⟩,⟨z20 rfl rfl,z20 rfl rfl,z42 (z60 (z884 _).symm) (z5 fun _=>rfl),trivial⟩⟩ ?_
 rintro ⟨i,ps⟩ ⟨hi1,hi2⟩
 dsimp only at hi1 hi2 ⊢
 repeat' (first|(apply y81 ok;rfl;conv=>whnf)|(apply y41;(omega);conv=>whnf)|(with_reducible apply z9;omega;intro _;conv=>whnf)|(apply z6<;>intro _<;>conv=>whnf))
 ·have hig:i < g.st.length:=by omega
  rw [z180 _ _ _ (by simpa using hig),List.getElem_range] at hi2
  have hin:i < g.nx.length:=by omega
  have hrow:=hrow i hin
  have hlen:=hlen i hin
  have hil:i < ls.length:=by omega
  have hli:=hlr ls[i] (y42 _)
  have hpI:pI2 a.acc.length g.nx (z68 a) ls i=(List.range a.acc.length).flatMap (pQ a.acc.length g.nx[i] (z68 a) i ls[i]):=by
   unfold pI2
   rw [z17 (l:=g.nx) hin,z17 (l:=ls) hil]
  rw [hpI] at hi2
  have hm1:=z136 (a:=(i:Int)) (b:=(a.acc.length:Int)) (A:=60) (B:=64) (by omega) (by omega) (by omega) (by omega)
  refine z93 (fun x:Nat×List (Nat×Int)=>([(3,.ptr 0 none 0),(5,.ptr 1 none 0),(8,.int a.acc.length),(9,lst 1 encT (z68 a)),(12,.sref 2 0 (g.st.length * a.acc.length)),(53,ints ls),(54,.int ls.length),(55,.int i),(13,.int i),(14,.int ls[i]),(60,.int a.acc.length),(61,.int x.1)],[.cells 2 [[lst 2 State.cs g.st,lst 1 encL g.nx]],.cells 3 [[lst 1 enI a.ini,lst 1 enB a.acc,lst 4 Trans.cs a.ed]],.cells 1 ((build (g.st.length * a.acc.length) x.2).map z87)])) (fun x=>x.1≤a.acc.length∧x.2++(((List.range a.acc.length).drop x.1).flatMap (pQ a.acc.length g.nx[i] (z68 a) i ls[i])++((List.range g.st.length).drop (i+1)).flatMap (pI2 a.acc.length g.nx (z68 a) ls))=pS2 g ls a) (fun x=>a.acc.length - x.1) (0,ps) ⟨by omega,hi2⟩
   ⟨[0,1,2],rfl,by decide,rfl,⟨⟨rfl,rfl⟩,⟨rfl,rfl⟩,⟨rfl,rfl⟩,⟨rfl,rfl⟩,⟨rfl,rfl⟩,⟨rfl,rfl⟩,⟨rfl,rfl⟩,⟨rfl,rfl⟩,⟨rfl,rfl⟩,⟨rfl,rfl⟩,⟨rfl,rfl⟩,⟨rfl,rfl⟩,trivial⟩,⟨z20 rfl rfl,z20 rfl rfl,z42 rfl (z5 fun _=>rfl),trivial⟩⟩ ?_
  rintro ⟨q,ps⟩ ⟨hq1,hq2⟩
  dsimp only at hq1 hq2 ⊢
  repeat' (first|(apply y81 ok;rfl;conv=>whnf)|(apply y41;(first|omega|(unfold inI;omega));conv=>whnf)|(with_reducible apply z9;omega;intro _;conv=>whnf)|(apply z6<;>intro _<;>conv=>whnf))
  ·have hqn:q < a.acc.length:=by omega
   rw [z180 _ _ _ (by simpa using hqn),List.getElem_range,List.append_assoc] at hq2
   have hqe:q < (z68 a).length:=by omega
   have hpQ:pQ a.acc.length g.nx[i] (z68 a) i ls[i] q=g.nx[i].flatMap (pTo a.acc.length (z68 a)[q] i q ls[i]):=by
    unfold pQ;rw [z17 hqe]
   rw [hpQ] at hq2
   have hedl:=hedl q hqe
   have hlt:i * a.acc.length+q < g.st.length * a.acc.length:=by
    have h1:(i+1) * a.acc.length≤g.st.length * a.acc.length:=Nat.mul_le_mul_right _ hig
    rw [Nat.add_mul,Nat.one_mul] at h1
    omega
   refine z93 (fun x:Nat×List (Nat×Int)=>([(3,.ptr 0 none 0),(5,.ptr 1 none 0),(8,.int a.acc.length),(9,lst 1 encT (z68 a)),(12,.sref 2 0 (g.st.length * a.acc.length)),(53,ints ls),(54,.int ls.length),(55,.int i),(13,.int i),(14,.int ls[i]),(60,.int a.acc.length),(61,.int q),(15,.int q),(68,ints g.nx[i]),(69,.int g.nx[i].length),(70,.int x.1)],[.cells 2 [[lst 2 State.cs g.st,lst 1 encL g.nx]],.cells 3 [[lst 1 enI a.ini,lst 1 enB a.acc,lst 4 Trans.cs a.ed]],.cells 1 ((build (g.st.length * a.acc.length) x.2).map z87)])) (fun x=>x.1≤g.nx[i].length∧x.2++((g.nx[i].drop x.1).flatMap (pTo a.acc.length (z68 a)[q] i q ls[i])++(((List.range a.acc.length).drop (q+1)).flatMap (pQ a.acc.length g.nx[i] (z68 a) i ls[i])++((List.range g.st.length).drop (i+1)).flatMap (pI2 a.acc.length g.nx (z68 a) ls)))=pS2 g ls a) (fun x=>g.nx[i].length - x.1) (0,ps) ⟨by omega,hq2⟩
    ⟨[0,1,2],rfl,by decide,rfl,⟨⟨rfl,rfl⟩,⟨rfl,rfl⟩,⟨rfl,rfl⟩,⟨rfl,rfl⟩,⟨rfl,rfl⟩,⟨rfl,rfl⟩,⟨rfl,rfl⟩,⟨rfl,rfl⟩,⟨rfl,rfl⟩,⟨rfl,rfl⟩,⟨rfl,rfl⟩,⟨rfl,rfl⟩,⟨rfl,rfl⟩,⟨rfl,rfl⟩,⟨rfl,rfl⟩,⟨rfl,rfl⟩,trivial⟩,⟨z20 rfl rfl,z20 rfl rfl,z42 rfl (z5 fun _=>rfl),trivial⟩⟩ ?_
   rintro ⟨j,ps⟩ ⟨hj1,hj2⟩
   dsimp only at hj1 hj2 ⊢
   repeat' (first|(apply y81 ok;rfl;conv=>whnf)|(apply y41;(first|omega|(unfold inI;omega));conv=>whnf)|(with_reducible apply z9;omega;intro _;conv=>whnf)|(apply z6<;>intro _<;>conv=>whnf))
   ·have hjn:j < g.nx[i].length:=by omega
    rw [z180 _ _ _ hjn,List.append_assoc] at hj2
    have hto:=hrow g.nx[i][j] (y42 _)
    have hm2:=z136 (a:=g.nx[i][j]) (b:=(a.acc.length:Int)) (A:=60) (B:=64) (by omega) (by omega) (by omega) (by omega)
    refine z93 (fun x:Nat×List (Nat×Int)=>([(3,.ptr 0 none 0),(5,.ptr 1 none 0),(8,.int a.acc.length),(9,lst 1 encT (z68 a)),(12,.sref 2 0 (g.st.length * a.acc.length)),(53,ints ls),(54,.int ls.length),(55,.int i),(13,.int i),(14,.int ls[i]),(60,.int a.acc.length),(61,.int q),(15,.int q),(68,ints g.nx[i]),(69,.int g.nx[i].length),(70,.int j),(17,.int g.nx[i][j]),(77,lst 4 Trans.cs (z68 a)[q]),(78,.int (z68 a)[q].length),(79,.int x.1)],[.cells 2 [[lst 2 State.cs g.st,lst 1 encL g.nx]],.cells 3 [[lst 1 enI a.ini,lst 1 enB a.acc,lst 4 Trans.cs a.ed]],.cells 1 ((build (g.st.length * a.acc.length) x.2).map z87)])) (fun x=>x.1≤(z68 a)[q].length∧x.2++(((z68 a)[q].drop x.1).flatMap (pE2 a.acc.length i q ls[i] g.nx[i][j])++((g.nx[i].drop (j+1)).flatMap (pTo a.acc.length (z68 a)[q] i q ls[i])++(((List.range a.acc.length).drop (q+1)).flatMap (pQ a.acc.length g.nx[i] (z68 a) i ls[i])++((List.range g.st.length).drop (i+1)).flatMap (pI2 a.acc.length g.nx (z68 a) ls))))=pS2 g ls a) (fun x=>(z68 a)[q].length - x.1) (0,ps) ⟨by omega,hj2⟩
     ⟨[0,1,2],rfl,by decide,rfl,⟨⟨rfl,rfl⟩,⟨rfl,rfl⟩,⟨rfl,rfl⟩,⟨rfl,rfl⟩,⟨rfl,rfl⟩,⟨rfl,rfl⟩,⟨rfl,rfl⟩,⟨rfl,rfl⟩,⟨rfl,rfl⟩,⟨rfl,rfl⟩,⟨rfl,rfl⟩,⟨rfl,rfl⟩,⟨rfl,rfl⟩,⟨rfl,rfl⟩,⟨rfl,rfl⟩,⟨rfl,rfl⟩,⟨rfl,rfl⟩,⟨rfl,rfl⟩,⟨rfl,rfl⟩,⟨rfl,rfl⟩,trivial⟩,⟨z20 rfl rfl,z20 rfl rfl,z42 rfl (z5 fun _=>rfl),trivial⟩⟩ ?_
    rintro ⟨k,ps⟩ ⟨hk1,hk2⟩
    dsimp only at hk1 hk2 ⊢
    by_cases hke:k < (z68 a)[q].length
    ·have he:=a5 (z68 a)[q][k] (hed q hqe _ (y42 hke))
     unfold z384 at he
     have hlt' : i * a.acc.length+q < (build (g.st.length * a.acc.length) ps).length:=by rw [z75];exact hlt
     have hmap:i * a.acc.length+q < ((build (g.st.length * a.acc.length) ps).map z87).length:=by rw [y47];exact hlt'
     have hrl:(build (g.st.length * a.acc.length) ps)[i * a.acc.length+q].length≤1000000000:=by
      have h1:=z296 (N:=g.st.length * a.acc.length) (ps:=ps) hlt'
      have h2:=congrArg List.length hk2
      rw [y45] at h2
      omega
     have hix:((i:Int) * a.acc.length+q).toNat=i * a.acc.length+q:=by
      have e:((i * a.acc.length:Nat):Int)=(i:Int) * a.acc.length:=by simp
      omega
     have hlt2:((i:Int) * a.acc.length+q).toNat < g.st.length * a.acc.length:=by rw [hix];exact hlt
     rw [z180 _ _ _ hke] at hk2
     repeat' (first|((fail_if_success apply z150 22);(fail_if_success apply z109 22);apply y81 ok;rfl;conv=>whnf)|(apply y41;(first|omega|(unfold inI;omega));conv=>whnf)|(with_reducible apply z9;omega;intro _;conv=>whnf)|(apply z6<;>intro _<;>conv=>whnf)|(apply z4 (takes_ok (z68 a)[q][k] ls[i] hli.1 hli.2 he.2.2.1);rfl;rfl;conv=>whnf))
     ·have hon:((ls[i].toNat &&& (z68 a)[q][k].care.toNat:Nat):Int)=(z68 a)[q][k].val:=by assumption
      refine y82 (Gl.Reach.expose (e:=z87 (build (g.st.length * a.acc.length) ps)[i * a.acc.length+q]) 2 (i * a.acc.length+q) 0 rfl (by rw [y49,y43 hlt'];rfl) rfl (z153 (fun _=>rfl) _) rfl) ?_
      conv=>whnf
      (apply y81 ok;rfl;conv=>whnf)
      repeat' (first|(apply z31;kernel_rfl;conv=>whnf)|(apply z654;exact hix;exact hmap;conv=>whnf)|(apply y41;(first|omega|(unfold inI;omega)|((try dsimp only);simp only [y47,y46,y45,y44,y56,y57];omega)|exact ⟨rfl,z21 rfl z29⟩);conv=>whnf))
      refine y82 (Gl.Reach.absorb 2 6 (i * a.acc.length+q) 0 rfl (z1105 hix (by rw [List.length_set];exact hmap)) rfl rfl (by simp) rfl (z97 (fun e he=>(z5 (fun _=>rfl)) e (List.mem_of_mem_take he)) (z204 rfl z24)) rfl) ?_
      conv=>whnf
      repeat' (first|(apply y81 ok;rfl;conv=>whnf)|(apply y41;((unfold inI;omega));conv=>whnf))
      have hpe:pE2 a.acc.length i q ls[i] g.nx[i][j] (z68 a)[q][k]=[(i * a.acc.length+q,g.nx[i][j] * a.acc.length+(z68 a)[q][k].dst)]:=by
       unfold pE2 onB;rw [if_pos (y78 hon)]
      rw [hpe,List.append_assoc,← List.append_assoc] at hk2
      exact z86 (k+1,ps++[(i * a.acc.length+q,g.nx[i][j] * a.acc.length+(z68 a)[q][k].dst)]) [0,1,2] ⟨by dsimp only;omega,hk2⟩ (by dsimp only;omega) ⟨rfl,by decide,rfl,⟨⟨rfl,rfl⟩,⟨rfl,rfl⟩,⟨rfl,rfl⟩,⟨rfl,rfl⟩,⟨rfl,rfl⟩,⟨rfl,rfl⟩,⟨rfl,rfl⟩,⟨rfl,rfl⟩,⟨rfl,rfl⟩,⟨rfl,rfl⟩,⟨rfl,rfl⟩,⟨rfl,rfl⟩,⟨rfl,rfl⟩,⟨rfl,rfl⟩,⟨rfl,rfl⟩,⟨rfl,rfl⟩,⟨rfl,rfl⟩,⟨rfl,rfl⟩,⟨rfl,rfl⟩,⟨rfl,rfl⟩,trivial⟩,⟨z20 rfl rfl,z20 rfl rfl,z42 (z60 (rows_push' hlt' hix (by simp))) (z5 fun _=>rfl),trivial⟩⟩
     ·have hon:¬ ((ls[i].toNat &&& (z68 a)[q][k].care.toNat:Nat):Int)=(z68 a)[q][k].val:=by assumption
      have hpe:pE2 a.acc.length i q ls[i] g.nx[i][j] (z68 a)[q][k]=[]:=by
       unfold pE2 onB;rw [if_neg (by simpa using hon)]
      rw [hpe,List.nil_append] at hk2
      exact z86 (k+1,ps) [0,1,2] ⟨by dsimp only;omega,hk2⟩ (by dsimp only;omega) ⟨rfl,by decide,rfl,⟨⟨rfl,rfl⟩,⟨rfl,rfl⟩,⟨rfl,rfl⟩,⟨rfl,rfl⟩,⟨rfl,rfl⟩,⟨rfl,rfl⟩,⟨rfl,rfl⟩,⟨rfl,rfl⟩,⟨rfl,rfl⟩,⟨rfl,rfl⟩,⟨rfl,rfl⟩,⟨rfl,rfl⟩,⟨rfl,rfl⟩,⟨rfl,rfl⟩,⟨rfl,rfl⟩,⟨rfl,rfl⟩,⟨rfl,rfl⟩,⟨rfl,rfl⟩,⟨rfl,rfl⟩,⟨rfl,rfl⟩,trivial⟩,⟨z20 rfl rfl,z20 rfl rfl,z42 rfl (z5 fun _=>rfl),trivial⟩⟩
     ·omega
    ·repeat' (first|((fail_if_success apply z150 22);(fail_if_success apply z109 22);apply y81 ok;rfl;conv=>whnf)|(apply y41;(first|omega|(unfold inI;omega));conv=>whnf)|(with_reducible apply z9;omega;intro _;conv=>whnf)|(apply z6<;>intro _<;>conv=>whnf))
     ·omega
     ·rw [z111 _ _ _ (by omega),List.nil_append] at hk2
      exact z86 (j+1,ps) [0,1,2] ⟨by dsimp only;omega,hk2⟩ (by dsimp only;omega) ⟨rfl,by decide,rfl,⟨⟨rfl,rfl⟩,⟨rfl,rfl⟩,⟨rfl,rfl⟩,⟨rfl,rfl⟩,⟨rfl,rfl⟩,⟨rfl,rfl⟩,⟨rfl,rfl⟩,⟨rfl,rfl⟩,⟨rfl,rfl⟩,⟨rfl,rfl⟩,⟨rfl,rfl⟩,⟨rfl,rfl⟩,⟨rfl,rfl⟩,⟨rfl,rfl⟩,⟨rfl,rfl⟩,⟨rfl,rfl⟩,trivial⟩,⟨z20 rfl rfl,z20 rfl rfl,z42 rfl (z5 fun _=>rfl),trivial⟩⟩
   ·rw [z111 _ _ _ (by omega),List.nil_append] at hj2
    exact z86 (q+1,ps) [0,1,2] ⟨by dsimp only;omega,hj2⟩ (by dsimp only;omega) ⟨rfl,by decide,rfl,⟨⟨rfl,rfl⟩,⟨rfl,rfl⟩,⟨rfl,rfl⟩,⟨rfl,rfl⟩,⟨rfl,rfl⟩,⟨rfl,rfl⟩,⟨rfl,rfl⟩,⟨rfl,rfl⟩,⟨rfl,rfl⟩,⟨rfl,rfl⟩,⟨rfl,rfl⟩,⟨rfl,rfl⟩,trivial⟩,⟨z20 rfl rfl,z20 rfl rfl,z42 rfl (z5 fun _=>rfl),trivial⟩⟩
  ·rw [z111 _ _ _ (by simp;omega),List.nil_append] at hq2
   exact z86 (i+1,ps) [0,1,2] ⟨by dsimp only;omega,hq2⟩ (by dsimp only;omega) ⟨rfl,by decide,rfl,⟨⟨rfl,rfl⟩,⟨rfl,rfl⟩,⟨rfl,rfl⟩,⟨rfl,rfl⟩,⟨rfl,rfl⟩,⟨rfl,rfl⟩,⟨rfl,rfl⟩,⟨rfl,rfl⟩,trivial⟩,⟨z20 rfl rfl,z20 rfl rfl,z42 rfl (z5 fun _=>rfl),trivial⟩⟩
 ·rw [z111 _ _ _ (by simp;omega),y62] at hi2
  subst hi2
  repeat' (first|(apply y81 ok;rfl;conv=>whnf)|(apply z4 (z741 a.ini (by omega));rfl;rfl;conv=>whnf))
  exact z91 [2] (by decide) rfl rfl rfl ⟨z42 rfl (z5 fun _=>rfl),trivial⟩
theorem z415 (g:Graph) (hg:GB g) (l:List Tree) (hl:z174 l) (a:Aut) (ha:AutP a):CallsA Tryz.prog 75 [.agg g.cs,lst 3 Tree.cs' l,.agg a.cs] [] (.tup [lst 1 encL (z30 g (g.st.map (z39 l)) a),ints a.ini]) []:=by
 have h:=z812 g hg l hl a ha
 have hlen:(z30 g (g.st.map (z39 l)) a).length=g.st.length * a.acc.length:=by unfold z30;rw [z75,Nat.mul_comm]
 refine h.lend [] [0] rfl rfl rfl ?_ z45
 show AC.tup [bor _ _ _ (.sref 0 0 _),bor _ _ _ (ints a.ini)]=_
 rw [z314 (w:=1) (es:=(z30 g (g.st.map (z39 l)) a).map z87) rfl rfl rfl (by rw [y47];exact hlen),z163,← hlen]
 rfl
theorem z508 (g:Graph) (hg:GB g) (ls:List Int) (a:Aut) (ha:AutP a):∀ row∈z30 g ls a,∀ x∈row,0≤x∧x < ((g.st.length * a.acc.length:Nat):Int):=by
 intro row hrow x hx
 unfold z30 build at hrow
 obtain ⟨r,_,rfl⟩:=List.mem_map.1 hrow
 obtain ⟨⟨p,v⟩,hp,rfl⟩:=List.mem_map.1 hx
 have hp:=(List.mem_filter.1 hp).1
 unfold z506 at hp
 obtain ⟨i,hi,hp⟩:=List.mem_flatMap.1 hp
 rw [y58] at hi
 unfold z447 at hp
 obtain ⟨to,hto,hp⟩:=List.mem_flatMap.1 hp
 unfold z507 at hp
 obtain ⟨e,he,hp⟩:=List.mem_flatMap.1 hp
 have hin:i < g.nx.length:=by have:=hg.2.1;omega
 rw [z17 hin] at hto
 obtain ⟨j,hj,rfl⟩:=List.mem_iff_getElem.1 hto
 have h1:=((hg.2.2 i hin hin hi).2.2.2 j hj hj).1
 have h2:=(ha.2.2.2 e he).2.1
 unfold z319 at hp
 split at hp
 ·simp only [y53,Prod.mk.injEq] at hp
  obtain ⟨_,rfl⟩:=hp
  have h3:0≤g.nx[i][j] * (a.acc.length:Int):=Int.mul_nonneg h1.1 (by omega)
  have h4:(g.nx[i][j]+1) * (a.acc.length:Int)≤g.st.length * a.acc.length:=Int.mul_le_mul_of_nonneg_right (by omega) (by omega)
  rw [Int.add_mul,Int.one_mul] at h4
  have e:((g.st.length * a.acc.length:Nat):Int)=(g.st.length:Int) * a.acc.length:=by simp
  rw [e]
  dsimp only
  omega
 ·simp at hp
theorem z435 (g:Graph) (hg:GB g) (ls:List Int) (a:Aut) (ha:AutP a):∀ row∈z30 g ls a,row.length≤7372800:=by
 intro row hrow
 obtain ⟨i,hi,rfl⟩:=List.mem_iff_getElem.1 hrow
 exact Nat.le_trans (z296 (N:=a.acc.length * g.st.length) (ps:=z506 g ls a) hi) (z505 g hg ls a ha)
def rk (ranks:List Int) (x:Int):Int:=ranks.getD x.toNat 0
def less (acc:Bool) (r:Int):Int:=if acc then r - 1 else r
def z819 (row ranks:List Int) (rank:Int) (acc:Bool):Prop:=∀ x∈row,0≤rk ranks x∧rk ranks x≤less acc rank
instance {row ranks:List Int} {rank:Int} {acc:Bool} : Decidable (z819 row ranks rank acc):=by unfold z819;infer_instance
def z574 (rows:List (List Int)) (ini:List Int) (acc:List Bool) (N:Nat) (ranks:List Int):Prop :=
 ranks.length=N∧(∀ x∈ranks,-1≤x∧x≤4000)∧(∀ x∈ini,0≤rk ranks x)∧∀ i (h:i < ranks.length),0≤ranks[i]→z819 (rows.getD i []) ranks ranks[i] (acc.getD (i % acc.length) false)
noncomputable instance {rows:List (List Int)} {ini:List Int} {acc:List Bool} {N:Nat} {ranks:List Int} : Decidable (z574 rows ini acc N ranks):=Classical.propDecidable _
noncomputable def z536 (g:Graph) (l:List Tree) (a:Aut) (c:Cert):Bool:=glB g l && autB a && decide (z574 (z30 g (g.st.map (z39 l)) a) a.ini a.acc (g.st.length * a.acc.length) c.ranks)
def Cert.mx (c:Cert):Prop:=c.ranks.length≤maxLen
theorem z663 (n:Int):CallsA Tryz.prog 99 [.int n] [] (.bool (!btw n (-1) 4000)) []:=by
 refine z12 z14 Tryz.func99 rfl rfl 6 Tryz.ntmps99 (by simp) ?_
 repeat' (first|(apply y81 ok;rfl;conv=>whnf)|(apply z4 (z320 n (-1) 4000);rfl;rfl;conv=>whnf))
 exact z23 rfl rfl
set_option maxHeartbeats 1600000 in
theorem z348 (g:Graph) (hg:g.mx) (l:List Tree) (hl:Lmx l) (a:Aut) (ha:a.mx) (c:Cert) (hc:c.mx):CallsA Tryz.prog 39 [.agg g.cs,lst 3 Tree.cs' l,.agg a.cs,.agg c.cs] [] (.bool (z536 g l a c)) []:=by
 have hcm:=hc
 unfold Cert.mx maxLen at hcm
 have k1:=z425 g hg l hl a ha
 by_cases hgl:(glB g l && autB a)=true
 ·rw [hgl] at k1
  obtain ⟨hgl,hab⟩:=Bool.and_eq_true_iff.1 hgl
  have hG:=(z114 g).1 (by unfold glB at hgl;exact (Bool.and_eq_true_iff.1 hgl).1)
  have hL:=y7 (by unfold glB at hgl;exact (Bool.and_eq_true_iff.1 hgl).2)
  have hA:=z130.1 hab
  have k2:=z415 g hG l hL a hA
  have kc:=z266 c.ranks hc (fun n=>!btw n (-1) 4000) 99 (fun x _=>z663 x)
  have hrows:=z508 g hG (g.st.map (z39 l)) a hA
  have hrowl:=z435 g hG (g.st.map (z39 l)) a hA
  have hrl:(z30 g (g.st.map (z39 l)) a).length=g.st.length * a.acc.length:=by unfold z30;rw [z75,Nat.mul_comm]
  have ha1:=hA.1
  have hN:=z136 (a:=(g.st.length:Int)) (b:=(a.acc.length:Int)) (A:=60) (B:=64) (by omega) (by have:=hG.1;omega) (by omega) (by omega)
  have hN2:((g.st.length * a.acc.length:Nat):Int)=(g.st.length:Int) * a.acc.length:=by simp
  have hini:=hA.2.2.1
  have e:z536 g l a c=decide (z574 (z30 g (g.st.map (z39 l)) a) a.ini a.acc (g.st.length * a.acc.length) c.ranks):=by unfold z536;rw [hgl,hab];rfl
  rw [e]
  generalize z30 g (g.st.map (z39 l)) a=rows at k2 hrows hrl hrowl
  refine z12 z14 Tryz.func39 rfl rfl 104 Tryz.ntmps39 (by simp) ?_
  repeat' (first|(apply y81 ok;rfl;conv=>whnf)|(apply y41;((unfold inI;omega));conv=>whnf)|(apply z35<;>intro _<;>conv=>whnf)|(apply z92<;>intro _<;>conv=>whnf)|(apply z4 (k1);rfl;rfl;conv=>whnf)|(apply z4 (kc);rfl;rfl;conv=>whnf)|(apply z4 (k2);rfl;rfl;conv=>whnf))
  ·rename_i hlen
   exact z23 rfl (y79 fun h=>hlen (by rw [h.1];exact hN2))
  ·rename_i hlen hany
   refine z23 rfl (y79 fun h=>?_)
   obtain ⟨x,hx,hb⟩:=List.any_eq_true.1 hany
   have:=h.2.1 x hx
   rw [← z134] at this
   rw [this] at hb;simp at hb
  rename_i hlen hany
  have hcl:c.ranks.length=g.st.length * a.acc.length:=by omega
  have hrng:∀ x∈c.ranks,-1≤x∧x≤4000:=fun x hx=>by
   have:=List.any_eq_false.1 hany x hx
   rw [← z134];simpa using this
  have hmod:∀ k:Nat,(((k:Int) % (a.acc.length:Int)).toNat)=k % a.acc.length:=fun k=>by omega
  have hmodlt:∀ k:Nat,k % a.acc.length < a.acc.length:=fun k=>Nat.mod_lt _ (by omega)
  have hil:=hini.le (by omega)
  refine z93 (fun j:Nat=>([(6,.ptr 1 none 0),(7,.ptr 2 none 0),(9,lst 1 encL rows),(48,ints a.ini),(49,.int a.ini.length),(50,.int j)],[.cells 2 [[lst 2 State.cs g.st,lst 1 encL g.nx]],.cells 3 [[lst 1 enI a.ini,lst 1 enB a.acc,lst 4 Trans.cs a.ed]],.cells 1 [[lst 1 enI c.ranks]]])) (fun j=>j≤a.ini.length∧∀ i (h:i < a.ini.length),i < j→0≤rk c.ranks a.ini[i]) (fun j=>a.ini.length - j) 0 ⟨by omega,fun i h hi=>by omega⟩ ⟨[0,1,2],rfl,by decide,rfl,by repeat' (first|exact True.intro|exact ⟨rfl,rfl⟩|apply y41),by repeat' (first|exact True.intro|exact z20 rfl rfl|apply y41)⟩ ?_
  rintro j ⟨hj1,hj2⟩
  by_cases hjl:j < a.ini.length
  ·have hin:=(hini j hjl hjl).1
   have hb1:=z136 (a:=(g.st.length:Int) - 1) (b:=(a.acc.length:Int)) (A:=60) (B:=64) (by have:=hG.1;omega) (by have:=hG.1;omega) (by omega) (by omega)
   rw [Int.sub_mul,Int.one_mul] at hb1
   have hix:a.ini[j].toNat < c.ranks.length:=by rw [hcl];omega
   have hrk:rk c.ranks a.ini[j]=c.ranks[a.ini[j].toNat]'hix:=z17 hix
   repeat' (first|(apply y81 ok;rfl;conv=>whnf)|(apply y41;(first|omega|(unfold inI;omega));conv=>whnf)|(with_reducible apply z9;omega;intro _;conv=>whnf)|(with_reducible apply z65;omega;intro _;conv=>whnf)|(apply z6<;>intro _<;>conv=>whnf))
   ·exact z23 rfl (y79 fun h=>by have:=h.2.2.1 _ (y42 hjl);rw [hrk] at this;omega)
   ·refine z86 (j+1) [0,1,2] ⟨by omega,fun i hi hij=>?_⟩ (by omega) ⟨rfl,by decide,rfl,by repeat' (first|exact True.intro|exact ⟨rfl,rfl⟩|apply y41),by repeat' (first|exact True.intro|exact z20 rfl rfl|apply y41)⟩
    rcases y67 i j with h3|h3
    ·exact hj2 i hi h3
    ·obtain rfl:i=j:=by omega
     rw [hrk];omega
   ·omega
  repeat' (first|(apply y81 ok;rfl;conv=>whnf)|(apply y41;(omega);conv=>whnf)|(with_reducible apply z9;omega;intro _;conv=>whnf)|(with_reducible apply z65;omega;intro _;conv=>whnf)|(apply z6<;>intro _<;>conv=>whnf))
  all_goals try (exfalso;omega)
  have hiniR:∀ x∈a.ini,0≤rk c.ranks x:=fun x hx=>by
   obtain ⟨i,hi,rfl⟩:=List.mem_iff_getElem.1 hx
   exact hj2 i hi (by omega)
  clear hj1 hj2 hjl
  refine z93 (fun k:Nat=>([(6,.ptr 1 none 0),(7,.ptr 2 none 0),(9,lst 1 encL rows),(62,ints c.ranks),(63,.int c.ranks.length),(64,.int k)],[.cells 2 [[lst 2 State.cs g.st,lst 1 encL g.nx]],.cells 3 [[lst 1 enI a.ini,lst 1 enB a.acc,lst 4 Trans.cs a.ed]],.cells 1 [[lst 1 enI c.ranks]]])) (fun k=>k≤c.ranks.length∧∀ i (h:i < c.ranks.length),i < k→0≤c.ranks[i]→z819 (rows.getD i []) c.ranks c.ranks[i] (a.acc.getD (i % a.acc.length) false)) (fun k=>c.ranks.length - k) 0 ⟨by omega,fun i h hi=>by omega⟩ ⟨[0,1,2],rfl,by decide,rfl,by repeat' (first|exact True.intro|exact ⟨rfl,rfl⟩|apply y41),by repeat' (first|exact True.intro|exact z20 rfl rfl|apply y41)⟩ ?_
  rintro k ⟨hk1,hk2⟩
  have hm:=hmod k
  have hml:=hmodlt k
  by_cases hkl:k < c.ranks.length
  ·have hrr:k < rows.length:=by omega
   have hkacc:((k:Int) % (a.acc.length:Int)).toNat < a.acc.length:=by omega
   have hacc:a.acc.getD (k % a.acc.length) false=(a.acc[((k:Int) % (a.acc.length:Int)).toNat]'hkacc):=by
    rw [z17 hml];simp only [hm]
   have hrw:rows.getD k []=rows[k]:=z17 hrr
   have hrl2:rows[k].length≤7372800:=hrowl _ (y42 hrr)
   have hxs:∀ x∈rows[k],0≤x∧x < c.ranks.length:=fun x hx=>by
    have:=hrows _ (y42 hrr) x hx
    rw [hcl];exact this
   have hrk:=hrng c.ranks[k] (y42 hkl)
   have hno:z574 rows a.ini a.acc (g.st.length * a.acc.length) c.ranks→0≤c.ranks[k]→z819 rows[k] c.ranks c.ranks[k] (a.acc[((k:Int) % (a.acc.length:Int)).toNat]'hkacc):=fun h=>by
    have h1:=h.2.2.2 k hkl
    rw [hrw,hacc] at h1
    exact h1
   have hyes:(0≤c.ranks[k]→z819 rows[k] c.ranks c.ranks[k] (a.acc[((k:Int) % (a.acc.length:Int)).toNat]'hkacc))→∀ i (h:i < c.ranks.length),i < k+1→0≤c.ranks[i]→z819 (rows.getD i []) c.ranks c.ranks[i] (a.acc.getD (i % a.acc.length) false):=fun h i hi hik=>by
    rcases y67 i k with h3|h3
    ·exact hk2 i hi h3
    ·obtain rfl:i=k:=by omega
     rw [hrw,hacc];exact h
   generalize hacd:(a.acc[((k:Int) % (a.acc.length:Int)).toNat]'hkacc)=ac at hno hyes
   repeat' (first|(apply y81 ok;rfl;conv=>whnf)|(apply z31;kernel_rfl;conv=>whnf)|(apply y41;(first|omega|(unfold inI;omega));conv=>whnf)|(with_reducible apply z9;omega;intro _;conv=>whnf)|(with_reducible apply z65;omega;intro _;conv=>whnf)|(apply z6<;>intro _<;>conv=>whnf)|(apply z92<;>intro _<;>conv=>whnf))
   all_goals try (exfalso;omega)
   all_goals (rw [hacd] at *)
   all_goals
    refine z93 (fun j:Nat=>([(6,.ptr 1 none 0),(7,.ptr 2 none 0),(9,lst 1 encL rows),(62,ints c.ranks),(63,.int c.ranks.length),(64,.int k),(14,.int c.ranks[k]),(15,.int (less ac c.ranks[k])),(84,ints rows[k]),(85,.int rows[k].length),(86,.int j)],[.cells 2 [[lst 2 State.cs g.st,lst 1 encL g.nx]],.cells 3 [[lst 1 enI a.ini,lst 1 enB a.acc,lst 4 Trans.cs a.ed]],.cells 1 [[lst 1 enI c.ranks]]])) (fun j=>j≤rows[k].length∧∀ i (h:i < rows[k].length),i < j→0≤c.ranks[k]→0≤rk c.ranks rows[k][i]∧rk c.ranks rows[k][i]≤less ac c.ranks[k]) (fun j=>rows[k].length - j) 0 ⟨by omega,fun i h hi=>by omega⟩ ⟨[0,1,2],rfl,by decide,rfl,⟨⟨rfl,rfl⟩,⟨rfl,rfl⟩,⟨rfl,rfl⟩,⟨rfl,rfl⟩,⟨rfl,rfl⟩,⟨rfl,rfl⟩,⟨rfl,rfl⟩,⟨rfl,by first|(rw [show less ac c.ranks[k]=c.ranks[k] - 1 from if_pos (by assumption)];rfl)|(rw [show less ac c.ranks[k]=c.ranks[k] from if_neg (by simp [*])];rfl)⟩,⟨rfl,rfl⟩,⟨rfl,rfl⟩,⟨rfl,rfl⟩,trivial⟩,⟨z20 rfl rfl,z20 rfl rfl,z20 rfl rfl,trivial⟩⟩ ?_
    rintro j ⟨hj1,hj2⟩
    by_cases hjl:j < rows[k].length
    ·have hx:=hxs _ (y42 hjl)
     have hix:rows[k][j].toNat < c.ranks.length:=by omega
     have hrk2:rk c.ranks rows[k][j]=c.ranks[rows[k][j].toNat]'hix:=z17 hix
     repeat' (first|(apply y81 ok;rfl;conv=>whnf)|(apply y41;(first|omega|(unfold inI;omega));conv=>whnf)|(with_reducible apply z9;omega;intro _;conv=>whnf)|(with_reducible apply z65;omega;intro _;conv=>whnf)|(apply z6<;>intro _<;>conv=>whnf)|(apply z89<;>intro _<;>conv=>whnf)|(apply z4 (z320 _ 0 (less ac c.ranks[k]));rfl;rfl;conv=>whnf))
     ·rename_i hb
      rw [z297] at hb
      exact z23 rfl (y79 fun h=>hb (by rw [← hrk2];exact hno h (by assumption) _ (y42 hjl)))
     ·rename_i hb
      refine z86 (j+1) [0,1,2] ⟨by omega,fun i hi hij h0=>?_⟩ (by omega) ⟨rfl,by decide,rfl,by repeat' (first|exact True.intro|exact ⟨rfl,rfl⟩|apply y41),by repeat' (first|exact True.intro|exact z20 rfl rfl|apply y41)⟩
      rcases y67 i j with h3|h3
      ·exact hj2 i hi h3 h0
      ·obtain rfl:i=j:=by omega
       rw [hrk2];exact z134.1 hb
     ·refine z86 (j+1) [0,1,2] ⟨by omega,fun i hi hij h0=>?_⟩ (by omega) ⟨rfl,by decide,rfl,by repeat' (first|exact True.intro|exact ⟨rfl,rfl⟩|apply y41),by repeat' (first|exact True.intro|exact z20 rfl rfl|apply y41)⟩
      exact absurd h0 (by assumption)
     ·omega
    ·repeat' (first|(apply y81 ok;rfl;conv=>whnf)|(apply y41;(first|omega|(unfold inI;omega));conv=>whnf)|(with_reducible apply z9;omega;intro _;conv=>whnf)|(with_reducible apply z65;omega;intro _;conv=>whnf)|(apply z6<;>intro _<;>conv=>whnf))
     all_goals try (exfalso;omega)
     refine z86 (k+1) [0,1,2] ⟨by omega,hyes fun h0 x hx=>?_⟩ (by omega) ⟨rfl,by decide,rfl,by repeat' (first|exact True.intro|exact ⟨rfl,rfl⟩|apply y41),by repeat' (first|exact True.intro|exact z20 rfl rfl|apply y41)⟩
     obtain ⟨i,hi,rfl⟩:=List.mem_iff_getElem.1 hx
     exact hj2 i hi (by omega) h0
  ·repeat' (first|(apply y81 ok;rfl;conv=>whnf)|(apply z31;kernel_rfl;conv=>whnf)|(apply y41;(omega);conv=>whnf)|(with_reducible apply z9;omega;intro _;conv=>whnf)|(with_reducible apply z65;omega;intro _;conv=>whnf)|(apply z6<;>intro _<;>conv=>whnf)|(apply z92<;>intro _<;>conv=>whnf))
   all_goals try (exfalso;omega)
   exact z23 rfl (y78 ⟨hcl,hrng,hiniR,fun i h=>hk2 i h (by omega)⟩)
 ·have hgl:=(y69 _).mp hgl
  rw [hgl] at k1
  have e:z536 g l a c=false:=by unfold z536;rw [hgl];rfl
  rw [e]
  refine z12 z14 Tryz.func39 rfl rfl 104 Tryz.ntmps39 (by simp) ?_
  repeat' (first|(apply y81 ok;rfl;conv=>whnf)|(apply z4 (k1);rfl;rfl;conv=>whnf))
  all_goals (refine z23 rfl ?_;rfl)
theorem z347 (l:List Int) (hl:l.length≤1048576):CallsA Tryz.prog 66 [.sref 0 0 l.length] [.cells 1 (l.map enI)] (.sref 0 0 l.length) [.cells 1 (l.map enI)]:=by
 refine z12 z14 Tryz.func66 rfl rfl 9 Tryz.ntmps66 (by simp) ?_
 repeat' (first|(apply y81 ok;rfl;conv=>whnf)|(apply y41;(omega);conv=>whnf))
 exact z101 rfl (z5 fun _=>rfl) (by omega) rfl rfl
theorem z758 (l:List Int) (hl:l.length≤1048576):CallsA Tryz.prog 201 [ints l] [] (.sref 0 0 l.length) [.cells 1 (l.map enI)]:=by
 by_cases hp:0 < l.length
 ·exact z596 l hl hp
 ·obtain rfl:l=[]:=y71 (by omega)
  refine z205 (z286 Tryz.func201 rfl (by rfl)) fun ad cap=>?_
  cases ad with
  |none =>
   refine CallsA.nils (res:=.nils) (l:=[.cells 1 []]) ?_ (by simp) z457
   refine z12 z14 Tryz.func201 rfl rfl 8 Tryz.ntmps201 (by simp) ?_
   repeat' ((apply y81 ok;rfl;conv=>whnf))
   all_goals exact z54 rfl rfl rfl
  |some p =>
   refine z12 z14 Tryz.func201 rfl rfl 8 Tryz.ntmps201 (by simp) ?_
   repeat' (first|(apply y81 ok;rfl;conv=>whnf)|(apply y41;(omega);conv=>whnf))
   all_goals (exact z101 rfl z24 rfl rfl rfl)
theorem z377 (l:List Int) (hl:l.length≤1048576):CallsA Tryz.prog 137 [ints l] [] (.sref 0 0 l.length) [.cells 1 (l.map enI)]:=by
 refine z12 z14 Tryz.func137 rfl rfl 6 Tryz.ntmps137 (by simp) ?_
 repeat' (first|(apply y81 ok;rfl;conv=>whnf)|(apply z94 [] [] [0] (z758 l hl);rfl;(focus ((repeat' (exact z45))<;>(fail)));rfl;rfl;rfl;rfl;rfl;(focus ((repeat' (first|exact z16|apply z15))<;>((refine z19 ?_;((exact z5 (fun _=>rfl)))))));(exact .inl rfl);conv=>whnf)|(apply z94 [0] [] [] (z347 l hl);rfl;(focus ((repeat' (first|exact z45|apply z55))<;>((refine z77 rfl ?_;((exact z5 (fun _=>rfl)))))));rfl;rfl;rfl;rfl;rfl;(focus ((repeat' (first|exact z16|apply z15))<;>((refine z19 ?_;((exact z5 (fun _=>rfl)))))));(exact .inl rfl);conv=>whnf))
 exact z101 rfl (z5 fun _=>rfl) rfl rfl rfl
structure RI (rows:List (List Int)) (ini S L:List Int):Prop where
 inS:InN rows.length S
 sub:∀ x∈L,x∈S
 rp:∀ x∈S,RP rows ini x
 base:∀ x∈ini,x∈S
def Shut (rows:List (List Int)) (S:List Int) (x:Int):Prop:=∀ y∈rows.getD x.toNat [],y∈S
set_option maxHeartbeats 1600000 in
theorem z626 (rows:List (List Int)) (ini:List Int) (hr:∀ r∈rows,InN rows.length r) (hi:InN rows.length ini) (hN:rows.length≤1048576) (hrl:∀ r∈rows,r.length≤1000000000) (hil:ini.length≤1048576):CallsA Tryz.prog 76 [lst 1 encL rows,ints ini] [] (.sref 0 0 rows.length) [.cells 1 ((z209 rows ini).map enB)]:=by
 have c0:=z377 ini hil
 refine z12 z14 Tryz.func76 rfl rfl 64 Tryz.ntmps76 (by simp) ?_
 repeat' (first|(apply y81 ok;rfl;conv=>whnf)|(apply y41;((dsimp only;omega));conv=>whnf)|(apply z94 [] [] [1] (c0);rfl;(focus ((repeat' (exact z45))<;>(fail)));rfl;rfl;rfl;rfl;rfl;(focus ((repeat' (first|exact z16|apply z15))<;>((refine z19 ?_;((exact z5 (fun _=>rfl)))))));(exact .inl rfl);conv=>whnf))
 refine z93 (fun i:Nat=>([(0,lst 1 encL rows),(5,.sref 0 0 rows.length),(6,.sref 1 0 ini.length),(17,ints ini),(18,.int ini.length),(19,.int i)],[.cells 1 ((mkB rows.length (ini.take i)).map enB),.cells 1 (ini.map enI)])) (fun i=>i≤ini.length) (fun i=>ini.length - i) 0 (by omega) ⟨[0,1],rfl,by decide,rfl,⟨⟨rfl,rfl⟩,⟨rfl,rfl⟩,⟨rfl,rfl⟩,⟨rfl,rfl⟩,⟨rfl,rfl⟩,⟨rfl,rfl⟩,trivial⟩,⟨z42 (z60 (by rw [List.take_zero,z822,List.map_replicate];rfl)) (z5 fun _=>rfl),z42 rfl (z5 fun _=>rfl),trivial⟩⟩ ?_
 intro i hil2
 by_cases hil3:i < ini.length
 ·have hx:=hi ini[i] (y42 _)
  repeat' (first|(apply y81 ok;rfl;conv=>whnf)|(refine z288 (enc:=enB) (v:=ini[i]) (by rfl) hx.1 hx.2 ?_;conv=>whnf)|(apply y41;(first|omega|(unfold inI;omega));conv=>whnf)|(with_reducible apply z9;omega;intro _;conv=>whnf)|(apply z6<;>intro _<;>conv=>whnf))
  all_goals try (exfalso;omega)
  exact z86 (i+1) [0,1] (by omega) (by omega) ⟨rfl,by decide,rfl,⟨⟨rfl,rfl⟩,⟨rfl,rfl⟩,⟨rfl,rfl⟩,⟨rfl,rfl⟩,⟨rfl,rfl⟩,⟨rfl,rfl⟩,trivial⟩,⟨z42 (z60 (z406 (enc:=enB) (by rfl) hx.1 hx.2 fun x=>by rw [y48 hil3,y52,y53])) (z5 fun _=>rfl),z42 rfl (z5 fun _=>rfl),trivial⟩⟩
 repeat' (first|(apply y81 ok;rfl;conv=>whnf)|(apply y41;(omega);conv=>whnf)|(with_reducible apply z9;omega;intro _;conv=>whnf)|(apply z9;omega;intro _;conv=>whnf)|(apply z6<;>intro _<;>conv=>whnf))
 all_goals try (exfalso;omega)
 obtain rfl:i=ini.length:=by omega
 rw [y54]
 refine z93 (fun x:List Int×List Int×List Int=>([(0,lst 1 encL rows),(5,.sref 0 0 rows.length),(6,.sref 1 0 x.2.1.length)],[.cells 1 ((mkB rows.length x.1).map enB),.cells 1 ((x.2.1++x.2.2).map enI)])) (fun x=>RI rows ini x.1 x.2.1∧(∀ v∈x.1,v ∉ x.2.1→Shut rows x.1 v)∧2 * cntU rows.length x.1+x.2.1.length≤2 * rows.length+ini.length) (fun x=>2 * cntU rows.length x.1+x.2.1.length) (ini,ini,[]) ⟨⟨hi,fun _ h=>h,fun _ h=>.base h,fun _ h=>h⟩,fun v h h'=>absurd h h',by have:=z985 rows.length ini;dsimp only;omega⟩ ⟨[0,1],rfl,by decide,rfl,⟨⟨rfl,rfl⟩,⟨rfl,rfl⟩,⟨rfl,rfl⟩,trivial⟩,⟨z42 rfl (z5 fun _=>rfl),z42 (z60 (by rw [y62])) (z5 fun _=>rfl),trivial⟩⟩ ?_
 rintro ⟨S,L,J⟩ ⟨hRI,hsh,hLl⟩
 dsimp only at hRI hsh hLl ⊢
 rcases List.eq_nil_or_concat L with rfl|⟨L,x,rfl⟩
 ·repeat' ((apply y81 ok;rfl;conv=>whnf))
  refine z501 rfl (z5 fun _=>rfl) rfl ?_
  rw [z1056]
  intro v _
  refine ⟨fun h=>hRI.rp _ h,fun h=>?_⟩
  generalize (v:Int)=u at h
  induction h with
  |base h=>exact hRI.base _ h
  |step _ h2 ih=>exact hsh _ ih (by simp) _ h2
 ·rw [List.concat_eq_append] at *
  have hxS:x∈S:=hRI.sub x (by simp)
  have hx:=hRI.inS x hxS
  have e:(L++[x]).length=L.length+1:=by simp
  have hxr:x.toNat < rows.length:=by omega
  rw [e] at hLl
  rw [e,List.append_assoc,List.singleton_append]
  have hg:((L++x::J).map enI)[L.length]?=some (enI x):=by simp
  have hrow:rows.getD x.toNat []=rows[x.toNat]:=z17 hxr
  have hrin:InN rows.length rows[x.toNat]:=hr _ (y42 _)
  have hrl2:=hrl rows[x.toNat] (y42 _)
  repeat' (first|(apply y81 ok;rfl;conv=>whnf)|(refine z13 (i:=L.length) (by omega) hg ?_;conv=>whnf)|(apply y41;(first|omega|(unfold inI;omega));conv=>whnf)|(with_reducible apply z65;omega;intro _;conv=>whnf)|(apply z6<;>intro _<;>conv=>whnf))
  all_goals try (exfalso;omega)
  generalize hrw:rows[x.toNat]=row at *
  refine z93 (fun y:List Int×List Int×List Int×Nat=>([(0,lst 1 encL rows),(5,.sref 0 0 rows.length),(6,.sref 1 0 y.2.1.length),(44,ints row),(45,.int row.length),(46,.int y.2.2.2)],[.cells 1 ((mkB rows.length y.1).map enB),.cells 1 ((y.2.1++y.2.2.1).map enI)])) (fun y=>RI rows ini y.1 y.2.1∧(∀ v∈y.1,v ∉ y.2.1→v≠x→Shut rows y.1 v)∧(∀ v∈row.take y.2.2.2,v∈y.1)∧y.2.2.2≤row.length∧2 * cntU rows.length y.1+y.2.1.length≤2 * cntU rows.length S+L.length) (fun y=>row.length - y.2.2.2) (S,L,x::J,0) ⟨⟨hRI.inS,fun v hv=>hRI.sub v (by simp [hv]),hRI.rp,hRI.base⟩,fun v hv hv' hne=>hsh v hv (by simp [hv',hne]),fun v hv=>by simp at hv,y51 _,y50 _⟩ ⟨[0,1],rfl,by decide,rfl,⟨⟨rfl,rfl⟩,⟨rfl,rfl⟩,⟨rfl,z257 (by dsimp only;omega) rfl⟩,⟨rfl,rfl⟩,⟨rfl,rfl⟩,⟨rfl,rfl⟩,trivial⟩,⟨z42 rfl (z5 fun _=>rfl),z42 rfl (z5 fun _=>rfl),trivial⟩⟩ ?_
  rintro ⟨S',L',J',i⟩ ⟨h1,h2,h3,h4,h5⟩
  dsimp only at h1 h2 h3 h4 h5 ⊢
  by_cases hil4:i < row.length
  ·have hy:=hrin row[i] (y42 _)
   repeat' (first|(apply y81 ok;rfl;conv=>whnf)|(refine z288 (enc:=enB) (v:=row[i]) (by rfl) hy.1 hy.2 ?_;conv=>whnf)|(apply y41;(first|omega|(unfold inI;omega)|((try dsimp only);simp only [y47,y46,y45,y44,y56,y57];omega)|exact ⟨rfl,z21 rfl z29⟩);conv=>whnf)|(with_reducible apply z9;omega;intro _;conv=>whnf)|(apply z6<;>intro _<;>conv=>whnf)|(apply z35<;>intro _<;>conv=>whnf))
   all_goals try (exfalso;omega)
   ·rename_i hn
    have hn:row[i] ∉ S':=by simpa using hn
    have hc:=cntU_lt (S:=S') (S':=S'++[row[i]]) (fun v hv=>by simp [hv]) hn (by simp) rows.length hy.1 hy.2
    refine z86 (S'++[row[i]],L'++[row[i]],[],i+1) [0,3] ⟨⟨fun v hv=>?_,fun v hv=>?_,fun v hv=>?_,fun v hv=>by simp [h1.base v hv]⟩,fun v hv hv' hne=>?_,fun v hv=>?_,by dsimp only;omega,?_⟩ (by dsimp only;omega) ⟨rfl,by decide,rfl,⟨⟨rfl,rfl⟩,⟨rfl,rfl⟩,⟨rfl,z257 (by simp) rfl⟩,⟨rfl,rfl⟩,⟨rfl,rfl⟩,⟨rfl,rfl⟩,trivial⟩,⟨z42 (z60 (z406 (enc:=enB) (by rfl) hy.1 hy.2 fun v=>by simp)) (z5 fun _=>rfl),z42 (z60 ?_) (z5 fun _=>rfl),trivial⟩⟩
    ·rcases List.mem_append.1 hv with hv|hv
     ·exact h1.inS v hv
     ·rw [List.mem_singleton.1 hv];exact hy
    ·rcases List.mem_append.1 hv with hv|hv
     ·exact List.mem_append_left _ (h1.sub v hv)
     ·exact List.mem_append_right _ hv
    ·rcases List.mem_append.1 hv with hv|hv
     ·exact h1.rp v hv
     ·rw [List.mem_singleton.1 hv];exact .step (hRI.rp x hxS) (by rw [hrow];exact y42 _)
    ·dsimp only at hv hv'
     rcases List.mem_append.1 hv with hv|hv
     ·exact fun y hy=>List.mem_append_left _ (h2 v hv (fun h=>hv' (List.mem_append_left _ h)) hne y hy)
     ·exact absurd (List.mem_append_right _ hv) hv'
    ·dsimp only at hv ⊢
     rw [y48 hil4] at hv
     rcases List.mem_append.1 hv with hv|hv
     ·exact List.mem_append_left _ (h3 v hv)
     ·exact List.mem_append_right _ hv
    ·dsimp only
     rw [y45]
     simp only [List.length_singleton]
     omega
    ·dsimp only
     rw [y62,y61,y61,List.take_append_of_le_length (by simp),y55 (by simp)]
     rfl
   ·refine z86 (S',L',J',i+1) [0,1] ⟨h1,h2,fun v hv=>?_,by dsimp only;omega,h5⟩ (by dsimp only;omega) ⟨rfl,by decide,rfl,⟨⟨rfl,rfl⟩,⟨rfl,rfl⟩,⟨rfl,rfl⟩,⟨rfl,rfl⟩,⟨rfl,rfl⟩,⟨rfl,rfl⟩,trivial⟩,⟨z42 rfl (z5 fun _=>rfl),z42 rfl (z5 fun _=>rfl),trivial⟩⟩
    dsimp only at hv ⊢
    rw [y48 hil4] at hv
    rcases List.mem_append.1 hv with hv|hv
    ·exact h3 v hv
    ·rw [List.mem_singleton.1 hv];assumption
  ·repeat' (first|(apply y81 ok;rfl;conv=>whnf)|(apply y41;(omega);conv=>whnf)|(with_reducible apply z9;omega;intro _;conv=>whnf)|(apply z9;omega;intro _;conv=>whnf)|(apply z6<;>intro _<;>conv=>whnf)|(apply z89<;>intro _<;>conv=>whnf))
   all_goals try (exfalso;omega)
   have hie:i=row.length:=by omega
   refine z86 (S',L',J') [0,1] ⟨h1,fun v hv hv'=>?_,by dsimp only;omega⟩ (by dsimp only;rw [e];omega) ⟨rfl,by decide,rfl,⟨⟨rfl,rfl⟩,⟨rfl,rfl⟩,⟨rfl,rfl⟩,trivial⟩,⟨z42 rfl (z5 fun _=>rfl),z42 rfl (z5 fun _=>rfl),trivial⟩⟩
   by_cases hvx:v=x
   ·subst hvx
    intro y hy
    rw [hrow] at hy
    exact h3 y (by rw [hie,y54];exact hy)
   ·exact h2 v hv hv' hvx
structure Graph.ok (g:Graph):Prop where
 mx:g.mx
 st:g.st.length≤1048576
 nx:g.nx.length≤1048576
 states:∀ s∈g.st,s.small
 rows:∀ r∈g.nx,r.length≤1048576
 sumS:(g.st.map State.sz).sum≤1048576
 sumN:(g.nx.map List.length).sum≤1048576
theorem Graph.ok_of {g:Graph} (hg:g.mx) (h1:g.s1≤1048576) (h2:g.s2≤1048576):g.ok:=by
 unfold Graph.s1 tot at h1
 unfold Graph.s2 tot at h2
 refine ⟨hg,by omega,by omega,fun s hs=>?_,fun r hr=>?_,by omega,by omega⟩
 ·have:=z331 State.sz hs
  unfold State.sz at this h1
  exact ⟨by omega,by omega⟩
 ·have:=z331 List.length hr;omega
structure LabOk (l:List Tree):Prop where
 mx:Lmx l
 len:l.length≤1048576
 el:∀ t∈l,t.sz≤1048576
 sum:(l.map Tree.sz).sum≤1048576
theorem LabOk.of {l:List Tree} (hl:Lmx l) (h:tot Tree.sz l≤1048576):LabOk l:=by
 unfold tot at h
 exact ⟨hl,by omega,fun t ht=>by have:=z331 Tree.sz ht;omega,by omega⟩
def enU (n:Int):List AC:=[.raw (.int .u8 n)]
def rdO (bs:List Int) (p:Int):AObj:=.cells 2 [[lst 1 enU bs,.int p]]
structure BytesOk (bs:List Int):Prop where
 len:bs.length≤2000
 el:∀ x∈bs,0≤x∧x≤255
theorem u_at {l:List Int} {i:Nat} (h:i < l.length):(l.map enU)[i]?=some (enU l[i]):=by rw [y49,y43 h];rfl
theorem rem_at {l:List Int} {i:Int} (h:0 < l.length) (h0:0≤i):(i % (l.length:Int)).toNat < l.length:=by
 have:=Int.emod_lt_of_pos i (show (0:Int) < l.length by omega)
 have:=Int.emod_nonneg i (show (l.length:Int)≠0 by omega)
 omega
set_option maxHeartbeats 1600000 in
theorem z70 (bs:List Int) (hb:BytesOk bs) (p n:Int) (h0:0≤p) (h1:p≤1000000000) (hn:n≤1000000000):∃ v:Int,(0≤v∧(1≤n→v < n))∧CallsA Tryz.prog 101 [.ptr 0 none 0,.int n] [rdO bs p] (.int v) [rdO bs (p+1)]:=by
 have hlen:=hb.len
 by_cases hz:n < 1∨bs.length=0
 ·refine ⟨0,⟨by omega,fun _=>by omega⟩,?_⟩
  refine z12 z14 Tryz.func101 rfl rfl 99 Tryz.ntmps101 (by simp) ?_
  repeat' (first|(apply y81 ok;rfl;conv=>whnf)|(apply z31;kernel_rfl;conv=>whnf)|(apply y41;(first|omega|(unfold inI;omega));conv=>whnf)|(with_reducible apply z65;omega;intro _;conv=>whnf)|(apply z6<;>intro _<;>conv=>whnf))
  all_goals first|(exfalso;omega)|exact z91 [0] (by decide) rfl rfl rfl ⟨z20 rfl rfl,trivial⟩
 by_cases hk:p < bs.length
 ·have hp:(p+1 - 1).toNat < bs.length:=by omega
  have g0:=u_at (l:=bs) (i:=(p+1 - 1).toNat) hp
  have hr:=hb.el bs[(p+1 - 1).toNat] (y42 _)
  generalize bs[(p+1 - 1).toNat]=b at *
  have hw:IntKind.i64.wrap b=b:=IntWalk.i64_in _ (by omega)
  refine ⟨b % n,⟨Int.emod_nonneg _ (by omega),fun _=>Int.emod_lt_of_pos _ (by omega)⟩,?_⟩
  refine z12 z14 Tryz.func101 rfl rfl 99 Tryz.ntmps101 (by simp) ?_
  repeat' (first|(apply y81 ok;rfl;conv=>whnf)|(apply z31;kernel_rfl;conv=>whnf)|(refine z13 (i:=(p+1 - 1).toNat) rfl g0 ?_;conv=>whnf)|(apply y41;(first|omega|(unfold inI;omega));conv=>whnf)|(with_reducible apply z65;omega;intro _;conv=>whnf)|(apply z6<;>intro _<;>conv=>whnf))
  all_goals first|(exfalso;omega)|exact z91 [0] (by decide) rfl rfl rfl ⟨z20 rfl rfl,trivial⟩
 have hl0:0 < bs.length:=by omega
 have m1:=rem_at (l:=bs) (i:=p+1 - 1) hl0 (by omega)
 have m2:=rem_at (l:=bs) (i:=(p+1 - 1) * 7+3) hl0 (by omega)
 have g1:=u_at m1
 have g2:=u_at m2
 have r1:=hb.el bs[((p+1 - 1) % (bs.length:Int)).toNat] (y42 _)
 have r2:=hb.el bs[(((p+1 - 1) * 7+3) % (bs.length:Int)).toNat] (y42 _)
 generalize bs[((p+1 - 1) % (bs.length:Int)).toNat]=b1 at *
 generalize bs[(((p+1 - 1) * 7+3) % (bs.length:Int)).toNat]=b2 at *
 have w1:IntKind.i64.wrap b1=b1:=IntWalk.i64_in _ (by omega)
 have w2:IntKind.i64.wrap b2=b2:=IntWalk.i64_in _ (by omega)
 have n1:=Int.emod_nonneg (p+1 - 1) (show (bs.length:Int)≠0 by omega)
 have n2:=Int.emod_nonneg ((p+1 - 1) * 7+3) (show (bs.length:Int)≠0 by omega)
 have l1:=Int.emod_lt_of_pos (p+1 - 1) (show (0:Int) < bs.length by omega)
 have l2:=Int.emod_lt_of_pos ((p+1 - 1) * 7+3) (show (0:Int) < bs.length by omega)
 have q0:0≤(p+1 - 1) / (bs.length:Int):=Int.ediv_nonneg (by omega) (by omega)
 have q1:(p+1 - 1) / (bs.length:Int)≤p+1 - 1:=Int.ediv_le_self _ (by omega)
 have hx0:0≤b1 * 131+b2 * 1117+(p+1 - 1) * 29+(p+1 - 1) / (bs.length:Int) * 53:=by omega
 have hx1:b1 * 131+b2 * 1117+(p+1 - 1) * 29+(p+1 - 1) / (bs.length:Int) * 53≤1000000000000:=by omega
 have hq:0≤(b1 * 131+b2 * 1117+(p+1 - 1) * 29+(p+1 - 1) / (bs.length:Int) * 53) / 64∧(b1 * 131+b2 * 1117+(p+1 - 1) * 29+(p+1 - 1) / (bs.length:Int) * 53) / 64≤1000000000000:=by omega
 refine ⟨(((b1 * 131+b2 * 1117+(p+1 - 1) * 29+(p+1 - 1) / (bs.length:Int) * 53).toNat ^^^ ((b1 * 131+b2 * 1117+(p+1 - 1) * 29+(p+1 - 1) / (bs.length:Int) * 53) / 64).toNat:Nat):Int) % n,⟨Int.emod_nonneg _ (by omega),fun _=>Int.emod_lt_of_pos _ (by omega)⟩,?_⟩
 refine z12 z14 Tryz.func101 rfl rfl 99 Tryz.ntmps101 (by simp) ?_
 repeat' (first|(apply y81 ok;rfl;conv=>whnf)|(apply z31;kernel_rfl;conv=>whnf)|(refine z13 (i:=(((p+1 - 1) * 7+3) % (bs.length:Int)).toNat) rfl g2 ?_;conv=>whnf)|(refine z13 (i:=((p+1 - 1) % (bs.length:Int)).toNat) rfl g1 ?_;conv=>whnf)|(apply y41;(first|omega|(unfold inI;omega)|(unfold z138;omega));conv=>whnf)|(with_reducible apply z65;omega;intro _;conv=>whnf)|(apply z6<;>intro _<;>conv=>whnf))
 all_goals first|(exfalso;omega)|exact z91 [0] (by decide) rfl rfl rfl ⟨z20 rfl rfl,trivial⟩
theorem z969 (bs:List Int) (hl:bs.length≤maxLen):CallsA Tryz.prog 40 [lst 1 enU bs] [] (.ptr 0 none 0) [rdO (bs.take 2000) 0]:=by
 unfold maxLen at hl
 refine z12 z14 Tryz.func40 rfl rfl 11 Tryz.ntmps40 (by simp) ?_
 by_cases h:bs.length≤2000
 ·rw [y55 h]
  repeat' (first|(apply y81 ok;rfl;conv=>whnf)|(apply y41;(omega);conv=>whnf)|(apply z6<;>intro _<;>conv=>whnf))
  all_goals first|(exfalso;omega)|exact z91 [0] (by decide) rfl rfl rfl ⟨z20 rfl rfl,trivial⟩
 ·repeat' (first|(apply y81 ok;rfl;conv=>whnf)|(apply y41;(omega);conv=>whnf)|(apply z6<;>intro _<;>conv=>whnf))
  all_goals try (exfalso;omega)
  all_goals exact z91 [0] (by decide) rfl rfl rfl ⟨z20 rfl (congrArg (fun x=>AObj.cells 2 [[x,AC.int 0]]) (z304 1 enU bs 2000 (by omega))),trivial⟩
theorem z106 (bs:List Int) (hb:BytesOk bs) (p:Int) (h0:0≤p) (h1:p≤1000000000) (l:List Int) (hl:0 < l.length) (hl2:l.length≤1000):∃ v:Int,v∈l∧CallsA Tryz.prog 104 [.ptr 0 none 0,.sref 1 0 l.length] [rdO bs p,.cells 1 (l.map enI)] (.int v) [rdO bs (p+1),.cells 1 (l.map enI)]:=by
 obtain ⟨k,⟨hk0,hk1⟩,hc⟩:=z70 bs hb p l.length h0 h1 (by omega)
 have hk:k.toNat < l.length:=by omega
 have g0:(l.map enI)[k.toNat]?=some (enI l[k.toNat]):=by rw [y49,y43 hk];rfl
 refine ⟨l[k.toNat],y42 _,?_⟩
 generalize l[k.toNat]=v at *
 refine z12 z14 Tryz.func104 rfl rfl 12 Tryz.ntmps104 (by simp) ?_
 repeat' (first|(apply y81 ok;rfl;conv=>whnf)|(refine z13 (i:=k.toNat) rfl g0 ?_;conv=>whnf)|(apply y41;(omega);conv=>whnf)|(apply z94 [0] [] [] (hc);rfl;(focus ((repeat' (first|exact z45|apply z55))<;>(rfl)));rfl;rfl;rfl;rfl;rfl;(focus ((repeat' (first|exact z16|apply z15))<;>(exact z52 rfl rfl)));(exact .inl rfl);conv=>whnf))
 all_goals (exact z91 [0,1] (by decide) rfl rfl rfl ⟨z20 rfl rfl,z42 rfl (z5 fun _=>rfl),trivial⟩)
end Go.Proofs.YtjhgpfaodkchjaaGreat
namespace Go.Proofs.YtjhgpfaodkchjaaGreat
open Go.Gl
attribute [local irreducible] z18 AWP z41 z46 z44 RetS z51
theorem z98 (t:Tree):t.sz≤maxLen→t.mx:=by
 induction t using y26 with|h t ih=>?_
 intro h
 rw [y27]
 rw [y36] at h
 refine ⟨by omega,fun u hu=>ih u hu ?_⟩
 have:=z331 Tree.sz hu
 omega
abbrev few (p:Int):Prop:=0≤p∧p≤999999000
abbrev few1 (p:Int):Prop:=0≤p∧p≤999990000
abbrev few2 (p:Int):Prop:=0≤p∧p≤999900000
abbrev few3 (p:Int):Prop:=0≤p∧p≤999000000
def leaf (k v:Int):Tree:=.mk k v []
theorem z90 (k v:Int):(leaf k v).sz=0:=rfl
theorem z232 (k v:Int) (l:List Tree):(Tree.mk k v l).sz=l.length+(l.map Tree.sz).sum:=y36 _
set_option maxHeartbeats 1600000 in
theorem z587 (bs:List Int) (hb:BytesOk bs) (p:Int) (hp:few p):∃ (t:Tree) (p' : Int),(t.sz≤3∧p≤p'∧p'≤p+5)∧CallsA Tryz.prog 100 [.ptr 0 none 0] [rdO bs p] (z25 Tree.cs' t) [rdO bs p']:=by
 obtain ⟨v0,⟨l0,u0⟩,c0⟩:=z70 bs hb p 3 (by omega) (by omega) (by omega)
 by_cases h0:v0=0
 ·subst h0
  refine ⟨leaf 1 1,p+1,⟨by rw [z90];omega,by omega,by omega⟩,?_⟩
  refine z7 z14 Tryz.func100 rfl rfl 31 Tryz.ntmps100 (by simp) ?_
  repeat' ((first|(apply y81 ok;rfl)|(apply z40 [0] [] c0;rfl;rfl;rfl))<;>conv=>whnf)
  all_goals (refine rsD [0] [] rfl ?_;(repeat' first|exact y83 _|exact z38|apply y84|apply z36|constructor))
 ·obtain ⟨v1,m1,c1⟩:=z106 bs hb (p+1) (by omega) (by omega) [0,1,0,2] (by decide) (by decide)
  obtain ⟨v2,⟨l2,u2⟩,c2⟩:=z70 bs hb (p+1+1) 3 (by omega) (by omega) (by omega)
  obtain ⟨v3,m3,c3⟩:=z106 bs hb (p+1+1+1) (by omega) (by omega) [6,7,6] (by decide) (by decide)
  obtain ⟨v4,⟨l4,u4⟩,c4⟩:=z70 bs hb (p+1+1+1+1) 5 (by omega) (by omega) (by omega)
  have z0:v0≠0:=h0
  by_cases h4:v4=0
  ·subst h4
   refine ⟨.mk 3 0 [.mk v3 0 [leaf 2 v1,leaf 1 v2]],p+1+1+1+1+1,⟨by simp [z232,z90],by omega,by omega⟩,?_⟩
   refine z7 z14 Tryz.func100 rfl rfl 31 Tryz.ntmps100 (by simp) ?_
   repeat' ((first|(apply y81 ok;rfl)|(apply z31;kernel_rfl)|((apply z6)<;>intro _)|((first|(apply z10 [0] [] c0;rfl;rfl)|(apply z10 [0,2] [] c1;rfl;rfl)|(apply z10 [0] [] c2;rfl;rfl)|(apply z10 [0,5] [] c3;rfl;rfl)|(apply z10 [0] [] c4;rfl;rfl));rfl;(focus ((repeat' first|exact z16|apply z15)<;>first|exact z52 rfl rfl|(refine z19 ?_;((exact z5 fun _=>rfl)))))))<;>conv=>whnf)
   all_goals try (exfalso;omega)
   all_goals (refine rsL [0,8] [6] rfl ?_;refine rsD [0] [1] rfl ?_;(repeat' first|exact y83 _|exact z38|apply y84|((first|apply z43 rfl rfl rfl|apply z83 rfl rfl rfl);(focus ((repeat (rfl));done));(focus ((rfl);done)))|apply z36|(apply z78;rfl)|constructor))
  ·refine ⟨.mk v3 0 [leaf 2 v1,leaf 1 v2],p+1+1+1+1+1,⟨by simp [z232,z90],by omega,by omega⟩,?_⟩
   refine z7 z14 Tryz.func100 rfl rfl 31 Tryz.ntmps100 (by simp) ?_
   repeat' ((first|(apply y81 ok;rfl)|(apply z31;kernel_rfl)|((apply z6)<;>intro _)|((first|(apply z10 [0] [] c0;rfl;rfl)|(apply z10 [0,2] [] c1;rfl;rfl)|(apply z10 [0] [] c2;rfl;rfl)|(apply z10 [0,5] [] c3;rfl;rfl)|(apply z10 [0] [] c4;rfl;rfl));rfl;(focus ((repeat' first|exact z16|apply z15)<;>first|exact z52 rfl rfl|(refine z19 ?_;((exact z5 fun _=>rfl)))))))<;>conv=>whnf)
   all_goals try (exfalso;omega)
   all_goals (refine rsD [0] [6] rfl ?_;(repeat' first|exact y83 _|exact z38|apply y84|refine z43 rfl rfl rfl rfl rfl ?_|apply z36|(apply z78;rfl)|constructor))
def drK:Nat→Int
 |0=>4
 |n+1=>4+2 * drK n
def drS:Nat→Nat
 |0=>0
 |n+1=>2+2 * drS n
theorem z1121 (n:Nat):4≤drK n:=by induction n with
 |zero=>decide
 |succ n ih=>rw [drK];omega
set_option maxHeartbeats 1600000 in
theorem z835 (bs:List Int) (hb:BytesOk bs):∀ (n:Nat) (d p:Int),d≤n+1→n≤100→0≤d→0≤p→p+drK n≤1000000000→∃ (t:Tree) (p' : Int),(t.sz≤drS n∧p≤p'∧p'≤p+drK n)∧CallsA Tryz.prog 282 [.ptr 0 none 0,.int d] [rdO bs p] (z25 Tree.cs' t) [rdO bs p']:=by
 intro n
 induction n with
 |zero =>
  intro d p hd hd1 hd0 hp hq
  rw [drK] at hq ⊢
  obtain ⟨v0,⟨l0,u0⟩,c0⟩:=z70 bs hb p 3 (by omega) (by omega) (by omega)
  by_cases h0:v0=0
  ·subst h0
   obtain ⟨v1,⟨l1,u1⟩,c1⟩:=z70 bs hb (p+1) 4 (by omega) (by omega) (by omega)
   refine ⟨leaf 1 v1,p+1+1,⟨by rw [z90];omega,by omega,by omega⟩,?_⟩
   refine z7 z14 Tryz.func282 rfl rfl 46 Tryz.ntmps282 (by simp) ?_
   repeat' ((first|(apply y81 ok;rfl)|((apply z6)<;>intro _)|((first|(apply z40 [0] [] c0;rfl;rfl)|(apply z40 [0] [] c1;rfl;rfl));rfl))<;>conv=>whnf)
   all_goals try (exfalso;omega)
   all_goals (refine rsD [0] [] rfl ?_;(repeat' first|exact y83 _|exact z38|apply y84|apply z36|constructor))
  ·obtain ⟨v1,m1,c1⟩:=z106 bs hb (p+1) (by omega) (by omega) [0,1,0,2] (by decide) (by decide)
   refine ⟨leaf 2 v1,p+1+1,⟨by rw [z90];omega,by omega,by omega⟩,?_⟩
   refine z7 z14 Tryz.func282 rfl rfl 46 Tryz.ntmps282 (by simp) ?_
   repeat' ((first|(apply y81 ok;rfl)|((apply z6)<;>intro _)|((first|(apply z10 [0] [] c0;rfl;rfl)|(apply z10 [0,2] [] c1;rfl;rfl));rfl;(focus ((repeat' first|exact z16|apply z15)<;>first|exact z52 rfl rfl|(refine z19 ?_;((exact z5 fun _=>rfl)))))))<;>conv=>whnf)
   all_goals try (exfalso;omega)
   all_goals (refine rsD [0] [] rfl ?_;(repeat' first|exact y83 _|exact z38|apply y84|apply z36|constructor))
 |succ n ih =>
  intro d p hd hd1 hd0 hp hq
  have hK:=z1121 n
  by_cases hlt:d < 2
  ·obtain ⟨t,p',h1,h2⟩:=ih d p (by omega) (by omega) hd0 hp (by rw [drK] at hq;omega)
   exact ⟨t,p',⟨by rw [drS];omega,h1.2.1,by rw [drK];omega⟩,h2⟩
  rw [drK] at hq
  rw [drK,drS]
  obtain ⟨w,⟨lw,uw⟩,cw⟩:=z70 bs hb p 5 (by omega) (by omega) (by omega)
  by_cases hw:w=0
  ·subst hw
   obtain ⟨v0,⟨l0,u0⟩,c0⟩:=z70 bs hb (p+1) 3 (by omega) (by omega) (by omega)
   by_cases h0:v0=0
   ·subst h0
    obtain ⟨v1,⟨l1,u1⟩,c1⟩:=z70 bs hb (p+1+1) 4 (by omega) (by omega) (by omega)
    refine ⟨leaf 1 v1,p+1+1+1,⟨by rw [z90];omega,by omega,by omega⟩,?_⟩
    refine z7 z14 Tryz.func282 rfl rfl 46 Tryz.ntmps282 (by simp) ?_
    repeat' ((first|(apply y81 ok;rfl)|((apply z6)<;>intro _)|((first|(apply z40 [0] [] cw;rfl;rfl)|(apply z40 [0] [] c0;rfl;rfl)|(apply z40 [0] [] c1;rfl;rfl));rfl))<;>conv=>whnf)
    all_goals try (exfalso;omega)
    all_goals (refine rsD [0] [] rfl ?_;(repeat' first|exact y83 _|exact z38|apply y84|apply z36|constructor))
   ·obtain ⟨v1,m1,c1⟩:=z106 bs hb (p+1+1) (by omega) (by omega) [0,1,0,2] (by decide) (by decide)
    refine ⟨leaf 2 v1,p+1+1+1,⟨by rw [z90];omega,by omega,by omega⟩,?_⟩
    refine z7 z14 Tryz.func282 rfl rfl 46 Tryz.ntmps282 (by simp) ?_
    repeat' ((first|(apply y81 ok;rfl)|((apply z6)<;>intro _)|((first|(apply z10 [0] [] cw;rfl;rfl)|(apply z10 [0] [] c0;rfl;rfl)|(apply z10 [0,2] [] c1;rfl;rfl));rfl;(focus ((repeat' first|exact z16|apply z15)<;>first|exact z52 rfl rfl|(refine z19 ?_;((exact z5 fun _=>rfl)))))))<;>conv=>whnf)
    all_goals try (exfalso;omega)
    all_goals (refine rsD [0] [] rfl ?_;(repeat' first|exact y83 _|exact z38|apply y84|apply z36|constructor))
  ·obtain ⟨kd,mk,ck⟩:=z106 bs hb (p+1) (by omega) (by omega) [6,8,7,4,3,5,9] (by decide) (by decide)
   have ca:=z588 kd
   have ham:∃ m:Nat,z322 kd=m∧m≤2:=by
    simp only [List.mem_cons,List.not_mem_nil,or_false] at mk
    unfold z322
    rcases mk with rfl|rfl|rfl|rfl|rfl|rfl|rfl
    all_goals first|exact ⟨2,rfl,by omega⟩|exact ⟨1,rfl,by omega⟩
   obtain ⟨m,em,hm⟩:=ham
   rw [em] at ca
   obtain ⟨ks,pf,hks,hp0,hst,hpf⟩:=z493 (fun k q (t:Tree) q'=>t.sz≤drS n∧CallsA Tryz.prog 282 [.ptr 0 none 0,.int (d - 1)] [rdO bs q] (z25 Tree.cs' t) [rdO bs q']) (p+1+1) (drK n) m (fun k q hk h1 h2=>by
    have:drK n * k≤drK n:=by
     have:k=0∨k=1:=by omega
     rcases this with rfl|rfl<;>simp<;>omega
    obtain ⟨t,q',⟨a1,a2,a3⟩,a4⟩:=ih (d - 1) q (by omega) (by omega) (by omega) (by omega) (by omega)
    exact ⟨t,q',⟨a1,a4⟩,a2,a3⟩)
   have hpm:=hpf m (y50 _)
   have hKm:drK n * m≤2 * drK n:=by
    have:m=0∨m=1∨m=2:=by omega
    rcases this with rfl|rfl|rfl<;>simp<;>omega
   have hsum:(ks.map Tree.sz).sum≤2 * drS n:=by
    have:∀ (l:List Tree),(∀ t∈l,t.sz≤drS n)→(l.map Tree.sz).sum≤l.length * drS n:=by
     intro l
     induction l with
     |nil=>intro _;simp
     |cons t l ih =>
      intro h
      have h1:=h t (by simp)
      have h2:=ih fun u hu=>h u (by simp [hu])
      simp only [List.map_cons,List.sum_cons,y56,Nat.add_mul]
      omega
    have h1:=this ks fun t ht=>by
     obtain ⟨i,hi,rfl⟩:=List.mem_iff_getElem.1 ht
     exact (hst i hi).1
    have h2:ks.length * drS n≤2 * drS n:=Nat.mul_le_mul_right _ (by omega)
    omega
   refine ⟨.mk kd 0 ks,pf m,⟨by rw [z232];omega,by omega,by omega⟩,?_⟩
   refine z7 z14 Tryz.func282 rfl rfl 46 Tryz.ntmps282 (by simp) ?_
   rw [← hp0] at ck
   repeat' ((first|(apply y81 ok;rfl)|((apply z6)<;>intro _)|(apply z4 (ca);rfl;rfl)|((first|(apply z10 [0] [] cw;rfl;rfl)|(apply z10 [0,2] [] ck;rfl;rfl));rfl;(focus ((repeat' first|exact z16|apply z15)<;>first|exact z52 rfl rfl|(refine z19 ?_;((exact z5 fun _=>rfl)))))))<;>conv=>whnf)
   all_goals try (exfalso;omega)
   refine y82 (y85 3 rfl) ?_
   refine z64 (fun k:Nat=>([(0,.ptr 0 none 0),(1,.int d),(4,.ptr 1 none 0),(6,.ptr 2 none 0),(7,.int (m - k))],[rdO bs (pf k),.cells 3 [[.int 0,.int 0,.nils]],.cells 3 [[.int kd,.int 0,.sref 3 0 k]],.cells 3 ((ks.take k).map Tree.cs')])) (fun k=>k≤m) (fun k=>m - k) 0 (by omega) (by refine swR [0,1,3,4] [] rfl rfl ?_;(repeat' first|exact y83 _|exact z37|apply y84|refine z8 rfl (z24) ?_|constructor)) ?_
   intro k hk
   by_cases hkm:k < m
   ·have hc:=(hst k (by omega)).2
    have hkl:k < ks.length:=by omega
    rw [y14] at hc
    repeat' ((first|(apply y81 ok;rfl)|(apply z31;kernel_rfl)|(apply y41;first|(unfold inI;omega)|((try dsimp only);simp only [y47,y46,y45,y44,y56,y57];omega)|exact ⟨rfl,z21 rfl z29⟩)|((apply z6)<;>intro _)|(apply z40 [0] [] hc;rfl;rfl;rfl))<;>conv=>whnf)
    all_goals try (exfalso;omega)
    refine z26 (k+1) (by omega) (by omega) (by refine swR [0,1,2,5] [] rfl rfl ?_;(repeat' first|exact y83 _|exact z265|(refine z107 ?_;omega)|apply y84|((refine z33 rfl ?_ ?_);(focus ((repeat' (first|exact z5 (fun _=>rfl)|apply z22));done)))|refine z125 (by omega) (by omega) ?_|(apply z78;rfl)|constructor))
   ·have:k=m:=by omega
    subst this
    repeat' ((first|(apply y81 ok;rfl)|(apply y41;omega)|((apply z6)<;>intro _))<;>conv=>whnf)
    all_goals try (exfalso;omega)
    all_goals (refine rsD [0] [3] rfl ?_;(repeat' first|exact y83 _|(refine z523 ?_;omega)|apply y84|((apply z43 rfl rfl rfl);(focus ((repeat ((exact z32 (fun _=>rfl) _)));done));(focus (((simp;omega));done)))|apply z36|constructor))
end Go.Proofs.YtjhgpfaodkchjaaGreat
