/- A part of the proofs over this program: T220, T31, T32, T33I, T33, T34, T24, T25, T26, T27, T37C, T37, T35A, T70, T71, T72, T73, T74, T75, T75K, T75M, T81, T82. -/
import Derived.Test.YtjhgpfaodkchjaaGreatG0
import Derived.Test.YtjhgpfaodkchjaaGreatG1
import Derived.Test.YtjhgpfaodkchjaaGreatG2
import Derived.Test.YtjhgpfaodkchjaaGreatG3
import Derived.Test.YtjhgpfaodkchjaaGreatP0
set_option linter.all false
namespace Go.Proofs.YtjhgpfaodkchjaaGreat
open Go.Gl
attribute [local irreducible] z19 AWP z25 z31 z28
theorem z443 {d : Int} (l : List Tree) (hl : l.length ≤ maxLen) (p : Tree → Int → Bool) (nx : Tree → Int → Int) (okS : Int → Prop) (hok : ∀ x s, okS s → p x s = false → okS (nx x s)) (f : FuncId) (s : Int) (h0 : okS s)
    (hf:∀ x∈l,∀ s,okS s→CallsA Tryz.prog f [z30 Tree.cs' x,.pt [.int d],.ptr 1 none 0] [.cells 1 [[.int s]],.cells 1 [[.ptr 0 none 0]]] (.bool (p x s)) [.cells 1 [[.int (nx x s)]],.cells 1 [[.ptr 0 none 0]]]) :
    CallsA Tryz.prog 271 [lst 3 Tree.cs' l,.fn (.func f) [] [.pt [.int d],.ptr 1 none 0]] [.cells 1 [[.int s]],.cells 1 [[.ptr 0 none 0]]] (.int (idxS p nx l s 0).1) [.cells 1 [[.int (idxS p nx l s 0).2]],.cells 1 [[.ptr 0 none 0]]]:=by
  unfold maxLen at hl
  refine z9 z17 Tryz.func271 rfl rfl 19 Tryz.ntmps271 (by simp) ?_
  repeat' ((apply y4 ok;rfl;conv=>whnf))
  refine z80 (fun x:Nat×Int=>([(0,lst 3 Tree.cs' l),(1,.fn (.func f) [] [.pt [.int d],.ptr 1 none 0]),(7,.int l.length),(8,.int x.1)],[.cells 1 [[.int x.2]],.cells 1 [[.ptr 0 none 0]]])) (fun x=>x.1≤l.length∧okS x.2∧idxS p nx l s 0=idxS p nx (l.drop x.1) x.2 x.1) (fun x=>l.length - x.1) (0,s) ⟨by omega,h0,rfl⟩
    ⟨[0,1],rfl,by decide,rfl,⟨⟨rfl,rfl⟩,⟨rfl,rfl⟩,⟨rfl,rfl⟩,⟨rfl,rfl⟩,trivial⟩,⟨z15 rfl rfl,z15 rfl rfl,trivial⟩⟩ ?_
  rintro ⟨k,t⟩ ⟨hk1,hk2,hk3⟩
  dsimp only at hk1 hk2 hk3
  repeat' (first|(apply y4 ok;rfl;conv=>whnf)|(apply y45;(first|omega|(unfold inI;omega));conv=>whnf)|(with_reducible apply z10;omega;intro _;conv=>whnf)|(apply z5<;>intro _<;>conv=>whnf)|(apply z74<;>intro _<;>conv=>whnf)|(apply z92 [0,1] [] [] (hf l[k] (y46 _) t hk2);rfl;(focus ((repeat' (first|exact z47|apply z59))<;>(rfl)));rfl;rfl;rfl;rfl;rfl;(focus ((repeat' (first|exact z13|apply z11))<;>(exact z44 rfl rfl)));(exact .inl rfl);conv=>whnf))
  · rename_i h hkl h1
    rw [y82 hkl,idxS,if_pos h1] at hk3
    rw [hk3]
    exact z56 [0,1] (by decide) rfl rfl rfl ⟨z15 rfl rfl,z15 rfl rfl,trivial⟩
  · rename_i h hkl h1
    rw [y82 hkl,idxS,if_neg (by rw [h1];simp)] at hk3
    exact z68 (k+1,nx l[k] t) [0,1] ⟨by dsimp only;omega,hok _ _ hk2 h1,hk3⟩ (by dsimp only;omega) ⟨rfl,by decide,rfl,⟨⟨rfl,rfl⟩,⟨rfl,rfl⟩,⟨rfl,rfl⟩,⟨rfl,rfl⟩,trivial⟩,⟨z15 rfl rfl,z15 rfl rfl,trivial⟩⟩
  · rw [y86 (by omega),idxS] at hk3
    rw [hk3]
    exact z56 [0,1] (by decide) rfl rfl rfl ⟨z15 rfl rfl,z15 rfl rfl,trivial⟩
theorem z766 {d : Int} (l : List Tree) (hl : l.length ≤ maxLen) (p : Tree → Int → Bool) (nx : Tree → Int → Int) (okS : Int → Prop) (hok : ∀ x s, okS s → p x s = false → okS (nx x s)) (f : FuncId) (s : Int) (h0 : okS s)
    (hf:∀ x∈l,∀ s,okS s→CallsA Tryz.prog f [z30 Tree.cs' x,.pt [.int d],.ptr 1 none 0] [.cells 1 [[.int s]],.cells 1 [[.ptr 0 none 0]]] (.bool (p x s)) [.cells 1 [[.int (nx x s)]],.cells 1 [[.ptr 0 none 0]]]) :
    CallsA Tryz.prog 243 [lst 3 Tree.cs' l,.fn (.func f) [] [.pt [.int d],.ptr 1 none 0]] [.cells 1 [[.int s]],.cells 1 [[.ptr 0 none 0]]] (.bool (decide (0≤(idxS p nx l s 0).1))) [.cells 1 [[.int (idxS p nx l s 0).2]],.cells 1 [[.ptr 0 none 0]]]:=by
  refine z9 z17 Tryz.func243 rfl rfl 9 Tryz.ntmps243 (by simp) ?_
  repeat' (first|(apply y4 ok;rfl;conv=>whnf)|(apply z92 [0,1] [] [] (z443 (d:=d) l hl p nx okS hok f s h0 hf);rfl;(focus ((repeat' (first|exact z47|apply z59))<;>(rfl)));rfl;rfl;rfl;rfl;rfl;(focus ((repeat' (first|exact z13|apply z11))<;>(exact z44 rfl rfl)));(exact .inl rfl);conv=>whnf))
  exact z56 [0,1] (by decide) rfl rfl rfl ⟨z15 rfl rfl,z15 rfl rfl,trivial⟩
theorem z832 (k:Int):CallsA Tryz.prog 242 [.int k] [] (.int (if k=1∨k=2 then 0 else if k=4∨k=5∨k=7∨k=8 then 2 else 1)) []:=by
 refine z9 z17 Tryz.func242 rfl rfl 12 Tryz.ntmps242 (by simp) ?_
 repeat' (first|(apply y4 ok;rfl;conv=>whnf)|(apply z5<;>intro _<;>conv=>whnf))
 all_goals (refine z39 rfl rfl ?_;first|(rw [if_pos (by omega)];rfl)|(rw [if_neg (by omega),if_pos (by omega)];rfl)|(rw [if_neg (by omega),if_neg (by omega)];rfl))
theorem walkF_ok (t:Tree):t.mx→∀ d n:Int,0≤d→d≤100→0≤n→n≤12→CallsA Tryz.prog 174 [z30 Tree.cs' t,.int d,.ptr 0 none 0] [.cells 1 [[.int n]]] (.bool (t.walkF d n).2) [.cells 1 [[.int (t.walkF d n).1]]]:=by
  induction t using y26 with|h t ih=>?_
  intro hm d n hd0 hd1 h0 h1
  rw [y27] at hm
  have hs:=Tree.walkF_spec.1
  have hk:d≤6→n+1≤12→CallsA Tryz.prog 243 [lst 3 Tree.cs' t.kids,.fn (.func 244) [] [.pt [.int d],.ptr 1 none 0]] [.cells 1 [[.int (n+1)]],.cells 1 [[.ptr 0 none 0]]] (.bool (!(Tree.walkFs t.kids (d+1) (n+1)).2)) [.cells 1 [[.int (Tree.walkFs t.kids (d+1) (n+1)).1]],.cells 1 [[.ptr 0 none 0]]]:=by
    intro hd hn
    have h:=z766 (d:=d) t.kids hm.1 (fun x s=>!(x.walkF (d+1) s).2) (fun x s=>(x.walkF (d+1) s).1) (fun s=>0≤s∧s≤12) (fun x s h1 h2=>by
      obtain ⟨a1,a2,a3,a4⟩:=hs x (d+1) s h1.1 h1.2
      have h3:(x.walkF (d+1) s).2=true:=by simpa using h2
      have:=(a1.1 h3).2
      rw [← a2 h3] at this
      exact ⟨by omega,this⟩) 244 (n+1) ⟨by omega,by omega⟩ (fun x hx s h=>by
        have hc:=ih x hx (hm.2 x hx) (d+1) s (by omega) (by omega) h.1 h.2
        refine z9 z17 Tryz.func244 rfl rfl 11 Tryz.ntmps244 (by simp) ?_
        repeat' (first|(apply y4 ok;rfl;conv=>whnf)|(apply y45;((unfold inI;omega));conv=>whnf)|(apply z92 [0] [] [] (hc);rfl;(focus ((repeat' (first|exact z47|apply z59))<;>(rfl)));rfl;rfl;rfl;rfl;rfl;(focus ((repeat' (first|exact z13|apply z11))<;>(exact z44 rfl rfl)));(exact .inl rfl);conv=>whnf))
        exact z56 [0,1] (by decide) rfl rfl rfl ⟨z15 rfl rfl,z15 rfl rfl,trivial⟩)
    rw [y44 (d+1) t.kids (n+1) 0,Bool.not_not]
    exact h
  have hk2:=fun h1 h2=>by
    have:=hk h1 h2
    unfold lst at this
    rw [← y17] at this
    exact this
  refine z9 z17 Tryz.func174 rfl rfl 51 Tryz.ntmps174 (by simp) ?_
  repeat' (first|(apply y4 ok;rfl;conv=>whnf)|(apply z32;kernel_rfl;conv=>whnf)|(apply y45;((unfold inI;omega));conv=>whnf)|(apply z5<;>intro _<;>conv=>whnf)|(apply z45<;>intro _<;>conv=>whnf)|(apply z81<;>intro _<;>conv=>whnf)|(apply z6 (z285 _ 1 10);rfl;rfl;conv=>whnf)|(apply z6 (z285 _ 0 2);rfl;rfl;conv=>whnf)|(apply z6 (z285 _ 0 0);rfl;rfl;conv=>whnf)|(apply z6 (z832 t.kind);rfl;rfl;conv=>whnf)|(apply z92 [0,3] [2] [] (hk2 (by omega) (by omega));rfl;(focus ((repeat' (first|exact z47|apply z59))<;>(rfl)));rfl;rfl;rfl;rfl;rfl;(focus ((repeat' (first|exact z13|apply z11))<;>(exact z44 rfl rfl)));((refine .inr ⟨rfl,?_⟩;repeat' (first|exact True.intro|apply y45|exact rfl)));conv=>whnf))
  all_goals first
    | (have e : t.walkF d n = (n + 1, false) := by
        rw [y43,if_neg]
        clear hk hk2 hs ih
        rintro ⟨c1,c2,c3,c4,c5⟩
        try simp only [z264,z110] at *
        unfold z554 at c4
        unfold z390 at c5
        grind
       rw [e]
       exact z56 [0] (by decide) rfl rfl rfl ⟨z15 rfl rfl,trivial⟩)
    | (have e : t.walkF d n = Tree.walkFs t.kids (d + 1) (n + 1) := by
        rw [y43,if_pos]
        clear hk hk2 hs ih
        try simp only [z264,z110] at *
        unfold z554 z390
        grind
       rw [e]
       refine z56 [0] (by decide) rfl rfl ?_ ⟨z15 rfl rfl,trivial⟩
       show AC.raw (.bool (!!_))=_
       rw [Bool.not_not];rfl)
theorem z984 (t:Tree) (hm:t.mx):CallsA Tryz.prog 94 [z30 Tree.cs' t] [] (.int (if t.fmB=true then (t.walkF 1 0).1 else 0)) []:=by
 have hk:=walkF_ok t hm 1 0 (by omega) (by omega) (by omega) (by omega)
 unfold Tree.fmB
 refine z9 z17 Tryz.func94 rfl rfl 8 Tryz.ntmps94 (by simp) ?_
 repeat' (first|(apply y4 ok;rfl;conv=>whnf)|(apply z81<;>intro _<;>conv=>whnf)|(apply z92 [1] [] [] (hk);rfl;(focus ((repeat' (first|exact z47|apply z59))<;>(rfl)));rfl;rfl;rfl;rfl;rfl;(focus ((repeat' (first|exact z13|apply z11))<;>(exact z44 rfl rfl)));(exact .inl rfl);conv=>whnf))
 all_goals exact z503 rfl (by simp [*])
theorem z132 (t:Tree) (hm:t.mx):CallsA Tryz.prog 37 [z30 Tree.cs' t] [] (.bool t.fmB) []:=by
 have hk:=z984 t hm
 have e:decide (0 < if t.fmB=true then (t.walkF 1 0).1 else 0)=t.fmB:=by
  by_cases h:t.fmB=true
  ·have h2:=(Tree.walkF_spec.1 t 1 0 (by omega) (by omega)).2.1 h
   have h3:=Tree.count_pos.1 t (7 - 1)
   rw [h,if_pos rfl];exact y84 (by omega)
  ·rw [if_neg h,(y74 _).mp h];rfl
 refine z9 z17 Tryz.func37 rfl rfl 6 Tryz.ntmps37 (by simp) ?_
 repeat' (first|(apply y4 ok;rfl;conv=>whnf)|(apply z6 (hk);rfl;rfl;conv=>whnf))
 all_goals exact z23 rfl e.symm
def State.co (s:State):List AC:=[.own 1 (s.a.map enI),.own 1 (s.b.map enI)]
theorem z210 {objs:Nat→AObj} {π Bn:List Nat} {o:Nat} {l:List Int} (ho:objs o=.cells 1 (l.map enI)) (h1:idx π o=none) (h2:inB Bn o=true):bor objs π Bn (.sref o 0 l.length)=ints l :=
 z209 ho h1 h2 (by simp) (z182 _ _)
end Go.Proofs.YtjhgpfaodkchjaaGreat
namespace Go.Proofs.YtjhgpfaodkchjaaGreat
open Go.Gl
section
attribute [local irreducible] z19
theorem z737 (a b:List Int) (ha:a.length≤maxLen) (hb:b.length≤maxLen):CallsA Tryz.prog 62 [lst 1 enI a,lst 1 enI b] [] (.bool (decide (a=b))) []:=by
 unfold maxLen at ha hb
 refine z9 z17 Tryz.func62 rfl rfl 26 Tryz.ntmps62 (by simp) ?_
 repeat (refine y4 ok _ _ _ _ _ rfl ?_)
 refine z45 (fun h=>?_) (fun h=>?_)
 ·repeat (refine y4 ok _ _ _ _ _ rfl ?_)
  have hne:a≠b:=by rintro rfl;exact h rfl
  rw [y85 hne]
  exact ⟨[],by decide,rfl,rfl,y3 rfl,trivial⟩
 ·have hl:a.length=b.length:=by omega
  repeat (refine y4 ok _ _ _ _ _ rfl ?_)
  refine z933 (fun k:Nat=>([(0,lst 1 enI a),(1,lst 1 enI b),(5,.int k)],[])) (fun k=>k≤a.length∧a.take k=b.take k) (fun k=>a.length - k) 0 (by simp)
   ⟨[],rfl,by decide,rfl,⟨⟨rfl,rfl⟩,⟨rfl,rfl⟩,⟨rfl,rfl⟩,trivial⟩,trivial⟩ ?_
  intro k hk
  repeat (refine y4 ok _ _ _ _ _ rfl ?_)
  refine z5 (fun h=>?_) (fun h=>?_)
  ·have hka:k < a.length:=by omega
   repeat (first|refine y4 ok _ _ _ _ _ rfl ?_|refine y45 (by omega) ?_)
   refine ⟨_,z514 _ _ _ (by omega),?_⟩
   repeat ((refine y45 (by omega) ?_))
   refine ⟨_,z514 _ _ _ (by omega),?_⟩
   repeat (first|refine y4 ok _ _ _ _ _ rfl ?_|refine z32 (by kernel_rfl) ?_)
   refine z45 (fun h=>?_) (fun h=>?_)
   ·repeat (refine y4 ok _ _ _ _ _ rfl ?_)
    have hne:a≠b:=by rintro rfl;exact h rfl
    rw [y85 hne]
    exact ⟨[],by decide,rfl,rfl,y3 rfl,trivial⟩
   ·repeat (first|refine y4 ok _ _ _ _ _ rfl ?_|refine y45 (by first|omega|(unfold inI;omega)) ?_)
    refine ⟨k+1,[],⟨by omega,?_⟩,by omega,rfl,by decide,rfl,⟨⟨rfl,rfl⟩,⟨rfl,rfl⟩,⟨rfl,rfl⟩,trivial⟩,trivial⟩
    have h' : a[k]=b[k]:=h
    rw [y52 hka,y52 (by omega),hk.2,h']
  ·repeat (refine y4 ok _ _ _ _ _ rfl ?_)
   have he:a=b:=by
    have:=hk.2
    rwa [y59 (by omega),y59 (by omega)] at this
   rw [y84 he]
   exact ⟨[],by decide,rfl,rfl,y3 rfl,trivial⟩
end
attribute [local irreducible] z19 AWP z25 z31 z28
def sameL (l:List Int) (i k:Nat):Bool:=decide (l.getD i 0=l.getD k 0)
end Go.Proofs.YtjhgpfaodkchjaaGreat
namespace Go.Proofs.YtjhgpfaodkchjaaGreat
open Go.Gl
attribute [local irreducible] z19 AWP z25 z31 z28
def onB (t:Trans) (n:Int):Bool:=decide (((n.toNat &&& t.care.toNat:Nat):Int)=t.val)
def z440 (n:Nat) (i:Nat) (ℓ to:Int) (e:Trans):List (Nat×Int):=if onB e ℓ then [((i:Nat) * n+e.src.toNat,to * n+e.dst)] else []
def z713 (n:Nat) (ed:List Trans) (i:Nat) (ℓ to:Int):List (Nat×Int):=ed.flatMap (z440 n i ℓ to)
def z714 (n:Nat) (ed:List Trans) (nx:List (List Int)) (ls:List Int) (i:Nat):List (Nat×Int):=(nx.getD i []).flatMap (z713 n ed i (ls.getD i 0))
def z712 (g:Graph) (ls:List Int) (a:Aut):List (Nat×Int):=(List.range g.st.length).flatMap (z714 a.acc.length a.ed g.nx ls)
def z55 (g:Graph) (ls:List Int) (a:Aut):List (List Int):=build (a.acc.length * g.st.length) (z712 g ls a)
theorem z711 (g:Graph) (hg:GB g) (ls:List Int) (a:Aut) (ha:AutP a):(z712 g ls a).length≤7372800:=by
 obtain ⟨⟨g1,g2⟩,g3,g4⟩:=hg
 have h1:∀ i ℓ to,(z713 a.acc.length a.ed i ℓ to).length≤2048:=fun i ℓ to=>by
  have:=z257 (f:=z440 a.acc.length i ℓ to) (c:=1) a.ed (fun e _=>by unfold z440;split<;>simp)
  have:=ha.2.1
  unfold z713;omega
 have h2:∀ i∈List.range g.st.length,(z714 a.acc.length a.ed g.nx ls i).length≤122880:=fun i hi=>by
  rw [y63] at hi
  unfold z714
  rw [z20 (l:=g.nx) (by omega)]
  have h3:=z257 (f:=z713 a.acc.length a.ed i (ls.getD i 0)) (c:=2048) g.nx[i] (fun e _=>h1 _ _ _)
  have h4:=(g4 i (by omega) (by omega) hi).2.1
  have:g.nx[i].length * 2048≤60 * 2048:=Nat.mul_le_mul_right _ (by omega)
  omega
 have h5:=z257 (f:=z714 a.acc.length a.ed g.nx ls) (c:=122880) (List.range g.st.length) h2
 rw [List.length_range] at h5
 have:g.st.length * 122880≤60 * 122880:=Nat.mul_le_mul_right _ (by omega)
 unfold z712;omega
def z69 (a:Aut):List (List Trans):=z105 a.acc.length (a.ed.map fun e=>(e.src.toNat,e))
def encT (r:List Trans):List AC:=[.list 4 r.length (r.map Trans.cs)]
theorem ltr_lt (v:List Int):∀ (l:List Tree) (k n:Nat),n < 2 ^ k→ltr v l k n < 2 ^ (k+l.length):=by
 intro l
 induction l with
 |nil=>intro k n h;simpa [ltr] using h
 |cons t l ih =>
  intro k n h
  rw [ltr]
  have e:k+(t::l).length=k+1+l.length:=by simp only [y60];omega
  rw [e]
  refine ih (k+1) _ ?_
  split
  ·rw [Nat.pow_succ];omega
  ·exact or_lt h
theorem z427 {l:List Tree} (hl:z129 l) (s:State):0≤z50 l s∧z50 l s≤7:=by
 have:=ltr_lt s.b l 0 0 (by decide)
 rw [hl.1] at this
 unfold z50
 have e:(2:Nat) ^ (0+3)=8:=by decide
 omega
def pE2 (n i q:Nat) (ℓ to:Int) (e:Trans):List (Nat×Int):=if onB e ℓ then [(i * n+q,to * n+e.dst)] else []
def pTo (n:Nat) (row:List Trans) (i q:Nat) (ℓ to:Int):List (Nat×Int):=row.flatMap (pE2 n i q ℓ to)
def pQ (n:Nat) (nxi:List Int) (rows:List (List Trans)) (i:Nat) (ℓ:Int) (q:Nat):List (Nat×Int):=nxi.flatMap (pTo n (rows.getD q []) i q ℓ)
def pI2 (n:Nat) (nx:List (List Int)) (rows:List (List Trans)) (ls:List Int) (i:Nat):List (Nat×Int):=(List.range n).flatMap (pQ n (nx.getD i []) rows i (ls.getD i 0))
def pS2 (g:Graph) (ls:List Int) (a:Aut):List (Nat×Int):=(List.range g.st.length).flatMap (pI2 a.acc.length g.nx (z69 a) ls)
theorem z309 {a:Aut} {q:Nat} (h:q < a.acc.length):(z69 a).getD q []=a.ed.filter (fun e=>e.src.toNat == q):=by
 unfold z69
 rw [z20 (by rw [z151];exact h),z311,List.filter_map,List.map_map]
 exact List.map_id _
theorem z1068 {β:Type} {F:Nat→List β} {n q0:Nat} (hq:q0 < n) (h:∀ q,q < n→q≠q0→F q=[]):(List.range n).flatMap F=F q0:=by
 have:∀ m,(List.range m).flatMap F=if q0 < m∧m≤n then F q0 else if m≤n then [] else (List.range m).flatMap F:=by
  intro m
  induction m with
  |zero=>simp
  |succ m ih =>
   by_cases hm:m+1≤n
   ·rw [y64,List.flatMap_append,ih,List.flatMap_cons,List.flatMap_nil,y67]
    by_cases h1:q0 < m
    ·rw [if_pos ⟨h1,by omega⟩,if_pos ⟨by omega,hm⟩,h m (by omega) (by omega),y67]
    ·rw [if_neg (by omega),if_pos (by omega)]
     by_cases h2:q0=m
     ·subst h2;rw [if_pos ⟨by omega,hm⟩];rfl
     ·rw [if_neg (by omega),if_pos hm,h m (by omega) (by omega)];rfl
   ·rw [if_neg (by omega),if_neg hm]
 rw [this n,if_pos ⟨hq,y54 _⟩]
theorem z957 {β:Type} {F:Nat→List β} {n:Nat} (h:∀ q,q < n→F q=[]):(List.range n).flatMap F=[]:=by
 rw [List.flatMap_eq_nil_iff]
 intro q hq
 exact h q (List.mem_range.1 hq)
theorem pS2_rows (g:Graph) (ls:List Int) (a:Aut) (ha:AutP a) (r:Nat):(pS2 g ls a).filter (fun p=>p.1 == r)=(z712 g ls a).filter (fun p=>p.1 == r):=by
 unfold pS2 z712
 rw [List.filter_flatMap,List.filter_flatMap]
 refine z594 fun i hi=>?_
 unfold pI2 z714
 rw [List.filter_flatMap,List.filter_flatMap]
 have hsrc:∀ e∈a.ed,e.src.toNat < a.acc.length:=fun e he=>by
  have:=(ha.2.2.2 e he).1;omega
 by_cases hr:i * a.acc.length≤r∧r < i * a.acc.length+a.acc.length
 ·obtain ⟨q0,rfl⟩:∃ q0,r=i * a.acc.length+q0:=⟨r - i * a.acc.length,by omega⟩
  have hq0:q0 < a.acc.length:=by omega
  rw [z1068 hq0 (fun q hq hne=>by
   unfold pQ
   rw [List.filter_flatMap]
   refine List.flatMap_eq_nil_iff.2 fun to _=>?_
   unfold pTo
   rw [List.filter_flatMap]
   refine List.flatMap_eq_nil_iff.2 fun e _=>?_
   unfold pE2
   split
   ·simp;omega
   ·rfl)]
  unfold pQ
  rw [List.filter_flatMap,z309 hq0]
  refine z594 fun to _=>?_
  unfold pTo z713
  rw [List.filter_flatMap,List.filter_flatMap]
  induction a.ed with
  |nil=>rfl
  |cons e es ih =>
   rw [List.flatMap_cons,← ih,List.filter_cons]
   by_cases he:e.src.toNat=q0
   ·rw [if_pos (by simpa using he),List.flatMap_cons]
    unfold pE2 z440
    rw [he]
   ·rw [if_neg (by simpa using he)]
    have:(z440 a.acc.length i (ls.getD i 0) to e).filter (fun p=>p.1 == i * a.acc.length+q0)=[]:=by
     unfold z440
     split
     ·simp;omega
     ·rfl
    rw [this,List.nil_append]
 ·rw [z957 (fun q hq=>by
   unfold pQ
   rw [List.filter_flatMap]
   refine List.flatMap_eq_nil_iff.2 fun to _=>?_
   unfold pTo
   rw [List.filter_flatMap]
   refine List.flatMap_eq_nil_iff.2 fun e _=>?_
   unfold pE2
   split
   ·simp;omega
   ·rfl)]
  symm
  refine List.flatMap_eq_nil_iff.2 fun to _=>?_
  unfold z713
  rw [List.filter_flatMap]
  refine List.flatMap_eq_nil_iff.2 fun e he=>?_
  have:=hsrc e he
  unfold z440
  split
  ·simp;omega
  ·rfl
theorem pS2_len (g:Graph) (hg:GB g) (ls:List Int) (a:Aut) (ha:AutP a):(pS2 g ls a).length≤1000000000:=by
 obtain ⟨⟨g1,g2⟩,g3,g4⟩:=hg
 have h2:∀ i∈List.range g.st.length,(pI2 a.acc.length g.nx (z69 a) ls i).length≤7864320:=fun i hi=>by
  rw [y63] at hi
  unfold pI2
  rw [z20 (l:=g.nx) (by omega)]
  have h3:=z257 (f:=pQ a.acc.length g.nx[i] (z69 a) i (ls.getD i 0)) (c:=122880) (List.range a.acc.length) (fun q hq=>by
   have h1:∀ to,(pTo a.acc.length ((z69 a).getD q []) i q (ls.getD i 0) to).length≤2048:=fun to=>by
    have h5:=z257 (f:=pE2 a.acc.length i q (ls.getD i 0) to) (c:=1) ((z69 a).getD q []) (fun e _=>by unfold pE2;split<;>simp)
    rw [z309 (List.mem_range.1 hq)] at h5 ⊢
    have:=List.length_filter_le (fun e:Trans=>e.src.toNat == q) a.ed
    have:=ha.2.1
    unfold pTo;omega
   have h3:=z257 (f:=pTo a.acc.length ((z69 a).getD q []) i q (ls.getD i 0)) (c:=2048) g.nx[i] (fun to _=>h1 to)
   have h4:=(g4 i (by omega) (by omega) hi).2.1
   have:g.nx[i].length * 2048≤60 * 2048:=Nat.mul_le_mul_right _ (by omega)
   unfold pQ;omega)
  rw [List.length_range] at h3
  have:a.acc.length * 122880≤64 * 122880:=Nat.mul_le_mul_right _ ha.1.2
  omega
 have h5:=z257 (f:=pI2 a.acc.length g.nx (z69 a) ls) (c:=7864320) (List.range g.st.length) h2
 rw [List.length_range] at h5
 have:g.st.length * 7864320≤60 * 7864320:=Nat.mul_le_mul_right _ (by omega)
 unfold pS2;omega
theorem z1148 (g:Graph) (ls:List Int) (a:Aut) (ha:AutP a):build (g.st.length * a.acc.length) (pS2 g ls a)=z55 g ls a:=by
 unfold z55 build
 rw [Nat.mul_comm]
 refine List.map_congr_left fun r _=>?_
 rw [pS2_rows g ls a ha r]
set_option maxHeartbeats 800000 in
theorem z827 (g:Graph) (hg:GB g) (l:List Tree) (hl:z129 l) (a:Aut) (ha:AutP a):CallsA Tryz.prog 75 [.agg g.cs,lst 3 Tree.cs' l,.agg a.cs] [] (.tup [.sref 0 0 (g.st.length * a.acc.length),ints a.ini]) [.cells 1 ((z55 g (g.st.map (z50 l)) a).map z94)]:=by
 have hvals:=hg.vals
 have hpl:=z711 g hg (g.st.map (z50 l)) a ha
 have hini:=ha.2.2.1.le (by omega)
 obtain ⟨⟨g1,g2⟩,g3,g4⟩:=hg
 obtain ⟨⟨a1,a2⟩,a3,a4,a5⟩:=ha
 have hN:=z281 (a:=(g.st.length:Int)) (b:=(a.acc.length:Int)) (A:=60) (B:=64) (by omega) (by omega) (by omega) (by omega)
 refine z9 z17 Tryz.func75 rfl rfl 117 Tryz.ntmps75 (by simp) ?_
 repeat' (first|(apply y4 ok;rfl;conv=>whnf)|(apply y45;((dsimp only;omega));conv=>whnf))
 refine y87 (Gl.Reach.weaken (es':=List.replicate a.acc.length [.own 4 []]) 2 rfl (by rw [y48,y48];rfl) z501 rfl) ?_
 conv=>whnf
 refine z80 (fun k:Nat=>([(1,lst 3 Tree.cs' l),(3,.ptr 0 none 0),(5,.ptr 1 none 0),(8,.int a.acc.length),(9,.sref 2 0 a.acc.length),(26,lst 4 Trans.cs a.ed),(27,.int a.ed.length),(28,.int k)],[.cells 2 [[lst 2 State.cs g.st,lst 1 encL g.nx]],.cells 3 [[lst 1 enI a.ini,lst 1 enB a.acc,lst 4 Trans.cs a.ed]],.cells 1 ((z105 a.acc.length ((a.ed.take k).map fun e=>(e.src.toNat,e))).map (ownG 4 Trans.cs))])) (fun k=>k≤a.ed.length) (fun k=>a.ed.length - k) 0 (by omega)
  ⟨[0,1,2],rfl,by decide,rfl,⟨⟨rfl,rfl⟩,⟨rfl,rfl⟩,⟨rfl,rfl⟩,⟨rfl,rfl⟩,⟨rfl,rfl⟩,⟨rfl,rfl⟩,⟨rfl,rfl⟩,⟨rfl,rfl⟩,trivial⟩,⟨z15 rfl rfl,z15 rfl rfl,z18 (z36 (z1065 _ _ _).symm) (z4 fun _=>rfl),trivial⟩⟩ ?_
 intro k hk
 have hN2:((g.st.length * a.acc.length:Nat):Int)=(g.st.length:Int) * a.acc.length:=by simp
 repeat' (first|((fail_if_success apply z130 6);(fail_if_success apply z96 6);(fail_if_success apply z130 8);(fail_if_success apply z96 8);apply y4 ok;rfl;conv=>whnf)|(apply y45;(omega);conv=>whnf)|(with_reducible apply z10;omega;intro _;conv=>whnf)|(apply z5<;>intro _<;>conv=>whnf))
 ·have hkl:k < a.ed.length:=by assumption
  have he:=a5 a.ed[k] (y46 hkl)
  unfold z414 at he
  have hlt:a.ed[k].src.toNat < (z105 a.acc.length ((a.ed.take k).map fun e=>(e.src.toNat,e))).length:=by rw [z151];omega
  have hmap:a.ed[k].src.toNat < ((z105 a.acc.length ((a.ed.take k).map fun e=>(e.src.toNat,e))).map (ownG 4 Trans.cs)).length:=by rw [y51];exact hlt
  have hrl:=z669 hlt
  rw [y51,y50] at hrl
  refine y87 (Gl.Reach.expose (e:=ownG 4 Trans.cs (z105 a.acc.length ((a.ed.take k).map fun e=>(e.src.toNat,e)))[a.ed[k].src.toNat]) 2 a.ed[k].src.toNat 0 rfl (by rw [y53,y47 hlt];rfl) rfl (z158 (fun _=>rfl) _) rfl) ?_
  conv=>whnf
  (apply y4 ok;rfl;conv=>whnf)
  repeat' (first|(apply z32;kernel_rfl;conv=>whnf)|(apply z849;exact Nat.add_zero _;exact hmap;conv=>whnf)|(apply y45;(first|omega|((try dsimp only);simp only [y51,y50,y49,y48,y60,y61];omega)|exact ⟨rfl,z22 rfl z29⟩);conv=>whnf))
  refine y87 (Gl.Reach.absorb 2 6 a.ed[k].src.toNat 0 rfl (getset (Nat.add_zero _) (by rw [List.length_set];exact hmap)) rfl rfl (by simp) rfl (z53 (fun e he=>(z4 (fun _=>rfl)) e (List.mem_of_mem_take he)) (z194 rfl z33)) rfl) ?_
  conv=>whnf
  repeat' (first|((fail_if_success apply z130 6);(fail_if_success apply z96 6);(fail_if_success apply z130 8);(fail_if_success apply z96 8);apply y4 ok;rfl;conv=>whnf)|(apply y45;((unfold inI;omega));conv=>whnf))
  refine z68 (k+1) [0,1,2] (by omega) (by omega)
   ⟨rfl,by decide,rfl,⟨⟨rfl,rfl⟩,⟨rfl,rfl⟩,⟨rfl,rfl⟩,⟨rfl,rfl⟩,⟨rfl,rfl⟩,⟨rfl,rfl⟩,⟨rfl,rfl⟩,⟨rfl,rfl⟩,trivial⟩,⟨z15 rfl rfl,z15 rfl rfl,z18 (z36 ?_) (z4 fun _=>rfl),trivial⟩⟩
  have e1:((a.ed.take (k+1)).map fun e=>(e.src.toNat,e))=((a.ed.take k).map fun e=>(e.src.toNat,e))++[(a.ed[k].src.toNat,a.ed[k])]:=by
   rw [y52 hkl,y66];rfl
  rw [e1]
  exact z956 hlt (Nat.add_zero _) (by simp) rfl
 obtain rfl:k=a.ed.length:=by omega
 refine y87 (SealL.reach (π:=[0,1]) (Bn:=[2]) (env:=[(1,lst 3 Tree.cs' l),(3,.ptr 0 none 0),(5,.ptr 1 none 0),(8,.int a.acc.length),(9,lst 1 encT (z69 a))]) (objs:=[.cells 2 [[lst 2 State.cs g.st,lst 1 encL g.nx]],.cells 3 [[lst 1 enI a.ini,lst 1 enB a.acc,lst 4 Trans.cs a.ed]]]) ⟨rfl,rfl,by simp,rfl,by intro o ho;simp at ho;rcases ho with rfl|rfl<;>rfl,⟨rfl,rfl,rfl,rfl,?_,trivial⟩,rfl⟩) ?_
 ·show bor _ _ _ (.sref 2 0 a.acc.length)=_
  rw [z386 (w:=1) (es:=(z105 a.acc.length ((a.ed.take a.ed.length).map fun e=>(e.src.toNat,e))).map (ownG 4 Trans.cs)) rfl rfl rfl (by rw [y51,z151]),z822 (fun t=>Trans.unown t),y58]
  unfold lst z69
  rw [z151];rfl
 conv=>whnf
 repeat' (first|(apply y4 ok;rfl;conv=>whnf)|(apply y45;(first|(unfold inI;omega)|(dsimp only;omega));conv=>whnf)|(apply z6 (z911 g hvals g2 l hl);rfl;rfl;conv=>whnf))
 refine y87 (Gl.Reach.weaken (es':=List.replicate (g.st.length * a.acc.length) [.own 1 []]) 2 rfl (by rw [y48,y48];rfl) z501 rfl) ?_
 conv=>whnf
 have hls:(g.st.map (z50 l)).length=g.st.length:=by simp
 have hlr:∀ x∈g.st.map (z50 l),0≤x∧x≤7:=fun x hx=>by
  obtain ⟨s,_,rfl⟩:=List.mem_map.1 hx
  exact z427 hl s
 rw [← z1148 g _ a ⟨⟨a1,a2⟩,a3,a4,a5⟩]
 have hpl2:=pS2_len g ⟨⟨g1,g2⟩,g3,g4⟩ (g.st.map (z50 l)) a ⟨⟨a1,a2⟩,a3,a4,a5⟩
 generalize hlsd:g.st.map (z50 l)=ls at hls hlr hpl hpl2
 have hrow:∀ i (hi:i < g.nx.length),∀ x∈g.nx[i],0≤x∧x≤g.st.length - 1:=fun i hi x hx=>by
  obtain ⟨j,hj,rfl⟩:=List.mem_iff_getElem.1 hx
  exact ((g4 i hi hi (by omega)).2.2.2 j hj hj).1
 have hlen:∀ i (hi:i < g.nx.length),g.nx[i].length≤60:=fun i hi=>by
  have:=(g4 i hi hi (by omega)).2.1;omega
 have hel:(z69 a).length=a.acc.length:=z151 _ _
 have hed:∀ q (hq:q < (z69 a).length),∀ e∈(z69 a)[q],e∈a.ed:=fun q hq e he=>by
  rw [← z20 (d:=[]) hq,z309 (by omega)] at he;exact (List.mem_filter.1 he).1
 have hedl:∀ q (hq:q < (z69 a).length),(z69 a)[q].length≤2048:=fun q hq=>by
  rw [← z20 (d:=[]) hq,z309 (by omega)];exact Nat.le_trans (List.length_filter_le _ _) a3
 refine z80 (fun x:Nat×List (Nat×Int)=>([(3,.ptr 0 none 0),(5,.ptr 1 none 0),(8,.int a.acc.length),(9,lst 1 encT (z69 a)),(12,.sref 2 0 (g.st.length * a.acc.length)),(53,ints ls),(54,.int ls.length),(55,.int x.1)],[.cells 2 [[lst 2 State.cs g.st,lst 1 encL g.nx]],.cells 3 [[lst 1 enI a.ini,lst 1 enB a.acc,lst 4 Trans.cs a.ed]],.cells 1 ((build (g.st.length * a.acc.length) x.2).map z94)])) (fun x=>x.1≤ls.length∧x.2++((List.range g.st.length).drop x.1).flatMap (pI2 a.acc.length g.nx (z69 a) ls)=pS2 g ls a) (fun x=>ls.length - x.1) (0,[]) ⟨by omega,rfl⟩
  ⟨[0,1,2],rfl,by decide,rfl,⟨⟨rfl,by rfl⟩,⟨rfl,by rfl⟩,⟨rfl,by rfl⟩,⟨rfl,by rfl⟩,⟨rfl,by rfl⟩,⟨rfl,by rfl⟩,⟨rfl,by rfl⟩,⟨rfl,by rfl⟩,trivial⟩,⟨z15 rfl rfl,z15 rfl rfl,z18 (z36 (rows_nil _).symm) (z4 fun _=>rfl),trivial⟩⟩ ?_
 rintro ⟨i,ps⟩ ⟨hi1,hi2⟩
 dsimp only at hi1 hi2 ⊢
 repeat' (first|(apply y4 ok;rfl;conv=>whnf)|(apply y45;(omega);conv=>whnf)|(with_reducible apply z10;omega;intro _;conv=>whnf)|(apply z5<;>intro _<;>conv=>whnf))
 ·have hig:i < g.st.length:=by omega
  rw [z377 _ _ _ (by simpa using hig),List.getElem_range] at hi2
  have hin:i < g.nx.length:=by omega
  have hrow:=hrow i hin
  have hlen:=hlen i hin
  have hil:i < ls.length:=by omega
  have hli:=hlr ls[i] (y46 _)
  have hpI:pI2 a.acc.length g.nx (z69 a) ls i=(List.range a.acc.length).flatMap (pQ a.acc.length g.nx[i] (z69 a) i ls[i]):=by
   unfold pI2
   rw [z20 (l:=g.nx) hin,z20 (l:=ls) hil]
  rw [hpI] at hi2
  have hm1:=z281 (a:=(i:Int)) (b:=(a.acc.length:Int)) (A:=60) (B:=64) (by omega) (by omega) (by omega) (by omega)
  refine z80 (fun x:Nat×List (Nat×Int)=>([(3,.ptr 0 none 0),(5,.ptr 1 none 0),(8,.int a.acc.length),(9,lst 1 encT (z69 a)),(12,.sref 2 0 (g.st.length * a.acc.length)),(53,ints ls),(54,.int ls.length),(55,.int i),(13,.int i),(14,.int ls[i]),(60,.int a.acc.length),(61,.int x.1)],[.cells 2 [[lst 2 State.cs g.st,lst 1 encL g.nx]],.cells 3 [[lst 1 enI a.ini,lst 1 enB a.acc,lst 4 Trans.cs a.ed]],.cells 1 ((build (g.st.length * a.acc.length) x.2).map z94)])) (fun x=>x.1≤a.acc.length∧x.2++(((List.range a.acc.length).drop x.1).flatMap (pQ a.acc.length g.nx[i] (z69 a) i ls[i])++((List.range g.st.length).drop (i+1)).flatMap (pI2 a.acc.length g.nx (z69 a) ls))=pS2 g ls a) (fun x=>a.acc.length - x.1) (0,ps) ⟨by omega,hi2⟩
   ⟨[0,1,2],rfl,by decide,rfl,⟨⟨rfl,rfl⟩,⟨rfl,rfl⟩,⟨rfl,rfl⟩,⟨rfl,rfl⟩,⟨rfl,rfl⟩,⟨rfl,rfl⟩,⟨rfl,rfl⟩,⟨rfl,rfl⟩,⟨rfl,rfl⟩,⟨rfl,rfl⟩,⟨rfl,rfl⟩,⟨rfl,rfl⟩,trivial⟩,⟨z15 rfl rfl,z15 rfl rfl,z18 rfl (z4 fun _=>rfl),trivial⟩⟩ ?_
  rintro ⟨q,ps⟩ ⟨hq1,hq2⟩
  dsimp only at hq1 hq2 ⊢
  repeat' (first|(apply y4 ok;rfl;conv=>whnf)|(apply y45;(first|omega|(unfold inI;omega));conv=>whnf)|(with_reducible apply z10;omega;intro _;conv=>whnf)|(apply z5<;>intro _<;>conv=>whnf))
  ·have hqn:q < a.acc.length:=by omega
   rw [z377 _ _ _ (by simpa using hqn),List.getElem_range,List.append_assoc] at hq2
   have hqe:q < (z69 a).length:=by omega
   have hpQ:pQ a.acc.length g.nx[i] (z69 a) i ls[i] q=g.nx[i].flatMap (pTo a.acc.length (z69 a)[q] i q ls[i]):=by
    unfold pQ;rw [z20 hqe]
   rw [hpQ] at hq2
   have hedl:=hedl q hqe
   have hlt:i * a.acc.length+q < g.st.length * a.acc.length:=by
    have h1:(i+1) * a.acc.length≤g.st.length * a.acc.length:=Nat.mul_le_mul_right _ hig
    rw [Nat.add_mul,Nat.one_mul] at h1
    omega
   refine z80 (fun x:Nat×List (Nat×Int)=>([(3,.ptr 0 none 0),(5,.ptr 1 none 0),(8,.int a.acc.length),(9,lst 1 encT (z69 a)),(12,.sref 2 0 (g.st.length * a.acc.length)),(53,ints ls),(54,.int ls.length),(55,.int i),(13,.int i),(14,.int ls[i]),(60,.int a.acc.length),(61,.int q),(15,.int q),(68,ints g.nx[i]),(69,.int g.nx[i].length),(70,.int x.1)],[.cells 2 [[lst 2 State.cs g.st,lst 1 encL g.nx]],.cells 3 [[lst 1 enI a.ini,lst 1 enB a.acc,lst 4 Trans.cs a.ed]],.cells 1 ((build (g.st.length * a.acc.length) x.2).map z94)])) (fun x=>x.1≤g.nx[i].length∧x.2++((g.nx[i].drop x.1).flatMap (pTo a.acc.length (z69 a)[q] i q ls[i])++(((List.range a.acc.length).drop (q+1)).flatMap (pQ a.acc.length g.nx[i] (z69 a) i ls[i])++((List.range g.st.length).drop (i+1)).flatMap (pI2 a.acc.length g.nx (z69 a) ls)))=pS2 g ls a) (fun x=>g.nx[i].length - x.1) (0,ps) ⟨by omega,hq2⟩
    ⟨[0,1,2],rfl,by decide,rfl,⟨⟨rfl,rfl⟩,⟨rfl,rfl⟩,⟨rfl,rfl⟩,⟨rfl,rfl⟩,⟨rfl,rfl⟩,⟨rfl,rfl⟩,⟨rfl,rfl⟩,⟨rfl,rfl⟩,⟨rfl,rfl⟩,⟨rfl,rfl⟩,⟨rfl,rfl⟩,⟨rfl,rfl⟩,⟨rfl,rfl⟩,⟨rfl,rfl⟩,⟨rfl,rfl⟩,⟨rfl,rfl⟩,trivial⟩,⟨z15 rfl rfl,z15 rfl rfl,z18 rfl (z4 fun _=>rfl),trivial⟩⟩ ?_
   rintro ⟨j,ps⟩ ⟨hj1,hj2⟩
   dsimp only at hj1 hj2 ⊢
   repeat' (first|(apply y4 ok;rfl;conv=>whnf)|(apply y45;(first|omega|(unfold inI;omega));conv=>whnf)|(with_reducible apply z10;omega;intro _;conv=>whnf)|(apply z5<;>intro _<;>conv=>whnf))
   ·have hjn:j < g.nx[i].length:=by omega
    rw [z377 _ _ _ hjn,List.append_assoc] at hj2
    have hto:=hrow g.nx[i][j] (y46 _)
    have hm2:=z281 (a:=g.nx[i][j]) (b:=(a.acc.length:Int)) (A:=60) (B:=64) (by omega) (by omega) (by omega) (by omega)
    refine z80 (fun x:Nat×List (Nat×Int)=>([(3,.ptr 0 none 0),(5,.ptr 1 none 0),(8,.int a.acc.length),(9,lst 1 encT (z69 a)),(12,.sref 2 0 (g.st.length * a.acc.length)),(53,ints ls),(54,.int ls.length),(55,.int i),(13,.int i),(14,.int ls[i]),(60,.int a.acc.length),(61,.int q),(15,.int q),(68,ints g.nx[i]),(69,.int g.nx[i].length),(70,.int j),(17,.int g.nx[i][j]),(77,lst 4 Trans.cs (z69 a)[q]),(78,.int (z69 a)[q].length),(79,.int x.1)],[.cells 2 [[lst 2 State.cs g.st,lst 1 encL g.nx]],.cells 3 [[lst 1 enI a.ini,lst 1 enB a.acc,lst 4 Trans.cs a.ed]],.cells 1 ((build (g.st.length * a.acc.length) x.2).map z94)])) (fun x=>x.1≤(z69 a)[q].length∧x.2++(((z69 a)[q].drop x.1).flatMap (pE2 a.acc.length i q ls[i] g.nx[i][j])++((g.nx[i].drop (j+1)).flatMap (pTo a.acc.length (z69 a)[q] i q ls[i])++(((List.range a.acc.length).drop (q+1)).flatMap (pQ a.acc.length g.nx[i] (z69 a) i ls[i])++((List.range g.st.length).drop (i+1)).flatMap (pI2 a.acc.length g.nx (z69 a) ls))))=pS2 g ls a) (fun x=>(z69 a)[q].length - x.1) (0,ps) ⟨by omega,hj2⟩
     ⟨[0,1,2],rfl,by decide,rfl,⟨⟨rfl,rfl⟩,⟨rfl,rfl⟩,⟨rfl,rfl⟩,⟨rfl,rfl⟩,⟨rfl,rfl⟩,⟨rfl,rfl⟩,⟨rfl,rfl⟩,⟨rfl,rfl⟩,⟨rfl,rfl⟩,⟨rfl,rfl⟩,⟨rfl,rfl⟩,⟨rfl,rfl⟩,⟨rfl,rfl⟩,⟨rfl,rfl⟩,⟨rfl,rfl⟩,⟨rfl,rfl⟩,⟨rfl,rfl⟩,⟨rfl,rfl⟩,⟨rfl,rfl⟩,⟨rfl,rfl⟩,trivial⟩,⟨z15 rfl rfl,z15 rfl rfl,z18 rfl (z4 fun _=>rfl),trivial⟩⟩ ?_
    rintro ⟨k,ps⟩ ⟨hk1,hk2⟩
    dsimp only at hk1 hk2 ⊢
    by_cases hke:k < (z69 a)[q].length
    ·have he:=a5 (z69 a)[q][k] (hed q hqe _ (y46 hke))
     unfold z414 at he
     have hlt' : i * a.acc.length+q < (build (g.st.length * a.acc.length) ps).length:=by rw [z122];exact hlt
     have hmap:i * a.acc.length+q < ((build (g.st.length * a.acc.length) ps).map z94).length:=by rw [y51];exact hlt'
     have hrl:(build (g.st.length * a.acc.length) ps)[i * a.acc.length+q].length≤1000000000:=by
      have h1:=z432 (N:=g.st.length * a.acc.length) (ps:=ps) hlt'
      have h2:=congrArg List.length hk2
      rw [y49] at h2
      omega
     have hix:((i:Int) * a.acc.length+q).toNat=i * a.acc.length+q:=by
      have e:((i * a.acc.length:Nat):Int)=(i:Int) * a.acc.length:=by simp
      omega
     have hlt2:((i:Int) * a.acc.length+q).toNat < g.st.length * a.acc.length:=by rw [hix];exact hlt
     rw [z377 _ _ _ hke] at hk2
     repeat' (first|((fail_if_success apply z130 22);(fail_if_success apply z96 22);apply y4 ok;rfl;conv=>whnf)|(apply y45;(first|omega|(unfold inI;omega));conv=>whnf)|(with_reducible apply z10;omega;intro _;conv=>whnf)|(apply z5<;>intro _<;>conv=>whnf)|(apply z6 (takes_ok (z69 a)[q][k] ls[i] hli.1 hli.2 he.2.2.1);rfl;rfl;conv=>whnf))
     ·have hon:((ls[i].toNat &&& (z69 a)[q][k].care.toNat:Nat):Int)=(z69 a)[q][k].val:=by assumption
      refine y87 (Gl.Reach.expose (e:=z94 (build (g.st.length * a.acc.length) ps)[i * a.acc.length+q]) 2 (i * a.acc.length+q) 0 rfl (by rw [y53,y47 hlt'];rfl) rfl (z158 (fun _=>rfl) _) rfl) ?_
      conv=>whnf
      (apply y4 ok;rfl;conv=>whnf)
      repeat' (first|(apply z32;kernel_rfl;conv=>whnf)|(apply z849;exact hix;exact hmap;conv=>whnf)|(apply y45;(first|omega|(unfold inI;omega)|((try dsimp only);simp only [y51,y50,y49,y48,y60,y61];omega)|exact ⟨rfl,z22 rfl z29⟩);conv=>whnf))
      refine y87 (Gl.Reach.absorb 2 6 (i * a.acc.length+q) 0 rfl (getset hix (by rw [List.length_set];exact hmap)) rfl rfl (by simp) rfl (z53 (fun e he=>(z4 (fun _=>rfl)) e (List.mem_of_mem_take he)) (z194 rfl z33)) rfl) ?_
      conv=>whnf
      repeat' (first|(apply y4 ok;rfl;conv=>whnf)|(apply y45;((unfold inI;omega));conv=>whnf))
      have hpe:pE2 a.acc.length i q ls[i] g.nx[i][j] (z69 a)[q][k]=[(i * a.acc.length+q,g.nx[i][j] * a.acc.length+(z69 a)[q][k].dst)]:=by
       unfold pE2 onB;rw [if_pos (y84 hon)]
      rw [hpe,List.append_assoc,← List.append_assoc] at hk2
      exact z68 (k+1,ps++[(i * a.acc.length+q,g.nx[i][j] * a.acc.length+(z69 a)[q][k].dst)]) [0,1,2] ⟨by dsimp only;omega,hk2⟩ (by dsimp only;omega) ⟨rfl,by decide,rfl,⟨⟨rfl,rfl⟩,⟨rfl,rfl⟩,⟨rfl,rfl⟩,⟨rfl,rfl⟩,⟨rfl,rfl⟩,⟨rfl,rfl⟩,⟨rfl,rfl⟩,⟨rfl,rfl⟩,⟨rfl,rfl⟩,⟨rfl,rfl⟩,⟨rfl,rfl⟩,⟨rfl,rfl⟩,⟨rfl,rfl⟩,⟨rfl,rfl⟩,⟨rfl,rfl⟩,⟨rfl,rfl⟩,⟨rfl,rfl⟩,⟨rfl,rfl⟩,⟨rfl,rfl⟩,⟨rfl,rfl⟩,trivial⟩,⟨z15 rfl rfl,z15 rfl rfl,z18 (z36 (rows_push' hlt' hix (by simp))) (z4 fun _=>rfl),trivial⟩⟩
     ·have hon:¬ ((ls[i].toNat &&& (z69 a)[q][k].care.toNat:Nat):Int)=(z69 a)[q][k].val:=by assumption
      have hpe:pE2 a.acc.length i q ls[i] g.nx[i][j] (z69 a)[q][k]=[]:=by
       unfold pE2 onB;rw [if_neg (by simpa using hon)]
      rw [hpe,List.nil_append] at hk2
      exact z68 (k+1,ps) [0,1,2] ⟨by dsimp only;omega,hk2⟩ (by dsimp only;omega) ⟨rfl,by decide,rfl,⟨⟨rfl,rfl⟩,⟨rfl,rfl⟩,⟨rfl,rfl⟩,⟨rfl,rfl⟩,⟨rfl,rfl⟩,⟨rfl,rfl⟩,⟨rfl,rfl⟩,⟨rfl,rfl⟩,⟨rfl,rfl⟩,⟨rfl,rfl⟩,⟨rfl,rfl⟩,⟨rfl,rfl⟩,⟨rfl,rfl⟩,⟨rfl,rfl⟩,⟨rfl,rfl⟩,⟨rfl,rfl⟩,⟨rfl,rfl⟩,⟨rfl,rfl⟩,⟨rfl,rfl⟩,⟨rfl,rfl⟩,trivial⟩,⟨z15 rfl rfl,z15 rfl rfl,z18 rfl (z4 fun _=>rfl),trivial⟩⟩
     ·omega
    ·repeat' (first|((fail_if_success apply z130 22);(fail_if_success apply z96 22);apply y4 ok;rfl;conv=>whnf)|(apply y45;(first|omega|(unfold inI;omega));conv=>whnf)|(with_reducible apply z10;omega;intro _;conv=>whnf)|(apply z5<;>intro _<;>conv=>whnf))
     ·omega
     ·rw [z179 _ _ _ (by omega),List.nil_append] at hk2
      exact z68 (j+1,ps) [0,1,2] ⟨by dsimp only;omega,hk2⟩ (by dsimp only;omega) ⟨rfl,by decide,rfl,⟨⟨rfl,rfl⟩,⟨rfl,rfl⟩,⟨rfl,rfl⟩,⟨rfl,rfl⟩,⟨rfl,rfl⟩,⟨rfl,rfl⟩,⟨rfl,rfl⟩,⟨rfl,rfl⟩,⟨rfl,rfl⟩,⟨rfl,rfl⟩,⟨rfl,rfl⟩,⟨rfl,rfl⟩,⟨rfl,rfl⟩,⟨rfl,rfl⟩,⟨rfl,rfl⟩,⟨rfl,rfl⟩,trivial⟩,⟨z15 rfl rfl,z15 rfl rfl,z18 rfl (z4 fun _=>rfl),trivial⟩⟩
   ·rw [z179 _ _ _ (by omega),List.nil_append] at hj2
    exact z68 (q+1,ps) [0,1,2] ⟨by dsimp only;omega,hj2⟩ (by dsimp only;omega) ⟨rfl,by decide,rfl,⟨⟨rfl,rfl⟩,⟨rfl,rfl⟩,⟨rfl,rfl⟩,⟨rfl,rfl⟩,⟨rfl,rfl⟩,⟨rfl,rfl⟩,⟨rfl,rfl⟩,⟨rfl,rfl⟩,⟨rfl,rfl⟩,⟨rfl,rfl⟩,⟨rfl,rfl⟩,⟨rfl,rfl⟩,trivial⟩,⟨z15 rfl rfl,z15 rfl rfl,z18 rfl (z4 fun _=>rfl),trivial⟩⟩
  ·rw [z179 _ _ _ (by simp;omega),List.nil_append] at hq2
   exact z68 (i+1,ps) [0,1,2] ⟨by dsimp only;omega,hq2⟩ (by dsimp only;omega) ⟨rfl,by decide,rfl,⟨⟨rfl,rfl⟩,⟨rfl,rfl⟩,⟨rfl,rfl⟩,⟨rfl,rfl⟩,⟨rfl,rfl⟩,⟨rfl,rfl⟩,⟨rfl,rfl⟩,⟨rfl,rfl⟩,trivial⟩,⟨z15 rfl rfl,z15 rfl rfl,z18 rfl (z4 fun _=>rfl),trivial⟩⟩
 ·rw [z179 _ _ _ (by simp;omega),y67] at hi2
  subst hi2
  repeat' (first|(apply y4 ok;rfl;conv=>whnf)|(apply z6 (z745 a.ini (by omega));rfl;rfl;conv=>whnf))
  exact z56 [2] (by decide) rfl rfl rfl ⟨z18 rfl (z4 fun _=>rfl),trivial⟩
theorem z958 (g:Graph) (hg:GB g) (l:List Tree) (hl:z129 l) (a:Aut) (ha:AutP a):CallsA Tryz.prog 75 [.agg g.cs,lst 3 Tree.cs' l,.agg a.cs] [] (.tup [lst 1 encL (z55 g (g.st.map (z50 l)) a),ints a.ini]) []:=by
 have h:=z827 g hg l hl a ha
 have hlen:(z55 g (g.st.map (z50 l)) a).length=g.st.length * a.acc.length:=by unfold z55;rw [z122,Nat.mul_comm]
 refine h.lend [] [0] rfl rfl rfl ?_ z47
 show AC.tup [bor _ _ _ (.sref 0 0 _),bor _ _ _ (ints a.ini)]=_
 rw [z386 (w:=1) (es:=(z55 g (g.st.map (z50 l)) a).map z94) rfl rfl rfl (by rw [y51];exact hlen),z154,← hlen]
 rfl
theorem z828 (g:Graph) (hg:GB g) (ls:List Int) (a:Aut) (ha:AutP a):∀ row∈z55 g ls a,∀ x∈row,0≤x∧x < ((g.st.length * a.acc.length:Nat):Int):=by
 intro row hrow x hx
 unfold z55 build at hrow
 obtain ⟨r,_,rfl⟩:=List.mem_map.1 hrow
 obtain ⟨⟨p,v⟩,hp,rfl⟩:=List.mem_map.1 hx
 have hp:=(List.mem_filter.1 hp).1
 unfold z712 at hp
 obtain ⟨i,hi,hp⟩:=List.mem_flatMap.1 hp
 rw [y63] at hi
 unfold z714 at hp
 obtain ⟨to,hto,hp⟩:=List.mem_flatMap.1 hp
 unfold z713 at hp
 obtain ⟨e,he,hp⟩:=List.mem_flatMap.1 hp
 have hin:i < g.nx.length:=by have:=hg.2.1;omega
 rw [z20 hin] at hto
 obtain ⟨j,hj,rfl⟩:=List.mem_iff_getElem.1 hto
 have h1:=((hg.2.2 i hin hin hi).2.2.2 j hj hj).1
 have h2:=(ha.2.2.2 e he).2.1
 unfold z440 at hp
 split at hp
 ·simp only [y57,Prod.mk.injEq] at hp
  obtain ⟨_,rfl⟩:=hp
  have h3:0≤g.nx[i][j] * (a.acc.length:Int):=Int.mul_nonneg h1.1 (by omega)
  have h4:(g.nx[i][j]+1) * (a.acc.length:Int)≤g.st.length * a.acc.length:=Int.mul_le_mul_of_nonneg_right (by omega) (by omega)
  rw [Int.add_mul,Int.one_mul] at h4
  have e:((g.st.length * a.acc.length:Nat):Int)=(g.st.length:Int) * a.acc.length:=by simp
  rw [e]
  dsimp only
  omega
 ·simp at hp
theorem z715 (g:Graph) (hg:GB g) (ls:List Int) (a:Aut) (ha:AutP a):∀ row∈z55 g ls a,row.length≤7372800:=by
 intro row hrow
 obtain ⟨i,hi,rfl⟩:=List.mem_iff_getElem.1 hrow
 exact Nat.le_trans (z432 (N:=a.acc.length * g.st.length) (ps:=z712 g ls a) hi) (z711 g hg ls a ha)
def rk (ranks:List Int) (x:Int):Int:=ranks.getD x.toNat 0
def less (acc:Bool) (r:Int):Int:=if acc then r - 1 else r
def nodeP (row ranks:List Int) (rank:Int) (acc:Bool):Prop:=∀ x∈row,0≤rk ranks x∧rk ranks x≤less acc rank
instance {row ranks:List Int} {rank:Int} {acc:Bool} : Decidable (nodeP row ranks rank acc):=by unfold nodeP;infer_instance
def certP (rows:List (List Int)) (ini:List Int) (acc:List Bool) (N:Nat) (ranks:List Int):Prop :=
 ranks.length=N∧(∀ x∈ranks,-1≤x∧x≤4000)∧(∀ x∈ini,0≤rk ranks x)∧∀ i (h:i < ranks.length),0≤ranks[i]→nodeP (rows.getD i []) ranks ranks[i] (acc.getD (i % acc.length) false)
noncomputable instance {rows:List (List Int)} {ini:List Int} {acc:List Bool} {N:Nat} {ranks:List Int} : Decidable (certP rows ini acc N ranks):=Classical.propDecidable _
def Cert.mx (c:Cert):Prop:=c.ranks.length≤maxLen
theorem z340 (l:List Int) (hl:l.length≤1048576):CallsA Tryz.prog 66 [.sref 0 0 l.length] [.cells 1 (l.map enI)] (.sref 0 0 l.length) [.cells 1 (l.map enI)]:=by
 refine z9 z17 Tryz.func66 rfl rfl 9 Tryz.ntmps66 (by simp) ?_
 repeat' (first|(apply y4 ok;rfl;conv=>whnf)|(apply y45;(omega);conv=>whnf))
 exact z72 rfl (z4 fun _=>rfl) (by omega) rfl rfl
theorem z769 (l:List Int) (hl:l.length≤1048576):CallsA Tryz.prog 201 [ints l] [] (.sref 0 0 l.length) [.cells 1 (l.map enI)]:=by
 by_cases hp:0 < l.length
 ·exact z596 l hl hp
 ·obtain rfl:l=[]:=y76 (by omega)
  refine z195 (z284 Tryz.func201 rfl (by rfl)) fun ad cap=>?_
  cases ad with
  |none =>
   refine CallsA.nils (res:=.nils) (l:=[.cells 1 []]) ?_ (by simp) z364
   refine z9 z17 Tryz.func201 rfl rfl 8 Tryz.ntmps201 (by simp) ?_
   repeat' ((apply y4 ok;rfl;conv=>whnf))
   all_goals exact z39 rfl rfl rfl
  |some p =>
   refine z9 z17 Tryz.func201 rfl rfl 8 Tryz.ntmps201 (by simp) ?_
   repeat' (first|(apply y4 ok;rfl;conv=>whnf)|(apply y45;(omega);conv=>whnf))
   all_goals (exact z72 rfl z33 rfl rfl rfl)
theorem z654 (l:List Int) (hl:l.length≤1048576):CallsA Tryz.prog 137 [ints l] [] (.sref 0 0 l.length) [.cells 1 (l.map enI)]:=by
 refine z9 z17 Tryz.func137 rfl rfl 6 Tryz.ntmps137 (by simp) ?_
 repeat' (first|(apply y4 ok;rfl;conv=>whnf)|(apply z92 [] [] [0] (z769 l hl);rfl;(focus ((repeat' (exact z47))<;>(fail)));rfl;rfl;rfl;rfl;rfl;(focus ((repeat' (first|exact z13|apply z11))<;>((refine z21 ?_;((exact z4 (fun _=>rfl)))))));(exact .inl rfl);conv=>whnf)|(apply z92 [0] [] [] (z340 l hl);rfl;(focus ((repeat' (first|exact z47|apply z59))<;>((refine z84 rfl ?_;((exact z4 (fun _=>rfl)))))));rfl;rfl;rfl;rfl;rfl;(focus ((repeat' (first|exact z13|apply z11))<;>((refine z21 ?_;((exact z4 (fun _=>rfl)))))));(exact .inl rfl);conv=>whnf))
 exact z72 rfl (z4 fun _=>rfl) rfl rfl rfl
structure Graph.ok (g:Graph):Prop where
 mx:g.mx
 st:g.st.length≤1048576
 nx:g.nx.length≤1048576
 states:∀ s∈g.st,s.small
 rows:∀ r∈g.nx,r.length≤1048576
 sumS:(g.st.map State.sz).sum≤1048576
 sumN:(g.nx.map List.length).sum≤1048576
theorem Graph.ok_of {g:Graph} (hg:g.mx) (h1:g.s1≤1048576) (h2:g.s2≤1048576):g.ok:=by
 unfold Graph.s1 tot at h1
 unfold Graph.s2 tot at h2
 refine ⟨hg,by omega,by omega,fun s hs=>?_,fun r hr=>?_,by omega,by omega⟩
 ·have:=z370 State.sz hs
  unfold State.sz at this h1
  exact ⟨by omega,by omega⟩
 ·have:=z370 List.length hr;omega
structure LabOk (l:List Tree):Prop where
 mx:Lmx l
 len:l.length≤1048576
 el:∀ t∈l,t.sz≤1048576
 sum:(l.map Tree.sz).sum≤1048576
theorem LabOk.of {l:List Tree} (hl:Lmx l) (h:tot Tree.sz l≤1048576):LabOk l:=by
 unfold tot at h
 exact ⟨hl,by omega,fun t ht=>by have:=z370 Tree.sz ht;omega,by omega⟩
def enU (n:Int):List AC:=[.raw (.int .u8 n)]
def rdO (bs:List Int) (p:Int):AObj:=.cells 2 [[lst 1 enU bs,.int p]]
structure BytesOk (bs:List Int):Prop where
 len:bs.length≤2000
 el:∀ x∈bs,0≤x∧x≤255
theorem u_at {l:List Int} {i:Nat} (h:i < l.length):(l.map enU)[i]?=some (enU l[i]):=by rw [y53,y47 h];rfl
theorem rem_at {l:List Int} {i:Int} (h:0 < l.length) (h0:0≤i):(i % (l.length:Int)).toNat < l.length:=by
 have:=Int.emod_lt_of_pos i (show (0:Int) < l.length by omega)
 have:=Int.emod_nonneg i (show (l.length:Int)≠0 by omega)
 omega
set_option maxHeartbeats 1600000 in
theorem z70 (bs:List Int) (hb:BytesOk bs) (p n:Int) (h0:0≤p) (h1:p≤1000000000) (hn:n≤1000000000):∃ v:Int,(0≤v∧(1≤n→v < n))∧CallsA Tryz.prog 101 [.ptr 0 none 0,.int n] [rdO bs p] (.int v) [rdO bs (p+1)]:=by
 have hlen:=hb.len
 by_cases hz:n < 1∨bs.length=0
 ·refine ⟨0,⟨by omega,fun _=>by omega⟩,?_⟩
  refine z9 z17 Tryz.func101 rfl rfl 99 Tryz.ntmps101 (by simp) ?_
  repeat' (first|(apply y4 ok;rfl;conv=>whnf)|(apply z32;kernel_rfl;conv=>whnf)|(apply y45;(first|omega|(unfold inI;omega));conv=>whnf)|(with_reducible apply z127;omega;intro _;conv=>whnf)|(apply z5<;>intro _<;>conv=>whnf))
  all_goals first|(exfalso;omega)|exact z56 [0] (by decide) rfl rfl rfl ⟨z15 rfl rfl,trivial⟩
 by_cases hk:p < bs.length
 ·have hp:(p+1 - 1).toNat < bs.length:=by omega
  have g0:=u_at (l:=bs) (i:=(p+1 - 1).toNat) hp
  have hr:=hb.el bs[(p+1 - 1).toNat] (y46 _)
  generalize bs[(p+1 - 1).toNat]=b at *
  have hw:IntKind.i64.wrap b=b:=IntWalk.i64_in _ (by omega)
  refine ⟨b % n,⟨Int.emod_nonneg _ (by omega),fun _=>Int.emod_lt_of_pos _ (by omega)⟩,?_⟩
  refine z9 z17 Tryz.func101 rfl rfl 99 Tryz.ntmps101 (by simp) ?_
  repeat' (first|(apply y4 ok;rfl;conv=>whnf)|(apply z32;kernel_rfl;conv=>whnf)|(refine z12 (i:=(p+1 - 1).toNat) rfl g0 ?_;conv=>whnf)|(apply y45;(first|omega|(unfold inI;omega));conv=>whnf)|(with_reducible apply z127;omega;intro _;conv=>whnf)|(apply z5<;>intro _<;>conv=>whnf))
  all_goals first|(exfalso;omega)|exact z56 [0] (by decide) rfl rfl rfl ⟨z15 rfl rfl,trivial⟩
 have hl0:0 < bs.length:=by omega
 have m1:=rem_at (l:=bs) (i:=p+1 - 1) hl0 (by omega)
 have m2:=rem_at (l:=bs) (i:=(p+1 - 1) * 7+3) hl0 (by omega)
 have g1:=u_at m1
 have g2:=u_at m2
 have r1:=hb.el bs[((p+1 - 1) % (bs.length:Int)).toNat] (y46 _)
 have r2:=hb.el bs[(((p+1 - 1) * 7+3) % (bs.length:Int)).toNat] (y46 _)
 generalize bs[((p+1 - 1) % (bs.length:Int)).toNat]=b1 at *
 generalize bs[(((p+1 - 1) * 7+3) % (bs.length:Int)).toNat]=b2 at *
 have w1:IntKind.i64.wrap b1=b1:=IntWalk.i64_in _ (by omega)
 have w2:IntKind.i64.wrap b2=b2:=IntWalk.i64_in _ (by omega)
 have n1:=Int.emod_nonneg (p+1 - 1) (show (bs.length:Int)≠0 by omega)
 have n2:=Int.emod_nonneg ((p+1 - 1) * 7+3) (show (bs.length:Int)≠0 by omega)
 have l1:=Int.emod_lt_of_pos (p+1 - 1) (show (0:Int) < bs.length by omega)
 have l2:=Int.emod_lt_of_pos ((p+1 - 1) * 7+3) (show (0:Int) < bs.length by omega)
 have q0:0≤(p+1 - 1) / (bs.length:Int):=Int.ediv_nonneg (by omega) (by omega)
 have q1:(p+1 - 1) / (bs.length:Int)≤p+1 - 1:=Int.ediv_le_self _ (by omega)
 have hx0:0≤b1 * 131+b2 * 1117+(p+1 - 1) * 29+(p+1 - 1) / (bs.length:Int) * 53:=by omega
 have hx1:b1 * 131+b2 * 1117+(p+1 - 1) * 29+(p+1 - 1) / (bs.length:Int) * 53≤1000000000000:=by omega
 have hq:0≤(b1 * 131+b2 * 1117+(p+1 - 1) * 29+(p+1 - 1) / (bs.length:Int) * 53) / 64∧(b1 * 131+b2 * 1117+(p+1 - 1) * 29+(p+1 - 1) / (bs.length:Int) * 53) / 64≤1000000000000:=by omega
 refine ⟨(((b1 * 131+b2 * 1117+(p+1 - 1) * 29+(p+1 - 1) / (bs.length:Int) * 53).toNat ^^^ ((b1 * 131+b2 * 1117+(p+1 - 1) * 29+(p+1 - 1) / (bs.length:Int) * 53) / 64).toNat:Nat):Int) % n,⟨Int.emod_nonneg _ (by omega),fun _=>Int.emod_lt_of_pos _ (by omega)⟩,?_⟩
 refine z9 z17 Tryz.func101 rfl rfl 99 Tryz.ntmps101 (by simp) ?_
 repeat' (first|(apply y4 ok;rfl;conv=>whnf)|(apply z32;kernel_rfl;conv=>whnf)|(refine z12 (i:=(((p+1 - 1) * 7+3) % (bs.length:Int)).toNat) rfl g2 ?_;conv=>whnf)|(refine z12 (i:=((p+1 - 1) % (bs.length:Int)).toNat) rfl g1 ?_;conv=>whnf)|(apply y45;(first|omega|(unfold inI;omega)|(unfold z111;omega));conv=>whnf)|(with_reducible apply z127;omega;intro _;conv=>whnf)|(apply z5<;>intro _<;>conv=>whnf))
 all_goals first|(exfalso;omega)|exact z56 [0] (by decide) rfl rfl rfl ⟨z15 rfl rfl,trivial⟩
theorem z978 (bs:List Int) (hl:bs.length≤maxLen):CallsA Tryz.prog 40 [lst 1 enU bs] [] (.ptr 0 none 0) [rdO (bs.take 2000) 0]:=by
 unfold maxLen at hl
 refine z9 z17 Tryz.func40 rfl rfl 11 Tryz.ntmps40 (by simp) ?_
 by_cases h:bs.length≤2000
 ·rw [y59 h]
  repeat' (first|(apply y4 ok;rfl;conv=>whnf)|(apply y45;(omega);conv=>whnf)|(apply z5<;>intro _<;>conv=>whnf))
  all_goals first|(exfalso;omega)|exact z56 [0] (by decide) rfl rfl rfl ⟨z15 rfl rfl,trivial⟩
 ·repeat' (first|(apply y4 ok;rfl;conv=>whnf)|(apply y45;(omega);conv=>whnf)|(apply z5<;>intro _<;>conv=>whnf))
  all_goals try (exfalso;omega)
  all_goals exact z56 [0] (by decide) rfl rfl rfl ⟨z15 rfl (congrArg (fun x=>AObj.cells 2 [[x,AC.int 0]]) (z301 1 enU bs 2000 (by omega))),trivial⟩
theorem z102 (bs:List Int) (hb:BytesOk bs) (p:Int) (h0:0≤p) (h1:p≤1000000000) (l:List Int) (hl:0 < l.length) (hl2:l.length≤1000):∃ v:Int,v∈l∧CallsA Tryz.prog 104 [.ptr 0 none 0,.sref 1 0 l.length] [rdO bs p,.cells 1 (l.map enI)] (.int v) [rdO bs (p+1),.cells 1 (l.map enI)]:=by
 obtain ⟨k,⟨hk0,hk1⟩,hc⟩:=z70 bs hb p l.length h0 h1 (by omega)
 have hk:k.toNat < l.length:=by omega
 have g0:(l.map enI)[k.toNat]?=some (enI l[k.toNat]):=by rw [y53,y47 hk];rfl
 refine ⟨l[k.toNat],y46 _,?_⟩
 generalize l[k.toNat]=v at *
 refine z9 z17 Tryz.func104 rfl rfl 12 Tryz.ntmps104 (by simp) ?_
 repeat' (first|(apply y4 ok;rfl;conv=>whnf)|(refine z12 (i:=k.toNat) rfl g0 ?_;conv=>whnf)|(apply y45;(omega);conv=>whnf)|(apply z92 [0] [] [] (hc);rfl;(focus ((repeat' (first|exact z47|apply z59))<;>(rfl)));rfl;rfl;rfl;rfl;rfl;(focus ((repeat' (first|exact z13|apply z11))<;>(exact z44 rfl rfl)));(exact .inl rfl);conv=>whnf))
 all_goals (exact z56 [0,1] (by decide) rfl rfl rfl ⟨z15 rfl rfl,z18 rfl (z4 fun _=>rfl),trivial⟩)
end Go.Proofs.YtjhgpfaodkchjaaGreat
namespace Go.Proofs.YtjhgpfaodkchjaaGreat
open Go.Gl
attribute [local irreducible] z19 AWP z25 z31 z28 RetS z38
theorem z106 (t:Tree):t.sz≤maxLen→t.mx:=by
 induction t using y26 with|h t ih=>?_
 intro h
 rw [y27]
 rw [y38] at h
 refine ⟨by omega,fun u hu=>ih u hu ?_⟩
 have:=z370 Tree.sz hu
 omega
abbrev few (p:Int):Prop:=0≤p∧p≤999999000
abbrev few1 (p:Int):Prop:=0≤p∧p≤999990000
abbrev few2 (p:Int):Prop:=0≤p∧p≤999900000
abbrev few3 (p:Int):Prop:=0≤p∧p≤999000000
def leaf (k v:Int):Tree:=.mk k v []
theorem z87 (k v:Int):(leaf k v).sz=0:=rfl
theorem z231 (k v:Int) (l:List Tree):(Tree.mk k v l).sz=l.length+(l.map Tree.sz).sum:=y38 _
set_option maxHeartbeats 1600000 in
theorem z586 (bs:List Int) (hb:BytesOk bs) (p:Int) (hp:few p):∃ (t:Tree) (p' : Int),(t.sz≤3∧p≤p'∧p'≤p+5)∧CallsA Tryz.prog 100 [.ptr 0 none 0] [rdO bs p] (z30 Tree.cs' t) [rdO bs p']:=by
 obtain ⟨v0,⟨l0,u0⟩,c0⟩:=z70 bs hb p 3 (by omega) (by omega) (by omega)
 by_cases h0:v0=0
 ·subst h0
  refine ⟨leaf 1 1,p+1,⟨by rw [z87];omega,by omega,by omega⟩,?_⟩
  refine z7 z17 Tryz.func100 rfl rfl 31 Tryz.ntmps100 (by simp) ?_
  repeat' ((first|(apply y4 ok;rfl)|(apply z34 [0] [] c0;rfl;rfl;rfl))<;>conv=>whnf)
  all_goals (refine rsD [0] [] rfl ?_;(repeat' first|exact y88 _|exact z43|apply y89|apply z52|constructor))
 ·obtain ⟨v1,m1,c1⟩:=z102 bs hb (p+1) (by omega) (by omega) [0,1,0,2] (by decide) (by decide)
  obtain ⟨v2,⟨l2,u2⟩,c2⟩:=z70 bs hb (p+1+1) 3 (by omega) (by omega) (by omega)
  obtain ⟨v3,m3,c3⟩:=z102 bs hb (p+1+1+1) (by omega) (by omega) [6,7,6] (by decide) (by decide)
  obtain ⟨v4,⟨l4,u4⟩,c4⟩:=z70 bs hb (p+1+1+1+1) 5 (by omega) (by omega) (by omega)
  have z0:v0≠0:=h0
  by_cases h4:v4=0
  ·subst h4
   refine ⟨.mk 3 0 [.mk v3 0 [leaf 2 v1,leaf 1 v2]],p+1+1+1+1+1,⟨by simp [z231,z87],by omega,by omega⟩,?_⟩
   refine z7 z17 Tryz.func100 rfl rfl 31 Tryz.ntmps100 (by simp) ?_
   repeat' ((first|(apply y4 ok;rfl)|(apply z32;kernel_rfl)|((apply z5)<;>intro _)|((first|(apply z8 [0] [] c0;rfl;rfl)|(apply z8 [0,2] [] c1;rfl;rfl)|(apply z8 [0] [] c2;rfl;rfl)|(apply z8 [0,5] [] c3;rfl;rfl)|(apply z8 [0] [] c4;rfl;rfl));rfl;(focus ((repeat' first|exact z13|apply z11)<;>first|exact z44 rfl rfl|(refine z21 ?_;((exact z4 fun _=>rfl)))))))<;>conv=>whnf)
   all_goals try (exfalso;omega)
   all_goals (refine rsL [0,8] [6] rfl ?_;refine rsD [0] [1] rfl ?_;(repeat' first|exact y88 _|exact z43|apply y89|((first|apply z54 rfl rfl rfl|apply z82 rfl rfl rfl);(focus ((repeat (rfl));done));(focus ((rfl);done)))|apply z52|(apply z79;rfl)|constructor))
  ·refine ⟨.mk v3 0 [leaf 2 v1,leaf 1 v2],p+1+1+1+1+1,⟨by simp [z231,z87],by omega,by omega⟩,?_⟩
   refine z7 z17 Tryz.func100 rfl rfl 31 Tryz.ntmps100 (by simp) ?_
   repeat' ((first|(apply y4 ok;rfl)|(apply z32;kernel_rfl)|((apply z5)<;>intro _)|((first|(apply z8 [0] [] c0;rfl;rfl)|(apply z8 [0,2] [] c1;rfl;rfl)|(apply z8 [0] [] c2;rfl;rfl)|(apply z8 [0,5] [] c3;rfl;rfl)|(apply z8 [0] [] c4;rfl;rfl));rfl;(focus ((repeat' first|exact z13|apply z11)<;>first|exact z44 rfl rfl|(refine z21 ?_;((exact z4 fun _=>rfl)))))))<;>conv=>whnf)
   all_goals try (exfalso;omega)
   all_goals (refine rsD [0] [6] rfl ?_;(repeat' first|exact y88 _|exact z43|apply y89|refine z54 rfl rfl rfl rfl rfl ?_|apply z52|(apply z79;rfl)|constructor))
def drK:Nat→Int
 |0=>4
 |n+1=>4+2 * drK n
def drS:Nat→Nat
 |0=>0
 |n+1=>2+2 * drS n
theorem z1137 (n:Nat):4≤drK n:=by induction n with
 |zero=>decide
 |succ n ih=>rw [drK];omega
set_option maxHeartbeats 1600000 in
theorem z843 (bs:List Int) (hb:BytesOk bs):∀ (n:Nat) (d p:Int),d≤n+1→n≤100→0≤d→0≤p→p+drK n≤1000000000→∃ (t:Tree) (p' : Int),(t.sz≤drS n∧p≤p'∧p'≤p+drK n)∧CallsA Tryz.prog 282 [.ptr 0 none 0,.int d] [rdO bs p] (z30 Tree.cs' t) [rdO bs p']:=by
 intro n
 induction n with
 |zero =>
  intro d p hd hd1 hd0 hp hq
  rw [drK] at hq ⊢
  obtain ⟨v0,⟨l0,u0⟩,c0⟩:=z70 bs hb p 3 (by omega) (by omega) (by omega)
  by_cases h0:v0=0
  ·subst h0
   obtain ⟨v1,⟨l1,u1⟩,c1⟩:=z70 bs hb (p+1) 4 (by omega) (by omega) (by omega)
   refine ⟨leaf 1 v1,p+1+1,⟨by rw [z87];omega,by omega,by omega⟩,?_⟩
   refine z7 z17 Tryz.func282 rfl rfl 46 Tryz.ntmps282 (by simp) ?_
   repeat' ((first|(apply y4 ok;rfl)|((apply z5)<;>intro _)|((first|(apply z34 [0] [] c0;rfl;rfl)|(apply z34 [0] [] c1;rfl;rfl));rfl))<;>conv=>whnf)
   all_goals try (exfalso;omega)
   all_goals (refine rsD [0] [] rfl ?_;(repeat' first|exact y88 _|exact z43|apply y89|apply z52|constructor))
  ·obtain ⟨v1,m1,c1⟩:=z102 bs hb (p+1) (by omega) (by omega) [0,1,0,2] (by decide) (by decide)
   refine ⟨leaf 2 v1,p+1+1,⟨by rw [z87];omega,by omega,by omega⟩,?_⟩
   refine z7 z17 Tryz.func282 rfl rfl 46 Tryz.ntmps282 (by simp) ?_
   repeat' ((first|(apply y4 ok;rfl)|((apply z5)<;>intro _)|((first|(apply z8 [0] [] c0;rfl;rfl)|(apply z8 [0,2] [] c1;rfl;rfl));rfl;(focus ((repeat' first|exact z13|apply z11)<;>first|exact z44 rfl rfl|(refine z21 ?_;((exact z4 fun _=>rfl)))))))<;>conv=>whnf)
   all_goals try (exfalso;omega)
   all_goals (refine rsD [0] [] rfl ?_;(repeat' first|exact y88 _|exact z43|apply y89|apply z52|constructor))
 |succ n ih =>
  intro d p hd hd1 hd0 hp hq
  have hK:=z1137 n
  by_cases hlt:d < 2
  ·obtain ⟨t,p',h1,h2⟩:=ih d p (by omega) (by omega) hd0 hp (by rw [drK] at hq;omega)
   exact ⟨t,p',⟨by rw [drS];omega,h1.2.1,by rw [drK];omega⟩,h2⟩
  rw [drK] at hq
  rw [drK,drS]
  obtain ⟨w,⟨lw,uw⟩,cw⟩:=z70 bs hb p 5 (by omega) (by omega) (by omega)
  by_cases hw:w=0
  ·subst hw
   obtain ⟨v0,⟨l0,u0⟩,c0⟩:=z70 bs hb (p+1) 3 (by omega) (by omega) (by omega)
   by_cases h0:v0=0
   ·subst h0
    obtain ⟨v1,⟨l1,u1⟩,c1⟩:=z70 bs hb (p+1+1) 4 (by omega) (by omega) (by omega)
    refine ⟨leaf 1 v1,p+1+1+1,⟨by rw [z87];omega,by omega,by omega⟩,?_⟩
    refine z7 z17 Tryz.func282 rfl rfl 46 Tryz.ntmps282 (by simp) ?_
    repeat' ((first|(apply y4 ok;rfl)|((apply z5)<;>intro _)|((first|(apply z34 [0] [] cw;rfl;rfl)|(apply z34 [0] [] c0;rfl;rfl)|(apply z34 [0] [] c1;rfl;rfl));rfl))<;>conv=>whnf)
    all_goals try (exfalso;omega)
    all_goals (refine rsD [0] [] rfl ?_;(repeat' first|exact y88 _|exact z43|apply y89|apply z52|constructor))
   ·obtain ⟨v1,m1,c1⟩:=z102 bs hb (p+1+1) (by omega) (by omega) [0,1,0,2] (by decide) (by decide)
    refine ⟨leaf 2 v1,p+1+1+1,⟨by rw [z87];omega,by omega,by omega⟩,?_⟩
    refine z7 z17 Tryz.func282 rfl rfl 46 Tryz.ntmps282 (by simp) ?_
    repeat' ((first|(apply y4 ok;rfl)|((apply z5)<;>intro _)|((first|(apply z8 [0] [] cw;rfl;rfl)|(apply z8 [0] [] c0;rfl;rfl)|(apply z8 [0,2] [] c1;rfl;rfl));rfl;(focus ((repeat' first|exact z13|apply z11)<;>first|exact z44 rfl rfl|(refine z21 ?_;((exact z4 fun _=>rfl)))))))<;>conv=>whnf)
    all_goals try (exfalso;omega)
    all_goals (refine rsD [0] [] rfl ?_;(repeat' first|exact y88 _|exact z43|apply y89|apply z52|constructor))
  ·obtain ⟨kd,mk,ck⟩:=z102 bs hb (p+1) (by omega) (by omega) [6,8,7,4,3,5,9] (by decide) (by decide)
   have ca:=z587 kd
   have ham:∃ m:Nat,z319 kd=m∧m≤2:=by
    simp only [List.mem_cons,List.not_mem_nil,or_false] at mk
    unfold z319
    rcases mk with rfl|rfl|rfl|rfl|rfl|rfl|rfl
    all_goals first|exact ⟨2,rfl,by omega⟩|exact ⟨1,rfl,by omega⟩
   obtain ⟨m,em,hm⟩:=ham
   rw [em] at ca
   obtain ⟨ks,pf,hks,hp0,hst,hpf⟩:=z493 (fun k q (t:Tree) q'=>t.sz≤drS n∧CallsA Tryz.prog 282 [.ptr 0 none 0,.int (d - 1)] [rdO bs q] (z30 Tree.cs' t) [rdO bs q']) (p+1+1) (drK n) m (fun k q hk h1 h2=>by
    have:drK n * k≤drK n:=by
     have:k=0∨k=1:=by omega
     rcases this with rfl|rfl<;>simp<;>omega
    obtain ⟨t,q',⟨a1,a2,a3⟩,a4⟩:=ih (d - 1) q (by omega) (by omega) (by omega) (by omega) (by omega)
    exact ⟨t,q',⟨a1,a4⟩,a2,a3⟩)
   have hpm:=hpf m (y54 _)
   have hKm:drK n * m≤2 * drK n:=by
    have:m=0∨m=1∨m=2:=by omega
    rcases this with rfl|rfl|rfl<;>simp<;>omega
   have hsum:(ks.map Tree.sz).sum≤2 * drS n:=by
    have:∀ (l:List Tree),(∀ t∈l,t.sz≤drS n)→(l.map Tree.sz).sum≤l.length * drS n:=by
     intro l
     induction l with
     |nil=>intro _;simp
     |cons t l ih =>
      intro h
      have h1:=h t (by simp)
      have h2:=ih fun u hu=>h u (by simp [hu])
      simp only [List.map_cons,List.sum_cons,y60,Nat.add_mul]
      omega
    have h1:=this ks fun t ht=>by
     obtain ⟨i,hi,rfl⟩:=List.mem_iff_getElem.1 ht
     exact (hst i hi).1
    have h2:ks.length * drS n≤2 * drS n:=Nat.mul_le_mul_right _ (by omega)
    omega
   refine ⟨.mk kd 0 ks,pf m,⟨by rw [z231];omega,by omega,by omega⟩,?_⟩
   refine z7 z17 Tryz.func282 rfl rfl 46 Tryz.ntmps282 (by simp) ?_
   rw [← hp0] at ck
   repeat' ((first|(apply y4 ok;rfl)|((apply z5)<;>intro _)|(apply z6 (ca);rfl;rfl)|((first|(apply z8 [0] [] cw;rfl;rfl)|(apply z8 [0,2] [] ck;rfl;rfl));rfl;(focus ((repeat' first|exact z13|apply z11)<;>first|exact z44 rfl rfl|(refine z21 ?_;((exact z4 fun _=>rfl)))))))<;>conv=>whnf)
   all_goals try (exfalso;omega)
   refine y87 (y90 3 rfl) ?_
   refine z86 (fun k:Nat=>([(0,.ptr 0 none 0),(1,.int d),(4,.ptr 1 none 0),(6,.ptr 2 none 0),(7,.int (m - k))],[rdO bs (pf k),.cells 3 [[.int 0,.int 0,.nils]],.cells 3 [[.int kd,.int 0,.sref 3 0 k]],.cells 3 ((ks.take k).map Tree.cs')])) (fun k=>k≤m) (fun k=>m - k) 0 (by omega) (by refine swR [0,1,3,4] [] rfl rfl ?_;(repeat' first|exact y88 _|exact z46|apply y89|refine z14 rfl (z33) ?_|constructor)) ?_
   intro k hk
   by_cases hkm:k < m
   ·have hc:=(hst k (by omega)).2
    have hkl:k < ks.length:=by omega
    rw [y15] at hc
    repeat' ((first|(apply y4 ok;rfl)|(apply z32;kernel_rfl)|(apply y45;first|(unfold inI;omega)|((try dsimp only);simp only [y51,y50,y49,y48,y60,y61];omega)|exact ⟨rfl,z22 rfl z29⟩)|((apply z5)<;>intro _)|(apply z34 [0] [] hc;rfl;rfl;rfl))<;>conv=>whnf)
    all_goals try (exfalso;omega)
    refine z41 (k+1) (by omega) (by omega) (by refine swR [0,1,2,5] [] rfl rfl ?_;(repeat' first|exact y88 _|exact z289|(refine z168 ?_;omega)|apply y89|((refine z40 rfl ?_ ?_);(focus ((repeat' (first|exact z4 (fun _=>rfl)|apply z27));done)))|refine z117 (by omega) (by omega) ?_|(apply z79;rfl)|constructor))
   ·have:k=m:=by omega
    subst this
    repeat' ((first|(apply y4 ok;rfl)|(apply y45;omega)|((apply z5)<;>intro _))<;>conv=>whnf)
    all_goals try (exfalso;omega)
    all_goals (refine rsD [0] [3] rfl ?_;(repeat' first|exact y88 _|(refine z334 ?_;omega)|apply y89|((apply z54 rfl rfl rfl);(focus ((repeat ((exact z42 (fun _=>rfl) _)));done));(focus (((simp;omega));done)))|apply z52|constructor))
theorem z1108 (bs:List Int) (hb:BytesOk bs) (p:Int) (hp:few p):∃ (t:Tree) (p' : Int),(t.sz≤20∧p≤p'∧p'≤p+100)∧CallsA Tryz.prog 253 [.ptr 0 none 0] [rdO bs p] (z30 Tree.cs' t) [rdO bs p']:=by
 obtain ⟨d,md,cd⟩:=z102 bs hb p (by omega) (by omega) [3,2,3,4] (by decide) (by decide)
 have hd:0≤d∧d≤4:=by simp at md;omega
 obtain ⟨t,q,⟨t1,t2,t3⟩,ct⟩:=z843 bs hb 3 d (p+1) (by omega) (by omega) (by omega) (by omega) (by simp only [drK];omega)
 simp only [drK] at t3
 simp only [drS] at t1
 have cv:=z133 t (z106 t (by unfold maxLen;omega))
 by_cases hv:t.exprB=true
 ·refine ⟨t,q,⟨by omega,by omega,by omega⟩,?_⟩
  rw [hv] at cv
  rw [y15] at *
  refine z7 z17 Tryz.func253 rfl rfl 15 Tryz.ntmps253 (by simp) ?_
  repeat' ((first|(apply y4 ok;rfl)|(apply z6 (cv);rfl;rfl)|((first|(apply z8 [0,2] [] cd;rfl;rfl)|(apply z8 [0] [] ct;rfl;rfl));rfl;(focus ((repeat' first|exact z13|apply z11)<;>first|exact z44 rfl rfl|(refine z21 ?_;((exact z4 fun _=>rfl)))))))<;>conv=>whnf)
  all_goals (refine rsD [0] [] rfl ?_;(repeat' first|exact y88 _|apply y89|constructor))
 ·obtain ⟨w,⟨lw,uw⟩,cw⟩:=z70 bs hb q 3 (by omega) (by omega) (by omega)
  refine ⟨leaf 2 w,q+1,⟨by rw [z87];omega,by omega,by omega⟩,?_⟩
  rw [(y74 _).mp hv] at cv
  rw [y15] at cv ct
  refine z7 z17 Tryz.func253 rfl rfl 15 Tryz.ntmps253 (by simp) ?_
  repeat' ((first|(apply y4 ok;rfl)|(apply z6 (cv);rfl;rfl)|((first|(apply z8 [0,2] [] cd;rfl;rfl)|(apply z8 [0] [] ct;rfl;rfl)|(apply z8 [0] [] cw;rfl;rfl));rfl;(focus ((repeat' first|exact z13|apply z11)<;>first|exact z44 rfl rfl|(refine z21 ?_;((exact z4 fun _=>rfl)))))))<;>conv=>whnf)
  all_goals (refine rsD [0] [] rfl ?_;(repeat' first|exact y88 _|exact z43|apply y89|apply z52|constructor))
mutual
def subZ (t:Tree):Tree:=match t with
 |.mk k v l=>if k=2∧v=-1 then .mk 0 0 [] else .mk k v (z1039 l)
def z1039 (l:List Tree):List Tree:=match l with
 |[]=>[]
 |t::r=>subZ t::z1039 r
end
theorem z892 (l:List Tree):z1039 l=l.map subZ:=by
 induction l with
 |nil=>simp [z1039]
 |cons t l ih=>simp [z1039,ih]
theorem subZ_sz (t:Tree):(subZ t).sz≤t.sz:=by
 induction t using y26 with|h t ih=>?_
 cases t with
 |mk k v l =>
  rw [subZ]
  split
  ·rw [z231];simp
  ·rw [z892,z231,z231]
   simp only [Tree.kids] at ih
   have key:∀ l:List Tree,(∀ u∈l,(subZ u).sz≤u.sz)→((l.map subZ).map Tree.sz).sum≤(l.map Tree.sz).sum:=by
    intro l
    induction l with
    |nil=>intro _;simp
    |cons t l ihl =>
     intro ih
     have h1:=ih t (by simp)
     have h2:=ihl fun u hu=>ih u (by simp [hu])
     simp only [List.map_cons,List.sum_cons]
     omega
   have:=key l ih
   simp only [y51]
   omega
def z788:AC:=.agg [.int 0,.int 0,.nils]
def ownT (t:Tree):AC:=.agg [.int t.kind,.int t.val,.sref 0 0 t.kids.length]
theorem z942:CallsA Tryz.prog 180 [z788,.int (-1),z788] [] (ownT (.mk 0 0 [])) [.cells 3 []]:=by
 refine z7 z17 Tryz.func180 rfl rfl 47 Tryz.ntmps180 (by simp) ?_
 repeat' (((apply y4 ok;rfl))<;>conv=>whnf)
 refine z80 (fun _:Nat=>([(6,.ptr 0 none 0),(7,.ptr 1 none 0),(8,.int 0),(3,.ptr 2 none 0)],[.cells 3 [[.int 0,.int 0,.nils]],.cells 3 [[.int 0,.int 0,.nils]],.cells 3 [[.int 0,.int 0,.nils]]])) (fun _=>True) (fun _=>0) 0 trivial ⟨[2,3,0],rfl,by decide,rfl,by repeat' (first|exact True.intro|exact ⟨rfl,rfl⟩|apply y45),by repeat' (first|exact True.intro|exact z15 rfl rfl|apply y45)⟩ ?_
 intro k hk
 repeat' (((apply y4 ok;rfl))<;>conv=>whnf)
 all_goals (refine rsL [] [] rfl ?_;refine y91 3 ?_;refine y12 ?_ ?_<;>(repeat' first|exact y88 _|exact z46|apply z52|apply ObjLe.mk|constructor))
theorem z454 {f:FuncId} {args:List AC} {t:Tree} (h:CallsA Tryz.prog f args [] (ownT t) [.cells 3 (t.kids.map Tree.cs')]):CallsA Tryz.prog f args [] (z30 Tree.cs' t) []:=by
 rw [y15]
 exact (by refine y5 (h) [] [0] rfl rfl rfl ?_ ?_<;>(repeat' first|exact y88 _|((apply z54 rfl rfl rfl);(focus ((repeat ((exact z42 (fun _=>rfl) _)));done));(focus (((simp;done));done)))|apply z52|constructor))
theorem z842 (t:Tree) (h:t.sz≤1000000):CallsA Tryz.prog 180 [z30 Tree.cs' t,.int (-1),z788] [] (ownT (subZ t)) [.cells 3 ((subZ t).kids.map Tree.cs')]:=by
 induction t using y26 with|h t ih=>?_
 have hkl:t.kids.length≤1000000:=by rw [y38] at h;omega
 have hks:∀ u∈t.kids,u.sz≤1000000:=fun u hu=>by
  have:=z370 Tree.sz hu
  rw [y38] at h;omega
 rw [y15 t]
 obtain ⟨k,v,l⟩:=t
 simp only [Tree.kind,Tree.val,Tree.kids] at *
 rw [subZ]
 by_cases hz:k=2∧v=-1
 ·obtain ⟨rfl,rfl⟩:=hz
  rw [if_pos ⟨rfl,rfl⟩]
  have c:=z942
  unfold z788 ownT at *
  refine z7 z17 Tryz.func180 rfl rfl 47 Tryz.ntmps180 (by simp) ?_
  repeat' ((first|(apply y4 ok;rfl)|(apply z8 [] [3] c;rfl;rfl;rfl;(focus ((repeat' first|exact z13|apply z11)<;>(refine z21 ?_;(exact z33))))))<;>conv=>whnf)
  all_goals (refine rsD [3] [] rfl ?_;(repeat' first|exact y88 _|refine z14 rfl (z33) ?_|constructor))
 ·rw [if_neg hz,z892]
  have hcs:∀ (i:Nat) (hi:i < l.length) (hi2:i < (l.map subZ).length),CallsA Tryz.prog 180 [z30 Tree.cs' l[i],.int (-1),z788] [] (z30 Tree.cs' (l.map subZ)[i]) []:=fun i hi hi2=>by
   rw [List.getElem_map]
   exact z454 (ih _ (y46 _) (hks _ (y46 _)))
  have hll:(l.map subZ).length=l.length:=y51 ..
  generalize l.map subZ=L at *
  unfold z788 ownT at *
  simp only [Tree.kind,Tree.val,Tree.kids] at *
  rw [hll]
  refine z7 z17 Tryz.func180 rfl rfl 47 Tryz.ntmps180 (by simp) ?_
  by_cases h2:k=2
  all_goals
   repeat' ((first|(apply y4 ok;rfl)|((apply z5)<;>intro _))<;>conv=>whnf)
   all_goals try (exfalso;omega)
   refine y87 (y90 3 rfl) ?_
   refine z86 (fun i:Nat=>([(1,.int (-1)),(3,.ptr 0 none 0),(5,.ptr 1 none 0),(6,.ptr 2 none 0),(7,.ptr 3 none 0),(8,.int i)],[.cells 3 [[.int k,.int v,lst 3 Tree.cs' l]],.cells 3 [[.int 0,.int 0,.nils]],.cells 3 [[.int 0,.int 0,.nils]],.cells 3 [[.int k,.int v,.sref 4 0 i]],.cells 3 ((L.take i).map Tree.cs')])) (fun i=>i≤l.length) (fun i=>l.length - i) 0 (by omega) (by refine swR [0,1,2,3,4] [] rfl rfl ?_;(repeat' first|exact y88 _|exact z46|apply y89|refine z14 rfl (z33) ?_|constructor)) ?_
   intro i hi
   by_cases hil:i < l.length
   ·have hiL:i < L.length:=by omega
    have hc:=hcs i hil hiL
    repeat' ((first|(apply y4 ok;rfl)|(apply z32;kernel_rfl)|(apply y45;first|omega|(unfold inI;omega)|((try dsimp only);simp only [y51,y50,y49,y48,y60,y61];omega)|exact ⟨rfl,z22 rfl z29⟩)|(((with_reducible apply z10;omega));intro _)|((apply z5)<;>intro _)|(apply z6 (hc);rfl;rfl))<;>conv=>whnf)
    all_goals try (exfalso;omega)
    refine z41 (i+1) (by omega) (by omega) (by refine swR [0,1,2,3,6] [] rfl rfl ?_;(repeat' first|exact y88 _|apply y89|((refine z40 rfl ?_ ?_);(focus ((repeat' (first|exact z4 (fun _=>rfl)|apply z27));done)))|refine z117 (by omega) (by omega) ?_|constructor))
   ·have e:i=l.length:=by omega
    subst e
    rw [y59 (show L.length≤l.length by omega)]
    repeat' ((first|(apply y4 ok;rfl)|(apply y45;omega)|(((with_reducible apply z10;omega));intro _)|((apply z5)<;>intro _))<;>conv=>whnf)
    all_goals try (exfalso;omega)
    all_goals (refine rsD [4] [] rfl ?_;(repeat' first|exact y88 _|exact z16 _|refine z14 rfl (z4 (fun _=>rfl)) ?_|constructor))
theorem z1052 {w n n2:Nat} {α:Type} {f:α→List AC} {l:List α} {x:α} {e:List AC} (hn:n=l.length) (h2:n2=l.length+1) (h:F2 LocLe e (f x)):LocLe (.list w n2 (((l.map f).take n)++[e])) (.list w (l++[x]).length ((l++[x]).map f)):=by
 subst hn
 refine z79 (by simp [h2]) ?_
 rw [y59 (by simp),y66]
 have:∀ (a:List (List AC)) {b c:List AC},F2 LocLe b c→F2 (F2 LocLe) (a++[b]) (a++[c]):=fun a b c h=>by
  induction a with
  |nil=>exact .cons h .nil
  |cons x a ih=>exact .cons (z288 x) ih
 exact this _ h
theorem z701 {n n2:Nat} {l:List Tree} {x:Tree} {e:List AC} (hn:n=l.length) (h2:n2=l.length+1) (h:F2 LocLe e (Tree.cs' x)):LocLe (.list 3 n2 (((l.map Tree.cs').take n)++[e])) (.list 3 (l++[x]).length ((l++[x]).map Tree.cs)):=by
 rw [y17];exact z1052 hn h2 h
set_option maxHeartbeats 1600000 in
theorem z517 (bs:List Int) (hb:BytesOk bs) (p:Int) (hp:few p) (t:Tree) (ht:t.sz≤1000):∃ (t' : Tree) (p' : Int),(t'.sz≤t.sz+1∧p≤p'∧p'≤p+2)∧CallsA Tryz.prog 102 [.ptr 0 none 0,z30 Tree.cs' t] [rdO bs p] (z30 Tree.cs' t') [rdO bs p']:=by
 have cs:=z842 t (by omega)
 have hsz:=subZ_sz t
 generalize subZ t=u at *
 have hul:u.kids.length≤1000:=by rw [y38] at hsz;omega
 obtain ⟨v,⟨lv,uv⟩,cv⟩:=z70 bs hb p 40 (by omega) (by omega) (by omega)
 rw [y15 t]
 rw [y15 t] at cs
 unfold ownT z788 at cs
 by_cases h0:v=0
 ·subst h0
  obtain ⟨k,mk,ck⟩:=z102 bs hb (p+1) (by omega) (by omega) [0,10,-1,1,2,3,4] (by decide) (by decide)
  refine ⟨.mk k u.val u.kids,p+1+1,⟨by rw [z231];rw [y38] at hsz;omega,by omega,by omega⟩,?_⟩
  refine z7 z17 Tryz.func102 rfl rfl 35 Tryz.ntmps102 (by simp) ?_
  repeat' ((first|(apply y4 ok;rfl)|((first|(apply z8 [] [3] cs;rfl;rfl)|(apply z8 [0] [] cv;rfl;rfl)|(apply z8 [0,5] [] ck;rfl;rfl));rfl;(focus ((repeat' first|exact z13|apply z11)<;>first|exact z44 rfl rfl|(refine z21 ?_;((exact z4 fun _=>rfl)))))))<;>conv=>whnf)
  all_goals (refine rsD [0] [3] rfl ?_;(repeat' first|exact y88 _|exact z289|apply y89|((apply z54 rfl rfl rfl);(focus ((repeat ((exact z42 (fun _=>rfl) _)));done));(focus (((simp;done));done)))|apply z52|(apply z79;rfl)|constructor))
 by_cases h1:v=1
 ·subst h1
  obtain ⟨k,mk,ck⟩:=z102 bs hb (p+1) (by omega) (by omega) [-1,4,3,9223372036854775807] (by decide) (by decide)
  refine ⟨.mk u.kind k u.kids,p+1+1,⟨by rw [z231];rw [y38] at hsz;omega,by omega,by omega⟩,?_⟩
  refine z7 z17 Tryz.func102 rfl rfl 35 Tryz.ntmps102 (by simp) ?_
  repeat' ((first|(apply y4 ok;rfl)|((first|(apply z8 [] [3] cs;rfl;rfl)|(apply z8 [0] [] cv;rfl;rfl)|(apply z8 [0,5] [] ck;rfl;rfl));rfl;(focus ((repeat' first|exact z13|apply z11)<;>first|exact z44 rfl rfl|(refine z21 ?_;((exact z4 fun _=>rfl)))))))<;>conv=>whnf)
  all_goals (refine rsD [0] [3] rfl ?_;(repeat' first|exact y88 _|exact z289|apply y89|((apply z54 rfl rfl rfl);(focus ((repeat ((exact z42 (fun _=>rfl) _)));done));(focus (((simp;done));done)))|apply z52|(apply z79;rfl)|constructor))
 by_cases h2:v=2
 ·subst h2
  refine ⟨.mk u.kind u.val (u.kids++[leaf 1 0]),p+1,⟨by rw [z231];rw [y38] at hsz;simp [z87];omega,by omega,by omega⟩,?_⟩
  refine z7 z17 Tryz.func102 rfl rfl 35 Tryz.ntmps102 (by simp) ?_
  repeat' ((first|(apply y4 ok;rfl)|(apply y45;first|((try dsimp only);simp only [y51,y50,y49,y48,y60,y61];omega)|exact ⟨rfl,z22 rfl z29⟩)|((first|(apply z8 [] [3] cs;rfl;rfl)|(apply z8 [0] [] cv;rfl;rfl));rfl;(focus ((repeat' first|exact z13|apply z11)<;>first|exact z44 rfl rfl|(refine z21 ?_;((exact z4 fun _=>rfl)))))))<;>conv=>whnf)
  all_goals (refine rsD [0] [6] rfl ?_;(repeat' first|exact y88 _|apply y89|((apply z54 rfl rfl rfl);(focus ((repeat (first|exact z42 (fun _=>rfl) _|apply z141|apply z198|rfl));done));(focus (((simp;done));done)))|apply z52|constructor))
  all_goals exact z701 rfl rfl (node_le' z43)
 by_cases h3:v=3
 ·subst h3
  refine ⟨leaf 0 0,p+1,⟨by rw [z87];omega,by omega,by omega⟩,?_⟩
  refine z7 z17 Tryz.func102 rfl rfl 35 Tryz.ntmps102 (by simp) ?_
  repeat' ((first|(apply y4 ok;rfl)|((first|(apply z8 [] [3] cs;rfl;rfl)|(apply z8 [0] [] cv;rfl;rfl));rfl;(focus ((repeat' first|exact z13|apply z11)<;>first|exact z44 rfl rfl|(refine z21 ?_;((exact z4 fun _=>rfl)))))))<;>conv=>whnf)
  all_goals (refine rsD [0] [] rfl ?_;(repeat' first|exact y88 _|exact z43|apply y89|apply z52|constructor))
 ·refine ⟨.mk u.kind u.val u.kids,p+1,⟨by rw [z231];rw [y38] at hsz;omega,by omega,by omega⟩,?_⟩
  refine z7 z17 Tryz.func102 rfl rfl 35 Tryz.ntmps102 (by simp) ?_
  repeat' ((first|(apply y4 ok;rfl)|(apply y45;omega)|((apply z5)<;>intro _)|((first|(apply z8 [] [3] cs;rfl;rfl)|(apply z8 [0] [] cv;rfl;rfl));rfl;(focus ((repeat' first|exact z13|apply z11)<;>first|exact z44 rfl rfl|(refine z21 ?_;((exact z4 fun _=>rfl)))))))<;>conv=>whnf)
  all_goals try (exfalso;omega)
  all_goals (refine rsD [0] [3] rfl ?_;(repeat' first|exact y88 _|exact z289|apply y89|((apply z54 rfl rfl rfl);(focus ((repeat ((exact z42 (fun _=>rfl) _)));done));(focus (((simp;done));done)))|apply z52|(apply z79;rfl)|constructor))
theorem len3 {α:Type} {l:List α} (h:l.length=3):∃ a b c,l=[a,b,c]:=by
 match l,h with
 |[a,b,c],_=>exact ⟨a,b,c,rfl⟩
set_option maxHeartbeats 3200000 in
theorem z733 (bs:List Int) (hb:BytesOk bs) (p:Int) (hp:few1 p):∃ (M:List Tree) (n:Nat) (p' : Int),(n≤M.length∧M.length=3∧(∀ t∈M,t.sz≤5)∧p≤p'∧p'≤p+30)∧CallsA Tryz.prog 41 [.ptr 0 none 0] [rdO bs p] (.sref 1 0 n) [rdO bs p',.cells 3 (M.map Tree.cs')]:=by
 obtain ⟨M,pf,hM,hp0,hst,hpf⟩:=z493 (fun _ q (t' : Tree) q'=>t'.sz≤3∧∃ t q1,CallsA Tryz.prog 100 [.ptr 0 none 0] [rdO bs q] (z30 Tree.cs' t) [rdO bs q1]∧((t.kind=1∧∃ w,t'=leaf 2 w∧q'=q1+1∧CallsA Tryz.prog 101 [.ptr 0 none 0,.int 3] [rdO bs q1] (.int w) [rdO bs (q1+1)])∨(t.kind≠1∧t'=t∧q'=q1))) p 6 3 (fun k q hk h1 h2=>by
  obtain ⟨t,q1,⟨a1,a2,a3⟩,ct⟩:=z586 bs hb q ⟨by omega,by omega⟩
  by_cases ht:t.kind=1
  ·obtain ⟨w,⟨lw,uw⟩,cw⟩:=z70 bs hb q1 3 (by omega) (by omega) (by omega)
   exact ⟨leaf 2 w,q1+1,⟨by rw [z87];omega,t,q1,ct,.inl ⟨ht,w,rfl,rfl,cw⟩⟩,by omega,by omega⟩
  ·exact ⟨t,q1,⟨a1,t,q1,ct,.inr ⟨ht,rfl,rfl⟩⟩,by omega,by omega⟩)
 have hMs:∀ t∈M,t.sz≤3:=fun t ht=>by
  obtain ⟨i,hi,rfl⟩:=List.mem_iff_getElem.1 ht
  exact (hst i hi).1
 have hp3:=hpf 3 (y54 _)
 obtain ⟨v,⟨lv,uv⟩,cv⟩:=z70 bs hb (pf 3) 40 (by omega) (by omega) (by omega)
 have key:∀ (M' : List Tree) (n:Nat) (p' : Int),(v=0→n=2∧M'=M∧p'=pf 3+1)→(v≠0→v≠1→n=3∧M'=M∧p'=pf 3+1)→(v=1→n=3∧∃ a b c u w q1,M=[a,b,c]∧M'=[a,w,c]∧CallsA Tryz.prog 102 [.ptr 0 none 0,z30 Tree.cs' b] [rdO bs (pf 3+1)] (z30 Tree.cs' u) [rdO bs q1]∧CallsA Tryz.prog 102 [.ptr 0 none 0,z30 Tree.cs' u] [rdO bs q1] (z30 Tree.cs' w) [rdO bs p'])→CallsA Tryz.prog 41 [.ptr 0 none 0] [rdO bs p] (.sref 1 0 n) [rdO bs p',.cells 3 (M'.map Tree.cs')]:=by
  intro M' n p' k0 k2 k1
  refine z7 z17 Tryz.func41 rfl rfl 41 Tryz.ntmps41 (by simp) ?_
  repeat' (((apply y4 ok;rfl))<;>conv=>whnf)
  rw [← hp0]
  refine z86 (fun i:Nat=>([(0,.ptr 0 none 0),(3,.sref 1 0 i),(4,.int i)],[rdO bs (pf i),.cells 3 ((M.take i).map Tree.cs')])) (fun i=>i≤3) (fun i=>3 - i) 0 (by omega) (by refine swR [0,1] [] rfl rfl ?_;(repeat' first|exact y88 _|apply y89|refine z14 rfl (z33) ?_|constructor)) ?_
  intro i hi
  by_cases hil:i < 3
  ·obtain ⟨a1,t,q1,ct,ht⟩:=hst i (by omega)
   have hiM:i < M.length:=by omega
   rw [y15 t] at ct
   rcases ht with ⟨h1,w,h2,h3,cw⟩|⟨h1,h2,h3⟩
   ·repeat' ((first|(apply y4 ok;rfl)|(apply y45;first|omega|(unfold inI;omega)|((try dsimp only);simp only [y51,y50,y49,y48,y60,y61];omega)|exact ⟨rfl,z22 rfl z29⟩)|((apply z5)<;>intro _)|((first|(apply z34 [0] [] ct;rfl;rfl)|(apply z34 [0] [] cw;rfl;rfl));rfl))<;>conv=>whnf)
    all_goals try (exfalso;omega)
    have e1:M[i].kind=2:=by rw [h2];rfl
    have e2:M[i].val=w:=by rw [h2];rfl
    have e3:M[i].kids=[]:=by rw [h2];rfl
    all_goals refine z41 (i+1) (by omega) (by omega) (by refine swR [0,4] [] rfl rfl ?_;(repeat' first|exact y88 _|(refine z1086 ?_;assumption)|(refine z168 ?_;omega)|apply y89|((refine z40 rfl ?_ ?_);(focus ((repeat' (first|exact z4 (fun _=>rfl)|apply z27));done)))|refine z117 (by omega) (by omega) ?_|constructor))
   ·subst h2
    repeat' ((first|(apply y4 ok;rfl)|(apply y45;first|(unfold inI;omega)|((try dsimp only);simp only [y51,y50,y49,y48,y60,y61];omega)|exact ⟨rfl,z22 rfl z29⟩)|((apply z5)<;>intro _)|(apply z34 [0] [] ct;rfl;rfl;rfl))<;>conv=>whnf)
    all_goals try (exfalso;omega)
    all_goals refine z41 (i+1) (by omega) (by omega) (by refine swR [0,4] [] rfl rfl ?_;(repeat' first|exact y88 _|exact z289|(refine z168 ?_;omega)|apply y89|((refine z40 rfl ?_ ?_);(focus ((repeat' (first|exact z4 (fun _=>rfl)|apply z27));done)))|refine z117 (by omega) (by omega) ?_|(apply z79;rfl)|constructor))
  ·have:i=3:=by omega
   subst this
   obtain ⟨a,b,c,rfl⟩:=len3 hM
   by_cases h0:v=0
   ·obtain ⟨rfl,rfl,rfl⟩:=k0 h0
    subst h0
    repeat' ((first|(apply y4 ok;rfl)|(apply y45;omega)|(apply z34 [0] [] cv;rfl;rfl;rfl))<;>conv=>whnf)
    all_goals (refine rsD [0,1] [] rfl ?_;(repeat' first|exact y88 _|apply y89|refine z14 rfl (z4 (fun _=>rfl)) ?_|constructor))
   by_cases h1:v=1
   ·obtain ⟨rfl,a',b',c',u,w,q1,e,rfl,c1,c2⟩:=k1 h1
    simp only [List.cons.injEq,and_true] at e
    obtain ⟨rfl,rfl,rfl⟩:=e
    subst h1
    rw [y15 u] at c1 c2
    rw [y15 w] at c2
    repeat' ((first|(apply y4 ok;rfl)|(apply y45;omega)|apply z107|((first|(apply z34 [0] [] cv;rfl;rfl)|(apply z34 [0] [] c1;rfl;rfl)|(apply z34 [0] [] c2;rfl;rfl));rfl))<;>conv=>whnf)
    all_goals (refine rsD [0,1] [] rfl ?_;(repeat' first|exact y88 _|exact z289|apply y89|refine z73 rfl (z4 (fun _=>rfl)) ?_|(apply z79;rfl)|constructor))
   ·obtain ⟨rfl,rfl,rfl⟩:=k2 h0 h1
    repeat' ((first|(apply y4 ok;rfl)|(apply y45;omega)|(((apply z10;omega));intro _)|((apply z5)<;>intro _)|(apply z34 [0] [] cv;rfl;rfl;rfl))<;>conv=>whnf)
    all_goals try (exfalso;omega)
    all_goals (refine rsD [0,1] [] rfl ?_;(repeat' first|exact y88 _|apply y89|refine z14 rfl (z4 (fun _=>rfl)) ?_|constructor))
 by_cases h1:v=1
 ·obtain ⟨a,b,c,rfl⟩:=len3 hM
  have hb1:=hMs b (by simp)
  obtain ⟨u,q1,⟨b1,b2,b3⟩,c1⟩:=z517 bs hb (pf 3+1) ⟨by omega,by omega⟩ b (by omega)
  obtain ⟨w,q2,⟨d1,d2,d3⟩,c2⟩:=z517 bs hb q1 ⟨by omega,by omega⟩ u (by omega)
  refine ⟨[a,w,c],3,q2,⟨by simp,by simp,fun t ht=>?_,by omega,by omega⟩,key _ _ _ (fun h=>by omega) (fun _ h=>absurd h1 h) fun _=>⟨rfl,a,b,c,u,w,q1,rfl,rfl,c1,c2⟩⟩
  have ha:=hMs a (by simp)
  have hc:=hMs c (by simp)
  simp only [List.mem_cons,List.not_mem_nil,or_false] at ht
  rcases ht with rfl|rfl|rfl<;>omega
 ·by_cases h0:v=0
  ·exact ⟨M,2,pf 3+1,⟨by omega,hM,fun t ht=>by have:=hMs t ht;omega,by omega,by omega⟩,key _ _ _ (fun _=>⟨rfl,rfl,rfl⟩) (fun h=>absurd h0 h) fun h=>absurd h h1⟩
  ·exact ⟨M,3,pf 3+1,⟨by omega,hM,fun t ht=>by have:=hMs t ht;omega,by omega,by omega⟩,key _ _ _ (fun h=>absurd h h0) (fun _ _=>⟨rfl,rfl,rfl⟩) fun h=>absurd h h1⟩
theorem z839 (bs:List Int) (hb:BytesOk bs) (p:Int) (hp:few1 p):∃ (L:List Tree) (p' : Int),(L.length≤3∧(∀ t∈L,t.sz≤5)∧p≤p'∧p'≤p+30)∧CallsA Tryz.prog 41 [.ptr 0 none 0] [rdO bs p] (lst 3 Tree.cs' L) [rdO bs p']:=by
 obtain ⟨M,n,p',⟨h1,h2,h3,h4,h5⟩,c⟩:=z733 bs hb p hp
 refine ⟨M.take n,p',⟨by simp;omega,fun t ht=>h3 t (List.mem_of_mem_take ht),h4,h5⟩,?_⟩
 obtain ⟨a,b,d,rfl⟩:=len3 h2
 have hn:n=0∨n=1∨n=2∨n=3:=by simp at h1;omega
 rcases hn with rfl|rfl|rfl|rfl
 all_goals exact (by refine y5 (c) [0] [1] rfl rfl rfl ?_ ?_<;>(repeat' first|exact y88 _|apply y89|constructor))
theorem Lmx_of {L:List Tree} (h1:L.length≤10) (h2:∀ t∈L,t.sz≤1000):Lmx L:=⟨by unfold maxLen;omega,fun t ht=>z106 t (by have:=h2 t ht;unfold maxLen;omega)⟩
def z235 (n:Nat):List Int:=(List.range n).map Int.ofNat
theorem z310 (n:Nat):(z235 n).length=n:=by simp [z235]
theorem z764 {n i:Nat} (h:i < (z235 n).length):(z235 n)[i]=i:=by simp [z235]
theorem z972 (n:Nat) (hn:n≤1000000):CallsA Tryz.prog 183 [.int n] [] (ints (z235 n)) []:=by
 refine z7 z17 Tryz.func183 rfl rfl 16 Tryz.ntmps183 (by simp) ?_
 repeat' (((apply y4 ok;rfl))<;>conv=>whnf)
 refine z86 (fun i:Nat=>([(0,.int n),(3,.sref 0 0 i),(4,.int i)],[.cells 1 (((z235 n).take i).map enI)])) (fun i=>i≤n) (fun i=>n - i) 0 (by omega) (by refine swR [0] [] rfl rfl ?_;(repeat' first|exact y88 _|refine z14 rfl (z33) ?_|constructor)) ?_
 intro i hi
 by_cases hin:i < n
 ·have hl:i < (z235 n).length:=by rw [z310];exact hin
  have e:=z764 hl
  repeat' ((first|(apply y4 ok;rfl)|(apply y45;first|(unfold inI;omega)|((try dsimp only);simp only [y51,y50,y49,y48,y60,y61];omega)|exact ⟨rfl,z22 rfl z29⟩)|((apply z5)<;>intro _))<;>conv=>whnf)
  all_goals try (exfalso;omega)
  all_goals refine z41 (i+1) (by omega) (by omega) (by refine swR [2] [] rfl rfl ?_;(repeat' first|exact y88 _|(refine z168 ?_;omega)|((refine z40 rfl ?_ ?_);(focus ((repeat' (first|exact z4 (fun _=>rfl)|apply z27));done)))|refine z117 (by omega) (by omega) ?_|constructor))
 ·have e:i=n:=by omega
  subst e
  have hl:=z310 i
  rw [y59 (by omega)]
  generalize z235 i=L at *
  repeat' ((first|(apply y4 ok;rfl)|(apply y45;omega)|((apply z5)<;>intro _))<;>conv=>whnf)
  all_goals try (exfalso;omega)
  all_goals (refine rsD [] [0] rfl ?_;(repeat' first|(refine z283 ?_;omega)|((apply z54 rfl rfl rfl);(focus ((repeat ((exact z42 (fun _=>rfl) _)));done));(focus (((simp;omega));done)))|constructor))
structure State.sm (s:State):Prop where
 a:s.a.length≤100
 b:s.b.length≤100
structure Graph.sm (g:Graph):Prop where
 st:g.st.length≤100
 nx:g.nx.length≤100
 el:∀ s∈g.st,s.sm
 row:∀ r∈g.nx,r.length≤1000
theorem Graph.sm.mx {g:Graph} (h:g.sm):g.mx:=by
 have h1:=h.st
 have h2:=h.nx
 refine ⟨?_,by unfold maxLen;omega,fun l hl=>by have:=h.row l hl;unfold maxLen;omega⟩
 have h3:=h.el
 exact ⟨by unfold maxLen;omega,fun s hs=>⟨by have:=(h3 s hs).a;unfold maxLen;omega,by have:=(h3 s hs).b;unfold maxLen;omega⟩⟩
theorem z734 (g : Graph) (hg : g.sm) (path : List Int) (hp : path.length ≤ 100000) (hin : ∀ x ∈ path, 0 ≤ x ∧ x < g.st.length) (S : List State) (hS : S.length = path.length) (he : ∀ i (h : i < path.length) (h2 : i < S.length), g.st[(path[i]).toNat]? = some S[i]) :
    CallsA Tryz.prog 182 [.agg g.cs,ints path] [] (.sref 0 0 S.length) [.cells 2 (S.map State.cs)]:=by
  refine z7 z17 Tryz.func182 rfl rfl 36 Tryz.ntmps182 (by simp) ?_
  repeat' (((apply y4 ok;rfl))<;>conv=>whnf)
  refine z86 (fun i:Nat=>([(1,ints path),(2,.ptr 0 none 0),(5,.sref 1 0 i),(6,.int i)],[.cells 2 [g.cs],.cells 2 ((S.take i).map State.cs)])) (fun i=>i≤path.length) (fun i=>path.length - i) 0 (by omega) (by refine swR [0,1] [] rfl rfl ?_;(repeat' first|exact y88 _|apply y89|refine z14 rfl (z33) ?_|constructor)) ?_
  intro i hi
  by_cases hip:i < path.length
  · have hl:i < S.length:=by omega
    have hx:=hin path[i] (y46 _)
    have g0:(path.map enI)[i]?=some (enI path[i]):=by rw [y53,y47 hip];rfl
    have g1:=he i hip hl
    have g2:(g.st.map State.cs)[(path[i]).toNat]?=some (State.cs S[i]):=by rw [y53,g1];rfl
    have hs:=hg.el S[i] (List.mem_of_getElem? g1)
    have ha:=hs.a
    have hb:=hs.b
    generalize path[i]=x at *
    repeat' ((first|(apply y4 ok;rfl)|(apply z32;kernel_rfl)|(refine z12 (i:=i) rfl g0 ?_)|(refine z12 (i:=x.toNat) rfl g2 ?_)|(apply y45;first|omega|(unfold inI;omega)|(dsimp only;omega)|((try dsimp only);simp only [y51,y50,y49,y48,y60,y61];omega)|exact z75 (fun _=>rfl)|exact ⟨rfl,z22 rfl z29⟩)|((apply z5)<;>intro _))<;>conv=>whnf)
    all_goals try (exfalso;omega)
    all_goals refine z41 (i+1) (by omega) (by omega) (by refine swR [0,8] [4,6] rfl rfl ?_;(repeat' first|exact y88 _|(refine z283 ?_;omega)|apply y89|((refine z40 rfl ?_ ?_);(focus ((repeat' (first|exact z4 (fun _=>rfl)|apply z27));done)))|refine z117 (by omega) (by omega) ?_|((apply z82 rfl rfl rfl);(focus ((repeat ((exact z42 (fun _=>rfl) _)));done));(focus (((simp;done));done)))|constructor))
  · have e:i=S.length:=by omega
    subst e
    rw [y59 (by omega)]
    repeat' ((first|(apply y4 ok;rfl)|(apply z32;kernel_rfl)|(apply y45;omega)|((first|(with_reducible apply z10;omega)|(with_reducible apply z127;omega));intro _)|((apply z5)<;>intro _))<;>conv=>whnf)
    all_goals try (exfalso;omega)
    all_goals (refine rsD [1] [] rfl ?_;(repeat' first|exact y88 _|exact z16 _|refine z14 rfl (z4 (fun _=>rfl)) ?_|constructor))
theorem z1140 {n:Nat} {x:Int} (h:x∈z235 n):0≤x∧x < n:=by
 unfold z235 at h
 obtain ⟨i,hi,rfl⟩:=List.mem_map.1 h
 have:=List.mem_range.1 hi
 show (0:Int)≤(i:Int)∧(i:Int) < n
 omega
theorem snoc_at {α:Type} (a:List α) (x:α) (k:Nat) (h:a.length=k):(a++[x])[k]?=some x:=by subst h;simp
set_option maxHeartbeats 1600000 in
theorem z973 (g:Graph) (hg:g.sm):CallsA Tryz.prog 107 [.agg g.cs] [] (.agg [.sref 0 0 g.st.length,.sref 1 0 g.nx.length]) [.cells 2 (g.st.map State.cs),.cells 1 (g.nx.map z94)]:=by
 have hst:=hg.st
 have hnx:=hg.nx
 have c1:=z972 g.st.length (by omega)
 have c2:=z734 g hg (z235 g.st.length) (by rw [z310];omega) (fun x hx=>z1140 hx) g.st (by rw [z310]) (fun i h h2=>by rw [z764 h];simp)
 generalize z235 g.st.length=C at *
 refine z7 z17 Tryz.func107 rfl rfl 32 Tryz.ntmps107 (by simp) ?_
 repeat' ((first|(apply y4 ok;rfl)|(apply z32;kernel_rfl)|(apply z6 (c1);rfl;rfl)|(apply z8 [] [2] c2;rfl;rfl;rfl;(focus ((repeat' first|exact z13|apply z11)<;>(refine z21 ?_;((exact z4 fun _=>rfl)))))))<;>conv=>whnf)
 refine y87 (y90 1 rfl) ?_
 refine z86 (fun i:Nat=>([(1,.ptr 0 none 0),(2,.ptr 1 none 0),(3,.ptr 3 none 0),(4,.int i)],[.cells 2 [g.cs],.cells 2 [[.nils,.nils]],.cells 2 (g.st.map State.cs),.cells 2 [[.sref 2 0 g.st.length,.sref 4 0 i]],.cells 1 ((g.nx.take i).map z94)])) (fun i=>i≤g.nx.length) (fun i=>g.nx.length - i) 0 (by omega) (by refine swR [0,1,2,3,4] [] rfl rfl ?_;(repeat' first|exact y88 _|exact z46|exact z16 _|apply y89|((refine z14 rfl ?_ ?_);(focus ((repeat' (first|exact z33|exact z4 (fun _=>rfl)));done)))|constructor)) ?_
 intro i hi
 by_cases hin:i < g.nx.length
 ·have hr:=hg.row g.nx[i] (y46 _)
  have g0:(g.nx.map encL)[i]?=some (encL g.nx[i]):=by rw [y53,y47 hin];rfl
  have htl:((g.nx.take i).map z94).length=i:=by simp;omega
  have hrow:z94 g.nx[i]=[.own 1 (g.nx[i].map enI)]:=rfl
  have htk:(g.nx.take (i+1)).map z94=(g.nx.take i).map z94++[z94 g.nx[i]]:=by rw [y52 hin,y66];rfl
  generalize hrw:g.nx[i]=row at *
  repeat' ((first|(apply y4 ok;rfl)|(apply z32;kernel_rfl)|(refine z12 (i:=i) rfl g0 ?_)|(apply y45;first|omega|(unfold inI;omega)|(dsimp only;omega)|exact z75 (fun _=>rfl)|exact ⟨rfl,z22 rfl z29⟩)|((apply z5)<;>intro _))<;>conv=>whnf)
  all_goals try (exfalso;omega)
  all_goals refine z41 (i+1) (by omega) (by omega) (by
   refine Gl.Reach.trans (Gl.Reach.absorb (e:=[.sref 6 0 (0+row.length)]) 8 6 i 0 rfl (snoc_at _ _ i (by simp;omega)) rfl rfl (by simp) rfl (z53 z33 (z4 fun _=>rfl)) rfl) ?_
   exact (by refine swR [0,1,2,3,8] [] rfl rfl ?_;(repeat' first|exact y88 _|exact z16 _|apply y89|((first|refine z73 rfl ?_ ?_|refine z14 rfl ?_ ?_);(focus ((repeat' (first|exact z4 (fun _=>rfl)|apply z53|apply z27));done)))|(refine z14 rfl ?_ ?_;(focus (refine z256 ?_ ?_ rfl<;>first|(simp;omega)|(apply z27;exact z4 fun _=>rfl))))|(refine z492 ?_ ?_;(focus (simp;omega)))|refine z117 (by omega) (by omega) ?_|constructor)<;>(rw [hrw];exact y88 _)))
 ·have e:i=g.nx.length:=by omega
  subst e
  rw [y58]
  repeat' ((first|(apply y4 ok;rfl)|(apply z32;kernel_rfl)|(apply y45;omega)|(((with_reducible apply z10;omega));intro _)|((apply z5)<;>intro _))<;>conv=>whnf)
  all_goals try (exfalso;omega)
  all_goals (refine rsD [2,4] [] rfl ?_;(repeat' first|exact y88 _|exact z16 _|refine z14 rfl (z4 (fun _=>rfl)) ?_|constructor))
end Go.Proofs.YtjhgpfaodkchjaaGreat
