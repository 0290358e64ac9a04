/- A part of the proofs over this program: T220, T24, T25, T26, T27, T37C, T37, T140, T141, T142, T221, T222, T223, T143, T224, T144. -/
import Derived.Test.YtnpclplponhppaaGreatG0
import Derived.Test.YtnpclplponhppaaGreatG1
import Derived.Test.YtnpclplponhppaaGreatG2
import Derived.Test.YtnpclplponhppaaGreatG3
import Derived.Test.YtnpclplponhppaaGreatP0
import Derived.Test.YtnpclplponhppaaGreatP1
import Derived.Test.YtnpclplponhppaaGreatP2
import Derived.Test.YtnpclplponhppaaGreatP3
set_option linter.all false
namespace Go.Proofs.YtnpclplponhppaaGreat
open Go.Gl
attribute [local irreducible] z21 AWP z36 z42 z39
theorem z484 {d : Int} (l : List Tree) (hl : l.length ≤ maxLen) (p : Tree → Int → Bool) (nx : Tree → Int → Int) (okS : Int → Prop) (hok : ∀ x s, okS s → p x s = false → okS (nx x s)) (f : FuncId) (s : Int) (h0 : okS s)
    (hf:∀ x∈l,∀ s,okS s→CallsA Tryz.prog f [z44 Tree.cs' x,.pt [.int d],.ptr 1 none 0] [.cells 1 [[.int s]],.cells 1 [[.ptr 0 none 0]]] (.bool (p x s)) [.cells 1 [[.int (nx x s)]],.cells 1 [[.ptr 0 none 0]]]) :
    CallsA Tryz.prog 426 [lst 3 Tree.cs' l,.fn (.func f) [] [.pt [.int d],.ptr 1 none 0]] [.cells 1 [[.int s]],.cells 1 [[.ptr 0 none 0]]] (.int (idxS p nx l s 0).1) [.cells 1 [[.int (idxS p nx l s 0).2]],.cells 1 [[.ptr 0 none 0]]]:=by
  unfold maxLen at hl
  refine z12 z19 Tryz.func426 rfl rfl 19 Tryz.ntmps426 (by simp) ?_
  repeat' ((apply y80 ok;rfl;conv=>whnf))
  refine z92 (fun x:Nat×Int=>([(0,lst 3 Tree.cs' l),(1,.fn (.func f) [] [.pt [.int d],.ptr 1 none 0]),(7,.int l.length),(8,.int x.1)],[.cells 1 [[.int x.2]],.cells 1 [[.ptr 0 none 0]]])) (fun x=>x.1≤l.length∧okS x.2∧idxS p nx l s 0=idxS p nx (l.drop x.1) x.2 x.1) (fun x=>l.length - x.1) (0,s) ⟨by omega,h0,rfl⟩
    ⟨[0,1],rfl,by decide,rfl,⟨⟨rfl,rfl⟩,⟨rfl,rfl⟩,⟨rfl,rfl⟩,⟨rfl,rfl⟩,trivial⟩,⟨z27 rfl rfl,z27 rfl rfl,trivial⟩⟩ ?_
  rintro ⟨k,t⟩ ⟨hk1,hk2,hk3⟩
  dsimp only at hk1 hk2 hk3
  repeat' (first|(apply y80 ok;rfl;conv=>whnf)|(apply y38;(first|omega|(unfold inI;omega));conv=>whnf)|(with_reducible apply z14;omega;intro _;conv=>whnf)|(apply z8<;>intro _<;>conv=>whnf)|(apply z106<;>intro _<;>conv=>whnf)|(apply z74 [0,1] [] [] (hf l[k] (y39 _) t hk2);rfl;(focus ((repeat' (first|exact z37|apply z63))<;>(rfl)));rfl;rfl;rfl;rfl;rfl;(focus ((repeat' (first|exact z18|apply z15))<;>(exact z50 rfl rfl)));(exact .inl rfl);conv=>whnf))
  · rename_i h hkl h1
    rw [y75 hkl,idxS,if_pos h1] at hk3
    rw [hk3]
    exact z96 [0,1] (by decide) rfl rfl rfl ⟨z27 rfl rfl,z27 rfl rfl,trivial⟩
  · rename_i h hkl h1
    rw [y75 hkl,idxS,if_neg (by rw [h1];simp)] at hk3
    exact z80 (k+1,nx l[k] t) [0,1] ⟨by dsimp only;omega,hok _ _ hk2 h1,hk3⟩ (by dsimp only;omega) ⟨rfl,by decide,rfl,⟨⟨rfl,rfl⟩,⟨rfl,rfl⟩,⟨rfl,rfl⟩,⟨rfl,rfl⟩,trivial⟩,⟨z27 rfl rfl,z27 rfl rfl,trivial⟩⟩
  · rw [y79 (by omega),idxS] at hk3
    rw [hk3]
    exact z96 [0,1] (by decide) rfl rfl rfl ⟨z27 rfl rfl,z27 rfl rfl,trivial⟩
theorem z830 {d : Int} (l : List Tree) (hl : l.length ≤ maxLen) (p : Tree → Int → Bool) (nx : Tree → Int → Int) (okS : Int → Prop) (hok : ∀ x s, okS s → p x s = false → okS (nx x s)) (f : FuncId) (s : Int) (h0 : okS s)
    (hf:∀ x∈l,∀ s,okS s→CallsA Tryz.prog f [z44 Tree.cs' x,.pt [.int d],.ptr 1 none 0] [.cells 1 [[.int s]],.cells 1 [[.ptr 0 none 0]]] (.bool (p x s)) [.cells 1 [[.int (nx x s)]],.cells 1 [[.ptr 0 none 0]]]) :
    CallsA Tryz.prog 389 [lst 3 Tree.cs' l,.fn (.func f) [] [.pt [.int d],.ptr 1 none 0]] [.cells 1 [[.int s]],.cells 1 [[.ptr 0 none 0]]] (.bool (decide (0≤(idxS p nx l s 0).1))) [.cells 1 [[.int (idxS p nx l s 0).2]],.cells 1 [[.ptr 0 none 0]]]:=by
  refine z12 z19 Tryz.func389 rfl rfl 9 Tryz.ntmps389 (by simp) ?_
  repeat' (first|(apply y80 ok;rfl;conv=>whnf)|(apply z74 [0,1] [] [] (z484 (d:=d) l hl p nx okS hok f s h0 hf);rfl;(focus ((repeat' (first|exact z37|apply z63))<;>(rfl)));rfl;rfl;rfl;rfl;rfl;(focus ((repeat' (first|exact z18|apply z15))<;>(exact z50 rfl rfl)));(exact .inl rfl);conv=>whnf))
  exact z96 [0,1] (by decide) rfl rfl rfl ⟨z27 rfl rfl,z27 rfl rfl,trivial⟩
theorem z891 (k:Int):CallsA Tryz.prog 388 [.int k] [] (.int (if k=1∨k=2 then 0 else if k=4∨k=5∨k=7∨k=8 then 2 else 1)) []:=by
 refine z12 z19 Tryz.func388 rfl rfl 12 Tryz.ntmps388 (by simp) ?_
 repeat' (first|(apply y80 ok;rfl;conv=>whnf)|(apply z8<;>intro _<;>conv=>whnf))
 all_goals (refine z56 rfl rfl ?_;first|(rw [if_pos (by omega)];rfl)|(rw [if_neg (by omega),if_pos (by omega)];rfl)|(rw [if_neg (by omega),if_neg (by omega)];rfl))
theorem walkF_ok (t:Tree):t.mx→∀ d n:Int,0≤d→d≤100→0≤n→n≤12→CallsA Tryz.prog 307 [z44 Tree.cs' t,.int d,.ptr 0 none 0] [.cells 1 [[.int n]]] (.bool (t.walkF d n).2) [.cells 1 [[.int (t.walkF d n).1]]]:=by
  induction t using y24 with|h t ih=>?_
  intro hm d n hd0 hd1 h0 h1
  rw [y25] at hm
  have hs:=Tree.walkF_spec.1
  have hk:d≤6→n+1≤12→CallsA Tryz.prog 389 [lst 3 Tree.cs' t.kids,.fn (.func 390) [] [.pt [.int d],.ptr 1 none 0]] [.cells 1 [[.int (n+1)]],.cells 1 [[.ptr 0 none 0]]] (.bool (!(Tree.walkFs t.kids (d+1) (n+1)).2)) [.cells 1 [[.int (Tree.walkFs t.kids (d+1) (n+1)).1]],.cells 1 [[.ptr 0 none 0]]]:=by
    intro hd hn
    have h:=z830 (d:=d) t.kids hm.1 (fun x s=>!(x.walkF (d+1) s).2) (fun x s=>(x.walkF (d+1) s).1) (fun s=>0≤s∧s≤12) (fun x s h1 h2=>by
      obtain ⟨a1,a2,a3,a4⟩:=hs x (d+1) s h1.1 h1.2
      have h3:(x.walkF (d+1) s).2=true:=by simpa using h2
      have:=(a1.1 h3).2
      rw [← a2 h3] at this
      exact ⟨by omega,this⟩) 390 (n+1) ⟨by omega,by omega⟩ (fun x hx s h=>by
        have hc:=ih x hx (hm.2 x hx) (d+1) s (by omega) (by omega) h.1 h.2
        refine z12 z19 Tryz.func390 rfl rfl 11 Tryz.ntmps390 (by simp) ?_
        repeat' (first|(apply y80 ok;rfl;conv=>whnf)|(apply y38;((unfold inI;omega));conv=>whnf)|(apply z74 [0] [] [] (hc);rfl;(focus ((repeat' (first|exact z37|apply z63))<;>(rfl)));rfl;rfl;rfl;rfl;rfl;(focus ((repeat' (first|exact z18|apply z15))<;>(exact z50 rfl rfl)));(exact .inl rfl);conv=>whnf))
        exact z96 [0,1] (by decide) rfl rfl rfl ⟨z27 rfl rfl,z27 rfl rfl,trivial⟩)
    rw [y37 (d+1) t.kids (n+1) 0,Bool.not_not]
    exact h
  have hk2:=fun h1 h2=>by
    have:=hk h1 h2
    unfold lst at this
    rw [← y15] at this
    exact this
  refine z12 z19 Tryz.func307 rfl rfl 51 Tryz.ntmps307 (by simp) ?_
  repeat' (first|(apply y80 ok;rfl;conv=>whnf)|(apply z35;kernel_rfl;conv=>whnf)|(apply y38;((unfold inI;omega));conv=>whnf)|(apply z8<;>intro _<;>conv=>whnf)|(apply z34<;>intro _<;>conv=>whnf)|(apply z102<;>intro _<;>conv=>whnf)|(apply z7 (z366 _ 1 10);rfl;rfl;conv=>whnf)|(apply z7 (z366 _ 0 2);rfl;rfl;conv=>whnf)|(apply z7 (z366 _ 0 0);rfl;rfl;conv=>whnf)|(apply z7 (z891 t.kind);rfl;rfl;conv=>whnf)|(apply z74 [0,3] [2] [] (hk2 (by omega) (by omega));rfl;(focus ((repeat' (first|exact z37|apply z63))<;>(rfl)));rfl;rfl;rfl;rfl;rfl;(focus ((repeat' (first|exact z18|apply z15))<;>(exact z50 rfl rfl)));((refine .inr ⟨rfl,?_⟩;repeat' (first|exact True.intro|apply y38|exact rfl)));conv=>whnf))
  all_goals first
    | (have e : t.walkF d n = (n + 1, false) := by
        rw [y36,if_neg]
        clear hk hk2 hs ih
        rintro ⟨c1,c2,c3,c4,c5⟩
        try simp only [z317,z149] at *
        unfold z403 at c4
        unfold z190 at c5
        grind
       rw [e]
       exact z96 [0] (by decide) rfl rfl rfl ⟨z27 rfl rfl,trivial⟩)
    | (have e : t.walkF d n = Tree.walkFs t.kids (d + 1) (n + 1) := by
        rw [y36,if_pos]
        clear hk hk2 hs ih
        try simp only [z317,z149] at *
        unfold z403 z190
        grind
       rw [e]
       refine z96 [0] (by decide) rfl rfl ?_ ⟨z27 rfl rfl,trivial⟩
       show AC.raw (.bool (!!_))=_
       rw [Bool.not_not];rfl)
theorem z1058 (t:Tree) (hm:t.mx):CallsA Tryz.prog 187 [z44 Tree.cs' t] [] (.int (if t.fmB=true then (t.walkF 1 0).1 else 0)) []:=by
 have hk:=walkF_ok t hm 1 0 (by omega) (by omega) (by omega) (by omega)
 unfold Tree.fmB
 refine z12 z19 Tryz.func187 rfl rfl 8 Tryz.ntmps187 (by simp) ?_
 repeat' (first|(apply y80 ok;rfl;conv=>whnf)|(apply z102<;>intro _<;>conv=>whnf)|(apply z74 [1] [] [] (hk);rfl;(focus ((repeat' (first|exact z37|apply z63))<;>(rfl)));rfl;rfl;rfl;rfl;rfl;(focus ((repeat' (first|exact z18|apply z15))<;>(exact z50 rfl rfl)));(exact .inl rfl);conv=>whnf))
 all_goals exact z545 rfl (by simp [*])
theorem z143 (t:Tree) (hm:t.mx):CallsA Tryz.prog 76 [z44 Tree.cs' t] [] (.bool t.fmB) []:=by
 have hk:=z1058 t hm
 have e:decide (0 < if t.fmB=true then (t.walkF 1 0).1 else 0)=t.fmB:=by
  by_cases h:t.fmB=true
  ·have h2:=(Tree.walkF_spec.1 t 1 0 (by omega) (by omega)).2.1 h
   have h3:=Tree.count_pos.1 t (7 - 1)
   rw [h,if_pos rfl];exact y77 (by omega)
  ·rw [if_neg h,(y67 _).mp h];rfl
 refine z12 z19 Tryz.func76 rfl rfl 6 Tryz.ntmps76 (by simp) ?_
 repeat' (first|(apply y80 ok;rfl;conv=>whnf)|(apply z7 (hk);rfl;rfl;conv=>whnf))
 all_goals exact z25 rfl e.symm
def onB (t:Trans) (n:Int):Bool:=decide (((n.toNat &&& t.care.toNat:Nat):Int)=t.val)
def z482 (n:Nat) (i:Nat) (ℓ to:Int) (e:Trans):List (Nat×Int):=if onB e ℓ then [((i:Nat) * n+e.src.toNat,to * n+e.dst)] else []
def z781 (n:Nat) (ed:List Trans) (i:Nat) (ℓ to:Int):List (Nat×Int):=ed.flatMap (z482 n i ℓ to)
def z782 (n:Nat) (ed:List Trans) (nx:List (List Int)) (ls:List Int) (i:Nat):List (Nat×Int):=(nx.getD i []).flatMap (z781 n ed i (ls.getD i 0))
def z780 (g:Graph) (ls:List Int) (a:Aut):List (Nat×Int):=(List.range g.st.length).flatMap (z782 a.acc.length a.ed g.nx ls)
def z60 (g:Graph) (ls:List Int) (a:Aut):List (List Int):=build (a.acc.length * g.st.length) (z780 g ls a)
theorem z779 (g:Graph) (hg:GB g) (ls:List Int) (a:Aut) (ha:AutP a):(z780 g ls a).length≤7372800:=by
 obtain ⟨⟨g1,g2⟩,g3,g4⟩:=hg
 have h1:∀ i ℓ to,(z781 a.acc.length a.ed i ℓ to).length≤2048:=fun i ℓ to=>by
  have:=z282 (f:=z482 a.acc.length i ℓ to) (c:=1) a.ed (fun e _=>by unfold z482;split<;>simp)
  have:=ha.2.1
  unfold z781;omega
 have h2:∀ i∈List.range g.st.length,(z782 a.acc.length a.ed g.nx ls i).length≤122880:=fun i hi=>by
  rw [y56] at hi
  unfold z782
  rw [z13 (l:=g.nx) (by omega)]
  have h3:=z282 (f:=z781 a.acc.length a.ed i (ls.getD i 0)) (c:=2048) g.nx[i] (fun e _=>h1 _ _ _)
  have h4:=(g4 i (by omega) (by omega) hi).2.1
  have:g.nx[i].length * 2048≤60 * 2048:=Nat.mul_le_mul_right _ (by omega)
  omega
 have h5:=z282 (f:=z782 a.acc.length a.ed g.nx ls) (c:=122880) (List.range g.st.length) h2
 rw [List.length_range] at h5
 have:g.st.length * 122880≤60 * 122880:=Nat.mul_le_mul_right _ (by omega)
 unfold z780;omega
def z78 (a:Aut):List (List Trans):=z117 a.acc.length (a.ed.map fun e=>(e.src.toNat,e))
def encT (r:List Trans):List AC:=[.list 4 r.length (r.map Trans.cs)]
theorem ltr_lt (v:List Int):∀ (l:List Tree) (k n:Nat),n < 2 ^ k→ltr v l k n < 2 ^ (k+l.length):=by
 intro l
 induction l with
 |nil=>intro k n h;simpa [ltr] using h
 |cons t l ih =>
  intro k n h
  rw [ltr]
  have e:k+(t::l).length=k+1+l.length:=by simp only [y53];omega
  rw [e]
  refine ih (k+1) _ ?_
  split
  ·rw [Nat.pow_succ];omega
  ·exact or_lt h
theorem z470 {l:List Tree} (hl:z126 l) (s:State):0≤z43 l s∧z43 l s≤7:=by
 have:=ltr_lt s.b l 0 0 (by decide)
 rw [hl.1] at this
 unfold z43
 have e:(2:Nat) ^ (0+3)=8:=by decide
 omega
def pE2 (n i q:Nat) (ℓ to:Int) (e:Trans):List (Nat×Int):=if onB e ℓ then [(i * n+q,to * n+e.dst)] else []
def pTo (n:Nat) (row:List Trans) (i q:Nat) (ℓ to:Int):List (Nat×Int):=row.flatMap (pE2 n i q ℓ to)
def pQ (n:Nat) (nxi:List Int) (rows:List (List Trans)) (i:Nat) (ℓ:Int) (q:Nat):List (Nat×Int):=nxi.flatMap (pTo n (rows.getD q []) i q ℓ)
def pI2 (n:Nat) (nx:List (List Int)) (rows:List (List Trans)) (ls:List Int) (i:Nat):List (Nat×Int):=(List.range n).flatMap (pQ n (nx.getD i []) rows i (ls.getD i 0))
def pS2 (g:Graph) (ls:List Int) (a:Aut):List (Nat×Int):=(List.range g.st.length).flatMap (pI2 a.acc.length g.nx (z78 a) ls)
theorem z330 {a:Aut} {q:Nat} (h:q < a.acc.length):(z78 a).getD q []=a.ed.filter (fun e=>e.src.toNat == q):=by
 unfold z78
 rw [z13 (by rw [z164];exact h),z331,List.filter_map,List.map_map]
 exact List.map_id _
theorem z1147 {β:Type} {F:Nat→List β} {n q0:Nat} (hq:q0 < n) (h:∀ q,q < n→q≠q0→F q=[]):(List.range n).flatMap F=F q0:=by
 have:∀ m,(List.range m).flatMap F=if q0 < m∧m≤n then F q0 else if m≤n then [] else (List.range m).flatMap F:=by
  intro m
  induction m with
  |zero=>simp
  |succ m ih =>
   by_cases hm:m+1≤n
   ·rw [y57,List.flatMap_append,ih,List.flatMap_cons,List.flatMap_nil,y60]
    by_cases h1:q0 < m
    ·rw [if_pos ⟨h1,by omega⟩,if_pos ⟨by omega,hm⟩,h m (by omega) (by omega),y60]
    ·rw [if_neg (by omega),if_pos (by omega)]
     by_cases h2:q0=m
     ·subst h2;rw [if_pos ⟨by omega,hm⟩];rfl
     ·rw [if_neg (by omega),if_pos hm,h m (by omega) (by omega)];rfl
   ·rw [if_neg (by omega),if_neg hm]
 rw [this n,if_pos ⟨hq,y47 _⟩]
theorem z1029 {β:Type} {F:Nat→List β} {n:Nat} (h:∀ q,q < n→F q=[]):(List.range n).flatMap F=[]:=by
 rw [List.flatMap_eq_nil_iff]
 intro q hq
 exact h q (List.mem_range.1 hq)
theorem pS2_rows (g:Graph) (ls:List Int) (a:Aut) (ha:AutP a) (r:Nat):(pS2 g ls a).filter (fun p=>p.1 == r)=(z780 g ls a).filter (fun p=>p.1 == r):=by
 unfold pS2 z780
 rw [List.filter_flatMap,List.filter_flatMap]
 refine z650 fun i hi=>?_
 unfold pI2 z782
 rw [List.filter_flatMap,List.filter_flatMap]
 have hsrc:∀ e∈a.ed,e.src.toNat < a.acc.length:=fun e he=>by
  have:=(ha.2.2.2 e he).1;omega
 by_cases hr:i * a.acc.length≤r∧r < i * a.acc.length+a.acc.length
 ·obtain ⟨q0,rfl⟩:∃ q0,r=i * a.acc.length+q0:=⟨r - i * a.acc.length,by omega⟩
  have hq0:q0 < a.acc.length:=by omega
  rw [z1147 hq0 (fun q hq hne=>by
   unfold pQ
   rw [List.filter_flatMap]
   refine List.flatMap_eq_nil_iff.2 fun to _=>?_
   unfold pTo
   rw [List.filter_flatMap]
   refine List.flatMap_eq_nil_iff.2 fun e _=>?_
   unfold pE2
   split
   ·simp;omega
   ·rfl)]
  unfold pQ
  rw [List.filter_flatMap,z330 hq0]
  refine z650 fun to _=>?_
  unfold pTo z781
  rw [List.filter_flatMap,List.filter_flatMap]
  induction a.ed with
  |nil=>rfl
  |cons e es ih =>
   rw [List.flatMap_cons,← ih,List.filter_cons]
   by_cases he:e.src.toNat=q0
   ·rw [if_pos (by simpa using he),List.flatMap_cons]
    unfold pE2 z482
    rw [he]
   ·rw [if_neg (by simpa using he)]
    have:(z482 a.acc.length i (ls.getD i 0) to e).filter (fun p=>p.1 == i * a.acc.length+q0)=[]:=by
     unfold z482
     split
     ·simp;omega
     ·rfl
    rw [this,List.nil_append]
 ·rw [z1029 (fun q hq=>by
   unfold pQ
   rw [List.filter_flatMap]
   refine List.flatMap_eq_nil_iff.2 fun to _=>?_
   unfold pTo
   rw [List.filter_flatMap]
   refine List.flatMap_eq_nil_iff.2 fun e _=>?_
   unfold pE2
   split
   ·simp;omega
   ·rfl)]
  symm
  refine List.flatMap_eq_nil_iff.2 fun to _=>?_
  unfold z781
  rw [List.filter_flatMap]
  refine List.flatMap_eq_nil_iff.2 fun e he=>?_
  have:=hsrc e he
  unfold z482
  split
  ·simp;omega
  ·rfl
theorem pS2_len (g:Graph) (hg:GB g) (ls:List Int) (a:Aut) (ha:AutP a):(pS2 g ls a).length≤1000000000:=by
 obtain ⟨⟨g1,g2⟩,g3,g4⟩:=hg
 have h2:∀ i∈List.range g.st.length,(pI2 a.acc.length g.nx (z78 a) ls i).length≤7864320:=fun i hi=>by
  rw [y56] at hi
  unfold pI2
  rw [z13 (l:=g.nx) (by omega)]
  have h3:=z282 (f:=pQ a.acc.length g.nx[i] (z78 a) i (ls.getD i 0)) (c:=122880) (List.range a.acc.length) (fun q hq=>by
   have h1:∀ to,(pTo a.acc.length ((z78 a).getD q []) i q (ls.getD i 0) to).length≤2048:=fun to=>by
    have h5:=z282 (f:=pE2 a.acc.length i q (ls.getD i 0) to) (c:=1) ((z78 a).getD q []) (fun e _=>by unfold pE2;split<;>simp)
    rw [z330 (List.mem_range.1 hq)] at h5 ⊢
    have:=List.length_filter_le (fun e:Trans=>e.src.toNat == q) a.ed
    have:=ha.2.1
    unfold pTo;omega
   have h3:=z282 (f:=pTo a.acc.length ((z78 a).getD q []) i q (ls.getD i 0)) (c:=2048) g.nx[i] (fun to _=>h1 to)
   have h4:=(g4 i (by omega) (by omega) hi).2.1
   have:g.nx[i].length * 2048≤60 * 2048:=Nat.mul_le_mul_right _ (by omega)
   unfold pQ;omega)
  rw [List.length_range] at h3
  have:a.acc.length * 122880≤64 * 122880:=Nat.mul_le_mul_right _ ha.1.2
  omega
 have h5:=z282 (f:=pI2 a.acc.length g.nx (z78 a) ls) (c:=7864320) (List.range g.st.length) h2
 rw [List.length_range] at h5
 have:g.st.length * 7864320≤60 * 7864320:=Nat.mul_le_mul_right _ (by omega)
 unfold pS2;omega
theorem z1234 (g:Graph) (ls:List Int) (a:Aut) (ha:AutP a):build (g.st.length * a.acc.length) (pS2 g ls a)=z60 g ls a:=by
 unfold z60 build
 rw [Nat.mul_comm]
 refine List.map_congr_left fun r _=>?_
 rw [pS2_rows g ls a ha r]
set_option maxHeartbeats 800000 in
theorem z887 (g:Graph) (hg:GB g) (l:List Tree) (hl:z126 l) (a:Aut) (ha:AutP a):CallsA Tryz.prog 156 [.agg g.cs,lst 3 Tree.cs' l,.agg a.cs] [] (.tup [.sref 0 0 (g.st.length * a.acc.length),ints a.ini]) [.cells 1 ((z60 g (g.st.map (z43 l)) a).map z91)]:=by
 have hvals:=hg.vals
 have hpl:=z779 g hg (g.st.map (z43 l)) a ha
 have hini:=ha.2.2.1.le (by omega)
 obtain ⟨⟨g1,g2⟩,g3,g4⟩:=hg
 obtain ⟨⟨a1,a2⟩,a3,a4,a5⟩:=ha
 have hN:=z304 (a:=(g.st.length:Int)) (b:=(a.acc.length:Int)) (A:=60) (B:=64) (by omega) (by omega) (by omega) (by omega)
 refine z12 z19 Tryz.func156 rfl rfl 117 Tryz.ntmps156 (by simp) ?_
 repeat' (first|(apply y80 ok;rfl;conv=>whnf)|(apply y38;((dsimp only;omega));conv=>whnf))
 refine y81 (Gl.Reach.weaken (es':=List.replicate a.acc.length [.own 4 []]) 2 rfl (by rw [y41,y41];rfl) z360 rfl) ?_
 conv=>whnf
 refine z92 (fun k:Nat=>([(1,lst 3 Tree.cs' l),(3,.ptr 0 none 0),(5,.ptr 1 none 0),(8,.int a.acc.length),(9,.sref 2 0 a.acc.length),(26,lst 4 Trans.cs a.ed),(27,.int a.ed.length),(28,.int k)],[.cells 2 [[lst 2 State.cs g.st,lst 1 encL g.nx]],.cells 3 [[lst 1 enI a.ini,lst 1 enB a.acc,lst 4 Trans.cs a.ed]],.cells 1 ((z117 a.acc.length ((a.ed.take k).map fun e=>(e.src.toNat,e))).map (ownG 4 Trans.cs))])) (fun k=>k≤a.ed.length) (fun k=>a.ed.length - k) 0 (by omega)
  ⟨[0,1,2],rfl,by decide,rfl,⟨⟨rfl,rfl⟩,⟨rfl,rfl⟩,⟨rfl,rfl⟩,⟨rfl,rfl⟩,⟨rfl,rfl⟩,⟨rfl,rfl⟩,⟨rfl,rfl⟩,⟨rfl,rfl⟩,trivial⟩,⟨z27 rfl rfl,z27 rfl rfl,z41 (z67 (z1140 _ _ _).symm) (z6 fun _=>rfl),trivial⟩⟩ ?_
 intro k hk
 have hN2:((g.st.length * a.acc.length:Nat):Int)=(g.st.length:Int) * a.acc.length:=by simp
 repeat' (first|((fail_if_success apply z116 6);(fail_if_success apply z101 6);(fail_if_success apply z116 8);(fail_if_success apply z101 8);apply y80 ok;rfl;conv=>whnf)|(apply y38;(omega);conv=>whnf)|(with_reducible apply z14;omega;intro _;conv=>whnf)|(apply z8<;>intro _<;>conv=>whnf))
 ·have hkl:k < a.ed.length:=by assumption
  have he:=a5 a.ed[k] (y39 hkl)
  unfold z455 at he
  have hlt:a.ed[k].src.toNat < (z117 a.acc.length ((a.ed.take k).map fun e=>(e.src.toNat,e))).length:=by rw [z164];omega
  have hmap:a.ed[k].src.toNat < ((z117 a.acc.length ((a.ed.take k).map fun e=>(e.src.toNat,e))).map (ownG 4 Trans.cs)).length:=by rw [y44];exact hlt
  have hrl:=z729 hlt
  rw [y44,y43] at hrl
  refine y81 (Gl.Reach.expose (e:=ownG 4 Trans.cs (z117 a.acc.length ((a.ed.take k).map fun e=>(e.src.toNat,e)))[a.ed[k].src.toNat]) 2 a.ed[k].src.toNat 0 rfl (by rw [y46,y40 hlt];rfl) rfl (z177 (fun _=>rfl) _) rfl) ?_
  conv=>whnf
  (apply y80 ok;rfl;conv=>whnf)
  repeat' (first|(apply z35;kernel_rfl;conv=>whnf)|(apply z369;exact Nat.add_zero _;exact hmap;conv=>whnf)|(apply y38;(first|omega|((try dsimp only);simp only [y44,y43,y42,y41,y53,y54];omega)|exact ⟨rfl,z24 rfl z31⟩);conv=>whnf))
  refine y81 (Gl.Reach.absorb 2 6 a.ed[k].src.toNat 0 rfl (z1200 (Nat.add_zero _) (by rw [List.length_set];exact hmap)) rfl rfl (by simp) rfl (z87 (fun e he=>(z6 (fun _=>rfl)) e (List.mem_of_mem_take he)) (z220 rfl z33)) rfl) ?_
  conv=>whnf
  repeat' (first|((fail_if_success apply z116 6);(fail_if_success apply z101 6);(fail_if_success apply z116 8);(fail_if_success apply z101 8);apply y80 ok;rfl;conv=>whnf)|(apply y38;((unfold inI;omega));conv=>whnf))
  refine z80 (k+1) [0,1,2] (by omega) (by omega)
   ⟨rfl,by decide,rfl,⟨⟨rfl,rfl⟩,⟨rfl,rfl⟩,⟨rfl,rfl⟩,⟨rfl,rfl⟩,⟨rfl,rfl⟩,⟨rfl,rfl⟩,⟨rfl,rfl⟩,⟨rfl,rfl⟩,trivial⟩,⟨z27 rfl rfl,z27 rfl rfl,z41 (z67 ?_) (z6 fun _=>rfl),trivial⟩⟩
  have e1:((a.ed.take (k+1)).map fun e=>(e.src.toNat,e))=((a.ed.take k).map fun e=>(e.src.toNat,e))++[(a.ed[k].src.toNat,a.ed[k])]:=by
   rw [y45 hkl,y59];rfl
  rw [e1]
  exact z1027 hlt (Nat.add_zero _) (by simp) rfl
 obtain rfl:k=a.ed.length:=by omega
 refine y81 (SealL.reach (π:=[0,1]) (Bn:=[2]) (env:=[(1,lst 3 Tree.cs' l),(3,.ptr 0 none 0),(5,.ptr 1 none 0),(8,.int a.acc.length),(9,lst 1 encT (z78 a))]) (objs:=[.cells 2 [[lst 2 State.cs g.st,lst 1 encL g.nx]],.cells 3 [[lst 1 enI a.ini,lst 1 enB a.acc,lst 4 Trans.cs a.ed]]]) ⟨rfl,rfl,by simp,rfl,by intro o ho;simp at ho;rcases ho with rfl|rfl<;>rfl,⟨rfl,rfl,rfl,rfl,?_,trivial⟩,rfl⟩) ?_
 ·show bor _ _ _ (.sref 2 0 a.acc.length)=_
  rw [z429 (w:=1) (es:=(z117 a.acc.length ((a.ed.take a.ed.length).map fun e=>(e.src.toNat,e))).map (ownG 4 Trans.cs)) rfl rfl rfl (by rw [y44,z164]),z883 (fun t=>Trans.unown t),y51]
  unfold lst z78
  rw [z164];rfl
 conv=>whnf
 repeat' (first|(apply y80 ok;rfl;conv=>whnf)|(apply y38;(first|(unfold inI;omega)|(dsimp only;omega));conv=>whnf)|(apply z7 (z705 g hvals g2 l hl);rfl;rfl;conv=>whnf))
 refine y81 (Gl.Reach.weaken (es':=List.replicate (g.st.length * a.acc.length) [.own 1 []]) 2 rfl (by rw [y41,y41];rfl) z360 rfl) ?_
 conv=>whnf
 have hls:(g.st.map (z43 l)).length=g.st.length:=by simp
 have hlr:∀ x∈g.st.map (z43 l),0≤x∧x≤7:=fun x hx=>by
  obtain ⟨s,_,rfl⟩:=List.mem_map.1 hx
  exact z470 hl s
 rw [← z1234 g _ a ⟨⟨a1,a2⟩,a3,a4,a5⟩]
 have hpl2:=pS2_len g ⟨⟨g1,g2⟩,g3,g4⟩ (g.st.map (z43 l)) a ⟨⟨a1,a2⟩,a3,a4,a5⟩
 generalize hlsd:g.st.map (z43 l)=ls at hls hlr hpl hpl2
 have hrow:∀ i (hi:i < g.nx.length),∀ x∈g.nx[i],0≤x∧x≤g.st.length - 1:=fun i hi x hx=>by
  obtain ⟨j,hj,rfl⟩:=List.mem_iff_getElem.1 hx
  exact ((g4 i hi hi (by omega)).2.2.2 j hj hj).1
 have hlen:∀ i (hi:i < g.nx.length),g.nx[i].length≤60:=fun i hi=>by
  have:=(g4 i hi hi (by omega)).2.1;omega
 have hel:(z78 a).length=a.acc.length:=z164 _ _
 have hed:∀ q (hq:q < (z78 a).length),∀ e∈(z78 a)[q],e∈a.ed:=fun q hq e he=>by
  rw [← z13 (d:=[]) hq,z330 (by omega)] at he;exact (List.mem_filter.1 he).1
 have hedl:∀ q (hq:q < (z78 a).length),(z78 a)[q].length≤2048:=fun q hq=>by
  rw [← z13 (d:=[]) hq,z330 (by omega)];exact Nat.le_trans (List.length_filter_le _ _) a3
 refine z92 (fun x:Nat×List (Nat×Int)=>([(3,.ptr 0 none 0),(5,.ptr 1 none 0),(8,.int a.acc.length),(9,lst 1 encT (z78 a)),(12,.sref 2 0 (g.st.length * a.acc.length)),(53,ints ls),(54,.int ls.length),(55,.int x.1)],[.cells 2 [[lst 2 State.cs g.st,lst 1 encL g.nx]],.cells 3 [[lst 1 enI a.ini,lst 1 enB a.acc,lst 4 Trans.cs a.ed]],.cells 1 ((build (g.st.length * a.acc.length) x.2).map z91)])) (fun x=>x.1≤ls.length∧x.2++((List.range g.st.length).drop x.1).flatMap (pI2 a.acc.length g.nx (z78 a) ls)=pS2 g ls a) (fun x=>ls.length - x.1) (0,[]) ⟨by omega,rfl⟩
  ⟨[0,1,2],rfl,by decide,rfl,⟨⟨rfl,by rfl⟩,⟨rfl,by rfl⟩,⟨rfl,by rfl⟩,⟨rfl,by rfl⟩,⟨rfl,by rfl⟩,⟨rfl,by rfl⟩,⟨rfl,by rfl⟩,⟨rfl,by rfl⟩,trivial⟩,⟨z27 rfl rfl,z27 rfl rfl,z41 (z67 (rows_nil _).symm) (z6 fun _=>rfl),trivial⟩⟩ ?_
 rintro ⟨i,ps⟩ ⟨hi1,hi2⟩
 dsimp only at hi1 hi2 ⊢
 repeat' (first|(apply y80 ok;rfl;conv=>whnf)|(apply y38;(omega);conv=>whnf)|(with_reducible apply z14;omega;intro _;conv=>whnf)|(apply z8<;>intro _<;>conv=>whnf))
 ·have hig:i < g.st.length:=by omega
  rw [z419 _ _ _ (by simpa using hig),List.getElem_range] at hi2
  have hin:i < g.nx.length:=by omega
  have hrow:=hrow i hin
  have hlen:=hlen i hin
  have hil:i < ls.length:=by omega
  have hli:=hlr ls[i] (y39 _)
  have hpI:pI2 a.acc.length g.nx (z78 a) ls i=(List.range a.acc.length).flatMap (pQ a.acc.length g.nx[i] (z78 a) i ls[i]):=by
   unfold pI2
   rw [z13 (l:=g.nx) hin,z13 (l:=ls) hil]
  rw [hpI] at hi2
  have hm1:=z304 (a:=(i:Int)) (b:=(a.acc.length:Int)) (A:=60) (B:=64) (by omega) (by omega) (by omega) (by omega)
  refine z92 (fun x:Nat×List (Nat×Int)=>([(3,.ptr 0 none 0),(5,.ptr 1 none 0),(8,.int a.acc.length),(9,lst 1 encT (z78 a)),(12,.sref 2 0 (g.st.length * a.acc.length)),(53,ints ls),(54,.int ls.length),(55,.int i),(13,.int i),(14,.int ls[i]),(60,.int a.acc.length),(61,.int x.1)],[.cells 2 [[lst 2 State.cs g.st,lst 1 encL g.nx]],.cells 3 [[lst 1 enI a.ini,lst 1 enB a.acc,lst 4 Trans.cs a.ed]],.cells 1 ((build (g.st.length * a.acc.length) x.2).map z91)])) (fun x=>x.1≤a.acc.length∧x.2++(((List.range a.acc.length).drop x.1).flatMap (pQ a.acc.length g.nx[i] (z78 a) i ls[i])++((List.range g.st.length).drop (i+1)).flatMap (pI2 a.acc.length g.nx (z78 a) ls))=pS2 g ls a) (fun x=>a.acc.length - x.1) (0,ps) ⟨by omega,hi2⟩
   ⟨[0,1,2],rfl,by decide,rfl,⟨⟨rfl,rfl⟩,⟨rfl,rfl⟩,⟨rfl,rfl⟩,⟨rfl,rfl⟩,⟨rfl,rfl⟩,⟨rfl,rfl⟩,⟨rfl,rfl⟩,⟨rfl,rfl⟩,⟨rfl,rfl⟩,⟨rfl,rfl⟩,⟨rfl,rfl⟩,⟨rfl,rfl⟩,trivial⟩,⟨z27 rfl rfl,z27 rfl rfl,z41 rfl (z6 fun _=>rfl),trivial⟩⟩ ?_
  rintro ⟨q,ps⟩ ⟨hq1,hq2⟩
  dsimp only at hq1 hq2 ⊢
  repeat' (first|(apply y80 ok;rfl;conv=>whnf)|(apply y38;(first|omega|(unfold inI;omega));conv=>whnf)|(with_reducible apply z14;omega;intro _;conv=>whnf)|(apply z8<;>intro _<;>conv=>whnf))
  ·have hqn:q < a.acc.length:=by omega
   rw [z419 _ _ _ (by simpa using hqn),List.getElem_range,List.append_assoc] at hq2
   have hqe:q < (z78 a).length:=by omega
   have hpQ:pQ a.acc.length g.nx[i] (z78 a) i ls[i] q=g.nx[i].flatMap (pTo a.acc.length (z78 a)[q] i q ls[i]):=by
    unfold pQ;rw [z13 hqe]
   rw [hpQ] at hq2
   have hedl:=hedl q hqe
   have hlt:i * a.acc.length+q < g.st.length * a.acc.length:=by
    have h1:(i+1) * a.acc.length≤g.st.length * a.acc.length:=Nat.mul_le_mul_right _ hig
    rw [Nat.add_mul,Nat.one_mul] at h1
    omega
   refine z92 (fun x:Nat×List (Nat×Int)=>([(3,.ptr 0 none 0),(5,.ptr 1 none 0),(8,.int a.acc.length),(9,lst 1 encT (z78 a)),(12,.sref 2 0 (g.st.length * a.acc.length)),(53,ints ls),(54,.int ls.length),(55,.int i),(13,.int i),(14,.int ls[i]),(60,.int a.acc.length),(61,.int q),(15,.int q),(68,ints g.nx[i]),(69,.int g.nx[i].length),(70,.int x.1)],[.cells 2 [[lst 2 State.cs g.st,lst 1 encL g.nx]],.cells 3 [[lst 1 enI a.ini,lst 1 enB a.acc,lst 4 Trans.cs a.ed]],.cells 1 ((build (g.st.length * a.acc.length) x.2).map z91)])) (fun x=>x.1≤g.nx[i].length∧x.2++((g.nx[i].drop x.1).flatMap (pTo a.acc.length (z78 a)[q] i q ls[i])++(((List.range a.acc.length).drop (q+1)).flatMap (pQ a.acc.length g.nx[i] (z78 a) i ls[i])++((List.range g.st.length).drop (i+1)).flatMap (pI2 a.acc.length g.nx (z78 a) ls)))=pS2 g ls a) (fun x=>g.nx[i].length - x.1) (0,ps) ⟨by omega,hq2⟩
    ⟨[0,1,2],rfl,by decide,rfl,⟨⟨rfl,rfl⟩,⟨rfl,rfl⟩,⟨rfl,rfl⟩,⟨rfl,rfl⟩,⟨rfl,rfl⟩,⟨rfl,rfl⟩,⟨rfl,rfl⟩,⟨rfl,rfl⟩,⟨rfl,rfl⟩,⟨rfl,rfl⟩,⟨rfl,rfl⟩,⟨rfl,rfl⟩,⟨rfl,rfl⟩,⟨rfl,rfl⟩,⟨rfl,rfl⟩,⟨rfl,rfl⟩,trivial⟩,⟨z27 rfl rfl,z27 rfl rfl,z41 rfl (z6 fun _=>rfl),trivial⟩⟩ ?_
   rintro ⟨j,ps⟩ ⟨hj1,hj2⟩
   dsimp only at hj1 hj2 ⊢
   repeat' (first|(apply y80 ok;rfl;conv=>whnf)|(apply y38;(first|omega|(unfold inI;omega));conv=>whnf)|(with_reducible apply z14;omega;intro _;conv=>whnf)|(apply z8<;>intro _<;>conv=>whnf))
   ·have hjn:j < g.nx[i].length:=by omega
    rw [z419 _ _ _ hjn,List.append_assoc] at hj2
    have hto:=hrow g.nx[i][j] (y39 _)
    have hm2:=z304 (a:=g.nx[i][j]) (b:=(a.acc.length:Int)) (A:=60) (B:=64) (by omega) (by omega) (by omega) (by omega)
    refine z92 (fun x:Nat×List (Nat×Int)=>([(3,.ptr 0 none 0),(5,.ptr 1 none 0),(8,.int a.acc.length),(9,lst 1 encT (z78 a)),(12,.sref 2 0 (g.st.length * a.acc.length)),(53,ints ls),(54,.int ls.length),(55,.int i),(13,.int i),(14,.int ls[i]),(60,.int a.acc.length),(61,.int q),(15,.int q),(68,ints g.nx[i]),(69,.int g.nx[i].length),(70,.int j),(17,.int g.nx[i][j]),(77,lst 4 Trans.cs (z78 a)[q]),(78,.int (z78 a)[q].length),(79,.int x.1)],[.cells 2 [[lst 2 State.cs g.st,lst 1 encL g.nx]],.cells 3 [[lst 1 enI a.ini,lst 1 enB a.acc,lst 4 Trans.cs a.ed]],.cells 1 ((build (g.st.length * a.acc.length) x.2).map z91)])) (fun x=>x.1≤(z78 a)[q].length∧x.2++(((z78 a)[q].drop x.1).flatMap (pE2 a.acc.length i q ls[i] g.nx[i][j])++((g.nx[i].drop (j+1)).flatMap (pTo a.acc.length (z78 a)[q] i q ls[i])++(((List.range a.acc.length).drop (q+1)).flatMap (pQ a.acc.length g.nx[i] (z78 a) i ls[i])++((List.range g.st.length).drop (i+1)).flatMap (pI2 a.acc.length g.nx (z78 a) ls))))=pS2 g ls a) (fun x=>(z78 a)[q].length - x.1) (0,ps) ⟨by omega,hj2⟩
     ⟨[0,1,2],rfl,by decide,rfl,⟨⟨rfl,rfl⟩,⟨rfl,rfl⟩,⟨rfl,rfl⟩,⟨rfl,rfl⟩,⟨rfl,rfl⟩,⟨rfl,rfl⟩,⟨rfl,rfl⟩,⟨rfl,rfl⟩,⟨rfl,rfl⟩,⟨rfl,rfl⟩,⟨rfl,rfl⟩,⟨rfl,rfl⟩,⟨rfl,rfl⟩,⟨rfl,rfl⟩,⟨rfl,rfl⟩,⟨rfl,rfl⟩,⟨rfl,rfl⟩,⟨rfl,rfl⟩,⟨rfl,rfl⟩,⟨rfl,rfl⟩,trivial⟩,⟨z27 rfl rfl,z27 rfl rfl,z41 rfl (z6 fun _=>rfl),trivial⟩⟩ ?_
    rintro ⟨k,ps⟩ ⟨hk1,hk2⟩
    dsimp only at hk1 hk2 ⊢
    by_cases hke:k < (z78 a)[q].length
    ·have he:=a5 (z78 a)[q][k] (hed q hqe _ (y39 hke))
     unfold z455 at he
     have hlt' : i * a.acc.length+q < (build (g.st.length * a.acc.length) ps).length:=by rw [z134];exact hlt
     have hmap:i * a.acc.length+q < ((build (g.st.length * a.acc.length) ps).map z91).length:=by rw [y44];exact hlt'
     have hrl:(build (g.st.length * a.acc.length) ps)[i * a.acc.length+q].length≤1000000000:=by
      have h1:=z474 (N:=g.st.length * a.acc.length) (ps:=ps) hlt'
      have h2:=congrArg List.length hk2
      rw [y42] at h2
      omega
     have hix:((i:Int) * a.acc.length+q).toNat=i * a.acc.length+q:=by
      have e:((i * a.acc.length:Nat):Int)=(i:Int) * a.acc.length:=by simp
      omega
     have hlt2:((i:Int) * a.acc.length+q).toNat < g.st.length * a.acc.length:=by rw [hix];exact hlt
     rw [z419 _ _ _ hke] at hk2
     repeat' (first|((fail_if_success apply z116 22);(fail_if_success apply z101 22);apply y80 ok;rfl;conv=>whnf)|(apply y38;(first|omega|(unfold inI;omega));conv=>whnf)|(with_reducible apply z14;omega;intro _;conv=>whnf)|(apply z8<;>intro _<;>conv=>whnf)|(apply z7 (takes_ok (z78 a)[q][k] ls[i] hli.1 hli.2 he.2.2.1);rfl;rfl;conv=>whnf))
     ·have hon:((ls[i].toNat &&& (z78 a)[q][k].care.toNat:Nat):Int)=(z78 a)[q][k].val:=by assumption
      refine y81 (Gl.Reach.expose (e:=z91 (build (g.st.length * a.acc.length) ps)[i * a.acc.length+q]) 2 (i * a.acc.length+q) 0 rfl (by rw [y46,y40 hlt'];rfl) rfl (z177 (fun _=>rfl) _) rfl) ?_
      conv=>whnf
      (apply y80 ok;rfl;conv=>whnf)
      repeat' (first|(apply z35;kernel_rfl;conv=>whnf)|(apply z369;exact hix;exact hmap;conv=>whnf)|(apply y38;(first|omega|(unfold inI;omega)|((try dsimp only);simp only [y44,y43,y42,y41,y53,y54];omega)|exact ⟨rfl,z24 rfl z31⟩);conv=>whnf))
      refine y81 (Gl.Reach.absorb 2 6 (i * a.acc.length+q) 0 rfl (z1200 hix (by rw [List.length_set];exact hmap)) rfl rfl (by simp) rfl (z87 (fun e he=>(z6 (fun _=>rfl)) e (List.mem_of_mem_take he)) (z220 rfl z33)) rfl) ?_
      conv=>whnf
      repeat' (first|(apply y80 ok;rfl;conv=>whnf)|(apply y38;((unfold inI;omega));conv=>whnf))
      have hpe:pE2 a.acc.length i q ls[i] g.nx[i][j] (z78 a)[q][k]=[(i * a.acc.length+q,g.nx[i][j] * a.acc.length+(z78 a)[q][k].dst)]:=by
       unfold pE2 onB;rw [if_pos (y77 hon)]
      rw [hpe,List.append_assoc,← List.append_assoc] at hk2
      exact z80 (k+1,ps++[(i * a.acc.length+q,g.nx[i][j] * a.acc.length+(z78 a)[q][k].dst)]) [0,1,2] ⟨by dsimp only;omega,hk2⟩ (by dsimp only;omega) ⟨rfl,by decide,rfl,⟨⟨rfl,rfl⟩,⟨rfl,rfl⟩,⟨rfl,rfl⟩,⟨rfl,rfl⟩,⟨rfl,rfl⟩,⟨rfl,rfl⟩,⟨rfl,rfl⟩,⟨rfl,rfl⟩,⟨rfl,rfl⟩,⟨rfl,rfl⟩,⟨rfl,rfl⟩,⟨rfl,rfl⟩,⟨rfl,rfl⟩,⟨rfl,rfl⟩,⟨rfl,rfl⟩,⟨rfl,rfl⟩,⟨rfl,rfl⟩,⟨rfl,rfl⟩,⟨rfl,rfl⟩,⟨rfl,rfl⟩,trivial⟩,⟨z27 rfl rfl,z27 rfl rfl,z41 (z67 (rows_push' hlt' hix (by simp))) (z6 fun _=>rfl),trivial⟩⟩
     ·have hon:¬ ((ls[i].toNat &&& (z78 a)[q][k].care.toNat:Nat):Int)=(z78 a)[q][k].val:=by assumption
      have hpe:pE2 a.acc.length i q ls[i] g.nx[i][j] (z78 a)[q][k]=[]:=by
       unfold pE2 onB;rw [if_neg (by simpa using hon)]
      rw [hpe,List.nil_append] at hk2
      exact z80 (k+1,ps) [0,1,2] ⟨by dsimp only;omega,hk2⟩ (by dsimp only;omega) ⟨rfl,by decide,rfl,⟨⟨rfl,rfl⟩,⟨rfl,rfl⟩,⟨rfl,rfl⟩,⟨rfl,rfl⟩,⟨rfl,rfl⟩,⟨rfl,rfl⟩,⟨rfl,rfl⟩,⟨rfl,rfl⟩,⟨rfl,rfl⟩,⟨rfl,rfl⟩,⟨rfl,rfl⟩,⟨rfl,rfl⟩,⟨rfl,rfl⟩,⟨rfl,rfl⟩,⟨rfl,rfl⟩,⟨rfl,rfl⟩,⟨rfl,rfl⟩,⟨rfl,rfl⟩,⟨rfl,rfl⟩,⟨rfl,rfl⟩,trivial⟩,⟨z27 rfl rfl,z27 rfl rfl,z41 rfl (z6 fun _=>rfl),trivial⟩⟩
     ·omega
    ·repeat' (first|((fail_if_success apply z116 22);(fail_if_success apply z101 22);apply y80 ok;rfl;conv=>whnf)|(apply y38;(first|omega|(unfold inI;omega));conv=>whnf)|(with_reducible apply z14;omega;intro _;conv=>whnf)|(apply z8<;>intro _<;>conv=>whnf))
     ·omega
     ·rw [z201 _ _ _ (by omega),List.nil_append] at hk2
      exact z80 (j+1,ps) [0,1,2] ⟨by dsimp only;omega,hk2⟩ (by dsimp only;omega) ⟨rfl,by decide,rfl,⟨⟨rfl,rfl⟩,⟨rfl,rfl⟩,⟨rfl,rfl⟩,⟨rfl,rfl⟩,⟨rfl,rfl⟩,⟨rfl,rfl⟩,⟨rfl,rfl⟩,⟨rfl,rfl⟩,⟨rfl,rfl⟩,⟨rfl,rfl⟩,⟨rfl,rfl⟩,⟨rfl,rfl⟩,⟨rfl,rfl⟩,⟨rfl,rfl⟩,⟨rfl,rfl⟩,⟨rfl,rfl⟩,trivial⟩,⟨z27 rfl rfl,z27 rfl rfl,z41 rfl (z6 fun _=>rfl),trivial⟩⟩
   ·rw [z201 _ _ _ (by omega),List.nil_append] at hj2
    exact z80 (q+1,ps) [0,1,2] ⟨by dsimp only;omega,hj2⟩ (by dsimp only;omega) ⟨rfl,by decide,rfl,⟨⟨rfl,rfl⟩,⟨rfl,rfl⟩,⟨rfl,rfl⟩,⟨rfl,rfl⟩,⟨rfl,rfl⟩,⟨rfl,rfl⟩,⟨rfl,rfl⟩,⟨rfl,rfl⟩,⟨rfl,rfl⟩,⟨rfl,rfl⟩,⟨rfl,rfl⟩,⟨rfl,rfl⟩,trivial⟩,⟨z27 rfl rfl,z27 rfl rfl,z41 rfl (z6 fun _=>rfl),trivial⟩⟩
  ·rw [z201 _ _ _ (by simp;omega),List.nil_append] at hq2
   exact z80 (i+1,ps) [0,1,2] ⟨by dsimp only;omega,hq2⟩ (by dsimp only;omega) ⟨rfl,by decide,rfl,⟨⟨rfl,rfl⟩,⟨rfl,rfl⟩,⟨rfl,rfl⟩,⟨rfl,rfl⟩,⟨rfl,rfl⟩,⟨rfl,rfl⟩,⟨rfl,rfl⟩,⟨rfl,rfl⟩,trivial⟩,⟨z27 rfl rfl,z27 rfl rfl,z41 rfl (z6 fun _=>rfl),trivial⟩⟩
 ·rw [z201 _ _ _ (by simp;omega),y60] at hi2
  subst hi2
  repeat' (first|(apply y80 ok;rfl;conv=>whnf)|(apply z7 (z308 a.ini (by omega));rfl;rfl;conv=>whnf))
  exact z96 [2] (by decide) rfl rfl rfl ⟨z41 rfl (z6 fun _=>rfl),trivial⟩
theorem z631 (g:Graph) (hg:GB g) (l:List Tree) (hl:z126 l) (a:Aut) (ha:AutP a):CallsA Tryz.prog 156 [.agg g.cs,lst 3 Tree.cs' l,.agg a.cs] [] (.tup [lst 1 encL (z60 g (g.st.map (z43 l)) a),ints a.ini]) []:=by
 have h:=z887 g hg l hl a ha
 have hlen:(z60 g (g.st.map (z43 l)) a).length=g.st.length * a.acc.length:=by unfold z60;rw [z134,Nat.mul_comm]
 refine h.lend [] [0] rfl rfl rfl ?_ z37
 show AC.tup [bor _ _ _ (.sref 0 0 _),bor _ _ _ (ints a.ini)]=_
 rw [z429 (w:=1) (es:=(z60 g (g.st.map (z43 l)) a).map z91) rfl rfl rfl (by rw [y44];exact hlen),z152,← hlen]
 rfl
theorem z888 (g:Graph) (hg:GB g) (ls:List Int) (a:Aut) (ha:AutP a):∀ row∈z60 g ls a,∀ x∈row,0≤x∧x < ((g.st.length * a.acc.length:Nat):Int):=by
 intro row hrow x hx
 unfold z60 build at hrow
 obtain ⟨r,_,rfl⟩:=List.mem_map.1 hrow
 obtain ⟨⟨p,v⟩,hp,rfl⟩:=List.mem_map.1 hx
 have hp:=(List.mem_filter.1 hp).1
 unfold z780 at hp
 obtain ⟨i,hi,hp⟩:=List.mem_flatMap.1 hp
 rw [y56] at hi
 unfold z782 at hp
 obtain ⟨to,hto,hp⟩:=List.mem_flatMap.1 hp
 unfold z781 at hp
 obtain ⟨e,he,hp⟩:=List.mem_flatMap.1 hp
 have hin:i < g.nx.length:=by have:=hg.2.1;omega
 rw [z13 hin] at hto
 obtain ⟨j,hj,rfl⟩:=List.mem_iff_getElem.1 hto
 have h1:=((hg.2.2 i hin hin hi).2.2.2 j hj hj).1
 have h2:=(ha.2.2.2 e he).2.1
 unfold z482 at hp
 split at hp
 ·simp only [y50,Prod.mk.injEq] at hp
  obtain ⟨_,rfl⟩:=hp
  have h3:0≤g.nx[i][j] * (a.acc.length:Int):=Int.mul_nonneg h1.1 (by omega)
  have h4:(g.nx[i][j]+1) * (a.acc.length:Int)≤g.st.length * a.acc.length:=Int.mul_le_mul_of_nonneg_right (by omega) (by omega)
  rw [Int.add_mul,Int.one_mul] at h4
  have e:((g.st.length * a.acc.length:Nat):Int)=(g.st.length:Int) * a.acc.length:=by simp
  rw [e]
  dsimp only
  omega
 ·simp at hp
theorem z783 (g:Graph) (hg:GB g) (ls:List Int) (a:Aut) (ha:AutP a):∀ row∈z60 g ls a,row.length≤7372800:=by
 intro row hrow
 obtain ⟨i,hi,rfl⟩:=List.mem_iff_getElem.1 hrow
 exact Nat.le_trans (z474 (N:=a.acc.length * g.st.length) (ps:=z780 g ls a) hi) (z779 g hg ls a ha)
def rk (ranks:List Int) (x:Int):Int:=ranks.getD x.toNat 0
def less (acc:Bool) (r:Int):Int:=if acc then r - 1 else r
def nodeP (row ranks:List Int) (rank:Int) (acc:Bool):Prop:=∀ x∈row,0≤rk ranks x∧rk ranks x≤less acc rank
instance {row ranks:List Int} {rank:Int} {acc:Bool} : Decidable (nodeP row ranks rank acc):=by unfold nodeP;infer_instance
def certP (rows:List (List Int)) (ini:List Int) (acc:List Bool) (N:Nat) (ranks:List Int):Prop :=
 ranks.length=N∧(∀ x∈ranks,-1≤x∧x≤4000)∧(∀ x∈ini,0≤rk ranks x)∧∀ i (h:i < ranks.length),0≤ranks[i]→nodeP (rows.getD i []) ranks ranks[i] (acc.getD (i % acc.length) false)
noncomputable instance {rows:List (List Int)} {ini:List Int} {acc:List Bool} {N:Nat} {ranks:List Int} : Decidable (certP rows ini acc N ranks):=Classical.propDecidable _
def Cert.mx (c:Cert):Prop:=c.ranks.length≤maxLen
theorem z373 (l:List Int) (hl:l.length≤1048576):CallsA Tryz.prog 106 [.sref 0 0 l.length] [.cells 1 (l.map enI)] (.sref 0 0 l.length) [.cells 1 (l.map enI)]:=by
 refine z12 z19 Tryz.func106 rfl rfl 9 Tryz.ntmps106 (by simp) ?_
 repeat' (first|(apply y80 ok;rfl;conv=>whnf)|(apply y38;(omega);conv=>whnf))
 exact z100 rfl (z6 fun _=>rfl) (by omega) rfl rfl
theorem z832 (l:List Int) (hl:l.length≤1048576):CallsA Tryz.prog 314 [ints l] [] (.sref 0 0 l.length) [.cells 1 (l.map enI)]:=by
 by_cases hp:0 < l.length
 ·exact z651 l hl hp
 ·obtain rfl:l=[]:=y69 (by omega)
  refine z221 (z215 Tryz.func314 rfl (by rfl)) fun ad cap=>?_
  cases ad with
  |none =>
   refine CallsA.nils (res:=.nils) (l:=[.cells 1 []]) ?_ (by simp) z402
   refine z12 z19 Tryz.func314 rfl rfl 8 Tryz.ntmps314 (by simp) ?_
   repeat' ((apply y80 ok;rfl;conv=>whnf))
   all_goals exact z56 rfl rfl rfl
  |some p =>
   refine z12 z19 Tryz.func314 rfl rfl 8 Tryz.ntmps314 (by simp) ?_
   repeat' (first|(apply y80 ok;rfl;conv=>whnf)|(apply y38;(omega);conv=>whnf))
   all_goals (exact z100 rfl z33 rfl rfl rfl)
theorem z412 (l:List Int) (hl:l.length≤1048576):CallsA Tryz.prog 225 [ints l] [] (.sref 0 0 l.length) [.cells 1 (l.map enI)]:=by
 refine z12 z19 Tryz.func225 rfl rfl 6 Tryz.ntmps225 (by simp) ?_
 repeat' (first|(apply y80 ok;rfl;conv=>whnf)|(apply z74 [] [] [0] (z832 l hl);rfl;(focus ((repeat' (exact z37))<;>(fail)));rfl;rfl;rfl;rfl;rfl;(focus ((repeat' (first|exact z18|apply z15))<;>((refine z23 ?_;((exact z6 (fun _=>rfl)))))));(exact .inl rfl);conv=>whnf)|(apply z74 [0] [] [] (z373 l hl);rfl;(focus ((repeat' (first|exact z37|apply z63))<;>((refine z83 rfl ?_;((exact z6 (fun _=>rfl)))))));rfl;rfl;rfl;rfl;rfl;(focus ((repeat' (first|exact z18|apply z15))<;>((refine z23 ?_;((exact z6 (fun _=>rfl)))))));(exact .inl rfl);conv=>whnf))
 exact z100 rfl (z6 fun _=>rfl) rfl rfl rfl
structure RI (rows:List (List Int)) (ini S L:List Int):Prop where
 inS:InN rows.length S
 sub:∀ x∈L,x∈S
 rp:∀ x∈S,RP rows ini x
 base:∀ x∈ini,x∈S
def Shut (rows:List (List Int)) (S:List Int) (x:Int):Prop:=∀ y∈rows.getD x.toNat [],y∈S
set_option maxHeartbeats 1600000 in
theorem z686 (rows:List (List Int)) (ini:List Int) (hr:∀ r∈rows,InN rows.length r) (hi:InN rows.length ini) (hN:rows.length≤1048576) (hrl:∀ r∈rows,r.length≤1000000000) (hil:ini.length≤1048576):CallsA Tryz.prog 171 [lst 1 encL rows,ints ini] [] (.sref 0 0 rows.length) [.cells 1 ((z252 rows ini).map enB)]:=by
 have c0:=z412 ini hil
 refine z12 z19 Tryz.func171 rfl rfl 64 Tryz.ntmps171 (by simp) ?_
 repeat' (first|(apply y80 ok;rfl;conv=>whnf)|(apply y38;((dsimp only;omega));conv=>whnf)|(apply z74 [] [] [1] (c0);rfl;(focus ((repeat' (exact z37))<;>(fail)));rfl;rfl;rfl;rfl;rfl;(focus ((repeat' (first|exact z18|apply z15))<;>((refine z23 ?_;((exact z6 (fun _=>rfl)))))));(exact .inl rfl);conv=>whnf))
 refine z92 (fun i:Nat=>([(0,lst 1 encL rows),(5,.sref 0 0 rows.length),(6,.sref 1 0 ini.length),(17,ints ini),(18,.int ini.length),(19,.int i)],[.cells 1 ((mkB rows.length (ini.take i)).map enB),.cells 1 (ini.map enI)])) (fun i=>i≤ini.length) (fun i=>ini.length - i) 0 (by omega) ⟨[0,1],rfl,by decide,rfl,⟨⟨rfl,rfl⟩,⟨rfl,rfl⟩,⟨rfl,rfl⟩,⟨rfl,rfl⟩,⟨rfl,rfl⟩,⟨rfl,rfl⟩,trivial⟩,⟨z41 (z67 (by rw [List.take_zero,mkB_nil,List.map_replicate];rfl)) (z6 fun _=>rfl),z41 rfl (z6 fun _=>rfl),trivial⟩⟩ ?_
 intro i hil2
 by_cases hil3:i < ini.length
 ·have hx:=hi ini[i] (y39 _)
  repeat' (first|(apply y80 ok;rfl;conv=>whnf)|(refine z1201 (enc:=enB) (v:=ini[i]) (by rfl) hx.1 hx.2 ?_;conv=>whnf)|(apply y38;(first|omega|(unfold inI;omega));conv=>whnf)|(with_reducible apply z14;omega;intro _;conv=>whnf)|(apply z8<;>intro _<;>conv=>whnf))
  all_goals try (exfalso;omega)
  exact z80 (i+1) [0,1] (by omega) (by omega) ⟨rfl,by decide,rfl,⟨⟨rfl,rfl⟩,⟨rfl,rfl⟩,⟨rfl,rfl⟩,⟨rfl,rfl⟩,⟨rfl,rfl⟩,⟨rfl,rfl⟩,trivial⟩,⟨z41 (z67 (z1129 (enc:=enB) (by rfl) hx.1 hx.2 fun x=>by rw [y45 hil3,y49,y50])) (z6 fun _=>rfl),z41 rfl (z6 fun _=>rfl),trivial⟩⟩
 repeat' (first|(apply y80 ok;rfl;conv=>whnf)|(apply y38;(omega);conv=>whnf)|(with_reducible apply z14;omega;intro _;conv=>whnf)|(apply z14;omega;intro _;conv=>whnf)|(apply z8<;>intro _<;>conv=>whnf))
 all_goals try (exfalso;omega)
 obtain rfl:i=ini.length:=by omega
 rw [y51]
 refine z92 (fun x:List Int×List Int×List Int=>([(0,lst 1 encL rows),(5,.sref 0 0 rows.length),(6,.sref 1 0 x.2.1.length)],[.cells 1 ((mkB rows.length x.1).map enB),.cells 1 ((x.2.1++x.2.2).map enI)])) (fun x=>RI rows ini x.1 x.2.1∧(∀ v∈x.1,v ∉ x.2.1→Shut rows x.1 v)∧2 * cntU rows.length x.1+x.2.1.length≤2 * rows.length+ini.length) (fun x=>2 * cntU rows.length x.1+x.2.1.length) (ini,ini,[]) ⟨⟨hi,fun _ h=>h,fun _ h=>.base h,fun _ h=>h⟩,fun v h h'=>absurd h h',by have:=z1068 rows.length ini;dsimp only;omega⟩ ⟨[0,1],rfl,by decide,rfl,⟨⟨rfl,rfl⟩,⟨rfl,rfl⟩,⟨rfl,rfl⟩,trivial⟩,⟨z41 rfl (z6 fun _=>rfl),z41 (z67 (by rw [y60])) (z6 fun _=>rfl),trivial⟩⟩ ?_
 rintro ⟨S,L,J⟩ ⟨hRI,hsh,hLl⟩
 dsimp only at hRI hsh hLl ⊢
 rcases List.eq_nil_or_concat L with rfl|⟨L,x,rfl⟩
 ·repeat' ((apply y80 ok;rfl;conv=>whnf))
  refine z273 rfl (z6 fun _=>rfl) rfl ?_
  rw [z1146]
  intro v _
  refine ⟨fun h=>hRI.rp _ h,fun h=>?_⟩
  generalize (v:Int)=u at h
  induction h with
  |base h=>exact hRI.base _ h
  |step _ h2 ih=>exact hsh _ ih (by simp) _ h2
 ·rw [List.concat_eq_append] at *
  have hxS:x∈S:=hRI.sub x (by simp)
  have hx:=hRI.inS x hxS
  have e:(L++[x]).length=L.length+1:=by simp
  have hxr:x.toNat < rows.length:=by omega
  rw [e] at hLl
  rw [e,List.append_assoc,List.singleton_append]
  have hg:((L++x::J).map enI)[L.length]?=some (enI x):=by simp
  have hrow:rows.getD x.toNat []=rows[x.toNat]:=z13 hxr
  have hrin:InN rows.length rows[x.toNat]:=hr _ (y39 _)
  have hrl2:=hrl rows[x.toNat] (y39 _)
  repeat' (first|(apply y80 ok;rfl;conv=>whnf)|(refine z20 (i:=L.length) (by omega) hg ?_;conv=>whnf)|(apply y38;(first|omega|(unfold inI;omega));conv=>whnf)|(with_reducible apply z140;omega;intro _;conv=>whnf)|(apply z8<;>intro _<;>conv=>whnf))
  all_goals try (exfalso;omega)
  generalize hrw:rows[x.toNat]=row at *
  refine z92 (fun y:List Int×List Int×List Int×Nat=>([(0,lst 1 encL rows),(5,.sref 0 0 rows.length),(6,.sref 1 0 y.2.1.length),(44,ints row),(45,.int row.length),(46,.int y.2.2.2)],[.cells 1 ((mkB rows.length y.1).map enB),.cells 1 ((y.2.1++y.2.2.1).map enI)])) (fun y=>RI rows ini y.1 y.2.1∧(∀ v∈y.1,v ∉ y.2.1→v≠x→Shut rows y.1 v)∧(∀ v∈row.take y.2.2.2,v∈y.1)∧y.2.2.2≤row.length∧2 * cntU rows.length y.1+y.2.1.length≤2 * cntU rows.length S+L.length) (fun y=>row.length - y.2.2.2) (S,L,x::J,0) ⟨⟨hRI.inS,fun v hv=>hRI.sub v (by simp [hv]),hRI.rp,hRI.base⟩,fun v hv hv' hne=>hsh v hv (by simp [hv',hne]),fun v hv=>by simp at hv,y48 _,y47 _⟩ ⟨[0,1],rfl,by decide,rfl,⟨⟨rfl,rfl⟩,⟨rfl,rfl⟩,⟨rfl,z329 (by dsimp only;omega) rfl⟩,⟨rfl,rfl⟩,⟨rfl,rfl⟩,⟨rfl,rfl⟩,trivial⟩,⟨z41 rfl (z6 fun _=>rfl),z41 rfl (z6 fun _=>rfl),trivial⟩⟩ ?_
  rintro ⟨S',L',J',i⟩ ⟨h1,h2,h3,h4,h5⟩
  dsimp only at h1 h2 h3 h4 h5 ⊢
  by_cases hil4:i < row.length
  ·have hy:=hrin row[i] (y39 _)
   repeat' (first|(apply y80 ok;rfl;conv=>whnf)|(refine z1201 (enc:=enB) (v:=row[i]) (by rfl) hy.1 hy.2 ?_;conv=>whnf)|(apply y38;(first|omega|(unfold inI;omega)|((try dsimp only);simp only [y44,y43,y42,y41,y53,y54];omega)|exact ⟨rfl,z24 rfl z31⟩);conv=>whnf)|(with_reducible apply z14;omega;intro _;conv=>whnf)|(apply z8<;>intro _<;>conv=>whnf)|(apply z34<;>intro _<;>conv=>whnf))
   all_goals try (exfalso;omega)
   ·rename_i hn
    have hn:row[i] ∉ S':=by simpa using hn
    have hc:=cntU_lt (S:=S') (S':=S'++[row[i]]) (fun v hv=>by simp [hv]) hn (by simp) rows.length hy.1 hy.2
    refine z80 (S'++[row[i]],L'++[row[i]],[],i+1) [0,3] ⟨⟨fun v hv=>?_,fun v hv=>?_,fun v hv=>?_,fun v hv=>by simp [h1.base v hv]⟩,fun v hv hv' hne=>?_,fun v hv=>?_,by dsimp only;omega,?_⟩ (by dsimp only;omega) ⟨rfl,by decide,rfl,⟨⟨rfl,rfl⟩,⟨rfl,rfl⟩,⟨rfl,z329 (by simp) rfl⟩,⟨rfl,rfl⟩,⟨rfl,rfl⟩,⟨rfl,rfl⟩,trivial⟩,⟨z41 (z67 (z1129 (enc:=enB) (by rfl) hy.1 hy.2 fun v=>by simp)) (z6 fun _=>rfl),z41 (z67 ?_) (z6 fun _=>rfl),trivial⟩⟩
    ·rcases List.mem_append.1 hv with hv|hv
     ·exact h1.inS v hv
     ·rw [List.mem_singleton.1 hv];exact hy
    ·rcases List.mem_append.1 hv with hv|hv
     ·exact List.mem_append_left _ (h1.sub v hv)
     ·exact List.mem_append_right _ hv
    ·rcases List.mem_append.1 hv with hv|hv
     ·exact h1.rp v hv
     ·rw [List.mem_singleton.1 hv];exact .step (hRI.rp x hxS) (by rw [hrow];exact y39 _)
    ·dsimp only at hv hv'
     rcases List.mem_append.1 hv with hv|hv
     ·exact fun y hy=>List.mem_append_left _ (h2 v hv (fun h=>hv' (List.mem_append_left _ h)) hne y hy)
     ·exact absurd (List.mem_append_right _ hv) hv'
    ·dsimp only at hv ⊢
     rw [y45 hil4] at hv
     rcases List.mem_append.1 hv with hv|hv
     ·exact List.mem_append_left _ (h3 v hv)
     ·exact List.mem_append_right _ hv
    ·dsimp only
     rw [y42]
     simp only [List.length_singleton]
     omega
    ·dsimp only
     rw [y60,y59,y59,List.take_append_of_le_length (by simp),y52 (by simp)]
     rfl
   ·refine z80 (S',L',J',i+1) [0,1] ⟨h1,h2,fun v hv=>?_,by dsimp only;omega,h5⟩ (by dsimp only;omega) ⟨rfl,by decide,rfl,⟨⟨rfl,rfl⟩,⟨rfl,rfl⟩,⟨rfl,rfl⟩,⟨rfl,rfl⟩,⟨rfl,rfl⟩,⟨rfl,rfl⟩,trivial⟩,⟨z41 rfl (z6 fun _=>rfl),z41 rfl (z6 fun _=>rfl),trivial⟩⟩
    dsimp only at hv ⊢
    rw [y45 hil4] at hv
    rcases List.mem_append.1 hv with hv|hv
    ·exact h3 v hv
    ·rw [List.mem_singleton.1 hv];assumption
  ·repeat' (first|(apply y80 ok;rfl;conv=>whnf)|(apply y38;(omega);conv=>whnf)|(with_reducible apply z14;omega;intro _;conv=>whnf)|(apply z14;omega;intro _;conv=>whnf)|(apply z8<;>intro _<;>conv=>whnf)|(apply z102<;>intro _<;>conv=>whnf))
   all_goals try (exfalso;omega)
   have hie:i=row.length:=by omega
   refine z80 (S',L',J') [0,1] ⟨h1,fun v hv hv'=>?_,by dsimp only;omega⟩ (by dsimp only;rw [e];omega) ⟨rfl,by decide,rfl,⟨⟨rfl,rfl⟩,⟨rfl,rfl⟩,⟨rfl,rfl⟩,trivial⟩,⟨z41 rfl (z6 fun _=>rfl),z41 rfl (z6 fun _=>rfl),trivial⟩⟩
   by_cases hvx:v=x
   ·subst hvx
    intro y hy
    rw [hrow] at hy
    exact h3 y (by rw [hie,y51];exact hy)
   ·exact h2 v hv hv' hvx
theorem z638 (k:Int):CallsA Tryz.prog 309 [.int k] [] (.int (z190 k)) []:=by
 refine z12 z19 Tryz.func309 rfl rfl 17 Tryz.ntmps309 (by simp) ?_
 repeat' (first|(apply y80 ok;rfl;conv=>whnf)|(apply z8<;>intro _<;>conv=>whnf))
 all_goals (refine z56 rfl rfl ?_;unfold z190;first|(rw [if_pos (by omega)];rfl)|(rw [if_neg (by omega),if_pos (by omega)];rfl)|(rw [if_neg (by omega),if_neg (by omega),if_pos (by omega)];rfl)|(rw [if_neg (by omega),if_neg (by omega),if_neg (by omega)];rfl))
theorem z877 (l:List Tree) (d:Int):Tree.shapeFs l d=l.all (fun t=>t.shapeF d):=by
 induction l with
 |nil=>rfl
 |cons t l ih=>simp [Tree.shapeFs,ih]
theorem z389 (t:Tree) (d:Int):t.shapeF d=(decide (1≤d∧(t.kids.length:Int)=z190 t.kind∧0≤t.val∧t.val≤z403 t.kind) && t.kids.all fun t=>t.shapeF (d - 1)):=by
 cases t;simp only [Tree.shapeF,Tree.kids,Tree.kind,Tree.val,z877];rfl
theorem z1042 (t:Tree):t.mx→∀ d:Int,-100≤d→d≤100→CallsA Tryz.prog 210 [z44 Tree.cs' t,.int d] [] (.bool (t.shapeF d)) []:=by
  induction t using y24 with|h t ih=>?_
  intro hm d h0 h1
  rw [y25] at hm
  have hl:=hm.1
  unfold maxLen at hl
  rw [y14,z389]
  refine z12 z19 Tryz.func210 rfl rfl 51 Tryz.ntmps210 (by simp) ?_
  repeat' (first|(apply y80 ok;rfl;conv=>whnf)|(apply z35;kernel_rfl;conv=>whnf)|(apply z8<;>intro _<;>conv=>whnf)|(apply z34<;>intro _<;>conv=>whnf)|(apply z7 (z638 _);rfl;rfl;conv=>whnf))
  all_goals first
    | (refine z25 rfl ?_
       rw [y78]
       · rfl
       · clear ih
         rintro ⟨c1,c2,c3,c4⟩
         unfold z403 at c4
         grind)
    | (have hg : decide (1 ≤ d ∧ (t.kids.length : Int) = z190 t.kind ∧ 0 ≤ t.val ∧ t.val ≤ z403 t.kind) = true := by
         clear ih
         refine y77 ?_
         unfold z403
         grind
       rw [hg,Bool.true_and]
       refine z92 (fun k:Nat=>([(1,.int d),(2,.ptr 0 none 0),(5,.int k)],[.cells 3 [[.int t.kind,.int t.val,lst 3 Tree.cs' t.kids]]])) (fun k=>k≤t.kids.length∧(t.kids.all fun t=>t.shapeF (d - 1))=(t.kids.drop k).all fun t=>t.shapeF (d - 1)) (fun k=>t.kids.length - k) 0 ⟨by omega,rfl⟩ ⟨[0],rfl,by decide,rfl,by repeat' (first|exact True.intro|exact ⟨rfl,rfl⟩|apply y38),by repeat' (first|exact True.intro|exact z27 rfl rfl|apply y38)⟩ ?_
       intro k hk
       repeat' (first|(apply y80 ok;rfl;conv=>whnf)|(apply y38;(first|omega|(unfold inI;omega));conv=>whnf)|(with_reducible apply z14;omega;intro _;conv=>whnf)|(apply z8<;>intro _<;>conv=>whnf)|(apply z102<;>intro _<;>conv=>whnf)|(apply z7 (ih t.kids[k] (y39 _) (hm.2 _ (y39 _)) (d - 1) (by omega) (by omega));rfl;rfl;conv=>whnf))
       · rename_i h1
         exact z25 rfl (by rw [hk.2,z162 _ _ _ (by assumption)];simp [h1])
       · rename_i h1
         exact z80 (k+1) [0] ⟨by omega,by rw [hk.2,z162 _ _ _ (by assumption)];simp [h1]⟩ (by omega) ⟨rfl,by decide,rfl,by repeat' (first|exact True.intro|exact ⟨rfl,rfl⟩|apply y38),by repeat' (first|exact True.intro|exact z27 rfl rfl|apply y38)⟩
       · exact z25 rfl (by rw [hk.2,z155 _ _ _ (by omega)]))
theorem z1226 (t:Tree):∀ d n:Nat,t.shapeF d=true→t.count n≤2 ^ d - 1:=by
 induction t using y24 with|h t ih=>?_
 intro d n h
 rw [z389,y66,decide_eq_true_eq] at h
 obtain ⟨⟨h1,h2,_,_⟩,h3⟩:=h
 rw [y74] at h3
 obtain ⟨d,rfl⟩:∃ e,d=e+1:=⟨d - 1,by omega⟩
 have e:((d+1:Nat):Int) - 1=(d:Nat):=by omega
 rw [e] at h3
 rw [z514]
 have hp:(1:Int)≤2 ^ d:=by exact_mod_cast Nat.one_le_two_pow
 have hq:((2:Int) ^ (d+1))=2 * 2 ^ d:=by rw [Int.pow_succ];omega
 split
 ·rename_i hn
  obtain ⟨n,rfl⟩:∃ e,n=e+1:=⟨n - 1,by omega⟩
  have e:((n+1:Nat):Int) - 1=(n:Nat):=by omega
  rw [e]
  have hl:(t.kids.length:Int)≤2:=by rw [h2];unfold z190;grind
  have hk:∀ u∈t.kids,u.count n≤2 ^ d - 1:=fun u hu=>ih u hu d n (h3 u hu)
  match hkk:t.kids with
  |[]=>simp only [List.map_nil,List.sum_nil];omega
  |[a] =>
   have:=hk a (by simp [hkk])
   simp only [List.map_cons,List.map_nil,List.sum_cons,List.sum_nil];omega
  |[a,b] =>
   have:=hk a (by simp [hkk])
   have:=hk b (by simp [hkk])
   simp only [List.map_cons,List.map_nil,List.sum_cons,List.sum_nil];omega
  |a::b::c::r=>rw [hkk] at hl;simp only [y53] at hl;omega
 ·omega
theorem z828 (t:Tree) (e d:Int) (he:e≤50) (hd:0≤d) (h:t.shapeF e=true):t.count d≤2 ^ 50:=by
 have h1:1≤e:=by
  rw [z389,y66,decide_eq_true_eq] at h;exact h.1.1
 obtain ⟨n,rfl⟩:=Int.eq_ofNat_of_zero_le (show 0≤e by omega)
 obtain ⟨m,rfl⟩:=Int.eq_ofNat_of_zero_le hd
 have h2:=z1226 t n m h
 have h4:(2:Int) ^ n≤2 ^ 50:=by exact_mod_cast Nat.pow_le_pow_right (by omega) (by omega)
 omega
theorem z1043 (t:Tree):t.mx→∀ e d:Int,e≤50→0≤d→d≤50→t.shapeF e=true→CallsA Tryz.prog 211 [z44 Tree.cs' t,.int d] [] (.int (t.count d)) []:=by
 induction t using y24 with|h t ih=>?_
 intro hm e d h0 h1 h2 hs
 rw [y25] at hm
 rw [z389,y66,decide_eq_true_eq,y74] at hs
 obtain ⟨⟨hs1,hs2,_,_⟩,hs3⟩:=hs
 have hl:(t.kids.length:Int)≤2:=by rw [hs2];unfold z190;grind
 rw [y14,z514]
 have hb:0 < d→∀ k,k≤t.kids.length→0≤((t.kids.take k).map fun t=>t.count (d - 1)).sum∧((t.kids.take k).map fun t=>t.count (d - 1)).sum≤k * 2 ^ 50:=by
  intro hd k
  induction k with
  |zero=>intro _;simp
  |succ k ihk =>
   intro hk
   have h1:=ihk (by omega)
   rw [z490 _ _ _ (by omega)]
   have h2:=z828 t.kids[k] (e - 1) (d - 1) (by omega) (by omega) (hs3 _ (y39 _))
   have h3:=Tree.count_pos.1 t.kids[k] (d - 1)
   omega
 refine z12 z19 Tryz.func211 rfl rfl 29 Tryz.ntmps211 (by simp) ?_
 repeat' ((apply y80 ok;rfl;conv=>whnf))
 by_cases hd:0 < d
 ·rw [if_pos hd]
  refine z92 (fun k:Nat=>([(1,.int d),(2,.ptr 0 none 0),(5,.int (1+((t.kids.take k).map fun t=>t.count (d - 1)).sum)),(6,.int k)],[.cells 3 [[.int t.kind,.int t.val,lst 3 Tree.cs' t.kids]]])) (fun k=>k≤t.kids.length) (fun k=>t.kids.length - k) 0 (by omega) ⟨[0],rfl,by decide,rfl,by repeat' (first|exact True.intro|exact ⟨rfl,rfl⟩|apply y38),by repeat' (first|exact True.intro|exact z27 rfl rfl|apply y38)⟩ ?_
  intro k hk
  have hbk:=hb hd k hk
  have hbk1:=fun h=>hb hd (k+1) h
  have hss:=fun h=>z490 (fun t=>t.count (d - 1)) t.kids k h
  repeat' (first|(apply y80 ok;rfl;conv=>whnf)|(apply y38;(first|omega|(unfold inI;omega));conv=>whnf)|(with_reducible apply z14;omega;intro _;conv=>whnf)|(apply z8<;>intro _<;>conv=>whnf)|(apply z7 (ih t.kids[k] (y39 _) (hm.2 _ (y39 _)) (e - 1) (d - 1) (by omega) (by omega) (by omega) (hs3 _ (y39 _)));rfl;rfl;conv=>whnf))
  ·have e1:=hss ‹_›
   have e2:=hbk1 (by omega)
   refine y38 (by unfold inI;omega) ?_
   conv=>whnf
   repeat' (first|(apply y80 ok;rfl;conv=>whnf)|(apply y38;((unfold inI;omega));conv=>whnf))
   exact z80 (k+1) [0] (by omega) (by omega) ⟨rfl,by decide,rfl,⟨⟨rfl,rfl⟩,⟨rfl,rfl⟩,⟨rfl,by rw [e1,← Int.add_assoc];rfl⟩,⟨rfl,rfl⟩,trivial⟩,⟨z27 rfl rfl,trivial⟩⟩
  ·omega
  ·obtain rfl:k=t.kids.length:=by omega
   exact z56 rfl rfl (by rw [y51];rfl)
 ·rw [if_neg hd]
  refine z92 (fun k:Nat=>([(1,.int d),(2,.ptr 0 none 0),(5,.int 1),(6,.int k)],[.cells 3 [[.int t.kind,.int t.val,lst 3 Tree.cs' t.kids]]])) (fun k=>k≤t.kids.length) (fun k=>t.kids.length - k) 0 (by omega) ⟨[0],rfl,by decide,rfl,by repeat' (first|exact True.intro|exact ⟨rfl,rfl⟩|apply y38),by repeat' (first|exact True.intro|exact z27 rfl rfl|apply y38)⟩ ?_
  intro k hk
  repeat' (first|(apply y80 ok;rfl;conv=>whnf)|(apply y38;(omega);conv=>whnf)|(with_reducible apply z14;omega;intro _;conv=>whnf)|(apply z8<;>intro _<;>conv=>whnf))
  ·omega
  ·exact z56 rfl rfl rfl
  ·exact z56 rfl rfl rfl
theorem z602 (t:Tree) (hm:t.mx):CallsA Tryz.prog 91 [z44 Tree.cs' t] [] (.bool t.fmB) []:=by
 rw [y18]
 refine z12 z19 Tryz.func91 rfl rfl 10 Tryz.ntmps91 (by simp) ?_
 repeat' (first|(apply y80 ok;rfl;conv=>whnf)|(apply z106<;>intro _<;>conv=>whnf)|(apply z7 (z1042 t hm 6 (by omega) (by omega));rfl;rfl;conv=>whnf)|(apply z7 (z1043 t hm 6 6 (by omega) (by omega) (by omega) (by assumption));rfl;rfl;conv=>whnf))
 all_goals (refine z25 rfl ?_;(simp [*];done))
end Go.Proofs.YtnpclplponhppaaGreat
namespace Go.Proofs.YtnpclplponhppaaGreat
open Go.Gl
attribute [local irreducible] z21 AWP z36 z42 z39 RetS z47
theorem z562:CallsA Tryz.prog 195 [] [] (.agg [.int 1,.int 0,.list 3 0 []]) []:=by
 refine z10 z19 Tryz.func195 rfl rfl 2 Tryz.ntmps195 (by simp) ?_
 repeat' (((apply y80 ok;rfl))<;>conv=>whnf)
 all_goals (refine rsD [] [] rfl ?_;(repeat' first|exact y82 _|exact z58|apply z62|constructor))
set_option maxHeartbeats 1600000 in
theorem z900 (bs:List Int) (hb:BytesOk bs):∀ (n:Nat) (d p:Int),d≤n+1→n≤100→0≤d→0≤p→p+drK n≤1000000000→∃ (t:Tree) (p' : Int),(t.sz≤drS n∧p≤p'∧p'≤p+drK n)∧CallsA Tryz.prog 196 [.ptr 0 none 0,.int d] [rdO bs p] (z44 Tree.cs' t) [rdO bs p']:=by
 intro n
 induction n with
 |zero =>
  intro d p hd hd1 hd0 hp hq
  rw [drK] at hq ⊢
  obtain ⟨v0,⟨l0,u0⟩,c0⟩:=z72 bs hb p 8 (by omega) (by omega) (by omega)
  by_cases h0:v0=0
  ·subst h0
   refine ⟨leaf 1 0,p+1,⟨by rw [z99];omega,by omega,by omega⟩,?_⟩
   refine z10 z19 Tryz.func196 rfl rfl 43 Tryz.ntmps196 (by simp) ?_
   repeat' ((first|(apply y80 ok;rfl)|((apply z8)<;>intro _)|(apply z7 (z562);rfl;rfl)|(apply z30 [0] [] c0;rfl;rfl;rfl))<;>conv=>whnf)
   all_goals try (exfalso;omega)
   all_goals (refine rsD [0] [] rfl ?_;(repeat' first|exact y82 _|apply y83|constructor))
  ·obtain ⟨v1,m1,c1⟩:=z113 bs hb (p+1) (by omega) (by omega) [0,1,0,2] (by decide) (by decide)
   refine ⟨leaf 2 v1,p+1+1,⟨by rw [z99];omega,by omega,by omega⟩,?_⟩
   refine z10 z19 Tryz.func196 rfl rfl 43 Tryz.ntmps196 (by simp) ?_
   repeat' ((first|(apply y80 ok;rfl)|((apply z8)<;>intro _)|((first|(apply z11 [0] [] c0;rfl;rfl)|(apply z11 [0,2] [] c1;rfl;rfl));rfl;(focus ((repeat' first|exact z18|apply z15)<;>first|exact z50 rfl rfl|(refine z23 ?_;((exact z6 fun _=>rfl)))))))<;>conv=>whnf)
   all_goals try (exfalso;omega)
   all_goals (refine rsD [0] [] rfl ?_;(repeat' first|exact y82 _|exact z58|apply y83|apply z62|constructor))
 |succ n ih =>
  intro d p hd hd1 hd0 hp hq
  have hK:=z1222 n
  by_cases hlt:d < 2
  ·obtain ⟨t,p',h1,h2⟩:=ih d p (by omega) (by omega) hd0 hp (by rw [drK] at hq;omega)
   exact ⟨t,p',⟨by rw [drS];omega,h1.2.1,by rw [drK];omega⟩,h2⟩
  rw [drK] at hq
  rw [drK,drS]
  obtain ⟨w,⟨lw,uw⟩,cw⟩:=z72 bs hb p 5 (by omega) (by omega) (by omega)
  by_cases hw:w=0
  ·subst hw
   obtain ⟨v0,⟨l0,u0⟩,c0⟩:=z72 bs hb (p+1) 8 (by omega) (by omega) (by omega)
   by_cases h0:v0=0
   ·subst h0
    refine ⟨leaf 1 0,p+1+1,⟨by rw [z99];omega,by omega,by omega⟩,?_⟩
    refine z10 z19 Tryz.func196 rfl rfl 43 Tryz.ntmps196 (by simp) ?_
    repeat' ((first|(apply y80 ok;rfl)|((apply z8)<;>intro _)|(apply z7 (z562);rfl;rfl)|((first|(apply z30 [0] [] cw;rfl;rfl)|(apply z30 [0] [] c0;rfl;rfl));rfl))<;>conv=>whnf)
    all_goals try (exfalso;omega)
    all_goals (refine rsD [0] [] rfl ?_;(repeat' first|exact y82 _|apply y83|constructor))
   ·obtain ⟨v1,m1,c1⟩:=z113 bs hb (p+1+1) (by omega) (by omega) [0,1,0,2] (by decide) (by decide)
    refine ⟨leaf 2 v1,p+1+1+1,⟨by rw [z99];omega,by omega,by omega⟩,?_⟩
    refine z10 z19 Tryz.func196 rfl rfl 43 Tryz.ntmps196 (by simp) ?_
    repeat' ((first|(apply y80 ok;rfl)|((apply z8)<;>intro _)|((first|(apply z11 [0] [] cw;rfl;rfl)|(apply z11 [0] [] c0;rfl;rfl)|(apply z11 [0,2] [] c1;rfl;rfl));rfl;(focus ((repeat' first|exact z18|apply z15)<;>first|exact z50 rfl rfl|(refine z23 ?_;((exact z6 fun _=>rfl)))))))<;>conv=>whnf)
    all_goals try (exfalso;omega)
    all_goals (refine rsD [0] [] rfl ?_;(repeat' first|exact y82 _|exact z58|apply y83|apply z62|constructor))
  ·obtain ⟨kd,mk,ck⟩:=z113 bs hb (p+1) (by omega) (by omega) [7,9,10,3,4,5,6,8] (by decide) (by decide)
   have ca:=z638 kd
   have ham:∃ m:Nat,z190 kd=m∧m≤2:=by
    simp only [List.mem_cons,List.not_mem_nil,or_false] at mk
    unfold z190
    rcases mk with rfl|rfl|rfl|rfl|rfl|rfl|rfl|rfl
    all_goals first|exact ⟨2,rfl,by omega⟩|exact ⟨1,rfl,by omega⟩
   obtain ⟨m,em,hm⟩:=ham
   rw [em] at ca
   obtain ⟨ks,pf,hks,hp0,hst,hpf⟩:=z391 (fun k q (t:Tree) q'=>t.sz≤drS n∧CallsA Tryz.prog 196 [.ptr 0 none 0,.int (d - 1)] [rdO bs q] (z44 Tree.cs' t) [rdO bs q']) (p+1+1) (drK n) m (fun k q hk h1 h2=>by
    have:drK n * k≤drK n:=by
     have:k=0∨k=1:=by omega
     rcases this with rfl|rfl<;>simp<;>omega
    obtain ⟨t,q',⟨a1,a2,a3⟩,a4⟩:=ih (d - 1) q (by omega) (by omega) (by omega) (by omega) (by omega)
    exact ⟨t,q',⟨a1,a4⟩,a2,a3⟩)
   have hpm:=hpf m (y47 _)
   have hKm:drK n * m≤2 * drK n:=by
    have:m=0∨m=1∨m=2:=by omega
    rcases this with rfl|rfl|rfl<;>simp<;>omega
   have hsum:(ks.map Tree.sz).sum≤2 * drS n:=by
    have:∀ (l:List Tree),(∀ t∈l,t.sz≤drS n)→(l.map Tree.sz).sum≤l.length * drS n:=by
     intro l
     induction l with
     |nil=>intro _;simp
     |cons t l ih =>
      intro h
      have h1:=h t (by simp)
      have h2:=ih fun u hu=>h u (by simp [hu])
      simp only [List.map_cons,List.sum_cons,y53,Nat.add_mul]
      omega
    have h1:=this ks fun t ht=>by
     obtain ⟨i,hi,rfl⟩:=List.mem_iff_getElem.1 ht
     exact (hst i hi).1
    have h2:ks.length * drS n≤2 * drS n:=Nat.mul_le_mul_right _ (by omega)
    omega
   refine ⟨.mk kd 0 ks,pf m,⟨by rw [z255];omega,by omega,by omega⟩,?_⟩
   refine z10 z19 Tryz.func196 rfl rfl 43 Tryz.ntmps196 (by simp) ?_
   rw [← hp0] at ck
   repeat' ((first|(apply y80 ok;rfl)|((apply z8)<;>intro _)|(apply z7 (ca);rfl;rfl)|((first|(apply z11 [0] [] cw;rfl;rfl)|(apply z11 [0,2] [] ck;rfl;rfl));rfl;(focus ((repeat' first|exact z18|apply z15)<;>first|exact z50 rfl rfl|(refine z23 ?_;((exact z6 fun _=>rfl)))))))<;>conv=>whnf)
   all_goals try (exfalso;omega)
   refine y81 (y84 3 rfl) ?_
   refine z84 (fun k:Nat=>([(0,.ptr 0 none 0),(1,.int d),(4,.ptr 1 none 0),(5,.ptr 2 none 0),(6,.int (m - k))],[rdO bs (pf k),.cells 3 [[.int 0,.int 0,.nils]],.cells 3 [[.int kd,.int 0,.sref 3 0 k]],.cells 3 ((ks.take k).map Tree.cs')])) (fun k=>k≤m) (fun k=>m - k) 0 (by omega) (by refine swR [0,1,3,4] [] rfl rfl ?_;(repeat' first|exact y82 _|exact z55|apply y83|refine z16 rfl (z33) ?_|constructor)) ?_
   intro k hk
   by_cases hkm:k < m
   ·have hc:=(hst k (by omega)).2
    have hkl:k < ks.length:=by omega
    rw [y14] at hc
    repeat' ((first|(apply y80 ok;rfl)|(apply z35;kernel_rfl)|(apply y38;first|(unfold inI;omega)|((try dsimp only);simp only [y44,y43,y42,y41,y53,y54];omega)|exact ⟨rfl,z24 rfl z31⟩)|((apply z8)<;>intro _)|(apply z30 [0] [] hc;rfl;rfl;rfl))<;>conv=>whnf)
    all_goals try (exfalso;omega)
    refine z45 (k+1) (by omega) (by omega) (by refine swR [0,1,2,5] [] rfl rfl ?_;(repeat' first|exact y82 _|exact z349|(refine z153 ?_;omega)|apply y83|((refine z48 rfl ?_ ?_);(focus ((repeat' (first|exact z6 (fun _=>rfl)|apply z32));done)))|refine z136 (by omega) (by omega) ?_|(apply z85;rfl)|constructor))
   ·have:k=m:=by omega
    subst this
    repeat' ((first|(apply y80 ok;rfl)|(apply y38;omega)|((apply z8)<;>intro _))<;>conv=>whnf)
    all_goals try (exfalso;omega)
    all_goals (refine rsD [0] [3] rfl ?_;(repeat' first|exact y82 _|(refine z565 ?_;omega)|apply y83|((apply z49 rfl rfl rfl);(focus ((repeat ((exact z38 (fun _=>rfl) _)));done));(focus (((simp;omega));done)))|apply z62|constructor))
theorem z799 (bs:List Int) (hb:BytesOk bs) (p:Int) (hp:few p):∃ (t:Tree) (p' : Int),(t.sz≤20∧p≤p'∧p'≤p+100)∧CallsA Tryz.prog 81 [.ptr 0 none 0] [rdO bs p] (z44 Tree.cs' t) [rdO bs p']:=by
 obtain ⟨d,md,cd⟩:=z113 bs hb p (by omega) (by omega) [3,2,4,3] (by decide) (by decide)
 have hd:0≤d∧d≤4:=by simp at md;omega
 obtain ⟨t,q,⟨t1,t2,t3⟩,ct⟩:=z900 bs hb 3 d (p+1) (by omega) (by omega) (by omega) (by omega) (by simp only [drK];omega)
 simp only [drK] at t3
 simp only [drS] at t1
 have cv:=z602 t (z125 t (by unfold maxLen;omega))
 by_cases hv:t.fmB=true
 ·refine ⟨t,q,⟨by omega,by omega,by omega⟩,?_⟩
  rw [hv] at cv
  rw [y14] at *
  refine z10 z19 Tryz.func81 rfl rfl 15 Tryz.ntmps81 (by simp) ?_
  repeat' ((first|(apply y80 ok;rfl)|(apply z7 (cv);rfl;rfl)|((first|(apply z11 [0,2] [] cd;rfl;rfl)|(apply z11 [0] [] ct;rfl;rfl));rfl;(focus ((repeat' first|exact z18|apply z15)<;>first|exact z50 rfl rfl|(refine z23 ?_;((exact z6 fun _=>rfl)))))))<;>conv=>whnf)
  all_goals (refine rsD [0] [] rfl ?_;(repeat' first|exact y82 _|apply y83|constructor))
 ·refine ⟨.mk 10 0 [leaf 2 0],q,⟨by rw [z255];simp [z99],by omega,by omega⟩,?_⟩
  rw [(y67 _).mp hv] at cv
  rw [y14] at cv ct
  refine z10 z19 Tryz.func81 rfl rfl 15 Tryz.ntmps81 (by simp) ?_
  repeat' ((first|(apply y80 ok;rfl)|(apply z7 (cv);rfl;rfl)|((first|(apply z11 [0,2] [] cd;rfl;rfl)|(apply z11 [0] [] ct;rfl;rfl));rfl;(focus ((repeat' first|exact z18|apply z15)<;>first|exact z50 rfl rfl|(refine z23 ?_;((exact z6 fun _=>rfl)))))))<;>conv=>whnf)
  all_goals (refine rsD [0] [4] rfl ?_;(repeat' first|exact y82 _|exact z58|apply y83|refine z49 rfl rfl rfl rfl rfl ?_|apply z62|(apply z85;rfl)|constructor))
theorem argU (k v:Int) (a:Tree):z44 Tree.cs' (.mk k v [a])=.agg [.int k,.int v,.list 3 1 [Tree.cs' a]]:=by
 rw [y14]
 show AC.agg [AC.int k,AC.int v,lst 3 Tree.cs' [a]]=_
 rfl
theorem argB (k v:Int) (a b:Tree):z44 Tree.cs' (.mk k v [a,b])=.agg [.int k,.int v,.list 3 2 [Tree.cs' a,Tree.cs' b]]:=by
 rw [y14]
 rfl
end Go.Proofs.YtnpclplponhppaaGreat
namespace Go.Proofs.YtnpclplponhppaaGreat
open Go.Gl
attribute [local irreducible] z21 AWP z36 z42 z39
theorem z922 (l:List Tree) (hl:l.length≤1048576) (hp:0 < l.length):CallsA Tryz.prog 443 [lst 3 Tree.cs' l] [] (.sref 0 0 l.length) [.cells 3 (l.map Tree.cs')]:=by
 refine z12 z19 Tryz.func443 rfl rfl 8 Tryz.ntmps443 (by simp) ?_
 repeat' (first|(apply y80 ok;rfl;conv=>whnf)|(apply y38;(first|omega|(dsimp only;omega)|exact z109 (fun _=>rfl));conv=>whnf))
 exact z100 rfl (z6 fun _=>rfl) (Nat.zero_add _) rfl rfl
theorem z1069 (l:List Tree) (hl:l.length≤1048576):CallsA Tryz.prog 443 [lst 3 Tree.cs' l] [] (.sref 0 0 l.length) [.cells 3 (l.map Tree.cs')]:=by
 by_cases hp:0 < l.length
 ·exact z922 l hl hp
 ·obtain rfl:l=[]:=y69 (by omega)
  refine z221 (z215 Tryz.func443 rfl (by rfl)) fun ad cap=>?_
  cases ad with
  |none =>
   refine CallsA.nils (res:=.nils) (l:=[.cells 3 []]) ?_ (by simp) z402
   refine z12 z19 Tryz.func443 rfl rfl 8 Tryz.ntmps443 (by simp) ?_
   repeat' ((apply y80 ok;rfl;conv=>whnf))
   all_goals exact z56 rfl rfl rfl
  |some p =>
   refine z12 z19 Tryz.func443 rfl rfl 8 Tryz.ntmps443 (by simp) ?_
   repeat' (first|(apply y80 ok;rfl;conv=>whnf)|(apply y38;(omega);conv=>whnf))
   all_goals (exact z100 rfl z33 rfl rfl rfl)
theorem z580 (l:List Tree) (hl:l.length≤1048576):CallsA Tryz.prog 423 [.sref 0 0 l.length] [.cells 3 (l.map Tree.cs')] (.sref 0 0 l.length) [.cells 3 (l.map Tree.cs')]:=by
 refine z12 z19 Tryz.func423 rfl rfl 9 Tryz.ntmps423 (by simp) ?_
 repeat' (first|(apply y80 ok;rfl;conv=>whnf)|(apply y38;(omega);conv=>whnf))
 exact z100 rfl (z6 fun _=>rfl) (by omega) rfl rfl
theorem z179 (l:List Tree) (hl:l.length≤1048576):CallsA Tryz.prog 421 [lst 3 Tree.cs' l] [] (.sref 0 0 l.length) [.cells 3 (l.map Tree.cs')]:=by
 refine z12 z19 Tryz.func421 rfl rfl 6 Tryz.ntmps421 (by simp) ?_
 repeat' (first|(apply y80 ok;rfl;conv=>whnf)|(apply z74 [] [] [0] (z1069 l hl);rfl;(focus ((repeat' (exact z37))<;>(fail)));rfl;rfl;rfl;rfl;rfl;(focus ((repeat' (first|exact z18|apply z15))<;>((refine z23 ?_;((exact z6 (fun _=>rfl)))))));(exact .inl rfl);conv=>whnf)|(apply z74 [0] [] [] (z580 l hl);rfl;(focus ((repeat' (first|exact z37|apply z63))<;>((refine z83 rfl ?_;((exact z6 (fun _=>rfl)))))));rfl;rfl;rfl;rfl;rfl;(focus ((repeat' (first|exact z18|apply z15))<;>((refine z23 ?_;((exact z6 (fun _=>rfl)))))));(exact .inl rfl);conv=>whnf))
 exact z100 rfl (z6 fun _=>rfl) rfl rfl rfl
end Go.Proofs.YtnpclplponhppaaGreat
namespace Go.Proofs.YtnpclplponhppaaGreat
open Go.Gl
attribute [local irreducible] z21 AWP z36 z42 z39 RetS z47
theorem z1055 (k:Int) (l:List Tree) (hl:l.length≤1048576):CallsA Tryz.prog 376 [.int k,lst 3 Tree.cs' l] [] (.agg [.int k,.int 0,lst 3 Tree.cs' l]) []:=by
 have c:=z179 l hl
 refine z10 z19 Tryz.func376 rfl rfl 9 Tryz.ntmps376 (by simp) ?_
 repeat' ((first|(apply y80 ok;rfl)|(apply z11 [] [1] c;rfl;rfl;rfl;(focus ((repeat' first|exact z18|apply z15)<;>(refine z23 ?_;((exact z6 fun _=>rfl)))))))<;>conv=>whnf)
 all_goals (refine rsD [] [1] rfl ?_;(repeat' first|exact y82 _|((apply z49 rfl rfl rfl);(focus ((repeat ((exact z38 (fun _=>rfl) _)));done));(focus (((simp;done));done)))|apply z62|constructor))
theorem z911 (k:Int):CallsA Tryz.prog 376 [.int k,.nils] [] (.agg [.int k,.int 0,.list 3 0 []]) []:=(z1055 k [] (by simp)).arg (by (repeat' first|exact y82 _|exact z58|constructor))
theorem z132 (k:Int) (l:List Tree) (hl:l.length≤1048576):CallsA Tryz.prog 376 [.int k,.sref 0 0 l.length] [.cells 3 (l.map Tree.cs')] (.agg [.int k,.int 0,lst 3 Tree.cs' l]) [.dead]:=by
 have c:=z179 l hl
 refine z10 z19 Tryz.func376 rfl rfl 9 Tryz.ntmps376 (by simp) ?_
 refine y81 (Reach.rnm 0 rfl) ?_
 refine y81 (show Gl.Reach _ _ (mkSt _ [(0,.int k),(1,lst 3 Tree.cs' l)] [.dead]) from (by refine swR [0] [1] rfl rfl ?_;(repeat' first|exact y82 _|((apply z49 rfl rfl rfl);(focus ((repeat ((exact z38 (fun _=>rfl) _)));done));(focus (((simp;done));done)))|constructor))) ?_
 repeat' ((first|(apply y80 ok;rfl)|(apply z11 [] [2] c;rfl;rfl;rfl;(focus ((repeat' first|exact z18|apply z15)<;>(refine z23 ?_;((exact z6 fun _=>rfl)))))))<;>conv=>whnf)
 all_goals (refine rsD [0] [2] rfl ?_;(repeat' first|exact y82 _|((apply z49 rfl rfl rfl);(focus ((repeat ((exact z38 (fun _=>rfl) _)));done));(focus (((simp;done));done)))|apply z62|constructor))
theorem z472 (k kd v:Int):CallsA Tryz.prog 376 [.int k,.sref 0 0 1] [.cells 3 [[.int kd,.int v,.nils]]] (.agg [.int k,.int 0,lst 3 Tree.cs' [.mk kd v []]]) [.dead]:=by
 have c:=z179 [.mk kd v []] (by simp)
 refine z10 z19 Tryz.func376 rfl rfl 9 Tryz.ntmps376 (by simp) ?_
 refine y81 (Reach.rnm 0 rfl) ?_
 refine y81 (show Gl.Reach _ _ (mkSt _ [(0,.int k),(1,lst 3 Tree.cs' [.mk kd v []])] [.dead]) from (by refine swR [0] [1] rfl rfl ?_;(repeat' first|exact y82 _|exact z58|refine z49 rfl rfl rfl rfl rfl ?_|(apply z85;rfl)|constructor))) ?_
 repeat' ((first|(apply y80 ok;rfl)|(apply z30 [] [2] c;rfl;rfl;rfl))<;>conv=>whnf)
 all_goals (refine rsD [0] [2] rfl ?_;(repeat' first|exact y82 _|constructor))
theorem z303 (k v : Int) (l : List Tree) (neg : Bool) (i : Nat) (hi : i < l.length) (x : Tree) (hx : CallsA Tryz.prog 379 [z44 Tree.cs' l[i], .bool neg] [] (z44 Tree.cs' x) []) :
    CallsA Tryz.prog 424 [.int i,.ptr 0 none 0,.ptr 1 none 0] [.cells 3 [[.int k,.int v,lst 3 Tree.cs' l]],.cells 1 [[.bool neg]]] (z44 Tree.cs' x) [.cells 3 [[.int k,.int v,lst 3 Tree.cs' l]],.cells 1 [[.bool neg]]]:=by
  have g:(l.map Tree.cs')[i]?=some (Tree.cs' l[i]):=by rw [y46,y40 hi];rfl
  generalize l[i]=y at *
  refine z10 z19 Tryz.func424 rfl rfl 12 Tryz.ntmps424 (by simp) ?_
  repeat' ((first|(apply y80 ok;rfl)|(apply z35;kernel_rfl)|(refine z20 (i:=i) rfl g ?_)|(apply y38;omega)|(apply z7 (hx);rfl;rfl))<;>conv=>whnf)
  all_goals (refine rsD [0,1] [] rfl ?_;(repeat' first|exact y82 _|apply y83|constructor))
theorem z1037 (a b:Int) (neg:Bool):CallsA Tryz.prog 425 [.int a,.int b,.ptr 0 none 0] [.cells 1 [[.bool neg]]] (.int (if neg then b else a)) [.cells 1 [[.bool neg]]]:=by
 refine z10 z19 Tryz.func425 rfl rfl 9 Tryz.ntmps425 (by simp) ?_
 cases neg
 all_goals
  repeat' (((apply y80 ok;rfl))<;>conv=>whnf)
  all_goals (refine rsD [0] [] rfl ?_;(repeat' first|exact y82 _|apply y83|constructor))
set_option maxHeartbeats 6400000 in
theorem z1164 (t:Tree):t.goodF→∀ neg:Bool,CallsA Tryz.prog 379 [z44 Tree.cs' t,.bool neg] [] (z44 Tree.cs' (t.nrm neg)) []:=by
 induction t using y24 with|h t ih=>?_
 intro hg neg
 have cT:=z911 1
 have cF:=z132 3 [.mk 1 0 []] (by simp)
 cases y19 hg with
 |tr =>
  rw [z963]
  clear ih
  cases neg
  all_goals
   refine z10 z19 Tryz.func379 rfl rfl 99 Tryz.ntmps379 (by simp) ?_
   repeat' ((first|(apply y80 ok;rfl)|(apply z7 (cT);rfl;rfl)|((first|(apply z11 [3] [] cF;rfl;rfl)|(apply z11 [6] [] (z472 3 1 0);rfl;rfl));rfl;(focus ((repeat' first|exact z18|apply z15)<;>exact z174))))<;>conv=>whnf)
   all_goals (refine rsD [] [] rfl ?_;(repeat' first|exact y82 _|exact z58|apply z62|constructor))
 |«at» v h0 h1 =>
  rw [z965]
  clear ih
  cases neg
  all_goals
   refine z10 z19 Tryz.func379 rfl rfl 99 Tryz.ntmps379 (by simp) ?_
   repeat' ((first|(apply y80 ok;rfl)|(apply z7 (cT);rfl;rfl)|((first|(apply z11 [3] [] cF;rfl;rfl)|(apply z11 [6] [] (z472 3 2 v);rfl;rfl));rfl;(focus ((repeat' first|exact z18|apply z15)<;>exact z174))))<;>conv=>whnf)
   all_goals (refine rsD [] [] rfl ?_;(repeat' first|exact y82 _|exact z58|apply z62|constructor))
 |un k a hk ha =>
  have ca:=fun n=>ih a (by simp [Tree.kids]) ha n
  clear ih
  rcases hk with rfl|rfl|rfl|rfl
  ·rw [z698,argU 3 0 a]
   have ca:=ca (!neg)
   refine z10 z19 Tryz.func379 rfl rfl 99 Tryz.ntmps379 (by simp) ?_
   repeat' ((first|(apply y80 ok;rfl)|(apply z35;kernel_rfl)|(refine ⟨_,rfl,?_⟩)|(apply y38;omega)|(apply z7 (cT);rfl;rfl)|(apply z7 (ca);rfl;rfl)|(apply z11 [3] [] cF;rfl;rfl;rfl;(focus ((repeat' first|exact z18|apply z15)<;>exact z174))))<;>conv=>whnf)
   all_goals (refine rsD [] [] rfl ?_;(repeat' first|exact y82 _|constructor))
  ·rw [z498,argU 6 0 a,argU]
   have ck:=z303 6 0 [a] neg 0 (by simp) (a.nrm neg) (ca neg)
   have cf:=z132 6 [a.nrm neg] (by simp)
   generalize a.nrm neg=x at *
   refine z10 z19 Tryz.func379 rfl rfl 99 Tryz.ntmps379 (by simp) ?_
   repeat' ((first|(apply y80 ok;rfl)|(apply z7 (cT);rfl;rfl)|((first|(apply z11 [3] [] cF;rfl;rfl)|(apply z11 [0,1] [] ck;rfl;rfl)|(apply z11 [5] [] cf;rfl;rfl));rfl;(focus ((repeat' first|exact z18|apply z15)<;>first|exact z174|exact z50 rfl rfl))))<;>conv=>whnf)
   all_goals (refine rsD [] [] rfl ?_;(repeat' first|exact y82 _|constructor))
  ·rw [z964,argU 9 0 a]
   have ck:=z303 9 0 [a] neg 0 (by simp) (a.nrm neg) (ca neg)
   have c7:=z132 7 [truT,a.nrm neg] (by simp)
   have c8:=z132 8 [notT truT,a.nrm neg] (by simp)
   generalize a.nrm neg=x at *
   cases neg
   ·rw [if_neg (by simp),argB]
    refine z10 z19 Tryz.func379 rfl rfl 99 Tryz.ntmps379 (by simp) ?_
    repeat' ((first|(apply y80 ok;rfl)|(apply z7 (cT);rfl;rfl)|((first|(apply z11 [3] [] cF;rfl;rfl)|(apply z11 [0,1] [] ck;rfl;rfl)|(apply z11 [5] [] c7;rfl;rfl));rfl;(focus ((repeat' first|exact z18|apply z15)<;>first|exact z174|exact z50 rfl rfl))))<;>conv=>whnf)
    all_goals (refine rsD [] [] rfl ?_;(repeat' first|exact y82 _|constructor))
   ·rw [if_pos rfl,argB]
    refine z10 z19 Tryz.func379 rfl rfl 99 Tryz.ntmps379 (by simp) ?_
    repeat' ((first|(apply y80 ok;rfl)|(apply z35;kernel_rfl)|(apply z7 (cT);rfl;rfl)|((first|(apply z11 [3] [] cF;rfl;rfl)|(apply z11 [0,1] [] ck;rfl;rfl)|(apply z11 [5] [] c8;rfl;rfl));rfl;(focus ((repeat' first|exact z18|apply z15)<;>first|exact z174|exact z50 rfl rfl))))<;>conv=>whnf)
    all_goals (refine rsD [] [] rfl ?_;(repeat' first|exact y82 _|constructor))
  ·rw [z966,argU 10 0 a]
   have ck:=z303 10 0 [a] neg 0 (by simp) (a.nrm neg) (ca neg)
   have c7:=z132 7 [truT,a.nrm neg] (by simp)
   have c8:=z132 8 [notT truT,a.nrm neg] (by simp)
   generalize a.nrm neg=x at *
   cases neg
   ·rw [if_neg (by simp),argB]
    refine z10 z19 Tryz.func379 rfl rfl 99 Tryz.ntmps379 (by simp) ?_
    repeat' ((first|(apply y80 ok;rfl)|(apply z35;kernel_rfl)|(apply z7 (cT);rfl;rfl)|((first|(apply z11 [3] [] cF;rfl;rfl)|(apply z11 [0,1] [] ck;rfl;rfl)|(apply z11 [5] [] c8;rfl;rfl));rfl;(focus ((repeat' first|exact z18|apply z15)<;>first|exact z174|exact z50 rfl rfl))))<;>conv=>whnf)
    all_goals (refine rsD [] [] rfl ?_;(repeat' first|exact y82 _|constructor))
   ·rw [if_pos rfl,argB]
    refine z10 z19 Tryz.func379 rfl rfl 99 Tryz.ntmps379 (by simp) ?_
    repeat' ((first|(apply y80 ok;rfl)|(apply z7 (cT);rfl;rfl)|((first|(apply z11 [3] [] cF;rfl;rfl)|(apply z11 [0,1] [] ck;rfl;rfl)|(apply z11 [5] [] c7;rfl;rfl));rfl;(focus ((repeat' first|exact z18|apply z15)<;>first|exact z174|exact z50 rfl rfl))))<;>conv=>whnf)
    all_goals (refine rsD [] [] rfl ?_;(repeat' first|exact y82 _|constructor))
 |bin k a b hk ha hb =>
  have ca:=z303 k 0 [a,b] neg 0 (by simp) (a.nrm neg) (ih a (by simp [Tree.kids]) ha neg)
  have cb:=z303 k 0 [a,b] neg 1 (by simp) (b.nrm neg) (ih b (by simp [Tree.kids]) hb neg)
  clear ih
  have cf:=z132 (if neg then z822 k else k) [a.nrm neg,b.nrm neg] (by simp)
  have cp:=z1037 k (z822 k) neg
  rw [z699 _ _ _ _ _ hk,argB k 0 a b,argB]
  generalize a.nrm neg=x at *
  generalize b.nrm neg=y at *
  rcases hk with rfl|rfl|rfl|rfl
  all_goals
   refine z10 z19 Tryz.func379 rfl rfl 99 Tryz.ntmps379 (by simp) ?_
   repeat' ((first|(apply y80 ok;rfl)|(apply z7 (cT);rfl;rfl)|((first|(apply z11 [3] [] cF;rfl;rfl)|(apply z11 [0,1] [] ca;rfl;rfl)|(apply z11 [0,1] [] cb;rfl;rfl)|(apply z11 [1] [] cp;rfl;rfl)|(apply z11 [5] [] cf;rfl;rfl));rfl;(focus ((repeat' first|exact z18|apply z15)<;>first|exact z174|exact z50 rfl rfl))))<;>conv=>whnf)
   all_goals (refine rsD [] [] rfl ?_;(repeat' first|exact y82 _|constructor))
theorem z1044 (t:Tree) (h:t.sz≤1000000):CallsA Tryz.prog 193 [z44 Tree.cs' t] [] (ownT t) [.cells 3 (t.kids.map Tree.cs')]:=by
 induction t using y24 with|h t ih=>?_
 have hkl:t.kids.length≤1000000:=by rw [y33] at h;omega
 have hks:∀ u∈t.kids,u.sz≤1000000:=fun u hu=>by
  have:=z407 Tree.sz hu
  rw [y33] at h;omega
 rw [y14 t]
 obtain ⟨k,v,l⟩:=t
 simp only [Tree.kind,Tree.val,Tree.kids] at *
 have hcs:∀ (i:Nat) (hi:i < l.length),CallsA Tryz.prog 193 [z44 Tree.cs' l[i]] [] (z44 Tree.cs' l[i]) []:=fun i hi =>
  z497 (ih _ (y39 _) (hks _ (y39 _)))
 unfold ownT
 simp only [Tree.kind,Tree.val,Tree.kids] at *
 refine z10 z19 Tryz.func193 rfl rfl 29 Tryz.ntmps193 (by simp) ?_
 repeat' (((apply y80 ok;rfl))<;>conv=>whnf)
 refine y81 (y84 3 rfl) ?_
 refine z84 (fun i:Nat=>([(1,.ptr 0 none 0),(2,.ptr 1 none 0),(3,.ptr 2 none 0),(4,.int i)],[.cells 3 [[.int k,.int v,lst 3 Tree.cs' l]],.cells 3 [[.int 0,.int 0,.nils]],.cells 3 [[.int k,.int v,.sref 3 0 i]],.cells 3 ((l.take i).map Tree.cs')])) (fun i=>i≤l.length) (fun i=>l.length - i) 0 (by omega) (by refine swR [0,1,2,3] [] rfl rfl ?_;(repeat' first|exact y82 _|exact z55|apply y83|refine z16 rfl (z33) ?_|constructor)) ?_
 intro i hi
 by_cases hil:i < l.length
 ·have hc:=hcs i hil
  repeat' ((first|(apply y80 ok;rfl)|(apply z35;kernel_rfl)|(apply y38;first|omega|(unfold inI;omega)|((try dsimp only);simp only [y44,y43,y42,y41,y53,y54];omega)|exact ⟨rfl,z24 rfl z31⟩)|(((with_reducible apply z14;omega));intro _)|((apply z8)<;>intro _)|(apply z7 (hc);rfl;rfl))<;>conv=>whnf)
  all_goals try (exfalso;omega)
  refine z45 (i+1) (by omega) (by omega) (by refine swR [0,1,2,5] [] rfl rfl ?_;(repeat' first|exact y82 _|apply y83|((refine z48 rfl ?_ ?_);(focus ((repeat' (first|exact z6 (fun _=>rfl)|apply z32));done)))|refine z136 (by omega) (by omega) ?_|constructor))
 ·have e:i=l.length:=by omega
  subst e
  rw [y51]
  repeat' ((first|(apply y80 ok;rfl)|(apply y38;omega)|(((with_reducible apply z14;omega));intro _)|((apply z8)<;>intro _))<;>conv=>whnf)
  all_goals try (exfalso;omega)
  all_goals (refine rsD [3] [] rfl ?_;(repeat' first|exact y82 _|exact z17 _|refine z16 rfl (z6 (fun _=>rfl)) ?_|constructor))
set_option maxHeartbeats 1600000 in
theorem z901 (bs:List Int) (hb:BytesOk bs) (p:Int) (hp:few p) (t:Tree) (ht:t.sz≤1000):∃ (t' : Tree) (p' : Int),(t'.sz≤t.sz+1∧p≤p'∧p'≤p+2)∧CallsA Tryz.prog 80 [.ptr 0 none 0,z44 Tree.cs' t] [rdO bs p] (z44 Tree.cs' t') [rdO bs p']:=by
 have cs:=z1044 t (by omega)
 obtain ⟨u,hu⟩:∃ u,u=t:=⟨t,rfl⟩
 have hsz:u.sz≤t.sz:=by rw [hu];exact y47 _
 have cs:CallsA Tryz.prog 193 [z44 Tree.cs' t] [] (ownT u) [.cells 3 (u.kids.map Tree.cs')]:=by rw [hu];exact cs
 clear hu
 have hul:u.kids.length≤1000:=by rw [y33] at hsz;omega
 obtain ⟨v,⟨lv,uv⟩,cv⟩:=z72 bs hb p 50 (by omega) (by omega) (by omega)
 rw [y14 t]
 rw [y14 t] at cs
 unfold ownT at cs
 by_cases h0:v=0
 ·subst h0
  obtain ⟨k,mk,ck⟩:=z113 bs hb (p+1) (by omega) (by omega) [0,11,-1,2,3,4] (by decide) (by decide)
  refine ⟨.mk k u.val u.kids,p+1+1,⟨by rw [z255];rw [y33] at hsz;omega,by omega,by omega⟩,?_⟩
  refine z10 z19 Tryz.func80 rfl rfl 34 Tryz.ntmps80 (by simp) ?_
  repeat' ((first|(apply y80 ok;rfl)|((first|(apply z11 [] [3] cs;rfl;rfl)|(apply z11 [0] [] cv;rfl;rfl)|(apply z11 [0,5] [] ck;rfl;rfl));rfl;(focus ((repeat' first|exact z18|apply z15)<;>first|exact z50 rfl rfl|(refine z23 ?_;((exact z6 fun _=>rfl)))))))<;>conv=>whnf)
  all_goals (refine rsD [0] [3] rfl ?_;(repeat' first|exact y82 _|exact z349|apply y83|((apply z49 rfl rfl rfl);(focus ((repeat ((exact z38 (fun _=>rfl) _)));done));(focus (((simp;done));done)))|apply z62|(apply z85;rfl)|constructor))
 by_cases h1:v=1
 ·subst h1
  obtain ⟨k,mk,ck⟩:=z113 bs hb (p+1) (by omega) (by omega) [-1,3,2,9223372036854775807] (by decide) (by decide)
  refine ⟨.mk u.kind k u.kids,p+1+1,⟨by rw [z255];rw [y33] at hsz;omega,by omega,by omega⟩,?_⟩
  refine z10 z19 Tryz.func80 rfl rfl 34 Tryz.ntmps80 (by simp) ?_
  repeat' ((first|(apply y80 ok;rfl)|((first|(apply z11 [] [3] cs;rfl;rfl)|(apply z11 [0] [] cv;rfl;rfl)|(apply z11 [0,5] [] ck;rfl;rfl));rfl;(focus ((repeat' first|exact z18|apply z15)<;>first|exact z50 rfl rfl|(refine z23 ?_;((exact z6 fun _=>rfl)))))))<;>conv=>whnf)
  all_goals (refine rsD [0] [3] rfl ?_;(repeat' first|exact y82 _|exact z349|apply y83|((apply z49 rfl rfl rfl);(focus ((repeat ((exact z38 (fun _=>rfl) _)));done));(focus (((simp;done));done)))|apply z62|(apply z85;rfl)|constructor))
 by_cases h2:v=2
 ·subst h2
  refine ⟨.mk u.kind u.val (u.kids++[leaf 1 0]),p+1,⟨by rw [z255];rw [y33] at hsz;simp [z99];omega,by omega,by omega⟩,?_⟩
  refine z10 z19 Tryz.func80 rfl rfl 34 Tryz.ntmps80 (by simp) ?_
  repeat' ((first|(apply y80 ok;rfl)|(apply z35;kernel_rfl)|(apply y38;first|((try dsimp only);simp only [y44,y43,y42,y41,y53,y54];omega)|exact ⟨rfl,z24 rfl z31⟩)|(apply z7 (z562);rfl;rfl)|((first|(apply z11 [] [3] cs;rfl;rfl)|(apply z11 [0] [] cv;rfl;rfl));rfl;(focus ((repeat' first|exact z18|apply z15)<;>first|exact z50 rfl rfl|(refine z23 ?_;((exact z6 fun _=>rfl)))))))<;>conv=>whnf)
  all_goals (refine rsD [0] [6] rfl ?_;(repeat' first|exact y82 _|apply y83|((apply z49 rfl rfl rfl);(focus ((repeat (first|exact z38 (fun _=>rfl) _|apply z127|apply z173|rfl));done));(focus (((simp;done));done)))|apply z62|constructor))
  all_goals exact z768 rfl rfl (node_le' (y82 _))
 by_cases h3:v=3
 ·subst h3
  refine ⟨leaf 0 0,p+1,⟨by rw [z99];omega,by omega,by omega⟩,?_⟩
  refine z10 z19 Tryz.func80 rfl rfl 34 Tryz.ntmps80 (by simp) ?_
  repeat' ((first|(apply y80 ok;rfl)|((first|(apply z11 [] [3] cs;rfl;rfl)|(apply z11 [0] [] cv;rfl;rfl));rfl;(focus ((repeat' first|exact z18|apply z15)<;>first|exact z50 rfl rfl|(refine z23 ?_;((exact z6 fun _=>rfl)))))))<;>conv=>whnf)
  all_goals (refine rsD [0] [] rfl ?_;(repeat' first|exact y82 _|exact z58|apply y83|apply z62|constructor))
 ·refine ⟨.mk u.kind u.val u.kids,p+1,⟨by rw [z255];rw [y33] at hsz;omega,by omega,by omega⟩,?_⟩
  refine z10 z19 Tryz.func80 rfl rfl 34 Tryz.ntmps80 (by simp) ?_
  repeat' ((first|(apply y80 ok;rfl)|((apply z8)<;>intro _)|((first|(apply z11 [] [3] cs;rfl;rfl)|(apply z11 [0] [] cv;rfl;rfl));rfl;(focus ((repeat' first|exact z18|apply z15)<;>first|exact z50 rfl rfl|(refine z23 ?_;((exact z6 fun _=>rfl)))))))<;>conv=>whnf)
  all_goals try (exfalso;omega)
  all_goals (refine rsD [0] [3] rfl ?_;(repeat' first|exact y82 _|exact z349|apply y83|((apply z49 rfl rfl rfl);(focus ((repeat ((exact z38 (fun _=>rfl) _)));done));(focus (((simp;done));done)))|apply z62|(apply z85;rfl)|constructor))
theorem z713 (c:Tree) (l:List Tree) (hl:l.length≤maxLen) (p:Tree→Bool) (f:FuncId) (hf:∀ x∈l,CallsA Tryz.prog f [z44 Tree.cs' x,.pt [.int c.kind,.int c.val,lst 3 Tree.cs' c.kids]] [] (.bool (p x)) []):CallsA Tryz.prog 426 [lst 3 Tree.cs' l,.fn (.func f) [] [.pt [.int c.kind,.int c.val,lst 3 Tree.cs' c.kids]]] [] (.int (idxF p l)) []:=by
 unfold maxLen at hl
 refine z12 z19 Tryz.func426 rfl rfl 19 Tryz.ntmps426 (by simp) ?_
 repeat' (((apply y80 ok;rfl))<;>conv=>whnf)
 refine z92 (fun k:Nat=>([(0,lst 3 Tree.cs' l),(1,.fn (.func f) [] [.pt [.int c.kind,.int c.val,lst 3 Tree.cs' c.kids]]),(7,.int l.length),(8,.int k)],[])) (fun k=>k≤l.length∧∀ j (hj:j < l.length),j < k→p l[j]=false) (fun k=>l.length - k) 0 (by simp)
  ⟨[],rfl,by decide,rfl,⟨⟨rfl,rfl⟩,⟨rfl,rfl⟩,⟨rfl,rfl⟩,⟨rfl,rfl⟩,trivial⟩,trivial⟩ ?_
 intro k hk
 repeat' ((first|(apply y80 ok;rfl)|(apply y38;first|omega|(unfold inI;omega))|(((with_reducible apply z14;omega));intro _)|((first|apply z8|apply z106)<;>intro _)|(apply z7 (hf l[k] (y39 _));rfl;rfl))<;>conv=>whnf)
 ·rename_i h h1
  exact z56 rfl rfl (by rw [z188 (by omega) h1 hk.2];rfl)
 ·rename_i h h1
  refine z80 (k+1) [] ⟨by omega,fun j hj hjk=>?_⟩ (by omega) ⟨rfl,by decide,rfl,⟨⟨rfl,rfl⟩,⟨rfl,rfl⟩,⟨rfl,rfl⟩,⟨rfl,rfl⟩,trivial⟩,trivial⟩
  rcases y65 j k with h2|h2
  ·exact hk.2 j hj h2
  ·obtain rfl:j=k:=by omega
   exact h1
 ·exact z56 rfl rfl (by rw [z189 fun j hj=>hk.2 j hj (by omega)];rfl)
theorem z1217 (A B : List Tree) (hA : A.length ≤ maxLen) (hB : B.length ≤ maxLen) (f : FuncId) (hf : ∀ i (h : i < A.length) (h2 : i < B.length), CallsA Tryz.prog f [z44 Tree.cs' A[i], z44 Tree.cs' B[i]] [] (.bool (decide (A[i] = B[i]))) []) :
    CallsA Tryz.prog 445 [lst 3 Tree.cs' A,lst 3 Tree.cs' B,.fn (.func f) [] []] [] (.bool (decide (A=B))) []:=by
  unfold maxLen at hA hB
  by_cases hl:A.length=B.length
  · have hT:(∀ i (h:i < A.length) (h2:i < B.length),A[i]=B[i])→decide (A=B)=true:=fun h=>y77 (y70 hl h)
    have hF:∀ i (h:i < A.length) (h2:i < B.length),A[i]≠B[i]→decide (A=B)=false:=fun i h h2 hne=>y78 fun e=>hne (by subst e;rfl)
    generalize decide (A=B)=D at *
    refine z10 z19 Tryz.func445 rfl (by kernel_rfl) 32 Tryz.ntmps445 (by simp) ?_
    repeat' ((first|(apply y80 ok;rfl)|((apply z34)<;>intro _))<;>conv=>whnf)
    all_goals try (exfalso;omega)
    refine z84 (fun i:Nat=>([(0,lst 3 Tree.cs' A),(1,lst 3 Tree.cs' B),(2,.fn (.func f) [] []),(15,lst 3 Tree.cs' A),(16,.int A.length),(17,.int i)],[])) (fun i=>i≤A.length∧∀ j (h:j < A.length) (h2:j < B.length),j < i→A[j]=B[j]) (fun i=>A.length - i) 0 ⟨y48 _,fun j _ _ h=>absurd h (Nat.not_lt_zero _)⟩ (by refine swR [] [] rfl rfl ?_;(repeat' first|exact y82 _|constructor)) ?_
    rintro i ⟨hi,hj⟩
    by_cases hil:i < A.length
    · have hil2:i < B.length:=by omega
      have c1:=hf i hil hil2
      have gA:(A.map Tree.cs')[i]?=some (Tree.cs' A[i]):=by rw [y46,y40 hil];rfl
      have gB:(B.map Tree.cs')[i]?=some (Tree.cs' B[i]):=by rw [y46,y40 hil2];rfl
      by_cases he:A[i]=B[i]
      · rw [y77 he] at c1
        have hj2:∀ j (h:j < A.length) (h2:j < B.length),j < i+1→A[j]=B[j]:=fun j h h2 hji=>by
          rcases y65 j i with h3|h3
          · exact hj j h h2 h3
          · obtain rfl:j=i:=by omega
            exact he
        generalize A[i]=x at *
        generalize B[i]=y at *
        repeat' ((first|(apply y80 ok;rfl)|(refine z20 (i:=i) rfl gA ?_)|(refine z20 (i:=i) rfl gB ?_)|(apply y38;first|omega|(unfold inI;omega))|((apply z8)<;>intro _)|(apply z7 (c1);rfl;rfl))<;>conv=>whnf)
        all_goals try (exfalso;omega)
        all_goals refine z45 (i+1) ⟨by omega,hj2⟩ (by omega) (by refine swR [] [] rfl rfl ?_;(repeat' first|exact y82 _|constructor))
      · rw [y78 he] at c1
        have hD:=hF i hil hil2 he
        subst hD
        generalize A[i]=x at *
        generalize B[i]=y at *
        repeat' ((first|(apply y80 ok;rfl)|(refine z20 (i:=i) rfl gA ?_)|(refine z20 (i:=i) rfl gB ?_)|(apply y38;omega)|((apply z8)<;>intro _)|(apply z7 (c1);rfl;rfl))<;>conv=>whnf)
        all_goals try (exfalso;omega)
        all_goals (refine rsD [] [] rfl ?_;(repeat' first|exact y82 _|constructor))
    · have hD:=hT (fun j h h2=>hj j h h2 (by omega))
      subst hD
      repeat' ((first|(apply y80 ok;rfl)|(apply y38;omega)|(((with_reducible apply z14;omega));intro _)|((apply z8)<;>intro _))<;>conv=>whnf)
      all_goals try (exfalso;omega)
      all_goals (refine rsD [] [] rfl ?_;(repeat' first|exact y82 _|constructor))
  · rw [y78 (fun e=>hl (by rw [e]))]
    refine z10 z19 Tryz.func445 rfl (by kernel_rfl) 32 Tryz.ntmps445 (by simp) ?_
    repeat' ((first|(apply y80 ok;rfl)|((apply z34)<;>intro _))<;>conv=>whnf)
    all_goals first|(exfalso;omega)|(refine rsD [] [] rfl ?_;(repeat' first|exact y82 _|constructor))
theorem z716 (a:Tree):a.mx→∀ b:Tree,b.mx→CallsA Tryz.prog 428 [z44 Tree.cs' a,z44 Tree.cs' b] [] (.bool (decide (a=b))) []:=by
 induction a using y24 with|h a ih=>?_
 intro ha b hb
 rw [y25] at ha hb
 have cE:=z1217 a.kids b.kids ha.1 hb.1 428 (fun i h h2=>ih _ (y39 _) (ha.2 _ (y39 _)) _ (hb.2 _ (y39 _)))
 clear ih
 rw [y14,y14]
 by_cases hk:a.kind=b.kind∧a.val=b.val
 ·obtain ⟨k1,k2⟩:=hk
  have e:decide (a.kids=b.kids)=decide (a=b):=decide_eq_decide.2 ⟨fun h=>Tree.ext k1 k2 h,fun h=>by rw [h]⟩
  rw [e] at cE
  generalize decide (a=b)=D at *
  cases D
  all_goals
   refine z10 z19 Tryz.func428 rfl rfl 24 Tryz.ntmps428 (by simp) ?_
   repeat' ((first|(apply y80 ok;rfl)|((apply z8)<;>intro _)|(apply z7 (cE);rfl;rfl))<;>conv=>whnf)
   all_goals try (exfalso;omega)
   all_goals (refine rsD [] [] rfl ?_;(repeat' first|exact y82 _|constructor))
 ·rw [y78 (fun e=>hk (by subst e;exact ⟨rfl,rfl⟩))]
  clear cE
  refine z10 z19 Tryz.func428 rfl rfl 24 Tryz.ntmps428 (by simp) ?_
  repeat' ((first|(apply y80 ok;rfl)|((apply z8)<;>intro _))<;>conv=>whnf)
  all_goals first|(exfalso;omega)|(refine rsD [] [] rfl ?_;(repeat' first|exact y82 _|constructor))
theorem z311 (l:List Tree) (hl:l.length≤1000000) (hm:∀ t∈l,t.mx) (t:Tree) (ht:t.mx):CallsA Tryz.prog 380 [lst 3 Tree.cs' l,z44 Tree.cs' t] [] (.int (idxF (fun x=>decide (x=t)) l)) []:=by
 have cI:=z713 t l (by unfold maxLen;omega) (fun x=>decide (x=t)) 427 (fun x hx=>by
  have cS:=z716 x (hm x hx) t ht
  rw [y14 t] at cS
  refine z10 z19 Tryz.func427 rfl rfl 7 Tryz.ntmps427 (by simp) ?_
  rw [y14 x] at cS ⊢
  repeat' ((first|(apply y80 ok;rfl)|(apply z7 (cS);rfl;rfl))<;>conv=>whnf)
  all_goals (refine rsD [] [] rfl ?_;(repeat' first|exact y82 _|constructor)))
 rw [y14 t]
 refine z10 z19 Tryz.func380 rfl rfl 8 Tryz.ntmps380 (by simp) ?_
 repeat' ((first|(apply y80 ok;rfl)|(apply z115 [] [0] [] cI;(focus ((repeat' first|exact z81|apply z52)<;>rfl));rfl;rfl;(focus ((repeat' exact z18)<;>fail));((refine .inr ⟨rfl,?_⟩;repeat' exact True.intro))))<;>conv=>whnf)
 all_goals (refine rsD [] [] rfl ?_;(repeat' first|exact y82 _|constructor))
theorem z1227 (t:Tree) (h:t.sz≤1000000):CallsA Tryz.prog 375 [z44 Tree.cs' t] [] (ownT t) [.cells 3 (t.kids.map Tree.cs')]:=by
 induction t using y24 with|h t ih=>?_
 have hkl:t.kids.length≤1000000:=by rw [y33] at h;omega
 have hks:∀ u∈t.kids,u.sz≤1000000:=fun u hu=>by
  have:=z407 Tree.sz hu
  rw [y33] at h;omega
 rw [y14 t]
 obtain ⟨k,v,l⟩:=t
 simp only [Tree.kind,Tree.val,Tree.kids] at *
 have hcs:∀ (i:Nat) (hi:i < l.length),CallsA Tryz.prog 375 [z44 Tree.cs' l[i]] [] (z44 Tree.cs' l[i]) []:=fun i hi =>
  z497 (ih _ (y39 _) (hks _ (y39 _)))
 have cC:=z179 l (by omega)
 unfold ownT
 simp only [Tree.kind,Tree.val,Tree.kids] at *
 refine z10 z19 Tryz.func375 rfl rfl 30 Tryz.ntmps375 (by simp) ?_
 repeat' ((first|(apply y80 ok;rfl)|(apply z35;kernel_rfl)|(apply z11 [] [2] cC;rfl;rfl;rfl;(focus ((repeat' first|exact z18|apply z15)<;>(refine z23 ?_;((exact z6 fun _=>rfl)))))))<;>conv=>whnf)
 refine z84 (fun i:Nat=>([(1,.ptr 0 none 0),(2,.ptr 1 none 0),(3,.ptr 3 none 0),(15,lst 3 Tree.cs' l),(16,.int l.length),(17,.int i)],[.cells 3 [[.int k,.int v,lst 3 Tree.cs' l]],.cells 3 [[.int 0,.int 0,.nils]],.cells 3 (l.map Tree.cs'),.cells 3 [[.int k,.int v,.sref 2 0 l.length]]])) (fun i=>i≤l.length) (fun i=>l.length - i) 0 (by omega) (by refine swR [0,1,2,3] [] rfl rfl ?_;(repeat' first|exact y82 _|exact z17 _|apply y83|refine z16 rfl (z6 (fun _=>rfl)) ?_|constructor)) ?_
 intro i hi
 by_cases hil:i < l.length
 ·have hc:=hcs i hil
  have gk:(l.map Tree.cs')[i]?=some (Tree.cs' l[i]):=by rw [y46,y40 hil];rfl
  have hset:(l.map Tree.cs').set i (Tree.cs' l[i])=l.map Tree.cs':=by
   apply y70 (by simp)
   intro j h1 h2
   rw [List.getElem_set]
   split
   ·rename_i e;subst e;simp
   ·rfl
  generalize l[i]=x at *
  repeat' ((first|(apply y80 ok;rfl)|(apply z35;kernel_rfl)|(refine z20 (i:=i) rfl gk ?_)|(apply y38;first|omega|(unfold inI;omega))|((apply z8)<;>intro _)|(apply z7 (hc);rfl;rfl))<;>conv=>whnf)
  all_goals try (exfalso;omega)
  all_goals refine z45 (i+1) (by omega) (by omega) (by refine swR [0,1,2,3] [] rfl rfl ?_;(repeat' first|exact y82 _|apply y83|refine z73 rfl (z6 (fun _=>rfl)) ?_|constructor)<;>((refine z61 ?_;exact hset)))
 ·have e:i=l.length:=by omega
  subst e
  repeat' ((first|(apply y80 ok;rfl)|(apply y38;omega)|(((with_reducible apply z14;omega));intro _)|((apply z8)<;>intro _))<;>conv=>whnf)
  all_goals try (exfalso;omega)
  all_goals (refine rsD [2] [] rfl ?_;(repeat' first|exact y82 _|exact z17 _|refine z16 rfl (z6 (fun _=>rfl)) ?_|constructor))
theorem z725 (t:Tree) (h:t.sz≤1000000):CallsA Tryz.prog 375 [z44 Tree.cs' t] [] (z44 Tree.cs' t) []:=z497 (z1227 t h)
end Go.Proofs.YtnpclplponhppaaGreat
