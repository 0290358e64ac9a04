/- A part of the proofs over this program: T25, T26, T27, T37C, T37, T120W, T49A, T33P, T35, T43R, T43E, Shelf, T43, T120, T44, T45, T46, T47, T48, T121. -/
import Derived.Test.YteinbnahinpegaaGreatG0
import Derived.Test.YteinbnahinpegaaGreatG1
import Derived.Test.YteinbnahinpegaaGreatG2
import Derived.Test.YteinbnahinpegaaGreatG3
import Derived.Test.YteinbnahinpegaaGreatP0
import Derived.Test.YteinbnahinpegaaGreatP1
import Derived.Test.YteinbnahinpegaaGreatP2
import Derived.Shelf.Sort.Plain
import Derived.Shelf.Slices.CompactI
set_option linter.all false
namespace Go.Proofs.YteinbnahinpegaaGreat
open Go.Gl
attribute [local irreducible] z20 AWP z30 z35 z34
def z73 (a:Aut):List (List Trans):=z115 a.acc.length (a.ed.map fun e=>(e.src.toNat,e))
def encT (r:List Trans):List AC:=[.list 4 r.length (r.map Trans.cs)]
theorem ltr_lt (v:List Int):∀ (l:List Tree) (k n:Nat),n < 2 ^ k→ltr v l k n < 2 ^ (k+l.length):=by
 intro l
 induction l with
 |nil=>intro k n h;simpa [ltr] using h
 |cons t l ih =>
  intro k n h
  rw [ltr]
  have e:k+(t::l).length=k+1+l.length:=by simp only [y54];omega
  rw [e]
  refine ih (k+1) _ ?_
  split
  ·rw [Nat.pow_succ];omega
  ·exact or_lt h
theorem z440 {l:List Tree} (hl:z160 l) (s:State):0≤z49 l s∧z49 l s≤7:=by
 have:=ltr_lt s.b l 0 0 (by decide)
 rw [hl.1] at this
 unfold z49
 have e:(2:Nat) ^ (0+3)=8:=by decide
 omega
def pE2 (n i q:Nat) (ℓ to:Int) (e:Trans):List (Nat×Int):=if onB e ℓ then [(i * n+q,to * n+e.dst)] else []
def pTo (n:Nat) (row:List Trans) (i q:Nat) (ℓ to:Int):List (Nat×Int):=row.flatMap (pE2 n i q ℓ to)
def pQ (n:Nat) (nxi:List Int) (rows:List (List Trans)) (i:Nat) (ℓ:Int) (q:Nat):List (Nat×Int):=nxi.flatMap (pTo n (rows.getD q []) i q ℓ)
def pI2 (n:Nat) (nx:List (List Int)) (rows:List (List Trans)) (ls:List Int) (i:Nat):List (Nat×Int):=(List.range n).flatMap (pQ n (nx.getD i []) rows i (ls.getD i 0))
def pS2 (g:Graph) (ls:List Int) (a:Aut):List (Nat×Int):=(List.range g.st.length).flatMap (pI2 a.acc.length g.nx (z73 a) ls)
theorem z316 {a:Aut} {q:Nat} (h:q < a.acc.length):(z73 a).getD q []=a.ed.filter (fun e=>e.src.toNat == q):=by
 unfold z73
 rw [z13 (by rw [z157];exact h),z317,List.filter_map,List.map_map]
 exact List.map_id _
theorem z1084 {β:Type} {F:Nat→List β} {n q0:Nat} (hq:q0 < n) (h:∀ q,q < n→q≠q0→F q=[]):(List.range n).flatMap F=F q0:=by
 have:∀ m,(List.range m).flatMap F=if q0 < m∧m≤n then F q0 else if m≤n then [] else (List.range m).flatMap F:=by
  intro m
  induction m with
  |zero=>simp
  |succ m ih =>
   by_cases hm:m+1≤n
   ·rw [y58,List.flatMap_append,ih,List.flatMap_cons,List.flatMap_nil,y61]
    by_cases h1:q0 < m
    ·rw [if_pos ⟨h1,by omega⟩,if_pos ⟨by omega,hm⟩,h m (by omega) (by omega),y61]
    ·rw [if_neg (by omega),if_pos (by omega)]
     by_cases h2:q0=m
     ·subst h2;rw [if_pos ⟨by omega,hm⟩];rfl
     ·rw [if_neg (by omega),if_pos hm,h m (by omega) (by omega)];rfl
   ·rw [if_neg (by omega),if_neg hm]
 rw [this n,if_pos ⟨hq,y48 _⟩]
theorem z969 {β:Type} {F:Nat→List β} {n:Nat} (h:∀ q,q < n→F q=[]):(List.range n).flatMap F=[]:=by
 rw [List.flatMap_eq_nil_iff]
 intro q hq
 exact h q (List.mem_range.1 hq)
theorem pS2_rows (g:Graph) (ls:List Int) (a:Aut) (ha:AutP a) (r:Nat):(pS2 g ls a).filter (fun p=>p.1 == r)=(z718 g ls a).filter (fun p=>p.1 == r):=by
 unfold pS2 z718
 rw [List.filter_flatMap,List.filter_flatMap]
 refine z600 fun i hi=>?_
 unfold pI2 z720
 rw [List.filter_flatMap,List.filter_flatMap]
 have hsrc:∀ e∈a.ed,e.src.toNat < a.acc.length:=fun e he=>by
  have:=(ha.2.2.2 e he).1;omega
 by_cases hr:i * a.acc.length≤r∧r < i * a.acc.length+a.acc.length
 ·obtain ⟨q0,rfl⟩:∃ q0,r=i * a.acc.length+q0:=⟨r - i * a.acc.length,by omega⟩
  have hq0:q0 < a.acc.length:=by omega
  rw [z1084 hq0 (fun q hq hne=>by
   unfold pQ
   rw [List.filter_flatMap]
   refine List.flatMap_eq_nil_iff.2 fun to _=>?_
   unfold pTo
   rw [List.filter_flatMap]
   refine List.flatMap_eq_nil_iff.2 fun e _=>?_
   unfold pE2
   split
   ·simp;omega
   ·rfl)]
  unfold pQ
  rw [List.filter_flatMap,z316 hq0]
  refine z600 fun to _=>?_
  unfold pTo z719
  rw [List.filter_flatMap,List.filter_flatMap]
  induction a.ed with
  |nil=>rfl
  |cons e es ih =>
   rw [List.flatMap_cons,← ih,List.filter_cons]
   by_cases he:e.src.toNat=q0
   ·rw [if_pos (by simpa using he),List.flatMap_cons]
    unfold pE2 z453
    rw [he]
   ·rw [if_neg (by simpa using he)]
    have:(z453 a.acc.length i (ls.getD i 0) to e).filter (fun p=>p.1 == i * a.acc.length+q0)=[]:=by
     unfold z453
     split
     ·simp;omega
     ·rfl
    rw [this,List.nil_append]
 ·rw [z969 (fun q hq=>by
   unfold pQ
   rw [List.filter_flatMap]
   refine List.flatMap_eq_nil_iff.2 fun to _=>?_
   unfold pTo
   rw [List.filter_flatMap]
   refine List.flatMap_eq_nil_iff.2 fun e _=>?_
   unfold pE2
   split
   ·simp;omega
   ·rfl)]
  symm
  refine List.flatMap_eq_nil_iff.2 fun to _=>?_
  unfold z719
  rw [List.filter_flatMap]
  refine List.flatMap_eq_nil_iff.2 fun e he=>?_
  have:=hsrc e he
  unfold z453
  split
  ·simp;omega
  ·rfl
theorem pS2_len (g:Graph) (hg:GB g) (ls:List Int) (a:Aut) (ha:AutP a):(pS2 g ls a).length≤1000000000:=by
 obtain ⟨⟨g1,g2⟩,g3,g4⟩:=hg
 have h2:∀ i∈List.range g.st.length,(pI2 a.acc.length g.nx (z73 a) ls i).length≤7864320:=fun i hi=>by
  rw [y57] at hi
  unfold pI2
  rw [z13 (l:=g.nx) (by omega)]
  have h3:=z266 (f:=pQ a.acc.length g.nx[i] (z73 a) i (ls.getD i 0)) (c:=122880) (List.range a.acc.length) (fun q hq=>by
   have h1:∀ to,(pTo a.acc.length ((z73 a).getD q []) i q (ls.getD i 0) to).length≤2048:=fun to=>by
    have h5:=z266 (f:=pE2 a.acc.length i q (ls.getD i 0) to) (c:=1) ((z73 a).getD q []) (fun e _=>by unfold pE2;split<;>simp)
    rw [z316 (List.mem_range.1 hq)] at h5 ⊢
    have:=List.length_filter_le (fun e:Trans=>e.src.toNat == q) a.ed
    have:=ha.2.1
    unfold pTo;omega
   have h3:=z266 (f:=pTo a.acc.length ((z73 a).getD q []) i q (ls.getD i 0)) (c:=2048) g.nx[i] (fun to _=>h1 to)
   have h4:=(g4 i (by omega) (by omega) hi).2.1
   have:g.nx[i].length * 2048≤60 * 2048:=Nat.mul_le_mul_right _ (by omega)
   unfold pQ;omega)
  rw [List.length_range] at h3
  have:a.acc.length * 122880≤64 * 122880:=Nat.mul_le_mul_right _ ha.1.2
  omega
 have h5:=z266 (f:=pI2 a.acc.length g.nx (z73 a) ls) (c:=7864320) (List.range g.st.length) h2
 rw [List.length_range] at h5
 have:g.st.length * 7864320≤60 * 7864320:=Nat.mul_le_mul_right _ (by omega)
 unfold pS2;omega
theorem z1167 (g:Graph) (ls:List Int) (a:Aut) (ha:AutP a):build (g.st.length * a.acc.length) (pS2 g ls a)=z58 g ls a:=by
 unfold z58 build
 rw [Nat.mul_comm]
 refine List.map_congr_left fun r _=>?_
 rw [pS2_rows g ls a ha r]
set_option maxHeartbeats 800000 in
theorem z825 (g:Graph) (hg:GB g) (l:List Tree) (hl:z160 l) (a:Aut) (ha:AutP a):CallsA Tryz.prog 54 [.agg g.cs,lst 3 Tree.cs' l,.agg a.cs] [] (.tup [.sref 0 0 (g.st.length * a.acc.length),ints a.ini]) [.cells 1 ((z58 g (g.st.map (z49 l)) a).map z89)]:=by
 have hvals:=hg.vals
 have hpl:=z717 g hg (g.st.map (z49 l)) a ha
 have hini:=ha.2.2.1.le (by omega)
 obtain ⟨⟨g1,g2⟩,g3,g4⟩:=hg
 obtain ⟨⟨a1,a2⟩,a3,a4,a5⟩:=ha
 have hN:=z291 (a:=(g.st.length:Int)) (b:=(a.acc.length:Int)) (A:=60) (B:=64) (by omega) (by omega) (by omega) (by omega)
 refine z12 z19 Tryz.func54 rfl rfl 117 Tryz.ntmps54 (by simp) ?_
 repeat' (first|(apply y4 ok;rfl;conv=>whnf)|(apply y39;((dsimp only;omega));conv=>whnf))
 refine y81 (Gl.Reach.weaken (es':=List.replicate a.acc.length [.own 4 []]) 2 rfl (by rw [y42,y42];rfl) z345 rfl) ?_
 conv=>whnf
 refine z97 (fun k:Nat=>([(1,lst 3 Tree.cs' l),(3,.ptr 0 none 0),(5,.ptr 1 none 0),(8,.int a.acc.length),(9,.sref 2 0 a.acc.length),(26,lst 4 Trans.cs a.ed),(27,.int a.ed.length),(28,.int k)],[.cells 2 [[lst 2 State.cs g.st,lst 1 encL g.nx]],.cells 3 [[lst 1 enI a.ini,lst 1 enB a.acc,lst 4 Trans.cs a.ed]],.cells 1 ((z115 a.acc.length ((a.ed.take k).map fun e=>(e.src.toNat,e))).map (ownG 4 Trans.cs))])) (fun k=>k≤a.ed.length) (fun k=>a.ed.length - k) 0 (by omega)
  ⟨[0,1,2],rfl,by decide,rfl,⟨⟨rfl,rfl⟩,⟨rfl,rfl⟩,⟨rfl,rfl⟩,⟨rfl,rfl⟩,⟨rfl,rfl⟩,⟨rfl,rfl⟩,⟨rfl,rfl⟩,⟨rfl,rfl⟩,trivial⟩,⟨z27 rfl rfl,z27 rfl rfl,z59 (z83 (z1081 _ _ _).symm) (z7 fun _=>rfl),trivial⟩⟩ ?_
 intro k hk
 have hN2:((g.st.length * a.acc.length:Nat):Int)=(g.st.length:Int) * a.acc.length:=by simp
 repeat' (first|((fail_if_success apply z114 6);(fail_if_success apply z96 6);(fail_if_success apply z114 8);(fail_if_success apply z96 8);apply y4 ok;rfl;conv=>whnf)|(apply y39;(omega);conv=>whnf)|(with_reducible apply z15;omega;intro _;conv=>whnf)|(apply z8<;>intro _<;>conv=>whnf))
 ·have hkl:k < a.ed.length:=by assumption
  have he:=a5 a.ed[k] (y40 hkl)
  unfold z425 at he
  have hlt:a.ed[k].src.toNat < (z115 a.acc.length ((a.ed.take k).map fun e=>(e.src.toNat,e))).length:=by rw [z157];omega
  have hmap:a.ed[k].src.toNat < ((z115 a.acc.length ((a.ed.take k).map fun e=>(e.src.toNat,e))).map (ownG 4 Trans.cs)).length:=by rw [y45];exact hlt
  have hrl:=z677 hlt
  rw [y45,y44] at hrl
  refine y81 (Gl.Reach.expose (e:=ownG 4 Trans.cs (z115 a.acc.length ((a.ed.take k).map fun e=>(e.src.toNat,e)))[a.ed[k].src.toNat]) 2 a.ed[k].src.toNat 0 rfl (by rw [y47,y41 hlt];rfl) rfl (z168 (fun _=>rfl) _) rfl) ?_
  conv=>whnf
  (apply y4 ok;rfl;conv=>whnf)
  repeat' (first|(apply z37;kernel_rfl;conv=>whnf)|(apply z529;exact Nat.add_zero _;exact hmap;conv=>whnf)|(apply y39;(first|omega|((try dsimp only);simp only [y45,y44,y43,y42,y54,y55];omega)|exact ⟨rfl,z25 rfl z32⟩);conv=>whnf))
  refine y81 (Gl.Reach.absorb 2 6 a.ed[k].src.toNat 0 rfl (z1136 (Nat.add_zero _) (by rw [List.length_set];exact hmap)) rfl rfl (by simp) rfl (z90 (fun e he=>(z7 (fun _=>rfl)) e (List.mem_of_mem_take he)) (z212 rfl z36)) rfl) ?_
  conv=>whnf
  repeat' (first|((fail_if_success apply z114 6);(fail_if_success apply z96 6);(fail_if_success apply z114 8);(fail_if_success apply z96 8);apply y4 ok;rfl;conv=>whnf)|(apply y39;((unfold inI;omega));conv=>whnf))
  refine z81 (k+1) [0,1,2] (by omega) (by omega)
   ⟨rfl,by decide,rfl,⟨⟨rfl,rfl⟩,⟨rfl,rfl⟩,⟨rfl,rfl⟩,⟨rfl,rfl⟩,⟨rfl,rfl⟩,⟨rfl,rfl⟩,⟨rfl,rfl⟩,⟨rfl,rfl⟩,trivial⟩,⟨z27 rfl rfl,z27 rfl rfl,z59 (z83 ?_) (z7 fun _=>rfl),trivial⟩⟩
  have e1:((a.ed.take (k+1)).map fun e=>(e.src.toNat,e))=((a.ed.take k).map fun e=>(e.src.toNat,e))++[(a.ed[k].src.toNat,a.ed[k])]:=by
   rw [y46 hkl,y60];rfl
  rw [e1]
  exact z965 hlt (Nat.add_zero _) (by simp) rfl
 obtain rfl:k=a.ed.length:=by omega
 refine y81 (SealL.reach (π:=[0,1]) (Bn:=[2]) (env:=[(1,lst 3 Tree.cs' l),(3,.ptr 0 none 0),(5,.ptr 1 none 0),(8,.int a.acc.length),(9,lst 1 encT (z73 a))]) (objs:=[.cells 2 [[lst 2 State.cs g.st,lst 1 encL g.nx]],.cells 3 [[lst 1 enI a.ini,lst 1 enB a.acc,lst 4 Trans.cs a.ed]]]) ⟨rfl,rfl,by simp,rfl,by intro o ho;simp at ho;rcases ho with rfl|rfl<;>rfl,⟨rfl,rfl,rfl,rfl,?_,trivial⟩,rfl⟩) ?_
 ·show bor _ _ _ (.sref 2 0 a.acc.length)=_
  rw [z408 (w:=1) (es:=(z115 a.acc.length ((a.ed.take a.ed.length).map fun e=>(e.src.toNat,e))).map (ownG 4 Trans.cs)) rfl rfl rfl (by rw [y45,z157]),z822 (fun t=>Trans.unown t),y52]
  unfold lst z73
  rw [z157];rfl
 conv=>whnf
 repeat' (first|(apply y4 ok;rfl;conv=>whnf)|(apply y39;(first|(unfold inI;omega)|(dsimp only;omega));conv=>whnf)|(apply z6 (z911 g hvals g2 l hl);rfl;rfl;conv=>whnf))
 refine y81 (Gl.Reach.weaken (es':=List.replicate (g.st.length * a.acc.length) [.own 1 []]) 2 rfl (by rw [y42,y42];rfl) z345 rfl) ?_
 conv=>whnf
 have hls:(g.st.map (z49 l)).length=g.st.length:=by simp
 have hlr:∀ x∈g.st.map (z49 l),0≤x∧x≤7:=fun x hx=>by
  obtain ⟨s,_,rfl⟩:=List.mem_map.1 hx
  exact z440 hl s
 rw [← z1167 g _ a ⟨⟨a1,a2⟩,a3,a4,a5⟩]
 have hpl2:=pS2_len g ⟨⟨g1,g2⟩,g3,g4⟩ (g.st.map (z49 l)) a ⟨⟨a1,a2⟩,a3,a4,a5⟩
 generalize hlsd:g.st.map (z49 l)=ls at hls hlr hpl hpl2
 have hrow:∀ i (hi:i < g.nx.length),∀ x∈g.nx[i],0≤x∧x≤g.st.length - 1:=fun i hi x hx=>by
  obtain ⟨j,hj,rfl⟩:=List.mem_iff_getElem.1 hx
  exact ((g4 i hi hi (by omega)).2.2.2 j hj hj).1
 have hlen:∀ i (hi:i < g.nx.length),g.nx[i].length≤60:=fun i hi=>by
  have:=(g4 i hi hi (by omega)).2.1;omega
 have hel:(z73 a).length=a.acc.length:=z157 _ _
 have hed:∀ q (hq:q < (z73 a).length),∀ e∈(z73 a)[q],e∈a.ed:=fun q hq e he=>by
  rw [← z13 (d:=[]) hq,z316 (by omega)] at he;exact (List.mem_filter.1 he).1
 have hedl:∀ q (hq:q < (z73 a).length),(z73 a)[q].length≤2048:=fun q hq=>by
  rw [← z13 (d:=[]) hq,z316 (by omega)];exact Nat.le_trans (List.length_filter_le _ _) a3
 refine z97 (fun x:Nat×List (Nat×Int)=>([(3,.ptr 0 none 0),(5,.ptr 1 none 0),(8,.int a.acc.length),(9,lst 1 encT (z73 a)),(12,.sref 2 0 (g.st.length * a.acc.length)),(53,ints ls),(54,.int ls.length),(55,.int x.1)],[.cells 2 [[lst 2 State.cs g.st,lst 1 encL g.nx]],.cells 3 [[lst 1 enI a.ini,lst 1 enB a.acc,lst 4 Trans.cs a.ed]],.cells 1 ((build (g.st.length * a.acc.length) x.2).map z89)])) (fun x=>x.1≤ls.length∧x.2++((List.range g.st.length).drop x.1).flatMap (pI2 a.acc.length g.nx (z73 a) ls)=pS2 g ls a) (fun x=>ls.length - x.1) (0,[]) ⟨by omega,rfl⟩
  ⟨[0,1,2],rfl,by decide,rfl,⟨⟨rfl,by rfl⟩,⟨rfl,by rfl⟩,⟨rfl,by rfl⟩,⟨rfl,by rfl⟩,⟨rfl,by rfl⟩,⟨rfl,by rfl⟩,⟨rfl,by rfl⟩,⟨rfl,by rfl⟩,trivial⟩,⟨z27 rfl rfl,z27 rfl rfl,z59 (z83 (rows_nil _).symm) (z7 fun _=>rfl),trivial⟩⟩ ?_
 rintro ⟨i,ps⟩ ⟨hi1,hi2⟩
 dsimp only at hi1 hi2 ⊢
 repeat' (first|(apply y4 ok;rfl;conv=>whnf)|(apply y39;(omega);conv=>whnf)|(with_reducible apply z15;omega;intro _;conv=>whnf)|(apply z8<;>intro _<;>conv=>whnf))
 ·have hig:i < g.st.length:=by omega
  rw [z398 _ _ _ (by simpa using hig),List.getElem_range] at hi2
  have hin:i < g.nx.length:=by omega
  have hrow:=hrow i hin
  have hlen:=hlen i hin
  have hil:i < ls.length:=by omega
  have hli:=hlr ls[i] (y40 _)
  have hpI:pI2 a.acc.length g.nx (z73 a) ls i=(List.range a.acc.length).flatMap (pQ a.acc.length g.nx[i] (z73 a) i ls[i]):=by
   unfold pI2
   rw [z13 (l:=g.nx) hin,z13 (l:=ls) hil]
  rw [hpI] at hi2
  have hm1:=z291 (a:=(i:Int)) (b:=(a.acc.length:Int)) (A:=60) (B:=64) (by omega) (by omega) (by omega) (by omega)
  refine z97 (fun x:Nat×List (Nat×Int)=>([(3,.ptr 0 none 0),(5,.ptr 1 none 0),(8,.int a.acc.length),(9,lst 1 encT (z73 a)),(12,.sref 2 0 (g.st.length * a.acc.length)),(53,ints ls),(54,.int ls.length),(55,.int i),(13,.int i),(14,.int ls[i]),(60,.int a.acc.length),(61,.int x.1)],[.cells 2 [[lst 2 State.cs g.st,lst 1 encL g.nx]],.cells 3 [[lst 1 enI a.ini,lst 1 enB a.acc,lst 4 Trans.cs a.ed]],.cells 1 ((build (g.st.length * a.acc.length) x.2).map z89)])) (fun x=>x.1≤a.acc.length∧x.2++(((List.range a.acc.length).drop x.1).flatMap (pQ a.acc.length g.nx[i] (z73 a) i ls[i])++((List.range g.st.length).drop (i+1)).flatMap (pI2 a.acc.length g.nx (z73 a) ls))=pS2 g ls a) (fun x=>a.acc.length - x.1) (0,ps) ⟨by omega,hi2⟩
   ⟨[0,1,2],rfl,by decide,rfl,⟨⟨rfl,rfl⟩,⟨rfl,rfl⟩,⟨rfl,rfl⟩,⟨rfl,rfl⟩,⟨rfl,rfl⟩,⟨rfl,rfl⟩,⟨rfl,rfl⟩,⟨rfl,rfl⟩,⟨rfl,rfl⟩,⟨rfl,rfl⟩,⟨rfl,rfl⟩,⟨rfl,rfl⟩,trivial⟩,⟨z27 rfl rfl,z27 rfl rfl,z59 rfl (z7 fun _=>rfl),trivial⟩⟩ ?_
  rintro ⟨q,ps⟩ ⟨hq1,hq2⟩
  dsimp only at hq1 hq2 ⊢
  repeat' (first|(apply y4 ok;rfl;conv=>whnf)|(apply y39;(first|omega|(unfold inI;omega));conv=>whnf)|(with_reducible apply z15;omega;intro _;conv=>whnf)|(apply z8<;>intro _<;>conv=>whnf))
  ·have hqn:q < a.acc.length:=by omega
   rw [z398 _ _ _ (by simpa using hqn),List.getElem_range,List.append_assoc] at hq2
   have hqe:q < (z73 a).length:=by omega
   have hpQ:pQ a.acc.length g.nx[i] (z73 a) i ls[i] q=g.nx[i].flatMap (pTo a.acc.length (z73 a)[q] i q ls[i]):=by
    unfold pQ;rw [z13 hqe]
   rw [hpQ] at hq2
   have hedl:=hedl q hqe
   have hlt:i * a.acc.length+q < g.st.length * a.acc.length:=by
    have h1:(i+1) * a.acc.length≤g.st.length * a.acc.length:=Nat.mul_le_mul_right _ hig
    rw [Nat.add_mul,Nat.one_mul] at h1
    omega
   refine z97 (fun x:Nat×List (Nat×Int)=>([(3,.ptr 0 none 0),(5,.ptr 1 none 0),(8,.int a.acc.length),(9,lst 1 encT (z73 a)),(12,.sref 2 0 (g.st.length * a.acc.length)),(53,ints ls),(54,.int ls.length),(55,.int i),(13,.int i),(14,.int ls[i]),(60,.int a.acc.length),(61,.int q),(15,.int q),(68,ints g.nx[i]),(69,.int g.nx[i].length),(70,.int x.1)],[.cells 2 [[lst 2 State.cs g.st,lst 1 encL g.nx]],.cells 3 [[lst 1 enI a.ini,lst 1 enB a.acc,lst 4 Trans.cs a.ed]],.cells 1 ((build (g.st.length * a.acc.length) x.2).map z89)])) (fun x=>x.1≤g.nx[i].length∧x.2++((g.nx[i].drop x.1).flatMap (pTo a.acc.length (z73 a)[q] i q ls[i])++(((List.range a.acc.length).drop (q+1)).flatMap (pQ a.acc.length g.nx[i] (z73 a) i ls[i])++((List.range g.st.length).drop (i+1)).flatMap (pI2 a.acc.length g.nx (z73 a) ls)))=pS2 g ls a) (fun x=>g.nx[i].length - x.1) (0,ps) ⟨by omega,hq2⟩
    ⟨[0,1,2],rfl,by decide,rfl,⟨⟨rfl,rfl⟩,⟨rfl,rfl⟩,⟨rfl,rfl⟩,⟨rfl,rfl⟩,⟨rfl,rfl⟩,⟨rfl,rfl⟩,⟨rfl,rfl⟩,⟨rfl,rfl⟩,⟨rfl,rfl⟩,⟨rfl,rfl⟩,⟨rfl,rfl⟩,⟨rfl,rfl⟩,⟨rfl,rfl⟩,⟨rfl,rfl⟩,⟨rfl,rfl⟩,⟨rfl,rfl⟩,trivial⟩,⟨z27 rfl rfl,z27 rfl rfl,z59 rfl (z7 fun _=>rfl),trivial⟩⟩ ?_
   rintro ⟨j,ps⟩ ⟨hj1,hj2⟩
   dsimp only at hj1 hj2 ⊢
   repeat' (first|(apply y4 ok;rfl;conv=>whnf)|(apply y39;(first|omega|(unfold inI;omega));conv=>whnf)|(with_reducible apply z15;omega;intro _;conv=>whnf)|(apply z8<;>intro _<;>conv=>whnf))
   ·have hjn:j < g.nx[i].length:=by omega
    rw [z398 _ _ _ hjn,List.append_assoc] at hj2
    have hto:=hrow g.nx[i][j] (y40 _)
    have hm2:=z291 (a:=g.nx[i][j]) (b:=(a.acc.length:Int)) (A:=60) (B:=64) (by omega) (by omega) (by omega) (by omega)
    refine z97 (fun x:Nat×List (Nat×Int)=>([(3,.ptr 0 none 0),(5,.ptr 1 none 0),(8,.int a.acc.length),(9,lst 1 encT (z73 a)),(12,.sref 2 0 (g.st.length * a.acc.length)),(53,ints ls),(54,.int ls.length),(55,.int i),(13,.int i),(14,.int ls[i]),(60,.int a.acc.length),(61,.int q),(15,.int q),(68,ints g.nx[i]),(69,.int g.nx[i].length),(70,.int j),(17,.int g.nx[i][j]),(77,lst 4 Trans.cs (z73 a)[q]),(78,.int (z73 a)[q].length),(79,.int x.1)],[.cells 2 [[lst 2 State.cs g.st,lst 1 encL g.nx]],.cells 3 [[lst 1 enI a.ini,lst 1 enB a.acc,lst 4 Trans.cs a.ed]],.cells 1 ((build (g.st.length * a.acc.length) x.2).map z89)])) (fun x=>x.1≤(z73 a)[q].length∧x.2++(((z73 a)[q].drop x.1).flatMap (pE2 a.acc.length i q ls[i] g.nx[i][j])++((g.nx[i].drop (j+1)).flatMap (pTo a.acc.length (z73 a)[q] i q ls[i])++(((List.range a.acc.length).drop (q+1)).flatMap (pQ a.acc.length g.nx[i] (z73 a) i ls[i])++((List.range g.st.length).drop (i+1)).flatMap (pI2 a.acc.length g.nx (z73 a) ls))))=pS2 g ls a) (fun x=>(z73 a)[q].length - x.1) (0,ps) ⟨by omega,hj2⟩
     ⟨[0,1,2],rfl,by decide,rfl,⟨⟨rfl,rfl⟩,⟨rfl,rfl⟩,⟨rfl,rfl⟩,⟨rfl,rfl⟩,⟨rfl,rfl⟩,⟨rfl,rfl⟩,⟨rfl,rfl⟩,⟨rfl,rfl⟩,⟨rfl,rfl⟩,⟨rfl,rfl⟩,⟨rfl,rfl⟩,⟨rfl,rfl⟩,⟨rfl,rfl⟩,⟨rfl,rfl⟩,⟨rfl,rfl⟩,⟨rfl,rfl⟩,⟨rfl,rfl⟩,⟨rfl,rfl⟩,⟨rfl,rfl⟩,⟨rfl,rfl⟩,trivial⟩,⟨z27 rfl rfl,z27 rfl rfl,z59 rfl (z7 fun _=>rfl),trivial⟩⟩ ?_
    rintro ⟨k,ps⟩ ⟨hk1,hk2⟩
    dsimp only at hk1 hk2 ⊢
    by_cases hke:k < (z73 a)[q].length
    ·have he:=a5 (z73 a)[q][k] (hed q hqe _ (y40 hke))
     unfold z425 at he
     have hlt' : i * a.acc.length+q < (build (g.st.length * a.acc.length) ps).length:=by rw [z125];exact hlt
     have hmap:i * a.acc.length+q < ((build (g.st.length * a.acc.length) ps).map z89).length:=by rw [y45];exact hlt'
     have hrl:(build (g.st.length * a.acc.length) ps)[i * a.acc.length+q].length≤1000000000:=by
      have h1:=z445 (N:=g.st.length * a.acc.length) (ps:=ps) hlt'
      have h2:=congrArg List.length hk2
      rw [y43] at h2
      omega
     have hix:((i:Int) * a.acc.length+q).toNat=i * a.acc.length+q:=by
      have e:((i * a.acc.length:Nat):Int)=(i:Int) * a.acc.length:=by simp
      omega
     have hlt2:((i:Int) * a.acc.length+q).toNat < g.st.length * a.acc.length:=by rw [hix];exact hlt
     rw [z398 _ _ _ hke] at hk2
     repeat' (first|((fail_if_success apply z114 22);(fail_if_success apply z96 22);apply y4 ok;rfl;conv=>whnf)|(apply y39;(first|omega|(unfold inI;omega));conv=>whnf)|(with_reducible apply z15;omega;intro _;conv=>whnf)|(apply z8<;>intro _<;>conv=>whnf)|(apply z6 (takes_ok (z73 a)[q][k] ls[i] hli.1 hli.2 he.2.2.1);rfl;rfl;conv=>whnf))
     ·have hon:((ls[i].toNat &&& (z73 a)[q][k].care.toNat:Nat):Int)=(z73 a)[q][k].val:=by assumption
      refine y81 (Gl.Reach.expose (e:=z89 (build (g.st.length * a.acc.length) ps)[i * a.acc.length+q]) 2 (i * a.acc.length+q) 0 rfl (by rw [y47,y41 hlt'];rfl) rfl (z168 (fun _=>rfl) _) rfl) ?_
      conv=>whnf
      (apply y4 ok;rfl;conv=>whnf)
      repeat' (first|(apply z37;kernel_rfl;conv=>whnf)|(apply z529;exact hix;exact hmap;conv=>whnf)|(apply y39;(first|omega|(unfold inI;omega)|((try dsimp only);simp only [y45,y44,y43,y42,y54,y55];omega)|exact ⟨rfl,z25 rfl z32⟩);conv=>whnf))
      refine y81 (Gl.Reach.absorb 2 6 (i * a.acc.length+q) 0 rfl (z1136 hix (by rw [List.length_set];exact hmap)) rfl rfl (by simp) rfl (z90 (fun e he=>(z7 (fun _=>rfl)) e (List.mem_of_mem_take he)) (z212 rfl z36)) rfl) ?_
      conv=>whnf
      repeat' (first|(apply y4 ok;rfl;conv=>whnf)|(apply y39;((unfold inI;omega));conv=>whnf))
      have hpe:pE2 a.acc.length i q ls[i] g.nx[i][j] (z73 a)[q][k]=[(i * a.acc.length+q,g.nx[i][j] * a.acc.length+(z73 a)[q][k].dst)]:=by
       unfold pE2 onB;rw [if_pos (y78 hon)]
      rw [hpe,List.append_assoc,← List.append_assoc] at hk2
      exact z81 (k+1,ps++[(i * a.acc.length+q,g.nx[i][j] * a.acc.length+(z73 a)[q][k].dst)]) [0,1,2] ⟨by dsimp only;omega,hk2⟩ (by dsimp only;omega) ⟨rfl,by decide,rfl,⟨⟨rfl,rfl⟩,⟨rfl,rfl⟩,⟨rfl,rfl⟩,⟨rfl,rfl⟩,⟨rfl,rfl⟩,⟨rfl,rfl⟩,⟨rfl,rfl⟩,⟨rfl,rfl⟩,⟨rfl,rfl⟩,⟨rfl,rfl⟩,⟨rfl,rfl⟩,⟨rfl,rfl⟩,⟨rfl,rfl⟩,⟨rfl,rfl⟩,⟨rfl,rfl⟩,⟨rfl,rfl⟩,⟨rfl,rfl⟩,⟨rfl,rfl⟩,⟨rfl,rfl⟩,⟨rfl,rfl⟩,trivial⟩,⟨z27 rfl rfl,z27 rfl rfl,z59 (z83 (rows_push' hlt' hix (by simp))) (z7 fun _=>rfl),trivial⟩⟩
     ·have hon:¬ ((ls[i].toNat &&& (z73 a)[q][k].care.toNat:Nat):Int)=(z73 a)[q][k].val:=by assumption
      have hpe:pE2 a.acc.length i q ls[i] g.nx[i][j] (z73 a)[q][k]=[]:=by
       unfold pE2 onB;rw [if_neg (by simpa using hon)]
      rw [hpe,List.nil_append] at hk2
      exact z81 (k+1,ps) [0,1,2] ⟨by dsimp only;omega,hk2⟩ (by dsimp only;omega) ⟨rfl,by decide,rfl,⟨⟨rfl,rfl⟩,⟨rfl,rfl⟩,⟨rfl,rfl⟩,⟨rfl,rfl⟩,⟨rfl,rfl⟩,⟨rfl,rfl⟩,⟨rfl,rfl⟩,⟨rfl,rfl⟩,⟨rfl,rfl⟩,⟨rfl,rfl⟩,⟨rfl,rfl⟩,⟨rfl,rfl⟩,⟨rfl,rfl⟩,⟨rfl,rfl⟩,⟨rfl,rfl⟩,⟨rfl,rfl⟩,⟨rfl,rfl⟩,⟨rfl,rfl⟩,⟨rfl,rfl⟩,⟨rfl,rfl⟩,trivial⟩,⟨z27 rfl rfl,z27 rfl rfl,z59 rfl (z7 fun _=>rfl),trivial⟩⟩
     ·omega
    ·repeat' (first|((fail_if_success apply z114 22);(fail_if_success apply z96 22);apply y4 ok;rfl;conv=>whnf)|(apply y39;(first|omega|(unfold inI;omega));conv=>whnf)|(with_reducible apply z15;omega;intro _;conv=>whnf)|(apply z8<;>intro _<;>conv=>whnf))
     ·omega
     ·rw [z194 _ _ _ (by omega),List.nil_append] at hk2
      exact z81 (j+1,ps) [0,1,2] ⟨by dsimp only;omega,hk2⟩ (by dsimp only;omega) ⟨rfl,by decide,rfl,⟨⟨rfl,rfl⟩,⟨rfl,rfl⟩,⟨rfl,rfl⟩,⟨rfl,rfl⟩,⟨rfl,rfl⟩,⟨rfl,rfl⟩,⟨rfl,rfl⟩,⟨rfl,rfl⟩,⟨rfl,rfl⟩,⟨rfl,rfl⟩,⟨rfl,rfl⟩,⟨rfl,rfl⟩,⟨rfl,rfl⟩,⟨rfl,rfl⟩,⟨rfl,rfl⟩,⟨rfl,rfl⟩,trivial⟩,⟨z27 rfl rfl,z27 rfl rfl,z59 rfl (z7 fun _=>rfl),trivial⟩⟩
   ·rw [z194 _ _ _ (by omega),List.nil_append] at hj2
    exact z81 (q+1,ps) [0,1,2] ⟨by dsimp only;omega,hj2⟩ (by dsimp only;omega) ⟨rfl,by decide,rfl,⟨⟨rfl,rfl⟩,⟨rfl,rfl⟩,⟨rfl,rfl⟩,⟨rfl,rfl⟩,⟨rfl,rfl⟩,⟨rfl,rfl⟩,⟨rfl,rfl⟩,⟨rfl,rfl⟩,⟨rfl,rfl⟩,⟨rfl,rfl⟩,⟨rfl,rfl⟩,⟨rfl,rfl⟩,trivial⟩,⟨z27 rfl rfl,z27 rfl rfl,z59 rfl (z7 fun _=>rfl),trivial⟩⟩
  ·rw [z194 _ _ _ (by simp;omega),List.nil_append] at hq2
   exact z81 (i+1,ps) [0,1,2] ⟨by dsimp only;omega,hq2⟩ (by dsimp only;omega) ⟨rfl,by decide,rfl,⟨⟨rfl,rfl⟩,⟨rfl,rfl⟩,⟨rfl,rfl⟩,⟨rfl,rfl⟩,⟨rfl,rfl⟩,⟨rfl,rfl⟩,⟨rfl,rfl⟩,⟨rfl,rfl⟩,trivial⟩,⟨z27 rfl rfl,z27 rfl rfl,z59 rfl (z7 fun _=>rfl),trivial⟩⟩
 ·rw [z194 _ _ _ (by simp;omega),y61] at hi2
  subst hi2
  repeat' (first|(apply y4 ok;rfl;conv=>whnf)|(apply z6 (z294 a.ini (by omega));rfl;rfl;conv=>whnf))
  exact z95 [2] (by decide) rfl rfl rfl ⟨z59 rfl (z7 fun _=>rfl),trivial⟩
theorem z970 (g:Graph) (hg:GB g) (l:List Tree) (hl:z160 l) (a:Aut) (ha:AutP a):CallsA Tryz.prog 54 [.agg g.cs,lst 3 Tree.cs' l,.agg a.cs] [] (.tup [lst 1 encL (z58 g (g.st.map (z49 l)) a),ints a.ini]) []:=by
 have h:=z825 g hg l hl a ha
 have hlen:(z58 g (g.st.map (z49 l)) a).length=g.st.length * a.acc.length:=by unfold z58;rw [z125,Nat.mul_comm]
 refine h.lend [] [0] rfl rfl rfl ?_ z43
 show AC.tup [bor _ _ _ (.sref 0 0 _),bor _ _ _ (ints a.ini)]=_
 rw [z408 (w:=1) (es:=(z58 g (g.st.map (z49 l)) a).map z89) rfl rfl rfl (by rw [y45];exact hlen),z143,← hlen]
 rfl
theorem z826 (g:Graph) (hg:GB g) (ls:List Int) (a:Aut) (ha:AutP a):∀ row∈z58 g ls a,∀ x∈row,0≤x∧x < ((g.st.length * a.acc.length:Nat):Int):=by
 intro row hrow x hx
 unfold z58 build at hrow
 obtain ⟨r,_,rfl⟩:=List.mem_map.1 hrow
 obtain ⟨⟨p,v⟩,hp,rfl⟩:=List.mem_map.1 hx
 have hp:=(List.mem_filter.1 hp).1
 unfold z718 at hp
 obtain ⟨i,hi,hp⟩:=List.mem_flatMap.1 hp
 rw [y57] at hi
 unfold z720 at hp
 obtain ⟨to,hto,hp⟩:=List.mem_flatMap.1 hp
 unfold z719 at hp
 obtain ⟨e,he,hp⟩:=List.mem_flatMap.1 hp
 have hin:i < g.nx.length:=by have:=hg.2.1;omega
 rw [z13 hin] at hto
 obtain ⟨j,hj,rfl⟩:=List.mem_iff_getElem.1 hto
 have h1:=((hg.2.2 i hin hin hi).2.2.2 j hj hj).1
 have h2:=(ha.2.2.2 e he).2.1
 unfold z453 at hp
 split at hp
 ·simp only [y51,Prod.mk.injEq] at hp
  obtain ⟨_,rfl⟩:=hp
  have h3:0≤g.nx[i][j] * (a.acc.length:Int):=Int.mul_nonneg h1.1 (by omega)
  have h4:(g.nx[i][j]+1) * (a.acc.length:Int)≤g.st.length * a.acc.length:=Int.mul_le_mul_of_nonneg_right (by omega) (by omega)
  rw [Int.add_mul,Int.one_mul] at h4
  have e:((g.st.length * a.acc.length:Nat):Int)=(g.st.length:Int) * a.acc.length:=by simp
  rw [e]
  dsimp only
  omega
 ·simp at hp
theorem z721 (g:Graph) (hg:GB g) (ls:List Int) (a:Aut) (ha:AutP a):∀ row∈z58 g ls a,row.length≤7372800:=by
 intro row hrow
 obtain ⟨i,hi,rfl⟩:=List.mem_iff_getElem.1 hrow
 exact Nat.le_trans (z445 (N:=a.acc.length * g.st.length) (ps:=z718 g ls a) hi) (z717 g hg ls a ha)
def rk (ranks:List Int) (x:Int):Int:=ranks.getD x.toNat 0
def less (acc:Bool) (r:Int):Int:=if acc then r - 1 else r
def nodeP (row ranks:List Int) (rank:Int) (acc:Bool):Prop:=∀ x∈row,0≤rk ranks x∧rk ranks x≤less acc rank
instance {row ranks:List Int} {rank:Int} {acc:Bool} : Decidable (nodeP row ranks rank acc):=by unfold nodeP;infer_instance
def certP (rows:List (List Int)) (ini:List Int) (acc:List Bool) (N:Nat) (ranks:List Int):Prop :=
 ranks.length=N∧(∀ x∈ranks,-1≤x∧x≤4000)∧(∀ x∈ini,0≤rk ranks x)∧∀ i (h:i < ranks.length),0≤ranks[i]→nodeP (rows.getD i []) ranks ranks[i] (acc.getD (i % acc.length) false)
noncomputable instance {rows:List (List Int)} {ini:List Int} {acc:List Bool} {N:Nat} {ranks:List Int} : Decidable (certP rows ini acc N ranks):=Classical.propDecidable _
def Cert.mx (c:Cert):Prop:=c.ranks.length≤maxLen
theorem z535 (l:List Int) (hl:l.length≤1048576):CallsA Tryz.prog 37 [.sref 0 0 l.length] [.cells 1 (l.map enI)] (.sref 0 0 l.length) [.cells 1 (l.map enI)]:=by
 refine z12 z19 Tryz.func37 rfl rfl 9 Tryz.ntmps37 (by simp) ?_
 repeat' (first|(apply y4 ok;rfl;conv=>whnf)|(apply y39;(omega);conv=>whnf))
 exact z99 rfl (z7 fun _=>rfl) (by omega) rfl rfl
theorem z768 (l:List Int) (hl:l.length≤1048576):CallsA Tryz.prog 134 [ints l] [] (.sref 0 0 l.length) [.cells 1 (l.map enI)]:=by
 by_cases hp:0 < l.length
 ·exact z601 l hl hp
 ·obtain rfl:l=[]:=y70 (by omega)
  refine z213 (z208 Tryz.func134 rfl (by rfl)) fun ad cap=>?_
  cases ad with
  |none =>
   refine CallsA.nils (res:=.nils) (l:=[.cells 1 []]) ?_ (by simp) z467
   refine z12 z19 Tryz.func134 rfl rfl 8 Tryz.ntmps134 (by simp) ?_
   repeat' ((apply y4 ok;rfl;conv=>whnf))
   all_goals exact z50 rfl rfl rfl
  |some p =>
   refine z12 z19 Tryz.func134 rfl rfl 8 Tryz.ntmps134 (by simp) ?_
   repeat' (first|(apply y4 ok;rfl;conv=>whnf)|(apply y39;(omega);conv=>whnf))
   all_goals (exact z99 rfl z36 rfl rfl rfl)
theorem z664 (l:List Int) (hl:l.length≤1048576):CallsA Tryz.prog 85 [ints l] [] (.sref 0 0 l.length) [.cells 1 (l.map enI)]:=by
 refine z12 z19 Tryz.func85 rfl rfl 6 Tryz.ntmps85 (by simp) ?_
 repeat' (first|(apply y4 ok;rfl;conv=>whnf)|(apply z86 [] [] [0] (z768 l hl);rfl;(focus ((repeat' (exact z43))<;>(fail)));rfl;rfl;rfl;rfl;rfl;(focus ((repeat' (first|exact z17|apply z14))<;>((refine z23 ?_;((exact z7 (fun _=>rfl)))))));(exact .inl rfl);conv=>whnf)|(apply z86 [0] [] [] (z535 l hl);rfl;(focus ((repeat' (first|exact z43|apply z64))<;>((refine z88 rfl ?_;((exact z7 (fun _=>rfl)))))));rfl;rfl;rfl;rfl;rfl;(focus ((repeat' (first|exact z17|apply z14))<;>((refine z23 ?_;((exact z7 (fun _=>rfl)))))));(exact .inl rfl);conv=>whnf))
 exact z99 rfl (z7 fun _=>rfl) rfl rfl rfl
end Go.Proofs.YteinbnahinpegaaGreat
namespace Go.Proofs.YteinbnahinpegaaGreat
open Go.Gl
attribute [local irreducible] z20 AWP z30 z35 z34 RetS z42
theorem z1162 (l:List State) (hl:l.length≤1048576):CallsA Tryz.prog 38 [lst 2 State.cs l] [] (lst 2 State.cs l) []:=by
 refine z12 z19 Tryz.func38 rfl rfl 9 Tryz.ntmps38 (by simp) ?_
 repeat' ((first|(apply y4 ok;rfl)|(apply y39;omega))<;>conv=>whnf)
 refine z50 rfl rfl ?_
 show AC.list 2 _ _=lst 2 State.cs l
 rw [show AC.list 2 ((l.length:Int).toNat - (0:Int).toNat) (((l.map State.cs).drop (0:Int).toNat).take ((l.length:Int).toNat - (0:Int).toNat))=_ from z197 2 State.cs l l.length (y48 _),y52]
theorem z861 (l:List (List Int)) (hl:l.length≤1048576):CallsA Tryz.prog 39 [lst 1 encL l] [] (lst 1 encL l) []:=by
 refine z12 z19 Tryz.func39 rfl rfl 9 Tryz.ntmps39 (by simp) ?_
 repeat' ((first|(apply y4 ok;rfl)|(apply y39;omega))<;>conv=>whnf)
 refine z50 rfl rfl ?_
 show AC.list 1 _ _=lst 1 encL l
 rw [show AC.list 1 ((l.length:Int).toNat - (0:Int).toNat) (((l.map encL).drop (0:Int).toNat).take ((l.length:Int).toNat - (0:Int).toNat))=_ from z197 1 encL l l.length (y48 _),y52]
theorem z765 (s:State) (hs:s.sm):CallsA Tryz.prog 36 [z40 State.cs s] [] (z40 State.cs s) []:=by
 have h1:=hs.a
 have h2:=hs.b
 have c1:=z294 s.a (by omega)
 have c2:=z294 s.b (by omega)
 refine z10 z19 Tryz.func36 rfl rfl 10 Tryz.ntmps36 (by simp) ?_
 repeat' ((first|(apply y4 ok;rfl)|(apply z37;kernel_rfl)|(apply z6 (c1);rfl;rfl)|(apply z6 (c2);rfl;rfl))<;>conv=>whnf)
 all_goals (refine rsD [] [] rfl ?_;(repeat' first|exact y82 _|constructor))
end Go.Proofs.YteinbnahinpegaaGreat
namespace Go.Proofs.YteinbnahinpegaaGreat
open Go.Gl
attribute [local irreducible] z20 AWP z30 z35 z34
def mst (bl:List Int):Nat→Int
 |0=>0
 |i+1=>if bl.getD i 0=mst bl i then mst bl i+1 else mst bl i
theorem z729 (bl:List Int) (i:Nat):0≤mst bl i∧mst bl i≤i:=by
 induction i with
 |zero=>exact ⟨Int.le_refl _,Int.le_refl _⟩
 |succ i ih=>rw [mst];split<;>omega
def PartP (bl:List Int):Prop:=∀ i (h:i < bl.length),0≤bl[i]∧bl[i]≤mst bl i
noncomputable instance {bl:List Int} : Decidable (PartP bl):=Classical.propDecidable _
theorem z559 (bl:List Int) (hl:bl.length≤1048576) (n:Int):CallsA Tryz.prog 72 [ints bl,.int n] [] (.bool (decide (PartP bl) && decide ((bl.length:Int)=n))) []:=by
 refine z12 z19 Tryz.func72 rfl rfl 28 Tryz.ntmps72 (by simp) ?_
 repeat' ((apply y4 ok;rfl;conv=>whnf))
 refine z97 (fun i:Nat=>([(0,ints bl),(1,.int n),(5,.int (mst bl i)),(8,ints bl),(9,.int bl.length),(10,.int i)],[])) (fun i=>i≤bl.length∧∀ j (h:j < bl.length),j < i→0≤bl[j]∧bl[j]≤mst bl j) (fun i=>bl.length - i) 0 ⟨by omega,fun j _ h=>by omega⟩ ⟨[],rfl,by decide,rfl,⟨⟨rfl,rfl⟩,⟨rfl,rfl⟩,⟨rfl,rfl⟩,⟨rfl,rfl⟩,⟨rfl,rfl⟩,⟨rfl,rfl⟩,trivial⟩,trivial⟩ ?_
 rintro i ⟨hi1,hi2⟩
 have hm:=z729 bl i
 by_cases hil:i < bl.length
 ·have c1:=z348 bl[i] 0 (mst bl i)
  have em:mst bl (i+1)=if bl[i]=mst bl i then mst bl i+1 else mst bl i:=by rw [mst,z13 hil]
  by_cases hb:0≤bl[i]∧bl[i]≤mst bl i
  ·rw [z141.2 hb] at c1
   have hok:∀ j (h:j < bl.length),j < i+1→0≤bl[j]∧bl[j]≤mst bl j:=fun j hj hji=>by
    rcases y66 j i with h3|h3
    ·exact hi2 j hj h3
    ·obtain rfl:j=i:=by omega
     exact hb
   by_cases he:bl[i]=mst bl i
   ·rw [if_pos he] at em
    repeat' (first|(apply y4 ok;rfl;conv=>whnf)|(apply y39;(first|omega|(unfold inI;omega));conv=>whnf)|(with_reducible apply z15;omega;intro _;conv=>whnf)|(apply z8<;>intro _<;>conv=>whnf)|(apply z6 (c1);rfl;rfl;conv=>whnf))
    all_goals try (exfalso;omega)
    exact z81 (i+1) [] ⟨by omega,hok⟩ (by omega) ⟨rfl,by decide,rfl,⟨⟨rfl,rfl⟩,⟨rfl,rfl⟩,⟨rfl,z299 em.symm⟩,⟨rfl,rfl⟩,⟨rfl,rfl⟩,⟨rfl,rfl⟩,trivial⟩,trivial⟩
   ·rw [if_neg he] at em
    repeat' (first|(apply y4 ok;rfl;conv=>whnf)|(apply y39;(first|omega|(unfold inI;omega));conv=>whnf)|(with_reducible apply z15;omega;intro _;conv=>whnf)|(apply z8<;>intro _<;>conv=>whnf)|(apply z6 (c1);rfl;rfl;conv=>whnf))
    all_goals try (exfalso;omega)
    exact z81 (i+1) [] ⟨by omega,hok⟩ (by omega) ⟨rfl,by decide,rfl,⟨⟨rfl,rfl⟩,⟨rfl,rfl⟩,⟨rfl,z299 em.symm⟩,⟨rfl,rfl⟩,⟨rfl,rfl⟩,⟨rfl,rfl⟩,trivial⟩,trivial⟩
  ·rw [z303.2 hb] at c1
   have hno:¬ PartP bl:=fun h=>hb (h i hil)
   repeat' (first|(apply y4 ok;rfl;conv=>whnf)|(apply y39;(omega);conv=>whnf)|(with_reducible apply z15;omega;intro _;conv=>whnf)|(apply z8<;>intro _<;>conv=>whnf)|(apply z6 (c1);rfl;rfl;conv=>whnf))
   all_goals try (exfalso;omega)
   exact z24 rfl (by rw [y79 hno];rfl)
 ·have hp:PartP bl:=fun j hj=>hi2 j hj (by omega)
  repeat' (first|(apply y4 ok;rfl;conv=>whnf)|(apply y39;(omega);conv=>whnf)|(with_reducible apply z15;omega;intro _;conv=>whnf)|(apply z8<;>intro _<;>conv=>whnf))
  all_goals try (exfalso;omega)
  exact z24 rfl (by rw [y78 hp];rfl)
noncomputable def bvB (g:Graph) (bl:List Int):Bool:=z223 g && (decide (PartP bl) && decide ((bl.length:Int)=g.st.length))
theorem z221 (g:Graph) (hg:g.mx) (bl:List Int) (hl:bl.length≤1048576):CallsA Tryz.prog 24 [.agg g.cs,ints bl] [] (.bool (bvB g bl)) []:=by
 have c1:=z264 g hg
 have c2:=z559 bl hl g.st.length
 unfold bvB
 generalize z223 g=q at *
 refine z12 z19 Tryz.func24 rfl rfl 14 Tryz.ntmps24 (by simp) ?_
 cases q
 all_goals repeat' (first|(apply y4 ok;rfl;conv=>whnf)|(apply z6 (c1);rfl;rfl;conv=>whnf)|(apply z6 (c2);rfl;rfl;conv=>whnf))
 all_goals exact z24 rfl rfl
def pick (bl:List Int) (p:Int):Int:=bl.getD p.toNat 0
theorem z582 (bl places:List Int) (hl:places.length≤1048576) (hp:InN bl.length places) (hb:bl.length≤1048576):CallsA Tryz.prog 34 [ints bl,ints places] [] (.sref 0 0 places.length) [.cells 1 ((places.map (pick bl)).map enI)]:=by
 refine z12 z19 Tryz.func34 rfl rfl 27 Tryz.ntmps34 (by simp) ?_
 repeat' (first|(apply y4 ok;rfl;conv=>whnf)|(apply y39;((dsimp only;omega));conv=>whnf))
 refine z97 (fun k:Nat=>([(0,ints bl),(5,.sref 0 0 places.length),(11,ints places),(12,.int places.length),(13,.int k)],[.cells 1 ((places.take k).map (fun p=>enI (pick bl p))++List.replicate (places.length - k) [.int 0])])) (fun k=>k≤places.length) (fun k=>places.length - k) 0 (by omega) ⟨[0],rfl,by decide,rfl,⟨⟨rfl,rfl⟩,⟨rfl,rfl⟩,⟨rfl,rfl⟩,⟨rfl,rfl⟩,⟨rfl,rfl⟩,trivial⟩,⟨z59 (by rfl) (z90 (z7 fun _=>rfl) (z75 rfl)),trivial⟩⟩ ?_
 intro k hk
 by_cases hkl:k < places.length
 ·have hx:=hp places[k] (y40 _)
  have hxb:places[k].toNat < bl.length:=by omega
  repeat' (first|(apply y4 ok;rfl;conv=>whnf)|(apply y39;(first|omega|(unfold inI;omega));conv=>whnf)|(with_reducible apply z15;omega;intro _;conv=>whnf)|(with_reducible apply z154;omega;intro _;conv=>whnf)|(apply z391;omega;conv=>whnf)|(apply z8<;>intro _<;>conv=>whnf))
  all_goals try (exfalso;omega)
  exact z81 (k+1) [0] (by omega) (by omega) ⟨rfl,by decide,rfl,⟨⟨rfl,rfl⟩,⟨rfl,rfl⟩,⟨rfl,rfl⟩,⟨rfl,rfl⟩,⟨rfl,rfl⟩,trivial⟩,⟨z901 hkl rfl (y73 k) (by unfold pick;rw [z13 hxb];rfl) (fun _=>rfl) rfl,trivial⟩⟩
 ·repeat' (first|(apply y4 ok;rfl;conv=>whnf)|(apply y39;(omega);conv=>whnf)|(with_reducible apply z15;omega;intro _;conv=>whnf)|(with_reducible apply z154;omega;intro _;conv=>whnf)|(apply z391;omega;conv=>whnf)|(apply z8<;>intro _<;>conv=>whnf))
  all_goals try (exfalso;omega)
  obtain rfl:k=places.length:=by omega
  exact z418 rfl (z7 fun _=>rfl) rfl (by rw [z925 _ _ _ _ rfl,List.map_map];rfl)
theorem GB.row {g:Graph} (h:GB g):∀ i (hi:i < g.nx.length),1≤g.nx[i].length∧g.nx[i].length≤60∧InN g.st.length g.nx[i]:=fun i hi=>by
 obtain ⟨⟨g1,g2⟩,g3,g4⟩:=h
 have h4:=g4 i hi hi (by omega)
 refine ⟨by have:=h4.2.1;omega,by have:=h4.2.1;omega,fun x hx=>?_⟩
 obtain ⟨j,hj,rfl⟩:=List.mem_iff_getElem.1 hx
 have:=(h4.2.2.2 j hj hj).1
 omega
theorem z755 (a b:List Int) (ha:a.length≤maxLen) (hb:b.length≤maxLen):CallsA Tryz.prog 26 [ints a,ints b] [] (.bool (decide (a=b))) []:=by
 unfold maxLen at ha hb
 refine z12 z19 Tryz.func26 rfl rfl 26 Tryz.ntmps26 (by simp) ?_
 by_cases hl:a.length=b.length
 ·repeat' (first|(apply y4 ok;rfl;conv=>whnf)|(apply z41<;>intro _<;>conv=>whnf))
  all_goals try (exfalso;omega)
  refine z97 (fun k:Nat=>([(0,ints a),(1,ints b),(12,.int a.length),(13,.int k)],[])) (fun k=>k≤a.length∧a.take k=b.take k) (fun k=>a.length - k) 0 (by simp) ⟨[],rfl,by decide,rfl,⟨⟨rfl,rfl⟩,⟨rfl,rfl⟩,⟨rfl,rfl⟩,⟨rfl,rfl⟩,trivial⟩,trivial⟩ ?_
  rintro k ⟨hk1,hk2⟩
  by_cases hkl:k < a.length
  ·have hkb:k < b.length:=by omega
   by_cases he:a[k]=b[k]
   ·repeat' (first|(apply y4 ok;rfl;conv=>whnf)|(apply z37;kernel_rfl;conv=>whnf)|(apply y39;(first|omega|(unfold inI;omega));conv=>whnf)|(with_reducible apply z15;omega;intro _;conv=>whnf)|(apply z8<;>intro _<;>conv=>whnf)|(apply z41<;>intro _<;>conv=>whnf))
    all_goals try (exfalso;omega)
    refine z81 (k+1) [] ⟨by omega,?_⟩ (by omega) ⟨rfl,by decide,rfl,⟨⟨rfl,rfl⟩,⟨rfl,rfl⟩,⟨rfl,rfl⟩,⟨rfl,rfl⟩,trivial⟩,trivial⟩
    rw [y46 hkl,y46 hkb,hk2,he]
   ·have hne:a≠b:=by rintro rfl;exact he rfl
    repeat' (first|(apply y4 ok;rfl;conv=>whnf)|(apply z37;kernel_rfl;conv=>whnf)|(apply y39;(omega);conv=>whnf)|(with_reducible apply z15;omega;intro _;conv=>whnf)|(apply z8<;>intro _<;>conv=>whnf)|(apply z41<;>intro _<;>conv=>whnf))
    all_goals try (exfalso;omega)
    exact z24 rfl (y79 hne)
  ·repeat' (first|(apply y4 ok;rfl;conv=>whnf)|(apply z37;kernel_rfl;conv=>whnf)|(apply y39;(omega);conv=>whnf)|(with_reducible apply z15;omega;intro _;conv=>whnf)|(apply z8<;>intro _<;>conv=>whnf)|(apply z41<;>intro _<;>conv=>whnf))
   all_goals try (exfalso;omega)
   rw [y53 (by omega),y53 (by omega)] at hk2
   exact z24 rfl (y78 hk2)
 ·have hne:a≠b:=by rintro rfl;exact hl rfl
  repeat' (first|(apply y4 ok;rfl;conv=>whnf)|(apply z41<;>intro _<;>conv=>whnf))
  all_goals try (exfalso;omega)
  exact z24 rfl (y79 hne)
end Go.Proofs.YteinbnahinpegaaGreat
namespace Go.Proofs
open Go.Shelf
def Tryz.lays189_ren:Go.Shelf.Ren:=⟨fun|189=>76|125=>129|257=>128|128=>186|129=>187|294=>177|295=>178|296=>179|297=>180|298=>181|299=>182|216=>183|300=>184|301=>185|328=>218|329=>219|330=>220|331=>221|332=>222|215=>223|343=>242|n=>n,fun|28=>28|3=>3|46=>169|0=>0|51=>222|53=>203|4=>4|183=>216|182=>215|131=>190|5=>5|9=>9|218=>248|222=>175|228=>260|229=>192|n=>n,fun|n=>n⟩
theorem Tryz.lays189:Go.Proofs.Lays.n189 Tryz.prog Tryz.lays189_ren:={
 mixed:=by kernel_rfl
 f125:=Tryz.func129.trans (congrArg some (by kernel_rfl))
 f128:=Tryz.func186.trans (congrArg some (by kernel_rfl))
 f129:=Tryz.func187.trans (congrArg some (by kernel_rfl))
 f189:=Tryz.func76.trans (congrArg some (by kernel_rfl))
 f215:=Tryz.func223.trans (congrArg some (by kernel_rfl))
 f216:=Tryz.func183.trans (congrArg some (by kernel_rfl))
 f257:=Tryz.func128.trans (congrArg some (by kernel_rfl))
 f294:=Tryz.func177.trans (congrArg some (by kernel_rfl))
 f295:=Tryz.func178.trans (congrArg some (by kernel_rfl))
 f296:=Tryz.func179.trans (congrArg some (by kernel_rfl))
 f297:=Tryz.func180.trans (congrArg some (by kernel_rfl))
 f298:=Tryz.func181.trans (congrArg some (by kernel_rfl))
 f299:=Tryz.func182.trans (congrArg some (by kernel_rfl))
 f300:=Tryz.func184.trans (congrArg some (by kernel_rfl))
 f301:=Tryz.func185.trans (congrArg some (by kernel_rfl))
 f328:=Tryz.func218.trans (congrArg some (by kernel_rfl))
 f329:=Tryz.func219.trans (congrArg some (by kernel_rfl))
 f330:=Tryz.func220.trans (congrArg some (by kernel_rfl))
 f331:=Tryz.func221.trans (congrArg some (by kernel_rfl))
 f332:=Tryz.func222.trans (congrArg some (by kernel_rfl))
 f343:=Tryz.func242.trans (congrArg some (by kernel_rfl))
 t0:=Tryz.underlying0
 a0:=Tryz.isAgg0
 z0:=Tryz.sizeOf0
 v0:=Tryz.zeroValue0
 t3:=Tryz.underlying3
 a3:=Tryz.isAgg3
 z3:=Tryz.sizeOf3
 v3:=Tryz.zeroValue3
 t4:=Tryz.underlying4
 a4:=Tryz.isAgg4
 z4:=Tryz.sizeOf4
 v4:=Tryz.zeroValue4
 t5:=Tryz.underlying5
 a5:=Tryz.isAgg5
 z5:=Tryz.sizeOf5
 v5:=Tryz.zeroValue5
 t9:=Tryz.underlying9
 a9:=Tryz.isAgg9
 z9:=Tryz.sizeOf9
 v9:=Tryz.zeroValue9
 t28:=Tryz.underlying28
 a28:=Tryz.isAgg28
 z28:=Tryz.sizeOf28
 v28:=Tryz.zeroValue28
 t46:=Tryz.underlying169
 a46:=Tryz.isAgg169
 z46:=Tryz.sizeOf169
 v46:=Tryz.zeroValue169
 t51:=Tryz.underlying222
 a51:=Tryz.isAgg222
 z51:=Tryz.sizeOf222
 v51:=Tryz.zeroValue222
 t53:=Tryz.underlying203
 a53:=Tryz.isAgg203
 z53:=Tryz.sizeOf203
 v53:=Tryz.zeroValue203
 t131:=Tryz.underlying190
 a131:=Tryz.isAgg190
 z131:=Tryz.sizeOf190
 v131:=Tryz.zeroValue190
 t182:=Tryz.underlying215
 a182:=Tryz.isAgg215
 z182:=Tryz.sizeOf215
 v182:=Tryz.zeroValue215
 t183:=Tryz.underlying216
 a183:=Tryz.isAgg216
 z183:=Tryz.sizeOf216
 v183:=Tryz.zeroValue216
 t218:=Tryz.underlying248
 a218:=Tryz.isAgg248
 z218:=Tryz.sizeOf248
 v218:=Tryz.zeroValue248
 t222:=Tryz.underlying175
 a222:=Tryz.isAgg175
 z222:=Tryz.sizeOf175
 v222:=Tryz.zeroValue175
 t228:=Tryz.underlying260
 a228:=Tryz.isAgg260
 z228:=Tryz.sizeOf260
 v228:=Tryz.zeroValue260
 t229:=Tryz.underlying192
 a229:=Tryz.isAgg192
 z229:=Tryz.sizeOf192
 v229:=Tryz.zeroValue192 }
open Go.Sort Go.RowKit in
theorem Tryz.slices_Sort_int (blk off cap : Nat) (zs : List Int) (w : World) (hH : Holds (Value.int .i64) w blk off zs.toArray) (hblk : blk < w.heap.size) (hsz : zs.length < 4611686018427387904) :
    Calls Tryz.prog 76 #[.slice (some ⟨blk,off,none⟩) zs.length cap] w fun e w' =>
      e=.returned (.tuple #[])∧∃ n os,w'=grow (putRow (Value.int .i64) (Sort.ahead w n) blk off (zs.mergeSort fun x y=>decide (x≤y)).toArray) os:=Any.slices_Sort_int Tryz.lays189 blk off cap zs w hH hblk hsz
def Tryz.laysNm220_ren:Go.Shelf.Ren:=⟨fun|20=>77|n=>n,fun|22=>28|3=>3|4=>4|0=>0|n=>n,fun|n=>n⟩
theorem Tryz.laysNm220:Go.Proofs.Lays2.n20 Tryz.prog Tryz.laysNm220_ren:={
 mixed:=by kernel_rfl
 f20:=Tryz.func77.trans (congrArg some (by kernel_rfl))
 t0:=Tryz.underlying0
 a0:=Tryz.isAgg0
 z0:=Tryz.sizeOf0
 v0:=Tryz.zeroValue0
 t3:=Tryz.underlying3
 a3:=Tryz.isAgg3
 z3:=Tryz.sizeOf3
 v3:=Tryz.zeroValue3
 t4:=Tryz.underlying4
 a4:=Tryz.isAgg4
 z4:=Tryz.sizeOf4
 v4:=Tryz.zeroValue4
 t22:=Tryz.underlying28
 a22:=Tryz.isAgg28
 z22:=Tryz.sizeOf28
 v22:=Tryz.zeroValue28
 i3:=by kernel_rfl }
open Go.RowKit Go.Lib Go.Sort in
theorem Tryz.slices_Compact_int (blk off cap : Nat) (zs : List Int) (w : World) (hH : Holds (Value.int .i64) w blk off zs.toArray) (hsz : zs.length ≤ 9223372036854775807) (hcap : zs.length ≤ cap) :
    Calls Tryz.prog 77 #[.slice (some ⟨blk,off,none⟩) zs.length cap] w fun e w'=>e=.returned (.slice (some ⟨blk,off,none⟩) (Lib.compact zs).length cap)∧∃ q,w'=putRow (Value.int .i64) (Sort.ahead w q) blk off (Lib.compact zs++List.replicate (zs.length - (Lib.compact zs).length) 0).toArray:=Any.slices_Compact_int Tryz.laysNm220 blk off cap zs w hH hsz hcap
end Go.Proofs
namespace Go.Proofs.YteinbnahinpegaaGreat
open Go.Gl
attribute [local irreducible] z20 AWP z30 z35 z34
theorem sort_ok (l:List Int) (hp:0 < l.length) (hl:l.length≤1048576):CallsA Tryz.prog 76 [.sref 0 0 l.length] [.cells 1 (l.map enI)] (.tup []) [.cells 1 ((l.mergeSort fun x y=>decide (x≤y)).map enI)]:=by
 refine z334 (r:=l.mergeSort fun x y=>decide (x≤y)) (by rw [List.length_mergeSort]) hp (fun _ _ h=>h) (z208 Tryz.func76 rfl (by rfl)) fun blk cap w hH hb hc=>?_
 refine (Tryz.slices_Sort_int blk 0 cap l w hH hb (by omega)).mono ?_
 rintro e w' ⟨rfl,n,os,rfl⟩
 exact ⟨_,rfl,⟨n,os,rfl⟩,fun G h size _ _=>by simp only [V,VL];exact ⟨#[],rfl,rfl,trivial⟩⟩
theorem z1007 (z:List Int) (hp:0 < z.length) (hl:z.length≤1048576):CallsA Tryz.prog 77 [.sref 0 0 z.length] [.cells 1 (z.map enI)] (.sref 0 0 (Lib.compact z).length) [.cells 1 ((Lib.compact z).map enI)]:=by
 have hle:(Lib.compact z).length≤z.length:=by
  have:∀ m,(Lib.compactUpTo z.toArray m).length≤m:=by
   intro m
   induction m with
   |zero=>simp [Lib.compactUpTo]
   |succ m ih=>rw [Lib.compactUpTo_succ];split<;>simp<;>omega
  exact this _
 refine z334 (r:=Lib.compact z++List.replicate (z.length - (Lib.compact z).length) 0) (by simp;omega) hp (fun i x h=>by
  rw [y62 (List.getElem?_eq_some_iff.1 h).1];exact h) (z208 Tryz.func77 rfl (by rfl)) fun blk cap w hH hb hc=>?_
 refine (Tryz.slices_Compact_int blk 0 cap z w hH (by omega) hc).mono ?_
 rintro e w' ⟨rfl,n,rfl⟩
 refine ⟨_,rfl,⟨n,#[],by simp⟩,fun G h size hι hsz=>?_⟩
 simp only [V]
 exact ⟨cap,by omega,.inr ⟨blk,size,1,hι,by omega,by simp⟩⟩
end Go.Proofs.YteinbnahinpegaaGreat
namespace Go.Proofs.YteinbnahinpegaaGreat
open Go.Gl
attribute [local irreducible] z20 AWP z30 z35 z34 RetS z42
theorem mst_eq (bl:List Int) (i:Nat):mst bl i=mstD bl i:=by
 induction i with
 |zero=>rfl
 |succ i ih=>rw [mst,mstD,ih]
theorem PartP.part {bl:List Int} {n:Nat} (h:PartP bl) (hn:bl.length=n):Part bl n:=⟨fun i hi=>by
 have:=h i (by omega)
 rw [mst_eq] at this
 rw [z13 (by omega)];exact this⟩
theorem z1166 {g:Graph} {bl:List Int} : bvB g bl=true↔GB g∧PartP bl∧bl.length=g.st.length:=by
 unfold bvB
 rw [y67,y67,decide_eq_true_iff,decide_eq_true_iff,z103]
 constructor
 ·rintro ⟨a,b,c⟩;exact ⟨a,b,by omega⟩
 ·rintro ⟨a,b,c⟩;exact ⟨a,b,by omega⟩
def quoS (g:Graph) (bl:List Int) (n:Nat):List State:=(fstB bl n).map fun j=>g.st.getD j ⟨[],[]⟩
def quoG (g:Graph) (bl:List Int):Graph:=⟨quoS g bl g.st.length,quoN g.nx g.st.length bl⟩
noncomputable def quoR (g:Graph) (bl:List Int):Graph:=if bvB g bl then quoG g bl else ⟨[],[]⟩
theorem z463 (g:Graph) (bl:List Int) (n:Nat):(quoS g bl n).length=(fstB bl n).length:=by simp [quoS]
theorem z1130 {bl:List Int} {i:Nat} (hi:i < bl.length):idxF (fun x=>decide (bl[i]=x)) bl=(i:Int)↔∀ k,k < i→bl.getD k 0≠bl.getD i 0:=by
 unfold idxF
 have hx:∃ k,bl.findIdx? (fun x=>decide (bl[i]=x))=some k:=by
  cases h:bl.findIdx? (fun x=>decide (bl[i]=x)) with
  |some k=>exact ⟨k,rfl⟩
  |none =>
   have:=List.findIdx?_eq_none_iff.1 h bl[i] (y40 hi)
   simp at this
 obtain ⟨k,hk⟩:=hx
 rw [hk]
 obtain ⟨h1,h2,h3⟩:=List.findIdx?_eq_some_iff_getElem.1 hk
 simp only [decide_eq_true_eq] at h2
 constructor
 ·intro e j hj
  have e:k=i:=by have e:(k:Int)=i:=e;omega
  subst e
  rw [z13 (by omega),z13 hi]
  have:=h3 j hj
  simp only [decide_eq_true_eq] at this
  exact fun e=>this e.symm
 ·intro h
  have hki:k≤i:=by
   rcases y66 i k with h4|h4
   ·have:=h3 i h4
    simp at this
   ·exact h4
  rcases y66 k i with h4|h4
  ·have:=h k h4
   rw [z13 h1,z13 hi] at this
   exact absurd h2.symm this
  ·show (k:Int)=i
   omega
theorem z945 (out l:List Int):(z85 out l).length≤out.length+l.length:=by
 induction l generalizing out with
 |nil=>exact y48 _
 |cons x l ih =>
  have:=ih (z161 out x)
  have h2:(z161 out x).length≤out.length+1:=by unfold z161;split<;>simp
  show (z85 (z161 out x) l).length≤_
  simp only [y54]
  omega
set_option maxHeartbeats 3200000 in
theorem quot_ok (g:Graph) (hg:g.mx) (hgd:∀ s∈g.st,s.sm) (bl:List Int) (hb:bl.length≤1048576):CallsA Tryz.prog 9 [.agg g.cs,ints bl] [] (.tup [.agg (quoR g bl).cs,.bool (bvB g bl)]) []:=by
 have cv:=z221 g hg bl hb
 unfold quoR
 by_cases hv:bvB g bl=true
 ·rw [if_pos hv]
  rw [hv] at cv ⊢
  obtain ⟨hG,hp,hbl⟩:=z1166.1 hv
  have hP:=hp.part hbl
  have h60:=hG.1.2
  have hnx:g.nx.length=g.st.length:=hG.2.1
  have c8:=z1162 (quoS g bl g.st.length) (by rw [z463];have:=z477 bl g.st.length;omega)
  have c9:=z861 (quoN g.nx g.st.length bl) (by rw [z464];have:=z477 bl g.st.length;omega)
  refine z10 z19 Tryz.func9 rfl rfl 76 Tryz.ntmps9 (by simp) ?_
  repeat' ((first|(apply y4 ok;rfl)|(apply z6 (cv);rfl;rfl))<;>conv=>whnf)
  refine y81 (y84 2 rfl) ?_
  refine y81 (y84 1 rfl) ?_
  refine z92 (fun x:Nat×List State×List (List Int)=>([(1,ints bl),(2,.ptr 0 none 0),(4,.ptr 1 none 0),(6,.ptr 2 none 0),(17,ints bl),(18,.int g.st.length),(19,.int x.1)],[.cells 2 [g.cs],.cells 2 [[.nils,.nils]],.cells 2 [[.sref 3 0 x.2.1.length,.sref 4 0 x.2.2.length]],.cells 2 (x.2.1.map State.cs),.cells 1 (x.2.2.map encL)])) (fun x=>x.1≤g.st.length∧quoS g bl x.1=x.2.1∧quoN g.nx x.1 bl=x.2.2) (fun x=>g.st.length - x.1) (0,[],[]) ⟨y49 _,rfl,rfl⟩ (by refine swR [0,1,2,3,4] [] rfl rfl ?_;(repeat' first|exact y82 _|exact z57|(refine z152 ?_;omega)|apply y83|refine z16 rfl (z36) ?_|constructor)) ?_
  rintro ⟨i,A,R⟩ ⟨hi,qA,qR⟩
  dsimp only at hi qA qR ⊢
  by_cases hil:i < g.st.length
  ·have hfl:=z477 bl i
   have sl:=z463 g bl i
   have nl:=z464 g.nx i bl
   rw [qA] at sl
   rw [qR] at nl
   have cI:=z347 bl (by unfold maxLen;omega) (bl.getD i 0)
   have hif:=z1130 (bl:=bl) (i:=i) (by omega)
   have gb:(bl.map enI)[i]?=some (enI (bl.getD i 0)):=by rw [y47,y41 (by omega),z13 (by omega)];rfl
   rw [← z13 (d:=0) (show i < bl.length by omega)] at hif
   by_cases hf:∀ k,k < i→bl.getD k 0≠bl.getD i 0
   ·have es:quoS g bl (i+1)=A++[g.st.getD i ⟨[],[]⟩]:=by
     rw [← qA];unfold quoS;rw [z296,if_pos hf,y60];rfl
    have en:quoN g.nx (i+1) bl=R++[z85 [] ((g.nx.getD i []).map (pick bl))]:=by
     rw [← qR];unfold quoN;rw [z296,if_pos hf,y60];rfl
    have hid:=hif.2 hf
    generalize idxF (fun x=>decide (bl.getD i 0=x)) bl=q at *
    subst hid
    have gr:(g.nx.map encL)[i]?=some (encL (g.nx.getD i [])):=by rw [y47,y41 (by omega),z13 (by omega)];rfl
    have hgs:(g.st.map State.cs)[i]?=some (State.cs (g.st.getD i ⟨[],[]⟩)):=by rw [y47,y41 hil,z13 hil];rfl
    have hsm:(g.st.getD i ⟨[],[]⟩).sm:=by rw [z13 hil];exact hgd _ (y40 _)
    have cst:=z765 _ hsm
    obtain ⟨r1,r2,r3⟩:=GB.row hG i (by omega)
    rw [← z13 (d:=[]) (show i < g.nx.length by omega)] at r1 r2 r3
    generalize g.nx.getD i []=row at *
    generalize g.st.getD i ⟨[],[]⟩=s at *
    have cp:=z582 bl row (by omega) (by rw [hbl];exact r3) hb
    have hpl:(row.map (pick bl)).length=row.length:=by simp
    generalize row.map (pick bl)=P at *
    generalize bl.getD i 0=b at *
    repeat' ((first|(apply y4 ok;rfl)|(refine z21 (i:=i) rfl gb ?_)|(refine z21 (i:=i) rfl gr ?_)|(apply y39;omega)|((first|apply z8|apply z41)<;>intro _)|(apply z6 (cI);rfl;rfl)|(apply z11 [] [5] cp;rfl;rfl;rfl;(focus ((repeat' first|exact z17|apply z14)<;>(refine z23 ?_;((exact z7 fun _=>rfl)))))))<;>conv=>whnf)
    all_goals try (exfalso;omega)
    refine y81 (y84 1 rfl) ?_
    refine z92 (fun x:Nat×List Int=>([(1,ints bl),(2,.ptr 0 none 0),(4,.ptr 1 none 0),(6,.ptr 2 none 0),(7,.int i),(9,.sref 6 0 x.2.length),(17,ints bl),(18,.int g.st.length),(19,.int i),(35,.sref 5 0 row.length),(36,.int row.length),(37,.int x.1)],[.cells 2 [g.cs],.cells 2 [[.nils,.nils]],.cells 2 [[.sref 3 0 A.length,.sref 4 0 R.length]],.cells 2 (A.map State.cs),.cells 1 (R.map encL),.cells 1 (P.map enI),.cells 1 (x.2.map enI)])) (fun x=>x.1≤row.length∧z85 [] (P.take x.1)=x.2) (fun x=>row.length - x.1) (0,[]) ⟨y49 _,rfl⟩ (by refine swR [0,1,2,3,4,5,6] [] rfl rfl ?_;(repeat' first|exact y82 _|exact z57|exact z18 _|apply y83|((refine z16 rfl ?_ ?_);(focus ((repeat' (first|exact z36|exact z7 (fun _=>rfl)));done)))|constructor)) ?_
    rintro ⟨k,N⟩ ⟨hk,qN⟩
    dsimp only at hk qN ⊢
    have hvl:N.length≤60:=by
     have:=z945 [] (P.take k)
     rw [qN] at this
     simp only [y55,y44] at this
     omega
    by_cases hkl:k < row.length
    ·have hkP:k < P.length:=by omega
     have gp:(P.map enI)[k]?=some (enI P[k]):=by rw [y47,y41 hkP];rfl
     have ev:=z336 (out:=[]) hkP
     have cC:=z138 N (by unfold maxLen;omega) P[k]
     rw [qN] at ev
     generalize P[k]=x at *
     unfold z161 at ev
     by_cases hx:x∈N
     ·rw [if_pos hx] at ev
      rw [y78 hx] at cC
      repeat' ((first|(apply y4 ok;rfl)|(refine z21 (i:=k) rfl gp ?_)|(apply y39;first|omega|(unfold inI;omega))|(((with_reducible apply z15;omega));intro _)|((apply z8)<;>intro _)|(apply z112 [] [6] [] cC;(focus ((repeat' first|exact z84|apply z55)<;>first|exact z171 rfl rfl rfl|rfl));rfl;rfl;(focus ((repeat' exact z17)<;>fail));((refine .inr ⟨rfl,?_⟩;repeat' exact True.intro))))<;>conv=>whnf)
      all_goals try (exfalso;omega)
      all_goals refine z44 (k+1,N) ⟨by show k+1≤_;omega,ev⟩ (by show row.length - (k+1) < row.length - k;omega) (by refine swR [0,1,2,3,4,5,6] [] rfl rfl ?_;(repeat' first|exact y82 _|exact z18 _|apply y83|refine z16 rfl (z7 (fun _=>rfl)) ?_|constructor))
     ·rw [if_neg hx] at ev
      rw [y79 hx] at cC
      repeat' ((first|(apply y4 ok;rfl)|(refine z21 (i:=k) rfl gp ?_)|(apply y39;first|omega|(unfold inI;omega)|((try dsimp only);simp only [y45,y44,y43,y42,y54,y55];omega)|exact ⟨rfl,z25 rfl z32⟩)|(((with_reducible apply z15;omega));intro _)|((apply z8)<;>intro _)|(apply z112 [] [6] [] cC;(focus ((repeat' first|exact z84|apply z55)<;>first|exact z171 rfl rfl rfl|rfl));rfl;rfl;(focus ((repeat' exact z17)<;>fail));((refine .inr ⟨rfl,?_⟩;repeat' exact True.intro))))<;>conv=>whnf)
      all_goals try (exfalso;omega)
      all_goals refine z44 (k+1,N++[x]) ⟨by show k+1≤_;omega,ev⟩ (by show row.length - (k+1) < row.length - k;omega) (by refine swR [0,1,2,3,4,5,8] [] rfl rfl ?_;(repeat' first|exact y82 _|exact z18 _|(refine z72 ?_;((simp;done)))|apply y83|((first|refine z47 rfl ?_ ?_|refine z16 rfl ?_ ?_);(focus ((repeat' (first|exact z7 (fun _=>rfl)|apply z33));done)))|(refine z100 ?_ ?_;(focus (omega)))|constructor))
    ·obtain rfl:k=row.length:=by omega
     rw [← hpl,y52] at qN
     rw [qN] at en
     have cl:=z602 N (by omega)
     repeat' ((first|((fail_if_success apply z114 15);(fail_if_success apply z96 15);apply y4 ok;rfl)|(apply y39;omega)|(((apply z15;omega));intro _)|((apply z8)<;>intro _))<;>conv=>whnf)
     all_goals try (exfalso;omega)
     refine y81 (SealW.reach (env:=[(1,ints bl),(2,.ptr 0 none 0),(4,.ptr 1 none 0),(6,.ptr 2 none 0),(7,.int i),(9,ints N),(17,ints bl),(18,.int g.st.length),(19,.int i)]) (objs:=[.cells 2 [g.cs],.cells 2 [[.nils,.nils]],.cells 2 [[.sref 3 0 A.length,.sref 4 0 R.length]],.cells 2 (A.map State.cs),.cells 1 (R.map encL)]) [0,1,2,3,4] [6] rfl rfl rfl rfl ?_ ?_) ?_
     ·(repeat' first|exact y82 _|((apply z48 rfl rfl rfl);(focus ((repeat ((exact z38 (fun _=>rfl) _)));done));(focus (((simp;done));done)))|constructor)
     ·(repeat' first|exact y82 _|exact z18 _|apply y83|refine z16 rfl (z7 (fun _=>rfl)) ?_|constructor)
     conv=>whnf
     repeat' ((first|(apply y4 ok;rfl)|(apply z37;kernel_rfl)|(refine z21 (i:=i) rfl hgs ?_)|(apply y39;first|omega|(unfold inI;omega)|((try dsimp only);simp only [y45,y44,y43,y42,y54,y55];omega)|exact ⟨rfl,z25 rfl z32⟩)|(apply z6 (cst);rfl;rfl)|(apply z6 (cl);rfl;rfl))<;>conv=>whnf)
     all_goals refine z44 (i+1,A++[s],R++[N]) ⟨by show i+1≤_;omega,es,en⟩ (by show g.st.length - (i+1) < g.st.length - i;omega) (by refine swR [0,1,2,6,8] [] rfl rfl ?_;(repeat' first|exact y82 _|(refine z72 ?_;((simp;done)))|apply y83|((refine z47 rfl ?_ ?_);(focus ((repeat' (first|exact z7 (fun _=>rfl)|apply z33));done)))|(refine z100 ?_ ?_;(focus (omega)))|constructor))
   ·have es:quoS g bl (i+1)=A:=by
     rw [← qA];unfold quoS;rw [z296,if_neg hf,y61]
    have en:quoN g.nx (i+1) bl=R:=by
     rw [← qR];unfold quoN;rw [z296,if_neg hf,y61]
    have hid:¬ idxF (fun x=>decide (bl.getD i 0=x)) bl=(i:Int):=fun h=>hf (hif.1 h)
    generalize idxF (fun x=>decide (bl.getD i 0=x)) bl=q at *
    repeat' ((first|(apply y4 ok;rfl)|(refine z21 (i:=i) rfl gb ?_)|(apply y39;first|omega|(unfold inI;omega))|(((with_reducible apply z15;omega));intro _)|((first|apply z8|apply z41)<;>intro _)|(apply z6 (cI);rfl;rfl))<;>conv=>whnf)
    all_goals try (exfalso;omega)
    all_goals refine z44 (i+1,A,R) ⟨by show i+1≤_;omega,es,en⟩ (by show g.st.length - (i+1) < g.st.length - i;omega) (by refine swR [0,1,2,3,4] [] rfl rfl ?_;(repeat' first|exact y82 _|exact z18 _|apply y83|refine z16 rfl (z7 (fun _=>rfl)) ?_|constructor))
  ·obtain rfl:i=g.st.length:=by omega
   rw [qA] at c8
   rw [qR] at c9
   have eq:quoG g bl=⟨A,R⟩:=by unfold quoG;rw [qA,qR]
   rw [eq]
   repeat' ((first|((fail_if_success apply z114 18);(fail_if_success apply z96 18);apply y4 ok;rfl)|(apply y39;omega)|(((with_reducible apply z15;omega));intro _)|((apply z8)<;>intro _))<;>conv=>whnf)
   all_goals try (exfalso;omega)
   refine y81 (SealW.reach (env:=[(4,.ptr 0 none 0),(6,.ptr 1 none 0)]) (objs:=[.cells 2 [[.nils,.nils]],.cells 2 [[lst 2 State.cs A,lst 1 encL R]]]) [1,2] [3,4] rfl rfl rfl rfl ?_ ?_) ?_
   ·(repeat' first|exact y82 _|constructor)
   ·(repeat' first|exact y82 _|apply y83|((apply z48 rfl rfl rfl);(focus ((repeat ((exact z38 (fun _=>rfl) _)));done));(focus (((simp;done));done)))|constructor)
   conv=>whnf
   repeat' ((first|(apply y4 ok;rfl)|(apply z37;kernel_rfl)|(apply z6 (c8);rfl;rfl)|(apply z6 (c9);rfl;rfl))<;>conv=>whnf)
   all_goals (refine rsD [] [] rfl ?_;(repeat' first|exact y82 _|constructor))
 ·rw [if_neg hv]
  rw [(y68 _).mp hv] at cv ⊢
  refine z10 z19 Tryz.func9 rfl rfl 76 Tryz.ntmps9 (by simp) ?_
  repeat' ((first|(apply y4 ok;rfl)|(apply z6 (cv);rfl;rfl))<;>conv=>whnf)
  all_goals (refine rsD [] [] rfl ?_;(repeat' first|exact y82 _|exact z52|apply z60|apply z113|constructor))
end Go.Proofs.YteinbnahinpegaaGreat
namespace Go.Proofs.YteinbnahinpegaaGreat
open Go.Gl
attribute [local irreducible] z20 AWP z30 z35 z34
theorem z205 {Q Q' : List Int} {x:Int} {n:Nat} {e:List AC} (hn:n=Q.length) (h:Q'=Q++[x]) (he:e=enI x):((Q.map enI).take n)++[e]=Q'.map enI:=by
 subst h hn he
 rw [y53 (by simp),y60];rfl
theorem push_two {Q Q' : List Int} {x y:Int} {n m:Nat} {e f:List AC} (hn:n=Q.length) (hm:m=n+1) (h:Q'=(Q++[x])++[y]) (he:e=enI x) (hf:f=enI y):((((Q.map enI).take n)++[e]).take m)++[f]=Q'.map enI:=by
 rw [z205 hn (rfl:Q++[x]=Q++[x]) he]
 exact z205 (by subst hm hn;simp) h hf
theorem insS_at {l:List Int} {n:Int} (h:Asc l) (hn:n ∉ l):∃ p,p≤l.length∧(∀ k (hk:k < l.length),k < p→l[k] < n)∧(∀ k (hk:k < l.length),p≤k→n < l[k])∧insS l n=l.take p++n::l.drop p:=by
 induction l with
 |nil=>exact ⟨0,y48 _,fun k hk=>by simp at hk,fun k hk=>by simp at hk,rfl⟩
 |cons x r ih =>
  have h1:=List.pairwise_cons.1 h
  have hx:x≠n:=fun e=>hn (by simp [e])
  by_cases hlt:n < x
  ·refine ⟨0,y49 _,fun k hk h0=>by omega,fun k hk _=>?_,by rw [insS,if_neg hx,if_pos hlt];rfl⟩
   match k with
   |0=>exact hlt
   |k+1 =>
    have:=h1.1 ((x::r)[k+1]) (by simp)
    omega
  ·obtain ⟨p,p1,p2,p3,p4⟩:=ih h1.2 (fun h=>hn (by simp [h]))
   refine ⟨p+1,by simpa using p1,fun k hk hkp=>?_,fun k hk hkp=>?_,by rw [insS,if_neg hx,if_neg hlt,p4];rfl⟩
   ·match k with
    |0=>show x < n;omega
    |k+1=>exact p2 k (by simpa using hk) (by omega)
   ·match k with
    |0=>omega
    |k+1=>exact p3 k (by simpa using hk) (by omega)
def sOut (l:List Int) (n:Int) (p i:Nat):List Int:=if i≤p then l.take i else l.take p++n::(l.take i).drop p
theorem sOut_len {l:List Int} {n:Int} {p i:Nat} (hp:p≤l.length) (hi:i≤l.length):(sOut l n p i).length≤l.length+1:=by
 unfold sOut;split<;>simp<;>omega
theorem z819 {l:List Int} {n:Int} {p i:Nat} (hi:i < l.length) (h:i < p):sOut l n p (i+1)=sOut l n p i++[l[i]]:=by
 unfold sOut
 rw [if_pos (by omega),if_pos (by omega),y46 hi]
theorem sOut_at {l:List Int} {n:Int} {p:Nat} (hi:p < l.length):sOut l n p (p+1)=(sOut l n p p++[n])++[l[p]]:=by
 unfold sOut
 rw [if_neg (by omega),if_pos (y48 _),y46 hi,List.drop_append_of_le_length (by simp;omega),List.drop_of_length_le (by simp;omega)]
 simp
theorem z818 {l:List Int} {n:Int} {p i:Nat} (hi:i < l.length) (h:p < i):sOut l n p (i+1)=sOut l n p i++[l[i]]:=by
 unfold sOut
 rw [if_neg (by omega),if_neg (by omega),y46 hi,List.drop_append_of_le_length (by simp;omega)]
 simp
theorem z742 (l:List Int) (n:Int) (h:Asc l) (hl:l.length≤1048576):CallsA Tryz.prog 103 [ints l,.int n] [] (ints (insS l n)) []:=by
 by_cases hn:n∈l
 ·rw [insS_old h hn]
  obtain ⟨j,hj,rfl⟩:=List.mem_iff_getElem.1 hn
  have hlt:∀ k (hk:k < l.length),k < j→l[k] < l[j]:=fun k hk hkj=>List.pairwise_iff_getElem.1 h k j hk hj hkj
  refine z12 z19 Tryz.func103 rfl rfl 50 Tryz.ntmps103 (by simp) ?_
  repeat' ((apply y4 ok;rfl;conv=>whnf))
  refine z97 (fun i:Nat=>([(0,ints l),(1,.int l[j]),(5,.sref 0 0 i),(6,.bool false),(7,.int i)],[.cells 1 ((l.take i).map enI)])) (fun i=>i≤j) (fun i=>l.length - i) 0 (by omega) ⟨[0],rfl,by decide,rfl,⟨⟨rfl,rfl⟩,⟨rfl,rfl⟩,⟨rfl,rfl⟩,⟨rfl,rfl⟩,⟨rfl,rfl⟩,trivial⟩,⟨z59 rfl (z7 fun _=>rfl),trivial⟩⟩ ?_
  intro i hi
  by_cases hij:i=j
  ·subst hij
   repeat' (first|(apply y4 ok;rfl;conv=>whnf)|(apply y39;(omega);conv=>whnf)|(with_reducible apply z15;omega;intro _;conv=>whnf)|(apply z8<;>intro _<;>conv=>whnf))
   all_goals try (exfalso;omega)
   exact z50 rfl rfl rfl
  ·have h1:=hlt i (by omega) (by omega)
   repeat' (first|(apply y4 ok;rfl;conv=>whnf)|(apply y39;(first|omega|(unfold inI;omega)|((try dsimp only);simp only [y45,y44,y43,y42,y54,y55];omega)|exact ⟨rfl,z25 rfl z32⟩);conv=>whnf)|(with_reducible apply z15;omega;intro _;conv=>whnf)|(apply z8<;>intro _<;>conv=>whnf))
   all_goals try (exfalso;omega)
   exact z81 (i+1) [2] (by omega) (by omega) ⟨rfl,by decide,rfl,⟨⟨rfl,rfl⟩,⟨rfl,rfl⟩,⟨rfl,rfl⟩,⟨rfl,rfl⟩,⟨rfl,rfl⟩,trivial⟩,⟨z639 (by omega) _ rfl rfl rfl (fun _=>rfl),trivial⟩⟩
 ·obtain ⟨p,p1,p2,p3,p4⟩:=insS_at h hn
  rw [p4]
  refine z992 (n:=(l.take p++n::l.drop p).length) ?_ rfl
  refine z12 z19 Tryz.func103 rfl rfl 50 Tryz.ntmps103 (by simp) ?_
  repeat' ((apply y4 ok;rfl;conv=>whnf))
  refine z97 (fun i:Nat=>([(0,ints l),(1,.int n),(5,.sref 0 0 (sOut l n p i).length),(6,.bool (decide (p < i))),(7,.int i)],[.cells 1 ((sOut l n p i).map enI)])) (fun i=>i≤l.length) (fun i=>l.length - i) 0 (by omega) ⟨[0],rfl,by decide,rfl,⟨⟨rfl,rfl⟩,⟨rfl,rfl⟩,⟨rfl,z479 (by simp [sOut]) rfl⟩,⟨rfl,rfl⟩,⟨rfl,rfl⟩,trivial⟩,⟨z59 (z83 (by simp [sOut])) (z7 fun _=>rfl),trivial⟩⟩ ?_
  intro i hi
  have hsl:=sOut_len (n:=n) p1 hi
  by_cases hil:i < l.length
  ·have hne:l[i]≠n:=fun e=>hn (e ▸ y40 _)
   by_cases h1:i < p
   ·have h2:=p2 i hil h1
    have h3:=z819 (n:=n) hil h1
    repeat' (first|(apply y4 ok;rfl;conv=>whnf)|(apply y39;(first|omega|(unfold inI;omega)|((try dsimp only);simp only [y45,y44,y43,y42,y54,y55];omega)|exact ⟨rfl,z25 rfl z32⟩);conv=>whnf)|(with_reducible apply z15;omega;intro _;conv=>whnf)|(apply z8<;>intro _<;>conv=>whnf)|(apply z41<;>intro _<;>conv=>whnf))
    all_goals try (exfalso;omega)
    exact z81 (i+1) [2] (by omega) (by omega) ⟨rfl,by decide,rfl,⟨⟨rfl,rfl⟩,⟨rfl,rfl⟩,⟨rfl,z479 (by rw [h3];simp) rfl⟩,⟨rfl,by rw [y79 (show ¬ p < i by omega),y79 (show ¬ p < i+1 by omega)];rfl⟩,⟨rfl,rfl⟩,trivial⟩,⟨z59 (z83 (z205 rfl h3 rfl)) (z7 fun _=>rfl),trivial⟩⟩
   ·have h2:=p3 i hil (by omega)
    by_cases h4:i=p
    ·subst h4
     have h3:=sOut_at (n:=n) hil
     repeat' (first|(apply y4 ok;rfl;conv=>whnf)|(apply y39;(first|omega|(unfold inI;omega)|((try dsimp only);simp only [y45,y44,y43,y42,y54,y55];omega)|exact ⟨rfl,z25 rfl z32⟩);conv=>whnf)|(with_reducible apply z15;omega;intro _;conv=>whnf)|(apply z8<;>intro _<;>conv=>whnf)|(apply z41<;>intro _<;>conv=>whnf))
     all_goals try (exfalso;omega)
     exact z81 (i+1) [4] (by omega) (by omega) ⟨rfl,by decide,rfl,⟨⟨rfl,rfl⟩,⟨rfl,rfl⟩,⟨rfl,z479 (by rw [h3];simp) rfl⟩,⟨rfl,by rw [y78 (show i < i+1 by omega)];rfl⟩,⟨rfl,rfl⟩,trivial⟩,⟨z59 (z83 (push_two rfl rfl h3 rfl rfl)) (z7 fun _=>rfl),trivial⟩⟩
    ·have h3:=z818 (n:=n) hil (show p < i by omega)
     repeat' (first|(apply y4 ok;rfl;conv=>whnf)|(apply y39;(first|omega|(unfold inI;omega)|((try dsimp only);simp only [y45,y44,y43,y42,y54,y55];omega)|exact ⟨rfl,z25 rfl z32⟩);conv=>whnf)|(with_reducible apply z15;omega;intro _;conv=>whnf)|(apply z8<;>intro _<;>conv=>whnf)|(apply z41<;>intro _<;>conv=>whnf))
     all_goals try (exfalso;omega)
     exact z81 (i+1) [2] (by omega) (by omega) ⟨rfl,by decide,rfl,⟨⟨rfl,rfl⟩,⟨rfl,rfl⟩,⟨rfl,z479 (by rw [h3];simp) rfl⟩,⟨rfl,by rw [y78 (show p < i by omega),y78 (show p < i+1 by omega)];rfl⟩,⟨rfl,rfl⟩,trivial⟩,⟨z59 (z83 (z205 rfl h3 rfl)) (z7 fun _=>rfl),trivial⟩⟩
  ·obtain rfl:i=l.length:=by omega
   by_cases h1:p < l.length
   ·have e:sOut l n p l.length=l.take p++n::l.drop p:=by unfold sOut;rw [if_neg (by omega),y52]
    repeat' (first|(apply y4 ok;rfl;conv=>whnf)|(apply y39;(omega);conv=>whnf)|(with_reducible apply z15;omega;intro _;conv=>whnf)|(apply z8<;>intro _<;>conv=>whnf)|(apply z41<;>intro _<;>conv=>whnf))
    all_goals try (exfalso;omega)
    rw [e]
    exact z99 rfl (z7 fun _=>rfl) rfl rfl rfl
   ·have e:sOut l n p l.length++[n]=l.take p++n::l.drop p:=by unfold sOut;rw [if_pos (by omega),y53 (y48 _),y53 (by omega),List.drop_of_length_le (by omega)]
    repeat' (first|(apply y4 ok;rfl;conv=>whnf)|(apply y39;(first|omega|((try dsimp only);simp only [y45,y44,y43,y42,y54,y55];omega)|exact ⟨rfl,z25 rfl z32⟩);conv=>whnf)|(with_reducible apply z15;omega;intro _;conv=>whnf)|(apply z8<;>intro _<;>conv=>whnf)|(apply z41<;>intro _<;>conv=>whnf))
    all_goals try (exfalso;omega)
    exact z99 rfl (z7 fun _=>rfl) (by rw [← e];simp) rfl (z205 rfl e.symm rfl)
theorem z842 (g:Graph) (hG:GB g) (bl:List Int) (hb:bl.length=g.st.length) (i:Nat) (hi:i < g.nx.length):CallsA Tryz.prog 84 [.agg g.cs,ints bl,.int i] [] (ints (z413 (g.nx[i].map (pick bl)))) []:=by
 obtain ⟨r1,r2,r3⟩:=hG.row i hi
 have hg1:=hG.1
 generalize hrow:g.nx[i]=row at r1 r2 r3
 rw [← sortD_eq]
 refine z12 z19 Tryz.func84 rfl rfl 34 Tryz.ntmps84 (by simp) ?_
 repeat' (((fail_if_success apply z114 2);(fail_if_success apply z96 2);apply y4 ok;rfl;conv=>whnf))
 refine y81 (SealL.reach (π:=[0]) (Bn:=[1]) (env:=[(1,ints bl),(2,.int i),(3,.ptr 0 none 0),(7,ints []),(8,.int (0:Nat))]) (objs:=[.cells 2 [[lst 2 State.cs g.st,lst 1 encL g.nx]]]) ⟨rfl,rfl,by simp,rfl,fun o ho=>by cases List.mem_singleton.1 ho;rfl,⟨rfl,rfl,rfl,rfl,rfl,trivial⟩,rfl⟩) ?_
 conv=>whnf
 repeat' (fail)
 refine z97 (fun k:Nat=>([(1,ints bl),(2,.int i),(3,.ptr 0 none 0),(7,ints (((row.take k).map (pick bl)).foldl insS [])),(8,.int k)],[.cells 2 [[lst 2 State.cs g.st,lst 1 encL g.nx]]])) (fun k=>k≤row.length) (fun k=>row.length - k) 0 (by omega) ⟨[0],rfl,by decide,rfl,⟨⟨rfl,rfl⟩,⟨rfl,rfl⟩,⟨rfl,rfl⟩,⟨rfl,rfl⟩,⟨rfl,rfl⟩,trivial⟩,⟨z27 rfl rfl,trivial⟩⟩ ?_
 intro k hk
 have hgr:(g.nx.map encL)[i]?=some (encL row):=by rw [y47,y41 hi,hrow];rfl
 have hasc:=(z599 (l:=(row.take k).map (pick bl)) (out:=[]) (by simp [Asc])).1
 have hln:=z566 ((row.take k).map (pick bl)) []
 rw [y45,y44] at hln
 simp only [y55] at hln
 by_cases hkl:k < row.length
 ·have hx:=r3 row[k] (y40 _)
  have hxb:row[k].toNat < bl.length:=by omega
  have c1:=z742 _ bl[row[k].toNat] hasc (by omega)
  have e:((row.take (k+1)).map (pick bl)).foldl insS []=insS (((row.take k).map (pick bl)).foldl insS []) bl[row[k].toNat]:=by
   rw [y46 hkl,y60,y59]
   show insS _ (pick bl row[k])=_
   unfold pick;rw [z13 hxb]
  repeat' (first|(apply y4 ok;rfl;conv=>whnf)|(refine z21 (i:=i) (by rfl) hgr ?_;conv=>whnf)|(apply y39;(first|omega|(unfold inI;omega));conv=>whnf)|(with_reducible apply z15;omega;intro _;conv=>whnf)|(with_reducible apply z154;omega;intro _;conv=>whnf)|(apply z8<;>intro _<;>conv=>whnf)|(apply z6 (c1);rfl;rfl;conv=>whnf))
  all_goals try (exfalso;omega)
  exact z81 (k+1) [0] (by omega) (by omega) ⟨rfl,by decide,rfl,⟨⟨rfl,rfl⟩,⟨rfl,rfl⟩,⟨rfl,rfl⟩,⟨rfl,by rw [e];rfl⟩,⟨rfl,rfl⟩,trivial⟩,⟨z27 rfl rfl,trivial⟩⟩
 ·repeat' (first|(apply y4 ok;rfl;conv=>whnf)|(refine z21 (i:=i) (by rfl) hgr ?_;conv=>whnf)|(apply y39;(omega);conv=>whnf)|(with_reducible apply z15;omega;intro _;conv=>whnf)|(with_reducible apply z154;omega;intro _;conv=>whnf)|(apply z8<;>intro _<;>conv=>whnf))
  all_goals try (exfalso;omega)
  rw [y53 (by omega)]
  exact z50 rfl rfl rfl
def aft (g:Graph) (bl:List Int) (i:Nat):List Int:=z413 ((g.nx.getD i []).map (pick bl))
def keyA (g:Graph) (bl:List Int) (i:Nat):List Int:=bl.getD i 0::aft g bl i
def refL (g:Graph) (bl:List Int):List Int:=(numK (keyA g bl) g.st.length).1
theorem z257 (g:Graph) (bl:List Int):(refL g bl).length=g.st.length:=z192 _
theorem z706 (l:List Int):(z413 l).length≤l.length:=by
 unfold z413 Lib.compact
 have:∀ (z:List Int) m,(Lib.compactUpTo z.toArray m).length≤m:=by
  intro z m
  induction m with
  |zero=>simp [Lib.compactUpTo]
  |succ m ih=>rw [Lib.compactUpTo_succ];split<;>simp<;>omega
 have:=this (l.mergeSort fun x y=>decide (x≤y)) (l.mergeSort fun x y=>decide (x≤y)).length
 rw [List.length_mergeSort] at this
 rw [List.length_mergeSort];exact this
theorem z388 (g:Graph) (hG:GB g) (bl:List Int) (hb:bl.length=g.st.length):CallsA Tryz.prog 33 [.agg g.cs,ints bl] [] (.sref 0 0 g.st.length) [.cells 1 ((refL g bl).map enI)]:=by
 have hg1:=hG.1
 have hg2:=hG.2.1
 have hkl:((List.range bl.length).map (keyA g bl)).length=g.st.length:=by simp [hb]
 have hk60:∀ i (hi:i < g.nx.length),(aft g bl i).length≤60:=fun i hi=>by
  have h1:=z706 ((g.nx.getD i []).map (pick bl))
  have h2:=(hG.row i hi).2.1
  rw [z13 hi,y45] at h1
  unfold aft
  rw [z13 hi];omega
 have c2:=z193 ((List.range bl.length).map (keyA g bl)) (by rw [hkl];omega) (fun r hr=>by
  obtain ⟨i,hi,rfl⟩:=List.mem_map.1 hr
  have:=hk60 i (by have:=List.mem_range.1 hi;omega)
  unfold maxLen keyA
  simp only [y54];omega)
 have e2:(numF (z344 ((List.range bl.length).map (keyA g bl))) ((List.range bl.length).map (keyA g bl)).length).1=refL g bl:=by
  rw [hkl]
  unfold refL numK
  rw [z313]
  intro i k hki hi
  unfold z344
  rw [z13 (by rw [hkl];omega),z13 (by rw [hkl];omega)]
  simp
 rw [e2,hkl] at c2
 refine z12 z19 Tryz.func33 rfl rfl 29 Tryz.ntmps33 (by simp) ?_
 repeat' ((apply y4 ok;rfl;conv=>whnf))
 refine z97 (fun i:Nat=>([(1,ints bl),(2,.ptr 0 none 0),(5,.sref 1 0 i),(6,.int i)],[.cells 2 [[lst 2 State.cs g.st,lst 1 encL g.nx]],.cells 1 (((List.range bl.length).take i).map fun i=>z89 (keyA g bl i))])) (fun i=>i≤bl.length) (fun i=>bl.length - i) 0 (by omega) ⟨[0,1],rfl,by decide,rfl,⟨⟨rfl,rfl⟩,⟨rfl,rfl⟩,⟨rfl,rfl⟩,⟨rfl,rfl⟩,trivial⟩,⟨z27 rfl rfl,z59 rfl (z7 fun _=>rfl),trivial⟩⟩ ?_
 intro i hi
 by_cases hil:i < bl.length
 ·have hin:i < g.nx.length:=by omega
  have hir:i < (List.range bl.length).length:=by simpa using hil
  have c1:=z842 g hG bl hb i hin
  have ea:z413 (g.nx[i].map (pick bl))=aft g bl i:=by unfold aft;rw [z13 hin]
  have h60:=hk60 i hin
  rw [ea] at c1
  have ek:keyA g bl i=bl[i]::aft g bl i:=by unfold keyA;rw [z13 hil]
  repeat' (first|((fail_if_success apply z114 4);(fail_if_success apply z96 4);apply y4 ok;rfl;conv=>whnf)|(apply z37;kernel_rfl;conv=>whnf)|(apply y39;(first|omega|((try dsimp only);simp only [y45,y44,y43,y42,y54,y55];omega)|exact z106 (fun _=>rfl)|exact ⟨rfl,z25 rfl z32⟩);conv=>whnf)|(with_reducible apply z15;omega;intro _;conv=>whnf)|(apply z8<;>intro _<;>conv=>whnf)|(apply z6 (c1);rfl;rfl;conv=>whnf))
  all_goals try (exfalso;omega)
  refine y81 (Gl.Reach.absorb 5 3 i 0 rfl (z941 (z1182 (by omega) rfl)) rfl rfl (by simp;omega) rfl (z90 (z212 rfl z36) (z7 fun _=>rfl)) rfl) ?_
  conv=>whnf
  repeat' (first|(apply y4 ok;rfl;conv=>whnf)|(apply y39;((unfold inI;omega));conv=>whnf))
  refine z81 (i+1) [0,5] (by omega) (by omega) ⟨rfl,by decide,rfl,⟨⟨rfl,rfl⟩,⟨rfl,rfl⟩,⟨rfl,rfl⟩,⟨rfl,rfl⟩,trivial⟩,⟨z27 rfl rfl,z59 (z83 (z1183 hir rfl ?_)) (z7 fun _=>rfl),trivial⟩⟩
  simp only [List.getElem_range]
  rw [ek];rfl
 ·obtain rfl:i=bl.length:=by omega
  rw [y53 (by simp)]
  repeat' (first|(apply y4 ok;rfl;conv=>whnf)|(apply y39;(omega);conv=>whnf)|(with_reducible apply z15;omega;intro _;conv=>whnf)|(apply z8<;>intro _<;>conv=>whnf)|(apply z86 [] [1] [2] (c2);(focus (exact z55 (z937 (l:=(List.range bl.length).map (keyA g bl)) (by show AObj.cells 1 _=_;rw [List.map_map];rfl) rfl rfl (by simp)) z84));(focus ((repeat' (exact z43))<;>(fail)));rfl;rfl;rfl;rfl;rfl;(focus ((repeat' (first|exact z17|apply z14))<;>((refine z23 ?_;((exact z7 (fun _=>rfl)))))));((refine .inr ⟨rfl,?_⟩;repeat' (first|exact True.intro|apply y39|exact z121 (fun _=>rfl) _)));conv=>whnf))
  all_goals try (exfalso;omega)
  exact z99 rfl (z7 fun _=>rfl) rfl rfl rfl
theorem z844 (c:List Int) (d:List (List Int)) (n:Nat) (hn:n≤1048576) (same:Nat→Nat→Bool) (f:FuncId) (hf:∀ i k:Nat,k < i→i < n→CallsA Tryz.prog f [.int i,.int k,.pt [ints c],.pt [lst 1 encL d]] [] (.bool (same i k)) []):CallsA Tryz.prog 78 [.int n,.fn (.func f) [] [.pt [ints c],.pt [lst 1 encL d]]] [] (.sref 0 0 n) [.cells 1 ((numF same n).1.map enI)]:=by
 have hlen:=z78 same n
 have hfl:∀ i,Flat (((numF same n).1.take i).map enI++List.replicate ((numF same n).1.length - i) [AC.int 0]):=fun i=>z90 (z7 fun _=>rfl) (z75 rfl)
 refine z12 z19 Tryz.func78 rfl rfl 46 Tryz.ntmps78 (by simp) ?_
 repeat' (first|(apply y4 ok;rfl;conv=>whnf)|(apply y39;((dsimp only;omega));conv=>whnf))
 refine z97 (fun i:Nat=>([(1,.fn (.func f) [] [.pt [ints c],.pt [lst 1 encL d]]),(5,.sref 0 0 n),(6,.int ((numF same i).2:Int)),(12,.int n),(13,.int i)],[.cells 1 (((numF same n).1.take i).map enI++List.replicate ((numF same n).1.length - i) [AC.int 0])])) (fun i=>i≤n) (fun i=>n - i) 0 (by omega) ⟨[0],rfl,by decide,rfl,⟨⟨rfl,rfl⟩,⟨rfl,rfl⟩,⟨rfl,rfl⟩,⟨rfl,rfl⟩,⟨rfl,rfl⟩,trivial⟩,⟨z59 (z83 (by rw [hlen];rfl)) (hfl 0),trivial⟩⟩ ?_
 intro i hi
 by_cases hin:i < n
 ·have hc:=(z643 same i).2
  have hF:i < (((numF same n).1.take i).map enI++List.replicate ((numF same n).1.length - i) [AC.int 0]).length:=by rw [z923 (by omega)];omega
  repeat' (first|(apply y4 ok;rfl;conv=>whnf)|(apply y39;(omega);conv=>whnf)|(apply z391;omega;conv=>whnf)|(apply z8<;>intro _<;>conv=>whnf))
  all_goals try (exfalso;omega)
  refine z97 (fun k:Nat=>([(1,.fn (.func f) [] [.pt [ints c],.pt [lst 1 encL d]]),(5,.sref 0 0 n),(6,.int ((numF same i).2:Int)),(12,.int n),(13,.int i),(7,.int i),(20,.int i),(21,.int k)],[.cells 1 ((((numF same n).1.take i).map enI++List.replicate ((numF same n).1.length - i) [AC.int 0]).set i [AC.int ((numF same i).2:Int)])])) (fun k=>k≤i∧∀ j,j < k→same i j=false) (fun k=>i - k) 0 ⟨by omega,fun j hj=>by omega⟩ ⟨[0],rfl,by decide,rfl,⟨⟨rfl,rfl⟩,⟨rfl,rfl⟩,⟨rfl,rfl⟩,⟨rfl,rfl⟩,⟨rfl,rfl⟩,⟨rfl,rfl⟩,⟨rfl,rfl⟩,⟨rfl,rfl⟩,trivial⟩,⟨z59 rfl (z922 (hfl i) rfl),trivial⟩⟩ ?_
  rintro k ⟨hk1,hk2⟩
  generalize hFF:(((numF same n).1.take i).map enI++List.replicate ((numF same n).1.length - i) [AC.int 0])=F at hF
  by_cases hki:k < i
  ·have hg:(F.set i [AC.int ((numF same i).2:Int)])[k]?=some (enI ((numF same n).1[k]'(by omega))):=by rw [← hFF];exact fill_got hki (by omega)
   have hlt:=numF_lt' (same:=same) (n:=n) hi hki
   repeat' (first|(apply y4 ok;rfl;conv=>whnf)|(apply z529;(exact y73 i);(first|exact hF|(rw [List.length_set];exact hF));conv=>whnf)|(apply z21;(exact y73 k);exact hg;conv=>whnf)|(apply y39;(first|omega|(unfold inI;omega));conv=>whnf)|(apply z8<;>intro _<;>conv=>whnf)|(apply z110<;>intro _<;>conv=>whnf)|(apply z6 (hf i k hki hin);rfl;rfl;conv=>whnf))
   all_goals try (exfalso;omega)
   ·rename_i hs
    obtain ⟨h3,h4⟩:=z164 hin hki (by assumption) hk2
    exact z81 (i+1) [0] (by omega) (by omega) ⟨rfl,by decide,rfl,⟨⟨rfl,rfl⟩,⟨rfl,rfl⟩,⟨rfl,z299 (by rw [h4])⟩,⟨rfl,rfl⟩,⟨rfl,rfl⟩,trivial⟩,⟨z59 (z83 (by rw [← hFF];exact z752 (by omega) rfl (by rw [h3];rfl))) (hfl _),trivial⟩⟩
   ·refine z81 (k+1) [0] ⟨by omega,fun j hj=>?_⟩ (by omega) ⟨rfl,by decide,rfl,⟨⟨rfl,rfl⟩,⟨rfl,rfl⟩,⟨rfl,rfl⟩,⟨rfl,rfl⟩,⟨rfl,rfl⟩,⟨rfl,rfl⟩,⟨rfl,rfl⟩,⟨rfl,rfl⟩,trivial⟩,⟨z59 rfl (z922 (hFF ▸ hfl i) rfl),trivial⟩⟩
    rcases y66 j k with h3|h3
    ·exact hk2 j h3
    ·obtain rfl:j=k:=by omega
     assumption
  ·obtain rfl:k=i:=by omega
   obtain ⟨h3,h4⟩:=z176 hin hk2
   repeat' (first|(apply y4 ok;rfl;conv=>whnf)|(apply z529;(exact y73 k);exact hF;conv=>whnf)|(apply y39;(first|omega|(unfold inI;omega));conv=>whnf)|(apply z8<;>intro _<;>conv=>whnf))
   all_goals try (exfalso;omega)
   exact z81 (k+1) [0] (by omega) (by omega) ⟨rfl,by decide,rfl,⟨⟨rfl,rfl⟩,⟨rfl,rfl⟩,⟨rfl,z299 (by rw [h4];simp)⟩,⟨rfl,rfl⟩,⟨rfl,rfl⟩,trivial⟩,⟨z59 (z83 (by rw [← hFF,← z669 (f:=enI) _ _ _ (by omega),h3];rfl)) (hfl _),trivial⟩⟩
 ·repeat' (first|(apply y4 ok;rfl;conv=>whnf)|(apply y39;(omega);conv=>whnf)|(apply z391;omega;conv=>whnf)|(apply z8<;>intro _<;>conv=>whnf))
  all_goals try (exfalso;omega)
  obtain rfl:i=n:=by omega
  exact z418 rfl (z7 fun _=>rfl) rfl (by rw [y53 (by omega),hlen,Nat.sub_self];simp)
def z1076 (bl:List Int) (sets:List (List Int)) (i k:Nat):Bool:=decide (bl.getD i 0=bl.getD k 0) && decide (sets.getD i []=sets.getD k [])
theorem z968 (bl:List Int) (sets:List (List Int)) (hs:∀ s∈sets,s.length≤maxLen) (i k:Nat) (hk:k < i) (hi:i < bl.length) (hi2:i < sets.length):CallsA Tryz.prog 79 [.int i,.int k,.pt [ints bl],.pt [lst 1 encL sets]] [] (.bool (z1076 bl sets i k)) []:=by
 have c1:=z755 sets[i] sets[k] (hs _ (y40 _)) (hs _ (y40 _))
 unfold z1076
 rw [z13 hi,z13 (by omega),z13 hi2,z13 (by omega)]
 have g1:(sets.map encL)[i]?=some (encL sets[i]):=by rw [y47,y41 hi2];rfl
 have g2:(sets.map encL)[k]?=some (encL sets[k]):=by rw [y47,y41 (by omega)];rfl
 have g3:(bl.map enI)[i]?=some (enI bl[i]):=by rw [y47,y41 hi];rfl
 have g4:(bl.map enI)[k]?=some (enI bl[k]):=by rw [y47,y41 (by omega)];rfl
 generalize sets[i]=si at *
 generalize sets[k]=sk at *
 generalize bl[i]=bi at *
 generalize bl[k]=bk at *
 refine z12 z19 Tryz.func79 rfl rfl 27 Tryz.ntmps79 (by simp) ?_
 repeat' (first|(apply y4 ok;rfl;conv=>whnf)|(apply z37;kernel_rfl;conv=>whnf)|(refine z21 (i:=k) rfl g4 ?_;conv=>whnf)|(refine z21 (i:=i) rfl g3 ?_;conv=>whnf)|(refine z21 (i:=k) rfl g2 ?_;conv=>whnf)|(refine z21 (i:=i) rfl g1 ?_;conv=>whnf)|(apply y39;(omega);conv=>whnf)|(apply z8<;>intro _<;>conv=>whnf)|(apply z6 (c1);rfl;rfl;conv=>whnf))
 ·rename_i h
  exact z24 rfl (by rw [y78 h];rfl)
 ·rename_i h
  exact z24 rfl (by rw [y79 h];rfl)
theorem z1138 {α:Type} {f:α→List AC} {l:List α} {z:List AC} {k n:Nat} {K:List AC→Prop} (hn:n=k) (h:k < l.length) (kk:K z):∃ e,((l.take k).map f++List.replicate (l.length - k) z)[n]?=some e∧K e :=
 ⟨z,by subst hn;exact z924 _ _ _ _ h,kk⟩
theorem bor_fnC {objs:Nat→AObj} {π Bn:List Nat} {f:Fn} {caps caps' : List AC} (h:borL objs π Bn caps=caps'):bor objs π Bn (.fn f [] caps)=.fn f [] caps':=by
 simp only [bor,borL,h]
theorem z866 {objs:Nat→AObj} {π Bn:List Nat} {o w:Nat} {l:List (List Int)} (ho:objs o=.cells w [[.own 1 (l.map z89)]]) (h1:idx π o=none) (h2:inB Bn o=true):bor objs π Bn (.ptr o none 0)=.pt [lst 1 encL l]:=by
 simp only [bor,h1,h2,ho]
 show AC.pt [AC.list 1 (l.map z89).length (z70 (l.map z89))]=_
 rw [z143,y45];rfl
theorem z967 (g:Graph) (hG:GB g) (bl:List Int) (hb:bl.length=g.st.length):CallsA Tryz.prog 27 [.agg g.cs,ints bl] [] (.sref 0 0 g.st.length) [.cells 1 ((refL g bl).map enI)]:=by
 have hg1:=hG.1
 have hg2:=hG.2.1
 have hsl:∀ s∈(List.range g.nx.length).map (aft g bl),s.length≤maxLen:=fun s hs=>by
  obtain ⟨i,hi,rfl⟩:=List.mem_map.1 hs
  have hi:=List.mem_range.1 hi
  have h1:=z706 ((g.nx.getD i []).map (pick bl))
  have h2:=(hG.row i hi).2.1
  rw [z13 hi,y45] at h1
  unfold aft maxLen
  rw [z13 hi];omega
 have c4:=z844 bl ((List.range g.nx.length).map (aft g bl)) bl.length (by omega) (z1076 bl ((List.range g.nx.length).map (aft g bl))) 79 (fun i k hk hi=>z968 bl _ hsl i k hk hi (by simp;omega))
 have e4:(numF (z1076 bl ((List.range g.nx.length).map (aft g bl))) bl.length).1=refL g bl:=by
  unfold refL numK
  rw [hb,z313]
  intro i k hki hi
  unfold z1076 keyA
  rw [z13 (l:=(List.range g.nx.length).map (aft g bl)) (by simp;omega),z13 (l:=(List.range g.nx.length).map (aft g bl)) (by simp;omega)]
  simp only [List.getElem_map,List.getElem_range]
  rw [← Bool.decide_and]
  simp only [decide_eq_decide,List.cons.injEq]
  constructor
  ·rintro ⟨h1,h2⟩;exact ⟨h1.symm,h2.symm⟩
  ·rintro ⟨h1,h2⟩;exact ⟨h1.symm,h2.symm⟩
 rw [e4] at c4
 refine z12 z19 Tryz.func27 rfl rfl 35 Tryz.ntmps27 (by simp) ?_
 repeat' (first|(apply y4 ok;rfl;conv=>whnf)|(apply y39;((dsimp only;omega));conv=>whnf))
 refine y81 (Gl.Reach.weaken (es':=List.replicate bl.length [.own 1 []]) 2 rfl (by rw [y42,y42];rfl) z345 rfl) ?_
 conv=>whnf
 refine z97 (fun i:Nat=>([(3,.ptr 0 none 0),(5,.ptr 1 none 0),(13,lst 1 encL g.nx),(14,.int g.nx.length),(15,.int i)],[.cells 1 [[ints bl]],.cells 1 [[.sref 2 0 bl.length]],.cells 1 (((List.range g.nx.length).take i).map (fun j=>z89 (aft g bl j))++List.replicate ((List.range g.nx.length).length - i) [.own 1 []])])) (fun i=>i≤g.nx.length) (fun i=>g.nx.length - i) 0 (by omega) ⟨[1,3,2],rfl,by decide,rfl,⟨⟨rfl,rfl⟩,⟨rfl,rfl⟩,⟨rfl,rfl⟩,⟨rfl,rfl⟩,⟨rfl,rfl⟩,trivial⟩,⟨z27 rfl rfl,z27 rfl rfl,z59 (z83 (by rw [List.length_range,hg2,hb];rfl)) (z90 (z7 fun _=>rfl) (z75 rfl)),trivial⟩⟩ ?_
 intro i hi
 by_cases hil:i < g.nx.length
 ·obtain ⟨r1,r2,r3⟩:=hG.row i hil
  have hir:i < (List.range g.nx.length).length:=by simpa using hil
  have hgr:(g.nx.map encL)[i]?=some (encL g.nx[i]):=by rw [y47,y41 hil];rfl
  have ea:z413 (g.nx[i].map (pick bl))=aft g bl i:=by unfold aft;rw [z13 hil]
  generalize g.nx[i]=row at *
  have c1:=z582 bl row (by omega) (by rw [hb];exact r3) (by omega)
  have c2:=sort_ok (row.map (pick bl)) (by simp;omega) (by simp;omega)
  have c3:=z1007 ((row.map (pick bl)).mergeSort fun x y=>decide (x≤y)) (by rw [List.length_mergeSort];simp;omega) (by rw [List.length_mergeSort];simp;omega)
  rw [y45] at c2
  rw [List.length_mergeSort,y45] at c3
  have e3:Lib.compact ((row.map (pick bl)).mergeSort fun x y=>decide (x≤y))=aft g bl i:=ea
  rw [e3] at c3
  repeat' (first|((fail_if_success apply z114 8);(fail_if_success apply z96 8);apply y4 ok;rfl;conv=>whnf)|(apply z37;kernel_rfl;conv=>whnf)|(refine z1138 rfl hir ?_;conv=>whnf)|(refine z21 (i:=i) rfl hgr ?_;conv=>whnf)|(apply y39;(omega);conv=>whnf)|(apply z8<;>intro _<;>conv=>whnf)|(apply z86 [] [] [3] (c1);rfl;(focus ((repeat' (exact z43))<;>(fail)));rfl;rfl;rfl;rfl;rfl;(focus ((repeat' (first|exact z17|apply z14))<;>((refine z23 ?_;((exact z7 (fun _=>rfl)))))));(exact .inl rfl);conv=>whnf)|(apply z86 [3] [] [] (c2);rfl;(focus ((repeat' (first|exact z43|apply z64))<;>((refine z88 rfl ?_;((exact z7 (fun _=>rfl)))))));rfl;rfl;rfl;rfl;rfl;(focus ((repeat' (first|exact z17|apply z14))<;>((refine z23 ?_;((exact z7 (fun _=>rfl)))))));(exact .inl rfl);conv=>whnf)|(apply z86 [3] [] [] (c3);rfl;(focus ((repeat' (first|exact z43|apply z64))<;>((refine z88 rfl ?_;((exact z7 (fun _=>rfl)))))));rfl;rfl;rfl;rfl;rfl;(focus ((repeat' (first|exact z17|apply z14))<;>((refine z23 ?_;((exact z7 (fun _=>rfl)))))));(exact .inl rfl);conv=>whnf))
  all_goals try (exfalso;omega)
  refine y81 (Gl.Reach.absorb 2 3 i 0 rfl (z1136 rfl (by rw [z923 (by omega)];exact hir)) rfl rfl (by simp) rfl (z7 fun _=>rfl) rfl) ?_
  conv=>whnf
  repeat' (first|(apply y4 ok;rfl;conv=>whnf)|(apply y39;((unfold inI;omega));conv=>whnf))
  exact z81 (i+1) [0,1,2] (by omega) (by omega) ⟨rfl,by decide,rfl,⟨⟨rfl,rfl⟩,⟨rfl,rfl⟩,⟨rfl,rfl⟩,⟨rfl,rfl⟩,⟨rfl,rfl⟩,trivial⟩,⟨z27 rfl rfl,z27 rfl rfl,z59 (z83 (z752 hir rfl (by rw [List.getElem_range];rfl))) (z90 (z7 fun _=>rfl) (z75 rfl)),trivial⟩⟩
 ·repeat' (first|((fail_if_success apply z114 9);(fail_if_success apply z96 9);apply y4 ok;rfl;conv=>whnf)|(apply y39;(omega);conv=>whnf)|(with_reducible apply z15;omega;intro _;conv=>whnf)|(apply z8<;>intro _<;>conv=>whnf))
  all_goals try (exfalso;omega)
  have e5:((List.range g.nx.length).take i).map (fun j=>z89 (aft g bl j))++List.replicate ((List.range g.nx.length).length - i) [AC.own 1 []]=((List.range g.nx.length).map (aft g bl)).map z89:=by
   rw [y53 (by simp;omega),List.map_map,show (List.range g.nx.length).length - i=0 by simp;omega]
   simp
  rw [e5]
  refine y81 (Gl.Reach.absorb 1 2 0 0 rfl rfl rfl rfl (by simp;omega) rfl (z7 fun _=>rfl) rfl) ?_
  conv=>whnf
  repeat' (first|(apply y4 ok;rfl;conv=>whnf)|(apply z86 [] [0,1] [3] (c4);(focus (exact z55 rfl (z55 (bor_fnC (z55 rfl (z55 (z866 rfl rfl rfl) z84))) z84)));(focus ((repeat' (exact z43))<;>(fail)));rfl;rfl;rfl;rfl;rfl;(focus ((repeat' (first|exact z17|apply z14))<;>((refine z23 ?_;((exact z7 (fun _=>rfl)))))));((refine .inr ⟨rfl,?_⟩;repeat' (first|exact True.intro|apply y39|exact z121 (fun _=>rfl) _)));conv=>whnf))
  exact z99 rfl (z7 fun _=>rfl) hb rfl rfl
def bisN (g:Graph) (b:List Int):Nat→List Int
 |0=>b
 |k+1=>refL g (bisN g b k)
def bis0 (g:Graph) (l:List Tree):List Int:=(numF (z962 (g.st.map (z49 l))) g.st.length).1
def bisF (g:Graph) (l:List Tree):List Int:=bisN g (bis0 g l) g.st.length
theorem z938 (g:Graph) (b:List Int) (hb:b.length=g.st.length) (k:Nat):(bisN g b k).length=g.st.length:=by
 cases k with
 |zero=>exact hb
 |succ k=>exact z257 _ _
def BK (g:Graph) (b:List Int) (k:Nat):Prop:=∃ κ:Nat→List Int,bisN g b k=(numK κ g.st.length).1∧k≤(numK κ g.st.length).2
theorem numK_cnt {K:Type} [DecidableEq K] (κ:Nat→K) (n:Nat):(numK κ n).2≤n:=(z643 _ n).2
theorem BK.le {g:Graph} {b:List Int} {k:Nat} (h:BK g b k):k≤g.st.length:=by
 obtain ⟨κ,_,h2⟩:=h
 have:=numK_cnt κ g.st.length;omega
theorem BK.step {g:Graph} {b:List Int} {k:Nat} (h:BK g b k) (hne:bisN g b (k+1)≠bisN g b k):BK g b (k+1):=by
 obtain ⟨κ,h1,h2⟩:=h
 refine ⟨keyA g (bisN g b k),rfl,?_⟩
 obtain ⟨h3,h4,_⟩:=z976 (κ:=κ) (κ':=keyA g (bisN g b k)) (n:=g.st.length) (fun x y hx hy he=>by
  have h5:(bisN g b k).getD x 0=(bisN g b k).getD y 0:=(List.cons.inj he).1
  rw [h1] at h5
  rw [z13 (by rw [z192];exact hx),z13 (by rw [z192];exact hy)] at h5
  exact (z640 (κ:=κ) (n:=g.st.length) g.st.length (y48 _) x y hx hy).1 h5) g.st.length (y48 _)
 rcases y66 k (numK (keyA g (bisN g b k)) g.st.length).2 with h|h
 ·exact h
 ·exfalso
  refine hne ?_
  show (numK (keyA g (bisN g b k)) g.st.length).1=_
  rw [h1] at h4 ⊢
  rw [h1] at h3 h
  exact h4 (by omega)
theorem z868 {g:Graph} {b:List Int} {k:Nat} (h:bisN g b (k+1)=bisN g b k):∀ j,k≤j→bisN g b j=bisN g b k:=by
  intro j hj
  induction j with
  | zero => obtain rfl : k = 0 := by omega
            rfl
  | succ j ih =>
    rcases y66 j k with h1|h1
    · obtain rfl:k=j+1:=by omega
      rfl
    · rw [bisN,ih h1];exact h
theorem BK.zero (g:Graph) (l:List Tree):BK g (bis0 g l) 0:=by
 refine ⟨fun i=>[(g.st.map (z49 l)).getD i 0],?_,y49 _⟩
 show (numF _ _).1=(numF _ _).1
 rw [z313]
 intro i k _ _
 unfold z962
 simp [eq_comm]
theorem BK.end {g:Graph} {l:List Tree} {k:Nat} (h:BK g (bis0 g l) k) (he:refL g (bisN g (bis0 g l) k)=bisN g (bis0 g l) k):bisN g (bis0 g l) k=bisF g l :=
 (z868 he _ h.le).symm
noncomputable def bisR (g:Graph) (l:List Tree):List Int:=if glB g l then bisF g l else []
theorem bisF_len (g:Graph) (l:List Tree):(bisF g l).length=g.st.length:=z938 g _ (z78 _ _) _
theorem bisR_le (g:Graph) (l:List Tree):(bisR g l).length≤g.st.length:=by
 unfold bisR;split
 ·rw [bisF_len];omega
 ·simp
theorem z342 (g:Graph) (hg:g.mx) (l:List Tree) (hl:Lmx l):CallsA Tryz.prog 63 [.agg g.cs,lst 3 Tree.cs' l] [] (.tup [ints (bisR g l),.bool (glB g l)]) []:=by
 have c1:=z365 g hg l hl
 by_cases h:glB g l=true
 ·have h1:z223 g=true:=by unfold glB at h;exact (Bool.and_eq_true_iff.1 h).1
  have hG:=(z103 g).1 h1
  have e:bisR g l=bisF g l:=by unfold bisR;rw [if_pos h]
  have e2:lblB g l=bis0 g l:=by unfold lblB;rw [if_pos h];rfl
  have hb0:(bis0 g l).length=g.st.length:=z78 _ _
  have hg1:=hG.1
  rw [h,e2] at c1
  rw [e,h]
  refine z12 z19 Tryz.func63 rfl rfl 26 Tryz.ntmps63 (by simp) ?_
  repeat' (first|(apply y4 ok;rfl;conv=>whnf)|(apply z6 (c1);rfl;rfl;conv=>whnf))
  refine z97 (fun k:Nat=>([(2,.ptr 0 none 0),(6,ints (bisN g (bis0 g l) k))],[.cells 2 [[lst 2 State.cs g.st,lst 1 encL g.nx]]])) (BK g (bis0 g l)) (fun k=>g.st.length+1 - k) 0 (BK.zero g l) ⟨[0],rfl,by decide,rfl,⟨⟨rfl,rfl⟩,⟨rfl,rfl⟩,trivial⟩,⟨z27 rfl rfl,trivial⟩⟩ ?_
  intro k hk
  have hkl:=z938 g _ hb0 k
  have hkle:=hk.le
  have c2:=z992 (z388 g hG (bisN g (bis0 g l) k) hkl) (z257 _ _)
  have c3:=z293 (refL g (bisN g (bis0 g l) k)) (bisN g (bis0 g l) k) (by rw [z257];unfold maxLen;omega) (by rw [hkl];unfold maxLen;omega)
  by_cases he:refL g (bisN g (bis0 g l) k)=bisN g (bis0 g l) k
  ·have hend:=hk.end he
   repeat' (first|(apply y4 ok;rfl;conv=>whnf)|(apply z8<;>intro _<;>conv=>whnf)|(apply z6 (c2);rfl;rfl;conv=>whnf)|(apply z6 (c3);rfl;rfl;conv=>whnf))
   all_goals first|(exfalso;exact absurd he (by assumption))|skip
   rw [hend]
   exact z50 rfl rfl rfl
  ·repeat' (first|(apply y4 ok;rfl;conv=>whnf)|(apply z8<;>intro _<;>conv=>whnf)|(apply z6 (c2);rfl;rfl;conv=>whnf)|(apply z6 (c3);rfl;rfl;conv=>whnf))
   all_goals first|(exfalso;exact absurd (by assumption) he)|skip
   have hs:=hk.step he
   have:=hs.le
   exact z81 (k+1) [0] hs (by omega) ⟨rfl,by decide,rfl,⟨⟨rfl,rfl⟩,⟨rfl,rfl⟩,trivial⟩,⟨z27 rfl rfl,trivial⟩⟩
 ·have h:=(y68 _).mp h
  have e:bisR g l=[]:=by unfold bisR;rw [h];rfl
  rw [h] at c1
  rw [e,h]
  refine z12 z19 Tryz.func63 rfl rfl 26 Tryz.ntmps63 (by simp) ?_
  repeat' (first|(apply y4 ok;rfl;conv=>whnf)|(apply z6 (c1);rfl;rfl;conv=>whnf))
  all_goals exact z579 rfl rfl (z620 z493)
end Go.Proofs.YteinbnahinpegaaGreat
namespace Go.Proofs.YteinbnahinpegaaGreat
open Go.Gl
attribute [local irreducible] z20 AWP z30 z35 z34 RetS z42
def lsT (g:Graph) (l:List Tree) (i:Nat):Int:=z49 l (g.st.getD i ⟨[],[]⟩)
theorem GB.inG {g:Graph} (h:GB g):∀ r∈g.nx,InN g.st.length r:=fun r hr=>by
 obtain ⟨i,hi,rfl⟩:=List.mem_iff_getElem.1 hr
 exact (GB.row h i hi).2.2
end Go.Proofs.YteinbnahinpegaaGreat
