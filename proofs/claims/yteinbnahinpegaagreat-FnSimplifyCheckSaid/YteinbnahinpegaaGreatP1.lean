/- A part of the proofs over this program: T25, T26, T27, T37C, T37, T35A, T70, T71, T72, T73, T74, T75, T75K, T75M, T81, T82, T83. -/
import Derived.Test.YteinbnahinpegaaGreatP0
set_option linter.all false
namespace Go.Proofs.YteinbnahinpegaaGreat
open Go.Gl Proofs.Tryz
attribute [local irreducible] z18 AWP z38 z41 z40 RetS z42
def z68 (a:Aut):List (List Trans):=z98 a.acc.length (a.ed.map fun e=>(e.src.toNat,e))
def encT (r:List Trans):List AC:=[.list 4 r.length (r.map Trans.cs)]
def ownEd (r:List Trans):List AC:=ownG 4 Trans.cs r
theorem ltr_lt (v:List Int):∀ (l:List Tree) (k n:Nat),n < 2 ^ k→ltr v l k n < 2 ^ (k+l.length):=by
 intro l
 induction l with
 |nil=>intro k n h;simpa [ltr] using h
 |cons t l ih =>
  intro k n h
  rw [ltr]
  have e:k+(t::l).length=k+1+l.length:=by simp only [y55];omega
  rw [e]
  refine ih (k+1) _ ?_
  split
  ·rw [Nat.pow_succ];omega
  ·exact or_lt h
theorem z777 {l:List Tree} (hl:LabelsOk l) (s:State):0≤z85 l s∧z85 l s≤7:=by
 have:=ltr_lt s.b l 0 0 (by decide)
 rw [hl.1] at this
 unfold z85
 have e:(2:Nat) ^ (0+3)=8:=by decide
 omega
def pE2 (n i q:Nat) (ℓ to:Int) (e:Trans):List (Nat×Int):=if onB e ℓ then [(i * n+q,to * n+e.dst)] else []
def pTo (n:Nat) (row:List Trans) (i q:Nat) (ℓ to:Int):List (Nat×Int):=row.flatMap (pE2 n i q ℓ to)
def pQ (n:Nat) (nxi:List Int) (rows:List (List Trans)) (i:Nat) (ℓ:Int) (q:Nat):List (Nat×Int):=nxi.flatMap (pTo n (rows.getD q []) i q ℓ)
def pI2 (n:Nat) (nx:List (List Int)) (rows:List (List Trans)) (ls:List Int) (i:Nat):List (Nat×Int):=(List.range n).flatMap (pQ n (nx.getD i []) rows i (ls.getD i 0))
def pS2 (g:Graph) (ls:List Int) (a:Aut):List (Nat×Int):=(List.range g.st.length).flatMap (pI2 a.acc.length g.nx (z68 a) ls)
theorem z185 {a:Aut} {q:Nat} (h:q < a.acc.length):(z68 a).getD q []=a.ed.filter (fun e=>e.src.toNat == q):=by
 unfold z68
 rw [z20 (by rw [z100];exact h),z271,List.filter_map,List.map_map]
 exact List.map_id _
theorem z1134 {β:Type} {F:Nat→List β} {n q0:Nat} (hq:q0 < n) (h:∀ q,q < n→q≠q0→F q=[]):(List.range n).flatMap F=F q0:=by
 have:∀ m,(List.range m).flatMap F=if q0 < m∧m≤n then F q0 else if m≤n then [] else (List.range m).flatMap F:=by
  intro m
  induction m with
  |zero=>simp
  |succ m ih =>
   by_cases hm:m+1≤n
   ·rw [y59,List.flatMap_append,ih,List.flatMap_cons,List.flatMap_nil,y62]
    by_cases h1:q0 < m
    ·rw [if_pos ⟨h1,by omega⟩,if_pos ⟨by omega,hm⟩,h m (by omega) (by omega),y62]
    ·rw [if_neg (by omega),if_pos (by omega)]
     by_cases h2:q0=m
     ·subst h2;rw [if_pos ⟨by omega,hm⟩];rfl
     ·rw [if_neg (by omega),if_pos hm,h m (by omega) (by omega)];rfl
   ·rw [if_neg (by omega),if_neg hm]
 rw [this n,if_pos ⟨hq,y49 _⟩]
theorem z1008 {β:Type} {F:Nat→List β} {n:Nat} (h:∀ q,q < n→F q=[]):(List.range n).flatMap F=[]:=by
 rw [List.flatMap_eq_nil_iff]
 intro q hq
 exact h q (List.mem_range.1 hq)
theorem pS2_rows (g:Graph) (ls:List Int) (a:Aut) (ha:AutP a) (r:Nat):(pS2 g ls a).filter (fun p=>p.1 == r)=(z756 g ls a).filter (fun p=>p.1 == r):=by
 unfold pS2 z756
 rw [List.filter_flatMap,List.filter_flatMap]
 refine z631 fun i hi=>?_
 unfold pI2 z758
 rw [List.filter_flatMap,List.filter_flatMap]
 have hsrc:∀ e∈a.ed,e.src.toNat < a.acc.length:=fun e he=>by
  have:=(ha.2.2.2 e he).1;omega
 by_cases hr:i * a.acc.length≤r∧r < i * a.acc.length+a.acc.length
 ·obtain ⟨q0,rfl⟩:∃ q0,r=i * a.acc.length+q0:=⟨r - i * a.acc.length,by omega⟩
  have hq0:q0 < a.acc.length:=by omega
  rw [z1134 hq0 (fun q hq hne=>by
   unfold pQ
   rw [List.filter_flatMap]
   refine List.flatMap_eq_nil_iff.2 fun to _=>?_
   unfold pTo
   rw [List.filter_flatMap]
   refine List.flatMap_eq_nil_iff.2 fun e _=>?_
   unfold pE2
   split
   ·simp;omega
   ·rfl)]
  unfold pQ
  rw [List.filter_flatMap,z185 hq0]
  refine z631 fun to _=>?_
  unfold pTo z757
  rw [List.filter_flatMap,List.filter_flatMap]
  induction a.ed with
  |nil=>rfl
  |cons e es ih =>
   rw [List.flatMap_cons,← ih,List.filter_cons]
   by_cases he:e.src.toNat=q0
   ·rw [if_pos (by simpa using he),List.flatMap_cons]
    unfold pE2 z483
    rw [he]
   ·rw [if_neg (by simpa using he)]
    have:(z483 a.acc.length i (ls.getD i 0) to e).filter (fun p=>p.1 == i * a.acc.length+q0)=[]:=by
     unfold z483
     split
     ·simp;omega
     ·rfl
    rw [this,List.nil_append]
 ·rw [z1008 (fun q hq=>by
   unfold pQ
   rw [List.filter_flatMap]
   refine List.flatMap_eq_nil_iff.2 fun to _=>?_
   unfold pTo
   rw [List.filter_flatMap]
   refine List.flatMap_eq_nil_iff.2 fun e _=>?_
   unfold pE2
   split
   ·simp;omega
   ·rfl)]
  symm
  refine List.flatMap_eq_nil_iff.2 fun to _=>?_
  unfold z757
  rw [List.filter_flatMap]
  refine List.flatMap_eq_nil_iff.2 fun e he=>?_
  have:=hsrc e he
  unfold z483
  split
  ·simp;omega
  ·rfl
theorem pS2_len (g:Graph) (hg:GB g) (ls:List Int) (a:Aut) (ha:AutP a):(pS2 g ls a).length≤1000000000:=by
 obtain ⟨⟨g1,g2⟩,g3,g4⟩:=hg
 have h2:∀ i∈List.range g.st.length,(pI2 a.acc.length g.nx (z68 a) ls i).length≤7864320:=fun i hi=>by
  rw [y58] at hi
  unfold pI2
  rw [z20 (l:=g.nx) (by omega)]
  have h3:=z291 (f:=pQ a.acc.length g.nx[i] (z68 a) i (ls.getD i 0)) (c:=122880) (List.range a.acc.length) (fun q hq=>by
   have h1:∀ to,(pTo a.acc.length ((z68 a).getD q []) i q (ls.getD i 0) to).length≤2048:=fun to=>by
    have h5:=z291 (f:=pE2 a.acc.length i q (ls.getD i 0) to) (c:=1) ((z68 a).getD q []) (fun e _=>by unfold pE2;split<;>simp)
    rw [z185 (List.mem_range.1 hq)] at h5 ⊢
    have:=List.length_filter_le (fun e:Trans=>e.src.toNat == q) a.ed
    have:=ha.2.1
    unfold pTo;omega
   have h3:=z291 (f:=pTo a.acc.length ((z68 a).getD q []) i q (ls.getD i 0)) (c:=2048) g.nx[i] (fun to _=>h1 to)
   have h4:=(g4 i (by omega) (by omega) hi).2.1
   have:g.nx[i].length * 2048≤60 * 2048:=Nat.mul_le_mul_right _ (by omega)
   unfold pQ;omega)
  rw [List.length_range] at h3
  have:a.acc.length * 122880≤64 * 122880:=Nat.mul_le_mul_right _ ha.1.2
  omega
 have h5:=z291 (f:=pI2 a.acc.length g.nx (z68 a) ls) (c:=7864320) (List.range g.st.length) h2
 rw [List.length_range] at h5
 have:g.st.length * 7864320≤60 * 7864320:=Nat.mul_le_mul_right _ (by omega)
 unfold pS2;omega
theorem z1243 (g:Graph) (ls:List Int) (a:Aut) (ha:AutP a):build (g.st.length * a.acc.length) (pS2 g ls a)=z64 g ls a:=by
 unfold z64 build
 rw [Nat.mul_comm]
 refine List.map_congr_left fun r _=>?_
 rw [pS2_rows g ls a ha r]
set_option maxHeartbeats 800000 in
theorem z865 (g:Graph) (hg:GB g) (l:List Tree) (hl:LabelsOk l) (a:Aut) (ha:AutP a):QQ 54 [.agg g.cs,lst 3 Tree.cs' l,.agg a.cs] [] (.tup [.sref 0 0 (g.st.length * a.acc.length),ints a.ini]) [.cells 1 ((z64 g (g.st.map (z85 l)) a).map z114)]:=by
 have hvals:=hg.vals
 have hpl:=z755 g hg (g.st.map (z85 l)) a ha
 have hini:=ha.2.2.1.le (by omega)
 obtain ⟨⟨g1,g2⟩,g3,g4⟩:=hg
 obtain ⟨⟨a1,a2⟩,a3,a4,a5⟩:=ha
 have hN:=z318 (a:=(g.st.length:Int)) (b:=(a.acc.length:Int)) (A:=60) (B:=64) (by omega) (by omega) (by omega) (by omega)
 refine z16 z24 func54 rfl rfl 117 ntmps54 (by simp) ?_
 repeat' (first|apply y6 ok;rfl;conv=>whnf|apply y40;((dsimp only;omega));conv=>whnf)
 refine y82 (Gl.Reach.weaken (es':=List.replicate a.acc.length [.own 4 []]) 2 rfl (by rw [y43,y43];rfl) z221 rfl) ?_
 conv=>whnf
 refine z111 (fun k:Nat=>([(1,lst 3 Tree.cs' l),(3,.ptr 0 none 0),(5,.ptr 1 none 0),(8,.int a.acc.length),(9,.sref 2 0 a.acc.length),(26,lst 4 Trans.cs a.ed),(27,.int a.ed.length),(28,.int k)],[.cells 2 [[lst 2 State.cs g.st,lst 1 encL g.nx]],.cells 3 [[lst 1 enI a.ini,lst 1 enB a.acc,lst 4 Trans.cs a.ed]],.cells 1 ((z98 a.acc.length ((a.ed.take k).map fun e=>(e.src.toNat,e))).map (ownG 4 Trans.cs))])) (fun k=>k≤a.ed.length) (fun k=>a.ed.length - k) 0 (by omega)
  ⟨[0,1,2],rfl,by decide,rfl,⟨⟨rfl,rfl⟩,⟨rfl,rfl⟩,⟨rfl,rfl⟩,⟨rfl,rfl⟩,⟨rfl,rfl⟩,⟨rfl,rfl⟩,⟨rfl,rfl⟩,⟨rfl,rfl⟩,trivial⟩,⟨z43 rfl rfl,z43 rfl rfl,z37 (z45 (z532 _ _ _).symm) (z6 fun _=>rfl),trivial⟩⟩ ?_
 intro k hk
 have hN2:((g.st.length * a.acc.length:Nat):Int)=(g.st.length:Int) * a.acc.length:=by simp
 repeat' (first|(fail_if_success apply z122 6);(fail_if_success apply z96 6);(fail_if_success apply z122 8);(fail_if_success apply z96 8);apply y6 ok;rfl;conv=>whnf|apply y40;(omega);conv=>whnf|with_reducible apply z13;omega;intro _;conv=>whnf|apply z7<;>intro _<;>conv=>whnf)
 ·have hkl:k < a.ed.length:=by assumption
  have he:=a5 a.ed[k] (y41 hkl)
  unfold z205 at he
  have hlt:a.ed[k].src.toNat < (z98 a.acc.length ((a.ed.take k).map fun e=>(e.src.toNat,e))).length:=by rw [z100];omega
  have hmap:a.ed[k].src.toNat < ((z98 a.acc.length ((a.ed.take k).map fun e=>(e.src.toNat,e))).map (ownG 4 Trans.cs)).length:=by rw [y46];exact hlt
  have hrl:=z296 hlt
  rw [y46,y45] at hrl
  refine y82 (Gl.Reach.expose (e:=ownG 4 Trans.cs (z98 a.acc.length ((a.ed.take k).map fun e=>(e.src.toNat,e)))[a.ed[k].src.toNat]) 2 a.ed[k].src.toNat 0 rfl (by rw [y48,y42 hlt];rfl) rfl (z168 (fun _=>rfl) _) rfl) ?_
  conv=>whnf
  (apply y6 ok;rfl;conv=>whnf)
  repeat' (first|apply z27;kernel_rfl;conv=>whnf|apply z289;exact Nat.add_zero _;exact hmap;conv=>whnf|apply y40;(first|omega|(try dsimp only);simp only [y46,y45,y44,y43,y55,y56];omega|exact ⟨rfl,z17 rfl z26⟩);conv=>whnf)
  refine y82 (Gl.Reach.absorb 2 6 a.ed[k].src.toNat 0 rfl (z629 (Nat.add_zero _) (by rw [List.length_set];exact hmap)) rfl rfl (by simp) rfl (z90 (fun e he=>(z6 (fun _=>rfl)) e (List.mem_of_mem_take he)) (z235 rfl z39)) rfl) ?_
  conv=>whnf
  repeat' (first|(fail_if_success apply z122 6);(fail_if_success apply z96 6);(fail_if_success apply z122 8);(fail_if_success apply z96 8);apply y6 ok;rfl;conv=>whnf|apply y40;((unfold inI;omega));conv=>whnf)
  refine z92 (k+1) [0,1,2] (by omega) (by omega)
   ⟨rfl,by decide,rfl,⟨⟨rfl,rfl⟩,⟨rfl,rfl⟩,⟨rfl,rfl⟩,⟨rfl,rfl⟩,⟨rfl,rfl⟩,⟨rfl,rfl⟩,⟨rfl,rfl⟩,⟨rfl,rfl⟩,trivial⟩,⟨z43 rfl rfl,z43 rfl rfl,z37 (z45 ?_) (z6 fun _=>rfl),trivial⟩⟩
  have e1:((a.ed.take (k+1)).map fun e=>(e.src.toNat,e))=((a.ed.take k).map fun e=>(e.src.toNat,e))++[(a.ed[k].src.toNat,a.ed[k])]:=by
   rw [y47 hkl,y61];rfl
  rw [e1]
  exact z445 hlt (Nat.add_zero _) (by simp) rfl
 obtain rfl:k=a.ed.length:=by omega
 refine y82 (SealL.reach (π:=[0,1]) (Bn:=[2]) (env:=[(1,lst 3 Tree.cs' l),(3,.ptr 0 none 0),(5,.ptr 1 none 0),(8,.int a.acc.length),(9,lst 1 encT (z68 a))]) (objs:=[.cells 2 [[lst 2 State.cs g.st,lst 1 encL g.nx]],.cells 3 [[lst 1 enI a.ini,lst 1 enB a.acc,lst 4 Trans.cs a.ed]]]) ⟨rfl,rfl,by simp,rfl,by intro o ho;simp at ho;rcases ho with rfl|rfl<;>rfl,⟨rfl,rfl,rfl,rfl,?_,trivial⟩,rfl⟩) ?_
 ·show bor _ _ _ (.sref 2 0 a.acc.length)=_
  rw [z244 (w:=1) (es:=(z98 a.acc.length ((a.ed.take a.ed.length).map fun e=>(e.src.toNat,e))).map (ownG 4 Trans.cs)) rfl rfl rfl (by rw [y46,z100]),z377 (fun t=>Trans.unown t),y53]
  unfold lst z68
  rw [z100];rfl
 conv=>whnf
 repeat' (first|apply y6 ok;rfl;conv=>whnf|apply y40;(first|unfold inI;omega|dsimp only;omega);conv=>whnf|apply z8 (label_ok g hvals g2 l hl);rfl;rfl;conv=>whnf)
 refine y82 (Gl.Reach.weaken (es':=List.replicate (g.st.length * a.acc.length) [.own 1 []]) 2 rfl (by rw [y43,y43];rfl) z221 rfl) ?_
 conv=>whnf
 have hls:(g.st.map (z85 l)).length=g.st.length:=by simp
 have hlr:∀ x∈g.st.map (z85 l),0≤x∧x≤7:=fun x hx=>by
  obtain ⟨s,_,rfl⟩:=List.mem_map.1 hx
  exact z777 hl s
 rw [← z1243 g _ a ⟨⟨a1,a2⟩,a3,a4,a5⟩]
 have hpl2:=pS2_len g ⟨⟨g1,g2⟩,g3,g4⟩ (g.st.map (z85 l)) a ⟨⟨a1,a2⟩,a3,a4,a5⟩
 generalize hlsd:g.st.map (z85 l)=ls at hls hlr hpl hpl2
 have hrow:∀ i (hi:i < g.nx.length),∀ x∈g.nx[i],0≤x∧x≤g.st.length - 1:=fun i hi x hx=>by
  obtain ⟨j,hj,rfl⟩:=List.mem_iff_getElem.1 hx
  exact ((g4 i hi hi (by omega)).2.2.2 j hj hj).1
 have hlen:∀ i (hi:i < g.nx.length),g.nx[i].length≤60:=fun i hi=>by
  have:=(g4 i hi hi (by omega)).2.1;omega
 have hel:(z68 a).length=a.acc.length:=z100 _ _
 have hed:∀ q (hq:q < (z68 a).length),∀ e∈(z68 a)[q],e∈a.ed:=fun q hq e he=>by
  rw [← z20 (d:=[]) hq,z185 (by omega)] at he;exact (List.mem_filter.1 he).1
 have hedl:∀ q (hq:q < (z68 a).length),(z68 a)[q].length≤2048:=fun q hq=>by
  rw [← z20 (d:=[]) hq,z185 (by omega)];exact Nat.le_trans (List.length_filter_le _ _) a3
 refine z111 (fun x:Nat×List (Nat×Int)=>([(3,.ptr 0 none 0),(5,.ptr 1 none 0),(8,.int a.acc.length),(9,lst 1 encT (z68 a)),(12,.sref 2 0 (g.st.length * a.acc.length)),(53,ints ls),(54,.int ls.length),(55,.int x.1)],[.cells 2 [[lst 2 State.cs g.st,lst 1 encL g.nx]],.cells 3 [[lst 1 enI a.ini,lst 1 enB a.acc,lst 4 Trans.cs a.ed]],.cells 1 ((build (g.st.length * a.acc.length) x.2).map z114)])) (fun x=>x.1≤ls.length∧x.2++((List.range g.st.length).drop x.1).flatMap (pI2 a.acc.length g.nx (z68 a) ls)=pS2 g ls a) (fun x=>ls.length - x.1) (0,[]) ⟨by omega,rfl⟩
  ⟨[0,1,2],rfl,by decide,rfl,⟨⟨rfl,by rfl⟩,⟨rfl,by rfl⟩,⟨rfl,by rfl⟩,⟨rfl,by rfl⟩,⟨rfl,by rfl⟩,⟨rfl,by rfl⟩,⟨rfl,by rfl⟩,⟨rfl,by rfl⟩,trivial⟩,⟨z43 rfl rfl,z43 rfl rfl,z37 (z45 (rows_nil _).symm) (z6 fun _=>rfl),trivial⟩⟩ ?_
 rintro ⟨i,ps⟩ ⟨hi1,hi2⟩
 dsimp only at hi1 hi2 ⊢
 repeat' (first|apply y6 ok;rfl;conv=>whnf|apply y40;(omega);conv=>whnf|with_reducible apply z13;omega;intro _;conv=>whnf|apply z7<;>intro _<;>conv=>whnf)
 ·have hig:i < g.st.length:=by omega
  rw [z421 _ _ _ (by simpa using hig),List.getElem_range] at hi2
  have hin:i < g.nx.length:=by omega
  have hrow:=hrow i hin
  have hlen:=hlen i hin
  have hil:i < ls.length:=by omega
  have hli:=hlr ls[i] (y41 _)
  have hpI:pI2 a.acc.length g.nx (z68 a) ls i=(List.range a.acc.length).flatMap (pQ a.acc.length g.nx[i] (z68 a) i ls[i]):=by
   unfold pI2
   rw [z20 (l:=g.nx) hin,z20 (l:=ls) hil]
  rw [hpI] at hi2
  have hm1:=z318 (a:=(i:Int)) (b:=(a.acc.length:Int)) (A:=60) (B:=64) (by omega) (by omega) (by omega) (by omega)
  refine z111 (fun x:Nat×List (Nat×Int)=>([(3,.ptr 0 none 0),(5,.ptr 1 none 0),(8,.int a.acc.length),(9,lst 1 encT (z68 a)),(12,.sref 2 0 (g.st.length * a.acc.length)),(53,ints ls),(54,.int ls.length),(55,.int i),(13,.int i),(14,.int ls[i]),(60,.int a.acc.length),(61,.int x.1)],[.cells 2 [[lst 2 State.cs g.st,lst 1 encL g.nx]],.cells 3 [[lst 1 enI a.ini,lst 1 enB a.acc,lst 4 Trans.cs a.ed]],.cells 1 ((build (g.st.length * a.acc.length) x.2).map z114)])) (fun x=>x.1≤a.acc.length∧x.2++(((List.range a.acc.length).drop x.1).flatMap (pQ a.acc.length g.nx[i] (z68 a) i ls[i])++((List.range g.st.length).drop (i+1)).flatMap (pI2 a.acc.length g.nx (z68 a) ls))=pS2 g ls a) (fun x=>a.acc.length - x.1) (0,ps) ⟨by omega,hi2⟩
   ⟨[0,1,2],rfl,by decide,rfl,⟨⟨rfl,rfl⟩,⟨rfl,rfl⟩,⟨rfl,rfl⟩,⟨rfl,rfl⟩,⟨rfl,rfl⟩,⟨rfl,rfl⟩,⟨rfl,rfl⟩,⟨rfl,rfl⟩,⟨rfl,rfl⟩,⟨rfl,rfl⟩,⟨rfl,rfl⟩,⟨rfl,rfl⟩,trivial⟩,⟨z43 rfl rfl,z43 rfl rfl,z37 rfl (z6 fun _=>rfl),trivial⟩⟩ ?_
  rintro ⟨q,ps⟩ ⟨hq1,hq2⟩
  dsimp only at hq1 hq2 ⊢
  repeat' (first|apply y6 ok;rfl;conv=>whnf|apply y40;(first|omega|unfold inI;omega);conv=>whnf|with_reducible apply z13;omega;intro _;conv=>whnf|apply z7<;>intro _<;>conv=>whnf)
  ·have hqn:q < a.acc.length:=by omega
   rw [z421 _ _ _ (by simpa using hqn),List.getElem_range,List.append_assoc] at hq2
   have hqe:q < (z68 a).length:=by omega
   have hpQ:pQ a.acc.length g.nx[i] (z68 a) i ls[i] q=g.nx[i].flatMap (pTo a.acc.length (z68 a)[q] i q ls[i]):=by
    unfold pQ;rw [z20 hqe]
   rw [hpQ] at hq2
   have hedl:=hedl q hqe
   have hlt:i * a.acc.length+q < g.st.length * a.acc.length:=by
    have h1:(i+1) * a.acc.length≤g.st.length * a.acc.length:=Nat.mul_le_mul_right _ hig
    rw [Nat.add_mul,Nat.one_mul] at h1
    omega
   refine z111 (fun x:Nat×List (Nat×Int)=>([(3,.ptr 0 none 0),(5,.ptr 1 none 0),(8,.int a.acc.length),(9,lst 1 encT (z68 a)),(12,.sref 2 0 (g.st.length * a.acc.length)),(53,ints ls),(54,.int ls.length),(55,.int i),(13,.int i),(14,.int ls[i]),(60,.int a.acc.length),(61,.int q),(15,.int q),(68,ints g.nx[i]),(69,.int g.nx[i].length),(70,.int x.1)],[.cells 2 [[lst 2 State.cs g.st,lst 1 encL g.nx]],.cells 3 [[lst 1 enI a.ini,lst 1 enB a.acc,lst 4 Trans.cs a.ed]],.cells 1 ((build (g.st.length * a.acc.length) x.2).map z114)])) (fun x=>x.1≤g.nx[i].length∧x.2++((g.nx[i].drop x.1).flatMap (pTo a.acc.length (z68 a)[q] i q ls[i])++(((List.range a.acc.length).drop (q+1)).flatMap (pQ a.acc.length g.nx[i] (z68 a) i ls[i])++((List.range g.st.length).drop (i+1)).flatMap (pI2 a.acc.length g.nx (z68 a) ls)))=pS2 g ls a) (fun x=>g.nx[i].length - x.1) (0,ps) ⟨by omega,hq2⟩
    ⟨[0,1,2],rfl,by decide,rfl,⟨⟨rfl,rfl⟩,⟨rfl,rfl⟩,⟨rfl,rfl⟩,⟨rfl,rfl⟩,⟨rfl,rfl⟩,⟨rfl,rfl⟩,⟨rfl,rfl⟩,⟨rfl,rfl⟩,⟨rfl,rfl⟩,⟨rfl,rfl⟩,⟨rfl,rfl⟩,⟨rfl,rfl⟩,⟨rfl,rfl⟩,⟨rfl,rfl⟩,⟨rfl,rfl⟩,⟨rfl,rfl⟩,trivial⟩,⟨z43 rfl rfl,z43 rfl rfl,z37 rfl (z6 fun _=>rfl),trivial⟩⟩ ?_
   rintro ⟨j,ps⟩ ⟨hj1,hj2⟩
   dsimp only at hj1 hj2 ⊢
   repeat' (first|apply y6 ok;rfl;conv=>whnf|apply y40;(first|omega|unfold inI;omega);conv=>whnf|with_reducible apply z13;omega;intro _;conv=>whnf|apply z7<;>intro _<;>conv=>whnf)
   ·have hjn:j < g.nx[i].length:=by omega
    rw [z421 _ _ _ hjn,List.append_assoc] at hj2
    have hto:=hrow g.nx[i][j] (y41 _)
    have hm2:=z318 (a:=g.nx[i][j]) (b:=(a.acc.length:Int)) (A:=60) (B:=64) (by omega) (by omega) (by omega) (by omega)
    refine z111 (fun x:Nat×List (Nat×Int)=>([(3,.ptr 0 none 0),(5,.ptr 1 none 0),(8,.int a.acc.length),(9,lst 1 encT (z68 a)),(12,.sref 2 0 (g.st.length * a.acc.length)),(53,ints ls),(54,.int ls.length),(55,.int i),(13,.int i),(14,.int ls[i]),(60,.int a.acc.length),(61,.int q),(15,.int q),(68,ints g.nx[i]),(69,.int g.nx[i].length),(70,.int j),(17,.int g.nx[i][j]),(77,lst 4 Trans.cs (z68 a)[q]),(78,.int (z68 a)[q].length),(79,.int x.1)],[.cells 2 [[lst 2 State.cs g.st,lst 1 encL g.nx]],.cells 3 [[lst 1 enI a.ini,lst 1 enB a.acc,lst 4 Trans.cs a.ed]],.cells 1 ((build (g.st.length * a.acc.length) x.2).map z114)])) (fun x=>x.1≤(z68 a)[q].length∧x.2++(((z68 a)[q].drop x.1).flatMap (pE2 a.acc.length i q ls[i] g.nx[i][j])++((g.nx[i].drop (j+1)).flatMap (pTo a.acc.length (z68 a)[q] i q ls[i])++(((List.range a.acc.length).drop (q+1)).flatMap (pQ a.acc.length g.nx[i] (z68 a) i ls[i])++((List.range g.st.length).drop (i+1)).flatMap (pI2 a.acc.length g.nx (z68 a) ls))))=pS2 g ls a) (fun x=>(z68 a)[q].length - x.1) (0,ps) ⟨by omega,hj2⟩
     ⟨[0,1,2],rfl,by decide,rfl,⟨⟨rfl,rfl⟩,⟨rfl,rfl⟩,⟨rfl,rfl⟩,⟨rfl,rfl⟩,⟨rfl,rfl⟩,⟨rfl,rfl⟩,⟨rfl,rfl⟩,⟨rfl,rfl⟩,⟨rfl,rfl⟩,⟨rfl,rfl⟩,⟨rfl,rfl⟩,⟨rfl,rfl⟩,⟨rfl,rfl⟩,⟨rfl,rfl⟩,⟨rfl,rfl⟩,⟨rfl,rfl⟩,⟨rfl,rfl⟩,⟨rfl,rfl⟩,⟨rfl,rfl⟩,⟨rfl,rfl⟩,trivial⟩,⟨z43 rfl rfl,z43 rfl rfl,z37 rfl (z6 fun _=>rfl),trivial⟩⟩ ?_
    rintro ⟨k,ps⟩ ⟨hk1,hk2⟩
    dsimp only at hk1 hk2 ⊢
    by_cases hke:k < (z68 a)[q].length
    ·have he:=a5 (z68 a)[q][k] (hed q hqe _ (y41 hke))
     unfold z205 at he
     have hlt' : i * a.acc.length+q < (build (g.st.length * a.acc.length) ps).length:=by rw [z142];exact hlt
     have hmap:i * a.acc.length+q < ((build (g.st.length * a.acc.length) ps).map z114).length:=by rw [y46];exact hlt'
     have hrl:(build (g.st.length * a.acc.length) ps)[i * a.acc.length+q].length≤1000000000:=by
      have h1:=z474 (N:=g.st.length * a.acc.length) (ps:=ps) hlt'
      have h2:=congrArg List.length hk2
      rw [y44] at h2
      omega
     have hix:((i:Int) * a.acc.length+q).toNat=i * a.acc.length+q:=by
      have e:((i * a.acc.length:Nat):Int)=(i:Int) * a.acc.length:=by simp
      omega
     have hlt2:((i:Int) * a.acc.length+q).toNat < g.st.length * a.acc.length:=by rw [hix];exact hlt
     rw [z421 _ _ _ hke] at hk2
     repeat' (first|(fail_if_success apply z122 22);(fail_if_success apply z96 22);apply y6 ok;rfl;conv=>whnf|apply y40;(first|omega|unfold inI;omega);conv=>whnf|with_reducible apply z13;omega;intro _;conv=>whnf|apply z7<;>intro _<;>conv=>whnf|apply z8 (z928 (z68 a)[q][k] ls[i] hli.1 hli.2 he.2.2.1);rfl;rfl;conv=>whnf)
     ·have hon:((ls[i].toNat &&& (z68 a)[q][k].care.toNat:Nat):Int)=(z68 a)[q][k].val:=by assumption
      refine y82 (Gl.Reach.expose (e:=z114 (build (g.st.length * a.acc.length) ps)[i * a.acc.length+q]) 2 (i * a.acc.length+q) 0 rfl (by rw [y48,y42 hlt'];rfl) rfl (z168 (fun _=>rfl) _) rfl) ?_
      conv=>whnf
      (apply y6 ok;rfl;conv=>whnf)
      repeat' (first|apply z27;kernel_rfl;conv=>whnf|apply z289;exact hix;exact hmap;conv=>whnf|apply y40;(first|omega|unfold inI;omega|(try dsimp only);simp only [y46,y45,y44,y43,y55,y56];omega|exact ⟨rfl,z17 rfl z26⟩);conv=>whnf)
      refine y82 (Gl.Reach.absorb 2 6 (i * a.acc.length+q) 0 rfl (z629 hix (by rw [List.length_set];exact hmap)) rfl rfl (by simp) rfl (z90 (fun e he=>(z6 (fun _=>rfl)) e (List.mem_of_mem_take he)) (z235 rfl z39)) rfl) ?_
      conv=>whnf
      repeat' (first|apply y6 ok;rfl;conv=>whnf|apply y40;((unfold inI;omega));conv=>whnf)
      have hpe:pE2 a.acc.length i q ls[i] g.nx[i][j] (z68 a)[q][k]=[(i * a.acc.length+q,g.nx[i][j] * a.acc.length+(z68 a)[q][k].dst)]:=by
       unfold pE2 onB;rw [if_pos (y79 hon)]
      rw [hpe,List.append_assoc,← List.append_assoc] at hk2
      exact z92 (k+1,ps++[(i * a.acc.length+q,g.nx[i][j] * a.acc.length+(z68 a)[q][k].dst)]) [0,1,2] ⟨by dsimp only;omega,hk2⟩ (by dsimp only;omega) ⟨rfl,by decide,rfl,⟨⟨rfl,rfl⟩,⟨rfl,rfl⟩,⟨rfl,rfl⟩,⟨rfl,rfl⟩,⟨rfl,rfl⟩,⟨rfl,rfl⟩,⟨rfl,rfl⟩,⟨rfl,rfl⟩,⟨rfl,rfl⟩,⟨rfl,rfl⟩,⟨rfl,rfl⟩,⟨rfl,rfl⟩,⟨rfl,rfl⟩,⟨rfl,rfl⟩,⟨rfl,rfl⟩,⟨rfl,rfl⟩,⟨rfl,rfl⟩,⟨rfl,rfl⟩,⟨rfl,rfl⟩,⟨rfl,rfl⟩,trivial⟩,⟨z43 rfl rfl,z43 rfl rfl,z37 (z45 (rows_push' hlt' hix (by simp))) (z6 fun _=>rfl),trivial⟩⟩
     ·have hon:¬ ((ls[i].toNat &&& (z68 a)[q][k].care.toNat:Nat):Int)=(z68 a)[q][k].val:=by assumption
      have hpe:pE2 a.acc.length i q ls[i] g.nx[i][j] (z68 a)[q][k]=[]:=by
       unfold pE2 onB;rw [if_neg (by simpa using hon)]
      rw [hpe,List.nil_append] at hk2
      exact z92 (k+1,ps) [0,1,2] ⟨by dsimp only;omega,hk2⟩ (by dsimp only;omega) ⟨rfl,by decide,rfl,⟨⟨rfl,rfl⟩,⟨rfl,rfl⟩,⟨rfl,rfl⟩,⟨rfl,rfl⟩,⟨rfl,rfl⟩,⟨rfl,rfl⟩,⟨rfl,rfl⟩,⟨rfl,rfl⟩,⟨rfl,rfl⟩,⟨rfl,rfl⟩,⟨rfl,rfl⟩,⟨rfl,rfl⟩,⟨rfl,rfl⟩,⟨rfl,rfl⟩,⟨rfl,rfl⟩,⟨rfl,rfl⟩,⟨rfl,rfl⟩,⟨rfl,rfl⟩,⟨rfl,rfl⟩,⟨rfl,rfl⟩,trivial⟩,⟨z43 rfl rfl,z43 rfl rfl,z37 rfl (z6 fun _=>rfl),trivial⟩⟩
     ·omega
    ·repeat' (first|(fail_if_success apply z122 22);(fail_if_success apply z96 22);apply y6 ok;rfl;conv=>whnf|apply y40;(first|omega|unfold inI;omega);conv=>whnf|with_reducible apply z13;omega;intro _;conv=>whnf|apply z7<;>intro _<;>conv=>whnf)
     ·omega
     ·rw [z206 _ _ _ (by omega),List.nil_append] at hk2
      exact z92 (j+1,ps) [0,1,2] ⟨by dsimp only;omega,hk2⟩ (by dsimp only;omega) ⟨rfl,by decide,rfl,⟨⟨rfl,rfl⟩,⟨rfl,rfl⟩,⟨rfl,rfl⟩,⟨rfl,rfl⟩,⟨rfl,rfl⟩,⟨rfl,rfl⟩,⟨rfl,rfl⟩,⟨rfl,rfl⟩,⟨rfl,rfl⟩,⟨rfl,rfl⟩,⟨rfl,rfl⟩,⟨rfl,rfl⟩,⟨rfl,rfl⟩,⟨rfl,rfl⟩,⟨rfl,rfl⟩,⟨rfl,rfl⟩,trivial⟩,⟨z43 rfl rfl,z43 rfl rfl,z37 rfl (z6 fun _=>rfl),trivial⟩⟩
   ·rw [z206 _ _ _ (by omega),List.nil_append] at hj2
    exact z92 (q+1,ps) [0,1,2] ⟨by dsimp only;omega,hj2⟩ (by dsimp only;omega) ⟨rfl,by decide,rfl,⟨⟨rfl,rfl⟩,⟨rfl,rfl⟩,⟨rfl,rfl⟩,⟨rfl,rfl⟩,⟨rfl,rfl⟩,⟨rfl,rfl⟩,⟨rfl,rfl⟩,⟨rfl,rfl⟩,⟨rfl,rfl⟩,⟨rfl,rfl⟩,⟨rfl,rfl⟩,⟨rfl,rfl⟩,trivial⟩,⟨z43 rfl rfl,z43 rfl rfl,z37 rfl (z6 fun _=>rfl),trivial⟩⟩
  ·rw [z206 _ _ _ (by simp;omega),List.nil_append] at hq2
   exact z92 (i+1,ps) [0,1,2] ⟨by dsimp only;omega,hq2⟩ (by dsimp only;omega) ⟨rfl,by decide,rfl,⟨⟨rfl,rfl⟩,⟨rfl,rfl⟩,⟨rfl,rfl⟩,⟨rfl,rfl⟩,⟨rfl,rfl⟩,⟨rfl,rfl⟩,⟨rfl,rfl⟩,⟨rfl,rfl⟩,trivial⟩,⟨z43 rfl rfl,z43 rfl rfl,z37 rfl (z6 fun _=>rfl),trivial⟩⟩
 ·rw [z206 _ _ _ (by simp;omega),y62] at hi2
  subst hi2
  repeat' (first|apply y6 ok;rfl;conv=>whnf|apply z8 (z795 a.ini (by omega));rfl;rfl;conv=>whnf)
  exact z117 [2] (by decide) rfl rfl rfl ⟨z37 rfl (z6 fun _=>rfl),trivial⟩
theorem z1009 (g:Graph) (hg:GB g) (l:List Tree) (hl:LabelsOk l) (a:Aut) (ha:AutP a):QQ 54 [.agg g.cs,lst 3 Tree.cs' l,.agg a.cs] [] (.tup [lst 1 encL (z64 g (g.st.map (z85 l)) a),ints a.ini]) []:=by
 have h:=z865 g hg l hl a ha
 have hlen:(z64 g (g.st.map (z85 l)) a).length=g.st.length * a.acc.length:=by unfold z64;rw [z142,Nat.mul_comm]
 refine h.lend [] [0] rfl rfl rfl ?_ z62
 show AC.tup [bor _ _ _ (.sref 0 0 _),bor _ _ _ (ints a.ini)]=_
 rw [z244 (w:=1) (es:=(z64 g (g.st.map (z85 l)) a).map z114) rfl rfl rfl (by rw [y46];exact hlen),z158,← hlen]
 rfl
theorem z866 (g:Graph) (hg:GB g) (ls:List Int) (a:Aut) (ha:AutP a):∀ row∈z64 g ls a,∀ x∈row,0≤x∧x < ((g.st.length * a.acc.length:Nat):Int):=by
 intro row hrow x hx
 unfold z64 build at hrow
 obtain ⟨r,_,rfl⟩:=List.mem_map.1 hrow
 obtain ⟨⟨p,v⟩,hp,rfl⟩:=List.mem_map.1 hx
 have hp:=(List.mem_filter.1 hp).1
 unfold z756 at hp
 obtain ⟨i,hi,hp⟩:=List.mem_flatMap.1 hp
 rw [y58] at hi
 unfold z758 at hp
 obtain ⟨to,hto,hp⟩:=List.mem_flatMap.1 hp
 unfold z757 at hp
 obtain ⟨e,he,hp⟩:=List.mem_flatMap.1 hp
 have hin:i < g.nx.length:=by have:=hg.2.1;omega
 rw [z20 hin] at hto
 obtain ⟨j,hj,rfl⟩:=List.mem_iff_getElem.1 hto
 have h1:=((hg.2.2 i hin hin hi).2.2.2 j hj hj).1
 have h2:=(ha.2.2.2 e he).2.1
 unfold z483 at hp
 split at hp
 ·simp only [y52,Prod.mk.injEq] at hp
  obtain ⟨_,rfl⟩:=hp
  have h3:0≤g.nx[i][j] * (a.acc.length:Int):=Int.mul_nonneg h1.1 (by omega)
  have h4:(g.nx[i][j]+1) * (a.acc.length:Int)≤g.st.length * a.acc.length:=Int.mul_le_mul_of_nonneg_right (by omega) (by omega)
  rw [Int.add_mul,Int.one_mul] at h4
  have e:((g.st.length * a.acc.length:Nat):Int)=(g.st.length:Int) * a.acc.length:=by simp
  rw [e]
  dsimp only
  omega
 ·simp at hp
theorem z759 (g:Graph) (hg:GB g) (ls:List Int) (a:Aut) (ha:AutP a):∀ row∈z64 g ls a,row.length≤7372800:=by
 intro row hrow
 obtain ⟨i,hi,rfl⟩:=List.mem_iff_getElem.1 hrow
 exact Nat.le_trans (z474 (N:=a.acc.length * g.st.length) (ps:=z756 g ls a) hi) (z755 g hg ls a ha)
def rk (ranks:List Int) (x:Int):Int:=ranks.getD x.toNat 0
def less (acc:Bool) (r:Int):Int:=if acc then r - 1 else r
def nodeP (row ranks:List Int) (rank:Int) (acc:Bool):Prop:=∀ x∈row,0≤rk ranks x∧rk ranks x≤less acc rank
instance {row ranks:List Int} {rank:Int} {acc:Bool} : Decidable (nodeP row ranks rank acc):=by unfold nodeP;infer_instance
def certP (rows:List (List Int)) (ini:List Int) (acc:List Bool) (N:Nat) (ranks:List Int):Prop :=
 ranks.length=N∧(∀ x∈ranks,-1≤x∧x≤4000)∧(∀ x∈ini,0≤rk ranks x)∧∀ i (h:i < ranks.length),0≤ranks[i]→nodeP (rows.getD i []) ranks ranks[i] (acc.getD (i % acc.length) false)
noncomputable instance {rows:List (List Int)} {ini:List Int} {acc:List Bool} {N:Nat} {ranks:List Int} : Decidable (certP rows ini acc N ranks):=Classical.propDecidable _
def Cert.mx (c:Cert):Prop:=c.ranks.length≤maxLen
theorem z566 (l:List Int) (hl:l.length≤1048576):QQ 37 [.sref 0 0 l.length] [.cells 1 (l.map enI)] (.sref 0 0 l.length) [.cells 1 (l.map enI)]:=by
 refine z16 z24 func37 rfl rfl 9 ntmps37 (by simp) ?_
 repeat' (first|apply y6 ok;rfl;conv=>whnf|apply y40;(omega);conv=>whnf)
 exact z133 rfl (z6 fun _=>rfl) (by omega) rfl rfl
theorem z811 (l:List Int) (hl:l.length≤1048576):QQ 134 [ints l] [] (.sref 0 0 l.length) [.cells 1 (l.map enI)]:=by
 by_cases hp:0 < l.length
 ·exact z635 l hl hp
 ·obtain rfl:l=[]:=y71 (by omega)
  refine z295 (z227 func134 rfl (by rfl)) fun ad cap=>?_
  cases ad with
  |none =>
   refine CallsA.nils (res:=.nils) (l:=[.cells 1 []]) ?_ (by simp) z684
   refine z16 z24 func134 rfl rfl 8 ntmps134 (by simp) ?_
   repeat' ((apply y6 ok;rfl;conv=>whnf))
   all_goals exact z67 rfl rfl rfl
  |some p =>
   refine z16 z24 func134 rfl rfl 8 ntmps134 (by simp) ?_
   repeat' (first|apply y6 ok;rfl;conv=>whnf|apply y40;(omega);conv=>whnf)
   all_goals (exact z133 rfl z39 rfl rfl rfl)
theorem z413 (l:List Int) (hl:l.length≤1048576):QQ 85 [ints l] [] (.sref 0 0 l.length) [.cells 1 (l.map enI)]:=by
 refine z16 z24 func85 rfl rfl 6 ntmps85 (by simp) ?_
 repeat' (first|apply y6 ok;rfl;conv=>whnf|apply z125 [] [] [0] (z811 l hl);rfl;(focus ((repeat' (exact z62))<;>(fail)));rfl;rfl;rfl;rfl;rfl;(focus ((repeat' (first|exact z23|apply z19))<;>((refine z30 ?_;((exact z6 (fun _=>rfl)))))));(exact .inl rfl);conv=>whnf|apply z125 [0] [] [] (z566 l hl);rfl;(focus ((repeat' (first|exact z62|apply z71))<;>((refine z89 rfl ?_;((exact z6 (fun _=>rfl)))))));rfl;rfl;rfl;rfl;rfl;(focus ((repeat' (first|exact z23|apply z19))<;>((refine z30 ?_;((exact z6 (fun _=>rfl)))))));(exact .inl rfl);conv=>whnf)
 exact z133 rfl (z6 fun _=>rfl) rfl rfl rfl
structure RI (rows:List (List Int)) (ini S L:List Int):Prop where
 inS:InN rows.length S
 sub:∀ x∈L,x∈S
 rp:∀ x∈S,RP rows ini x
 base:∀ x∈ini,x∈S
def Shut (rows:List (List Int)) (S:List Int) (x:Int):Prop:=∀ y∈rows.getD x.toNat [],y∈S
set_option maxHeartbeats 1600000 in
theorem z402 (rows:List (List Int)) (ini:List Int) (hr:∀ r∈rows,InN rows.length r) (hi:InN rows.length ini) (hN:rows.length≤1048576) (hrl:∀ r∈rows,r.length≤1000000000) (hil:ini.length≤1048576):QQ 157 [lst 1 encL rows,ints ini] [] (.sref 0 0 rows.length) [.cells 1 ((z241 rows ini).map enB)]:=by
 have c0:=z413 ini hil
 refine z16 z24 func157 rfl rfl 64 ntmps157 (by simp) ?_
 repeat' (first|apply y6 ok;rfl;conv=>whnf|apply y40;((dsimp only;omega));conv=>whnf|apply z125 [] [] [1] c0;rfl;(focus ((repeat' (exact z62))<;>(fail)));rfl;rfl;rfl;rfl;rfl;(focus ((repeat' (first|exact z23|apply z19))<;>((refine z30 ?_;((exact z6 (fun _=>rfl)))))));(exact .inl rfl);conv=>whnf)
 refine z111 (fun i:Nat=>([(0,lst 1 encL rows),(5,.sref 0 0 rows.length),(6,.sref 1 0 ini.length),(17,ints ini),(18,.int ini.length),(19,.int i)],[.cells 1 ((mkB rows.length (ini.take i)).map enB),.cells 1 (ini.map enI)])) (fun i=>i≤ini.length) (fun i=>ini.length - i) 0 (by omega) ⟨[0,1],rfl,by decide,rfl,⟨⟨rfl,rfl⟩,⟨rfl,rfl⟩,⟨rfl,rfl⟩,⟨rfl,rfl⟩,⟨rfl,rfl⟩,⟨rfl,rfl⟩,trivial⟩,⟨z37 (z45 (by rw [List.take_zero,z877,List.map_replicate];rfl)) (z6 fun _=>rfl),z37 rfl (z6 fun _=>rfl),trivial⟩⟩ ?_
 intro i hil2
 by_cases hil3:i < ini.length
 ·have hx:=hi ini[i] (y41 _)
  repeat' (first|apply y6 ok;rfl;conv=>whnf|refine z323 (enc:=enB) (v:=ini[i]) (by rfl) hx.1 hx.2 ?_;conv=>whnf|apply y40;(first|omega|unfold inI;omega);conv=>whnf|with_reducible apply z13;omega;intro _;conv=>whnf|apply z7<;>intro _<;>conv=>whnf)
  all_goals try (exfalso;omega)
  exact z92 (i+1) [0,1] (by omega) (by omega) ⟨rfl,by decide,rfl,⟨⟨rfl,rfl⟩,⟨rfl,rfl⟩,⟨rfl,rfl⟩,⟨rfl,rfl⟩,⟨rfl,rfl⟩,⟨rfl,rfl⟩,trivial⟩,⟨z37 (z45 (z525 (enc:=enB) (by rfl) hx.1 hx.2 fun x=>by rw [y47 hil3,y51,y52])) (z6 fun _=>rfl),z37 rfl (z6 fun _=>rfl),trivial⟩⟩
 repeat' (first|apply y6 ok;rfl;conv=>whnf|apply y40;(omega);conv=>whnf|with_reducible apply z13;omega;intro _;conv=>whnf|apply z13;omega;intro _;conv=>whnf|apply z7<;>intro _<;>conv=>whnf)
 all_goals try (exfalso;omega)
 obtain rfl:i=ini.length:=by omega
 rw [y53]
 refine z111 (fun x:List Int×List Int×List Int=>([(0,lst 1 encL rows),(5,.sref 0 0 rows.length),(6,.sref 1 0 x.2.1.length)],[.cells 1 ((mkB rows.length x.1).map enB),.cells 1 ((x.2.1++x.2.2).map enI)])) (fun x=>RI rows ini x.1 x.2.1∧(∀ v∈x.1,v ∉ x.2.1→Shut rows x.1 v)∧2 * cntU rows.length x.1+x.2.1.length≤2 * rows.length+ini.length) (fun x=>2 * cntU rows.length x.1+x.2.1.length) (ini,ini,[]) ⟨⟨hi,fun _ h=>h,fun _ h=>.base h,fun _ h=>h⟩,fun v h h'=>absurd h h',by have:=z634 rows.length ini;dsimp only;omega⟩ ⟨[0,1],rfl,by decide,rfl,⟨⟨rfl,rfl⟩,⟨rfl,rfl⟩,⟨rfl,rfl⟩,trivial⟩,⟨z37 rfl (z6 fun _=>rfl),z37 (z45 (by rw [y62])) (z6 fun _=>rfl),trivial⟩⟩ ?_
 rintro ⟨S,L,J⟩ ⟨hRI,hsh,hLl⟩
 dsimp only at hRI hsh hLl ⊢
 rcases List.eq_nil_or_concat L with rfl|⟨L,x,rfl⟩
 ·repeat' ((apply y6 ok;rfl;conv=>whnf))
  refine z535 rfl (z6 fun _=>rfl) rfl ?_
  rw [z1133]
  intro v _
  refine ⟨fun h=>hRI.rp _ h,fun h=>?_⟩
  generalize (v:Int)=u at h
  induction h with
  |base h=>exact hRI.base _ h
  |step _ h2 ih=>exact hsh _ ih (by simp) _ h2
 ·rw [List.concat_eq_append] at *
  have hxS:x∈S:=hRI.sub x (by simp)
  have hx:=hRI.inS x hxS
  have e:(L++[x]).length=L.length+1:=by simp
  have hxr:x.toNat < rows.length:=by omega
  rw [e] at hLl
  rw [e,List.append_assoc,List.singleton_append]
  have hg:((L++x::J).map enI)[L.length]?=some (enI x):=by simp
  have hrow:rows.getD x.toNat []=rows[x.toNat]:=z20 hxr
  have hrin:InN rows.length rows[x.toNat]:=hr _ (y41 _)
  have hrl2:=hrl rows[x.toNat] (y41 _)
  repeat' (first|apply y6 ok;rfl;conv=>whnf|refine z14 (i:=L.length) (by omega) hg ?_;conv=>whnf|apply y40;(first|omega|unfold inI;omega);conv=>whnf|with_reducible apply z79;omega;intro _;conv=>whnf|apply z7<;>intro _<;>conv=>whnf)
  all_goals try (exfalso;omega)
  generalize hrw:rows[x.toNat]=row at *
  refine z111 (fun y:List Int×List Int×List Int×Nat=>([(0,lst 1 encL rows),(5,.sref 0 0 rows.length),(6,.sref 1 0 y.2.1.length),(44,ints row),(45,.int row.length),(46,.int y.2.2.2)],[.cells 1 ((mkB rows.length y.1).map enB),.cells 1 ((y.2.1++y.2.2.1).map enI)])) (fun y=>RI rows ini y.1 y.2.1∧(∀ v∈y.1,v ∉ y.2.1→v≠x→Shut rows y.1 v)∧(∀ v∈row.take y.2.2.2,v∈y.1)∧y.2.2.2≤row.length∧2 * cntU rows.length y.1+y.2.1.length≤2 * cntU rows.length S+L.length) (fun y=>row.length - y.2.2.2) (S,L,x::J,0) ⟨⟨hRI.inS,fun v hv=>hRI.sub v (by simp [hv]),hRI.rp,hRI.base⟩,fun v hv hv' hne=>hsh v hv (by simp [hv',hne]),fun v hv=>by simp at hv,y50 _,y49 _⟩ ⟨[0,1],rfl,by decide,rfl,⟨⟨rfl,rfl⟩,⟨rfl,rfl⟩,⟨rfl,z174 (by dsimp only;omega) rfl⟩,⟨rfl,rfl⟩,⟨rfl,rfl⟩,⟨rfl,rfl⟩,trivial⟩,⟨z37 rfl (z6 fun _=>rfl),z37 rfl (z6 fun _=>rfl),trivial⟩⟩ ?_
  rintro ⟨S',L',J',i⟩ ⟨h1,h2,h3,h4,h5⟩
  dsimp only at h1 h2 h3 h4 h5 ⊢
  by_cases hil4:i < row.length
  ·have hy:=hrin row[i] (y41 _)
   repeat' (first|apply y6 ok;rfl;conv=>whnf|refine z323 (enc:=enB) (v:=row[i]) (by rfl) hy.1 hy.2 ?_;conv=>whnf|apply y40;(first|omega|unfold inI;omega|(try dsimp only);simp only [y46,y45,y44,y43,y55,y56];omega|exact ⟨rfl,z17 rfl z26⟩);conv=>whnf|with_reducible apply z13;omega;intro _;conv=>whnf|apply z7<;>intro _<;>conv=>whnf|apply z35<;>intro _<;>conv=>whnf)
   all_goals try (exfalso;omega)
   ·rename_i hn
    have hn:row[i] ∉ S':=by simpa using hn
    have hc:=z1237 (S:=S') (S':=S'++[row[i]]) (fun v hv=>by simp [hv]) hn (by simp) rows.length hy.1 hy.2
    refine z92 (S'++[row[i]],L'++[row[i]],[],i+1) [0,3] ⟨⟨fun v hv=>?_,fun v hv=>?_,fun v hv=>?_,fun v hv=>by simp [h1.base v hv]⟩,fun v hv hv' hne=>?_,fun v hv=>?_,by dsimp only;omega,?_⟩ (by dsimp only;omega) ⟨rfl,by decide,rfl,⟨⟨rfl,rfl⟩,⟨rfl,rfl⟩,⟨rfl,z174 (by simp) rfl⟩,⟨rfl,rfl⟩,⟨rfl,rfl⟩,⟨rfl,rfl⟩,trivial⟩,⟨z37 (z45 (z525 (enc:=enB) (by rfl) hy.1 hy.2 fun v=>by simp)) (z6 fun _=>rfl),z37 (z45 ?_) (z6 fun _=>rfl),trivial⟩⟩
    ·rcases List.mem_append.1 hv with hv|hv
     ·exact h1.inS v hv
     ·rw [List.mem_singleton.1 hv];exact hy
    ·rcases List.mem_append.1 hv with hv|hv
     ·exact List.mem_append_left _ (h1.sub v hv)
     ·exact List.mem_append_right _ hv
    ·rcases List.mem_append.1 hv with hv|hv
     ·exact h1.rp v hv
     ·rw [List.mem_singleton.1 hv];exact .step (hRI.rp x hxS) (by rw [hrow];exact y41 _)
    ·dsimp only at hv hv'
     rcases List.mem_append.1 hv with hv|hv
     ·exact fun y hy=>List.mem_append_left _ (h2 v hv (fun h=>hv' (List.mem_append_left _ h)) hne y hy)
     ·exact absurd (List.mem_append_right _ hv) hv'
    ·dsimp only at hv ⊢
     rw [y47 hil4] at hv
     rcases List.mem_append.1 hv with hv|hv
     ·exact List.mem_append_left _ (h3 v hv)
     ·exact List.mem_append_right _ hv
    ·dsimp only
     rw [y44]
     simp only [List.length_singleton]
     omega
    ·dsimp only
     rw [y62,y61,y61,List.take_append_of_le_length (by simp),y54 (by simp)]
     rfl
   ·refine z92 (S',L',J',i+1) [0,1] ⟨h1,h2,fun v hv=>?_,by dsimp only;omega,h5⟩ (by dsimp only;omega) ⟨rfl,by decide,rfl,⟨⟨rfl,rfl⟩,⟨rfl,rfl⟩,⟨rfl,rfl⟩,⟨rfl,rfl⟩,⟨rfl,rfl⟩,⟨rfl,rfl⟩,trivial⟩,⟨z37 rfl (z6 fun _=>rfl),z37 rfl (z6 fun _=>rfl),trivial⟩⟩
    dsimp only at hv ⊢
    rw [y47 hil4] at hv
    rcases List.mem_append.1 hv with hv|hv
    ·exact h3 v hv
    ·rw [List.mem_singleton.1 hv];assumption
  ·repeat' (first|apply y6 ok;rfl;conv=>whnf|apply y40;(omega);conv=>whnf|with_reducible apply z13;omega;intro _;conv=>whnf|apply z13;omega;intro _;conv=>whnf|apply z7<;>intro _<;>conv=>whnf|apply z82<;>intro _<;>conv=>whnf)
   all_goals try (exfalso;omega)
   have hie:i=row.length:=by omega
   refine z92 (S',L',J') [0,1] ⟨h1,fun v hv hv'=>?_,by dsimp only;omega⟩ (by dsimp only;rw [e];omega) ⟨rfl,by decide,rfl,⟨⟨rfl,rfl⟩,⟨rfl,rfl⟩,⟨rfl,rfl⟩,trivial⟩,⟨z37 rfl (z6 fun _=>rfl),z37 rfl (z6 fun _=>rfl),trivial⟩⟩
   by_cases hvx:v=x
   ·subst hvx
    intro y hy
    rw [hrow] at hy
    exact h3 y (by rw [hie,y53];exact hy)
   ·exact h2 v hv hv' hvx
structure Graph.ok (g:Graph):Prop where
 mx:g.mx
 st:g.st.length≤1048576
 nx:g.nx.length≤1048576
 states:∀ s∈g.st,s.small
 rows:∀ r∈g.nx,r.length≤1048576
 sumS:(g.st.map State.sz).sum≤1048576
 sumN:(g.nx.map List.length).sum≤1048576
theorem Graph.ok_of {g:Graph} (hg:g.mx) (h1:g.s1≤1048576) (h2:g.s2≤1048576):g.ok:=by
 unfold Graph.s1 tot at h1
 unfold Graph.s2 tot at h2
 refine ⟨hg,by omega,by omega,fun s hs=>?_,fun r hr=>?_,by omega,by omega⟩
 ·have:=z472 State.sz hs
  unfold State.sz at this h1
  exact ⟨by omega,by omega⟩
 ·have:=z472 List.length hr;omega
structure LabOk (l:List Tree):Prop where
 mx:Lmx l
 len:l.length≤1048576
 el:∀ t∈l,t.sz≤1048576
 sum:(l.map Tree.sz).sum≤1048576
theorem LabOk.of {l:List Tree} (hl:Lmx l) (h:tot Tree.sz l≤1048576):LabOk l:=by
 unfold tot at h
 exact ⟨hl,by omega,fun t ht=>by have:=z472 Tree.sz ht;omega,by omega⟩
def enU (n:Int):List AC:=[.raw (.int .u8 n)]
def rdO (bs:List Int) (p:Int):AObj:=.cells 2 [[lst 1 enU bs,.int p]]
structure BytesOk (bs:List Int):Prop where
 len:bs.length≤2000
 el:∀ x∈bs,0≤x∧x≤255
theorem u_at {l:List Int} {i:Nat} (h:i < l.length):(l.map enU)[i]?=some (enU l[i]):=by rw [y48,y42 h];rfl
theorem rem_at {l:List Int} {i:Int} (h:0 < l.length) (h0:0≤i):(i % (l.length:Int)).toNat < l.length:=by
 have:=Int.emod_lt_of_pos i (show (0:Int) < l.length by omega)
 have:=Int.emod_nonneg i (show (l.length:Int)≠0 by omega)
 omega
set_option maxHeartbeats 1600000 in
theorem z73 (bs:List Int) (hb:BytesOk bs) (p n:Int) (h0:0≤p) (h1:p≤1000000000) (hn:n≤1000000000):∃ v:Int,(0≤v∧(1≤n→v < n))∧QQ 58 [.ptr 0 none 0,.int n] [rdO bs p] (.int v) [rdO bs (p+1)]:=by
 have hlen:=hb.len
 by_cases hz:n < 1∨bs.length=0
 ·refine ⟨0,⟨by omega,fun _=>by omega⟩,?_⟩
  refine z16 z24 func58 rfl rfl 99 ntmps58 (by simp) ?_
  repeat' (first|apply y6 ok;rfl;conv=>whnf|apply z27;kernel_rfl;conv=>whnf|apply y40;(first|omega|unfold inI;omega);conv=>whnf|with_reducible apply z79;omega;intro _;conv=>whnf|apply z7<;>intro _<;>conv=>whnf)
  all_goals first|exfalso;omega|exact z117 [0] (by decide) rfl rfl rfl ⟨z43 rfl rfl,trivial⟩
 by_cases hk:p < bs.length
 ·have hp:(p+1 - 1).toNat < bs.length:=by omega
  have g0:=u_at (l:=bs) (i:=(p+1 - 1).toNat) hp
  have hr:=hb.el bs[(p+1 - 1).toNat] (y41 _)
  generalize bs[(p+1 - 1).toNat]=b at *
  have hw:IntKind.i64.wrap b=b:=IntWalk.i64_in _ (by omega)
  refine ⟨b % n,⟨Int.emod_nonneg _ (by omega),fun _=>Int.emod_lt_of_pos _ (by omega)⟩,?_⟩
  refine z16 z24 func58 rfl rfl 99 ntmps58 (by simp) ?_
  repeat' (first|apply y6 ok;rfl;conv=>whnf|apply z27;kernel_rfl;conv=>whnf|refine z14 (i:=(p+1 - 1).toNat) rfl g0 ?_;conv=>whnf|apply y40;(first|omega|unfold inI;omega);conv=>whnf|with_reducible apply z79;omega;intro _;conv=>whnf|apply z7<;>intro _<;>conv=>whnf)
  all_goals first|exfalso;omega|exact z117 [0] (by decide) rfl rfl rfl ⟨z43 rfl rfl,trivial⟩
 have hl0:0 < bs.length:=by omega
 have m1:=rem_at (l:=bs) (i:=p+1 - 1) hl0 (by omega)
 have m2:=rem_at (l:=bs) (i:=(p+1 - 1) * 7+3) hl0 (by omega)
 have g1:=u_at m1
 have g2:=u_at m2
 have r1:=hb.el bs[((p+1 - 1) % (bs.length:Int)).toNat] (y41 _)
 have r2:=hb.el bs[(((p+1 - 1) * 7+3) % (bs.length:Int)).toNat] (y41 _)
 generalize bs[((p+1 - 1) % (bs.length:Int)).toNat]=b1 at *
 generalize bs[(((p+1 - 1) * 7+3) % (bs.length:Int)).toNat]=b2 at *
 have w1:IntKind.i64.wrap b1=b1:=IntWalk.i64_in _ (by omega)
 have w2:IntKind.i64.wrap b2=b2:=IntWalk.i64_in _ (by omega)
 have n1:=Int.emod_nonneg (p+1 - 1) (show (bs.length:Int)≠0 by omega)
 have n2:=Int.emod_nonneg ((p+1 - 1) * 7+3) (show (bs.length:Int)≠0 by omega)
 have l1:=Int.emod_lt_of_pos (p+1 - 1) (show (0:Int) < bs.length by omega)
 have l2:=Int.emod_lt_of_pos ((p+1 - 1) * 7+3) (show (0:Int) < bs.length by omega)
 have q0:0≤(p+1 - 1) / (bs.length:Int):=Int.ediv_nonneg (by omega) (by omega)
 have q1:(p+1 - 1) / (bs.length:Int)≤p+1 - 1:=Int.ediv_le_self _ (by omega)
 have hx0:0≤b1 * 131+b2 * 1117+(p+1 - 1) * 29+(p+1 - 1) / (bs.length:Int) * 53:=by omega
 have hx1:b1 * 131+b2 * 1117+(p+1 - 1) * 29+(p+1 - 1) / (bs.length:Int) * 53≤1000000000000:=by omega
 have hq:0≤(b1 * 131+b2 * 1117+(p+1 - 1) * 29+(p+1 - 1) / (bs.length:Int) * 53) / 64∧(b1 * 131+b2 * 1117+(p+1 - 1) * 29+(p+1 - 1) / (bs.length:Int) * 53) / 64≤1000000000000:=by omega
 refine ⟨(((b1 * 131+b2 * 1117+(p+1 - 1) * 29+(p+1 - 1) / (bs.length:Int) * 53).toNat ^^^ ((b1 * 131+b2 * 1117+(p+1 - 1) * 29+(p+1 - 1) / (bs.length:Int) * 53) / 64).toNat:Nat):Int) % n,⟨Int.emod_nonneg _ (by omega),fun _=>Int.emod_lt_of_pos _ (by omega)⟩,?_⟩
 refine z16 z24 func58 rfl rfl 99 ntmps58 (by simp) ?_
 repeat' (first|apply y6 ok;rfl;conv=>whnf|apply z27;kernel_rfl;conv=>whnf|refine z14 (i:=(((p+1 - 1) * 7+3) % (bs.length:Int)).toNat) rfl g2 ?_;conv=>whnf|refine z14 (i:=((p+1 - 1) % (bs.length:Int)).toNat) rfl g1 ?_;conv=>whnf|apply y40;(first|omega|unfold inI;omega|unfold z129;omega);conv=>whnf|with_reducible apply z79;omega;intro _;conv=>whnf|apply z7<;>intro _<;>conv=>whnf)
 all_goals first|exfalso;omega|exact z117 [0] (by decide) rfl rfl rfl ⟨z43 rfl rfl,trivial⟩
theorem z1038 (bs:List Int) (hl:bs.length≤maxLen):QQ 16 [lst 1 enU bs] [] (.ptr 0 none 0) [rdO (bs.take 2000) 0]:=by
 unfold maxLen at hl
 refine z16 z24 func16 rfl rfl 11 ntmps16 (by simp) ?_
 by_cases h:bs.length≤2000
 ·rw [y54 h]
  repeat' (first|apply y6 ok;rfl;conv=>whnf|apply y40;(omega);conv=>whnf|apply z7<;>intro _<;>conv=>whnf)
  all_goals first|exfalso;omega|exact z117 [0] (by decide) rfl rfl rfl ⟨z43 rfl rfl,trivial⟩
 ·repeat' (first|apply y6 ok;rfl;conv=>whnf|apply y40;(omega);conv=>whnf|apply z7<;>intro _<;>conv=>whnf)
  all_goals try (exfalso;omega)
  all_goals exact z117 [0] (by decide) rfl rfl rfl ⟨z43 rfl (congrArg (fun x=>AObj.cells 2 [[x,AC.int 0]]) (z442 1 enU bs 2000 (by omega))),trivial⟩
theorem z115 (bs:List Int) (hb:BytesOk bs) (p:Int) (h0:0≤p) (h1:p≤1000000000) (l:List Int) (hl:0 < l.length) (hl2:l.length≤1000):∃ v:Int,v∈l∧QQ 60 [.ptr 0 none 0,.sref 1 0 l.length] [rdO bs p,.cells 1 (l.map enI)] (.int v) [rdO bs (p+1),.cells 1 (l.map enI)]:=by
 obtain ⟨k,⟨hk0,hk1⟩,hc⟩:=z73 bs hb p l.length h0 h1 (by omega)
 have hk:k.toNat < l.length:=by omega
 have g0:(l.map enI)[k.toNat]?=some (enI l[k.toNat]):=by rw [y48,y42 hk];rfl
 refine ⟨l[k.toNat],y41 _,?_⟩
 generalize l[k.toNat]=v at *
 refine z16 z24 func60 rfl rfl 12 ntmps60 (by simp) ?_
 repeat' (first|apply y6 ok;rfl;conv=>whnf|refine z14 (i:=k.toNat) rfl g0 ?_;conv=>whnf|apply y40;(omega);conv=>whnf|apply z125 [0] [] [] hc;rfl;(focus ((repeat' (first|exact z62|apply z71))<;>(rfl)));rfl;rfl;rfl;rfl;rfl;(focus ((repeat' (first|exact z23|apply z19))<;>(exact z58 rfl rfl)));(exact .inl rfl);conv=>whnf)
 all_goals (exact z117 [0,1] (by decide) rfl rfl rfl ⟨z43 rfl rfl,z37 rfl (z6 fun _=>rfl),trivial⟩)
theorem z187 (t:Tree):t.sz≤maxLen→t.mx:=by
 induction t using y27 with|h t ih=>?_
 intro h
 rw [y28]
 rw [y36] at h
 refine ⟨by omega,fun u hu=>ih u hu ?_⟩
 have:=z472 Tree.sz hu
 omega
abbrev few (p:Int):Prop:=0≤p∧p≤999999000
abbrev few1 (p:Int):Prop:=0≤p∧p≤999990000
abbrev few2 (p:Int):Prop:=0≤p∧p≤999900000
abbrev few3 (p:Int):Prop:=0≤p∧p≤999000000
def leaf (k v:Int):Tree:=.mk k v []
theorem z112 (k v:Int):(leaf k v).sz=0:=rfl
theorem z359 (k v:Int) (l:List Tree):(Tree.mk k v l).sz=l.length+(l.map Tree.sz).sum:=y36 _
set_option maxHeartbeats 1600000 in
theorem z625 (bs:List Int) (hb:BytesOk bs) (p:Int) (hp:few p):∃ (t:Tree) (p' : Int),(t.sz≤3∧p≤p'∧p'≤p+5)∧QQ 66 [.ptr 0 none 0] [rdO bs p] (z61 Tree.cs' t) [rdO bs p']:=by
 obtain ⟨v0,⟨l0,u0⟩,c0⟩:=z73 bs hb p 3 (by omega) (by omega) (by omega)
 by_cases h0:v0=0
 ·subst h0
  refine ⟨leaf 1 1,p+1,⟨by rw [z112];omega,by omega,by omega⟩,?_⟩
  refine z12 z24 func66 rfl rfl 31 ntmps66 (by simp) ?_
  repeat' ((first|apply y6 ok;rfl|apply z31 [0] [] c0;rfl;rfl;rfl)<;>conv=>whnf)
  all_goals (refine rsD [0] [] rfl ?_;(repeat' first|exact y83 _|exact z63|apply y85|apply z57|constructor))
 ·obtain ⟨v1,m1,c1⟩:=z115 bs hb (p+1) (by omega) (by omega) [0,1,0,2] (by decide) (by decide)
  obtain ⟨v2,⟨l2,u2⟩,c2⟩:=z73 bs hb (p+1+1) 3 (by omega) (by omega) (by omega)
  obtain ⟨v3,m3,c3⟩:=z115 bs hb (p+1+1+1) (by omega) (by omega) [6,7,6] (by decide) (by decide)
  obtain ⟨v4,⟨l4,u4⟩,c4⟩:=z73 bs hb (p+1+1+1+1) 5 (by omega) (by omega) (by omega)
  have z0:v0≠0:=h0
  by_cases h4:v4=0
  ·subst h4
   refine ⟨.mk 3 0 [.mk v3 0 [leaf 2 v1,leaf 1 v2]],p+1+1+1+1+1,⟨by simp [z359,z112],by omega,by omega⟩,?_⟩
   refine z12 z24 func66 rfl rfl 31 ntmps66 (by simp) ?_
   repeat' ((first|apply y6 ok;rfl|apply z27;kernel_rfl|apply z7<;>intro _|(first|apply z15 [0] [] c0;rfl;rfl|apply z15 [0,2] [] c1;rfl;rfl|apply z15 [0] [] c2;rfl;rfl|apply z15 [0,5] [] c3;rfl;rfl|apply z15 [0] [] c4;rfl;rfl);rfl;(focus ((repeat' first|exact z23|apply z19)<;>first|exact z58 rfl rfl|refine z30 ?_;((exact z6 fun _=>rfl)))))<;>conv=>whnf)
   all_goals try (exfalso;omega)
   all_goals (refine rsL [0,8] [6] rfl ?_;refine rsD [0] [1] rfl ?_;(repeat' first|exact y83 _|exact z63|apply y85|(first|apply z55 rfl rfl rfl|apply z93 rfl rfl rfl);(focus ((repeat rfl);done));(focus ((rfl);done))|apply z57|apply z97;rfl|constructor))
  ·refine ⟨.mk v3 0 [leaf 2 v1,leaf 1 v2],p+1+1+1+1+1,⟨by simp [z359,z112],by omega,by omega⟩,?_⟩
   refine z12 z24 func66 rfl rfl 31 ntmps66 (by simp) ?_
   repeat' ((first|apply y6 ok;rfl|apply z27;kernel_rfl|apply z7<;>intro _|(first|apply z15 [0] [] c0;rfl;rfl|apply z15 [0,2] [] c1;rfl;rfl|apply z15 [0] [] c2;rfl;rfl|apply z15 [0,5] [] c3;rfl;rfl|apply z15 [0] [] c4;rfl;rfl);rfl;(focus ((repeat' first|exact z23|apply z19)<;>first|exact z58 rfl rfl|refine z30 ?_;((exact z6 fun _=>rfl)))))<;>conv=>whnf)
   all_goals try (exfalso;omega)
   all_goals (refine rsD [0] [6] rfl ?_;(repeat' first|exact y83 _|exact z63|apply y85|refine z55 rfl rfl rfl rfl rfl ?_|apply z57|apply z97;rfl|constructor))
def drK:Nat→Int
 |0=>4
 |n+1=>4+2 * drK n
def drS:Nat→Nat
 |0=>0
 |n+1=>2+2 * drS n
theorem z1231 (n:Nat):4≤drK n:=by induction n with
 |zero=>decide
 |succ n ih=>rw [drK];omega
set_option maxHeartbeats 1600000 in
theorem z889 (bs:List Int) (hb:BytesOk bs):∀ (n:Nat) (d p:Int),d≤n+1→n≤100→0≤d→0≤p→p+drK n≤1000000000→∃ (t:Tree) (p' : Int),(t.sz≤drS n∧p≤p'∧p'≤p+drK n)∧QQ 216 [.ptr 0 none 0,.int d] [rdO bs p] (z61 Tree.cs' t) [rdO bs p']:=by
 intro n
 induction n with
 |zero =>
  intro d p hd hd1 hd0 hp hq
  rw [drK] at hq ⊢
  obtain ⟨v0,⟨l0,u0⟩,c0⟩:=z73 bs hb p 3 (by omega) (by omega) (by omega)
  by_cases h0:v0=0
  ·subst h0
   obtain ⟨v1,⟨l1,u1⟩,c1⟩:=z73 bs hb (p+1) 4 (by omega) (by omega) (by omega)
   refine ⟨leaf 1 v1,p+1+1,⟨by rw [z112];omega,by omega,by omega⟩,?_⟩
   refine z12 z24 func216 rfl rfl 46 ntmps216 (by simp) ?_
   repeat' ((first|apply y6 ok;rfl|apply z7<;>intro _|(first|apply z31 [0] [] c0;rfl;rfl|apply z31 [0] [] c1;rfl;rfl);rfl)<;>conv=>whnf)
   all_goals try (exfalso;omega)
   all_goals (refine rsD [0] [] rfl ?_;(repeat' first|exact y83 _|exact z63|apply y85|apply z57|constructor))
  ·obtain ⟨v1,m1,c1⟩:=z115 bs hb (p+1) (by omega) (by omega) [0,1,0,2] (by decide) (by decide)
   refine ⟨leaf 2 v1,p+1+1,⟨by rw [z112];omega,by omega,by omega⟩,?_⟩
   refine z12 z24 func216 rfl rfl 46 ntmps216 (by simp) ?_
   repeat' ((first|apply y6 ok;rfl|apply z7<;>intro _|(first|apply z15 [0] [] c0;rfl;rfl|apply z15 [0,2] [] c1;rfl;rfl);rfl;(focus ((repeat' first|exact z23|apply z19)<;>first|exact z58 rfl rfl|refine z30 ?_;((exact z6 fun _=>rfl)))))<;>conv=>whnf)
   all_goals try (exfalso;omega)
   all_goals (refine rsD [0] [] rfl ?_;(repeat' first|exact y83 _|exact z63|apply y85|apply z57|constructor))
 |succ n ih =>
  intro d p hd hd1 hd0 hp hq
  have hK:=z1231 n
  by_cases hlt:d < 2
  ·obtain ⟨t,p',h1,h2⟩:=ih d p (by omega) (by omega) hd0 hp (by rw [drK] at hq;omega)
   exact ⟨t,p',⟨by rw [drS];omega,h1.2.1,by rw [drK];omega⟩,h2⟩
  rw [drK] at hq
  rw [drK,drS]
  obtain ⟨w,⟨lw,uw⟩,cw⟩:=z73 bs hb p 5 (by omega) (by omega) (by omega)
  by_cases hw:w=0
  ·subst hw
   obtain ⟨v0,⟨l0,u0⟩,c0⟩:=z73 bs hb (p+1) 3 (by omega) (by omega) (by omega)
   by_cases h0:v0=0
   ·subst h0
    obtain ⟨v1,⟨l1,u1⟩,c1⟩:=z73 bs hb (p+1+1) 4 (by omega) (by omega) (by omega)
    refine ⟨leaf 1 v1,p+1+1+1,⟨by rw [z112];omega,by omega,by omega⟩,?_⟩
    refine z12 z24 func216 rfl rfl 46 ntmps216 (by simp) ?_
    repeat' ((first|apply y6 ok;rfl|apply z7<;>intro _|(first|apply z31 [0] [] cw;rfl;rfl|apply z31 [0] [] c0;rfl;rfl|apply z31 [0] [] c1;rfl;rfl);rfl)<;>conv=>whnf)
    all_goals try (exfalso;omega)
    all_goals (refine rsD [0] [] rfl ?_;(repeat' first|exact y83 _|exact z63|apply y85|apply z57|constructor))
   ·obtain ⟨v1,m1,c1⟩:=z115 bs hb (p+1+1) (by omega) (by omega) [0,1,0,2] (by decide) (by decide)
    refine ⟨leaf 2 v1,p+1+1+1,⟨by rw [z112];omega,by omega,by omega⟩,?_⟩
    refine z12 z24 func216 rfl rfl 46 ntmps216 (by simp) ?_
    repeat' ((first|apply y6 ok;rfl|apply z7<;>intro _|(first|apply z15 [0] [] cw;rfl;rfl|apply z15 [0] [] c0;rfl;rfl|apply z15 [0,2] [] c1;rfl;rfl);rfl;(focus ((repeat' first|exact z23|apply z19)<;>first|exact z58 rfl rfl|refine z30 ?_;((exact z6 fun _=>rfl)))))<;>conv=>whnf)
    all_goals try (exfalso;omega)
    all_goals (refine rsD [0] [] rfl ?_;(repeat' first|exact y83 _|exact z63|apply y85|apply z57|constructor))
  ·obtain ⟨kd,mk,ck⟩:=z115 bs hb (p+1) (by omega) (by omega) [6,8,7,4,3,5,9] (by decide) (by decide)
   have ca:=z626 kd
   have ham:∃ m:Nat,z361 kd=m∧m≤2:=by
    simp only [List.mem_cons,List.not_mem_nil,or_false] at mk
    unfold z361
    rcases mk with rfl|rfl|rfl|rfl|rfl|rfl|rfl
    all_goals first|exact ⟨2,rfl,by omega⟩|exact ⟨1,rfl,by omega⟩
   obtain ⟨m,em,hm⟩:=ham
   rw [em] at ca
   obtain ⟨ks,pf,hks,hp0,hst,hpf⟩:=z394 (fun k q (t:Tree) q'=>t.sz≤drS n∧QQ 216 [.ptr 0 none 0,.int (d - 1)] [rdO bs q] (z61 Tree.cs' t) [rdO bs q']) (p+1+1) (drK n) m (fun k q hk h1 h2=>by
    have:drK n * k≤drK n:=by
     have:k=0∨k=1:=by omega
     rcases this with rfl|rfl<;>simp<;>omega
    obtain ⟨t,q',⟨a1,a2,a3⟩,a4⟩:=ih (d - 1) q (by omega) (by omega) (by omega) (by omega) (by omega)
    exact ⟨t,q',⟨a1,a4⟩,a2,a3⟩)
   have hpm:=hpf m (y49 _)
   have hKm:drK n * m≤2 * drK n:=by
    have:m=0∨m=1∨m=2:=by omega
    rcases this with rfl|rfl|rfl<;>simp<;>omega
   have hsum:(ks.map Tree.sz).sum≤2 * drS n:=by
    have:∀ (l:List Tree),(∀ t∈l,t.sz≤drS n)→(l.map Tree.sz).sum≤l.length * drS n:=by
     intro l
     induction l with
     |nil=>intro _;simp
     |cons t l ih =>
      intro h
      have h1:=h t (by simp)
      have h2:=ih fun u hu=>h u (by simp [hu])
      simp only [List.map_cons,List.sum_cons,y55,Nat.add_mul]
      omega
    have h1:=this ks fun t ht=>by
     obtain ⟨i,hi,rfl⟩:=List.mem_iff_getElem.1 ht
     exact (hst i hi).1
    have h2:ks.length * drS n≤2 * drS n:=Nat.mul_le_mul_right _ (by omega)
    omega
   refine ⟨.mk kd 0 ks,pf m,⟨by rw [z359];omega,by omega,by omega⟩,?_⟩
   refine z12 z24 func216 rfl rfl 46 ntmps216 (by simp) ?_
   rw [← hp0] at ck
   repeat' ((first|apply y6 ok;rfl|apply z7<;>intro _|apply z8 ca;rfl;rfl|(first|apply z15 [0] [] cw;rfl;rfl|apply z15 [0,2] [] ck;rfl;rfl);rfl;(focus ((repeat' first|exact z23|apply z19)<;>first|exact z58 rfl rfl|refine z30 ?_;((exact z6 fun _=>rfl)))))<;>conv=>whnf)
   all_goals try (exfalso;omega)
   refine y82 (y86 3 rfl) ?_
   refine z69 (fun k:Nat=>([(0,.ptr 0 none 0),(1,.int d),(4,.ptr 1 none 0),(6,.ptr 2 none 0),(7,.int (m - k))],[rdO bs (pf k),.cells 3 [[.int 0,.int 0,.nils]],.cells 3 [[.int kd,.int 0,.sref 3 0 k]],.cells 3 ((ks.take k).map Tree.cs')])) (fun k=>k≤m) (fun k=>m - k) 0 (by omega) (by refine swR [0,1,3,4] [] rfl rfl ?_;(repeat' first|exact y83 _|exact z56|apply y85|refine z11 rfl z39 ?_|constructor)) ?_
   intro k hk
   by_cases hkm:k < m
   ·have hc:=(hst k (by omega)).2
    have hkl:k < ks.length:=by omega
    rw [y16] at hc
    repeat' ((first|apply y6 ok;rfl|apply z27;kernel_rfl|(apply y40;first|unfold inI;omega|(try dsimp only);simp only [y46,y45,y44,y43,y55,y56];omega|exact ⟨rfl,z17 rfl z26⟩)|apply z7<;>intro _|apply z31 [0] [] hc;rfl;rfl;rfl)<;>conv=>whnf)
    all_goals try (exfalso;omega)
    refine z29 (k+1) (by omega) (by omega) (by refine swR [0,1,2,5] [] rfl rfl ?_;(repeat' first|exact y83 _|exact z419|refine z160 ?_;omega|apply y85|(refine z33 rfl ?_ ?_);(focus ((repeat' (first|exact z6 (fun _=>rfl)|apply z25));done))|refine z130 (by omega) (by omega) ?_|apply z97;rfl|constructor))
   ·have:k=m:=by omega
    subst this
    repeat' ((first|apply y6 ok;rfl|apply y40;omega|apply z7<;>intro _)<;>conv=>whnf)
    all_goals try (exfalso;omega)
    all_goals (refine rsD [0] [3] rfl ?_;(repeat' first|exact y83 _|refine z553 ?_;omega|apply y85|(apply z55 rfl rfl rfl);(focus ((repeat ((exact z48 (fun _=>rfl) _)));done));(focus (((simp;omega));done))|apply z57|constructor))
theorem z1189 (bs:List Int) (hb:BytesOk bs) (p:Int) (hp:few p):∃ (t:Tree) (p' : Int),(t.sz≤20∧p≤p'∧p'≤p+100)∧QQ 175 [.ptr 0 none 0] [rdO bs p] (z61 Tree.cs' t) [rdO bs p']:=by
 obtain ⟨d,md,cd⟩:=z115 bs hb p (by omega) (by omega) [3,2,3,4] (by decide) (by decide)
 have hd:0≤d∧d≤4:=by simp at md;omega
 obtain ⟨t,q,⟨t1,t2,t3⟩,ct⟩:=z889 bs hb 3 d (p+1) (by omega) (by omega) (by omega) (by omega) (by simp only [drK];omega)
 simp only [drK] at t3
 simp only [drS] at t1
 have cv:=z196 t (z187 t (by unfold maxLen;omega))
 by_cases hv:t.exprB=true
 ·refine ⟨t,q,⟨by omega,by omega,by omega⟩,?_⟩
  rw [hv] at cv
  rw [y16] at *
  refine z12 z24 func175 rfl rfl 15 ntmps175 (by simp) ?_
  repeat' ((first|apply y6 ok;rfl|apply z8 cv;rfl;rfl|(first|apply z15 [0,2] [] cd;rfl;rfl|apply z15 [0] [] ct;rfl;rfl);rfl;(focus ((repeat' first|exact z23|apply z19)<;>first|exact z58 rfl rfl|refine z30 ?_;((exact z6 fun _=>rfl)))))<;>conv=>whnf)
  all_goals (refine rsD [0] [] rfl ?_;(repeat' first|exact y83 _|apply y85|constructor))
 ·obtain ⟨w,⟨lw,uw⟩,cw⟩:=z73 bs hb q 3 (by omega) (by omega) (by omega)
  refine ⟨leaf 2 w,q+1,⟨by rw [z112];omega,by omega,by omega⟩,?_⟩
  rw [(y69 _).mp hv] at cv
  rw [y16] at cv ct
  refine z12 z24 func175 rfl rfl 15 ntmps175 (by simp) ?_
  repeat' ((first|apply y6 ok;rfl|apply z8 cv;rfl;rfl|(first|apply z15 [0,2] [] cd;rfl;rfl|apply z15 [0] [] ct;rfl;rfl|apply z15 [0] [] cw;rfl;rfl);rfl;(focus ((repeat' first|exact z23|apply z19)<;>first|exact z58 rfl rfl|refine z30 ?_;((exact z6 fun _=>rfl)))))<;>conv=>whnf)
  all_goals (refine rsD [0] [] rfl ?_;(repeat' first|exact y83 _|exact z63|apply y85|apply z57|constructor))
mutual
def subZ (t:Tree):Tree:=match t with
 |.mk k v l=>if k=2∧v=-1 then .mk 0 0 [] else .mk k v (z1094 l)
def z1094 (l:List Tree):List Tree:=match l with
 |[]=>[]
 |t::r=>subZ t::z1094 r
end
theorem z932 (l:List Tree):z1094 l=l.map subZ:=by
 induction l with
 |nil=>simp [z1094]
 |cons t l ih=>simp [z1094,ih]
theorem subZ_sz (t:Tree):(subZ t).sz≤t.sz:=by
 induction t using y27 with|h t ih=>?_
 cases t with
 |mk k v l =>
  rw [subZ]
  split
  ·rw [z359];simp
  ·rw [z932,z359,z359]
   simp only [Tree.kids] at ih
   have key:∀ l:List Tree,(∀ u∈l,(subZ u).sz≤u.sz)→((l.map subZ).map Tree.sz).sum≤(l.map Tree.sz).sum:=by
    intro l
    induction l with
    |nil=>intro _;simp
    |cons t l ihl =>
     intro ih
     have h1:=ih t (by simp)
     have h2:=ihl fun u hu=>ih u (by simp [hu])
     simp only [List.map_cons,List.sum_cons]
     omega
   have:=key l ih
   simp only [y46]
   omega
def z835:AC:=.agg [.int 0,.int 0,.nils]
def ownT (t:Tree):AC:=.agg [.int t.kind,.int t.val,.sref 0 0 t.kids.length]
theorem z994:QQ 122 [z835,.int (-1),z835] [] (ownT (.mk 0 0 [])) [.cells 3 []]:=by
 refine z12 z24 func122 rfl rfl 47 ntmps122 (by simp) ?_
 repeat' (((apply y6 ok;rfl))<;>conv=>whnf)
 refine z111 (fun _:Nat=>([(6,.ptr 0 none 0),(7,.ptr 1 none 0),(8,.int 0),(3,.ptr 2 none 0)],[.cells 3 [[.int 0,.int 0,.nils]],.cells 3 [[.int 0,.int 0,.nils]],.cells 3 [[.int 0,.int 0,.nils]]])) (fun _=>True) (fun _=>0) 0 trivial ⟨[2,3,0],rfl,by decide,rfl,by repeat' (first|exact True.intro|exact ⟨rfl,rfl⟩|apply y40),by repeat' (first|exact True.intro|exact z43 rfl rfl|apply y40)⟩ ?_
 intro k hk
 repeat' (((apply y6 ok;rfl))<;>conv=>whnf)
 all_goals (refine rsL [] [] rfl ?_;refine y87 3 ?_;refine RetS.done ?_ ?_<;>(repeat' first|exact y83 _|exact z56|apply z57|apply y84|constructor))
theorem z678 {f:FuncId} {args:List AC} {t:Tree} (h:QQ f args [] (ownT t) [.cells 3 (t.kids.map Tree.cs')]):QQ f args [] (z61 Tree.cs' t) []:=by
 rw [y16]
 exact (by refine y7 h [] [0] rfl rfl rfl ?_ ?_<;>(repeat' first|exact y83 _|(apply z55 rfl rfl rfl);(focus ((repeat ((exact z48 (fun _=>rfl) _)));done));(focus (((simp;done));done))|apply z57|constructor))
theorem z888 (t:Tree) (h:t.sz≤1000000):QQ 122 [z61 Tree.cs' t,.int (-1),z835] [] (ownT (subZ t)) [.cells 3 ((subZ t).kids.map Tree.cs')]:=by
 induction t using y27 with|h t ih=>?_
 have hkl:t.kids.length≤1000000:=by rw [y36] at h;omega
 have hks:∀ u∈t.kids,u.sz≤1000000:=fun u hu=>by
  have:=z472 Tree.sz hu
  rw [y36] at h;omega
 rw [y16 t]
 obtain ⟨k,v,l⟩:=t
 simp only [Tree.kind,Tree.val,Tree.kids] at *
 rw [subZ]
 by_cases hz:k=2∧v=-1
 ·obtain ⟨rfl,rfl⟩:=hz
  rw [if_pos ⟨rfl,rfl⟩]
  have c:=z994
  unfold z835 ownT at *
  refine z12 z24 func122 rfl rfl 47 ntmps122 (by simp) ?_
  repeat' ((first|apply y6 ok;rfl|apply z15 [] [3] c;rfl;rfl;rfl;(focus ((repeat' first|exact z23|apply z19)<;>(refine z30 ?_;(exact z39)))))<;>conv=>whnf)
  all_goals (refine rsD [3] [] rfl ?_;(repeat' first|exact y83 _|refine z11 rfl z39 ?_|constructor))
 ·rw [if_neg hz,z932]
  have hcs:∀ (i:Nat) (hi:i < l.length) (hi2:i < (l.map subZ).length),QQ 122 [z61 Tree.cs' l[i],.int (-1),z835] [] (z61 Tree.cs' (l.map subZ)[i]) []:=fun i hi hi2=>by
   rw [List.getElem_map]
   exact z678 (ih _ (y41 _) (hks _ (y41 _)))
  have hll:(l.map subZ).length=l.length:=y46 ..
  generalize l.map subZ=L at *
  unfold z835 ownT at *
  simp only [Tree.kind,Tree.val,Tree.kids] at *
  rw [hll]
  refine z12 z24 func122 rfl rfl 47 ntmps122 (by simp) ?_
  by_cases h2:k=2
  all_goals
   repeat' ((first|apply y6 ok;rfl|apply z7<;>intro _)<;>conv=>whnf)
   all_goals try (exfalso;omega)
   refine y82 (y86 3 rfl) ?_
   refine z69 (fun i:Nat=>([(1,.int (-1)),(3,.ptr 0 none 0),(5,.ptr 1 none 0),(6,.ptr 2 none 0),(7,.ptr 3 none 0),(8,.int i)],[.cells 3 [[.int k,.int v,lst 3 Tree.cs' l]],.cells 3 [[.int 0,.int 0,.nils]],.cells 3 [[.int 0,.int 0,.nils]],.cells 3 [[.int k,.int v,.sref 4 0 i]],.cells 3 ((L.take i).map Tree.cs')])) (fun i=>i≤l.length) (fun i=>l.length - i) 0 (by omega) (by refine swR [0,1,2,3,4] [] rfl rfl ?_;(repeat' first|exact y83 _|exact z56|apply y85|refine z11 rfl z39 ?_|constructor)) ?_
   intro i hi
   by_cases hil:i < l.length
   ·have hiL:i < L.length:=by omega
    have hc:=hcs i hil hiL
    repeat' ((first|apply y6 ok;rfl|apply z27;kernel_rfl|(apply y40;first|omega|unfold inI;omega|(try dsimp only);simp only [y46,y45,y44,y43,y55,y56];omega|exact ⟨rfl,z17 rfl z26⟩)|((with_reducible apply z13;omega));intro _|apply z7<;>intro _|apply z8 hc;rfl;rfl)<;>conv=>whnf)
    all_goals try (exfalso;omega)
    refine z29 (i+1) (by omega) (by omega) (by refine swR [0,1,2,3,6] [] rfl rfl ?_;(repeat' first|exact y83 _|apply y85|(refine z33 rfl ?_ ?_);(focus ((repeat' (first|exact z6 (fun _=>rfl)|apply z25));done))|refine z130 (by omega) (by omega) ?_|constructor))
   ·have e:i=l.length:=by omega
    subst e
    rw [y54 (show L.length≤l.length by omega)]
    repeat' ((first|apply y6 ok;rfl|apply y40;omega|((with_reducible apply z13;omega));intro _|apply z7<;>intro _)<;>conv=>whnf)
    all_goals try (exfalso;omega)
    all_goals (refine rsD [4] [] rfl ?_;(repeat' first|exact y83 _|exact z10 _|refine z11 rfl (z6 (fun _=>rfl)) ?_|constructor))
theorem z1112 {w n n2:Nat} {α:Type} {f:α→List AC} {l:List α} {x:α} {e:List AC} (hn:n=l.length) (h2:n2=l.length+1) (h:F2 LocLe e (f x)):LocLe (.list w n2 (((l.map f).take n)++[e])) (.list w (l++[x]).length ((l++[x]).map f)):=by
 subst hn
 refine z97 (by simp [h2]) ?_
 rw [y54 (by simp),y61]
 have:∀ (a:List (List AC)) {b c:List AC},F2 LocLe b c→F2 (F2 LocLe) (a++[b]) (a++[c]):=fun a b c h=>by
  induction a with
  |nil=>exact .cons h .nil
  |cons x a ih=>exact .cons (z326 x) ih
 exact this _ h
theorem z1111 {n n2:Nat} {l:List Tree} {x:Tree} {e:List AC} (hn:n=l.length) (h2:n2=l.length+1) (h:F2 LocLe e (Tree.cs' x)):LocLe (.list 3 n2 (((l.map Tree.cs').take n)++[e])) (.list 3 (l++[x]).length ((l++[x]).map Tree.cs)):=by
 rw [y18];exact z1112 hn h2 h
set_option maxHeartbeats 1600000 in
theorem z551 (bs:List Int) (hb:BytesOk bs) (p:Int) (hp:few p) (t:Tree) (ht:t.sz≤1000):∃ (t' : Tree) (p' : Int),(t'.sz≤t.sz+1∧p≤p'∧p'≤p+2)∧QQ 67 [.ptr 0 none 0,z61 Tree.cs' t] [rdO bs p] (z61 Tree.cs' t') [rdO bs p']:=by
 have cs:=z888 t (by omega)
 have hsz:=subZ_sz t
 generalize subZ t=u at *
 have hul:u.kids.length≤1000:=by rw [y36] at hsz;omega
 obtain ⟨v,⟨lv,uv⟩,cv⟩:=z73 bs hb p 40 (by omega) (by omega) (by omega)
 rw [y16 t]
 rw [y16 t] at cs
 unfold ownT z835 at cs
 by_cases h0:v=0
 ·subst h0
  obtain ⟨k,mk,ck⟩:=z115 bs hb (p+1) (by omega) (by omega) [0,10,-1,1,2,3,4] (by decide) (by decide)
  refine ⟨.mk k u.val u.kids,p+1+1,⟨by rw [z359];rw [y36] at hsz;omega,by omega,by omega⟩,?_⟩
  refine z12 z24 func67 rfl rfl 35 ntmps67 (by simp) ?_
  repeat' ((first|apply y6 ok;rfl|(first|apply z15 [] [3] cs;rfl;rfl|apply z15 [0] [] cv;rfl;rfl|apply z15 [0,5] [] ck;rfl;rfl);rfl;(focus ((repeat' first|exact z23|apply z19)<;>first|exact z58 rfl rfl|refine z30 ?_;((exact z6 fun _=>rfl)))))<;>conv=>whnf)
  all_goals (refine rsD [0] [3] rfl ?_;(repeat' first|exact y83 _|exact z419|apply y85|(apply z55 rfl rfl rfl);(focus ((repeat ((exact z48 (fun _=>rfl) _)));done));(focus (((simp;done));done))|apply z57|apply z97;rfl|constructor))
 by_cases h1:v=1
 ·subst h1
  obtain ⟨k,mk,ck⟩:=z115 bs hb (p+1) (by omega) (by omega) [-1,4,3,9223372036854775807] (by decide) (by decide)
  refine ⟨.mk u.kind k u.kids,p+1+1,⟨by rw [z359];rw [y36] at hsz;omega,by omega,by omega⟩,?_⟩
  refine z12 z24 func67 rfl rfl 35 ntmps67 (by simp) ?_
  repeat' ((first|apply y6 ok;rfl|(first|apply z15 [] [3] cs;rfl;rfl|apply z15 [0] [] cv;rfl;rfl|apply z15 [0,5] [] ck;rfl;rfl);rfl;(focus ((repeat' first|exact z23|apply z19)<;>first|exact z58 rfl rfl|refine z30 ?_;((exact z6 fun _=>rfl)))))<;>conv=>whnf)
  all_goals (refine rsD [0] [3] rfl ?_;(repeat' first|exact y83 _|exact z419|apply y85|(apply z55 rfl rfl rfl);(focus ((repeat ((exact z48 (fun _=>rfl) _)));done));(focus (((simp;done));done))|apply z57|apply z97;rfl|constructor))
 by_cases h2:v=2
 ·subst h2
  refine ⟨.mk u.kind u.val (u.kids++[leaf 1 0]),p+1,⟨by rw [z359];rw [y36] at hsz;simp [z112];omega,by omega,by omega⟩,?_⟩
  refine z12 z24 func67 rfl rfl 35 ntmps67 (by simp) ?_
  repeat' ((first|apply y6 ok;rfl|(apply y40;first|(try dsimp only);simp only [y46,y45,y44,y43,y55,y56];omega|exact ⟨rfl,z17 rfl z26⟩)|(first|apply z15 [] [3] cs;rfl;rfl|apply z15 [0] [] cv;rfl;rfl);rfl;(focus ((repeat' first|exact z23|apply z19)<;>first|exact z58 rfl rfl|refine z30 ?_;((exact z6 fun _=>rfl)))))<;>conv=>whnf)
  all_goals (refine rsD [0] [6] rfl ?_;(repeat' first|exact y83 _|apply y85|(apply z55 rfl rfl rfl);(focus ((repeat (first|exact z48 (fun _=>rfl) _|apply z219|apply z336|rfl));done));(focus (((simp;done));done))|apply z57|constructor))
  all_goals exact z1111 rfl rfl (node_le' z63)
 by_cases h3:v=3
 ·subst h3
  refine ⟨leaf 0 0,p+1,⟨by rw [z112];omega,by omega,by omega⟩,?_⟩
  refine z12 z24 func67 rfl rfl 35 ntmps67 (by simp) ?_
  repeat' ((first|apply y6 ok;rfl|(first|apply z15 [] [3] cs;rfl;rfl|apply z15 [0] [] cv;rfl;rfl);rfl;(focus ((repeat' first|exact z23|apply z19)<;>first|exact z58 rfl rfl|refine z30 ?_;((exact z6 fun _=>rfl)))))<;>conv=>whnf)
  all_goals (refine rsD [0] [] rfl ?_;(repeat' first|exact y83 _|exact z63|apply y85|apply z57|constructor))
 ·refine ⟨.mk u.kind u.val u.kids,p+1,⟨by rw [z359];rw [y36] at hsz;omega,by omega,by omega⟩,?_⟩
  refine z12 z24 func67 rfl rfl 35 ntmps67 (by simp) ?_
  repeat' ((first|apply y6 ok;rfl|apply y40;omega|apply z7<;>intro _|(first|apply z15 [] [3] cs;rfl;rfl|apply z15 [0] [] cv;rfl;rfl);rfl;(focus ((repeat' first|exact z23|apply z19)<;>first|exact z58 rfl rfl|refine z30 ?_;((exact z6 fun _=>rfl)))))<;>conv=>whnf)
  all_goals try (exfalso;omega)
  all_goals (refine rsD [0] [3] rfl ?_;(repeat' first|exact y83 _|exact z419|apply y85|(apply z55 rfl rfl rfl);(focus ((repeat ((exact z48 (fun _=>rfl) _)));done));(focus (((simp;done));done))|apply z57|apply z97;rfl|constructor))
theorem len3 {α:Type} {l:List α} (h:l.length=3):∃ a b c,l=[a,b,c]:=by
 match l,h with
 |[a,b,c],_=>exact ⟨a,b,c,rfl⟩
set_option maxHeartbeats 3200000 in
theorem z781 (bs:List Int) (hb:BytesOk bs) (p:Int) (hp:few1 p):∃ (M:List Tree) (n:Nat) (p' : Int),(n≤M.length∧M.length=3∧(∀ t∈M,t.sz≤5)∧p≤p'∧p'≤p+30)∧QQ 21 [.ptr 0 none 0] [rdO bs p] (.sref 1 0 n) [rdO bs p',.cells 3 (M.map Tree.cs')]:=by
 obtain ⟨M,pf,hM,hp0,hst,hpf⟩:=z394 (fun _ q (t' : Tree) q'=>t'.sz≤3∧∃ t q1,QQ 66 [.ptr 0 none 0] [rdO bs q] (z61 Tree.cs' t) [rdO bs q1]∧((t.kind=1∧∃ w,t'=leaf 2 w∧q'=q1+1∧QQ 58 [.ptr 0 none 0,.int 3] [rdO bs q1] (.int w) [rdO bs (q1+1)])∨(t.kind≠1∧t'=t∧q'=q1))) p 6 3 (fun k q hk h1 h2=>by
  obtain ⟨t,q1,⟨a1,a2,a3⟩,ct⟩:=z625 bs hb q ⟨by omega,by omega⟩
  by_cases ht:t.kind=1
  ·obtain ⟨w,⟨lw,uw⟩,cw⟩:=z73 bs hb q1 3 (by omega) (by omega) (by omega)
   exact ⟨leaf 2 w,q1+1,⟨by rw [z112];omega,t,q1,ct,.inl ⟨ht,w,rfl,rfl,cw⟩⟩,by omega,by omega⟩
  ·exact ⟨t,q1,⟨a1,t,q1,ct,.inr ⟨ht,rfl,rfl⟩⟩,by omega,by omega⟩)
 have hMs:∀ t∈M,t.sz≤3:=fun t ht=>by
  obtain ⟨i,hi,rfl⟩:=List.mem_iff_getElem.1 ht
  exact (hst i hi).1
 have hp3:=hpf 3 (y49 _)
 obtain ⟨v,⟨lv,uv⟩,cv⟩:=z73 bs hb (pf 3) 40 (by omega) (by omega) (by omega)
 have key:∀ (M' : List Tree) (n:Nat) (p' : Int),(v=0→n=2∧M'=M∧p'=pf 3+1)→(v≠0→v≠1→n=3∧M'=M∧p'=pf 3+1)→(v=1→n=3∧∃ a b c u w q1,M=[a,b,c]∧M'=[a,w,c]∧QQ 67 [.ptr 0 none 0,z61 Tree.cs' b] [rdO bs (pf 3+1)] (z61 Tree.cs' u) [rdO bs q1]∧QQ 67 [.ptr 0 none 0,z61 Tree.cs' u] [rdO bs q1] (z61 Tree.cs' w) [rdO bs p'])→QQ 21 [.ptr 0 none 0] [rdO bs p] (.sref 1 0 n) [rdO bs p',.cells 3 (M'.map Tree.cs')]:=by
  intro M' n p' k0 k2 k1
  refine z12 z24 func21 rfl rfl 41 ntmps21 (by simp) ?_
  repeat' (((apply y6 ok;rfl))<;>conv=>whnf)
  rw [← hp0]
  refine z69 (fun i:Nat=>([(0,.ptr 0 none 0),(3,.sref 1 0 i),(4,.int i)],[rdO bs (pf i),.cells 3 ((M.take i).map Tree.cs')])) (fun i=>i≤3) (fun i=>3 - i) 0 (by omega) (by refine swR [0,1] [] rfl rfl ?_;(repeat' first|exact y83 _|apply y85|refine z11 rfl z39 ?_|constructor)) ?_
  intro i hi
  by_cases hil:i < 3
  ·obtain ⟨a1,t,q1,ct,ht⟩:=hst i (by omega)
   have hiM:i < M.length:=by omega
   rw [y16 t] at ct
   rcases ht with ⟨h1,w,h2,h3,cw⟩|⟨h1,h2,h3⟩
   ·repeat' ((first|apply y6 ok;rfl|(apply y40;first|omega|unfold inI;omega|(try dsimp only);simp only [y46,y45,y44,y43,y55,y56];omega|exact ⟨rfl,z17 rfl z26⟩)|apply z7<;>intro _|(first|apply z31 [0] [] ct;rfl;rfl|apply z31 [0] [] cw;rfl;rfl);rfl)<;>conv=>whnf)
    all_goals try (exfalso;omega)
    have e1:M[i].kind=2:=by rw [h2];rfl
    have e2:M[i].val=w:=by rw [h2];rfl
    have e3:M[i].kids=[]:=by rw [h2];rfl
    all_goals refine z29 (i+1) (by omega) (by omega) (by refine swR [0,4] [] rfl rfl ?_;(repeat' first|exact y83 _|refine nils_of ?_;assumption|refine z160 ?_;omega|apply y85|(refine z33 rfl ?_ ?_);(focus ((repeat' (first|exact z6 (fun _=>rfl)|apply z25));done))|refine z130 (by omega) (by omega) ?_|constructor))
   ·subst h2
    repeat' ((first|apply y6 ok;rfl|(apply y40;first|unfold inI;omega|(try dsimp only);simp only [y46,y45,y44,y43,y55,y56];omega|exact ⟨rfl,z17 rfl z26⟩)|apply z7<;>intro _|apply z31 [0] [] ct;rfl;rfl;rfl)<;>conv=>whnf)
    all_goals try (exfalso;omega)
    all_goals refine z29 (i+1) (by omega) (by omega) (by refine swR [0,4] [] rfl rfl ?_;(repeat' first|exact y83 _|exact z419|refine z160 ?_;omega|apply y85|(refine z33 rfl ?_ ?_);(focus ((repeat' (first|exact z6 (fun _=>rfl)|apply z25));done))|refine z130 (by omega) (by omega) ?_|apply z97;rfl|constructor))
  ·have:i=3:=by omega
   subst this
   obtain ⟨a,b,c,rfl⟩:=len3 hM
   by_cases h0:v=0
   ·obtain ⟨rfl,rfl,rfl⟩:=k0 h0
    subst h0
    repeat' ((first|apply y6 ok;rfl|apply y40;omega|apply z31 [0] [] cv;rfl;rfl;rfl)<;>conv=>whnf)
    all_goals (refine rsD [0,1] [] rfl ?_;(repeat' first|exact y83 _|apply y85|refine z11 rfl (z6 (fun _=>rfl)) ?_|constructor))
   by_cases h1:v=1
   ·obtain ⟨rfl,a',b',c',u,w,q1,e,rfl,c1,c2⟩:=k1 h1
    simp only [List.cons.injEq,and_true] at e
    obtain ⟨rfl,rfl,rfl⟩:=e
    subst h1
    rw [y16 u] at c1 c2
    rw [y16 w] at c2
    repeat' ((first|apply y6 ok;rfl|apply y40;omega|apply z107|(first|apply z31 [0] [] cv;rfl;rfl|apply z31 [0] [] c1;rfl;rfl|apply z31 [0] [] c2;rfl;rfl);rfl)<;>conv=>whnf)
    all_goals (refine rsD [0,1] [] rfl ?_;(repeat' first|exact y83 _|exact z419|apply y85|refine z50 rfl (z6 (fun _=>rfl)) ?_|apply z97;rfl|constructor))
   ·obtain ⟨rfl,rfl,rfl⟩:=k2 h0 h1
    repeat' ((first|apply y6 ok;rfl|apply y40;omega|((apply z13;omega));intro _|apply z7<;>intro _|apply z31 [0] [] cv;rfl;rfl;rfl)<;>conv=>whnf)
    all_goals try (exfalso;omega)
    all_goals (refine rsD [0,1] [] rfl ?_;(repeat' first|exact y83 _|apply y85|refine z11 rfl (z6 (fun _=>rfl)) ?_|constructor))
 by_cases h1:v=1
 ·obtain ⟨a,b,c,rfl⟩:=len3 hM
  have hb1:=hMs b (by simp)
  obtain ⟨u,q1,⟨b1,b2,b3⟩,c1⟩:=z551 bs hb (pf 3+1) ⟨by omega,by omega⟩ b (by omega)
  obtain ⟨w,q2,⟨d1,d2,d3⟩,c2⟩:=z551 bs hb q1 ⟨by omega,by omega⟩ u (by omega)
  refine ⟨[a,w,c],3,q2,⟨by simp,by simp,fun t ht=>?_,by omega,by omega⟩,key _ _ _ (fun h=>by omega) (fun _ h=>absurd h1 h) fun _=>⟨rfl,a,b,c,u,w,q1,rfl,rfl,c1,c2⟩⟩
  have ha:=hMs a (by simp)
  have hc:=hMs c (by simp)
  simp only [List.mem_cons,List.not_mem_nil,or_false] at ht
  rcases ht with rfl|rfl|rfl<;>omega
 ·by_cases h0:v=0
  ·exact ⟨M,2,pf 3+1,⟨by omega,hM,fun t ht=>by have:=hMs t ht;omega,by omega,by omega⟩,key _ _ _ (fun _=>⟨rfl,rfl,rfl⟩) (fun h=>absurd h0 h) fun h=>absurd h h1⟩
  ·exact ⟨M,3,pf 3+1,⟨by omega,hM,fun t ht=>by have:=hMs t ht;omega,by omega,by omega⟩,key _ _ _ (fun h=>absurd h h0) (fun _ _=>⟨rfl,rfl,rfl⟩) fun h=>absurd h h1⟩
theorem z880 (bs:List Int) (hb:BytesOk bs) (p:Int) (hp:few1 p):∃ (L:List Tree) (p' : Int),(L.length≤3∧(∀ t∈L,t.sz≤5)∧p≤p'∧p'≤p+30)∧QQ 21 [.ptr 0 none 0] [rdO bs p] (lst 3 Tree.cs' L) [rdO bs p']:=by
 obtain ⟨M,n,p',⟨h1,h2,h3,h4,h5⟩,c⟩:=z781 bs hb p hp
 refine ⟨M.take n,p',⟨by simp;omega,fun t ht=>h3 t (List.mem_of_mem_take ht),h4,h5⟩,?_⟩
 obtain ⟨a,b,d,rfl⟩:=len3 h2
 have hn:n=0∨n=1∨n=2∨n=3:=by simp at h1;omega
 rcases hn with rfl|rfl|rfl|rfl
 all_goals exact (by refine y7 c [0] [1] rfl rfl rfl ?_ ?_<;>(repeat' first|exact y83 _|apply y85|constructor))
theorem Lmx_of {L:List Tree} (h1:L.length≤10) (h2:∀ t∈L,t.sz≤1000):Lmx L:=⟨by unfold maxLen;omega,fun t ht=>z187 t (by have:=h2 t ht;unfold maxLen;omega)⟩
def z270 (n:Nat):List Int:=(List.range n).map Int.ofNat
theorem z352 (n:Nat):(z270 n).length=n:=by simp [z270]
theorem z808 {n i:Nat} (h:i < (z270 n).length):(z270 n)[i]=i:=by simp [z270]
theorem z1032 (n:Nat) (hn:n≤1000000):QQ 65 [.int n] [] (ints (z270 n)) []:=by
 refine z12 z24 func65 rfl rfl 16 ntmps65 (by simp) ?_
 repeat' (((apply y6 ok;rfl))<;>conv=>whnf)
 refine z69 (fun i:Nat=>([(0,.int n),(3,.sref 0 0 i),(4,.int i)],[.cells 1 (((z270 n).take i).map enI)])) (fun i=>i≤n) (fun i=>n - i) 0 (by omega) (by refine swR [0] [] rfl rfl ?_;(repeat' first|exact y83 _|refine z11 rfl z39 ?_|constructor)) ?_
 intro i hi
 by_cases hin:i < n
 ·have hl:i < (z270 n).length:=by rw [z352];exact hin
  have e:=z808 hl
  repeat' ((first|apply y6 ok;rfl|(apply y40;first|unfold inI;omega|(try dsimp only);simp only [y46,y45,y44,y43,y55,y56];omega|exact ⟨rfl,z17 rfl z26⟩)|apply z7<;>intro _)<;>conv=>whnf)
  all_goals try (exfalso;omega)
  all_goals refine z29 (i+1) (by omega) (by omega) (by refine swR [2] [] rfl rfl ?_;(repeat' first|exact y83 _|refine z160 ?_;omega|(refine z33 rfl ?_ ?_);(focus ((repeat' (first|exact z6 (fun _=>rfl)|apply z25));done))|refine z130 (by omega) (by omega) ?_|constructor))
 ·have e:i=n:=by omega
  subst e
  have hl:=z352 i
  rw [y54 (by omega)]
  generalize z270 i=L at *
  repeat' ((first|apply y6 ok;rfl|apply y40;omega|apply z7<;>intro _)<;>conv=>whnf)
  all_goals try (exfalso;omega)
  all_goals (refine rsD [] [0] rfl ?_;(repeat' first|refine z367 ?_;omega|(apply z55 rfl rfl rfl);(focus ((repeat ((exact z48 (fun _=>rfl) _)));done));(focus (((simp;omega));done))|constructor))
structure State.sm (s:State):Prop where
 a:s.a.length≤100
 b:s.b.length≤100
structure Graph.sm (g:Graph):Prop where
 st:g.st.length≤100
 nx:g.nx.length≤100
 el:∀ s∈g.st,s.sm
 row:∀ r∈g.nx,r.length≤1000
theorem Graph.sm.mx {g:Graph} (h:g.sm):g.mx:=by
 have h1:=h.st
 have h2:=h.nx
 refine ⟨?_,by unfold maxLen;omega,fun l hl=>by have:=h.row l hl;unfold maxLen;omega⟩
 have h3:=h.el
 exact ⟨by unfold maxLen;omega,fun s hs=>⟨by have:=(h3 s hs).a;unfold maxLen;omega,by have:=(h3 s hs).b;unfold maxLen;omega⟩⟩
theorem z786 (g : Graph) (hg : g.sm) (path : List Int) (hp : path.length ≤ 100000) (hin : ∀ x ∈ path, 0 ≤ x ∧ x < g.st.length) (S : List State) (hS : S.length = path.length) (he : ∀ i (h : i < path.length) (h2 : i < S.length), g.st[(path[i]).toNat]? = some S[i]) :
    QQ 114 [.agg g.cs,ints path] [] (.sref 0 0 S.length) [.cells 2 (S.map State.cs)]:=by
  refine z12 z24 func114 rfl rfl 36 ntmps114 (by simp) ?_
  repeat' (((apply y6 ok;rfl))<;>conv=>whnf)
  refine z69 (fun i:Nat=>([(1,ints path),(2,.ptr 0 none 0),(5,.sref 1 0 i),(6,.int i)],[.cells 2 [g.cs],.cells 2 ((S.take i).map State.cs)])) (fun i=>i≤path.length) (fun i=>path.length - i) 0 (by omega) (by refine swR [0,1] [] rfl rfl ?_;(repeat' first|exact y83 _|apply y85|refine z11 rfl z39 ?_|constructor)) ?_
  intro i hi
  by_cases hip:i < path.length
  · have hl:i < S.length:=by omega
    have hx:=hin path[i] (y41 _)
    have g0:(path.map enI)[i]?=some (enI path[i]):=by rw [y48,y42 hip];rfl
    have g1:=he i hip hl
    have g2:(g.st.map State.cs)[(path[i]).toNat]?=some (State.cs S[i]):=by rw [y48,g1];rfl
    have hs:=hg.el S[i] (List.mem_of_getElem? g1)
    have ha:=hs.a
    have hb:=hs.b
    generalize path[i]=x at *
    repeat' ((first|apply y6 ok;rfl|apply z27;kernel_rfl|refine z14 (i:=i) rfl g0 ?_|refine z14 (i:=x.toNat) rfl g2 ?_|(apply y40;first|omega|unfold inI;omega|dsimp only;omega|(try dsimp only);simp only [y46,y45,y44,y43,y55,y56];omega|exact z49 (fun _=>rfl)|exact ⟨rfl,z17 rfl z26⟩)|apply z7<;>intro _)<;>conv=>whnf)
    all_goals try (exfalso;omega)
    all_goals refine z29 (i+1) (by omega) (by omega) (by refine swR [0,8] [4,6] rfl rfl ?_;(repeat' first|exact y83 _|refine z367 ?_;omega|apply y85|(refine z33 rfl ?_ ?_);(focus ((repeat' (first|exact z6 (fun _=>rfl)|apply z25));done))|refine z130 (by omega) (by omega) ?_|(apply z93 rfl rfl rfl);(focus ((repeat ((exact z48 (fun _=>rfl) _)));done));(focus (((simp;done));done))|constructor))
  · have e:i=S.length:=by omega
    subst e
    rw [y54 (by omega)]
    repeat' ((first|apply y6 ok;rfl|apply z27;kernel_rfl|apply y40;omega|(first|with_reducible apply z13;omega|with_reducible apply z79;omega);intro _|apply z7<;>intro _)<;>conv=>whnf)
    all_goals try (exfalso;omega)
    all_goals (refine rsD [1] [] rfl ?_;(repeat' first|exact y83 _|exact z10 _|refine z11 rfl (z6 (fun _=>rfl)) ?_|constructor))
theorem z1235 {n:Nat} {x:Int} (h:x∈z270 n):0≤x∧x < n:=by
 unfold z270 at h
 obtain ⟨i,hi,rfl⟩:=List.mem_map.1 h
 have:=List.mem_range.1 hi
 show (0:Int)≤(i:Int)∧(i:Int) < n
 omega
theorem snoc_at {α:Type} (a:List α) (x:α) (k:Nat) (h:a.length=k):(a++[x])[k]?=some x:=by subst h;simp
set_option maxHeartbeats 1600000 in
theorem z1033 (g:Graph) (hg:g.sm):QQ 59 [.agg g.cs] [] (.agg [.sref 0 0 g.st.length,.sref 1 0 g.nx.length]) [.cells 2 (g.st.map State.cs),.cells 1 (g.nx.map z114)]:=by
 have hst:=hg.st
 have hnx:=hg.nx
 have c1:=z1032 g.st.length (by omega)
 have c2:=z786 g hg (z270 g.st.length) (by rw [z352];omega) (fun x hx=>z1235 hx) g.st (by rw [z352]) (fun i h h2=>by rw [z808 h];simp)
 generalize z270 g.st.length=C at *
 refine z12 z24 func59 rfl rfl 32 ntmps59 (by simp) ?_
 repeat' ((first|apply y6 ok;rfl|apply z27;kernel_rfl|apply z8 c1;rfl;rfl|apply z15 [] [2] c2;rfl;rfl;rfl;(focus ((repeat' first|exact z23|apply z19)<;>(refine z30 ?_;((exact z6 fun _=>rfl))))))<;>conv=>whnf)
 refine y82 (y86 1 rfl) ?_
 refine z69 (fun i:Nat=>([(1,.ptr 0 none 0),(2,.ptr 1 none 0),(3,.ptr 3 none 0),(4,.int i)],[.cells 2 [g.cs],.cells 2 [[.nils,.nils]],.cells 2 (g.st.map State.cs),.cells 2 [[.sref 2 0 g.st.length,.sref 4 0 i]],.cells 1 ((g.nx.take i).map z114)])) (fun i=>i≤g.nx.length) (fun i=>g.nx.length - i) 0 (by omega) (by refine swR [0,1,2,3,4] [] rfl rfl ?_;(repeat' first|exact y83 _|exact z56|exact z10 _|apply y85|(refine z11 rfl ?_ ?_);(focus ((repeat' (first|exact z39|exact z6 (fun _=>rfl)));done))|constructor)) ?_
 intro i hi
 by_cases hin:i < g.nx.length
 ·have hr:=hg.row g.nx[i] (y41 _)
  have g0:(g.nx.map encL)[i]?=some (encL g.nx[i]):=by rw [y48,y42 hin];rfl
  have htl:((g.nx.take i).map z114).length=i:=by simp;omega
  have hrow:z114 g.nx[i]=[.own 1 (g.nx[i].map enI)]:=rfl
  have htk:(g.nx.take (i+1)).map z114=(g.nx.take i).map z114++[z114 g.nx[i]]:=by rw [y47 hin,y61];rfl
  generalize hrw:g.nx[i]=row at *
  repeat' ((first|apply y6 ok;rfl|apply z27;kernel_rfl|refine z14 (i:=i) rfl g0 ?_|(apply y40;first|omega|unfold inI;omega|dsimp only;omega|exact z49 (fun _=>rfl)|exact ⟨rfl,z17 rfl z26⟩)|apply z7<;>intro _)<;>conv=>whnf)
  all_goals try (exfalso;omega)
  all_goals refine z29 (i+1) (by omega) (by omega) (by
   refine Gl.Reach.trans (Gl.Reach.absorb (e:=[.sref 6 0 (0+row.length)]) 8 6 i 0 rfl (snoc_at _ _ i (by simp;omega)) rfl rfl (by simp) rfl (z90 z39 (z6 fun _=>rfl)) rfl) ?_
   exact (by refine swR [0,1,2,3,8] [] rfl rfl ?_;(repeat' first|exact y83 _|exact z10 _|apply y85|(first|refine z50 rfl ?_ ?_|refine z11 rfl ?_ ?_);(focus ((repeat' (first|exact z6 (fun _=>rfl)|apply z90|apply z25));done))|refine z11 rfl ?_ ?_;(focus (refine z417 ?_ ?_ rfl<;>first|simp;omega|(apply z25;exact z6 fun _=>rfl)))|refine z524 ?_ ?_;(focus (simp;omega))|refine z130 (by omega) (by omega) ?_|constructor)<;>(rw [hrw];exact y83 _)))
 ·have e:i=g.nx.length:=by omega
  subst e
  rw [y53]
  repeat' ((first|apply y6 ok;rfl|apply z27;kernel_rfl|apply y40;omega|((with_reducible apply z13;omega));intro _|apply z7<;>intro _)<;>conv=>whnf)
  all_goals try (exfalso;omega)
  all_goals (refine rsD [2,4] [] rfl ?_;(repeat' first|exact y83 _|exact z10 _|refine z11 rfl (z6 (fun _=>rfl)) ?_|constructor))
set_option maxHeartbeats 3200000 in
theorem z886 (bs:List Int) (hb:BytesOk bs) (p:Int) (hp:few p) (g:Graph) (hg:g.sm) (h1:1≤g.st.length) (h2:g.nx.length=g.st.length):∃ (g' : Graph) (p' : Int),(g'.st.length≤100∧g'.nx.length≤101∧(∀ s∈g'.st,s.sm)∧(∀ r∈g'.nx,r.length≤1001)∧p≤p'∧p'≤p+3)∧QQ 18 [.ptr 0 none 0,.agg g.cs] [rdO bs p] (.agg g'.cs) [rdO bs p']:=by
 have hst:=hg.st
 have hnx:=hg.nx
 have cc:=z1033 g hg
 obtain ⟨k,⟨k0,k1⟩,ck⟩:=z73 bs hb p g.st.length (by omega) (by omega) (by omega)
 obtain ⟨v,⟨v0,v1⟩,cv⟩:=z73 bs hb (p+1) 50 (by omega) (by omega) (by omega)
 have hks:k.toNat < g.st.length:=by omega
 have hkn:k.toNat < g.nx.length:=by omega
 have hrows:∀ r∈g.nx,r.length≤1001:=fun r hr=>by have:=hg.row r hr;omega
 by_cases e0:v=0
 ·subst e0
  refine ⟨⟨g.st,g.nx++[[0]]⟩,p+1+1,⟨hst,by simp;omega,hg.el,fun r hr=>?_,by omega,by omega⟩,?_⟩
  ·simp only [y51,y52] at hr
   rcases hr with hr|rfl
   ·exact hrows r hr
   ·simp
  refine z12 z24 func18 rfl rfl 62 ntmps18 (by simp) ?_
  repeat' ((first|apply y6 ok;rfl|(apply y40;first|(try dsimp only);simp only [y46,y45,y44,y43,y55,y56];omega|exact ⟨rfl,z17 rfl z26⟩)|(first|apply z15 [] [3,4] cc;rfl;rfl|apply z15 [0] [] ck;rfl;rfl|apply z15 [0] [] cv;rfl;rfl);rfl;(focus ((repeat' first|exact z23|apply z19)<;>first|exact z58 rfl rfl|refine z30 ?_;((exact z6 fun _=>rfl)))))<;>conv=>whnf)
  all_goals (refine RetS.mid [0,3,8] [6] [rdO bs (p+1+1),.cells 2 (g.st.map State.cs),.cells 1 (g.nx.map z114++[encL [0]])] (.agg [.sref 1 0 g.st.length,.sref 2 0 (g.nx.length+1)]) rfl rfl rfl ?_ ?_ ?_;(focus (repeat' (exact y83 _)));(focus (repeat' first|exact y83 _|exact z10 _|apply y85|(first|refine z33 rfl ?_ ?_|refine z11 rfl ?_ ?_);(focus ((repeat' (first|exact z6 (fun _=>rfl)|apply z25));done))|refine app2_le ?_ ?_;(focus (simp;done))|constructor)))
  all_goals (refine rsD [0] [1,2] rfl ?_;(repeat' first|exact y83 _|apply y85|refine app3_le ?_|(apply z55 rfl rfl rfl);(focus ((repeat (first|exact z48 (fun _=>rfl) _|exact z158 _|apply z219|rfl));done));(focus (((simp;done));done))|apply z57|refine z97 ?_ ?_;(focus (simp;done))|constructor))
 by_cases e1:v=1
 ·subst e1
  obtain ⟨x,mx,cx⟩:=z115 bs hb (p+1+1) (by omega) (by omega) [0,-1,60,9223372036854775807] (by decide) (by decide)
  refine ⟨⟨g.st,g.nx.set k.toNat (g.nx[k.toNat]++[x])⟩,p+1+1+1,⟨hst,by simp;omega,hg.el,fun r hr=>?_,by omega,by omega⟩,?_⟩
  ·rcases List.mem_or_eq_of_mem_set hr with h|rfl
   ·exact hrows r h
   ·have:=hg.row g.nx[k.toNat] (y41 _)
    simp;omega
  have hr:=hg.row g.nx[k.toNat] (y41 _)
  have g0:(g.nx.map z114)[k.toNat]?=some (z114 g.nx[k.toNat]):=by rw [y48,y42 hkn];rfl
  generalize g.nx[k.toNat]=row at *
  refine z12 z24 func18 rfl rfl 62 ntmps18 (by simp) ?_
  repeat' ((first|(fail_if_success apply z122 7);(fail_if_success apply z96 7);apply y6 ok;rfl|(first|apply z15 [] [3,4] cc;rfl;rfl|apply z15 [0] [] ck;rfl;rfl|apply z15 [0] [] cv;rfl;rfl);rfl;(focus ((repeat' first|exact z23|apply z19)<;>first|exact z58 rfl rfl|refine z30 ?_;((exact z6 fun _=>rfl)))))<;>conv=>whnf)
  refine y82 (Gl.Reach.exposeD (e:=z114 row) 4 k.toNat 0 rfl g0 rfl rfl) ?_
  conv=>whnf
  repeat' ((first|apply y6 ok;rfl|apply z27;kernel_rfl|refine z289 rfl (by simp;omega) ?_|(apply y40;first|omega|(try dsimp only);simp only [y46,y45,y44,y43,y55,y56];omega|exact ⟨rfl,z17 rfl z26⟩)|apply z15 [0,7] [] cx;rfl;rfl;rfl;(focus ((repeat' first|exact z23|apply z19)<;>first|exact z58 rfl rfl|refine z30 ?_;((exact z6 fun _=>rfl)))))<;>conv=>whnf)
  all_goals (refine RetS.mid [0,3,4] [9] [rdO bs (p+1+1+1),.cells 2 (g.st.map State.cs),.cells 1 ((g.nx.map z114).set k.toNat (encL (row++[x])))] (.agg [.sref 1 0 g.st.length,.sref 2 0 g.nx.length]) rfl rfl rfl ?_ ?_ ?_;(focus (repeat' (exact y83 _)));(focus (repeat' first|exact y83 _|exact z10 _|apply y85|(first|refine z761 rfl rfl ?_ ?_|refine z11 rfl ?_ ?_);(focus ((repeat' ((exact z6 (fun _=>rfl))));done))|refine set2_le (by omega) ?_|refine z77 ?_ ?_;(focus ((simp;done)))|(apply z93 rfl rfl rfl);(focus ((repeat (first|exact z48 (fun _=>rfl) _|apply z219|apply z336|rfl));done));(focus (((simp;done));done))|refine z97 ?_ ?_;(focus (simp;done))|constructor)))
  all_goals (refine rsD [0] [1,2] rfl ?_;(repeat' first|exact y83 _|apply y85|refine z468 (by omega) ?_|(apply z55 rfl rfl rfl);(focus ((repeat (first|exact z48 (fun _=>rfl) _|exact z158 _|apply z924));done));(focus (((simp;done));done))|apply z57|refine z97 ?_ ?_;(focus (simp;done))|constructor))
 have gs:(g.st.map State.cs)[k.toNat]?=some (State.cs g.st[k.toNat]):=by rw [y48,y42 hks];rfl
 have hsm:=hg.el g.st[k.toNat] (y41 _)
 by_cases e2:v=2
 ·subst e2
  refine ⟨⟨g.st,g.nx.set k.toNat []⟩,p+1+1,⟨hst,by simp;omega,hg.el,fun r hr=>?_,by omega,by omega⟩,?_⟩
  ·rcases List.mem_or_eq_of_mem_set hr with h|rfl
   ·exact hrows r h
   ·simp
  refine z12 z24 func18 rfl rfl 62 ntmps18 (by simp) ?_
  repeat' ((first|apply y6 ok;rfl|apply y40;omega|((apply z13;omega));intro _|(first|apply z15 [] [3,4] cc;rfl;rfl|apply z15 [0] [] ck;rfl;rfl|apply z15 [0] [] cv;rfl;rfl);rfl;(focus ((repeat' first|exact z23|apply z19)<;>first|exact z58 rfl rfl|refine z30 ?_;((exact z6 fun _=>rfl)))))<;>conv=>whnf)
  all_goals (refine RetS.mid [0,3,4] [6] [rdO bs (p+1+1),.cells 2 (g.st.map State.cs),.cells 1 ((g.nx.map z114).set k.toNat (encL []))] (.agg [.sref 1 0 g.st.length,.sref 2 0 g.nx.length]) rfl rfl rfl ?_ ?_ ?_;(focus (repeat' (exact y83 _)));(focus (repeat' first|exact y83 _|exact z10 _|apply y85|refine z50 rfl (z6 (fun _=>rfl)) ?_|refine z11 rfl (z6 (fun _=>rfl)) ?_|constructor)))
  all_goals (refine rsD [0] [1,2] rfl ?_;(repeat' first|exact y83 _|apply y85|refine z468 (by omega) ?_|(apply z55 rfl rfl rfl);(focus ((repeat (first|exact z48 (fun _=>rfl) _|exact z158 _|apply z924));done));(focus (((simp;done));done))|apply z57|refine z97 ?_ ?_;(focus (simp;done))|constructor))
 by_cases e3:v=3
 ·subst e3
  obtain ⟨x,mx,cx⟩:=z115 bs hb (p+1+1) (by omega) (by omega) [4,-1,0] (by decide) (by decide)
  refine ⟨⟨g.st.set k.toNat ⟨g.st[k.toNat].a,[0,0,x]⟩,g.nx⟩,p+1+1+1,⟨by simp;omega,by show g.nx.length≤101;omega,fun s hs=>?_,hrows,by omega,by omega⟩,?_⟩
  ·rcases List.mem_or_eq_of_mem_set hs with h|rfl
   ·exact hg.el s h
   ·exact ⟨hsm.a,by simp⟩
  generalize g.st[k.toNat]=s0 at *
  refine z12 z24 func18 rfl rfl 62 ntmps18 (by simp) ?_
  repeat' ((first|apply y6 ok;rfl|apply z27;kernel_rfl|refine z14 (i:=k.toNat) rfl gs ?_|apply y40;omega|(first|apply z15 [] [3,4] cc;rfl;rfl|apply z15 [0] [] ck;rfl;rfl|apply z15 [0] [] cv;rfl;rfl|apply z15 [0,6] [] cx;rfl;rfl);rfl;(focus ((repeat' first|exact z23|apply z19)<;>first|exact z58 rfl rfl|refine z30 ?_;((exact z6 fun _=>rfl)))))<;>conv=>whnf)
  all_goals (refine RetS.mid [0,3,4] [7] [rdO bs (p+1+1+1),.cells 2 ((g.st.set k.toNat ⟨s0.a,[0,0,x]⟩).map State.cs),.cells 1 (g.nx.map z114)] (.agg [.sref 1 0 g.st.length,.sref 2 0 g.nx.length]) rfl rfl rfl ?_ ?_ ?_;(focus (repeat' (exact y83 _)));(focus (repeat' first|exact y83 _|exact z10 _|apply y85|refine z50 rfl (z6 (fun _=>rfl)) ?_|refine z11 rfl (z6 (fun _=>rfl)) ?_|refine z468 (by omega) ?_|constructor)))
  all_goals (refine rsD [0] [1,2] rfl ?_;(repeat' first|exact y83 _|exact z10 _|apply y85|(apply z55 rfl rfl rfl);(focus ((repeat (first|exact z48 (fun _=>rfl) _|exact z158 _));done));(focus (((simp;done));done))|apply z57|refine z97 ?_ ?_;(focus (simp;done))|constructor))
 by_cases e4:v=4
 ·subst e4
  refine ⟨⟨[],[]⟩,p+1+1,⟨by simp,by simp,by simp,by simp,by omega,by omega⟩,?_⟩
  refine z12 z24 func18 rfl rfl 62 ntmps18 (by simp) ?_
  repeat' ((first|apply y6 ok;rfl|(first|apply z15 [] [3,4] cc;rfl;rfl|apply z15 [0] [] ck;rfl;rfl|apply z15 [0] [] cv;rfl;rfl);rfl;(focus ((repeat' first|exact z23|apply z19)<;>first|exact z58 rfl rfl|refine z30 ?_;((exact z6 fun _=>rfl)))))<;>conv=>whnf)
  all_goals (refine rsD [0] [] rfl ?_;(repeat' first|exact y83 _|exact z63|apply y85|apply z57|constructor))
 ·refine ⟨g,p+1+1,⟨hst,by omega,hg.el,hrows,by omega,by omega⟩,?_⟩
  refine z12 z24 func18 rfl rfl 62 ntmps18 (by simp) ?_
  repeat' ((first|apply y6 ok;rfl|apply y40;omega|((apply z13;omega));intro _|apply z7<;>intro _|(first|apply z15 [] [3,4] cc;rfl;rfl|apply z15 [0] [] ck;rfl;rfl|apply z15 [0] [] cv;rfl;rfl);rfl;(focus ((repeat' first|exact z23|apply z19)<;>first|exact z58 rfl rfl|refine z30 ?_;((exact z6 fun _=>rfl)))))<;>conv=>whnf)
  all_goals try (exfalso;omega)
  all_goals (refine rsD [0] [3,4] rfl ?_;(repeat' first|exact y83 _|apply y85|(apply z55 rfl rfl rfl);(focus ((repeat (first|exact z48 (fun _=>rfl) _|exact z158 _));done));(focus (((simp;done));done))|apply z57|constructor))
end Go.Proofs.YteinbnahinpegaaGreat
