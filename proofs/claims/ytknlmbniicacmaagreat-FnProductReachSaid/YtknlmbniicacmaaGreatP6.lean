/- A part of the proofs over this program: T25, T26, T27, T37, T38, T40, T41, T42, T153. -/
import Derived.Test.YtknlmbniicacmaaGreatG0
import Derived.Test.YtknlmbniicacmaaGreatG1
import Derived.Test.YtknlmbniicacmaaGreatG2
import Derived.Test.YtknlmbniicacmaaGreatG3
import Derived.Test.YtknlmbniicacmaaGreatP0
import Derived.Test.YtknlmbniicacmaaGreatP1
import Derived.Test.YtknlmbniicacmaaGreatP2
import Derived.Test.YtknlmbniicacmaaGreatP3
import Derived.Test.YtknlmbniicacmaaGreatP4
import Derived.Test.YtknlmbniicacmaaGreatP5
set_option linter.all false
namespace Go.Proofs.YtknlmbniicacmaaGreat
open Go.Gl
attribute [local irreducible] z31 AWP z48 z52 z50
def z68 (a:Aut):List (List Trans):=z103 a.acc.length (a.ed.map fun e=>(e.src.toNat,e))
def encT (r:List Trans):List AC:=[.list 4 r.length (r.map Trans.cs)]
theorem ltr_lt (v:List Int):∀ (l:List Tree) (k n:Nat),n < 2 ^ k→ltr v l k n < 2 ^ (k+l.length):=by
  intro l
  induction l with
  | nil=>intro k n h;simpa [ltr] using h
  | cons t l ih =>
    intro k n h
    rw [ltr]
    have e:k+(t::l).length=k+1+l.length:=by simp only [List.length_cons];omega
    rw [e]
    refine ih (k+1) _ ?_
    split
    · rw [Nat.pow_succ];omega
    · exact or_lt h
theorem z190 {l:List Tree} (hl:LabelsOk l) (s:State):0≤z32 l s∧z32 l s≤7:=by
  have:=ltr_lt s.b l 0 0 (by decide)
  rw [hl.1] at this
  unfold z32
  have e:(2:Nat) ^ (0+3)=8:=by decide
  omega
def pE2 (n i q:Nat) (ℓ to:Int) (e:Trans):List (Nat×Int):=if onB e ℓ then [(i * n+q,to * n+e.dst)] else []
def pTo (n:Nat) (row:List Trans) (i q:Nat) (ℓ to:Int):List (Nat×Int):=row.flatMap (pE2 n i q ℓ to)
def pQ (n:Nat) (nxi:List Int) (rows:List (List Trans)) (i:Nat) (ℓ:Int) (q:Nat):List (Nat×Int):=nxi.flatMap (pTo n (rows.getD q []) i q ℓ)
def pI2 (n:Nat) (nx:List (List Int)) (rows:List (List Trans)) (ls:List Int) (i:Nat):List (Nat×Int):=(List.range n).flatMap (pQ n (nx.getD i []) rows i (ls.getD i 0))
def pS2 (g:Graph) (ls:List Int) (a:Aut):List (Nat×Int):=(List.range g.st.length).flatMap (pI2 a.acc.length g.nx (z68 a) ls)
theorem z288 {a:Aut} {q:Nat} (h:q < a.acc.length):(z68 a).getD q []=a.ed.filter (fun e=>e.src.toNat == q):=by
  unfold z68
  rw [z19 (by rw [z143];exact h),z291,List.filter_map,List.map_map]
  exact List.map_id _
theorem z995 {β:Type} {F:Nat→List β} {n q0:Nat} (hq:q0 < n) (h:∀ q,q < n→q≠q0→F q=[]):(List.range n).flatMap F=F q0:=by
  have:∀ m,(List.range m).flatMap F=if q0 < m∧m≤n then F q0 else if m≤n then [] else (List.range m).flatMap F:=by
    intro m
    induction m with
    | zero=>simp
    | succ m ih =>
      by_cases hm:m+1≤n
      · rw [List.range_succ,List.flatMap_append,ih,List.flatMap_cons,List.flatMap_nil,List.append_nil]
        by_cases h1:q0 < m
        · rw [if_pos ⟨h1,by omega⟩,if_pos ⟨by omega,hm⟩,h m (by omega) (by omega),List.append_nil]
        · rw [if_neg (by omega),if_pos (by omega)]
          by_cases h2:q0=m
          · subst h2;rw [if_pos ⟨by omega,hm⟩];rfl
          · rw [if_neg (by omega),if_pos hm,h m (by omega) (by omega)];rfl
      · rw [if_neg (by omega),if_neg hm]
  rw [this n,if_pos ⟨hq,Nat.le_refl _⟩]
theorem z891 {β:Type} {F:Nat→List β} {n:Nat} (h:∀ q,q < n→F q=[]):(List.range n).flatMap F=[]:=by
  rw [List.flatMap_eq_nil_iff]
  intro q hq
  exact h q (List.mem_range.1 hq)
theorem pS2_rows (g:Graph) (ls:List Int) (a:Aut) (ha:AutP a) (r:Nat):(pS2 g ls a).filter (fun p=>p.1 == r)=(z529 g ls a).filter (fun p=>p.1 == r):=by
  unfold pS2 z529
  rw [List.filter_flatMap,List.filter_flatMap]
  refine z559 fun i hi=>?_
  unfold pI2 z474
  rw [List.filter_flatMap,List.filter_flatMap]
  have hsrc:∀ e∈a.ed,e.src.toNat < a.acc.length:=fun e he=>by
    have:=(ha.2.2.2 e he).1;omega
  by_cases hr:i * a.acc.length≤r∧r < i * a.acc.length+a.acc.length
  · obtain ⟨q0,rfl⟩:∃ q0,r=i * a.acc.length+q0:=⟨r - i * a.acc.length,by omega⟩
    have hq0:q0 < a.acc.length:=by omega
    rw [z995 hq0 (fun q hq hne=>by
      unfold pQ
      rw [List.filter_flatMap]
      refine List.flatMap_eq_nil_iff.2 fun to _=>?_
      unfold pTo
      rw [List.filter_flatMap]
      refine List.flatMap_eq_nil_iff.2 fun e _=>?_
      unfold pE2
      split
      · simp;omega
      · rfl)]
    unfold pQ
    rw [List.filter_flatMap,z288 hq0]
    refine z559 fun to _=>?_
    unfold pTo z530
    rw [List.filter_flatMap,List.filter_flatMap]
    induction a.ed with
    | nil=>rfl
    | cons e es ih =>
      rw [List.flatMap_cons,← ih,List.filter_cons]
      by_cases he:e.src.toNat=q0
      · rw [if_pos (by simpa using he),List.flatMap_cons]
        unfold pE2 z382
        rw [he]
      · rw [if_neg (by simpa using he)]
        have:(z382 a.acc.length i (ls.getD i 0) to e).filter (fun p=>p.1 == i * a.acc.length+q0)=[]:=by
          unfold z382
          split
          · simp;omega
          · rfl
        rw [this,List.nil_append]
  · rw [z891 (fun q hq=>by
      unfold pQ
      rw [List.filter_flatMap]
      refine List.flatMap_eq_nil_iff.2 fun to _=>?_
      unfold pTo
      rw [List.filter_flatMap]
      refine List.flatMap_eq_nil_iff.2 fun e _=>?_
      unfold pE2
      split
      · simp;omega
      · rfl)]
    symm
    refine List.flatMap_eq_nil_iff.2 fun to _=>?_
    unfold z530
    rw [List.filter_flatMap]
    refine List.flatMap_eq_nil_iff.2 fun e he=>?_
    have:=hsrc e he
    unfold z382
    split
    · simp;omega
    · rfl
theorem pS2_len (g:Graph) (hg:GB g) (ls:List Int) (a:Aut) (ha:AutP a):(pS2 g ls a).length≤1000000000:=by
  obtain ⟨⟨g1,g2⟩,g3,g4⟩:=hg
  have h2:∀ i∈List.range g.st.length,(pI2 a.acc.length g.nx (z68 a) ls i).length≤7864320:=fun i hi=>by
    rw [List.mem_range] at hi
    unfold pI2
    rw [z19 (l:=g.nx) (by omega)]
    have h3:=z238 (f:=pQ a.acc.length g.nx[i] (z68 a) i (ls.getD i 0)) (c:=122880) (List.range a.acc.length) (fun q hq=>by
      have h1:∀ to,(pTo a.acc.length ((z68 a).getD q []) i q (ls.getD i 0) to).length≤2048:=fun to=>by
        have h5:=z238 (f:=pE2 a.acc.length i q (ls.getD i 0) to) (c:=1) ((z68 a).getD q []) (fun e _=>by unfold pE2;split<;>simp)
        rw [z288 (List.mem_range.1 hq)] at h5 ⊢
        have:=List.length_filter_le (fun e:Trans=>e.src.toNat == q) a.ed
        have:=ha.2.1
        unfold pTo;omega
      have h3:=z238 (f:=pTo a.acc.length ((z68 a).getD q []) i q (ls.getD i 0)) (c:=2048) g.nx[i] (fun to _=>h1 to)
      have h4:=(g4 i (by omega) (by omega) hi).2.1
      have:g.nx[i].length * 2048≤60 * 2048:=Nat.mul_le_mul_right _ (by omega)
      unfold pQ;omega)
    rw [List.length_range] at h3
    have:a.acc.length * 122880≤64 * 122880:=Nat.mul_le_mul_right _ ha.1.2
    omega
  have h5:=z238 (f:=pI2 a.acc.length g.nx (z68 a) ls) (c:=7864320) (List.range g.st.length) h2
  rw [List.length_range] at h5
  have:g.st.length * 7864320≤60 * 7864320:=Nat.mul_le_mul_right _ (by omega)
  unfold pS2;omega
theorem z1069 (g:Graph) (ls:List Int) (a:Aut) (ha:AutP a):build (g.st.length * a.acc.length) (pS2 g ls a)=z26 g ls a:=by
  unfold z26 build
  rw [Nat.mul_comm]
  refine List.map_congr_left fun r _=>?_
  rw [pS2_rows g ls a ha r]
set_option maxHeartbeats 800000 in
theorem z771 (g:Graph) (hg:GB g) (l:List Tree) (hl:LabelsOk l) (a:Aut) (ha:AutP a):CallsA Tryz.prog 79 [.agg g.cs,lst 3 Tree.cs' l,.agg a.cs] [] (.tup [.sref 0 0 (g.st.length * a.acc.length),ints a.ini]) [.cells 1 ((z26 g (g.st.map (z32 l)) a).map ownRow)]:=by
  have hvals:=hg.vals
  have hpl:=z473 g hg (g.st.map (z32 l)) a ha
  have hini:=ha.2.2.1.le (by omega)
  obtain ⟨⟨g1,g2⟩,g3,g4⟩:=hg
  obtain ⟨⟨a1,a2⟩,a3,a4,a5⟩:=ha
  have hN:=z128 (a:=(g.st.length:Int)) (b:=(a.acc.length:Int)) (A:=60) (B:=64) (by omega) (by omega) (by omega) (by omega)
  refine z17 z18 Tryz.func79 rfl rfl 117 Tryz.ntmps79 (by simp) ?_
  repeat' (first|(apply AWP.go ok;rfl;conv=>whnf)|(apply And.intro;((dsimp only;omega));conv=>whnf))
  refine AWP.reach (Gl.Reach.weaken (es':=List.replicate a.acc.length [.own 4 []]) 2 rfl (by rw [List.length_replicate,List.length_replicate];rfl) z314 rfl) ?_
  conv=>whnf
  refine z90 (fun k:Nat=>([(1,lst 3 Tree.cs' l),(3,.ptr 0 none 0),(5,.ptr 1 none 0),(8,.int a.acc.length),(9,.sref 2 0 a.acc.length),(26,lst 4 Trans.cs a.ed),(27,.int a.ed.length),(28,.int k)],[.cells 2 [[lst 2 State.cs g.st,lst 1 encL g.nx]],.cells 3 [[lst 1 enI a.ini,lst 1 enB a.acc,lst 4 Trans.cs a.ed]],.cells 1 ((z103 a.acc.length ((a.ed.take k).map fun e=>(e.src.toNat,e))).map (ownG 4 Trans.cs))])) (fun k=>k≤a.ed.length) (fun k=>a.ed.length - k) 0 (by omega)
    ⟨[0,1,2],rfl,by decide,rfl,⟨⟨rfl,rfl⟩,⟨rfl,rfl⟩,⟨rfl,rfl⟩,⟨rfl,rfl⟩,⟨rfl,rfl⟩,⟨rfl,rfl⟩,⟨rfl,rfl⟩,⟨rfl,rfl⟩,trivial⟩,⟨z24 rfl rfl,z24 rfl rfl,z40 (z56 (z987 _ _ _).symm) (z6 fun _=>rfl),trivial⟩⟩ ?_
  intro k hk
  have hN2:((g.st.length * a.acc.length:Nat):Int)=(g.st.length:Int) * a.acc.length:=by simp
  repeat' (first|((fail_if_success apply z146 6);(fail_if_success apply z112 6);(fail_if_success apply z146 8);(fail_if_success apply z112 8);apply AWP.go ok;rfl;conv=>whnf)|(apply And.intro;(omega);conv=>whnf)|(with_reducible apply z11;omega;intro _;conv=>whnf)|(apply z7<;>intro _<;>conv=>whnf))
  · have hkl:k < a.ed.length:=by assumption
    have he:=a5 a.ed[k] (List.getElem_mem hkl)
    unfold z420 at he
    have hlt:a.ed[k].src.toNat < (z103 a.acc.length ((a.ed.take k).map fun e=>(e.src.toNat,e))).length:=by rw [z143];omega
    have hmap:a.ed[k].src.toNat < ((z103 a.acc.length ((a.ed.take k).map fun e=>(e.src.toNat,e))).map (ownG 4 Trans.cs)).length:=by rw [List.length_map];exact hlt
    have hrl:=z632 hlt
    rw [List.length_map,List.length_take] at hrl
    refine AWP.reach (Gl.Reach.expose (e:=ownG 4 Trans.cs (z103 a.acc.length ((a.ed.take k).map fun e=>(e.src.toNat,e)))[a.ed[k].src.toNat]) 2 a.ed[k].src.toNat 0 rfl (by rw [List.getElem?_map,List.getElem?_eq_getElem hlt];rfl) rfl (z231 (fun _=>rfl) _) rfl) ?_
    conv=>whnf
    (apply AWP.go ok;rfl;conv=>whnf)
    repeat' (first|(apply z34;kernel_rfl;conv=>whnf)|(apply z619;exact Nat.add_zero _;exact hmap;conv=>whnf)|(apply And.intro;(first|omega|((try dsimp only);simp only [List.length_map,List.length_take,List.length_append,List.length_replicate,List.length_cons,List.length_nil];omega)|exact ⟨rfl,z21 rfl z30⟩);conv=>whnf))
    refine AWP.reach (Gl.Reach.absorb 2 6 a.ed[k].src.toNat 0 rfl (z1041 (Nat.add_zero _) (by rw [List.length_set];exact hmap)) rfl rfl (by simp) rfl (z99 (fun e he=>(z6 (fun _=>rfl)) e (List.mem_of_mem_take he)) (z216 rfl z37)) rfl) ?_
    conv=>whnf
    repeat' (first|((fail_if_success apply z146 6);(fail_if_success apply z112 6);(fail_if_success apply z146 8);(fail_if_success apply z112 8);apply AWP.go ok;rfl;conv=>whnf)|(apply And.intro;((unfold inI;omega));conv=>whnf))
    refine z78 (k+1) [0,1,2] (by omega) (by omega)
      ⟨rfl,by decide,rfl,⟨⟨rfl,rfl⟩,⟨rfl,rfl⟩,⟨rfl,rfl⟩,⟨rfl,rfl⟩,⟨rfl,rfl⟩,⟨rfl,rfl⟩,⟨rfl,rfl⟩,⟨rfl,rfl⟩,trivial⟩,⟨z24 rfl rfl,z24 rfl rfl,z40 (z56 ?_) (z6 fun _=>rfl),trivial⟩⟩
    have e1:((a.ed.take (k+1)).map fun e=>(e.src.toNat,e))=((a.ed.take k).map fun e=>(e.src.toNat,e))++[(a.ed[k].src.toNat,a.ed[k])]:=by
      rw [List.take_succ_eq_append_getElem hkl,List.map_append];rfl
    rw [e1]
    exact z890 hlt (Nat.add_zero _) (by simp) rfl
  obtain rfl:k=a.ed.length:=by omega
  refine AWP.reach (SealL.reach (π:=[0,1]) (Bn:=[2]) (env:=[(1,lst 3 Tree.cs' l),(3,.ptr 0 none 0),(5,.ptr 1 none 0),(8,.int a.acc.length),(9,lst 1 encT (z68 a))]) (objs:=[.cells 2 [[lst 2 State.cs g.st,lst 1 encL g.nx]],.cells 3 [[lst 1 enI a.ini,lst 1 enB a.acc,lst 4 Trans.cs a.ed]]]) ⟨rfl,rfl,by simp,rfl,by intro o ho;simp at ho;rcases ho with rfl|rfl<;>rfl,⟨rfl,rfl,rfl,rfl,?_,trivial⟩,rfl⟩) ?_
  · show bor _ _ _ (.sref 2 0 a.acc.length)=_
    rw [z292 (w:=1) (es:=(z103 a.acc.length ((a.ed.take a.ed.length).map fun e=>(e.src.toNat,e))).map (ownG 4 Trans.cs)) rfl rfl rfl (by rw [List.length_map,z143]),z767 (fun t=>Trans.unown t),List.take_length]
    unfold lst z68
    rw [z143];rfl
  conv=>whnf
  repeat' (first|(apply AWP.go ok;rfl;conv=>whnf)|(apply And.intro;(first|(unfold inI;omega)|(dsimp only;omega));conv=>whnf)|(apply z9 (label_ok g hvals g2 l hl);rfl;rfl;conv=>whnf))
  refine AWP.reach (Gl.Reach.weaken (es':=List.replicate (g.st.length * a.acc.length) [.own 1 []]) 2 rfl (by rw [List.length_replicate,List.length_replicate];rfl) z314 rfl) ?_
  conv=>whnf
  have hls:(g.st.map (z32 l)).length=g.st.length:=by simp
  have hlr:∀ x∈g.st.map (z32 l),0≤x∧x≤7:=fun x hx=>by
    obtain ⟨s,_,rfl⟩:=List.mem_map.1 hx
    exact z190 hl s
  rw [← z1069 g _ a ⟨⟨a1,a2⟩,a3,a4,a5⟩]
  have hpl2:=pS2_len g ⟨⟨g1,g2⟩,g3,g4⟩ (g.st.map (z32 l)) a ⟨⟨a1,a2⟩,a3,a4,a5⟩
  generalize hlsd:g.st.map (z32 l)=ls at hls hlr hpl hpl2
  have hrow:∀ i (hi:i < g.nx.length),∀ x∈g.nx[i],0≤x∧x≤g.st.length - 1:=fun i hi x hx=>by
    obtain ⟨j,hj,rfl⟩:=List.mem_iff_getElem.1 hx
    exact ((g4 i hi hi (by omega)).2.2.2 j hj hj).1
  have hlen:∀ i (hi:i < g.nx.length),g.nx[i].length≤60:=fun i hi=>by
    have:=(g4 i hi hi (by omega)).2.1;omega
  have hel:(z68 a).length=a.acc.length:=z143 _ _
  have hed:∀ q (hq:q < (z68 a).length),∀ e∈(z68 a)[q],e∈a.ed:=fun q hq e he=>by
    rw [← z19 (d:=[]) hq,z288 (by omega)] at he;exact (List.mem_filter.1 he).1
  have hedl:∀ q (hq:q < (z68 a).length),(z68 a)[q].length≤2048:=fun q hq=>by
    rw [← z19 (d:=[]) hq,z288 (by omega)];exact Nat.le_trans (List.length_filter_le _ _) a3
  refine z90 (fun x:Nat×List (Nat×Int)=>([(3,.ptr 0 none 0),(5,.ptr 1 none 0),(8,.int a.acc.length),(9,lst 1 encT (z68 a)),(12,.sref 2 0 (g.st.length * a.acc.length)),(53,ints ls),(54,.int ls.length),(55,.int x.1)],[.cells 2 [[lst 2 State.cs g.st,lst 1 encL g.nx]],.cells 3 [[lst 1 enI a.ini,lst 1 enB a.acc,lst 4 Trans.cs a.ed]],.cells 1 ((build (g.st.length * a.acc.length) x.2).map ownRow)])) (fun x=>x.1≤ls.length∧x.2++((List.range g.st.length).drop x.1).flatMap (pI2 a.acc.length g.nx (z68 a) ls)=pS2 g ls a) (fun x=>ls.length - x.1) (0,[]) ⟨by omega,rfl⟩
    ⟨[0,1,2],rfl,by decide,rfl,⟨⟨rfl,by rfl⟩,⟨rfl,by rfl⟩,⟨rfl,by rfl⟩,⟨rfl,by rfl⟩,⟨rfl,by rfl⟩,⟨rfl,by rfl⟩,⟨rfl,by rfl⟩,⟨rfl,by rfl⟩,trivial⟩,⟨z24 rfl rfl,z24 rfl rfl,z40 (z56 (z834 _).symm) (z6 fun _=>rfl),trivial⟩⟩ ?_
  rintro ⟨i,ps⟩ ⟨hi1,hi2⟩
  dsimp only at hi1 hi2 ⊢
  repeat' (first|(apply AWP.go ok;rfl;conv=>whnf)|(apply And.intro;(omega);conv=>whnf)|(with_reducible apply z11;omega;intro _;conv=>whnf)|(apply z7<;>intro _<;>conv=>whnf))
  · have hig:i < g.st.length:=by omega
    rw [z163 _ _ _ (by simpa using hig),List.getElem_range] at hi2
    have hin:i < g.nx.length:=by omega
    have hrow:=hrow i hin
    have hlen:=hlen i hin
    have hil:i < ls.length:=by omega
    have hli:=hlr ls[i] (List.getElem_mem _)
    have hpI:pI2 a.acc.length g.nx (z68 a) ls i=(List.range a.acc.length).flatMap (pQ a.acc.length g.nx[i] (z68 a) i ls[i]):=by
      unfold pI2
      rw [z19 (l:=g.nx) hin,z19 (l:=ls) hil]
    rw [hpI] at hi2
    have hm1:=z128 (a:=(i:Int)) (b:=(a.acc.length:Int)) (A:=60) (B:=64) (by omega) (by omega) (by omega) (by omega)
    refine z90 (fun x:Nat×List (Nat×Int)=>([(3,.ptr 0 none 0),(5,.ptr 1 none 0),(8,.int a.acc.length),(9,lst 1 encT (z68 a)),(12,.sref 2 0 (g.st.length * a.acc.length)),(53,ints ls),(54,.int ls.length),(55,.int i),(13,.int i),(14,.int ls[i]),(60,.int a.acc.length),(61,.int x.1)],[.cells 2 [[lst 2 State.cs g.st,lst 1 encL g.nx]],.cells 3 [[lst 1 enI a.ini,lst 1 enB a.acc,lst 4 Trans.cs a.ed]],.cells 1 ((build (g.st.length * a.acc.length) x.2).map ownRow)])) (fun x=>x.1≤a.acc.length∧x.2++(((List.range a.acc.length).drop x.1).flatMap (pQ a.acc.length g.nx[i] (z68 a) i ls[i])++((List.range g.st.length).drop (i+1)).flatMap (pI2 a.acc.length g.nx (z68 a) ls))=pS2 g ls a) (fun x=>a.acc.length - x.1) (0,ps) ⟨by omega,hi2⟩
      ⟨[0,1,2],rfl,by decide,rfl,⟨⟨rfl,rfl⟩,⟨rfl,rfl⟩,⟨rfl,rfl⟩,⟨rfl,rfl⟩,⟨rfl,rfl⟩,⟨rfl,rfl⟩,⟨rfl,rfl⟩,⟨rfl,rfl⟩,⟨rfl,rfl⟩,⟨rfl,rfl⟩,⟨rfl,rfl⟩,⟨rfl,rfl⟩,trivial⟩,⟨z24 rfl rfl,z24 rfl rfl,z40 rfl (z6 fun _=>rfl),trivial⟩⟩ ?_
    rintro ⟨q,ps⟩ ⟨hq1,hq2⟩
    dsimp only at hq1 hq2 ⊢
    repeat' (first|(apply AWP.go ok;rfl;conv=>whnf)|(apply And.intro;(first|omega|(unfold inI;omega));conv=>whnf)|(with_reducible apply z11;omega;intro _;conv=>whnf)|(apply z7<;>intro _<;>conv=>whnf))
    · have hqn:q < a.acc.length:=by omega
      rw [z163 _ _ _ (by simpa using hqn),List.getElem_range,List.append_assoc] at hq2
      have hqe:q < (z68 a).length:=by omega
      have hpQ:pQ a.acc.length g.nx[i] (z68 a) i ls[i] q=g.nx[i].flatMap (pTo a.acc.length (z68 a)[q] i q ls[i]):=by
        unfold pQ;rw [z19 hqe]
      rw [hpQ] at hq2
      have hedl:=hedl q hqe
      have hlt:i * a.acc.length+q < g.st.length * a.acc.length:=by
        have h1:(i+1) * a.acc.length≤g.st.length * a.acc.length:=Nat.mul_le_mul_right _ hig
        rw [Nat.add_mul,Nat.one_mul] at h1
        omega
      refine z90 (fun x:Nat×List (Nat×Int)=>([(3,.ptr 0 none 0),(5,.ptr 1 none 0),(8,.int a.acc.length),(9,lst 1 encT (z68 a)),(12,.sref 2 0 (g.st.length * a.acc.length)),(53,ints ls),(54,.int ls.length),(55,.int i),(13,.int i),(14,.int ls[i]),(60,.int a.acc.length),(61,.int q),(15,.int q),(68,ints g.nx[i]),(69,.int g.nx[i].length),(70,.int x.1)],[.cells 2 [[lst 2 State.cs g.st,lst 1 encL g.nx]],.cells 3 [[lst 1 enI a.ini,lst 1 enB a.acc,lst 4 Trans.cs a.ed]],.cells 1 ((build (g.st.length * a.acc.length) x.2).map ownRow)])) (fun x=>x.1≤g.nx[i].length∧x.2++((g.nx[i].drop x.1).flatMap (pTo a.acc.length (z68 a)[q] i q ls[i])++(((List.range a.acc.length).drop (q+1)).flatMap (pQ a.acc.length g.nx[i] (z68 a) i ls[i])++((List.range g.st.length).drop (i+1)).flatMap (pI2 a.acc.length g.nx (z68 a) ls)))=pS2 g ls a) (fun x=>g.nx[i].length - x.1) (0,ps) ⟨by omega,hq2⟩
        ⟨[0,1,2],rfl,by decide,rfl,⟨⟨rfl,rfl⟩,⟨rfl,rfl⟩,⟨rfl,rfl⟩,⟨rfl,rfl⟩,⟨rfl,rfl⟩,⟨rfl,rfl⟩,⟨rfl,rfl⟩,⟨rfl,rfl⟩,⟨rfl,rfl⟩,⟨rfl,rfl⟩,⟨rfl,rfl⟩,⟨rfl,rfl⟩,⟨rfl,rfl⟩,⟨rfl,rfl⟩,⟨rfl,rfl⟩,⟨rfl,rfl⟩,trivial⟩,⟨z24 rfl rfl,z24 rfl rfl,z40 rfl (z6 fun _=>rfl),trivial⟩⟩ ?_
      rintro ⟨j,ps⟩ ⟨hj1,hj2⟩
      dsimp only at hj1 hj2 ⊢
      repeat' (first|(apply AWP.go ok;rfl;conv=>whnf)|(apply And.intro;(first|omega|(unfold inI;omega));conv=>whnf)|(with_reducible apply z11;omega;intro _;conv=>whnf)|(apply z7<;>intro _<;>conv=>whnf))
      · have hjn:j < g.nx[i].length:=by omega
        rw [z163 _ _ _ hjn,List.append_assoc] at hj2
        have hto:=hrow g.nx[i][j] (List.getElem_mem _)
        have hm2:=z128 (a:=g.nx[i][j]) (b:=(a.acc.length:Int)) (A:=60) (B:=64) (by omega) (by omega) (by omega) (by omega)
        refine z90 (fun x:Nat×List (Nat×Int)=>([(3,.ptr 0 none 0),(5,.ptr 1 none 0),(8,.int a.acc.length),(9,lst 1 encT (z68 a)),(12,.sref 2 0 (g.st.length * a.acc.length)),(53,ints ls),(54,.int ls.length),(55,.int i),(13,.int i),(14,.int ls[i]),(60,.int a.acc.length),(61,.int q),(15,.int q),(68,ints g.nx[i]),(69,.int g.nx[i].length),(70,.int j),(17,.int g.nx[i][j]),(77,lst 4 Trans.cs (z68 a)[q]),(78,.int (z68 a)[q].length),(79,.int x.1)],[.cells 2 [[lst 2 State.cs g.st,lst 1 encL g.nx]],.cells 3 [[lst 1 enI a.ini,lst 1 enB a.acc,lst 4 Trans.cs a.ed]],.cells 1 ((build (g.st.length * a.acc.length) x.2).map ownRow)])) (fun x=>x.1≤(z68 a)[q].length∧x.2++(((z68 a)[q].drop x.1).flatMap (pE2 a.acc.length i q ls[i] g.nx[i][j])++((g.nx[i].drop (j+1)).flatMap (pTo a.acc.length (z68 a)[q] i q ls[i])++(((List.range a.acc.length).drop (q+1)).flatMap (pQ a.acc.length g.nx[i] (z68 a) i ls[i])++((List.range g.st.length).drop (i+1)).flatMap (pI2 a.acc.length g.nx (z68 a) ls))))=pS2 g ls a) (fun x=>(z68 a)[q].length - x.1) (0,ps) ⟨by omega,hj2⟩
          ⟨[0,1,2],rfl,by decide,rfl,⟨⟨rfl,rfl⟩,⟨rfl,rfl⟩,⟨rfl,rfl⟩,⟨rfl,rfl⟩,⟨rfl,rfl⟩,⟨rfl,rfl⟩,⟨rfl,rfl⟩,⟨rfl,rfl⟩,⟨rfl,rfl⟩,⟨rfl,rfl⟩,⟨rfl,rfl⟩,⟨rfl,rfl⟩,⟨rfl,rfl⟩,⟨rfl,rfl⟩,⟨rfl,rfl⟩,⟨rfl,rfl⟩,⟨rfl,rfl⟩,⟨rfl,rfl⟩,⟨rfl,rfl⟩,⟨rfl,rfl⟩,trivial⟩,⟨z24 rfl rfl,z24 rfl rfl,z40 rfl (z6 fun _=>rfl),trivial⟩⟩ ?_
        rintro ⟨k,ps⟩ ⟨hk1,hk2⟩
        dsimp only at hk1 hk2 ⊢
        by_cases hke:k < (z68 a)[q].length
        · have he:=a5 (z68 a)[q][k] (hed q hqe _ (List.getElem_mem hke))
          unfold z420 at he
          have hlt' : i * a.acc.length+q < (build (g.st.length * a.acc.length) ps).length:=by rw [z83];exact hlt
          have hmap:i * a.acc.length+q < ((build (g.st.length * a.acc.length) ps).map ownRow).length:=by rw [List.length_map];exact hlt'
          have hrl:(build (g.st.length * a.acc.length) ps)[i * a.acc.length+q].length≤1000000000:=by
            have h1:=z273 (N:=g.st.length * a.acc.length) (ps:=ps) hlt'
            have h2:=congrArg List.length hk2
            rw [List.length_append] at h2
            omega
          have hix:((i:Int) * a.acc.length+q).toNat=i * a.acc.length+q:=by
            have e:((i * a.acc.length:Nat):Int)=(i:Int) * a.acc.length:=by simp
            omega
          have hlt2:((i:Int) * a.acc.length+q).toNat < g.st.length * a.acc.length:=by rw [hix];exact hlt
          rw [z163 _ _ _ hke] at hk2
          repeat' (first|((fail_if_success apply z146 22);(fail_if_success apply z112 22);apply AWP.go ok;rfl;conv=>whnf)|(apply And.intro;(first|omega|(unfold inI;omega));conv=>whnf)|(with_reducible apply z11;omega;intro _;conv=>whnf)|(apply z7<;>intro _<;>conv=>whnf)|(apply z9 (takes_ok (z68 a)[q][k] ls[i] hli.1 hli.2 he.2.2.1);rfl;rfl;conv=>whnf))
          · have hon:((ls[i].toNat &&& (z68 a)[q][k].care.toNat:Nat):Int)=(z68 a)[q][k].val:=by assumption
            refine AWP.reach (Gl.Reach.expose (e:=ownRow (build (g.st.length * a.acc.length) ps)[i * a.acc.length+q]) 2 (i * a.acc.length+q) 0 rfl (by rw [List.getElem?_map,List.getElem?_eq_getElem hlt'];rfl) rfl (z231 (fun _=>rfl) _) rfl) ?_
            conv=>whnf
            (apply AWP.go ok;rfl;conv=>whnf)
            repeat' (first|(apply z34;kernel_rfl;conv=>whnf)|(apply z619;exact hix;exact hmap;conv=>whnf)|(apply And.intro;(first|omega|(unfold inI;omega)|((try dsimp only);simp only [List.length_map,List.length_take,List.length_append,List.length_replicate,List.length_cons,List.length_nil];omega)|exact ⟨rfl,z21 rfl z30⟩);conv=>whnf))
            refine AWP.reach (Gl.Reach.absorb 2 6 (i * a.acc.length+q) 0 rfl (z1041 hix (by rw [List.length_set];exact hmap)) rfl rfl (by simp) rfl (z99 (fun e he=>(z6 (fun _=>rfl)) e (List.mem_of_mem_take he)) (z216 rfl z37)) rfl) ?_
            conv=>whnf
            repeat' (first|(apply AWP.go ok;rfl;conv=>whnf)|(apply And.intro;((unfold inI;omega));conv=>whnf))
            have hpe:pE2 a.acc.length i q ls[i] g.nx[i][j] (z68 a)[q][k]=[(i * a.acc.length+q,g.nx[i][j] * a.acc.length+(z68 a)[q][k].dst)]:=by
              unfold pE2 onB;rw [if_pos (decide_eq_true hon)]
            rw [hpe,List.append_assoc,← List.append_assoc] at hk2
            exact z78 (k+1,ps++[(i * a.acc.length+q,g.nx[i][j] * a.acc.length+(z68 a)[q][k].dst)]) [0,1,2] ⟨by dsimp only;omega,hk2⟩ (by dsimp only;omega) ⟨rfl,by decide,rfl,⟨⟨rfl,rfl⟩,⟨rfl,rfl⟩,⟨rfl,rfl⟩,⟨rfl,rfl⟩,⟨rfl,rfl⟩,⟨rfl,rfl⟩,⟨rfl,rfl⟩,⟨rfl,rfl⟩,⟨rfl,rfl⟩,⟨rfl,rfl⟩,⟨rfl,rfl⟩,⟨rfl,rfl⟩,⟨rfl,rfl⟩,⟨rfl,rfl⟩,⟨rfl,rfl⟩,⟨rfl,rfl⟩,⟨rfl,rfl⟩,⟨rfl,rfl⟩,⟨rfl,rfl⟩,⟨rfl,rfl⟩,trivial⟩,⟨z24 rfl rfl,z24 rfl rfl,z40 (z56 (rows_push' hlt' hix (by simp))) (z6 fun _=>rfl),trivial⟩⟩
          · have hon:¬ ((ls[i].toNat &&& (z68 a)[q][k].care.toNat:Nat):Int)=(z68 a)[q][k].val:=by assumption
            have hpe:pE2 a.acc.length i q ls[i] g.nx[i][j] (z68 a)[q][k]=[]:=by
              unfold pE2 onB;rw [if_neg (by simpa using hon)]
            rw [hpe,List.nil_append] at hk2
            exact z78 (k+1,ps) [0,1,2] ⟨by dsimp only;omega,hk2⟩ (by dsimp only;omega) ⟨rfl,by decide,rfl,⟨⟨rfl,rfl⟩,⟨rfl,rfl⟩,⟨rfl,rfl⟩,⟨rfl,rfl⟩,⟨rfl,rfl⟩,⟨rfl,rfl⟩,⟨rfl,rfl⟩,⟨rfl,rfl⟩,⟨rfl,rfl⟩,⟨rfl,rfl⟩,⟨rfl,rfl⟩,⟨rfl,rfl⟩,⟨rfl,rfl⟩,⟨rfl,rfl⟩,⟨rfl,rfl⟩,⟨rfl,rfl⟩,⟨rfl,rfl⟩,⟨rfl,rfl⟩,⟨rfl,rfl⟩,⟨rfl,rfl⟩,trivial⟩,⟨z24 rfl rfl,z24 rfl rfl,z40 rfl (z6 fun _=>rfl),trivial⟩⟩
          · omega
        · repeat' (first|((fail_if_success apply z146 22);(fail_if_success apply z112 22);apply AWP.go ok;rfl;conv=>whnf)|(apply And.intro;(first|omega|(unfold inI;omega));conv=>whnf)|(with_reducible apply z11;omega;intro _;conv=>whnf)|(apply z7<;>intro _<;>conv=>whnf))
          · omega
          · rw [z107 _ _ _ (by omega),List.nil_append] at hk2
            exact z78 (j+1,ps) [0,1,2] ⟨by dsimp only;omega,hk2⟩ (by dsimp only;omega) ⟨rfl,by decide,rfl,⟨⟨rfl,rfl⟩,⟨rfl,rfl⟩,⟨rfl,rfl⟩,⟨rfl,rfl⟩,⟨rfl,rfl⟩,⟨rfl,rfl⟩,⟨rfl,rfl⟩,⟨rfl,rfl⟩,⟨rfl,rfl⟩,⟨rfl,rfl⟩,⟨rfl,rfl⟩,⟨rfl,rfl⟩,⟨rfl,rfl⟩,⟨rfl,rfl⟩,⟨rfl,rfl⟩,⟨rfl,rfl⟩,trivial⟩,⟨z24 rfl rfl,z24 rfl rfl,z40 rfl (z6 fun _=>rfl),trivial⟩⟩
      · rw [z107 _ _ _ (by omega),List.nil_append] at hj2
        exact z78 (q+1,ps) [0,1,2] ⟨by dsimp only;omega,hj2⟩ (by dsimp only;omega) ⟨rfl,by decide,rfl,⟨⟨rfl,rfl⟩,⟨rfl,rfl⟩,⟨rfl,rfl⟩,⟨rfl,rfl⟩,⟨rfl,rfl⟩,⟨rfl,rfl⟩,⟨rfl,rfl⟩,⟨rfl,rfl⟩,⟨rfl,rfl⟩,⟨rfl,rfl⟩,⟨rfl,rfl⟩,⟨rfl,rfl⟩,trivial⟩,⟨z24 rfl rfl,z24 rfl rfl,z40 rfl (z6 fun _=>rfl),trivial⟩⟩
    · rw [z107 _ _ _ (by simp;omega),List.nil_append] at hq2
      exact z78 (i+1,ps) [0,1,2] ⟨by dsimp only;omega,hq2⟩ (by dsimp only;omega) ⟨rfl,by decide,rfl,⟨⟨rfl,rfl⟩,⟨rfl,rfl⟩,⟨rfl,rfl⟩,⟨rfl,rfl⟩,⟨rfl,rfl⟩,⟨rfl,rfl⟩,⟨rfl,rfl⟩,⟨rfl,rfl⟩,trivial⟩,⟨z24 rfl rfl,z24 rfl rfl,z40 rfl (z6 fun _=>rfl),trivial⟩⟩
  · rw [z107 _ _ _ (by simp;omega),List.append_nil] at hi2
    subst hi2
    repeat' (first|(apply AWP.go ok;rfl;conv=>whnf)|(apply z9 (z705 a.ini (by omega));rfl;rfl;conv=>whnf))
    exact z105 [2] (by decide) rfl rfl rfl ⟨z40 rfl (z6 fun _=>rfl),trivial⟩
end Go.Proofs.YtknlmbniicacmaaGreat

namespace Go.Proofs.YtknlmbniicacmaaGreat
open Go.Gl
attribute [local irreducible] z31 AWP z48 z52 z50
theorem z282 (g:Graph) (hg:GB g) (l:List Tree) (hl:LabelsOk l) (a:Aut) (ha:AutP a):CallsA Tryz.prog 79 [.agg g.cs,lst 3 Tree.cs' l,.agg a.cs] [] (.tup [lst 1 encL (z26 g (g.st.map (z32 l)) a),ints a.ini]) []:=by
  have h:=z771 g hg l hl a ha
  have hlen:(z26 g (g.st.map (z32 l)) a).length=g.st.length * a.acc.length:=by unfold z26;rw [z83,Nat.mul_comm]
  refine h.lend [] [0] rfl rfl rfl ?_ z4
  show AC.tup [bor _ _ _ (.sref 0 0 _),bor _ _ _ (ints a.ini)]=_
  rw [z292 (w:=1) (es:=(z26 g (g.st.map (z32 l)) a).map ownRow) rfl rfl rfl (by rw [List.length_map];exact hlen),z150,← hlen]
  rfl
theorem z475 (g:Graph) (hg:GB g) (ls:List Int) (a:Aut) (ha:AutP a):∀ row∈z26 g ls a,∀ x∈row,0≤x∧x < ((g.st.length * a.acc.length:Nat):Int):=by
  intro row hrow x hx
  unfold z26 build at hrow
  obtain ⟨r,_,rfl⟩:=List.mem_map.1 hrow
  obtain ⟨⟨p,v⟩,hp,rfl⟩:=List.mem_map.1 hx
  have hp:=(List.mem_filter.1 hp).1
  unfold z529 at hp
  obtain ⟨i,hi,hp⟩:=List.mem_flatMap.1 hp
  rw [List.mem_range] at hi
  unfold z474 at hp
  obtain ⟨to,hto,hp⟩:=List.mem_flatMap.1 hp
  unfold z530 at hp
  obtain ⟨e,he,hp⟩:=List.mem_flatMap.1 hp
  have hin:i < g.nx.length:=by have:=hg.2.1;omega
  rw [z19 hin] at hto
  obtain ⟨j,hj,rfl⟩:=List.mem_iff_getElem.1 hto
  have h1:=((hg.2.2 i hin hin hi).2.2.2 j hj hj).1
  have h2:=(ha.2.2.2 e he).2.1
  unfold z382 at hp
  split at hp
  · simp only [List.mem_singleton,Prod.mk.injEq] at hp
    obtain ⟨_,rfl⟩:=hp
    have h3:0≤g.nx[i][j] * (a.acc.length:Int):=Int.mul_nonneg h1.1 (by omega)
    have h4:(g.nx[i][j]+1) * (a.acc.length:Int)≤g.st.length * a.acc.length:=Int.mul_le_mul_of_nonneg_right (by omega) (by omega)
    rw [Int.add_mul,Int.one_mul] at h4
    have e:((g.st.length * a.acc.length:Nat):Int)=(g.st.length:Int) * a.acc.length:=by simp
    rw [e]
    dsimp only
    omega
  · simp at hp
theorem z407 (g:Graph) (hg:GB g) (ls:List Int) (a:Aut) (ha:AutP a):∀ row∈z26 g ls a,row.length≤7372800:=by
  intro row hrow
  obtain ⟨i,hi,rfl⟩:=List.mem_iff_getElem.1 hrow
  exact Nat.le_trans (z273 (N:=a.acc.length * g.st.length) (ps:=z529 g ls a) hi) (z473 g hg ls a ha)
def rk (ranks:List Int) (x:Int):Int:=ranks.getD x.toNat 0
def less (acc:Bool) (r:Int):Int:=if acc then r - 1 else r
def z779 (row ranks:List Int) (rank:Int) (acc:Bool):Prop:=∀ x∈row,0≤rk ranks x∧rk ranks x≤less acc rank
instance {row ranks:List Int} {rank:Int} {acc:Bool} : Decidable (z779 row ranks rank acc):=by unfold z779;infer_instance
def z928 (rows:List (List Int)) (ini:List Int) (acc:List Bool) (N:Nat) (ranks:List Int):Prop :=
  ranks.length=N∧(∀ x∈ranks,-1≤x∧x≤4000)∧(∀ x∈ini,0≤rk ranks x)∧∀ i (h:i < ranks.length),0≤ranks[i]→z779 (rows.getD i []) ranks ranks[i] (acc.getD (i % acc.length) false)
noncomputable instance {rows:List (List Int)} {ini:List Int} {acc:List Bool} {N:Nat} {ranks:List Int} : Decidable (z928 rows ini acc N ranks):=Classical.propDecidable _
noncomputable def z629 (g:Graph) (l:List Tree) (a:Aut) (c:Cert):Bool:=glB g l && autB a && decide (z928 (z26 g (g.st.map (z32 l)) a) a.ini a.acc (g.st.length * a.acc.length) c.ranks)
def Cert.mx (c:Cert):Prop:=c.ranks.length≤maxLen
end Go.Proofs.YtknlmbniicacmaaGreat

namespace Go.Proofs.YtknlmbniicacmaaGreat
open Go.Gl
attribute [local irreducible] z31 AWP z48 z52 z50
theorem z628 (n:Int):CallsA Tryz.prog 77 [.int n] [] (.bool (!btw n (-1) 4000)) []:=by
  refine z17 z18 Tryz.func77 rfl rfl 6 Tryz.ntmps77 (by simp) ?_
  repeat' (first|(apply AWP.go ok;rfl;conv=>whnf)|(apply z9 (z389 n (-1) 4000);rfl;rfl;conv=>whnf))
  exact z27 rfl rfl
set_option maxHeartbeats 1600000 in
theorem z326 (g:Graph) (hg:g.mx) (l:List Tree) (hl:Lmx l) (a:Aut) (ha:a.mx) (c:Cert) (hc:c.mx):CallsA Tryz.prog 16 [.agg g.cs,lst 3 Tree.cs' l,.agg a.cs,.agg c.cs] [] (.bool (z629 g l a c)) []:=by
  have hcm:=hc
  unfold Cert.mx maxLen at hcm
  have k1:=z290 g hg l hl a ha
  by_cases hgl:(glB g l && autB a)=true
  · rw [hgl] at k1
    obtain ⟨hgl,hab⟩:=Bool.and_eq_true_iff.1 hgl
    have hG:=(z91 g).1 (by unfold glB at hgl;exact (Bool.and_eq_true_iff.1 hgl).1)
    have hL:=LabelsOk.of (by unfold glB at hgl;exact (Bool.and_eq_true_iff.1 hgl).2)
    have hA:=z108.1 hab
    have k2:=z282 g hG l hL a hA
    have kc:=z249 c.ranks hc (fun n=>!btw n (-1) 4000) 77 (fun x _=>z628 x)
    have hrows:=z475 g hG (g.st.map (z32 l)) a hA
    have hrowl:=z407 g hG (g.st.map (z32 l)) a hA
    have hrl:(z26 g (g.st.map (z32 l)) a).length=g.st.length * a.acc.length:=by unfold z26;rw [z83,Nat.mul_comm]
    have ha1:=hA.1
    have hN:=z128 (a:=(g.st.length:Int)) (b:=(a.acc.length:Int)) (A:=60) (B:=64) (by omega) (by have:=hG.1;omega) (by omega) (by omega)
    have hN2:((g.st.length * a.acc.length:Nat):Int)=(g.st.length:Int) * a.acc.length:=by simp
    have hini:=hA.2.2.1
    have e:z629 g l a c=decide (z928 (z26 g (g.st.map (z32 l)) a) a.ini a.acc (g.st.length * a.acc.length) c.ranks):=by unfold z629;rw [hgl,hab];rfl
    rw [e]
    generalize z26 g (g.st.map (z32 l)) a=rows at k2 hrows hrl hrowl
    refine z17 z18 Tryz.func16 rfl rfl 104 Tryz.ntmps16 (by simp) ?_
    repeat' (first|(apply AWP.go ok;rfl;conv=>whnf)|(apply And.intro;((unfold inI;omega));conv=>whnf)|(apply z38<;>intro _<;>conv=>whnf)|(apply z92<;>intro _<;>conv=>whnf)|(apply z9 (k1);rfl;rfl;conv=>whnf)|(apply z9 (kc);rfl;rfl;conv=>whnf)|(apply z9 (k2);rfl;rfl;conv=>whnf))
    · rename_i hlen
      exact z27 rfl (decide_eq_false fun h=>hlen (by rw [h.1];exact hN2))
    · rename_i hlen hany
      refine z27 rfl (decide_eq_false fun h=>?_)
      obtain ⟨x,hx,hb⟩:=List.any_eq_true.1 hany
      have:=h.2.1 x hx
      rw [← z144] at this
      rw [this] at hb;simp at hb
    rename_i hlen hany
    have hcl:c.ranks.length=g.st.length * a.acc.length:=by omega
    have hrng:∀ x∈c.ranks,-1≤x∧x≤4000:=fun x hx=>by
      have:=List.any_eq_false.1 hany x hx
      rw [← z144];simpa using this
    have hmod:∀ k:Nat,(((k:Int) % (a.acc.length:Int)).toNat)=k % a.acc.length:=fun k=>by omega
    have hmodlt:∀ k:Nat,k % a.acc.length < a.acc.length:=fun k=>Nat.mod_lt _ (by omega)
    have hil:=hini.le (by omega)
    refine z90 (fun j:Nat=>([(6,.ptr 1 none 0),(7,.ptr 2 none 0),(9,lst 1 encL rows),(48,ints a.ini),(49,.int a.ini.length),(50,.int j)],[.cells 2 [[lst 2 State.cs g.st,lst 1 encL g.nx]],.cells 3 [[lst 1 enI a.ini,lst 1 enB a.acc,lst 4 Trans.cs a.ed]],.cells 1 [[lst 1 enI c.ranks]]])) (fun j=>j≤a.ini.length∧∀ i (h:i < a.ini.length),i < j→0≤rk c.ranks a.ini[i]) (fun j=>a.ini.length - j) 0 ⟨by omega,fun i h hi=>by omega⟩ ⟨[0,1,2],rfl,by decide,rfl,by repeat' (first|exact True.intro|exact ⟨rfl,rfl⟩|apply And.intro),by repeat' (first|exact True.intro|exact z24 rfl rfl|apply And.intro)⟩ ?_
    rintro j ⟨hj1,hj2⟩
    by_cases hjl:j < a.ini.length
    · have hin:=(hini j hjl hjl).1
      have hb1:=z128 (a:=(g.st.length:Int) - 1) (b:=(a.acc.length:Int)) (A:=60) (B:=64) (by have:=hG.1;omega) (by have:=hG.1;omega) (by omega) (by omega)
      rw [Int.sub_mul,Int.one_mul] at hb1
      have hix:a.ini[j].toNat < c.ranks.length:=by rw [hcl];omega
      have hrk:rk c.ranks a.ini[j]=c.ranks[a.ini[j].toNat]'hix:=z19 hix
      repeat' (first|(apply AWP.go ok;rfl;conv=>whnf)|(apply And.intro;(first|omega|(unfold inI;omega));conv=>whnf)|(with_reducible apply z11;omega;intro _;conv=>whnf)|(with_reducible apply z69;omega;intro _;conv=>whnf)|(apply z7<;>intro _<;>conv=>whnf))
      · exact z27 rfl (decide_eq_false fun h=>by have:=h.2.2.1 _ (List.getElem_mem hjl);rw [hrk] at this;omega)
      · refine z78 (j+1) [0,1,2] ⟨by omega,fun i hi hij=>?_⟩ (by omega) ⟨rfl,by decide,rfl,by repeat' (first|exact True.intro|exact ⟨rfl,rfl⟩|apply And.intro),by repeat' (first|exact True.intro|exact z24 rfl rfl|apply And.intro)⟩
        rcases Nat.lt_or_ge i j with h3|h3
        · exact hj2 i hi h3
        · obtain rfl:i=j:=by omega
          rw [hrk];omega
      · omega
    repeat' (first|(apply AWP.go ok;rfl;conv=>whnf)|(apply And.intro;(omega);conv=>whnf)|(with_reducible apply z11;omega;intro _;conv=>whnf)|(with_reducible apply z69;omega;intro _;conv=>whnf)|(apply z7<;>intro _<;>conv=>whnf))
    all_goals first|(exfalso;omega)|skip
    have hiniR:∀ x∈a.ini,0≤rk c.ranks x:=fun x hx=>by
      obtain ⟨i,hi,rfl⟩:=List.mem_iff_getElem.1 hx
      exact hj2 i hi (by omega)
    clear hj1 hj2 hjl
    refine z90 (fun k:Nat=>([(6,.ptr 1 none 0),(7,.ptr 2 none 0),(9,lst 1 encL rows),(62,ints c.ranks),(63,.int c.ranks.length),(64,.int k)],[.cells 2 [[lst 2 State.cs g.st,lst 1 encL g.nx]],.cells 3 [[lst 1 enI a.ini,lst 1 enB a.acc,lst 4 Trans.cs a.ed]],.cells 1 [[lst 1 enI c.ranks]]])) (fun k=>k≤c.ranks.length∧∀ i (h:i < c.ranks.length),i < k→0≤c.ranks[i]→z779 (rows.getD i []) c.ranks c.ranks[i] (a.acc.getD (i % a.acc.length) false)) (fun k=>c.ranks.length - k) 0 ⟨by omega,fun i h hi=>by omega⟩ ⟨[0,1,2],rfl,by decide,rfl,by repeat' (first|exact True.intro|exact ⟨rfl,rfl⟩|apply And.intro),by repeat' (first|exact True.intro|exact z24 rfl rfl|apply And.intro)⟩ ?_
    rintro k ⟨hk1,hk2⟩
    have hm:=hmod k
    have hml:=hmodlt k
    by_cases hkl:k < c.ranks.length
    · have hrr:k < rows.length:=by omega
      have hkacc:((k:Int) % (a.acc.length:Int)).toNat < a.acc.length:=by omega
      have hacc:a.acc.getD (k % a.acc.length) false=(a.acc[((k:Int) % (a.acc.length:Int)).toNat]'hkacc):=by
        rw [z19 hml];simp only [hm]
      have hrw:rows.getD k []=rows[k]:=z19 hrr
      have hrl2:rows[k].length≤7372800:=hrowl _ (List.getElem_mem hrr)
      have hxs:∀ x∈rows[k],0≤x∧x < c.ranks.length:=fun x hx=>by
        have:=hrows _ (List.getElem_mem hrr) x hx
        rw [hcl];exact this
      have hrk:=hrng c.ranks[k] (List.getElem_mem hkl)
      have hno:z928 rows a.ini a.acc (g.st.length * a.acc.length) c.ranks→0≤c.ranks[k]→z779 rows[k] c.ranks c.ranks[k] (a.acc[((k:Int) % (a.acc.length:Int)).toNat]'hkacc):=fun h=>by
        have h1:=h.2.2.2 k hkl
        rw [hrw,hacc] at h1
        exact h1
      have hyes:(0≤c.ranks[k]→z779 rows[k] c.ranks c.ranks[k] (a.acc[((k:Int) % (a.acc.length:Int)).toNat]'hkacc))→∀ i (h:i < c.ranks.length),i < k+1→0≤c.ranks[i]→z779 (rows.getD i []) c.ranks c.ranks[i] (a.acc.getD (i % a.acc.length) false):=fun h i hi hik=>by
        rcases Nat.lt_or_ge i k with h3|h3
        · exact hk2 i hi h3
        · obtain rfl:i=k:=by omega
          rw [hrw,hacc];exact h
      generalize hacd:(a.acc[((k:Int) % (a.acc.length:Int)).toNat]'hkacc)=ac at hno hyes
      repeat' (first|(apply AWP.go ok;rfl;conv=>whnf)|(apply z34;kernel_rfl;conv=>whnf)|(apply And.intro;(first|omega|(unfold inI;omega));conv=>whnf)|(with_reducible apply z11;omega;intro _;conv=>whnf)|(with_reducible apply z69;omega;intro _;conv=>whnf)|(apply z7<;>intro _<;>conv=>whnf)|(apply z92<;>intro _<;>conv=>whnf))
      all_goals first|(exfalso;omega)|skip
      all_goals (rw [hacd] at *)
      all_goals
        refine z90 (fun j:Nat=>([(6,.ptr 1 none 0),(7,.ptr 2 none 0),(9,lst 1 encL rows),(62,ints c.ranks),(63,.int c.ranks.length),(64,.int k),(14,.int c.ranks[k]),(15,.int (less ac c.ranks[k])),(84,ints rows[k]),(85,.int rows[k].length),(86,.int j)],[.cells 2 [[lst 2 State.cs g.st,lst 1 encL g.nx]],.cells 3 [[lst 1 enI a.ini,lst 1 enB a.acc,lst 4 Trans.cs a.ed]],.cells 1 [[lst 1 enI c.ranks]]])) (fun j=>j≤rows[k].length∧∀ i (h:i < rows[k].length),i < j→0≤c.ranks[k]→0≤rk c.ranks rows[k][i]∧rk c.ranks rows[k][i]≤less ac c.ranks[k]) (fun j=>rows[k].length - j) 0 ⟨by omega,fun i h hi=>by omega⟩ ⟨[0,1,2],rfl,by decide,rfl,⟨⟨rfl,rfl⟩,⟨rfl,rfl⟩,⟨rfl,rfl⟩,⟨rfl,rfl⟩,⟨rfl,rfl⟩,⟨rfl,rfl⟩,⟨rfl,rfl⟩,⟨rfl,by first|(rw [show less ac c.ranks[k]=c.ranks[k] - 1 from if_pos (by assumption)];rfl)|(rw [show less ac c.ranks[k]=c.ranks[k] from if_neg (by simp [*])];rfl)⟩,⟨rfl,rfl⟩,⟨rfl,rfl⟩,⟨rfl,rfl⟩,trivial⟩,⟨z24 rfl rfl,z24 rfl rfl,z24 rfl rfl,trivial⟩⟩ ?_
        rintro j ⟨hj1,hj2⟩
        by_cases hjl:j < rows[k].length
        · have hx:=hxs _ (List.getElem_mem hjl)
          have hix:rows[k][j].toNat < c.ranks.length:=by omega
          have hrk2:rk c.ranks rows[k][j]=c.ranks[rows[k][j].toNat]'hix:=z19 hix
          repeat' (first|(apply AWP.go ok;rfl;conv=>whnf)|(apply And.intro;(first|omega|(unfold inI;omega));conv=>whnf)|(with_reducible apply z11;omega;intro _;conv=>whnf)|(with_reducible apply z69;omega;intro _;conv=>whnf)|(apply z7<;>intro _<;>conv=>whnf)|(apply z82<;>intro _<;>conv=>whnf)|(apply z9 (z389 _ 0 (less ac c.ranks[k]));rfl;rfl;conv=>whnf))
          · rename_i hb
            rw [z362] at hb
            exact z27 rfl (decide_eq_false fun h=>hb (by rw [← hrk2];exact hno h (by assumption) _ (List.getElem_mem hjl)))
          · rename_i hb
            refine z78 (j+1) [0,1,2] ⟨by omega,fun i hi hij h0=>?_⟩ (by omega) ⟨rfl,by decide,rfl,by repeat' (first|exact True.intro|exact ⟨rfl,rfl⟩|apply And.intro),by repeat' (first|exact True.intro|exact z24 rfl rfl|apply And.intro)⟩
            rcases Nat.lt_or_ge i j with h3|h3
            · exact hj2 i hi h3 h0
            · obtain rfl:i=j:=by omega
              rw [hrk2];exact z144.1 hb
          · refine z78 (j+1) [0,1,2] ⟨by omega,fun i hi hij h0=>?_⟩ (by omega) ⟨rfl,by decide,rfl,by repeat' (first|exact True.intro|exact ⟨rfl,rfl⟩|apply And.intro),by repeat' (first|exact True.intro|exact z24 rfl rfl|apply And.intro)⟩
            exact absurd h0 (by assumption)
          · omega
        · repeat' (first|(apply AWP.go ok;rfl;conv=>whnf)|(apply And.intro;(first|omega|(unfold inI;omega));conv=>whnf)|(with_reducible apply z11;omega;intro _;conv=>whnf)|(with_reducible apply z69;omega;intro _;conv=>whnf)|(apply z7<;>intro _<;>conv=>whnf))
          all_goals first|(exfalso;omega)|skip
          refine z78 (k+1) [0,1,2] ⟨by omega,hyes fun h0 x hx=>?_⟩ (by omega) ⟨rfl,by decide,rfl,by repeat' (first|exact True.intro|exact ⟨rfl,rfl⟩|apply And.intro),by repeat' (first|exact True.intro|exact z24 rfl rfl|apply And.intro)⟩
          obtain ⟨i,hi,rfl⟩:=List.mem_iff_getElem.1 hx
          exact hj2 i hi (by omega) h0
    · repeat' (first|(apply AWP.go ok;rfl;conv=>whnf)|(apply z34;kernel_rfl;conv=>whnf)|(apply And.intro;(omega);conv=>whnf)|(with_reducible apply z11;omega;intro _;conv=>whnf)|(with_reducible apply z69;omega;intro _;conv=>whnf)|(apply z7<;>intro _<;>conv=>whnf)|(apply z92<;>intro _<;>conv=>whnf))
      all_goals first|(exfalso;omega)|skip
      exact z27 rfl (decide_eq_true ⟨hcl,hrng,hiniR,fun i h=>hk2 i h (by omega)⟩)
  · have hgl:=(Bool.not_eq_true _).mp hgl
    rw [hgl] at k1
    have e:z629 g l a c=false:=by unfold z629;rw [hgl];rfl
    rw [e]
    refine z17 z18 Tryz.func16 rfl rfl 104 Tryz.ntmps16 (by simp) ?_
    repeat' (first|(apply AWP.go ok;rfl;conv=>whnf)|(apply z9 (k1);rfl;rfl;conv=>whnf))
    all_goals (refine z27 rfl ?_;rfl)
end Go.Proofs.YtknlmbniicacmaaGreat

namespace Go.Proofs.YtknlmbniicacmaaGreat
open Go.Gl
attribute [local irreducible] z31 AWP z48 z52 z50
theorem z719 (l:List Int) (hl:l.length≤1048576):CallsA Tryz.prog 215 [ints l] [] (.sref 0 0 l.length) [.cells 1 (l.map enI)]:=by
  by_cases hp:0 < l.length
  · exact z562 l hl hp
  · obtain rfl:l=[]:=List.eq_nil_of_length_eq_zero (by omega)
    refine z502 (z702 Tryz.func215 rfl (by rfl)) fun ad cap=>?_
    cases ad with
    | none =>
      refine CallsA.nils (res:=.nils) (l:=[.cells 1 []]) ?_ (by simp) z841
      refine z17 z18 Tryz.func215 rfl rfl 8 Tryz.ntmps215 (by simp) ?_
      repeat' ((apply AWP.go ok;rfl;conv=>whnf))
      all_goals exact z54 rfl rfl rfl
    | some p =>
      refine z17 z18 Tryz.func215 rfl rfl 8 Tryz.ntmps215 (by simp) ?_
      repeat' (first|(apply AWP.go ok;rfl;conv=>whnf)|(apply And.intro;(omega);conv=>whnf))
      all_goals (exact z342 rfl z37 rfl rfl rfl)
theorem z617 (l:List Int) (hl:l.length≤1048576):CallsA Tryz.prog 161 [ints l] [] (.sref 0 0 l.length) [.cells 1 (l.map enI)]:=by
  refine z17 z18 Tryz.func161 rfl rfl 6 Tryz.ntmps161 (by simp) ?_
  repeat' (first|(apply AWP.go ok;rfl;conv=>whnf)|(apply z8 [] [] [0] (z719 l hl);rfl;(focus ((repeat' (exact z4))<;>(fail)));rfl;rfl;rfl;rfl;rfl;(focus ((repeat' (first|exact z15|apply z14))<;>((refine z25 ?_;((exact z6 (fun _=>rfl)))))));(exact .inl rfl);conv=>whnf)|(apply z8 [0] [] [] (z325 l hl);rfl;(focus ((repeat' (first|exact z4|apply z5))<;>((refine z86 rfl ?_;((exact z6 (fun _=>rfl)))))));rfl;rfl;rfl;rfl;rfl;(focus ((repeat' (first|exact z15|apply z14))<;>((refine z25 ?_;((exact z6 (fun _=>rfl)))))));(exact .inl rfl);conv=>whnf))
  exact z342 rfl (z6 fun _=>rfl) rfl rfl rfl
structure RI (rows:List (List Int)) (ini S L:List Int):Prop where
  inS:InN rows.length S
  sub:∀ x∈L,x∈S
  rp:∀ x∈S,RP rows ini x
  base:∀ x∈ini,x∈S
def Shut (rows:List (List Int)) (S:List Int) (x:Int):Prop:=∀ y∈rows.getD x.toNat [],y∈S
set_option maxHeartbeats 1600000 in
theorem z344 (rows:List (List Int)) (ini:List Int) (hr:∀ r∈rows,InN rows.length r) (hi:InN rows.length ini) (hN:rows.length≤1048576) (hrl:∀ r∈rows,r.length≤1000000000) (hil:ini.length≤1048576):CallsA Tryz.prog 108 [lst 1 encL rows,ints ini] [] (.sref 0 0 rows.length) [.cells 1 ((z100 rows ini).map enB)]:=by
  have c0:=z617 ini hil
  refine z17 z18 Tryz.func108 rfl rfl 64 Tryz.ntmps108 (by simp) ?_
  repeat' (first|(apply AWP.go ok;rfl;conv=>whnf)|(apply And.intro;((dsimp only;omega));conv=>whnf)|(apply z8 [] [] [1] (c0);rfl;(focus ((repeat' (exact z4))<;>(fail)));rfl;rfl;rfl;rfl;rfl;(focus ((repeat' (first|exact z15|apply z14))<;>((refine z25 ?_;((exact z6 (fun _=>rfl)))))));(exact .inl rfl);conv=>whnf))
  refine z90 (fun i:Nat=>([(0,lst 1 encL rows),(5,.sref 0 0 rows.length),(6,.sref 1 0 ini.length),(17,ints ini),(18,.int ini.length),(19,.int i)],[.cells 1 ((mkB rows.length (ini.take i)).map enB),.cells 1 (ini.map enI)])) (fun i=>i≤ini.length) (fun i=>ini.length - i) 0 (by omega) ⟨[0,1],rfl,by decide,rfl,⟨⟨rfl,rfl⟩,⟨rfl,rfl⟩,⟨rfl,rfl⟩,⟨rfl,rfl⟩,⟨rfl,rfl⟩,⟨rfl,rfl⟩,trivial⟩,⟨z40 (z56 (by rw [List.take_zero,z601,List.map_replicate];rfl)) (z6 fun _=>rfl),z40 rfl (z6 fun _=>rfl),trivial⟩⟩ ?_
  intro i hil2
  by_cases hil3:i < ini.length
  · have hx:=hi ini[i] (List.getElem_mem _)
    repeat' (first|(apply AWP.go ok;rfl;conv=>whnf)|(refine z236 (enc:=enB) (v:=ini[i]) (by rfl) hx.1 hx.2 ?_;conv=>whnf)|(apply And.intro;(first|omega|(unfold inI;omega));conv=>whnf)|(with_reducible apply z11;omega;intro _;conv=>whnf)|(apply z7<;>intro _<;>conv=>whnf))
    all_goals first|(exfalso;omega)|skip
    exact z78 (i+1) [0,1] (by omega) (by omega) ⟨rfl,by decide,rfl,⟨⟨rfl,rfl⟩,⟨rfl,rfl⟩,⟨rfl,rfl⟩,⟨rfl,rfl⟩,⟨rfl,rfl⟩,⟨rfl,rfl⟩,trivial⟩,⟨z40 (z56 (z313 (enc:=enB) (by rfl) hx.1 hx.2 fun x=>by rw [List.take_succ_eq_append_getElem hil3,List.mem_append,List.mem_singleton])) (z6 fun _=>rfl),z40 rfl (z6 fun _=>rfl),trivial⟩⟩
  repeat' (first|(apply AWP.go ok;rfl;conv=>whnf)|(apply And.intro;(omega);conv=>whnf)|(with_reducible apply z11;omega;intro _;conv=>whnf)|(apply z11;omega;intro _;conv=>whnf)|(apply z7<;>intro _<;>conv=>whnf))
  all_goals first|(exfalso;omega)|skip
  obtain rfl:i=ini.length:=by omega
  rw [List.take_length]
  refine z90 (fun x:List Int×List Int×List Int=>([(0,lst 1 encL rows),(5,.sref 0 0 rows.length),(6,.sref 1 0 x.2.1.length)],[.cells 1 ((mkB rows.length x.1).map enB),.cells 1 ((x.2.1++x.2.2).map enI)])) (fun x=>RI rows ini x.1 x.2.1∧(∀ v∈x.1,v ∉ x.2.1→Shut rows x.1 v)∧2 * cntU rows.length x.1+x.2.1.length≤2 * rows.length+ini.length) (fun x=>2 * cntU rows.length x.1+x.2.1.length) (ini,ini,[]) ⟨⟨hi,fun _ h=>h,fun _ h=>.base h,fun _ h=>h⟩,fun v h h'=>absurd h h',by have:=z926 rows.length ini;dsimp only;omega⟩ ⟨[0,1],rfl,by decide,rfl,⟨⟨rfl,rfl⟩,⟨rfl,rfl⟩,⟨rfl,rfl⟩,trivial⟩,⟨z40 rfl (z6 fun _=>rfl),z40 (z56 (by rw [List.append_nil])) (z6 fun _=>rfl),trivial⟩⟩ ?_
  rintro ⟨S,L,J⟩ ⟨hRI,hsh,hLl⟩
  dsimp only at hRI hsh hLl ⊢
  rcases List.eq_nil_or_concat L with rfl|⟨L,x,rfl⟩
  · repeat' ((apply AWP.go ok;rfl;conv=>whnf))
    all_goals skip
    refine z470 rfl (z6 fun _=>rfl) rfl ?_
    rw [z678]
    intro v _
    refine ⟨fun h=>hRI.rp _ h,fun h=>?_⟩
    generalize (v:Int)=u at h
    induction h with
    | base h=>exact hRI.base _ h
    | step _ h2 ih=>exact hsh _ ih (by simp) _ h2
  · rw [List.concat_eq_append] at *
    have hxS:x∈S:=hRI.sub x (by simp)
    have hx:=hRI.inS x hxS
    have e:(L++[x]).length=L.length+1:=by simp
    have hxr:x.toNat < rows.length:=by omega
    rw [e] at hLl
    rw [e,List.append_assoc,List.singleton_append]
    have hg:((L++x::J).map enI)[L.length]?=some (enI x):=by simp
    have hrow:rows.getD x.toNat []=rows[x.toNat]:=z19 hxr
    have hrin:InN rows.length rows[x.toNat]:=hr _ (List.getElem_mem _)
    have hrl2:=hrl rows[x.toNat] (List.getElem_mem _)
    repeat' (first|(apply AWP.go ok;rfl;conv=>whnf)|(refine z16 (i:=L.length) (by omega) hg ?_;conv=>whnf)|(apply And.intro;(first|omega|(unfold inI;omega));conv=>whnf)|(with_reducible apply z69;omega;intro _;conv=>whnf)|(apply z7<;>intro _<;>conv=>whnf))
    all_goals first|(exfalso;omega)|skip
    generalize hrw:rows[x.toNat]=row at *
    refine z90 (fun y:List Int×List Int×List Int×Nat=>([(0,lst 1 encL rows),(5,.sref 0 0 rows.length),(6,.sref 1 0 y.2.1.length),(44,ints row),(45,.int row.length),(46,.int y.2.2.2)],[.cells 1 ((mkB rows.length y.1).map enB),.cells 1 ((y.2.1++y.2.2.1).map enI)])) (fun y=>RI rows ini y.1 y.2.1∧(∀ v∈y.1,v ∉ y.2.1→v≠x→Shut rows y.1 v)∧(∀ v∈row.take y.2.2.2,v∈y.1)∧y.2.2.2≤row.length∧2 * cntU rows.length y.1+y.2.1.length≤2 * cntU rows.length S+L.length) (fun y=>row.length - y.2.2.2) (S,L,x::J,0) ⟨⟨hRI.inS,fun v hv=>hRI.sub v (by simp [hv]),hRI.rp,hRI.base⟩,fun v hv hv' hne=>hsh v hv (by simp [hv',hne]),fun v hv=>by simp at hv,Nat.zero_le _,Nat.le_refl _⟩ ⟨[0,1],rfl,by decide,rfl,⟨⟨rfl,rfl⟩,⟨rfl,rfl⟩,⟨rfl,z240 (by dsimp only;omega) rfl⟩,⟨rfl,rfl⟩,⟨rfl,rfl⟩,⟨rfl,rfl⟩,trivial⟩,⟨z40 rfl (z6 fun _=>rfl),z40 rfl (z6 fun _=>rfl),trivial⟩⟩ ?_
    rintro ⟨S',L',J',i⟩ ⟨h1,h2,h3,h4,h5⟩
    dsimp only at h1 h2 h3 h4 h5 ⊢
    by_cases hil4:i < row.length
    · have hy:=hrin row[i] (List.getElem_mem _)
      repeat' (first|(apply AWP.go ok;rfl;conv=>whnf)|(refine z236 (enc:=enB) (v:=row[i]) (by rfl) hy.1 hy.2 ?_;conv=>whnf)|(apply And.intro;(first|omega|(unfold inI;omega)|((try dsimp only);simp only [List.length_map,List.length_take,List.length_append,List.length_replicate,List.length_cons,List.length_nil];omega)|exact ⟨rfl,z21 rfl z30⟩);conv=>whnf)|(with_reducible apply z11;omega;intro _;conv=>whnf)|(apply z7<;>intro _<;>conv=>whnf)|(apply z38<;>intro _<;>conv=>whnf))
      all_goals first|(exfalso;omega)|skip
      · rename_i hn
        have hn:row[i] ∉ S':=by simpa using hn
        have hc:=cntU_lt (S:=S') (S':=S'++[row[i]]) (fun v hv=>by simp [hv]) hn (by simp) rows.length hy.1 hy.2
        refine z78 (S'++[row[i]],L'++[row[i]],[],i+1) [0,3] ⟨⟨fun v hv=>?_,fun v hv=>?_,fun v hv=>?_,fun v hv=>by simp [h1.base v hv]⟩,fun v hv hv' hne=>?_,fun v hv=>?_,by dsimp only;omega,?_⟩ (by dsimp only;omega) ⟨rfl,by decide,rfl,⟨⟨rfl,rfl⟩,⟨rfl,rfl⟩,⟨rfl,z240 (by simp) rfl⟩,⟨rfl,rfl⟩,⟨rfl,rfl⟩,⟨rfl,rfl⟩,trivial⟩,⟨z40 (z56 (z313 (enc:=enB) (by rfl) hy.1 hy.2 fun v=>by simp)) (z6 fun _=>rfl),z40 (z56 ?_) (z6 fun _=>rfl),trivial⟩⟩
        · rcases List.mem_append.1 hv with hv|hv
          · exact h1.inS v hv
          · rw [List.mem_singleton.1 hv];exact hy
        · rcases List.mem_append.1 hv with hv|hv
          · exact List.mem_append_left _ (h1.sub v hv)
          · exact List.mem_append_right _ hv
        · rcases List.mem_append.1 hv with hv|hv
          · exact h1.rp v hv
          · rw [List.mem_singleton.1 hv];exact .step (hRI.rp x hxS) (by rw [hrow];exact List.getElem_mem _)
        · dsimp only at hv hv'
          rcases List.mem_append.1 hv with hv|hv
          · exact fun y hy=>List.mem_append_left _ (h2 v hv (fun h=>hv' (List.mem_append_left _ h)) hne y hy)
          · exact absurd (List.mem_append_right _ hv) hv'
        · dsimp only at hv ⊢
          rw [List.take_succ_eq_append_getElem hil4] at hv
          rcases List.mem_append.1 hv with hv|hv
          · exact List.mem_append_left _ (h3 v hv)
          · exact List.mem_append_right _ hv
        · dsimp only
          rw [List.length_append]
          simp only [List.length_singleton]
          omega
        · dsimp only
          rw [List.append_nil,List.map_append,List.map_append,List.take_append_of_le_length (by simp),List.take_of_length_le (by simp)]
          rfl
      · refine z78 (S',L',J',i+1) [0,1] ⟨h1,h2,fun v hv=>?_,by dsimp only;omega,h5⟩ (by dsimp only;omega) ⟨rfl,by decide,rfl,⟨⟨rfl,rfl⟩,⟨rfl,rfl⟩,⟨rfl,rfl⟩,⟨rfl,rfl⟩,⟨rfl,rfl⟩,⟨rfl,rfl⟩,trivial⟩,⟨z40 rfl (z6 fun _=>rfl),z40 rfl (z6 fun _=>rfl),trivial⟩⟩
        dsimp only at hv ⊢
        rw [List.take_succ_eq_append_getElem hil4] at hv
        rcases List.mem_append.1 hv with hv|hv
        · exact h3 v hv
        · rw [List.mem_singleton.1 hv];assumption
    · repeat' (first|(apply AWP.go ok;rfl;conv=>whnf)|(apply And.intro;(omega);conv=>whnf)|(with_reducible apply z11;omega;intro _;conv=>whnf)|(apply z11;omega;intro _;conv=>whnf)|(apply z7<;>intro _<;>conv=>whnf)|(apply z82<;>intro _<;>conv=>whnf))
      all_goals first|(exfalso;omega)|skip
      have hie:i=row.length:=by omega
      refine z78 (S',L',J') [0,1] ⟨h1,fun v hv hv'=>?_,by dsimp only;omega⟩ (by dsimp only;rw [e];omega) ⟨rfl,by decide,rfl,⟨⟨rfl,rfl⟩,⟨rfl,rfl⟩,⟨rfl,rfl⟩,trivial⟩,⟨z40 rfl (z6 fun _=>rfl),z40 rfl (z6 fun _=>rfl),trivial⟩⟩
      by_cases hvx:v=x
      · subst hvx
        intro y hy
        rw [hrow] at hy
        exact h3 y (by rw [hie,List.take_length];exact hy)
      · exact h2 v hv hv' hvx
end Go.Proofs.YtknlmbniicacmaaGreat

namespace Go.Proofs.YtknlmbniicacmaaGreat
open Go.Gl
attribute [local irreducible] z31 AWP z48 z52 z50
theorem z644 {Q:List Int} {x:Int} (h:x ∉ Q):z149 Q x=Q++[x]:=by unfold z149;rw [if_neg h]
theorem z643 {Q:List Int} {x:Int} (h:x∈Q):z149 Q x=Q:=by unfold z149;rw [if_pos h]
theorem z548 {Q Q' : List Int} {x:Int} (h:Q'=Q++[x]):((Q.map enI).take Q.length)++[enI x]=Q'.map enI:=by
  subst h
  rw [List.take_of_length_le (by simp),List.map_append];rfl
set_option maxHeartbeats 1600000 in
theorem z785 (rows:List (List Int)) (ini:List Int) (hr:∀ r∈rows,InN rows.length r) (hi:InN rows.length ini) (hN:rows.length≤1048576) (hrl:∀ r∈rows,r.length≤1000000000) (hil:ini.length≤1048576):CallsA Tryz.prog 109 [lst 1 encL rows,ints ini] [] (.sref 0 0 (bfsL rows ini).length) [.cells 1 ((bfsL rows ini).map enI)]:=by
  refine z17 z18 Tryz.func109 rfl rfl 83 Tryz.ntmps109 (by simp) ?_
  repeat' (first|(apply AWP.go ok;rfl;conv=>whnf)|(apply And.intro;((dsimp only;omega));conv=>whnf))
  refine z90 (fun i:Nat=>([(0,lst 1 encL rows),(1,ints ini),(5,.sref 0 0 rows.length),(6,.sref 1 0 (z72 [] (ini.take i)).length),(7,.int i)],[.cells 1 ((mkB rows.length (z72 [] (ini.take i))).map enB),.cells 1 ((z72 [] (ini.take i)).map enI)])) (fun i=>i≤ini.length) (fun i=>ini.length - i) 0 (by omega) ⟨[0,1],rfl,by decide,rfl,⟨⟨rfl,rfl⟩,⟨rfl,rfl⟩,⟨rfl,rfl⟩,⟨rfl,rfl⟩,⟨rfl,rfl⟩,trivial⟩,⟨z40 (z56 (by show _=(mkB rows.length []).map enB;rw [z601,List.map_replicate];rfl)) (z6 fun _=>rfl),z40 rfl (z6 fun _=>rfl),trivial⟩⟩ ?_
  intro i hil2
  have hQn:(z72 [] (ini.take i)).length≤rows.length:=z135 _ _ (z133 (by simp)) (z205 (fun x hx=>by cases hx) fun x hx=>hi x (List.mem_of_mem_take hx))
  by_cases hil3:i < ini.length
  · have hx:=hi ini[i] (List.getElem_mem _)
    have hv:=z225 (out:=[]) hil3
    by_cases hn:ini[i] ∉ z72 [] (ini.take i)
    · repeat' (first|(apply AWP.go ok;rfl;conv=>whnf)|(refine z236 (enc:=enB) (v:=ini[i]) (by rfl) hx.1 hx.2 ?_;conv=>whnf)|(apply And.intro;(first|omega|(unfold inI;omega)|((try dsimp only);simp only [List.length_map,List.length_take,List.length_append,List.length_replicate,List.length_cons,List.length_nil];omega)|exact ⟨rfl,z21 rfl z30⟩);conv=>whnf)|(with_reducible apply z11;omega;intro _;conv=>whnf)|(apply z7<;>intro _<;>conv=>whnf)|(apply z38<;>intro _<;>conv=>whnf))
      all_goals first|(exfalso;omega)|(exfalso;simp_all;done)|skip
      rw [z644 hn] at hv
      exact z78 (i+1) [0,3] (by omega) (by omega) ⟨rfl,by decide,rfl,⟨⟨rfl,rfl⟩,⟨rfl,rfl⟩,⟨rfl,rfl⟩,⟨rfl,z240 (by rw [hv];simp) rfl⟩,⟨rfl,rfl⟩,trivial⟩,⟨z40 (z56 (z313 (enc:=enB) (by rfl) hx.1 hx.2 fun v=>by rw [hv];simp)) (z6 fun _=>rfl),z40 (z56 (z548 hv)) (z6 fun _=>rfl),trivial⟩⟩
    · have hn:=Decidable.not_not.1 hn
      repeat' (first|(apply AWP.go ok;rfl;conv=>whnf)|(refine z236 (enc:=enB) (v:=ini[i]) (by rfl) hx.1 hx.2 ?_;conv=>whnf)|(apply And.intro;(first|omega|(unfold inI;omega)|((try dsimp only);simp only [List.length_map,List.length_take,List.length_append,List.length_replicate,List.length_cons,List.length_nil];omega)|exact ⟨rfl,z21 rfl z30⟩);conv=>whnf)|(with_reducible apply z11;omega;intro _;conv=>whnf)|(apply z7<;>intro _<;>conv=>whnf)|(apply z38<;>intro _<;>conv=>whnf))
      all_goals first|(exfalso;omega)|(exfalso;simp_all;done)|skip
      rw [z643 hn] at hv
      exact z78 (i+1) [0,1] (by omega) (by omega) ⟨rfl,by decide,rfl,⟨⟨rfl,rfl⟩,⟨rfl,rfl⟩,⟨rfl,rfl⟩,⟨rfl,z240 (by rw [hv]) rfl⟩,⟨rfl,rfl⟩,trivial⟩,⟨z40 (z56 (by rw [hv])) (z6 fun _=>rfl),z40 (z56 (by rw [hv])) (z6 fun _=>rfl),trivial⟩⟩
  repeat' (first|(apply AWP.go ok;rfl;conv=>whnf)|(apply And.intro;(omega);conv=>whnf)|(with_reducible apply z11;omega;intro _;conv=>whnf)|(apply z11;omega;intro _;conv=>whnf)|(apply z7<;>intro _<;>conv=>whnf)|(apply z82<;>intro _<;>conv=>whnf))
  all_goals first|(exfalso;omega)|skip
  obtain rfl:i=ini.length:=by omega
  rw [List.take_length]
  clear hQn
  refine z90 (fun i:Nat=>([(0,lst 1 encL rows),(5,.sref 0 0 rows.length),(6,.sref 1 0 (bfs rows ini i).length),(8,.int i)],[.cells 1 ((mkB rows.length (bfs rows ini i)).map enB),.cells 1 ((bfs rows ini i).map enI)])) (fun i=>i≤(bfs rows ini i).length) (fun i=>rows.length - i) 0 (by omega) ⟨[0,1],rfl,by decide,rfl,⟨⟨rfl,rfl⟩,⟨rfl,rfl⟩,⟨rfl,rfl⟩,⟨rfl,rfl⟩,trivial⟩,⟨z40 rfl (z6 fun _=>rfl),z40 rfl (z6 fun _=>rfl),trivial⟩⟩ ?_
  intro i hi1
  have hbl:=z245 hr hi i
  by_cases hi2:i < (bfs rows ini i).length
  · have hq:=z365 hr hi i _ (List.getElem_mem hi2)
    have hb:=bfs.eq_2 rows ini i
    rw [dif_pos hi2] at hb
    have hnd:=z508 (rows:=rows) (ini:=ini) i
    have hin:=z365 hr hi i
    generalize hQ0:bfs rows ini i=Q0 at *
    have hqr:Q0[i].toNat < rows.length:=by omega
    have hrow:rows.getD Q0[i].toNat []=rows[Q0[i].toNat]:=z19 hqr
    have hrin:InN rows.length rows[Q0[i].toNat]:=hr _ (List.getElem_mem _)
    have hrl2:=hrl rows[Q0[i].toNat] (List.getElem_mem _)
    rw [hrow] at hb
    repeat' (first|(apply AWP.go ok;rfl;conv=>whnf)|(apply z7<;>intro _<;>conv=>whnf))
    all_goals first|(exfalso;omega)|skip
    refine z90 (fun k:Nat=>([(0,lst 1 encL rows),(5,.sref 0 0 rows.length),(6,.sref 1 0 (z72 Q0 (rows[Q0[i].toNat].take k)).length),(8,.int i),(9,.int k)],[.cells 1 ((mkB rows.length (z72 Q0 (rows[Q0[i].toNat].take k))).map enB),.cells 1 ((z72 Q0 (rows[Q0[i].toNat].take k)).map enI)])) (fun k=>k≤rows[Q0[i].toNat].length) (fun k=>rows[Q0[i].toNat].length - k) 0 (by omega) ⟨[0,1],rfl,by decide,rfl,⟨⟨rfl,rfl⟩,⟨rfl,rfl⟩,⟨rfl,rfl⟩,⟨rfl,rfl⟩,⟨rfl,rfl⟩,trivial⟩,⟨z40 rfl (z6 fun _=>rfl),z40 rfl (z6 fun _=>rfl),trivial⟩⟩ ?_
    intro k hk1
    have hQn:(z72 Q0 (rows[Q0[i].toNat].take k)).length≤rows.length:=z135 _ _ (z133 hnd) (z205 hin fun x hx=>hrin x (List.mem_of_mem_take hx))
    obtain ⟨t,ht⟩:=z368 Q0 (rows[Q0[i].toNat].take k)
    have hgl:i < (z72 Q0 (rows[Q0[i].toNat].take k)).length:=by rw [ht,List.length_append];omega
    have hg:((z72 Q0 (rows[Q0[i].toNat].take k)).map enI)[i]?=some (enI Q0[i]):=by
      rw [ht,List.map_append,List.getElem?_append_left (by simpa using hi2),List.getElem?_map,List.getElem?_eq_getElem hi2];rfl
    by_cases hk2:k < rows[Q0[i].toNat].length
    · have hx:=hrin rows[Q0[i].toNat][k] (List.getElem_mem _)
      have hv:=z225 (out:=Q0) hk2
      by_cases hn:rows[Q0[i].toNat][k] ∉ z72 Q0 (rows[Q0[i].toNat].take k)
      · repeat' (first|(apply AWP.go ok;rfl;conv=>whnf)|(refine z236 (enc:=enB) (v:=rows[Q0[i].toNat][k]) (by rfl) hx.1 hx.2 ?_;conv=>whnf)|(refine z16 (i:=i) (by rfl) hg ?_;conv=>whnf)|(apply And.intro;(first|omega|(unfold inI;omega)|((try dsimp only);simp only [List.length_map,List.length_take,List.length_append,List.length_replicate,List.length_cons,List.length_nil];omega)|exact ⟨rfl,z21 rfl z30⟩);conv=>whnf)|(with_reducible apply z11;omega;intro _;conv=>whnf)|(with_reducible apply z69;omega;intro _;conv=>whnf)|(apply z7<;>intro _<;>conv=>whnf)|(apply z38<;>intro _<;>conv=>whnf))
        all_goals first|(exfalso;omega)|(exfalso;simp_all;done)|skip
        rw [z644 hn] at hv
        exact z78 (k+1) [0,3] (by omega) (by omega) ⟨rfl,by decide,rfl,⟨⟨rfl,rfl⟩,⟨rfl,rfl⟩,⟨rfl,z240 (by rw [hv];simp) rfl⟩,⟨rfl,rfl⟩,⟨rfl,rfl⟩,trivial⟩,⟨z40 (z56 (z313 (enc:=enB) (by rfl) hx.1 hx.2 fun v=>by rw [hv];simp)) (z6 fun _=>rfl),z40 (z56 (z548 hv)) (z6 fun _=>rfl),trivial⟩⟩
      · have hn:=Decidable.not_not.1 hn
        repeat' (first|(apply AWP.go ok;rfl;conv=>whnf)|(refine z236 (enc:=enB) (v:=rows[Q0[i].toNat][k]) (by rfl) hx.1 hx.2 ?_;conv=>whnf)|(refine z16 (i:=i) (by rfl) hg ?_;conv=>whnf)|(apply And.intro;(first|omega|(unfold inI;omega)|((try dsimp only);simp only [List.length_map,List.length_take,List.length_append,List.length_replicate,List.length_cons,List.length_nil];omega)|exact ⟨rfl,z21 rfl z30⟩);conv=>whnf)|(with_reducible apply z11;omega;intro _;conv=>whnf)|(with_reducible apply z69;omega;intro _;conv=>whnf)|(apply z7<;>intro _<;>conv=>whnf)|(apply z38<;>intro _<;>conv=>whnf))
        all_goals first|(exfalso;omega)|(exfalso;simp_all;done)|skip
        rw [z643 hn] at hv
        exact z78 (k+1) [0,1] (by omega) (by omega) ⟨rfl,by decide,rfl,⟨⟨rfl,rfl⟩,⟨rfl,rfl⟩,⟨rfl,z240 (by rw [hv]) rfl⟩,⟨rfl,rfl⟩,⟨rfl,rfl⟩,trivial⟩,⟨z40 (z56 (by rw [hv])) (z6 fun _=>rfl),z40 (z56 (by rw [hv])) (z6 fun _=>rfl),trivial⟩⟩
    · repeat' (first|(apply AWP.go ok;rfl;conv=>whnf)|(refine z16 (i:=i) (by rfl) hg ?_;conv=>whnf)|(apply And.intro;(first|omega|(unfold inI;omega));conv=>whnf)|(with_reducible apply z11;omega;intro _;conv=>whnf)|(with_reducible apply z69;omega;intro _;conv=>whnf)|(apply z11;omega;intro _;conv=>whnf)|(apply z7<;>intro _<;>conv=>whnf)|(apply z82<;>intro _<;>conv=>whnf))
      all_goals first|(exfalso;omega)|skip
      rw [List.take_of_length_le (by omega)] at hgl
      refine z78 (i+1) [0,1] ?_ (by omega) ⟨rfl,by decide,rfl,⟨⟨rfl,rfl⟩,⟨rfl,rfl⟩,⟨rfl,z240 ?_ rfl⟩,⟨rfl,rfl⟩,trivial⟩,⟨z40 (z56 ?_) (z6 fun _=>rfl),z40 (z56 ?_) (z6 fun _=>rfl),trivial⟩⟩
      · rw [hb];exact hgl
      all_goals (rw [hb,List.take_of_length_le (by omega)])
  · repeat' (first|(apply AWP.go ok;rfl;conv=>whnf)|(apply z7<;>intro _<;>conv=>whnf))
    all_goals first|(exfalso;omega)|skip
    have he:bfs rows ini i=bfsL rows ini:=z865 hr hi (by omega) (by omega)
    rw [he]
    exact z342 rfl (z6 fun _=>rfl) rfl rfl rfl
theorem z551 (rows:List (List Int)) (ini:List Int) (hr:∀ r∈rows,InN rows.length r) (hi:InN rows.length ini) (hN:rows.length≤1048576) (hrl:∀ r∈rows,r.length≤1000000000) (hil:ini.length≤1048576):CallsA Tryz.prog 109 [lst 1 encL rows,ints ini] [] (ints (bfsL rows ini)) [] :=
  keepI (z785 rows ini hr hi hN hrl hil) rfl
end Go.Proofs.YtknlmbniicacmaaGreat

namespace Go.Proofs.YtknlmbniicacmaaGreat
open Go.Gl
attribute [local irreducible] z31 AWP z48 z52 z50
theorem z111 {g:Graph} {a:Aut} (hG:GB g) (hA:AutP a) (ls:List Int):(∀ r∈z26 g ls a,InN (z26 g ls a).length r)∧InN (z26 g ls a).length a.ini∧(z26 g ls a).length≤3840∧(∀ r∈z26 g ls a,r.length≤1000000000)∧a.ini.length≤1048576:=by
  have hrl:(z26 g ls a).length=g.st.length * a.acc.length:=by unfold z26;rw [z83,Nat.mul_comm]
  have hN:=z128 (a:=(g.st.length:Int)) (b:=(a.acc.length:Int)) (A:=60) (B:=64) (by omega) (by have:=hG.1;omega) (by omega) (by have:=hA.1;omega)
  have hN2:((g.st.length * a.acc.length:Nat):Int)=(g.st.length:Int) * a.acc.length:=by simp
  have ha1:=hA.1
  refine ⟨fun r hr x hx=>?_,fun x hx=>?_,by omega,fun r hr=>?_,?_⟩
  · rw [hrl];exact z475 g hG ls a hA r hr x hx
  · obtain ⟨i,hi,rfl⟩:=List.mem_iff_getElem.1 hx
    have h1:=(hA.2.2.1 i hi hi).1
    have h2:=z128 (a:=(g.st.length:Int) - 1) (b:=(a.acc.length:Int)) (A:=60) (B:=64) (by have:=hG.1;omega) (by have:=hG.1;omega) (by omega) (by omega)
    rw [Int.sub_mul,Int.one_mul] at h2
    omega
  · have:=z407 g hG ls a hA r hr;omega
  · have:=hA.2.2.1.le (by omega);omega
noncomputable def prB (g:Graph) (l:List Tree) (a:Aut):List Bool:=if (glB g l && autB a)=true then z100 (z26 g (g.st.map (z32 l)) a) a.ini else []
theorem prB_le (g:Graph) (l:List Tree) (a:Aut):(prB g l a).length≤3840:=by
  unfold prB
  split
  · rename_i h
    obtain ⟨h1,h2⟩:=Bool.and_eq_true_iff.1 h
    rw [z89]
    exact (z111 ((z91 g).1 (by unfold glB at h1;exact (Bool.and_eq_true_iff.1 h1).1)) (z108.1 h2) _).2.2.1
  · simp
theorem z126 (g:Graph) (hg:g.mx) (l:List Tree) (hl:Lmx l) (a:Aut) (ha:a.mx):CallsA Tryz.prog 30 [.agg g.cs,lst 3 Tree.cs' l,.agg a.cs] [] (.tup [.sref 0 0 (prB g l a).length,.bool (glB g l && autB a)]) [.cells 1 ((prB g l a).map enB)]:=by
  have k1:=z290 g hg l hl a ha
  by_cases hgl:(glB g l && autB a)=true
  · rw [hgl] at k1
    obtain ⟨h1,hab⟩:=Bool.and_eq_true_iff.1 hgl
    have hG:=(z91 g).1 (by unfold glB at h1;exact (Bool.and_eq_true_iff.1 h1).1)
    have hL:=LabelsOk.of (by unfold glB at h1;exact (Bool.and_eq_true_iff.1 h1).2)
    have hA:=z108.1 hab
    have k2:=z282 g hG l hL a hA
    obtain ⟨f1,f2,f3,f4,f5⟩:=z111 hG hA (g.st.map (z32 l))
    have e:prB g l a=z100 (z26 g (g.st.map (z32 l)) a) a.ini:=by unfold prB;rw [if_pos hgl]
    rw [e,hgl,z89]
    generalize z26 g (g.st.map (z32 l)) a=rows at *
    have k3:=z344 rows a.ini f1 f2 (by omega) f4 f5
    refine z17 z18 Tryz.func30 rfl rfl 20 Tryz.ntmps30 (by simp) ?_
    repeat' (first|(apply AWP.go ok;rfl;conv=>whnf)|(apply z9 (k1);rfl;rfl;conv=>whnf)|(apply z9 (k2);rfl;rfl;conv=>whnf)|(apply z1068 (k3);(focus ((repeat' (first|exact z84|apply z60))<;>(rfl)));rfl;rfl;rfl;rfl;(focus ((repeat' (first|exact z15|apply z14))<;>((refine z25 ?_;((exact z6 (fun _=>rfl)))))));(exact .inl rfl);conv=>whnf))
    exact z105 [2] (by decide) rfl rfl rfl ⟨z40 rfl (z6 fun _=>rfl),trivial⟩
  · have e:prB g l a=[]:=by unfold prB;rw [if_neg hgl]
    have hgl:=(Bool.not_eq_true _).mp hgl
    rw [hgl] at k1
    rw [e,hgl]
    refine CallsA.nils (res:=.tup [.nils,.bool false]) ?_ (by simp) (tup_sref z841)
    refine z17 z18 Tryz.func30 rfl rfl 20 Tryz.ntmps30 (by simp) ?_
    repeat' (first|(apply AWP.go ok;rfl;conv=>whnf)|(apply z9 (k1);rfl;rfl;conv=>whnf))
    exact z54 rfl rfl rfl
theorem z312 (g:Graph) (hg:g.mx) (l:List Tree) (hl:Lmx l) (a:Aut) (ha:a.mx):CallsA Tryz.prog 31 [.agg g.cs,lst 3 Tree.cs' l,.agg a.cs] [] (.tup [lst 1 enB (prB g l a),.bool (glB g l && autB a)]) []:=by
  have k0:=z209 g hg l hl
  have k1:=z160 a ha
  by_cases hgl:(glB g l && autB a)=true
  · obtain ⟨h1,hab⟩:=Bool.and_eq_true_iff.1 hgl
    have hG:=(z91 g).1 (by unfold glB at h1;exact (Bool.and_eq_true_iff.1 h1).1)
    have hL:=LabelsOk.of (by unfold glB at h1;exact (Bool.and_eq_true_iff.1 h1).2)
    have hA:=z108.1 hab
    have k2:=z264 g hG (g.st.map (z32 l)) (by simp) (fun x hx=>by
      obtain ⟨s,_,rfl⟩:=List.mem_map.1 hx
      exact z190 hL s) a hA
    obtain ⟨f1,f2,f3,f4,f5⟩:=z111 hG hA (g.st.map (z32 l))
    have e:prB g l a=z100 (z26 g (g.st.map (z32 l)) a) a.ini:=by unfold prB;rw [if_pos hgl]
    rw [if_pos h1,h1] at k0
    rw [hab] at k1
    rw [e,hgl]
    generalize g.st.map (z32 l)=ls at *
    generalize z26 g ls a=rows at *
    have k3:=z551 rows a.ini f1 f2 (by omega) f4 f5
    have hB:=z933 f1 f2
    have hin:=z365 f1 f2 rows.length
    have hbl:=z245 f1 f2 rows.length
    refine keepB (n:=rows.length) ?_ (z89 _ _) rfl
    rw [← hB]
    unfold bfsL at k3 ⊢
    generalize bfs rows a.ini rows.length=Q at *
    refine z17 z18 Tryz.func31 rfl rfl 52 Tryz.ntmps31 (by simp) ?_
    repeat' (first|(apply AWP.go ok;rfl;conv=>whnf)|(apply And.intro;((dsimp only;omega));conv=>whnf)|(apply z9 (k0);rfl;rfl;conv=>whnf)|(apply z9 (k1);rfl;rfl;conv=>whnf)|(apply z9 (k2);rfl;rfl;conv=>whnf)|(apply z9 (k3);rfl;rfl;conv=>whnf))
    all_goals skip
    refine z90 (fun i:Nat=>([(11,.sref 2 0 rows.length),(12,ints Q),(13,.int i)],[.cells 2 [[lst 2 State.cs g.st,lst 1 encL g.nx]],.cells 3 [[lst 1 enI a.ini,lst 1 enB a.acc,lst 4 Trans.cs a.ed]],.cells 1 ((mkB rows.length (Q.take i)).map enB)])) (fun i=>i≤Q.length) (fun i=>Q.length - i) 0 (by omega) ⟨[0,1,2],rfl,by decide,rfl,⟨⟨rfl,rfl⟩,⟨rfl,rfl⟩,⟨rfl,rfl⟩,trivial⟩,⟨z24 rfl rfl,z24 rfl rfl,z40 (z56 (by rw [List.take_zero,z601,List.map_replicate];rfl)) (z6 fun _=>rfl),trivial⟩⟩ ?_
    intro i hi
    by_cases hil:i < Q.length
    · have hx:=hin Q[i] (List.getElem_mem _)
      repeat' (first|(apply AWP.go ok;rfl;conv=>whnf)|(refine z236 (enc:=enB) (v:=Q[i]) (by rfl) hx.1 hx.2 ?_;conv=>whnf)|(apply And.intro;(first|omega|(unfold inI;omega));conv=>whnf)|(with_reducible apply z11;omega;intro _;conv=>whnf)|(apply z7<;>intro _<;>conv=>whnf))
      all_goals first|(exfalso;omega)|skip
      exact z78 (i+1) [0,1,2] (by omega) (by omega) ⟨rfl,by decide,rfl,⟨⟨rfl,rfl⟩,⟨rfl,rfl⟩,⟨rfl,rfl⟩,trivial⟩,⟨z24 rfl rfl,z24 rfl rfl,z40 (z56 (z313 (enc:=enB) (by rfl) hx.1 hx.2 fun v=>by rw [List.take_succ_eq_append_getElem hil,List.mem_append,List.mem_singleton])) (z6 fun _=>rfl),trivial⟩⟩
    · repeat' (first|(apply AWP.go ok;rfl;conv=>whnf)|(apply And.intro;(omega);conv=>whnf)|(with_reducible apply z11;omega;intro _;conv=>whnf)|(apply z11;omega;intro _;conv=>whnf)|(apply z7<;>intro _<;>conv=>whnf))
      all_goals first|(exfalso;omega)|skip
      rw [List.take_of_length_le (by omega)]
      exact z105 [2] (by decide) rfl rfl rfl ⟨z40 rfl (z6 fun _=>rfl),trivial⟩
  · have e:prB g l a=[]:=by unfold prB;rw [if_neg hgl]
    have hgl:=(Bool.not_eq_true _).mp hgl
    rw [e,hgl]
    refine z17 z18 Tryz.func31 rfl rfl 52 Tryz.ntmps31 (by simp) ?_
    repeat' (first|(apply AWP.go ok;rfl;conv=>whnf)|(apply z38<;>intro _<;>conv=>whnf)|(apply z82<;>intro _<;>conv=>whnf)|(apply z9 (k0);rfl;rfl;conv=>whnf)|(apply z9 (k1);rfl;rfl;conv=>whnf))
    all_goals first|exact z676 rfl rfl (z747 z582)|(exfalso;rename_i x y;rw [x,z108.2 y] at hgl;simp at hgl;done)
end Go.Proofs.YtknlmbniicacmaaGreat

namespace Go.Proofs.YtknlmbniicacmaaGreat
open Go.Gl
attribute [local irreducible] z31 AWP z48 z52 z50
structure Cert.ok (c:Cert):Prop where
  mx:c.mx
  len:c.ranks.length≤1048576
theorem Cert.ok_of {c:Cert} (h:c.mx) (h1:c.s1≤1048576):c.ok:=⟨h,h1⟩
end Go.Proofs.YtknlmbniicacmaaGreat

namespace Go.Proofs.YtknlmbniicacmaaGreat
open Go.Gl
attribute [local irreducible] z31 AWP z48 z52 z50
theorem bor_tup {objs:Nat→AObj} {π Bn:List Nat} {xs ys:List AC} (h:borL objs π Bn xs=ys):bor objs π Bn (.tup xs)=.tup ys:=by
  simp only [bor,h]
end Go.Proofs.YtknlmbniicacmaaGreat

namespace Go.Proofs.YtknlmbniicacmaaGreat
open Go.Gl
attribute [local irreducible] z31 AWP z48 z52 z50 RetS z57
theorem trA_len (t:Tree) (hs:t.sz≤200):(trA t).ini.length≤32∧(trA t).acc.length≤66∧(trA t).ed.length≤2080:=by
  unfold trA trO
  by_cases h:bscB t=true
  · rw [if_pos h]
    obtain ⟨⟨ht,hn⟩,h5⟩:=of_decide_eq_true (show decide _=true from h)
    have hp:=pow_5 h5
    have hi:=z848 (bscL (t.nrm false)) (t.nrm false)
    cases hS:trS (bscL (t.nrm false)) (t.nrm false) with
    | none=>exact ⟨Nat.zero_le _,Nat.zero_le _,Nat.zero_le _⟩
    | some y =>
      have hg:=z1040 _ _ _ _ _ _ hS
      simp only [List.length_nil] at hg
      show (numI _).length≤32∧(if y.L.length=0 then [false] else y.acc).length≤66∧(y.ed.map eT).length≤2080
      rw [z840,List.length_map]
      refine ⟨by omega,?_,by omega⟩
      split
      · simp
      · omega
  · rw [if_neg h];exact ⟨Nat.zero_le _,Nat.zero_le _,Nat.zero_le _⟩
theorem letB_lt {B:List Tree} (hB:BasL B) (s:Int) (i:Nat):((List.range i).foldl (atoI B s) (0,0)).2 < 8:=by
  induction i with
  | zero=>show 0 < 8;omega
  | succ i ih =>
    rw [z565]
    unfold atoI
    split
    · rename_i hk
      dsimp only
      split
      · by_cases hil:i < B.length
        · have hmem:B.getD i dftT∈B:=by rw [z19 hil];exact List.getElem_mem _
          have hform:=hB.form hmem
          have hvv:(B.getD i dftT).val.toNat≤2:=by
            generalize B.getD i dftT=f at *
            cases hform with
            | «at» v=>have:=hB.av v hmem;show v.toNat≤2;omega
            | nx a _ _=>simp [Tree.kind] at hk
            | un a b _ _ _ _=>simp [Tree.kind] at hk
            | re a b _ _ _ _=>simp [Tree.kind] at hk
          exact z839 ih hvv
        · rw [List.getD_eq_getElem?_getD,List.getElem?_eq_none (by omega)]
          exact z839 ih (show (0:Nat)≤2 by omega)
      · exact ih
    · exact ih
theorem z856 (B:List Tree) (s ph:Int) (i:Nat) (c v:Int):∀ (l:List Nat) (x:List (List Int)×List Edg),∀ e∈(l.foldl (z393 B s ph i c v) x).2,e∈x.2∨e.val=v
  | [],x,e,he=>.inl he
  | t::l,x,e,he=>by
    rw [List.foldl_cons] at he
    rcases z856 B s ph i c v l _ e he with h|h
    · unfold z393 at h
      split at h
      · rcases List.mem_append.1 h with h1|h1
        · exact .inl h1
        · rw [List.mem_singleton.1 h1];exact .inr rfl
      · exact .inl h
    · exact .inr h
theorem z1039 (B:List Tree) (U:List Int):∀ (f i:Nat) (x y:TrS),goS B U f i x=some y→∀ e∈y.ed,e∈x.ed∨∃ s,e.val=((letB B s).2:Int)
  | 0,i,x,y,h=>by simp [goS] at h
  | f+1,i,x,y,h=>by
    rw [goS] at h
    split at h
    · split at h
      · cases h
      · intro e he
        rcases z1039 B U f (i+1) _ y h e he with h1|h1
        · rcases z856 B _ _ i _ _ _ _ e h1 with h2|h2
          · exact .inl h2
          · exact .inr ⟨_,h2⟩
        · exact .inr h1
    · cases h
      exact fun e he=>.inl he
theorem trA_val (t:Tree) (hs:t.sz≤200):∀ e∈(trA t).ed,e.mx:=by
  unfold trA trO
  by_cases h:bscB t=true
  · rw [if_pos h]
    obtain ⟨⟨ht,hn⟩,h5⟩:=of_decide_eq_true (show decide _=true from h)
    obtain ⟨hB,_,_⟩:=z1074 ht hn h5 hs
    cases hS:trS (bscL (t.nrm false)) (t.nrm false) with
    | none=>intro e he;cases he
    | some y =>
      intro e he
      obtain ⟨e',he',rfl⟩:=List.mem_map.1 (show e∈y.ed.map eT from he)
      rcases z1039 _ _ _ _ _ _ hS e' he' with h1|⟨s,h1⟩
      · cases h1
      · have:=letB_lt hB s (bscL (t.nrm false)).length
        show inI e'.val
        unfold inI
        rw [h1]
        unfold letB
        omega
  · rw [if_neg h];intro e he;cases he
end Go.Proofs.YtknlmbniicacmaaGreat

