/- A part of the proofs over this program: T47, T48, T121, T49, T124, T132, T128, T50, T133, T134, T125, T220, T140, T141, T142, T221, T222, T223, T143, T224, T144, T225, T145. -/
import Derived.Test.YtjhgpfaodkchjaaGreatG0
import Derived.Test.YtjhgpfaodkchjaaGreatG1
import Derived.Test.YtjhgpfaodkchjaaGreatG2
import Derived.Test.YtjhgpfaodkchjaaGreatG3
import Derived.Test.YtjhgpfaodkchjaaGreatP0
import Derived.Test.YtjhgpfaodkchjaaGreatP1
import Derived.Test.YtjhgpfaodkchjaaGreatP2
import Derived.Test.YtjhgpfaodkchjaaGreatP3
set_option linter.all false
namespace Go.Proofs.YtjhgpfaodkchjaaGreat
open Go.Gl
attribute [local irreducible] z20 AWP z31 z38 z34
def bisN (g:Graph) (b:List Int):Nat→List Int
 |0=>b
 |k+1=>refL g (bisN g b k)
def bis0 (g:Graph) (l:List Tree):List Int:=(numF (z456 (g.st.map (z42 l))) g.st.length).1
def bisF (g:Graph) (l:List Tree):List Int:=bisN g (bis0 g l) g.st.length
theorem z693 (g:Graph) (b:List Int) (hb:b.length=g.st.length) (k:Nat):(bisN g b k).length=g.st.length:=by
 cases k with
 |zero=>exact hb
 |succ k=>exact z313 _ _
def BK (g:Graph) (b:List Int) (k:Nat):Prop:=∃ κ:Nat→List Int,bisN g b k=(numK κ g.st.length).1∧k≤(numK κ g.st.length).2
theorem numK_cnt {K:Type} [DecidableEq K] (κ:Nat→K) (n:Nat):(numK κ n).2≤n:=(z525 _ n).2
theorem BK.le {g:Graph} {b:List Int} {k:Nat} (h:BK g b k):k≤g.st.length:=by
 obtain ⟨κ,_,h2⟩:=h
 have:=numK_cnt κ g.st.length;omega
theorem BK.step {g:Graph} {b:List Int} {k:Nat} (h:BK g b k) (hne:bisN g b (k+1)≠bisN g b k):BK g b (k+1):=by
 obtain ⟨κ,h1,h2⟩:=h
 refine ⟨keyA g (bisN g b k),rfl,?_⟩
 obtain ⟨h3,h4,_⟩:=z982 (κ:=κ) (κ':=keyA g (bisN g b k)) (n:=g.st.length) (fun x y hx hy he=>by
  have h5:(bisN g b k).getD x 0=(bisN g b k).getD y 0:=(List.cons.inj he).1
  rw [h1] at h5
  rw [z17 (by rw [z193];exact hx),z17 (by rw [z193];exact hy)] at h5
  exact (z657 (κ:=κ) (n:=g.st.length) g.st.length (y47 _) x y hx hy).1 h5) g.st.length (y47 _)
 rcases y65 k (numK (keyA g (bisN g b k)) g.st.length).2 with h|h
 ·exact h
 ·exfalso
  refine hne ?_
  show (numK (keyA g (bisN g b k)) g.st.length).1=_
  rw [h1] at h4 ⊢
  rw [h1] at h3 h
  exact h4 (by omega)
theorem z556 {g:Graph} {b:List Int} {k:Nat} (h:bisN g b (k+1)=bisN g b k):∀ j,k≤j→bisN g b j=bisN g b k:=by
  intro j hj
  induction j with
  | zero => obtain rfl : k = 0 := by omega
            rfl
  | succ j ih =>
    rcases y65 j k with h1|h1
    · obtain rfl:k=j+1:=by omega
      rfl
    · rw [bisN,ih h1];exact h
theorem BK.zero (g:Graph) (l:List Tree):BK g (bis0 g l) 0:=by
 refine ⟨fun i=>[(g.st.map (z42 l)).getD i 0],?_,y48 _⟩
 show (numF _ _).1=(numF _ _).1
 rw [z240]
 intro i k _ _
 unfold z456
 simp [eq_comm]
theorem BK.end {g:Graph} {l:List Tree} {k:Nat} (h:BK g (bis0 g l) k) (he:refL g (bisN g (bis0 g l) k)=bisN g (bis0 g l) k):bisN g (bis0 g l) k=bisF g l :=
 (z556 he _ h.le).symm
theorem z1180 (g:Graph) (hG:GB g) (l:List Tree) (hL:z140 l):CallsA Tryz.prog 59 [.agg g.cs,lst 3 Tree.cs' l] [] (.sref 0 0 g.st.length) [.cells 1 ((bisF g l).map enI)]:=by
 have c1:=z531 g hG.vals hG.1.2 l hL
 have hb0:(bis0 g l).length=g.st.length:=z82 _ _
 have hg1:=hG.1
 refine z12 z19 Tryz.func59 rfl rfl 18 Tryz.ntmps59 (by simp) ?_
 repeat' (first|(apply y79 ok;rfl;conv=>whnf)|(apply z72 [] [] [1] (c1);rfl;(focus ((repeat' (exact z32))<;>(fail)));rfl;rfl;rfl;rfl;rfl;(focus ((repeat' (first|exact z18|apply z14))<;>((refine z23 ?_;((exact z6 (fun _=>rfl)))))));(exact .inl rfl);conv=>whnf))
 refine z95 (fun k:Nat=>([(2,.ptr 0 none 0),(5,.sref 1 0 g.st.length)],[.cells 2 [[lst 2 State.cs g.st,lst 1 encL g.nx]],.cells 1 ((bisN g (bis0 g l) k).map enI)])) (BK g (bis0 g l)) (fun k=>g.st.length+1 - k) 0 (BK.zero g l) ⟨[0,1],rfl,by decide,rfl,⟨⟨rfl,rfl⟩,⟨rfl,rfl⟩,trivial⟩,⟨z26 rfl rfl,z37 rfl (z6 fun _=>rfl),trivial⟩⟩ ?_
 intro k hk
 have hkl:=z693 g _ hb0 k
 have hkle:=hk.le
 have c2:=z974 g hG (bisN g (bis0 g l) k) hkl
 have c3:=z773 (refL g (bisN g (bis0 g l) k)) (bisN g (bis0 g l) k) (by rw [z313];unfold maxLen;omega) (by rw [hkl];unfold maxLen;omega)
 by_cases he:refL g (bisN g (bis0 g l) k)=bisN g (bis0 g l) k
 ·have hend:=hk.end he
  repeat' (first|(apply y79 ok;rfl;conv=>whnf)|(apply z7<;>intro _<;>conv=>whnf)|(apply z72 [] [1] [2] (c2);(focus (exact z49 rfl (z49 (z248 rfl rfl rfl hkl) z79)));(focus ((repeat' (exact z32))<;>(fail)));rfl;rfl;rfl;rfl;rfl;(focus ((repeat' (first|exact z18|apply z14))<;>((refine z23 ?_;((exact z6 (fun _=>rfl)))))));((refine .inr ⟨rfl,?_⟩;repeat' (first|exact True.intro|apply y38|exact z102 (fun _=>rfl) _)));conv=>whnf)|(apply z72 [] [2,1] [] (c3);(focus (exact z49 (z248 rfl rfl rfl (z313 _ _)) (z49 (z248 rfl rfl rfl hkl) z79)));(focus ((repeat' (exact z32))<;>(fail)));rfl;rfl;rfl;rfl;rfl;(focus ((repeat' (exact z18))<;>(fail)));((refine .inr ⟨rfl,?_⟩;repeat' (exact True.intro)));conv=>whnf))
  all_goals first|(exfalso;exact absurd he (by assumption))|skip
  rw [he,hend]
  exact z97 rfl (z6 fun _=>rfl) rfl rfl rfl
 ·repeat' (first|(apply y79 ok;rfl;conv=>whnf)|(apply z7<;>intro _<;>conv=>whnf)|(apply z72 [] [1] [2] (c2);(focus (exact z49 rfl (z49 (z248 rfl rfl rfl hkl) z79)));(focus ((repeat' (exact z32))<;>(fail)));rfl;rfl;rfl;rfl;rfl;(focus ((repeat' (first|exact z18|apply z14))<;>((refine z23 ?_;((exact z6 (fun _=>rfl)))))));((refine .inr ⟨rfl,?_⟩;repeat' (first|exact True.intro|apply y38|exact z102 (fun _=>rfl) _)));conv=>whnf)|(apply z72 [] [2,1] [] (c3);(focus (exact z49 (z248 rfl rfl rfl (z313 _ _)) (z49 (z248 rfl rfl rfl hkl) z79)));(focus ((repeat' (exact z32))<;>(fail)));rfl;rfl;rfl;rfl;rfl;(focus ((repeat' (exact z18))<;>(fail)));((refine .inr ⟨rfl,?_⟩;repeat' (exact True.intro)));conv=>whnf))
  all_goals first|(exfalso;exact absurd (by assumption) he)|skip
  have hs:=hk.step he
  have:=hs.le
  exact z81 (k+1) [0,2] hs (by omega) ⟨rfl,by decide,rfl,⟨⟨rfl,rfl⟩,⟨rfl,rfl⟩,trivial⟩,⟨z26 rfl rfl,z37 rfl (z6 fun _=>rfl),trivial⟩⟩
noncomputable def bisR (g:Graph) (l:List Tree):List Int:=if glB g l then bisF g l else []
theorem z487 (g:Graph) (l:List Tree):(bisF g l).length=g.st.length:=z693 g _ (z82 _ _) _
theorem bisR_le (g:Graph) (l:List Tree):(bisR g l).length≤g.st.length:=by
 unfold bisR;split
 ·rw [z487];omega
 ·simp
theorem z325 (g:Graph) (hg:g.mx) (l:List Tree) (hl:Lmx l):CallsA Tryz.prog 25 [.agg g.cs,lst 3 Tree.cs' l] [] (.tup [.sref 0 0 (bisR g l).length,.bool (glB g l)]) [.cells 1 ((bisR g l).map enI)]:=by
 have c1:=z266 g hg
 have c2:=z334 l hl.1 hl.2
 by_cases h:glB g l=true
 ·have h1:z277 g=true:=by unfold glB at h;exact (Bool.and_eq_true_iff.1 h).1
  have h2:z226 l=true:=by unfold glB at h;exact (Bool.and_eq_true_iff.1 h).2
  have hG:=(z99 g).1 h1
  have hL:=y7 h2
  have c3:=z1180 g hG l hL
  have e:bisR g l=bisF g l:=by unfold bisR;rw [if_pos h]
  rw [e,z487,h]
  rw [h1] at c1
  rw [h2] at c2
  refine z12 z19 Tryz.func25 rfl rfl 17 Tryz.ntmps25 (by simp) ?_
  repeat' (first|(apply y79 ok;rfl;conv=>whnf)|(apply z8 (c1);rfl;rfl;conv=>whnf)|(apply z8 (c2);rfl;rfl;conv=>whnf)|(apply z72 [] [] [1] (c3);rfl;(focus ((repeat' (exact z32))<;>(fail)));rfl;rfl;rfl;rfl;rfl;(focus ((repeat' (first|exact z18|apply z14))<;>((refine z23 ?_;((exact z6 (fun _=>rfl)))))));(exact .inl rfl);conv=>whnf))
  exact z92 [1] (by decide) rfl rfl rfl ⟨z37 rfl (z6 fun _=>rfl),trivial⟩
 ·have h:=(y67 _).mp h
  have e:bisR g l=[]:=by unfold bisR;rw [h];rfl
  rw [e,h]
  refine CallsA.nils (res:=.tup [.nils,.bool false]) ?_ (by simp) (tup_sref z379)
  refine z12 z19 Tryz.func25 rfl rfl 17 Tryz.ntmps25 (by simp) ?_
  repeat' (first|(apply y79 ok;rfl;conv=>whnf)|(apply z103<;>intro _<;>conv=>whnf)|(apply z8 (c1);rfl;rfl;conv=>whnf)|(apply z8 (c2);rfl;rfl;conv=>whnf))
  all_goals first|exact z54 rfl rfl rfl|(exfalso;unfold glB at h;simp_all;done)
theorem z352 (g:Graph) (hg:g.mx) (l:List Tree) (hl:Lmx l):CallsA Tryz.prog 25 [.agg g.cs,lst 3 Tree.cs' l] [] (.tup [ints (bisR g l),.bool (glB g l)]) []:=by
 have:=(z325 g hg l hl).keepT (L:=(bisR g l).map enI) (z138 _ _) (by simp) rfl
 exact this
theorem z345 (g:Graph) (hg:g.mx) (l:List Tree) (hl:Lmx l):CallsA Tryz.prog 26 [.agg g.cs,lst 3 Tree.cs' l] [] (.tup [ints (bisR g l),.bool (glB g l)]) []:=by
 have c1:=z369 g hg l hl
 by_cases h:glB g l=true
 ·have h1:z277 g=true:=by unfold glB at h;exact (Bool.and_eq_true_iff.1 h).1
  have hG:=(z99 g).1 h1
  have e:bisR g l=bisF g l:=by unfold bisR;rw [if_pos h]
  have e2:lblB g l=bis0 g l:=by unfold lblB;rw [if_pos h];rfl
  have hb0:(bis0 g l).length=g.st.length:=z82 _ _
  have hg1:=hG.1
  rw [h,e2] at c1
  rw [e,h]
  refine z12 z19 Tryz.func26 rfl rfl 26 Tryz.ntmps26 (by simp) ?_
  repeat' (first|(apply y79 ok;rfl;conv=>whnf)|(apply z8 (c1);rfl;rfl;conv=>whnf))
  refine z95 (fun k:Nat=>([(2,.ptr 0 none 0),(6,ints (bisN g (bis0 g l) k))],[.cells 2 [[lst 2 State.cs g.st,lst 1 encL g.nx]]])) (BK g (bis0 g l)) (fun k=>g.st.length+1 - k) 0 (BK.zero g l) ⟨[0],rfl,by decide,rfl,⟨⟨rfl,rfl⟩,⟨rfl,rfl⟩,trivial⟩,⟨z26 rfl rfl,trivial⟩⟩ ?_
  intro k hk
  have hkl:=z693 g _ hb0 k
  have hkle:=hk.le
  have c2:=keepI (z669 g hG (bisN g (bis0 g l) k) hkl) (z313 _ _)
  have c3:=z386 (refL g (bisN g (bis0 g l) k)) (bisN g (bis0 g l) k) (by rw [z313];unfold maxLen;omega) (by rw [hkl];unfold maxLen;omega)
  by_cases he:refL g (bisN g (bis0 g l) k)=bisN g (bis0 g l) k
  ·have hend:=hk.end he
   repeat' (first|(apply y79 ok;rfl;conv=>whnf)|(apply z7<;>intro _<;>conv=>whnf)|(apply z8 (c2);rfl;rfl;conv=>whnf)|(apply z8 (c3);rfl;rfl;conv=>whnf))
   all_goals first|(exfalso;exact absurd he (by assumption))|skip
   rw [hend]
   exact z54 rfl rfl rfl
  ·repeat' (first|(apply y79 ok;rfl;conv=>whnf)|(apply z7<;>intro _<;>conv=>whnf)|(apply z8 (c2);rfl;rfl;conv=>whnf)|(apply z8 (c3);rfl;rfl;conv=>whnf))
   all_goals first|(exfalso;exact absurd (by assumption) he)|skip
   have hs:=hk.step he
   have:=hs.le
   exact z81 (k+1) [0] hs (by omega) ⟨rfl,by decide,rfl,⟨⟨rfl,rfl⟩,⟨rfl,rfl⟩,trivial⟩,⟨z26 rfl rfl,trivial⟩⟩
 ·have h:=(y67 _).mp h
  have e:bisR g l=[]:=by unfold bisR;rw [h];rfl
  rw [h] at c1
  rw [e,h]
  refine z12 z19 Tryz.func26 rfl rfl 26 Tryz.ntmps26 (by simp) ?_
  repeat' (first|(apply y79 ok;rfl;conv=>whnf)|(apply z8 (c1);rfl;rfl;conv=>whnf))
  all_goals exact z596 rfl rfl (z634 z500)
end Go.Proofs.YtjhgpfaodkchjaaGreat
namespace Go.Proofs.YtjhgpfaodkchjaaGreat
open Go.Gl
attribute [local irreducible] z20 AWP z31 z38 z34 RetS z45
theorem bisN_eq (g:Graph) (b:List Int) (k:Nat):bisN g b k=bisM g.nx g.st.length b k:=by
 induction k with
 |zero=>rfl
 |succ k ih=>rw [bisN,bisM,ih];rfl
def lsT (g:Graph) (l:List Tree) (i:Nat):Int:=z42 l (g.st.getD i ⟨[],[]⟩)
theorem z970 (l:List Int) (n:Nat):numF (z456 l) n=numK (fun k=>l.getD k 0) n:=by
 unfold numK
 refine z240 fun i k _ _=>?_
 unfold z456
 rw [decide_eq_decide]
 exact eq_comm
theorem bis0_iff (g:Graph) (l:List Tree) {i j:Nat} (hi:i < g.st.length) (hj:j < g.st.length):(bis0 g l).getD i 0=(bis0 g l).getD j 0↔lsT g l i=lsT g l j:=by
 unfold bis0 lsT
 rw [z970,z747 _ hi hj,z17 (by simpa using hi),z17 (by simpa using hj),z17 hi,z17 hj,List.getElem_map,List.getElem_map]
theorem z945 (g:Graph) (l:List Tree):refL g (bisF g l)=bisF g l:=by
 have h:∃ k,k≤g.st.length∧bisN g (bis0 g l) (k+1)=bisN g (bis0 g l) k:=by
  refine Classical.byContradiction fun hn=>?_
  have hb:∀ k,k≤g.st.length+1→BK g (bis0 g l) k:=by
   intro k
   induction k with
   |zero=>exact fun _=>BK.zero g l
   |succ k ih=>exact fun hk=>(ih (by omega)).step fun e=>hn ⟨k,by omega,e⟩
  have:=(hb _ (y47 _)).le
  omega
 obtain ⟨k,hk,e⟩:=h
 unfold bisF
 rw [z556 e _ hk]
 exact e
theorem bisF_M (g:Graph) (l:List Tree):bisF g l=bisM g.nx g.st.length (bis0 g l) g.st.length:=bisN_eq _ _ _
theorem bisF_stb (g:Graph) (l:List Tree):Stb g.nx g.st.length (fun i=>(bisF g l).getD i 0):=Stb.of_ref (z945 g l)
theorem z789 (g:Graph) (l:List Tree):Part (bisF g l) g.st.length:=by
 refine ⟨?_⟩
 rw [← z945]
 exact z983 _ _
theorem bisF_let (g:Graph) (l:List Tree) {i j:Nat} (hi:i < g.st.length) (hj:j < g.st.length) (e:(bisF g l).getD i 0=(bisF g l).getD j 0):lsT g l i=lsT g l j:=by
 rw [bisF_M] at e
 exact (bis0_iff g l hi hj).1 (z1023 hi hj _ e)
theorem GB.inG {g:Graph} (h:GB g):∀ r∈g.nx,InN g.st.length r:=fun r hr=>by
 obtain ⟨i,hi,rfl⟩:=List.mem_iff_getElem.1 hr
 exact (GB.row h i hi).2.2
theorem glB_GB {g:Graph} {l:List Tree} (h:glB g l=true):GB g∧z140 l:=by
 unfold glB at h
 obtain ⟨h1,h2⟩:=Bool.and_eq_true_iff.1 h
 exact ⟨(z99 g).1 h1,y7 h2⟩
end Go.Proofs.YtjhgpfaodkchjaaGreat
namespace Go.Proofs.YtjhgpfaodkchjaaGreat
open Go.Gl
attribute [local irreducible] z20 AWP z31 z38 z34
def LetP (bl ls:List Int):Prop:=∀ i k:Nat,k < i→i < bl.length→bl.getD i 0=bl.getD k 0→ls.getD i 0=ls.getD k 0
noncomputable instance {bl ls:List Int} : Decidable (LetP bl ls):=Classical.propDecidable _
end Go.Proofs.YtjhgpfaodkchjaaGreat
namespace Go.Proofs.YtjhgpfaodkchjaaGreat
open Go.Gl
attribute [local irreducible] z20 AWP z31 z38 z34 RetS z45
theorem Part.P {bl:List Int} (h:Part bl bl.length):PartP bl:=fun i hi=>by
 have:=h.rng i hi
 rw [z17 hi] at this
 rw [mst_eq];exact this
theorem bisF_bv {g:Graph} {l:List Tree} (hG:GB g):bvB g (bisF g l)=true:=by
 refine z1172.2 ⟨hG,?_,z487 g l⟩
 have:=z789 g l
 rw [← z487 g l] at this
 exact Part.P this
theorem z1085 {g:Graph} {bl:List Int} {b:Nat} (hb:b < (fstB bl g.st.length).length):(quoG g bl).st.getD b ⟨[],[]⟩=g.st.getD ((fstB bl g.st.length).getD b 0) ⟨[],[]⟩:=by
 show (quoS g bl g.st.length).getD b _=_
 unfold quoS
 rw [z17 (by simpa using hb),List.getElem_map,z17 hb]
theorem z1117 {g:Graph} {l:List Tree} {i:Nat} (h:i < g.st.length):(g.st.map (z42 l)).getD i 0=lsT g l i:=by
 unfold lsT;rw [z17 (by simpa using h),List.getElem_map,z17 h]
theorem z953 {l:List Int} (h:1≤l.length):1≤(z87 [] l).length:=by
 have hm:l[0]∈z87 [] l:=z167.2 (.inr (y39 h))
 exact List.length_pos_of_mem hm
theorem z1086 {g:Graph} (hG:GB g) {bl:List Int} (hp:Part bl g.st.length):GB (quoG g bl):=by
 have hin:=quoN_in hG.inG hp
 have hl:=z481 bl g.st.length
 have h60:=hG.1
 have e1:(quoG g bl).st.length=(fstB bl g.st.length).length:=z469 _ _ _
 have e2:(quoG g bl).nx.length=(fstB bl g.st.length).length:=z470 _ _ _
 have hpos:0 < (fstB bl g.st.length).length:=by
  have:=hp.lt (show 0 < g.st.length by omega)
  omega
 refine ⟨⟨by omega,by omega⟩,by omega,fun b hb h1 h2=>?_⟩
 have hbm:b < (fstB bl g.st.length).length:=by omega
 have hf:=hp.fst_lt hbm
 have e3:(quoG g bl).nx[b]=z87 [] ((g.nx.getD ((fstB bl g.st.length).getD b 0) []).map fun p:Int=>bl.getD p.toNat 0):=by
  have e:(quoG g bl).nx.getD b []=z87 [] ((g.nx.getD ((fstB bl g.st.length).getD b 0) []).map fun p:Int=>bl.getD p.toNat 0):=by
   show (quoN g.nx g.st.length bl).getD b []=_
   unfold quoN
   rw [z17 (by simpa using hbm),List.getElem_map,z17 hbm]
  rw [← e,z17 h1]
 have hrow:=GB.row hG ((fstB bl g.st.length).getD b 0) (by have:=hG.2.1;omega)
 rw [← z17 (d:=[])] at hrow
 have hnd:(quoG g bl).nx[b].Nodup:=by rw [e3];exact z178 List.nodup_nil
 have hinb:=hin _ (y39 h1)
 have hle:=z181 _ _ hnd hinb
 refine ⟨by rw [e3];exact z953 (by simp;exact hrow.1),by rw [e1];exact hle,?_,fun i hi hi2=>⟨?_,?_⟩⟩
 ·have e4:(quoG g bl).st[b]=g.st.getD ((fstB bl g.st.length).getD b 0) ⟨[],[]⟩:=by rw [← z1085 hbm,z17 h2]
  rw [e4,z17 hf]
  exact valsB_of (hG.vals _ (y39 hf))
 ·have:=hinb _ (y39 hi)
  have e5:((quoG g bl).st.length:Int)=((fstB bl g.st.length).length:Int):=by omega
  exact ⟨this.1,by have h6:=this.2;rw [e5];exact Int.le_sub_one_of_lt h6⟩
 ·intro hm
  obtain ⟨j,hj,e⟩:=List.mem_iff_getElem.1 hm
  rw [List.getElem_take] at e
  have hj' : j < i:=by simp at hj;omega
  have:=List.pairwise_iff_getElem.1 hnd j i (by omega) hi hj'
  exact this e
theorem quoG_d {g:Graph} (hg:g.d) (hG:GB g) {bl:List Int} (hp:Part bl g.st.length):(quoG g bl).d:=by
 have hQ:=z1086 hG hp
 have h1:=hQ.1.2
 have h2:=hQ.2.1
 refine ⟨by omega,by omega,fun s hs=>?_,fun r hr=>?_⟩
 ·have hs:s∈quoS g bl g.st.length:=hs
  unfold quoS at hs
  obtain ⟨i,hi,rfl⟩:=List.mem_map.1 hs
  have:=z866 hi
  rw [z17 this]
  exact hg.el _ (y39 _)
 ·obtain ⟨i,hi,rfl⟩:=List.mem_iff_getElem.1 hr
  have:=(GB.row hQ i hi).2.1
  omega
theorem z355 (bs:List Int) (hb:CodeOk bs):∃ (g:Graph) (l:List Tree),(g.d∧Lab.d l)∧CallsA Tryz.prog 24 [lst 1 enU bs] [] (.tup [.agg g.cs,lst 3 Tree.cs' l]) []:=by
 obtain ⟨g,l,h,c⟩:=z397 bs hb
 refine ⟨g,l,h,?_⟩
 refine z10 z19 Tryz.func24 rfl rfl 8 Tryz.ntmps24 (by simp) ?_
 repeat' ((first|(apply y79 ok;rfl)|(apply z8 (c);rfl;rfl))<;>conv=>whnf)
 all_goals (refine rsD [] [] rfl ?_;(repeat' first|exact y81 _|constructor))
end Go.Proofs.YtjhgpfaodkchjaaGreat
namespace Go.Proofs.YtjhgpfaodkchjaaGreat
open Go.Gl
attribute [local irreducible] z20 AWP z31 z38 z34
structure IntsOk (b:List Int):Prop where
 mx:b.length≤maxLen
 len:b.length≤1048576
theorem IntsOk.of {b:List Int} (h:b.length≤maxLen) (h1:b.length≤1048576):IntsOk b:=⟨h,h1⟩
end Go.Proofs.YtjhgpfaodkchjaaGreat
namespace Go.Proofs.YtjhgpfaodkchjaaGreat
open Go.Gl
attribute [local irreducible] z20 AWP z31 z38 z34 RetS z45
theorem lsT_quo {g:Graph} {l:List Tree} {bl:List Int} {u:Nat} (hu:u < (fstB bl g.st.length).length):lsT (quoG g bl) l u=lsT g l ((fstB bl g.st.length).getD u 0):=by
 unfold lsT;rw [z1085 hu]
end Go.Proofs.YtjhgpfaodkchjaaGreat
namespace Go.Proofs.YtjhgpfaodkchjaaGreat
open Go.Gl
attribute [local irreducible] z20 AWP z31 z38 z34
theorem z460 {d : Int} (l : List Tree) (hl : l.length ≤ maxLen) (p : Tree → Int → Bool) (nx : Tree → Int → Int) (okS : Int → Prop) (hok : ∀ x s, okS s → p x s = false → okS (nx x s)) (f : FuncId) (s : Int) (h0 : okS s)
    (hf:∀ x∈l,∀ s,okS s→CallsA Tryz.prog f [z43 Tree.cs' x,.pt [.int d],.ptr 1 none 0] [.cells 1 [[.int s]],.cells 1 [[.ptr 0 none 0]]] (.bool (p x s)) [.cells 1 [[.int (nx x s)]],.cells 1 [[.ptr 0 none 0]]]) :
    CallsA Tryz.prog 271 [lst 3 Tree.cs' l,.fn (.func f) [] [.pt [.int d],.ptr 1 none 0]] [.cells 1 [[.int s]],.cells 1 [[.ptr 0 none 0]]] (.int (idxS p nx l s 0).1) [.cells 1 [[.int (idxS p nx l s 0).2]],.cells 1 [[.ptr 0 none 0]]]:=by
  unfold maxLen at hl
  refine z12 z19 Tryz.func271 rfl rfl 19 Tryz.ntmps271 (by simp) ?_
  repeat' ((apply y79 ok;rfl;conv=>whnf))
  refine z95 (fun x:Nat×Int=>([(0,lst 3 Tree.cs' l),(1,.fn (.func f) [] [.pt [.int d],.ptr 1 none 0]),(7,.int l.length),(8,.int x.1)],[.cells 1 [[.int x.2]],.cells 1 [[.ptr 0 none 0]]])) (fun x=>x.1≤l.length∧okS x.2∧idxS p nx l s 0=idxS p nx (l.drop x.1) x.2 x.1) (fun x=>l.length - x.1) (0,s) ⟨by omega,h0,rfl⟩
    ⟨[0,1],rfl,by decide,rfl,⟨⟨rfl,rfl⟩,⟨rfl,rfl⟩,⟨rfl,rfl⟩,⟨rfl,rfl⟩,trivial⟩,⟨z26 rfl rfl,z26 rfl rfl,trivial⟩⟩ ?_
  rintro ⟨k,t⟩ ⟨hk1,hk2,hk3⟩
  dsimp only at hk1 hk2 hk3
  repeat' (first|(apply y79 ok;rfl;conv=>whnf)|(apply y38;(first|omega|(unfold inI;omega));conv=>whnf)|(with_reducible apply z13;omega;intro _;conv=>whnf)|(apply z7<;>intro _<;>conv=>whnf)|(apply z105<;>intro _<;>conv=>whnf)|(apply z72 [0,1] [] [] (hf l[k] (y39 _) t hk2);rfl;(focus ((repeat' (first|exact z32|apply z62))<;>(rfl)));rfl;rfl;rfl;rfl;rfl;(focus ((repeat' (first|exact z18|apply z14))<;>(exact z52 rfl rfl)));(exact .inl rfl);conv=>whnf))
  · rename_i h hkl h1
    rw [y74 hkl,idxS,if_pos h1] at hk3
    rw [hk3]
    exact z92 [0,1] (by decide) rfl rfl rfl ⟨z26 rfl rfl,z26 rfl rfl,trivial⟩
  · rename_i h hkl h1
    rw [y74 hkl,idxS,if_neg (by rw [h1];simp)] at hk3
    exact z81 (k+1,nx l[k] t) [0,1] ⟨by dsimp only;omega,hok _ _ hk2 h1,hk3⟩ (by dsimp only;omega) ⟨rfl,by decide,rfl,⟨⟨rfl,rfl⟩,⟨rfl,rfl⟩,⟨rfl,rfl⟩,⟨rfl,rfl⟩,trivial⟩,⟨z26 rfl rfl,z26 rfl rfl,trivial⟩⟩
  · rw [y78 (by omega),idxS] at hk3
    rw [hk3]
    exact z92 [0,1] (by decide) rfl rfl rfl ⟨z26 rfl rfl,z26 rfl rfl,trivial⟩
theorem z783 {d : Int} (l : List Tree) (hl : l.length ≤ maxLen) (p : Tree → Int → Bool) (nx : Tree → Int → Int) (okS : Int → Prop) (hok : ∀ x s, okS s → p x s = false → okS (nx x s)) (f : FuncId) (s : Int) (h0 : okS s)
    (hf:∀ x∈l,∀ s,okS s→CallsA Tryz.prog f [z43 Tree.cs' x,.pt [.int d],.ptr 1 none 0] [.cells 1 [[.int s]],.cells 1 [[.ptr 0 none 0]]] (.bool (p x s)) [.cells 1 [[.int (nx x s)]],.cells 1 [[.ptr 0 none 0]]]) :
    CallsA Tryz.prog 243 [lst 3 Tree.cs' l,.fn (.func f) [] [.pt [.int d],.ptr 1 none 0]] [.cells 1 [[.int s]],.cells 1 [[.ptr 0 none 0]]] (.bool (decide (0≤(idxS p nx l s 0).1))) [.cells 1 [[.int (idxS p nx l s 0).2]],.cells 1 [[.ptr 0 none 0]]]:=by
  refine z12 z19 Tryz.func243 rfl rfl 9 Tryz.ntmps243 (by simp) ?_
  repeat' (first|(apply y79 ok;rfl;conv=>whnf)|(apply z72 [0,1] [] [] (z460 (d:=d) l hl p nx okS hok f s h0 hf);rfl;(focus ((repeat' (first|exact z32|apply z62))<;>(rfl)));rfl;rfl;rfl;rfl;rfl;(focus ((repeat' (first|exact z18|apply z14))<;>(exact z52 rfl rfl)));(exact .inl rfl);conv=>whnf))
  exact z92 [0,1] (by decide) rfl rfl rfl ⟨z26 rfl rfl,z26 rfl rfl,trivial⟩
theorem z845 (k:Int):CallsA Tryz.prog 242 [.int k] [] (.int (if k=1∨k=2 then 0 else if k=4∨k=5∨k=7∨k=8 then 2 else 1)) []:=by
 refine z12 z19 Tryz.func242 rfl rfl 12 Tryz.ntmps242 (by simp) ?_
 repeat' (first|(apply y79 ok;rfl;conv=>whnf)|(apply z7<;>intro _<;>conv=>whnf))
 all_goals (refine z54 rfl rfl ?_;first|(rw [if_pos (by omega)];rfl)|(rw [if_neg (by omega),if_pos (by omega)];rfl)|(rw [if_neg (by omega),if_neg (by omega)];rfl))
theorem walkF_ok (t:Tree):t.mx→∀ d n:Int,0≤d→d≤100→0≤n→n≤12→CallsA Tryz.prog 174 [z43 Tree.cs' t,.int d,.ptr 0 none 0] [.cells 1 [[.int n]]] (.bool (t.walkF d n).2) [.cells 1 [[.int (t.walkF d n).1]]]:=by
  induction t using y24 with|h t ih=>?_
  intro hm d n hd0 hd1 h0 h1
  rw [y25] at hm
  have hs:=Tree.walkF_spec.1
  have hk:d≤6→n+1≤12→CallsA Tryz.prog 243 [lst 3 Tree.cs' t.kids,.fn (.func 244) [] [.pt [.int d],.ptr 1 none 0]] [.cells 1 [[.int (n+1)]],.cells 1 [[.ptr 0 none 0]]] (.bool (!(Tree.walkFs t.kids (d+1) (n+1)).2)) [.cells 1 [[.int (Tree.walkFs t.kids (d+1) (n+1)).1]],.cells 1 [[.ptr 0 none 0]]]:=by
    intro hd hn
    have h:=z783 (d:=d) t.kids hm.1 (fun x s=>!(x.walkF (d+1) s).2) (fun x s=>(x.walkF (d+1) s).1) (fun s=>0≤s∧s≤12) (fun x s h1 h2=>by
      obtain ⟨a1,a2,a3,a4⟩:=hs x (d+1) s h1.1 h1.2
      have h3:(x.walkF (d+1) s).2=true:=by simpa using h2
      have:=(a1.1 h3).2
      rw [← a2 h3] at this
      exact ⟨by omega,this⟩) 244 (n+1) ⟨by omega,by omega⟩ (fun x hx s h=>by
        have hc:=ih x hx (hm.2 x hx) (d+1) s (by omega) (by omega) h.1 h.2
        refine z12 z19 Tryz.func244 rfl rfl 11 Tryz.ntmps244 (by simp) ?_
        repeat' (first|(apply y79 ok;rfl;conv=>whnf)|(apply y38;((unfold inI;omega));conv=>whnf)|(apply z72 [0] [] [] (hc);rfl;(focus ((repeat' (first|exact z32|apply z62))<;>(rfl)));rfl;rfl;rfl;rfl;rfl;(focus ((repeat' (first|exact z18|apply z14))<;>(exact z52 rfl rfl)));(exact .inl rfl);conv=>whnf))
        exact z92 [0,1] (by decide) rfl rfl rfl ⟨z26 rfl rfl,z26 rfl rfl,trivial⟩)
    rw [y37 (d+1) t.kids (n+1) 0,Bool.not_not]
    exact h
  have hk2:=fun h1 h2=>by
    have:=hk h1 h2
    unfold lst at this
    rw [← y15] at this
    exact this
  refine z12 z19 Tryz.func174 rfl rfl 51 Tryz.ntmps174 (by simp) ?_
  repeat' (first|(apply y79 ok;rfl;conv=>whnf)|(apply z36;kernel_rfl;conv=>whnf)|(apply y38;((unfold inI;omega));conv=>whnf)|(apply z7<;>intro _<;>conv=>whnf)|(apply z40<;>intro _<;>conv=>whnf)|(apply z103<;>intro _<;>conv=>whnf)|(apply z8 (z351 _ 1 10);rfl;rfl;conv=>whnf)|(apply z8 (z351 _ 0 2);rfl;rfl;conv=>whnf)|(apply z8 (z351 _ 0 0);rfl;rfl;conv=>whnf)|(apply z8 (z845 t.kind);rfl;rfl;conv=>whnf)|(apply z72 [0,3] [2] [] (hk2 (by omega) (by omega));rfl;(focus ((repeat' (first|exact z32|apply z62))<;>(rfl)));rfl;rfl;rfl;rfl;rfl;(focus ((repeat' (first|exact z18|apply z14))<;>(exact z52 rfl rfl)));((refine .inr ⟨rfl,?_⟩;repeat' (first|exact True.intro|apply y38|exact rfl)));conv=>whnf))
  all_goals first
    | (have e : t.walkF d n = (n + 1, false) := by
        rw [y36,if_neg]
        clear hk hk2 hs ih
        rintro ⟨c1,c2,c3,c4,c5⟩
        try simp only [z305,z145] at *
        unfold z380 at c4
        unfold z185 at c5
        grind
       rw [e]
       exact z92 [0] (by decide) rfl rfl rfl ⟨z26 rfl rfl,trivial⟩)
    | (have e : t.walkF d n = Tree.walkFs t.kids (d + 1) (n + 1) := by
        rw [y36,if_pos]
        clear hk hk2 hs ih
        try simp only [z305,z145] at *
        unfold z380 z185
        grind
       rw [e]
       refine z92 [0] (by decide) rfl rfl ?_ ⟨z26 rfl rfl,trivial⟩
       show AC.raw (.bool (!!_))=_
       rw [Bool.not_not];rfl)
theorem z1006 (t:Tree) (hm:t.mx):CallsA Tryz.prog 94 [z43 Tree.cs' t] [] (.int (if t.fmB=true then (t.walkF 1 0).1 else 0)) []:=by
 have hk:=walkF_ok t hm 1 0 (by omega) (by omega) (by omega) (by omega)
 unfold Tree.fmB
 refine z12 z19 Tryz.func94 rfl rfl 8 Tryz.ntmps94 (by simp) ?_
 repeat' (first|(apply y79 ok;rfl;conv=>whnf)|(apply z103<;>intro _<;>conv=>whnf)|(apply z72 [1] [] [] (hk);rfl;(focus ((repeat' (first|exact z32|apply z62))<;>(rfl)));rfl;rfl;rfl;rfl;rfl;(focus ((repeat' (first|exact z18|apply z14))<;>(exact z52 rfl rfl)));(exact .inl rfl);conv=>whnf))
 all_goals exact z517 rfl (by simp [*])
theorem z173 (t:Tree) (hm:t.mx):CallsA Tryz.prog 37 [z43 Tree.cs' t] [] (.bool t.fmB) []:=by
 have hk:=z1006 t hm
 have e:decide (0 < if t.fmB=true then (t.walkF 1 0).1 else 0)=t.fmB:=by
  by_cases h:t.fmB=true
  ·have h2:=(Tree.walkF_spec.1 t 1 0 (by omega) (by omega)).2.1 h
   have h3:=Tree.count_pos.1 t (7 - 1)
   rw [h,if_pos rfl];exact y76 (by omega)
  ·rw [if_neg h,(y67 _).mp h];rfl
 refine z12 z19 Tryz.func37 rfl rfl 6 Tryz.ntmps37 (by simp) ?_
 repeat' (first|(apply y79 ok;rfl;conv=>whnf)|(apply z8 (hk);rfl;rfl;conv=>whnf))
 all_goals exact z29 rfl e.symm
theorem z604 (k:Int):CallsA Tryz.prog 181 [.int k] [] (.int (z185 k)) []:=by
 refine z12 z19 Tryz.func181 rfl rfl 17 Tryz.ntmps181 (by simp) ?_
 repeat' (first|(apply y79 ok;rfl;conv=>whnf)|(apply z7<;>intro _<;>conv=>whnf))
 all_goals (refine z54 rfl rfl ?_;unfold z185;first|(rw [if_pos (by omega)];rfl)|(rw [if_neg (by omega),if_pos (by omega)];rfl)|(rw [if_neg (by omega),if_neg (by omega),if_pos (by omega)];rfl)|(rw [if_neg (by omega),if_neg (by omega),if_neg (by omega)];rfl))
theorem z831 (l:List Tree) (d:Int):Tree.shapeFs l d=l.all (fun t=>t.shapeF d):=by
 induction l with
 |nil=>rfl
 |cons t l ih=>simp [Tree.shapeFs,ih]
theorem z370 (t:Tree) (d:Int):t.shapeF d=(decide (1≤d∧(t.kids.length:Int)=z185 t.kind∧0≤t.val∧t.val≤z380 t.kind) && t.kids.all fun t=>t.shapeF (d - 1)):=by
 cases t;simp only [Tree.shapeF,Tree.kids,Tree.kind,Tree.val,z831];rfl
theorem z990 (t:Tree):t.mx→∀ d:Int,-100≤d→d≤100→CallsA Tryz.prog 123 [z43 Tree.cs' t,.int d] [] (.bool (t.shapeF d)) []:=by
  induction t using y24 with|h t ih=>?_
  intro hm d h0 h1
  rw [y25] at hm
  have hl:=hm.1
  unfold maxLen at hl
  rw [y14,z370]
  refine z12 z19 Tryz.func123 rfl rfl 51 Tryz.ntmps123 (by simp) ?_
  repeat' (first|(apply y79 ok;rfl;conv=>whnf)|(apply z36;kernel_rfl;conv=>whnf)|(apply z7<;>intro _<;>conv=>whnf)|(apply z40<;>intro _<;>conv=>whnf)|(apply z8 (z604 _);rfl;rfl;conv=>whnf))
  all_goals first
    | (refine z29 rfl ?_
       rw [y77]
       · rfl
       · clear ih
         rintro ⟨c1,c2,c3,c4⟩
         unfold z380 at c4
         grind)
    | (have hg : decide (1 ≤ d ∧ (t.kids.length : Int) = z185 t.kind ∧ 0 ≤ t.val ∧ t.val ≤ z380 t.kind) = true := by
         clear ih
         refine y76 ?_
         unfold z380
         grind
       rw [hg,Bool.true_and]
       refine z95 (fun k:Nat=>([(1,.int d),(2,.ptr 0 none 0),(5,.int k)],[.cells 3 [[.int t.kind,.int t.val,lst 3 Tree.cs' t.kids]]])) (fun k=>k≤t.kids.length∧(t.kids.all fun t=>t.shapeF (d - 1))=(t.kids.drop k).all fun t=>t.shapeF (d - 1)) (fun k=>t.kids.length - k) 0 ⟨by omega,rfl⟩ ⟨[0],rfl,by decide,rfl,by repeat' (first|exact True.intro|exact ⟨rfl,rfl⟩|apply y38),by repeat' (first|exact True.intro|exact z26 rfl rfl|apply y38)⟩ ?_
       intro k hk
       repeat' (first|(apply y79 ok;rfl;conv=>whnf)|(apply y38;(first|omega|(unfold inI;omega));conv=>whnf)|(with_reducible apply z13;omega;intro _;conv=>whnf)|(apply z7<;>intro _<;>conv=>whnf)|(apply z103<;>intro _<;>conv=>whnf)|(apply z8 (ih t.kids[k] (y39 _) (hm.2 _ (y39 _)) (d - 1) (by omega) (by omega));rfl;rfl;conv=>whnf))
       · rename_i h1
         exact z29 rfl (by rw [hk.2,z159 _ _ _ (by assumption)];simp [h1])
       · rename_i h1
         exact z81 (k+1) [0] ⟨by omega,by rw [hk.2,z159 _ _ _ (by assumption)];simp [h1]⟩ (by omega) ⟨rfl,by decide,rfl,by repeat' (first|exact True.intro|exact ⟨rfl,rfl⟩|apply y38),by repeat' (first|exact True.intro|exact z26 rfl rfl|apply y38)⟩
       · exact z29 rfl (by rw [hk.2,z151 _ _ _ (by omega)]))
theorem z1164 (t:Tree):∀ d n:Nat,t.shapeF d=true→t.count n≤2 ^ d - 1:=by
 induction t using y24 with|h t ih=>?_
 intro d n h
 rw [z370,y66,decide_eq_true_eq] at h
 obtain ⟨⟨h1,h2,_,_⟩,h3⟩:=h
 rw [y73] at h3
 obtain ⟨d,rfl⟩:∃ e,d=e+1:=⟨d - 1,by omega⟩
 have e:((d+1:Nat):Int) - 1=(d:Nat):=by omega
 rw [e] at h3
 rw [z486]
 have hp:(1:Int)≤2 ^ d:=by exact_mod_cast Nat.one_le_two_pow
 have hq:((2:Int) ^ (d+1))=2 * 2 ^ d:=by rw [Int.pow_succ];omega
 split
 ·rename_i hn
  obtain ⟨n,rfl⟩:∃ e,n=e+1:=⟨n - 1,by omega⟩
  have e:((n+1:Nat):Int) - 1=(n:Nat):=by omega
  rw [e]
  have hl:(t.kids.length:Int)≤2:=by rw [h2];unfold z185;grind
  have hk:∀ u∈t.kids,u.count n≤2 ^ d - 1:=fun u hu=>ih u hu d n (h3 u hu)
  match hkk:t.kids with
  |[]=>simp only [List.map_nil,List.sum_nil];omega
  |[a] =>
   have:=hk a (by simp [hkk])
   simp only [List.map_cons,List.map_nil,List.sum_cons,List.sum_nil];omega
  |[a,b] =>
   have:=hk a (by simp [hkk])
   have:=hk b (by simp [hkk])
   simp only [List.map_cons,List.map_nil,List.sum_cons,List.sum_nil];omega
  |a::b::c::r=>rw [hkk] at hl;simp only [y53] at hl;omega
 ·omega
theorem z781 (t:Tree) (e d:Int) (he:e≤50) (hd:0≤d) (h:t.shapeF e=true):t.count d≤2 ^ 50:=by
 have h1:1≤e:=by
  rw [z370,y66,decide_eq_true_eq] at h;exact h.1.1
 obtain ⟨n,rfl⟩:=Int.eq_ofNat_of_zero_le (show 0≤e by omega)
 obtain ⟨m,rfl⟩:=Int.eq_ofNat_of_zero_le hd
 have h2:=z1164 t n m h
 have h4:(2:Int) ^ n≤2 ^ 50:=by exact_mod_cast Nat.pow_le_pow_right (by omega) (by omega)
 omega
theorem z991 (t:Tree):t.mx→∀ e d:Int,e≤50→0≤d→d≤50→t.shapeF e=true→CallsA Tryz.prog 124 [z43 Tree.cs' t,.int d] [] (.int (t.count d)) []:=by
 induction t using y24 with|h t ih=>?_
 intro hm e d h0 h1 h2 hs
 rw [y25] at hm
 rw [z370,y66,decide_eq_true_eq,y73] at hs
 obtain ⟨⟨hs1,hs2,_,_⟩,hs3⟩:=hs
 have hl:(t.kids.length:Int)≤2:=by rw [hs2];unfold z185;grind
 rw [y14,z486]
 have hb:0 < d→∀ k,k≤t.kids.length→0≤((t.kids.take k).map fun t=>t.count (d - 1)).sum∧((t.kids.take k).map fun t=>t.count (d - 1)).sum≤k * 2 ^ 50:=by
  intro hd k
  induction k with
  |zero=>intro _;simp
  |succ k ihk =>
   intro hk
   have h1:=ihk (by omega)
   rw [z466 _ _ _ (by omega)]
   have h2:=z781 t.kids[k] (e - 1) (d - 1) (by omega) (by omega) (hs3 _ (y39 _))
   have h3:=Tree.count_pos.1 t.kids[k] (d - 1)
   omega
 refine z12 z19 Tryz.func124 rfl rfl 29 Tryz.ntmps124 (by simp) ?_
 repeat' ((apply y79 ok;rfl;conv=>whnf))
 by_cases hd:0 < d
 ·rw [if_pos hd]
  refine z95 (fun k:Nat=>([(1,.int d),(2,.ptr 0 none 0),(5,.int (1+((t.kids.take k).map fun t=>t.count (d - 1)).sum)),(6,.int k)],[.cells 3 [[.int t.kind,.int t.val,lst 3 Tree.cs' t.kids]]])) (fun k=>k≤t.kids.length) (fun k=>t.kids.length - k) 0 (by omega) ⟨[0],rfl,by decide,rfl,by repeat' (first|exact True.intro|exact ⟨rfl,rfl⟩|apply y38),by repeat' (first|exact True.intro|exact z26 rfl rfl|apply y38)⟩ ?_
  intro k hk
  have hbk:=hb hd k hk
  have hbk1:=fun h=>hb hd (k+1) h
  have hss:=fun h=>z466 (fun t=>t.count (d - 1)) t.kids k h
  repeat' (first|(apply y79 ok;rfl;conv=>whnf)|(apply y38;(first|omega|(unfold inI;omega));conv=>whnf)|(with_reducible apply z13;omega;intro _;conv=>whnf)|(apply z7<;>intro _<;>conv=>whnf)|(apply z8 (ih t.kids[k] (y39 _) (hm.2 _ (y39 _)) (e - 1) (d - 1) (by omega) (by omega) (by omega) (hs3 _ (y39 _)));rfl;rfl;conv=>whnf))
  ·have e1:=hss ‹_›
   have e2:=hbk1 (by omega)
   refine y38 (by unfold inI;omega) ?_
   conv=>whnf
   repeat' (first|(apply y79 ok;rfl;conv=>whnf)|(apply y38;((unfold inI;omega));conv=>whnf))
   exact z81 (k+1) [0] (by omega) (by omega) ⟨rfl,by decide,rfl,⟨⟨rfl,rfl⟩,⟨rfl,rfl⟩,⟨rfl,by rw [e1,← Int.add_assoc];rfl⟩,⟨rfl,rfl⟩,trivial⟩,⟨z26 rfl rfl,trivial⟩⟩
  ·omega
  ·obtain rfl:k=t.kids.length:=by omega
   exact z54 rfl rfl (by rw [y51];rfl)
 ·rw [if_neg hd]
  refine z95 (fun k:Nat=>([(1,.int d),(2,.ptr 0 none 0),(5,.int 1),(6,.int k)],[.cells 3 [[.int t.kind,.int t.val,lst 3 Tree.cs' t.kids]]])) (fun k=>k≤t.kids.length) (fun k=>t.kids.length - k) 0 (by omega) ⟨[0],rfl,by decide,rfl,by repeat' (first|exact True.intro|exact ⟨rfl,rfl⟩|apply y38),by repeat' (first|exact True.intro|exact z26 rfl rfl|apply y38)⟩ ?_
  intro k hk
  repeat' (first|(apply y79 ok;rfl;conv=>whnf)|(apply y38;(omega);conv=>whnf)|(with_reducible apply z13;omega;intro _;conv=>whnf)|(apply z7<;>intro _<;>conv=>whnf))
  ·omega
  ·exact z54 rfl rfl rfl
  ·exact z54 rfl rfl rfl
theorem z571 (t:Tree) (hm:t.mx):CallsA Tryz.prog 53 [z43 Tree.cs' t] [] (.bool t.fmB) []:=by
 rw [y18]
 refine z12 z19 Tryz.func53 rfl rfl 10 Tryz.ntmps53 (by simp) ?_
 repeat' (first|(apply y79 ok;rfl;conv=>whnf)|(apply z105<;>intro _<;>conv=>whnf)|(apply z8 (z990 t hm 6 (by omega) (by omega));rfl;rfl;conv=>whnf)|(apply z8 (z991 t hm 6 6 (by omega) (by omega) (by omega) (by assumption));rfl;rfl;conv=>whnf))
 all_goals (refine z29 rfl ?_;(simp [*];done))
end Go.Proofs.YtjhgpfaodkchjaaGreat
namespace Go.Proofs.YtjhgpfaodkchjaaGreat
open Go.Gl
attribute [local irreducible] z20 AWP z31 z38 z34 RetS z45
theorem z533:CallsA Tryz.prog 105 [] [] (.agg [.int 1,.int 0,.list 3 0 []]) []:=by
 refine z10 z19 Tryz.func105 rfl rfl 2 Tryz.ntmps105 (by simp) ?_
 repeat' (((apply y79 ok;rfl))<;>conv=>whnf)
 all_goals (refine rsD [] [] rfl ?_;(repeat' first|exact y81 _|exact z55|apply z61|constructor))
set_option maxHeartbeats 1600000 in
theorem z856 (bs:List Int) (hb:BytesOk bs):∀ (n:Nat) (d p:Int),d≤n+1→n≤100→0≤d→0≤p→p+drK n≤1000000000→∃ (t:Tree) (p' : Int),(t.sz≤drS n∧p≤p'∧p'≤p+drK n)∧CallsA Tryz.prog 106 [.ptr 0 none 0,.int d] [rdO bs p] (z43 Tree.cs' t) [rdO bs p']:=by
 intro n
 induction n with
 |zero =>
  intro d p hd hd1 hd0 hp hq
  rw [drK] at hq ⊢
  obtain ⟨v0,⟨l0,u0⟩,c0⟩:=z77 bs hb p 8 (by omega) (by omega) (by omega)
  by_cases h0:v0=0
  ·subst h0
   refine ⟨leaf 1 0,p+1,⟨by rw [z96];omega,by omega,by omega⟩,?_⟩
   refine z10 z19 Tryz.func106 rfl rfl 43 Tryz.ntmps106 (by simp) ?_
   repeat' ((first|(apply y79 ok;rfl)|((apply z7)<;>intro _)|(apply z8 (z533);rfl;rfl)|(apply z41 [0] [] c0;rfl;rfl;rfl))<;>conv=>whnf)
   all_goals try (exfalso;omega)
   all_goals (refine rsD [0] [] rfl ?_;(repeat' first|exact y81 _|apply y82|constructor))
  ·obtain ⟨v1,m1,c1⟩:=z111 bs hb (p+1) (by omega) (by omega) [0,1,0,2] (by decide) (by decide)
   refine ⟨leaf 2 v1,p+1+1,⟨by rw [z96];omega,by omega,by omega⟩,?_⟩
   refine z10 z19 Tryz.func106 rfl rfl 43 Tryz.ntmps106 (by simp) ?_
   repeat' ((first|(apply y79 ok;rfl)|((apply z7)<;>intro _)|((first|(apply z11 [0] [] c0;rfl;rfl)|(apply z11 [0,2] [] c1;rfl;rfl));rfl;(focus ((repeat' first|exact z18|apply z14)<;>first|exact z52 rfl rfl|(refine z23 ?_;((exact z6 fun _=>rfl)))))))<;>conv=>whnf)
   all_goals try (exfalso;omega)
   all_goals (refine rsD [0] [] rfl ?_;(repeat' first|exact y81 _|exact z55|apply y82|apply z61|constructor))
 |succ n ih =>
  intro d p hd hd1 hd0 hp hq
  have hK:=z1160 n
  by_cases hlt:d < 2
  ·obtain ⟨t,p',h1,h2⟩:=ih d p (by omega) (by omega) hd0 hp (by rw [drK] at hq;omega)
   exact ⟨t,p',⟨by rw [drS];omega,h1.2.1,by rw [drK];omega⟩,h2⟩
  rw [drK] at hq
  rw [drK,drS]
  obtain ⟨w,⟨lw,uw⟩,cw⟩:=z77 bs hb p 5 (by omega) (by omega) (by omega)
  by_cases hw:w=0
  ·subst hw
   obtain ⟨v0,⟨l0,u0⟩,c0⟩:=z77 bs hb (p+1) 8 (by omega) (by omega) (by omega)
   by_cases h0:v0=0
   ·subst h0
    refine ⟨leaf 1 0,p+1+1,⟨by rw [z96];omega,by omega,by omega⟩,?_⟩
    refine z10 z19 Tryz.func106 rfl rfl 43 Tryz.ntmps106 (by simp) ?_
    repeat' ((first|(apply y79 ok;rfl)|((apply z7)<;>intro _)|(apply z8 (z533);rfl;rfl)|((first|(apply z41 [0] [] cw;rfl;rfl)|(apply z41 [0] [] c0;rfl;rfl));rfl))<;>conv=>whnf)
    all_goals try (exfalso;omega)
    all_goals (refine rsD [0] [] rfl ?_;(repeat' first|exact y81 _|apply y82|constructor))
   ·obtain ⟨v1,m1,c1⟩:=z111 bs hb (p+1+1) (by omega) (by omega) [0,1,0,2] (by decide) (by decide)
    refine ⟨leaf 2 v1,p+1+1+1,⟨by rw [z96];omega,by omega,by omega⟩,?_⟩
    refine z10 z19 Tryz.func106 rfl rfl 43 Tryz.ntmps106 (by simp) ?_
    repeat' ((first|(apply y79 ok;rfl)|((apply z7)<;>intro _)|((first|(apply z11 [0] [] cw;rfl;rfl)|(apply z11 [0] [] c0;rfl;rfl)|(apply z11 [0,2] [] c1;rfl;rfl));rfl;(focus ((repeat' first|exact z18|apply z14)<;>first|exact z52 rfl rfl|(refine z23 ?_;((exact z6 fun _=>rfl)))))))<;>conv=>whnf)
    all_goals try (exfalso;omega)
    all_goals (refine rsD [0] [] rfl ?_;(repeat' first|exact y81 _|exact z55|apply y82|apply z61|constructor))
  ·obtain ⟨kd,mk,ck⟩:=z111 bs hb (p+1) (by omega) (by omega) [7,9,10,3,4,5,6,8] (by decide) (by decide)
   have ca:=z604 kd
   have ham:∃ m:Nat,z185 kd=m∧m≤2:=by
    simp only [List.mem_cons,List.not_mem_nil,or_false] at mk
    unfold z185
    rcases mk with rfl|rfl|rfl|rfl|rfl|rfl|rfl|rfl
    all_goals first|exact ⟨2,rfl,by omega⟩|exact ⟨1,rfl,by omega⟩
   obtain ⟨m,em,hm⟩:=ham
   rw [em] at ca
   obtain ⟨ks,pf,hks,hp0,hst,hpf⟩:=z441 (fun k q (t:Tree) q'=>t.sz≤drS n∧CallsA Tryz.prog 106 [.ptr 0 none 0,.int (d - 1)] [rdO bs q] (z43 Tree.cs' t) [rdO bs q']) (p+1+1) (drK n) m (fun k q hk h1 h2=>by
    have:drK n * k≤drK n:=by
     have:k=0∨k=1:=by omega
     rcases this with rfl|rfl<;>simp<;>omega
    obtain ⟨t,q',⟨a1,a2,a3⟩,a4⟩:=ih (d - 1) q (by omega) (by omega) (by omega) (by omega) (by omega)
    exact ⟨t,q',⟨a1,a4⟩,a2,a3⟩)
   have hpm:=hpf m (y47 _)
   have hKm:drK n * m≤2 * drK n:=by
    have:m=0∨m=1∨m=2:=by omega
    rcases this with rfl|rfl|rfl<;>simp<;>omega
   have hsum:(ks.map Tree.sz).sum≤2 * drS n:=by
    have:∀ (l:List Tree),(∀ t∈l,t.sz≤drS n)→(l.map Tree.sz).sum≤l.length * drS n:=by
     intro l
     induction l with
     |nil=>intro _;simp
     |cons t l ih =>
      intro h
      have h1:=h t (by simp)
      have h2:=ih fun u hu=>h u (by simp [hu])
      simp only [List.map_cons,List.sum_cons,y53,Nat.add_mul]
      omega
    have h1:=this ks fun t ht=>by
     obtain ⟨i,hi,rfl⟩:=List.mem_iff_getElem.1 ht
     exact (hst i hi).1
    have h2:ks.length * drS n≤2 * drS n:=Nat.mul_le_mul_right _ (by omega)
    omega
   refine ⟨.mk kd 0 ks,pf m,⟨by rw [z241];omega,by omega,by omega⟩,?_⟩
   refine z10 z19 Tryz.func106 rfl rfl 43 Tryz.ntmps106 (by simp) ?_
   rw [← hp0] at ck
   repeat' ((first|(apply y79 ok;rfl)|((apply z7)<;>intro _)|(apply z8 (ca);rfl;rfl)|((first|(apply z11 [0] [] cw;rfl;rfl)|(apply z11 [0,2] [] ck;rfl;rfl));rfl;(focus ((repeat' first|exact z18|apply z14)<;>first|exact z52 rfl rfl|(refine z23 ?_;((exact z6 fun _=>rfl)))))))<;>conv=>whnf)
   all_goals try (exfalso;omega)
   refine y80 (y83 3 rfl) ?_
   refine z85 (fun k:Nat=>([(0,.ptr 0 none 0),(1,.int d),(4,.ptr 1 none 0),(5,.ptr 2 none 0),(6,.int (m - k))],[rdO bs (pf k),.cells 3 [[.int 0,.int 0,.nils]],.cells 3 [[.int kd,.int 0,.sref 3 0 k]],.cells 3 ((ks.take k).map Tree.cs')])) (fun k=>k≤m) (fun k=>m - k) 0 (by omega) (by refine swR [0,1,3,4] [] rfl rfl ?_;(repeat' first|exact y81 _|exact z59|apply y82|refine z15 rfl (z39) ?_|constructor)) ?_
   intro k hk
   by_cases hkm:k < m
   ·have hc:=(hst k (by omega)).2
    have hkl:k < ks.length:=by omega
    rw [y14] at hc
    repeat' ((first|(apply y79 ok;rfl)|(apply z36;kernel_rfl)|(apply y38;first|(unfold inI;omega)|((try dsimp only);simp only [y44,y43,y42,y41,y53,y54];omega)|exact ⟨rfl,z24 rfl z33⟩)|((apply z7)<;>intro _)|(apply z41 [0] [] hc;rfl;rfl;rfl))<;>conv=>whnf)
    all_goals try (exfalso;omega)
    refine z44 (k+1) (by omega) (by omega) (by refine swR [0,1,2,5] [] rfl rfl ?_;(repeat' first|exact y81 _|exact z337|(refine z149 ?_;omega)|apply y82|((refine z48 rfl ?_ ?_);(focus ((repeat' (first|exact z6 (fun _=>rfl)|apply z30));done)))|refine z132 (by omega) (by omega) ?_|(apply z98;rfl)|constructor))
   ·have:k=m:=by omega
    subst this
    repeat' ((first|(apply y79 ok;rfl)|(apply y38;omega)|((apply z7)<;>intro _))<;>conv=>whnf)
    all_goals try (exfalso;omega)
    all_goals (refine rsD [0] [3] rfl ?_;(repeat' first|exact y81 _|(refine z536 ?_;omega)|apply y82|((apply z57 rfl rfl rfl);(focus ((repeat ((exact z47 (fun _=>rfl) _)));done));(focus (((simp;omega));done)))|apply z61|constructor))
theorem z756 (bs:List Int) (hb:BytesOk bs) (p:Int) (hp:few p):∃ (t:Tree) (p' : Int),(t.sz≤20∧p≤p'∧p'≤p+100)∧CallsA Tryz.prog 43 [.ptr 0 none 0] [rdO bs p] (z43 Tree.cs' t) [rdO bs p']:=by
 obtain ⟨d,md,cd⟩:=z111 bs hb p (by omega) (by omega) [3,2,4,3] (by decide) (by decide)
 have hd:0≤d∧d≤4:=by simp at md;omega
 obtain ⟨t,q,⟨t1,t2,t3⟩,ct⟩:=z856 bs hb 3 d (p+1) (by omega) (by omega) (by omega) (by omega) (by simp only [drK];omega)
 simp only [drK] at t3
 simp only [drS] at t1
 have cv:=z571 t (z136 t (by unfold maxLen;omega))
 by_cases hv:t.fmB=true
 ·refine ⟨t,q,⟨by omega,by omega,by omega⟩,?_⟩
  rw [hv] at cv
  rw [y14] at *
  refine z10 z19 Tryz.func43 rfl rfl 15 Tryz.ntmps43 (by simp) ?_
  repeat' ((first|(apply y79 ok;rfl)|(apply z8 (cv);rfl;rfl)|((first|(apply z11 [0,2] [] cd;rfl;rfl)|(apply z11 [0] [] ct;rfl;rfl));rfl;(focus ((repeat' first|exact z18|apply z14)<;>first|exact z52 rfl rfl|(refine z23 ?_;((exact z6 fun _=>rfl)))))))<;>conv=>whnf)
  all_goals (refine rsD [0] [] rfl ?_;(repeat' first|exact y81 _|apply y82|constructor))
 ·refine ⟨.mk 10 0 [leaf 2 0],q,⟨by rw [z241];simp [z96],by omega,by omega⟩,?_⟩
  rw [(y67 _).mp hv] at cv
  rw [y14] at cv ct
  refine z10 z19 Tryz.func43 rfl rfl 15 Tryz.ntmps43 (by simp) ?_
  repeat' ((first|(apply y79 ok;rfl)|(apply z8 (cv);rfl;rfl)|((first|(apply z11 [0,2] [] cd;rfl;rfl)|(apply z11 [0] [] ct;rfl;rfl));rfl;(focus ((repeat' first|exact z18|apply z14)<;>first|exact z52 rfl rfl|(refine z23 ?_;((exact z6 fun _=>rfl)))))))<;>conv=>whnf)
  all_goals (refine rsD [0] [4] rfl ?_;(repeat' first|exact y81 _|exact z55|apply y82|refine z57 rfl rfl rfl rfl rfl ?_|apply z61|(apply z98;rfl)|constructor))
theorem argU (k v:Int) (a:Tree):z43 Tree.cs' (.mk k v [a])=.agg [.int k,.int v,.list 3 1 [Tree.cs' a]]:=by
 rw [y14]
 show AC.agg [AC.int k,AC.int v,lst 3 Tree.cs' [a]]=_
 rfl
theorem argB (k v:Int) (a b:Tree):z43 Tree.cs' (.mk k v [a,b])=.agg [.int k,.int v,.list 3 2 [Tree.cs' a,Tree.cs' b]]:=by
 rw [y14]
 rfl
end Go.Proofs.YtjhgpfaodkchjaaGreat
namespace Go.Proofs.YtjhgpfaodkchjaaGreat
open Go.Gl
attribute [local irreducible] z20 AWP z31 z38 z34
theorem z878 (l:List Tree) (hl:l.length≤1048576) (hp:0 < l.length):CallsA Tryz.prog 297 [lst 3 Tree.cs' l] [] (.sref 0 0 l.length) [.cells 3 (l.map Tree.cs')]:=by
 refine z12 z19 Tryz.func297 rfl rfl 8 Tryz.ntmps297 (by simp) ?_
 repeat' (first|(apply y79 ok;rfl;conv=>whnf)|(apply y38;(first|omega|(dsimp only;omega)|exact z153 (fun _=>rfl));conv=>whnf))
 exact z97 rfl (z6 fun _=>rfl) (Nat.zero_add _) rfl rfl
theorem z1016 (l:List Tree) (hl:l.length≤1048576):CallsA Tryz.prog 297 [lst 3 Tree.cs' l] [] (.sref 0 0 l.length) [.cells 3 (l.map Tree.cs')]:=by
 by_cases hp:0 < l.length
 ·exact z878 l hl hp
 ·obtain rfl:l=[]:=y69 (by omega)
  refine z212 (z207 Tryz.func297 rfl (by rfl)) fun ad cap=>?_
  cases ad with
  |none =>
   refine CallsA.nils (res:=.nils) (l:=[.cells 3 []]) ?_ (by simp) z379
   refine z12 z19 Tryz.func297 rfl rfl 8 Tryz.ntmps297 (by simp) ?_
   repeat' ((apply y79 ok;rfl;conv=>whnf))
   all_goals exact z54 rfl rfl rfl
  |some p =>
   refine z12 z19 Tryz.func297 rfl rfl 8 Tryz.ntmps297 (by simp) ?_
   repeat' (first|(apply y79 ok;rfl;conv=>whnf)|(apply y38;(omega);conv=>whnf))
   all_goals (exact z97 rfl z39 rfl rfl rfl)
theorem z551 (l:List Tree) (hl:l.length≤1048576):CallsA Tryz.prog 268 [.sref 0 0 l.length] [.cells 3 (l.map Tree.cs')] (.sref 0 0 l.length) [.cells 3 (l.map Tree.cs')]:=by
 refine z12 z19 Tryz.func268 rfl rfl 9 Tryz.ntmps268 (by simp) ?_
 repeat' (first|(apply y79 ok;rfl;conv=>whnf)|(apply y38;(omega);conv=>whnf))
 exact z97 rfl (z6 fun _=>rfl) (by omega) rfl rfl
theorem z174 (l:List Tree) (hl:l.length≤1048576):CallsA Tryz.prog 266 [lst 3 Tree.cs' l] [] (.sref 0 0 l.length) [.cells 3 (l.map Tree.cs')]:=by
 refine z12 z19 Tryz.func266 rfl rfl 6 Tryz.ntmps266 (by simp) ?_
 repeat' (first|(apply y79 ok;rfl;conv=>whnf)|(apply z72 [] [] [0] (z1016 l hl);rfl;(focus ((repeat' (exact z32))<;>(fail)));rfl;rfl;rfl;rfl;rfl;(focus ((repeat' (first|exact z18|apply z14))<;>((refine z23 ?_;((exact z6 (fun _=>rfl)))))));(exact .inl rfl);conv=>whnf)|(apply z72 [0] [] [] (z551 l hl);rfl;(focus ((repeat' (first|exact z32|apply z62))<;>((refine z83 rfl ?_;((exact z6 (fun _=>rfl)))))));rfl;rfl;rfl;rfl;rfl;(focus ((repeat' (first|exact z18|apply z14))<;>((refine z23 ?_;((exact z6 (fun _=>rfl)))))));(exact .inl rfl);conv=>whnf))
 exact z97 rfl (z6 fun _=>rfl) rfl rfl rfl
end Go.Proofs.YtjhgpfaodkchjaaGreat
namespace Go.Proofs.YtjhgpfaodkchjaaGreat
open Go.Gl
attribute [local irreducible] z20 AWP z31 z38 z34 RetS z45
theorem z1003 (k:Int) (l:List Tree) (hl:l.length≤1048576):CallsA Tryz.prog 226 [.int k,lst 3 Tree.cs' l] [] (.agg [.int k,.int 0,lst 3 Tree.cs' l]) []:=by
 have c:=z174 l hl
 refine z10 z19 Tryz.func226 rfl rfl 9 Tryz.ntmps226 (by simp) ?_
 repeat' ((first|(apply y79 ok;rfl)|(apply z11 [] [1] c;rfl;rfl;rfl;(focus ((repeat' first|exact z18|apply z14)<;>(refine z23 ?_;((exact z6 fun _=>rfl)))))))<;>conv=>whnf)
 all_goals (refine rsD [] [1] rfl ?_;(repeat' first|exact y81 _|((apply z57 rfl rfl rfl);(focus ((repeat ((exact z47 (fun _=>rfl) _)));done));(focus (((simp;done));done)))|apply z61|constructor))
theorem z867 (k:Int):CallsA Tryz.prog 226 [.int k,.nils] [] (.agg [.int k,.int 0,.list 3 0 []]) []:=(z1003 k [] (by simp)).arg (by (repeat' first|exact y81 _|exact z55|constructor))
theorem z127 (k:Int) (l:List Tree) (hl:l.length≤1048576):CallsA Tryz.prog 226 [.int k,.sref 0 0 l.length] [.cells 3 (l.map Tree.cs')] (.agg [.int k,.int 0,lst 3 Tree.cs' l]) [.dead]:=by
 have c:=z174 l hl
 refine z10 z19 Tryz.func226 rfl rfl 9 Tryz.ntmps226 (by simp) ?_
 refine y80 (Reach.rnm 0 rfl) ?_
 refine y80 (show Gl.Reach _ _ (mkSt _ [(0,.int k),(1,lst 3 Tree.cs' l)] [.dead]) from (by refine swR [0] [1] rfl rfl ?_;(repeat' first|exact y81 _|((apply z57 rfl rfl rfl);(focus ((repeat ((exact z47 (fun _=>rfl) _)));done));(focus (((simp;done));done)))|constructor))) ?_
 repeat' ((first|(apply y79 ok;rfl)|(apply z11 [] [2] c;rfl;rfl;rfl;(focus ((repeat' first|exact z18|apply z14)<;>(refine z23 ?_;((exact z6 fun _=>rfl)))))))<;>conv=>whnf)
 all_goals (refine rsD [0] [2] rfl ?_;(repeat' first|exact y81 _|((apply z57 rfl rfl rfl);(focus ((repeat ((exact z47 (fun _=>rfl) _)));done));(focus (((simp;done));done)))|apply z61|constructor))
theorem z448 (k kd v:Int):CallsA Tryz.prog 226 [.int k,.sref 0 0 1] [.cells 3 [[.int kd,.int v,.nils]]] (.agg [.int k,.int 0,lst 3 Tree.cs' [.mk kd v []]]) [.dead]:=by
 have c:=z174 [.mk kd v []] (by simp)
 refine z10 z19 Tryz.func226 rfl rfl 9 Tryz.ntmps226 (by simp) ?_
 refine y80 (Reach.rnm 0 rfl) ?_
 refine y80 (show Gl.Reach _ _ (mkSt _ [(0,.int k),(1,lst 3 Tree.cs' [.mk kd v []])] [.dead]) from (by refine swR [0] [1] rfl rfl ?_;(repeat' first|exact y81 _|exact z55|refine z57 rfl rfl rfl rfl rfl ?_|(apply z98;rfl)|constructor))) ?_
 repeat' ((first|(apply y79 ok;rfl)|(apply z41 [] [2] c;rfl;rfl;rfl))<;>conv=>whnf)
 all_goals (refine rsD [0] [2] rfl ?_;(repeat' first|exact y81 _|constructor))
theorem z291 (k v : Int) (l : List Tree) (neg : Bool) (i : Nat) (hi : i < l.length) (x : Tree) (hx : CallsA Tryz.prog 229 [z43 Tree.cs' l[i], .bool neg] [] (z43 Tree.cs' x) []) :
    CallsA Tryz.prog 269 [.int i,.ptr 0 none 0,.ptr 1 none 0] [.cells 3 [[.int k,.int v,lst 3 Tree.cs' l]],.cells 1 [[.bool neg]]] (z43 Tree.cs' x) [.cells 3 [[.int k,.int v,lst 3 Tree.cs' l]],.cells 1 [[.bool neg]]]:=by
  have g:(l.map Tree.cs')[i]?=some (Tree.cs' l[i]):=by rw [y46,y40 hi];rfl
  generalize l[i]=y at *
  refine z10 z19 Tryz.func269 rfl rfl 12 Tryz.ntmps269 (by simp) ?_
  repeat' ((first|(apply y79 ok;rfl)|(apply z36;kernel_rfl)|(refine z21 (i:=i) rfl g ?_)|(apply y38;omega)|(apply z8 (hx);rfl;rfl))<;>conv=>whnf)
  all_goals (refine rsD [0,1] [] rfl ?_;(repeat' first|exact y81 _|apply y82|constructor))
theorem z984 (a b:Int) (neg:Bool):CallsA Tryz.prog 270 [.int a,.int b,.ptr 0 none 0] [.cells 1 [[.bool neg]]] (.int (if neg then b else a)) [.cells 1 [[.bool neg]]]:=by
 refine z10 z19 Tryz.func270 rfl rfl 9 Tryz.ntmps270 (by simp) ?_
 cases neg
 all_goals
  repeat' (((apply y79 ok;rfl))<;>conv=>whnf)
  all_goals (refine rsD [0] [] rfl ?_;(repeat' first|exact y81 _|apply y82|constructor))
set_option maxHeartbeats 6400000 in
theorem z1103 (t:Tree):t.goodF→∀ neg:Bool,CallsA Tryz.prog 229 [z43 Tree.cs' t,.bool neg] [] (z43 Tree.cs' (t.nrm neg)) []:=by
 induction t using y24 with|h t ih=>?_
 intro hg neg
 have cT:=z867 1
 have cF:=z127 3 [.mk 1 0 []] (by simp)
 cases y19 hg with
 |tr =>
  rw [z1099]
  clear ih
  cases neg
  all_goals
   refine z10 z19 Tryz.func229 rfl rfl 99 Tryz.ntmps229 (by simp) ?_
   repeat' ((first|(apply y79 ok;rfl)|(apply z8 (cT);rfl;rfl)|((first|(apply z11 [3] [] cF;rfl;rfl)|(apply z11 [6] [] (z448 3 1 0);rfl;rfl));rfl;(focus ((repeat' first|exact z18|apply z14)<;>exact z170))))<;>conv=>whnf)
   all_goals (refine rsD [] [] rfl ?_;(repeat' first|exact y81 _|exact z55|apply z61|constructor))
 |«at» v h0 h1 =>
  rw [z1101]
  clear ih
  cases neg
  all_goals
   refine z10 z19 Tryz.func229 rfl rfl 99 Tryz.ntmps229 (by simp) ?_
   repeat' ((first|(apply y79 ok;rfl)|(apply z8 (cT);rfl;rfl)|((first|(apply z11 [3] [] cF;rfl;rfl)|(apply z11 [6] [] (z448 3 2 v);rfl;rfl));rfl;(focus ((repeat' first|exact z18|apply z14)<;>exact z170))))<;>conv=>whnf)
   all_goals (refine rsD [] [] rfl ?_;(repeat' first|exact y81 _|exact z55|apply z61|constructor))
 |un k a hk ha =>
  have ca:=fun n=>ih a (by simp [Tree.kids]) ha n
  clear ih
  rcases hk with rfl|rfl|rfl|rfl
  ·rw [z847,argU 3 0 a]
   have ca:=ca (!neg)
   refine z10 z19 Tryz.func229 rfl rfl 99 Tryz.ntmps229 (by simp) ?_
   repeat' ((first|(apply y79 ok;rfl)|(apply z36;kernel_rfl)|(refine ⟨_,rfl,?_⟩)|(apply y38;omega)|(apply z8 (cT);rfl;rfl)|(apply z8 (ca);rfl;rfl)|(apply z11 [3] [] cF;rfl;rfl;rfl;(focus ((repeat' first|exact z18|apply z14)<;>exact z170))))<;>conv=>whnf)
   all_goals (refine rsD [] [] rfl ?_;(repeat' first|exact y81 _|constructor))
  ·rw [z661,argU 6 0 a,argU]
   have ck:=z291 6 0 [a] neg 0 (by simp) (a.nrm neg) (ca neg)
   have cf:=z127 6 [a.nrm neg] (by simp)
   generalize a.nrm neg=x at *
   refine z10 z19 Tryz.func229 rfl rfl 99 Tryz.ntmps229 (by simp) ?_
   repeat' ((first|(apply y79 ok;rfl)|(apply z8 (cT);rfl;rfl)|((first|(apply z11 [3] [] cF;rfl;rfl)|(apply z11 [0,1] [] ck;rfl;rfl)|(apply z11 [5] [] cf;rfl;rfl));rfl;(focus ((repeat' first|exact z18|apply z14)<;>first|exact z170|exact z52 rfl rfl))))<;>conv=>whnf)
   all_goals (refine rsD [] [] rfl ?_;(repeat' first|exact y81 _|constructor))
  ·rw [z1100,argU 9 0 a]
   have ck:=z291 9 0 [a] neg 0 (by simp) (a.nrm neg) (ca neg)
   have c7:=z127 7 [truT,a.nrm neg] (by simp)
   have c8:=z127 8 [notT truT,a.nrm neg] (by simp)
   generalize a.nrm neg=x at *
   cases neg
   ·rw [if_neg (by simp),argB]
    refine z10 z19 Tryz.func229 rfl rfl 99 Tryz.ntmps229 (by simp) ?_
    repeat' ((first|(apply y79 ok;rfl)|(apply z8 (cT);rfl;rfl)|((first|(apply z11 [3] [] cF;rfl;rfl)|(apply z11 [0,1] [] ck;rfl;rfl)|(apply z11 [5] [] c7;rfl;rfl));rfl;(focus ((repeat' first|exact z18|apply z14)<;>first|exact z170|exact z52 rfl rfl))))<;>conv=>whnf)
    all_goals (refine rsD [] [] rfl ?_;(repeat' first|exact y81 _|constructor))
   ·rw [if_pos rfl,argB]
    refine z10 z19 Tryz.func229 rfl rfl 99 Tryz.ntmps229 (by simp) ?_
    repeat' ((first|(apply y79 ok;rfl)|(apply z36;kernel_rfl)|(apply z8 (cT);rfl;rfl)|((first|(apply z11 [3] [] cF;rfl;rfl)|(apply z11 [0,1] [] ck;rfl;rfl)|(apply z11 [5] [] c8;rfl;rfl));rfl;(focus ((repeat' first|exact z18|apply z14)<;>first|exact z170|exact z52 rfl rfl))))<;>conv=>whnf)
    all_goals (refine rsD [] [] rfl ?_;(repeat' first|exact y81 _|constructor))
  ·rw [z1102,argU 10 0 a]
   have ck:=z291 10 0 [a] neg 0 (by simp) (a.nrm neg) (ca neg)
   have c7:=z127 7 [truT,a.nrm neg] (by simp)
   have c8:=z127 8 [notT truT,a.nrm neg] (by simp)
   generalize a.nrm neg=x at *
   cases neg
   ·rw [if_neg (by simp),argB]
    refine z10 z19 Tryz.func229 rfl rfl 99 Tryz.ntmps229 (by simp) ?_
    repeat' ((first|(apply y79 ok;rfl)|(apply z36;kernel_rfl)|(apply z8 (cT);rfl;rfl)|((first|(apply z11 [3] [] cF;rfl;rfl)|(apply z11 [0,1] [] ck;rfl;rfl)|(apply z11 [5] [] c8;rfl;rfl));rfl;(focus ((repeat' first|exact z18|apply z14)<;>first|exact z170|exact z52 rfl rfl))))<;>conv=>whnf)
    all_goals (refine rsD [] [] rfl ?_;(repeat' first|exact y81 _|constructor))
   ·rw [if_pos rfl,argB]
    refine z10 z19 Tryz.func229 rfl rfl 99 Tryz.ntmps229 (by simp) ?_
    repeat' ((first|(apply y79 ok;rfl)|(apply z8 (cT);rfl;rfl)|((first|(apply z11 [3] [] cF;rfl;rfl)|(apply z11 [0,1] [] ck;rfl;rfl)|(apply z11 [5] [] c7;rfl;rfl));rfl;(focus ((repeat' first|exact z18|apply z14)<;>first|exact z170|exact z52 rfl rfl))))<;>conv=>whnf)
    all_goals (refine rsD [] [] rfl ?_;(repeat' first|exact y81 _|constructor))
 |bin k a b hk ha hb =>
  have ca:=z291 k 0 [a,b] neg 0 (by simp) (a.nrm neg) (ih a (by simp [Tree.kids]) ha neg)
  have cb:=z291 k 0 [a,b] neg 1 (by simp) (b.nrm neg) (ih b (by simp [Tree.kids]) hb neg)
  clear ih
  have cf:=z127 (if neg then dualF k else k) [a.nrm neg,b.nrm neg] (by simp)
  have cp:=z984 k (dualF k) neg
  rw [z848 _ _ _ _ _ hk,argB k 0 a b,argB]
  generalize a.nrm neg=x at *
  generalize b.nrm neg=y at *
  rcases hk with rfl|rfl|rfl|rfl
  all_goals
   refine z10 z19 Tryz.func229 rfl rfl 99 Tryz.ntmps229 (by simp) ?_
   repeat' ((first|(apply y79 ok;rfl)|(apply z8 (cT);rfl;rfl)|((first|(apply z11 [3] [] cF;rfl;rfl)|(apply z11 [0,1] [] ca;rfl;rfl)|(apply z11 [0,1] [] cb;rfl;rfl)|(apply z11 [1] [] cp;rfl;rfl)|(apply z11 [5] [] cf;rfl;rfl));rfl;(focus ((repeat' first|exact z18|apply z14)<;>first|exact z170|exact z52 rfl rfl))))<;>conv=>whnf)
   all_goals (refine rsD [] [] rfl ?_;(repeat' first|exact y81 _|constructor))
theorem z992 (t:Tree) (h:t.sz≤1000000):CallsA Tryz.prog 103 [z43 Tree.cs' t] [] (ownT t) [.cells 3 (t.kids.map Tree.cs')]:=by
 induction t using y24 with|h t ih=>?_
 have hkl:t.kids.length≤1000000:=by rw [y33] at h;omega
 have hks:∀ u∈t.kids,u.sz≤1000000:=fun u hu=>by
  have:=z384 Tree.sz hu
  rw [y33] at h;omega
 rw [y14 t]
 obtain ⟨k,v,l⟩:=t
 simp only [Tree.kind,Tree.val,Tree.kids] at *
 have hcs:∀ (i:Nat) (hi:i < l.length),CallsA Tryz.prog 103 [z43 Tree.cs' l[i]] [] (z43 Tree.cs' l[i]) []:=fun i hi =>
  z471 (ih _ (y39 _) (hks _ (y39 _)))
 unfold ownT
 simp only [Tree.kind,Tree.val,Tree.kids] at *
 refine z10 z19 Tryz.func103 rfl rfl 29 Tryz.ntmps103 (by simp) ?_
 repeat' (((apply y79 ok;rfl))<;>conv=>whnf)
 refine y80 (y83 3 rfl) ?_
 refine z85 (fun i:Nat=>([(1,.ptr 0 none 0),(2,.ptr 1 none 0),(3,.ptr 2 none 0),(4,.int i)],[.cells 3 [[.int k,.int v,lst 3 Tree.cs' l]],.cells 3 [[.int 0,.int 0,.nils]],.cells 3 [[.int k,.int v,.sref 3 0 i]],.cells 3 ((l.take i).map Tree.cs')])) (fun i=>i≤l.length) (fun i=>l.length - i) 0 (by omega) (by refine swR [0,1,2,3] [] rfl rfl ?_;(repeat' first|exact y81 _|exact z59|apply y82|refine z15 rfl (z39) ?_|constructor)) ?_
 intro i hi
 by_cases hil:i < l.length
 ·have hc:=hcs i hil
  repeat' ((first|(apply y79 ok;rfl)|(apply z36;kernel_rfl)|(apply y38;first|omega|(unfold inI;omega)|((try dsimp only);simp only [y44,y43,y42,y41,y53,y54];omega)|exact ⟨rfl,z24 rfl z33⟩)|(((with_reducible apply z13;omega));intro _)|((apply z7)<;>intro _)|(apply z8 (hc);rfl;rfl))<;>conv=>whnf)
  all_goals try (exfalso;omega)
  refine z44 (i+1) (by omega) (by omega) (by refine swR [0,1,2,5] [] rfl rfl ?_;(repeat' first|exact y81 _|apply y82|((refine z48 rfl ?_ ?_);(focus ((repeat' (first|exact z6 (fun _=>rfl)|apply z30));done)))|refine z132 (by omega) (by omega) ?_|constructor))
 ·have e:i=l.length:=by omega
  subst e
  rw [y51]
  repeat' ((first|(apply y79 ok;rfl)|(apply y38;omega)|(((with_reducible apply z13;omega));intro _)|((apply z7)<;>intro _))<;>conv=>whnf)
  all_goals try (exfalso;omega)
  all_goals (refine rsD [3] [] rfl ?_;(repeat' first|exact y81 _|exact z16 _|refine z15 rfl (z6 (fun _=>rfl)) ?_|constructor))
set_option maxHeartbeats 1600000 in
theorem z857 (bs:List Int) (hb:BytesOk bs) (p:Int) (hp:few p) (t:Tree) (ht:t.sz≤1000):∃ (t' : Tree) (p' : Int),(t'.sz≤t.sz+1∧p≤p'∧p'≤p+2)∧CallsA Tryz.prog 42 [.ptr 0 none 0,z43 Tree.cs' t] [rdO bs p] (z43 Tree.cs' t') [rdO bs p']:=by
 have cs:=z992 t (by omega)
 obtain ⟨u,hu⟩:∃ u,u=t:=⟨t,rfl⟩
 have hsz:u.sz≤t.sz:=by rw [hu];exact y47 _
 have cs:CallsA Tryz.prog 103 [z43 Tree.cs' t] [] (ownT u) [.cells 3 (u.kids.map Tree.cs')]:=by rw [hu];exact cs
 clear hu
 have hul:u.kids.length≤1000:=by rw [y33] at hsz;omega
 obtain ⟨v,⟨lv,uv⟩,cv⟩:=z77 bs hb p 50 (by omega) (by omega) (by omega)
 rw [y14 t]
 rw [y14 t] at cs
 unfold ownT at cs
 by_cases h0:v=0
 ·subst h0
  obtain ⟨k,mk,ck⟩:=z111 bs hb (p+1) (by omega) (by omega) [0,11,-1,2,3,4] (by decide) (by decide)
  refine ⟨.mk k u.val u.kids,p+1+1,⟨by rw [z241];rw [y33] at hsz;omega,by omega,by omega⟩,?_⟩
  refine z10 z19 Tryz.func42 rfl rfl 34 Tryz.ntmps42 (by simp) ?_
  repeat' ((first|(apply y79 ok;rfl)|((first|(apply z11 [] [3] cs;rfl;rfl)|(apply z11 [0] [] cv;rfl;rfl)|(apply z11 [0,5] [] ck;rfl;rfl));rfl;(focus ((repeat' first|exact z18|apply z14)<;>first|exact z52 rfl rfl|(refine z23 ?_;((exact z6 fun _=>rfl)))))))<;>conv=>whnf)
  all_goals (refine rsD [0] [3] rfl ?_;(repeat' first|exact y81 _|exact z337|apply y82|((apply z57 rfl rfl rfl);(focus ((repeat ((exact z47 (fun _=>rfl) _)));done));(focus (((simp;done));done)))|apply z61|(apply z98;rfl)|constructor))
 by_cases h1:v=1
 ·subst h1
  obtain ⟨k,mk,ck⟩:=z111 bs hb (p+1) (by omega) (by omega) [-1,3,2,9223372036854775807] (by decide) (by decide)
  refine ⟨.mk u.kind k u.kids,p+1+1,⟨by rw [z241];rw [y33] at hsz;omega,by omega,by omega⟩,?_⟩
  refine z10 z19 Tryz.func42 rfl rfl 34 Tryz.ntmps42 (by simp) ?_
  repeat' ((first|(apply y79 ok;rfl)|((first|(apply z11 [] [3] cs;rfl;rfl)|(apply z11 [0] [] cv;rfl;rfl)|(apply z11 [0,5] [] ck;rfl;rfl));rfl;(focus ((repeat' first|exact z18|apply z14)<;>first|exact z52 rfl rfl|(refine z23 ?_;((exact z6 fun _=>rfl)))))))<;>conv=>whnf)
  all_goals (refine rsD [0] [3] rfl ?_;(repeat' first|exact y81 _|exact z337|apply y82|((apply z57 rfl rfl rfl);(focus ((repeat ((exact z47 (fun _=>rfl) _)));done));(focus (((simp;done));done)))|apply z61|(apply z98;rfl)|constructor))
 by_cases h2:v=2
 ·subst h2
  refine ⟨.mk u.kind u.val (u.kids++[leaf 1 0]),p+1,⟨by rw [z241];rw [y33] at hsz;simp [z96];omega,by omega,by omega⟩,?_⟩
  refine z10 z19 Tryz.func42 rfl rfl 34 Tryz.ntmps42 (by simp) ?_
  repeat' ((first|(apply y79 ok;rfl)|(apply z36;kernel_rfl)|(apply y38;first|((try dsimp only);simp only [y44,y43,y42,y41,y53,y54];omega)|exact ⟨rfl,z24 rfl z33⟩)|(apply z8 (z533);rfl;rfl)|((first|(apply z11 [] [3] cs;rfl;rfl)|(apply z11 [0] [] cv;rfl;rfl));rfl;(focus ((repeat' first|exact z18|apply z14)<;>first|exact z52 rfl rfl|(refine z23 ?_;((exact z6 fun _=>rfl)))))))<;>conv=>whnf)
  all_goals (refine rsD [0] [6] rfl ?_;(repeat' first|exact y81 _|apply y82|((apply z57 rfl rfl rfl);(focus ((repeat (first|exact z47 (fun _=>rfl) _|apply z179|apply z253|rfl));done));(focus (((simp;done));done)))|apply z61|constructor))
  all_goals exact z726 rfl rfl (node_le' (y81 _))
 by_cases h3:v=3
 ·subst h3
  refine ⟨leaf 0 0,p+1,⟨by rw [z96];omega,by omega,by omega⟩,?_⟩
  refine z10 z19 Tryz.func42 rfl rfl 34 Tryz.ntmps42 (by simp) ?_
  repeat' ((first|(apply y79 ok;rfl)|((first|(apply z11 [] [3] cs;rfl;rfl)|(apply z11 [0] [] cv;rfl;rfl));rfl;(focus ((repeat' first|exact z18|apply z14)<;>first|exact z52 rfl rfl|(refine z23 ?_;((exact z6 fun _=>rfl)))))))<;>conv=>whnf)
  all_goals (refine rsD [0] [] rfl ?_;(repeat' first|exact y81 _|exact z55|apply y82|apply z61|constructor))
 ·refine ⟨.mk u.kind u.val u.kids,p+1,⟨by rw [z241];rw [y33] at hsz;omega,by omega,by omega⟩,?_⟩
  refine z10 z19 Tryz.func42 rfl rfl 34 Tryz.ntmps42 (by simp) ?_
  repeat' ((first|(apply y79 ok;rfl)|((apply z7)<;>intro _)|((first|(apply z11 [] [3] cs;rfl;rfl)|(apply z11 [0] [] cv;rfl;rfl));rfl;(focus ((repeat' first|exact z18|apply z14)<;>first|exact z52 rfl rfl|(refine z23 ?_;((exact z6 fun _=>rfl)))))))<;>conv=>whnf)
  all_goals try (exfalso;omega)
  all_goals (refine rsD [0] [3] rfl ?_;(repeat' first|exact y81 _|exact z337|apply y82|((apply z57 rfl rfl rfl);(focus ((repeat ((exact z47 (fun _=>rfl) _)));done));(focus (((simp;done));done)))|apply z61|(apply z98;rfl)|constructor))
theorem z675 (c:Tree) (l:List Tree) (hl:l.length≤maxLen) (p:Tree→Bool) (f:FuncId) (hf:∀ x∈l,CallsA Tryz.prog f [z43 Tree.cs' x,.pt [.int c.kind,.int c.val,lst 3 Tree.cs' c.kids]] [] (.bool (p x)) []):CallsA Tryz.prog 271 [lst 3 Tree.cs' l,.fn (.func f) [] [.pt [.int c.kind,.int c.val,lst 3 Tree.cs' c.kids]]] [] (.int (idxF p l)) []:=by
 unfold maxLen at hl
 refine z12 z19 Tryz.func271 rfl rfl 19 Tryz.ntmps271 (by simp) ?_
 repeat' (((apply y79 ok;rfl))<;>conv=>whnf)
 refine z95 (fun k:Nat=>([(0,lst 3 Tree.cs' l),(1,.fn (.func f) [] [.pt [.int c.kind,.int c.val,lst 3 Tree.cs' c.kids]]),(7,.int l.length),(8,.int k)],[])) (fun k=>k≤l.length∧∀ j (hj:j < l.length),j < k→p l[j]=false) (fun k=>l.length - k) 0 (by simp)
  ⟨[],rfl,by decide,rfl,⟨⟨rfl,rfl⟩,⟨rfl,rfl⟩,⟨rfl,rfl⟩,⟨rfl,rfl⟩,trivial⟩,trivial⟩ ?_
 intro k hk
 repeat' ((first|(apply y79 ok;rfl)|(apply y38;first|omega|(unfold inI;omega))|(((with_reducible apply z13;omega));intro _)|((first|apply z7|apply z105)<;>intro _)|(apply z8 (hf l[k] (y39 _));rfl;rfl))<;>conv=>whnf)
 ·rename_i h h1
  exact z54 rfl rfl (by rw [z209 (by omega) h1 hk.2];rfl)
 ·rename_i h h1
  refine z81 (k+1) [] ⟨by omega,fun j hj hjk=>?_⟩ (by omega) ⟨rfl,by decide,rfl,⟨⟨rfl,rfl⟩,⟨rfl,rfl⟩,⟨rfl,rfl⟩,⟨rfl,rfl⟩,trivial⟩,trivial⟩
  rcases y65 j k with h2|h2
  ·exact hk.2 j hj h2
  ·obtain rfl:j=k:=by omega
   exact h1
 ·exact z54 rfl rfl (by rw [z184 fun j hj=>hk.2 j hj (by omega)];rfl)
theorem z1155 (A B : List Tree) (hA : A.length ≤ maxLen) (hB : B.length ≤ maxLen) (f : FuncId) (hf : ∀ i (h : i < A.length) (h2 : i < B.length), CallsA Tryz.prog f [z43 Tree.cs' A[i], z43 Tree.cs' B[i]] [] (.bool (decide (A[i] = B[i]))) []) :
    CallsA Tryz.prog 299 [lst 3 Tree.cs' A,lst 3 Tree.cs' B,.fn (.func f) [] []] [] (.bool (decide (A=B))) []:=by
  unfold maxLen at hA hB
  by_cases hl:A.length=B.length
  · have hT:(∀ i (h:i < A.length) (h2:i < B.length),A[i]=B[i])→decide (A=B)=true:=fun h=>y76 (y70 hl h)
    have hF:∀ i (h:i < A.length) (h2:i < B.length),A[i]≠B[i]→decide (A=B)=false:=fun i h h2 hne=>y77 fun e=>hne (by subst e;rfl)
    generalize decide (A=B)=D at *
    refine z10 z19 Tryz.func299 rfl (by kernel_rfl) 32 Tryz.ntmps299 (by simp) ?_
    repeat' ((first|(apply y79 ok;rfl)|((apply z40)<;>intro _))<;>conv=>whnf)
    all_goals try (exfalso;omega)
    refine z85 (fun i:Nat=>([(0,lst 3 Tree.cs' A),(1,lst 3 Tree.cs' B),(2,.fn (.func f) [] []),(15,lst 3 Tree.cs' A),(16,.int A.length),(17,.int i)],[])) (fun i=>i≤A.length∧∀ j (h:j < A.length) (h2:j < B.length),j < i→A[j]=B[j]) (fun i=>A.length - i) 0 ⟨y48 _,fun j _ _ h=>absurd h (Nat.not_lt_zero _)⟩ (by refine swR [] [] rfl rfl ?_;(repeat' first|exact y81 _|constructor)) ?_
    rintro i ⟨hi,hj⟩
    by_cases hil:i < A.length
    · have hil2:i < B.length:=by omega
      have c1:=hf i hil hil2
      have gA:(A.map Tree.cs')[i]?=some (Tree.cs' A[i]):=by rw [y46,y40 hil];rfl
      have gB:(B.map Tree.cs')[i]?=some (Tree.cs' B[i]):=by rw [y46,y40 hil2];rfl
      by_cases he:A[i]=B[i]
      · rw [y76 he] at c1
        have hj2:∀ j (h:j < A.length) (h2:j < B.length),j < i+1→A[j]=B[j]:=fun j h h2 hji=>by
          rcases y65 j i with h3|h3
          · exact hj j h h2 h3
          · obtain rfl:j=i:=by omega
            exact he
        generalize A[i]=x at *
        generalize B[i]=y at *
        repeat' ((first|(apply y79 ok;rfl)|(refine z21 (i:=i) rfl gA ?_)|(refine z21 (i:=i) rfl gB ?_)|(apply y38;first|omega|(unfold inI;omega))|((apply z7)<;>intro _)|(apply z8 (c1);rfl;rfl))<;>conv=>whnf)
        all_goals try (exfalso;omega)
        all_goals refine z44 (i+1) ⟨by omega,hj2⟩ (by omega) (by refine swR [] [] rfl rfl ?_;(repeat' first|exact y81 _|constructor))
      · rw [y77 he] at c1
        have hD:=hF i hil hil2 he
        subst hD
        generalize A[i]=x at *
        generalize B[i]=y at *
        repeat' ((first|(apply y79 ok;rfl)|(refine z21 (i:=i) rfl gA ?_)|(refine z21 (i:=i) rfl gB ?_)|(apply y38;omega)|((apply z7)<;>intro _)|(apply z8 (c1);rfl;rfl))<;>conv=>whnf)
        all_goals try (exfalso;omega)
        all_goals (refine rsD [] [] rfl ?_;(repeat' first|exact y81 _|constructor))
    · have hD:=hT (fun j h h2=>hj j h h2 (by omega))
      subst hD
      repeat' ((first|(apply y79 ok;rfl)|(apply y38;omega)|(((with_reducible apply z13;omega));intro _)|((apply z7)<;>intro _))<;>conv=>whnf)
      all_goals try (exfalso;omega)
      all_goals (refine rsD [] [] rfl ?_;(repeat' first|exact y81 _|constructor))
  · rw [y77 (fun e=>hl (by rw [e]))]
    refine z10 z19 Tryz.func299 rfl (by kernel_rfl) 32 Tryz.ntmps299 (by simp) ?_
    repeat' ((first|(apply y79 ok;rfl)|((apply z40)<;>intro _))<;>conv=>whnf)
    all_goals first|(exfalso;omega)|(refine rsD [] [] rfl ?_;(repeat' first|exact y81 _|constructor))
theorem z678 (a:Tree):a.mx→∀ b:Tree,b.mx→CallsA Tryz.prog 273 [z43 Tree.cs' a,z43 Tree.cs' b] [] (.bool (decide (a=b))) []:=by
 induction a using y24 with|h a ih=>?_
 intro ha b hb
 rw [y25] at ha hb
 have cE:=z1155 a.kids b.kids ha.1 hb.1 273 (fun i h h2=>ih _ (y39 _) (ha.2 _ (y39 _)) _ (hb.2 _ (y39 _)))
 clear ih
 rw [y14,y14]
 by_cases hk:a.kind=b.kind∧a.val=b.val
 ·obtain ⟨k1,k2⟩:=hk
  have e:decide (a.kids=b.kids)=decide (a=b):=decide_eq_decide.2 ⟨fun h=>Tree.ext k1 k2 h,fun h=>by rw [h]⟩
  rw [e] at cE
  generalize decide (a=b)=D at *
  cases D
  all_goals
   refine z10 z19 Tryz.func273 rfl rfl 24 Tryz.ntmps273 (by simp) ?_
   repeat' ((first|(apply y79 ok;rfl)|((apply z7)<;>intro _)|(apply z8 (cE);rfl;rfl))<;>conv=>whnf)
   all_goals try (exfalso;omega)
   all_goals (refine rsD [] [] rfl ?_;(repeat' first|exact y81 _|constructor))
 ·rw [y77 (fun e=>hk (by subst e;exact ⟨rfl,rfl⟩))]
  clear cE
  refine z10 z19 Tryz.func273 rfl rfl 24 Tryz.ntmps273 (by simp) ?_
  repeat' ((first|(apply y79 ok;rfl)|((apply z7)<;>intro _))<;>conv=>whnf)
  all_goals first|(exfalso;omega)|(refine rsD [] [] rfl ?_;(repeat' first|exact y81 _|constructor))
theorem z298 (l:List Tree) (hl:l.length≤1000000) (hm:∀ t∈l,t.mx) (t:Tree) (ht:t.mx):CallsA Tryz.prog 230 [lst 3 Tree.cs' l,z43 Tree.cs' t] [] (.int (idxF (fun x=>decide (x=t)) l)) []:=by
 have cI:=z675 t l (by unfold maxLen;omega) (fun x=>decide (x=t)) 272 (fun x hx=>by
  have cS:=z678 x (hm x hx) t ht
  rw [y14 t] at cS
  refine z10 z19 Tryz.func272 rfl rfl 7 Tryz.ntmps272 (by simp) ?_
  rw [y14 x] at cS ⊢
  repeat' ((first|(apply y79 ok;rfl)|(apply z8 (cS);rfl;rfl))<;>conv=>whnf)
  all_goals (refine rsD [] [] rfl ?_;(repeat' first|exact y81 _|constructor)))
 rw [y14 t]
 refine z10 z19 Tryz.func230 rfl rfl 8 Tryz.ntmps230 (by simp) ?_
 repeat' ((first|(apply y79 ok;rfl)|(apply z112 [] [0] [] cI;(focus ((repeat' first|exact z79|apply z49)<;>rfl));rfl;rfl;(focus ((repeat' exact z18)<;>fail));((refine .inr ⟨rfl,?_⟩;repeat' exact True.intro))))<;>conv=>whnf)
 all_goals (refine rsD [] [] rfl ?_;(repeat' first|exact y81 _|constructor))
theorem z1165 (t:Tree) (h:t.sz≤1000000):CallsA Tryz.prog 225 [z43 Tree.cs' t] [] (ownT t) [.cells 3 (t.kids.map Tree.cs')]:=by
 induction t using y24 with|h t ih=>?_
 have hkl:t.kids.length≤1000000:=by rw [y33] at h;omega
 have hks:∀ u∈t.kids,u.sz≤1000000:=fun u hu=>by
  have:=z384 Tree.sz hu
  rw [y33] at h;omega
 rw [y14 t]
 obtain ⟨k,v,l⟩:=t
 simp only [Tree.kind,Tree.val,Tree.kids] at *
 have hcs:∀ (i:Nat) (hi:i < l.length),CallsA Tryz.prog 225 [z43 Tree.cs' l[i]] [] (z43 Tree.cs' l[i]) []:=fun i hi =>
  z471 (ih _ (y39 _) (hks _ (y39 _)))
 have cC:=z174 l (by omega)
 unfold ownT
 simp only [Tree.kind,Tree.val,Tree.kids] at *
 refine z10 z19 Tryz.func225 rfl rfl 30 Tryz.ntmps225 (by simp) ?_
 repeat' ((first|(apply y79 ok;rfl)|(apply z36;kernel_rfl)|(apply z11 [] [2] cC;rfl;rfl;rfl;(focus ((repeat' first|exact z18|apply z14)<;>(refine z23 ?_;((exact z6 fun _=>rfl)))))))<;>conv=>whnf)
 refine z85 (fun i:Nat=>([(1,.ptr 0 none 0),(2,.ptr 1 none 0),(3,.ptr 3 none 0),(15,lst 3 Tree.cs' l),(16,.int l.length),(17,.int i)],[.cells 3 [[.int k,.int v,lst 3 Tree.cs' l]],.cells 3 [[.int 0,.int 0,.nils]],.cells 3 (l.map Tree.cs'),.cells 3 [[.int k,.int v,.sref 2 0 l.length]]])) (fun i=>i≤l.length) (fun i=>l.length - i) 0 (by omega) (by refine swR [0,1,2,3] [] rfl rfl ?_;(repeat' first|exact y81 _|exact z16 _|apply y82|refine z15 rfl (z6 (fun _=>rfl)) ?_|constructor)) ?_
 intro i hi
 by_cases hil:i < l.length
 ·have hc:=hcs i hil
  have gk:(l.map Tree.cs')[i]?=some (Tree.cs' l[i]):=by rw [y46,y40 hil];rfl
  have hset:(l.map Tree.cs').set i (Tree.cs' l[i])=l.map Tree.cs':=by
   apply y70 (by simp)
   intro j h1 h2
   rw [List.getElem_set]
   split
   ·rename_i e;subst e;simp
   ·rfl
  generalize l[i]=x at *
  repeat' ((first|(apply y79 ok;rfl)|(apply z36;kernel_rfl)|(refine z21 (i:=i) rfl gk ?_)|(apply y38;first|omega|(unfold inI;omega))|((apply z7)<;>intro _)|(apply z8 (hc);rfl;rfl))<;>conv=>whnf)
  all_goals try (exfalso;omega)
  all_goals refine z44 (i+1) (by omega) (by omega) (by refine swR [0,1,2,3] [] rfl rfl ?_;(repeat' first|exact y81 _|apply y82|refine z71 rfl (z6 (fun _=>rfl)) ?_|constructor)<;>((refine z60 ?_;exact hset)))
 ·have e:i=l.length:=by omega
  subst e
  repeat' ((first|(apply y79 ok;rfl)|(apply y38;omega)|(((with_reducible apply z13;omega));intro _)|((apply z7)<;>intro _))<;>conv=>whnf)
  all_goals try (exfalso;omega)
  all_goals (refine rsD [2] [] rfl ?_;(repeat' first|exact y81 _|exact z16 _|refine z15 rfl (z6 (fun _=>rfl)) ?_|constructor))
theorem z686 (t:Tree) (h:t.sz≤1000000):CallsA Tryz.prog 225 [z43 Tree.cs' t] [] (z43 Tree.cs' t) []:=z471 (z1165 t h)
theorem z611 (t:Tree) (hg:t.goodF) (hs:t.sz≤1000):CallsA Tryz.prog 146 [z43 Tree.cs' t] [] (.tup [z43 Tree.cs' (if (t.nrm false).fmB=true then t.nrm false else dftT),.bool (t.nrm false).fmB]) []:=by
 have cp:=z1103 t hg false
 have hz:=y26 t hg false
 have cw:=z173 (t.nrm false) (z136 _ (by unfold maxLen;omega))
 generalize t.nrm false=u at *
 rw [y14 t] at *
 rw [y14 u] at *
 by_cases h2:u.fmB=true
 ·rw [if_pos h2,h2,y14 u]
  rw [h2] at cw
  refine z10 z19 Tryz.func146 rfl rfl 12 Tryz.ntmps146 (by simp) ?_
  repeat' ((first|(apply y79 ok;rfl)|(apply z8 (cp);rfl;rfl)|(apply z8 (cw);rfl;rfl))<;>conv=>whnf)
  all_goals (refine rsD [] [] rfl ?_;(repeat' first|exact y81 _|constructor))
 ·rw [if_neg h2,(y67 _).mp h2]
  rw [(y67 _).mp h2] at cw
  refine z10 z19 Tryz.func146 rfl rfl 12 Tryz.ntmps146 (by simp) ?_
  repeat' ((first|(apply y79 ok;rfl)|(apply z8 (cp);rfl;rfl)|(apply z8 (cw);rfl;rfl))<;>conv=>whnf)
  all_goals (refine rsD [] [] rfl ?_;(repeat' first|exact y81 _|exact z55|apply z61|apply z115|constructor))
theorem z1133 (t:Tree) (hs:t.sz≤1000):CallsA Tryz.prog 227 [z43 Tree.cs' t] [] (.tup [z43 Tree.cs' (if t.fmB=true∧(t.nrm false).fmB=true then t.nrm false else dftT),.bool (decide (t.fmB=true∧(t.nrm false).fmB=true))]) []:=by
 have cv:=z173 t (z136 t (by unfold maxLen;omega))
 by_cases h1:t.fmB=true
 ·have cn:=z611 t (y21 h1) hs
  have e:(if t.fmB=true∧(t.nrm false).fmB=true then t.nrm false else dftT)=if (t.nrm false).fmB=true then t.nrm false else dftT:=by simp only [h1,true_and]
  have e2:decide (t.fmB=true∧(t.nrm false).fmB=true)=(t.nrm false).fmB:=by simp [h1]
  rw [e,e2]
  rw [h1] at cv
  clear e e2
  generalize (if (t.nrm false).fmB=true then t.nrm false else dftT)=u at *
  generalize (t.nrm false).fmB=b at *
  rw [y14 t] at cv cn ⊢
  rw [y14 u] at cn ⊢
  refine z10 z19 Tryz.func227 rfl rfl 12 Tryz.ntmps227 (by simp) ?_
  repeat' ((first|(apply y79 ok;rfl)|(apply z8 (cv);rfl;rfl)|(apply z8 (cn);rfl;rfl))<;>conv=>whnf)
  all_goals (refine rsD [] [] rfl ?_;(repeat' first|exact y81 _|constructor))
 ·rw [if_neg (fun h=>h1 h.1),y77 (fun h=>h1 h.1)]
  rw [(y67 _).mp h1] at cv
  rw [y14 t] at cv ⊢
  refine z10 z19 Tryz.func227 rfl rfl 12 Tryz.ntmps227 (by simp) ?_
  repeat' ((first|(apply y79 ok;rfl)|(apply z8 (cv);rfl;rfl))<;>conv=>whnf)
  all_goals (refine rsD [] [] rfl ?_;(repeat' first|exact y81 _|exact z55|apply z61|apply z115|constructor))
theorem z851 (t:Tree) (hg:t.goodF) (hs:t.sz≤1000):CallsA Tryz.prog 144 [z43 Tree.cs' t] [] (z43 Tree.cs' (negT t)) []:=by
 by_cases hk:t.kind=3
 ·have hf:=y19 hg
  cases hf with
  |tr=>simp [Tree.kind] at hk
  |«at» v _ _=>simp [Tree.kind] at hk
  |bin k a b hk2 _ _=>simp only [Tree.kind] at hk;omega
  |un k a _ _ =>
   simp only [Tree.kind] at hk
   subst hk
   have e:negT (.mk 3 0 [a])=a:=by simp [negT,Tree.kind,Tree.kids]
   rw [z366] at hs
   have cc:=z686 a (by omega)
   rw [e,argU 3 0 a]
   refine z10 z19 Tryz.func144 rfl rfl 15 Tryz.ntmps144 (by simp) ?_
   repeat' ((first|(apply y79 ok;rfl)|(refine ⟨_,rfl,?_⟩)|(apply y38;omega)|(apply z8 (cc);rfl;rfl))<;>conv=>whnf)
   all_goals (refine rsD [] [] rfl ?_;(repeat' first|exact y81 _|constructor))
 ·have e:negT t=notT t:=if_neg hk
  have cc:=z686 t (by omega)
  have cf:=z127 3 [t] (by simp)
  rw [e]
  unfold notT
  rw [argU]
  refine z10 z19 Tryz.func144 rfl rfl 15 Tryz.ntmps144 (by simp) ?_
  repeat' ((first|(apply y79 ok;rfl)|(apply y38;omega)|(((with_reducible apply z137;omega));intro _)|((first|apply z7|apply z105)<;>intro _)|(apply z8 (cc);rfl;rfl)|(apply z11 [2] [] cf;rfl;rfl;rfl;(focus ((repeat' first|exact z18|apply z14)<;>exact z170))))<;>conv=>whnf)
  all_goals first|(exfalso;omega)|(refine rsD [] [] rfl ?_;(repeat' first|exact y81 _|constructor))
def ngB (t:Tree):Bool:=t.fmB && (negT t).fmB
def ngT (t:Tree):Tree:=if ngB t=true then negT t else dftT
theorem ngT_sz (t:Tree):(ngT t).sz≤t.sz+1:=by
 unfold ngT
 split
 ·exact z1108 t
 ·simp [dftT,z499]
theorem z677 (t:Tree) (hm:t.mx):CallsA Tryz.prog 72 [z43 Tree.cs' t] [] (.tup [z43 Tree.cs' (ngT t),.bool (ngB t)]) []:=by
 have cv:=z173 t hm
 have hz:=z1108 t
 unfold ngT ngB
 by_cases h1:t.fmB=true
 ·have hs:=fm_sz h1
  have cn:=z851 t (y21 h1) (by omega)
  have cw:=z173 (negT t) (z136 _ (by unfold maxLen;omega))
  rw [h1,Bool.true_and]
  rw [h1] at cv
  generalize negT t=u at *
  by_cases h2:u.fmB=true
  ·rw [if_pos h2,h2]
   rw [h2] at cw
   rw [y14 t] at cv cn ⊢
   rw [y14 u] at cw cn ⊢
   refine z10 z19 Tryz.func72 rfl rfl 16 Tryz.ntmps72 (by simp) ?_
   repeat' ((first|(apply y79 ok;rfl)|(apply z8 (cv);rfl;rfl)|(apply z8 (cn);rfl;rfl)|(apply z8 (cw);rfl;rfl))<;>conv=>whnf)
   all_goals (refine rsD [] [] rfl ?_;(repeat' first|exact y81 _|constructor))
  ·rw [if_neg h2,(y67 _).mp h2]
   rw [(y67 _).mp h2] at cw
   rw [y14 t] at cv cn ⊢
   rw [y14 u] at cw cn
   refine z10 z19 Tryz.func72 rfl rfl 16 Tryz.ntmps72 (by simp) ?_
   repeat' ((first|(apply y79 ok;rfl)|(apply z8 (cv);rfl;rfl)|(apply z8 (cn);rfl;rfl)|(apply z8 (cw);rfl;rfl))<;>conv=>whnf)
   all_goals (refine rsD [] [] rfl ?_;(repeat' first|exact y81 _|exact z55|apply z61|apply z115|constructor))
 ·rw [(y67 _).mp h1,Bool.false_and,if_neg (by simp)]
  rw [(y67 _).mp h1] at cv
  rw [y14 t] at cv ⊢
  refine z10 z19 Tryz.func72 rfl rfl 16 Tryz.ntmps72 (by simp) ?_
  repeat' ((first|(apply y79 ok;rfl)|(apply z8 (cv);rfl;rfl))<;>conv=>whnf)
  all_goals (refine rsD [] [] rfl ?_;(repeat' first|exact y81 _|exact z55|apply z61|apply z115|constructor))
end Go.Proofs.YtjhgpfaodkchjaaGreat
