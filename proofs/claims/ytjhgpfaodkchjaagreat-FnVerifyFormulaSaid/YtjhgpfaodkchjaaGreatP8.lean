/- A part of the proofs over this program: T214, T242, T243, T215, T258, T53, T54, T55, T56, T57, T58, T59, T60, T260, T260F, T261, T261S, T95, T120W, T49A, T43E, Shelf, T43, T120, T44, T45, T46, T47, T48, T121, T49, T124, T244, T246, T247, T253W, T253, T262, T55F, T62F, T55G, T62G, T240, T252. -/
import Derived.Test.YtjhgpfaodkchjaaGreatP7
import Derived.Shelf.Sort.Plain
import Derived.Shelf.Slices.CompactI
set_option linter.all false
namespace Go.Proofs.YtjhgpfaodkchjaaGreat
open Go.Gl Proofs.Tryz
attribute [local irreducible] z18 AWP z31 z35 z34 RetS z45
theorem z474 {g:Graph} {ls:List Int} {a:Aut} {x y:Int} (hx:0≤x) (h:y∈(z33 g ls a).getD x.toNat []) (hA:AutP a):∃ (i:Nat) (to:Int) (e:Trans),i < g.st.length∧to∈g.nx.getD i []∧e∈a.ed∧onB e (ls.getD i 0)=true∧x / a.acc.length=i∧x % a.acc.length=e.src∧y / a.acc.length=to∧y % a.acc.length=e.dst:=by
 unfold z33 at h
 obtain ⟨_,h⟩:=z558.1 h
 unfold z524 at h
 obtain ⟨i,hi,h⟩:=List.mem_flatMap.1 h
 unfold z429 at h
 obtain ⟨to,hto,h⟩:=List.mem_flatMap.1 h
 unfold z525 at h
 obtain ⟨e,he,h⟩:=List.mem_flatMap.1 h
 unfold z292 at h
 split at h
 ·rename_i hon
  simp only [y55,Prod.mk.injEq] at h
  obtain ⟨h1,h2⟩:=h
  have hE:=hA.2.2.2 e he
  unfold z336 at hE
  have hac:=hA.1
  have hn:(a.acc.length:Int)≠0:=by omega
  have hm:((i * a.acc.length:Nat):Int)=(i:Int) * a.acc.length:=by simp
  have hxe:x=(i:Int) * a.acc.length+e.src:=by omega
  have d1:∀ (b q:Int),0≤q→q < a.acc.length→(b * a.acc.length+q) / (a.acc.length:Int)=b∧(b * a.acc.length+q) % (a.acc.length:Int)=q:=fun b q q0 q1 =>
   ⟨by rw [Int.add_comm,Int.add_mul_ediv_right _ _ hn,Int.ediv_eq_zero_of_lt q0 q1,Int.zero_add],by rw [Int.add_comm,Int.add_mul_emod_self_right,Int.emod_eq_of_lt q0 q1]⟩
  have k1:=d1 i e.src hE.1.1 (by omega)
  have k2:=d1 to e.dst hE.2.1.1 (by omega)
  exact ⟨i,to,e,List.mem_range.1 hi,hto,he,hon,by rw [hxe];exact k1.1,by rw [hxe];exact k1.2,by rw [h2];exact k2.1,by rw [h2];exact k2.2⟩
 ·cases h
structure FndP (g:Graph) (ls:List Int) (a:Aut) (s q:List Int):Prop where
 inn:∀ x∈s++q,0≤x
 path:PathP (z33 g ls a) (s++q)
 ini:(s++q).getD 0 0∈a.ini
 pos:0 < q.length
 back:q.getD 0 0∈(z33 g ls a).getD (q.getD (q.length - 1) 0).toNat []
 acc:a.acc.getD (q.getD 0 0 % a.acc.length).toNat false=true
section
variable {g:Graph} {ls:List Int} {a:Aut} {s q:List Int}
theorem FndP.step (h:FndP g ls a s q) {k:Nat} (hk:k < (s++q).length):(s++q).getD (nxW (s++q).length s.length k).toNat 0∈(z33 g ls a).getD ((s++q).getD k 0).toNat []:=by
 have hl:(s++q).length=s.length+q.length:=by simp
 have hsq:∀ j,(s++q).getD (s.length+j) 0=q.getD j 0:=fun j=>by
  rw [y68,y68,y67 (by omega),show s.length+j - s.length=j by omega]
 have hp:=h.pos
 unfold nxW
 split
 ·rename_i e
  rw [y77,show s.length=s.length+0 by omega,hsq,show k=s.length+(q.length - 1) by omega,hsq]
  exact h.back
 ·rw [y77];exact h.path k (by omega)
theorem z738 {l:List Int} {n k:Nat} (hk:k < l.length):(stL l n).getD k 0=l.getD k 0 / n:=by
 unfold stL;rw [z14 (by simpa using hk),List.getElem_map,z14 hk]
theorem FndP.word (hA:AutP a) (h:FndP g ls a s q) {w:List Int} (hw:w.length=(s++q).length) (hwl:∀ k,k < w.length→w.getD k 0=ls.getD ((s++q).getD k 0 / a.acc.length).toNat 0):∃ x,RP (accW a w s.length) a.ini x∧Cyc (accW a w s.length) x∧a.acc.getD (x % a.acc.length).toNat false=true:=by
 have hac:=hA.1
 have hn:(a.acc.length:Int)≠0:=by omega
 have hl:(s++q).length=s.length+q.length:=by simp
 have hp:=h.pos
 have hsq0:(s++q).getD s.length 0=q.getD 0 0:=by
  rw [y68,y68,y67 (y52 _),Nat.sub_self]
 obtain ⟨P,hP⟩:∃ P:Nat→Int,P=fun (k:Nat)=>(k:Int) * a.acc.length+(s++q).getD k 0 % a.acc.length:=⟨_,rfl⟩
 have hP0:∀ k,0≤P k:=fun k=>by
  rw [hP]
  have:=Int.mul_nonneg (show (0:Int)≤k by omega) (show (0:Int)≤a.acc.length by omega)
  have:=Int.emod_nonneg ((s++q).getD k 0) hn
  dsimp only;omega
 have hPm:∀ k,P k % (a.acc.length:Int)=(s++q).getD k 0 % a.acc.length:=fun k=>by
  rw [hP];dsimp only
  rw [Int.add_comm,Int.add_mul_emod_self_right,Int.emod_emod_of_dvd _ (Int.dvd_refl _)]
 have edge:∀ k,k < w.length→P (nxW w.length s.length k).toNat∈(accW a w s.length).getD (P k).toNat []:=fun k hk=>by
  have hst:=h.step (k:=k) (by omega)
  rw [← hw] at hst
  have hx0:=h.inn ((s++q).getD k 0) (by rw [z14 (by omega)];exact y44 _)
  obtain ⟨i,to,e,h1,h2,h3,h4,h5,h6,h7,h8⟩:=z474 hx0 hst hA
  have hE:=hA.2.2.2 e h3
  unfold z336 at hE
  have hnx:=nxW_in (N:=w.length) (s:=s.length) (i:=k) (by omega) hk
  have hon:onB e (w.getD k 0)=true:=by rw [hwl k hk,h5,y77];exact h4
  have hm:((k * a.acc.length:Nat):Int)=(k:Int) * a.acc.length:=by simp
  have e1:(P k).toNat=k * a.acc.length+e.src.toNat:=by
   rw [hP];dsimp only;rw [h6];omega
  have e2:P (nxW w.length s.length k).toNat=nxW w.length s.length k * a.acc.length+e.dst:=by
   rw [hP];dsimp only;rw [h8,Int.toNat_of_nonneg hnx.1]
  rw [e1,e2]
  unfold accW
  refine z558.2 ⟨?_,List.mem_flatMap.2 ⟨k,List.mem_range.2 hk,?_⟩⟩
  ·have h9:(k+1) * a.acc.length≤w.length * a.acc.length:=Nat.mul_le_mul_right _ hk
   rw [Nat.add_mul,Nat.one_mul] at h9
   omega
  ·unfold pushW
   refine List.mem_flatMap.2 ⟨e,h3,?_⟩
   unfold z292
   rw [if_pos hon];simp
 have rp:∀ k,k < w.length→RP (accW a w s.length) a.ini (P k):=by
  intro k
  induction k with
  |zero =>
   intro _
   refine .base ?_
   have hi:=h.ini
   obtain ⟨j,hj,e⟩:=List.mem_iff_getElem.1 hi
   have h5:=(hA.2.2.1 j hj hj).1
   rw [e] at h5
   have:P 0=(s++q).getD 0 0:=by rw [hP];dsimp only;rw [Int.emod_eq_of_lt h5.1 (by omega)];simp
   rw [this];exact hi
  |succ k ih =>
   intro hk
   have:=edge k (by omega)
   unfold nxW at this
   rw [if_neg (by omega),y77] at this
   exact .step (ih (by omega)) this
 have round:∀ d k,k+d+1=w.length→s.length≤k→RP (accW a w s.length) [P k] (P s.length):=by
  intro d
  induction d with
  |zero =>
   intro k hk _
   have:=edge k (by omega)
   unfold nxW at this
   rw [if_pos (by omega),y77] at this
   exact .step (.base (by simp)) this
  |succ d ih =>
   intro k hk hs
   have:=edge k (by omega)
   unfold nxW at this
   rw [if_neg (by omega),y77] at this
   exact RP.trans (.base (by simp)) this (ih (k+1) (by omega) (by omega))
 refine ⟨P s.length,rp _ (by omega),⟨_,edge s.length (by omega),?_⟩,by rw [hPm,hsq0];exact h.acc⟩
 unfold nxW
 split
 ·rw [y77];exact .base (by simp)
 ·rw [y77];exact round (w.length - (s.length+1) - 1) (s.length+1) (by omega) (by omega)
end
end Go.Proofs.YtjhgpfaodkchjaaGreat
namespace Go.Proofs.YtjhgpfaodkchjaaGreat
open Go.Gl Proofs.Tryz
attribute [local irreducible] z18 AWP z31 z35 z34 RetS z45
def GPath (g:Graph) (π:Nat→Int):Prop:=π 0=0∧∀ k,π (k+1)∈g.nx.getD (π k).toNat []
def gW (g:Graph) (l:List Tree) (π:Nat→Int) (k:Nat):Int:=(g.st.map (z32 l)).getD (π k).toNat 0
theorem GPath.inn {g:Graph} (hG:GB g) {π:Nat→Int} (h:GPath g π):∀ k,0≤π k∧π k < g.st.length
 |0=>by have:=hG.1;rw [h.1];omega
 |k+1=>by
  have ih:=GPath.inn hG h k
  have hl:=hG.2.1
  have h1:=h.2 k
  rw [z14 (by omega)] at h1
  exact (hG.row _ (by omega)).2.2 _ h1
theorem gW_nn {g:Graph} {l:List Tree} (hL:z144 l) (π:Nat→Int) (k:Nat):0≤gW g l π k:=by
 unfold gW
 by_cases h:(π k).toNat < (g.st.map (z32 l)).length
 ·rw [z14 h,List.getElem_map]
  exact (z181 hL _).1
 ·rw [y68,y69 (by omega)];exact Int.le_refl _
theorem divmod {n b q:Int} (hn:0 < n) (q0:0≤q) (q1:q < n):(b * n+q) / n=b∧(b * n+q) % n=q :=
 ⟨by rw [Int.add_comm,Int.add_mul_ediv_right _ _ (by omega),Int.ediv_eq_zero_of_lt q0 q1,Int.zero_add],by rw [Int.add_comm,Int.add_mul_emod_self_right,Int.emod_eq_of_lt q0 q1]⟩
def ARun (a:Aut) (w:Nat→Int) (ρ:Nat→Int):Prop:=ρ 0∈a.ini∧(∀ k,∃ e∈a.ed,e.src=ρ k∧e.dst=ρ (k+1)∧onB e (w k)=true)∧∀ m,∃ k,m≤k∧a.acc.getD (ρ k).toNat false=true
theorem fto_iff {g:Graph} {l:List Tree} {a:Aut} (h1:(glB g l && autB a)=true):(ftO g l a).isSome=true↔∃ π ρ:Nat→Int,GPath g π∧ARun a (gW g l π) ρ:=by
 obtain ⟨h3,hab⟩:=Bool.and_eq_true_iff.1 h1
 have hG:=(z95 g).1 (by unfold glB at h3;exact (Bool.and_eq_true_iff.1 h3).1)
 have hA:=z137.1 hab
 obtain ⟨f1,f2,f3,f4,f5⟩:=z200 hG hA (g.st.map (z32 l))
 have hnd:=hA.2.2.1.nd
 have hac:=hA.1
 have hn:(0:Int) < a.acc.length:=by omega
 have hini:=fun x hx=>(show InN (z33 g (g.st.map (z32 l)) a).length a.ini from f2) x hx
 have e1:ftO g l a=trcO g (g.st.map (z32 l)) a:=by unfold ftO;rw [if_pos h1]
 have e2:(ftO g l a).isSome=true↔∃ x,RP (z33 g (g.st.map (z32 l)) a) a.ini x∧a.acc.getD (x % a.acc.length).toNat false=true∧Cyc (z33 g (g.st.map (z32 l)) a) x:=by
  rw [e1]
  constructor
  ·intro h
   refine y78 fun hno=>?_
   have:NoAcc (z33 g (g.st.map (z32 l)) a) a.ini a.acc:=fun x hx hc=>by
    cases hb:a.acc.getD (x % a.acc.length).toNat false with
    |false=>rfl
    |true=>exact absurd ⟨x,hx,hb,hc⟩ hno
   rw [z762 f1 f2 hnd this] at h
   cases h
  ·rintro ⟨x,hx,hb,hc⟩
   cases ht:trcO g (g.st.map (z32 l)) a with
   |some p=>rfl
   |none =>
    have:=z1111 f1 f2 hnd ht x hx hc
    rw [hb] at this;cases this
 have e3:=inf_iff (acc:=fun x=>a.acc.getD (x % a.acc.length).toNat false=true) f1 f2
 rw [e2,← e3]
 constructor
 ·rintro ⟨σ,s0,s1,s2⟩
  have hin:=runInN f1 s1 (f2 _ s0)
  have hst:=fun k=>z474 (hin k).1 (s1 k) hA
  obtain ⟨i0,hi0,ei0⟩:=List.mem_iff_getElem.1 s0
  have hr0:=(hA.2.2.1 i0 hi0 hi0).1
  rw [ei0] at hr0
  have hd0:=divmod (b:=0) hn hr0.1 (show σ 0 < a.acc.length by omega)
  rw [Int.zero_mul,Int.zero_add] at hd0
  refine ⟨fun k=>σ k / a.acc.length,fun k=>σ k % a.acc.length,⟨hd0.1,fun k=>?_⟩,by show σ 0 % _∈_;rw [hd0.2];exact s0,fun k=>?_,s2⟩
  ·obtain ⟨i,to,e,c1,c2,c3,c4,c5,c6,c7,c8⟩:=hst k
   show σ (k+1) / _∈g.nx.getD (σ k / a.acc.length).toNat []
   rw [c7,c5,y77];exact c2
  ·obtain ⟨i,to,e,c1,c2,c3,c4,c5,c6,c7,c8⟩:=hst k
   refine ⟨e,c3,c6.symm,c8.symm,?_⟩
   unfold gW
   show onB e ((g.st.map (z32 l)).getD (σ k / a.acc.length).toNat 0)=true
   rw [c5,y77];exact c4
 ·rintro ⟨π,ρ,hp,r0,r1,r2⟩
  have hin:=hp.inn hG
  have hrr:∀ k,0≤ρ k∧ρ k < a.acc.length:=fun k=>by
   obtain ⟨e,he,c1,c2,_⟩:=r1 k
   have hE:=hA.2.2.2 e he
   unfold z336 at hE
   omega
  refine ⟨fun k=>π k * a.acc.length+ρ k,?_,fun k=>?_,fun m=>?_⟩
  ·show π 0 * _+ρ 0∈_
   rw [hp.1,Int.zero_mul,Int.zero_add];exact r0
  ·obtain ⟨e,he,c1,c2,c3⟩:=r1 k
   have hE:=hA.2.2.2 e he
   unfold z336 at hE
   have h4:=z1151 (g:=g) (ls:=g.st.map (z32 l)) (a:=a) (i:=(π k).toNat) (to:=π (k+1)) (e:=e) (by omega) (by have:=hin k;omega) (hp.2 k) he c3
   show π (k+1) * _+ρ (k+1)∈(z33 g (g.st.map (z32 l)) a).getD (π k * a.acc.length+ρ k).toNat []
   rw [c2] at h4
   have h5:(π k * a.acc.length+ρ k).toNat=(π k).toNat * a.acc.length+e.src.toNat:=by
    rw [c1]
    obtain ⟨i,hi⟩:=Int.eq_ofNat_of_zero_le (hin k).1
    obtain ⟨r,hr⟩:=Int.eq_ofNat_of_zero_le (hrr k).1
    rw [hi,hr,y77,y77]
    norm_cast
   rw [h5];exact h4
  ·obtain ⟨k,k1,k2⟩:=r2 m
   refine ⟨k,k1,?_⟩
   show a.acc.getD ((π k * a.acc.length+ρ k) % a.acc.length).toNat false=true
   rw [(divmod hn (hrr k).1 (hrr k).2).2];exact k2
theorem z939 (t:Tree) (hs:t.sz≤200) (h:tsB t=true) {w:Nat→Int} (hw:∀ k,0≤w k):(∃ ρ,ARun (trA t) w ρ)↔t.sem w 0:=by
 unfold tsB at h
 unfold trA
 unfold trO at *
 by_cases hb:bscB t=true
 ·rw [if_pos hb] at *
  obtain ⟨⟨ht,hn⟩,h5⟩:=of_decide_eq_true (show decide _=true from hb)
  obtain ⟨hB,hIn,_⟩:=z563 ht hn h5 hs
  have hg:=y24 ht
  have hsem:=sem_nrm w t hg false 0
  rw [if_neg (by simp)] at hsem
  have hNF:=nrm_NF t hg false
  have hNB:∀ x∈bscL (t.nrm false),NF x:=fun x hx=>z942 (p:=NF) (fun x hx=>hx.kids) (t.nrm false) [] hNF (by simp) x (List.mem_filter.1 hx).1
  rw [← hsem]
  clear hsem hg ht hn
  generalize t.nrm false=g at *
  generalize bscL g=B at *
  have hBk:BOk B:=⟨hB.nd,hB.cl,hB.bk,hB.av⟩
  cases hS:trS B g with
  |none=>rw [hS] at h;cases h
  |some y =>
   obtain ⟨hT,suf,hL⟩:=trS_T hS
   have hIL:(iniS B g).length≤y.L.length:=by rw [hL];simp
   show (∃ ρ,ARun (z333 (iniS B g).length y) w ρ)↔_
   have hmI:∀ x,x∈numI (iniS B g).length↔∃ i:Nat,x=i∧i < (iniS B g).length:=fun x=>by
    unfold numI
    rw [y60]
    exact ⟨fun ⟨i,hi,e⟩=>⟨i,e.symm,List.mem_range.1 hi⟩,fun ⟨i,e,hi⟩=>⟨i,List.mem_range.2 hi,e.symm⟩⟩
   constructor
   ·rintro ⟨ρ,r0,r1,r2⟩
    obtain ⟨i0,ei0,hi0⟩:=(hmI _).1 r0
    have hL0:¬ y.L.length=0:=by omega
    have hacc:(z333 (iniS B g).length y).acc=y.acc:=by unfold z333;dsimp only;rw [if_neg hL0]
    have hst:∀ k,∃ e∈y.ed,e.src=ρ k∧e.dst=ρ (k+1)∧(((w k).toNat &&& e.care.toNat:Nat):Int)=e.val:=fun k=>by
     obtain ⟨e,he,c1,c2,c3⟩:=r1 k
     obtain ⟨e',he',rfl⟩:=List.mem_map.1 (show e∈y.ed.map eT from he)
     exact ⟨e',he',c1,c2,of_decide_eq_true c3⟩
    have hnn:∀ k,ρ k=((ρ k).toNat:Nat):=fun k=>by
     obtain ⟨e,he,c1,_⟩:=hst k
     obtain ⟨k',t,_,_,_,x1,_⟩:=hT.e1 e he
     omega
    refine tr_sound hBk hIn hS hw (ρ:=fun k=>(ρ k).toNat) ⟨by show (ρ 0).toNat < _;omega,fun k=>?_,fun m=>?_⟩
    ·obtain ⟨e,he,c1,c2,c3⟩:=hst k
     exact ⟨e,he,by rw [c1];exact hnn k,by rw [c2];exact hnn (k+1),c3⟩
    ·obtain ⟨k,k1,k2⟩:=r2 m
     rw [hacc] at k2
     exact ⟨k,k1,k2⟩
   ·intro hs
    obtain ⟨ρ,r0,r1,r2⟩:=z841 hBk hNB hNF hIn hS hw hs
    have hL0:¬ y.L.length=0:=by omega
    have hacc:(z333 (iniS B g).length y).acc=y.acc:=by unfold z333;dsimp only;rw [if_neg hL0]
    refine ⟨fun k=>(ρ k:Int),(hmI _).2 ⟨ρ 0,rfl,r0⟩,fun k=>?_,fun m=>?_⟩
    ·obtain ⟨e,he,c1,c2,c3⟩:=r1 k
     exact ⟨eT e,List.mem_map.2 ⟨e,he,rfl⟩,c1,c2,y82 c3⟩
    ·obtain ⟨k,k1,k2⟩:=r2 m
     refine ⟨k,k1,?_⟩
     rw [hacc,y77];exact k2
 ·rw [if_neg hb] at h;cases h
theorem z960 {t:Tree} (hg:t.goodF) (w:Nat→Int) (i:Nat):(negT t).sem w i↔¬ t.sem w i:=by
 unfold negT
 by_cases hk:t.kind=3
 ·rw [if_pos hk]
  cases y22 hg with
  |tr=>simp [Tree.kind] at hk
  |«at» v _ _=>simp [Tree.kind] at hk
  |bin k a b hk2 _ _=>simp only [Tree.kind] at hk;omega
  |un k a _ _ =>
   simp only [Tree.kind] at hk
   subst hk
   rw [z357,Classical.not_not]
   simp [Tree.kids]
 ·rw [if_neg hk,z381]
theorem vd_sem {g:Graph} {l:List Tree} {f:Tree} (hgl:glB g l=true) (hs:ngS f=true):(ftO g l (ngA f)).isSome=true↔∃ π,GPath g π∧¬ f.sem (gW g l π) 0:=by
 have hv:=z764 hs
 have hL:=y8 (by unfold glB at hgl;exact (Bool.and_eq_true_iff.1 hgl).2)
 have h1:=hs
 unfold ngS at h1
 rw [y71] at h1
 have hz:=z432 h1.1
 have e1:ngA f=trA (negT f):=by unfold ngA ngT;rw [if_pos h1.1,if_pos h1.1]
 have e2:ngT f=negT f:=by unfold ngT;rw [if_pos h1.1]
 rw [e2] at h1 hz
 have hg:=y24 (z1166 h1.1)
 rw [fto_iff (by rw [hgl,hv];rfl)]
 constructor
 ·rintro ⟨π,ρ,hp,hr⟩
  rw [e1] at hr
  exact ⟨π,hp,(z960 hg _ _).1 ((z939 _ (by omega) h1.2 (gW_nn hL π)).1 ⟨ρ,hr⟩)⟩
 ·rintro ⟨π,hp,hn⟩
  obtain ⟨ρ,hr⟩:=(z939 _ (by omega) h1.2 (gW_nn hL π)).2 ((z960 hg _ _).2 hn)
  rw [← e1] at hr
  exact ⟨π,ρ,hp,hr⟩
theorem z721 {g:Graph} {l:List Tree} {f:Tree} : vdI g l f=0↔(glB g l=true∧f.fmB=true∧ngS f=true)∧∀ π,GPath g π→f.sem (gW g l π) 0:=by
 unfold vdI
 by_cases h1:(glB g l && f.fmB)=true
 ·obtain ⟨h2,h3⟩:=Bool.and_eq_true_iff.1 h1
  rw [if_pos h1]
  by_cases h4:ngS f=true
  ·rw [if_pos h4]
   have hv:=vd_sem h2 h4
   by_cases h5:(ftO g l (ngA f)).isSome=true
   ·rw [if_pos h5]
    refine ⟨fun h=>(by cases h),fun ⟨_,h⟩=>?_⟩
    obtain ⟨π,p1,p2⟩:=hv.1 h5
    exact absurd (h π p1) p2
   ·rw [if_neg h5]
    refine ⟨fun _=>⟨⟨h2,h3,h4⟩,fun π hp=>y78 fun hn=>h5 (hv.2 ⟨π,hp,hn⟩)⟩,fun _=>rfl⟩
  ·rw [if_neg h4]
   exact ⟨fun h=>(by cases h),fun ⟨h,_⟩=>absurd h.2.2 h4⟩
 ·rw [if_neg h1]
  exact ⟨fun h=>(by cases h),fun ⟨h,_⟩=>absurd (by rw [h.1,h.2.1];rfl) h1⟩
section
variable {g:Graph} {ls:List Int} {a:Aut} {s q:List Int}
theorem FndP.tr (hG:GB g) (hA:AutP a) (h:FndP g ls a s q) (hl8:s.length+q.length≤8000):trB g ⟨stL s a.acc.length,stL q a.acc.length⟩=true:=by
 have hac:=hA.1
 have hl:(s++q).length=s.length+q.length:=by simp
 have hp:=h.pos
 have hall:(Trace.mk (stL s a.acc.length) (stL q a.acc.length)).all=stL (s++q) a.acc.length:=by unfold Trace.all stL;simp
 have hsl:(stL s a.acc.length).length=s.length:=by simp [stL]
 have hql:(stL q a.acc.length).length=q.length:=by simp [stL]
 have hal:(stL (s++q) a.acc.length).length=s.length+q.length:=by simp [stL]
 have inv:∀ k,k < (s++q).length→∃ (i:Nat) (to:Int),i < g.st.length∧to∈g.nx.getD i []∧(s++q).getD k 0 / a.acc.length=i∧(s++q).getD (nxW (s++q).length s.length k).toNat 0 / a.acc.length=to:=fun k hk=>by
  obtain ⟨i,to,e,h1,h2,h3,h4,h5,h6,h7,h8⟩:=z474 (h.inn ((s++q).getD k 0) (by rw [z14 hk];exact y44 _)) (h.step hk) hA
  exact ⟨i,to,h1,h2,h5,h7⟩
 unfold trB
 simp only [y71,decide_eq_true_eq]
 refine ⟨⟨by rw [hql];exact hp,by rw [hsl,hql];exact hl8⟩,?_,?_,?_⟩
 ·rw [hall]
  refine z607 ((z95 _).2 hG) (by rw [hal];omega) fun k hk=>?_
  rw [hal] at hk
  have hk' : k < (s++q).length:=by omega
  obtain ⟨i,to,h1,h2,h3,h4⟩:=inv k hk'
  unfold z356
  rw [z738 hk',h3]
  simp only [y71,Bool.or_eq_true,decide_eq_true_eq]
  refine ⟨⟨by omega,by omega⟩,?_⟩
  by_cases hk0:k=0
  ·exact .inl hk0
  ·right
   obtain ⟨i',to',g1,g2,g3,g4⟩:=inv (k - 1) (by omega)
   unfold nxW at g4
   rw [if_neg (by omega),y77,show k - 1+1=k by omega,h3] at g4
   rw [z738 (by omega),g3,y77,g4]
   exact g2
 ·rw [hall,z738 (by omega)]
  obtain ⟨j,hj,e⟩:=List.mem_iff_getElem.1 h.ini
  have h5:=(hA.2.2.1 j hj hj).1
  rw [e] at h5
  exact Int.ediv_eq_zero_of_lt h5.1 (by omega)
 ·show (stL q a.acc.length).getD 0 0∈g.nx.getD ((stL q a.acc.length).getD ((stL q a.acc.length).length - 1) 0).toNat []
  rw [hql,z738 hp,z738 (by omega)]
  have hx0:=h.inn (q.getD (q.length - 1) 0) (by rw [z14 (by omega)];exact List.mem_append.2 (.inr (y44 _)))
  obtain ⟨i,to,e,h1,h2,h3,h4,h5,h6,h7,h8⟩:=z474 hx0 h.back hA
  rw [h7,h5,y77]
  exact h2
end
end Go.Proofs.YtjhgpfaodkchjaaGreat
namespace Go.Proofs.YtjhgpfaodkchjaaGreat
open Go.Gl Proofs.Tryz
attribute [local irreducible] z18 AWP z31 z35 z34 RetS z45
def lnx (a n:Nat) (i:Nat):Nat:=if i+1=n then a else i+1
theorem z875 (a n i:Nat):(nxW n a i).toNat=lnx a n i:=by
 unfold nxW lnx;split<;>simp
theorem z612 {a n i:Nat} (ha:a < n) (hi:i < n):lnx a n i < n:=by
 unfold lnx;split<;>omega
theorem z840 {g:Graph} {t:Trace} (ht:trB g t=true):t.stem.length < t.all.length∧GPath g (fun k=>t.all.getD (itN (lnx t.stem.length t.all.length) k 0) 0):=by
 have h0:=ht
 unfold trB at h0
 simp only [y71,decide_eq_true_eq] at h0
 have hlen:t.stem.length < t.all.length:=by
  have e:t.all.length=t.stem.length+t.loop.length:=by unfold Trace.all;simp
  omega
 refine ⟨hlen,h0.2.2.1,fun k=>?_⟩
 have h1:=z968 (nx:=lnx t.stem.length t.all.length) (fun i hi=>z612 hlen hi) (i:=0) (by omega) k
 have h2:=(trB_step ht h1).2
 rw [z875,← z687 (lnx t.stem.length t.all.length)] at h2
 exact h2
theorem tw_word {g:Graph} {l:List Tree} {t:Trace} (h:twB g l t=true):(fun k=>(twT g l t).all.getD (itN (lnx t.stem.length t.all.length) k 0) 0)=gW g l (fun k=>t.all.getD (itN (lnx t.stem.length t.all.length) k 0) 0):=by
 have ht:trB g t=true:=by
  have h':=h
  unfold twB at h'
  simp only [y71] at h'
  exact h'.2.1
 have hlen:=(z840 ht).1
 have e:twT g l t=z225 (g.st.map (z32 l)) t:=by unfold twT;rw [if_pos h]
 funext k
 have h1:=z968 (nx:=lnx t.stem.length t.all.length) (fun i hi=>z612 hlen hi) (i:=0) (by omega) k
 rw [e,z933,z14 (by simpa using h1),List.getElem_map]
 show _=(g.st.map (z32 l)).getD (t.all.getD _ 0).toNat 0
 rw [z14 h1]
 rfl
noncomputable def satT (g:Graph) (l:List Tree) (t:Trace) (f:Tree):Bool:=gB (f.satW t.all.length (lnx t.stem.length t.all.length) (twT g l t).all) 0
theorem satT_sem {g:Graph} {l:List Tree} {t:Trace} {f:Tree} (hf:f.fmB=true) (h:twB g l t=true):satT g l t f=true↔f.sem (gW g l (fun k=>t.all.getD (itN (lnx t.stem.length t.all.length) k 0) 0)) 0:=by
 have ht:trB g t=true:=by
  have h':=h
  unfold twB at h'
  simp only [y71] at h'
  exact h'.2.1
 have hlen:=(z840 ht).1
 rw [← tw_word h]
 exact satW_sem (nx:=lnx t.stem.length t.all.length) (fun i hi=>z612 hlen hi) (by omega) _ f (y24 hf) 0
theorem z1057 {g:Graph} {l:List Tree} {t:Trace} {f:Tree} (hv:vdI g l f=0) (h:twB g l t=true):satT g l t f=true:=by
 have hh:=z721.1 hv
 have ht:trB g t=true:=by
  have h':=h
  unfold twB at h'
  simp only [y71] at h'
  exact h'.2.1
 exact (satT_sem hh.1.2.1 h).2 (hh.2 _ (z840 ht).2)
end Go.Proofs.YtjhgpfaodkchjaaGreat
namespace Go.Proofs.YtjhgpfaodkchjaaGreat
open Go.Gl Proofs.Tryz
section
attribute [local irreducible] z18 RetS z45
end
end Go.Proofs.YtjhgpfaodkchjaaGreat
namespace Go.Proofs.YtjhgpfaodkchjaaGreat
open Go.Gl Proofs.Tryz
attribute [local irreducible] z18 AWP z31 z35 z34 RetS z45
def z305 (l:List Bool):List AC:=[lst 1 enB l]
theorem GB.rowB {g:Graph} (h:GB g):∀ i (hi:i < g.nx.length),1≤g.nx[i].length∧g.nx[i].length≤60∧InN g.st.length g.nx[i]:=fun i hi=>by
 obtain ⟨⟨g1,g2⟩,g3,g4⟩:=h
 have h4:=g4 i hi hi (by omega)
 refine ⟨by have:=h4.2.1;omega,by have:=h4.2.1;omega,fun x hx=>?_⟩
 obtain ⟨j,hj,rfl⟩:=List.mem_iff_getElem.1 hx
 have:=(h4.2.2.2 j hj hj).1
 omega
theorem z139 {S:List Bool} {i:Nat} (hi:i < S.length):(S.map enB)[i]?=some (enB (gB S i)):=by
 unfold gB
 rw [z14 hi,y51,y45 hi];rfl
theorem GB.inN {g:Graph} (h:GB g):∀ r∈g.nx,InN g.st.length r:=fun r hr=>by
 obtain ⟨i,hi,rfl⟩:=List.mem_iff_getElem.1 hr
 exact (GB.rowB h i hi).2.2
theorem keepBL {f:FuncId} {args:List AC} {n:Nat} {l:List Bool} (h:QQ f args [] (.sref 0 0 n) [.cells 1 (l.map enB)]) (hl:l.length=n):QQ f args [] (lst 1 enB l) []:=by
 subst hl
 exact h.keep (z628 _) (by simp)
theorem tru2_ok (a b:List Bool) (i:Nat) (x:Bool) (ha:i < a.length) (hb:i < b.length) (h1:a.length≤1048576) (h2:b.length≤1048576):QQ 116 [.int i,.bool x,.pt [lst 1 z305 [a,b]]] [] (.bool (unF (gB a) (gB b) i x)) []:=by
 have ga:=z139 ha
 have gb:=z139 hb
 unfold unF
 generalize gB a i=p at *
 generalize gB b i=q at *
 refine z7 z15 func116 rfl rfl 23 ntmps116 (by simp) ?_
 cases q<;>cases p
 all_goals
  repeat' ((first|apply y4 ok;rfl|refine z13 (i:=i) rfl gb ?_|refine z13 (i:=i) rfl ga ?_|refine z13 (i:=1) rfl rfl ?_|refine z13 (i:=0) rfl rfl ?_|apply y43;omega)<;>conv=>whnf)
  all_goals (refine rsD [] [] rfl ?_;(repeat' first|exact y86 _|constructor))
theorem tru3_ok (a b:List Bool) (i:Nat) (x:Bool) (ha:i < a.length) (hb:i < b.length) (h1:a.length≤1048576) (h2:b.length≤1048576):QQ 117 [.int i,.bool x,.pt [lst 1 z305 [a,b]]] [] (.bool (reF (gB a) (gB b) i x)) []:=by
 have ga:=z139 ha
 have gb:=z139 hb
 unfold reF
 generalize gB a i=p at *
 generalize gB b i=q at *
 refine z7 z15 func117 rfl rfl 23 ntmps117 (by simp) ?_
 cases q<;>cases p
 all_goals
  repeat' ((first|apply y4 ok;rfl|refine z13 (i:=i) rfl gb ?_|refine z13 (i:=i) rfl ga ?_|refine z13 (i:=1) rfl rfl ?_|refine z13 (i:=0) rfl rfl ?_|apply y43;omega)<;>conv=>whnf)
  all_goals (refine rsD [] [] rfl ?_;(repeat' first|exact y86 _|constructor))
theorem tru4_ok (a:List Bool) (i:Nat) (x:Bool) (ha:i < a.length) (h1:a.length≤1048576):QQ 118 [.int i,.bool x,.pt [lst 1 z305 [a]]] [] (.bool (unF (fun _=>true) (gB a) i x)) []:=by
 have ga:=z139 ha
 unfold unF
 generalize gB a i=p at *
 refine z7 z15 func118 rfl rfl 15 ntmps118 (by simp) ?_
 cases p
 all_goals
  repeat' ((first|apply y4 ok;rfl|refine z13 (i:=i) rfl ga ?_|refine z13 (i:=0) rfl rfl ?_|apply y43;omega)<;>conv=>whnf)
  all_goals (refine rsD [] [] rfl ?_;(repeat' first|exact y86 _|constructor))
theorem tru5_ok (a:List Bool) (i:Nat) (x:Bool) (ha:i < a.length) (h1:a.length≤1048576):QQ 119 [.int i,.bool x,.pt [lst 1 z305 [a]]] [] (.bool (reF (fun _=>false) (gB a) i x)) []:=by
 have ga:=z139 ha
 unfold reF
 generalize gB a i=p at *
 refine z7 z15 func119 rfl rfl 15 ntmps119 (by simp) ?_
 cases p
 all_goals
  repeat' ((first|apply y4 ok;rfl|refine z13 (i:=i) rfl ga ?_|refine z13 (i:=0) rfl rfl ?_|apply y43;omega)<;>conv=>whnf)
  all_goals (refine rsD [] [] rfl ?_;(repeat' first|exact y86 _|constructor))
set_option maxHeartbeats 6400000 in
theorem z678 (t:Trace) (n:Nat) (hn:t.stem.length+t.loop.length=n) (h1:t.stem.length < n) (h160:n≤160) (s:Bool) (h:Nat→Bool→Bool) (hm:z1087 s (stH h (lnx t.stem.length n)) n) (f:FuncId) (c:List AC) (hf:∀ (i:Nat) (x:Bool),i < n→QQ f [.int i,.bool x,.pt c] [] (.bool (h i x)) []) (S0:List Bool) (hS0:S0.length=n):QQ 114 [.bool s,.fn (.func f) [] [.pt c],.ptr 0 none 0,.pt t.cs] [.cells 1 [[.sref 1 0 n]],.cells 1 (S0.map enB)] (.tup []) [.cells 1 [[.sref 1 0 n]],.cells 1 ((lim s (stH h (lnx t.stem.length n)) n).map enB)]:=by
 refine z7 z15 func114 rfl rfl 47 ntmps114 (by simp) ?_
 repeat' (((apply y4 ok;rfl))<;>conv=>whnf)
 refine z64 (fun x:Nat×List Bool=>([(0,.bool s),(1,.fn (.func f) [] [.pt c]),(2,.ptr 0 none 0),(3,.pt t.cs),(11,.int n),(12,.int x.1)],[.cells 1 [[.sref 1 0 n]],.cells 1 (x.2.map enB)])) (fun x=>x.1≤n∧x.2.length=n∧∀ j,j < x.1→gB x.2 j=s) (fun x=>n - x.1) (0,S0) ⟨y53 _,hS0,fun j hj=>by omega⟩ (by refine swR [0,1] [] rfl rfl ?_;(repeat' first|exact y86 _|exact z10 _|apply y87|refine z9 rfl (z5 (fun _=>rfl)) ?_|constructor)) ?_
 rintro ⟨i,S⟩ ⟨hi,hSl,hSe⟩
 dsimp only at hi hSl hSe ⊢
 by_cases hil:i < n
 ·have hg:=z139 (S:=S) (i:=i) (by omega)
  repeat' ((first|apply y4 ok;rfl|refine z13 (i:=i) rfl hg ?_|(apply y43;first|omega|unfold inI;omega)|apply z6<;>intro _)<;>conv=>whnf)
  all_goals try (exfalso;omega)
  all_goals
   refine z24 (i+1,S.set i s) ⟨by show i+1≤_;omega,by simp [hSl],fun j hj=>?_⟩ (by show n - (i+1) < n - i;omega) (by refine swR [0,1] [] rfl rfl ?_;(repeat' first|exact y86 _|apply y87|refine z60 rfl (z5 (fun _=>rfl)) ?_|refine z148 (by omega) ?_|constructor))
   dsimp only at hj ⊢
   rw [z622 (by omega)]
   split
   ·rfl
   ·exact hSe j (by omega)
 ·obtain rfl:n=i:=by omega
  have e:S=List.replicate n s:=by
   apply y75 (by simp [hSl])
   intro j h1 h2
   have:=hSe j (by omega)
   unfold gB at this
   rw [z14 h1] at this
   simp [this]
  subst e
  clear hSe hSl hil hi
  repeat' ((first|apply y4 ok;rfl|apply y43;omega|((apply z8;omega));intro _|apply z6<;>intro _)<;>conv=>whnf)
  all_goals try (exfalso;omega)
  have hlt:=fun (i:Nat) (hi:i < n)=>z612 h1 hi
  refine z64 (fun x:Bool×List Bool=>([(1,.fn (.func f) [] [.pt c]),(2,.ptr 0 none 0),(3,.pt t.cs),(7,.bool x.1)],[.cells 1 [[.sref 1 0 n]],.cells 1 (x.2.map enB)])) (fun x=>Gl.Way s (stH h (lnx t.stem.length n)) n x.2∧(x.1=false→∀ i,i < n→stH h (lnx t.stem.length n) i x.2=gB x.2 i)) (fun x=>2 * cntS s x.2+(if x.1 then 1 else 0)) (true,List.replicate n s) ⟨Gl.Way.start,fun h=>by cases h⟩ (by refine swR [0,1] [] rfl rfl ?_;(repeat' first|exact y86 _|exact z10 _|apply y87|refine z9 rfl (z5 (fun _=>rfl)) ?_|constructor)) ?_
  rintro ⟨ch,S⟩ ⟨hw,hfx⟩
  dsimp only at hw hfx ⊢
  cases ch
  ·have hR:=hw.ends (hfx rfl)
   rw [z966 hR]
   have hl:=hw.len
   repeat' (((apply y4 ok;rfl))<;>conv=>whnf)
   all_goals (refine rsD [0,1] [] rfl ?_;(repeat' first|exact y86 _|exact z10 _|apply y87|refine z9 rfl (z5 (fun _=>rfl)) ?_|constructor))
  ·have hl:=hw.len
   repeat' ((first|apply y4 ok;rfl|apply y43;(unfold inI;omega))<;>conv=>whnf)
   refine z64 (fun y:Nat×Bool×List Bool=>([(1,.fn (.func f) [] [.pt c]),(2,.ptr 0 none 0),(3,.pt t.cs),(7,.bool y.2.1),(8,.int ((y.1:Int) - 1))],[.cells 1 [[.sref 1 0 n]],.cells 1 (y.2.2.map enB)])) (fun y=>y.1≤n∧Gl.Way s (stH h (lnx t.stem.length n)) n y.2.2∧(y.2.1=false→y.2.2=S∧∀ i,y.1≤i→i < n→stH h (lnx t.stem.length n) i S=gB S i)∧(y.2.1=true→cntS s y.2.2+1≤cntS s S)) (fun y=>y.1) (n,false,S) ⟨y52 _,hw,fun _=>⟨rfl,fun i hi hi2=>by dsimp only at hi;omega⟩,fun h=>by cases h⟩ (by refine swR [0,1] [] rfl rfl ?_;(repeat' first|exact y86 _|exact z10 _|apply y87|refine z9 rfl (z5 (fun _=>rfl)) ?_|constructor)) ?_
   rintro ⟨k,c',S'⟩ ⟨hk1,hw',hc1,hc2⟩
   dsimp only at hk1 hw' hc1 hc2 ⊢
   have hl':=hw'.len
   cases k with
   |zero =>
    repeat' (((apply y4 ok;rfl))<;>conv=>whnf)
    all_goals
     refine z24 (c',S') ⟨hw',fun hc i hi=>?_⟩ ?_ (by refine swR [0,1] [] rfl rfl ?_;(repeat' first|exact y86 _|exact z10 _|apply y87|refine z9 rfl (z5 (fun _=>rfl)) ?_|constructor))
     ·dsimp only at hc ⊢
      rw [(hc1 hc).1];exact (hc1 hc).2 i (y53 _) hi
     ·dsimp only
      cases c'
      ·rw [(hc1 rfl).1];simp
      ·have:=hc2 rfl;simp;omega
   |succ j =>
    rw [show ((j+1:Nat):Int) - 1=(j:Int) by omega]
    have hj:j < n:=by omega
    have cn:=z1167 t (by omega) j (by omega)
    rw [hn] at cn
    have hnx:=z875 t.stem.length n j
    have hlj:=hlt j hj
    have hnn:0≤nxW n t.stem.length j:=by unfold nxW;split<;>omega
    have gn:=z139 (S:=S') (i:=lnx t.stem.length n j) (by omega)
    have gj:=z139 (S:=S') (i:=j) (by omega)
    have ch:=hf j (gB S' (lnx t.stem.length n j)) hj
    have hH:stH h (lnx t.stem.length n) j S'=h j (gB S' (lnx t.stem.length n j)):=rfl
    have hput:=hw'.put hm hj (hw'.post j hj) (ordB.refl s _)
    rw [hH] at hput
    have hold:=fun hc=>(hc1 hc).1
    by_cases he:h j (gB S' (lnx t.stem.length n j))=gB S' j
    ·generalize hx:gB S' (lnx t.stem.length n j)=x at *
     generalize nxW n t.stem.length j=m at *
     repeat' ((first|apply y4 ok;rfl|apply z23;kernel_rfl|refine z13 (i:=lnx t.stem.length n j) (by omega) gn ?_|refine z13 (i:=j) rfl gj ?_|(apply y43;first|omega|unfold inI;omega)|apply z42<;>intro _|apply z4 cn;rfl;rfl|apply z4 ch;rfl;rfl)<;>conv=>whnf)
     all_goals first|exfalso;simp_all;done|skip
     all_goals
      refine z24 (j,c',S') ⟨by show j≤n;omega,hw',fun hc=>⟨(hc1 hc).1,fun i hi hi2=>?_⟩,hc2⟩ (by show j < j+1;omega) (by refine swR [0,1] [] rfl rfl ?_;(repeat' first|exact y86 _|exact z10 _|apply y87|refine z9 rfl (z5 (fun _=>rfl)) ?_|constructor))
      dsimp only at hi hc
      by_cases hij:i=j
      ·subst hij
       rw [← (hc1 hc).1,hH];exact he
      ·exact (hc1 hc).2 i (by omega) hi2
    ·have hcn:=hput.2 he
     generalize hx:gB S' (lnx t.stem.length n j)=x at *
     generalize nxW n t.stem.length j=m at *
     repeat' ((first|apply y4 ok;rfl|apply z23;kernel_rfl|refine z13 (i:=lnx t.stem.length n j) (by omega) gn ?_|refine z13 (i:=j) rfl gj ?_|(apply y43;first|omega|unfold inI;omega)|apply z42<;>intro _|apply z4 cn;rfl;rfl|apply z4 ch;rfl;rfl)<;>conv=>whnf)
     all_goals first|exfalso;simp_all;done|skip
     all_goals
      refine z24 (j,true,S'.set j (h j x)) ⟨by show j≤n;omega,hput.1,(fun hc=>by dsimp only at hc;cases hc),fun _=>?_⟩ (by show j < j+1;omega) (by refine swR [0,1] [] rfl rfl ?_;(repeat' first|exact y86 _|apply y87|refine z60 rfl (z5 (fun _=>rfl)) ?_|refine z148 (by omega) ?_|constructor))
      dsimp only
      cases c'
      ·rw [(hc1 rfl).1] at hcn ⊢;omega
      ·have:=hc2 rfl;omega
theorem z925 (t:Trace):t.stem.length+t.loop.length=t.all.length:=by unfold Trace.all;simp
theorem z319 {n:Nat} {nx:Nat→Nat} (hnx:∀ i,i < n→nx i < n) (L:List Int) (t:Tree):(t.satW n nx L).length=n:=by
 rw [y30]
 unfold opW
 split
 ·exact z677 (z173 hnx (fun i=>by unfold unF;generalize gB _ i=p;generalize gB _ i=q;cases p<;>cases q<;>simp) _)
 split
 ·exact z677 (z173 hnx (fun i=>by unfold reF;generalize gB _ i=p;generalize gB _ i=q;cases p<;>cases q<;>simp) _)
 split
 ·exact z677 (z173 hnx (fun i=>by unfold unF;generalize gB _ i=p;cases p<;>simp) _)
 split
 ·exact z677 (z173 hnx (fun i=>by unfold reF;generalize gB _ i=p;cases p<;>simp) _)
 split
 ·simp
 ·simp
theorem z346 (n:Nat):List.replicate n [AC.bool false]=(List.replicate n false).map enB:=by rw [List.map_replicate];rfl
theorem z1108 (A B:Nat→Bool):∀ i,unF A B i false=true→unF A B i true=true:=fun i=>by unfold unF;cases A i<;>cases B i<;>simp
theorem z1149 (A B:Nat→Bool):∀ i,reF A B i false=true→reF A B i true=true:=fun i=>by unfold reF;cases A i<;>cases B i<;>simp
theorem z627 {S R:List Bool} {n:Nat} (h1:S.length=n) (h2:R.length=n) (h:∀ j,j < n→gB S j=gB R j):S=R:=by
 apply y75 (by rw [h1,h2])
 intro j a b
 have:=h j (by omega)
 unfold gB at this
 rwa [z14 a,z14 b] at this
theorem z450 {S R:List Bool} {i n:Nat} {v:Bool} (h1:S.length=n) (hi:i < n) (hv:v=gB R i) (h:∀ j,j < i→gB S j=gB R j):(S.set i v).length=n∧∀ j,j < i+1→gB (S.set i v) j=gB R j:=by
 refine ⟨by simp [h1],fun j hj=>?_⟩
 rw [z622 (by omega)]
 split
 ·rename_i e;rw [e];exact hv
 ·exact h j (by omega)
set_option maxHeartbeats 12800000 in
theorem z1005 (t:Trace) (h1:1≤t.loop.length) (h160:t.all.length≤160) (hLr:∀ i,i < t.all.length→0≤t.all.getD i 0∧t.all.getD i 0≤7) (f:Tree):f.goodF→QQ 51 [.agg t.cs,z27 Tree.cs' f] [] (.sref 0 0 t.all.length) [.cells 1 ((f.satW t.all.length (lnx t.stem.length t.all.length) t.all).map enB)]:=by
 induction f using y27 with|h f ih=>?_
 intro hg
 have hn:=z925 t
 have hs:t.stem.length < t.all.length:=by omega
 have hlt:=fun (i:Nat) (hi:i < t.all.length)=>z612 hs hi
 have hkl:f.kids.length≤2:=by
  cases y22 hg<;>simp [Tree.kids]
 have cc:∀ u∈f.kids,QQ 51 [.agg t.cs,z27 Tree.cs' u] [] (lst 1 enB (u.satW t.all.length (lnx t.stem.length t.all.length) t.all)) []:=fun u hu=>keepBL (ih u hu ((y23 hg).2.2.2 u hu)) (z319 hlt t.all u)
 clear ih
 have ca:=all_ok t h1 (by omega)
 have hlen:=z319 hlt t.all f
 have hks2:(f.kids.map (Tree.satW t.all.length (lnx t.stem.length t.all.length) t.all)).length=f.kids.length:=by simp
 have hkat:∀ i (hi:i < f.kids.length) (h2:i < (f.kids.map (Tree.satW t.all.length (lnx t.stem.length t.all.length) t.all)).length),((f.kids.map (Tree.satW t.all.length (lnx t.stem.length t.all.length) t.all)))[i]=f.kids[i].satW t.all.length (lnx t.stem.length t.all.length) t.all:=fun i hi _=>by simp
 generalize hks:f.kids.map (Tree.satW t.all.length (lnx t.stem.length t.all.length) t.all)=ks at *
 rw [y15 f]
 refine z7 z15 func51 rfl rfl 145 ntmps51 (by simp) ?_
 repeat' ((first|apply y4 ok;rfl|apply z4 ca;rfl;rfl)<;>conv=>whnf)
 refine y85 (y88 1 rfl) ?_
 refine z64 (fun x:Nat×List (List Bool)=>([(2,.ptr 0 none 0),(3,.ptr 1 none 0),(5,ints t.all),(6,.ptr 2 none 0),(15,lst 3 Tree.cs' f.kids),(16,.int f.kids.length),(17,.int x.1)],[.cells 2 [t.cs],.cells 3 [[.int f.kind,.int f.val,lst 3 Tree.cs' f.kids]],.cells 1 [[.sref 3 0 x.2.length]],.cells 1 (x.2.map z305)])) (fun x=>x.1≤f.kids.length∧ks.take x.1=x.2) (fun x=>f.kids.length - x.1) (0,[]) ⟨y53 _,rfl⟩ (by refine swR [0,1,2,3] [] rfl rfl ?_;(repeat' first|exact y86 _|exact z49|apply y87|refine z9 rfl z25 ?_|constructor)) ?_
 rintro ⟨i,K⟩ ⟨hi,hK⟩
 dsimp only at hi hK ⊢
 have hKl:K.length=i:=by rw [← hK];simp;omega
 by_cases hil:i < f.kids.length
 ·have gk:(f.kids.map Tree.cs')[i]?=some (Tree.cs' f.kids[i]):=by rw [y51,y45 hil];rfl
  have ci:=cc f.kids[i] (y44 _)
  rw [← hkat i hil (by omega)] at ci
  have ht2:ks.take (i+1)=K++[ks[i]'(by omega)]:=by rw [y50 (by omega),hK]
  generalize ks[i]'(by omega)=R at *
  generalize f.kids[i]=u at *
  repeat' ((first|apply y4 ok;rfl|apply z23;kernel_rfl|refine z13 (i:=i) rfl gk ?_|(apply y43;first|omega|unfold inI;omega|(try dsimp only);simp only [y49,y48,y47,y46,y58,y59];omega|exact ⟨rfl,z22 rfl z28⟩)|apply z6<;>intro _|apply z4 ci;rfl;rfl)<;>conv=>whnf)
  all_goals try (exfalso;omega)
  all_goals refine z24 (i+1,K++[R]) ⟨by show i+1≤_;omega,ht2⟩ (by show f.kids.length - (i+1) < f.kids.length - i;omega) (by refine swR [0,1,2,6] [] rfl rfl ?_;(repeat' first|exact y86 _|refine z50 ?_;((simp;done))|apply y87|(refine z39 rfl ?_ ?_);(focus ((repeat' (first|exact z5 (fun _=>rfl)|apply z26));done))|refine z86 ?_ ?_;(focus omega)|constructor))
 ·obtain rfl:ks=K:=by rw [← hK,y57 (by omega)]
  clear hK
  repeat' ((first|(fail_if_success apply z96 8);(fail_if_success apply z77 8);apply y4 ok;rfl|apply y43;omega|((with_reducible apply z8;omega));intro _|apply z6<;>intro _)<;>conv=>whnf)
  all_goals try (exfalso;omega)
  refine y85 (show Gl.Reach _ _ (mkSt _ [(2,.ptr 0 none 0),(3,.ptr 1 none 0),(5,ints t.all),(6,.ptr 2 none 0)] [.cells 2 [t.cs],.cells 3 [[.int f.kind,.int f.val,lst 3 Tree.cs' f.kids]],.cells 1 [[lst 1 z305 ks]]]) from (by refine swR [0,1,2] [3] rfl rfl ?_;(repeat' first|exact y86 _|apply y87|(apply z40 rfl rfl rfl);(focus ((repeat ((exact z30 (fun _=>rfl) _)));done));(focus (((simp;done));done))|constructor))) ?_
  refine y85 (show Gl.Reach _ _ (mkSt _ [(2,.pt t.cs),(3,.pt [.int f.kind,.int f.val,lst 3 Tree.cs' f.kids]),(5,ints t.all),(6,.pt [lst 1 z305 ks])] []) from (by refine swR [] [0,1,2] rfl rfl ?_;(repeat' first|exact y86 _|constructor))) ?_
  cases y22 hg with
  |tr =>
    simp only [Tree.kids,List.map_nil] at hks
    subst hks
    have hRv:∀ i,i < t.all.length→gB ((Tree.mk 1 0 []).satW t.all.length (lnx t.stem.length t.all.length) t.all) i=(true):=fun i hi=>by
     rw [y30];show gB (opW _ _ _ 1 _ _) i=_;rw [z347 _ _ _ _ _ (by omega),z221 _ hi];simp [Tree.kids,ptB,Tree.val]
    generalize (Tree.mk 1 0 []).satW t.all.length (lnx t.stem.length t.all.length) t.all=R at *
    repeat' ((first|(fail_if_success apply z96 28);(fail_if_success apply z77 28);apply y4 ok;rfl|apply y43;(dsimp only;omega))<;>conv=>whnf)
    rw [z346]
    repeat' (((apply y4 ok;rfl))<;>conv=>whnf)
    refine z64 (fun x:Nat×List Bool=>([(2,.pt t.cs),(3,.pt [.int 1,.int 0,lst 3 Tree.cs' []]),(5,ints t.all),(6,.pt [lst 1 z305 []]),(9,.ptr 1 none 0),(35,.int t.all.length),(36,.int x.1)],[.cells 1 (x.2.map enB),.cells 1 [[.sref 0 0 t.all.length]]])) (fun x=>x.1≤t.all.length∧x.2.length=t.all.length∧∀ j,j < x.1→gB x.2 j=gB R j) (fun x=>t.all.length - x.1) (0,List.replicate t.all.length false) ⟨y53 _,by simp,fun j hj=>by omega⟩ (by refine swR [0,1] [] rfl rfl ?_;(repeat' first|exact y86 _|exact z10 _|apply y87|refine z9 rfl (z5 (fun _=>rfl)) ?_|constructor)) ?_
    rintro ⟨i,S⟩ ⟨hi,hSl,hSe⟩
    dsimp only at hi hSl hSe ⊢
    by_cases hil:i < t.all.length
    ·have gS:=z139 (S:=S) (i:=i) (by omega)
     have hv:=hRv i hil
     repeat' ((first|apply y4 ok;rfl|refine z13 (i:=i) rfl gS ?_|(apply y43;first|omega|unfold inI;omega)|apply z6<;>intro _)<;>conv=>whnf)
     all_goals try (exfalso;omega)
     all_goals refine z24 (i+1,S.set i true) ⟨by show i+1≤_;omega,z450 hSl hil hv.symm hSe⟩ (by show t.all.length - (i+1) < t.all.length - i;omega) (by refine swR [0,1] [] rfl rfl ?_;(repeat' first|exact y86 _|apply y87|refine z60 rfl (z5 (fun _=>rfl)) ?_|refine z148 (by omega) ?_|constructor))
    ·obtain rfl:S=R:=z627 hSl hlen (fun j hj=>hSe j (by omega))
     repeat' ((first|apply y4 ok;rfl|apply y43;omega|((apply z8;omega));intro _|apply z6<;>intro _)<;>conv=>whnf)
     all_goals try (exfalso;omega)
     all_goals (refine rsD [0] [] rfl ?_;(repeat' first|exact y86 _|exact z10 _|refine z9 rfl (z5 (fun _=>rfl)) ?_|constructor))
  |«at» v hv0 hv2 =>
    simp only [Tree.kids,List.map_nil] at hks
    subst hks
    have hRv:∀ i,i < t.all.length→gB ((Tree.mk 2 v []).satW t.all.length (lnx t.stem.length t.all.length) t.all) i=(hasB (t.all.getD i 0) v):=fun i hi=>by
     rw [y30];show gB (opW _ _ _ 2 _ _) i=_;rw [z347 _ _ _ _ _ (by omega),z221 _ hi];simp [Tree.kids,ptB,Tree.val]
    generalize (Tree.mk 2 v []).satW t.all.length (lnx t.stem.length t.all.length) t.all=R at *
    repeat' ((first|(fail_if_success apply z96 28);(fail_if_success apply z77 28);apply y4 ok;rfl|apply y43;(dsimp only;omega))<;>conv=>whnf)
    rw [z346]
    repeat' (((apply y4 ok;rfl))<;>conv=>whnf)
    refine z64 (fun x:Nat×List Bool=>([(2,.pt t.cs),(3,.pt [.int 2,.int v,lst 3 Tree.cs' []]),(5,ints t.all),(6,.pt [lst 1 z305 []]),(9,.ptr 1 none 0),(35,.int t.all.length),(36,.int x.1)],[.cells 1 (x.2.map enB),.cells 1 [[.sref 0 0 t.all.length]]])) (fun x=>x.1≤t.all.length∧x.2.length=t.all.length∧∀ j,j < x.1→gB x.2 j=gB R j) (fun x=>t.all.length - x.1) (0,List.replicate t.all.length false) ⟨y53 _,by simp,fun j hj=>by omega⟩ (by refine swR [0,1] [] rfl rfl ?_;(repeat' first|exact y86 _|exact z10 _|apply y87|refine z9 rfl (z5 (fun _=>rfl)) ?_|constructor)) ?_
    rintro ⟨i,S⟩ ⟨hi,hSl,hSe⟩
    dsimp only at hi hSl hSe ⊢
    by_cases hil:i < t.all.length
    ·have gS:=z139 (S:=S) (i:=i) (by omega)
     have hv:=hRv i hil
     have gw:(t.all.map enI)[i]?=some (enI (t.all.getD i 0)):=by rw [z14 hil,y51,y45 hil];rfl
     have hy:=hLr i hil
     generalize t.all.getD i 0=y at *
     have h5:0≤y / 2 ^ v.toNat∧y / 2 ^ v.toNat≤7:=by
      have:v=0∨v=1∨v=2:=by omega
      rcases this with rfl|rfl|rfl<;>simp<;>omega
     repeat' ((first|apply y4 ok;rfl|apply z23;kernel_rfl|refine z13 (i:=i) rfl gS ?_|refine z13 (i:=i) rfl gw ?_|(refine ⟨by unfold z100;omega,?_⟩)|(apply y43;first|omega|unfold inI;omega)|apply z6<;>intro _)<;>conv=>whnf)
     all_goals try (exfalso;omega)
     all_goals refine z24 (i+1,S.set i (hasB y v)) ⟨by show i+1≤_;omega,z450 hSl hil hv.symm hSe⟩ (by show t.all.length - (i+1) < t.all.length - i;omega) (by refine swR [0,1] [] rfl rfl ?_;(repeat' first|exact y86 _|apply y87|refine z60 rfl (z5 (fun _=>rfl)) ?_|refine z148 (by omega) ?_|constructor))
    ·obtain rfl:S=R:=z627 hSl hlen (fun j hj=>hSe j (by omega))
     repeat' ((first|apply y4 ok;rfl|apply z23;kernel_rfl|apply y43;omega|(first|with_reducible apply z8;omega|apply z8;omega);intro _|apply z6<;>intro _)<;>conv=>whnf)
     all_goals try (exfalso;omega)
     all_goals (refine rsD [0] [] rfl ?_;(repeat' first|exact y86 _|exact z10 _|refine z9 rfl (z5 (fun _=>rfl)) ?_|constructor))
  |un k a hk ha =>
   have hA:=z319 hlt t.all a
   simp only [Tree.kids,List.map_cons,List.map_nil] at hks
   subst hks
   generalize hAe:Tree.satW t.all.length (lnx t.stem.length t.all.length) t.all a=A at *
   rcases hk with rfl|rfl|rfl|rfl
   ·have hRv:∀ i,i < t.all.length→gB ((Tree.mk 3 0 [a]).satW t.all.length (lnx t.stem.length t.all.length) t.all) i=(!gB A i):=fun i hi=>by
     rw [y30];show gB (opW _ _ _ 3 _ _) i=_;rw [z347 _ _ _ _ _ (by omega),z221 _ hi];simp [Tree.kids,hAe,ptB,Tree.val]
    generalize (Tree.mk 3 0 [a]).satW t.all.length (lnx t.stem.length t.all.length) t.all=R at *
    repeat' ((first|(fail_if_success apply z96 28);(fail_if_success apply z77 28);apply y4 ok;rfl|apply y43;(dsimp only;omega))<;>conv=>whnf)
    rw [z346]
    repeat' (((apply y4 ok;rfl))<;>conv=>whnf)
    refine z64 (fun x:Nat×List Bool=>([(2,.pt t.cs),(3,.pt [.int 3,.int 0,lst 3 Tree.cs' [a]]),(5,ints t.all),(6,.pt [lst 1 z305 [A]]),(9,.ptr 1 none 0),(35,.int t.all.length),(36,.int x.1)],[.cells 1 (x.2.map enB),.cells 1 [[.sref 0 0 t.all.length]]])) (fun x=>x.1≤t.all.length∧x.2.length=t.all.length∧∀ j,j < x.1→gB x.2 j=gB R j) (fun x=>t.all.length - x.1) (0,List.replicate t.all.length false) ⟨y53 _,by simp,fun j hj=>by omega⟩ (by refine swR [0,1] [] rfl rfl ?_;(repeat' first|exact y86 _|exact z10 _|apply y87|refine z9 rfl (z5 (fun _=>rfl)) ?_|constructor)) ?_
    rintro ⟨i,S⟩ ⟨hi,hSl,hSe⟩
    dsimp only at hi hSl hSe ⊢
    by_cases hil:i < t.all.length
    ·have gS:=z139 (S:=S) (i:=i) (by omega)
     have hv:=hRv i hil
     have gA:=z139 (S:=A) (i:=i) (by omega)
     generalize gB A i=p at *
     repeat' ((first|apply y4 ok;rfl|apply z23;kernel_rfl|refine z13 (i:=i) rfl gS ?_|refine z13 (i:=i) rfl gA ?_|refine z13 (i:=0) rfl rfl ?_|(apply y43;first|omega|unfold inI;omega)|apply z6<;>intro _)<;>conv=>whnf)
     all_goals try (exfalso;omega)
     all_goals refine z24 (i+1,S.set i (!p)) ⟨by show i+1≤_;omega,z450 hSl hil hv.symm hSe⟩ (by show t.all.length - (i+1) < t.all.length - i;omega) (by refine swR [0,1] [] rfl rfl ?_;(repeat' first|exact y86 _|apply y87|refine z60 rfl (z5 (fun _=>rfl)) ?_|refine z148 (by omega) ?_|constructor))
    ·obtain rfl:S=R:=z627 hSl hlen (fun j hj=>hSe j (by omega))
     repeat' ((first|apply y4 ok;rfl|apply z23;kernel_rfl|apply y43;omega|(first|with_reducible apply z8;omega|with_reducible apply z52;omega|apply z8;omega);intro _|apply z6<;>intro _)<;>conv=>whnf)
     all_goals try (exfalso;omega)
     all_goals (refine rsD [0] [] rfl ?_;(repeat' first|exact y86 _|exact z10 _|refine z9 rfl (z5 (fun _=>rfl)) ?_|constructor))
   ·have hRv:∀ i,i < t.all.length→gB ((Tree.mk 6 0 [a]).satW t.all.length (lnx t.stem.length t.all.length) t.all) i=(gB A (lnx t.stem.length t.all.length i)):=fun i hi=>by
     rw [y30];show gB (opW _ _ _ 6 _ _) i=_;rw [opW_nx,z221 _ hi];simp [Tree.kids,hAe,ptB,Tree.val]
    generalize (Tree.mk 6 0 [a]).satW t.all.length (lnx t.stem.length t.all.length) t.all=R at *
    repeat' ((first|(fail_if_success apply z96 28);(fail_if_success apply z77 28);apply y4 ok;rfl|apply y43;(dsimp only;omega))<;>conv=>whnf)
    rw [z346]
    repeat' (((apply y4 ok;rfl))<;>conv=>whnf)
    refine z64 (fun x:Nat×List Bool=>([(2,.pt t.cs),(3,.pt [.int 6,.int 0,lst 3 Tree.cs' [a]]),(5,ints t.all),(6,.pt [lst 1 z305 [A]]),(9,.ptr 1 none 0),(35,.int t.all.length),(36,.int x.1)],[.cells 1 (x.2.map enB),.cells 1 [[.sref 0 0 t.all.length]]])) (fun x=>x.1≤t.all.length∧x.2.length=t.all.length∧∀ j,j < x.1→gB x.2 j=gB R j) (fun x=>t.all.length - x.1) (0,List.replicate t.all.length false) ⟨y53 _,by simp,fun j hj=>by omega⟩ (by refine swR [0,1] [] rfl rfl ?_;(repeat' first|exact y86 _|exact z10 _|apply y87|refine z9 rfl (z5 (fun _=>rfl)) ?_|constructor)) ?_
    rintro ⟨i,S⟩ ⟨hi,hSl,hSe⟩
    dsimp only at hi hSl hSe ⊢
    by_cases hil:i < t.all.length
    ·have gS:=z139 (S:=S) (i:=i) (by omega)
     have hv:=hRv i hil
     have cn:=z1167 t (by omega) i (by omega)
     rw [hn] at cn
     have hnx:=z875 t.stem.length t.all.length i
     have hlj:=hlt i hil
     have hnn:0≤nxW t.all.length t.stem.length i:=by unfold nxW;split<;>omega
     have gA:=z139 (S:=A) (i:=lnx t.stem.length t.all.length i) (by omega)
     generalize gB A (lnx t.stem.length t.all.length i)=p at *
     generalize nxW t.all.length t.stem.length i=m at *
     repeat' ((first|apply y4 ok;rfl|apply z23;kernel_rfl|refine z13 (i:=i) rfl gS ?_|refine z13 (i:=lnx t.stem.length t.all.length i) (by omega) gA ?_|refine z13 (i:=0) rfl rfl ?_|(apply y43;first|omega|unfold inI;omega)|apply z6<;>intro _|apply z4 cn;rfl;rfl)<;>conv=>whnf)
     all_goals try (exfalso;omega)
     all_goals refine z24 (i+1,S.set i p) ⟨by show i+1≤_;omega,z450 hSl hil hv.symm hSe⟩ (by show t.all.length - (i+1) < t.all.length - i;omega) (by refine swR [0,1] [] rfl rfl ?_;(repeat' first|exact y86 _|apply y87|refine z60 rfl (z5 (fun _=>rfl)) ?_|refine z148 (by omega) ?_|constructor))
    ·obtain rfl:S=R:=z627 hSl hlen (fun j hj=>hSe j (by omega))
     repeat' ((first|apply y4 ok;rfl|apply y43;omega|((with_reducible apply z52;omega));intro _|apply z6<;>intro _)<;>conv=>whnf)
     all_goals try (exfalso;omega)
     all_goals (refine rsD [0] [] rfl ?_;(repeat' first|exact y86 _|exact z10 _|refine z9 rfl (z5 (fun _=>rfl)) ?_|constructor))
   ·rw [show (Tree.mk 9 0 [a]).satW t.all.length (lnx t.stem.length t.all.length) t.all=lim false (stH (unF (fun _=>true) (gB A)) (lnx t.stem.length t.all.length)) t.all.length by
     rw [y30];show opW _ _ _ 9 _ _=_;rw [opW_ev];simp only [Tree.kids,List.map_cons,hAe];rfl]
    have cf:=z678 t t.all.length hn hs h160 false _ (z173 hlt (z1108 (fun _=>true) (gB A)) false) 118 [lst 1 z305 [A]] (fun i x hi=>tru4_ok A i x (by omega) (by omega)) (List.replicate t.all.length false) (by simp)
    repeat' ((first|(fail_if_success apply z96 28);(fail_if_success apply z77 28);apply y4 ok;rfl|apply y43;(dsimp only;omega))<;>conv=>whnf)
    rw [z346]
    repeat' ((first|apply y4 ok;rfl|apply z124 [1,0] [] cf;rfl;(focus ((repeat' first|exact z38|apply z48)<;>first|rfl|refine z65 rfl ?_;((exact z5 fun _=>rfl))));rfl;(focus ((repeat' first|exact z17|apply z16)<;>first|exact z47 rfl rfl|refine z20 ?_;((exact z5 fun _=>rfl)))))<;>conv=>whnf)
    all_goals (refine rsD [0] [] rfl ?_;(repeat' first|exact y86 _|exact z10 _|refine z9 rfl (z5 (fun _=>rfl)) ?_|constructor))
   ·rw [show (Tree.mk 10 0 [a]).satW t.all.length (lnx t.stem.length t.all.length) t.all=lim true (stH (reF (fun _=>false) (gB A)) (lnx t.stem.length t.all.length)) t.all.length by
     rw [y30];show opW _ _ _ 10 _ _=_;rw [opW_al];simp only [Tree.kids,List.map_cons,hAe];rfl]
    have cf:=z678 t t.all.length hn hs h160 true _ (z173 hlt (z1149 (fun _=>false) (gB A)) true) 119 [lst 1 z305 [A]] (fun i x hi=>tru5_ok A i x (by omega) (by omega)) (List.replicate t.all.length false) (by simp)
    repeat' ((first|(fail_if_success apply z96 28);(fail_if_success apply z77 28);apply y4 ok;rfl|apply y43;(dsimp only;omega))<;>conv=>whnf)
    rw [z346]
    repeat' ((first|apply y4 ok;rfl|apply z124 [1,0] [] cf;rfl;(focus ((repeat' first|exact z38|apply z48)<;>first|rfl|refine z65 rfl ?_;((exact z5 fun _=>rfl))));rfl;(focus ((repeat' first|exact z17|apply z16)<;>first|exact z47 rfl rfl|refine z20 ?_;((exact z5 fun _=>rfl)))))<;>conv=>whnf)
    all_goals (refine rsD [0] [] rfl ?_;(repeat' first|exact y86 _|exact z10 _|refine z9 rfl (z5 (fun _=>rfl)) ?_|constructor))
  |bin k a b hk ha hb =>
   have hA:=z319 hlt t.all a
   have hB:=z319 hlt t.all b
   simp only [Tree.kids,List.map_cons,List.map_nil] at hks
   subst hks
   generalize hAe:Tree.satW t.all.length (lnx t.stem.length t.all.length) t.all a=A at *
   generalize hBe:Tree.satW t.all.length (lnx t.stem.length t.all.length) t.all b=B at *
   rcases hk with rfl|rfl|rfl|rfl
   ·have hRv:∀ i,i < t.all.length→gB ((Tree.mk 4 0 [a,b]).satW t.all.length (lnx t.stem.length t.all.length) t.all) i=(gB A i && gB B i):=fun i hi=>by
     rw [y30];show gB (opW _ _ _ 4 _ _) i=_;rw [z347 _ _ _ _ _ (by omega),z221 _ hi];simp [Tree.kids,hAe,hBe,ptB,Tree.val]
    generalize (Tree.mk 4 0 [a,b]).satW t.all.length (lnx t.stem.length t.all.length) t.all=R at *
    repeat' ((first|(fail_if_success apply z96 28);(fail_if_success apply z77 28);apply y4 ok;rfl|apply y43;(dsimp only;omega))<;>conv=>whnf)
    rw [z346]
    repeat' (((apply y4 ok;rfl))<;>conv=>whnf)
    refine z64 (fun x:Nat×List Bool=>([(2,.pt t.cs),(3,.pt [.int 4,.int 0,lst 3 Tree.cs' [a,b]]),(5,ints t.all),(6,.pt [lst 1 z305 [A,B]]),(9,.ptr 1 none 0),(35,.int t.all.length),(36,.int x.1)],[.cells 1 (x.2.map enB),.cells 1 [[.sref 0 0 t.all.length]]])) (fun x=>x.1≤t.all.length∧x.2.length=t.all.length∧∀ j,j < x.1→gB x.2 j=gB R j) (fun x=>t.all.length - x.1) (0,List.replicate t.all.length false) ⟨y53 _,by simp,fun j hj=>by omega⟩ (by refine swR [0,1] [] rfl rfl ?_;(repeat' first|exact y86 _|exact z10 _|apply y87|refine z9 rfl (z5 (fun _=>rfl)) ?_|constructor)) ?_
    rintro ⟨i,S⟩ ⟨hi,hSl,hSe⟩
    dsimp only at hi hSl hSe ⊢
    by_cases hil:i < t.all.length
    ·have gS:=z139 (S:=S) (i:=i) (by omega)
     have hv:=hRv i hil
     have gA:=z139 (S:=A) (i:=i) (by omega)
     generalize gB A i=p at *
     have gB':=z139 (S:=B) (i:=i) (by omega)
     generalize gB B i=q at *
     obtain ⟨r,hr⟩:∃ r,gB R i=r:=⟨_,rfl⟩
     rw [hr] at hv
     cases p<;>cases q<;>cases r<;>first|exfalso;revert hv;decide|skip
     all_goals
      repeat' ((first|apply y4 ok;rfl|apply z23;kernel_rfl|refine z13 (i:=i) rfl gS ?_|refine z13 (i:=i) rfl gA ?_|refine z13 (i:=i) rfl gB' ?_|refine z13 (i:=0) rfl rfl ?_|refine z13 (i:=1) rfl rfl ?_|(apply y43;first|omega|unfold inI;omega)|apply z6<;>intro _)<;>conv=>whnf)
      all_goals try (exfalso;omega)
      all_goals first
       |(refine z24 (i+1,S.set i true) ⟨by show i+1≤_;omega,z450 hSl hil hr.symm hSe⟩ (by show t.all.length - (i+1) < t.all.length - i;omega) (by refine swR [0,1] [] rfl rfl ?_;(repeat' first|exact y86 _|apply y87|refine z60 rfl (z5 (fun _=>rfl)) ?_|refine z148 (by omega) ?_|constructor));done)
       |(refine z24 (i+1,S.set i false) ⟨by show i+1≤_;omega,z450 hSl hil hr.symm hSe⟩ (by show t.all.length - (i+1) < t.all.length - i;omega) (by refine swR [0,1] [] rfl rfl ?_;(repeat' first|exact y86 _|apply y87|refine z60 rfl (z5 (fun _=>rfl)) ?_|refine z148 (by omega) ?_|constructor));done)
    ·obtain rfl:S=R:=z627 hSl hlen (fun j hj=>hSe j (by omega))
     repeat' ((first|apply y4 ok;rfl|apply z23;kernel_rfl|apply y43;omega|(first|with_reducible apply z8;omega|with_reducible apply z52;omega|apply z8;omega);intro _|(first|apply z6|apply z82)<;>intro _)<;>conv=>whnf)
     all_goals try (exfalso;omega)
     all_goals (refine rsD [0] [] rfl ?_;(repeat' first|exact y86 _|exact z10 _|refine z9 rfl (z5 (fun _=>rfl)) ?_|constructor))
   ·have hRv:∀ i,i < t.all.length→gB ((Tree.mk 5 0 [a,b]).satW t.all.length (lnx t.stem.length t.all.length) t.all) i=(gB A i || gB B i):=fun i hi=>by
     rw [y30];show gB (opW _ _ _ 5 _ _) i=_;rw [z347 _ _ _ _ _ (by omega),z221 _ hi];simp [Tree.kids,hAe,hBe,ptB,Tree.val]
    generalize (Tree.mk 5 0 [a,b]).satW t.all.length (lnx t.stem.length t.all.length) t.all=R at *
    repeat' ((first|(fail_if_success apply z96 28);(fail_if_success apply z77 28);apply y4 ok;rfl|apply y43;(dsimp only;omega))<;>conv=>whnf)
    rw [z346]
    repeat' (((apply y4 ok;rfl))<;>conv=>whnf)
    refine z64 (fun x:Nat×List Bool=>([(2,.pt t.cs),(3,.pt [.int 5,.int 0,lst 3 Tree.cs' [a,b]]),(5,ints t.all),(6,.pt [lst 1 z305 [A,B]]),(9,.ptr 1 none 0),(35,.int t.all.length),(36,.int x.1)],[.cells 1 (x.2.map enB),.cells 1 [[.sref 0 0 t.all.length]]])) (fun x=>x.1≤t.all.length∧x.2.length=t.all.length∧∀ j,j < x.1→gB x.2 j=gB R j) (fun x=>t.all.length - x.1) (0,List.replicate t.all.length false) ⟨y53 _,by simp,fun j hj=>by omega⟩ (by refine swR [0,1] [] rfl rfl ?_;(repeat' first|exact y86 _|exact z10 _|apply y87|refine z9 rfl (z5 (fun _=>rfl)) ?_|constructor)) ?_
    rintro ⟨i,S⟩ ⟨hi,hSl,hSe⟩
    dsimp only at hi hSl hSe ⊢
    by_cases hil:i < t.all.length
    ·have gS:=z139 (S:=S) (i:=i) (by omega)
     have hv:=hRv i hil
     have gA:=z139 (S:=A) (i:=i) (by omega)
     generalize gB A i=p at *
     have gB':=z139 (S:=B) (i:=i) (by omega)
     generalize gB B i=q at *
     obtain ⟨r,hr⟩:∃ r,gB R i=r:=⟨_,rfl⟩
     rw [hr] at hv
     cases p<;>cases q<;>cases r<;>first|exfalso;revert hv;decide|skip
     all_goals
      repeat' ((first|apply y4 ok;rfl|apply z23;kernel_rfl|refine z13 (i:=i) rfl gS ?_|refine z13 (i:=i) rfl gA ?_|refine z13 (i:=i) rfl gB' ?_|refine z13 (i:=0) rfl rfl ?_|refine z13 (i:=1) rfl rfl ?_|(apply y43;first|omega|unfold inI;omega)|apply z6<;>intro _)<;>conv=>whnf)
      all_goals try (exfalso;omega)
      all_goals first
       |(refine z24 (i+1,S.set i true) ⟨by show i+1≤_;omega,z450 hSl hil hr.symm hSe⟩ (by show t.all.length - (i+1) < t.all.length - i;omega) (by refine swR [0,1] [] rfl rfl ?_;(repeat' first|exact y86 _|apply y87|refine z60 rfl (z5 (fun _=>rfl)) ?_|refine z148 (by omega) ?_|constructor));done)
       |(refine z24 (i+1,S.set i false) ⟨by show i+1≤_;omega,z450 hSl hil hr.symm hSe⟩ (by show t.all.length - (i+1) < t.all.length - i;omega) (by refine swR [0,1] [] rfl rfl ?_;(repeat' first|exact y86 _|apply y87|refine z60 rfl (z5 (fun _=>rfl)) ?_|refine z148 (by omega) ?_|constructor));done)
    ·obtain rfl:S=R:=z627 hSl hlen (fun j hj=>hSe j (by omega))
     repeat' ((first|apply y4 ok;rfl|apply z23;kernel_rfl|apply y43;omega|(first|with_reducible apply z8;omega|with_reducible apply z52;omega|apply z8;omega);intro _|(first|apply z6|apply z82)<;>intro _)<;>conv=>whnf)
     all_goals try (exfalso;omega)
     all_goals (refine rsD [0] [] rfl ?_;(repeat' first|exact y86 _|exact z10 _|refine z9 rfl (z5 (fun _=>rfl)) ?_|constructor))
   ·rw [show (Tree.mk 7 0 [a,b]).satW t.all.length (lnx t.stem.length t.all.length) t.all=lim false (stH (unF (gB A) (gB B)) (lnx t.stem.length t.all.length)) t.all.length by
     rw [y30];show opW _ _ _ 7 _ _=_;rw [opW_un];simp only [Tree.kids,List.map_cons,hAe,hBe];rfl]
    have cf:=z678 t t.all.length hn hs h160 false _ (z173 hlt (z1108 (gB A) (gB B)) false) 116 [lst 1 z305 [A,B]] (fun i x hi=>tru2_ok A B i x (by omega) (by omega) (by omega) (by omega)) (List.replicate t.all.length false) (by simp)
    repeat' ((first|(fail_if_success apply z96 28);(fail_if_success apply z77 28);apply y4 ok;rfl|apply y43;(dsimp only;omega))<;>conv=>whnf)
    rw [z346]
    repeat' ((first|apply y4 ok;rfl|apply z124 [1,0] [] cf;rfl;(focus ((repeat' first|exact z38|apply z48)<;>first|rfl|refine z65 rfl ?_;((exact z5 fun _=>rfl))));rfl;(focus ((repeat' first|exact z17|apply z16)<;>first|exact z47 rfl rfl|refine z20 ?_;((exact z5 fun _=>rfl)))))<;>conv=>whnf)
    all_goals (refine rsD [0] [] rfl ?_;(repeat' first|exact y86 _|exact z10 _|refine z9 rfl (z5 (fun _=>rfl)) ?_|constructor))
   ·rw [show (Tree.mk 8 0 [a,b]).satW t.all.length (lnx t.stem.length t.all.length) t.all=lim true (stH (reF (gB A) (gB B)) (lnx t.stem.length t.all.length)) t.all.length by
     rw [y30];show opW _ _ _ 8 _ _=_;rw [opW_re];simp only [Tree.kids,List.map_cons,hAe,hBe];rfl]
    have cf:=z678 t t.all.length hn hs h160 true _ (z173 hlt (z1149 (gB A) (gB B)) true) 117 [lst 1 z305 [A,B]] (fun i x hi=>tru3_ok A B i x (by omega) (by omega) (by omega) (by omega)) (List.replicate t.all.length false) (by simp)
    repeat' ((first|(fail_if_success apply z96 28);(fail_if_success apply z77 28);apply y4 ok;rfl|apply y43;(dsimp only;omega))<;>conv=>whnf)
    rw [z346]
    repeat' ((first|apply y4 ok;rfl|apply z124 [1,0] [] cf;rfl;(focus ((repeat' first|exact z38|apply z48)<;>first|rfl|refine z65 rfl ?_;((exact z5 fun _=>rfl))));rfl;(focus ((repeat' first|exact z17|apply z16)<;>first|exact z47 rfl rfl|refine z20 ?_;((exact z5 fun _=>rfl)))))<;>conv=>whnf)
    all_goals (refine rsD [0] [] rfl ?_;(repeat' first|exact y86 _|exact z10 _|refine z9 rfl (z5 (fun _=>rfl)) ?_|constructor))
noncomputable def sfB (t:Trace) (f:Tree):Bool:=gB (f.satW t.all.length (lnx t.stem.length t.all.length) t.all) 0
theorem z1183 {t:Trace} (h:lasB t=true):1≤t.loop.length∧t.all.length≤160∧∀ i,i < t.all.length→0≤t.all.getD i 0∧t.all.getD i 0≤7:=by
 unfold lasB at h
 simp only [y71,decide_eq_true_eq,z94] at h
 obtain ⟨h1,h2,h3,h4⟩:=h
 have hn:=z925 t
 refine ⟨by omega,by omega,fun i hi=>?_⟩
 have key:∀ l:List Int,letW l=true→∀ x∈l,0≤x∧x≤7:=fun l hl x hx=>by
  unfold letW at hl
  simp only [Bool.not_eq_true',List.any_eq_false,y72,Bool.not_eq_false',z94] at hl
  exact z94.1 ((Bool.not_eq_false _).mp (hl x hx))
 rw [z14 hi]
 rcases List.mem_append.1 (show t.all[i]∈t.stem++t.loop from y44 hi) with h|h
 ·exact key _ h1 _ h
 ·exact key _ h2 _ h
set_option maxHeartbeats 3200000 in
theorem z1056 (t:Trace) (h1:t.stem.length≤80) (h2:t.loop.length≤80) (f:Tree) (hf:f.mx):QQ 20 [.agg t.cs,z27 Tree.cs' f] [] (.tup [.bool (lasB t && f.fmB && sfB t f),.bool (lasB t && f.fmB)]) []:=by
 have k1:=z454 t (by unfold maxLen;omega) (by unfold maxLen;omega)
 have k2:=z122 f hf
 by_cases h:(lasB t && f.fmB)=true
 ·obtain ⟨h3,h4⟩:=Bool.and_eq_true_iff.1 h
  obtain ⟨a1,a2,a3⟩:=z1183 h3
  have hn:=z925 t
  have k3:=z1005 t a1 a2 a3 f (y24 h4)
  have hlen:=z319 (fun (i:Nat) (hi:i < t.all.length)=>z612 (a:=t.stem.length) (by omega) hi) t.all f
  unfold sfB
  generalize f.satW t.all.length (lnx t.stem.length t.all.length) t.all=R at *
  have g0:=z139 (S:=R) (i:=0) (by omega)
  generalize gB R 0=r at *
  rw [h3] at k1
  rw [h4] at k2
  rw [h3,h4]
  rw [y15 f] at *
  refine z7 z15 func20 rfl rfl 19 ntmps20 (by simp) ?_
  repeat' ((first|apply y4 ok;rfl|refine z13 (i:=0) rfl g0 ?_|apply y43;omega|apply z4 k1;rfl;rfl|apply z4 k2;rfl;rfl|apply z11 [] [2] k3;rfl;rfl;rfl;(focus ((repeat' first|exact z17|apply z16)<;>(refine z20 ?_;((exact z5 fun _=>rfl))))))<;>conv=>whnf)
  all_goals (refine rsD [] [] rfl ?_;(repeat' first|exact y86 _|constructor))
 ·rw [(y72 _).mp h,Bool.false_and]
  generalize lasB t=p at *
  generalize f.fmB=q at *
  rw [y15 f] at *
  refine z7 z15 func20 rfl rfl 19 ntmps20 (by simp) ?_
  cases p<;>cases q<;>first|exfalso;revert h;decide|skip
  all_goals
   repeat' ((first|apply y4 ok;rfl|apply z4 k1;rfl;rfl|apply z4 k2;rfl;rfl)<;>conv=>whnf)
   all_goals (refine rsD [] [] rfl ?_;(repeat' first|exact y86 _|constructor))
def mst (bl:List Int):Nat→Int
 |0=>0
 |i+1=>if bl.getD i 0=mst bl i then mst bl i+1 else mst bl i
def PartP (bl:List Int):Prop:=∀ i (h:i < bl.length),0≤bl[i]∧bl[i]≤mst bl i
noncomputable instance {bl:List Int} : Decidable (PartP bl):=Classical.propDecidable _
end Go.Proofs.YtjhgpfaodkchjaaGreat
namespace Go.Proofs
open Go.Shelf
end Go.Proofs
namespace Go.Proofs.YtjhgpfaodkchjaaGreat
open Go.Gl Proofs.Tryz
attribute [local irreducible] z18 AWP z31 z35 z34 RetS z45
theorem mst_eq (bl:List Int) (i:Nat):mst bl i=mstD bl i:=by
 induction i with
 |zero=>rfl
 |succ i ih=>rw [mst,mstD,ih]
theorem PartP.part {bl:List Int} {n:Nat} (h:PartP bl) (hn:bl.length=n):Part bl n:=⟨fun i hi=>by
 have:=h i (by omega)
 rw [mst_eq] at this
 rw [z14 (by omega)];exact this⟩
def aft (g:Graph) (bl:List Int) (i:Nat):List Int:=z859 ((g.nx.getD i []).map (pick bl))
def keyA (g:Graph) (bl:List Int) (i:Nat):List Int:=bl.getD i 0::aft g bl i
def refL (g:Graph) (bl:List Int):List Int:=(numK (keyA g bl) g.st.length).1
def bisN (g:Graph) (b:List Int):Nat→List Int
 |0=>b
 |k+1=>refL g (bisN g b k)
def bis0 (g:Graph) (l:List Tree):List Int:=(numF (sameL (g.st.map (z32 l))) g.st.length).1
def bisF (g:Graph) (l:List Tree):List Int:=bisN g (bis0 g l) g.st.length
def BK (g:Graph) (b:List Int) (k:Nat):Prop:=∃ κ:Nat→List Int,bisN g b k=(numK κ g.st.length).1∧k≤(numK κ g.st.length).2
theorem numK_cnt {K:Type} [DecidableEq K] (κ:Nat→K) (n:Nat):(numK κ n).2≤n:=(z1163 _ n).2
theorem BK.le {g:Graph} {b:List Int} {k:Nat} (h:BK g b k):k≤g.st.length:=by
 obtain ⟨κ,_,h2⟩:=h
 have:=numK_cnt κ g.st.length;omega
theorem BK.step {g:Graph} {b:List Int} {k:Nat} (h:BK g b k) (hne:bisN g b (k+1)≠bisN g b k):BK g b (k+1):=by
 obtain ⟨κ,h1,h2⟩:=h
 refine ⟨keyA g (bisN g b k),rfl,?_⟩
 obtain ⟨h3,h4,_⟩:=z1030 (κ:=κ) (κ':=keyA g (bisN g b k)) (n:=g.st.length) (fun x y hx hy he=>by
  have h5:(bisN g b k).getD x 0=(bisN g b k).getD y 0:=(List.cons.inj he).1
  rw [h1] at h5
  rw [z14 (by rw [z216];exact hx),z14 (by rw [z216];exact hy)] at h5
  exact (z670 (κ:=κ) (n:=g.st.length) g.st.length (y52 _) x y hx hy).1 h5) g.st.length (y52 _)
 rcases y70 k (numK (keyA g (bisN g b k)) g.st.length).2 with h|h
 ·exact h
 ·exfalso
  refine hne ?_
  show (numK (keyA g (bisN g b k)) g.st.length).1=_
  rw [h1] at h4 ⊢
  rw [h1] at h3 h
  exact h4 (by omega)
theorem z921 {g:Graph} {b:List Int} {k:Nat} (h:bisN g b (k+1)=bisN g b k):∀ j,k≤j→bisN g b j=bisN g b k:=by
  intro j hj
  induction j with
  | zero => obtain rfl : k = 0 := by omega
            rfl
  | succ j ih =>
    rcases y70 j k with h1|h1
    · obtain rfl:k=j+1:=by omega
      rfl
    · rw [bisN,ih h1];exact h
theorem BK.zero (g:Graph) (l:List Tree):BK g (bis0 g l) 0:=by
 refine ⟨fun i=>[(g.st.map (z32 l)).getD i 0],?_,y53 _⟩
 show (numF _ _).1=(numF _ _).1
 rw [z1031]
 intro i k _ _
 unfold sameL
 simp [eq_comm]
theorem BK.end {g:Graph} {l:List Tree} {k:Nat} (h:BK g (bis0 g l) k) (he:refL g (bisN g (bis0 g l) k)=bisN g (bis0 g l) k):bisN g (bis0 g l) k=bisF g l :=
 (z921 he _ h.le).symm
theorem glB_GB {g:Graph} {l:List Tree} (h:glB g l=true):GB g∧z144 l:=by
 unfold glB at h
 obtain ⟨h1,h2⟩:=Bool.and_eq_true_iff.1 h
 exact ⟨(z95 g).1 h1,y8 h2⟩
def LetP (bl ls:List Int):Prop:=∀ i k:Nat,k < i→i < bl.length→bl.getD i 0=bl.getD k 0→ls.getD i 0=ls.getD k 0
noncomputable instance {bl ls:List Int} : Decidable (LetP bl ls):=Classical.propDecidable _
theorem Part.P {bl:List Int} (h:Part bl bl.length):PartP bl:=fun i hi=>by
 have:=h.rng i hi
 rw [z14 hi] at this
 rw [mst_eq];exact this
theorem z696 (g:Graph) (hg:g.mx) (l:List Tree) (hl:Lmx l) (f:Tree) (hf:f.mx):QQ 14 [.agg g.cs,lst 3 Tree.cs' l,z27 Tree.cs' f] [] (.tup [.int (vdI g l f),.agg (vdT g l f).cs]) []:=(by refine y5 (z585 g hg l hl f hf) [] [0,1] rfl rfl rfl ?_ ?_<;>(repeat' first|exact y86 _|(apply z40 rfl rfl rfl);(focus ((repeat ((exact z30 (fun _=>rfl) _)));done));(focus (((simp;done));done))|apply z41|apply z80|constructor))
theorem sf_eq {g:Graph} {l:List Tree} {t:Trace} {f:Tree} (h:twB g l t=true):sfB (twT g l t) f=satT g l t f:=by
 have e:twT g l t=z225 (g.st.map (z32 l)) t:=by unfold twT;rw [if_pos h]
 unfold sfB satT
 rw [e]
 have e1:(z225 (g.st.map (z32 l)) t).all.length=t.all.length:=by rw [z933];simp
 have e2:(z225 (g.st.map (z32 l)) t).stem.length=t.stem.length:=by unfold z225;simp
 rw [e1,e2]
theorem tw_las {g:Graph} {l:List Tree} {t:Trace} (h:twB g l t=true):lasB (twT g l t)=true:=by
 have e:twT g l t=z225 (g.st.map (z32 l)) t:=by unfold twT;rw [if_pos h]
 rw [e]
 unfold twB at h
 simp only [y71] at h
 exact h.2.2
end Go.Proofs.YtjhgpfaodkchjaaGreat
namespace Go.Proofs.YtjhgpfaodkchjaaGreat
open Go.Gl Proofs.Tryz
section
attribute [local irreducible] z18 RetS z45
end
end Go.Proofs.YtjhgpfaodkchjaaGreat
namespace Go.Proofs.YtjhgpfaodkchjaaGreat
open Go.Gl Proofs.Tryz
attribute [local irreducible] z18 AWP z31 z35 z34 RetS z45
structure FmOk (t:Tree):Prop where
 mx:t.mx
 sz:t.sz≤1048576
theorem FmOk.of {t:Tree} (h:t.mx) (h1:t.sz≤1048576):FmOk t:=⟨h,h1⟩
end Go.Proofs.YtjhgpfaodkchjaaGreat
namespace Go.Proofs.YtjhgpfaodkchjaaGreat
open Go.Gl Proofs.Tryz
section
attribute [local irreducible] z18 AWP z31 z35 z34 RetS z45
end
end Go.Proofs.YtjhgpfaodkchjaaGreat
namespace Go.Proofs.YtjhgpfaodkchjaaGreat
open Go.Gl Proofs.Tryz
attribute [local irreducible] z18 AWP z31 z35 z34 RetS z45
noncomputable def cyB (g:Graph) (l:List Tree) (f:Tree):Bool:=ngS f && mkOk g l (ngA f)
noncomputable def cyR (g:Graph) (l:List Tree) (f:Tree):List Int:=if ngS f=true then mkR g l (ngA f) else []
theorem cyR_le (g:Graph) (l:List Tree) (f:Tree):(Cert.mk (cyR g l f)).ranks.length≤3840:=by
 show (cyR g l f).length≤3840
 unfold cyR
 split
 ·exact z767.2.1
 ·simp
theorem z578 (g:Graph) (hg:g.mx) (l:List Tree) (hl:Lmx l) (f:Tree) (hf:f.mx):QQ 12 [.agg g.cs,lst 3 Tree.cs' l,z27 Tree.cs' f] [] (.tup [.agg (Cert.mk (cyR g l f)).cs,.bool (cyB g l f)]) []:=by
 have cN:=z340 f hf
 have cM:=z853 g hg l hl (ngA f) (z959 f)
 show CallsA _ _ _ _ (.tup [.agg [ints (cyR g l f)],_]) []
 unfold cyB cyR
 have e:(Cert.mk (mkR g l (ngA f))).cs=[ints (mkR g l (ngA f))]:=rfl
 rw [e] at cM
 clear e
 generalize mkOk g l (ngA f)=q at *
 generalize mkR g l (ngA f)=R at *
 generalize ngA f=a at *
 generalize ngS f=z at *
 rw [y15 f] at *
 cases z
 ·show CallsA _ _ _ _ (.tup [.agg [.list 1 0 []],_]) []
  refine z7 z15 func12 rfl rfl 24 ntmps12 (by simp) ?_
  repeat' ((first|apply y4 ok;rfl|apply z4 cN;rfl;rfl)<;>conv=>whnf)
  all_goals (refine rsD [] [] rfl ?_;(repeat' first|exact y86 _|exact z43|apply z41|apply z80|constructor))
 ·refine z7 z15 func12 rfl rfl 24 ntmps12 (by simp) ?_
  repeat' ((first|apply y4 ok;rfl|apply z4 cN;rfl;rfl|apply z4 cM;rfl;rfl)<;>conv=>whnf)
  all_goals (refine rsD [] [] rfl ?_;(repeat' first|exact y86 _|constructor))
theorem cy_vd (g:Graph) (l:List Tree) (f:Tree):cyB g l f=decide (vdI g l f=0):=by
 rw [Bool.eq_iff_iff,decide_eq_true_eq]
 unfold cyB vdI
 rw [y71]
 by_cases h4:ngS f=true
 ·have hb:=z1166 (show ngB f=true by unfold ngS at h4;exact (Bool.and_eq_true_iff.1 h4).1)
  have hv:=z764 h4
  rw [hb,Bool.and_true,if_pos h4]
  unfold mkOk
  by_cases hg:glB g l=true
  ·have e1:ftO g l (ngA f)=trcO g (g.st.map (z32 l)) (ngA f):=by unfold ftO;rw [if_pos (by rw [hg,hv];rfl)]
   rw [if_pos hg,hg,hv,e1]
   cases trcO g (g.st.map (z32 l)) (ngA f)<;>simp [h4]
  ·rw [if_neg hg,(y72 _).mp hg]
   simp
 ·rw [if_neg h4]
  constructor
  ·rintro ⟨h,_⟩;exact absurd h h4
  ·intro h
   split at h<;>cases h
end Go.Proofs.YtjhgpfaodkchjaaGreat
