/- A part of the proofs over this program: T243, T215, T253W, T270, T271, T244, T95, T246, T247, T251W, T258, T273, T287, T311, T304, T305, T312, T55F, T62F, T306. -/
import Derived.Test.YtnfoijopccdjeaaGreatG0
import Derived.Test.YtnfoijopccdjeaaGreatG1
import Derived.Test.YtnfoijopccdjeaaGreatG2
import Derived.Test.YtnfoijopccdjeaaGreatG3
import Derived.Test.YtnfoijopccdjeaaGreatP0
import Derived.Test.YtnfoijopccdjeaaGreatP1
import Derived.Test.YtnfoijopccdjeaaGreatP2
import Derived.Test.YtnfoijopccdjeaaGreatP3
import Derived.Test.YtnfoijopccdjeaaGreatP4
import Derived.Test.YtnfoijopccdjeaaGreatP5
import Derived.Test.YtnfoijopccdjeaaGreatP6
set_option linter.all false
namespace Go.Proofs.YtnfoijopccdjeaaGreat
open Go.Gl
attribute [local irreducible] z16 AWP z29 z32 z30
theorem z935 (t:Tree) (hs:t.sz≤200) (h:tsB t=true) {w:Nat→Int} (hw:∀ k,0≤w k):(∃ ρ,ARun (trA t) w ρ)↔t.sem w 0:=by
 unfold tsB at h
 unfold trA
 unfold trO at *
 by_cases hb:bscB t=true
 ·rw [if_pos hb] at *
  obtain ⟨⟨ht,hn⟩,h5⟩:=of_decide_eq_true (show decide _=true from hb)
  obtain ⟨hB,hIn,_⟩:=z573 ht hn h5 hs
  have hg:=y29 ht
  have hsem:=sem_nrm w t hg false 0
  rw [if_neg (by simp)] at hsem
  have hNF:=nrm_NF t hg false
  have hNB:∀ x∈bscL (t.nrm false),NF x:=fun x hx=>z938 (p:=NF) (fun x hx=>hx.kids) (t.nrm false) [] hNF (by simp) x (List.mem_filter.1 hx).1
  rw [← hsem]
  clear hsem hg ht hn
  generalize t.nrm false=g at *
  generalize bscL g=B at *
  have hBk:BOk B:=⟨hB.nd,hB.cl,hB.bk,hB.av⟩
  cases hS:trS B g with
  |none=>rw [hS] at h;cases h
  |some y =>
   obtain ⟨hT,suf,hL⟩:=trS_T hS
   have hIL:(iniS B g).length≤y.L.length:=by rw [hL];simp
   show (∃ ρ,ARun (z334 (iniS B g).length y) w ρ)↔_
   have hmI:∀ x,x∈numI (iniS B g).length↔∃ i:Nat,x=i∧i < (iniS B g).length:=fun x=>by
    unfold numI
    rw [y66]
    exact ⟨fun ⟨i,hi,e⟩=>⟨i,e.symm,List.mem_range.1 hi⟩,fun ⟨i,e,hi⟩=>⟨i,List.mem_range.2 hi,e.symm⟩⟩
   constructor
   ·rintro ⟨ρ,r0,r1,r2⟩
    obtain ⟨i0,ei0,hi0⟩:=(hmI _).1 r0
    have hL0:¬ y.L.length=0:=by omega
    have hacc:(z334 (iniS B g).length y).acc=y.acc:=by unfold z334;dsimp only;rw [if_neg hL0]
    have hst:∀ k,∃ e∈y.ed,e.src=ρ k∧e.dst=ρ (k+1)∧(((w k).toNat &&& e.care.toNat:Nat):Int)=e.val:=fun k=>by
     obtain ⟨e,he,c1,c2,c3⟩:=r1 k
     obtain ⟨e',he',rfl⟩:=List.mem_map.1 (show e∈y.ed.map eT from he)
     exact ⟨e',he',c1,c2,of_decide_eq_true c3⟩
    have hnn:∀ k,ρ k=((ρ k).toNat:Nat):=fun k=>by
     obtain ⟨e,he,c1,_⟩:=hst k
     obtain ⟨k',t,_,_,_,x1,_⟩:=hT.e1 e he
     omega
    refine tr_sound hBk hIn hS hw (ρ:=fun k=>(ρ k).toNat) ⟨by show (ρ 0).toNat < _;omega,fun k=>?_,fun m=>?_⟩
    ·obtain ⟨e,he,c1,c2,c3⟩:=hst k
     exact ⟨e,he,by rw [c1];exact hnn k,by rw [c2];exact hnn (k+1),c3⟩
    ·obtain ⟨k,k1,k2⟩:=r2 m
     rw [hacc] at k2
     exact ⟨k,k1,k2⟩
   ·intro hs
    obtain ⟨ρ,r0,r1,r2⟩:=z843 hBk hNB hNF hIn hS hw hs
    have hL0:¬ y.L.length=0:=by omega
    have hacc:(z334 (iniS B g).length y).acc=y.acc:=by unfold z334;dsimp only;rw [if_neg hL0]
    refine ⟨fun k=>(ρ k:Int),(hmI _).2 ⟨ρ 0,rfl,r0⟩,fun k=>?_,fun m=>?_⟩
    ·obtain ⟨e,he,c1,c2,c3⟩:=r1 k
     exact ⟨eT e,List.mem_map.2 ⟨e,he,rfl⟩,c1,c2,y89 c3⟩
    ·obtain ⟨k,k1,k2⟩:=r2 m
     refine ⟨k,k1,?_⟩
     rw [hacc,y83];exact k2
 ·rw [if_neg hb] at h;cases h
theorem z948 {t:Tree} (hg:t.goodF) (w:Nat→Int) (i:Nat):(negT t).sem w i↔¬ t.sem w i:=by
 unfold negT
 by_cases hk:t.kind=3
 ·rw [if_pos hk]
  cases y27 hg with
  |tr=>simp [Tree.kind] at hk
  |«at» v _ _=>simp [Tree.kind] at hk
  |bin k a b hk2 _ _=>simp only [Tree.kind] at hk;omega
  |un k a _ _ =>
   simp only [Tree.kind] at hk
   subst hk
   rw [z422,Classical.not_not]
   simp [Tree.kids]
 ·rw [if_neg hk,z374]
theorem vd_sem {g:Graph} {l:List Tree} {f:Tree} (hgl:glB g l=true) (hs:ngS f=true):(ftO g l (ngA f)).isSome=true↔∃ π,GPath g π∧¬ f.sem (gW g l π) 0:=by
 have hv:=z534 hs
 have hL:=y8 (by unfold glB at hgl;exact (Bool.and_eq_true_iff.1 hgl).2)
 have h1:=hs
 unfold ngS at h1
 rw [y77] at h1
 have hz:=z430 h1.1
 have e1:ngA f=trA (negT f):=by unfold ngA ngT;rw [if_pos h1.1,if_pos h1.1]
 have e2:ngT f=negT f:=by unfold ngT;rw [if_pos h1.1]
 rw [e2] at h1 hz
 have hg:=y29 (ngB_fm h1.1)
 rw [fto_iff (by rw [hgl,hv];rfl)]
 constructor
 ·rintro ⟨π,ρ,hp,hr⟩
  rw [e1] at hr
  exact ⟨π,hp,(z948 hg _ _).1 ((z935 _ (by omega) h1.2 (gW_nn hL π)).1 ⟨ρ,hr⟩)⟩
 ·rintro ⟨π,hp,hn⟩
  obtain ⟨ρ,hr⟩:=(z935 _ (by omega) h1.2 (gW_nn hL π)).2 ((z948 hg _ _).2 hn)
  rw [← e1] at hr
  exact ⟨π,ρ,hp,hr⟩
theorem z1076 {g:Graph} {l:List Tree} {f:Tree} : vdI g l f=1↔(glB g l=true∧f.fmB=true∧ngS f=true)∧∃ π,GPath g π∧¬ f.sem (gW g l π) 0:=by
 unfold vdI
 by_cases h1:(glB g l && f.fmB)=true
 ·obtain ⟨h2,h3⟩:=Bool.and_eq_true_iff.1 h1
  rw [if_pos h1]
  by_cases h4:ngS f=true
  ·rw [if_pos h4]
   have hv:=vd_sem h2 h4
   by_cases h5:(ftO g l (ngA f)).isSome=true
   ·rw [if_pos h5]
    exact ⟨fun _=>⟨⟨h2,h3,h4⟩,hv.1 h5⟩,fun _=>rfl⟩
   ·rw [if_neg h5]
    exact ⟨fun h=>(by cases h),fun ⟨_,h⟩=>absurd (hv.2 h) h5⟩
  ·rw [if_neg h4]
   exact ⟨fun h=>(by cases h),fun ⟨h,_⟩=>absurd h.2.2 h4⟩
 ·rw [if_neg h1]
  exact ⟨fun h=>(by cases h),fun ⟨h,_⟩=>absurd (by rw [h.1,h.2.1];rfl) h1⟩
end Go.Proofs.YtnfoijopccdjeaaGreat
namespace Go.Proofs.YtnfoijopccdjeaaGreat
open Go.Gl
attribute [local irreducible] z16 AWP z29 z32 z30 RetS z36
section
variable {g:Graph} {ls:List Int} {a:Aut} {s q:List Int}
theorem FndP.tr (hG:GB g) (hA:AutP a) (h:FndP g ls a s q) (hl8:s.length+q.length≤8000):trB g ⟨stL s a.acc.length,stL q a.acc.length⟩=true:=by
 have hac:=hA.1
 have hl:(s++q).length=s.length+q.length:=by simp
 have hp:=h.pos
 have hall:(Trace.mk (stL s a.acc.length) (stL q a.acc.length)).all=stL (s++q) a.acc.length:=by unfold Trace.all stL;simp
 have hsl:(stL s a.acc.length).length=s.length:=by simp [stL]
 have hql:(stL q a.acc.length).length=q.length:=by simp [stL]
 have hal:(stL (s++q) a.acc.length).length=s.length+q.length:=by simp [stL]
 have inv:∀ k,k < (s++q).length→∃ (i:Nat) (to:Int),i < g.st.length∧to∈g.nx.getD i []∧(s++q).getD k 0 / a.acc.length=i∧(s++q).getD (nxW (s++q).length s.length k).toNat 0 / a.acc.length=to:=fun k hk=>by
  obtain ⟨i,to,e,h1,h2,h3,h4,h5,h6,h7,h8⟩:=z476 (h.inn ((s++q).getD k 0) (by rw [z18 hk];exact y51 _)) (h.step hk) hA
  exact ⟨i,to,h1,h2,h5,h7⟩
 unfold trB
 simp only [y77,decide_eq_true_eq]
 refine ⟨⟨by rw [hql];exact hp,by rw [hsl,hql];exact hl8⟩,?_,?_,?_⟩
 ·rw [hall]
  refine z1007 ((z116 _).2 hG) (by rw [hal];omega) fun k hk=>?_
  rw [hal] at hk
  have hk' : k < (s++q).length:=by omega
  obtain ⟨i,to,h1,h2,h3,h4⟩:=inv k hk'
  unfold z989
  rw [z613 hk',h3]
  simp only [y77,Bool.or_eq_true,decide_eq_true_eq]
  refine ⟨⟨by omega,by omega⟩,?_⟩
  by_cases hk0:k=0
  ·exact .inl hk0
  ·right
   obtain ⟨i',to',g1,g2,g3,g4⟩:=inv (k - 1) (by omega)
   unfold nxW at g4
   rw [if_neg (by omega),y83,show k - 1+1=k by omega,h3] at g4
   rw [z613 (by omega),g3,y83,g4]
   exact g2
 ·rw [hall,z613 (by omega)]
  obtain ⟨j,hj,e⟩:=List.mem_iff_getElem.1 h.ini
  have h5:=(hA.2.2.1 j hj hj).1
  rw [e] at h5
  exact Int.ediv_eq_zero_of_lt h5.1 (by omega)
 ·show (stL q a.acc.length).getD 0 0∈g.nx.getD ((stL q a.acc.length).getD ((stL q a.acc.length).length - 1) 0).toNat []
  rw [hql,z613 hp,z613 (by omega)]
  have hx0:=h.inn (q.getD (q.length - 1) 0) (by rw [z18 (by omega)];exact List.mem_append.2 (.inr (y51 _)))
  obtain ⟨i,to,e,h1,h2,h3,h4,h5,h6,h7,h8⟩:=z476 hx0 h.back hA
  rw [h7,h5,y83]
  exact h2
end
theorem z891 {g:Graph} {l:List Tree} {a:Aut} (h1:(glB g l && autB a)=true) {st lp:List Int} (h:ftO g l a=some (st,lp)):∃ s q,FndP g (g.st.map (z49 l)) a s q∧st=stL s a.acc.length∧lp=stL q a.acc.length∧s.length+q.length≤8000:=by
 obtain ⟨h3,hab⟩:=Bool.and_eq_true_iff.1 h1
 have hG:=(z116 g).1 (by unfold glB at h3;exact (Bool.and_eq_true_iff.1 h3).1)
 have hA:=z162.1 hab
 obtain ⟨f1,f2,f3,f4,f5⟩:=z235 hG hA (g.st.map (z49 l))
 have hnd:=hA.2.2.1.nd
 unfold ftO at h
 rw [if_pos h1] at h
 unfold trcO at h
 rw [← z322 f1 f2 hnd,Option.map_eq_some_iff] at h
 obtain ⟨⟨p,q⟩,hpq,e⟩:=h
 simp only [Prod.mk.injEq] at e
 obtain ⟨e1,e2⟩:=e
 obtain ⟨v,s,k1,k2,k3,k4,k5,k6,k7⟩:=las_path f1 f2 hnd hpq
 obtain ⟨b1,b2,b3,b4,b5,b6⟩:=z881 f1 f2 hnd hpq
 subst k2
 have hts:(s++[v]).take ((s++[v]).length - 1)=s:=by simp
 rw [hts] at e1
 rw [y54,List.length_singleton] at b3
 refine ⟨s,q,⟨fun x hx=>?_,k3,k4,k6,by rw [k5];exact k7,by rw [k5];exact k1⟩,e1.symm,e2.symm,by omega⟩
 rcases List.mem_append.1 hx with hx|hx
 ·exact (b1 x (List.mem_append.2 (.inl hx))).1
 ·exact (b2 x hx).1
theorem found_ok {g:Graph} {l:List Tree} {a:Aut} (h1:(glB g l && autB a)=true) (h:(ftO g l a).isSome=true):trB g (ftL g l a)=true∧(twB g l (ftL g l a)=true→accR a (twT g l (ftL g l a))=true):=by
 obtain ⟨h3,hab⟩:=Bool.and_eq_true_iff.1 h1
 have hG:=(z116 g).1 (by unfold glB at h3;exact (Bool.and_eq_true_iff.1 h3).1)
 have hA:=z162.1 hab
 cases hf:ftO g l a with
 |none=>rw [hf] at h;cases h
 |some x =>
  obtain ⟨st,lp⟩:=x
  obtain ⟨s,q,F,rfl,rfl,hl8⟩:=z891 h1 hf
  have e:ftL g l a=⟨stL s a.acc.length,stL q a.acc.length⟩:=by unfold ftL;rw [hf];rfl
  rw [e]
  have htr:=F.tr hG hA hl8
  refine ⟨htr,fun ht=>accR_iff.2 ?_⟩
  have ew:twT g l ⟨stL s a.acc.length,stL q a.acc.length⟩=z834 (g.st.map (z49 l)) ⟨stL s a.acc.length,stL q a.acc.length⟩:=by unfold twT;rw [if_pos ht]
  have hall:(Trace.mk (stL s a.acc.length) (stL q a.acc.length)).all=stL (s++q) a.acc.length:=by unfold Trace.all stL;simp
  unfold AccP
  rw [ew,word_all,hall]
  have hsl:(z834 (g.st.map (z49 l)) ⟨stL s a.acc.length,stL q a.acc.length⟩).stem.length=s.length:=by simp [z834,stL]
  rw [hsl]
  refine F.word hA (by simp [stL]) fun k hk=>?_
  have hk' : k < (s++q).length:=by simpa [stL] using hk
  rw [z18 hk,List.getElem_map]
  unfold pick
  congr 2
  rw [← z613 hk',z18 (by simpa [stL] using hk')]
end Go.Proofs.YtnfoijopccdjeaaGreat
namespace Go.Proofs.YtnfoijopccdjeaaGreat
open Go.Gl
attribute [local irreducible] z16 AWP z29 z32 z30
theorem vd_trace {g:Graph} {l:List Tree} {f:Tree} (h:vdI g l f=1):trB g (vdT g l f)=true:=by
 have hs:=(z1076.1 h).1
 have hv:=z534 hs.2.2
 unfold vdI at h
 unfold vdT
 have h1:(glB g l && f.fmB)=true:=by rw [hs.1,hs.2.1];rfl
 rw [if_pos h1,if_pos hs.2.2] at h ⊢
 refine (found_ok (by rw [hs.1,hv];rfl) ?_).1
 by_cases h5:(ftO g l (ngA f)).isSome=true
 ·exact h5
 ·rw [if_neg h5] at h;cases h
def Nx (s:Sys) (a b:State):Prop:=(∃ x∈z145 s a,b=z76 s a x)∨(z145 s a=[]∧b=a)
inductive Rch (s:Sys) (a:State):State→Prop
 |base:Rch s a a
 |next {b c:State} : Rch s a b→Nx s b c→Rch s a c
theorem Nx.ok {s:Sys} (hs:s.ok) {a b:State} (ha:a.ok s) (h:Nx s a b):b.ok s:=by
 rcases h with ⟨x,hx,rfl⟩|⟨_,rfl⟩
 ·exact z310 hs ha (z663 x hx)
 ·exact ha
theorem Nx.ex (s:Sys) (a:State):∃ b,Nx s a b:=by
 cases h:z145 s a with
 |nil=>exact ⟨a,.inr ⟨h,rfl⟩⟩
 |cons x l=>exact ⟨_,.inl ⟨x,by rw [h];simp,rfl⟩⟩
theorem z635 (t:State):∀ (l:List State) (k:Int),0≤k→(z113 t l k=-1∧t ∉ l)∨∃ m:Nat,z113 t l k=k+m∧l[m]?=some t:=by
 intro l
 induction l with
 |nil=>intro k _;exact .inl ⟨rfl,by simp⟩
 |cons x l ih =>
  intro k hk
  simp only [z113]
  by_cases hx:x=t
  ·rw [if_pos hx]
   exact .inr ⟨0,by simp,by simp [hx]⟩
  ·rw [if_neg hx]
   rcases ih (k+1) (by omega) with ⟨h1,h2⟩|⟨m,h1,h2⟩
   ·exact .inl ⟨h1,by simp [h2];exact fun h=>hx h.symm⟩
   ·exact .inr ⟨m+1,by rw [h1];omega,by simpa using h2⟩
theorem nd_idx {α:Type} {l:List α} (h:l.Nodup) {i j:Nat} {x:α} (hi:l[i]?=some x) (hj:l[j]?=some x):i=j:=by
 obtain ⟨h1,e1⟩:=List.getElem?_eq_some_iff.1 hi
 obtain ⟨h2,e2⟩:=List.getElem?_eq_some_iff.1 hj
 exact (List.getElem_inj h).1 (e1.trans e2.symm)
theorem z558 {t:State} {l:List State} (h:l.Nodup) {m:Nat} (hm:l[m]?=some t):z113 t l 0=m:=by
 rcases z635 t l 0 (by omega) with ⟨_,h2⟩|⟨k,h1,h2⟩
 ·exact absurd (List.mem_of_getElem? hm) h2
 ·rw [h1,nd_idx h hm h2];omega
open Classical in
theorem z686 {N:List Int} {v w:Int} : w∈(if v∈N then N else N++[v])↔w∈N∨w=v:=by
 split
 ·rename_i h
  exact ⟨.inl,fun k=>k.elim id fun e=>e ▸ h⟩
 ·simp
open Classical in
theorem nd_put {N:List Int} {v:Int} (h:N.Nodup):(if v∈N then N else N++[v]).Nodup:=by
 split
 ·exact h
 ·rename_i hv
  rw [y82]
  exact ⟨h,by simp,fun a ha b hb e=>by rw [List.mem_singleton.1 hb] at e;exact hv (e ▸ ha)⟩
theorem z353 {α:Type} {S R:List α} {i:Nat} {x:α} (h:S[i]?=some x):(S++R)[i]?=some x:=by
 rw [y72 (List.getElem?_eq_some_iff.1 h).1];exact h
theorem z1147 {α:Type} {S:List α} {x:α} (h:S.Nodup) (hx:x ∉ S):(S++[x]).Nodup:=by
 rw [y82]
 exact ⟨h,by simp,fun a ha b hb e=>by rw [List.mem_singleton.1 hb] at e;exact hx (e ▸ ha)⟩
structure InnF (s:Sys) (st0:State) (n0:Nat) (P:List Stp) (S:List State) (N:List Int):Prop where
 snd:S.Nodup
 nnd:N.Nodup
 sin:∀ n∈N,0≤n∧∃ x∈P,S[n.toNat]?=some (z76 s st0 x)
 all:∀ x∈P,∃ n∈N,0≤n∧S[n.toNat]?=some (z76 s st0 x)
 new:∀ j:Nat,n0≤j→j < S.length→(j:Int)∈N
theorem InnF.put {s:Sys} {st0:State} {n0:Nat} {P:List Stp} {S:List State} {N:List Int} {x:Stp} {m:Nat} {R:List State} (h:InnF s st0 n0 P S N) (hS:(S++R).Nodup) (hm:(S++R)[m]?=some (z76 s st0 x)) (hn:∀ j:Nat,S.length≤j→j < (S++R).length→j=m):InnF s st0 n0 (P++[x]) (S++R) (open Classical in if (m:Int)∈N then N else N++[(m:Int)]):=by
 refine ⟨hS,nd_put h.nnd,fun n hn=>?_,fun y hy=>?_,fun j h1 h2=>z686.2 ?_⟩
 ·rcases z686.1 hn with hn|rfl
  ·obtain ⟨a,y,hy,e⟩:=h.sin n hn
   exact ⟨a,y,by simp [hy],z353 e⟩
  ·exact ⟨by omega,x,by simp,by simpa using hm⟩
 ·rcases List.mem_append.1 hy with hy|hy
  ·obtain ⟨n,a,b,e⟩:=h.all y hy
   exact ⟨n,z686.2 (.inl a),b,z353 e⟩
  ·rw [List.mem_singleton.1 hy]
   exact ⟨m,z686.2 (.inr rfl),by omega,by simpa using hm⟩
 ·by_cases hj:j < S.length
  ·exact .inl (h.new j h1 hj)
  ·exact .inr (by rw [hn j (by omega) h2])
theorem inn_F {s : Sys} {st0 : State} {n0 : Nat} : ∀ (L P : List Stp) (S : List State) (N : List Int), InnF s st0 n0 P S N → S.length ≤ 60 → match inn s st0 L S N with
  |some (S',N')=>InnF s st0 n0 (P++L) S' N'∧(∃ R,S'=S++R∧∀ t∈R,∃ x∈L,t=z76 s st0 x)
  |none=>∃ R,(S++R).Nodup∧61≤(S++R).length∧∀ t∈R,∃ x∈L,t=z76 s st0 x:=by
 intro L
 induction L with
 |nil =>
  intro P S N h _
  simp only [inn,y71]
  exact ⟨h,[],by simp,by simp⟩
 |cons x L ih =>
  intro P S N h h60
  have ih:=ih (P++[x])
  rw [List.append_assoc] at ih
  simp only [inn]
  rcases z635 (z76 s st0 x) S 0 (by omega) with ⟨h1,h2⟩|⟨m,h1,h2⟩
  ·rw [if_pos (by omega)]
   by_cases hq:60≤(S.length:Int)
   ·rw [if_pos hq]
    exact ⟨[z76 s st0 x],z1147 h.snd h2,by simp;omega,by simp⟩
   ·rw [if_neg hq]
    have hp:=h.put (x:=x) (m:=S.length) (R:=[z76 s st0 x]) (z1147 h.snd h2) (by simp) (fun j a b=>by simp at b;omega)
    have:=ih _ _ hp (by simp;omega)
    split at this
    ·rename_i S' N' e
     try rw [e]
     obtain ⟨a,R,rfl,c⟩:=this
     refine ⟨a,z76 s st0 x::R,by simp,fun t ht=>?_⟩
     rcases List.mem_cons.1 ht with rfl|ht
     ·exact ⟨x,by simp,rfl⟩
     ·obtain ⟨y,hy,e⟩:=c t ht
      exact ⟨y,by simp [hy],e⟩
    ·rename_i e
     try rw [e]
     obtain ⟨R,a,b,c⟩:=this
     refine ⟨z76 s st0 x::R,by simpa using a,by simpa using b,fun t ht=>?_⟩
     rcases List.mem_cons.1 ht with rfl|ht
     ·exact ⟨x,by simp,rfl⟩
     ·obtain ⟨y,hy,e⟩:=c t ht
      exact ⟨y,by simp [hy],e⟩
  ·have hml:=(List.getElem?_eq_some_iff.1 h2).1
   rw [h1,Int.zero_add,if_neg (by omega),if_neg (by omega)]
   have hp:=h.put (x:=x) (m:=m) (R:=[]) (by simpa using h.snd) (by simpa using h2) (fun j a b=>by simp at b;omega)
   rw [y71] at hp
   have:=ih _ _ hp h60
   split at this
   ·rename_i S' N' e
    try rw [e]
    obtain ⟨a,R,rfl,c⟩:=this
    refine ⟨a,R,rfl,fun t ht=>?_⟩
    obtain ⟨y,hy,e⟩:=c t ht
    exact ⟨y,by simp [hy],e⟩
   ·rename_i e
    try rw [e]
    obtain ⟨R,a,b,c⟩:=this
    refine ⟨R,a,b,fun t ht=>?_⟩
    obtain ⟨y,hy,e⟩:=c t ht
    exact ⟨y,by simp [hy],e⟩
theorem inn_len {s:Sys} {st0:State} : ∀ {L:List Stp} {S:List State} {N:List Int} {S' : List State} {N' : List Int},S.length≤60→inn s st0 L S N=some (S',N')→S'.length≤60:=by
 intro L
 induction L with
 |nil =>
  intro S N S' N' h e
  simp only [inn,Option.some.injEq,Prod.mk.injEq] at e
  rw [← e.1];exact h
 |cons x L ih =>
  intro S N S' N' h e
  simp only [inn] at e
  split at e
  ·split at e
   ·cases e
   ·exact ih (by simp;omega) e
  ·split at e
   ·cases e
   ·exact ih h e
structure RowF (s:Sys) (S:List State) (a:State) (r:List Int):Prop where
 nd:r.Nodup
 ne:r≠[]
 sin:∀ n∈r,0≤n∧∃ b,S[n.toNat]?=some b∧Nx s a b
 all:∀ b,Nx s a b→∃ n∈r,0≤n∧S[n.toNat]?=some b
theorem RowF.app {s:Sys} {S R:List State} {a:State} {r:List Int} (h:RowF s S a r):RowF s (S++R) a r :=
 ⟨h.nd,h.ne,fun n hn=>by obtain ⟨x,b,y,z⟩:=h.sin n hn;exact ⟨x,b,z353 y,z⟩,fun b hb=>by obtain ⟨n,x,y,z⟩:=h.all b hb;exact ⟨n,x,y,z353 z⟩⟩
structure GF (s:Sys) (st1:State) (S:List State) (G:List (List Int)) (i:Nat):Prop where
 snd:S.Nodup
 i0:S[0]?=some st1
 gl:G.length=i
 le:i≤S.length
 n60:S.length≤60
 rch:∀ t∈S,Rch s st1 t
 row:∀ k,k < i→∀ a,S[k]?=some a→RowF s S a (G.getD k [])
 par:∀ j:Nat,1≤j→j < S.length→∃ k,k < i∧(j:Int)∈G.getD k []
 ord:∀ c,c < i→∀ n∈G.getD c [],∀ j:Nat,1≤j→(j:Int)≤n→∃ k,k≤c∧(j:Int)∈G.getD k []
theorem z214 {α:Type} {G:List α} {r d:α} {k:Nat} (h:k < G.length):(G++[r]).getD k d=G.getD k d:=by
 rw [y74,y74,y72 h]
theorem z300 {α:Type} {G:List α} {r d:α} : (G++[r]).getD G.length d=r:=by
 rw [y74];simp
theorem GF.step {s:Sys} {st1:State} {S R:List State} {G:List (List Int)} {i:Nat} {st0:State} {N:List Int} (h:GF s st1 S G i) (hst:S[i]?=some st0) (hi:InnF s st0 S.length (z145 s st0) (S++R) N) (hR:∀ t∈R,∃ x∈z145 s st0,t=z76 s st0 x) (hl:(S++R).length≤60):GF s st1 (S++R) (G++[z199 (z145 s st0) N i]) (i+1):=by
 have hgl:=h.gl
 have hil:=(List.getElem?_eq_some_iff.1 hst).1
 have hrow:RowF s (S++R) st0 (z199 (z145 s st0) N i):=by
  unfold z199
  by_cases hz:z145 s st0=[]
  ·rw [if_pos hz]
   have hN:N=[]:=by
    cases N with
    |nil=>rfl
    |cons n N=>obtain ⟨_,x,hx,_⟩:=hi.sin n (by simp);rw [hz] at hx;cases hx
   rw [hN]
   refine ⟨by simp,by simp,fun n hn=>?_,fun b hb=>?_⟩
   ·simp only [List.nil_append,y61] at hn
    subst hn
    exact ⟨by omega,st0,z353 (by simpa using hst),.inr ⟨hz,rfl⟩⟩
   ·rcases hb with ⟨x,hx,_⟩|⟨_,rfl⟩
    ·rw [hz] at hx;cases hx
    ·exact ⟨i,by simp,by omega,z353 (by simpa using hst)⟩
  ·rw [if_neg hz]
   refine ⟨hi.nnd,fun e=>?_,fun n hn=>?_,fun b hb=>?_⟩
   ·obtain ⟨x,hx⟩:=List.exists_mem_of_ne_nil _ hz
    obtain ⟨n,hn,_⟩:=hi.all x hx
    rw [e] at hn;cases hn
   ·obtain ⟨a,x,hx,e⟩:=hi.sin n hn
    exact ⟨a,_,e,.inl ⟨x,hx,rfl⟩⟩
   ·rcases hb with ⟨x,hx,rfl⟩|⟨e,_⟩
    ·exact hi.all x hx
    ·exact absurd e hz
 have hnew:∀ j:Nat,S.length≤j→j < (S++R).length→(j:Int)∈z199 (z145 s st0) N i:=fun j a b=>by
  have:=hi.new j a b
  unfold z199
  split
  ·exact List.mem_append_left _ this
  ·exact this
 have hpar:∀ j:Nat,1≤j→j < (S++R).length→∃ k,k < i+1∧(j:Int)∈(G++[z199 (z145 s st0) N i]).getD k []:=fun j a b=>by
  by_cases hj:j < S.length
  ·obtain ⟨k,hk,e⟩:=h.par j a hj
   exact ⟨k,by omega,by rw [z214 (by omega)];exact e⟩
  ·exact ⟨i,by omega,by rw [← hgl,z300,hgl];exact hnew j (by omega) b⟩
 refine ⟨hi.snd,z353 h.i0,by simp [hgl],by simp;omega,hl,fun t ht=>?_,fun k hk a ha=>?_,hpar,fun c hc n hn j a b=>?_⟩
 ·rcases List.mem_append.1 ht with ht|ht
  ·exact h.rch t ht
  ·obtain ⟨x,hx,rfl⟩:=hR t ht
   exact .next (h.rch st0 (List.mem_of_getElem? hst)) (.inl ⟨x,hx,rfl⟩)
 ·by_cases hki:k < i
  ·have ha' : S[k]?=some a:=by rw [← ha,y72 (by omega)]
   rw [z214 (by omega)]
   exact (h.row k hki a ha').app
  ·have e:k=i:=by omega
   subst e
   have ha' : S[k]?=some a:=by rw [← ha,y72 (by omega)]
   rw [hst] at ha'
   simp only [Option.some.injEq] at ha'
   subst ha'
   rw [show (G++[z199 (z145 s st0) N k]).getD k []=z199 (z145 s st0) N k by rw [← hgl,z300,hgl]]
   exact hrow
 ·by_cases hci:c < i
  ·rw [z214 (by omega)] at hn
   obtain ⟨k,hk,e⟩:=h.ord c hci n hn j a b
   exact ⟨k,hk,by rw [z214 (by omega)];exact e⟩
  ·have e:c=i:=by omega
   subst e
   rw [show (G++[z199 (z145 s st0) N c]).getD c []=z199 (z145 s st0) N c by rw [← hgl,z300,hgl]] at hn
   obtain ⟨p,t,q,_⟩:=hrow.sin n hn
   have:=(List.getElem?_eq_some_iff.1 q).1
   obtain ⟨k,hk,e⟩:=hpar j a (by omega)
   exact ⟨k,by omega,e⟩
theorem grow_F {s : Sys} {st1 : State} : ∀ (f : Nat) (S : List State) (G : List (List Int)) (i : Nat), GF s st1 S G i → 61 ≤ f + i → match grow s f S G i with
  |some g=>GF s st1 g.st g.nx g.st.length
  |none=>∃ T:List State,T.Nodup∧61≤T.length∧∀ t∈T,Rch s st1 t:=by
 intro f
 induction f with
 |zero=>intro S G i h hf;have:=h.le;have:=h.n60;omega
 |succ f ih =>
  intro S G i h hf
  simp only [grow]
  cases hst:S[i]? with
  |none =>
   have:S.length≤i:=List.getElem?_eq_none_iff.1 hst
   have e:i=S.length:=by have:=h.le;omega
   subst e
   exact h
  |some st0 =>
   dsimp only
   have:=inn_F (s:=s) (st0:=st0) (n0:=S.length) (z145 s st0) [] S [] ⟨h.snd,by simp,by simp,by simp,fun j a b=>absurd b (by omega)⟩ h.n60
   rw [List.nil_append] at this
   split at this
   ·rename_i S' N' e
    rw [e]
    obtain ⟨a,R,rfl,c⟩:=this
    dsimp only
    have hl:(S++R).length≤60:=by
     have:=inn_len (L:=z145 s st0) (S:=S) (N:=[]) h.n60 e
     exact this
    exact ih _ _ _ (h.step hst a c hl) (by omega)
   ·rename_i e
    rw [e]
    obtain ⟨R,a,b,c⟩:=this
    refine ⟨S++R,a,b,fun t ht=>?_⟩
    rcases List.mem_append.1 ht with ht|ht
    ·exact h.rch t ht
    ·obtain ⟨x,hx,rfl⟩:=c t ht
     exact .next (h.rch st0 (List.mem_of_getElem? hst)) (.inl ⟨x,hx,rfl⟩)
end Go.Proofs.YtnfoijopccdjeaaGreat
namespace Go.Proofs.YtnfoijopccdjeaaGreat
open Go.Gl
attribute [local irreducible] z16 AWP z29 z32 z30
noncomputable def ini (s:Sys):State:=⟨List.replicate s.ps.length 0,s.init⟩
theorem ini_ok {s:Sys} (hs:s.ok):(ini s).ok s:=⟨by simp [ini],hs.init⟩
theorem Rch.ok {s:Sys} (hs:s.ok) {t:State} (h:Rch s (ini s) t):t.ok s:=by
 induction h with
 |base=>exact ini_ok hs
 |next _ hn ih=>exact Nx.ok hs ih hn
theorem build_F {s : Sys} (hs : sysB s = true) : match z137 s with
  |some g=>GF s (ini s) g.st g.nx g.st.length
  |none=>∃ T:List State,T.Nodup∧61≤T.length∧∀ t∈T,Rch s (ini s) t:=by
 unfold z137
 rw [if_pos hs]
 exact grow_F (s:=s) (st1:=ini s) 61 [ini s] [] 0 ⟨by simp,rfl,rfl,by simp,by simp,fun t ht=>by rw [List.mem_singleton.1 ht];exact .base,fun k hk=>absurd hk (by omega),fun j a b=>by simp at b;omega,fun c hc=>absurd hc (by omega)⟩ (by omega)
theorem z717 {s:Sys} {g:Graph} (h:z137 s=some g):sysB s=true∧GF s (ini s) g.st g.nx g.st.length:=by
 have hs:sysB s=true:=by
  unfold z137 at h
  split at h
  ·assumption
  ·cases h
 have:=build_F hs
 rw [h] at this
 exact ⟨hs,this⟩
theorem z981 {l:List Int} (h:ValsOk l):z276 l=true:=by
 unfold z276
 rw [y77,decide_eq_true_eq,Bool.not_eq_true',List.any_eq_false]
 exact ⟨by have:=h.1;omega,fun x hx=>by simpa [z119] using h.2 x hx⟩
theorem z903 {l:List Int} {n:Int} (h:l.Nodup) (hr:∀ x∈l,0≤x∧x < n):Distinct l n l.length:=by
 intro i hi _
 have:=hr l[i] (y51 _)
 refine ⟨⟨this.1,by omega⟩,fun hm=>?_⟩
 obtain ⟨j,hj,e⟩:=List.mem_take_iff_getElem.1 hm
 have:=(List.getElem_inj h).1 e
 omega
theorem GF.at' {s:Sys} {st1:State} {g:Graph} (h:GF s st1 g.st g.nx g.st.length) {i:Nat} (hi:i < g.st.length):RowF s g.st g.st[i] (g.nx.getD i []):=h.row i hi _ (y52 hi)
theorem build_GB {s:Sys} {g:Graph} (h:z137 s=some g):GB g:=by
 obtain ⟨hs,hF⟩:=z717 h
 have hn:=hF.n60
 have hg:=hF.gl
 have h0:=(List.getElem?_eq_some_iff.1 hF.i0).1
 refine ⟨⟨by omega,hn⟩,hg,fun i hi h1 h2=>?_⟩
 have hr:=hF.at' h2
 rw [z18 h1] at hr
 have hd:=z903 (n:=g.st.length) hr.nd fun x hx=>by
  obtain ⟨a,b,c,_⟩:=hr.sin x hx
  have:=(List.getElem?_eq_some_iff.1 c).1
  exact ⟨a,by omega⟩
 have hl:=hd.le (by omega)
 have h00:g.nx[i].length≠0:=fun h=>hr.ne (y80 h)
 exact ⟨by omega,by omega,z981 (Rch.ok (y15 hs) (hF.rch _ (y51 _))).b,hd⟩
def Run (s:Sys) (σ:Nat→State):Prop:=σ 0=ini s∧∀ k,Nx s (σ k) (σ (k+1))
theorem z754 {s:Sys} {g:Graph} (h:z137 s=some g) {σ:Nat→State} (hr:Run s σ):∃ π,GPath g π∧∀ k,g.st[(π k).toNat]?=some (σ k):=by
 obtain ⟨hs,hF⟩:=z717 h
 have hm:∀ k,∃ i:Nat,g.st[i]?=some (σ k):=fun k=>by
  induction k with
  |zero=>exact ⟨0,by rw [hr.1];exact hF.i0⟩
  |succ k ih =>
   obtain ⟨i,hi⟩:=ih
   have hil:=(List.getElem?_eq_some_iff.1 hi).1
   obtain ⟨n,_,_,e⟩:=(hF.row i hil _ hi).all _ (hr.2 k)
   exact ⟨n.toNat,e⟩
 have hz:∀ k,g.st[(z113 (σ k) g.st 0).toNat]?=some (σ k):=fun k=>by
  obtain ⟨i,hi⟩:=hm k
  rw [z558 hF.snd hi];simpa using hi
 refine ⟨fun k=>z113 (σ k) g.st 0,⟨?_,fun k=>?_⟩,hz⟩
 ·show z113 (σ 0) g.st 0=0
  rw [hr.1,z558 hF.snd hF.i0];rfl
 ·have hil:=(List.getElem?_eq_some_iff.1 (hz k)).1
  obtain ⟨n,hn,n0,e⟩:=(hF.row _ hil _ (hz k)).all _ (hr.2 k)
  show z113 (σ (k+1)) g.st 0∈g.nx.getD (z113 (σ k) g.st 0).toNat []
  rw [z558 hF.snd e,Int.toNat_of_nonneg n0]
  exact hn
end Go.Proofs.YtnfoijopccdjeaaGreat
namespace Go.Proofs.YtnfoijopccdjeaaGreat
open Go.Gl
attribute [local irreducible] z16 AWP z29 z32 z30 RetS z36
theorem z703 (g:Graph) (hg:g.mx) (l:List Tree) (hl:Lmx l) (f:Tree) (hf:f.mx):CallsA Tryz.prog 11 [.agg g.cs,lst 3 Tree.cs' l,z20 Tree.cs' f] [] (.tup [.int (vdI g l f),.agg (vdT g l f).cs]) []:=(by refine y5 (z598 g hg l hl f hf) [] [0,1] rfl rfl rfl ?_ ?_<;>(repeat' first|exact y93 _|((apply z66 rfl rfl rfl);(focus ((repeat ((exact z53 (fun _=>rfl) _)));done));(focus (((simp;done));done)))|apply z64|apply z72|constructor))
end Go.Proofs.YtnfoijopccdjeaaGreat
namespace Go.Proofs.YtnfoijopccdjeaaGreat
open Go.Gl
attribute [local irreducible] z16 AWP z29 z32 z30
end Go.Proofs.YtnfoijopccdjeaaGreat
namespace Go.Proofs.YtnfoijopccdjeaaGreat
open Go.Gl
attribute [local irreducible] z16 AWP z29 z32 z30 RetS z36
theorem vdT_none {g:Graph} {l:List Tree} {f:Tree} (h:vdI g l f≠1):vdT g l f=⟨[],[]⟩:=by
 unfold vdI at h
 unfold vdT
 split
 ·rename_i h1
  rw [if_pos h1] at h
  split
  ·rename_i h2
   rw [if_pos h2] at h
   refine z705 ?_
   by_cases h5:(ftO g l (ngA f)).isSome=true
   ·rw [if_pos h5] at h;exact absurd rfl h
   ·exact (y78 _).mp h5
  ·rfl
 ·rfl
theorem vdT_in {g:Graph} {l:List Tree} {f:Tree} : ∀ x∈(vdT g l f).all,0≤x∧x < g.st.length:=fun x hx=>by
 by_cases h:vdI g l f=1
 ·have ht:=vd_trace h
  unfold trB at ht
  simp only [y77] at ht
  obtain ⟨i,hi,rfl⟩:=List.mem_iff_getElem.1 hx
  exact z1132 ht.2.1 i hi
 ·rw [vdT_none h] at hx;cases hx
noncomputable def csO (s:Sys) (l:List Tree) (f:Tree):Option Graph:=if (sysB s && (z118 l && f.fmB))=true then z137 s else none
noncomputable def csV (s:Sys) (l:List Tree) (f:Tree):Int:=if (sysB s && (z118 l && f.fmB))=true then (match z137 s with|none=>2|some g=>vdI g l f) else 3
noncomputable def csA (s:Sys) (l:List Tree) (f:Tree):List State:=match csO s l f with|none=>[]|some g=>stsL g (vdT g l f).stem
noncomputable def csB (s:Sys) (l:List Tree) (f:Tree):List State:=match csO s l f with|none=>[]|some g=>stsL g (vdT g l f).loop
theorem z716 {s:Sys} {g:Graph} (h:z137 s=some g):(∀ t∈g.st,t.sm)∧g.st.length≤60∧g.nx.length≤60∧g.sm:=by
 obtain ⟨hsB,hF⟩:=z717 h
 have hs:=y15 hsB
 have h1:=hF.n60
 have h2:=hF.gl
 have h3:∀ t∈g.st,t.sm:=fun t ht=>(Rch.ok hs (hF.rch t ht)).sm hs
 exact ⟨h3,h1,by omega,⟨by omega,by omega,h3,fun r hr=>by
  obtain ⟨i,hi,rfl⟩:=List.mem_iff_getElem.1 hr
  have:=(GB.row (build_GB h) i hi).2.1
  omega⟩⟩
theorem z886 (g : Graph) (hg : g.sm) (p : List Int) (hp : p.length ≤ 100000) (hin : ∀ x ∈ p, 0 ≤ x ∧ x < g.st.length) : CallsA Tryz.prog 50 [.agg g.cs, ints p] [] (.sref 0 0 (stsL g p).length) [.cells 2 ((stsL g p).map State.cs)] := z783 g hg p hp hin (stsL g p) (z472 g p) (fun i h h2 => by
  have hx:=hin _ (y51 h)
  simp only [stsL,List.getElem_map]
  rw [z18 (show (p[i]).toNat < g.st.length by omega),y52])
theorem z545 (g:Graph) (hg:g.sm) (p:List Int) (hp:p.length≤100000) (hin:∀ x∈p,0≤x∧x < g.st.length):CallsA Tryz.prog 50 [.agg g.cs,ints p] [] (lst 2 State.cs (stsL g p)) []:=(by refine y5 (z886 g hg p hp hin) [] [0] rfl rfl rfl ?_ ?_<;>(repeat' first|exact y93 _|((apply z66 rfl rfl rfl);(focus ((repeat ((exact z53 (fun _=>rfl) _)));done));(focus (((simp;done));done)))|constructor))
set_option maxHeartbeats 3200000 in
theorem z669 (s:Sys) (hs:s.s1) (l:List Tree) (hl:Lmx l) (f:Tree) (hf:f.mx):CallsA Tryz.prog 9 [.agg s.cs,lst 3 Tree.cs' l,z20 Tree.cs' f] [] (.tup [.int (csV s l f),lst 2 State.cs (csA s l f),lst 2 State.cs (csB s l f)]) []:=by
 have c1:=z338 s hs
 have c2:=z152 l hl.1 hl.2
 have c3:=z100 f hf
 cases hv:(sysB s && (z118 l && f.fmB)) with
 |false =>
  have e1:csV s l f=3:=by unfold csV;rw [hv];rfl
  have e0:csO s l f=none:=by unfold csO;rw [hv];rfl
  have e2:csA s l f=[]:=by unfold csA;rw [e0]
  have e3:csB s l f=[]:=by unfold csB;rw [e0]
  rw [e1,e2,e3]
  rw [y17 f] at *
  generalize sysB s=b1 at *
  generalize z118 l=b2 at *
  generalize f.fmB=b3 at *
  refine z6 z9 Tryz.func9 rfl rfl 53 Tryz.ntmps9 (by simp) ?_
  cases b1<;>cases b2<;>cases b3
  all_goals first|(exfalso;revert hv;decide)|skip
  all_goals
   repeat' ((first|(apply y4 ok;rfl)|(apply z0 (c1);rfl;rfl)|(apply z0 (c2);rfl;rfl)|(apply z0 (c3);rfl;rfl))<;>conv=>whnf)
   all_goals (refine rsD [] [2,3] rfl ?_;(repeat' first|exact y93 _|constructor))
 |true =>
  obtain ⟨hsB,h2⟩:=Bool.and_eq_true_iff.1 hv
  obtain ⟨hLB,hfB⟩:=Bool.and_eq_true_iff.1 h2
  rw [hsB] at c1
  rw [hLB] at c2
  rw [hfB] at c3
  have c4:=z718 s hs
  cases hb:z137 s with
  |none =>
   have e1:csV s l f=2:=by unfold csV;rw [hv,hb];rfl
   have e0:csO s l f=none:=by unfold csO;rw [hv,hb];rfl
   have e2:csA s l f=[]:=by unfold csA;rw [e0]
   have e3:csB s l f=[]:=by unfold csB;rw [e0]
   rw [hb] at c4
   rw [e1,e2,e3]
   rw [y17 f] at *
   generalize (none:Option Graph).getD ⟨[],[]⟩=g0 at *
   refine z6 z9 Tryz.func9 rfl rfl 53 Tryz.ntmps9 (by simp) ?_
   repeat' ((first|(apply y4 ok;rfl)|(apply z0 (c1);rfl;rfl)|(apply z0 (c2);rfl;rfl)|(apply z0 (c3);rfl;rfl)|(apply z0 (c4);rfl;rfl))<;>conv=>whnf)
   all_goals (refine rsD [] [3,4] rfl ?_;(repeat' first|exact y93 _|constructor))
  |some g =>
   have e1:csV s l f=vdI g l f:=by unfold csV;rw [hv,hb];rfl
   have e0:csO s l f=some g:=by unfold csO;rw [hv,hb];rfl
   have e2:csA s l f=stsL g (vdT g l f).stem:=by unfold csA;rw [e0]
   have e3:csB s l f=stsL g (vdT g l f).loop:=by unfold csB;rw [e0]
   rw [hb] at c4
   rw [e1,e2,e3]
   obtain ⟨q1,q2,q3,q4⟩:=z716 hb
   have hin:=vdT_in (g:=g) (l:=l) (f:=f)
   obtain ⟨z1,z2⟩:=z1075 (g:=g) (l:=l) (f:=f)
   have c5:=z671 g q4.mx l hl f hf
   have c6:=z545 g q4 (vdT g l f).stem (by omega) (fun x hx=>hin x (by unfold Trace.all;simp [hx]))
   have c7:=z545 g q4 (vdT g l f).loop (by omega) (fun x hx=>hin x (by unfold Trace.all;simp [hx]))
   rw [show (some g).getD ⟨[],[]⟩=g from rfl,show (some g).isSome=true from rfl] at c4
   generalize stsL g (vdT g l f).stem=A at *
   generalize stsL g (vdT g l f).loop=B at *
   generalize vdT g l f=t at *
   generalize vdI g l f=v at *
   rw [y17 f] at *
   refine z6 z9 Tryz.func9 rfl rfl 53 Tryz.ntmps9 (by simp) ?_
   repeat' ((first|(apply y4 ok;rfl)|(apply z17;kernel_rfl)|(apply z0 (c1);rfl;rfl)|(apply z0 (c2);rfl;rfl)|(apply z0 (c3);rfl;rfl)|(apply z0 (c4);rfl;rfl)|(apply z0 (c5);rfl;rfl)|(apply z0 (c6);rfl;rfl)|(apply z0 (c7);rfl;rfl))<;>conv=>whnf)
   all_goals (refine rsD [] [] rfl ?_;(repeat' first|exact y93 _|constructor))
end Go.Proofs.YtnfoijopccdjeaaGreat
namespace Go.Proofs.YtnfoijopccdjeaaGreat
open Go.Gl
attribute [local irreducible] z16 AWP z29 z32 z30
def mkG (k:Int) (l:List State) (i:Nat):State:=⟨z389 (k+((l.take i).map State.sz).sum) (l.getD i ⟨[],[]⟩).a.length,z389 (k+((l.take i).map State.sz).sum+(l.getD i ⟨[],[]⟩).a.length) (l.getD i ⟨[],[]⟩).b.length⟩
def mkS (k:Int) (l:List State):List State:=(List.range l.length).map (mkG k l)
theorem z536 (k:Int) (l:List State):(mkS k l).length=l.length:=by simp [mkS]
theorem mkG_at {k:Int} {l:List State} {i:Nat} (h:i < l.length):mkG k l i=⟨z389 (k+((l.take i).map State.sz).sum) l[i].a.length,z389 (k+((l.take i).map State.sz).sum+l[i].a.length) l[i].b.length⟩:=by
 unfold mkG;rw [z18 h]
theorem z448 (l:List State) (k:Int) (hl:l.length≤1048576) (hm:∀ s∈l,s.small) (h0:0≤k) (h1:k+(l.map State.sz).sum≤1000000000000):CallsA Tryz.prog 26 [.sref 0 0 l.length,.int k] [.cells 2 (l.map State.co)] (.int (k+(l.map State.sz).sum)) [.cells 2 ((mkS k l).map State.co)]:=by
 refine z7 z9 Tryz.func26 rfl rfl 27 Tryz.ntmps26 (by simp) ?_
 repeat' ((apply y4 ok;rfl;conv=>whnf))
 refine z85 (fun i:Nat=>([(0,.sref 0 0 l.length),(1,.int (k+((l.take i).map State.sz).sum)),(5,.int i)],[.cells 2 (mixL (fun j=>State.co (mkG k l j)) (l.map State.co) i)])) (fun i=>i≤l.length) (fun i=>l.length - i) 0 (by omega) ⟨[0],rfl,by decide,rfl,⟨⟨rfl,rfl⟩,⟨rfl,z139 (by simp)⟩,⟨rfl,rfl⟩,trivial⟩,⟨z25 (z39 (z238 _ _).symm) (z112 (fun _=>rfl) (fun _=>rfl)),trivial⟩⟩ ?_
 intro i hi
 by_cases hil:i < l.length
 ·have e:=z172 State.sz l i hil
  have e2:=z87 State.sz l (i+1)
  have hs:=hm l[i] (y51 _)
  have hz:State.sz l[i]=l[i].a.length+l[i].b.length:=rfl
  have hgi:=mkG_at (k:=k) hil
  have hin:((i:Int)).toNat=i:=y83 i
  have hm2:i < (mixL (fun j=>State.co (mkG k l j)) (l.map State.co) i).length:=by rw [z387 (by simpa using hi)];simpa using hil
  have hg:(mixL (fun j=>State.co (mkG k l j)) (l.map State.co) i)[i]?=some (State.co l[i]):=z319 hil
  have hset:(mixL (fun j=>State.co (mkG k l j)) (l.map State.co) i).set i (State.co (mkG k l i))=mixL (fun j=>State.co (mkG k l j)) (l.map State.co) (i+1):=z318 (by simpa using hil) rfl rfl
  rw [hgi] at hset
  generalize mixL (fun j=>State.co (mkG k l j)) (l.map State.co) i=F at *
  generalize l[i]=d at *
  generalize ((l.take i).map State.sz).sum=a at *
  have c1:=z350 d.a (k+a) hs.1 (by omega) (by omega)
  have c2:=z350 d.b (k+a+d.a.length) hs.2 (by omega) (by omega)
  repeat' (first|((fail_if_success apply z65 4);(fail_if_success apply z50 4);apply y4 ok;rfl;conv=>whnf)|(apply z5<;>intro _<;>conv=>whnf))
  ·refine y92 (Gl.Reach.exposeD (e:=State.co d) 0 i 0 rfl hg rfl rfl) ?_
   conv=>whnf
   refine y92 (Gl.Reach.exposeD (e:=[.sref 1 0 (d.a.map enI).length,.own 1 (d.b.map enI)]) 0 i 1 rfl (z148 rfl hm2) rfl rfl) ?_
   conv=>whnf
   rw [y56,y56]
   repeat' (first|((fail_if_success apply z65 3);(fail_if_success apply z50 3);apply y4 ok;rfl;conv=>whnf)|(apply z225;exact hin;((try simp only [y88]);exact hm2);conv=>whnf)|(apply y50;(omega);conv=>whnf)|(apply z35 [1] [] [] (c1);rfl;(focus ((repeat' (first|exact z14|apply z27))<;>((refine z41 rfl ?_;((exact z4 (fun _=>rfl)))))));rfl;rfl;rfl;rfl;rfl;(focus ((repeat' (first|exact z12|apply z15))<;>((refine z22 ?_;((exact z4 (fun _=>rfl)))))));(exact .inl rfl);conv=>whnf)|(apply z35 [2] [] [] (c2);rfl;(focus ((repeat' (first|exact z14|apply z27))<;>((refine z41 rfl ?_;((exact z4 (fun _=>rfl)))))));rfl;rfl;rfl;rfl;rfl;(focus ((repeat' (first|exact z12|apply z15))<;>((refine z22 ?_;((exact z4 (fun _=>rfl)))))));(exact .inl rfl);conv=>whnf))
   refine y92 (Gl.Reach.absorb 0 1 i 0 rfl (z148 rfl (by (try simp only [y88]);exact hm2)) rfl rfl (by rw [y56,z538]) rfl (z4 fun _=>rfl) rfl) ?_
   conv=>whnf
   refine y92 (Gl.Reach.absorb 0 2 i 1 rfl (z148 rfl (by (try simp only [y88]);exact hm2)) rfl rfl (by rw [y56,z538]) rfl (z4 fun _=>rfl) rfl) ?_
   conv=>whnf
   repeat' (first|(apply y4 ok;rfl;conv=>whnf)|(apply y50;((unfold inI;omega));conv=>whnf))
   exact z78 (i+1) [0] (by omega) (by omega) ⟨rfl,by decide,rfl,⟨⟨rfl,rfl⟩,⟨rfl,z139 (by omega)⟩,⟨rfl,rfl⟩,trivial⟩,⟨z25 (z39 (by simp only [List.set_set];exact hset)) (z112 (fun _=>rfl) (fun _=>rfl)),trivial⟩⟩
  ·omega
 ·repeat' (first|(apply y4 ok;rfl;conv=>whnf)|(apply y50;(omega);conv=>whnf)|(apply z5<;>intro _<;>conv=>whnf))
  ·omega
  ·obtain rfl:i=l.length:=by omega
   rw [y62]
   exact z70 [0] (by decide) rfl rfl rfl ⟨z25 (z39 (by rw [z320 (by simp)];unfold mkS;rw [List.map_map];rfl)) (z4 fun _=>rfl),trivial⟩
theorem z393 (l:List State) (k:Int) (hl:l.length≤1048576) (hm:∀ s∈l,s.small) (h0:0≤k) (h1:k+(l.map State.sz).sum≤1000000000000):CallsA Tryz.prog 27 [lst 2 State.cs (mkS k l),.int k] [] (.int (k+(l.map State.sz).sum)) []:=by
 have hL:=z536 k l
 refine z7 z9 Tryz.func27 rfl rfl 31 Tryz.ntmps27 (by simp) ?_
 repeat' ((apply y4 ok;rfl;conv=>whnf))
 refine z85 (fun i:Nat=>([(0,lst 2 State.cs (mkS k l)),(1,.int (k+((l.take i).map State.sz).sum)),(5,.int i)],[])) (fun i=>i≤l.length) (fun i=>l.length - i) 0 (by omega) ⟨[],rfl,by decide,rfl,⟨⟨rfl,rfl⟩,⟨rfl,z139 (by simp)⟩,⟨rfl,rfl⟩,trivial⟩,trivial⟩ ?_
 intro i hi
 by_cases hil:i < l.length
 ·have e:=z172 State.sz l i hil
  have e2:=z87 State.sz l (i+1)
  have hs:=hm l[i] (y51 _)
  have hz:State.sz l[i]=l[i].a.length+l[i].b.length:=rfl
  have g0:((mkS k l).map State.cs)[i]?=some (State.cs (mkG k l i)):=by
   unfold mkS
   rw [y58,y58,List.getElem?_range hil];rfl
  rw [mkG_at hil] at g0
  generalize l[i]=d at *
  generalize ((l.take i).map State.sz).sum=a at *
  have c1:=z556 d.a.length (k+a) hs.1 (by omega) (by omega)
  have c2:=z556 d.b.length (k+a+d.a.length) hs.2 (by omega) (by omega)
  repeat' (first|(apply y4 ok;rfl;conv=>whnf)|(refine z13 (i:=i) rfl g0 ?_;conv=>whnf)|(apply y50;(first|omega|(unfold inI;omega));conv=>whnf)|(apply z5<;>intro _<;>conv=>whnf)|(apply z0 (c1);rfl;rfl;conv=>whnf)|(apply z0 (c2);rfl;rfl;conv=>whnf))
  all_goals first|(exfalso;omega)|exact z78 (i+1) [] hil (by omega) ⟨rfl,by decide,rfl,⟨⟨rfl,rfl⟩,⟨rfl,z139 (by omega)⟩,⟨rfl,rfl⟩,trivial⟩,trivial⟩
 ·repeat' (first|(apply y4 ok;rfl;conv=>whnf)|(apply y50;(omega);conv=>whnf)|(with_reducible apply z8;omega;intro _;conv=>whnf)|(apply z5<;>intro _<;>conv=>whnf))
  all_goals try (exfalso;omega)
  obtain rfl:i=l.length:=by omega
  rw [y62]
  exact z42 rfl rfl rfl
theorem z803 {l:List State} (hl:l.length≤1048576) (hm:∀ s∈l,s.small):CallsA Tryz.prog 19 [lst 2 State.cs l,lst 2 State.cs l] [] (.bool true) []:=by
 have h:State.mxs l:=⟨by unfold maxLen;omega,fun s hs=>by
  have:=hm s hs
  exact ⟨by have:=this.1;unfold maxLen;omega,by have:=this.2;unfold maxLen;omega⟩⟩
 have:=z899 l l h h
 rwa [y89 rfl] at this
end Go.Proofs.YtnfoijopccdjeaaGreat
namespace Go.Proofs.YtnfoijopccdjeaaGreat
open Go.Gl
attribute [local irreducible] z16 AWP z29 z32 z30 RetS z36
structure Edge.bg (e:Edge):Prop where
 gd:e.gd.sz≤1048576
 val:e.val.sz≤1048576
structure Proc.bg (p:Proc):Prop where
 len:p.es.length≤1048576
 el:∀ e∈p.es,e.bg
structure Sys.bg (s:Sys):Prop where
 init:s.init.length≤1048576
 len:s.ps.length≤1048576
 el:∀ p∈s.ps,p.bg
theorem Tree.shape_cnt:(∀ (t:Tree) (d:Int),t.shape d=true→t.count d=1+(t.sz:Int))∧∀ (l:List Tree) (d:Int),Tree.shapes l d=true→Tree.counts l d=(l.length+(l.map Tree.sz).sum:Nat):=by
 refine y36 (p:=fun t=>∀ d:Int,t.shape d=true→t.count d=1+(t.sz:Int)) (q:=fun l=>∀ d:Int,Tree.shapes l d=true→Tree.counts l d=(l.length+(l.map Tree.sz).sum:Nat)) ?_ ?_ ?_
 ·intro k v l ih d h
  simp only [Tree.shape,y77,decide_eq_true_eq] at h
  rw [y44]
  simp only [Tree.count,Tree.kids]
  rw [if_pos (by omega),ih _ h.2]
 ·intro d _;simp [Tree.counts]
 ·intro t r h1 h2 d h
  simp only [Tree.shapes,y77] at h
  simp only [Tree.counts,List.map_cons,List.sum_cons,y64]
  rw [h1 d h.1,h2 d h.2]
  omega
theorem y25 {t:Tree} (h:t.exprB=true):t.sz≤1000:=by
 rw [y24,y77,decide_eq_true_eq] at h
 have:=Tree.shape_cnt.1 t 6 h.1
 omega
theorem Sys.s1_of {s:Sys} (h:sysB s=true) (hi:s.init.length≤20):s.s1:=by
 unfold sysB at h
 rw [y77,y77,decide_eq_true_iff,y85] at h
 obtain ⟨h1,h2,h3⟩:=h
 refine ⟨hi,by omega,fun p hp=>?_⟩
 have:=h1 p hp
 unfold z182 at this
 rw [y77,decide_eq_true_iff,y85] at this
 obtain ⟨a,b,c,d⟩:=this
 refine ⟨by omega,fun e he=>?_⟩
 have he:=a e he
 unfold z159 at he
 simp only [y77,decide_eq_true_iff] at he
 obtain ⟨a1,a2,a3,a4⟩:=he
 refine ⟨y25 a2,?_⟩
 by_cases hv:e.var < 0
 ·rw [if_pos hv] at a4
  unfold z464 at a4
  rw [decide_eq_true_iff] at a4
  rw [y44,List.length_eq_zero_iff.1 a4.2.2]
  simp
 ·rw [if_neg hv] at a4
  exact y25 a4
set_option maxHeartbeats 1600000 in
theorem z809 (e:Edge) (he:e.bg) (n:Int):CallsA Tryz.prog 168 [.agg e.cs,.int n] [] (.bool (z159 e n)) []:=by
 have h1:=he.gd
 have h2:=he.val
 have c1:=z111 e.gd (z88 _ (by unfold maxLen;omega))
 have c2:=z111 e.val (z88 _ (by unfold maxLen;omega))
 have c3:=z787 e.val
 rw [y17] at c1 c2 c3
 unfold z159
 generalize e.gd.exprB=b1 at *
 generalize e.val.exprB=b2 at *
 generalize z464 e.val=b3 at *
 by_cases ha:0≤e.fr∧e.fr < n∧0≤e.to∧e.to < n∧n≤4
 ·rw [y89 ha]
  by_cases hb : -2≤e.sync∧e.sync≤2∧-1≤e.var∧e.var < 3
  ·rw [y89 hb]
   by_cases hv:e.var < 0
   ·rw [if_pos hv]
    refine z7 z9 Tryz.func168 rfl rfl 71 Tryz.ntmps168 (by simp) ?_
    cases b1<;>cases b3
    all_goals
     repeat' ((first|(apply y4 ok;rfl)|((apply z5)<;>intro _)|(apply z0 (c1);rfl;rfl)|(apply z0 (c3);rfl;rfl))<;>conv=>whnf)
     all_goals first|(exfalso;omega)|exact z21 rfl rfl
   ·rw [if_neg hv]
    refine z7 z9 Tryz.func168 rfl rfl 71 Tryz.ntmps168 (by simp) ?_
    cases b1<;>cases b2
    all_goals
     repeat' ((first|(apply y4 ok;rfl)|((apply z5)<;>intro _)|(apply z0 (c1);rfl;rfl)|(apply z0 (c2);rfl;rfl))<;>conv=>whnf)
     all_goals first|(exfalso;omega)|exact z21 rfl rfl
  ·rw [y90 hb]
   refine z7 z9 Tryz.func168 rfl rfl 71 Tryz.ntmps168 (by simp) ?_
   cases b1
   all_goals
    repeat' ((first|(apply y4 ok;rfl)|((apply z5)<;>intro _)|(apply z0 (c1);rfl;rfl))<;>conv=>whnf)
    all_goals first|(exfalso;omega)|exact z21 rfl rfl
 ·rw [y90 ha]
  refine z7 z9 Tryz.func168 rfl rfl 71 Tryz.ntmps168 (by simp) ?_
  repeat' ((first|(apply y4 ok;rfl)|((first|apply z5|apply z96)<;>intro _)|(apply z0 (c1);rfl;rfl))<;>conv=>whnf)
  all_goals first|(exfalso;omega)|exact z21 rfl rfl
theorem z786 (p:Proc) (hp:p.bg):CallsA Tryz.prog 114 [.agg p.cs] [] (.bool (z182 p)) []:=by
 have hl:=hp.len
 unfold z182
 refine z7 z9 Tryz.func114 rfl rfl 34 Tryz.ntmps114 (by simp) ?_
 repeat' (((apply y4 ok;rfl))<;>conv=>whnf)
 refine z85 (fun k:Nat=>([(1,.ptr 0 none 0),(3,.int k)],[.cells 2 [p.cs]])) (fun k=>k≤p.es.length∧p.es.all (fun e=>z159 e p.loc)=(p.es.drop k).all (fun e=>z159 e p.loc)) (fun k=>p.es.length - k) 0 ⟨by omega,rfl⟩ ⟨[0],rfl,by decide,rfl,by repeat' (first|exact True.intro|exact ⟨rfl,rfl⟩|apply y50),by repeat' (first|exact True.intro|exact z24 rfl rfl|apply y50)⟩ ?_
 intro k hk
 by_cases hkl:k < p.es.length
 ·have ce:=z809 p.es[k] (hp.el _ (y51 _)) p.loc
  have e:=z123 (fun e=>z159 e p.loc) p.es k hkl
  rw [e] at hk
  have g0:(p.es.map Edge.cs)[k]?=some (Edge.cs p.es[k]):=by rw [y58,y52 hkl];rfl
  generalize z159 p.es[k] p.loc=b at *
  cases b
  all_goals
   repeat' ((first|(apply y4 ok;rfl)|(apply z17;kernel_rfl)|(refine z13 (i:=k) rfl g0 ?_)|(apply y50;first|omega|(unfold inI;omega))|((apply z5)<;>intro _)|(apply z0 (ce);rfl;rfl))<;>conv=>whnf)
   all_goals try (exfalso;omega)
  ·exact z21 rfl (by rw [hk.2];rfl)
  ·exact z78 (k+1) [0] ⟨by omega,by rw [hk.2,Bool.true_and]⟩ (by omega) ⟨rfl,by decide,rfl,by repeat' (first|exact True.intro|exact ⟨rfl,rfl⟩|apply y50),by repeat' (first|exact True.intro|exact z24 rfl rfl|apply y50)⟩
 ·have e:=z99 (fun e=>z159 e p.loc) p.es k (by omega)
  rw [e] at hk
  repeat' ((first|(apply y4 ok;rfl)|(apply y50;omega)|(((with_reducible apply z8;omega));intro _)|((apply z5)<;>intro _))<;>conv=>whnf)
  all_goals first|(exfalso;omega)|(refine z21 rfl ?_;rw [hk.2];simp only [Bool.true_and,Bool.false_and];first|(rw [decide_eq_decide];omega)|(rw [decide_eq_false_iff_not];omega))
theorem z588 (s:Sys) (hs:s.bg):CallsA Tryz.prog 45 [.agg s.cs] [] (.bool (sysB s)) []:=by
 have hl:=hs.len
 have hi:=hs.init
 have cv:=z547 s.init (by unfold maxLen;omega)
 unfold sysB
 generalize z276 s.init=vb at *
 refine z7 z9 Tryz.func45 rfl rfl 33 Tryz.ntmps45 (by simp) ?_
 repeat' (((apply y4 ok;rfl))<;>conv=>whnf)
 refine z85 (fun k:Nat=>([(1,.ptr 0 none 0),(3,.int k)],[.cells 2 [s.cs]])) (fun k=>k≤s.ps.length∧s.ps.all z182=(s.ps.drop k).all z182) (fun k=>s.ps.length - k) 0 ⟨by omega,rfl⟩ ⟨[0],rfl,by decide,rfl,by repeat' (first|exact True.intro|exact ⟨rfl,rfl⟩|apply y50),by repeat' (first|exact True.intro|exact z24 rfl rfl|apply y50)⟩ ?_
 intro k hk
 by_cases hkl:k < s.ps.length
 ·have ce:=z786 s.ps[k] (hs.el _ (y51 _))
  have e:=z123 z182 s.ps k hkl
  rw [e] at hk
  have g0:(s.ps.map Proc.cs)[k]?=some (Proc.cs s.ps[k]):=by rw [y58,y52 hkl];rfl
  generalize z182 s.ps[k]=b at *
  cases b
  all_goals
   repeat' ((first|(apply y4 ok;rfl)|(refine z13 (i:=k) rfl g0 ?_)|(apply y50;first|omega|(unfold inI;omega))|((apply z5)<;>intro _)|(apply z0 (ce);rfl;rfl))<;>conv=>whnf)
   all_goals try (exfalso;omega)
  ·exact z21 rfl (by rw [hk.2];rfl)
  ·exact z78 (k+1) [0] ⟨by omega,by rw [hk.2,Bool.true_and]⟩ (by omega) ⟨rfl,by decide,rfl,by repeat' (first|exact True.intro|exact ⟨rfl,rfl⟩|apply y50),by repeat' (first|exact True.intro|exact z24 rfl rfl|apply y50)⟩
 ·have e:=z99 z182 s.ps k (by omega)
  rw [e] at hk
  cases vb
  all_goals
   repeat' ((first|(apply y4 ok;rfl)|(apply y50;omega)|(((with_reducible apply z8;omega));intro _)|((apply z5)<;>intro _)|(apply z0 (cv);rfl;rfl))<;>conv=>whnf)
   all_goals first|(exfalso;omega)|(refine z21 rfl ?_;rw [hk.2];simp only [Bool.true_and,Bool.false_and];first|done|(rw [decide_eq_decide];omega)|(rw [decide_eq_false_iff_not];omega))
theorem z1041 (l:List Tree) (hl:l.length≤1048576) (f:FuncId):CallsA Tryz.prog 214 [lst 3 Tree.cs' l,.nils,.fn (.func f) [] []] [] (.bool (decide (l.length=0))) []:=by
 by_cases h0:l.length=0
 ·rw [y89 h0]
  refine z6 z9 Tryz.func214 rfl (by kernel_rfl) 32 Tryz.ntmps214 (by simp) ?_
  repeat' ((first|(apply y4 ok;rfl)|((apply z28)<;>intro _))<;>conv=>whnf)
  all_goals try (exfalso;omega)
  refine z77 (fun i:Nat=>([(15,lst 3 Tree.cs' l),(16,.int l.length),(17,.int i)],[])) (fun i=>i≤l.length) (fun i=>l.length - i) 0 (by omega) (by refine swR [] [] rfl rfl ?_;(repeat' first|exact y93 _|constructor)) ?_
  intro i hi
  repeat' ((first|(apply y4 ok;rfl)|(apply y50;omega)|(((with_reducible apply z8;omega));intro _)|((apply z5)<;>intro _))<;>conv=>whnf)
  all_goals first|(exfalso;omega)|(refine rsD [] [] rfl ?_;(repeat' first|exact y93 _|constructor))
 ·rw [y90 h0]
  refine z6 z9 Tryz.func214 rfl (by kernel_rfl) 32 Tryz.ntmps214 (by simp) ?_
  repeat' ((first|(apply y4 ok;rfl)|((apply z28)<;>intro _))<;>conv=>whnf)
  all_goals first|(exfalso;omega)|(refine rsD [] [] rfl ?_;(repeat' first|exact y93 _|constructor))
theorem z896 (t:Tree) (h:t.sz≤1048576):CallsA Tryz.prog 156 [z20 Tree.cs' t,.agg [.int 0,.int 0,.nils]] [] (.bool (z464 t)) []:=by
 have hz:=y44 t
 have hk:=z1041 t.kids (by omega) 156
 rw [y17]
 have e:z464 t=(decide (t.kind=0) && (decide (t.val=0) && decide (t.kids.length=0))):=by
  unfold z464
  by_cases h1:t.kind=0<;>by_cases h2:t.val=0<;>by_cases h3:t.kids.length=0<;>simp [h1,h2,h3]
 rw [e]
 generalize decide (t.kids.length=0)=b at *
 refine z6 z9 Tryz.func156 rfl rfl 24 Tryz.ntmps156 (by simp) ?_
 repeat' ((first|(apply y4 ok;rfl)|((apply z5)<;>intro _)|(apply z0 (hk);rfl;rfl))<;>conv=>whnf)
 all_goals (refine rsD [] [] rfl ?_;(repeat' constructor))
 all_goals refine z268 ?_
 all_goals first|(rw [y89 (by omega),y89 (by omega)];rfl)|(rw [y90 (show ¬ t.kind=0 by omega)];rfl)|(rw [y90 (show ¬ t.val=0 by omega)];simp)
set_option maxHeartbeats 6400000 in
theorem z466 (e:Edge) (he:e.bg) (n:Int):CallsA Tryz.prog 100 [.agg e.cs,.int n] [] (.bool (z159 e n)) []:=by
 have h1:=he.gd
 have h2:=he.val
 have c0:=z223 n 1 4
 by_cases hn:1≤n∧n≤4
 ·rw [edgOk_eq hn.1 hn.2]
  have q0:btw n 1 4=true:=z119.2 hn
  rw [q0] at c0
  have c1:=z223 e.fr 0 (n - 1)
  have c2:=z223 e.to 0 (n - 1)
  have c3:=z302 e.gd (z88 _ (by unfold maxLen;omega))
  have c4:=z223 e.var (-1) 2
  have c5:=z302 e.val (z88 _ (by unfold maxLen;omega))
  have c6:=z896 e.val h2
  have c7:=z223 e.sync (-2) 2
  rw [y17] at c3 c5 c6
  generalize e.gd.exprB=b3 at *
  generalize e.val.exprB=b5 at *
  generalize z464 e.val=b6 at *
  generalize btw e.fr 0 (n - 1)=b1 at *
  generalize btw e.to 0 (n - 1)=b2 at *
  generalize btw e.var (-1) 2=b4 at *
  generalize btw e.sync (-2) 2=b7 at *
  by_cases hv:e.var < 0
  all_goals
   refine z6 z9 Tryz.func100 rfl rfl 57 Tryz.ntmps100 (by simp) ?_
   repeat' ((first|(apply y4 ok;rfl)|(apply y50;(unfold inI;omega))|((first|apply z5|apply z93)<;>intro _)|(apply z0 (c0);rfl;rfl)|(apply z0 (c1);rfl;rfl)|(apply z0 (c2);rfl;rfl)|(apply z0 (c3);rfl;rfl)|(apply z0 (c4);rfl;rfl)|(apply z0 (c5);rfl;rfl)|(apply z0 (c6);rfl;rfl)|(apply z0 (c7);rfl;rfl))<;>conv=>whnf)
   all_goals first|(exfalso;contradiction)|(exfalso;omega)|skip
   all_goals refine y14 [] [] rfl rfl rfl ?_
   all_goals refine y13 (z268 ?_) .nil
   all_goals simp [*]
 ·have e0:z159 e n=false:=by
   unfold z159
   rw [y90 (by omega),Bool.false_and]
  rw [e0]
  have q0:btw n 1 4=false:=z308.2 hn
  rw [q0] at c0
  refine z6 z9 Tryz.func100 rfl rfl 57 Tryz.ntmps100 (by simp) ?_
  repeat' ((first|(apply y4 ok;rfl)|(apply z0 (c0);rfl;rfl))<;>conv=>whnf)
  all_goals (refine rsD [] [] rfl ?_;(repeat' first|exact y93 _|constructor))
theorem z741 (p:Proc) (e:Edge) (he:e.bg):CallsA Tryz.prog 99 [z20 Edge.cs e,.pt p.cs] [] (.bool (!z159 e p.loc)) []:=by
 have c:=z466 e he p.loc
 unfold z20
 generalize z159 e p.loc=b at *
 refine z6 z9 Tryz.func99 rfl rfl 9 Tryz.ntmps99 (by simp) ?_
 repeat' ((first|(apply y4 ok;rfl)|(apply z0 (c);rfl;rfl))<;>conv=>whnf)
 all_goals (refine rsD [] [] rfl ?_;(repeat' first|exact y93 _|constructor))
theorem z552 (c:Proc) (l:List Edge) (hl:l.length≤maxLen) (p:Edge→Bool) (f:FuncId) (hf:∀ x∈l,CallsA Tryz.prog f [z20 Edge.cs x,.pt c.cs] [] (.bool (p x)) []):CallsA Tryz.prog 161 [lst 10 Edge.cs l,.fn (.func f) [] [.pt c.cs]] [] (.int (idxF p l)) []:=by
 unfold maxLen at hl
 refine z7 z9 Tryz.func161 rfl rfl 19 Tryz.ntmps161 (by simp) ?_
 repeat' (((apply y4 ok;rfl))<;>conv=>whnf)
 refine z85 (fun k:Nat=>([(0,lst 10 Edge.cs l),(1,.fn (.func f) [] [.pt c.cs]),(7,.int l.length),(8,.int k)],[])) (fun k=>k≤l.length∧∀ j (hj:j < l.length),j < k→p l[j]=false) (fun k=>l.length - k) 0 (by simp)
  ⟨[],rfl,by decide,rfl,⟨⟨rfl,rfl⟩,⟨rfl,rfl⟩,⟨rfl,rfl⟩,⟨rfl,rfl⟩,trivial⟩,trivial⟩ ?_
 intro k hk
 repeat' ((first|(apply y4 ok;rfl)|(apply y50;first|omega|(unfold inI;omega))|(((with_reducible apply z8;omega));intro _)|((first|apply z5|apply z93)<;>intro _)|(apply z0 (hf l[k] (y51 _));rfl;rfl))<;>conv=>whnf)
 ·rename_i h h1
  exact z42 rfl rfl (by rw [z140 (by omega) h1 hk.2];rfl)
 ·rename_i h h1
  refine z78 (k+1) [] ⟨by omega,fun j hj hjk=>?_⟩ (by omega) ⟨rfl,by decide,rfl,⟨⟨rfl,rfl⟩,⟨rfl,rfl⟩,⟨rfl,rfl⟩,⟨rfl,rfl⟩,trivial⟩,trivial⟩
  rcases y76 j k with h2|h2
  ·exact hk.2 j hj h2
  ·obtain rfl:j=k:=by omega
   exact h1
 ·exact z42 rfl rfl (by rw [z129 fun j hj=>hk.2 j hj (by omega)];rfl)
theorem z407 (c:Proc) (l:List Edge) (hl:l.length≤maxLen) (p:Edge→Bool) (f:FuncId) (hf:∀ x∈l,CallsA Tryz.prog f [z20 Edge.cs x,.pt c.cs] [] (.bool (p x)) []):CallsA Tryz.prog 98 [lst 10 Edge.cs l,.fn (.func f) [] [.pt c.cs]] [] (.bool (l.any p)) []:=by
 refine z7 z9 Tryz.func98 rfl rfl 9 Tryz.ntmps98 (by simp) ?_
 repeat' ((first|(apply y4 ok;rfl)|(apply z0 (z552 c l hl p f hf);rfl;rfl))<;>conv=>whnf)
 exact z21 rfl (by rw [← z191])
set_option maxHeartbeats 6400000 in
theorem z554 (s:Sys) (hs:s.bg):CallsA Tryz.prog 40 [.agg s.cs] [] (.bool (sysB s)) []:=by
 have hl:=hs.len
 have hi:=hs.init
 have cv:=z732 s.init (by unfold maxLen;omega)
 have cn:=z223 s.ps.length 1 3
 have e0:sysB s=(s.ps.all z182 && (z276 s.init && btw s.ps.length 1 3)):=by
  unfold sysB
  congr 2
  rw [Bool.eq_iff_iff,decide_eq_true_iff,z119];omega
 rw [e0]
 generalize z276 s.init=vb at *
 generalize btw s.ps.length 1 3=nb at *
 cases vb
 ·refine z6 z9 Tryz.func40 rfl rfl 40 Tryz.ntmps40 (by simp) ?_
  repeat' ((first|(apply y4 ok;rfl)|(apply z0 (cv);rfl;rfl))<;>conv=>whnf)
  all_goals (refine rsD [] [] rfl ?_;(repeat' constructor))
  all_goals exact z268 (by simp)
 cases nb
 ·refine z6 z9 Tryz.func40 rfl rfl 40 Tryz.ntmps40 (by simp) ?_
  repeat' ((first|(apply y4 ok;rfl)|(apply z0 (cv);rfl;rfl)|(apply z0 (cn);rfl;rfl))<;>conv=>whnf)
  all_goals (refine rsD [] [] rfl ?_;(repeat' constructor))
  all_goals exact z268 (by simp)
 rw [Bool.and_true,Bool.and_true]
 refine z6 z9 Tryz.func40 rfl rfl 40 Tryz.ntmps40 (by simp) ?_
 repeat' ((first|(apply y4 ok;rfl)|(apply z0 (cv);rfl;rfl)|(apply z0 (cn);rfl;rfl))<;>conv=>whnf)
 refine z77 (fun i:Nat=>([(1,.ptr 0 none 0),(17,lst 2 Proc.cs s.ps),(18,.int s.ps.length),(19,.int i)],[.cells 2 [s.cs]])) (fun i=>i≤s.ps.length∧s.ps.all z182=(s.ps.drop i).all z182) (fun i=>s.ps.length - i) 0 ⟨by omega,rfl⟩ (by refine swR [0] [] rfl rfl ?_;(repeat' first|exact y93 _|apply y94|constructor)) ?_
 intro i hi
 by_cases hil:i < s.ps.length
 ·have gp:(s.ps.map Proc.cs)[i]?=some (Proc.cs s.ps[i]):=by rw [y58,y52 hil];rfl
  have hp:=hs.el _ (y51 hil)
  have e:=z123 z182 s.ps i hil
  rw [e] at hi
  generalize s.ps[i]=p at *
  have hpl:=hp.len
  have c1:=z223 p.loc 1 4
  have c2:=z407 p p.es (by unfold maxLen;omega) (fun e=>!z159 e p.loc) 99 (fun e he=>z741 p e (hp.el e he))
  have e1:z182 p=(btw p.loc 1 4 && (decide (p.es.length≤6) && !(p.es.any fun e=>!z159 e p.loc))):=by
   unfold z182
   rw [List.all_eq_not_any_not,Bool.eq_iff_iff]
   generalize (p.es.any fun e=>!z159 e p.loc)=b
   simp only [y77,decide_eq_true_iff,z119]
   constructor
   ·rintro ⟨a,b⟩;exact ⟨by omega,by omega,a⟩
   ·rintro ⟨a,b,c⟩;exact ⟨c,by omega⟩
  rw [e1] at hi
  generalize (p.es.any fun e=>!z159 e p.loc)=b2 at *
  generalize btw p.loc 1 4=b1 at *
  by_cases h6:p.es.length≤6
  ·rw [y89 h6] at hi
   cases b1<;>cases b2
   all_goals
    repeat' ((first|(apply y4 ok;rfl)|(refine z13 (i:=i) rfl gp ?_)|(apply y50;first|omega|(unfold inI;omega))|((apply z5)<;>intro _)|(apply z491 [1] (c2);rfl;rfl;rfl;rfl)|(apply z0 (c1);rfl;rfl))<;>conv=>whnf)
    all_goals try (exfalso;omega)
   all_goals first
    |(refine z34 (i+1) ⟨by omega,by rw [hi.2];rfl⟩ (by omega) (by refine swR [0] [] rfl rfl ?_;(repeat' first|exact y93 _|apply y94|constructor)))
    |(refine rsL [] [] rfl ?_;refine y13 (z268 ?_) .nil;rw [hi.2];rfl)
  ·rw [y90 h6] at hi
   cases b1<;>cases b2
   all_goals
    repeat' ((first|(apply y4 ok;rfl)|(refine z13 (i:=i) rfl gp ?_)|(apply y50;omega)|((apply z5)<;>intro _)|(apply z491 [1] (c2);rfl;rfl;rfl;rfl)|(apply z0 (c1);rfl;rfl))<;>conv=>whnf)
    all_goals try (exfalso;omega)
   all_goals (refine rsL [] [] rfl ?_;refine y13 (z268 ?_) .nil;rw [hi.2];rfl)
 ·have e:=z99 z182 s.ps i (by omega)
  rw [e] at hi
  repeat' ((first|(apply y4 ok;rfl)|(apply y50;omega)|(((with_reducible apply z8;omega));intro _)|((apply z5)<;>intro _))<;>conv=>whnf)
  all_goals first|(exfalso;contradiction)|skip
  all_goals (refine rsL [] [] rfl ?_;refine y13 (z268 ?_) .nil;rw [hi.2])
set_option maxHeartbeats 3200000 in
theorem z273 (g:Graph) (hg:∀ s∈g.st,s.sm) (hn:g.st.length≤1000) (p:List Int) (hp:∀ x∈p,0≤x∧x < g.st.length) (hl:p.length≤100000):CallsA Tryz.prog 44 [.agg g.cs,ints p] [] (.sref 0 0 (stsL g p).length) [.cells 2 ((stsL g p).map State.co)]:=by
 have hL:=z472 g p
 refine z7 z9 Tryz.func44 rfl rfl 29 Tryz.ntmps44 (by simp) ?_
 repeat' ((first|(apply y4 ok;rfl)|(apply y50;(dsimp only;omega)))<;>conv=>whnf)
 refine z85 (fun i:Nat=>([(2,.ptr 0 none 0),(5,.sref 1 0 p.length),(11,ints p),(12,.int p.length),(13,.int i)],[.cells 2 [g.cs],.cells 2 (((stsL g p).take i).map State.co++List.replicate (p.length - i) [AC.nils,AC.nils])])) (fun i=>i≤p.length) (fun i=>p.length - i) 0 (y60 _) ⟨[0,1],rfl,by decide,rfl,by repeat' (first|exact True.intro|exact ⟨rfl,rfl⟩|apply y50),by repeat' (first|exact True.intro|exact z24 rfl rfl|exact z25 (by rfl) (by (first|exact z33|exact z19 rfl))|apply y50)⟩ ?_
 intro i hi
 have hFf:Flat (((stsL g p).take i).map State.co++List.replicate (p.length - i) [AC.nils,AC.nils]):=z52 (z4 fun _=>rfl) (z19 rfl)
 by_cases hil:i < p.length
 ·have hx:=hp _ (y51 hil)
  have gk:(p.map enI)[i]?=some (enI p[i]):=by rw [y58,y52 hil];rfl
  obtain ⟨u,hu⟩:∃ u:Nat,p[i]=u:=⟨p[i].toNat,by omega⟩
  have hul:u < g.st.length:=by omega
  have gs:(g.st.map State.cs)[u]?=some (State.cs g.st[u]):=by rw [y58,y52 hul];rfl
  have hiL:i < (stsL g p).length:=by omega
  have eL:(stsL g p)[i]=g.st[u]:=by
   simp only [stsL,List.getElem_map]
   rw [hu,y83,z18 hul]
  have cc:=z403 g.st[u] (hg _ (y51 hul))
  have ef:∀ e1 e2:List AC,((((((stsL g p).take i).map State.co++List.replicate (p.length - i) [AC.nils,AC.nils]).set i e1).set i e2).set i (State.co g.st[u]))=((stsL g p).take (i+1)).map State.co++List.replicate (p.length - (i+1)) [AC.nils,AC.nils]:=fun e1 e2=>by
   have:=z800 (f:=State.co) (z:=[AC.nils,AC.nils]) (n:=i) (e1:=e1) (e2:=e2) (e3:=State.co g.st[u]) hiL rfl (by rw [eL])
   rwa [hL] at this
  have gf:(((stsL g p).take i).map State.co++List.replicate (p.length - i) [AC.nils,AC.nils])[i]?=some [AC.nils,AC.nils]:=by
   have:=z262 State.co (stsL g p) [AC.nils,AC.nils] i hiL
   rwa [hL] at this
  have lf:(((stsL g p).take i).map State.co++List.replicate (p.length - i) [AC.nils,AC.nils]).length=p.length:=by simp;omega
  rw [hu] at gk
  generalize g.st[u]=t at *
  generalize hF:((stsL g p).take i).map State.co++List.replicate (p.length - i) [AC.nils,AC.nils]=F at *
  repeat' ((first|((fail_if_success apply z65 6);(fail_if_success apply z50 6);apply y4 ok;rfl)|(refine z13 (i:=i) rfl gk ?_)|(refine z13 (i:=u) rfl gs ?_)|(refine z13 (i:=i) rfl gf ?_)|(apply y50;omega)|((apply z5)<;>intro _)|(apply z54 [] [2,3] cc;rfl;rfl;rfl;(focus ((repeat' first|exact z12|apply z15)<;>(refine z22 ?_;((exact z4 fun _=>rfl)))))))<;>conv=>whnf)
  all_goals try (exfalso;omega)
  refine y92 (Gl.Reach.absorb 1 2 i 0 rfl (z148 rfl (by omega)) rfl rfl (by simp) rfl (z4 fun _=>rfl) rfl) ?_
  conv=>whnf
  refine y92 (Gl.Reach.absorb 1 3 i 1 rfl (z148 rfl (by rw [y88];omega)) rfl rfl (by simp) rfl (z4 fun _=>rfl) rfl) ?_
  conv=>whnf
  repeat' ((first|(apply y4 ok;rfl)|(apply y50;(unfold inI;omega)))<;>conv=>whnf)
  exact z78 (i+1) [0,1] hil (by omega) ⟨rfl,by decide,rfl,⟨⟨rfl,rfl⟩,⟨rfl,rfl⟩,⟨rfl,rfl⟩,⟨rfl,rfl⟩,⟨rfl,rfl⟩,trivial⟩,⟨z24 rfl rfl,z25 (z39 (ef _ _)) (z52 (z4 fun _=>rfl) (z19 rfl)),trivial⟩⟩
 ·obtain rfl:i=p.length:=by omega
  have e:((stsL g p).take p.length).map State.co++List.replicate (p.length - p.length) [AC.nils,AC.nils]=(stsL g p).map State.co:=by
   rw [Nat.sub_self,← hL,y62];simp
  rw [e,← hL]
  repeat' ((first|(apply y4 ok;rfl)|(apply y50;omega)|((first|(with_reducible apply z8;omega)|(with_reducible apply z103;omega));intro _)|((apply z5)<;>intro _))<;>conv=>whnf)
  all_goals try (exfalso;omega)
  exact z70 [1] (by decide) rfl rfl rfl ⟨z25 rfl (z4 fun _=>rfl),trivial⟩
theorem z612 {g:Graph} (hg:∀ s∈g.st,s.sm) (p:List Int):∀ s∈stsL g p,s.sm:=fun s hs=>by
 unfold stsL at hs
 obtain ⟨x,_,rfl⟩:=List.mem_map.1 hs
 by_cases h:x.toNat < g.st.length
 ·rw [z18 h];exact hg _ (y51 h)
 ·rw [y74,y75 (by omega)]
  exact ⟨by simp,by simp⟩
theorem csAB_ok (s:Sys) (l:List Tree) (f:Tree):((csA s l f).length≤3841∧∀ t∈csA s l f,t.sm)∧((csB s l f).length≤3841∧∀ t∈csB s l f,t.sm):=by
 unfold csA csB
 cases h:csO s l f with
 |none=>exact ⟨⟨by simp,by simp⟩,⟨by simp,by simp⟩⟩
 |some g =>
  have hb:z137 s=some g:=by
   unfold csO at h
   split at h
   ·exact h
   ·cases h
  obtain ⟨q1,q2,q3,q4⟩:=z716 hb
  obtain ⟨z1,z2⟩:=z1075 (g:=g) (l:=l) (f:=f)
  exact ⟨⟨by simp only [z472];exact z1,z612 q1 _⟩,⟨by simp only [z472];exact z2,z612 q1 _⟩⟩
set_option maxHeartbeats 3200000 in
theorem z597 (s:Sys) (hs:s.bg) (l:List Tree) (hl:Lmx l) (f:Tree) (hf:f.mx):CallsA Tryz.prog 8 [.agg s.cs,lst 3 Tree.cs' l,z20 Tree.cs' f] [] (.tup [.int (csV s l f),.sref 0 0 (csA s l f).length,.sref 1 0 (csB s l f).length]) [.cells 2 ((csA s l f).map State.co),.cells 2 ((csB s l f).map State.co)]:=by
 have c1:=z554 s hs
 have c2:=z222 l hl.1 hl.2
 have c3:=z115 f hf
 cases hv:(sysB s && (z118 l && f.fmB)) with
 |false =>
  have e1:csV s l f=3:=by unfold csV;rw [hv];rfl
  have e0:csO s l f=none:=by unfold csO;rw [hv];rfl
  have e2:csA s l f=[]:=by unfold csA;rw [e0]
  have e3:csB s l f=[]:=by unfold csB;rw [e0]
  rw [e1,e2,e3]
  rw [y17 f] at *
  generalize sysB s=b1 at *
  generalize z118 l=b2 at *
  generalize f.fmB=b3 at *
  refine z6 z9 Tryz.func8 rfl rfl 49 Tryz.ntmps8 (by simp) ?_
  cases b1<;>cases b2<;>cases b3
  all_goals first|(exfalso;revert hv;decide)|skip
  all_goals
   repeat' ((first|(apply y4 ok;rfl)|(apply z0 (c1);rfl;rfl)|(apply z0 (c2);rfl;rfl)|(apply z0 (c3);rfl;rfl))<;>conv=>whnf)
   all_goals (refine y96 2 ?_;refine y96 2 ?_;refine rsD [2,3] [] rfl ?_;(repeat' first|exact y93 _|exact z57|refine z10 rfl (z33) ?_|apply z72|constructor))
 |true =>
  obtain ⟨hsB,h2⟩:=Bool.and_eq_true_iff.1 hv
  obtain ⟨hLB,hfB⟩:=Bool.and_eq_true_iff.1 h2
  rw [hsB] at c1
  rw [hLB] at c2
  rw [hfB] at c3
  have c4:=z794 s hsB
  cases hb:z137 s with
  |none =>
   have e1:csV s l f=2:=by unfold csV;rw [hv,hb];rfl
   have e0:csO s l f=none:=by unfold csO;rw [hv,hb];rfl
   have e2:csA s l f=[]:=by unfold csA;rw [e0]
   have e3:csB s l f=[]:=by unfold csB;rw [e0]
   rw [hb] at c4
   rw [e1,e2,e3]
   rw [y17 f] at *
   generalize (none:Option Graph).getD ⟨[],[]⟩=g0 at *
   refine z6 z9 Tryz.func8 rfl rfl 49 Tryz.ntmps8 (by simp) ?_
   repeat' ((first|(apply y4 ok;rfl)|(apply z0 (c1);rfl;rfl)|(apply z0 (c2);rfl;rfl)|(apply z0 (c3);rfl;rfl)|(apply z0 (c4);rfl;rfl))<;>conv=>whnf)
   all_goals (refine y96 2 ?_;refine y96 2 ?_;refine rsD [3,4] [] rfl ?_;(repeat' first|exact y93 _|exact z57|refine z10 rfl (z33) ?_|apply z72|constructor))
  |some g =>
   have e1:csV s l f=vdI g l f:=by unfold csV;rw [hv,hb];rfl
   have e0:csO s l f=some g:=by unfold csO;rw [hv,hb];rfl
   have e2:csA s l f=stsL g (vdT g l f).stem:=by unfold csA;rw [e0]
   have e3:csB s l f=stsL g (vdT g l f).loop:=by unfold csB;rw [e0]
   rw [hb] at c4
   rw [e1,e2,e3]
   obtain ⟨q1,q2,q3,q4⟩:=z716 hb
   have hin:=vdT_in (g:=g) (l:=l) (f:=f)
   obtain ⟨z1,z2⟩:=z1075 (g:=g) (l:=l) (f:=f)
   have c5:=z703 g q4.mx l hl f hf
   have c6:=z273 g q1 (by omega) (vdT g l f).stem (fun x hx=>hin x (by unfold Trace.all;simp [hx])) (by omega)
   have c7:=z273 g q1 (by omega) (vdT g l f).loop (fun x hx=>hin x (by unfold Trace.all;simp [hx])) (by omega)
   rw [show (some g).getD ⟨[],[]⟩=g from rfl,show (some g).isSome=true from rfl] at c4
   generalize stsL g (vdT g l f).stem=A at *
   generalize stsL g (vdT g l f).loop=B at *
   generalize vdT g l f=t at *
   generalize vdI g l f=v at *
   rw [y17 f] at *
   refine z6 z9 Tryz.func8 rfl rfl 49 Tryz.ntmps8 (by simp) ?_
   repeat' ((first|(apply y4 ok;rfl)|(apply z17;kernel_rfl)|(apply z0 (c1);rfl;rfl)|(apply z0 (c2);rfl;rfl)|(apply z0 (c3);rfl;rfl)|(apply z0 (c4);rfl;rfl)|(apply z0 (c5);rfl;rfl)|((first|(apply z54 [] [4] c6;rfl;rfl)|(apply z54 [] [5] c7;rfl;rfl));rfl;(focus ((repeat' first|exact z12|apply z15)<;>(refine z22 ?_;((exact z4 fun _=>rfl)))))))<;>conv=>whnf)
   all_goals (refine rsD [4,5] [] rfl ?_;(repeat' first|exact y93 _|exact z11 _|refine z10 rfl (z4 (fun _=>rfl)) ?_|constructor))
theorem z670 (s:Sys) (hs:s.bg) (l:List Tree) (hl:Lmx l) (f:Tree) (hf:f.mx):CallsA Tryz.prog 9 [.agg s.cs,lst 3 Tree.cs' l,z20 Tree.cs' f] [] (.tup [.int (csV s l f),lst 2 State.cs (csA s l f),lst 2 State.cs (csB s l f)]) []:=by
 cases hv:(sysB s && (z118 l && f.fmB)) with
 |true =>
  have hsB:=(Bool.and_eq_true_iff.1 hv).1
  have h3:=(y15 hsB).init.1
  exact z669 s (Sys.s1_of hsB (by omega)) l hl f hf
 |false =>
  have c1:=z588 s hs
  have c2:=z152 l hl.1 hl.2
  have c3:=z100 f hf
  have e1:csV s l f=3:=by unfold csV;rw [hv];rfl
  have e0:csO s l f=none:=by unfold csO;rw [hv];rfl
  have e2:csA s l f=[]:=by unfold csA;rw [e0]
  have e3:csB s l f=[]:=by unfold csB;rw [e0]
  rw [e1,e2,e3]
  rw [y17 f] at *
  generalize sysB s=b1 at *
  generalize z118 l=b2 at *
  generalize f.fmB=b3 at *
  refine z6 z9 Tryz.func9 rfl rfl 53 Tryz.ntmps9 (by simp) ?_
  cases b1<;>cases b2<;>cases b3
  all_goals first|(exfalso;revert hv;decide)|skip
  all_goals
   repeat' ((first|(apply y4 ok;rfl)|(apply z0 (c1);rfl;rfl)|(apply z0 (c2);rfl;rfl)|(apply z0 (c3);rfl;rfl))<;>conv=>whnf)
   all_goals (refine rsD [] [2,3] rfl ?_;(repeat' first|exact y93 _|constructor))
end Go.Proofs.YtnfoijopccdjeaaGreat
namespace Go.Proofs.YtnfoijopccdjeaaGreat
open Go.Gl
section
attribute [local irreducible] z16
theorem szFmS_of (l:List Tree) (n:Int) (hl:l.length≤maxLen) (hel:∀ s∈l,∀ n:Int,0≤n→n≤1048576→CallsA Tryz.prog 15 [z20 Tree.cs' s,.int n] [] (.int (bud n (Tree.sz s))) []) (h0:0≤n) (h1:n≤1048576):CallsA Tryz.prog 58 [lst 3 Tree.cs' l,.int n] [] (.int (bud n (tot Tree.sz l))) []:=by
 unfold maxLen at hl
 refine z7 z9 Tryz.func58 rfl rfl 27 Tryz.ntmps58 (by simp) ?_
 repeat (first|refine y4 ok _ _ _ _ _ rfl ?_|refine y50 (by first|omega|(unfold inI;omega)) ?_)
 refine z5 (fun h=>?_) (fun h=>?_)
 ·repeat (refine y4 ok _ _ _ _ _ rfl ?_)
  have:bud n (tot Tree.sz l)=-1:=by unfold bud tot;rw [if_pos (by omega)]
  rw [this]
  exact ⟨[],by decide,rfl,rfl,y3 rfl,trivial⟩
 ·repeat (refine y4 ok _ _ _ _ _ rfl ?_)
  refine z110 (fun k:Nat=>([(0,lst 3 Tree.cs' l),(1,.int (n - l.length - ((l.take k).map Tree.sz).sum)),(5,.int k)],[])) (fun k=>k≤l.length∧0≤n - l.length - ((l.take k).map Tree.sz).sum) (fun k=>l.length - k) 0 ⟨by omega,by simp;omega⟩
   ⟨[],rfl,by decide,rfl,⟨⟨rfl,rfl⟩,⟨rfl,by simp;rfl⟩,⟨rfl,rfl⟩,trivial⟩,trivial⟩ ?_
  intro k hk
  obtain ⟨hk1,hk2⟩:=hk
  repeat (refine y4 ok _ _ _ _ _ rfl ?_)
  refine z5 (fun h=>?_) (fun h=>?_)
  ·have hkl:k < l.length:=by omega
   repeat (first|refine y4 ok _ _ _ _ _ rfl ?_|refine y50 (by omega) ?_)
   refine ⟨_,z94 _ _ _ hkl,?_⟩
   repeat (fail)
   refine z0 (hel l[k] (y51 _) _ hk2 (by omega)) ?_ ?_ ?_
   ·rfl
   ·rfl
   repeat (refine y4 ok _ _ _ _ _ rfl ?_)
   have e:=z172 Tree.sz l k hkl
   have e2:=z87 Tree.sz l (k+1)
   refine z5 (fun h=>?_) (fun h=>?_)
   ·repeat (refine y4 ok _ _ _ _ _ rfl ?_)
    have:bud n (tot Tree.sz l)=-1:=by unfold bud at h ⊢;unfold tot;split at h<;>rw [if_pos (by omega)]<;>omega
    rw [this]
    exact ⟨[],by decide,rfl,rfl,y3 rfl,trivial⟩
   ·repeat (first|refine y4 ok _ _ _ _ _ rfl ?_|refine y50 (by first|omega|(unfold inI;omega)) ?_)
    have e3:bud (n - l.length - ((l.take k).map Tree.sz).sum) (Tree.sz l[k])=n - l.length - ((l.take (k+1)).map Tree.sz).sum:=by unfold bud at h ⊢;split at h<;>rename_i hh<;>(first|rw [if_pos hh]|rw [if_neg hh])<;>omega
    refine ⟨k+1,[],⟨by omega,?_⟩,by omega,rfl,by decide,rfl,⟨⟨rfl,rfl⟩,⟨rfl,?_⟩,⟨rfl,rfl⟩,trivial⟩,trivial⟩
    ·rw [← e3];omega
    ·rw [← e3];rfl
  ·repeat (refine y4 ok _ _ _ _ _ rfl ?_)
   obtain rfl:k=l.length:=by omega
   rw [y62] at hk2
   have:bud n (tot Tree.sz l)=n - l.length - (l.map Tree.sz).sum:=by unfold bud tot;rw [if_neg (by omega)];omega
   rw [this,y62]
   exact ⟨[],by decide,rfl,rfl,y3 rfl,trivial⟩
theorem szFm_ok (t:Tree):t.mx→∀ n:Int,0≤n→n≤1048576→CallsA Tryz.prog 15 [z20 Tree.cs' t,.int n] [] (.int (bud n t.sz)) []:=by
 induction t using y32 with|h t ih=>?_
 intro hm n h0 h1
 rw [y34] at hm
 have hk:=szFmS_of t.kids n hm.1 (fun s hs=>ih s hs (hm.2 s hs)) h0 h1
 refine z7 z9 Tryz.func15 rfl rfl 12 Tryz.ntmps15 (by simp) ?_
 repeat (refine y4 ok _ _ _ _ _ rfl ?_)
 refine z0 hk ?_ ?_ ?_
 ·show [AC.list 3 t.kids.length (t.kids.map Tree.cs),.int n]=_
  rw [y33]
  rfl
 ·rfl
 repeat (refine y4 ok _ _ _ _ _ rfl ?_)
 have e:bud n (tot Tree.sz t.kids)=bud n t.sz:=by rw [y44];rfl
 rw [e]
 refine z5 (fun h=>?_) (fun h=>?_)
 ·repeat (refine y4 ok _ _ _ _ _ rfl ?_)
  have:bud n t.sz=-1:=by unfold bud at h ⊢;split at h<;>rename_i hh<;>(first|rw [if_pos hh]|rw [if_neg hh])<;>omega
  rw [this]
  exact ⟨[],by decide,rfl,rfl,y3 rfl,trivial⟩
 ·repeat (refine y4 ok _ _ _ _ _ rfl ?_)
  exact ⟨[],by decide,rfl,rfl,y3 rfl,trivial⟩
theorem toFmS_of (l:List Tree) (hl:l.length≤1048576) (hel:∀ s∈l,CallsA Tryz.prog 18 [z20 Tree.cs' s] [] (z20 Tree.cs' s) []):CallsA Tryz.prog 62 [lst 3 Tree.cs' l] [] (lst 3 Tree.cs' l) []:=by
 refine z7 z9 Tryz.func62 rfl rfl 23 Tryz.ntmps62 (by simp) ?_
 repeat (first|refine y4 ok _ _ _ _ _ rfl ?_|refine y50 (by first|omega|(dsimp only;omega)) ?_)
 refine z110 (fun k:Nat=>([(0,lst 3 Tree.cs' l),(3,.sref 0 0 l.length),(4,.int k)],[.cells 3 ((l.take k).map Tree.cs'++List.replicate (l.length - k) [.int 0,.int 0,.nils])])) (fun k=>k≤l.length) (fun k=>l.length - k) 0 (by omega)
  ⟨[0],rfl,by decide,rfl,⟨⟨rfl,rfl⟩,⟨rfl,rfl⟩,⟨rfl,rfl⟩,trivial⟩,⟨z25 (by rfl) (z52 (z4 fun _=>rfl) (z19 rfl)),trivial⟩⟩ ?_
 ·intro k hk
  repeat (refine y4 ok _ _ _ _ _ rfl ?_)
  refine z5 (fun h=>?_) (fun h=>?_)
  ·repeat (first|refine y4 ok _ _ _ _ _ rfl ?_|refine y50 (by omega) ?_)
   refine ⟨_,z94 _ _ _ (by omega),?_⟩
   repeat (fail)
   refine z0 (hel l[k] (y51 _)) ?_ ?_ ?_
   ·rfl
   ·rfl
   repeat ((refine y50 (by omega) ?_))
   refine ⟨[.int 0,.int 0,.nils],z262 _ _ _ _ (by omega),?_⟩
   repeat (first|refine y4 ok _ _ _ _ _ rfl ?_|refine y50 (by first|omega|(unfold inI;omega)) ?_)
   exact ⟨k+1,[0],by omega,by omega,rfl,by decide,rfl,⟨⟨rfl,rfl⟩,⟨rfl,rfl⟩,⟨rfl,rfl⟩,trivial⟩,⟨z25 (z39 (z261 _ _ _ _ (by omega))) (z52 (z4 fun _=>rfl) (z19 rfl)),trivial⟩⟩
  ·refine y4 ok _ _ _ _ _ rfl ?_
   obtain rfl:k=l.length:=by omega
   refine y92 (SealL.reach (π:=[]) (Bn:=[0]) (env:=[(3,lst 3 Tree.cs' l)]) (objs:=[]) ⟨rfl,rfl,by simp,rfl,by simp,⟨?_,trivial⟩,rfl⟩) ?_
   ·exact z329 rfl rfl rfl (by simp) (z125 Tree.unown l) (by simp)
   repeat (refine y4 ok _ _ _ _ _ rfl ?_)
   exact ⟨[],by decide,rfl,rfl,y3 rfl,trivial⟩
theorem toFm_ok (t:Tree):t.sz≤1048576→CallsA Tryz.prog 18 [z20 Tree.cs' t] [] (z20 Tree.cs' t) []:=by
 induction t using y32 with|h t ih=>?_
 intro hm
 rw [y44] at hm
 have hk:=toFmS_of t.kids (by omega) (fun s hs=>ih s hs (by
  have:=z180 Tree.sz hs
  omega))
 refine z7 z9 Tryz.func18 rfl rfl 15 Tryz.ntmps18 (by simp) ?_
 repeat (refine y4 ok _ _ _ _ _ rfl ?_)
 refine z0 hk ?_ ?_ ?_
 ·show [AC.list 3 t.kids.length (t.kids.map Tree.cs)]=_
  rw [y33]
  rfl
 ·rfl
 repeat (refine y4 ok _ _ _ _ _ rfl ?_)
 refine ⟨[],by decide,rfl,rfl,y3 ?_,trivial⟩
 show AC.agg [.int t.kind,.int t.val,.list 3 t.kids.length (t.kids.map Tree.cs')]=AC.agg [.int t.kind,.int t.val,.list 3 t.kids.length (t.kids.map Tree.cs)]
 rw [y33]
theorem eqFmS_of (a b:List Tree) (ha:a.length≤maxLen) (hb:b.length≤maxLen) (hel:∀ s∈a,∀ t∈b,CallsA Tryz.prog 22 [z20 Tree.cs' s,z20 Tree.cs' t] [] (.bool (decide (s=t))) []):CallsA Tryz.prog 67 [lst 3 Tree.cs' a,lst 3 Tree.cs' b] [] (.bool (decide (a=b))) []:=by
 unfold maxLen at ha hb
 refine z7 z9 Tryz.func67 rfl rfl 27 Tryz.ntmps67 (by simp) ?_
 repeat (refine y4 ok _ _ _ _ _ rfl ?_)
 refine z28 (fun h=>?_) (fun h=>?_)
 ·repeat (refine y4 ok _ _ _ _ _ rfl ?_)
  have hne:a≠b:=by rintro rfl;exact h rfl
  rw [y90 hne]
  exact ⟨[],by decide,rfl,rfl,y3 rfl,trivial⟩
 ·have hl:a.length=b.length:=by omega
  repeat (refine y4 ok _ _ _ _ _ rfl ?_)
  refine z110 (fun k:Nat=>([(0,lst 3 Tree.cs' a),(1,lst 3 Tree.cs' b),(5,.int k)],[])) (fun k=>k≤a.length∧a.take k=b.take k) (fun k=>a.length - k) 0 (by simp)
   ⟨[],rfl,by decide,rfl,⟨⟨rfl,rfl⟩,⟨rfl,rfl⟩,⟨rfl,rfl⟩,trivial⟩,trivial⟩ ?_
  intro k hk
  repeat (refine y4 ok _ _ _ _ _ rfl ?_)
  refine z5 (fun h=>?_) (fun h=>?_)
  ·have hka:k < a.length:=by omega
   repeat (first|refine y4 ok _ _ _ _ _ rfl ?_|refine y50 (by omega) ?_)
   refine ⟨_,z94 _ _ _ (by omega),?_⟩
   repeat ((refine y50 (by omega) ?_))
   refine ⟨_,z94 _ _ _ (by omega),?_⟩
   repeat (fail)
   refine z0 (hel a[k] (y51 _) b[k] (y51 _)) ?_ ?_ ?_
   ·rfl
   ·rfl
   repeat (first|refine y4 ok _ _ _ _ _ rfl ?_|refine z17 (by kernel_rfl) ?_)
   refine z28 (fun h=>?_) (fun h=>?_)
   ·repeat (refine y4 ok _ _ _ _ _ rfl ?_)
    have hne:a≠b:=by rintro rfl;exact h rfl
    rw [y90 hne]
    exact ⟨[],by decide,rfl,rfl,y3 rfl,trivial⟩
   ·repeat (first|refine y4 ok _ _ _ _ _ rfl ?_|refine y50 (by first|omega|(unfold inI;omega)) ?_)
    refine ⟨k+1,[],⟨by omega,?_⟩,by omega,rfl,by decide,rfl,⟨⟨rfl,rfl⟩,⟨rfl,rfl⟩,⟨rfl,rfl⟩,trivial⟩,trivial⟩
    have h' : a[k]=b[k]:=h
    rw [y57 hka,y57 (by omega),hk.2,h']
  ·repeat (refine y4 ok _ _ _ _ _ rfl ?_)
   have he:a=b:=by
    have:=hk.2
    rwa [y63 (by omega),y63 (by omega)] at this
   rw [y89 he]
   exact ⟨[],by decide,rfl,rfl,y3 rfl,trivial⟩
theorem eqFm_ok (a:Tree):a.mx→∀ b:Tree,b.mx→CallsA Tryz.prog 22 [z20 Tree.cs' a,z20 Tree.cs' b] [] (.bool (decide (a=b))) []:=by
 induction a using y32 with|h a ih=>?_
 intro ha b hb
 rw [y34] at ha hb
 have hk:=eqFmS_of a.kids b.kids ha.1 hb.1 (fun s hs t ht=>ih s hs (ha.2 s hs) t (hb.2 t ht))
 refine z7 z9 Tryz.func22 rfl rfl 21 Tryz.ntmps22 (by simp) ?_
 repeat (refine y4 ok _ _ _ _ _ rfl ?_)
 refine z28 (fun h=>?_) (fun h1=>?_)
 ·repeat (refine y4 ok _ _ _ _ _ rfl ?_)
  have hne:a≠b:=by rintro rfl;exact h rfl
  rw [y90 hne]
  exact ⟨[],by decide,rfl,rfl,y3 rfl,trivial⟩
 repeat (refine y4 ok _ _ _ _ _ rfl ?_)
 refine z28 (fun h=>?_) (fun h2=>?_)
 ·repeat (refine y4 ok _ _ _ _ _ rfl ?_)
  have hne:a≠b:=by rintro rfl;exact h rfl
  rw [y90 hne]
  exact ⟨[],by decide,rfl,rfl,y3 rfl,trivial⟩
 repeat (refine y4 ok _ _ _ _ _ rfl ?_)
 refine z0 hk ?_ ?_ ?_
 ·show [AC.list 3 a.kids.length (a.kids.map Tree.cs),AC.list 3 b.kids.length (b.kids.map Tree.cs)]=_
  rw [y33,y33]
  rfl
 ·rfl
 repeat (refine y4 ok _ _ _ _ _ rfl ?_)
 refine z28 (fun h=>?_) (fun h3=>?_)
 ·repeat (refine y4 ok _ _ _ _ _ rfl ?_)
  have hne:a≠b:=by rintro rfl;exact h rfl
  rw [y90 hne]
  exact ⟨[],by decide,rfl,rfl,y3 rfl,trivial⟩
 ·repeat (refine y4 ok _ _ _ _ _ rfl ?_)
  have he:a=b:=Tree.ext h1 h2 h3
  rw [y89 he]
  exact ⟨[],by decide,rfl,rfl,y3 rfl,trivial⟩
end
end Go.Proofs.YtnfoijopccdjeaaGreat
namespace Go.Proofs.YtnfoijopccdjeaaGreat
open Go.Gl
attribute [local irreducible] z16 AWP z29 z32 z30
structure FmOk (t:Tree):Prop where
 mx:t.mx
 sz:t.sz≤1048576
theorem FmOk.of {t:Tree} (h:t.mx) (h1:t.sz≤1048576):FmOk t:=⟨h,h1⟩
theorem szFmT (t:Tree) (h:t.mx) (n:Int) (h0:0≤n) (h1:n≤1048576):CallsA Tryz.prog 15 [z20 Tree.cs' t,.int n] [] (.int (bud n t.sz)) []:=szFm_ok t h n h0 h1
theorem toFmS {t:Tree} (h:FmOk t):CallsA Tryz.prog 18 [z20 Tree.cs' t] [] (z20 Tree.cs' t) []:=toFm_ok t h.sz
theorem eqFmT {t:Tree} (h:FmOk t):CallsA Tryz.prog 22 [z20 Tree.cs' t,z20 Tree.cs' t] [] (.bool true) []:=by
 have:=eqFm_ok t h.mx t h.mx
 rwa [y89 rfl] at this
theorem od_fm:OpensD Tryz.prog 55 Tree.cs' Tree.mx :=
 z1092 (tI:=3) (tS:=53) Tryz.underlying55 rfl rfl rfl Tryz.underlying3 Tryz.underlying53 (by kernel_rfl) (by kernel_rfl) (by kernel_rfl) rfl rfl rfl
theorem z1068:ArgD Tryz.prog 55 (z20 Tree.cs') Tree.mx:=z575 Tryz.underlying55 od_fm
end Go.Proofs.YtnfoijopccdjeaaGreat
namespace Go.Proofs.YtnfoijopccdjeaaGreat
open Go.Gl
attribute [local irreducible] z16
structure Edge.mx (e:Edge):Prop where
 gd:e.gd.mx
 val:e.val.mx
structure Proc.mx (p:Proc):Prop where
 len:p.es.length≤maxLen
 el:∀ e∈p.es,e.mx
structure Sys.mx (s:Sys):Prop where
 init:s.init.length≤maxLen
 len:s.ps.length≤maxLen
 el:∀ p∈s.ps,p.mx
def Edge.g1 (e:Edge):AC:=.agg [.int e.gd.kind,.int e.gd.val,lst 3 Tree.cs' e.gd.kids]
def Edge.g2 (e:Edge):AC:=.agg [.int e.val.kind,.int e.val.val,lst 3 Tree.cs' e.val.kids]
def Edge.z1 (e:Edge):Nat:=e.gd.sz
def Edge.z2 (e:Edge):Nat:=e.val.sz
def Edge.sz (e:Edge):Nat:=e.z1+e.z2
def Proc.x1 (p:Proc):AC:=lst 10 Edge.cs p.es
def Proc.sz (p:Proc):Nat:=tot Edge.sz p.es
def Sys.x1 (s:Sys):AC:=ints s.init
def Sys.x2 (s:Sys):AC:=lst 2 Proc.cs s.ps
def Sys.z1 (s:Sys):Nat:=s.init.length
def Sys.z2 (s:Sys):Nat:=tot Proc.sz s.ps
theorem Edge.unown (e:Edge):∀ x∈e.cs,x.unown=x:=fun x hx=>by
 simp only [Edge.cs,List.mem_cons,List.not_mem_nil,or_false] at hx
 rcases hx with rfl|rfl|rfl|rfl|rfl|rfl|rfl|rfl|rfl|rfl<;>rfl
theorem Proc.unown (p:Proc):∀ x∈p.cs,x.unown=x:=fun x hx=>by
 simp only [Proc.cs,List.mem_cons,List.not_mem_nil,or_false] at hx
 rcases hx with rfl|rfl<;>rfl
theorem z1101 (s:Edge) (n:Int) (c0:∀ n:Int,0≤n→n≤1048576→CallsA Tryz.prog 57 [Edge.g1 s,.int n] [] (.int (bud n (Edge.z1 s))) []) (c1:∀ n:Int,0≤n→n≤1048576→CallsA Tryz.prog 57 [Edge.g2 s,.int n] [] (.int (bud n (Edge.z2 s))) []) (h0:0≤n) (h1:n≤1048576):CallsA Tryz.prog 250 [.agg (Edge.cs s),.int n] [] (.int (bud n (Edge.z1 s+Edge.z2 s))) []:=by
 refine z7 z9 Tryz.func250 rfl rfl 18 Tryz.ntmps250 (by simp) ?_
 repeat (refine y4 ok _ _ _ _ _ rfl ?_)
 refine z0 (c0 (n) (by omega) (by omega)) ?_ ?_ ?_
 ·rfl
 ·rfl
 repeat (refine y4 ok _ _ _ _ _ rfl ?_)
 refine z5 (fun g0=>?_) (fun g0=>?_)
 ·repeat (refine y4 ok _ _ _ _ _ rfl ?_)
  have e:bud n (Edge.z1 s+Edge.z2 s)=-1:=by unfold bud at g0 ⊢;split at g0<;>rw [if_pos (by omega)]<;>omega
  rw [e]
  exact ⟨[],by decide,rfl,rfl,y3 rfl,trivial⟩
 have e0:bud (n) (Edge.z1 s)=n - (Edge.z1 s:Int):=by unfold bud at g0 ⊢;split at g0<;>rename_i hh<;>(first|rw [if_pos hh]|rw [if_neg hh])<;>omega
 rw [e0] at g0 ⊢
 repeat (refine y4 ok _ _ _ _ _ rfl ?_)
 refine z0 (c1 (n - (Edge.z1 s:Int)) (by omega) (by omega)) ?_ ?_ ?_
 ·rfl
 ·rfl
 repeat (refine y4 ok _ _ _ _ _ rfl ?_)
 refine z5 (fun g1=>?_) (fun g1=>?_)
 ·repeat (refine y4 ok _ _ _ _ _ rfl ?_)
  have e:bud n (Edge.z1 s+Edge.z2 s)=-1:=by unfold bud at g1 ⊢;split at g1<;>rw [if_pos (by omega)]<;>omega
  rw [e]
  exact ⟨[],by decide,rfl,rfl,y3 rfl,trivial⟩
 have e1:bud (n - (Edge.z1 s:Int)) (Edge.z2 s)=n - (Edge.z1 s:Int) - (Edge.z2 s:Int):=by unfold bud at g1 ⊢;split at g1<;>rename_i hh<;>(first|rw [if_pos hh]|rw [if_neg hh])<;>omega
 rw [e1] at g1 ⊢
 repeat (refine y4 ok _ _ _ _ _ rfl ?_)
 have e:bud n (Edge.z1 s+Edge.z2 s)=n - (Edge.z1 s:Int) - (Edge.z2 s:Int):=by unfold bud;rw [if_neg (by omega)]<;>omega
 try rw [e]
 exact ⟨[],by decide,rfl,rfl,y3 rfl,trivial⟩
theorem z987 (l:List Edge) (n:Int) (hl:l.length≤maxLen) (hel:∀ s∈l,∀ n:Int,0≤n→n≤1048576→CallsA Tryz.prog 250 [z20 Edge.cs s,.int n] [] (.int (bud n (Edge.sz s))) []) (h0:0≤n) (h1:n≤1048576):CallsA Tryz.prog 201 [lst 10 Edge.cs l,.int n] [] (.int (bud n (tot Edge.sz l))) []:=by
 unfold maxLen at hl
 refine z7 z9 Tryz.func201 rfl rfl 27 Tryz.ntmps201 (by simp) ?_
 repeat (first|refine y4 ok _ _ _ _ _ rfl ?_|refine y50 (by first|omega|(unfold inI;omega)) ?_)
 refine z5 (fun h=>?_) (fun h=>?_)
 ·repeat (refine y4 ok _ _ _ _ _ rfl ?_)
  have:bud n (tot Edge.sz l)=-1:=by unfold bud tot;rw [if_pos (by omega)]
  rw [this]
  exact ⟨[],by decide,rfl,rfl,y3 rfl,trivial⟩
 ·repeat (refine y4 ok _ _ _ _ _ rfl ?_)
  refine z110 (fun k:Nat=>([(0,lst 10 Edge.cs l),(1,.int (n - l.length - ((l.take k).map Edge.sz).sum)),(5,.int k)],[])) (fun k=>k≤l.length∧0≤n - l.length - ((l.take k).map Edge.sz).sum) (fun k=>l.length - k) 0 ⟨by omega,by simp;omega⟩
   ⟨[],rfl,by decide,rfl,⟨⟨rfl,rfl⟩,⟨rfl,by simp;rfl⟩,⟨rfl,rfl⟩,trivial⟩,trivial⟩ ?_
  intro k hk
  obtain ⟨hk1,hk2⟩:=hk
  repeat (refine y4 ok _ _ _ _ _ rfl ?_)
  refine z5 (fun h=>?_) (fun h=>?_)
  ·have hkl:k < l.length:=by omega
   repeat (first|refine y4 ok _ _ _ _ _ rfl ?_|refine y50 (by omega) ?_)
   refine ⟨_,z94 _ _ _ hkl,?_⟩
   repeat (fail)
   refine z0 (hel l[k] (y51 _) _ hk2 (by omega)) ?_ ?_ ?_
   ·rfl
   ·rfl
   repeat (refine y4 ok _ _ _ _ _ rfl ?_)
   have e:=z172 Edge.sz l k hkl
   have e2:=z87 Edge.sz l (k+1)
   refine z5 (fun h=>?_) (fun h=>?_)
   ·repeat (refine y4 ok _ _ _ _ _ rfl ?_)
    have:bud n (tot Edge.sz l)=-1:=by unfold bud at h ⊢;unfold tot;split at h<;>rw [if_pos (by omega)]<;>omega
    rw [this]
    exact ⟨[],by decide,rfl,rfl,y3 rfl,trivial⟩
   ·repeat (first|refine y4 ok _ _ _ _ _ rfl ?_|refine y50 (by first|omega|(unfold inI;omega)) ?_)
    have e3:bud (n - l.length - ((l.take k).map Edge.sz).sum) (Edge.sz l[k])=n - l.length - ((l.take (k+1)).map Edge.sz).sum:=by unfold bud at h ⊢;split at h<;>rename_i hh<;>(first|rw [if_pos hh]|rw [if_neg hh])<;>omega
    refine ⟨k+1,[],⟨by omega,?_⟩,by omega,rfl,by decide,rfl,⟨⟨rfl,rfl⟩,⟨rfl,?_⟩,⟨rfl,rfl⟩,trivial⟩,trivial⟩
    ·rw [← e3];omega
    ·rw [← e3];rfl
  ·repeat (refine y4 ok _ _ _ _ _ rfl ?_)
   obtain rfl:k=l.length:=by omega
   rw [y62] at hk2
   have:bud n (tot Edge.sz l)=n - l.length - (l.map Edge.sz).sum:=by unfold bud tot;rw [if_neg (by omega)];omega
   rw [this,y62]
   exact ⟨[],by decide,rfl,rfl,y3 rfl,trivial⟩
theorem z740 (s:Proc) (n:Int) (c0:∀ n:Int,0≤n→n≤1048576→CallsA Tryz.prog 201 [Proc.x1 s,.int n] [] (.int (bud n (Proc.sz s))) []) (h0:0≤n) (h1:n≤1048576):CallsA Tryz.prog 139 [.agg (Proc.cs s),.int n] [] (.int (bud n (Proc.sz s))) []:=by
 refine z7 z9 Tryz.func139 rfl rfl 12 Tryz.ntmps139 (by simp) ?_
 repeat (refine y4 ok _ _ _ _ _ rfl ?_)
 refine z0 (c0 (n) (by omega) (by omega)) ?_ ?_ ?_
 ·rfl
 ·rfl
 repeat (refine y4 ok _ _ _ _ _ rfl ?_)
 refine z5 (fun g0=>?_) (fun g0=>?_)
 ·repeat (refine y4 ok _ _ _ _ _ rfl ?_)
  have e:bud n (Proc.sz s)=-1:=by unfold bud at g0 ⊢;split at g0<;>rw [if_pos (by omega)]<;>omega
  rw [e]
  exact ⟨[],by decide,rfl,rfl,y3 rfl,trivial⟩
 have e0:bud (n) (Proc.sz s)=n - (Proc.sz s:Int):=by unfold bud at g0 ⊢;split at g0<;>rename_i hh<;>(first|rw [if_pos hh]|rw [if_neg hh])<;>omega
 rw [e0] at g0 ⊢
 repeat (refine y4 ok _ _ _ _ _ rfl ?_)
 have e:bud n (Proc.sz s)=n - (Proc.sz s:Int):=by unfold bud;rw [if_neg (by omega)]<;>omega
 try rw [e]
 exact ⟨[],by decide,rfl,rfl,y3 rfl,trivial⟩
theorem z661 (l:List Proc) (n:Int) (hl:l.length≤maxLen) (hel:∀ s∈l,∀ n:Int,0≤n→n≤1048576→CallsA Tryz.prog 139 [z20 Proc.cs s,.int n] [] (.int (bud n (Proc.sz s))) []) (h0:0≤n) (h1:n≤1048576):CallsA Tryz.prog 56 [lst 2 Proc.cs l,.int n] [] (.int (bud n (tot Proc.sz l))) []:=by
 unfold maxLen at hl
 refine z7 z9 Tryz.func56 rfl rfl 27 Tryz.ntmps56 (by simp) ?_
 repeat (first|refine y4 ok _ _ _ _ _ rfl ?_|refine y50 (by first|omega|(unfold inI;omega)) ?_)
 refine z5 (fun h=>?_) (fun h=>?_)
 ·repeat (refine y4 ok _ _ _ _ _ rfl ?_)
  have:bud n (tot Proc.sz l)=-1:=by unfold bud tot;rw [if_pos (by omega)]
  rw [this]
  exact ⟨[],by decide,rfl,rfl,y3 rfl,trivial⟩
 ·repeat (refine y4 ok _ _ _ _ _ rfl ?_)
  refine z110 (fun k:Nat=>([(0,lst 2 Proc.cs l),(1,.int (n - l.length - ((l.take k).map Proc.sz).sum)),(5,.int k)],[])) (fun k=>k≤l.length∧0≤n - l.length - ((l.take k).map Proc.sz).sum) (fun k=>l.length - k) 0 ⟨by omega,by simp;omega⟩
   ⟨[],rfl,by decide,rfl,⟨⟨rfl,rfl⟩,⟨rfl,by simp;rfl⟩,⟨rfl,rfl⟩,trivial⟩,trivial⟩ ?_
  intro k hk
  obtain ⟨hk1,hk2⟩:=hk
  repeat (refine y4 ok _ _ _ _ _ rfl ?_)
  refine z5 (fun h=>?_) (fun h=>?_)
  ·have hkl:k < l.length:=by omega
   repeat (first|refine y4 ok _ _ _ _ _ rfl ?_|refine y50 (by omega) ?_)
   refine ⟨_,z94 _ _ _ hkl,?_⟩
   repeat (fail)
   refine z0 (hel l[k] (y51 _) _ hk2 (by omega)) ?_ ?_ ?_
   ·rfl
   ·rfl
   repeat (refine y4 ok _ _ _ _ _ rfl ?_)
   have e:=z172 Proc.sz l k hkl
   have e2:=z87 Proc.sz l (k+1)
   refine z5 (fun h=>?_) (fun h=>?_)
   ·repeat (refine y4 ok _ _ _ _ _ rfl ?_)
    have:bud n (tot Proc.sz l)=-1:=by unfold bud at h ⊢;unfold tot;split at h<;>rw [if_pos (by omega)]<;>omega
    rw [this]
    exact ⟨[],by decide,rfl,rfl,y3 rfl,trivial⟩
   ·repeat (first|refine y4 ok _ _ _ _ _ rfl ?_|refine y50 (by first|omega|(unfold inI;omega)) ?_)
    have e3:bud (n - l.length - ((l.take k).map Proc.sz).sum) (Proc.sz l[k])=n - l.length - ((l.take (k+1)).map Proc.sz).sum:=by unfold bud at h ⊢;split at h<;>rename_i hh<;>(first|rw [if_pos hh]|rw [if_neg hh])<;>omega
    refine ⟨k+1,[],⟨by omega,?_⟩,by omega,rfl,by decide,rfl,⟨⟨rfl,rfl⟩,⟨rfl,?_⟩,⟨rfl,rfl⟩,trivial⟩,trivial⟩
    ·rw [← e3];omega
    ·rw [← e3];rfl
  ·repeat (refine y4 ok _ _ _ _ _ rfl ?_)
   obtain rfl:k=l.length:=by omega
   rw [y62] at hk2
   have:bud n (tot Proc.sz l)=n - l.length - (l.map Proc.sz).sum:=by unfold bud tot;rw [if_neg (by omega)];omega
   rw [this,y62]
   exact ⟨[],by decide,rfl,rfl,y3 rfl,trivial⟩
theorem z847 (s:Sys) (n:Int) (c0:∀ n:Int,0≤n→n≤1048576→CallsA Tryz.prog 55 [Sys.x1 s,.int n] [] (.int (bud n (Sys.z1 s))) []) (c1:∀ n:Int,0≤n→n≤1048576→CallsA Tryz.prog 56 [Sys.x2 s,.int n] [] (.int (bud n (Sys.z2 s))) []) (h0:0≤n) (h1:n≤1048576):CallsA Tryz.prog 13 [.agg (Sys.cs s),.int n] [] (.int (bud n (Sys.z1 s+Sys.z2 s))) []:=by
 refine z7 z9 Tryz.func13 rfl rfl 18 Tryz.ntmps13 (by simp) ?_
 repeat (refine y4 ok _ _ _ _ _ rfl ?_)
 refine z0 (c0 (n) (by omega) (by omega)) ?_ ?_ ?_
 ·rfl
 ·rfl
 repeat (refine y4 ok _ _ _ _ _ rfl ?_)
 refine z5 (fun g0=>?_) (fun g0=>?_)
 ·repeat (refine y4 ok _ _ _ _ _ rfl ?_)
  have e:bud n (Sys.z1 s+Sys.z2 s)=-1:=by unfold bud at g0 ⊢;split at g0<;>rw [if_pos (by omega)]<;>omega
  rw [e]
  exact ⟨[],by decide,rfl,rfl,y3 rfl,trivial⟩
 have e0:bud (n) (Sys.z1 s)=n - (Sys.z1 s:Int):=by unfold bud at g0 ⊢;split at g0<;>rename_i hh<;>(first|rw [if_pos hh]|rw [if_neg hh])<;>omega
 rw [e0] at g0 ⊢
 repeat (refine y4 ok _ _ _ _ _ rfl ?_)
 refine z0 (c1 (n - (Sys.z1 s:Int)) (by omega) (by omega)) ?_ ?_ ?_
 ·rfl
 ·rfl
 repeat (refine y4 ok _ _ _ _ _ rfl ?_)
 refine z5 (fun g1=>?_) (fun g1=>?_)
 ·repeat (refine y4 ok _ _ _ _ _ rfl ?_)
  have e:bud n (Sys.z1 s+Sys.z2 s)=-1:=by unfold bud at g1 ⊢;split at g1<;>rw [if_pos (by omega)]<;>omega
  rw [e]
  exact ⟨[],by decide,rfl,rfl,y3 rfl,trivial⟩
 have e1:bud (n - (Sys.z1 s:Int)) (Sys.z2 s)=n - (Sys.z1 s:Int) - (Sys.z2 s:Int):=by unfold bud at g1 ⊢;split at g1<;>rename_i hh<;>(first|rw [if_pos hh]|rw [if_neg hh])<;>omega
 rw [e1] at g1 ⊢
 repeat (refine y4 ok _ _ _ _ _ rfl ?_)
 have e:bud n (Sys.z1 s+Sys.z2 s)=n - (Sys.z1 s:Int) - (Sys.z2 s:Int):=by unfold bud;rw [if_neg (by omega)]<;>omega
 try rw [e]
 exact ⟨[],by decide,rfl,rfl,y3 rfl,trivial⟩
theorem z1099 (s:Edge) (c0:CallsA Tryz.prog 61 [Edge.g1 s] [] (Edge.g1 s) []) (c1:CallsA Tryz.prog 61 [Edge.g2 s] [] (Edge.g2 s) []):CallsA Tryz.prog 251 [.agg (Edge.cs s)] [] (.agg (Edge.cs s)) []:=by
 refine z7 z9 Tryz.func251 rfl rfl 25 Tryz.ntmps251 (by simp) ?_
 repeat (refine y4 ok _ _ _ _ _ rfl ?_)
 refine z0 c0 ?_ ?_ ?_
 ·rfl
 ·rfl
 repeat (refine y4 ok _ _ _ _ _ rfl ?_)
 refine z0 c1 ?_ ?_ ?_
 ·rfl
 ·rfl
 repeat (refine y4 ok _ _ _ _ _ rfl ?_)
 exact ⟨[],by decide,rfl,rfl,y3 rfl,trivial⟩
theorem z984 (l:List Edge) (hl:l.length≤1048576) (hel:∀ s∈l,CallsA Tryz.prog 251 [z20 Edge.cs s] [] (z20 Edge.cs s) []):CallsA Tryz.prog 202 [lst 10 Edge.cs l] [] (lst 10 Edge.cs l) []:=by
 refine z7 z9 Tryz.func202 rfl rfl 23 Tryz.ntmps202 (by simp) ?_
 repeat (first|refine y4 ok _ _ _ _ _ rfl ?_|refine y50 (by first|omega|(dsimp only;omega)) ?_)
 refine z110 (fun k:Nat=>([(0,lst 10 Edge.cs l),(3,.sref 0 0 l.length),(4,.int k)],[.cells 10 ((l.take k).map Edge.cs++List.replicate (l.length - k) [.int 0,.int 0,.int 0,.int 0,.nils,.int 0,.int 0,.int 0,.nils,.int 0])])) (fun k=>k≤l.length) (fun k=>l.length - k) 0 (by omega)
  ⟨[0],rfl,by decide,rfl,⟨⟨rfl,rfl⟩,⟨rfl,rfl⟩,⟨rfl,rfl⟩,trivial⟩,⟨z25 (by rfl) (z52 (z4 fun _=>rfl) (z19 rfl)),trivial⟩⟩ ?_
 ·intro k hk
  repeat (refine y4 ok _ _ _ _ _ rfl ?_)
  refine z5 (fun h=>?_) (fun h=>?_)
  ·repeat (first|refine y4 ok _ _ _ _ _ rfl ?_|refine y50 (by omega) ?_)
   refine ⟨_,z94 _ _ _ (by omega),?_⟩
   repeat (fail)
   refine z0 (hel l[k] (y51 _)) ?_ ?_ ?_
   ·rfl
   ·rfl
   repeat ((refine y50 (by omega) ?_))
   refine ⟨[.int 0,.int 0,.int 0,.int 0,.nils,.int 0,.int 0,.int 0,.nils,.int 0],z262 _ _ _ _ (by omega),?_⟩
   repeat (first|refine y4 ok _ _ _ _ _ rfl ?_|refine y50 (by first|omega|(unfold inI;omega)) ?_)
   exact ⟨k+1,[0],by omega,by omega,rfl,by decide,rfl,⟨⟨rfl,rfl⟩,⟨rfl,rfl⟩,⟨rfl,rfl⟩,trivial⟩,⟨z25 (z39 (z261 _ _ _ _ (by omega))) (z52 (z4 fun _=>rfl) (z19 rfl)),trivial⟩⟩
  ·refine y4 ok _ _ _ _ _ rfl ?_
   obtain rfl:k=l.length:=by omega
   refine y92 (SealL.reach (π:=[]) (Bn:=[0]) (env:=[(3,lst 10 Edge.cs l)]) (objs:=[]) ⟨rfl,rfl,by simp,rfl,by simp,⟨?_,trivial⟩,rfl⟩) ?_
   ·exact z329 rfl rfl rfl (by simp) (z125 Edge.unown l) (by simp)
   repeat (refine y4 ok _ _ _ _ _ rfl ?_)
   exact ⟨[],by decide,rfl,rfl,y3 rfl,trivial⟩
theorem z738 (s:Proc) (c0:CallsA Tryz.prog 202 [Proc.x1 s] [] (Proc.x1 s) []):CallsA Tryz.prog 140 [.agg (Proc.cs s)] [] (.agg (Proc.cs s)) []:=by
 refine z7 z9 Tryz.func140 rfl rfl 12 Tryz.ntmps140 (by simp) ?_
 repeat (refine y4 ok _ _ _ _ _ rfl ?_)
 refine z0 c0 ?_ ?_ ?_
 ·rfl
 ·rfl
 repeat (refine y4 ok _ _ _ _ _ rfl ?_)
 exact ⟨[],by decide,rfl,rfl,y3 rfl,trivial⟩
theorem z656 (l:List Proc) (hl:l.length≤1048576) (hel:∀ s∈l,CallsA Tryz.prog 140 [z20 Proc.cs s] [] (z20 Proc.cs s) []):CallsA Tryz.prog 60 [lst 2 Proc.cs l] [] (lst 2 Proc.cs l) []:=by
 refine z7 z9 Tryz.func60 rfl rfl 23 Tryz.ntmps60 (by simp) ?_
 repeat (first|refine y4 ok _ _ _ _ _ rfl ?_|refine y50 (by first|omega|(dsimp only;omega)) ?_)
 refine z110 (fun k:Nat=>([(0,lst 2 Proc.cs l),(3,.sref 0 0 l.length),(4,.int k)],[.cells 2 ((l.take k).map Proc.cs++List.replicate (l.length - k) [.int 0,.nils])])) (fun k=>k≤l.length) (fun k=>l.length - k) 0 (by omega)
  ⟨[0],rfl,by decide,rfl,⟨⟨rfl,rfl⟩,⟨rfl,rfl⟩,⟨rfl,rfl⟩,trivial⟩,⟨z25 (by rfl) (z52 (z4 fun _=>rfl) (z19 rfl)),trivial⟩⟩ ?_
 ·intro k hk
  repeat (refine y4 ok _ _ _ _ _ rfl ?_)
  refine z5 (fun h=>?_) (fun h=>?_)
  ·repeat (first|refine y4 ok _ _ _ _ _ rfl ?_|refine y50 (by omega) ?_)
   refine ⟨_,z94 _ _ _ (by omega),?_⟩
   repeat (fail)
   refine z0 (hel l[k] (y51 _)) ?_ ?_ ?_
   ·rfl
   ·rfl
   repeat ((refine y50 (by omega) ?_))
   refine ⟨[.int 0,.nils],z262 _ _ _ _ (by omega),?_⟩
   repeat (first|refine y4 ok _ _ _ _ _ rfl ?_|refine y50 (by first|omega|(unfold inI;omega)) ?_)
   exact ⟨k+1,[0],by omega,by omega,rfl,by decide,rfl,⟨⟨rfl,rfl⟩,⟨rfl,rfl⟩,⟨rfl,rfl⟩,trivial⟩,⟨z25 (z39 (z261 _ _ _ _ (by omega))) (z52 (z4 fun _=>rfl) (z19 rfl)),trivial⟩⟩
  ·refine y4 ok _ _ _ _ _ rfl ?_
   obtain rfl:k=l.length:=by omega
   refine y92 (SealL.reach (π:=[]) (Bn:=[0]) (env:=[(3,lst 2 Proc.cs l)]) (objs:=[]) ⟨rfl,rfl,by simp,rfl,by simp,⟨?_,trivial⟩,rfl⟩) ?_
   ·exact z329 rfl rfl rfl (by simp) (z125 Proc.unown l) (by simp)
   repeat (refine y4 ok _ _ _ _ _ rfl ?_)
   exact ⟨[],by decide,rfl,rfl,y3 rfl,trivial⟩
theorem z844 (s:Sys) (c0:CallsA Tryz.prog 59 [Sys.x1 s] [] (Sys.x1 s) []) (c1:CallsA Tryz.prog 60 [Sys.x2 s] [] (Sys.x2 s) []):CallsA Tryz.prog 16 [.agg (Sys.cs s)] [] (.agg (Sys.cs s)) []:=by
 refine z7 z9 Tryz.func16 rfl rfl 13 Tryz.ntmps16 (by simp) ?_
 repeat (refine y4 ok _ _ _ _ _ rfl ?_)
 refine z0 c0 ?_ ?_ ?_
 ·rfl
 ·rfl
 repeat (refine y4 ok _ _ _ _ _ rfl ?_)
 refine z0 c1 ?_ ?_ ?_
 ·rfl
 ·rfl
 repeat (refine y4 ok _ _ _ _ _ rfl ?_)
 exact ⟨[],by decide,rfl,rfl,y3 rfl,trivial⟩
structure SysOk (s:Sys):Prop where
 mx:s.mx
 bg:s.bg
 sum:s.z1+s.z2≤1048576
theorem SysOk.of {s:Sys} (h:s.mx) (hz:s.z1+s.z2≤1048576):SysOk s:=by
 refine ⟨h,⟨?_,?_,fun p hp=>?_⟩,hz⟩
 ·unfold Sys.z1 at hz;omega
 ·unfold Sys.z2 tot at hz;omega
 ·have h1:=z180 Proc.sz hp
  unfold Sys.z2 tot at hz
  unfold Proc.sz tot at h1 hz
  refine ⟨by omega,fun e he=>?_⟩
  have h2:=z180 Edge.sz he
  unfold Edge.sz Edge.z1 Edge.z2 at *
  exact ⟨by omega,by omega⟩
theorem szSysT (s:Sys) (h:s.mx) (n:Int) (h0:0≤n) (h1:n≤1048576):CallsA Tryz.prog 13 [.agg s.cs,.int n] [] (.int (bud n (s.z1+s.z2))) [] :=
 z847 s n (fun n h0 h1=>z1100 s.init n h.init h0 h1) (fun n h0 h1=>z661 s.ps n h.len (fun p hp n h0 h1=>z740 p n (fun n h0 h1=>z987 p.es n (h.el p hp).len (fun e he n h0 h1=>z1101 e n
  (fun n h0 h1=>by
   have:=z509 e.gd ((h.el p hp).el e he).gd n h0 h1
   rwa [y17] at this)
  (fun n h0 h1=>by
   have:=z509 e.val ((h.el p hp).el e he).val n h0 h1
   rwa [y17] at this) h0 h1) h0 h1) h0 h1) h0 h1) h0 h1
theorem z1096 {s:Sys} (h:SysOk s):CallsA Tryz.prog 16 [.agg s.cs] [] (.agg s.cs) [] :=
 z844 s (z1097 s.init h.bg.init) (z656 s.ps h.bg.len (fun p hp=>z738 p (z984 p.es (h.bg.el p hp).len (fun e he=>z1099 e
  (by
   have:=z505 e.gd ((h.bg.el p hp).el e he).gd
   rwa [y17] at this)
  (by
   have:=z505 e.val ((h.bg.el p hp).el e he).val
   rwa [y17] at this)))))
end Go.Proofs.YtnfoijopccdjeaaGreat
