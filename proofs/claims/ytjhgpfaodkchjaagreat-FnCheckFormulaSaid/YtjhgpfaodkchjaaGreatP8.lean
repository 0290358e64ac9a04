/- A part of the proofs over this program: T253, T258, T53, T54, T55, T56, T57, T58, T59, T60, T260, T260F, T261, T261S, T120W, T49A, T43E, Shelf, T43, T120, T44, T45, T46, T47, T48, T121, T49, T124. -/
import Derived.Test.YtjhgpfaodkchjaaGreatG0
import Derived.Test.YtjhgpfaodkchjaaGreatG1
import Derived.Test.YtjhgpfaodkchjaaGreatG2
import Derived.Test.YtjhgpfaodkchjaaGreatG3
import Derived.Test.YtjhgpfaodkchjaaGreatP0
import Derived.Test.YtjhgpfaodkchjaaGreatP1
import Derived.Test.YtjhgpfaodkchjaaGreatP2
import Derived.Test.YtjhgpfaodkchjaaGreatP3
import Derived.Test.YtjhgpfaodkchjaaGreatP4
import Derived.Test.YtjhgpfaodkchjaaGreatP5
import Derived.Test.YtjhgpfaodkchjaaGreatP6
import Derived.Test.YtjhgpfaodkchjaaGreatP7
import Derived.Shelf.Sort.Plain
import Derived.Shelf.Slices.CompactI
set_option linter.all false
namespace Go.Proofs.YtjhgpfaodkchjaaGreat
open Go.Gl
attribute [local irreducible] z18 AWP z30 z37 z33 RetS z44
theorem tru_ngS:(Tree.mk 1 0 []).fmB=true∧ngS (.mk 1 0 [])=true∧(Tree.mk 3 0 [.mk 1 0 []]).fmB=true∧ngS (.mk 3 0 [.mk 1 0 []])=true:=by
 have e1:negT (.mk 1 0 [])=.mk 3 0 [.mk 1 0 []]:=by simp [negT,Tree.kind,notT]
 have e2:negT (.mk 3 0 [.mk 1 0 []])=.mk 1 0 []:=by simp [negT,Tree.kind,Tree.kids]
 have n1:(negT (.mk 1 0 [])).nrm false=.mk 3 0 [.mk 1 0 []]:=by simp [e1,z430,z529,notT]
 have n2:(negT (.mk 3 0 [.mk 1 0 []])).nrm false=.mk 1 0 []:=by simp [e2,z529]
 refine ⟨by decide,ngS_of ?_ ?_ ?_,by decide,ngS_of ?_ ?_ ?_⟩
 ·unfold ngB;rw [e1];decide
 ·rw [n1];decide
 ·rw [n1];simp [bscL,Tree.subs,Tree.subss,addT,z76,Tree.kind,List.filter_cons]
 ·unfold ngB;rw [e2];decide
 ·rw [n2];decide
 ·rw [n2];simp [bscL,Tree.subs,Tree.subss,addT,z76,Tree.kind,List.filter_cons]
theorem z987 {g:Graph} {l:List Tree} (hg:glB g l=true):vdI g l (.mk 1 0 [])=0∧vdI g l (.mk 3 0 [.mk 1 0 []])=1:=by
 obtain ⟨a1,a2,a3,a4⟩:=tru_ngS
 have hG:=(z83 g).1 (by unfold glB at hg;exact (Bool.and_eq_true_iff.1 hg).1)
 obtain ⟨π,hp⟩:=path_ex hG
 exact ⟨z492.2 ⟨⟨hg,a1,a2⟩,fun π _=>(z446 _ _ _).2 trivial⟩,z274.2 ⟨⟨hg,a3,a4⟩,π,hp,fun h=>(z282 _ _ _ _).1 h ((z446 _ _ _).2 trivial)⟩⟩
theorem litT_eat {P:Program} {F:FuncId} {g:Graph} {l:List Tree} {q:Int} {R:AC} (h:CallsA P F [.agg g.cs,lst 3 Tree.cs' l,z26 Tree.cs' (.mk q 0 [.mk 1 0 []])] [] R []):CallsA P F [.agg g.cs,lst 3 Tree.cs' l,.agg [.int q,.int 0,.sref 0 0 1]] [.cells 3 [[.int 1,.int 0,.nils]]] R [.dead]:=by
 rw [y15] at h
 have h2:CallsA P F [.agg g.cs,lst 3 Tree.cs' l,.agg [.int q,.int 0,.list 3 1 [[.int 1,.int 0,.nils]]]] [] R []:=h.arg (by (repeat' first|exact y86 _|exact z36|apply z38|(apply z73;rfl)|constructor))
 exact CallsA.eat h2 rfl
theorem nilT {P:Program} {F:FuncId} {c1 c2:AC} {k:Int} {R:AC} (h:CallsA P F [c1,c2,z26 Tree.cs' (.mk k 0 [])] [] R []):CallsA P F [c1,c2,.agg [.int k,.int 0,.nils]] [] R []:=by
 rw [y15] at h
 refine h.arg ?_
 (repeat' first|exact y86 _|exact z36|apply z38|constructor)
set_option maxHeartbeats 6400000 in
theorem z579 (c:List Int) (hc:CodeOk c):CallsA Tryz.prog 6 [lst 1 enU c] [] (.bool true) []:=by
 obtain ⟨g,l,f,⟨hg,hl,hf⟩,cd⟩:=z796 c hc
 have hgm:=hg.mx
 have hlm:=hl.mx
 have hlen:=hc.len
 unfold maxLen at hlen
 have m1:(Tree.mk 1 0 []).mx:=z94 _ (by simp [Tree.sz,Tree.szs,maxLen])
 have m2:(Tree.mk 3 0 [.mk 1 0 []]).mx:=z94 _ (by simp [Tree.sz,Tree.szs,maxLen])
 have k1:=nilT (z257 g hgm l hlm _ m1)
 have k2:=nilT (z375 g hgm l hlm _ m1)
 have k3:=litT_eat (z257 g hgm l hlm _ m2)
 have hz:=vdT_le (g:=g) (l:=l) (f:=.mk 3 0 [.mk 1 0 []])
 have k4:=z297 g hgm (vdT g l (.mk 3 0 [.mk 1 0 []])) (by omega) (by omega)
 by_cases hgl:glB g l=true
 ·obtain ⟨p1,p2⟩:=z987 hgl
  rw [z919 p2] at k4
  rw [p1] at k1 k2
  rw [p2] at k3
  generalize vdT g l (.mk 1 0 [])=t at *
  generalize vdT g l (.mk 3 0 [.mk 1 0 []])=u at *
  refine z7 z16 Tryz.func6 rfl rfl 70 Tryz.ntmps6 (by simp) ?_
  repeat' ((first|(apply y4 ok;rfl)|((apply z6)<;>intro _)|(apply z4 (cd);rfl;rfl)|(apply z4 (k1);rfl;rfl)|(apply z4 (k2);rfl;rfl)|(apply z4 (k4);rfl;rfl)|(apply z10 [4] [] k3;rfl;rfl;rfl;(focus ((repeat' first|exact z17|apply z14)<;>exact z106))))<;>conv=>whnf)
  all_goals (refine rsD [] [] rfl ?_;(repeat' first|exact y86 _|constructor))
 ·have p1:vdI g l (.mk 1 0 [])=3:=z717.2 fun h=>hgl h.1
  have p2:vdI g l (.mk 3 0 [.mk 1 0 []])=3:=z717.2 fun h=>hgl h.1
  rw [p1] at k1 k2
  rw [p2] at k3
  generalize vdT g l (.mk 1 0 [])=t at *
  generalize vdT g l (.mk 3 0 [.mk 1 0 []])=u at *
  refine z7 z16 Tryz.func6 rfl rfl 70 Tryz.ntmps6 (by simp) ?_
  repeat' ((first|(apply y4 ok;rfl)|((apply z6)<;>intro _)|(apply z4 (cd);rfl;rfl)|(apply z4 (k1);rfl;rfl)|(apply z4 (k2);rfl;rfl)|(apply z10 [4] [] k3;rfl;rfl;rfl;(focus ((repeat' first|exact z17|apply z14)<;>exact z106))))<;>conv=>whnf)
  all_goals (refine rsD [] [] rfl ?_;(repeat' first|exact y86 _|constructor))
end Go.Proofs.YtjhgpfaodkchjaaGreat
namespace Go.Proofs.YtjhgpfaodkchjaaGreat
open Go.Gl
attribute [local irreducible] z18 AWP z30 z37 z33
def lnx (a n:Nat) (i:Nat):Nat:=if i+1=n then a else i+1
theorem z863 (a n i:Nat):(nxW n a i).toNat=lnx a n i:=by
 unfold nxW lnx;split<;>simp
theorem z451 {a n i:Nat} (ha:a < n) (hi:i < n):lnx a n i < n:=by
 unfold lnx;split<;>omega
theorem z1153 {a n:Nat} : ∀ (d i:Nat),i+(d+1)=n→itN (lnx a n) (d+1) i=a
 |0,i,h=>by show lnx a n i=a;unfold lnx;rw [if_pos (by omega)]
 |d+1,i,h=>by
  show itN (lnx a n) (d+1) (lnx a n i)=a
  have e:lnx a n i=i+1:=by unfold lnx;rw [if_neg (by omega)]
  rw [e]
  exact z1153 d (i+1) (by omega)
theorem lnx_inf {a n:Nat} (ha:a < n) (m:Nat):∃ k,m≤k∧itN (lnx a n) k 0=a:=by
 have h1:=z613 (nx:=lnx a n) (fun i hi=>z451 ha hi) (i:=0) (by omega) m
 refine ⟨m+(n - 1 - itN (lnx a n) m 0+1),by omega,?_⟩
 rw [z685]
 exact z1153 _ _ (by omega)
theorem z831 {g:Graph} {t:Trace} (ht:trB g t=true):t.stem.length < t.all.length∧GPath g (fun k=>t.all.getD (itN (lnx t.stem.length t.all.length) k 0) 0):=by
 have h0:=ht
 unfold trB at h0
 simp only [y71,decide_eq_true_eq] at h0
 have hlen:t.stem.length < t.all.length:=by
  have e:t.all.length=t.stem.length+t.loop.length:=by unfold Trace.all;simp
  omega
 refine ⟨hlen,h0.2.2.1,fun k=>?_⟩
 have h1:=z613 (nx:=lnx t.stem.length t.all.length) (fun i hi=>z451 hlen hi) (i:=0) (by omega) k
 have h2:=(trB_step ht h1).2
 rw [z863,← z477 (lnx t.stem.length t.all.length)] at h2
 exact h2
theorem tw_word {g:Graph} {l:List Tree} {t:Trace} (h:twB g l t=true):(fun k=>(twT g l t).all.getD (itN (lnx t.stem.length t.all.length) k 0) 0)=gW g l (fun k=>t.all.getD (itN (lnx t.stem.length t.all.length) k 0) 0):=by
 have ht:trB g t=true:=by
  have h':=h
  unfold twB at h'
  simp only [y71] at h'
  exact h'.2.1
 have hlen:=(z831 ht).1
 have e:twT g l t=z187 (g.st.map (z43 l)) t:=by unfold twT;rw [if_pos h]
 funext k
 have h1:=z613 (nx:=lnx t.stem.length t.all.length) (fun i hi=>z451 hlen hi) (i:=0) (by omega) k
 rw [e,z636,z15 (by simpa using h1),List.getElem_map]
 show _=(g.st.map (z43 l)).getD (t.all.getD _ 0).toNat 0
 rw [z15 h1]
 rfl
noncomputable def satT (g:Graph) (l:List Tree) (t:Trace) (f:Tree):Bool:=gB (f.satW t.all.length (lnx t.stem.length t.all.length) (twT g l t).all) 0
theorem z939 {g:Graph} {l:List Tree} {t:Trace} {f:Tree} (hf:f.fmB=true) (h:twB g l t=true):satT g l t f=true↔f.sem (gW g l (fun k=>t.all.getD (itN (lnx t.stem.length t.all.length) k 0) 0)) 0:=by
 have ht:trB g t=true:=by
  have h':=h
  unfold twB at h'
  simp only [y71] at h'
  exact h'.2.1
 have hlen:=(z831 ht).1
 rw [← tw_word h]
 exact satW_sem (nx:=lnx t.stem.length t.all.length) (fun i hi=>z451 hlen hi) (by omega) _ f (y24 hf) 0
theorem z1033 {g:Graph} {l:List Tree} {t:Trace} {f:Tree} (hv:vdI g l f=0) (h:twB g l t=true):satT g l t f=true:=by
 have hh:=z492.1 hv
 have ht:trB g t=true:=by
  have h':=h
  unfold twB at h'
  simp only [y71] at h'
  exact h'.2.1
 exact (z939 hh.1.2.1 h).2 (hh.2 _ (z831 ht).2)
theorem run_of {g:Graph} {l:List Tree} {a:Aut} (h1:(glB g l && autB a)=true) {σ:Nat→Int} (s0:σ 0∈a.ini) (s1:∀ k,σ (k+1)∈(z49 g (g.st.map (z43 l)) a).getD (σ k).toNat []) (s2:∀ m,∃ k,m≤k∧a.acc.getD (σ k % a.acc.length).toNat false=true):ARun a (gW g l (fun k=>σ k / a.acc.length)) (fun k=>σ k % a.acc.length):=by
 obtain ⟨h3,hab⟩:=Bool.and_eq_true_iff.1 h1
 have hG:=(z83 g).1 (by unfold glB at h3;exact (Bool.and_eq_true_iff.1 h3).1)
 have hA:=z140.1 hab
 obtain ⟨f1,f2,f3,f4,f5⟩:=z196 hG hA (g.st.map (z43 l))
 have hn:(0:Int) < a.acc.length:=by have:=hA.1;omega
 have hin:=z1119 f1 s1 (f2 _ s0)
 have hst:=fun k=>z384 (hin k).1 (s1 k) hA
 obtain ⟨i0,hi0,ei0⟩:=List.mem_iff_getElem.1 s0
 have hr0:=(hA.2.2.1 i0 hi0 hi0).1
 rw [ei0] at hr0
 have hd0:=z1201 (b:=0) hn hr0.1 (show σ 0 < a.acc.length by omega)
 rw [Int.zero_mul,Int.zero_add] at hd0
 refine ⟨by show σ 0 % _∈_;rw [hd0.2];exact s0,fun k=>?_,s2⟩
 obtain ⟨i,to,e,c1,c2,c3,c4,c5,c6,c7,c8⟩:=hst k
 refine ⟨e,c3,c6.symm,c8.symm,?_⟩
 unfold gW
 show onB e ((g.st.map (z43 l)).getD (σ k / a.acc.length).toNat 0)=true
 rw [c5,y77];exact c4
theorem z1042 {g:Graph} {l:List Tree} {f:Tree} (hv:vdI g l f=1):¬ f.sem (gW g l (fun k=>(vdT g l f).all.getD (itN (lnx (vdT g l f).stem.length (vdT g l f).all.length) k 0) 0)) 0:=by
 obtain ⟨⟨hg,hf,hs⟩,_⟩:=z274.1 hv
 have hva:=z392 hs
 have h1:(glB g l && autB (ngA f))=true:=by rw [hg,hva];rfl
 have hx:(ftO g l (ngA f)).isSome=true:=by
  unfold vdI at hv
  rw [if_pos (by rw [hg,hf];rfl),if_pos hs] at hv
  by_cases h5:(ftO g l (ngA f)).isSome=true
  ·exact h5
  ·rw [if_neg h5] at hv;cases hv
 obtain ⟨⟨st,lp⟩,hsome⟩:=Option.isSome_iff_exists.1 hx
 have et:vdT g l f=⟨st,lp⟩:=by
  unfold vdT
  rw [if_pos (by rw [hg,hf];rfl),if_pos hs]
  unfold ftL
  rw [hsome];rfl
 rw [et]
 obtain ⟨s,q,F,rfl,rfl,_⟩:=z545 h1 hsome
 intro hsat
 have hG:=(z83 g).1 (by unfold glB at hg;exact (Bool.and_eq_true_iff.1 hg).1)
 have hL:=y8 (by unfold glB at hg;exact (Bool.and_eq_true_iff.1 hg).2)
 have hpos:=F.pos
 have e1:(Trace.mk (stL s (ngA f).acc.length) (stL q (ngA f).acc.length)).all=(s++q).map fun x=>x / ((ngA f).acc.length:Int):=by unfold Trace.all stL;simp
 have e2:(Trace.mk (stL s (ngA f).acc.length) (stL q (ngA f).acc.length)).all.length=(s++q).length:=by rw [e1];simp
 have e3:(Trace.mk (stL s (ngA f).acc.length) (stL q (ngA f).acc.length)).stem.length=s.length:=by show (stL s _).length=_;unfold stL;simp
 rw [e2,e3,e1] at hsat
 have hlt:s.length < (s++q).length:=by simp;omega
 have hin:∀ k,itN (lnx s.length (s++q).length) k 0 < (s++q).length:=fun k=>z613 (nx:=lnx s.length (s++q).length) (fun i hi=>z451 hlt hi) (by omega) k
 have hq0:(s++q).getD s.length 0=q.getD 0 0:=by
  rw [y68,y67 (y52 _),Nat.sub_self,← y68]
 have hrun:=run_of h1 (σ:=fun k=>(s++q).getD (itN (lnx s.length (s++q).length) k 0) 0) F.ini (fun k=>by
  show (s++q).getD (itN _ (k+1) 0) 0∈_
  rw [z477]
  have hk:=hin k
  generalize itN (lnx s.length (s++q).length) k 0=i at *
  unfold lnx
  split
  ·rename_i hi
   rw [hq0,show (s++q).getD i 0=q.getD (q.length - 1) 0 by
    rw [y68,y67 (by simp at hi;omega),← y68]
    congr 1
    simp at hi;omega]
   exact F.back
  ·exact F.path i (by omega)) (fun m=>by
  obtain ⟨k,k1,k2⟩:=lnx_inf hlt m
  refine ⟨k,k1,?_⟩
  show (ngA f).acc.getD ((s++q).getD (itN _ k 0) 0 % _).toNat false=true
  rw [k2,hq0];exact F.acc)
 have ew:gW g l (fun k=>(s++q).getD (itN (lnx s.length (s++q).length) k 0) 0 / ((ngA f).acc.length:Int))=gW g l (fun k=>((s++q).map fun x=>x / ((ngA f).acc.length:Int)).getD (itN (lnx s.length (s++q).length) k 0) 0):=by
  congr 1
  funext k
  rw [z15 (by simpa using hin k),z15 (by simpa using hin k),List.getElem_map]
 change ARun _ (gW g l (fun k=>(s++q).getD (itN (lnx s.length (s++q).length) k 0) 0 / ((ngA f).acc.length:Int))) _ at hrun
 rw [ew] at hrun
 have h2:=hs
 unfold ngS at h2
 rw [y71] at h2
 have ea:ngA f=trA (negT f):=by unfold ngA ngT;rw [if_pos h2.1,if_pos h2.1]
 have eb:ngT f=negT f:=by unfold ngT;rw [if_pos h2.1]
 have hz:=z355 h2.1
 rw [eb] at h2 hz
 rw [ea] at hrun hsat
 have:=(z644 _ (by omega) h2.2 (gW_nn hL _)).1 ⟨_,hrun⟩
 exact (z670 (y24 hf) _ _).1 this hsat
theorem z1041 {g:Graph} {l:List Tree} {f:Tree} (hv:vdI g l f=1) (h:twB g l (vdT g l f)=true):satT g l (vdT g l f) f=false :=
 (y72 _).mp fun hsat=>z1042 hv ((z939 (z274.1 hv).1.2.1 h).1 hsat)
end Go.Proofs.YtjhgpfaodkchjaaGreat
namespace Go.Proofs.YtjhgpfaodkchjaaGreat
open Go.Gl
section
attribute [local irreducible] z18
end
end Go.Proofs.YtjhgpfaodkchjaaGreat
namespace Go.Proofs.YtjhgpfaodkchjaaGreat
open Go.Gl
attribute [local irreducible] z18 AWP z30 z37 z33
def z303 (l:List Bool):List AC:=[lst 1 enB l]
theorem GB.rowB {g:Graph} (h:GB g):∀ i (hi:i < g.nx.length),1≤g.nx[i].length∧g.nx[i].length≤60∧InN g.st.length g.nx[i]:=fun i hi=>by
 obtain ⟨⟨g1,g2⟩,g3,g4⟩:=h
 have h4:=g4 i hi hi (by omega)
 refine ⟨by have:=h4.2.1;omega,by have:=h4.2.1;omega,fun x hx=>?_⟩
 obtain ⟨j,hj,rfl⟩:=List.mem_iff_getElem.1 hx
 have:=(h4.2.2.2 j hj hj).1
 omega
theorem z137 {S:List Bool} {i:Nat} (hi:i < S.length):(S.map enB)[i]?=some (enB (gB S i)):=by
 unfold gB
 rw [z15 hi,y51,y45 hi];rfl
theorem GB.inN {g:Graph} (h:GB g):∀ r∈g.nx,InN g.st.length r:=fun r hr=>by
 obtain ⟨i,hi,rfl⟩:=List.mem_iff_getElem.1 hr
 exact (GB.rowB h i hi).2.2
theorem keepBL {f:FuncId} {args:List AC} {n:Nat} {l:List Bool} (h:CallsA Tryz.prog f args [] (.sref 0 0 n) [.cells 1 (l.map enB)]) (hl:l.length=n):CallsA Tryz.prog f args [] (lst 1 enB l) []:=by
 subst hl
 exact h.keep (z623 _) (by simp)
end Go.Proofs.YtjhgpfaodkchjaaGreat
namespace Go.Proofs.YtjhgpfaodkchjaaGreat
open Go.Gl
attribute [local irreducible] z18 AWP z30 z37 z33 RetS z44
theorem tru2_ok (a b:List Bool) (i:Nat) (x:Bool) (ha:i < a.length) (hb:i < b.length) (h1:a.length≤1048576) (h2:b.length≤1048576):CallsA Tryz.prog 116 [.int i,.bool x,.pt [lst 1 z303 [a,b]]] [] (.bool (unF (gB a) (gB b) i x)) []:=by
 have ga:=z137 ha
 have gb:=z137 hb
 unfold unF
 generalize gB a i=p at *
 generalize gB b i=q at *
 refine z7 z16 Tryz.func116 rfl rfl 23 Tryz.ntmps116 (by simp) ?_
 cases q<;>cases p
 all_goals
  repeat' ((first|(apply y4 ok;rfl)|(refine z12 (i:=i) rfl gb ?_)|(refine z12 (i:=i) rfl ga ?_)|(refine z12 (i:=1) rfl rfl ?_)|(refine z12 (i:=0) rfl rfl ?_)|(apply y43;omega))<;>conv=>whnf)
  all_goals (refine rsD [] [] rfl ?_;(repeat' first|exact y86 _|constructor))
theorem tru3_ok (a b:List Bool) (i:Nat) (x:Bool) (ha:i < a.length) (hb:i < b.length) (h1:a.length≤1048576) (h2:b.length≤1048576):CallsA Tryz.prog 117 [.int i,.bool x,.pt [lst 1 z303 [a,b]]] [] (.bool (reF (gB a) (gB b) i x)) []:=by
 have ga:=z137 ha
 have gb:=z137 hb
 unfold reF
 generalize gB a i=p at *
 generalize gB b i=q at *
 refine z7 z16 Tryz.func117 rfl rfl 23 Tryz.ntmps117 (by simp) ?_
 cases q<;>cases p
 all_goals
  repeat' ((first|(apply y4 ok;rfl)|(refine z12 (i:=i) rfl gb ?_)|(refine z12 (i:=i) rfl ga ?_)|(refine z12 (i:=1) rfl rfl ?_)|(refine z12 (i:=0) rfl rfl ?_)|(apply y43;omega))<;>conv=>whnf)
  all_goals (refine rsD [] [] rfl ?_;(repeat' first|exact y86 _|constructor))
theorem tru4_ok (a:List Bool) (i:Nat) (x:Bool) (ha:i < a.length) (h1:a.length≤1048576):CallsA Tryz.prog 118 [.int i,.bool x,.pt [lst 1 z303 [a]]] [] (.bool (unF (fun _=>true) (gB a) i x)) []:=by
 have ga:=z137 ha
 unfold unF
 generalize gB a i=p at *
 refine z7 z16 Tryz.func118 rfl rfl 15 Tryz.ntmps118 (by simp) ?_
 cases p
 all_goals
  repeat' ((first|(apply y4 ok;rfl)|(refine z12 (i:=i) rfl ga ?_)|(refine z12 (i:=0) rfl rfl ?_)|(apply y43;omega))<;>conv=>whnf)
  all_goals (refine rsD [] [] rfl ?_;(repeat' first|exact y86 _|constructor))
theorem tru5_ok (a:List Bool) (i:Nat) (x:Bool) (ha:i < a.length) (h1:a.length≤1048576):CallsA Tryz.prog 119 [.int i,.bool x,.pt [lst 1 z303 [a]]] [] (.bool (reF (fun _=>false) (gB a) i x)) []:=by
 have ga:=z137 ha
 unfold reF
 generalize gB a i=p at *
 refine z7 z16 Tryz.func119 rfl rfl 15 Tryz.ntmps119 (by simp) ?_
 cases p
 all_goals
  repeat' ((first|(apply y4 ok;rfl)|(refine z12 (i:=i) rfl ga ?_)|(refine z12 (i:=0) rfl rfl ?_)|(apply y43;omega))<;>conv=>whnf)
  all_goals (refine rsD [] [] rfl ?_;(repeat' first|exact y86 _|constructor))
set_option maxHeartbeats 6400000 in
theorem z676 (t:Trace) (n:Nat) (hn:t.stem.length+t.loop.length=n) (h1:t.stem.length < n) (h160:n≤160) (s:Bool) (h:Nat→Bool→Bool) (hm:z1065 s (stH h (lnx t.stem.length n)) n) (f:FuncId) (c:List AC) (hf:∀ (i:Nat) (x:Bool),i < n→CallsA Tryz.prog f [.int i,.bool x,.pt c] [] (.bool (h i x)) []) (S0:List Bool) (hS0:S0.length=n):CallsA Tryz.prog 114 [.bool s,.fn (.func f) [] [.pt c],.ptr 0 none 0,.pt t.cs] [.cells 1 [[.sref 1 0 n]],.cells 1 (S0.map enB)] (.tup []) [.cells 1 [[.sref 1 0 n]],.cells 1 ((lim s (stH h (lnx t.stem.length n)) n).map enB)]:=by
 refine z7 z16 Tryz.func114 rfl rfl 47 Tryz.ntmps114 (by simp) ?_
 repeat' (((apply y4 ok;rfl))<;>conv=>whnf)
 refine z63 (fun x:Nat×List Bool=>([(0,.bool s),(1,.fn (.func f) [] [.pt c]),(2,.ptr 0 none 0),(3,.pt t.cs),(11,.int n),(12,.int x.1)],[.cells 1 [[.sref 1 0 n]],.cells 1 (x.2.map enB)])) (fun x=>x.1≤n∧x.2.length=n∧∀ j,j < x.1→gB x.2 j=s) (fun x=>n - x.1) (0,S0) ⟨y53 _,hS0,fun j hj=>by omega⟩ (by refine swR [0,1] [] rfl rfl ?_;(repeat' first|exact y86 _|exact z9 _|apply y87|refine z8 rfl (z5 (fun _=>rfl)) ?_|constructor)) ?_
 rintro ⟨i,S⟩ ⟨hi,hSl,hSe⟩
 dsimp only at hi hSl hSe ⊢
 by_cases hil:i < n
 ·have hg:=z137 (S:=S) (i:=i) (by omega)
  repeat' ((first|(apply y4 ok;rfl)|(refine z12 (i:=i) rfl hg ?_)|(apply y43;first|omega|(unfold inI;omega))|((apply z6)<;>intro _))<;>conv=>whnf)
  all_goals try (exfalso;omega)
  all_goals
   refine z25 (i+1,S.set i s) ⟨by show i+1≤_;omega,by simp [hSl],fun j hj=>?_⟩ (by show n - (i+1) < n - i;omega) (by refine swR [0,1] [] rfl rfl ?_;(repeat' first|exact y86 _|apply y87|refine z58 rfl (z5 (fun _=>rfl)) ?_|refine z184 (by omega) ?_|constructor))
   dsimp only at hj ⊢
   rw [z618 (by omega)]
   split
   ·rfl
   ·exact hSe j (by omega)
 ·obtain rfl:n=i:=by omega
  have e:S=List.replicate n s:=by
   apply y75 (by simp [hSl])
   intro j h1 h2
   have:=hSe j (by omega)
   unfold gB at this
   rw [z15 h1] at this
   simp [this]
  subst e
  clear hSe hSl hil hi
  repeat' ((first|(apply y4 ok;rfl)|(apply y43;omega)|(((apply z11;omega));intro _)|((apply z6)<;>intro _))<;>conv=>whnf)
  all_goals try (exfalso;omega)
  have hlt:=fun (i:Nat) (hi:i < n)=>z451 h1 hi
  refine z63 (fun x:Bool×List Bool=>([(1,.fn (.func f) [] [.pt c]),(2,.ptr 0 none 0),(3,.pt t.cs),(7,.bool x.1)],[.cells 1 [[.sref 1 0 n]],.cells 1 (x.2.map enB)])) (fun x=>Gl.Way s (stH h (lnx t.stem.length n)) n x.2∧(x.1=false→∀ i,i < n→stH h (lnx t.stem.length n) i x.2=gB x.2 i)) (fun x=>2 * cntS s x.2+(if x.1 then 1 else 0)) (true,List.replicate n s) ⟨Gl.Way.start,fun h=>by cases h⟩ (by refine swR [0,1] [] rfl rfl ?_;(repeat' first|exact y86 _|exact z9 _|apply y87|refine z8 rfl (z5 (fun _=>rfl)) ?_|constructor)) ?_
  rintro ⟨ch,S⟩ ⟨hw,hfx⟩
  dsimp only at hw hfx ⊢
  cases ch
  ·have hR:=hw.ends (hfx rfl)
   rw [z951 hR]
   have hl:=hw.len
   repeat' (((apply y4 ok;rfl))<;>conv=>whnf)
   all_goals (refine rsD [0,1] [] rfl ?_;(repeat' first|exact y86 _|exact z9 _|apply y87|refine z8 rfl (z5 (fun _=>rfl)) ?_|constructor))
  ·have hl:=hw.len
   repeat' ((first|(apply y4 ok;rfl)|(apply y43;(unfold inI;omega)))<;>conv=>whnf)
   refine z63 (fun y:Nat×Bool×List Bool=>([(1,.fn (.func f) [] [.pt c]),(2,.ptr 0 none 0),(3,.pt t.cs),(7,.bool y.2.1),(8,.int ((y.1:Int) - 1))],[.cells 1 [[.sref 1 0 n]],.cells 1 (y.2.2.map enB)])) (fun y=>y.1≤n∧Gl.Way s (stH h (lnx t.stem.length n)) n y.2.2∧(y.2.1=false→y.2.2=S∧∀ i,y.1≤i→i < n→stH h (lnx t.stem.length n) i S=gB S i)∧(y.2.1=true→cntS s y.2.2+1≤cntS s S)) (fun y=>y.1) (n,false,S) ⟨y52 _,hw,fun _=>⟨rfl,fun i hi hi2=>by dsimp only at hi;omega⟩,fun h=>by cases h⟩ (by refine swR [0,1] [] rfl rfl ?_;(repeat' first|exact y86 _|exact z9 _|apply y87|refine z8 rfl (z5 (fun _=>rfl)) ?_|constructor)) ?_
   rintro ⟨k,c',S'⟩ ⟨hk1,hw',hc1,hc2⟩
   dsimp only at hk1 hw' hc1 hc2 ⊢
   have hl':=hw'.len
   cases k with
   |zero =>
    repeat' (((apply y4 ok;rfl))<;>conv=>whnf)
    all_goals
     refine z25 (c',S') ⟨hw',fun hc i hi=>?_⟩ ?_ (by refine swR [0,1] [] rfl rfl ?_;(repeat' first|exact y86 _|exact z9 _|apply y87|refine z8 rfl (z5 (fun _=>rfl)) ?_|constructor))
     ·dsimp only at hc ⊢
      rw [(hc1 hc).1];exact (hc1 hc).2 i (y53 _) hi
     ·dsimp only
      cases c'
      ·rw [(hc1 rfl).1];simp
      ·have:=hc2 rfl;simp;omega
   |succ j =>
    rw [show ((j+1:Nat):Int) - 1=(j:Int) by omega]
    have hj:j < n:=by omega
    have cn:=z1144 t (by omega) j (by omega)
    rw [hn] at cn
    have hnx:=z863 t.stem.length n j
    have hlj:=hlt j hj
    have hnn:0≤nxW n t.stem.length j:=by unfold nxW;split<;>omega
    have gn:=z137 (S:=S') (i:=lnx t.stem.length n j) (by omega)
    have gj:=z137 (S:=S') (i:=j) (by omega)
    have ch:=hf j (gB S' (lnx t.stem.length n j)) hj
    have hH:stH h (lnx t.stem.length n) j S'=h j (gB S' (lnx t.stem.length n j)):=rfl
    have hput:=hw'.put hm hj (hw'.post j hj) (ordB.refl s _)
    rw [hH] at hput
    have hold:=fun hc=>(hc1 hc).1
    by_cases he:h j (gB S' (lnx t.stem.length n j))=gB S' j
    ·generalize hx:gB S' (lnx t.stem.length n j)=x at *
     generalize nxW n t.stem.length j=m at *
     repeat' ((first|(apply y4 ok;rfl)|(apply z22;kernel_rfl)|(refine z12 (i:=lnx t.stem.length n j) (by omega) gn ?_)|(refine z12 (i:=j) rfl gj ?_)|(apply y43;first|omega|(unfold inI;omega))|((apply z46)<;>intro _)|(apply z4 (cn);rfl;rfl)|(apply z4 (ch);rfl;rfl))<;>conv=>whnf)
     all_goals first|(exfalso;simp_all;done)|skip
     all_goals
      refine z25 (j,c',S') ⟨by show j≤n;omega,hw',fun hc=>⟨(hc1 hc).1,fun i hi hi2=>?_⟩,hc2⟩ (by show j < j+1;omega) (by refine swR [0,1] [] rfl rfl ?_;(repeat' first|exact y86 _|exact z9 _|apply y87|refine z8 rfl (z5 (fun _=>rfl)) ?_|constructor))
      dsimp only at hi hc
      by_cases hij:i=j
      ·subst hij
       rw [← (hc1 hc).1,hH];exact he
      ·exact (hc1 hc).2 i (by omega) hi2
    ·have hcn:=hput.2 he
     generalize hx:gB S' (lnx t.stem.length n j)=x at *
     generalize nxW n t.stem.length j=m at *
     repeat' ((first|(apply y4 ok;rfl)|(apply z22;kernel_rfl)|(refine z12 (i:=lnx t.stem.length n j) (by omega) gn ?_)|(refine z12 (i:=j) rfl gj ?_)|(apply y43;first|omega|(unfold inI;omega))|((apply z46)<;>intro _)|(apply z4 (cn);rfl;rfl)|(apply z4 (ch);rfl;rfl))<;>conv=>whnf)
     all_goals first|(exfalso;simp_all;done)|skip
     all_goals
      refine z25 (j,true,S'.set j (h j x)) ⟨by show j≤n;omega,hput.1,(fun hc=>by dsimp only at hc;cases hc),fun _=>?_⟩ (by show j < j+1;omega) (by refine swR [0,1] [] rfl rfl ?_;(repeat' first|exact y86 _|apply y87|refine z58 rfl (z5 (fun _=>rfl)) ?_|refine z184 (by omega) ?_|constructor))
      dsimp only
      cases c'
      ·rw [(hc1 rfl).1] at hcn ⊢;omega
      ·have:=hc2 rfl;omega
theorem z909 (t:Trace):t.stem.length+t.loop.length=t.all.length:=by unfold Trace.all;simp
theorem z315 {n:Nat} {nx:Nat→Nat} (hnx:∀ i,i < n→nx i < n) (L:List Int) (t:Tree):(t.satW n nx L).length=n:=by
 rw [y30]
 unfold opW
 split
 ·exact z675 (z170 hnx (fun i=>by unfold unF;generalize gB _ i=p;generalize gB _ i=q;cases p<;>cases q<;>simp) _)
 split
 ·exact z675 (z170 hnx (fun i=>by unfold reF;generalize gB _ i=p;generalize gB _ i=q;cases p<;>cases q<;>simp) _)
 split
 ·exact z675 (z170 hnx (fun i=>by unfold unF;generalize gB _ i=p;cases p<;>simp) _)
 split
 ·exact z675 (z170 hnx (fun i=>by unfold reF;generalize gB _ i=p;cases p<;>simp) _)
 split
 ·simp
 ·simp
theorem z343 (n:Nat):List.replicate n [AC.bool false]=(List.replicate n false).map enB:=by rw [List.map_replicate];rfl
theorem z1087 (A B:Nat→Bool):∀ i,unF A B i false=true→unF A B i true=true:=fun i=>by unfold unF;cases A i<;>cases B i<;>simp
theorem z1126 (A B:Nat→Bool):∀ i,reF A B i false=true→reF A B i true=true:=fun i=>by unfold reF;cases A i<;>cases B i<;>simp
theorem z622 {S R:List Bool} {n:Nat} (h1:S.length=n) (h2:R.length=n) (h:∀ j,j < n→gB S j=gB R j):S=R:=by
 apply y75 (by rw [h1,h2])
 intro j a b
 have:=h j (by omega)
 unfold gB at this
 rwa [z15 a,z15 b] at this
theorem z449 {S R:List Bool} {i n:Nat} {v:Bool} (h1:S.length=n) (hi:i < n) (hv:v=gB R i) (h:∀ j,j < i→gB S j=gB R j):(S.set i v).length=n∧∀ j,j < i+1→gB (S.set i v) j=gB R j:=by
 refine ⟨by simp [h1],fun j hj=>?_⟩
 rw [z618 (by omega)]
 split
 ·rename_i e;rw [e];exact hv
 ·exact h j (by omega)
set_option maxHeartbeats 12800000 in
theorem z986 (t:Trace) (h1:1≤t.loop.length) (h160:t.all.length≤160) (hLr:∀ i,i < t.all.length→0≤t.all.getD i 0∧t.all.getD i 0≤7) (f:Tree):f.goodF→CallsA Tryz.prog 51 [.agg t.cs,z26 Tree.cs' f] [] (.sref 0 0 t.all.length) [.cells 1 ((f.satW t.all.length (lnx t.stem.length t.all.length) t.all).map enB)]:=by
 induction f using y27 with|h f ih=>?_
 intro hg
 have hn:=z909 t
 have hs:t.stem.length < t.all.length:=by omega
 have hlt:=fun (i:Nat) (hi:i < t.all.length)=>z451 hs hi
 have hkl:f.kids.length≤2:=by
  cases y22 hg<;>simp [Tree.kids]
 have cc:∀ u∈f.kids,CallsA Tryz.prog 51 [.agg t.cs,z26 Tree.cs' u] [] (lst 1 enB (u.satW t.all.length (lnx t.stem.length t.all.length) t.all)) []:=fun u hu=>keepBL (ih u hu ((y23 hg).2.2.2 u hu)) (z315 hlt t.all u)
 clear ih
 have ca:=all_ok t h1 (by omega)
 have hlen:=z315 hlt t.all f
 have hks2:(f.kids.map (Tree.satW t.all.length (lnx t.stem.length t.all.length) t.all)).length=f.kids.length:=by simp
 have hkat:∀ i (hi:i < f.kids.length) (h2:i < (f.kids.map (Tree.satW t.all.length (lnx t.stem.length t.all.length) t.all)).length),((f.kids.map (Tree.satW t.all.length (lnx t.stem.length t.all.length) t.all)))[i]=f.kids[i].satW t.all.length (lnx t.stem.length t.all.length) t.all:=fun i hi _=>by simp
 generalize hks:f.kids.map (Tree.satW t.all.length (lnx t.stem.length t.all.length) t.all)=ks at *
 rw [y15 f]
 refine z7 z16 Tryz.func51 rfl rfl 145 Tryz.ntmps51 (by simp) ?_
 repeat' ((first|(apply y4 ok;rfl)|(apply z4 (ca);rfl;rfl))<;>conv=>whnf)
 refine y85 (y88 1 rfl) ?_
 refine z63 (fun x:Nat×List (List Bool)=>([(2,.ptr 0 none 0),(3,.ptr 1 none 0),(5,ints t.all),(6,.ptr 2 none 0),(15,lst 3 Tree.cs' f.kids),(16,.int f.kids.length),(17,.int x.1)],[.cells 2 [t.cs],.cells 3 [[.int f.kind,.int f.val,lst 3 Tree.cs' f.kids]],.cells 1 [[.sref 3 0 x.2.length]],.cells 1 (x.2.map z303)])) (fun x=>x.1≤f.kids.length∧ks.take x.1=x.2) (fun x=>f.kids.length - x.1) (0,[]) ⟨y53 _,rfl⟩ (by refine swR [0,1,2,3] [] rfl rfl ?_;(repeat' first|exact y86 _|exact z48|apply y87|refine z8 rfl (z23) ?_|constructor)) ?_
 rintro ⟨i,K⟩ ⟨hi,hK⟩
 dsimp only at hi hK ⊢
 have hKl:K.length=i:=by rw [← hK];simp;omega
 by_cases hil:i < f.kids.length
 ·have gk:(f.kids.map Tree.cs')[i]?=some (Tree.cs' f.kids[i]):=by rw [y51,y45 hil];rfl
  have ci:=cc f.kids[i] (y44 _)
  rw [← hkat i hil (by omega)] at ci
  have ht2:ks.take (i+1)=K++[ks[i]'(by omega)]:=by rw [y50 (by omega),hK]
  generalize ks[i]'(by omega)=R at *
  generalize f.kids[i]=u at *
  repeat' ((first|(apply y4 ok;rfl)|(apply z22;kernel_rfl)|(refine z12 (i:=i) rfl gk ?_)|(apply y43;first|omega|(unfold inI;omega)|((try dsimp only);simp only [y49,y48,y47,y46,y58,y59];omega)|exact ⟨rfl,z20 rfl z27⟩)|((apply z6)<;>intro _)|(apply z4 (ci);rfl;rfl))<;>conv=>whnf)
  all_goals try (exfalso;omega)
  all_goals refine z25 (i+1,K++[R]) ⟨by show i+1≤_;omega,ht2⟩ (by show f.kids.length - (i+1) < f.kids.length - i;omega) (by refine swR [0,1,2,6] [] rfl rfl ?_;(repeat' first|exact y86 _|(refine z52 ?_;((simp;done)))|apply y87|((refine z35 rfl ?_ ?_);(focus ((repeat' (first|exact z5 (fun _=>rfl)|apply z21));done)))|(refine z78 ?_ ?_;(focus (omega)))|constructor))
 ·obtain rfl:ks=K:=by rw [← hK,y57 (by omega)]
  clear hK
  repeat' ((first|((fail_if_success apply z93 8);(fail_if_success apply z77 8);apply y4 ok;rfl)|(apply y43;omega)|(((with_reducible apply z11;omega));intro _)|((apply z6)<;>intro _))<;>conv=>whnf)
  all_goals try (exfalso;omega)
  refine y85 (show Gl.Reach _ _ (mkSt _ [(2,.ptr 0 none 0),(3,.ptr 1 none 0),(5,ints t.all),(6,.ptr 2 none 0)] [.cells 2 [t.cs],.cells 3 [[.int f.kind,.int f.val,lst 3 Tree.cs' f.kids]],.cells 1 [[lst 1 z303 ks]]]) from (by refine swR [0,1,2] [3] rfl rfl ?_;(repeat' first|exact y86 _|apply y87|((apply z41 rfl rfl rfl);(focus ((repeat ((exact z34 (fun _=>rfl) _)));done));(focus (((simp;done));done)))|constructor))) ?_
  refine y85 (show Gl.Reach _ _ (mkSt _ [(2,.pt t.cs),(3,.pt [.int f.kind,.int f.val,lst 3 Tree.cs' f.kids]),(5,ints t.all),(6,.pt [lst 1 z303 ks])] []) from (by refine swR [] [0,1,2] rfl rfl ?_;(repeat' first|exact y86 _|constructor))) ?_
  cases y22 hg with
  |tr =>
    simp only [Tree.kids,List.map_nil] at hks
    subst hks
    have hRv:∀ i,i < t.all.length→gB ((Tree.mk 1 0 []).satW t.all.length (lnx t.stem.length t.all.length) t.all) i=(true):=fun i hi=>by
     rw [y30];show gB (opW _ _ _ 1 _ _) i=_;rw [z344 _ _ _ _ _ (by omega),z218 _ hi];simp [Tree.kids,ptB,Tree.val]
    generalize (Tree.mk 1 0 []).satW t.all.length (lnx t.stem.length t.all.length) t.all=R at *
    repeat' ((first|((fail_if_success apply z93 28);(fail_if_success apply z77 28);apply y4 ok;rfl)|(apply y43;(dsimp only;omega)))<;>conv=>whnf)
    rw [z343]
    repeat' (((apply y4 ok;rfl))<;>conv=>whnf)
    refine z63 (fun x:Nat×List Bool=>([(2,.pt t.cs),(3,.pt [.int 1,.int 0,lst 3 Tree.cs' []]),(5,ints t.all),(6,.pt [lst 1 z303 []]),(9,.ptr 1 none 0),(35,.int t.all.length),(36,.int x.1)],[.cells 1 (x.2.map enB),.cells 1 [[.sref 0 0 t.all.length]]])) (fun x=>x.1≤t.all.length∧x.2.length=t.all.length∧∀ j,j < x.1→gB x.2 j=gB R j) (fun x=>t.all.length - x.1) (0,List.replicate t.all.length false) ⟨y53 _,by simp,fun j hj=>by omega⟩ (by refine swR [0,1] [] rfl rfl ?_;(repeat' first|exact y86 _|exact z9 _|apply y87|refine z8 rfl (z5 (fun _=>rfl)) ?_|constructor)) ?_
    rintro ⟨i,S⟩ ⟨hi,hSl,hSe⟩
    dsimp only at hi hSl hSe ⊢
    by_cases hil:i < t.all.length
    ·have gS:=z137 (S:=S) (i:=i) (by omega)
     have hv:=hRv i hil
     repeat' ((first|(apply y4 ok;rfl)|(refine z12 (i:=i) rfl gS ?_)|(apply y43;first|omega|(unfold inI;omega))|((apply z6)<;>intro _))<;>conv=>whnf)
     all_goals try (exfalso;omega)
     all_goals refine z25 (i+1,S.set i (true)) ⟨by show i+1≤_;omega,z449 hSl hil hv.symm hSe⟩ (by show t.all.length - (i+1) < t.all.length - i;omega) (by refine swR [0,1] [] rfl rfl ?_;(repeat' first|exact y86 _|apply y87|refine z58 rfl (z5 (fun _=>rfl)) ?_|refine z184 (by omega) ?_|constructor))
    ·obtain rfl:S=R:=z622 hSl hlen (fun j hj=>hSe j (by omega))
     repeat' ((first|(apply y4 ok;rfl)|(apply y43;omega)|(((apply z11;omega));intro _)|((apply z6)<;>intro _))<;>conv=>whnf)
     all_goals try (exfalso;omega)
     all_goals (refine rsD [0] [] rfl ?_;(repeat' first|exact y86 _|exact z9 _|refine z8 rfl (z5 (fun _=>rfl)) ?_|constructor))
  |«at» v hv0 hv2 =>
    simp only [Tree.kids,List.map_nil] at hks
    subst hks
    have hRv:∀ i,i < t.all.length→gB ((Tree.mk 2 v []).satW t.all.length (lnx t.stem.length t.all.length) t.all) i=(hasB (t.all.getD i 0) v):=fun i hi=>by
     rw [y30];show gB (opW _ _ _ 2 _ _) i=_;rw [z344 _ _ _ _ _ (by omega),z218 _ hi];simp [Tree.kids,ptB,Tree.val]
    generalize (Tree.mk 2 v []).satW t.all.length (lnx t.stem.length t.all.length) t.all=R at *
    repeat' ((first|((fail_if_success apply z93 28);(fail_if_success apply z77 28);apply y4 ok;rfl)|(apply y43;(dsimp only;omega)))<;>conv=>whnf)
    rw [z343]
    repeat' (((apply y4 ok;rfl))<;>conv=>whnf)
    refine z63 (fun x:Nat×List Bool=>([(2,.pt t.cs),(3,.pt [.int 2,.int v,lst 3 Tree.cs' []]),(5,ints t.all),(6,.pt [lst 1 z303 []]),(9,.ptr 1 none 0),(35,.int t.all.length),(36,.int x.1)],[.cells 1 (x.2.map enB),.cells 1 [[.sref 0 0 t.all.length]]])) (fun x=>x.1≤t.all.length∧x.2.length=t.all.length∧∀ j,j < x.1→gB x.2 j=gB R j) (fun x=>t.all.length - x.1) (0,List.replicate t.all.length false) ⟨y53 _,by simp,fun j hj=>by omega⟩ (by refine swR [0,1] [] rfl rfl ?_;(repeat' first|exact y86 _|exact z9 _|apply y87|refine z8 rfl (z5 (fun _=>rfl)) ?_|constructor)) ?_
    rintro ⟨i,S⟩ ⟨hi,hSl,hSe⟩
    dsimp only at hi hSl hSe ⊢
    by_cases hil:i < t.all.length
    ·have gS:=z137 (S:=S) (i:=i) (by omega)
     have hv:=hRv i hil
     have gw:(t.all.map enI)[i]?=some (enI (t.all.getD i 0)):=by rw [z15 hil,y51,y45 hil];rfl
     have hy:=hLr i hil
     generalize t.all.getD i 0=y at *
     have h5:0≤y / 2 ^ v.toNat∧y / 2 ^ v.toNat≤7:=by
      have:v=0∨v=1∨v=2:=by omega
      rcases this with rfl|rfl|rfl<;>simp<;>omega
     repeat' ((first|(apply y4 ok;rfl)|(apply z22;kernel_rfl)|(refine z12 (i:=i) rfl gS ?_)|(refine z12 (i:=i) rfl gw ?_)|((refine ⟨by unfold z97;omega,?_⟩))|(apply y43;first|omega|(unfold inI;omega))|((apply z6)<;>intro _))<;>conv=>whnf)
     all_goals try (exfalso;omega)
     all_goals refine z25 (i+1,S.set i (hasB (y) v)) ⟨by show i+1≤_;omega,z449 hSl hil hv.symm hSe⟩ (by show t.all.length - (i+1) < t.all.length - i;omega) (by refine swR [0,1] [] rfl rfl ?_;(repeat' first|exact y86 _|apply y87|refine z58 rfl (z5 (fun _=>rfl)) ?_|refine z184 (by omega) ?_|constructor))
    ·obtain rfl:S=R:=z622 hSl hlen (fun j hj=>hSe j (by omega))
     repeat' ((first|(apply y4 ok;rfl)|(apply z22;kernel_rfl)|(apply y43;omega)|((first|(with_reducible apply z11;omega)|(apply z11;omega));intro _)|((apply z6)<;>intro _))<;>conv=>whnf)
     all_goals try (exfalso;omega)
     all_goals (refine rsD [0] [] rfl ?_;(repeat' first|exact y86 _|exact z9 _|refine z8 rfl (z5 (fun _=>rfl)) ?_|constructor))
  |un k a hk ha =>
   have hA:=z315 hlt t.all a
   simp only [Tree.kids,List.map_cons,List.map_nil] at hks
   subst hks
   generalize hAe:Tree.satW t.all.length (lnx t.stem.length t.all.length) t.all a=A at *
   rcases hk with rfl|rfl|rfl|rfl
   ·have hRv:∀ i,i < t.all.length→gB ((Tree.mk 3 0 [a]).satW t.all.length (lnx t.stem.length t.all.length) t.all) i=(!gB A i):=fun i hi=>by
     rw [y30];show gB (opW _ _ _ 3 _ _) i=_;rw [z344 _ _ _ _ _ (by omega),z218 _ hi];simp [Tree.kids,hAe,ptB,Tree.val]
    generalize (Tree.mk 3 0 [a]).satW t.all.length (lnx t.stem.length t.all.length) t.all=R at *
    repeat' ((first|((fail_if_success apply z93 28);(fail_if_success apply z77 28);apply y4 ok;rfl)|(apply y43;(dsimp only;omega)))<;>conv=>whnf)
    rw [z343]
    repeat' (((apply y4 ok;rfl))<;>conv=>whnf)
    refine z63 (fun x:Nat×List Bool=>([(2,.pt t.cs),(3,.pt [.int 3,.int 0,lst 3 Tree.cs' [a]]),(5,ints t.all),(6,.pt [lst 1 z303 [A]]),(9,.ptr 1 none 0),(35,.int t.all.length),(36,.int x.1)],[.cells 1 (x.2.map enB),.cells 1 [[.sref 0 0 t.all.length]]])) (fun x=>x.1≤t.all.length∧x.2.length=t.all.length∧∀ j,j < x.1→gB x.2 j=gB R j) (fun x=>t.all.length - x.1) (0,List.replicate t.all.length false) ⟨y53 _,by simp,fun j hj=>by omega⟩ (by refine swR [0,1] [] rfl rfl ?_;(repeat' first|exact y86 _|exact z9 _|apply y87|refine z8 rfl (z5 (fun _=>rfl)) ?_|constructor)) ?_
    rintro ⟨i,S⟩ ⟨hi,hSl,hSe⟩
    dsimp only at hi hSl hSe ⊢
    by_cases hil:i < t.all.length
    ·have gS:=z137 (S:=S) (i:=i) (by omega)
     have hv:=hRv i hil
     have gA:=z137 (S:=A) (i:=i) (by omega)
     generalize gB A i=p at *
     repeat' ((first|(apply y4 ok;rfl)|(apply z22;kernel_rfl)|(refine z12 (i:=i) rfl gS ?_)|(refine z12 (i:=i) rfl gA ?_)|(refine z12 (i:=0) rfl rfl ?_)|(apply y43;first|omega|(unfold inI;omega))|((apply z6)<;>intro _))<;>conv=>whnf)
     all_goals try (exfalso;omega)
     all_goals refine z25 (i+1,S.set i (!p)) ⟨by show i+1≤_;omega,z449 hSl hil hv.symm hSe⟩ (by show t.all.length - (i+1) < t.all.length - i;omega) (by refine swR [0,1] [] rfl rfl ?_;(repeat' first|exact y86 _|apply y87|refine z58 rfl (z5 (fun _=>rfl)) ?_|refine z184 (by omega) ?_|constructor))
    ·obtain rfl:S=R:=z622 hSl hlen (fun j hj=>hSe j (by omega))
     repeat' ((first|(apply y4 ok;rfl)|(apply z22;kernel_rfl)|(apply y43;omega)|((first|(with_reducible apply z11;omega)|(with_reducible apply z67;omega)|(apply z11;omega));intro _)|((apply z6)<;>intro _))<;>conv=>whnf)
     all_goals try (exfalso;omega)
     all_goals (refine rsD [0] [] rfl ?_;(repeat' first|exact y86 _|exact z9 _|refine z8 rfl (z5 (fun _=>rfl)) ?_|constructor))
   ·have hRv:∀ i,i < t.all.length→gB ((Tree.mk 6 0 [a]).satW t.all.length (lnx t.stem.length t.all.length) t.all) i=(gB A (lnx t.stem.length t.all.length i)):=fun i hi=>by
     rw [y30];show gB (opW _ _ _ 6 _ _) i=_;rw [opW_nx,z218 _ hi];simp [Tree.kids,hAe,ptB,Tree.val]
    generalize (Tree.mk 6 0 [a]).satW t.all.length (lnx t.stem.length t.all.length) t.all=R at *
    repeat' ((first|((fail_if_success apply z93 28);(fail_if_success apply z77 28);apply y4 ok;rfl)|(apply y43;(dsimp only;omega)))<;>conv=>whnf)
    rw [z343]
    repeat' (((apply y4 ok;rfl))<;>conv=>whnf)
    refine z63 (fun x:Nat×List Bool=>([(2,.pt t.cs),(3,.pt [.int 6,.int 0,lst 3 Tree.cs' [a]]),(5,ints t.all),(6,.pt [lst 1 z303 [A]]),(9,.ptr 1 none 0),(35,.int t.all.length),(36,.int x.1)],[.cells 1 (x.2.map enB),.cells 1 [[.sref 0 0 t.all.length]]])) (fun x=>x.1≤t.all.length∧x.2.length=t.all.length∧∀ j,j < x.1→gB x.2 j=gB R j) (fun x=>t.all.length - x.1) (0,List.replicate t.all.length false) ⟨y53 _,by simp,fun j hj=>by omega⟩ (by refine swR [0,1] [] rfl rfl ?_;(repeat' first|exact y86 _|exact z9 _|apply y87|refine z8 rfl (z5 (fun _=>rfl)) ?_|constructor)) ?_
    rintro ⟨i,S⟩ ⟨hi,hSl,hSe⟩
    dsimp only at hi hSl hSe ⊢
    by_cases hil:i < t.all.length
    ·have gS:=z137 (S:=S) (i:=i) (by omega)
     have hv:=hRv i hil
     have cn:=z1144 t (by omega) i (by omega)
     rw [hn] at cn
     have hnx:=z863 t.stem.length t.all.length i
     have hlj:=hlt i hil
     have hnn:0≤nxW t.all.length t.stem.length i:=by unfold nxW;split<;>omega
     have gA:=z137 (S:=A) (i:=lnx t.stem.length t.all.length i) (by omega)
     generalize gB A (lnx t.stem.length t.all.length i)=p at *
     generalize nxW t.all.length t.stem.length i=m at *
     repeat' ((first|(apply y4 ok;rfl)|(apply z22;kernel_rfl)|(refine z12 (i:=i) rfl gS ?_)|(refine z12 (i:=lnx t.stem.length t.all.length i) (by omega) gA ?_)|(refine z12 (i:=0) rfl rfl ?_)|(apply y43;first|omega|(unfold inI;omega))|((apply z6)<;>intro _)|(apply z4 (cn);rfl;rfl))<;>conv=>whnf)
     all_goals try (exfalso;omega)
     all_goals refine z25 (i+1,S.set i (p)) ⟨by show i+1≤_;omega,z449 hSl hil hv.symm hSe⟩ (by show t.all.length - (i+1) < t.all.length - i;omega) (by refine swR [0,1] [] rfl rfl ?_;(repeat' first|exact y86 _|apply y87|refine z58 rfl (z5 (fun _=>rfl)) ?_|refine z184 (by omega) ?_|constructor))
    ·obtain rfl:S=R:=z622 hSl hlen (fun j hj=>hSe j (by omega))
     repeat' ((first|(apply y4 ok;rfl)|(apply y43;omega)|(((with_reducible apply z67;omega));intro _)|((apply z6)<;>intro _))<;>conv=>whnf)
     all_goals try (exfalso;omega)
     all_goals (refine rsD [0] [] rfl ?_;(repeat' first|exact y86 _|exact z9 _|refine z8 rfl (z5 (fun _=>rfl)) ?_|constructor))
   ·rw [show (Tree.mk 9 0 [a]).satW t.all.length (lnx t.stem.length t.all.length) t.all=lim false (stH (unF (fun _=>true) (gB A)) (lnx t.stem.length t.all.length)) t.all.length by
     rw [y30];show opW _ _ _ 9 _ _=_;rw [opW_ev];simp only [Tree.kids,List.map_cons,hAe];rfl]
    have cf:=z676 t t.all.length hn hs h160 false _ (z170 hlt (z1087 (fun _=>true) (gB A)) false) 118 [lst 1 z303 [A]] (fun i x hi=>tru4_ok A i x (by omega) (by omega)) (List.replicate t.all.length false) (by simp)
    repeat' ((first|((fail_if_success apply z93 28);(fail_if_success apply z77 28);apply y4 ok;rfl)|(apply y43;(dsimp only;omega)))<;>conv=>whnf)
    rw [z343]
    repeat' ((first|(apply y4 ok;rfl)|(apply z115 [1,0] [] cf;rfl;(focus ((repeat' first|exact z32|apply z45)<;>first|rfl|(refine z59 rfl ?_;((exact z5 fun _=>rfl)))));rfl;(focus ((repeat' first|exact z17|apply z14)<;>first|exact z47 rfl rfl|(refine z19 ?_;((exact z5 fun _=>rfl)))))))<;>conv=>whnf)
    all_goals (refine rsD [0] [] rfl ?_;(repeat' first|exact y86 _|exact z9 _|refine z8 rfl (z5 (fun _=>rfl)) ?_|constructor))
   ·rw [show (Tree.mk 10 0 [a]).satW t.all.length (lnx t.stem.length t.all.length) t.all=lim true (stH (reF (fun _=>false) (gB A)) (lnx t.stem.length t.all.length)) t.all.length by
     rw [y30];show opW _ _ _ 10 _ _=_;rw [opW_al];simp only [Tree.kids,List.map_cons,hAe];rfl]
    have cf:=z676 t t.all.length hn hs h160 true _ (z170 hlt (z1126 (fun _=>false) (gB A)) true) 119 [lst 1 z303 [A]] (fun i x hi=>tru5_ok A i x (by omega) (by omega)) (List.replicate t.all.length false) (by simp)
    repeat' ((first|((fail_if_success apply z93 28);(fail_if_success apply z77 28);apply y4 ok;rfl)|(apply y43;(dsimp only;omega)))<;>conv=>whnf)
    rw [z343]
    repeat' ((first|(apply y4 ok;rfl)|(apply z115 [1,0] [] cf;rfl;(focus ((repeat' first|exact z32|apply z45)<;>first|rfl|(refine z59 rfl ?_;((exact z5 fun _=>rfl)))));rfl;(focus ((repeat' first|exact z17|apply z14)<;>first|exact z47 rfl rfl|(refine z19 ?_;((exact z5 fun _=>rfl)))))))<;>conv=>whnf)
    all_goals (refine rsD [0] [] rfl ?_;(repeat' first|exact y86 _|exact z9 _|refine z8 rfl (z5 (fun _=>rfl)) ?_|constructor))
  |bin k a b hk ha hb =>
   have hA:=z315 hlt t.all a
   have hB:=z315 hlt t.all b
   simp only [Tree.kids,List.map_cons,List.map_nil] at hks
   subst hks
   generalize hAe:Tree.satW t.all.length (lnx t.stem.length t.all.length) t.all a=A at *
   generalize hBe:Tree.satW t.all.length (lnx t.stem.length t.all.length) t.all b=B at *
   rcases hk with rfl|rfl|rfl|rfl
   ·have hRv:∀ i,i < t.all.length→gB ((Tree.mk 4 0 [a,b]).satW t.all.length (lnx t.stem.length t.all.length) t.all) i=(gB A i && gB B i):=fun i hi=>by
     rw [y30];show gB (opW _ _ _ 4 _ _) i=_;rw [z344 _ _ _ _ _ (by omega),z218 _ hi];simp [Tree.kids,hAe,hBe,ptB,Tree.val]
    generalize (Tree.mk 4 0 [a,b]).satW t.all.length (lnx t.stem.length t.all.length) t.all=R at *
    repeat' ((first|((fail_if_success apply z93 28);(fail_if_success apply z77 28);apply y4 ok;rfl)|(apply y43;(dsimp only;omega)))<;>conv=>whnf)
    rw [z343]
    repeat' (((apply y4 ok;rfl))<;>conv=>whnf)
    refine z63 (fun x:Nat×List Bool=>([(2,.pt t.cs),(3,.pt [.int 4,.int 0,lst 3 Tree.cs' [a,b]]),(5,ints t.all),(6,.pt [lst 1 z303 [A,B]]),(9,.ptr 1 none 0),(35,.int t.all.length),(36,.int x.1)],[.cells 1 (x.2.map enB),.cells 1 [[.sref 0 0 t.all.length]]])) (fun x=>x.1≤t.all.length∧x.2.length=t.all.length∧∀ j,j < x.1→gB x.2 j=gB R j) (fun x=>t.all.length - x.1) (0,List.replicate t.all.length false) ⟨y53 _,by simp,fun j hj=>by omega⟩ (by refine swR [0,1] [] rfl rfl ?_;(repeat' first|exact y86 _|exact z9 _|apply y87|refine z8 rfl (z5 (fun _=>rfl)) ?_|constructor)) ?_
    rintro ⟨i,S⟩ ⟨hi,hSl,hSe⟩
    dsimp only at hi hSl hSe ⊢
    by_cases hil:i < t.all.length
    ·have gS:=z137 (S:=S) (i:=i) (by omega)
     have hv:=hRv i hil
     have gA:=z137 (S:=A) (i:=i) (by omega)
     generalize gB A i=p at *
     have gB':=z137 (S:=B) (i:=i) (by omega)
     generalize gB B i=q at *
     obtain ⟨r,hr⟩:∃ r,gB R i=r:=⟨_,rfl⟩
     rw [hr] at hv
     cases p<;>cases q<;>cases r<;>first|(exfalso;revert hv;decide)|skip
     all_goals
      repeat' ((first|(apply y4 ok;rfl)|(apply z22;kernel_rfl)|(refine z12 (i:=i) rfl gS ?_)|(refine z12 (i:=i) rfl gA ?_)|(refine z12 (i:=i) rfl gB' ?_)|(refine z12 (i:=0) rfl rfl ?_)|(refine z12 (i:=1) rfl rfl ?_)|(apply y43;first|omega|(unfold inI;omega))|((apply z6)<;>intro _))<;>conv=>whnf)
      all_goals try (exfalso;omega)
      all_goals first
       |(refine z25 (i+1,S.set i true) ⟨by show i+1≤_;omega,z449 hSl hil hr.symm hSe⟩ (by show t.all.length - (i+1) < t.all.length - i;omega) (by refine swR [0,1] [] rfl rfl ?_;(repeat' first|exact y86 _|apply y87|refine z58 rfl (z5 (fun _=>rfl)) ?_|refine z184 (by omega) ?_|constructor));done)
       |(refine z25 (i+1,S.set i false) ⟨by show i+1≤_;omega,z449 hSl hil hr.symm hSe⟩ (by show t.all.length - (i+1) < t.all.length - i;omega) (by refine swR [0,1] [] rfl rfl ?_;(repeat' first|exact y86 _|apply y87|refine z58 rfl (z5 (fun _=>rfl)) ?_|refine z184 (by omega) ?_|constructor));done)
    ·obtain rfl:S=R:=z622 hSl hlen (fun j hj=>hSe j (by omega))
     repeat' ((first|(apply y4 ok;rfl)|(apply z22;kernel_rfl)|(apply y43;omega)|((first|(with_reducible apply z11;omega)|(with_reducible apply z67;omega)|(apply z11;omega));intro _)|((first|apply z6|apply z90)<;>intro _))<;>conv=>whnf)
     all_goals try (exfalso;omega)
     all_goals (refine rsD [0] [] rfl ?_;(repeat' first|exact y86 _|exact z9 _|refine z8 rfl (z5 (fun _=>rfl)) ?_|constructor))
   ·have hRv:∀ i,i < t.all.length→gB ((Tree.mk 5 0 [a,b]).satW t.all.length (lnx t.stem.length t.all.length) t.all) i=(gB A i || gB B i):=fun i hi=>by
     rw [y30];show gB (opW _ _ _ 5 _ _) i=_;rw [z344 _ _ _ _ _ (by omega),z218 _ hi];simp [Tree.kids,hAe,hBe,ptB,Tree.val]
    generalize (Tree.mk 5 0 [a,b]).satW t.all.length (lnx t.stem.length t.all.length) t.all=R at *
    repeat' ((first|((fail_if_success apply z93 28);(fail_if_success apply z77 28);apply y4 ok;rfl)|(apply y43;(dsimp only;omega)))<;>conv=>whnf)
    rw [z343]
    repeat' (((apply y4 ok;rfl))<;>conv=>whnf)
    refine z63 (fun x:Nat×List Bool=>([(2,.pt t.cs),(3,.pt [.int 5,.int 0,lst 3 Tree.cs' [a,b]]),(5,ints t.all),(6,.pt [lst 1 z303 [A,B]]),(9,.ptr 1 none 0),(35,.int t.all.length),(36,.int x.1)],[.cells 1 (x.2.map enB),.cells 1 [[.sref 0 0 t.all.length]]])) (fun x=>x.1≤t.all.length∧x.2.length=t.all.length∧∀ j,j < x.1→gB x.2 j=gB R j) (fun x=>t.all.length - x.1) (0,List.replicate t.all.length false) ⟨y53 _,by simp,fun j hj=>by omega⟩ (by refine swR [0,1] [] rfl rfl ?_;(repeat' first|exact y86 _|exact z9 _|apply y87|refine z8 rfl (z5 (fun _=>rfl)) ?_|constructor)) ?_
    rintro ⟨i,S⟩ ⟨hi,hSl,hSe⟩
    dsimp only at hi hSl hSe ⊢
    by_cases hil:i < t.all.length
    ·have gS:=z137 (S:=S) (i:=i) (by omega)
     have hv:=hRv i hil
     have gA:=z137 (S:=A) (i:=i) (by omega)
     generalize gB A i=p at *
     have gB':=z137 (S:=B) (i:=i) (by omega)
     generalize gB B i=q at *
     obtain ⟨r,hr⟩:∃ r,gB R i=r:=⟨_,rfl⟩
     rw [hr] at hv
     cases p<;>cases q<;>cases r<;>first|(exfalso;revert hv;decide)|skip
     all_goals
      repeat' ((first|(apply y4 ok;rfl)|(apply z22;kernel_rfl)|(refine z12 (i:=i) rfl gS ?_)|(refine z12 (i:=i) rfl gA ?_)|(refine z12 (i:=i) rfl gB' ?_)|(refine z12 (i:=0) rfl rfl ?_)|(refine z12 (i:=1) rfl rfl ?_)|(apply y43;first|omega|(unfold inI;omega))|((apply z6)<;>intro _))<;>conv=>whnf)
      all_goals try (exfalso;omega)
      all_goals first
       |(refine z25 (i+1,S.set i true) ⟨by show i+1≤_;omega,z449 hSl hil hr.symm hSe⟩ (by show t.all.length - (i+1) < t.all.length - i;omega) (by refine swR [0,1] [] rfl rfl ?_;(repeat' first|exact y86 _|apply y87|refine z58 rfl (z5 (fun _=>rfl)) ?_|refine z184 (by omega) ?_|constructor));done)
       |(refine z25 (i+1,S.set i false) ⟨by show i+1≤_;omega,z449 hSl hil hr.symm hSe⟩ (by show t.all.length - (i+1) < t.all.length - i;omega) (by refine swR [0,1] [] rfl rfl ?_;(repeat' first|exact y86 _|apply y87|refine z58 rfl (z5 (fun _=>rfl)) ?_|refine z184 (by omega) ?_|constructor));done)
    ·obtain rfl:S=R:=z622 hSl hlen (fun j hj=>hSe j (by omega))
     repeat' ((first|(apply y4 ok;rfl)|(apply z22;kernel_rfl)|(apply y43;omega)|((first|(with_reducible apply z11;omega)|(with_reducible apply z67;omega)|(apply z11;omega));intro _)|((first|apply z6|apply z90)<;>intro _))<;>conv=>whnf)
     all_goals try (exfalso;omega)
     all_goals (refine rsD [0] [] rfl ?_;(repeat' first|exact y86 _|exact z9 _|refine z8 rfl (z5 (fun _=>rfl)) ?_|constructor))
   ·rw [show (Tree.mk 7 0 [a,b]).satW t.all.length (lnx t.stem.length t.all.length) t.all=lim false (stH (unF (gB A) (gB B)) (lnx t.stem.length t.all.length)) t.all.length by
     rw [y30];show opW _ _ _ 7 _ _=_;rw [opW_un];simp only [Tree.kids,List.map_cons,hAe,hBe];rfl]
    have cf:=z676 t t.all.length hn hs h160 false _ (z170 hlt (z1087 (gB A) (gB B)) false) 116 [lst 1 z303 [A,B]] (fun i x hi=>tru2_ok A B i x (by omega) (by omega) (by omega) (by omega)) (List.replicate t.all.length false) (by simp)
    repeat' ((first|((fail_if_success apply z93 28);(fail_if_success apply z77 28);apply y4 ok;rfl)|(apply y43;(dsimp only;omega)))<;>conv=>whnf)
    rw [z343]
    repeat' ((first|(apply y4 ok;rfl)|(apply z115 [1,0] [] cf;rfl;(focus ((repeat' first|exact z32|apply z45)<;>first|rfl|(refine z59 rfl ?_;((exact z5 fun _=>rfl)))));rfl;(focus ((repeat' first|exact z17|apply z14)<;>first|exact z47 rfl rfl|(refine z19 ?_;((exact z5 fun _=>rfl)))))))<;>conv=>whnf)
    all_goals (refine rsD [0] [] rfl ?_;(repeat' first|exact y86 _|exact z9 _|refine z8 rfl (z5 (fun _=>rfl)) ?_|constructor))
   ·rw [show (Tree.mk 8 0 [a,b]).satW t.all.length (lnx t.stem.length t.all.length) t.all=lim true (stH (reF (gB A) (gB B)) (lnx t.stem.length t.all.length)) t.all.length by
     rw [y30];show opW _ _ _ 8 _ _=_;rw [opW_re];simp only [Tree.kids,List.map_cons,hAe,hBe];rfl]
    have cf:=z676 t t.all.length hn hs h160 true _ (z170 hlt (z1126 (gB A) (gB B)) true) 117 [lst 1 z303 [A,B]] (fun i x hi=>tru3_ok A B i x (by omega) (by omega) (by omega) (by omega)) (List.replicate t.all.length false) (by simp)
    repeat' ((first|((fail_if_success apply z93 28);(fail_if_success apply z77 28);apply y4 ok;rfl)|(apply y43;(dsimp only;omega)))<;>conv=>whnf)
    rw [z343]
    repeat' ((first|(apply y4 ok;rfl)|(apply z115 [1,0] [] cf;rfl;(focus ((repeat' first|exact z32|apply z45)<;>first|rfl|(refine z59 rfl ?_;((exact z5 fun _=>rfl)))));rfl;(focus ((repeat' first|exact z17|apply z14)<;>first|exact z47 rfl rfl|(refine z19 ?_;((exact z5 fun _=>rfl)))))))<;>conv=>whnf)
    all_goals (refine rsD [0] [] rfl ?_;(repeat' first|exact y86 _|exact z9 _|refine z8 rfl (z5 (fun _=>rfl)) ?_|constructor))
noncomputable def sfB (t:Trace) (f:Tree):Bool:=gB (f.satW t.all.length (lnx t.stem.length t.all.length) t.all) 0
theorem z1160 {t:Trace} (h:lasB t=true):1≤t.loop.length∧t.all.length≤160∧∀ i,i < t.all.length→0≤t.all.getD i 0∧t.all.getD i 0≤7:=by
 unfold lasB at h
 simp only [y71,decide_eq_true_eq,z95] at h
 obtain ⟨h1,h2,h3,h4⟩:=h
 have hn:=z909 t
 refine ⟨by omega,by omega,fun i hi=>?_⟩
 have key:∀ l:List Int,letW l=true→∀ x∈l,0≤x∧x≤7:=fun l hl x hx=>by
  unfold letW at hl
  simp only [Bool.not_eq_true',List.any_eq_false,y72,Bool.not_eq_false',z95] at hl
  exact z95.1 ((Bool.not_eq_false _).mp (hl x hx))
 rw [z15 hi]
 rcases List.mem_append.1 (show t.all[i]∈t.stem++t.loop from y44 hi) with h|h
 ·exact key _ h1 _ h
 ·exact key _ h2 _ h
set_option maxHeartbeats 3200000 in
theorem z614 (t:Trace) (h1:t.stem.length≤80) (h2:t.loop.length≤80) (f:Tree) (hf:f.mx):CallsA Tryz.prog 20 [.agg t.cs,z26 Tree.cs' f] [] (.tup [.bool (lasB t && f.fmB && sfB t f),.bool (lasB t && f.fmB)]) []:=by
 have k1:=z454 t (by unfold maxLen;omega) (by unfold maxLen;omega)
 have k2:=z123 f hf
 by_cases h:(lasB t && f.fmB)=true
 ·obtain ⟨h3,h4⟩:=Bool.and_eq_true_iff.1 h
  obtain ⟨a1,a2,a3⟩:=z1160 h3
  have hn:=z909 t
  have k3:=z986 t a1 a2 a3 f (y24 h4)
  have hlen:=z315 (fun (i:Nat) (hi:i < t.all.length)=>z451 (a:=t.stem.length) (by omega) hi) t.all f
  unfold sfB
  generalize f.satW t.all.length (lnx t.stem.length t.all.length) t.all=R at *
  have g0:=z137 (S:=R) (i:=0) (by omega)
  generalize gB R 0=r at *
  rw [h3] at k1
  rw [h4] at k2
  rw [h3,h4]
  rw [y15 f] at *
  refine z7 z16 Tryz.func20 rfl rfl 19 Tryz.ntmps20 (by simp) ?_
  repeat' ((first|(apply y4 ok;rfl)|(refine z12 (i:=0) rfl g0 ?_)|(apply y43;omega)|(apply z4 (k1);rfl;rfl)|(apply z4 (k2);rfl;rfl)|(apply z10 [] [2] k3;rfl;rfl;rfl;(focus ((repeat' first|exact z17|apply z14)<;>(refine z19 ?_;((exact z5 fun _=>rfl)))))))<;>conv=>whnf)
  all_goals (refine rsD [] [] rfl ?_;(repeat' first|exact y86 _|constructor))
 ·rw [(y72 _).mp h,Bool.false_and]
  generalize lasB t=p at *
  generalize f.fmB=q at *
  rw [y15 f] at *
  refine z7 z16 Tryz.func20 rfl rfl 19 Tryz.ntmps20 (by simp) ?_
  cases p<;>cases q<;>first|(exfalso;revert h;decide)|skip
  all_goals
   repeat' ((first|(apply y4 ok;rfl)|(apply z4 (k1);rfl;rfl)|(apply z4 (k2);rfl;rfl))<;>conv=>whnf)
   all_goals (refine rsD [] [] rfl ?_;(repeat' first|exact y86 _|constructor))
end Go.Proofs.YtjhgpfaodkchjaaGreat
namespace Go.Proofs.YtjhgpfaodkchjaaGreat
open Go.Gl
attribute [local irreducible] z18 AWP z30 z37 z33
def mst (bl:List Int):Nat→Int
 |0=>0
 |i+1=>if bl.getD i 0=mst bl i then mst bl i+1 else mst bl i
def PartP (bl:List Int):Prop:=∀ i (h:i < bl.length),0≤bl[i]∧bl[i]≤mst bl i
noncomputable instance {bl:List Int} : Decidable (PartP bl):=Classical.propDecidable _
end Go.Proofs.YtjhgpfaodkchjaaGreat
namespace Go.Proofs
open Go.Shelf
end Go.Proofs
namespace Go.Proofs.YtjhgpfaodkchjaaGreat
open Go.Gl
attribute [local irreducible] z18 AWP z30 z37 z33
end Go.Proofs.YtjhgpfaodkchjaaGreat
namespace Go.Proofs.YtjhgpfaodkchjaaGreat
open Go.Gl
attribute [local irreducible] z18 AWP z30 z37 z33 RetS z44
theorem mst_eq (bl:List Int) (i:Nat):mst bl i=mstD bl i:=by
 induction i with
 |zero=>rfl
 |succ i ih=>rw [mst,mstD,ih]
theorem PartP.part {bl:List Int} {n:Nat} (h:PartP bl) (hn:bl.length=n):Part bl n:=⟨fun i hi=>by
 have:=h i (by omega)
 rw [mst_eq] at this
 rw [z15 (by omega)];exact this⟩
end Go.Proofs.YtjhgpfaodkchjaaGreat
namespace Go.Proofs.YtjhgpfaodkchjaaGreat
open Go.Gl
attribute [local irreducible] z18 AWP z30 z37 z33
def aft (g:Graph) (bl:List Int) (i:Nat):List Int:=z846 ((g.nx.getD i []).map (pick bl))
def keyA (g:Graph) (bl:List Int) (i:Nat):List Int:=bl.getD i 0::aft g bl i
def refL (g:Graph) (bl:List Int):List Int:=(numK (keyA g bl) g.st.length).1
def bisN (g:Graph) (b:List Int):Nat→List Int
 |0=>b
 |k+1=>refL g (bisN g b k)
def bis0 (g:Graph) (l:List Tree):List Int:=(numF (sameL (g.st.map (z43 l))) g.st.length).1
def bisF (g:Graph) (l:List Tree):List Int:=bisN g (bis0 g l) g.st.length
def BK (g:Graph) (b:List Int) (k:Nat):Prop:=∃ κ:Nat→List Int,bisN g b k=(numK κ g.st.length).1∧k≤(numK κ g.st.length).2
theorem numK_cnt {K:Type} [DecidableEq K] (κ:Nat→K) (n:Nat):(numK κ n).2≤n:=(z1140 _ n).2
theorem BK.le {g:Graph} {b:List Int} {k:Nat} (h:BK g b k):k≤g.st.length:=by
 obtain ⟨κ,_,h2⟩:=h
 have:=numK_cnt κ g.st.length;omega
theorem BK.step {g:Graph} {b:List Int} {k:Nat} (h:BK g b k) (hne:bisN g b (k+1)≠bisN g b k):BK g b (k+1):=by
 obtain ⟨κ,h1,h2⟩:=h
 refine ⟨keyA g (bisN g b k),rfl,?_⟩
 obtain ⟨h3,h4,_⟩:=z1011 (κ:=κ) (κ':=keyA g (bisN g b k)) (n:=g.st.length) (fun x y hx hy he=>by
  have h5:(bisN g b k).getD x 0=(bisN g b k).getD y 0:=(List.cons.inj he).1
  rw [h1] at h5
  rw [z15 (by rw [z213];exact hx),z15 (by rw [z213];exact hy)] at h5
  exact (z667 (κ:=κ) (n:=g.st.length) g.st.length (y52 _) x y hx hy).1 h5) g.st.length (y52 _)
 rcases y70 k (numK (keyA g (bisN g b k)) g.st.length).2 with h|h
 ·exact h
 ·exfalso
  refine hne ?_
  show (numK (keyA g (bisN g b k)) g.st.length).1=_
  rw [h1] at h4 ⊢
  rw [h1] at h3 h
  exact h4 (by omega)
theorem z903 {g:Graph} {b:List Int} {k:Nat} (h:bisN g b (k+1)=bisN g b k):∀ j,k≤j→bisN g b j=bisN g b k:=by
  intro j hj
  induction j with
  | zero => obtain rfl : k = 0 := by omega
            rfl
  | succ j ih =>
    rcases y70 j k with h1|h1
    · obtain rfl:k=j+1:=by omega
      rfl
    · rw [bisN,ih h1];exact h
theorem BK.zero (g:Graph) (l:List Tree):BK g (bis0 g l) 0:=by
 refine ⟨fun i=>[(g.st.map (z43 l)).getD i 0],?_,y53 _⟩
 show (numF _ _).1=(numF _ _).1
 rw [z1012]
 intro i k _ _
 unfold sameL
 simp [eq_comm]
theorem BK.end {g:Graph} {l:List Tree} {k:Nat} (h:BK g (bis0 g l) k) (he:refL g (bisN g (bis0 g l) k)=bisN g (bis0 g l) k):bisN g (bis0 g l) k=bisF g l :=
 (z903 he _ h.le).symm
end Go.Proofs.YtjhgpfaodkchjaaGreat
namespace Go.Proofs.YtjhgpfaodkchjaaGreat
open Go.Gl
attribute [local irreducible] z18 AWP z30 z37 z33 RetS z44
theorem glB_GB {g:Graph} {l:List Tree} (h:glB g l=true):GB g∧z141 l:=by
 unfold glB at h
 obtain ⟨h1,h2⟩:=Bool.and_eq_true_iff.1 h
 exact ⟨(z83 g).1 h1,y8 h2⟩
end Go.Proofs.YtjhgpfaodkchjaaGreat
namespace Go.Proofs.YtjhgpfaodkchjaaGreat
open Go.Gl
attribute [local irreducible] z18 AWP z30 z37 z33
def LetP (bl ls:List Int):Prop:=∀ i k:Nat,k < i→i < bl.length→bl.getD i 0=bl.getD k 0→ls.getD i 0=ls.getD k 0
noncomputable instance {bl ls:List Int} : Decidable (LetP bl ls):=Classical.propDecidable _
end Go.Proofs.YtjhgpfaodkchjaaGreat
namespace Go.Proofs.YtjhgpfaodkchjaaGreat
open Go.Gl
attribute [local irreducible] z18 AWP z30 z37 z33 RetS z44
theorem Part.P {bl:List Int} (h:Part bl bl.length):PartP bl:=fun i hi=>by
 have:=h.rng i hi
 rw [z15 hi] at this
 rw [mst_eq];exact this
end Go.Proofs.YtjhgpfaodkchjaaGreat
