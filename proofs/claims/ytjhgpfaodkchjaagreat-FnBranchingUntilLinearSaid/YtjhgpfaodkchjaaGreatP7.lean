/- A part of the proofs over this program: T60, T61, T62, T104, T63, T104W, T107, T120W, T49A, T43E, Shelf, T43, T120, T44, T45, T46, T47, T48, T121, T251. -/
import Derived.Test.YtjhgpfaodkchjaaGreatG0
import Derived.Test.YtjhgpfaodkchjaaGreatG1
import Derived.Test.YtjhgpfaodkchjaaGreatG2
import Derived.Test.YtjhgpfaodkchjaaGreatG3
import Derived.Test.YtjhgpfaodkchjaaGreatP0
import Derived.Test.YtjhgpfaodkchjaaGreatP1
import Derived.Test.YtjhgpfaodkchjaaGreatP2
import Derived.Test.YtjhgpfaodkchjaaGreatP3
import Derived.Test.YtjhgpfaodkchjaaGreatP4
import Derived.Test.YtjhgpfaodkchjaaGreatP5
import Derived.Test.YtjhgpfaodkchjaaGreatP6
import Derived.Shelf.Sort.Plain
import Derived.Shelf.Slices.CompactI
set_option linter.all false
namespace Go.Proofs.YtjhgpfaodkchjaaGreat
open Go.Gl
attribute [local irreducible] z19 AWP z25 z31 z28
theorem z1109 {f:FuncId} {args:List AC} {n:Nat} {l:List Bool} (h:CallsA Tryz.prog f args [] (.sref 0 0 n) [.cells 1 (l.map enB)]) (hl:l.length=n):CallsA Tryz.prog f args [] (lst 1 enB l) []:=by
 subst hl
 exact h.keep (z413 _) (by simp)
theorem z856 (ks:List (List Bool)):z64 (ks.map z103)=ks.map z103:=z242 (fun l x hx=>by
 cases List.mem_singleton.1 hx
 rfl) ks
theorem bor_ptrB {objs:Nat→AObj} {π Bn:List Nat} {o w:Nat} {l:List (List Bool)} (ho:objs o=.cells w [[.own 1 (l.map z103)]]) (h1:idx π o=none) (h2:inB Bn o=true):bor objs π Bn (.ptr o none 0)=.pt [lst 1 z103 l]:=by
 simp only [bor,h1,h2,ho]
 show AC.pt [AC.list 1 (l.map z103).length (z64 (l.map z103))]=_
 rw [z856,y51];rfl
theorem z172 (R:List Bool):(List.range R.length).map (fun j=>enB (gB R j))=R.map enB:=by
 apply y77 (by simp)
 intro i h1 h2
 have hi:i < R.length:=by simpa using h2
 simp only [List.getElem_map,List.getElem_range]
 unfold gB
 rw [z20 hi]
theorem z160 (f:Nat→Bool) (n i:Nat) (h:i < n):gB ((List.range n).map f) i=f i:=by
 unfold gB
 rw [z20 (by simpa using h)];simp
theorem z534 {k:Int} {l:Nat} (h:(l:Int)=z174 k):(k=1∧l=0)∨(k=2∧l=0)∨(k=3∧l=1)∨(k=4∧l=2)∨(k=5∧l=2)∨(k=6∧l=1)∨(k=7∧l=2)∨(k=8∧l=1)∨(k=9∧l=1)∨(k=10∧l=2)∨(k=11∧l=1):=by
 unfold z174 at h
 split at h
 ·omega
 split at h
 ·omega
 split at h
 ·omega
 ·omega
theorem len1 {α:Type} {l:List α} (h:l.length=1):∃ a,l=[a]:=match l,h with
 |[a],_=>⟨a,rfl⟩
theorem len2 {α:Type} {l:List α} (h:l.length=2):∃ a b,l=[a,b]:=match l,h with
 |[a,b],_=>⟨a,b,rfl⟩
set_option maxHeartbeats 4000000 in
theorem z817 (g:Graph) (hG:GB g) (L:List Int) (hL:L.length=g.st.length) (hLr:∀ x∈L,0≤x∧x≤7) (t:Tree):∀ d,t.shapeB d=true→CallsA Tryz.prog 141 [.agg g.cs,ints L,z30 Tree.cs' t] [] (.sref 0 0 g.st.length) [.cells 1 ((t.satB g.nx g.st.length L).map enB)]:=by
 induction t using y26 with|h t ih=>?_
 intro d hs
 rw [z223,y73,decide_eq_true_eq,y81] at hs
 obtain ⟨⟨_,hs2,hs4,hs5⟩,hs3⟩:=hs
 have h60:=hG.1.2
 have hgl:=hG.2.1
 have hin:=hG.inN
 have cc:∀ u∈t.kids,CallsA Tryz.prog 141 [.agg g.cs,ints L,z30 Tree.cs' u] [] (lst 1 enB (u.satB g.nx g.st.length L)) []:=fun u hu=>z1109 (ih u hu _ (hs3 u hu)) (y31 hin L u)
 clear ih
 have hLg:∀ i,i < L.length→0≤L.getD i 0∧L.getD i 0≤7:=fun i hi=>by rw [z20 hi];exact hLr _ (y46 _)
 have hkl:=z534 hs2
 have hRl:(t.satB g.nx g.st.length L).length=g.st.length:=y31 hin L t
 have hRe:=y30 g.nx g.st.length L t
 unfold opB at hRe
 have hklen:∀ k∈t.kids.map (Tree.satB g.nx g.st.length L),k.length=g.st.length:=fun k hk=>by
  obtain ⟨u,hu,rfl⟩:=List.mem_map.1 hk
  exact y31 hin L u
 have hkl2:(t.kids.map (Tree.satB g.nx g.st.length L)).length=t.kids.length:=by simp
 have hkat:∀ i (hi:i < t.kids.length) (h2:i < (t.kids.map (Tree.satB g.nx g.st.length L)).length),((t.kids.map (Tree.satB g.nx g.st.length L)))[i]=t.kids[i].satB g.nx g.st.length L:=fun i hi _=>by simp
 generalize hks:t.kids.map (Tree.satB g.nx g.st.length L)=ks at *
 generalize hR:t.satB g.nx g.st.length L=R at *
 have hl2:t.kids.length≤2:=by omega
 rw [y15]
 refine z9 z17 Tryz.func141 rfl rfl 85 Tryz.ntmps141 (by simp) ?_
 repeat' ((((fail_if_success apply z130 2);(fail_if_success apply z96 2);apply y4 ok;rfl))<;>conv=>whnf)
 refine y87 (Gl.Reach.weaken (es' := [[.own 1 []]]) 3 rfl rfl (fun i e' h => by
   match i,h with
   |0, h => cases h; exact ⟨_, rfl, rfl, fun j x' hx => by
     match j,hx with
     |0,hx=>cases hx;exact ⟨_,rfl,z304⟩
     |j+1,hx=>simp at hx⟩
   |i+1,h=>simp at h) rfl) ?_
 conv=>whnf
 repeat' ((fail)<;>conv=>whnf)
 refine z80 (fun i:Nat=>([(3,.ptr 0 none 0),(4,.ptr 1 none 0),(5,.ptr 2 none 0),(7,.ptr 3 none 0),(14,lst 3 Tree.cs' t.kids),(15,.int t.kids.length),(16,.int i)],[.cells 2 [[lst 2 State.cs g.st,lst 1 encL g.nx]],.cells 1 [[ints L]],.cells 3 [[.int t.kind,.int t.val,lst 3 Tree.cs' t.kids]],.cells 1 [[.own 1 ((ks.take i).map z103)]]])) (fun i=>i≤t.kids.length) (fun i=>t.kids.length - i) 0 (by omega) ⟨[0,1,2,3],rfl,by decide,rfl,⟨⟨rfl,rfl⟩,⟨rfl,rfl⟩,⟨rfl,rfl⟩,⟨rfl,rfl⟩,⟨rfl,rfl⟩,⟨rfl,rfl⟩,⟨rfl,rfl⟩,trivial⟩,⟨z15 rfl rfl,z15 rfl rfl,z15 rfl rfl,z15 rfl rfl,trivial⟩⟩ ?_
 intro i hi
 have htl:((ks.take i).map z103).length=i:=by simp;omega
 by_cases hil:i < t.kids.length
 ·have ci:=cc t.kids[i] (y46 _)
  have hka:=hkat i hil (by omega)
  rw [← hka] at ci
  repeat' ((first|((fail_if_success apply z130 5);(fail_if_success apply z96 5);apply y4 ok;rfl)|(apply y45;omega)|(((with_reducible apply z10;omega));intro _)|((apply z5)<;>intro _))<;>conv=>whnf)
  all_goals try (exfalso;omega)
  refine y87 (Gl.Reach.exposeD (e:=[.own 1 ((ks.take i).map z103)]) 3 0 0 rfl rfl rfl rfl) ?_
  conv=>whnf
  rw [htl]
  repeat' ((first|((fail_if_success apply z130 6);(fail_if_success apply z96 6);apply y4 ok;rfl)|(apply z32;kernel_rfl)|(apply y45;first|(dsimp only;omega)|exact ⟨rfl,z22 rfl z29⟩)|(apply z6 (ci);rfl;rfl))<;>conv=>whnf)
  refine y87 (Gl.Reach.absorb 3 7 0 0 rfl rfl rfl rfl (by simp;omega) rfl (z53 (fun e he=>(z4 (fun _=>rfl)) e (List.mem_of_mem_take he)) (z194 rfl z33)) rfl) ?_
  conv=>whnf
  repeat' ((first|(apply y4 ok;rfl)|(apply y45;(unfold inI;omega)))<;>conv=>whnf)
  refine z68 (i+1) [0,1,2,3] (by omega) (by omega) ⟨rfl,by decide,rfl,⟨⟨rfl,rfl⟩,⟨rfl,rfl⟩,⟨rfl,rfl⟩,⟨rfl,rfl⟩,⟨rfl,rfl⟩,⟨rfl,rfl⟩,⟨rfl,rfl⟩,trivial⟩,⟨z15 rfl rfl,z15 rfl rfl,z15 rfl rfl,z15 rfl (z36 ?_),trivial⟩⟩
  simp only [List.set_cons_zero,renL,AC.ren]
  rw [y52 (show i < ks.length by omega),y66,y59 (by rw [htl];exact y54 _)]
  rfl
 repeat' ((first|((fail_if_success apply z130 7);(fail_if_success apply z96 7);apply y4 ok;rfl)|(apply y45;omega)|(((with_reducible apply z10;omega));intro _)|((apply z5)<;>intro _))<;>conv=>whnf)
 all_goals try (exfalso;omega)
 rw [show ks.take i=ks from y59 (by omega)]
 refine y87 (SealL.reach (π:=[]) (Bn:=[0,1,2,3]) (env:=[(3,.pt g.cs),(4,.pt [ints L]),(5,.pt [.int t.kind,.int t.val,lst 3 Tree.cs' t.kids]),(7,.pt [lst 1 z103 ks])]) (objs:=[]) ⟨rfl,rfl,by simp,rfl,by simp,⟨rfl,rfl,rfl,bor_ptrB rfl rfl rfl,trivial⟩,rfl⟩) ?_
 conv=>whnf
 clear htl hi
 generalize hn:g.st.length=n at *
 rcases hkl with ⟨hk,hl⟩|⟨hk,hl⟩|⟨hk,hl⟩|⟨hk,hl⟩|⟨hk,hl⟩|⟨hk,hl⟩|⟨hk,hl⟩|⟨hk,hl⟩|⟨hk,hl⟩|⟨hk,hl⟩|⟨hk,hl⟩
 ·rw [if_neg (by omega),if_neg (by omega),if_neg (by omega),if_neg (by omega),if_neg (by omega),if_neg (by omega)] at hRe
  have hf:∀ i,i < n→CallsA Tryz.prog 205 ([.int i]++[]) [] (.bool (gB R i)) []:=fun i hi=>by
   rw [hRe,z160 _ _ _ hi]
   exact (by unfold ptB;rw [if_neg (by omega),if_neg (by omega),if_neg (by omega),if_neg (by omega)];exact sat1_ok _)
  repeat' ((first|(apply y4 ok;rfl)|(apply y45;first|omega|(dsimp only;omega))|((apply z5)<;>intro _))<;>conv=>whnf)
  all_goals try (exfalso;omega)
  refine z80 (fun i:Nat=>([(10,.fn (.func 205) [] []),(11,.sref 0 0 n),(73,.int n),(74,.int i)],[.cells 1 (mixL (fun j=>enB (gB R j)) (List.replicate n [AC.bool false]) i)])) (fun i=>i≤n) (fun i=>n - i) 0 (by omega) ⟨[0],rfl,by decide,rfl,⟨⟨rfl,rfl⟩,⟨rfl,by simp only [← hn];rfl⟩,⟨rfl,by simp only [← hn];rfl⟩,⟨rfl,rfl⟩,trivial⟩,⟨z18 (z36 (by rw [z167,← hn];rfl)) (z53 (z4 fun _=>rfl) fun e he=>z37 rfl e (List.mem_of_mem_drop he)),trivial⟩⟩ ?_
  intro i hi
  by_cases hil:i < n
  ·have ci:=hf i hil
   have hg:(mixL (fun j=>enB (gB R j)) (List.replicate n [AC.bool false]) i)[i]?=some [AC.bool false]:=by
    unfold mixL
    rw [y69 (by simp)]
    simp only [y51,List.length_range,Nat.sub_self]
    rw [List.getElem?_drop,Nat.add_zero,List.getElem?_replicate,if_pos hil]
   repeat' ((first|(apply y4 ok;rfl)|(refine z12 (i:=i) rfl hg ?_)|(apply y45;first|omega|(unfold inI;omega))|((apply z5)<;>intro _)|(apply z6 (ci);rfl;rfl))<;>conv=>whnf)
   all_goals try (exfalso;omega)
   all_goals exact z68 (i+1) [0] (by omega) (by omega) ⟨rfl,by decide,rfl,⟨⟨rfl,rfl⟩,⟨rfl,rfl⟩,⟨rfl,rfl⟩,⟨rfl,rfl⟩,trivial⟩,⟨z18 (z36 (z202 (by simpa using hil) (y79 i) rfl)) (z53 (z4 fun _=>rfl) fun e he=>z37 rfl e (List.mem_of_mem_drop he)),trivial⟩⟩
  ·repeat' ((first|(apply y4 ok;rfl)|((apply z5)<;>intro _))<;>conv=>whnf)
   all_goals try (exfalso;omega)
   all_goals
    have e0:mixL (fun j=>enB (gB R j)) (List.replicate n [AC.bool false]) i=R.map enB:=by
     rw [z203 (by simp;omega),← z172,hRl,show i=n by omega]
    rw [e0]
    exact z72 rfl (z4 fun _=>rfl) rfl rfl rfl
 ·rw [if_neg (by omega),if_neg (by omega),if_neg (by omega),if_neg (by omega),if_neg (by omega),if_neg (by omega)] at hRe
  have hf:∀ i,i < n→CallsA Tryz.prog 213 ([.int i]++[.pt [ints L],.pt [.int t.kind,.int t.val,lst 3 Tree.cs' t.kids]]) [] (.bool (gB R i)) []:=fun i hi=>by
   rw [hRe,z160 _ _ _ hi]
   exact (by unfold ptB;rw [if_pos hk];unfold z441 at hs5;rw [if_pos hk] at hs5;exact sat6_ok L _ _ _ i (by omega) (by omega) (hLg i (by omega)).1 (hLg i (by omega)).2 hs4 hs5)
  repeat' ((first|(apply y4 ok;rfl)|(apply y45;first|omega|(dsimp only;omega))|((apply z5)<;>intro _))<;>conv=>whnf)
  all_goals try (exfalso;omega)
  refine z80 (fun i:Nat=>([(10,.fn (.func 213) [] [.pt [ints L],.pt [.int t.kind,.int t.val,lst 3 Tree.cs' t.kids]]),(11,.sref 0 0 n),(73,.int n),(74,.int i)],[.cells 1 (mixL (fun j=>enB (gB R j)) (List.replicate n [AC.bool false]) i)])) (fun i=>i≤n) (fun i=>n - i) 0 (by omega) ⟨[0],rfl,by decide,rfl,⟨⟨rfl,rfl⟩,⟨rfl,by simp only [← hn];rfl⟩,⟨rfl,by simp only [← hn];rfl⟩,⟨rfl,rfl⟩,trivial⟩,⟨z18 (z36 (by rw [z167,← hn];rfl)) (z53 (z4 fun _=>rfl) fun e he=>z37 rfl e (List.mem_of_mem_drop he)),trivial⟩⟩ ?_
  intro i hi
  by_cases hil:i < n
  ·have ci:=hf i hil
   have hg:(mixL (fun j=>enB (gB R j)) (List.replicate n [AC.bool false]) i)[i]?=some [AC.bool false]:=by
    unfold mixL
    rw [y69 (by simp)]
    simp only [y51,List.length_range,Nat.sub_self]
    rw [List.getElem?_drop,Nat.add_zero,List.getElem?_replicate,if_pos hil]
   repeat' ((first|(apply y4 ok;rfl)|(refine z12 (i:=i) rfl hg ?_)|(apply y45;first|omega|(unfold inI;omega))|((apply z5)<;>intro _)|(apply z6 (ci);rfl;rfl))<;>conv=>whnf)
   all_goals try (exfalso;omega)
   all_goals exact z68 (i+1) [0] (by omega) (by omega) ⟨rfl,by decide,rfl,⟨⟨rfl,rfl⟩,⟨rfl,rfl⟩,⟨rfl,rfl⟩,⟨rfl,rfl⟩,trivial⟩,⟨z18 (z36 (z202 (by simpa using hil) (y79 i) rfl)) (z53 (z4 fun _=>rfl) fun e he=>z37 rfl e (List.mem_of_mem_drop he)),trivial⟩⟩
  ·repeat' ((first|(apply y4 ok;rfl)|((apply z5)<;>intro _))<;>conv=>whnf)
   all_goals try (exfalso;omega)
   all_goals
    have e0:mixL (fun j=>enB (gB R j)) (List.replicate n [AC.bool false]) i=R.map enB:=by
     rw [z203 (by simp;omega),← z172,hRl,show i=n by omega]
    rw [e0]
    exact z72 rfl (z4 fun _=>rfl) rfl rfl rfl
 ·obtain ⟨a,rfl⟩:=len1 (hkl2.trans hl)
  have ha:=hklen a (by simp)
  rw [if_neg (by omega),if_neg (by omega),if_neg (by omega),if_neg (by omega),if_neg (by omega),if_neg (by omega)] at hRe
  have hf:∀ i,i < n→CallsA Tryz.prog 214 ([.int i]++[.pt [lst 1 z103 [a]]]) [] (.bool (gB R i)) []:=fun i hi=>by
   rw [hRe,z160 _ _ _ hi]
   exact (by unfold ptB;rw [if_neg (by omega),if_pos hk];exact sat7_ok a n (by omega) ha i hi)
  repeat' ((first|(apply y4 ok;rfl)|(apply y45;first|omega|(dsimp only;omega))|((apply z5)<;>intro _))<;>conv=>whnf)
  all_goals try (exfalso;omega)
  refine z80 (fun i:Nat=>([(10,.fn (.func 214) [] [.pt [lst 1 z103 [a]]]),(11,.sref 0 0 n),(73,.int n),(74,.int i)],[.cells 1 (mixL (fun j=>enB (gB R j)) (List.replicate n [AC.bool false]) i)])) (fun i=>i≤n) (fun i=>n - i) 0 (by omega) ⟨[0],rfl,by decide,rfl,⟨⟨rfl,rfl⟩,⟨rfl,by simp only [← hn];rfl⟩,⟨rfl,by simp only [← hn];rfl⟩,⟨rfl,rfl⟩,trivial⟩,⟨z18 (z36 (by rw [z167,← hn];rfl)) (z53 (z4 fun _=>rfl) fun e he=>z37 rfl e (List.mem_of_mem_drop he)),trivial⟩⟩ ?_
  intro i hi
  by_cases hil:i < n
  ·have ci:=hf i hil
   have hg:(mixL (fun j=>enB (gB R j)) (List.replicate n [AC.bool false]) i)[i]?=some [AC.bool false]:=by
    unfold mixL
    rw [y69 (by simp)]
    simp only [y51,List.length_range,Nat.sub_self]
    rw [List.getElem?_drop,Nat.add_zero,List.getElem?_replicate,if_pos hil]
   repeat' ((first|(apply y4 ok;rfl)|(refine z12 (i:=i) rfl hg ?_)|(apply y45;first|omega|(unfold inI;omega))|((apply z5)<;>intro _)|(apply z6 (ci);rfl;rfl))<;>conv=>whnf)
   all_goals try (exfalso;omega)
   all_goals exact z68 (i+1) [0] (by omega) (by omega) ⟨rfl,by decide,rfl,⟨⟨rfl,rfl⟩,⟨rfl,rfl⟩,⟨rfl,rfl⟩,⟨rfl,rfl⟩,trivial⟩,⟨z18 (z36 (z202 (by simpa using hil) (y79 i) rfl)) (z53 (z4 fun _=>rfl) fun e he=>z37 rfl e (List.mem_of_mem_drop he)),trivial⟩⟩
  ·repeat' ((first|(apply y4 ok;rfl)|((apply z5)<;>intro _))<;>conv=>whnf)
   all_goals try (exfalso;omega)
   all_goals
    have e0:mixL (fun j=>enB (gB R j)) (List.replicate n [AC.bool false]) i=R.map enB:=by
     rw [z203 (by simp;omega),← z172,hRl,show i=n by omega]
    rw [e0]
    exact z72 rfl (z4 fun _=>rfl) rfl rfl rfl
 ·obtain ⟨a,b,rfl⟩:=len2 (hkl2.trans hl)
  have ha:=hklen a (by simp)
  have hb:=hklen b (by simp)
  rw [if_neg (by omega),if_neg (by omega),if_neg (by omega),if_neg (by omega),if_neg (by omega),if_neg (by omega)] at hRe
  have hf:∀ i,i < n→CallsA Tryz.prog 215 ([.int i]++[.pt [lst 1 z103 [a,b]]]) [] (.bool (gB R i)) []:=fun i hi=>by
   rw [hRe,z160 _ _ _ hi]
   exact (by unfold ptB;rw [if_neg (by omega),if_neg (by omega),if_pos hk];exact sat8_ok a b n (by omega) ha hb i hi)
  repeat' ((first|(apply y4 ok;rfl)|(apply y45;first|omega|(dsimp only;omega))|((apply z5)<;>intro _))<;>conv=>whnf)
  all_goals try (exfalso;omega)
  refine z80 (fun i:Nat=>([(10,.fn (.func 215) [] [.pt [lst 1 z103 [a,b]]]),(11,.sref 0 0 n),(73,.int n),(74,.int i)],[.cells 1 (mixL (fun j=>enB (gB R j)) (List.replicate n [AC.bool false]) i)])) (fun i=>i≤n) (fun i=>n - i) 0 (by omega) ⟨[0],rfl,by decide,rfl,⟨⟨rfl,rfl⟩,⟨rfl,by simp only [← hn];rfl⟩,⟨rfl,by simp only [← hn];rfl⟩,⟨rfl,rfl⟩,trivial⟩,⟨z18 (z36 (by rw [z167,← hn];rfl)) (z53 (z4 fun _=>rfl) fun e he=>z37 rfl e (List.mem_of_mem_drop he)),trivial⟩⟩ ?_
  intro i hi
  by_cases hil:i < n
  ·have ci:=hf i hil
   have hg:(mixL (fun j=>enB (gB R j)) (List.replicate n [AC.bool false]) i)[i]?=some [AC.bool false]:=by
    unfold mixL
    rw [y69 (by simp)]
    simp only [y51,List.length_range,Nat.sub_self]
    rw [List.getElem?_drop,Nat.add_zero,List.getElem?_replicate,if_pos hil]
   repeat' ((first|(apply y4 ok;rfl)|(refine z12 (i:=i) rfl hg ?_)|(apply y45;first|omega|(unfold inI;omega))|((apply z5)<;>intro _)|(apply z6 (ci);rfl;rfl))<;>conv=>whnf)
   all_goals try (exfalso;omega)
   all_goals exact z68 (i+1) [0] (by omega) (by omega) ⟨rfl,by decide,rfl,⟨⟨rfl,rfl⟩,⟨rfl,rfl⟩,⟨rfl,rfl⟩,⟨rfl,rfl⟩,trivial⟩,⟨z18 (z36 (z202 (by simpa using hil) (y79 i) rfl)) (z53 (z4 fun _=>rfl) fun e he=>z37 rfl e (List.mem_of_mem_drop he)),trivial⟩⟩
  ·repeat' ((first|(apply y4 ok;rfl)|((apply z5)<;>intro _))<;>conv=>whnf)
   all_goals try (exfalso;omega)
   all_goals
    have e0:mixL (fun j=>enB (gB R j)) (List.replicate n [AC.bool false]) i=R.map enB:=by
     rw [z203 (by simp;omega),← z172,hRl,show i=n by omega]
    rw [e0]
    exact z72 rfl (z4 fun _=>rfl) rfl rfl rfl
 ·obtain ⟨a,b,rfl⟩:=len2 (hkl2.trans hl)
  have ha:=hklen a (by simp)
  have hb:=hklen b (by simp)
  rw [if_neg (by omega),if_neg (by omega),if_neg (by omega),if_neg (by omega),if_neg (by omega),if_neg (by omega)] at hRe
  have hf:∀ i,i < n→CallsA Tryz.prog 216 ([.int i]++[.pt [lst 1 z103 [a,b]]]) [] (.bool (gB R i)) []:=fun i hi=>by
   rw [hRe,z160 _ _ _ hi]
   exact (by unfold ptB;rw [if_neg (by omega),if_neg (by omega),if_neg (by omega),if_pos hk];exact sat9_ok a b n (by omega) ha hb i hi)
  repeat' ((first|(apply y4 ok;rfl)|(apply y45;first|omega|(dsimp only;omega))|((apply z5)<;>intro _))<;>conv=>whnf)
  all_goals try (exfalso;omega)
  refine z80 (fun i:Nat=>([(10,.fn (.func 216) [] [.pt [lst 1 z103 [a,b]]]),(11,.sref 0 0 n),(73,.int n),(74,.int i)],[.cells 1 (mixL (fun j=>enB (gB R j)) (List.replicate n [AC.bool false]) i)])) (fun i=>i≤n) (fun i=>n - i) 0 (by omega) ⟨[0],rfl,by decide,rfl,⟨⟨rfl,rfl⟩,⟨rfl,by simp only [← hn];rfl⟩,⟨rfl,by simp only [← hn];rfl⟩,⟨rfl,rfl⟩,trivial⟩,⟨z18 (z36 (by rw [z167,← hn];rfl)) (z53 (z4 fun _=>rfl) fun e he=>z37 rfl e (List.mem_of_mem_drop he)),trivial⟩⟩ ?_
  intro i hi
  by_cases hil:i < n
  ·have ci:=hf i hil
   have hg:(mixL (fun j=>enB (gB R j)) (List.replicate n [AC.bool false]) i)[i]?=some [AC.bool false]:=by
    unfold mixL
    rw [y69 (by simp)]
    simp only [y51,List.length_range,Nat.sub_self]
    rw [List.getElem?_drop,Nat.add_zero,List.getElem?_replicate,if_pos hil]
   repeat' ((first|(apply y4 ok;rfl)|(refine z12 (i:=i) rfl hg ?_)|(apply y45;first|omega|(unfold inI;omega))|((apply z5)<;>intro _)|(apply z6 (ci);rfl;rfl))<;>conv=>whnf)
   all_goals try (exfalso;omega)
   all_goals exact z68 (i+1) [0] (by omega) (by omega) ⟨rfl,by decide,rfl,⟨⟨rfl,rfl⟩,⟨rfl,rfl⟩,⟨rfl,rfl⟩,⟨rfl,rfl⟩,trivial⟩,⟨z18 (z36 (z202 (by simpa using hil) (y79 i) rfl)) (z53 (z4 fun _=>rfl) fun e he=>z37 rfl e (List.mem_of_mem_drop he)),trivial⟩⟩
  ·repeat' ((first|(apply y4 ok;rfl)|((apply z5)<;>intro _))<;>conv=>whnf)
   all_goals try (exfalso;omega)
   all_goals
    have e0:mixL (fun j=>enB (gB R j)) (List.replicate n [AC.bool false]) i=R.map enB:=by
     rw [z203 (by simp;omega),← z172,hRl,show i=n by omega]
    rw [e0]
    exact z72 rfl (z4 fun _=>rfl) rfl rfl rfl
 ·obtain ⟨a,rfl⟩:=len1 (hkl2.trans hl)
  have ha:=hklen a (by simp)
  rw [if_pos hk] at hRe
  have hf:∀ i,i < n→CallsA Tryz.prog 217 ([.int i]++[.pt g.cs,.pt [lst 1 z103 [a]]]) [] (.bool (gB R i)) []:=fun i hi=>by
   rw [hRe,z917 _ _ _ _ _ hi]
   exact (sat10_ok g hG a (ha.trans hn.symm) i (by omega))
  repeat' ((first|(apply y4 ok;rfl)|(apply y45;first|omega|(dsimp only;omega))|((apply z5)<;>intro _))<;>conv=>whnf)
  all_goals try (exfalso;omega)
  refine z80 (fun i:Nat=>([(10,.fn (.func 217) [] [.pt g.cs,.pt [lst 1 z103 [a]]]),(11,.sref 0 0 n),(73,.int n),(74,.int i)],[.cells 1 (mixL (fun j=>enB (gB R j)) (List.replicate n [AC.bool false]) i)])) (fun i=>i≤n) (fun i=>n - i) 0 (by omega) ⟨[0],rfl,by decide,rfl,⟨⟨rfl,rfl⟩,⟨rfl,by simp only [← hn];rfl⟩,⟨rfl,by simp only [← hn];rfl⟩,⟨rfl,rfl⟩,trivial⟩,⟨z18 (z36 (by rw [z167,← hn];rfl)) (z53 (z4 fun _=>rfl) fun e he=>z37 rfl e (List.mem_of_mem_drop he)),trivial⟩⟩ ?_
  intro i hi
  by_cases hil:i < n
  ·have ci:=hf i hil
   have hg:(mixL (fun j=>enB (gB R j)) (List.replicate n [AC.bool false]) i)[i]?=some [AC.bool false]:=by
    unfold mixL
    rw [y69 (by simp)]
    simp only [y51,List.length_range,Nat.sub_self]
    rw [List.getElem?_drop,Nat.add_zero,List.getElem?_replicate,if_pos hil]
   repeat' ((first|(apply y4 ok;rfl)|(refine z12 (i:=i) rfl hg ?_)|(apply y45;first|omega|(unfold inI;omega))|((apply z5)<;>intro _)|(apply z6 (ci);rfl;rfl))<;>conv=>whnf)
   all_goals try (exfalso;omega)
   all_goals exact z68 (i+1) [0] (by omega) (by omega) ⟨rfl,by decide,rfl,⟨⟨rfl,rfl⟩,⟨rfl,rfl⟩,⟨rfl,rfl⟩,⟨rfl,rfl⟩,trivial⟩,⟨z18 (z36 (z202 (by simpa using hil) (y79 i) rfl)) (z53 (z4 fun _=>rfl) fun e he=>z37 rfl e (List.mem_of_mem_drop he)),trivial⟩⟩
  ·repeat' ((first|(apply y4 ok;rfl)|((apply z5)<;>intro _))<;>conv=>whnf)
   all_goals try (exfalso;omega)
   all_goals
    have e0:mixL (fun j=>enB (gB R j)) (List.replicate n [AC.bool false]) i=R.map enB:=by
     rw [z203 (by simp;omega),← z172,hRl,show i=n by omega]
    rw [e0]
    exact z72 rfl (z4 fun _=>rfl) rfl rfl rfl
 ·obtain ⟨a,b,rfl⟩:=len2 (hkl2.trans hl)
  have ha:=hklen a (by simp)
  have hb:=hklen b (by simp)
  rw [if_neg (by omega),if_neg (by omega),if_pos hk] at hRe
  have cf:=z658 [lst 1 z103 [a,b]] g.cs g (by omega) false (unH g.nx false a b) (by rw [hn];exact z298 hin a b) 207 (fun i S hi hS=>sat2_ok g hG a b (ha.trans hn.symm) (hb.trans hn.symm) i S hi hS)
  rw [hn] at cf
  repeat' ((first|(apply y4 ok;rfl)|(apply y45;omega)|((apply z5)<;>intro _)|(apply z8 [] [0] cf;rfl;rfl;rfl;(focus ((repeat' first|exact z13|apply z11)<;>(refine z21 ?_;((exact z4 fun _=>rfl)))))))<;>conv=>whnf)
  all_goals try (exfalso;omega)
  rw [hRe]
  exact z72 rfl (z4 fun _=>rfl) rfl rfl rfl
 ·obtain ⟨a,rfl⟩:=len1 (hkl2.trans hl)
  have ha:=hklen a (by simp)
  rw [if_neg (by omega),if_neg (by omega),if_neg (by omega),if_neg (by omega),if_pos hk] at hRe
  have cf:=z658 [lst 1 z103 [a]] g.cs g (by omega) true (alH g.nx false a) (by rw [hn];exact z312 hin a) 209 (fun i S hi hS=>sat3_ok g hG a (ha.trans hn.symm) i S hi hS)
  rw [hn] at cf
  repeat' ((first|(apply y4 ok;rfl)|(apply y45;omega)|((apply z5)<;>intro _)|(apply z8 [] [0] cf;rfl;rfl;rfl;(focus ((repeat' first|exact z13|apply z11)<;>(refine z21 ?_;((exact z4 fun _=>rfl)))))))<;>conv=>whnf)
  all_goals try (exfalso;omega)
  rw [hRe]
  exact z72 rfl (z4 fun _=>rfl) rfl rfl rfl
 ·obtain ⟨a,rfl⟩:=len1 (hkl2.trans hl)
  have ha:=hklen a (by simp)
  rw [if_neg (by omega),if_pos hk] at hRe
  have hf:∀ i,i < n→CallsA Tryz.prog 218 ([.int i]++[.pt g.cs,.pt [lst 1 z103 [a]]]) [] (.bool (gB R i)) []:=fun i hi=>by
   rw [hRe,z917 _ _ _ _ _ hi]
   exact (sat11_ok g hG a (ha.trans hn.symm) i (by omega))
  repeat' ((first|(apply y4 ok;rfl)|(apply y45;first|omega|(dsimp only;omega))|((apply z5)<;>intro _))<;>conv=>whnf)
  all_goals try (exfalso;omega)
  refine z80 (fun i:Nat=>([(10,.fn (.func 218) [] [.pt g.cs,.pt [lst 1 z103 [a]]]),(11,.sref 0 0 n),(73,.int n),(74,.int i)],[.cells 1 (mixL (fun j=>enB (gB R j)) (List.replicate n [AC.bool false]) i)])) (fun i=>i≤n) (fun i=>n - i) 0 (by omega) ⟨[0],rfl,by decide,rfl,⟨⟨rfl,rfl⟩,⟨rfl,by simp only [← hn];rfl⟩,⟨rfl,by simp only [← hn];rfl⟩,⟨rfl,rfl⟩,trivial⟩,⟨z18 (z36 (by rw [z167,← hn];rfl)) (z53 (z4 fun _=>rfl) fun e he=>z37 rfl e (List.mem_of_mem_drop he)),trivial⟩⟩ ?_
  intro i hi
  by_cases hil:i < n
  ·have ci:=hf i hil
   have hg:(mixL (fun j=>enB (gB R j)) (List.replicate n [AC.bool false]) i)[i]?=some [AC.bool false]:=by
    unfold mixL
    rw [y69 (by simp)]
    simp only [y51,List.length_range,Nat.sub_self]
    rw [List.getElem?_drop,Nat.add_zero,List.getElem?_replicate,if_pos hil]
   repeat' ((first|(apply y4 ok;rfl)|(refine z12 (i:=i) rfl hg ?_)|(apply y45;first|omega|(unfold inI;omega))|((apply z5)<;>intro _)|(apply z6 (ci);rfl;rfl))<;>conv=>whnf)
   all_goals try (exfalso;omega)
   all_goals exact z68 (i+1) [0] (by omega) (by omega) ⟨rfl,by decide,rfl,⟨⟨rfl,rfl⟩,⟨rfl,rfl⟩,⟨rfl,rfl⟩,⟨rfl,rfl⟩,trivial⟩,⟨z18 (z36 (z202 (by simpa using hil) (y79 i) rfl)) (z53 (z4 fun _=>rfl) fun e he=>z37 rfl e (List.mem_of_mem_drop he)),trivial⟩⟩
  ·repeat' ((first|(apply y4 ok;rfl)|((apply z5)<;>intro _))<;>conv=>whnf)
   all_goals try (exfalso;omega)
   all_goals
    have e0:mixL (fun j=>enB (gB R j)) (List.replicate n [AC.bool false]) i=R.map enB:=by
     rw [z203 (by simp;omega),← z172,hRl,show i=n by omega]
    rw [e0]
    exact z72 rfl (z4 fun _=>rfl) rfl rfl rfl
 ·obtain ⟨a,b,rfl⟩:=len2 (hkl2.trans hl)
  have ha:=hklen a (by simp)
  have hb:=hklen b (by simp)
  rw [if_neg (by omega),if_neg (by omega),if_neg (by omega),if_pos hk] at hRe
  have cf:=z658 [lst 1 z103 [a,b]] g.cs g (by omega) false (unH g.nx true a b) (by rw [hn];exact z298 hin a b) 210 (fun i S hi hS=>sat4_ok g hG a b (ha.trans hn.symm) (hb.trans hn.symm) i S hi hS)
  rw [hn] at cf
  repeat' ((first|(apply y4 ok;rfl)|(apply y45;omega)|((apply z5)<;>intro _)|(apply z8 [] [0] cf;rfl;rfl;rfl;(focus ((repeat' first|exact z13|apply z11)<;>(refine z21 ?_;((exact z4 fun _=>rfl)))))))<;>conv=>whnf)
  all_goals try (exfalso;omega)
  rw [hRe]
  exact z72 rfl (z4 fun _=>rfl) rfl rfl rfl
 ·obtain ⟨a,rfl⟩:=len1 (hkl2.trans hl)
  have ha:=hklen a (by simp)
  rw [if_neg (by omega),if_neg (by omega),if_neg (by omega),if_neg (by omega),if_neg (by omega),if_pos hk] at hRe
  have cf:=z658 [lst 1 z103 [a]] g.cs g (by omega) true (alH g.nx true a) (by rw [hn];exact z312 hin a) 212 (fun i S hi hS=>sat5_ok g hG a (ha.trans hn.symm) i S hi hS)
  rw [hn] at cf
  repeat' ((first|(apply y4 ok;rfl)|(apply y45;omega)|((apply z5)<;>intro _)|(apply z8 [] [0] cf;rfl;rfl;rfl;(focus ((repeat' first|exact z13|apply z11)<;>(refine z21 ?_;((exact z4 fun _=>rfl)))))))<;>conv=>whnf)
  all_goals try (exfalso;omega)
  rw [hRe]
  exact z72 rfl (z4 fun _=>rfl) rfl rfl rfl
set_option maxHeartbeats 4000000 in
theorem z645 (g:Graph) (hG:GB g) (L:List Int) (hL:L.length=g.st.length) (hLr:∀ x∈L,0≤x∧x≤7) (t:Tree):∀ d,t.shapeB d=true→CallsA Tryz.prog 143 [.agg g.cs,ints L,z30 Tree.cs' t] [] (.sref 0 0 g.st.length) [.cells 1 ((t.satB g.nx g.st.length L).map enB)]:=by
 induction t using y26 with|h t ih=>?_
 intro d hs
 rw [z223,y73,decide_eq_true_eq,y81] at hs
 obtain ⟨⟨_,hs2,hs4,hs5⟩,hs3⟩:=hs
 have h60:=hG.1.2
 have hgl:=hG.2.1
 have hin:=hG.inN
 have cc:∀ u∈t.kids,CallsA Tryz.prog 143 [.agg g.cs,ints L,z30 Tree.cs' u] [] (lst 1 enB (u.satB g.nx g.st.length L)) []:=fun u hu=>z1109 (ih u hu _ (hs3 u hu)) (y31 hin L u)
 clear ih
 have hLg:∀ i,i < L.length→0≤L.getD i 0∧L.getD i 0≤7:=fun i hi=>by rw [z20 hi];exact hLr _ (y46 _)
 have hLe:∀ i,i < L.length→(L.map enI)[i]?=some (enI (L.getD i 0)):=fun i hi=>by rw [z20 hi,y53,y47 hi];rfl
 have hkl:=z534 hs2
 have hRl:(t.satB g.nx g.st.length L).length=g.st.length:=y31 hin L t
 have hRe:=y30 g.nx g.st.length L t
 unfold opB at hRe
 have hklen:∀ k∈t.kids.map (Tree.satB g.nx g.st.length L),k.length=g.st.length:=fun k hk=>by
  obtain ⟨u,hu,rfl⟩:=List.mem_map.1 hk
  exact y31 hin L u
 have hkl2:(t.kids.map (Tree.satB g.nx g.st.length L)).length=t.kids.length:=by simp
 have hkat:∀ i (hi:i < t.kids.length) (h2:i < (t.kids.map (Tree.satB g.nx g.st.length L)).length),((t.kids.map (Tree.satB g.nx g.st.length L)))[i]=t.kids[i].satB g.nx g.st.length L:=fun i hi _=>by simp
 generalize hks:t.kids.map (Tree.satB g.nx g.st.length L)=ks at *
 generalize hR:t.satB g.nx g.st.length L=R at *
 have hl2:t.kids.length≤2:=by omega
 rw [y15]
 refine z9 z17 Tryz.func143 rfl rfl 133 Tryz.ntmps143 (by simp) ?_
 repeat' (((apply y4 ok;rfl))<;>conv=>whnf)
 refine z80 (fun i:Nat=>([(1,ints L),(3,.ptr 0 none 0),(5,.ptr 1 none 0),(7,.sref 2 0 i),(8,.int i)],[.cells 2 [[lst 2 State.cs g.st,lst 1 encL g.nx]],.cells 3 [[.int t.kind,.int t.val,lst 3 Tree.cs' t.kids]],.cells 1 ((ks.take i).map z103)])) (fun i=>i≤t.kids.length) (fun i=>t.kids.length - i) 0 (by omega) ⟨[0,1,2],rfl,by decide,rfl,⟨⟨rfl,rfl⟩,⟨rfl,rfl⟩,⟨rfl,rfl⟩,⟨rfl,rfl⟩,⟨rfl,rfl⟩,trivial⟩,⟨z15 rfl rfl,z15 rfl rfl,z18 rfl (z4 fun _=>rfl),trivial⟩⟩ ?_
 intro i hi
 have htl:((ks.take i).map z103).length=i:=by simp;omega
 by_cases hil:i < t.kids.length
 ·have ci:=cc t.kids[i] (y46 _)
  have hka:=hkat i hil (by omega)
  rw [← hka] at ci
  repeat' ((first|(apply y4 ok;rfl)|(apply z32;kernel_rfl)|(apply y45;first|omega|(unfold inI;omega)|(dsimp only;omega)|exact ⟨rfl,z22 rfl z29⟩)|((first|(with_reducible apply z10;omega)|(apply z10;omega));intro _)|((apply z5)<;>intro _)|(apply z6 (ci);rfl;rfl))<;>conv=>whnf)
  all_goals try (exfalso;omega)
  refine z68 (i+1) [0,1,4] (by omega) (by omega) ⟨rfl,by decide,rfl,⟨⟨rfl,rfl⟩,⟨rfl,rfl⟩,⟨rfl,rfl⟩,⟨rfl,rfl⟩,⟨rfl,rfl⟩,trivial⟩,⟨z15 rfl rfl,z15 rfl rfl,z18 (z36 ?_) (z4 fun _=>rfl),trivial⟩⟩
  rw [y52 (show i < ks.length by omega),y66,y59 (by rw [htl];exact y54 _)]
  rfl
 rw [show ks.take i=ks from y59 (by omega)]
 have hik:i=ks.length:=by omega
 subst hik
 clear htl hi
 generalize hn:g.st.length=n at *
 rcases hkl with ⟨hk,hl⟩|⟨hk,hl⟩|⟨hk,hl⟩|⟨hk,hl⟩|⟨hk,hl⟩|⟨hk,hl⟩|⟨hk,hl⟩|⟨hk,hl⟩|⟨hk,hl⟩|⟨hk,hl⟩|⟨hk,hl⟩
 ·rw [if_neg (by omega),if_neg (by omega),if_neg (by omega),if_neg (by omega),if_neg (by omega),if_neg (by omega)] at hRe
  repeat' ((first|(apply y4 ok;rfl)|(apply y45;omega)|((first|(with_reducible apply z10;omega)|(apply z10;omega));intro _)|((apply z5)<;>intro _))<;>conv=>whnf)
  all_goals try (exfalso;omega)
  refine z80 (fun i:Nat=>([(1,ints L),(5,.ptr 1 none 0),(7,.sref 2 0 (ks).length),(9,.sref 3 0 i),(10,.int i)],[.cells 2 [[lst 2 State.cs g.st,lst 1 encL g.nx]],.cells 3 [[.int t.kind,.int t.val,lst 3 Tree.cs' t.kids]],.cells 1 ((ks).map z103),.cells 1 (((List.range n).take i).map fun j=>enB (gB R j))])) (fun i=>i≤n) (fun i=>n - i) 0 (by omega) ⟨[0,1,2,3],rfl,by decide,rfl,⟨⟨rfl,rfl⟩,⟨rfl,rfl⟩,⟨rfl,rfl⟩,⟨rfl,rfl⟩,⟨rfl,rfl⟩,trivial⟩,⟨z15 rfl rfl,z15 rfl rfl,z18 rfl (z4 fun _=>rfl),z18 rfl (z4 fun _=>rfl),trivial⟩⟩ ?_
  intro i hi
  by_cases hil:i < n
  ·have hir:i < (List.range n).length:=by simpa using hil
   have hv:gB R i=true:=by
    rw [hRe,z160 _ _ _ hil];unfold ptB;rw [if_neg (by omega),if_neg (by omega),if_neg (by omega),if_neg (by omega)]
   skip
   repeat' ((first|(apply y4 ok;rfl)|(apply y45;first|omega|(unfold inI;omega)|((try dsimp only);simp only [y51,y50,y49,y48,y60,y61];omega)|exact ⟨rfl,z22 rfl z29⟩)|((first|(with_reducible apply z10;omega)|(apply z10;omega));intro _)|((first|apply z5|apply z74)<;>intro _))<;>conv=>whnf)
   all_goals try (exfalso;omega)
   all_goals
    refine z68 (i+1) [0,1,2,5] (by omega) (by omega) ⟨rfl,by decide,rfl,⟨⟨rfl,rfl⟩,⟨rfl,rfl⟩,⟨rfl,rfl⟩,⟨rfl,rfl⟩,⟨rfl,rfl⟩,trivial⟩,⟨z15 rfl rfl,z15 rfl rfl,z18 rfl (z4 fun _=>rfl),z18 (z36 ?_) (z4 fun _=>rfl),trivial⟩⟩
    rw [y59 (by simp;omega),y52 hir,y66,List.map_singleton,List.getElem_range,hv]
    rfl
  ·repeat' ((first|(apply y4 ok;rfl)|(apply y45;omega)|((first|(with_reducible apply z10;omega)|(apply z10;omega));intro _)|((first|apply z5|apply z74)<;>intro _))<;>conv=>whnf)
   all_goals try (exfalso;omega)
   all_goals
    have hin2:i=n:=by omega
    subst hin2
    refine z56 [3] (by decide) rfl rfl rfl ⟨z18 (z36 ?_) (z4 fun _=>rfl),trivial⟩
    rw [y59 (by simp),← hRl]
    exact z172 R
 ·rw [if_neg (by omega),if_neg (by omega),if_neg (by omega),if_neg (by omega),if_neg (by omega),if_neg (by omega)] at hRe
  repeat' ((first|(apply y4 ok;rfl)|(apply y45;omega)|((first|(with_reducible apply z10;omega)|(apply z10;omega));intro _)|((apply z5)<;>intro _))<;>conv=>whnf)
  all_goals try (exfalso;omega)
  refine z80 (fun i:Nat=>([(1,ints L),(5,.ptr 1 none 0),(7,.sref 2 0 (ks).length),(9,.sref 3 0 i),(10,.int i)],[.cells 2 [[lst 2 State.cs g.st,lst 1 encL g.nx]],.cells 3 [[.int t.kind,.int t.val,lst 3 Tree.cs' t.kids]],.cells 1 ((ks).map z103),.cells 1 (((List.range n).take i).map fun j=>enB (gB R j))])) (fun i=>i≤n) (fun i=>n - i) 0 (by omega) ⟨[0,1,2,3],rfl,by decide,rfl,⟨⟨rfl,rfl⟩,⟨rfl,rfl⟩,⟨rfl,rfl⟩,⟨rfl,rfl⟩,⟨rfl,rfl⟩,trivial⟩,⟨z15 rfl rfl,z15 rfl rfl,z18 rfl (z4 fun _=>rfl),z18 rfl (z4 fun _=>rfl),trivial⟩⟩ ?_
  intro i hi
  by_cases hil:i < n
  ·have hir:i < (List.range n).length:=by simpa using hil
   have hv:gB R i=hasB (L.getD i 0) t.val:=by
    rw [hRe,z160 _ _ _ hil];unfold ptB;rw [if_pos hk]
   have g0:=hLe i (by omega)
   unfold z441 at hs5
   rw [if_pos hk] at hs5
   have c6:=l6Has_ok (L.getD i 0) t.val (hLg i (by omega)).1 (hLg i (by omega)).2 hs4 hs5
   repeat' ((first|(apply y4 ok;rfl)|(apply z32;kernel_rfl)|(refine z12 (i:=i) rfl g0 ?_)|(apply y45;first|omega|(unfold inI;omega)|((try dsimp only);simp only [y51,y50,y49,y48,y60,y61];omega)|exact ⟨rfl,z22 rfl z29⟩)|((first|(with_reducible apply z10;omega)|(apply z10;omega));intro _)|((first|apply z5|apply z74)<;>intro _)|(apply z6 (c6);rfl;rfl))<;>conv=>whnf)
   all_goals try (exfalso;omega)
   all_goals
    refine z68 (i+1) [0,1,2,5] (by omega) (by omega) ⟨rfl,by decide,rfl,⟨⟨rfl,rfl⟩,⟨rfl,rfl⟩,⟨rfl,rfl⟩,⟨rfl,rfl⟩,⟨rfl,rfl⟩,trivial⟩,⟨z15 rfl rfl,z15 rfl rfl,z18 rfl (z4 fun _=>rfl),z18 (z36 ?_) (z4 fun _=>rfl),trivial⟩⟩
    rw [y59 (by simp;omega),y52 hir,y66,List.map_singleton,List.getElem_range,hv]
    rfl
  ·repeat' ((first|(apply y4 ok;rfl)|(apply y45;omega)|((first|(with_reducible apply z10;omega)|(apply z10;omega));intro _)|((first|apply z5|apply z74)<;>intro _))<;>conv=>whnf)
   all_goals try (exfalso;omega)
   all_goals
    have hin2:i=n:=by omega
    subst hin2
    refine z56 [3] (by decide) rfl rfl rfl ⟨z18 (z36 ?_) (z4 fun _=>rfl),trivial⟩
    rw [y59 (by simp),← hRl]
    exact z172 R
 ·obtain ⟨a,rfl⟩:=len1 (hkl2.trans hl)
  have ha:=hklen a (by simp)
  rw [if_neg (by omega),if_neg (by omega),if_neg (by omega),if_neg (by omega),if_neg (by omega),if_neg (by omega)] at hRe
  repeat' ((first|(apply y4 ok;rfl)|(apply y45;omega)|((first|(with_reducible apply z10;omega)|(apply z10;omega));intro _)|((apply z5)<;>intro _))<;>conv=>whnf)
  all_goals try (exfalso;omega)
  refine z80 (fun i:Nat=>([(1,ints L),(5,.ptr 1 none 0),(7,.sref 2 0 ([a]).length),(9,.sref 3 0 i),(10,.int i)],[.cells 2 [[lst 2 State.cs g.st,lst 1 encL g.nx]],.cells 3 [[.int t.kind,.int t.val,lst 3 Tree.cs' t.kids]],.cells 1 (([a]).map z103),.cells 1 (((List.range n).take i).map fun j=>enB (gB R j))])) (fun i=>i≤n) (fun i=>n - i) 0 (by omega) ⟨[0,1,2,3],rfl,by decide,rfl,⟨⟨rfl,rfl⟩,⟨rfl,rfl⟩,⟨rfl,rfl⟩,⟨rfl,rfl⟩,⟨rfl,rfl⟩,trivial⟩,⟨z15 rfl rfl,z15 rfl rfl,z18 rfl (z4 fun _=>rfl),z18 rfl (z4 fun _=>rfl),trivial⟩⟩ ?_
  intro i hi
  by_cases hil:i < n
  ·have hir:i < (List.range n).length:=by simpa using hil
   have hv:gB R i=!gB a i:=by
    rw [hRe,z160 _ _ _ hil];unfold ptB;rw [if_neg (by omega),if_pos hk];rfl
   have g1:=z116 (S:=a) (i:=i) (by omega)
   repeat' ((first|(apply y4 ok;rfl)|(refine z12 (i:=0) rfl rfl ?_)|(refine z12 (i:=i) rfl g1 ?_)|(apply y45;first|omega|(unfold inI;omega)|((try dsimp only);simp only [y51,y50,y49,y48,y60,y61];omega)|exact ⟨rfl,z22 rfl z29⟩)|((first|(with_reducible apply z10;omega)|(apply z10;omega));intro _)|((first|apply z5|apply z74)<;>intro _))<;>conv=>whnf)
   all_goals try (exfalso;omega)
   all_goals
    refine z68 (i+1) [0,1,2,5] (by omega) (by omega) ⟨rfl,by decide,rfl,⟨⟨rfl,rfl⟩,⟨rfl,rfl⟩,⟨rfl,rfl⟩,⟨rfl,rfl⟩,⟨rfl,rfl⟩,trivial⟩,⟨z15 rfl rfl,z15 rfl rfl,z18 rfl (z4 fun _=>rfl),z18 (z36 ?_) (z4 fun _=>rfl),trivial⟩⟩
    rw [y59 (by simp;omega),y52 hir,y66,List.map_singleton,List.getElem_range,hv]
    rfl
  ·repeat' ((first|(apply y4 ok;rfl)|(apply y45;omega)|((first|(with_reducible apply z10;omega)|(apply z10;omega));intro _)|((first|apply z5|apply z74)<;>intro _))<;>conv=>whnf)
   all_goals try (exfalso;omega)
   all_goals
    have hin2:i=n:=by omega
    subst hin2
    refine z56 [3] (by decide) rfl rfl rfl ⟨z18 (z36 ?_) (z4 fun _=>rfl),trivial⟩
    rw [y59 (by simp),← hRl]
    exact z172 R
 ·obtain ⟨a,b,rfl⟩:=len2 (hkl2.trans hl)
  have ha:=hklen a (by simp)
  have hb:=hklen b (by simp)
  rw [if_neg (by omega),if_neg (by omega),if_neg (by omega),if_neg (by omega),if_neg (by omega),if_neg (by omega)] at hRe
  repeat' ((first|(apply y4 ok;rfl)|(apply y45;omega)|((first|(with_reducible apply z10;omega)|(apply z10;omega));intro _)|((apply z5)<;>intro _))<;>conv=>whnf)
  all_goals try (exfalso;omega)
  refine z80 (fun i:Nat=>([(1,ints L),(5,.ptr 1 none 0),(7,.sref 2 0 ([a,b]).length),(9,.sref 3 0 i),(10,.int i)],[.cells 2 [[lst 2 State.cs g.st,lst 1 encL g.nx]],.cells 3 [[.int t.kind,.int t.val,lst 3 Tree.cs' t.kids]],.cells 1 (([a,b]).map z103),.cells 1 (((List.range n).take i).map fun j=>enB (gB R j))])) (fun i=>i≤n) (fun i=>n - i) 0 (by omega) ⟨[0,1,2,3],rfl,by decide,rfl,⟨⟨rfl,rfl⟩,⟨rfl,rfl⟩,⟨rfl,rfl⟩,⟨rfl,rfl⟩,⟨rfl,rfl⟩,trivial⟩,⟨z15 rfl rfl,z15 rfl rfl,z18 rfl (z4 fun _=>rfl),z18 rfl (z4 fun _=>rfl),trivial⟩⟩ ?_
  intro i hi
  by_cases hil:i < n
  ·have hir:i < (List.range n).length:=by simpa using hil
   have hv:gB R i=(gB a i && gB b i):=by
    rw [hRe,z160 _ _ _ hil];unfold ptB;rw [if_neg (by omega),if_neg (by omega),if_pos hk];rfl
   have g1:=z116 (S:=a) (i:=i) (by omega)
   have g2:=z116 (S:=b) (i:=i) (by omega)
   generalize gB a i=p at hv g1
   generalize gB b i=q at hv g2
   cases p<;>cases q
   all_goals
    repeat' ((first|(apply y4 ok;rfl)|(refine z12 (i:=0) rfl rfl ?_)|(refine z12 (i:=1) rfl rfl ?_)|(refine z12 (i:=i) rfl g1 ?_)|(refine z12 (i:=i) rfl g2 ?_)|(apply y45;first|omega|(unfold inI;omega)|((try dsimp only);simp only [y51,y50,y49,y48,y60,y61];omega)|exact ⟨rfl,z22 rfl z29⟩)|(((with_reducible apply z10;omega));intro _)|((apply z5)<;>intro _))<;>conv=>whnf)
    all_goals try (exfalso;omega)
    all_goals
     refine z68 (i+1) [0,1,2,5] (by omega) (by omega) ⟨rfl,by decide,rfl,⟨⟨rfl,rfl⟩,⟨rfl,rfl⟩,⟨rfl,rfl⟩,⟨rfl,rfl⟩,⟨rfl,rfl⟩,trivial⟩,⟨z15 rfl rfl,z15 rfl rfl,z18 rfl (z4 fun _=>rfl),z18 (z36 ?_) (z4 fun _=>rfl),trivial⟩⟩
     rw [y59 (by simp;omega),y52 hir,y66,List.map_singleton,List.getElem_range,hv]
     rfl
  ·repeat' ((first|(apply y4 ok;rfl)|(apply y45;omega)|((first|(with_reducible apply z10;omega)|(apply z10;omega));intro _)|((first|apply z5|apply z74)<;>intro _))<;>conv=>whnf)
   all_goals try (exfalso;omega)
   all_goals
    have hin2:i=n:=by omega
    subst hin2
    refine z56 [3] (by decide) rfl rfl rfl ⟨z18 (z36 ?_) (z4 fun _=>rfl),trivial⟩
    rw [y59 (by simp),← hRl]
    exact z172 R
 ·obtain ⟨a,b,rfl⟩:=len2 (hkl2.trans hl)
  have ha:=hklen a (by simp)
  have hb:=hklen b (by simp)
  rw [if_neg (by omega),if_neg (by omega),if_neg (by omega),if_neg (by omega),if_neg (by omega),if_neg (by omega)] at hRe
  repeat' ((first|(apply y4 ok;rfl)|(apply y45;omega)|((first|(with_reducible apply z10;omega)|(apply z10;omega));intro _)|((apply z5)<;>intro _))<;>conv=>whnf)
  all_goals try (exfalso;omega)
  refine z80 (fun i:Nat=>([(1,ints L),(5,.ptr 1 none 0),(7,.sref 2 0 ([a,b]).length),(9,.sref 3 0 i),(10,.int i)],[.cells 2 [[lst 2 State.cs g.st,lst 1 encL g.nx]],.cells 3 [[.int t.kind,.int t.val,lst 3 Tree.cs' t.kids]],.cells 1 (([a,b]).map z103),.cells 1 (((List.range n).take i).map fun j=>enB (gB R j))])) (fun i=>i≤n) (fun i=>n - i) 0 (by omega) ⟨[0,1,2,3],rfl,by decide,rfl,⟨⟨rfl,rfl⟩,⟨rfl,rfl⟩,⟨rfl,rfl⟩,⟨rfl,rfl⟩,⟨rfl,rfl⟩,trivial⟩,⟨z15 rfl rfl,z15 rfl rfl,z18 rfl (z4 fun _=>rfl),z18 rfl (z4 fun _=>rfl),trivial⟩⟩ ?_
  intro i hi
  by_cases hil:i < n
  ·have hir:i < (List.range n).length:=by simpa using hil
   have hv:gB R i=(gB a i || gB b i):=by
    rw [hRe,z160 _ _ _ hil];unfold ptB;rw [if_neg (by omega),if_neg (by omega),if_neg (by omega),if_pos hk];rfl
   have g1:=z116 (S:=a) (i:=i) (by omega)
   have g2:=z116 (S:=b) (i:=i) (by omega)
   generalize gB a i=p at hv g1
   generalize gB b i=q at hv g2
   cases p<;>cases q
   all_goals
    repeat' ((first|(apply y4 ok;rfl)|(refine z12 (i:=0) rfl rfl ?_)|(refine z12 (i:=1) rfl rfl ?_)|(refine z12 (i:=i) rfl g1 ?_)|(refine z12 (i:=i) rfl g2 ?_)|(apply y45;first|omega|(unfold inI;omega)|((try dsimp only);simp only [y51,y50,y49,y48,y60,y61];omega)|exact ⟨rfl,z22 rfl z29⟩)|(((with_reducible apply z10;omega));intro _)|((apply z5)<;>intro _))<;>conv=>whnf)
    all_goals try (exfalso;omega)
    all_goals
     refine z68 (i+1) [0,1,2,5] (by omega) (by omega) ⟨rfl,by decide,rfl,⟨⟨rfl,rfl⟩,⟨rfl,rfl⟩,⟨rfl,rfl⟩,⟨rfl,rfl⟩,⟨rfl,rfl⟩,trivial⟩,⟨z15 rfl rfl,z15 rfl rfl,z18 rfl (z4 fun _=>rfl),z18 (z36 ?_) (z4 fun _=>rfl),trivial⟩⟩
     rw [y59 (by simp;omega),y52 hir,y66,List.map_singleton,List.getElem_range,hv]
     rfl
  ·repeat' ((first|(apply y4 ok;rfl)|(apply y45;omega)|((first|(with_reducible apply z10;omega)|(apply z10;omega));intro _)|((first|apply z5|apply z74)<;>intro _))<;>conv=>whnf)
   all_goals try (exfalso;omega)
   all_goals
    have hin2:i=n:=by omega
    subst hin2
    refine z56 [3] (by decide) rfl rfl rfl ⟨z18 (z36 ?_) (z4 fun _=>rfl),trivial⟩
    rw [y59 (by simp),← hRl]
    exact z172 R
 ·obtain ⟨a,rfl⟩:=len1 (hkl2.trans hl)
  have ha:=hklen a (by simp)
  rw [if_pos hk] at hRe
  have cf:=z249 g hG a (ha.trans hn.symm) (decide (t.kind=9))
  rw [hn,show nxL g.nx (decide (t.kind=9)) n a=R from by rw [hRe,y85 (by omega)];rfl] at cf
  repeat' ((first|(apply y4 ok;rfl)|(apply z32;kernel_rfl)|(refine z12 (i:=0) rfl rfl ?_)|(apply y45;omega)|((first|(with_reducible apply z10;omega)|(apply z10;omega));intro _)|((apply z5)<;>intro _)|(apply z8 [] [3] cf;rfl;rfl;rfl;(focus ((repeat' first|exact z13|apply z11)<;>(refine z21 ?_;((exact z4 fun _=>rfl)))))))<;>conv=>whnf)
  all_goals try (exfalso;omega)
  all_goals exact z56 [3] (by decide) rfl rfl rfl ⟨z18 rfl (z4 fun _=>rfl),trivial⟩
 ·obtain ⟨a,b,rfl⟩:=len2 (hkl2.trans hl)
  have ha:=hklen a (by simp)
  have hb:=hklen b (by simp)
  rw [if_neg (by omega),if_neg (by omega),if_pos hk] at hRe
  have cf:=z429 g hG a b (ha.trans hn.symm) (hb.trans hn.symm) (decide (t.kind=10))
  rw [hn,show lim false (unH g.nx (decide (t.kind=10)) a b) n=R from by rw [hRe,y85 (by omega)];rfl] at cf
  repeat' ((first|(apply y4 ok;rfl)|(apply z32;kernel_rfl)|(refine z12 (i:=0) rfl rfl ?_)|(refine z12 (i:=1) rfl rfl ?_)|(apply y45;omega)|(((with_reducible apply z10;omega));intro _)|((apply z5)<;>intro _)|(apply z8 [] [3] cf;rfl;rfl;rfl;(focus ((repeat' first|exact z13|apply z11)<;>(refine z21 ?_;((exact z4 fun _=>rfl)))))))<;>conv=>whnf)
  all_goals try (exfalso;omega)
  all_goals exact z56 [3] (by decide) rfl rfl rfl ⟨z18 rfl (z4 fun _=>rfl),trivial⟩
 ·obtain ⟨a,rfl⟩:=len1 (hkl2.trans hl)
  have ha:=hklen a (by simp)
  rw [if_neg (by omega),if_neg (by omega),if_neg (by omega),if_neg (by omega),if_pos hk] at hRe
  have cf:=z372 g hG a (ha.trans hn.symm) (decide (t.kind=11))
  rw [hn,show lim true (alH g.nx (decide (t.kind=11)) a) n=R from by rw [hRe,y85 (by omega)];rfl] at cf
  repeat' ((first|(apply y4 ok;rfl)|(apply z32;kernel_rfl)|(refine z12 (i:=0) rfl rfl ?_)|(apply y45;omega)|((first|(with_reducible apply z10;omega)|(apply z10;omega));intro _)|((apply z5)<;>intro _)|(apply z8 [] [3] cf;rfl;rfl;rfl;(focus ((repeat' first|exact z13|apply z11)<;>(refine z21 ?_;((exact z4 fun _=>rfl)))))))<;>conv=>whnf)
  all_goals try (exfalso;omega)
  all_goals exact z56 [3] (by decide) rfl rfl rfl ⟨z18 rfl (z4 fun _=>rfl),trivial⟩
 ·obtain ⟨a,rfl⟩:=len1 (hkl2.trans hl)
  have ha:=hklen a (by simp)
  rw [if_neg (by omega),if_pos hk] at hRe
  have cf:=z249 g hG a (ha.trans hn.symm) (decide (t.kind=9))
  rw [hn,show nxL g.nx (decide (t.kind=9)) n a=R from by rw [hRe,y84 hk];rfl] at cf
  repeat' ((first|(apply y4 ok;rfl)|(apply z32;kernel_rfl)|(refine z12 (i:=0) rfl rfl ?_)|(apply y45;omega)|((first|(with_reducible apply z10;omega)|(apply z10;omega));intro _)|((apply z5)<;>intro _)|(apply z8 [] [3] cf;rfl;rfl;rfl;(focus ((repeat' first|exact z13|apply z11)<;>(refine z21 ?_;((exact z4 fun _=>rfl)))))))<;>conv=>whnf)
  all_goals try (exfalso;omega)
  all_goals exact z56 [3] (by decide) rfl rfl rfl ⟨z18 rfl (z4 fun _=>rfl),trivial⟩
 ·obtain ⟨a,b,rfl⟩:=len2 (hkl2.trans hl)
  have ha:=hklen a (by simp)
  have hb:=hklen b (by simp)
  rw [if_neg (by omega),if_neg (by omega),if_neg (by omega),if_pos hk] at hRe
  have cf:=z429 g hG a b (ha.trans hn.symm) (hb.trans hn.symm) (decide (t.kind=10))
  rw [hn,show lim false (unH g.nx (decide (t.kind=10)) a b) n=R from by rw [hRe,y84 hk];rfl] at cf
  repeat' ((first|(apply y4 ok;rfl)|(apply z32;kernel_rfl)|(refine z12 (i:=0) rfl rfl ?_)|(refine z12 (i:=1) rfl rfl ?_)|(apply y45;omega)|(((with_reducible apply z10;omega));intro _)|((apply z5)<;>intro _)|(apply z8 [] [3] cf;rfl;rfl;rfl;(focus ((repeat' first|exact z13|apply z11)<;>(refine z21 ?_;((exact z4 fun _=>rfl)))))))<;>conv=>whnf)
  all_goals try (exfalso;omega)
  all_goals exact z56 [3] (by decide) rfl rfl rfl ⟨z18 rfl (z4 fun _=>rfl),trivial⟩
 ·obtain ⟨a,rfl⟩:=len1 (hkl2.trans hl)
  have ha:=hklen a (by simp)
  rw [if_neg (by omega),if_neg (by omega),if_neg (by omega),if_neg (by omega),if_neg (by omega),if_pos hk] at hRe
  have cf:=z372 g hG a (ha.trans hn.symm) (decide (t.kind=11))
  rw [hn,show lim true (alH g.nx (decide (t.kind=11)) a) n=R from by rw [hRe,y84 hk];rfl] at cf
  repeat' ((first|(apply y4 ok;rfl)|(apply z32;kernel_rfl)|(refine z12 (i:=0) rfl rfl ?_)|(apply y45;omega)|((first|(with_reducible apply z10;omega)|(apply z10;omega));intro _)|((apply z5)<;>intro _)|(apply z8 [] [3] cf;rfl;rfl;rfl;(focus ((repeat' first|exact z13|apply z11)<;>(refine z21 ?_;((exact z4 fun _=>rfl)))))))<;>conv=>whnf)
  all_goals try (exfalso;omega)
  all_goals exact z56 [3] (by decide) rfl rfl rfl ⟨z18 rfl (z4 fun _=>rfl),trivial⟩
theorem ltr_ltB (v:List Int):∀ (l:List Tree) (k n:Nat),n < 2 ^ k→ltr v l k n < 2 ^ (k+l.length):=by
 intro l
 induction l with
 |nil=>intro k n h;simpa [ltr] using h
 |cons t l ih =>
  intro k n h
  rw [ltr]
  have e:k+(t::l).length=k+1+l.length:=by simp only [y60];omega
  rw [e]
  refine ih (k+1) _ ?_
  split
  ·rw [Nat.pow_succ];omega
  ·exact or_lt h
theorem z367 {l:List Tree} (hl:z129 l) (s:State):0≤z50 l s∧z50 l s≤7:=by
 have:=ltr_ltB s.b l 0 0 (by decide)
 rw [hl.1] at this
 unfold z50
 have e:(2:Nat) ^ (0+3)=8:=by decide
 omega
noncomputable def brL (g:Graph) (l:List Tree) (t:Tree):List Bool:=if (glB g l && t.brB)=true then t.satB g.nx g.st.length (g.st.map (z50 l)) else []
theorem z931 {t:Tree} (h:t.brB=true):t.shapeB 6=true:=by
 rw [y16,y73] at h;exact h.1
theorem z409 (g:Graph) (hg:g.mx) (l:List Tree) (hl:Lmx l) (t:Tree) (ht:t.mx):CallsA Tryz.prog 70 [.agg g.cs,lst 3 Tree.cs' l,z30 Tree.cs' t] [] (.tup [.sref 0 0 (brL g l t).length,.bool (glB g l && t.brB)]) [.cells 1 ((brL g l t).map enB)]:=by
 have k1:=z254 g hg
 have k2:=z216 l hl.1 hl.2
 have k3:=z559 t ht
 by_cases hgl:(glB g l && t.brB)=true
 ·obtain ⟨h1,hab⟩:=Bool.and_eq_true_iff.1 hgl
  have h2:=h1
  unfold glB at h2
  obtain ⟨hgb,hlb⟩:=Bool.and_eq_true_iff.1 h2
  have hG:=(z126 g).1 hgb
  have hL:=y8 hlb
  have k4:=z911 g hG.vals hG.1.2 l hL
  have hLr:∀ x∈g.st.map (z50 l),0≤x∧x≤7:=fun x hx=>by
   obtain ⟨s,_,rfl⟩:=List.mem_map.1 hx
   exact z367 hL s
  have k5:=z817 g hG (g.st.map (z50 l)) (by simp) hLr t 6 (z931 hab)
  have e:brL g l t=t.satB g.nx g.st.length (g.st.map (z50 l)):=by unfold brL;rw [if_pos hgl]
  rw [← e] at k5
  have hlen:(brL g l t).length=g.st.length:=by rw [e];exact y31 hG.inN _ _
  rw [← hlen] at k5
  generalize g.st.map (z50 l)=L at *
  generalize brL g l t=R at *
  rw [hgb] at k1
  rw [hlb] at k2
  rw [hab] at k3
  rw [hgl]
  rw [y15] at k3 k5 ⊢
  refine z9 z17 Tryz.func70 rfl rfl 27 Tryz.ntmps70 (by simp) ?_
  repeat' ((first|(apply y4 ok;rfl)|(apply z32;kernel_rfl)|(apply z6 (k1);rfl;rfl)|(apply z6 (k2);rfl;rfl)|(apply z6 (k3);rfl;rfl)|(apply z6 (k4);rfl;rfl)|(apply z8 [] [2] k5;rfl;rfl;rfl;(focus ((repeat' first|exact z13|apply z11)<;>(refine z21 ?_;((exact z4 fun _=>rfl)))))))<;>conv=>whnf)
  all_goals exact z56 [2] (by decide) rfl rfl rfl ⟨z18 rfl (z4 fun _=>rfl),trivial⟩
 ·have e:brL g l t=[]:=by unfold brL;rw [if_neg hgl]
  have hgl:=(y74 _).mp hgl
  have hgl2:=hgl
  rw [e,hgl]
  unfold glB at hgl2
  refine CallsA.nils (res:=.tup [.nils,.bool false]) ?_ (by simp) (tup_sref z364)
  rw [y15] at k3 ⊢
  generalize z328 g=b1 at *
  generalize z191 l=b2 at *
  generalize t.brB=b3 at *
  refine z9 z17 Tryz.func70 rfl rfl 27 Tryz.ntmps70 (by simp) ?_
  cases b1<;>cases b2<;>cases b3<;>first|(exfalso;revert hgl2;decide)|skip
  all_goals
   repeat' ((first|(apply y4 ok;rfl)|(apply z6 (k1);rfl;rfl)|(apply z6 (k2);rfl;rfl)|(apply z6 (k3);rfl;rfl))<;>conv=>whnf)
   all_goals exact z39 rfl rfl rfl
theorem z436 (g:Graph) (hg:g.mx) (l:List Tree) (hl:Lmx l) (t:Tree) (ht:t.mx):CallsA Tryz.prog 71 [.agg g.cs,lst 3 Tree.cs' l,z30 Tree.cs' t] [] (.tup [lst 1 enB (brL g l t),.bool (glB g l && t.brB)]) []:=by
 have k0:=z396 g hg l hl
 have k1:=z322 t ht
 by_cases hgl:(glB g l && t.brB)=true
 ·obtain ⟨h1,hab⟩:=Bool.and_eq_true_iff.1 hgl
  have h2:=h1
  unfold glB at h2
  obtain ⟨hgb,hlb⟩:=Bool.and_eq_true_iff.1 h2
  have hG:=(z126 g).1 hgb
  have hL:=y8 hlb
  have hLr:∀ x∈g.st.map (z50 l),0≤x∧x≤7:=fun x hx=>by
   obtain ⟨s,_,rfl⟩:=List.mem_map.1 hx
   exact z367 hL s
  have k5:=z645 g hG (g.st.map (z50 l)) (by simp) hLr t 6 (z931 hab)
  have e:brL g l t=t.satB g.nx g.st.length (g.st.map (z50 l)):=by unfold brL;rw [if_pos hgl]
  rw [← e] at k5
  have hlen:(brL g l t).length=g.st.length:=by rw [e];exact y31 hG.inN _ _
  have k5:=z1109 k5 hlen
  rw [if_pos h1,h1] at k0
  rw [hab] at k1
  rw [hgl]
  generalize g.st.map (z50 l)=L at *
  generalize brL g l t=R at *
  rw [y15] at k1 k5 ⊢
  refine z9 z17 Tryz.func71 rfl rfl 28 Tryz.ntmps71 (by simp) ?_
  repeat' ((first|(apply y4 ok;rfl)|(apply z6 (k0);rfl;rfl)|(apply z6 (k1);rfl;rfl)|(apply z6 (k5);rfl;rfl))<;>conv=>whnf)
  all_goals exact z39 rfl rfl rfl
 ·have e:brL g l t=[]:=by unfold brL;rw [if_neg hgl]
  have hgl:=(y74 _).mp hgl
  have hgl2:=hgl
  rw [e,hgl]
  generalize glB g l=b1 at *
  generalize t.brB=b3 at *
  rw [y15] at k1 ⊢
  refine z9 z17 Tryz.func71 rfl rfl 28 Tryz.ntmps71 (by simp) ?_
  cases b1<;>cases b3<;>first|(exfalso;revert hgl2;decide)|skip
  all_goals
   repeat' ((first|(apply y4 ok;rfl)|(apply z6 (k0);rfl;rfl)|(apply z6 (k1);rfl;rfl))<;>conv=>whnf)
   all_goals exact z709 rfl rfl (z797 z618)
end Go.Proofs.YtjhgpfaodkchjaaGreat
namespace Go.Proofs.YtjhgpfaodkchjaaGreat
open Go.Gl
attribute [local irreducible] z19 AWP z25 z31 z28 RetS z38
end Go.Proofs.YtjhgpfaodkchjaaGreat
namespace Go.Proofs.YtjhgpfaodkchjaaGreat
open Go.Gl
attribute [local irreducible] z19 AWP z25 z31 z28
noncomputable def cbZ (g:Graph) (l:List Tree) (t:Tree):Int:=if (glB g l && t.brB)=true then (if gB (brL g l t) 0 then 0 else 1) else 3
theorem z1150 {g:Graph} {l:List Tree} {t:Tree} (h:(glB g l && t.brB)=true):0 < (brL g l t).length:=by
 have h1:=(Bool.and_eq_true_iff.1 h).1
 have hG:=(z126 g).1 (by unfold glB at h1;exact (Bool.and_eq_true_iff.1 h1).1)
 unfold brL
 rw [if_pos h,y31 hG.inN]
 exact hG.1.1
theorem z217 (g:Graph) (hg:g.mx) (l:List Tree) (hl:Lmx l) (t:Tree) (ht:t.mx):CallsA Tryz.prog 29 [.agg g.cs,lst 3 Tree.cs' l,z30 Tree.cs' t] [] (.int (cbZ g l t)) []:=by
 have k:=keepB (z409 g hg l hl t ht) rfl rfl
 by_cases h:(glB g l && t.brB)=true
 ·have g1:=z116 (S:=brL g l t) (i:=0) (z1150 h)
  have e:cbZ g l t=if gB (brL g l t) 0 then 0 else 1:=by unfold cbZ;rw [if_pos h]
  rw [h] at k
  rw [e]
  generalize gB (brL g l t) 0=p at *
  generalize brL g l t=R at *
  rw [y15] at k ⊢
  refine z9 z17 Tryz.func29 rfl rfl 23 Tryz.ntmps29 (by simp) ?_
  cases p
  all_goals
   repeat' (first|(apply y4 ok;rfl;conv=>whnf)|(apply z32;kernel_rfl;conv=>whnf)|(refine z12 (i:=0) rfl g1 ?_;conv=>whnf)|(apply y45;(first|omega|(unfold inI;omega)|(dsimp only;omega)|(unfold z111;omega)|((try dsimp only);simp only [y51,y50,y49,y48,y60,y61];omega)|(simp only [z110] at *;first|omega|(unfold inI;omega)|(unfold z111;omega))|exact z75 (fun _=>rfl)|exact ⟨rfl,z22 rfl z29⟩|exact ⟨rfl,z75 (fun _=>rfl) _⟩|exact ⟨⟨rfl,by omega⟩,z75 (fun _=>rfl) _⟩);conv=>whnf)|(with_reducible apply z10;omega;intro _;conv=>whnf)|(with_reducible apply z127;omega;intro _;conv=>whnf)|(apply z10;omega;intro _;conv=>whnf)|(apply z306;omega;conv=>whnf)|(apply z107;conv=>whnf)|(apply z336;omega;intro _;conv=>whnf)|(apply z480<;>intro _<;>conv=>whnf)|(apply z345<;>intro _<;>conv=>whnf)|(apply z479<;>intro _<;>conv=>whnf)|(apply z571<;>intro _<;>conv=>whnf)|(apply z5<;>intro _<;>conv=>whnf)|(apply z45<;>intro _<;>conv=>whnf)|(apply z81<;>intro _<;>conv=>whnf)|(apply z74<;>intro _<;>conv=>whnf)|(apply z6 (k);rfl;rfl;conv=>whnf))
   all_goals first|(exfalso;omega)|exact z39 rfl rfl rfl|(exfalso;simp_all;done)
 ·have e:cbZ g l t=3:=by unfold cbZ;rw [if_neg h]
  rw [(y74 _).mp h] at k
  rw [e]
  generalize brL g l t=R at *
  rw [y15] at k ⊢
  refine z9 z17 Tryz.func29 rfl rfl 23 Tryz.ntmps29 (by simp) ?_
  repeat' (first|(apply y4 ok;rfl;conv=>whnf)|(apply z32;kernel_rfl;conv=>whnf)|(apply y45;(first|omega|(unfold inI;omega)|(dsimp only;omega)|(unfold z111;omega)|((try dsimp only);simp only [y51,y50,y49,y48,y60,y61];omega)|(simp only [z110] at *;first|omega|(unfold inI;omega)|(unfold z111;omega))|exact z75 (fun _=>rfl)|exact ⟨rfl,z22 rfl z29⟩|exact ⟨rfl,z75 (fun _=>rfl) _⟩|exact ⟨⟨rfl,by omega⟩,z75 (fun _=>rfl) _⟩);conv=>whnf)|(with_reducible apply z10;omega;intro _;conv=>whnf)|(with_reducible apply z127;omega;intro _;conv=>whnf)|(apply z10;omega;intro _;conv=>whnf)|(apply z306;omega;conv=>whnf)|(apply z107;conv=>whnf)|(apply z336;omega;intro _;conv=>whnf)|(apply z480<;>intro _<;>conv=>whnf)|(apply z345<;>intro _<;>conv=>whnf)|(apply z479<;>intro _<;>conv=>whnf)|(apply z571<;>intro _<;>conv=>whnf)|(apply z5<;>intro _<;>conv=>whnf)|(apply z45<;>intro _<;>conv=>whnf)|(apply z81<;>intro _<;>conv=>whnf)|(apply z74<;>intro _<;>conv=>whnf)|(apply z6 (k);rfl;rfl;conv=>whnf))
  all_goals first|(exfalso;omega)|exact z39 rfl rfl rfl|(exfalso;simp_all;done)
theorem z321 (g:Graph) (hg:g.mx) (l:List Tree) (hl:Lmx l) (t:Tree) (ht:t.mx):CallsA Tryz.prog 30 [.agg g.cs,lst 3 Tree.cs' l,z30 Tree.cs' t] [] (.int (cbZ g l t)) []:=by
 have k:=z436 g hg l hl t ht
 by_cases h:(glB g l && t.brB)=true
 ·have g1:=z116 (S:=brL g l t) (i:=0) (z1150 h)
  have e:cbZ g l t=if gB (brL g l t) 0 then 0 else 1:=by unfold cbZ;rw [if_pos h]
  rw [h] at k
  rw [e]
  generalize gB (brL g l t) 0=p at *
  generalize brL g l t=R at *
  rw [y15] at k ⊢
  refine z9 z17 Tryz.func30 rfl rfl 21 Tryz.ntmps30 (by simp) ?_
  cases p
  all_goals
   repeat' (first|(apply y4 ok;rfl;conv=>whnf)|(apply z32;kernel_rfl;conv=>whnf)|(refine z12 (i:=0) rfl g1 ?_;conv=>whnf)|(apply y45;(first|omega|(unfold inI;omega)|(dsimp only;omega)|(unfold z111;omega)|((try dsimp only);simp only [y51,y50,y49,y48,y60,y61];omega)|(simp only [z110] at *;first|omega|(unfold inI;omega)|(unfold z111;omega))|exact z75 (fun _=>rfl)|exact ⟨rfl,z22 rfl z29⟩|exact ⟨rfl,z75 (fun _=>rfl) _⟩|exact ⟨⟨rfl,by omega⟩,z75 (fun _=>rfl) _⟩);conv=>whnf)|(with_reducible apply z10;omega;intro _;conv=>whnf)|(with_reducible apply z127;omega;intro _;conv=>whnf)|(apply z10;omega;intro _;conv=>whnf)|(apply z306;omega;conv=>whnf)|(apply z107;conv=>whnf)|(apply z336;omega;intro _;conv=>whnf)|(apply z480<;>intro _<;>conv=>whnf)|(apply z345<;>intro _<;>conv=>whnf)|(apply z479<;>intro _<;>conv=>whnf)|(apply z571<;>intro _<;>conv=>whnf)|(apply z5<;>intro _<;>conv=>whnf)|(apply z45<;>intro _<;>conv=>whnf)|(apply z81<;>intro _<;>conv=>whnf)|(apply z74<;>intro _<;>conv=>whnf)|(apply z6 (k);rfl;rfl;conv=>whnf))
   all_goals first|(exfalso;omega)|exact z39 rfl rfl rfl|(exfalso;simp_all;done)
 ·have e:cbZ g l t=3:=by unfold cbZ;rw [if_neg h]
  rw [(y74 _).mp h] at k
  rw [e]
  generalize brL g l t=R at *
  rw [y15] at k ⊢
  refine z9 z17 Tryz.func30 rfl rfl 21 Tryz.ntmps30 (by simp) ?_
  repeat' (first|(apply y4 ok;rfl;conv=>whnf)|(apply z32;kernel_rfl;conv=>whnf)|(apply y45;(first|omega|(unfold inI;omega)|(dsimp only;omega)|(unfold z111;omega)|((try dsimp only);simp only [y51,y50,y49,y48,y60,y61];omega)|(simp only [z110] at *;first|omega|(unfold inI;omega)|(unfold z111;omega))|exact z75 (fun _=>rfl)|exact ⟨rfl,z22 rfl z29⟩|exact ⟨rfl,z75 (fun _=>rfl) _⟩|exact ⟨⟨rfl,by omega⟩,z75 (fun _=>rfl) _⟩);conv=>whnf)|(with_reducible apply z10;omega;intro _;conv=>whnf)|(with_reducible apply z127;omega;intro _;conv=>whnf)|(apply z10;omega;intro _;conv=>whnf)|(apply z306;omega;conv=>whnf)|(apply z107;conv=>whnf)|(apply z336;omega;intro _;conv=>whnf)|(apply z480<;>intro _<;>conv=>whnf)|(apply z345<;>intro _<;>conv=>whnf)|(apply z479<;>intro _<;>conv=>whnf)|(apply z571<;>intro _<;>conv=>whnf)|(apply z5<;>intro _<;>conv=>whnf)|(apply z45<;>intro _<;>conv=>whnf)|(apply z81<;>intro _<;>conv=>whnf)|(apply z74<;>intro _<;>conv=>whnf)|(apply z6 (k);rfl;rfl;conv=>whnf))
  all_goals first|(exfalso;omega)|exact z39 rfl rfl rfl|(exfalso;simp_all;done)
end Go.Proofs.YtjhgpfaodkchjaaGreat
namespace Go.Proofs.YtjhgpfaodkchjaaGreat
open Go.Gl
attribute [local irreducible] z19
end Go.Proofs.YtjhgpfaodkchjaaGreat
namespace Go.Proofs.YtjhgpfaodkchjaaGreat
open Go.Gl
attribute [local irreducible] z19 AWP z25 z31 z28 RetS z38
theorem z762 (bs:List Int) (hb:CodeOk bs):∃ (g:Graph) (l:List Tree) (f:Tree),(g.d∧Lab.d l∧f.sz≤21)∧CallsA Tryz.prog 28 [lst 1 enU bs] [] (.tup [.agg g.cs,lst 3 Tree.cs' l,z30 Tree.cs' f]) []:=by
 obtain ⟨g,l,f,h,c⟩:=z1136 bs hb
 refine ⟨g,l,f,h,?_⟩
 rw [y15] at c ⊢
 refine z7 z17 Tryz.func28 rfl rfl 10 Tryz.ntmps28 (by simp) ?_
 repeat' ((first|(apply y4 ok;rfl)|(apply z32;kernel_rfl)|(apply y45;first|omega|(unfold inI;omega)|(dsimp only;omega)|((try dsimp only);simp only [y51,y50,y49,y48,y60,y61];omega)|exact z75 (fun _=>rfl)|exact ⟨rfl,z22 rfl z29⟩|exact ⟨rfl,z75 (fun _=>rfl) _⟩|exact ⟨⟨rfl,by omega⟩,z75 (fun _=>rfl) _⟩)|((first|(with_reducible apply z10;omega)|(with_reducible apply z127;omega)|(apply z10;omega));intro _)|(apply z306;omega)|apply z107|(apply z336;omega;intro _)|((first|apply z480|apply z345|apply z479|apply z571|apply z5|apply z45|apply z81|apply z74)<;>intro _)|(apply z6 (c);rfl;rfl))<;>conv=>whnf)
 all_goals (refine rsD [] [] rfl ?_;(repeat' first|exact y88 _|exact z43|(refine z1086 ?_;assumption)|exact z46|exact z288 _|exact z16 _|exact z289|exact f22_cs'|(refine end_le ?_;omega)|(refine z283 ?_;omega)|(refine z334 ?_;omega)|(refine z168 ?_;omega)|(refine z67 ?_;(first|omega|(simp;done)|(simp;omega)))|apply y89|((first|refine z40 rfl ?_ ?_|refine z716 rfl rfl ?_ ?_|refine z73 rfl ?_ ?_|refine z14 rfl ?_ ?_);(focus ((repeat' (first|exact z33|exact z37 rfl|exact z4 (fun _=>rfl)|exact z4 Tree.co_flat|exact z194 rfl z33|apply z53|apply z27|(refine z750 ?_ _ rfl)|assumption));done)))|(refine z14 rfl ?_ ?_;(focus (refine z256 ?_ ?_ rfl<;>first|(simp;omega)|(apply z27;exact z4 fun _=>rfl))))|(refine z492 ?_ ?_;(focus (simp;omega)))|refine z117 (by omega) (by omega) ?_|refine z577 (by omega) ?_|refine z1057 (by omega) ?_|(refine z1165 ?_;(first|omega|(simp;done)))|(refine z97 ?_ ?_;(focus (first|omega|(simp;done))))|(refine z1167 ?_ ?_;(focus (simp;done)))|refine z1166 ?_|((first|apply z54 rfl rfl rfl|apply z82 rfl rfl rfl);(focus ((repeat (first|exact z42 (fun _=>rfl) _|exact z154 _|apply z141|apply z198|apply z612|rfl));done));(focus ((first|rfl|(simp;omega)|(simp;done));done)))|apply z52|apply z104|(apply z79;rfl)|(refine z79 ?_ ?_;(focus (simp;done)))|apply ObjLe.mk|constructor))
end Go.Proofs.YtjhgpfaodkchjaaGreat
namespace Go.Proofs.YtjhgpfaodkchjaaGreat
open Go.Gl
attribute [local irreducible] z19 AWP z25 z31 z28
def mst (bl:List Int):Nat→Int
 |0=>0
 |i+1=>if bl.getD i 0=mst bl i then mst bl i+1 else mst bl i
def PartP (bl:List Int):Prop:=∀ i (h:i < bl.length),0≤bl[i]∧bl[i]≤mst bl i
noncomputable instance {bl:List Int} : Decidable (PartP bl):=Classical.propDecidable _
end Go.Proofs.YtjhgpfaodkchjaaGreat
namespace Go.Proofs
open Go.Shelf
end Go.Proofs
namespace Go.Proofs.YtjhgpfaodkchjaaGreat
open Go.Gl
attribute [local irreducible] z19 AWP z25 z31 z28
end Go.Proofs.YtjhgpfaodkchjaaGreat
namespace Go.Proofs.YtjhgpfaodkchjaaGreat
open Go.Gl
attribute [local irreducible] z19 AWP z25 z31 z28 RetS z38
theorem mst_eq (bl:List Int) (i:Nat):mst bl i=mstD bl i:=by
 induction i with
 |zero=>rfl
 |succ i ih=>rw [mst,mstD,ih]
theorem PartP.part {bl:List Int} {n:Nat} (h:PartP bl) (hn:bl.length=n):Part bl n:=⟨fun i hi=>by
 have:=h i (by omega)
 rw [mst_eq] at this
 rw [z20 (by omega)];exact this⟩
end Go.Proofs.YtjhgpfaodkchjaaGreat
namespace Go.Proofs.YtjhgpfaodkchjaaGreat
open Go.Gl
attribute [local irreducible] z19 AWP z25 z31 z28
def aft (g:Graph) (bl:List Int) (i:Nat):List Int:=z813 ((g.nx.getD i []).map (pick bl))
def keyA (g:Graph) (bl:List Int) (i:Nat):List Int:=bl.getD i 0::aft g bl i
def refL (g:Graph) (bl:List Int):List Int:=(numK (keyA g bl) g.st.length).1
def bisN (g:Graph) (b:List Int):Nat→List Int
 |0=>b
 |k+1=>refL g (bisN g b k)
def bis0 (g:Graph) (l:List Tree):List Int:=(numF (sameL (g.st.map (z50 l))) g.st.length).1
def bisF (g:Graph) (l:List Tree):List Int:=bisN g (bis0 g l) g.st.length
def BK (g:Graph) (b:List Int) (k:Nat):Prop:=∃ κ:Nat→List Int,bisN g b k=(numK κ g.st.length).1∧k≤(numK κ g.st.length).2
theorem numK_cnt {K:Type} [DecidableEq K] (κ:Nat→K) (n:Nat):(numK κ n).2≤n:=(z1082 _ n).2
theorem BK.le {g:Graph} {b:List Int} {k:Nat} (h:BK g b k):k≤g.st.length:=by
 obtain ⟨κ,_,h2⟩:=h
 have:=numK_cnt κ g.st.length;omega
theorem BK.step {g:Graph} {b:List Int} {k:Nat} (h:BK g b k) (hne:bisN g b (k+1)≠bisN g b k):BK g b (k+1):=by
 obtain ⟨κ,h1,h2⟩:=h
 refine ⟨keyA g (bisN g b k),rfl,?_⟩
 obtain ⟨h3,h4,_⟩:=z964 (κ:=κ) (κ':=keyA g (bisN g b k)) (n:=g.st.length) (fun x y hx hy he=>by
  have h5:(bisN g b k).getD x 0=(bisN g b k).getD y 0:=(List.cons.inj he).1
  rw [h1] at h5
  rw [z20 (by rw [z201];exact hx),z20 (by rw [z201];exact hy)] at h5
  exact (z632 (κ:=κ) (n:=g.st.length) g.st.length (y54 _) x y hx hy).1 h5) g.st.length (y54 _)
 rcases y72 k (numK (keyA g (bisN g b k)) g.st.length).2 with h|h
 ·exact h
 ·exfalso
  refine hne ?_
  show (numK (keyA g (bisN g b k)) g.st.length).1=_
  rw [h1] at h4 ⊢
  rw [h1] at h3 h
  exact h4 (by omega)
theorem z870 {g:Graph} {b:List Int} {k:Nat} (h:bisN g b (k+1)=bisN g b k):∀ j,k≤j→bisN g b j=bisN g b k:=by
  intro j hj
  induction j with
  | zero => obtain rfl : k = 0 := by omega
            rfl
  | succ j ih =>
    rcases y72 j k with h1|h1
    · obtain rfl:k=j+1:=by omega
      rfl
    · rw [bisN,ih h1];exact h
theorem BK.zero (g:Graph) (l:List Tree):BK g (bis0 g l) 0:=by
 refine ⟨fun i=>[(g.st.map (z50 l)).getD i 0],?_,y55 _⟩
 show (numF _ _).1=(numF _ _).1
 rw [z965]
 intro i k _ _
 unfold sameL
 simp [eq_comm]
theorem BK.end {g:Graph} {l:List Tree} {k:Nat} (h:BK g (bis0 g l) k) (he:refL g (bisN g (bis0 g l) k)=bisN g (bis0 g l) k):bisN g (bis0 g l) k=bisF g l :=
 (z870 he _ h.le).symm
end Go.Proofs.YtjhgpfaodkchjaaGreat
namespace Go.Proofs.YtjhgpfaodkchjaaGreat
open Go.Gl
attribute [local irreducible] z19 AWP z25 z31 z28 RetS z38
theorem GB.inG {g:Graph} (h:GB g):∀ r∈g.nx,InN g.st.length r:=fun r hr=>by
 obtain ⟨i,hi,rfl⟩:=List.mem_iff_getElem.1 hr
 exact (GB.row h i hi).2.2
theorem glB_GB {g:Graph} {l:List Tree} (h:glB g l=true):GB g∧z129 l:=by
 unfold glB at h
 obtain ⟨h1,h2⟩:=Bool.and_eq_true_iff.1 h
 exact ⟨(z126 g).1 h1,y8 h2⟩
end Go.Proofs.YtjhgpfaodkchjaaGreat
namespace Go.Proofs.YtjhgpfaodkchjaaGreat
open Go.Gl
attribute [local irreducible] z19 AWP z25 z31 z28
theorem vd_eq {g:Graph} {l:List Tree} {f:Tree} (hg:glB g l=true) (h2:f.fmB=true) (h3:ngS f=true) (b:Bool) (hb:b=true↔∀ π,GPath g π→f.sem (gW g l π) 0):vdI g l f=if b then 0 else 1:=by
 cases b with
 |true =>
  rw [if_pos rfl]
  exact z681.2 ⟨⟨hg,h2,h3⟩,hb.1 rfl⟩
 |false =>
  rw [if_neg (by simp)]
  have h0:vdI g l f≠0:=fun h=>by
   have:=hb.2 (z681.1 h).2
   cases this
  have:=z1018.2 ⟨hg,h2,h3⟩
  have:=z1019 g l f
  omega
theorem un2_ngS {i k:Int} (hi:i=0∨i=1∨i=2) (hk:k=0∨k=1∨k=2):(Tree.mk 7 0 [.mk 2 i [],.mk 2 k []]).fmB=true∧ngS (.mk 7 0 [.mk 2 i [],.mk 2 k []])=true:=by
 have e1:negT (.mk 7 0 [.mk 2 i [],.mk 2 k []])=notT (.mk 7 0 [.mk 2 i [],.mk 2 k []]):=by simp [negT,Tree.kind,notT]
 have e:(negT (.mk 7 0 [.mk 2 i [],.mk 2 k []])).nrm false=.mk 8 0 [notT (.mk 2 i []),notT (.mk 2 k [])]:=by
  rw [e1,notT,z405,z510 _ _ _ _ _ (by simp)]
  simp [z580,z664,notT]
 refine ⟨?_,ngS_of ?_ ?_ ?_⟩
 ·rcases hi with rfl|rfl|rfl<;>rcases hk with rfl|rfl|rfl<;>decide
 ·unfold ngB;rw [e1];rcases hi with rfl|rfl|rfl<;>rcases hk with rfl|rfl|rfl<;>decide
 ·rw [e];rcases hi with rfl|rfl|rfl<;>rcases hk with rfl|rfl|rfl<;>decide
 ·rw [e]
  rcases hi with rfl|rfl|rfl<;>rcases hk with rfl|rfl|rfl<;>simp [bscL,Tree.subs,Tree.subss,addT,z91,Tree.kind,truT,notT,List.filter_cons]
section
variable {g:Graph} {l:List Tree} {k i:Int}
theorem z389 {j:Nat} (hj:j < g.st.length):gB ((Tree.mk 2 k []).satB g.nx g.st.length (g.st.map (z50 l))) j=hasB ((g.st.map (z50 l)).getD j 0) k:=by
 rw [y30]
 exact gB_map _ hj
theorem z746 {π:Nat→Int} : GPath g π↔RPath g.nx 0 π:=Iff.rfl
theorem ag_plain (hk:k=0∨k=1∨k=2):cbZ g l (.mk 11 0 [.mk 2 k []])=vdI g l (.mk 10 0 [.mk 2 k []]):=by
 by_cases hg:glB g l=true
 ·obtain ⟨n1,n2⟩:=z1035 (q:=10) (.inr rfl) hk
  have hb:(Tree.mk 11 0 [.mk 2 k []]).brB=true:=by rcases hk with rfl|rfl|rfl<;>decide
  have hok:(glB g l && (Tree.mk 11 0 [.mk 2 k []]).brB)=true:=by rw [hg,hb];rfl
  obtain ⟨hG,_⟩:=glB_GB hg
  have hl:=hG.2.1
  have h1:=hG.1
  unfold cbZ brL
  rw [if_pos hok,if_pos hok]
  symm
  refine vd_eq hg n1 n2 _ ?_
  rw [z818,show (0:Nat)=(0:Int).toNat from rfl,z755 hG.inG hl (fun j hj=>⟨_,(by rw [z20 (by omega)];exact y46 (n:=0) (by have:=(hG.row j (by omega)).1;omega))⟩) _ (by omega)]
  have hin:∀ π,RPath g.nx 0 π→∀ j,(π j).toNat < g.st.length:=fun π hp j=>by
   have:=(z746.2 hp).inn hG j
   omega
  constructor
  ·intro h π hp
   refine (z897 _ _ _ _).2 fun j _=>(z323 _ _ _).2 ?_
   have:=h π hp j
   rw [z389 (hin π hp j)] at this
   exact this
  ·intro h π hp j
   rw [z389 (hin π hp j)]
   exact (z323 _ _ _).1 ((z897 _ _ _ _).1 (h π hp) j (y55 _))
 ·rw [z680.2 (fun h=>hg h.1)]
  unfold cbZ
  rw [(y74 _).mp hg];rfl
theorem z482 {t p q : Tree} (ht : (Tree.mk 10 0 [t, .mk 2 k []]).brB = true) (n1 : q.fmB = true) (n2 : ngS q = true) (hk : k = 0 ∨ k = 1 ∨ k = 2)
    (hs:∀ (w:Nat→Int),q.sem w 0↔∃ j,hasB (w j) k=true∧∀ m,m < j→p.sem w m)
    (ha:∀ (π:Nat→Int) (j:Nat),(π j).toNat < g.st.length→(gB (t.satB g.nx g.st.length (g.st.map (z50 l))) (π j).toNat=true↔p.sem (gW g l π) j)):cbZ g l (.mk 10 0 [t,.mk 2 k []])=vdI g l q:=by
  by_cases hg:glB g l=true
  · have hok:(glB g l && (Tree.mk 10 0 [t,.mk 2 k []]).brB)=true:=by rw [hg,ht];rfl
    obtain ⟨hG,_⟩:=glB_GB hg
    have hl:=hG.2.1
    have h1:=hG.1
    unfold cbZ brL
    rw [if_pos hok,if_pos hok]
    symm
    refine vd_eq hg n1 n2 _ ?_
    rw [z953,show (0:Nat)=(0:Int).toNat from rfl,z855 hG.inG hl (fun j hj=>⟨_,(by rw [z20 (by omega)];exact y46 (n:=0) (by have:=(hG.row j (by omega)).1;omega))⟩) _ _ (by omega)]
    have hin:∀ π,RPath g.nx 0 π→∀ j,(π j).toNat < g.st.length:=fun π hp j=>by
      have:=(z746.2 hp).inn hG j
      omega
    constructor
    · intro h π hp
      obtain ⟨j,hj,hm⟩:=h π hp
      rw [z389 (hin π hp j)] at hj
      exact (hs _).2 ⟨j,hj,fun m hmj=>(ha π m (hin π hp m)).1 (hm m hmj)⟩
    · intro h π hp
      obtain ⟨j,hj,hm⟩:=(hs _).1 (h π hp)
      refine ⟨j,?_,fun m hmj=>(ha π m (hin π hp m)).2 (hm m hmj)⟩
      rw [z389 (hin π hp j)]
      exact hj
  · rw [z680.2 (fun h=>hg h.1)]
    unfold cbZ
    rw [(y74 _).mp hg];rfl
theorem af_plain (hk:k=0∨k=1∨k=2):cbZ g l (.mk 10 0 [.mk 1 0 [],.mk 2 k []])=vdI g l (.mk 9 0 [.mk 2 k []]):=by
 obtain ⟨n1,n2⟩:=z1035 (q:=9) (.inl rfl) hk
 refine z482 (p:=.mk 1 0 []) (by rcases hk with rfl|rfl|rfl<;>decide) n1 n2 hk (fun w=>?_) (fun π j hj=>?_)
 ·rw [z1058]
  constructor
  ·rintro ⟨j,_,h⟩
   exact ⟨j,(z323 _ _ _).1 h,fun m _=>(z494 _ _ _).2 trivial⟩
  ·rintro ⟨j,h,_⟩
   exact ⟨j,y55 _,(z323 _ _ _).2 h⟩
 ·rw [sat_true _ _ _ hj]
  exact ⟨fun _=>(z494 _ _ _).2 trivial,fun _=>rfl⟩
theorem au_plain (hi:i=0∨i=1∨i=2) (hk:k=0∨k=1∨k=2):cbZ g l (.mk 10 0 [.mk 2 i [],.mk 2 k []])=vdI g l (.mk 7 0 [.mk 2 i [],.mk 2 k []]):=by
 obtain ⟨n1,n2⟩:=un2_ngS hi hk
 refine z482 (p:=.mk 2 i []) (by rcases hi with rfl|rfl|rfl<;>rcases hk with rfl|rfl|rfl<;>decide) n1 n2 hk (fun w=>?_) (fun π j hj=>?_)
 ·rw [z274]
  constructor
  ·rintro ⟨j,_,h,hm⟩
   exact ⟨j,(z323 _ _ _).1 h,fun m hmj=>hm m (y55 _) hmj⟩
  ·rintro ⟨j,h,hm⟩
   exact ⟨j,y55 _,(z323 _ _ _).2 h,fun m _ hmj=>hm m hmj⟩
 ·rw [z389 hj,z323];rfl
end
end Go.Proofs.YtjhgpfaodkchjaaGreat
