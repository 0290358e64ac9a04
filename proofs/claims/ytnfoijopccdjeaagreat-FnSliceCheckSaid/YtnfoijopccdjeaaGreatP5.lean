/- A part of the proofs over this program: T143, T224, T144, T225, T145, T226, T146, T147, T227, T148, T149, T228, T229, T150, T151, T152, T230, T231, T39, T232, T38, T40, T41, T42, T153, T233. -/
import Derived.Test.YtnfoijopccdjeaaGreatG0
import Derived.Test.YtnfoijopccdjeaaGreatG1
import Derived.Test.YtnfoijopccdjeaaGreatG2
import Derived.Test.YtnfoijopccdjeaaGreatG3
import Derived.Test.YtnfoijopccdjeaaGreatP0
import Derived.Test.YtnfoijopccdjeaaGreatP1
import Derived.Test.YtnfoijopccdjeaaGreatP2
import Derived.Test.YtnfoijopccdjeaaGreatP3
import Derived.Test.YtnfoijopccdjeaaGreatP4
set_option linter.all false
namespace Go.Proofs.YtnfoijopccdjeaaGreat
open Go.Gl
attribute [local irreducible] z18 AWP z30 z36 z32 RetS z38
theorem z995 (t:Tree) (h:t.sz≤1000000):CallsA Tryz.prog 90 [z24 Tree.cs' t] [] (ownT t) [.cells 3 (t.kids.map Tree.cs')]:=by
 induction t using y26 with|h t ih=>?_
 have hkl:t.kids.length≤1000000:=by rw [y38] at h;omega
 have hks:∀ u∈t.kids,u.sz≤1000000:=fun u hu=>by
  have:=z244 Tree.sz hu
  rw [y38] at h;omega
 rw [y16 t]
 obtain ⟨k,v,l⟩:=t
 simp only [Tree.kind,Tree.val,Tree.kids] at *
 have hcs:∀ (i:Nat) (hi:i < l.length),CallsA Tryz.prog 90 [z24 Tree.cs' l[i]] [] (z24 Tree.cs' l[i]) []:=fun i hi =>
  z258 (ih _ (y44 _) (hks _ (y44 _)))
 unfold ownT
 simp only [Tree.kind,Tree.val,Tree.kids] at *
 refine z7 z16 Tryz.func90 rfl rfl 29 Tryz.ntmps90 (by simp) ?_
 repeat' (((apply y4 ok;rfl))<;>conv=>whnf)
 refine y84 (y87 3 rfl) ?_
 refine z58 (fun i:Nat=>([(1,.ptr 0 none 0),(2,.ptr 1 none 0),(3,.ptr 2 none 0),(4,.int i)],[.cells 3 [[.int k,.int v,lst 3 Tree.cs' l]],.cells 3 [[.int 0,.int 0,.nils]],.cells 3 [[.int k,.int v,.sref 3 0 i]],.cells 3 ((l.take i).map Tree.cs')])) (fun i=>i≤l.length) (fun i=>l.length - i) 0 (by omega) (by refine swR [0,1,2,3] [] rfl rfl ?_;(repeat' first|exact y85 _|exact z47|apply y86|refine z10 rfl (z31) ?_|constructor)) ?_
 intro i hi
 by_cases hil:i < l.length
 ·have hc:=hcs i hil
  repeat' ((first|(apply y4 ok;rfl)|(apply z26;kernel_rfl)|(apply y43;first|omega|(unfold inI;omega)|((try dsimp only);simp only [y49,y48,y47,y46,y57,y58];omega)|exact ⟨rfl,z20 rfl z29⟩)|(((with_reducible apply z13;omega));intro _)|((apply z5)<;>intro _)|(apply z6 (hc);rfl;rfl))<;>conv=>whnf)
  all_goals try (exfalso;omega)
  refine z21 (i+1) (by omega) (by omega) (by refine swR [0,1,2,5] [] rfl rfl ?_;(repeat' first|exact y85 _|apply y86|((refine z40 rfl ?_ ?_);(focus ((repeat' (first|exact z4 (fun _=>rfl)|apply z22));done)))|refine z106 (by omega) (by omega) ?_|constructor))
 ·have e:i=l.length:=by omega
  subst e
  rw [y55]
  repeat' ((first|(apply y4 ok;rfl)|(apply y43;omega)|(((with_reducible apply z13;omega));intro _)|((apply z5)<;>intro _))<;>conv=>whnf)
  all_goals try (exfalso;omega)
  all_goals (refine rsD [3] [] rfl ?_;(repeat' first|exact y85 _|exact z9 _|refine z10 rfl (z4 (fun _=>rfl)) ?_|constructor))
set_option maxHeartbeats 1600000 in
theorem z856 (bs:List Int) (hb:BytesOk bs) (p:Int) (hp:few p) (t:Tree) (ht:t.sz≤1000):∃ (t' : Tree) (p' : Int),(t'.sz≤t.sz+1∧p≤p'∧p'≤p+2)∧CallsA Tryz.prog 36 [.ptr 0 none 0,z24 Tree.cs' t] [rdO bs p] (z24 Tree.cs' t') [rdO bs p']:=by
 have cs:=z995 t (by omega)
 obtain ⟨u,hu⟩:∃ u,u=t:=⟨t,rfl⟩
 have hsz:u.sz≤t.sz:=by rw [hu];exact y52 _
 have cs:CallsA Tryz.prog 90 [z24 Tree.cs' t] [] (ownT u) [.cells 3 (u.kids.map Tree.cs')]:=by rw [hu];exact cs
 clear hu
 have hul:u.kids.length≤1000:=by rw [y38] at hsz;omega
 obtain ⟨v,⟨lv,uv⟩,cv⟩:=z63 bs hb p 50 (by omega) (by omega) (by omega)
 rw [y16 t]
 rw [y16 t] at cs
 unfold ownT at cs
 by_cases h0:v=0
 ·subst h0
  obtain ⟨k,mk,ck⟩:=z87 bs hb (p+1) (by omega) (by omega) [0,11,-1,2,3,4] (by decide) (by decide)
  refine ⟨.mk k u.val u.kids,p+1+1,⟨by rw [z231];rw [y38] at hsz;omega,by omega,by omega⟩,?_⟩
  refine z7 z16 Tryz.func36 rfl rfl 34 Tryz.ntmps36 (by simp) ?_
  repeat' ((first|(apply y4 ok;rfl)|((first|(apply z8 [] [3] cs;rfl;rfl)|(apply z8 [0] [] cv;rfl;rfl)|(apply z8 [0,5] [] ck;rfl;rfl));rfl;(focus ((repeat' first|exact z12|apply z11)<;>first|exact z33 rfl rfl|(refine z17 ?_;((exact z4 fun _=>rfl)))))))<;>conv=>whnf)
  all_goals (refine rsD [0] [3] rfl ?_;(repeat' first|exact y85 _|exact z338|apply y86|((apply z37 rfl rfl rfl);(focus ((repeat ((exact z23 (fun _=>rfl) _)));done));(focus (((simp;done));done)))|apply z46|(apply z66;rfl)|constructor))
 by_cases h1:v=1
 ·subst h1
  obtain ⟨k,mk,ck⟩:=z87 bs hb (p+1) (by omega) (by omega) [-1,3,2,9223372036854775807] (by decide) (by decide)
  refine ⟨.mk u.kind k u.kids,p+1+1,⟨by rw [z231];rw [y38] at hsz;omega,by omega,by omega⟩,?_⟩
  refine z7 z16 Tryz.func36 rfl rfl 34 Tryz.ntmps36 (by simp) ?_
  repeat' ((first|(apply y4 ok;rfl)|((first|(apply z8 [] [3] cs;rfl;rfl)|(apply z8 [0] [] cv;rfl;rfl)|(apply z8 [0,5] [] ck;rfl;rfl));rfl;(focus ((repeat' first|exact z12|apply z11)<;>first|exact z33 rfl rfl|(refine z17 ?_;((exact z4 fun _=>rfl)))))))<;>conv=>whnf)
  all_goals (refine rsD [0] [3] rfl ?_;(repeat' first|exact y85 _|exact z338|apply y86|((apply z37 rfl rfl rfl);(focus ((repeat ((exact z23 (fun _=>rfl) _)));done));(focus (((simp;done));done)))|apply z46|(apply z66;rfl)|constructor))
 by_cases h2:v=2
 ·subst h2
  refine ⟨.mk u.kind u.val (u.kids++[leaf 1 0]),p+1,⟨by rw [z231];rw [y38] at hsz;simp [z82];omega,by omega,by omega⟩,?_⟩
  refine z7 z16 Tryz.func36 rfl rfl 34 Tryz.ntmps36 (by simp) ?_
  repeat' ((first|(apply y4 ok;rfl)|(apply z26;kernel_rfl)|(apply y43;first|((try dsimp only);simp only [y49,y48,y47,y46,y57,y58];omega)|exact ⟨rfl,z20 rfl z29⟩)|(apply z6 (z526);rfl;rfl)|((first|(apply z8 [] [3] cs;rfl;rfl)|(apply z8 [0] [] cv;rfl;rfl));rfl;(focus ((repeat' first|exact z12|apply z11)<;>first|exact z33 rfl rfl|(refine z17 ?_;((exact z4 fun _=>rfl)))))))<;>conv=>whnf)
  all_goals (refine rsD [0] [6] rfl ?_;(repeat' first|exact y85 _|apply y86|((apply z37 rfl rfl rfl);(focus ((repeat (first|exact z23 (fun _=>rfl) _|apply z101|apply z132|rfl));done));(focus (((simp;done));done)))|apply z46|constructor))
  all_goals exact z717 rfl rfl (node_le' (y85 _))
 by_cases h3:v=3
 ·subst h3
  refine ⟨leaf 0 0,p+1,⟨by rw [z82];omega,by omega,by omega⟩,?_⟩
  refine z7 z16 Tryz.func36 rfl rfl 34 Tryz.ntmps36 (by simp) ?_
  repeat' ((first|(apply y4 ok;rfl)|((first|(apply z8 [] [3] cs;rfl;rfl)|(apply z8 [0] [] cv;rfl;rfl));rfl;(focus ((repeat' first|exact z12|apply z11)<;>first|exact z33 rfl rfl|(refine z17 ?_;((exact z4 fun _=>rfl)))))))<;>conv=>whnf)
  all_goals (refine rsD [0] [] rfl ?_;(repeat' first|exact y85 _|exact z41|apply y86|apply z46|constructor))
 ·refine ⟨.mk u.kind u.val u.kids,p+1,⟨by rw [z231];rw [y38] at hsz;omega,by omega,by omega⟩,?_⟩
  refine z7 z16 Tryz.func36 rfl rfl 34 Tryz.ntmps36 (by simp) ?_
  repeat' ((first|(apply y4 ok;rfl)|((apply z5)<;>intro _)|((first|(apply z8 [] [3] cs;rfl;rfl)|(apply z8 [0] [] cv;rfl;rfl));rfl;(focus ((repeat' first|exact z12|apply z11)<;>first|exact z33 rfl rfl|(refine z17 ?_;((exact z4 fun _=>rfl)))))))<;>conv=>whnf)
  all_goals try (exfalso;omega)
  all_goals (refine rsD [0] [3] rfl ?_;(repeat' first|exact y85 _|exact z338|apply y86|((apply z37 rfl rfl rfl);(focus ((repeat ((exact z23 (fun _=>rfl) _)));done));(focus (((simp;done));done)))|apply z46|(apply z66;rfl)|constructor))
theorem z663 (c:Tree) (l:List Tree) (hl:l.length≤maxLen) (p:Tree→Bool) (f:FuncId) (hf:∀ x∈l,CallsA Tryz.prog f [z24 Tree.cs' x,.pt [.int c.kind,.int c.val,lst 3 Tree.cs' c.kids]] [] (.bool (p x)) []):CallsA Tryz.prog 256 [lst 3 Tree.cs' l,.fn (.func f) [] [.pt [.int c.kind,.int c.val,lst 3 Tree.cs' c.kids]]] [] (.int (idxF p l)) []:=by
 unfold maxLen at hl
 refine z14 z16 Tryz.func256 rfl rfl 19 Tryz.ntmps256 (by simp) ?_
 repeat' (((apply y4 ok;rfl))<;>conv=>whnf)
 refine z134 (fun k:Nat=>([(0,lst 3 Tree.cs' l),(1,.fn (.func f) [] [.pt [.int c.kind,.int c.val,lst 3 Tree.cs' c.kids]]),(7,.int l.length),(8,.int k)],[])) (fun k=>k≤l.length∧∀ j (hj:j < l.length),j < k→p l[j]=false) (fun k=>l.length - k) 0 (by simp)
  ⟨[],rfl,by decide,rfl,⟨⟨rfl,rfl⟩,⟨rfl,rfl⟩,⟨rfl,rfl⟩,⟨rfl,rfl⟩,trivial⟩,trivial⟩ ?_
 intro k hk
 repeat' ((first|(apply y4 ok;rfl)|(apply y43;first|omega|(unfold inI;omega))|(((with_reducible apply z13;omega));intro _)|((first|apply z5|apply z91)<;>intro _)|(apply z6 (hf l[k] (y44 _));rfl;rfl))<;>conv=>whnf)
 ·rename_i h h1
  exact z49 rfl rfl (by rw [z155 (by omega) h1 hk.2];rfl)
 ·rename_i h h1
  refine z117 (k+1) [] ⟨by omega,fun j hj hjk=>?_⟩ (by omega) ⟨rfl,by decide,rfl,⟨⟨rfl,rfl⟩,⟨rfl,rfl⟩,⟨rfl,rfl⟩,⟨rfl,rfl⟩,trivial⟩,trivial⟩
  rcases y69 j k with h2|h2
  ·exact hk.2 j hj h2
  ·obtain rfl:j=k:=by omega
   exact h1
 ·exact z49 rfl rfl (by rw [z139 fun j hj=>hk.2 j hj (by omega)];rfl)
theorem z1177 (A B : List Tree) (hA : A.length ≤ maxLen) (hB : B.length ≤ maxLen) (f : FuncId) (hf : ∀ i (h : i < A.length) (h2 : i < B.length), CallsA Tryz.prog f [z24 Tree.cs' A[i], z24 Tree.cs' B[i]] [] (.bool (decide (A[i] = B[i]))) []) :
    CallsA Tryz.prog 279 [lst 3 Tree.cs' A,lst 3 Tree.cs' B,.fn (.func f) [] []] [] (.bool (decide (A=B))) []:=by
  unfold maxLen at hA hB
  by_cases hl:A.length=B.length
  · have hT:(∀ i (h:i < A.length) (h2:i < B.length),A[i]=B[i])→decide (A=B)=true:=fun h=>y81 (y74 hl h)
    have hF:∀ i (h:i < A.length) (h2:i < B.length),A[i]≠B[i]→decide (A=B)=false:=fun i h h2 hne=>y82 fun e=>hne (by subst e;rfl)
    generalize decide (A=B)=D at *
    refine z7 z16 Tryz.func279 rfl (by kernel_rfl) 32 Tryz.ntmps279 (by simp) ?_
    repeat' ((first|(apply y4 ok;rfl)|((apply z52)<;>intro _))<;>conv=>whnf)
    all_goals try (exfalso;omega)
    refine z58 (fun i:Nat=>([(0,lst 3 Tree.cs' A),(1,lst 3 Tree.cs' B),(2,.fn (.func f) [] []),(15,lst 3 Tree.cs' A),(16,.int A.length),(17,.int i)],[])) (fun i=>i≤A.length∧∀ j (h:j < A.length) (h2:j < B.length),j < i→A[j]=B[j]) (fun i=>A.length - i) 0 ⟨y53 _,fun j _ _ h=>absurd h (Nat.not_lt_zero _)⟩ (by refine swR [] [] rfl rfl ?_;(repeat' first|exact y85 _|constructor)) ?_
    rintro i ⟨hi,hj⟩
    by_cases hil:i < A.length
    · have hil2:i < B.length:=by omega
      have c1:=hf i hil hil2
      have gA:(A.map Tree.cs')[i]?=some (Tree.cs' A[i]):=by rw [y51,y45 hil];rfl
      have gB:(B.map Tree.cs')[i]?=some (Tree.cs' B[i]):=by rw [y51,y45 hil2];rfl
      by_cases he:A[i]=B[i]
      · rw [y81 he] at c1
        have hj2:∀ j (h:j < A.length) (h2:j < B.length),j < i+1→A[j]=B[j]:=fun j h h2 hji=>by
          rcases y69 j i with h3|h3
          · exact hj j h h2 h3
          · obtain rfl:j=i:=by omega
            exact he
        generalize A[i]=x at *
        generalize B[i]=y at *
        repeat' ((first|(apply y4 ok;rfl)|(refine z15 (i:=i) rfl gA ?_)|(refine z15 (i:=i) rfl gB ?_)|(apply y43;first|omega|(unfold inI;omega))|((apply z5)<;>intro _)|(apply z6 (c1);rfl;rfl))<;>conv=>whnf)
        all_goals try (exfalso;omega)
        all_goals refine z21 (i+1) ⟨by omega,hj2⟩ (by omega) (by refine swR [] [] rfl rfl ?_;(repeat' first|exact y85 _|constructor))
      · rw [y82 he] at c1
        have hD:=hF i hil hil2 he
        subst hD
        generalize A[i]=x at *
        generalize B[i]=y at *
        repeat' ((first|(apply y4 ok;rfl)|(refine z15 (i:=i) rfl gA ?_)|(refine z15 (i:=i) rfl gB ?_)|(apply y43;omega)|((apply z5)<;>intro _)|(apply z6 (c1);rfl;rfl))<;>conv=>whnf)
        all_goals try (exfalso;omega)
        all_goals (refine rsD [] [] rfl ?_;(repeat' first|exact y85 _|constructor))
    · have hD:=hT (fun j h h2=>hj j h h2 (by omega))
      subst hD
      repeat' ((first|(apply y4 ok;rfl)|(apply y43;omega)|(((with_reducible apply z13;omega));intro _)|((apply z5)<;>intro _))<;>conv=>whnf)
      all_goals try (exfalso;omega)
      all_goals (refine rsD [] [] rfl ?_;(repeat' first|exact y85 _|constructor))
  · rw [y82 (fun e=>hl (by rw [e]))]
    refine z7 z16 Tryz.func279 rfl (by kernel_rfl) 32 Tryz.ntmps279 (by simp) ?_
    repeat' ((first|(apply y4 ok;rfl)|((apply z52)<;>intro _))<;>conv=>whnf)
    all_goals first|(exfalso;omega)|(refine rsD [] [] rfl ?_;(repeat' first|exact y85 _|constructor))
theorem z667 (a:Tree):a.mx→∀ b:Tree,b.mx→CallsA Tryz.prog 270 [z24 Tree.cs' a,z24 Tree.cs' b] [] (.bool (decide (a=b))) []:=by
 induction a using y26 with|h a ih=>?_
 intro ha b hb
 rw [y30] at ha hb
 have cE:=z1177 a.kids b.kids ha.1 hb.1 270 (fun i h h2=>ih _ (y44 _) (ha.2 _ (y44 _)) _ (hb.2 _ (y44 _)))
 clear ih
 rw [y16,y16]
 by_cases hk:a.kind=b.kind∧a.val=b.val
 ·obtain ⟨k1,k2⟩:=hk
  have e:decide (a.kids=b.kids)=decide (a=b):=decide_eq_decide.2 ⟨fun h=>Tree.ext k1 k2 h,fun h=>by rw [h]⟩
  rw [e] at cE
  generalize decide (a=b)=D at *
  cases D
  all_goals
   refine z7 z16 Tryz.func270 rfl rfl 24 Tryz.ntmps270 (by simp) ?_
   repeat' ((first|(apply y4 ok;rfl)|((apply z5)<;>intro _)|(apply z6 (cE);rfl;rfl))<;>conv=>whnf)
   all_goals try (exfalso;omega)
   all_goals (refine rsD [] [] rfl ?_;(repeat' first|exact y85 _|constructor))
 ·rw [y82 (fun e=>hk (by subst e;exact ⟨rfl,rfl⟩))]
  clear cE
  refine z7 z16 Tryz.func270 rfl rfl 24 Tryz.ntmps270 (by simp) ?_
  repeat' ((first|(apply y4 ok;rfl)|((apply z5)<;>intro _))<;>conv=>whnf)
  all_goals first|(exfalso;omega)|(refine rsD [] [] rfl ?_;(repeat' first|exact y85 _|constructor))
theorem z296 (l:List Tree) (hl:l.length≤1000000) (hm:∀ t∈l,t.mx) (t:Tree) (ht:t.mx):CallsA Tryz.prog 239 [lst 3 Tree.cs' l,z24 Tree.cs' t] [] (.int (idxF (fun x=>decide (x=t)) l)) []:=by
 have cI:=z663 t l (by unfold maxLen;omega) (fun x=>decide (x=t)) 269 (fun x hx=>by
  have cS:=z667 x (hm x hx) t ht
  rw [y16 t] at cS
  refine z7 z16 Tryz.func269 rfl rfl 7 Tryz.ntmps269 (by simp) ?_
  rw [y16 x] at cS ⊢
  repeat' ((first|(apply y4 ok;rfl)|(apply z6 (cS);rfl;rfl))<;>conv=>whnf)
  all_goals (refine rsD [] [] rfl ?_;(repeat' first|exact y85 _|constructor)))
 rw [y16 t]
 refine z7 z16 Tryz.func239 rfl rfl 8 Tryz.ntmps239 (by simp) ?_
 repeat' ((first|(apply y4 ok;rfl)|(apply z89 [] [0] [] cI;(focus ((repeat' first|exact z75|apply z48)<;>rfl));rfl;rfl;(focus ((repeat' exact z12)<;>fail));((refine .inr ⟨rfl,?_⟩;repeat' exact True.intro))))<;>conv=>whnf)
 all_goals (refine rsD [] [] rfl ?_;(repeat' first|exact y85 _|constructor))
theorem z1188 (t:Tree) (h:t.sz≤1000000):CallsA Tryz.prog 234 [z24 Tree.cs' t] [] (ownT t) [.cells 3 (t.kids.map Tree.cs')]:=by
 induction t using y26 with|h t ih=>?_
 have hkl:t.kids.length≤1000000:=by rw [y38] at h;omega
 have hks:∀ u∈t.kids,u.sz≤1000000:=fun u hu=>by
  have:=z244 Tree.sz hu
  rw [y38] at h;omega
 rw [y16 t]
 obtain ⟨k,v,l⟩:=t
 simp only [Tree.kind,Tree.val,Tree.kids] at *
 have hcs:∀ (i:Nat) (hi:i < l.length),CallsA Tryz.prog 234 [z24 Tree.cs' l[i]] [] (z24 Tree.cs' l[i]) []:=fun i hi =>
  z258 (ih _ (y44 _) (hks _ (y44 _)))
 have cC:=z169 l (by omega)
 unfold ownT
 simp only [Tree.kind,Tree.val,Tree.kids] at *
 refine z7 z16 Tryz.func234 rfl rfl 30 Tryz.ntmps234 (by simp) ?_
 repeat' ((first|(apply y4 ok;rfl)|(apply z26;kernel_rfl)|(apply z8 [] [2] cC;rfl;rfl;rfl;(focus ((repeat' first|exact z12|apply z11)<;>(refine z17 ?_;((exact z4 fun _=>rfl)))))))<;>conv=>whnf)
 refine z58 (fun i:Nat=>([(1,.ptr 0 none 0),(2,.ptr 1 none 0),(3,.ptr 3 none 0),(15,lst 3 Tree.cs' l),(16,.int l.length),(17,.int i)],[.cells 3 [[.int k,.int v,lst 3 Tree.cs' l]],.cells 3 [[.int 0,.int 0,.nils]],.cells 3 (l.map Tree.cs'),.cells 3 [[.int k,.int v,.sref 2 0 l.length]]])) (fun i=>i≤l.length) (fun i=>l.length - i) 0 (by omega) (by refine swR [0,1,2,3] [] rfl rfl ?_;(repeat' first|exact y85 _|exact z9 _|apply y86|refine z10 rfl (z4 (fun _=>rfl)) ?_|constructor)) ?_
 intro i hi
 by_cases hil:i < l.length
 ·have hc:=hcs i hil
  have gk:(l.map Tree.cs')[i]?=some (Tree.cs' l[i]):=by rw [y51,y45 hil];rfl
  have hset:(l.map Tree.cs').set i (Tree.cs' l[i])=l.map Tree.cs':=by
   apply y74 (by simp)
   intro j h1 h2
   rw [List.getElem_set]
   split
   ·rename_i e;subst e;simp
   ·rfl
  generalize l[i]=x at *
  repeat' ((first|(apply y4 ok;rfl)|(apply z26;kernel_rfl)|(refine z15 (i:=i) rfl gk ?_)|(apply y43;first|omega|(unfold inI;omega))|((apply z5)<;>intro _)|(apply z6 (hc);rfl;rfl))<;>conv=>whnf)
  all_goals try (exfalso;omega)
  all_goals refine z21 (i+1) (by omega) (by omega) (by refine swR [0,1,2,3] [] rfl rfl ?_;(repeat' first|exact y85 _|apply y86|refine z50 rfl (z4 (fun _=>rfl)) ?_|constructor)<;>((refine z45 ?_;exact hset)))
 ·have e:i=l.length:=by omega
  subst e
  repeat' ((first|(apply y4 ok;rfl)|(apply y43;omega)|(((with_reducible apply z13;omega));intro _)|((apply z5)<;>intro _))<;>conv=>whnf)
  all_goals try (exfalso;omega)
  all_goals (refine rsD [2] [] rfl ?_;(repeat' first|exact y85 _|exact z9 _|refine z10 rfl (z4 (fun _=>rfl)) ?_|constructor))
theorem z679 (t:Tree) (h:t.sz≤1000000):CallsA Tryz.prog 234 [z24 Tree.cs' t] [] (z24 Tree.cs' t) []:=z258 (z1188 t h)
theorem z605 (t:Tree) (hg:t.goodF) (hs:t.sz≤1000):CallsA Tryz.prog 187 [z24 Tree.cs' t] [] (.tup [z24 Tree.cs' (if (t.nrm false).fmB=true then t.nrm false else dftT),.bool (t.nrm false).fmB]) []:=by
 have cp:=z1120 t hg false
 have hz:=y31 t hg false
 have cw:=z113 (t.nrm false) (z109 _ (by unfold maxLen;omega))
 generalize t.nrm false=u at *
 rw [y16 t] at *
 rw [y16 u] at *
 by_cases h2:u.fmB=true
 ·rw [if_pos h2,h2,y16 u]
  rw [h2] at cw
  refine z7 z16 Tryz.func187 rfl rfl 12 Tryz.ntmps187 (by simp) ?_
  repeat' ((first|(apply y4 ok;rfl)|(apply z6 (cp);rfl;rfl)|(apply z6 (cw);rfl;rfl))<;>conv=>whnf)
  all_goals (refine rsD [] [] rfl ?_;(repeat' first|exact y85 _|constructor))
 ·rw [if_neg h2,(y71 _).mp h2]
  rw [(y71 _).mp h2] at cw
  refine z7 z16 Tryz.func187 rfl rfl 12 Tryz.ntmps187 (by simp) ?_
  repeat' ((first|(apply y4 ok;rfl)|(apply z6 (cp);rfl;rfl)|(apply z6 (cw);rfl;rfl))<;>conv=>whnf)
  all_goals (refine rsD [] [] rfl ?_;(repeat' first|exact y85 _|exact z41|apply z46|apply z93|constructor))
theorem z1156 (t:Tree) (hs:t.sz≤1000):CallsA Tryz.prog 236 [z24 Tree.cs' t] [] (.tup [z24 Tree.cs' (if t.fmB=true∧(t.nrm false).fmB=true then t.nrm false else dftT),.bool (decide (t.fmB=true∧(t.nrm false).fmB=true))]) []:=by
 have cv:=z113 t (z109 t (by unfold maxLen;omega))
 by_cases h1:t.fmB=true
 ·have cn:=z605 t (y23 h1) hs
  have e:(if t.fmB=true∧(t.nrm false).fmB=true then t.nrm false else dftT)=if (t.nrm false).fmB=true then t.nrm false else dftT:=by simp only [h1,true_and]
  have e2:decide (t.fmB=true∧(t.nrm false).fmB=true)=(t.nrm false).fmB:=by simp [h1]
  rw [e,e2]
  rw [h1] at cv
  clear e e2
  generalize (if (t.nrm false).fmB=true then t.nrm false else dftT)=u at *
  generalize (t.nrm false).fmB=b at *
  rw [y16 t] at cv cn ⊢
  rw [y16 u] at cn ⊢
  refine z7 z16 Tryz.func236 rfl rfl 12 Tryz.ntmps236 (by simp) ?_
  repeat' ((first|(apply y4 ok;rfl)|(apply z6 (cv);rfl;rfl)|(apply z6 (cn);rfl;rfl))<;>conv=>whnf)
  all_goals (refine rsD [] [] rfl ?_;(repeat' first|exact y85 _|constructor))
 ·rw [if_neg (fun h=>h1 h.1),y82 (fun h=>h1 h.1)]
  rw [(y71 _).mp h1] at cv
  rw [y16 t] at cv ⊢
  refine z7 z16 Tryz.func236 rfl rfl 12 Tryz.ntmps236 (by simp) ?_
  repeat' ((first|(apply y4 ok;rfl)|(apply z6 (cv);rfl;rfl))<;>conv=>whnf)
  all_goals (refine rsD [] [] rfl ?_;(repeat' first|exact y85 _|exact z41|apply z46|apply z93|constructor))
theorem z851 (t:Tree) (hg:t.goodF) (hs:t.sz≤1000):CallsA Tryz.prog 185 [z24 Tree.cs' t] [] (z24 Tree.cs' (negT t)) []:=by
 by_cases hk:t.kind=3
 ·have hf:=y21 hg
  cases hf with
  |tr=>simp [Tree.kind] at hk
  |«at» v _ _=>simp [Tree.kind] at hk
  |bin k a b hk2 _ _=>simp only [Tree.kind] at hk;omega
  |un k a _ _ =>
   simp only [Tree.kind] at hk
   subst hk
   have e:negT (.mk 3 0 [a])=a:=by simp [negT,Tree.kind,Tree.kids]
   rw [z367] at hs
   have cc:=z679 a (by omega)
   rw [e,argU 3 0 a]
   refine z7 z16 Tryz.func185 rfl rfl 15 Tryz.ntmps185 (by simp) ?_
   repeat' ((first|(apply y4 ok;rfl)|(refine ⟨_,rfl,?_⟩)|(apply y43;omega)|(apply z6 (cc);rfl;rfl))<;>conv=>whnf)
   all_goals (refine rsD [] [] rfl ?_;(repeat' first|exact y85 _|constructor))
 ·have e:negT t=notT t:=if_neg hk
  have cc:=z679 t (by omega)
  have cf:=z124 3 [t] (by simp)
  rw [e]
  unfold notT
  rw [argU]
  refine z7 z16 Tryz.func185 rfl rfl 15 Tryz.ntmps185 (by simp) ?_
  repeat' ((first|(apply y4 ok;rfl)|(apply y43;omega)|(((with_reducible apply z144;omega));intro _)|((first|apply z5|apply z91)<;>intro _)|(apply z6 (cc);rfl;rfl)|(apply z8 [2] [] cf;rfl;rfl;rfl;(focus ((repeat' first|exact z12|apply z11)<;>exact z167))))<;>conv=>whnf)
  all_goals first|(exfalso;omega)|(refine rsD [] [] rfl ?_;(repeat' first|exact y85 _|constructor))
def ngB (t:Tree):Bool:=t.fmB && (negT t).fmB
def ngT (t:Tree):Tree:=if ngB t=true then negT t else dftT
theorem ngT_sz (t:Tree):(ngT t).sz≤t.sz+1:=by
 unfold ngT
 split
 ·exact z1125 t
 ·simp [dftT,z495]
theorem z666 (t:Tree) (hm:t.mx):CallsA Tryz.prog 132 [z24 Tree.cs' t] [] (.tup [z24 Tree.cs' (ngT t),.bool (ngB t)]) []:=by
 have cv:=z113 t hm
 have hz:=z1125 t
 unfold ngT ngB
 by_cases h1:t.fmB=true
 ·have hs:=fm_sz h1
  have cn:=z851 t (y23 h1) (by omega)
  have cw:=z113 (negT t) (z109 _ (by unfold maxLen;omega))
  rw [h1,Bool.true_and]
  rw [h1] at cv
  generalize negT t=u at *
  by_cases h2:u.fmB=true
  ·rw [if_pos h2,h2]
   rw [h2] at cw
   rw [y16 t] at cv cn ⊢
   rw [y16 u] at cw cn ⊢
   refine z7 z16 Tryz.func132 rfl rfl 16 Tryz.ntmps132 (by simp) ?_
   repeat' ((first|(apply y4 ok;rfl)|(apply z6 (cv);rfl;rfl)|(apply z6 (cn);rfl;rfl)|(apply z6 (cw);rfl;rfl))<;>conv=>whnf)
   all_goals (refine rsD [] [] rfl ?_;(repeat' first|exact y85 _|constructor))
  ·rw [if_neg h2,(y71 _).mp h2]
   rw [(y71 _).mp h2] at cw
   rw [y16 t] at cv cn ⊢
   rw [y16 u] at cw cn
   refine z7 z16 Tryz.func132 rfl rfl 16 Tryz.ntmps132 (by simp) ?_
   repeat' ((first|(apply y4 ok;rfl)|(apply z6 (cv);rfl;rfl)|(apply z6 (cn);rfl;rfl)|(apply z6 (cw);rfl;rfl))<;>conv=>whnf)
   all_goals (refine rsD [] [] rfl ?_;(repeat' first|exact y85 _|exact z41|apply z46|apply z93|constructor))
 ·rw [(y71 _).mp h1,Bool.false_and,if_neg (by simp)]
  rw [(y71 _).mp h1] at cv
  rw [y16 t] at cv ⊢
  refine z7 z16 Tryz.func132 rfl rfl 16 Tryz.ntmps132 (by simp) ?_
  repeat' ((first|(apply y4 ok;rfl)|(apply z6 (cv);rfl;rfl))<;>conv=>whnf)
  all_goals (refine rsD [] [] rfl ?_;(repeat' first|exact y85 _|exact z41|apply z46|apply z93|constructor))
@[reducible] def subF:AC:=.fn (.func 278) [] [.ptr 0 none 0,.ptr 1 none 0]
@[reducible] def objsS (o:List Tree):List AObj:=[.cells 1 [[subF]],.cells 1 [[.own 3 (o.map Tree.cs')]]]
set_option maxHeartbeats 6400000 in
theorem z820 (t:Tree):t.sz≤1000→∀ (o:List Tree),o.length+t.sz≤2000→(∀ x∈o,x.sz≤1000)→CallsA Tryz.prog 278 [z24 Tree.cs' t,.ptr 0 none 0,.ptr 1 none 0] (objsS o) (.tup []) (objsS (t.subs o)):=by
 induction t using y26 with|h t ih=>?_
 intro hs o ho hm
 have hsz:=y38 t
 have hkid:∀ k (h:k < t.kids.length),t.kids[k].sz≤1000:=fun k h=>by have:=z244 Tree.sz (y44 h);omega
 have hpre:∀ k,k≤t.kids.length→(Tree.subss (t.kids.take k) o).length≤o.length+((t.kids.take k).map fun u=>u.sz+1).sum∧∀ x∈Tree.subss (t.kids.take k) o,x.sz≤1000:=by
  intro k
  induction k with
  |zero=>intro _;exact ⟨by simp [Tree.subss],hm⟩
  |succ k ihk =>
   intro hk
   obtain ⟨a1,a2⟩:=ihk (by omega)
   obtain ⟨_,_,_,b4,b5,_⟩:=z311 t.kids[k] (Tree.subss (t.kids.take k) o)
   rw [y37 (by omega)]
   refine ⟨?_,fun x hx=>?_⟩
   ·rw [y50 (by omega),y63,List.sum_append]
    simp only [List.map_cons,List.map_nil,List.sum_cons,List.sum_nil]
    omega
   ·rcases b5 x hx with h|h
    ·exact a2 x h
    ·have:=hkid k (by omega);omega
 have hsum:∀ k,k≤t.kids.length→((t.kids.take k).map fun u=>u.sz+1).sum≤t.sz:=fun k hk=>by
  have h1:∀ l:List Tree,(l.map fun u=>u.sz+1).sum=l.length+(l.map Tree.sz).sum:=by
   intro l
   induction l with
   |nil=>rfl
   |cons a l ih=>simp only [List.map_cons,List.sum_cons,y57,ih];omega
  have h2:=z816 Tree.sz t.kids k
  rw [h1,y48];omega
 rw [y35]
 have hl5:t.kids.length≤1000:=by omega
 have hfs:(∀ x∈Tree.subss t.kids o,x.sz≤1000):=by have:=(hpre t.kids.length (y52 _)).2;rwa [y55] at this
 have hfl:(Tree.subss t.kids o).length≤2000:=by have h1:=(hpre t.kids.length (y52 _)).1;have h2:=hsum t.kids.length (y52 _);rw [y55] at h1 h2;omega
 have cF:=z296 (Tree.subss t.kids o) (by omega) (fun x hx=>z109 x (by have:=hfs x hx;unfold maxLen;omega)) t (z109 t (by unfold maxLen;omega))
 have cC:=z679 t (by omega)
 have hidx:=z220 (fun x=>decide (x=t)) (Tree.subss t.kids o)
 have et:=y16 t
 rw [et]
 refine z7 z16 Tryz.func278 rfl rfl 28 Tryz.ntmps278 (by simp) ?_
 repeat' (((apply y4 ok;rfl))<;>conv=>whnf)
 refine z58 (fun x:Nat×List Tree=>([(1,.ptr 0 none 0),(2,.ptr 1 none 0),(3,.ptr 2 none 0),(7,lst 3 Tree.cs' t.kids),(8,.int t.kids.length),(9,.int x.1)],[.cells 1 [[subF]],.cells 1 [[.own 3 (x.2.map Tree.cs')]],.cells 3 [[.int t.kind,.int t.val,lst 3 Tree.cs' t.kids]]])) (fun x=>x.1≤t.kids.length∧Tree.subss (t.kids.take x.1) o=x.2) (fun x=>t.kids.length - x.1) (0,o) ⟨y53 _,by simp [Tree.subss]⟩ (by refine swR [0,1,2] [] rfl rfl ?_;(repeat' first|exact y85 _|apply y86|constructor)) ?_
 rintro ⟨i,q⟩ ⟨hi,hq⟩
 dsimp only at hi hq ⊢
 obtain ⟨p1,p2⟩:=hpre i hi
 have p3:=hsum i hi
 rw [hq] at p1 p2
 have hql:q.length≤2000:=by omega
 by_cases hil:i < t.kids.length
 ·have ci:=ih t.kids[i] (y44 _) (hkid i hil) q (by
   have h1:=hsum (i+1) (by omega)
   rw [y50 hil,y63,List.sum_append] at h1
   simp only [List.map_cons,List.map_nil,List.sum_cons,List.sum_nil] at h1
   omega) p2
  have ht:=y37 hil o
  rw [hq] at ht
  have gk:(t.kids.map Tree.cs')[i]?=some (Tree.cs' t.kids[i]):=by rw [y51,y45 hil];rfl
  clear ih cF hidx
  generalize t.kids[i]=u at *
  generalize u.subs q=q' at *
  repeat' ((first|(apply y4 ok;rfl)|(refine z15 (i:=i) rfl gk ?_)|(apply y43;first|omega|(unfold inI;omega))|((apply z5)<;>intro _)|(apply z25 [0,1] [] ci;rfl;rfl;rfl))<;>conv=>whnf)
  all_goals try (exfalso;omega)
  all_goals refine z21 (i+1,q') ⟨by show i+1≤_;omega,ht⟩ (by show t.kids.length - (i+1) < t.kids.length - i;omega) (by refine swR [0,1,2] [] rfl rfl ?_;(repeat' first|exact y85 _|apply y86|constructor))
 ·obtain rfl:i=t.kids.length:=by omega
  rw [y55] at hq
  rw [hq] at cF hidx ⊢
  unfold addT
  refine y84 (Gl.Reach.expose 1 0 0 rfl rfl rfl (z168 (fun _=>rfl) _) rfl) ?_
  refine y84 (show Gl.Reach _ _ (mkSt _ [(1,.ptr 0 none 0),(2,.ptr 1 none 0),(3,.ptr 2 none 0),(7,lst 3 Tree.cs' t.kids),(8,.int t.kids.length),(9,.int t.kids.length)] [.cells 1 [[subF]],.cells 1 [[.sref 3 0 q.length]],.cells 3 [[.int t.kind,.int t.val,lst 3 Tree.cs' t.kids]],.cells 3 (q.map Tree.cs')]) from (by refine swR [0,1,2,3] [] rfl rfl ?_;(repeat' first|exact y85 _|exact z9 _|(refine z60 ?_;((simp;done)))|apply y86|refine z10 rfl (z4 (fun _=>rfl)) ?_|constructor))) ?_
  by_cases hin:t∈q
  ·rw [if_pos hin]
   have hx:0≤idxF (fun x=>decide (x=t)) q:=by
    rw [List.any_eq_true.2 ⟨t,hin,by simp⟩] at hidx
    exact of_decide_eq_true hidx
   generalize idxF (fun x=>decide (x=t)) q=z at *
   rw [et] at cF
   repeat' ((first|(apply y4 ok;rfl)|(apply y43;omega)|(((with_reducible apply z13;omega));intro _)|((apply z5)<;>intro _)|(apply z89 [] [3] [] cF;(focus (exact z48 (z270 rfl rfl rfl (by simp) (z23 (fun _=>rfl) _)) (z48 rfl z75)));rfl;rfl;(focus ((repeat' exact z12)<;>fail));((refine .inr ⟨rfl,?_⟩;repeat' exact True.intro))))<;>conv=>whnf)
   all_goals try (exfalso;omega)
   all_goals
    refine Gl.RetS.absorb 1 3 0 0 rfl rfl rfl rfl (by simp) rfl (z4 (fun _=>rfl)) ?_
    conv=>whnf
    (refine rsD [0,1] [] rfl ?_;(repeat' first|exact y85 _|apply y86|constructor))
  ·rw [if_neg hin]
   have hx:¬ 0≤idxF (fun x=>decide (x=t)) q:=fun h=>by
    rw [y81 h] at hidx
    obtain ⟨x,h1,h2⟩:=List.any_eq_true.1 hidx.symm
    rw [of_decide_eq_true h2] at h1
    exact hin h1
   generalize idxF (fun x=>decide (x=t)) q=z at *
   rw [et] at cF cC
   have gz:(List.take q.length (List.map Tree.cs' q)++[[AC.raw (Value.int IntKind.i64 0),AC.raw (Value.int IntKind.i64 0),AC.raw (Value.slice none 0 0)]])[q.length]?=some [AC.raw (Value.int IntKind.i64 0),AC.raw (Value.int IntKind.i64 0),AC.raw (Value.slice none 0 0)]:=by
    rw [y56 (by simp),y66 (by simp)];simp
   have e2:((List.take q.length (List.map Tree.cs' q)++[[AC.raw (Value.int IntKind.i64 0),AC.raw (Value.int IntKind.i64 0),AC.raw (Value.slice none 0 0)]]).set q.length (Tree.cs' t))=(q++[t]).map Tree.cs':=by
    rw [y56 (by simp),List.set_append_right _ _ (by simp)];simp
   have ec:Tree.cs' t=[.int t.kind,.int t.val,lst 3 Tree.cs' t.kids]:=AC.agg.inj et
   rw [ec] at e2
   repeat' ((first|(apply y4 ok;rfl)|(apply z26;kernel_rfl)|(refine z15 (i:=q.length) rfl gz ?_)|(apply y43;first|omega|((try dsimp only);simp only [y49,y48,y47,y46,y57,y58];omega)|exact ⟨rfl,z20 rfl z29⟩)|(((with_reducible apply z13;omega));intro _)|((apply z5)<;>intro _)|(apply z6 (cC);rfl;rfl)|(apply z89 [] [3] [] cF;(focus (exact z48 (z270 rfl rfl rfl (by simp) (z23 (fun _=>rfl) _)) (z48 rfl z75)));rfl;rfl;(focus ((repeat' exact z12)<;>fail));((refine .inr ⟨rfl,?_⟩;repeat' exact True.intro))))<;>conv=>whnf)
   all_goals try (exfalso;omega)
   all_goals
    refine Gl.RetS.absorb 1 5 0 0 rfl rfl rfl rfl (by simp) rfl (z192 (by simp) (fun e he=>(z4 (fun _=>rfl)) e (List.mem_of_mem_take he)) rfl) ?_
    conv=>whnf
    (refine rsD [0,1] [] rfl ?_;(repeat' first|exact y85 _|apply y86|constructor))
    all_goals exact y9 (congrArg (AC.own 3) e2)
theorem z818 (t:Tree) (hs:t.sz≤1000):CallsA Tryz.prog 265 [z24 Tree.cs' t] [] (.sref 0 0 (t.subs []).length) [.cells 3 ((t.subs []).map Tree.cs')]:=by
 have cV:=z820 t hs [] (by simp;omega) (fun x hx=>by cases hx)
 have hl:=(z311 t []).2.2.2.1
 simp only [y58,Nat.zero_add] at hl
 generalize t.subs []=L at *
 have cC:=z547 L (by omega)
 rw [y16 t] at *
 refine z7 z16 Tryz.func265 rfl rfl 11 Tryz.ntmps265 (by simp) ?_
 repeat' ((((fail_if_success apply z184 4);(fail_if_success apply z137 4);apply y4 ok;rfl))<;>conv=>whnf)
 refine y84 (show Gl.Reach _ _ (mkSt _ [(1,.ptr 0 none 0),(3,.ptr 1 none 0),(4,.ptr 2 none 0)] [.cells 3 [[.int t.kind,.int t.val,lst 3 Tree.cs' t.kids]],.cells 1 [[.own 3 []]],.cells 1 [[.fn (.func 278) [] [.ptr 2 none 0,.ptr 1 none 0]]]]) from (by refine swR [0,1,2] [] rfl rfl ?_;(repeat' first|exact y85 _|apply y86|constructor)<;>(exact z383))) ?_
 repeat' ((first|((fail_if_success apply z184 5);(fail_if_success apply z137 5);apply y4 ok;rfl)|(apply z25 [2,1] [] cV;rfl;rfl;rfl))<;>conv=>whnf)
 refine y84 (Gl.Reach.expose 1 0 0 rfl rfl rfl (z168 (fun _=>rfl) _) rfl) ?_
 refine y84 (show Gl.Reach _ _ (mkSt _ [(3,.ptr 1 none 0)] [.cells 3 [[.int t.kind,.int t.val,lst 3 Tree.cs' t.kids]],.cells 1 [[.sref 2 0 L.length]],.cells 3 (L.map Tree.cs')]) from (by refine swR [0,1,3] [] rfl rfl ?_;(repeat' first|exact y85 _|exact z9 _|(refine z60 ?_;((simp;done)))|apply y86|refine z10 rfl (z4 (fun _=>rfl)) ?_|constructor))) ?_
 repeat' ((first|(apply y4 ok;rfl)|(apply z77 [2] [] cC;rfl;(focus ((repeat' first|exact z28|apply z35)<;>(refine z54 rfl ?_;((exact z4 fun _=>rfl)))));rfl;(focus ((repeat' first|exact z12|apply z11)<;>(refine z17 ?_;((exact z4 fun _=>rfl)))))))<;>conv=>whnf)
 all_goals (refine rsD [2] [] rfl ?_;(repeat' first|exact y85 _|exact z9 _|refine z10 rfl (z4 (fun _=>rfl)) ?_|constructor))
structure BasL (B:List Tree):Prop where
 len:B.length≤5
 nd:B.Nodup
 sz:∀ x∈B,x.sz≤1000
 cl:∀ x∈B,In (·∈B) x
 bk:∀ x∈B,z103 x=true
 av:∀ v,Tree.mk 2 v []∈B→0≤v∧v≤2
theorem BasL.mx {B:List Tree} (h:BasL B):∀ x∈B,x.mx:=fun x hx=>z109 x (by have:=h.sz x hx;unfold maxLen;omega)
set_option maxHeartbeats 3200000 in
theorem z577 (u:Tree) (hs:u.sz≤1000):CallsA Tryz.prog 237 [z24 Tree.cs' u] [] (.sref 0 0 (bscL u).length) [.cells 3 ((bscL u).map Tree.cs')]:=by
 have cS:=z818 u hs
 obtain ⟨_,_,_,hl,hz2,_⟩:=z311 u []
 simp only [y58,Nat.zero_add] at hl
 unfold bscL
 generalize u.subs []=L at *
 rw [y16 u] at *
 refine z7 z16 Tryz.func237 rfl rfl 38 Tryz.ntmps237 (by simp) ?_
 repeat' ((first|(apply y4 ok;rfl)|(apply z8 [] [1] cS;rfl;rfl;rfl;(focus ((repeat' first|exact z12|apply z11)<;>(refine z17 ?_;((exact z4 fun _=>rfl)))))))<;>conv=>whnf)
 refine y84 (y87 3 rfl) ?_
 refine z58 (fun x:Nat×List Tree=>([(3,.sref 0 0 x.2.length),(7,.sref 1 0 L.length),(8,.int L.length),(9,.int x.1)],[.cells 3 (x.2.map Tree.cs'),.cells 3 (L.map Tree.cs')])) (fun x=>x.1≤L.length∧(L.take x.1).filter z103=x.2) (fun x=>L.length - x.1) (0,[]) ⟨y53 _,rfl⟩ (by refine swR [2,1] [] rfl rfl ?_;(repeat' first|exact y85 _|exact z47|exact z9 _|((refine z10 rfl ?_ ?_);(focus ((repeat' (first|exact z31|exact z4 (fun _=>rfl)));done)))|constructor)) ?_
 rintro ⟨k,O⟩ ⟨hk,hO⟩
 dsimp only at hk hO ⊢
 have hOl:O.length≤L.length:=by
  rw [← hO]
  have:=List.length_filter_le z103 (L.take k)
  rw [y48] at this
  omega
 by_cases hkl:k < L.length
 ·have gk:(L.map Tree.cs')[k]?=some (Tree.cs' L[k]):=by rw [y51,y45 hkl];rfl
  have ht:(L.take (k+1)).filter z103=O++(if z103 L[k]=true then [L[k]] else []):=by
   rw [y50 hkl,List.filter_append,hO]
   congr 1
   by_cases hb:z103 L[k]=true
   ·rw [if_pos hb,List.filter_cons_of_pos hb];rfl
   ·rw [if_neg hb,List.filter_cons_of_neg hb];rfl
  generalize L[k]=y at *
  by_cases hy:z103 y=true
  ·rw [if_pos hy] at ht
   have hy:=of_decide_eq_true (show decide _=true from hy)
   repeat' ((first|(apply y4 ok;rfl)|(refine z15 (i:=k) rfl gk ?_)|(apply y43;first|omega|(unfold inI;omega)|((try dsimp only);simp only [y49,y48,y47,y46,y57,y58];omega)|exact ⟨rfl,z20 rfl z29⟩)|((apply z5)<;>intro _))<;>conv=>whnf)
   all_goals try (exfalso;omega)
   all_goals refine z21 (k+1,O++[y]) ⟨by show k+1≤_;omega,ht⟩ (by show L.length - (k+1) < L.length - k;omega) (by refine swR [4,1] [] rfl rfl ?_;(repeat' first|exact y85 _|exact z9 _|(refine z60 ?_;((simp;done)))|((first|refine z40 rfl ?_ ?_|refine z10 rfl ?_ ?_);(focus ((repeat' (first|exact z4 (fun _=>rfl)|apply z22));done)))|(refine z84 ?_ ?_;(focus (omega)))|constructor))
  ·rw [if_neg hy,y64] at ht
   have hy:=of_decide_eq_false (show decide _=false from (y71 _).mp hy)
   repeat' ((first|(apply y4 ok;rfl)|(refine z15 (i:=k) rfl gk ?_)|(apply y43;first|omega|(unfold inI;omega))|((apply z5)<;>intro _))<;>conv=>whnf)
   all_goals try (exfalso;omega)
   all_goals refine z21 (k+1,O) ⟨by show k+1≤_;omega,ht⟩ (by show L.length - (k+1) < L.length - k;omega) (by refine swR [0,1] [] rfl rfl ?_;(repeat' first|exact y85 _|exact z9 _|refine z10 rfl (z4 (fun _=>rfl)) ?_|constructor))
 ·obtain rfl:k=L.length:=by omega
  rw [y55] at hO
  rw [hO]
  have cC:=z547 O (by omega)
  repeat' ((first|(apply y4 ok;rfl)|(apply y43;omega)|(((apply z13;omega));intro _)|((apply z5)<;>intro _)|(apply z77 [0] [] cC;rfl;(focus ((repeat' first|exact z28|apply z35)<;>(refine z54 rfl ?_;((exact z4 fun _=>rfl)))));rfl;(focus ((repeat' first|exact z12|apply z11)<;>(refine z17 ?_;((exact z4 fun _=>rfl)))))))<;>conv=>whnf)
  all_goals try (exfalso;omega)
  all_goals (refine rsD [0] [] rfl ?_;(repeat' first|exact y85 _|exact z9 _|refine z10 rfl (z4 (fun _=>rfl)) ?_|constructor))
theorem z670 (t:Tree) (hs:t.sz≤200):CallsA Tryz.prog 186 [z24 Tree.cs' t] [] (.tup [lst 3 Tree.cs' (if bscB t then bscL (t.nrm false) else []),.bool (bscB t)]) []:=by
 have cn:=z1156 t (by omega)
 unfold bscB
 by_cases h:t.fmB=true∧(t.nrm false).fmB=true
 ·rw [if_pos h,y81 h] at cn
  have hz:=y31 t (y23 h.1) false
  have hd:decide ((t.fmB=true∧(t.nrm false).fmB=true)∧(bscL (t.nrm false)).length≤5)=decide ((bscL (t.nrm false)).length≤5):=by
   rw [decide_eq_decide];exact ⟨fun h=>h.2,fun h2=>⟨h,h2⟩⟩
  rw [hd]
  clear hd h
  generalize t.nrm false=u at *
  have cB:=z577 u (by omega)
  generalize bscL u=O at *
  rw [y16 u] at cn cB
  by_cases h5:O.length≤5
  ·rw [y81 h5,if_pos rfl]
   refine z7 z16 Tryz.func186 rfl rfl 20 Tryz.ntmps186 (by simp) ?_
   repeat' ((first|(apply y4 ok;rfl)|((apply z5)<;>intro _)|(apply z6 (cn);rfl;rfl)|(apply z8 [] [2] cB;rfl;rfl;rfl;(focus ((repeat' first|exact z12|apply z11)<;>(refine z17 ?_;((exact z4 fun _=>rfl)))))))<;>conv=>whnf)
   all_goals try (exfalso;omega)
   all_goals (refine rsD [] [2] rfl ?_;(repeat' first|exact y85 _|((apply z37 rfl rfl rfl);(focus ((repeat ((exact z23 (fun _=>rfl) _)));done));(focus (((simp;done));done)))|apply z93|constructor))
  ·rw [y82 h5,if_neg (by simp)]
   refine z7 z16 Tryz.func186 rfl rfl 20 Tryz.ntmps186 (by simp) ?_
   repeat' ((first|(apply y4 ok;rfl)|((apply z5)<;>intro _)|(apply z6 (cn);rfl;rfl)|(apply z8 [] [2] cB;rfl;rfl;rfl;(focus ((repeat' first|exact z12|apply z11)<;>(refine z17 ?_;((exact z4 fun _=>rfl)))))))<;>conv=>whnf)
   all_goals try (exfalso;omega)
   all_goals (refine rsD [] [] rfl ?_;(repeat' first|exact y85 _|exact z41|apply z93|constructor))
 ·rw [if_neg h,y82 h] at cn
  have hd:decide ((t.fmB=true∧(t.nrm false).fmB=true)∧(bscL (t.nrm false)).length≤5)=false:=y82 fun h2=>h h2.1
  rw [hd,if_neg (by simp)]
  refine z7 z16 Tryz.func186 rfl rfl 20 Tryz.ntmps186 (by simp) ?_
  repeat' ((first|(apply y4 ok;rfl)|(apply z6 (cn);rfl;rfl))<;>conv=>whnf)
  all_goals (refine rsD [] [] rfl ?_;(repeat' first|exact y85 _|exact z41|apply z93|constructor))
theorem csU (k v:Int) (a:Tree):Tree.cs' (.mk k v [a])=[.int k,.int v,.list 3 1 [Tree.cs' a]]:=AC.agg.inj (argU k v a)
theorem csB2 (k v:Int) (a b:Tree):Tree.cs' (.mk k v [a,b])=[.int k,.int v,.list 3 2 [Tree.cs' a,Tree.cs' b]]:=AC.agg.inj (argB k v a b)
inductive FormB (B:List Tree):Tree→Prop
 |at (v:Int):FormB B (.mk 2 v [])
 |nx (a:Tree) (ha:In (·∈B) a) (sa:a.sz≤1000):FormB B (.mk 6 0 [a])
 |un (a b:Tree) (ha:In (·∈B) a) (hb:In (·∈B) b) (sa:a.sz≤1000) (sb:b.sz≤1000):FormB B (.mk 7 0 [a,b])
 |re (a b:Tree) (ha:In (·∈B) a) (hb:In (·∈B) b) (sa:a.sz≤1000) (sb:b.sz≤1000):FormB B (.mk 8 0 [a,b])
theorem BasL.form {B:List Tree} (h:BasL B) {x:Tree} (hx:x∈B):FormB B x:=by
 have h1:=h.cl x hx
 have h2:=h.bk x hx
 have h3:=h.sz x hx
 cases h1 with
 |tr=>simp [z103,Tree.kind] at h2
 |«at» v _=>exact .at v
 |nt=>simp [z103,Tree.kind] at h2
 |na v _=>simp [z103,Tree.kind] at h2
 |an _ _=>simp [z103,Tree.kind] at h2
 |or _ _=>simp [z103,Tree.kind] at h2
 |nx _ ha=>rw [z367] at h3;exact .nx _ ha (by omega)
 |un _ ha hb=>rw [z432] at h3;exact .un _ _ ha hb (by omega) (by omega)
 |re _ ha hb=>rw [z432] at h3;exact .re _ _ ha hb (by omega) (by omega)
theorem z1168 {B:List Tree} {s t:Int} (h:∀ i,i < B.length→folI B s t i=true):folB B s t=true:=by
 unfold folB;rw [y78];exact fun i hi=>h i (List.mem_range.1 hi)
theorem z1008 {B:List Tree} {s t:Int} {i:Nat} (hi:i < B.length) (h:folI B s t i=false):folB B s t=false:=by
 unfold folB;rw [List.all_eq_false];exact ⟨i,List.mem_range.2 hi,by rw [h];simp⟩
def untL (B:List Tree) (i:Nat):List Int:=((List.range i).filter fun i=>decide ((B.getD i dftT).kind=7)).map Int.ofNat
theorem z1062 (B:List Tree) (i:Nat):untL B (i+1)=untL B i++(if (B.getD i dftT).kind=7 then [(i:Int)] else []):=by
 unfold untL
 rw [y61,List.filter_append,y63]
 congr 1
 by_cases h:(B.getD i dftT).kind=7
 ·rw [if_pos h,List.filter_cons_of_pos (by simpa using h)];rfl
 ·rw [if_neg h,List.filter_cons_of_neg (by simpa using h)];rfl
theorem z460 (B:List Tree) (i:Nat):(untL B i).length≤i:=by
 unfold untL
 rw [y49]
 have:=List.length_filter_le (fun i=>decide ((B.getD i dftT).kind=7)) (List.range i)
 simpa using this
theorem z904 {B:List Tree} {x:Int} (h:x∈untB B):∃ u:Nat,x=u∧u < B.length∧(B.getD u dftT).kind=7:=by
 unfold untB at h
 obtain ⟨u,hu,rfl⟩:=List.mem_map.1 h
 obtain ⟨h1,h2⟩:=List.mem_filter.1 hu
 exact ⟨u,rfl,List.mem_range.1 h1,of_decide_eq_true h2⟩
theorem z780 {s:Int} {i:Nat} (s0:0≤s) (s1:s≤31) (hi:i≤5):0≤s / 2 ^ i∧s / 2 ^ i≤31:=by
 have:i=0∨i=1∨i=2∨i=3∨i=4∨i=5:=by omega
 rcases this with rfl|rfl|rfl|rfl|rfl|rfl<;>simp<;>omega
theorem div_bd2 {s a:Int} (s0:0≤s) (s1:s≤31) (h0:0≤a) (h1:a≤5):0≤s / 2 ^ a.toNat∧s / 2 ^ a.toNat≤31:=z780 s0 s1 (by omega)
set_option maxHeartbeats 3200000 in
theorem z264 (B:List Tree) (U:List Int) (hB:BasL B) (s:Int) (s0:0≤s) (s1:s≤31) (t:Tree) (h:In (·∈B) t):t.sz≤1000→CallsA Tryz.prog 188 [.pt [lst 3 Tree.cs' B,ints U],z24 Tree.cs' t,.int s] [] (.bool (vlB B s t)) []:=by
 have hl:=hB.len
 have basic:∀ t,t∈B→CallsA Tryz.prog 188 [.pt [lst 3 Tree.cs' B,ints U],z24 Tree.cs' t,.int s] [] (.bool (sgB B s t)) []:=fun t ht=>by
  have cF:=z296 B (by omega) hB.mx t (hB.mx t ht)
  have hp:=plc_mem ht
  have e:idxF (fun x=>decide (x=t)) B=plc B t:=rfl
  rw [e] at cF
  have hd:=div_bd2 s0 s1 hp.1 (show plc B t≤5 by omega)
  unfold sgB
  generalize plc B t=p at *
  rw [y16 t] at cF ⊢
  refine z7 z16 Tryz.func188 rfl rfl 69 Tryz.ntmps188 (by simp) ?_
  repeat' ((first|(apply y4 ok;rfl)|(apply z26;kernel_rfl)|(refine y43 (by unfold z225;omega) ?_)|(apply y43;omega)|(((with_reducible apply z144;omega));intro _)|((apply z5)<;>intro _)|(apply z6 (cF);rfl;rfl))<;>conv=>whnf)
  all_goals first|(exfalso;omega)|(refine rsD [] [] rfl ?_;(repeat' first|exact y85 _|constructor))
 have none:∀ t:Tree,t.sz≤1000→z103 t=false→CallsA Tryz.prog 239 [lst 3 Tree.cs' B,z24 Tree.cs' t] [] (.int (-1)) []:=fun t hs hb=>by
  have cF:=z296 B (by omega) hB.mx t (z109 t (by unfold maxLen;omega))
  have e:idxF (fun x=>decide (x=t)) B=-1:=z139 fun j hj=>y82 fun e=>by have:=hB.bk _ (y44 hj);rw [e,hb] at this;cases this
  rwa [e] at cF
 unfold vlB
 induction h with
 |tr =>
  intro hs
  have cn:=none (.mk 1 0 []) hs rfl
  rw [z621]
  refine z7 z16 Tryz.func188 rfl rfl 69 Tryz.ntmps188 (by simp) ?_
  repeat' ((first|(apply y4 ok;rfl)|(apply z26;kernel_rfl)|(apply z6 (cn);rfl;rfl))<;>conv=>whnf)
  all_goals (refine rsD [] [] rfl ?_;(repeat' first|exact y85 _|constructor))
 |«at» v hb=>intro _;rw [z562];exact basic _ hb
 |nt =>
  intro hs
  have cn:=none (.mk 3 0 [.mk 1 0 []]) hs rfl
  have cn2:=none (.mk 1 0 []) (by simp [z495]) rfl
  rw [z331,z621]
  have c1:CallsA Tryz.prog 188 [.pt [lst 3 Tree.cs' B,ints U],z24 Tree.cs' (.mk 1 0 []),.int s] [] (.bool true) []:=by
   refine z7 z16 Tryz.func188 rfl rfl 69 Tryz.ntmps188 (by simp) ?_
   repeat' ((first|(apply y4 ok;rfl)|(apply z26;kernel_rfl)|(apply z6 (cn2);rfl;rfl))<;>conv=>whnf)
   all_goals (refine rsD [] [] rfl ?_;(repeat' first|exact y85 _|constructor))
  rw [argU] at cn ⊢
  refine z7 z16 Tryz.func188 rfl rfl 69 Tryz.ntmps188 (by simp) ?_
  repeat' ((first|(apply y4 ok;rfl)|(apply z26;kernel_rfl)|(refine ⟨_,rfl,?_⟩)|(apply y43;omega)|(apply z6 (cn);rfl;rfl)|(apply z6 (c1);rfl;rfl))<;>conv=>whnf)
  all_goals (refine rsD [] [] rfl ?_;(repeat' first|exact y85 _|constructor))
 |na v hb =>
  intro hs
  have cn:=none (.mk 3 0 [.mk 2 v []]) hs rfl
  rw [z331,z562]
  have c1:=basic _ hb
  rw [argU] at cn ⊢
  refine z7 z16 Tryz.func188 rfl rfl 69 Tryz.ntmps188 (by simp) ?_
  repeat' ((first|(apply y4 ok;rfl)|(apply z26;kernel_rfl)|(refine ⟨_,rfl,?_⟩)|(apply y43;omega)|(apply z6 (cn);rfl;rfl)|(apply z6 (c1);rfl;rfl))<;>conv=>whnf)
  all_goals (refine rsD [] [] rfl ?_;(repeat' first|exact y85 _|constructor))
 |an _ _ iha ihb =>
  rename_i a b _ _
  intro hs
  have cn:=none (.mk 4 0 [a,b]) hs rfl
  rw [z432] at hs
  have ca:=iha (by omega)
  have cb:=ihb (by omega)
  rw [z692,argB]
  rw [argB] at cn
  generalize a.vl (sgB B s)=x at *
  generalize b.vl (sgB B s)=y at *
  cases x
  all_goals
   refine z7 z16 Tryz.func188 rfl rfl 69 Tryz.ntmps188 (by simp) ?_
   repeat' ((first|(apply y4 ok;rfl)|(apply z26;kernel_rfl)|(refine ⟨_,rfl,?_⟩)|(apply y43;omega)|(apply z6 (cn);rfl;rfl)|(apply z6 (ca);rfl;rfl)|(apply z6 (cb);rfl;rfl))<;>conv=>whnf)
   all_goals (refine rsD [] [] rfl ?_;(repeat' first|exact y85 _|constructor))
 |or _ _ iha ihb =>
  rename_i a b _ _
  intro hs
  have cn:=none (.mk 5 0 [a,b]) hs rfl
  rw [z432] at hs
  have ca:=iha (by omega)
  have cb:=ihb (by omega)
  rw [z1045,argB]
  rw [argB] at cn
  generalize a.vl (sgB B s)=x at *
  generalize b.vl (sgB B s)=y at *
  cases x
  all_goals
   refine z7 z16 Tryz.func188 rfl rfl 69 Tryz.ntmps188 (by simp) ?_
   repeat' ((first|(apply y4 ok;rfl)|(apply z26;kernel_rfl)|(refine ⟨_,rfl,?_⟩)|(apply y43;omega)|(apply z6 (cn);rfl;rfl)|(apply z6 (ca);rfl;rfl)|(apply z6 (cb);rfl;rfl))<;>conv=>whnf)
   all_goals (refine rsD [] [] rfl ?_;(repeat' first|exact y85 _|constructor))
 |nx hb _ _=>intro _;rw [z1046];exact basic _ hb
 |un hb _ _ _ _=>intro _;rw [z1043];exact basic _ hb
 |re hb _ _ _ _=>intro _;rw [z1044];exact basic _ hb
set_option maxHeartbeats 6400000 in
theorem z1007 (B:List Tree) (U:List Int) (hB:BasL B) (s t:Int) (s0:0≤s) (s1:s≤31) (t0:0≤t) (t1:t≤31):CallsA Tryz.prog 242 [.pt [lst 3 Tree.cs' B,ints U],.int s,.int t] [] (.bool (folB B s t)) []:=by
 have hl:=hB.len
 refine z7 z16 Tryz.func242 rfl rfl 90 Tryz.ntmps242 (by simp) ?_
 repeat' (((apply y4 ok;rfl))<;>conv=>whnf)
 refine z58 (fun i:Nat=>([(0,.pt [lst 3 Tree.cs' B,ints U]),(1,.int s),(2,.int t),(15,lst 3 Tree.cs' B),(16,.int B.length),(17,.int i)],[])) (fun i=>i≤B.length∧∀ j,j < i→folI B s t j=true) (fun i=>B.length - i) 0 ⟨y53 _,fun j h=>absurd h (Nat.not_lt_zero _)⟩ (by refine swR [] [] rfl rfl ?_;(repeat' first|exact y85 _|constructor)) ?_
 rintro i ⟨hi,hj⟩
 by_cases hil:i < B.length
 ·have gk:(B.map Tree.cs')[i]?=some (Tree.cs' (B.getD i dftT)):=by rw [y51,y45 hil,z19 hil];rfl
  have hf:=hB.form (x:=B.getD i dftT) (by rw [z19 hil];exact y44 _)
  have d1:=z780 (i:=i) s0 s1 (by omega)
  have d2:=z780 (i:=i) t0 t1 (by omega)
  have hI:folI B s t i=(folV B s t (B.getD i dftT) (hasB s i) (hasB t i) == hasB s i):=rfl
  have hT:folI B s t i=true→∀ j,j < i+1→folI B s t j=true:=fun h j hji=>by
   rcases y69 j i with h3|h3
   ·exact hj j h3
   ·obtain rfl:j=i:=by omega
    exact h
  have hF:folI B s t i=false→folB B s t=false:=z1008 hil
  rw [hI] at hT hF
  clear hI hj
  generalize B.getD i dftT=f at *
  repeat' ((first|((fail_if_success apply z184 5);(fail_if_success apply z137 5);apply y4 ok;rfl)|(apply z26;kernel_rfl)|(refine z15 (i:=i) rfl gk ?_)|(refine y43 (by unfold z225;(rw [y76];omega)) ?_)|(apply y43;omega)|((apply z5)<;>intro _))<;>conv=>whnf)
  all_goals try (exfalso;omega)
  refine y84 (show Gl.Reach _ _ (mkSt _ [(0,.pt [lst 3 Tree.cs' B,ints U]),(1,.int s),(2,.int t),(8,.ptr 0 none 0),(9,.bool (hasB s i)),(10,.bool (hasB t i)),(15,lst 3 Tree.cs' B),(16,.int B.length),(17,.int i)] [.cells 3 [Tree.cs' f]]) from (by refine swR [0] [] rfl rfl ?_;(repeat' first|exact y85 _|apply y86|constructor))) ?_
  generalize hasB s i=x at *
  generalize hasB t i=y at *
  cases hf with
  |«at» v =>
   have hT2:=hT (by simp [folV,Tree.kind])
   clear hT hF
   cases x
   all_goals
    repeat' ((first|(apply y4 ok;rfl)|(apply y43;(unfold inI;omega)))<;>conv=>whnf)
    all_goals refine z21 (i+1) ⟨by omega,hT2⟩ (by omega) (by refine swR [] [] rfl rfl ?_;(repeat' first|exact y85 _|constructor))
  |nx a ha sa =>
   have ca:=z264 B U hB t t0 t1 a ha sa
   have e:folV B s t (.mk 6 0 [a]) x y=vlB B t a:=by simp [folV,kidV,Tree.kind,Tree.kids]
   rw [e] at hT hF
   rw [csU]
   clear e
   generalize vlB B t a=z at *
   cases x<;>cases z
   all_goals first|have hT:=hT rfl|(have hF:=hF rfl;rw [hF])
   all_goals
    repeat' ((first|(apply y4 ok;rfl)|(refine ⟨_,rfl,?_⟩)|(apply y43;first|omega|(unfold inI;omega))|(apply z6 (ca);rfl;rfl))<;>conv=>whnf)
    all_goals first|(refine z21 (i+1) ⟨by omega,hT⟩ (by omega) (by refine swR [] [] rfl rfl ?_;(repeat' first|exact y85 _|constructor)))|(refine rsD [] [] rfl ?_;(repeat' first|exact y85 _|constructor))
  |un a b ha hb sa sb =>
   have ca:=z264 B U hB s s0 s1 a ha sa
   have cb:=z264 B U hB s s0 s1 b hb sb
   have e:folV B s t (.mk 7 0 [a,b]) x y=(vlB B s b || (vlB B s a && y)):=by simp [folV,kidV,Tree.kind,Tree.kids]
   rw [e] at hT hF
   rw [csB2]
   clear e
   generalize vlB B s a=z at *
   generalize vlB B s b=u at *
   cases x<;>cases y<;>cases z<;>cases u
   all_goals first|have hT:=hT rfl|(have hF:=hF rfl;rw [hF])
   all_goals
    repeat' ((first|(apply y4 ok;rfl)|(refine ⟨_,rfl,?_⟩)|(apply y43;first|omega|(unfold inI;omega))|(apply z6 (ca);rfl;rfl)|(apply z6 (cb);rfl;rfl))<;>conv=>whnf)
    all_goals first|(refine z21 (i+1) ⟨by omega,hT⟩ (by omega) (by refine swR [] [] rfl rfl ?_;(repeat' first|exact y85 _|constructor)))|(refine rsD [] [] rfl ?_;(repeat' first|exact y85 _|constructor))
  |re a b ha hb sa sb =>
   have ca:=z264 B U hB s s0 s1 a ha sa
   have cb:=z264 B U hB s s0 s1 b hb sb
   have e:folV B s t (.mk 8 0 [a,b]) x y=(vlB B s b && (vlB B s a || y)):=by simp [folV,kidV,Tree.kind,Tree.kids]
   rw [e] at hT hF
   rw [csB2]
   clear e
   generalize vlB B s a=z at *
   generalize vlB B s b=u at *
   cases x<;>cases y<;>cases z<;>cases u
   all_goals first|have hT:=hT rfl|(have hF:=hF rfl;rw [hF])
   all_goals
    repeat' ((first|(apply y4 ok;rfl)|(refine ⟨_,rfl,?_⟩)|(apply y43;first|omega|(unfold inI;omega))|(apply z6 (ca);rfl;rfl)|(apply z6 (cb);rfl;rfl))<;>conv=>whnf)
    all_goals first|(refine z21 (i+1) ⟨by omega,hT⟩ (by omega) (by refine swR [] [] rfl rfl ?_;(repeat' first|exact y85 _|constructor)))|(refine rsD [] [] rfl ?_;(repeat' first|exact y85 _|constructor))
 ·obtain rfl:i=B.length:=by omega
  rw [z1168 fun j hji=>hj j hji]
  repeat' ((first|(apply y4 ok;rfl)|(apply z26;kernel_rfl)|(apply y43;omega)|((first|(with_reducible apply z13;omega)|(with_reducible apply z144;omega));intro _)|((first|apply z5|apply z52|apply z91)<;>intro _))<;>conv=>whnf)
  all_goals first|(exfalso;omega)|(refine rsD [] [] rfl ?_;(repeat' first|exact y85 _|constructor))
theorem z608 (B:List Tree) (U:List Int) (hB:BasL B) (s:Int) (s0:0≤s) (s1:s≤31) (ph u:Nat) (hph:ph < U.length) (hUl:U.length≤100) (e:U.getD ph 0=u) (hu:u < B.length) (hk:(B.getD u dftT).kind=7):CallsA Tryz.prog 190 [.pt [lst 3 Tree.cs' B,ints U],.int s,.int ph] [] (.bool (fulB B s u)) []:=by
 have hl:=hB.len
 have gu:(U.map enI)[ph]?=some (enI u):=by rw [← e,y51,y45 hph,z19 hph];rfl
 have gk:(B.map Tree.cs')[u]?=some (Tree.cs' (B.getD u dftT)):=by rw [y51,y45 hu,z19 hu];rfl
 have hf:=hB.form (x:=B.getD u dftT) (by rw [z19 hu];exact y44 _)
 have d1:=z780 (i:=u) s0 s1 (by omega)
 have e:fulB B s u=(!hasB s u || kidV B s (B.getD u dftT) 1):=rfl
 have hx:(hasB s u=true→((((s / 2 ^ ((u:Int)).toNat).toNat &&& (1:Int).toNat:Nat):Int))=1)∧(hasB s u=false→((((s / 2 ^ ((u:Int)).toNat).toNat &&& (1:Int).toNat:Nat):Int))=0):=by
  have h1:∀ n:Nat,n &&& 1=n % 2:=fun n=>Nat.and_one_is_mod n
  unfold hasB
  constructor
  ·intro h;exact of_decide_eq_true h
  ·intro h
   have:=of_decide_eq_false h
   rw [show (1:Int).toNat=1 from rfl,h1] at *
   omega
 rw [e]
 generalize B.getD u dftT=f at *
 cases hf with
 |«at» v=>simp [Tree.kind] at hk
 |nx a _ _=>simp [Tree.kind] at hk
 |re a b _ _ _ _=>simp [Tree.kind] at hk
 |un a b ha hb sa sb =>
  have cb:=z264 B U hB s s0 s1 b hb sb
  rw [csB2] at gk
  have e2:kidV B s (.mk 7 0 [a,b]) 1=vlB B s b:=by simp [kidV,Tree.kids]
  rw [e2]
  clear e e2
  generalize vlB B s b=y at *
  generalize hasB s u=x at *
  cases x
  ·have hx:=hx.2 rfl
   refine z7 z16 Tryz.func190 rfl rfl 35 Tryz.ntmps190 (by simp) ?_
   repeat' ((first|(apply y4 ok;rfl)|(refine z15 (i:=ph) rfl gu ?_)|(refine z15 (i:=u) rfl gk ?_)|(refine ⟨_,rfl,?_⟩)|(refine y43 (by unfold z225;(rw [y76];omega)) ?_)|(apply y43;omega)|((apply z5)<;>intro _)|(apply z6 (cb);rfl;rfl))<;>conv=>whnf)
   all_goals try (exfalso;omega)
   all_goals (refine rsD [] [] rfl ?_;(repeat' first|exact y85 _|constructor))
  ·have hx:=hx.1 rfl
   refine z7 z16 Tryz.func190 rfl rfl 35 Tryz.ntmps190 (by simp) ?_
   repeat' ((first|(apply y4 ok;rfl)|(refine z15 (i:=ph) rfl gu ?_)|(refine z15 (i:=u) rfl gk ?_)|(refine ⟨_,rfl,?_⟩)|(refine y43 (by unfold z225;(rw [y76];omega)) ?_)|(apply y43;omega)|((apply z5)<;>intro _)|(apply z6 (cb);rfl;rfl))<;>conv=>whnf)
   all_goals try (exfalso;omega)
   all_goals (refine rsD [] [] rfl ?_;(repeat' first|exact y85 _|constructor))
theorem z429 {B:List Tree} {s:Int} (i:Nat):(List.range (i+1)).foldl (atoI B s) (0,0)=atoI B s ((List.range i).foldl (atoI B s) (0,0)) i:=by
 rw [y61,y62];rfl
theorem z737 {c k:Nat} (h:c < 8) (hk:k≤2):c ||| 2 ^ k < 8:=by
 have:k=0∨k=1∨k=2:=by omega
 rcases this with rfl|rfl|rfl<;>exact Nat.or_lt_two_pow (n:=3) h (by decide)
def eT (e:Edg):Trans:=⟨e.src,e.care,e.val,e.dst⟩
noncomputable def z362 (n0:Nat) (x:TrS):Aut:=⟨numI n0,if x.L.length=0 then [false] else x.acc,x.ed.map eT⟩
noncomputable def trO (t:Tree):Option Aut:=if bscB t=true then (trS (bscL (t.nrm false)) (t.nrm false)).map (z362 (iniS (bscL (t.nrm false)) (t.nrm false)).length) else none
noncomputable def trA (t:Tree):Aut:=(trO t).getD ⟨[],[],[]⟩
noncomputable def tsB (t:Tree):Bool:=(trO t).isSome
theorem z686 {t:Tree} (ht:t.fmB=true) (hn:(t.nrm false).fmB=true) (h5:(bscL (t.nrm false)).length≤5) (hs:t.sz≤200):BasL (bscL (t.nrm false))∧In (·∈bscL (t.nrm false)) (t.nrm false)∧(t.nrm false).sz≤1000:=by
 have hg:=y23 ht
 have hz:=y31 t hg false
 obtain ⟨a1,a2,a3,a4,a5,a6⟩:=z1029 (y23 hn) (nrm_NF t hg false)
 exact ⟨⟨h5,a1,fun x hx=>by have:=a2 x hx;omega,a3,a4,a5⟩,a6,by omega⟩
theorem z1108 {n:Nat} (h:n≤5):1≤2 ^ n∧2 ^ n≤32:=by
 have:n=0∨n=1∨n=2∨n=3∨n=4∨n=5:=by omega
 rcases this with rfl|rfl|rfl|rfl|rfl|rfl<;>decide
noncomputable def mvK (B:List Tree) (s:Int) (k:Nat):List Nat:=(List.range k).filter fun t=>folB B s t
theorem mvK_succ (B:List Tree) (s:Int) (k:Nat):mvK B s (k+1)=mvK B s k++(if folB B s k=true then [k] else []):=by
 unfold mvK
 rw [y61,List.filter_append]
 congr 1
 by_cases h:folB B s k=true
 ·rw [if_pos h,List.filter_cons_of_pos (p:=fun t:Nat=>folB B s t) h];rfl
 ·rw [if_neg h,List.filter_cons_of_neg (p:=fun t:Nat=>folB B s t) h];rfl
theorem z1129 (B:List Tree) (s:Int) (k:Nat):(mvK B s k).length≤k:=by
 unfold mvK
 have:=List.length_filter_le (fun t:Nat=>folB B s t) (List.range k)
 simpa using this
def enMv (c v:Nat) (q:Int) (x:Nat):List AC:=[.int c,.int v,.int x,.int q]
theorem bit_of (s:Int) (i:Nat):(hasB s i=true→((((s / 2 ^ ((i:Int)).toNat).toNat &&& (1:Int).toNat:Nat):Int))=1)∧(hasB s i=false→((((s / 2 ^ ((i:Int)).toNat).toNat &&& (1:Int).toNat:Nat):Int))=0):=by
 have h1:∀ n:Nat,n &&& 1=n % 2:=fun n=>Nat.and_one_is_mod n
 unfold hasB
 constructor
 ·intro h;exact of_decide_eq_true h
 ·intro h
  have:=of_decide_eq_false h
  rw [show (1:Int).toNat=1 from rfl,h1] at *
  omega
set_option maxHeartbeats 6400000 in
theorem z1130 (B : List Tree) (hB : BasL B) (s ph : Nat) (s1 : s ≤ 31) (hp : (untB B).length = 0 ∧ ph = 0 ∨ ph < (untB B).length) :
    CallsA Tryz.prog 192 [.pt [lst 3 Tree.cs' B,ints (untB B)],.agg [.int s,.int ph]] [] (.sref 0 0 (mvK B s (2 ^ B.length)).length) [.cells 4 ((mvK B s (2 ^ B.length)).map (enMv (letB B s).1 (letB B s).2 (phB B (untB B) s ph).1))]:=by
  have hl:=hB.len
  have hp5:=z1108 hl
  have hul:(untB B).length≤B.length:=z460 B B.length
  refine z7 z16 Tryz.func192 rfl rfl 87 Tryz.ntmps192 (by simp) ?_
  repeat' ((first|(apply y4 ok;rfl)|(apply z26;kernel_rfl))<;>conv=>whnf)
  refine z58 (fun x:Nat×Nat×Nat=>([(0,.pt [lst 3 Tree.cs' B,ints (untB B)]),(3,.ptr 0 none 0),(5,.int x.2.1),(6,.int x.2.2),(7,.int ph),(18,lst 3 Tree.cs' B),(19,.int B.length),(20,.int x.1)],[.cells 2 [[.int s,.int ph]]])) (fun x=>x.1≤B.length∧(List.range x.1).foldl (atoI B s) (0,0)=x.2∧x.2.1 < 8∧x.2.2 < 8) (fun x=>B.length - x.1) (0,0,0) ⟨y53 _,rfl,by decide,by decide⟩ (by refine swR [0] [] rfl rfl ?_;(repeat' first|exact y85 _|apply y86|constructor)) ?_
  rintro ⟨i,c,v⟩ ⟨hi,hf,hc,hv⟩
  dsimp only at hi hf hc hv ⊢
  by_cases hil:i < B.length
  · have gk:(B.map Tree.cs')[i]?=some (Tree.cs' (B.getD i dftT)):=by rw [y51,y45 hil,z19 hil];rfl
    have hmem:B.getD i dftT∈B:=by rw [z19 hil];exact y44 _
    have hform:=hB.form hmem
    have hs:=z429 (B:=B) (s:=s) i
    have hbt:=bit_of s i
    have d1:=z780 (s:=s) (i:=i) (by omega) (by omega) (by omega)
    rw [hf] at hs
    unfold atoI at hs
    dsimp only at hs
    by_cases hk:(B.getD i dftT).kind=2
    · rw [if_pos hk] at hs
      have hvv:∃ a:Nat,(B.getD i dftT).val=a∧a≤2:=by
        generalize B.getD i dftT=f at *
        cases hform with
        | «at» v=>have:=hB.av v hmem;exact ⟨v.toNat,by simp [Tree.val];omega,by omega⟩
        | nx a _ _=>simp [Tree.kind] at hk
        | un a b _ _ _ _=>simp [Tree.kind] at hk
        | re a b _ _ _ _=>simp [Tree.kind] at hk
      obtain ⟨a,ea,ha⟩:=hvv
      have gk2:(B.map Tree.cs')[i]?=some [.int 2,.int a,.list 3 (B.getD i dftT).kids.length ((B.getD i dftT).kids.map Tree.cs)]:=by rw [gk,← hk,← ea];rfl
      have o1:=z737 hc ha
      have o2:=z737 hv ha
      have e:=shl_eq a (by omega)
      have hpb:=z734 (show a < 3 by omega)
      rw [ea,y76] at hs
      clear gk hform hmem hk ea
      generalize hasB s i=z at *
      generalize (B.getD i dftT).kids=ks at *
      cases z
      · rw [if_neg (by simp)] at hs
        have hb:=hbt.2 rfl
        repeat' ((first|(apply y4 ok;rfl)|(apply z26;kernel_rfl)|(refine z15 (i:=i) rfl gk2 ?_)|(rw [hb])|(rw [Int.zero_mul])|(rw [e])|(refine y43 (by unfold z225;first|omega|(rw [y76];omega)) ?_)|(apply y43;first|omega|(unfold inI;omega))|((apply z5)<;>intro _))<;>conv=>whnf)
        all_goals try (exfalso;omega)
        all_goals refine z21 (i+1,c ||| 2 ^ a,v) ⟨by show i+1≤_;omega,hs,o1,hv⟩ (by show B.length - (i+1) < B.length - i;omega) (by refine swR [0] [] rfl rfl ?_;(repeat' first|exact y85 _|apply y86|constructor)<;>((refine z121 ?_;simp)))
      · rw [if_pos rfl] at hs
        have hb:=hbt.1 rfl
        repeat' ((first|(apply y4 ok;rfl)|(apply z26;kernel_rfl)|(refine z15 (i:=i) rfl gk2 ?_)|(rw [hb])|(rw [e])|(refine y43 (by unfold z225;first|omega|(rw [y76];omega)) ?_)|(apply y43;first|omega|(unfold inI;omega))|((apply z5)<;>intro _))<;>conv=>whnf)
        all_goals try (exfalso;omega)
        all_goals refine z21 (i+1,c ||| 2 ^ a,v ||| 2 ^ a) ⟨by show i+1≤_;omega,hs,o1,o2⟩ (by show B.length - (i+1) < B.length - i;omega) (by refine swR [0] [] rfl rfl ?_;(repeat' first|exact y85 _|apply y86|constructor)<;>((refine z121 ?_;simp)))
    · rw [if_neg hk] at hs
      generalize B.getD i dftT=f at *
      repeat' ((first|(apply y4 ok;rfl)|(apply z26;kernel_rfl)|(refine z15 (i:=i) rfl gk ?_)|(apply y43;first|omega|(unfold inI;omega))|((apply z5)<;>intro _))<;>conv=>whnf)
      all_goals try (exfalso;omega)
      all_goals refine z21 (i+1,c,v) ⟨by show i+1≤_;omega,hs,hc,hv⟩ (by show B.length - (i+1) < B.length - i;omega) (by refine swR [0] [] rfl rfl ?_;(repeat' first|exact y85 _|apply y86|constructor))
  · obtain rfl:i=B.length:=by omega
    have eL:letB B s=(c,v):=hf
    rw [eL]
    clear hf eL
    have e2:((1:Int) * 2 ^ ((B.length:Int).toNat))=((2 ^ B.length:Nat):Int):=by
      rw [y76,Int.one_mul];norm_cast
    obtain ⟨q,eq,hcase⟩:∃ q:Nat,(phB B (untB B) s ph).1=q∧(((untB B).length=0∧True∧q=ph)∨(ph < (untB B).length∧fulB B s ((untB B).getD ph 0)=true∧q=(ph+1) % (untB B).length)∨(ph < (untB B).length∧fulB B s ((untB B).getD ph 0)=false∧q=ph)):=by
      unfold phB
      by_cases h0:(untB B).length=0
      · rw [if_pos h0];exact ⟨0,rfl,.inl ⟨h0,trivial,by omega⟩⟩
      · rw [if_neg h0]
        by_cases hb:fulB B s ((untB B).getD ph 0)=true
        · rw [y76,if_pos hb]
          exact ⟨(ph+1) % (untB B).length,by simp,.inr (.inl ⟨by omega,hb,rfl⟩)⟩
        · rw [y76,if_neg hb]
          exact ⟨ph,rfl,.inr (.inr ⟨by omega,(y71 _).mp hb,rfl⟩)⟩
    rw [eq]
    have hu:=fun (h:ph < (untB B).length)=>z904 (B:=B) (x:=(untB B).getD ph 0) (by rw [z19 h];exact y44 _)
    have cFu:ph < (untB B).length→CallsA Tryz.prog 190 [.pt [lst 3 Tree.cs' B,ints (untB B)],.int s,.int ph] [] (.bool (fulB B s ((untB B).getD ph 0))) []:=fun h=>by
      obtain ⟨u,e1,e3,e4⟩:=hu h
      have:=z608 B (untB B) hB s (by omega) (by omega) ph u h (by omega) e1 e3 e4
      rw [← e1] at this;exact this
    have cFo:=fun (k:Nat) (h:k < 2 ^ B.length)=>z1007 B (untB B) hB s k (by omega) (by omega) (by omega) (by omega)
    clear hu
    have hpq:q≤100:=by
      rcases hcase with ⟨_,_,h⟩|⟨h1,_,h⟩|⟨_,_,h⟩
      · omega
      · have h3:(ph+1) % (untB B).length < (untB B).length:=Nat.mod_lt _ (by omega)
        rw [← h] at h3;omega
      · omega
    rcases hcase with ⟨h1,h2,hq⟩|⟨h1,h2,hq⟩|⟨h1,h2,hq⟩
    all_goals first|(have cF:=cFu h1;rw [h2] at cF)|have cF:=True.intro
    all_goals clear cFu eq hp
    all_goals repeat' ((first|(apply y4 ok;rfl)|(apply z26;kernel_rfl)|(rw [e2])|(apply y43;first|omega|(unfold inI;omega))|(((with_reducible apply z13;omega));intro _)|((apply z5)<;>intro _)|(apply z6 (cF);rfl;rfl))<;>conv=>whnf)
    all_goals try (exfalso;omega)
    all_goals
      refine y84 (y87 4 rfl) ?_
      refine z58 (fun x:Nat×List Nat=>([(0,.pt [lst 3 Tree.cs' B,ints (untB B)]),(3,.ptr 0 none 0),(5,.int c),(6,.int v),(7,.int q),(11,.sref 1 0 x.2.length),(67,.int ((2 ^ B.length:Nat):Int)),(68,.int x.1)],[.cells 2 [[.int s,.int ph]],.cells 4 (x.2.map (enMv c v q))])) (fun x=>x.1≤2 ^ B.length∧mvK B s x.1=x.2) (fun x=>2 ^ B.length - x.1) (0,[]) ⟨y53 _,rfl⟩ (by refine swR [0,1] [] rfl rfl ?_;(repeat' first|exact y85 _|exact z47|(refine z121 ?_;omega)|apply y86|refine z10 rfl (z31) ?_|constructor)<;>((refine z121 ?_;rw [hq];(simp;done)))) ?_
      clear h1 h2 hq cF
      rintro ⟨k,M⟩ ⟨hk,hM⟩
      dsimp only at hk hM ⊢
      have hMl:=z1129 B s k
      rw [hM] at hMl
      by_cases hkl:k < 2 ^ B.length
      · have cO:=cFo k hkl
        have hs:=mvK_succ B s k
        rw [hM] at hs
        by_cases hb:folB B s k=true
        · rw [hb] at cO
          rw [if_pos hb] at hs
          repeat' ((first|(apply y4 ok;rfl)|(apply y43;first|(unfold inI;omega)|((try dsimp only);simp only [y49,y48,y47,y46,y57,y58];omega)|exact ⟨rfl,z20 rfl z29⟩)|((apply z5)<;>intro _)|(apply z6 (cO);rfl;rfl))<;>conv=>whnf)
          all_goals try (exfalso;omega)
          all_goals refine z21 (k+1,M++[k]) ⟨by show k+1≤_;omega,hs⟩ (by show 2 ^ B.length - (k+1) < 2 ^ B.length - k;omega) (by refine swR [0,3] [] rfl rfl ?_;(repeat' first|exact y85 _|(refine z60 ?_;((simp;done)))|apply y86|((refine z40 rfl ?_ ?_);(focus ((repeat' (first|exact z4 (fun _=>rfl)|apply z22));done)))|(refine z84 ?_ ?_;(focus (omega)))|constructor))
        · rw [(y71 _).mp hb] at cO
          rw [if_neg hb,y64] at hs
          repeat' ((first|(apply y4 ok;rfl)|(apply y43;(unfold inI;omega))|((apply z5)<;>intro _)|(apply z6 (cO);rfl;rfl))<;>conv=>whnf)
          all_goals try (exfalso;omega)
          all_goals refine z21 (k+1,M) ⟨by show k+1≤_;omega,hs⟩ (by show 2 ^ B.length - (k+1) < 2 ^ B.length - k;omega) (by refine swR [0,1] [] rfl rfl ?_;(repeat' first|exact y85 _|exact z9 _|apply y86|refine z10 rfl (z4 (fun _=>rfl)) ?_|constructor))
      · obtain rfl:k=2 ^ B.length:=by omega
        rw [hM]
        repeat' ((first|(apply y4 ok;rfl)|((apply z5)<;>intro _))<;>conv=>whnf)
        all_goals try (exfalso;omega)
        all_goals (refine rsD [1] [] rfl ?_;(repeat' first|exact y85 _|exact z9 _|refine z10 rfl (z4 (fun _=>rfl)) ?_|constructor))
set_option maxRecDepth 20000 in
theorem keyT_ph:KeyT Tryz.prog 230 2:=by
 refine ⟨by kernel_rfl,by kernel_rfl,?_,by kernel_rfl⟩
 intro i f h
 unfold Program.fieldsOf at h
 rw [Tryz.underlying230] at h
 match i,h with
 |0,h=>cases h;exact ⟨by decide,rfl,Tryz.underlying3⟩
 |1,h=>cases h;exact ⟨by decide,rfl,Tryz.underlying3⟩
 |i+2,h=>simp at h
@[reducible] def objsX (L:List (List Int)):List AObj:=[.cells 1 [[.mref 1]],.mp 2 (z276 0 L),.cells 1 [[.own 2 (L.map enP)]]]
set_option maxRecDepth 20000 in
set_option maxHeartbeats 3200000 in
theorem z1173 (L : List (List Int)) (hL : L.length ≤ 5000) (s ph : Nat) :
    CallsA Tryz.prog 240 [.agg [.int s,.int ph],.ptr 0 none 0,.ptr 2 none 0] (objsX L) (.int (z286 L [(s:Int),(ph:Int)])) (objsX (z189 L [(s:Int),(ph:Int)])):=by
  have m1:=z597 [(s:Int),(ph:Int)] 0 L
  have ke:=keyT_ph
  unfold z286 z189
  by_cases h : [(s:Int),(ph:Int)]∈L
  · rw [if_pos h,Nat.zero_add] at m1
    rw [if_pos h]
    refine z7 z16 Tryz.func240 rfl (by kernel_rfl) 25 Tryz.ntmps240 (by simp) ?_
    repeat' ((first|(apply y4 ok;rfl)|(refine y43 ke ?_)|(rw [m1]))<;>conv=>whnf)
    all_goals (refine rsD [0,1,2] [] rfl ?_;(repeat' first|exact y85 _|apply y86|constructor))
    all_goals rfl
  · rw [if_neg h] at m1
    rw [if_neg h,List.idxOf_eq_length h]
    have m6:mput (z276 0 L) [(s:Int),(ph:Int)] (L.length:Int)=z276 0 (L++[[(s:Int),(ph:Int)]]):=by
      rw [z596 _ _ _ h,z773,Nat.zero_add]
    have e2:(L.map enP).take L.length++[[AC.int s,AC.int ph]]=(L++[[(s:Int),(ph:Int)]]).map enP:=by
      rw [y56 (by simp),y63];rfl
    refine z7 z16 Tryz.func240 rfl (by kernel_rfl) 25 Tryz.ntmps240 (by simp) ?_
    refine y84 (Gl.Reach.expose 2 0 0 rfl rfl rfl (z168 (fun _=>rfl) _) rfl) ?_
    refine y84 (show Gl.Reach _ _ (mkSt _ [(0,.agg [.int s,.int ph]),(1,.ptr 0 none 0),(2,.ptr 2 none 0)] [.cells 1 [[.mref 1]],.mp 2 (z276 0 L),.cells 1 [[.sref 3 0 L.length]],.cells 2 (L.map enP)]) from (by refine swR [0,1,2,3] [] rfl rfl ?_;(repeat' first|exact y85 _|exact z9 _|(refine z60 ?_;((simp;done)))|apply y86|refine z10 rfl (z4 (fun _=>rfl)) ?_|constructor)<;>(rfl))) ?_
    repeat' ((first|(apply y4 ok;rfl)|(refine y43 ke ?_)|(rw [m6])|(rw [m1])|(apply y43;first|((try dsimp only);simp only [y49,y48,y47,y46,y57,y58];omega)|exact ⟨rfl,z20 rfl z29⟩))<;>conv=>whnf)
    all_goals
      refine Gl.RetS.absorb 2 6 0 0 rfl rfl rfl rfl (by simp) rfl (z92 (fun e he=>(z4 (fun _=>rfl)) e (List.mem_of_mem_take he)) (z297 rfl z31)) ?_
      conv=>whnf
      (refine rsD [0,1,2] [] rfl ?_;(repeat' first|exact y85 _|apply y86|constructor))
      all_goals first|rfl|exact y9 (congrArg (AC.own 2) e2)
end Go.Proofs.YtnfoijopccdjeaaGreat
namespace Go.Proofs.YtnfoijopccdjeaaGreat
open Go.Gl
attribute [local irreducible] z18 AWP z30 z36 z32
theorem z1199 {objs:Nat→AObj} {π Bn:List Nat} {o:Nat} {l:List Trans} (ho:objs o=.cells 4 (l.map Trans.cs)) (h1:idx π o=none) (h2:inB Bn o=true):bor objs π Bn (.sref o 0 l.length)=lst 4 Trans.cs l :=
 z270 ho h1 h2 (by simp) (z341 Trans.unown l)
theorem z885 {objs : Nat → AObj} {π Bn : List Nat} {o1 o2 o3 : Nat} {a : Aut} (h1 : objs o1 = .cells 1 (a.ini.map enI)) (h2 : objs o2 = .cells 1 (a.acc.map enB)) (h3 : objs o3 = .cells 4 (a.ed.map Trans.cs)) (i1 : idx π o1 = none) (b1 : inB Bn o1 = true) (i2 : idx π o2 = none) (b2 : inB Bn o2 = true) (i3 : idx π o3 = none) (b3 : inB Bn o3 = true) :
    bor objs π Bn (.agg [.sref o1 0 a.ini.length,.sref o2 0 a.acc.length,.sref o3 0 a.ed.length])=.agg a.cs :=
  bor_agg (z48 (z135 h1 i1 b1) (z48 (z1200 h2 i2 b2) (z48 (z1199 h3 i3 b3) z75)))
structure Aut.ok (a:Aut):Prop where
 mx:a.mx
 ini:a.ini.length≤1048576
 acc:a.acc.length≤1048576
 ed:a.ed.length≤1048576
theorem Aut.ok_of {a:Aut} (h:a.mx) (h1:a.s1≤1048576) (h2:a.s2≤1048576) (h3:a.s3≤1048576):a.ok:=⟨h,h1,h2,h3⟩
theorem clB_full (l:List Bool) (hl:l.length≤1048576) (hp:0 < l.length):CallsA Tryz.prog 281 [lst 1 enB l] [] (.sref 0 0 l.length) [.cells 1 (l.map enB)]:=by
 refine z14 z16 Tryz.func281 rfl rfl 8 Tryz.ntmps281 (by simp) ?_
 repeat' (first|(apply y4 ok;rfl;conv=>whnf)|(apply y43;(first|omega|(dsimp only;omega)|exact z120 (fun _=>rfl));conv=>whnf))
 exact z71 rfl (z4 fun _=>rfl) (Nat.zero_add _) rfl rfl
theorem clB_new0 (l:List Bool) (hl:l.length≤1048576):CallsA Tryz.prog 281 [lst 1 enB l] [] (.sref 0 0 l.length) [.cells 1 (l.map enB)]:=by
 by_cases hp:0 < l.length
 ·exact clB_full l hl hp
 ·obtain rfl:l=[]:=y73 (by omega)
  refine z127 (z178 Tryz.func281 rfl (by rfl)) fun ad cap=>?_
  cases ad with
  |none =>
   refine CallsA.nils (res:=.nils) (l:=[.cells 1 []]) ?_ (by simp) z259
   refine z14 z16 Tryz.func281 rfl rfl 8 Tryz.ntmps281 (by simp) ?_
   repeat' ((apply y4 ok;rfl;conv=>whnf))
   all_goals exact z49 rfl rfl rfl
  |some p =>
   refine z14 z16 Tryz.func281 rfl rfl 8 Tryz.ntmps281 (by simp) ?_
   repeat' (first|(apply y4 ok;rfl;conv=>whnf)|(apply y43;(omega);conv=>whnf))
   all_goals (exact z71 rfl z31 rfl rfl rfl)
theorem clB_clip (l:List Bool) (hl:l.length≤1048576):CallsA Tryz.prog 280 [.sref 0 0 l.length] [.cells 1 (l.map enB)] (.sref 0 0 l.length) [.cells 1 (l.map enB)]:=by
 refine z14 z16 Tryz.func280 rfl rfl 9 Tryz.ntmps280 (by simp) ?_
 repeat' (first|(apply y4 ok;rfl;conv=>whnf)|(apply y43;(omega);conv=>whnf))
 exact z71 rfl (z4 fun _=>rfl) (by omega) rfl rfl
theorem clB_new (l:List Bool) (hl:l.length≤1048576):CallsA Tryz.prog 271 [lst 1 enB l] [] (.sref 0 0 l.length) [.cells 1 (l.map enB)]:=by
 refine z14 z16 Tryz.func271 rfl rfl 6 Tryz.ntmps271 (by simp) ?_
 repeat' (first|(apply y4 ok;rfl;conv=>whnf)|(apply z97 [] [] [0] (clB_new0 l hl);rfl;(focus ((repeat' (exact z28))<;>(fail)));rfl;rfl;rfl;rfl;rfl;(focus ((repeat' (first|exact z12|apply z11))<;>((refine z17 ?_;((exact z4 (fun _=>rfl)))))));(exact .inl rfl);conv=>whnf)|(apply z97 [0] [] [] (clB_clip l hl);rfl;(focus ((repeat' (first|exact z28|apply z35))<;>((refine z54 rfl ?_;((exact z4 (fun _=>rfl)))))));rfl;rfl;rfl;rfl;rfl;(focus ((repeat' (first|exact z12|apply z11))<;>((refine z17 ?_;((exact z4 (fun _=>rfl)))))));(exact .inl rfl);conv=>whnf))
 exact z71 rfl (z4 fun _=>rfl) rfl rfl rfl
theorem clT_full (l:List Trans) (hl:l.length≤1048576) (hp:0 < l.length):CallsA Tryz.prog 283 [lst 4 Trans.cs l] [] (.sref 0 0 l.length) [.cells 4 (l.map Trans.cs)]:=by
 refine z14 z16 Tryz.func283 rfl rfl 8 Tryz.ntmps283 (by simp) ?_
 repeat' (first|(apply y4 ok;rfl;conv=>whnf)|(apply y43;(first|omega|(dsimp only;omega)|exact z120 (fun _=>rfl));conv=>whnf))
 exact z71 rfl (z4 fun _=>rfl) (Nat.zero_add _) rfl rfl
theorem clT_new0 (l:List Trans) (hl:l.length≤1048576):CallsA Tryz.prog 283 [lst 4 Trans.cs l] [] (.sref 0 0 l.length) [.cells 4 (l.map Trans.cs)]:=by
 by_cases hp:0 < l.length
 ·exact clT_full l hl hp
 ·obtain rfl:l=[]:=y73 (by omega)
  refine z127 (z178 Tryz.func283 rfl (by rfl)) fun ad cap=>?_
  cases ad with
  |none =>
   refine CallsA.nils (res:=.nils) (l:=[.cells 4 []]) ?_ (by simp) z259
   refine z14 z16 Tryz.func283 rfl rfl 8 Tryz.ntmps283 (by simp) ?_
   repeat' ((apply y4 ok;rfl;conv=>whnf))
   all_goals exact z49 rfl rfl rfl
  |some p =>
   refine z14 z16 Tryz.func283 rfl rfl 8 Tryz.ntmps283 (by simp) ?_
   repeat' (first|(apply y4 ok;rfl;conv=>whnf)|(apply y43;(omega);conv=>whnf))
   all_goals (exact z71 rfl z31 rfl rfl rfl)
theorem clT_clip (l:List Trans) (hl:l.length≤1048576):CallsA Tryz.prog 282 [.sref 0 0 l.length] [.cells 4 (l.map Trans.cs)] (.sref 0 0 l.length) [.cells 4 (l.map Trans.cs)]:=by
 refine z14 z16 Tryz.func282 rfl rfl 9 Tryz.ntmps282 (by simp) ?_
 repeat' (first|(apply y4 ok;rfl;conv=>whnf)|(apply y43;(omega);conv=>whnf))
 exact z71 rfl (z4 fun _=>rfl) (by omega) rfl rfl
theorem clT_new (l:List Trans) (hl:l.length≤1048576):CallsA Tryz.prog 272 [lst 4 Trans.cs l] [] (.sref 0 0 l.length) [.cells 4 (l.map Trans.cs)]:=by
 refine z14 z16 Tryz.func272 rfl rfl 6 Tryz.ntmps272 (by simp) ?_
 repeat' (first|(apply y4 ok;rfl;conv=>whnf)|(apply z97 [] [] [0] (clT_new0 l hl);rfl;(focus ((repeat' (exact z28))<;>(fail)));rfl;rfl;rfl;rfl;rfl;(focus ((repeat' (first|exact z12|apply z11))<;>((refine z17 ?_;((exact z4 (fun _=>rfl)))))));(exact .inl rfl);conv=>whnf)|(apply z97 [0] [] [] (clT_clip l hl);rfl;(focus ((repeat' (first|exact z28|apply z35))<;>((refine z54 rfl ?_;((exact z4 (fun _=>rfl)))))));rfl;rfl;rfl;rfl;rfl;(focus ((repeat' (first|exact z12|apply z11))<;>((refine z17 ?_;((exact z4 (fun _=>rfl)))))));(exact .inl rfl);conv=>whnf))
 exact z71 rfl (z4 fun _=>rfl) rfl rfl rfl
theorem z889 (a:Aut) (h1:a.ini.length≤100000) (h2:a.acc.length≤100000) (h3:a.ed.length≤100000):CallsA Tryz.prog 241 [.agg a.cs] [] (.agg [.sref 0 0 a.ini.length,.sref 1 0 a.acc.length,.sref 2 0 a.ed.length]) [.cells 1 (a.ini.map enI),.cells 1 (a.acc.map enB),.cells 4 (a.ed.map Trans.cs)]:=by
 have c1:=z191 a.ini (by omega)
 have c2:=clB_new a.acc (by omega)
 have c3:=clT_new a.ed (by omega)
 refine z14 z16 Tryz.func241 rfl rfl 13 Tryz.ntmps241 (by simp) ?_
 repeat' (first|(apply y4 ok;rfl;conv=>whnf)|(apply z26;kernel_rfl;conv=>whnf)|(apply z97 [] [] [2] (c1);rfl;(focus ((repeat' (exact z28))<;>(fail)));rfl;rfl;rfl;rfl;rfl;(focus ((repeat' (first|exact z12|apply z11))<;>((refine z17 ?_;((exact z4 (fun _=>rfl)))))));(exact .inl rfl);conv=>whnf)|(apply z97 [] [] [3] (c2);rfl;(focus ((repeat' (exact z28))<;>(fail)));rfl;rfl;rfl;rfl;rfl;(focus ((repeat' (first|exact z12|apply z11))<;>((refine z17 ?_;((exact z4 (fun _=>rfl)))))));(exact .inl rfl);conv=>whnf)|(apply z97 [] [] [4] (c3);rfl;(focus ((repeat' (exact z28))<;>(fail)));rfl;rfl;rfl;rfl;rfl;(focus ((repeat' (first|exact z12|apply z11))<;>((refine z17 ?_;((exact z4 (fun _=>rfl)))))));(exact .inl rfl);conv=>whnf))
 exact z88 [2,3,4] (by decide) rfl rfl rfl ⟨z94 rfl (z4 fun _=>rfl),z94 rfl (z4 fun _=>rfl),z94 rfl (z4 fun _=>rfl),trivial⟩
theorem z315 {g:Graph} {a:Aut} (hG:GB g) (hA:AutP a) (ls:List Int):(∀ r∈z55 g ls a,InN (z55 g ls a).length r)∧InN (z55 g ls a).length a.ini∧(z55 g ls a).length≤3840∧(∀ r∈z55 g ls a,r.length≤1000000000)∧a.ini.length≤1048576:=by
 have hrl:(z55 g ls a).length=g.st.length * a.acc.length:=by unfold z55;rw [z128,Nat.mul_comm]
 have hN:=z289 (a:=(g.st.length:Int)) (b:=(a.acc.length:Int)) (A:=60) (B:=64) (by omega) (by have:=hG.1;omega) (by omega) (by have:=hA.1;omega)
 have hN2:((g.st.length * a.acc.length:Nat):Int)=(g.st.length:Int) * a.acc.length:=by simp
 have ha1:=hA.1
 refine ⟨fun r hr x hx=>?_,fun x hx=>?_,by omega,fun r hr=>?_,?_⟩
 ·rw [hrl];exact z844 g hG ls a hA r hr x hx
 ·obtain ⟨i,hi,rfl⟩:=List.mem_iff_getElem.1 hx
  have h1:=(hA.2.2.1 i hi hi).1
  have h2:=z289 (a:=(g.st.length:Int) - 1) (b:=(a.acc.length:Int)) (A:=60) (B:=64) (by have:=hG.1;omega) (by have:=hG.1;omega) (by omega) (by omega)
  rw [Int.sub_mul,Int.one_mul] at h2
  omega
 ·have:=z732 g hG ls a hA r hr;omega
 ·have:=hA.2.2.1.le (by omega);omega
structure Cert.ok (c:Cert):Prop where
 mx:c.mx
 len:c.ranks.length≤1048576
theorem Cert.ok_of {c:Cert} (h:c.mx) (h1:c.s1≤1048576):c.ok:=⟨h,h1⟩
theorem bor_tup {objs:Nat→AObj} {π Bn:List Nat} {xs ys:List AC} (h:borL objs π Bn xs=ys):bor objs π Bn (.tup xs)=.tup ys:=by
 simp only [bor,h]
end Go.Proofs.YtnfoijopccdjeaaGreat
namespace Go.Proofs.YtnfoijopccdjeaaGreat
open Go.Gl
attribute [local irreducible] z18 AWP z30 z36 z32 RetS z38
theorem trA_len (t:Tree) (hs:t.sz≤200):(trA t).ini.length≤32∧(trA t).acc.length≤66∧(trA t).ed.length≤2080:=by
 unfold trA trO
 by_cases h:bscB t=true
 ·rw [if_pos h]
  obtain ⟨⟨ht,hn⟩,h5⟩:=of_decide_eq_true (show decide _=true from h)
  have hp:=z1108 h5
  have hi:=z934 (bscL (t.nrm false)) (t.nrm false)
  cases hS:trS (bscL (t.nrm false)) (t.nrm false) with
  |none=>exact ⟨y53 _,y53 _,y53 _⟩
  |some y =>
   have hg:=z1160 _ _ _ _ _ _ hS
   simp only [y58] at hg
   show (numI _).length≤32∧(if y.L.length=0 then [false] else y.acc).length≤66∧(y.ed.map eT).length≤2080
   rw [z648,y49]
   refine ⟨by omega,?_,by omega⟩
   split
   ·simp
   ·omega
 ·rw [if_neg h];exact ⟨y53 _,y53 _,y53 _⟩
theorem letB_lt {B:List Tree} (hB:BasL B) (s:Int) (i:Nat):((List.range i).foldl (atoI B s) (0,0)).2 < 8:=by
 induction i with
 |zero=>show 0 < 8;omega
 |succ i ih =>
  rw [z429]
  unfold atoI
  split
  ·rename_i hk
   dsimp only
   split
   ·by_cases hil:i < B.length
    ·have hmem:B.getD i dftT∈B:=by rw [z19 hil];exact y44 _
     have hform:=hB.form hmem
     have hvv:(B.getD i dftT).val.toNat≤2:=by
      generalize B.getD i dftT=f at *
      cases hform with
      |«at» v=>have:=hB.av v hmem;show v.toNat≤2;omega
      |nx a _ _=>simp [Tree.kind] at hk
      |un a b _ _ _ _=>simp [Tree.kind] at hk
      |re a b _ _ _ _=>simp [Tree.kind] at hk
     exact z737 ih hvv
    ·rw [y67,y68 (by omega)]
     exact z737 ih (show (0:Nat)≤2 by omega)
   ·exact ih
  ·exact ih
theorem z945 (B:List Tree) (s ph:Int) (i:Nat) (c v:Int):∀ (l:List Nat) (x:List (List Int)×List Edg),∀ e∈(l.foldl (z115 B s ph i c v) x).2,e∈x.2∨e.val=v
 |[],x,e,he=>.inl he
 |t::l,x,e,he=>by
  rw [List.foldl_cons] at he
  rcases z945 B s ph i c v l _ e he with h|h
  ·unfold z115 at h
   split at h
   ·rcases List.mem_append.1 h with h1|h1
    ·exact .inl h1
    ·rw [List.mem_singleton.1 h1];exact .inr rfl
   ·exact .inl h
  ·exact .inr h
theorem z1159 (B:List Tree) (U:List Int):∀ (f i:Nat) (x y:TrS),goS B U f i x=some y→∀ e∈y.ed,e∈x.ed∨∃ s,e.val=((letB B s).2:Int)
 |0,i,x,y,h=>by simp [goS] at h
 |f+1,i,x,y,h=>by
  rw [goS] at h
  split at h
  ·split at h
   ·cases h
   ·intro e he
    rcases z1159 B U f (i+1) _ y h e he with h1|h1
    ·rcases z945 B _ _ i _ _ _ _ e h1 with h2|h2
     ·exact .inl h2
     ·exact .inr ⟨_,h2⟩
    ·exact .inr h1
  ·cases h
   exact fun e he=>.inl he
theorem trA_val (t:Tree) (hs:t.sz≤200):∀ e∈(trA t).ed,e.mx:=by
 unfold trA trO
 by_cases h:bscB t=true
 ·rw [if_pos h]
  obtain ⟨⟨ht,hn⟩,h5⟩:=of_decide_eq_true (show decide _=true from h)
  obtain ⟨hB,_,_⟩:=z686 ht hn h5 hs
  cases hS:trS (bscL (t.nrm false)) (t.nrm false) with
  |none=>intro e he;cases he
  |some y =>
   intro e he
   obtain ⟨e',he',rfl⟩:=List.mem_map.1 (show e∈y.ed.map eT from he)
   rcases z1159 _ _ _ _ _ _ hS e' he' with h1|⟨s,h1⟩
   ·cases h1
   ·have:=letB_lt hB s (bscL (t.nrm false)).length
    show inI e'.val
    unfold inI
    rw [h1]
    unfold letB
    omega
 ·rw [if_neg h];intro e he;cases he
theorem acc_ok (B:List Tree) (hB:BasL B) (s ph:Nat) (s1:s≤31) (hp:(untB B).length=0∧ph=0∨ph < (untB B).length):CallsA Tryz.prog 189 [.agg [.int s,.int ph],.pt [.pt [lst 3 Tree.cs' B,ints (untB B)]]] [] (.bool (phB B (untB B) s ph).2) []:=by
 have hl:=hB.len
 have hul:(untB B).length≤B.length:=z460 B B.length
 have hu:=fun (h:ph < (untB B).length)=>z904 (B:=B) (x:=(untB B).getD ph 0) (by rw [z19 h];exact y44 _)
 have cFu:ph < (untB B).length→CallsA Tryz.prog 190 [.pt [lst 3 Tree.cs' B,ints (untB B)],.int s,.int ph] [] (.bool (fulB B s ((untB B).getD ph 0))) []:=fun h=>by
  obtain ⟨u,e1,e3,e4⟩:=hu h
  have:=z608 B (untB B) hB s (by omega) (by omega) ph u h (by omega) e1 e3 e4
  rw [← e1] at this;exact this
 clear hu
 unfold phB
 generalize untB B=U at *
 by_cases h0:U.length=0
 ·rw [if_pos h0]
  refine z7 z16 Tryz.func189 rfl rfl 21 Tryz.ntmps189 (by simp) ?_
  repeat' ((first|(apply y4 ok;rfl)|((apply z5)<;>intro _))<;>conv=>whnf)
  all_goals first|(exfalso;omega)|(refine rsD [] [] rfl ?_;(repeat' first|exact y85 _|constructor))
 ·rw [if_neg h0,y76]
  by_cases h1:ph=0
  ·subst h1
   have cF:=cFu (by omega)
   generalize fulB B s (U.getD 0 0)=z at *
   cases z
   all_goals
    refine z7 z16 Tryz.func189 rfl rfl 21 Tryz.ntmps189 (by simp) ?_
    repeat' ((first|(apply y4 ok;rfl)|((apply z5)<;>intro _)|(apply z6 (cF);rfl;rfl))<;>conv=>whnf)
    all_goals first|(exfalso;omega)|(refine rsD [] [] rfl ?_;(repeat' first|exact y85 _|constructor))
  ·have e:(if fulB B s (U.getD ph 0)=true then (((ph:Int)+1) % (U.length:Int),decide ((ph:Int)=0)) else ((ph:Int),false)).2=false:=by
    split
    ·exact y82 (by omega)
    ·rfl
   rw [e]
   clear cFu
   refine z7 z16 Tryz.func189 rfl rfl 21 Tryz.ntmps189 (by simp) ?_
   repeat' ((first|(apply y4 ok;rfl)|((apply z5)<;>intro _))<;>conv=>whnf)
   all_goals first|(exfalso;omega)|(refine rsD [] [] rfl ?_;(repeat' first|exact y85 _|constructor))
theorem ren_mp {M d:Nat} {r:Nat→Nat} {es:List (List Int×Int)} : z618 M r (.mp d es) (.mp d es):=⟨trivial,rfl⟩
noncomputable def z871 (q i:Nat) (c v:Nat) (y:List (List Int)×List Edg) (x:Nat):List (List Int)×List Edg:=(z189 y.1 [(x:Int),(q:Int)],y.2++[⟨i,c,v,z286 y.1 [(x:Int),(q:Int)]⟩])
theorem fold_mv (B:List Tree) (s:Int) (q i c v k:Nat) (y:List (List Int)×List Edg):(mvK B s k).foldl (z871 q i c v) y=(List.range k).foldl (z115 B s q i c v) y:=by
 unfold mvK
 rw [List.foldl_filter]
 rfl
theorem numI_ini (n m:Nat) (h:n≤m):IniP (numI n) m (numI n).length:=by
 intro i hi _
 have e:∀ j (hj:j < (numI n).length),(numI n)[j]=(j:Int):=fun j hj=>by simp [numI]
 have hl:=z648 n
 rw [e i hi]
 refine ⟨by omega,fun j hj=>?_⟩
 rw [e j (by omega)];omega
theorem ExI.valid {B:List Tree} {U:List Int} {n0 i:Nat} {x:TrS} (hB:BasL B) (h:ExI B U n0 i x) (h1:1≤n0) (hi:i≤64) (he:x.L.length≤i):autB ⟨numI n0,x.acc,x.ed.map eT⟩=true:=by
 have h2:=h.base;have h3:=h.acc;have h4:=h.edl;have h5:=h.le
 have hp:=z1108 hB.len
 have hmul:i * 2 ^ B.length≤64 * 32:=Nat.mul_le_mul hi hp.2
 rw [z170]
 refine ⟨⟨by show 1≤x.acc.length;omega,by show x.acc.length≤64;omega⟩,by show (x.ed.map eT).length≤2048;rw [y49];omega,numI_ini n0 x.acc.length (by omega),fun e he=>?_⟩
 obtain ⟨e',he',rfl⟩:=List.mem_map.1 he
 obtain ⟨⟨a1,a2⟩,⟨a3,a4⟩,s,a5,a6⟩:=h.ed e' he'
 have l1:(letB B s).1 < 8:=by
  have:∀ n,((List.range n).foldl (atoI B s) (0,0)).1 < 8:=by
   intro n
   induction n with
   |zero=>show (0:Nat) < 8;omega
   |succ n ih =>
    rw [z429]
    unfold atoI
    split
    ·rename_i hk
     refine z737 ih ?_
     by_cases hil:n < B.length
     ·have hmem:B.getD n dftT∈B:=by rw [z19 hil];exact y44 _
      have hform:=hB.form hmem
      generalize B.getD n dftT=f at *
      cases hform with
      |«at» v=>have:=hB.av v hmem;show v.toNat≤2;omega
      |nx a _ _=>simp [Tree.kind] at hk
      |un a b _ _ _ _=>simp [Tree.kind] at hk
      |re a b _ _ _ _=>simp [Tree.kind] at hk
     ·rw [y67,y68 (by omega)]
      show (0:Nat)≤2;omega
    ·exact ih
  exact this _
 refine ⟨⟨a1,?_⟩,⟨a3,?_⟩,⟨?_,?_⟩,?_,?_⟩
 ·show e'.src≤(x.acc.length:Int) - 1;omega
 ·show e'.dst≤(x.acc.length:Int) - 1;omega
 ·show 0≤e'.care;omega
 ·show e'.care≤7;omega
 ·show 0≤e'.val;omega
 ·show e'.val.toNat &&& e'.care.toNat=e'.val.toNat
  rw [a5,a6];exact letB_sub B s
@[reducible] noncomputable def accF (B:List Tree):AC:=.fn (.func 189) [] [.pt [.pt [lst 3 Tree.cs' B,ints (untB B)]]]
@[reducible] noncomputable def movF (B:List Tree):AC:=.fn (.func 192) [.pt [lst 3 Tree.cs' B,ints (untB B)]] []
@[reducible] def fndF:AC:=.fn (.func 240) [] [.ptr 3 none 0,.ptr 4 none 0]
@[reducible] def objsE (N:List Int) (L:List (List Int)) (acc:List Bool) (E:List Trans) (fb:AC):List AObj:=[.cells 3 [[.nils,.nils,.nils]],.cells 3 [[.sref 5 0 N.length,.sref 6 0 acc.length,.sref 7 0 E.length]],.mp 2 (z276 0 L),.cells 1 [[.mref 2]],.cells 1 [[fb]],.cells 1 (N.map enI),.cells 1 (acc.map enB),.cells 4 (E.map Trans.cs)]
end Go.Proofs.YtnfoijopccdjeaaGreat
