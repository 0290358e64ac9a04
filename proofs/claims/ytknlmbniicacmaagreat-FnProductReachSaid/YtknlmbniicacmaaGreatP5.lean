/- A part of the proofs over this program: T144, T145, T146, T147, T148, T149, T150, T151, T152, T34, T35, T39, T24. -/
import Derived.Test.YtknlmbniicacmaaGreatG0
import Derived.Test.YtknlmbniicacmaaGreatG1
import Derived.Test.YtknlmbniicacmaaGreatG2
import Derived.Test.YtknlmbniicacmaaGreatG3
import Derived.Test.YtknlmbniicacmaaGreatP0
import Derived.Test.YtknlmbniicacmaaGreatP1
import Derived.Test.YtknlmbniicacmaaGreatP2
import Derived.Test.YtknlmbniicacmaaGreatP3
import Derived.Test.YtknlmbniicacmaaGreatP4
set_option linter.all false
namespace Go.Proofs.YtknlmbniicacmaaGreat
open Go.Gl
attribute [local irreducible] z31 AWP z48 z52 z50 RetS z57
theorem z346 (t:Tree) (hs:t.sz≤1000):CallsA Tryz.prog 244 [z51 Tree.cs' t] [] (.tup [z51 Tree.cs' (if t.fmB=true∧(t.nrm false).fmB=true then t.nrm false else dftT),.bool (decide (t.fmB=true∧(t.nrm false).fmB=true))]) []:=by
  have cv:=z197 t (z156 t (by unfold maxLen;omega))
  by_cases h1:t.fmB=true
  · have hg:=Tree.goodF_of h1
    have cp:=z1025 t hg false
    have hz:=Tree.nrm_sz t hg false
    have cw:=z197 (t.nrm false) (z156 _ (by unfold maxLen;omega))
    rw [h1] at cv ⊢
    generalize t.nrm false=u at *
    by_cases h2:u.fmB=true
    · rw [h2] at cw ⊢
      rw [if_pos ⟨rfl,rfl⟩,decide_eq_true ⟨rfl,rfl⟩]
      rw [Tree.arg_eq t] at cv cp ⊢
      rw [Tree.arg_eq u] at cp cw ⊢
      refine z10 z18 Tryz.func244 rfl rfl 16 Tryz.ntmps244 (by simp) ?_
      repeat' ((first|(apply AWP.go ok;rfl)|(apply z9 (cv);rfl;rfl)|(apply z9 (cp);rfl;rfl)|(apply z9 (cw);rfl;rfl))<;>conv=>whnf)
      all_goals (refine RetS.lay [] [] rfl rfl rfl ?_;refine RetS.done ?_ ?_<;>(repeat' (first|exact LocLe.refl _|exact F2.nil)))
    · rw [if_neg (fun h=>h2 h.2),decide_eq_false (fun h=>h2 h.2)]
      rw [(Bool.not_eq_true _).mp h2] at cw
      rw [Tree.arg_eq t] at cv cp ⊢
      rw [Tree.arg_eq u] at cp cw
      refine z10 z18 Tryz.func244 rfl rfl 16 Tryz.ntmps244 (by simp) ?_
      repeat' ((first|(apply AWP.go ok;rfl)|(apply z9 (cv);rfl;rfl)|(apply z9 (cp);rfl;rfl)|(apply z9 (cw);rfl;rfl))<;>conv=>whnf)
      all_goals (refine RetS.lay [] [] rfl rfl rfl ?_;refine RetS.done ?_ ?_<;>(repeat' (first|exact LocLe.refl _|exact z53|exact F2.nil|apply F2.cons|apply z44|apply z95)))
  · rw [if_neg (fun h=>h1 h.1),decide_eq_false (fun h=>h1 h.1)]
    rw [(Bool.not_eq_true _).mp h1] at cv
    rw [Tree.arg_eq t] at cv ⊢
    refine z10 z18 Tryz.func244 rfl rfl 16 Tryz.ntmps244 (by simp) ?_
    repeat' ((first|(apply AWP.go ok;rfl)|(apply z9 (cv);rfl;rfl))<;>conv=>whnf)
    all_goals (refine RetS.lay [] [] rfl rfl rfl ?_;refine RetS.done ?_ ?_<;>(repeat' (first|exact LocLe.refl _|exact z53|exact F2.nil|apply F2.cons|apply z44|apply z95)))
theorem z1049 (a:Tree):a.mx→∀ b:Tree,b.mx→CallsA Tryz.prog 316 [z51 Tree.cs' a,z51 Tree.cs' b] [] (.bool (decide (a=b))) []:=by
  induction a using Tree.ind with|h a ih=>?_
  intro ha b hb
  rw [Tree.mx_iff] at ha hb
  have hal:=ha.1
  have hbl:=hb.1
  unfold maxLen at hal hbl
  rw [Tree.arg_eq,Tree.arg_eq]
  by_cases hk:a.kind=b.kind∧a.val=b.val∧a.kids.length=b.kids.length
  · obtain ⟨k1,k2,k3⟩:=hk
    have hiff:(a=b)↔∀ i (h:i < a.kids.length) (h2:i < b.kids.length),a.kids[i]=b.kids[i]:=⟨fun e=>by subst e;exact fun _ _ _=>rfl,fun h=>Tree.ext k1 k2 (List.ext_getElem k3 h)⟩
    have hc:∀ i (h:i < a.kids.length) (h2:i < b.kids.length),CallsA Tryz.prog 316 [z51 Tree.cs' a.kids[i],z51 Tree.cs' b.kids[i]] [] (.bool (decide (a.kids[i]=b.kids[i]))) []:=fun i h h2=>ih _ (List.getElem_mem _) (ha.2 _ (List.getElem_mem _)) _ (hb.2 _ (List.getElem_mem _))
    clear ih
    have hT:(∀ i (h:i < a.kids.length) (h2:i < b.kids.length),a.kids[i]=b.kids[i])→decide (a=b)=true:=fun h=>decide_eq_true (hiff.2 h)
    have hF:∀ i (h:i < a.kids.length) (h2:i < b.kids.length),a.kids[i]≠b.kids[i]→decide (a=b)=false:=fun i h h2 hne=>decide_eq_false fun e=>hne (hiff.1 e i h h2)
    generalize decide (a=b)=D at *
    clear hiff
    generalize a.kids=A at *
    generalize b.kids=B at *
    refine z10 z18 Tryz.func316 rfl rfl 46 Tryz.ntmps316 (by simp) ?_
    repeat' ((first|(apply AWP.go ok;rfl)|((apply z38)<;>intro _))<;>conv=>whnf)
    all_goals first|(exfalso;omega)|skip
    refine z64 (fun i:Nat=>([(2,.ptr 0 none 0),(3,.ptr 1 none 0),(5,.int i)],[.cells 3 [[.int a.kind,.int a.val,lst 3 Tree.cs' A]],.cells 3 [[.int b.kind,.int b.val,lst 3 Tree.cs' B]]])) (fun i=>i≤A.length∧∀ j (h:j < A.length) (h2:j < B.length),j < i→A[j]=B[j]) (fun i=>A.length - i) 0 ⟨Nat.zero_le _,fun j _ _ h=>absurd h (Nat.not_lt_zero _)⟩ (by refine SealW.reach [0,1] [] rfl rfl rfl rfl ?_ ?_<;>(repeat' (first|exact LocLe.refl _|exact F2.nil|apply F2.cons|apply ObjLe.box|exact True.intro|apply And.intro))) ?_
    rintro i ⟨hi,hj⟩
    by_cases hil:i < A.length
    · have hil2:i < B.length:=by omega
      have c1:=hc i hil hil2
      have gA:(A.map Tree.cs')[i]?=some (Tree.cs' A[i]):=by rw [List.getElem?_map,List.getElem?_eq_getElem hil];rfl
      have gB:(B.map Tree.cs')[i]?=some (Tree.cs' B[i]):=by rw [List.getElem?_map,List.getElem?_eq_getElem hil2];rfl
      by_cases he:A[i]=B[i]
      · rw [decide_eq_true he] at c1
        have hj2:∀ j (h:j < A.length) (h2:j < B.length),j < i+1→A[j]=B[j]:=fun j h h2 hji=>by
          rcases Nat.lt_or_ge j i with h3|h3
          · exact hj j h h2 h3
          · obtain rfl:j=i:=by omega
            exact he
        generalize A[i]=x at *
        generalize B[i]=y at *
        repeat' ((first|(apply AWP.go ok;rfl)|(apply z34;kernel_rfl)|(refine z16 (i:=i) rfl gA ?_)|(refine z16 (i:=i) rfl gB ?_)|(apply And.intro;first|omega|(unfold inI;omega))|((apply z7)<;>intro _)|(apply z9 (c1);rfl;rfl))<;>conv=>whnf)
        all_goals first|(exfalso;omega)|skip
        all_goals refine z23 (i+1) ⟨by omega,hj2⟩ (by omega) (by refine SealW.reach [0,1] [] rfl rfl rfl rfl ?_ ?_<;>(repeat' (first|exact LocLe.refl _|exact F2.nil|apply F2.cons|apply ObjLe.box|exact True.intro|apply And.intro)))
      · rw [decide_eq_false he] at c1
        have hD:=hF i hil hil2 he
        subst hD
        generalize A[i]=x at *
        generalize B[i]=y at *
        repeat' ((first|(apply AWP.go ok;rfl)|(apply z34;kernel_rfl)|(refine z16 (i:=i) rfl gA ?_)|(refine z16 (i:=i) rfl gB ?_)|(apply And.intro;omega)|((apply z7)<;>intro _)|(apply z9 (c1);rfl;rfl))<;>conv=>whnf)
        all_goals first|(exfalso;omega)|skip
        all_goals (refine RetS.lay [] [] rfl rfl rfl ?_;refine RetS.done ?_ ?_<;>(repeat' (first|exact LocLe.refl _|exact F2.nil)))
    · have hD:=hT (fun j h h2=>hj j h h2 (by omega))
      subst hD
      repeat' ((first|(apply AWP.go ok;rfl)|(apply And.intro;omega)|(((with_reducible apply z11;omega));intro _)|((apply z7)<;>intro _))<;>conv=>whnf)
      all_goals first|(exfalso;omega)|skip
      all_goals (refine RetS.lay [] [] rfl rfl rfl ?_;refine RetS.done ?_ ?_<;>(repeat' (first|exact LocLe.refl _|exact F2.nil)))
  · rw [decide_eq_false (fun e=>hk (by subst e;exact ⟨rfl,rfl,rfl⟩))]
    clear ih
    refine z10 z18 Tryz.func316 rfl rfl 46 Tryz.ntmps316 (by simp) ?_
    repeat' ((first|(apply AWP.go ok;rfl)|((apply z38)<;>intro _))<;>conv=>whnf)
    all_goals first|(exfalso;omega)|(refine RetS.lay [] [] rfl rfl rfl ?_;refine RetS.done ?_ ?_<;>(repeat' (first|exact LocLe.refl _|exact F2.nil)))
theorem z695 (l:List Tree) (hl:l.length≤1000000) (hm:∀ t∈l,t.mx) (t:Tree) (ht:t.mx):CallsA Tryz.prog 284 [lst 3 Tree.cs' l,z51 Tree.cs' t] [] (.int (idxF (fun x=>decide (x=t)) l)) []:=by
  have hc:∀ i (h:i < l.length),CallsA Tryz.prog 316 [z51 Tree.cs' l[i],z51 Tree.cs' t] [] (.bool (decide (l[i]=t))) []:=fun i h=>z1049 _ (hm _ (List.getElem_mem _)) _ ht
  rw [Tree.arg_eq t] at *
  refine z10 z18 Tryz.func284 rfl rfl 19 Tryz.ntmps284 (by simp) ?_
  repeat' (((apply AWP.go ok;rfl))<;>conv=>whnf)
  refine z64 (fun i:Nat=>([(0,lst 3 Tree.cs' l),(3,.ptr 0 none 0),(5,.int i)],[.cells 3 [[.int t.kind,.int t.val,lst 3 Tree.cs' t.kids]]])) (fun i=>i≤l.length∧∀ j (h:j < l.length),j < i→decide (l[j]=t)=false) (fun i=>l.length - i) 0 ⟨Nat.zero_le _,fun j _ h=>absurd h (Nat.not_lt_zero _)⟩ (by refine SealW.reach [0] [] rfl rfl rfl rfl ?_ ?_<;>(repeat' (first|exact LocLe.refl _|exact F2.nil|apply F2.cons|apply ObjLe.box|exact True.intro|apply And.intro))) ?_
  rintro i ⟨hi,hj⟩
  by_cases hil:i < l.length
  · have c1:=hc i hil
    have gl:(l.map Tree.cs')[i]?=some (Tree.cs' l[i]):=by rw [List.getElem?_map,List.getElem?_eq_getElem hil];rfl
    by_cases he:l[i]=t
    · have e:idxF (fun x=>decide (x=t)) l=i:=z182 hil (decide_eq_true he) fun j h h2=>hj j h h2
      rw [e]
      rw [decide_eq_true he] at c1
      generalize l[i]=x at *
      repeat' ((first|(apply AWP.go ok;rfl)|(apply z34;kernel_rfl)|(refine z16 (i:=i) rfl gl ?_)|(apply And.intro;omega)|((apply z7)<;>intro _)|(apply z9 (c1);rfl;rfl))<;>conv=>whnf)
      all_goals first|(exfalso;omega)|skip
      all_goals (refine RetS.lay [] [] rfl rfl rfl ?_;refine RetS.done ?_ ?_<;>(repeat' (first|exact LocLe.refl _|exact F2.nil)))
    · have hj2:∀ j (h:j < l.length),j < i+1→decide (l[j]=t)=false:=fun j h hji=>by
        rcases Nat.lt_or_ge j i with h3|h3
        · exact hj j h h3
        · obtain rfl:j=i:=by omega
          exact decide_eq_false he
      rw [decide_eq_false he] at c1
      generalize l[i]=x at *
      repeat' ((first|(apply AWP.go ok;rfl)|(apply z34;kernel_rfl)|(refine z16 (i:=i) rfl gl ?_)|(apply And.intro;first|omega|(unfold inI;omega))|((apply z7)<;>intro _)|(apply z9 (c1);rfl;rfl))<;>conv=>whnf)
      all_goals first|(exfalso;omega)|skip
      all_goals refine z23 (i+1) ⟨by omega,hj2⟩ (by omega) (by refine SealW.reach [0] [] rfl rfl rfl rfl ?_ ?_<;>(repeat' (first|exact LocLe.refl _|exact F2.nil|apply F2.cons|apply ObjLe.box|exact True.intro|apply And.intro)))
  · have e:idxF (fun x=>decide (x=t)) l=-1:=z183 fun j h=>hj j h (by omega)
    rw [e]
    repeat' ((first|(apply AWP.go ok;rfl)|(apply And.intro;omega)|(((with_reducible apply z11;omega));intro _)|((apply z7)<;>intro _))<;>conv=>whnf)
    all_goals first|(exfalso;omega)|skip
    all_goals (refine RetS.lay [] [] rfl rfl rfl ?_;refine RetS.done ?_ ?_<;>(repeat' (first|exact LocLe.refl _|exact F2.nil)))
end Go.Proofs.YtknlmbniicacmaaGreat

namespace Go.Proofs.YtknlmbniicacmaaGreat
open Go.Gl
attribute [local irreducible] z31 AWP z48 z52 z50 RetS z57
theorem z1027 (t:Tree) (h:t.sz≤1000000):CallsA Tryz.prog 241 [z51 Tree.cs' t] [] (z51 Tree.cs' t) []:=z598 (z907 t h)
set_option maxHeartbeats 3200000 in
theorem z1024 (t:Tree):t.sz≤1000→∀ (o:List Tree),o.length+t.sz≤2000→(∀ x∈o,x.sz≤1000)→CallsA Tryz.prog 280 [.sref 0 0 o.length,z51 Tree.cs' t] [.cells 3 (o.map Tree.cs')] (.sref 1 0 (t.subs o).length) [.dead,.cells 3 ((t.subs o).map Tree.cs')]:=by
  induction t using Tree.ind with|h t ih=>?_
  intro hs o ho hm
  have hsz:=Tree.sz_eq t
  have hkid:∀ k (h:k < t.kids.length),t.kids[k].sz≤1000:=fun k h=>by have:=z409 Tree.sz (List.getElem_mem h);omega
  have hpre:∀ k,k≤t.kids.length→(Tree.subss (t.kids.take k) o).length≤o.length+((t.kids.take k).map fun u=>u.sz+1).sum∧∀ x∈Tree.subss (t.kids.take k) o,x.sz≤1000:=by
    intro k
    induction k with
    | zero=>intro _;exact ⟨by simp [Tree.subss],hm⟩
    | succ k ihk =>
      intro hk
      obtain ⟨a1,a2⟩:=ihk (by omega)
      obtain ⟨_,_,_,b4,b5,_⟩:=z373 t.kids[k] (Tree.subss (t.kids.take k) o)
      rw [Tree.subss_take (by omega)]
      refine ⟨?_,fun x hx=>?_⟩
      · rw [List.take_succ_eq_append_getElem (by omega),List.map_append,List.sum_append]
        simp only [List.map_cons,List.map_nil,List.sum_cons,List.sum_nil]
        omega
      · rcases b5 x hx with h|h
        · exact a2 x h
        · have:=hkid k (by omega);omega
  have hsum:∀ k,k≤t.kids.length→((t.kids.take k).map fun u=>u.sz+1).sum≤t.sz:=fun k hk=>by
    have h1:∀ l:List Tree,(l.map fun u=>u.sz+1).sum=l.length+(l.map Tree.sz).sum:=by
      intro l
      induction l with
      | nil=>rfl
      | cons a l ih=>simp only [List.map_cons,List.sum_cons,List.length_cons,ih];omega
    have h2:=z749 Tree.sz t.kids k
    rw [h1,List.length_take];omega
  rw [Tree.arg_eq t,Tree.subs_eq]
  have hl5:t.kids.length≤1000:=by omega
  have hfs:(∀ x∈Tree.subss t.kids o,x.sz≤1000):=by have:=(hpre t.kids.length (Nat.le_refl _)).2;rwa [List.take_length] at this
  have hfl:(Tree.subss t.kids o).length≤2000:=by have h1:=(hpre t.kids.length (Nat.le_refl _)).1;have h2:=hsum t.kids.length (Nat.le_refl _);rw [List.take_length] at h1 h2;omega
  have cF:=z695 (Tree.subss t.kids o) (by omega) (fun x hx=>z156 x (by have:=hfs x hx;unfold maxLen;omega)) t (z156 t (by unfold maxLen;omega))
  have cC:=z1027 t (by omega)
  have hidx:=z234 (fun x=>decide (x=t)) (Tree.subss t.kids o)
  refine z10 z18 Tryz.func280 rfl rfl 30 Tryz.ntmps280 (by simp) ?_
  refine AWP.reach (Reach.rnm 0 rfl) ?_
  conv=>whnf
  repeat' (((apply AWP.go ok;rfl))<;>conv=>whnf)
  all_goals skip
  refine z64 (fun x:Nat×List Tree=>([(0,.sref 1 0 x.2.length),(3,.ptr 2 none 0),(5,.int x.1)],[.dead,.cells 3 (x.2.map Tree.cs'),.cells 3 [[.int t.kind,.int t.val,lst 3 Tree.cs' t.kids]]])) (fun x=>x.1≤t.kids.length∧Tree.subss (t.kids.take x.1) o=x.2) (fun x=>t.kids.length - x.1) (0,o) ⟨Nat.zero_le _,by simp [Tree.subss]⟩ (by refine SealW.reach [0,1,2] [] rfl rfl rfl rfl ?_ ?_<;>(repeat' (first|exact LocLe.refl _|exact F2.nil|apply F2.cons|exact z12 _|apply ObjLe.box|((refine z13 rfl ?_ ?_);(focus ((repeat' ((exact z6 (fun _=>rfl))));done)))|exact True.intro|apply And.intro))) ?_
  rintro ⟨i,q⟩ ⟨hi,hq⟩
  dsimp only at hi hq ⊢
  obtain ⟨p1,p2⟩:=hpre i hi
  have p3:=hsum i hi
  rw [hq] at p1 p2
  have hql:q.length≤2000:=by omega
  by_cases hil:i < t.kids.length
  · have ci:=ih t.kids[i] (List.getElem_mem _) (hkid i hil) q (by
      have h1:=hsum (i+1) (by omega)
      rw [List.take_succ_eq_append_getElem hil,List.map_append,List.sum_append] at h1
      simp only [List.map_cons,List.map_nil,List.sum_cons,List.sum_nil] at h1
      omega) p2
    have ht:=Tree.subss_take hil o
    rw [hq] at ht
    have gk:(t.kids.map Tree.cs')[i]?=some (Tree.cs' t.kids[i]):=by rw [List.getElem?_map,List.getElem?_eq_getElem hil];rfl
    clear ih cF hidx
    generalize t.kids[i]=u at *
    generalize u.subs q=q' at *
    repeat' ((first|(apply AWP.go ok;rfl)|(refine z16 (i:=i) rfl gk ?_)|(apply And.intro;first|omega|(unfold inI;omega))|((apply z7)<;>intro _)|(((apply z8 [1] [] [3] (ci);rfl;(focus ((repeat' first|exact z4|apply z5)<;>(refine z86 rfl ?_;((exact z6 fun _=>rfl)))))));rfl;rfl;rfl;rfl;rfl;(focus ((repeat' first|exact z15|apply z14)<;>first|exact z593|(refine z25 ?_;((exact z6 fun _=>rfl)))));(exact .inl rfl)))<;>conv=>whnf)
    all_goals first|(exfalso;omega)|skip
    all_goals refine z23 (i+1,q') ⟨by show i+1≤_;omega,ht⟩ (by show t.kids.length - (i+1) < t.kids.length - i;omega) (by refine SealW.reach [0,3,2] [] rfl rfl rfl rfl ?_ ?_<;>(repeat' (first|exact LocLe.refl _|exact F2.nil|apply F2.cons|exact z12 _|apply ObjLe.box|((refine z13 rfl ?_ ?_);(focus ((repeat' ((exact z6 (fun _=>rfl))));done)))|exact True.intro|apply And.intro)))
  · obtain rfl:i=t.kids.length:=by omega
    rw [List.take_length] at hq
    rw [hq] at cF hidx ⊢
    unfold addT
    by_cases hin:t∈q
    · rw [if_pos hin]
      have hx:0≤idxF (fun x=>decide (x=t)) q:=by
        rw [List.any_eq_true.2 ⟨t,hin,by simp⟩] at hidx
        exact of_decide_eq_true hidx
      generalize idxF (fun x=>decide (x=t)) q=z at *
      rw [Tree.arg_eq t] at cF
      repeat' ((first|(apply AWP.go ok;rfl)|(apply And.intro;omega)|(((with_reducible apply z11;omega));intro _)|((apply z7)<;>intro _)|(((apply z8 [] [1] [] (cF);(focus (exact z60 (z363 rfl rfl rfl (by simp) (z41 (fun _=>rfl) _)) (z60 rfl z84)));(focus ((repeat' exact z4)<;>fail))));rfl;rfl;rfl;rfl;rfl;(focus ((repeat' exact z15)<;>fail));((refine .inr ⟨rfl,?_⟩;repeat' exact True.intro))))<;>conv=>whnf)
      all_goals first|(exfalso;omega)|skip
      all_goals (refine RetS.lay [0,1] [] rfl rfl rfl ?_;refine RetS.done ?_ ?_<;>(repeat' (first|exact LocLe.refl _|exact F2.nil|apply F2.cons|exact z12 _|((refine z13 rfl ?_ ?_);(focus ((repeat' ((exact z6 (fun _=>rfl))));done)))|exact True.intro)))
    · rw [if_neg hin]
      have hx:¬ 0≤idxF (fun x=>decide (x=t)) q:=fun h=>by
        rw [decide_eq_true h] at hidx
        obtain ⟨x,h1,h2⟩:=List.any_eq_true.1 hidx.symm
        rw [of_decide_eq_true h2] at h1
        exact hin h1
      generalize idxF (fun x=>decide (x=t)) q=z at *
      rw [Tree.arg_eq t] at cC cF
      repeat' ((first|(apply AWP.go ok;rfl)|(apply And.intro;first|omega|((try dsimp only);simp only [List.length_map,List.length_take,List.length_append,List.length_replicate,List.length_cons,List.length_nil];omega)|exact ⟨rfl,z21 rfl z30⟩)|(((with_reducible apply z11;omega));intro _)|((apply z7)<;>intro _)|(apply z9 (cC);rfl;rfl)|(((apply z8 [] [1] [] (cF);(focus (exact z60 (z363 rfl rfl rfl (by simp) (z41 (fun _=>rfl) _)) (z60 rfl z84)));(focus ((repeat' exact z4)<;>fail))));rfl;rfl;rfl;rfl;rfl;(focus ((repeat' exact z15)<;>fail));((refine .inr ⟨rfl,?_⟩;repeat' exact True.intro))))<;>conv=>whnf)
      all_goals first|(exfalso;omega)|skip
      all_goals (refine RetS.lay [0,4] [] rfl rfl rfl ?_;refine RetS.done ?_ ?_<;>(repeat' (first|exact LocLe.refl _|exact F2.nil|apply F2.cons|exact z355|(refine z39 ?_;((simp;done)))|((refine z35 rfl ?_ ?_);(focus ((repeat' (first|exact z6 (fun _=>rfl)|apply z22));done)))|(refine z70 ?_ ?_;(focus (omega)))|(apply z80;rfl)|exact True.intro)))
end Go.Proofs.YtknlmbniicacmaaGreat

namespace Go.Proofs.YtknlmbniicacmaaGreat
open Go.Gl
attribute [local irreducible] z31 AWP z48 z52 z50 RetS z57
theorem z904 (t:Tree):CallsA Tryz.prog 281 [z51 Tree.cs' t] [] (.bool (basicB t)) []:=by
  rw [Tree.arg_eq]
  unfold basicB
  refine z10 z18 Tryz.func281 rfl rfl 21 Tryz.ntmps281 (by simp) ?_
  repeat' ((first|(apply AWP.go ok;rfl)|((apply z7)<;>intro _))<;>conv=>whnf)
  all_goals (refine RetS.lay [] [] rfl rfl rfl ?_;refine RetS.done (z808 ?_) .nil;first|(rw [decide_eq_true (by omega)];done)|(rw [decide_eq_decide];omega))
set_option maxHeartbeats 3200000 in
theorem z1073 (t:Tree) (hs:t.sz≤200):CallsA Tryz.prog 243 [z51 Tree.cs' t] [] (.tup [lst 3 Tree.cs' (if bscB t then bscL (t.nrm false) else []),.bool (bscB t)]) []:=by
  have cn:=z346 t (by omega)
  unfold bscB
  by_cases h:t.fmB=true∧(t.nrm false).fmB=true
  · rw [if_pos h,decide_eq_true h] at cn
    have hz:=Tree.nrm_sz t (Tree.goodF_of h.1) false
    have hd:decide ((t.fmB=true∧(t.nrm false).fmB=true)∧(bscL (t.nrm false)).length≤5)=decide ((bscL (t.nrm false)).length≤5):=by
      rw [decide_eq_decide];exact ⟨fun h=>h.2,fun h2=>⟨h,h2⟩⟩
    rw [hd]
    clear hd h
    generalize t.nrm false=u at *
    have cS:=(z1024 u (by omega) [] (by simp;omega) (fun x hx=>by cases hx)).arg (args0:=[.nils,z51 Tree.cs' u]) (by (repeat' (first|exact LocLe.refl _|exact z46|exact F2.nil|apply F2.cons)))
    obtain ⟨_,_,_,hl,hz2,_⟩:=z373 u []
    unfold bscL
    simp only [List.length_nil,Nat.zero_add] at hl
    generalize u.subs []=L at *
    have hb:∀ k (hk:k < L.length),CallsA Tryz.prog 281 [z51 Tree.cs' L[k]] [] (.bool (basicB L[k])) []:=fun k hk=>z904 _
    rw [Tree.arg_eq u] at cn cS
    refine z10 z18 Tryz.func243 rfl rfl 43 Tryz.ntmps243 (by simp) ?_
    repeat' ((first|((fail_if_success apply z146 5);(fail_if_success apply z112 5);apply AWP.go ok;rfl)|(apply z9 (cn);rfl;rfl))<;>conv=>whnf)
    all_goals skip
    refine AWP.reach (Reach.empty 3 rfl) ?_
    repeat' ((first|(apply AWP.go ok;rfl)|(((apply z8 [3] [] [4] (cS);rfl;(focus ((repeat' first|exact z4|apply z5)<;>rfl))));rfl;rfl;rfl;rfl;rfl;(focus ((repeat' first|exact z15|apply z14)<;>first|exact z593|(refine z25 ?_;((exact z6 fun _=>rfl)))));(exact .inl rfl)))<;>conv=>whnf)
    all_goals skip
    refine z64 (fun x:Nat×List Tree=>([(6,.sref 0 0 x.2.length),(7,.sref 1 0 L.length),(8,.int x.1)],[.cells 3 (x.2.map Tree.cs'),.cells 3 (L.map Tree.cs')])) (fun x=>x.1≤L.length∧(L.take x.1).filter basicB=x.2) (fun x=>L.length - x.1) (0,[]) ⟨Nat.zero_le _,rfl⟩ (by refine SealW.reach [2,4] [] rfl rfl rfl rfl ?_ ?_<;>(repeat' (first|exact LocLe.refl _|exact F2.nil|apply F2.cons|exact z12 _|((refine z13 rfl ?_ ?_);(focus ((repeat' (first|exact z37|exact z6 (fun _=>rfl)));done)))|exact True.intro|apply And.intro))) ?_
    rintro ⟨k,O⟩ ⟨hk,hO⟩
    dsimp only at hk hO ⊢
    have hOl:O.length≤L.length:=by
      rw [← hO]
      have:=List.length_filter_le basicB (L.take k)
      rw [List.length_take] at this
      omega
    by_cases hkl:k < L.length
    · have gk:(L.map Tree.cs')[k]?=some (Tree.cs' L[k]):=by rw [List.getElem?_map,List.getElem?_eq_getElem hkl];rfl
      have cb:=hb k hkl
      have ht:(L.take (k+1)).filter basicB=O++(if basicB L[k]=true then [L[k]] else []):=by
        rw [List.take_succ_eq_append_getElem hkl,List.filter_append,hO]
        congr 1
        by_cases hb:basicB L[k]=true
        · rw [if_pos hb,List.filter_cons_of_pos hb];rfl
        · rw [if_neg hb,List.filter_cons_of_neg hb];rfl
      generalize L[k]=y at *
      by_cases hy:basicB y=true
      · rw [hy] at cb
        rw [if_pos hy] at ht
        repeat' ((first|(apply AWP.go ok;rfl)|(refine z16 (i:=k) rfl gk ?_)|(apply And.intro;first|omega|(unfold inI;omega)|((try dsimp only);simp only [List.length_map,List.length_take,List.length_append,List.length_replicate,List.length_cons,List.length_nil];omega)|exact ⟨rfl,z21 rfl z30⟩)|((apply z7)<;>intro _)|(apply z9 (cb);rfl;rfl))<;>conv=>whnf)
        all_goals first|(exfalso;omega)|skip
        all_goals refine z23 (k+1,O++[y]) ⟨by show k+1≤_;omega,ht⟩ (by show L.length - (k+1) < L.length - k;omega) (by refine SealW.reach [3,1] [] rfl rfl rfl rfl ?_ ?_<;>(repeat' (first|exact LocLe.refl _|exact F2.nil|apply F2.cons|exact z12 _|(refine z39 ?_;((simp;done)))|((first|refine z35 rfl ?_ ?_|refine z13 rfl ?_ ?_);(focus ((repeat' (first|exact z6 (fun _=>rfl)|apply z22));done)))|(refine z70 ?_ ?_;(focus (omega)))|exact True.intro|apply And.intro)))
      · rw [(Bool.not_eq_true _).mp hy] at cb
        rw [if_neg hy,List.append_nil] at ht
        repeat' ((first|(apply AWP.go ok;rfl)|(refine z16 (i:=k) rfl gk ?_)|(apply And.intro;first|omega|(unfold inI;omega))|((apply z7)<;>intro _)|(apply z9 (cb);rfl;rfl))<;>conv=>whnf)
        all_goals first|(exfalso;omega)|skip
        all_goals refine z23 (k+1,O) ⟨by show k+1≤_;omega,ht⟩ (by show L.length - (k+1) < L.length - k;omega) (by refine SealW.reach [0,1] [] rfl rfl rfl rfl ?_ ?_<;>(repeat' (first|exact LocLe.refl _|exact F2.nil|apply F2.cons|exact z12 _|((refine z13 rfl ?_ ?_);(focus ((repeat' ((exact z6 (fun _=>rfl))));done)))|exact True.intro|apply And.intro)))
    · obtain rfl:k=L.length:=by omega
      rw [List.take_length] at hO
      rw [hO]
      by_cases h5:O.length≤5
      · rw [decide_eq_true h5,if_pos rfl]
        repeat' ((first|(apply AWP.go ok;rfl)|(apply And.intro;omega)|(((apply z11;omega));intro _)|((apply z7)<;>intro _))<;>conv=>whnf)
        all_goals first|(exfalso;omega)|skip
        all_goals (refine RetS.lay [] [0] rfl rfl rfl ?_;refine RetS.done ?_ ?_<;>(repeat' (first|exact LocLe.refl _|exact F2.nil|apply F2.cons|((apply z45 rfl rfl rfl);(focus ((repeat ((exact z41 (fun _=>rfl) _)));done));(focus (((simp;done));done)))|apply z95)))
      · rw [decide_eq_false h5,if_neg (by simp)]
        repeat' ((first|(apply AWP.go ok;rfl)|(apply And.intro;omega)|(((apply z11;omega));intro _)|((apply z7)<;>intro _))<;>conv=>whnf)
        all_goals first|(exfalso;omega)|skip
        all_goals (refine RetS.lay [] [2] rfl rfl rfl ?_;refine RetS.done ?_ ?_<;>(repeat' (first|exact LocLe.refl _|exact F2.nil)))
  · rw [if_neg h,decide_eq_false h] at cn
    have hd:decide ((t.fmB=true∧(t.nrm false).fmB=true)∧(bscL (t.nrm false)).length≤5)=false:=decide_eq_false fun h2=>h h2.1
    rw [hd,if_neg (by simp)]
    refine z10 z18 Tryz.func243 rfl rfl 43 Tryz.ntmps243 (by simp) ?_
    repeat' ((first|(apply AWP.go ok;rfl)|(apply z9 (cn);rfl;rfl))<;>conv=>whnf)
    all_goals (refine RetS.lay [] [2] rfl rfl rfl ?_;refine RetS.done ?_ ?_<;>(repeat' (first|exact LocLe.refl _|exact F2.nil)))
end Go.Proofs.YtknlmbniicacmaaGreat

namespace Go.Proofs.YtknlmbniicacmaaGreat
open Go.Gl
attribute [local irreducible] z31 AWP z48 z52 z50 RetS z57
theorem z265 (x a:Int) (h0:0≤x) (h1:x≤31) (h2:0≤a) (h3:a≤5):CallsA Tryz.prog 283 [.int x,.int a] [] (.bool (hasB x a)) []:=by
  have ha:a=0∨a=1∨a=2∨a=3∨a=4∨a=5:=by omega
  have h5:0≤x / 2 ^ a.toNat∧x / 2 ^ a.toNat≤31:=by
    rcases ha with rfl|rfl|rfl|rfl|rfl|rfl<;>simp<;>omega
  have hw:IntKind.u64.wrap a=a:=by
    rcases ha with rfl|rfl|rfl|rfl|rfl|rfl<;>decide
  refine z10 z18 Tryz.func283 rfl rfl 11 Tryz.ntmps283 (by simp) ?_
  repeat' ((first|(apply AWP.go ok;rfl)|(apply And.intro;omega))<;>conv=>whnf)
  refine And.intro (by unfold z148;omega) ?_
  conv=>whnf
  repeat' (((apply AWP.go ok;rfl))<;>conv=>whnf)
  all_goals (refine RetS.lay [] [] rfl rfl rfl ?_;refine RetS.done ?_ ?_<;>(repeat' (first|exact LocLe.refl _|exact F2.nil)))
structure BasL (B:List Tree):Prop where
  len:B.length≤5
  nd:B.Nodup
  sz:∀ x∈B,x.sz≤1000
  cl:∀ x∈B,In (·∈B) x
  bk:∀ x∈B,basicB x=true
  av:∀ v,Tree.mk 2 v []∈B→0≤v∧v≤2
theorem BasL.mx {B:List Tree} (h:BasL B):∀ x∈B,x.mx:=fun x hx=>z156 x (by have:=h.sz x hx;unfold maxLen;omega)
set_option maxHeartbeats 3200000 in
theorem z153 (B:List Tree) (hB:BasL B) (s:Int) (s0:0≤s) (s1:s≤31) (t:Tree) (h:In (·∈B) t):t.sz≤1000→CallsA Tryz.prog 246 [lst 3 Tree.cs' B,.int s,z51 Tree.cs' t] [] (.bool (vlB B s t)) []:=by
  have basic:∀ t,t∈B→basicB t=true→CallsA Tryz.prog 246 [lst 3 Tree.cs' B,.int s,z51 Tree.cs' t] [] (.bool (sgB B s t)) []:=fun t ht hb=>by
    have hl:=hB.len
    have cF:=z695 B (by omega) hB.mx t (hB.mx t ht)
    have hp:=plc_mem ht
    have cH:=z265 s (plc B t) s0 s1 hp.1 (by omega)
    have e:idxF (fun x=>decide (x=t)) B=plc B t:=rfl
    rw [e] at cF
    unfold sgB
    generalize plc B t=p at *
    unfold basicB at hb
    have hb:=of_decide_eq_true hb
    rw [Tree.arg_eq t] at cF ⊢
    refine z10 z18 Tryz.func246 rfl rfl 62 Tryz.ntmps246 (by simp) ?_
    repeat' ((first|(apply AWP.go ok;rfl)|(apply And.intro;omega)|(((with_reducible apply z69;omega));intro _)|((apply z7)<;>intro _)|(apply z9 (cF);rfl;rfl)|(apply z9 (cH);rfl;rfl))<;>conv=>whnf)
    all_goals first|(exfalso;omega)|(refine RetS.lay [] [] rfl rfl rfl ?_;refine RetS.done ?_ ?_<;>(repeat' (first|exact LocLe.refl _|exact F2.nil)))
  unfold vlB
  induction h with
  | tr =>
    intro _
    rw [vl_tr]
    refine z10 z18 Tryz.func246 rfl rfl 62 Tryz.ntmps246 (by simp) ?_
    repeat' (((apply AWP.go ok;rfl))<;>conv=>whnf)
    all_goals (refine RetS.lay [] [] rfl rfl rfl ?_;refine RetS.done ?_ ?_<;>(repeat' (first|exact LocLe.refl _|exact F2.nil)))
  | «at» v hb=>intro _;rw [vl_at];exact basic _ hb (by simp [basicB,Tree.kind])
  | nt =>
    intro _
    rw [vl_not,vl_tr]
    have c1:CallsA Tryz.prog 246 [lst 3 Tree.cs' B,.int s,z51 Tree.cs' (.mk 1 0 [])] [] (.bool true) []:=by
      refine z10 z18 Tryz.func246 rfl rfl 62 Tryz.ntmps246 (by simp) ?_
      repeat' (((apply AWP.go ok;rfl))<;>conv=>whnf)
      all_goals (refine RetS.lay [] [] rfl rfl rfl ?_;refine RetS.done ?_ ?_<;>(repeat' (first|exact LocLe.refl _|exact F2.nil)))
    rw [argU]
    refine z10 z18 Tryz.func246 rfl rfl 62 Tryz.ntmps246 (by simp) ?_
    repeat' ((first|(apply AWP.go ok;rfl)|(refine ⟨_,rfl,?_⟩)|(apply And.intro;omega)|(apply z9 (c1);rfl;rfl))<;>conv=>whnf)
    all_goals (refine RetS.lay [] [] rfl rfl rfl ?_;refine RetS.done ?_ ?_<;>(repeat' (first|exact LocLe.refl _|exact F2.nil)))
  | na v hb =>
    intro _
    rw [vl_not,vl_at]
    have c1:=basic _ hb (by simp [basicB,Tree.kind])
    rw [argU]
    refine z10 z18 Tryz.func246 rfl rfl 62 Tryz.ntmps246 (by simp) ?_
    repeat' ((first|(apply AWP.go ok;rfl)|(refine ⟨_,rfl,?_⟩)|(apply And.intro;omega)|(apply z9 (c1);rfl;rfl))<;>conv=>whnf)
    all_goals (refine RetS.lay [] [] rfl rfl rfl ?_;refine RetS.done ?_ ?_<;>(repeat' (first|exact LocLe.refl _|exact F2.nil)))
  | an _ _ iha ihb =>
    rename_i a b _ _
    intro hs
    rw [z401] at hs
    have ca:=iha (by omega)
    have cb:=ihb (by omega)
    rw [vl_and,argB]
    generalize a.vl (sgB B s)=x at *
    generalize b.vl (sgB B s)=y at *
    cases x
    all_goals
      refine z10 z18 Tryz.func246 rfl rfl 62 Tryz.ntmps246 (by simp) ?_
      repeat' ((first|(apply AWP.go ok;rfl)|(refine ⟨_,rfl,?_⟩)|(apply And.intro;omega)|(apply z9 (ca);rfl;rfl)|(apply z9 (cb);rfl;rfl))<;>conv=>whnf)
      all_goals (refine RetS.lay [] [] rfl rfl rfl ?_;refine RetS.done ?_ ?_<;>(repeat' (first|exact LocLe.refl _|exact F2.nil)))
  | or _ _ iha ihb =>
    rename_i a b _ _
    intro hs
    rw [z401] at hs
    have ca:=iha (by omega)
    have cb:=ihb (by omega)
    rw [vl_or,argB]
    generalize a.vl (sgB B s)=x at *
    generalize b.vl (sgB B s)=y at *
    cases x
    all_goals
      refine z10 z18 Tryz.func246 rfl rfl 62 Tryz.ntmps246 (by simp) ?_
      repeat' ((first|(apply AWP.go ok;rfl)|(refine ⟨_,rfl,?_⟩)|(apply And.intro;omega)|(apply z9 (ca);rfl;rfl)|(apply z9 (cb);rfl;rfl))<;>conv=>whnf)
      all_goals (refine RetS.lay [] [] rfl rfl rfl ?_;refine RetS.done ?_ ?_<;>(repeat' (first|exact LocLe.refl _|exact F2.nil)))
  | nx hb _ _=>intro _;rw [vl_nx];exact basic _ hb (by simp [basicB,Tree.kind])
  | un hb _ _ _ _=>intro _;rw [vl_un];exact basic _ hb (by simp [basicB,Tree.kind])
  | re hb _ _ _ _=>intro _;rw [vl_re];exact basic _ hb (by simp [basicB,Tree.kind])
end Go.Proofs.YtknlmbniicacmaaGreat

namespace Go.Proofs.YtknlmbniicacmaaGreat
open Go.Gl
attribute [local irreducible] z31 AWP z48 z52 z50 RetS z57
theorem csU (k v:Int) (a:Tree):Tree.cs' (.mk k v [a])=[.int k,.int v,.list 3 1 [Tree.cs' a]]:=AC.agg.inj (argU k v a)
theorem csB2 (k v:Int) (a b:Tree):Tree.cs' (.mk k v [a,b])=[.int k,.int v,.list 3 2 [Tree.cs' a,Tree.cs' b]]:=AC.agg.inj (argB k v a b)
inductive FormB (B:List Tree):Tree→Prop
  | at (v:Int):FormB B (.mk 2 v [])
  | nx (a:Tree) (ha:In (·∈B) a) (sa:a.sz≤1000):FormB B (.mk 6 0 [a])
  | un (a b:Tree) (ha:In (·∈B) a) (hb:In (·∈B) b) (sa:a.sz≤1000) (sb:b.sz≤1000):FormB B (.mk 7 0 [a,b])
  | re (a b:Tree) (ha:In (·∈B) a) (hb:In (·∈B) b) (sa:a.sz≤1000) (sb:b.sz≤1000):FormB B (.mk 8 0 [a,b])
theorem BasL.form {B:List Tree} (h:BasL B) {x:Tree} (hx:x∈B):FormB B x:=by
  have h1:=h.cl x hx
  have h2:=h.bk x hx
  have h3:=h.sz x hx
  cases h1 with
  | tr=>simp [basicB,Tree.kind] at h2
  | «at» v _=>exact .at v
  | nt=>simp [basicB,Tree.kind] at h2
  | na v _=>simp [basicB,Tree.kind] at h2
  | an _ _=>simp [basicB,Tree.kind] at h2
  | or _ _=>simp [basicB,Tree.kind] at h2
  | nx _ ha=>rw [z454] at h3;exact .nx _ ha (by omega)
  | un _ ha hb=>rw [z401] at h3;exact .un _ _ ha hb (by omega) (by omega)
  | re _ ha hb=>rw [z401] at h3;exact .re _ _ ha hb (by omega) (by omega)
theorem z1046 {B:List Tree} {s t:Int} (h:∀ i,i < B.length→folI B s t i=true):folB B s t=true:=by
  unfold folB;rw [List.all_eq_true];exact fun i hi=>h i (List.mem_range.1 hi)
theorem z917 {B:List Tree} {s t:Int} {i:Nat} (hi:i < B.length) (h:folI B s t i=false):folB B s t=false:=by
  unfold folB;rw [List.all_eq_false];exact ⟨i,List.mem_range.2 hi,by rw [h];simp⟩
set_option maxHeartbeats 6400000 in
theorem z693 (B:List Tree) (hB:BasL B) (s t:Int) (s0:0≤s) (s1:s≤31) (t0:0≤t) (t1:t≤31):CallsA Tryz.prog 249 [lst 3 Tree.cs' B,.int s,.int t] [] (.bool (folB B s t)) []:=by
  have hl:=hB.len
  refine z10 z18 Tryz.func249 rfl rfl 85 Tryz.ntmps249 (by simp) ?_
  repeat' (((apply AWP.go ok;rfl))<;>conv=>whnf)
  refine z64 (fun i:Nat=>([(0,lst 3 Tree.cs' B),(1,.int s),(2,.int t),(7,.int i)],[])) (fun i=>i≤B.length∧∀ j,j < i→folI B s t j=true) (fun i=>B.length - i) 0 ⟨Nat.zero_le _,fun j h=>absurd h (Nat.not_lt_zero _)⟩ (by refine SealW.reach [] [] rfl rfl rfl rfl ?_ ?_<;>(repeat' (first|exact LocLe.refl _|exact F2.nil|exact True.intro|apply And.intro))) ?_
  rintro i ⟨hi,hj⟩
  by_cases hil:i < B.length
  · have gk:(B.map Tree.cs')[i]?=some (Tree.cs' (B.getD i dftT)):=by rw [List.getElem?_map,List.getElem?_eq_getElem hil,z19 hil];rfl
    have hf:=hB.form (x:=B.getD i dftT) (by rw [z19 hil];exact List.getElem_mem _)
    have cw:=z265 s i s0 s1 (by omega) (by omega)
    have cn:=z265 t i t0 t1 (by omega) (by omega)
    have hI:folI B s t i=(folV B s t (B.getD i dftT) (hasB s i) (hasB t i) == hasB s i):=rfl
    have hT:folI B s t i=true→∀ j,j < i+1→folI B s t j=true:=fun h j hji=>by
      rcases Nat.lt_or_ge j i with h3|h3
      · exact hj j h3
      · obtain rfl:j=i:=by omega
        exact h
    have hF:folI B s t i=false→folB B s t=false:=z917 hil
    rw [hI] at hT hF
    clear hI hj
    generalize B.getD i dftT=f at *
    generalize hasB s i=x at *
    generalize hasB t i=y at *
    cases hf with
    | «at» v =>
      have hT2:=hT (by simp [folV,Tree.kind])
      clear hT hF
      cases x
      all_goals
        repeat' ((first|(apply AWP.go ok;rfl)|(refine z16 (i:=i) rfl gk ?_)|(apply And.intro;first|omega|(unfold inI;omega))|((apply z7)<;>intro _)|(apply z9 (cw);rfl;rfl))<;>conv=>whnf)
        all_goals first|(exfalso;omega)|skip
        all_goals refine z23 (i+1) ⟨by omega,hT2⟩ (by omega) (by refine SealW.reach [] [] rfl rfl rfl rfl ?_ ?_<;>(repeat' (first|exact LocLe.refl _|exact F2.nil|exact True.intro|apply And.intro)))
    | nx a ha sa =>
      have ca:=z153 B hB t t0 t1 a ha sa
      have e:folV B s t (.mk 6 0 [a]) x y=vlB B t a:=by simp [folV,kidV,Tree.kind,Tree.kids]
      rw [e] at hT hF
      rw [csU] at gk
      clear e
      generalize vlB B t a=z at *
      cases x<;>cases z
      all_goals first|have hT:=hT rfl|(have hF:=hF rfl;rw [hF])
      all_goals
        repeat' ((first|(apply AWP.go ok;rfl)|(refine z16 (i:=i) rfl gk ?_)|(refine ⟨_,rfl,?_⟩)|(apply And.intro;first|omega|(unfold inI;omega))|((apply z7)<;>intro _)|(apply z9 (cw);rfl;rfl)|(apply z9 (ca);rfl;rfl))<;>conv=>whnf)
        all_goals first|(exfalso;omega)|skip
        all_goals first|(refine z23 (i+1) ⟨by omega,hT⟩ (by omega) (by refine SealW.reach [] [] rfl rfl rfl rfl ?_ ?_<;>(repeat' (first|exact LocLe.refl _|exact F2.nil|exact True.intro|apply And.intro))))|(refine RetS.lay [] [] rfl rfl rfl ?_;refine RetS.done ?_ ?_<;>(repeat' (first|exact LocLe.refl _|exact F2.nil)))
    | un a b ha hb sa sb =>
      have ca:=z153 B hB s s0 s1 a ha sa
      have cb:=z153 B hB s s0 s1 b hb sb
      have e:folV B s t (.mk 7 0 [a,b]) x y=(vlB B s b || (vlB B s a && y)):=by simp [folV,kidV,Tree.kind,Tree.kids]
      rw [e] at hT hF
      rw [csB2] at gk
      clear e
      generalize vlB B s a=z at *
      generalize vlB B s b=u at *
      cases x<;>cases y<;>cases z<;>cases u
      all_goals first|have hT:=hT rfl|(have hF:=hF rfl;rw [hF])
      all_goals
        repeat' ((first|(apply AWP.go ok;rfl)|(refine z16 (i:=i) rfl gk ?_)|(refine ⟨_,rfl,?_⟩)|(apply And.intro;first|omega|(unfold inI;omega))|((apply z7)<;>intro _)|(apply z9 (cw);rfl;rfl)|(apply z9 (cn);rfl;rfl)|(apply z9 (ca);rfl;rfl)|(apply z9 (cb);rfl;rfl))<;>conv=>whnf)
        all_goals first|(exfalso;omega)|skip
        all_goals first|(refine z23 (i+1) ⟨by omega,hT⟩ (by omega) (by refine SealW.reach [] [] rfl rfl rfl rfl ?_ ?_<;>(repeat' (first|exact LocLe.refl _|exact F2.nil|exact True.intro|apply And.intro))))|(refine RetS.lay [] [] rfl rfl rfl ?_;refine RetS.done ?_ ?_<;>(repeat' (first|exact LocLe.refl _|exact F2.nil)))
    | re a b ha hb sa sb =>
      have ca:=z153 B hB s s0 s1 a ha sa
      have cb:=z153 B hB s s0 s1 b hb sb
      have e:folV B s t (.mk 8 0 [a,b]) x y=(vlB B s b && (vlB B s a || y)):=by simp [folV,kidV,Tree.kind,Tree.kids]
      rw [e] at hT hF
      rw [csB2] at gk
      clear e
      generalize vlB B s a=z at *
      generalize vlB B s b=u at *
      cases x<;>cases y<;>cases z<;>cases u
      all_goals first|have hT:=hT rfl|(have hF:=hF rfl;rw [hF])
      all_goals
        repeat' ((first|(apply AWP.go ok;rfl)|(refine z16 (i:=i) rfl gk ?_)|(refine ⟨_,rfl,?_⟩)|(apply And.intro;first|omega|(unfold inI;omega))|((apply z7)<;>intro _)|(apply z9 (cw);rfl;rfl)|(apply z9 (cn);rfl;rfl)|(apply z9 (ca);rfl;rfl)|(apply z9 (cb);rfl;rfl))<;>conv=>whnf)
        all_goals first|(exfalso;omega)|skip
        all_goals first|(refine z23 (i+1) ⟨by omega,hT⟩ (by omega) (by refine SealW.reach [] [] rfl rfl rfl rfl ?_ ?_<;>(repeat' (first|exact LocLe.refl _|exact F2.nil|exact True.intro|apply And.intro))))|(refine RetS.lay [] [] rfl rfl rfl ?_;refine RetS.done ?_ ?_<;>(repeat' (first|exact LocLe.refl _|exact F2.nil)))
  · obtain rfl:i=B.length:=by omega
    rw [z1046 fun j hji=>hj j hji]
    repeat' ((first|(apply AWP.go ok;rfl)|(apply And.intro;omega)|(((with_reducible apply z11;omega));intro _)|((apply z7)<;>intro _))<;>conv=>whnf)
    all_goals first|(exfalso;omega)|(refine RetS.lay [] [] rfl rfl rfl ?_;refine RetS.done ?_ ?_<;>(repeat' (first|exact LocLe.refl _|exact F2.nil)))
end Go.Proofs.YtknlmbniicacmaaGreat

namespace Go.Proofs.YtknlmbniicacmaaGreat
open Go.Gl
attribute [local irreducible] z31 AWP z48 z52 z50 RetS z57
theorem z692 (B:List Tree) (hB:BasL B) (s:Int) (s0:0≤s) (s1:s≤31) (u:Nat) (hu:u < B.length) (hk:(B.getD u dftT).kind=7):CallsA Tryz.prog 285 [lst 3 Tree.cs' B,.int s,.int u] [] (.bool (fulB B s u)) []:=by
  have hl:=hB.len
  have gk:(B.map Tree.cs')[u]?=some (Tree.cs' (B.getD u dftT)):=by rw [List.getElem?_map,List.getElem?_eq_getElem hu,z19 hu];rfl
  have hf:=hB.form (x:=B.getD u dftT) (by rw [z19 hu];exact List.getElem_mem _)
  have cw:=z265 s u s0 s1 (by omega) (by omega)
  have e:fulB B s u=(!hasB s u || kidV B s (B.getD u dftT) 1):=rfl
  rw [e]
  generalize B.getD u dftT=f at *
  generalize hasB s u=x at *
  cases hf with
  | «at» v=>simp [Tree.kind] at hk
  | nx a _ _=>simp [Tree.kind] at hk
  | re a b _ _ _ _=>simp [Tree.kind] at hk
  | un a b ha hb sa sb =>
    have cb:=z153 B hB s s0 s1 b hb sb
    rw [csB2] at gk
    have e2:kidV B s (.mk 7 0 [a,b]) 1=vlB B s b:=by simp [kidV,Tree.kids]
    rw [e2]
    clear e e2
    generalize vlB B s b=y at *
    cases x
    all_goals
      refine z10 z18 Tryz.func285 rfl rfl 23 Tryz.ntmps285 (by simp) ?_
      repeat' ((first|(apply AWP.go ok;rfl)|(refine z16 (i:=u) rfl gk ?_)|(refine ⟨_,rfl,?_⟩)|(apply And.intro;omega)|(apply z9 (cw);rfl;rfl)|(apply z9 (cb);rfl;rfl))<;>conv=>whnf)
      all_goals skip
      all_goals (refine RetS.lay [] [] rfl rfl rfl ?_;refine RetS.done ?_ ?_<;>(repeat' (first|exact LocLe.refl _|exact F2.nil)))
def untL (B:List Tree) (i:Nat):List Int:=((List.range i).filter fun i=>decide ((B.getD i dftT).kind=7)).map Int.ofNat
theorem z961 (B:List Tree) (i:Nat):untL B (i+1)=untL B i++(if (B.getD i dftT).kind=7 then [(i:Int)] else []):=by
  unfold untL
  rw [List.range_succ,List.filter_append,List.map_append]
  congr 1
  by_cases h:(B.getD i dftT).kind=7
  · rw [if_pos h,List.filter_cons_of_pos (by simpa using h)];rfl
  · rw [if_neg h,List.filter_cons_of_neg (by simpa using h)];rfl
theorem z576 (B:List Tree) (i:Nat):(untL B i).length≤i:=by
  unfold untL
  rw [List.length_map]
  have:=List.length_filter_le (fun i=>decide ((B.getD i dftT).kind=7)) (List.range i)
  simpa using this
theorem z784 (B:List Tree) (hl:B.length≤1000):CallsA Tryz.prog 245 [lst 3 Tree.cs' B] [] (ints (untB B)) []:=by
  refine z10 z18 Tryz.func245 rfl rfl 23 Tryz.ntmps245 (by simp) ?_
  repeat' (((apply AWP.go ok;rfl))<;>conv=>whnf)
  refine z64 (fun x:Nat×List Int=>([(0,lst 3 Tree.cs' B),(3,.sref 0 0 x.2.length),(4,.int x.1)],[.cells 1 (x.2.map enI)])) (fun x=>x.1≤B.length∧untL B x.1=x.2) (fun x=>B.length - x.1) (0,[]) ⟨Nat.zero_le _,rfl⟩ (by refine SealW.reach [0] [] rfl rfl rfl rfl ?_ ?_<;>(repeat' (first|exact LocLe.refl _|exact F2.nil|apply F2.cons|((refine z13 rfl ?_ ?_);(focus ((repeat' (exact z37));done)))|exact True.intro|apply And.intro))) ?_
  rintro ⟨i,U⟩ ⟨hi,hU⟩
  dsimp only at hi hU ⊢
  have hul:=z576 B i
  rw [hU] at hul
  by_cases hil:i < B.length
  · have gk:(B.map Tree.cs')[i]?=some (Tree.cs' (B.getD i dftT)):=by rw [List.getElem?_map,List.getElem?_eq_getElem hil,z19 hil];rfl
    have hs:=z961 B i
    rw [hU] at hs
    generalize B.getD i dftT=f at *
    by_cases hk:f.kind=7
    · rw [if_pos hk] at hs
      repeat' ((first|(apply AWP.go ok;rfl)|(refine z16 (i:=i) rfl gk ?_)|(apply And.intro;first|omega|(unfold inI;omega)|((try dsimp only);simp only [List.length_map,List.length_take,List.length_append,List.length_replicate,List.length_cons,List.length_nil];omega)|exact ⟨rfl,z21 rfl z30⟩)|((apply z7)<;>intro _))<;>conv=>whnf)
      all_goals first|(exfalso;omega)|skip
      all_goals refine z23 (i+1,U++[(i:Int)]) ⟨by show i+1≤_;omega,hs⟩ (by show B.length - (i+1) < B.length - i;omega) (by refine SealW.reach [2] [] rfl rfl rfl rfl ?_ ?_<;>(repeat' (first|exact LocLe.refl _|exact F2.nil|apply F2.cons|(refine z39 ?_;((simp;done)))|((refine z35 rfl ?_ ?_);(focus ((repeat' (first|exact z6 (fun _=>rfl)|apply z22));done)))|(refine z70 ?_ ?_;(focus (omega)))|exact True.intro|apply And.intro)))
    · rw [if_neg hk,List.append_nil] at hs
      repeat' ((first|(apply AWP.go ok;rfl)|(refine z16 (i:=i) rfl gk ?_)|(apply And.intro;first|omega|(unfold inI;omega))|((apply z7)<;>intro _))<;>conv=>whnf)
      all_goals first|(exfalso;omega)|skip
      all_goals refine z23 (i+1,U) ⟨by show i+1≤_;omega,hs⟩ (by show B.length - (i+1) < B.length - i;omega) (by refine SealW.reach [0] [] rfl rfl rfl rfl ?_ ?_<;>(repeat' (first|exact LocLe.refl _|exact F2.nil|apply F2.cons|exact z12 _|((refine z13 rfl ?_ ?_);(focus ((repeat' ((exact z6 (fun _=>rfl))));done)))|exact True.intro|apply And.intro)))
  · obtain rfl:i=B.length:=by omega
    have e:untB B=U:=hU
    rw [e]
    repeat' ((first|(apply AWP.go ok;rfl)|(apply And.intro;omega)|(((with_reducible apply z11;omega));intro _)|((apply z7)<;>intro _))<;>conv=>whnf)
    all_goals first|(exfalso;omega)|(refine RetS.lay [] [0] rfl rfl rfl ?_;refine RetS.done ?_ ?_<;>(repeat' (first|exact LocLe.refl _|exact F2.nil|((apply z45 rfl rfl rfl);(focus ((repeat ((exact z41 (fun _=>rfl) _)));done));(focus (((simp;done));done))))))
theorem untB_mem {B:List Tree} {x:Int} (h:x∈untB B):∃ u:Nat,x=u∧u < B.length∧(B.getD u dftT).kind=7:=by
  unfold untB at h
  obtain ⟨u,hu,rfl⟩:=List.mem_map.1 h
  obtain ⟨h1,h2⟩:=List.mem_filter.1 hu
  exact ⟨u,rfl,List.mem_range.1 h1,of_decide_eq_true h2⟩
theorem z903 (B:List Tree) (hB:BasL B) (s:Int) (s0:0≤s) (s1:s≤31) (ph:Nat) (hp:(untB B).length=0∨ph < (untB B).length):CallsA Tryz.prog 247 [lst 3 Tree.cs' B,ints (untB B),.int s,.int ph] [] (.tup [.int (phB B (untB B) s ph).1,.bool (phB B (untB B) s ph).2]) []:=by
  have hl:=hB.len
  have hul:(untB B).length≤B.length:=z576 B B.length
  have hm:=fun x=>@untB_mem B x
  unfold phB
  generalize untB B=U at *
  by_cases h0:U.length=0
  · rw [if_pos h0]
    refine z10 z18 Tryz.func247 rfl rfl 28 Tryz.ntmps247 (by simp) ?_
    repeat' ((first|(apply AWP.go ok;rfl)|(apply And.intro;omega)|(((with_reducible apply z11;omega));intro _)|((apply z7)<;>intro _))<;>conv=>whnf)
    all_goals first|(exfalso;omega)|(refine RetS.lay [] [] rfl rfl rfl ?_;refine RetS.done ?_ ?_<;>(repeat' (first|exact LocLe.refl _|exact F2.nil)))
  · rw [if_neg h0]
    have hpl:ph < U.length:=by omega
    have gu:(U.map enI)[ph]?=some (enI (U.getD ph 0)):=by rw [List.getElem?_map,List.getElem?_eq_getElem hpl,z19 hpl];rfl
    obtain ⟨u,e,hu,hk⟩:=hm (U.getD ph 0) (by rw [z19 hpl];exact List.getElem_mem _)
    rw [e] at gu
    have cf:=z692 B hB s s0 s1 u hu hk
    rw [Int.toNat_natCast,e]
    generalize fulB B s u=z at *
    cases z
    · refine z10 z18 Tryz.func247 rfl rfl 28 Tryz.ntmps247 (by simp) ?_
      repeat' ((first|(apply AWP.go ok;rfl)|(refine z16 (i:=ph) rfl gu ?_)|(apply And.intro;omega)|((apply z7)<;>intro _)|(apply z9 (cf);rfl;rfl))<;>conv=>whnf)
      all_goals first|(exfalso;omega)|(refine RetS.lay [] [] rfl rfl rfl ?_;refine RetS.done ?_ ?_<;>(repeat' (first|exact LocLe.refl _|exact F2.nil)))
    · refine z10 z18 Tryz.func247 rfl rfl 28 Tryz.ntmps247 (by simp) ?_
      repeat' ((first|(apply AWP.go ok;rfl)|(refine z16 (i:=ph) rfl gu ?_)|(apply And.intro;first|omega|(unfold inI;omega))|((apply z7)<;>intro _)|(apply z9 (cf);rfl;rfl))<;>conv=>whnf)
      all_goals first|(exfalso;omega)|skip
      all_goals (refine RetS.lay [] [] rfl rfl rfl ?_;refine RetS.done ?_ ?_<;>(repeat' (first|exact LocLe.refl _|exact F2.nil)))
end Go.Proofs.YtknlmbniicacmaaGreat

namespace Go.Proofs.YtknlmbniicacmaaGreat
open Go.Gl
attribute [local irreducible] z31 AWP z48 z52 z50 RetS z57
theorem z565 {B:List Tree} {s:Int} (i:Nat):(List.range (i+1)).foldl (atoI B s) (0,0)=atoI B s ((List.range i).foldl (atoI B s) (0,0)) i:=by
  rw [List.range_succ,List.foldl_append];rfl
theorem z839 {c k:Nat} (h:c < 8) (hk:k≤2):c ||| 2 ^ k < 8:=by
  have:k=0∨k=1∨k=2:=by omega
  rcases this with rfl|rfl|rfl<;>exact Nat.or_lt_two_pow (n:=3) h (by decide)
set_option maxHeartbeats 3200000 in
theorem z786 (B:List Tree) (hB:BasL B) (s:Int) (s0:0≤s) (s1:s≤31):CallsA Tryz.prog 248 [lst 3 Tree.cs' B,.int s] [] (.tup [.int (letB B s).1,.int (letB B s).2]) []:=by
  have hl:=hB.len
  refine z10 z18 Tryz.func248 rfl rfl 44 Tryz.ntmps248 (by simp) ?_
  repeat' (((apply AWP.go ok;rfl))<;>conv=>whnf)
  refine z64 (fun x:Nat×Nat×Nat=>([(0,lst 3 Tree.cs' B),(1,.int s),(6,.int x.2.1),(7,.int x.2.2),(8,.int x.1)],[])) (fun x=>x.1≤B.length∧(List.range x.1).foldl (atoI B s) (0,0)=x.2∧x.2.1 < 8∧x.2.2 < 8) (fun x=>B.length - x.1) (0,0,0) ⟨Nat.zero_le _,rfl,by decide,by decide⟩ (by refine SealW.reach [] [] rfl rfl rfl rfl ?_ ?_<;>(repeat' (first|exact LocLe.refl _|exact F2.nil|exact True.intro|apply And.intro))) ?_
  rintro ⟨i,c,v⟩ ⟨hi,hf,hc,hv⟩
  dsimp only at hi hf hc hv ⊢
  by_cases hil:i < B.length
  · have gk:(B.map Tree.cs')[i]?=some (Tree.cs' (B.getD i dftT)):=by rw [List.getElem?_map,List.getElem?_eq_getElem hil,z19 hil];rfl
    have hmem:B.getD i dftT∈B:=by rw [z19 hil];exact List.getElem_mem _
    have hform:=hB.form hmem
    have cw:=z265 s i s0 s1 (by omega) (by omega)
    have hs:=z565 (B:=B) (s:=s) i
    rw [hf] at hs
    unfold atoI at hs
    dsimp only at hs
    by_cases hk:(B.getD i dftT).kind=2
    · rw [if_pos hk] at hs
      have hvv:∃ a:Nat,(B.getD i dftT).val=a∧a≤2:=by
        generalize B.getD i dftT=f at *
        cases hform with
        | «at» v=>have:=hB.av v hmem;exact ⟨v.toNat,by simp [Tree.val];omega,by omega⟩
        | nx a _ _=>simp [Tree.kind] at hk
        | un a b _ _ _ _=>simp [Tree.kind] at hk
        | re a b _ _ _ _=>simp [Tree.kind] at hk
      obtain ⟨a,ea,ha⟩:=hvv
      have gk2:(B.map Tree.cs')[i]?=some [.int 2,.int a,.list 3 (B.getD i dftT).kids.length ((B.getD i dftT).kids.map Tree.cs)]:=by rw [gk,← hk,← ea];rfl
      have o1:=z839 hc ha
      have o2:=z839 hv ha
      have e:=z980 a (by omega)
      have hp:=z476 (show a < 3 by omega)
      have hw:IntKind.u64.wrap (a:Int)=a:=by
        have:a=0∨a=1∨a=2:=by omega
        rcases this with rfl|rfl|rfl<;>rfl
      rw [ea,Int.toNat_natCast] at hs
      clear gk hform hmem hk ea
      generalize hasB s i=z at *
      generalize (B.getD i dftT).kids=ks at *
      cases z
      · rw [if_neg (by simp)] at hs
        repeat' ((first|(apply AWP.go ok;rfl)|(refine z16 (i:=i) rfl gk2 ?_)|(apply And.intro;first|omega|(unfold inI;omega))|((apply z7)<;>intro _))<;>conv=>whnf)
        all_goals first|(exfalso;omega)|skip
        refine And.intro (by rw [e];unfold z148;omega) ?_
        conv=>whnf
        repeat' ((first|(apply AWP.go ok;rfl)|(apply And.intro;(unfold inI;omega))|(apply z9 (cw);rfl;rfl))<;>conv=>whnf)
        all_goals skip
        all_goals refine z23 (i+1,c ||| 2 ^ a,v) ⟨by show i+1≤_;omega,hs,o1,hv⟩ (by show B.length - (i+1) < B.length - i;omega) (by refine SealW.reach [] [] rfl rfl rfl rfl ?_ ?_<;>(repeat' (first|exact LocLe.refl _|exact F2.nil|exact True.intro|apply And.intro))<;>((rw [e];exact LocLe.refl _)))
      · rw [if_pos rfl] at hs
        repeat' ((first|(apply AWP.go ok;rfl)|(refine z16 (i:=i) rfl gk2 ?_)|(apply And.intro;first|omega|(unfold inI;omega))|((apply z7)<;>intro _))<;>conv=>whnf)
        all_goals first|(exfalso;omega)|skip
        refine And.intro (by rw [e];unfold z148;omega) ?_
        conv=>whnf
        repeat' ((first|(apply AWP.go ok;rfl)|(refine z16 (i:=i) rfl gk2 ?_)|(apply And.intro;first|omega|(unfold inI;omega))|(apply z9 (cw);rfl;rfl))<;>conv=>whnf)
        all_goals skip
        refine And.intro (by rw [e];unfold z148;omega) ?_
        conv=>whnf
        repeat' ((first|(apply AWP.go ok;rfl)|(apply And.intro;(unfold inI;omega)))<;>conv=>whnf)
        all_goals refine z23 (i+1,c ||| 2 ^ a,v ||| 2 ^ a) ⟨by show i+1≤_;omega,hs,o1,o2⟩ (by show B.length - (i+1) < B.length - i;omega) (by refine SealW.reach [] [] rfl rfl rfl rfl ?_ ?_<;>(repeat' (first|exact LocLe.refl _|exact F2.nil|exact True.intro|apply And.intro))<;>((rw [e];exact LocLe.refl _)))
    · rw [if_neg hk] at hs
      generalize B.getD i dftT=f at *
      repeat' ((first|(apply AWP.go ok;rfl)|(refine z16 (i:=i) rfl gk ?_)|(apply And.intro;first|omega|(unfold inI;omega))|((apply z7)<;>intro _)|(apply z9 (cw);rfl;rfl))<;>conv=>whnf)
      all_goals first|(exfalso;omega)|skip
      all_goals refine z23 (i+1,c,v) ⟨by show i+1≤_;omega,hs,hc,hv⟩ (by show B.length - (i+1) < B.length - i;omega) (by refine SealW.reach [] [] rfl rfl rfl rfl ?_ ?_<;>(repeat' (first|exact LocLe.refl _|exact F2.nil|exact True.intro|apply And.intro)))
  · obtain rfl:i=B.length:=by omega
    have e:letB B s=(c,v):=hf
    rw [e]
    repeat' ((first|(apply AWP.go ok;rfl)|(apply And.intro;omega)|(((with_reducible apply z11;omega));intro _)|((apply z7)<;>intro _))<;>conv=>whnf)
    all_goals first|(exfalso;omega)|(refine RetS.lay [] [] rfl rfl rfl ?_;refine RetS.done ?_ ?_<;>(repeat' (first|exact LocLe.refl _|exact F2.nil)))
end Go.Proofs.YtknlmbniicacmaaGreat

namespace Go.Proofs.YtknlmbniicacmaaGreat
open Go.Gl
attribute [local irreducible] z31 AWP z48 z52 z50 RetS z57
theorem z1022 (L:List (List Int)) (hL:L.length≤1000) (hr:∀ r∈L,r.length≤1000) (p:List Int) (hp:p.length≤1000):CallsA Tryz.prog 250 [.sref 0 0 L.length,.sref 1 0 p.length] [.cells 1 (L.map encL),.cells 1 (p.map enI)] (.tup [.sref 2 0 (z384 L p).length,.int (z680 L p)]) [.dead,.dead,.cells 1 ((z384 L p).map encL)]:=by
  have hc:∀ i (h:i < L.length),CallsA Tryz.prog 227 [ints L[i],ints p] [] (.bool (decide (L[i]=p))) []:=fun i h=>z488 _ _ (by have:=hr _ (List.getElem_mem h);unfold maxLen;omega) (by unfold maxLen;omega)
  refine z10 z18 Tryz.func250 rfl rfl 27 Tryz.ntmps250 (by simp) ?_
  refine AWP.reach (Reach.rnm 0 rfl) ?_
  refine AWP.reach (Reach.rnm 1 rfl) ?_
  conv=>whnf
  repeat' (((apply AWP.go ok;rfl))<;>conv=>whnf)
  refine z64 (fun i:Nat=>([(0,.sref 2 0 L.length),(1,.sref 3 0 p.length),(6,.int i)],[.dead,.dead,.cells 1 (L.map encL),.cells 1 (p.map enI)])) (fun i=>i≤L.length∧∀ j (h:j < L.length),j < i→L[j]≠p) (fun i=>L.length - i) 0 ⟨Nat.zero_le _,fun j _ h=>absurd h (Nat.not_lt_zero _)⟩ (by refine SealW.reach [0,1,2,3] [] rfl rfl rfl rfl ?_ ?_<;>(repeat' (first|exact LocLe.refl _|exact F2.nil|apply F2.cons|exact z12 _|((refine z13 rfl ?_ ?_);(focus ((repeat' ((exact z6 (fun _=>rfl))));done)))|exact True.intro|apply And.intro))) ?_
  rintro i ⟨hi,hj⟩
  by_cases hil:i < L.length
  · have gk:(L.map encL)[i]?=some (encL L[i]):=by rw [List.getElem?_map,List.getElem?_eq_getElem hil];rfl
    have c1:=hc i hil
    by_cases he:L[i]=p
    · have e1:z384 L p=L:=by unfold z384;rw [if_pos (by rw [← he];exact List.getElem_mem hil)]
      have e2:z680 L p=i:=by
        unfold z680
        have h1:p∈L:=by rw [← he];exact List.getElem_mem hil
        have h2:=List.idxOf_lt_length_of_mem h1
        have h3:=List.getElem_idxOf h2
        rcases Nat.lt_trichotomy (L.idxOf p) i with h|h|h
        · exact absurd h3 (hj _ h2 h)
        · exact h
        · exfalso
          have:=List.not_of_lt_findIdx (p:=(· == p)) (xs:=L) (i:=i) (by simpa [List.idxOf] using h)
          simp [he] at this
      rw [e1,e2]
      rw [decide_eq_true he] at c1
      generalize L[i]=q at *
      repeat' ((first|(apply AWP.go ok;rfl)|(refine z16 (i:=i) rfl gk ?_)|(apply And.intro;omega)|((apply z7)<;>intro _)|(((apply z8 [] [3] [] (c1);(focus ((repeat' first|exact z84|apply z60)<;>first|exact z122 rfl rfl rfl|rfl));(focus ((repeat' exact z4)<;>fail))));rfl;rfl;rfl;rfl;rfl;(focus ((repeat' exact z15)<;>fail));((refine .inr ⟨rfl,?_⟩;repeat' exact True.intro))))<;>conv=>whnf)
      all_goals first|(exfalso;omega)|skip
      all_goals (refine RetS.lay [0,1,2] [] rfl rfl rfl ?_;refine RetS.done ?_ ?_<;>(repeat' (first|exact LocLe.refl _|exact F2.nil|apply F2.cons|exact z12 _|((refine z13 rfl ?_ ?_);(focus ((repeat' ((exact z6 (fun _=>rfl))));done)))|exact True.intro)))
    · rw [decide_eq_false he] at c1
      have hj2:∀ j (h:j < L.length),j < i+1→L[j]≠p:=fun j h hji=>by
        rcases Nat.lt_or_ge j i with h3|h3
        · exact hj j h h3
        · obtain rfl:j=i:=by omega
          exact he
      generalize L[i]=q at *
      repeat' ((first|(apply AWP.go ok;rfl)|(refine z16 (i:=i) rfl gk ?_)|(apply And.intro;first|omega|(unfold inI;omega))|((apply z7)<;>intro _)|(((apply z8 [] [3] [] (c1);(focus ((repeat' first|exact z84|apply z60)<;>first|exact z122 rfl rfl rfl|rfl));(focus ((repeat' exact z4)<;>fail))));rfl;rfl;rfl;rfl;rfl;(focus ((repeat' exact z15)<;>fail));((refine .inr ⟨rfl,?_⟩;repeat' exact True.intro))))<;>conv=>whnf)
      all_goals first|(exfalso;omega)|skip
      all_goals refine z23 (i+1) ⟨by omega,hj2⟩ (by omega) (by refine SealW.reach [0,1,2,3] [] rfl rfl rfl rfl ?_ ?_<;>(repeat' (first|exact LocLe.refl _|exact F2.nil|apply F2.cons|exact z12 _|((refine z13 rfl ?_ ?_);(focus ((repeat' ((exact z6 (fun _=>rfl))));done)))|exact True.intro|apply And.intro)))
  · have hn:p ∉ L:=fun h=>by
      obtain ⟨j,hjl,e⟩:=List.mem_iff_getElem.1 h
      exact hj j hjl (by omega) e
    have e1:z384 L p=L++[p]:=by unfold z384;rw [if_neg hn]
    have e2:z680 L p=L.length:=by unfold z680;exact List.idxOf_eq_length hn
    rw [e1,e2]
    obtain rfl:i=L.length:=by omega
    repeat' ((first|(apply AWP.go ok;rfl)|(apply And.intro;first|omega|((try dsimp only);simp only [List.length_map,List.length_take,List.length_append,List.length_replicate,List.length_cons,List.length_nil];omega)|exact ⟨rfl,z21 rfl z30⟩)|(((apply z11;omega));intro _)|((apply z7)<;>intro _))<;>conv=>whnf)
    all_goals first|(exfalso;omega)|skip
    all_goals (refine RetS.lay [0,1,5] [3] rfl rfl rfl ?_;refine RetS.done ?_ ?_<;>(repeat' (first|exact LocLe.refl _|exact F2.nil|apply F2.cons|(refine z39 ?_;((simp;done)))|((refine z35 rfl ?_ ?_);(focus ((repeat' (first|exact z6 (fun _=>rfl)|apply z22));done)))|(refine z70 ?_ ?_;(focus (omega)))|((apply z75 rfl rfl rfl);(focus ((repeat ((exact z41 (fun _=>rfl) _)));done));(focus (((simp;done));done)))|apply z95|exact True.intro)))
end Go.Proofs.YtknlmbniicacmaaGreat

namespace Go.Proofs.YtknlmbniicacmaaGreat
open Go.Gl
attribute [local irreducible] z31 AWP z48 z52 z50 RetS z57
def eT (e:Edg):Trans:=⟨e.src,e.care,e.val,e.dst⟩
noncomputable def trOut (n0:Nat) (x:TrS):Aut:=⟨numI n0,if x.L.length=0 then [false] else x.acc,x.ed.map eT⟩
noncomputable def trO (t:Tree):Option Aut:=if bscB t=true then (trS (bscL (t.nrm false)) (t.nrm false)).map (trOut (iniS (bscL (t.nrm false)) (t.nrm false)).length) else none
noncomputable def trA (t:Tree):Aut:=(trO t).getD ⟨[],[],[]⟩
noncomputable def tsB (t:Tree):Bool:=(trO t).isSome
theorem z1074 {t:Tree} (ht:t.fmB=true) (hn:(t.nrm false).fmB=true) (h5:(bscL (t.nrm false)).length≤5) (hs:t.sz≤200):BasL (bscL (t.nrm false))∧In (·∈bscL (t.nrm false)) (t.nrm false)∧(t.nrm false).sz≤1000:=by
  have hg:=Tree.goodF_of ht
  have hz:=Tree.nrm_sz t hg false
  obtain ⟨a1,a2,a3,a4,a5,a6⟩:=z932 (Tree.goodF_of hn) (nrm_NF t hg false)
  exact ⟨⟨h5,a1,fun x hx=>by have:=a2 x hx;omega,a3,a4,a5⟩,a6,by omega⟩
theorem pow_5 {n:Nat} (h:n≤5):1≤2 ^ n∧2 ^ n≤32:=by
  have:n=0∨n=1∨n=2∨n=3∨n=4∨n=5:=by omega
  rcases this with rfl|rfl|rfl|rfl|rfl|rfl<;>decide
set_option maxHeartbeats 12800000 in
theorem z963 (t:Tree) (hs:t.sz≤200):CallsA Tryz.prog 202 [z51 Tree.cs' t] [] (.tup [.agg [.sref 0 0 (trA t).ini.length,.sref 1 0 (trA t).acc.length,.sref 2 0 (trA t).ed.length],.bool (tsB t)]) [.cells 1 ((trA t).ini.map enI),.cells 1 ((trA t).acc.map enB),.cells 4 ((trA t).ed.map Trans.cs)]:=by
  have cb:=z1073 t hs
  have cn:=z346 t (by omega)
  unfold trA tsB trO
  by_cases h:bscB t=true
  · obtain ⟨⟨ht,hn⟩,h5⟩:=of_decide_eq_true (show decide _=true from h)
    obtain ⟨hB,hIn,hsz⟩:=z1074 ht hn h5 hs
    rw [if_pos h] at cb ⊢
    rw [h] at cb
    rw [if_pos ⟨ht,hn⟩,decide_eq_true ⟨ht,hn⟩] at cn
    clear h ht hn
    generalize t.nrm false=g at *
    generalize bscL g=B at *
    have hp:=pow_5 h5
    have cU:=z784 B (by omega)
    have hi0:=z848 B g
    have hul:(untB B).length≤B.length:=z576 B B.length
    have e2:((1:Int) * 2 ^ ((B.length:Int).toNat))=((2 ^ B.length:Nat):Int):=by
      rw [Int.toNat_natCast,Int.one_mul];norm_cast
    have hw:IntKind.u64.wrap (B.length:Int)=B.length:=by
      have:B.length=0∨B.length=1∨B.length=2∨B.length=3∨B.length=4∨B.length=5:=by omega
      rcases this with h|h|h|h|h|h<;>rw [h]<;>rfl
    rw [Tree.arg_eq t] at cb cn ⊢
    have cV:=fun s a b=>z153 B hB s a b g hIn hsz
    rw [Tree.arg_eq g] at cn cV
    refine z10 z18 Tryz.func202 rfl rfl 137 Tryz.ntmps202 (by simp) ?_
    repeat' ((first|(apply AWP.go ok;rfl)|(apply And.intro;first|omega|(unfold inI;omega))|(apply z9 (cb);rfl;rfl)|(apply z9 (cn);rfl;rfl)|(apply z9 (cU);rfl;rfl))<;>conv=>whnf)
    all_goals skip
    refine AWP.reach (Reach.empty 1 rfl) ?_
    refine AWP.reach (Reach.empty 1 rfl) ?_
    refine AWP.reach (Reach.empty 4 rfl) ?_
    refine z64 (fun x:Nat×List (List Int)×List Int=>([(2,.ptr 0 none 0),(4,lst 3 Tree.cs' B),(6,.ptr 1 none 0),(8,.int ((2 ^ B.length:Nat):Int)),(9,ints (untB B)),(10,.ptr 2 none 0),(11,.sref 3 0 x.2.1.length),(12,.int x.1)],[.cells 3 [[.nils,.nils,.nils]],.cells 3 [[.int g.kind,.int g.val,lst 3 Tree.cs' g.kids]],.cells 3 [[.sref 4 0 x.2.2.length,.sref 5 0 0,.sref 6 0 0]],.cells 1 (x.2.1.map encL),.cells 1 (x.2.2.map enI),.cells 1 [],.cells 4 []])) (fun x=>x.1≤2 ^ B.length∧iniK B (fun s=>vlB B (s:Nat) g) x.1=x.2.1∧numI x.2.1.length=x.2.2) (fun x=>2 ^ B.length - x.1) (0,[],[]) ⟨Nat.zero_le _,rfl,rfl⟩ (by refine SealW.reach [1,2,3,4,5,6,7] [] rfl rfl rfl rfl ?_ ?_<;>(repeat' (first|exact LocLe.refl _|exact z46|exact F2.nil|apply F2.cons|(refine z96 ?_;omega)|apply ObjLe.box|((refine z13 rfl ?_ ?_);(focus ((repeat' (exact z37));done)))|exact True.intro|apply And.intro))<;>((rw [e2];exact LocLe.refl _))) ?_
    rintro ⟨k,L,N⟩ ⟨hk,hL,hN⟩
    dsimp only at hk hL hN ⊢
    have hLl:=iniK_len B (fun s=>vlB B (s:Nat) g) k
    rw [hL] at hLl
    have nl:=z840 L.length
    have ns:=z1001 L.length
    rw [hN] at nl ns
    by_cases hkl:k < 2 ^ B.length
    · have hsu:=z1036 B (fun s=>vlB B (s:Nat) g) k
      rw [hL] at hsu
      have cv:=cV k (by omega) (by omega)
      generalize vlB B (k:Nat) g=z at *
      cases z
      · rw [if_neg (by simp),List.append_nil] at hsu
        repeat' ((first|(apply AWP.go ok;rfl)|(apply And.intro;(unfold inI;omega))|((apply z7)<;>intro _)|(apply z9 (cv);rfl;rfl))<;>conv=>whnf)
        all_goals first|(exfalso;omega)|skip
        all_goals refine z23 (k+1,L,N) ⟨by show k+1≤_;omega,hsu,hN⟩ (by show 2 ^ B.length - (k+1) < 2 ^ B.length - k;omega) (by refine SealW.reach [0,1,2,3,4,5,6] [] rfl rfl rfl rfl ?_ ?_<;>(repeat' (first|exact LocLe.refl _|exact F2.nil|apply F2.cons|exact z12 _|apply ObjLe.box|((refine z13 rfl ?_ ?_);(focus ((repeat' (first|exact z37|exact z6 (fun _=>rfl)));done)))|exact True.intro|apply And.intro)))
      · rw [if_pos rfl] at hsu
        repeat' ((first|(apply AWP.go ok;rfl)|(apply And.intro;first|(unfold inI;omega)|((try dsimp only);simp only [List.length_map,List.length_take,List.length_append,List.length_replicate,List.length_cons,List.length_nil];omega)|exact ⟨rfl,z21 rfl z30⟩)|((apply z7)<;>intro _)|(apply z9 (cv);rfl;rfl))<;>conv=>whnf)
        all_goals first|(exfalso;omega)|skip
        all_goals refine z23 (k+1,L++[[(k:Int),0]],N++[(L.length:Int)]) ⟨by show k+1≤_;omega,hsu,by show numI (L++[[(k:Int),0]]).length=_;rw [List.length_append];exact ns⟩ (by show 2 ^ B.length - (k+1) < 2 ^ B.length - k;omega) (by refine SealW.reach [0,1,2,11,8,5,6] [9] rfl rfl rfl rfl ?_ ?_<;>(repeat' (first|exact LocLe.refl _|exact F2.nil|apply F2.cons|(refine z39 ?_;((simp;done)))|apply ObjLe.box|((first|refine z35 rfl ?_ ?_|refine z13 rfl ?_ ?_);(focus ((repeat' (first|exact z37|exact z6 (fun _=>rfl)|apply z22));done)))|(refine z70 ?_ ?_;(focus (omega)))|exact True.intro|apply And.intro)))
    · obtain rfl:k=2 ^ B.length:=by omega
      have hrows:=iniK_row B (fun s=>vlB B (s:Nat) g) (2 ^ B.length) B.length (untB B) (Nat.le_refl _)
      rw [hL] at hrows
      have hL0:iniS B g=L:=hL
      have hR:goS B (untB B) 65 0 ⟨L,[],[]⟩=trS B g:=by rw [← hL0];rfl
      have hO:trOut L.length=fun x=>⟨N,if x.L.length=0 then [false] else x.acc,x.ed.map eT⟩:=by unfold trOut;rw [hN]
      rw [hL0,hO]
      clear hO
      clear hL hkl cV cb cn cU hi0 ns hN hIn hsz hw e2 hk
      have hphase:=fun (s ph:Nat) (h:s < 2 ^ B.length) (h2:(untB B).length=0∨ph < (untB B).length)=>z903 B hB s (by omega) (by omega) ph h2
      have hletter:=fun (s:Nat) (h:s < 2 ^ B.length)=>z786 B hB s (by omega) (by omega)
      have hfol:=fun (s k:Nat) (h:s < 2 ^ B.length) (h2:k < 2 ^ B.length)=>z693 B hB s k (by omega) (by omega) (by omega) (by omega)
      have hrowq:=fun (s ph:Nat) (h:(untB B).length=0∨ph < (untB B).length)=>phB_row (B:=B) (s:=s) h
      generalize trS B g=R at *
      have hRO:∀ x,R=some x→Option.map (fun x:TrS=>(⟨N,if x.L.length=0 then [false] else x.acc,x.ed.map eT⟩:Aut)) R=some ⟨N,if x.L.length=0 then [false] else x.acc,x.ed.map eT⟩:=fun x h=>by rw [h];rfl
      have hRN:R=none→Option.map (fun x:TrS=>(⟨N,if x.L.length=0 then [false] else x.acc,x.ed.map eT⟩:Aut)) R=none:=fun h=>by rw [h];rfl
      generalize Option.map (fun x:TrS=>(⟨N,if x.L.length=0 then [false] else x.acc,x.ed.map eT⟩:Aut)) R=O at *
      repeat' ((first|(apply AWP.go ok;rfl)|((apply z7)<;>intro _))<;>conv=>whnf)
      all_goals first|(exfalso;omega)|skip
      refine z64 (fun x:Nat×TrS=>([(2,.ptr 0 none 0),(4,lst 3 Tree.cs' B),(8,.int ((2 ^ B.length:Nat):Int)),(9,ints (untB B)),(10,.ptr 1 none 0),(11,.sref 2 0 x.2.L.length),(13,.int x.1)],[.cells 3 [[.nils,.nils,.nils]],.cells 3 [[.sref 3 0 N.length,.sref 4 0 x.2.acc.length,.sref 5 0 x.2.ed.length]],.cells 1 (x.2.L.map encL),.cells 1 (N.map enI),.cells 1 (x.2.acc.map enB),.cells 4 (x.2.ed.map fun e=>Trans.cs (eT e))])) (fun x=>x.1≤64∧goS B (untB B) (65 - x.1) x.1 x.2=R∧(∀ r∈x.2.L,RowS B.length (untB B) r)∧x.2.acc.length≤x.1∧x.2.ed.length≤x.1 * 32∧x.2.L.length≤100) (fun x=>65 - x.1) (0,⟨L,[],[]⟩) ⟨by omega,hR,hrows,Nat.le_refl _,Nat.le_refl _,by show L.length≤100;omega⟩ (by refine SealW.reach [0,2,3,4,5,6] [] rfl rfl rfl rfl ?_ ?_<;>(repeat' (first|exact LocLe.refl _|exact F2.nil|apply F2.cons|exact z12 _|apply ObjLe.box|((refine z13 rfl ?_ ?_);(focus ((repeat' (first|exact z37|exact z6 (fun _=>rfl)));done)))|exact True.intro|apply And.intro))) ?_
      have hN100:N.length≤100:=by omega
      clear hL0 hR hrows hLl nl L
      rintro ⟨i,⟨L,acc,ed⟩⟩ ⟨hi,hR,hrows,hacc,hed,hL⟩
      dsimp only at hi hR hrows hacc hed hL ⊢
      rw [show 65 - i=(64 - i)+1 by omega,goS] at hR
      dsimp only at hR
      by_cases hil:i < L.length
      · rw [if_pos hil] at hR
        by_cases h64:64 < L.length
        · rw [if_pos h64] at hR
          have hO:=hRN hR.symm
          subst hO
          repeat' ((first|(apply AWP.go ok;rfl)|(apply And.intro;omega)|((first|(with_reducible apply z69;omega)|(apply z11;omega));intro _)|((apply z7)<;>intro _))<;>conv=>whnf)
          all_goals first|(exfalso;omega)|skip
          all_goals (refine RetS.empty 1 ?_;refine RetS.empty 1 ?_;refine RetS.empty 4 ?_;refine RetS.lay [6,7,8] [] rfl rfl rfl ?_;refine RetS.done ?_ ?_<;>(repeat' (first|exact LocLe.refl _|exact z46|exact F2.nil|apply F2.cons|((refine z13 rfl ?_ ?_);(focus ((repeat' (exact z37));done)))|apply z44|apply z95)))
        · rw [if_neg h64] at hR
          obtain ⟨s,ph,er,hs2,hph⟩:=hrows (L.getD i []) (by rw [z19 hil];exact List.getElem_mem _)
          have gk:(L.map encL)[i]?=some (encL [(s:Int),(ph:Int)]):=by rw [List.getElem?_map,List.getElem?_eq_getElem hil,← er,z19 hil];rfl
          have cP:=hphase s ph hs2 hph
          have cL:=hletter s hs2
          obtain ⟨q,eq,hq⟩:=hrowq s ph hph
          have hRS:z468 B (untB B) i ⟨L,acc,ed⟩=⟨((List.range (2 ^ B.length)).foldl (z393 B s q i (letB B s).1 (letB B s).2) (L,ed)).1,acc++[(phB B (untB B) s ph).2],((List.range (2 ^ B.length)).foldl (z393 B s q i (letB B s).1 (letB B s).2) (L,ed)).2⟩:=by
            unfold z468
            dsimp only
            rw [er,← eq];rfl
          rw [hRS] at hR
          rw [eq] at cP
          have hfol:=fun k h=>hfol s k hs2 h
          generalize (phB B (untB B) s ph).2=z at *
          generalize (letB B s).1=c at *
          generalize (letB B s).2=v at *
          clear hphase hletter hrowq hRS eq
          repeat' ((first|(apply AWP.go ok;rfl)|(refine z16 (i:=i) rfl gk ?_)|(refine ⟨_,rfl,?_⟩)|(apply And.intro;first|omega|((try dsimp only);simp only [List.length_map,List.length_take,List.length_append,List.length_replicate,List.length_cons,List.length_nil];omega)|exact ⟨rfl,z21 rfl z30⟩)|((apply z7)<;>intro _)|(apply z9 (cP);rfl;rfl)|(apply z9 (cL);rfl;rfl))<;>conv=>whnf)
          all_goals first|(exfalso;omega)|skip
          have hrow0:∀ r∈L,r.length≤1000:=fun r hr=>by obtain ⟨_,_,e,_,_⟩:=hrows r hr;rw [e];simp
          refine z64 (fun y:Nat×List (List Int)×List Edg=>([(2,.ptr 0 none 0),(4,lst 3 Tree.cs' B),(8,.int ((2 ^ B.length:Nat):Int)),(9,ints (untB B)),(10,.ptr 1 none 0),(11,.sref 2 0 y.2.1.length),(13,.int i),(14,.int s),(15,.int q),(17,.int c),(18,.int v),(19,.int y.1)],[.cells 3 [[.nils,.nils,.nils]],.cells 3 [[.sref 3 0 N.length,.sref 4 0 (acc.length+1),.sref 5 0 y.2.2.length]],.cells 1 (y.2.1.map encL),.cells 1 (N.map enI),.cells 1 ((acc++[z]).map enB),.cells 4 (y.2.2.map fun e=>Trans.cs (eT e))])) (fun y=>y.1≤2 ^ B.length∧(List.range y.1).foldl (z393 B s q i c v) (L,ed)=y.2∧(∀ r∈y.2.1,RowS B.length (untB B) r)∧y.2.1.length≤L.length+y.1∧y.2.2.length≤ed.length+y.1) (fun y=>2 ^ B.length - y.1) (0,L,ed) ⟨Nat.zero_le _,rfl,hrows,Nat.le_refl _,Nat.le_refl _⟩ (by refine SealW.reach [0,1,2,3,7,5] [] rfl rfl rfl rfl ?_ ?_<;>(repeat' (first|exact LocLe.refl _|exact F2.nil|apply F2.cons|exact z12 _|apply ObjLe.box|((first|refine z35 rfl ?_ ?_|refine z13 rfl ?_ ?_);(focus ((repeat' (first|exact z6 (fun _=>rfl)|apply z22));done)))|(refine z70 ?_ ?_;(focus (omega)))|exact True.intro|apply And.intro))) ?_
          rintro ⟨k,L',ed'⟩ ⟨hk,hf,hrows',hLl,hel⟩
          dsimp only at hk hf hrows' hLl hel ⊢
          by_cases hkl:k < 2 ^ B.length
          · have cF:=hfol k hkl
            have hfs:(List.range (k+1)).foldl (z393 B s q i c v) (L,ed)=z393 B s q i c v (L',ed') k:=by rw [List.range_succ,List.foldl_append,hf];rfl
            have he:z393 B s q i c v (L',ed') k=if folB B s k=true then (z384 L' [(k:Int),(q:Int)],ed'++[⟨i,c,v,z680 L' [(k:Int),(q:Int)]⟩]) else (L',ed'):=rfl
            rw [he] at hfs
            clear he
            by_cases hb:folB B s k=true
            · rw [if_pos hb] at hfs
              rw [hb] at cF
              have cQ:=z1022 L' (by omega) (fun r hr=>by obtain ⟨_,_,e,_,_⟩:=hrows' r hr;rw [e];simp) [(k:Int),(q:Int)] (by simp)
              have hpl:(z384 L' [(k:Int),(q:Int)]).length≤L'.length+1:=by unfold z384;split<;>simp
              have hpr:∀ r∈z384 L' [(k:Int),(q:Int)],RowS B.length (untB B) r:=fun r hr=>by
                unfold z384 at hr
                split at hr
                · exact hrows' r hr
                · rcases List.mem_append.1 hr with h|h
                  · exact hrows' r h
                  · rw [List.mem_singleton.1 h];exact ⟨k,q,rfl,hkl,hq⟩
              generalize z384 L' [(k:Int),(q:Int)]=L2 at *
              generalize z680 L' [(k:Int),(q:Int)]=n at *
              repeat' ((first|(apply AWP.go ok;rfl)|(apply And.intro;first|omega|(unfold inI;omega)|((try dsimp only);simp only [List.length_map,List.length_take,List.length_append,List.length_replicate,List.length_cons,List.length_nil];omega)|exact ⟨rfl,z21 rfl z30⟩)|((apply z7)<;>intro _)|(apply z9 (cF);rfl;rfl)|(((apply z8 [2,6] [] [7] (cQ);rfl;(focus ((repeat' first|exact z4|apply z5)<;>first|rfl|(refine z86 rfl ?_;((exact z6 fun _=>rfl)))))));rfl;rfl;rfl;rfl;rfl;(focus ((repeat' first|exact z15|apply z14)<;>first|exact z593|(refine z25 ?_;((exact z6 fun _=>rfl)))));(exact .inl rfl)))<;>conv=>whnf)
              all_goals first|(exfalso;omega)|skip
              all_goals refine z23 (k+1,L2,ed'++[⟨i,c,v,n⟩]) ⟨by show k+1≤_;omega,hfs,hpr,by show L2.length≤L.length+(k+1);omega,by show (ed'++[_]).length≤ed.length+(k+1);simp;omega⟩ (by show 2 ^ B.length - (k+1) < 2 ^ B.length - k;omega) (by refine SealW.reach [0,1,7,3,4,9] [] rfl rfl rfl rfl ?_ ?_<;>(repeat' (first|exact LocLe.refl _|exact F2.nil|apply F2.cons|exact z12 _|(refine z39 ?_;((simp;done)))|apply ObjLe.box|((first|refine z35 rfl ?_ ?_|refine z13 rfl ?_ ?_);(focus ((repeat' (first|exact z6 (fun _=>rfl)|apply z22));done)))|(refine z70 ?_ ?_;(focus (omega)))|exact True.intro|apply And.intro)))
            · rw [if_neg hb] at hfs
              rw [(Bool.not_eq_true _).mp hb] at cF
              repeat' ((first|(apply AWP.go ok;rfl)|(apply And.intro;first|omega|(unfold inI;omega))|((apply z7)<;>intro _)|(apply z9 (cF);rfl;rfl))<;>conv=>whnf)
              all_goals first|(exfalso;omega)|skip
              all_goals refine z23 (k+1,L',ed') ⟨by show k+1≤_;omega,hfs,hrows',by show L'.length≤L.length+(k+1);omega,by show ed'.length≤ed.length+(k+1);omega⟩ (by show 2 ^ B.length - (k+1) < 2 ^ B.length - k;omega) (by refine SealW.reach [0,1,2,3,4,5] [] rfl rfl rfl rfl ?_ ?_<;>(repeat' (first|exact LocLe.refl _|exact F2.nil|apply F2.cons|exact z12 _|apply ObjLe.box|((refine z13 rfl ?_ ?_);(focus ((repeat' ((exact z6 (fun _=>rfl))));done)))|exact True.intro|apply And.intro)))
          · obtain rfl:k=2 ^ B.length:=by omega
            rw [hf] at hR
            have hed2:ed'.length≤(i+1) * 32:=by omega
            repeat' ((first|(apply AWP.go ok;rfl)|(apply And.intro;(unfold inI;omega))|((apply z7)<;>intro _))<;>conv=>whnf)
            all_goals first|(exfalso;omega)|skip
            all_goals refine z23 (i+1,⟨L',acc++[z],ed'⟩) ⟨by show i+1≤64;omega,by rw [show 65 - (i+1)=64 - i by omega];exact hR,hrows',by show (acc++[z]).length≤i+1;simp;omega,hed2,by show L'.length≤100;omega⟩ (by show 65 - (i+1) < 65 - i;omega) (by refine SealW.reach [0,1,2,3,4,5] [] rfl rfl rfl rfl ?_ ?_<;>(repeat' (first|exact LocLe.refl _|exact F2.nil|apply F2.cons|exact z12 _|(refine z39 ?_;((simp;done)))|apply ObjLe.box|((refine z13 rfl ?_ ?_);(focus ((repeat' ((exact z6 (fun _=>rfl))));done)))|exact True.intro|apply And.intro)))
      · rw [if_neg hil] at hR
        have hO:=hRO _ hR.symm
        dsimp only at hO
        by_cases h0:L.length=0
        · rw [if_pos h0] at hO
          subst hO
          repeat' ((first|(apply AWP.go ok;rfl)|(apply And.intro;omega)|((first|(with_reducible apply z69;omega)|(apply z11;omega));intro _)|((apply z7)<;>intro _))<;>conv=>whnf)
          all_goals first|(exfalso;omega)|skip
          all_goals (refine RetS.lay [3,6,5] [] rfl rfl rfl ?_;refine RetS.done ?_ ?_<;>(repeat' (first|exact LocLe.refl _|exact F2.nil|apply F2.cons|exact z12 _|(refine z39 ?_;((simp;done)))|apply ObjLe.box|((refine z13 rfl ?_ ?_);(focus ((repeat' ((exact z6 (fun _=>rfl))));done)))|apply z44|apply z95)))
          all_goals exact z29 (by show _=List.map Trans.cs (List.map eT ed);rw [List.map_map];rfl)
        · rw [if_neg h0] at hO
          subst hO
          repeat' ((first|(apply AWP.go ok;rfl)|(apply And.intro;omega)|((first|(with_reducible apply z69;omega)|(apply z11;omega));intro _)|((apply z7)<;>intro _))<;>conv=>whnf)
          all_goals first|(exfalso;omega)|skip
          all_goals (refine RetS.lay [3,4,5] [] rfl rfl rfl ?_;refine RetS.done ?_ ?_<;>(repeat' (first|exact LocLe.refl _|exact F2.nil|apply F2.cons|exact z12 _|(refine z39 ?_;((simp;done)))|((refine z13 rfl ?_ ?_);(focus ((repeat' ((exact z6 (fun _=>rfl))));done)))|apply z44|apply z95)))
          all_goals exact z29 (by show _=List.map Trans.cs (List.map eT ed);rw [List.map_map];rfl)
  · rw [if_neg h] at cb ⊢
    rw [(Bool.not_eq_true _).mp h] at cb
    refine z10 z18 Tryz.func202 rfl rfl 137 Tryz.ntmps202 (by simp) ?_
    repeat' ((first|(apply AWP.go ok;rfl)|(apply z9 (cb);rfl;rfl))<;>conv=>whnf)
    all_goals (refine RetS.empty 1 ?_;refine RetS.empty 1 ?_;refine RetS.empty 4 ?_;refine RetS.lay [2,3,4] [] rfl rfl rfl ?_;refine RetS.done ?_ ?_<;>(repeat' (first|exact LocLe.refl _|exact z46|exact F2.nil|apply F2.cons|((refine z13 rfl ?_ ?_);(focus ((repeat' (exact z37));done)))|apply z44|apply z95)))
end Go.Proofs.YtknlmbniicacmaaGreat

namespace Go.Proofs.YtknlmbniicacmaaGreat
open Go.Gl
attribute [local irreducible] z31 AWP z48 z52 z50
end Go.Proofs.YtknlmbniicacmaaGreat

namespace Go.Proofs.YtknlmbniicacmaaGreat
open Go.Gl
attribute [local irreducible] z31 AWP z48 z52 z50
end Go.Proofs.YtknlmbniicacmaaGreat

namespace Go.Proofs.YtknlmbniicacmaaGreat
open Go.Gl
attribute [local irreducible] z31 AWP z48 z52 z50
structure Aut.ok (a:Aut):Prop where
  mx:a.mx
  ini:a.ini.length≤1048576
  acc:a.acc.length≤1048576
  ed:a.ed.length≤1048576
theorem Aut.ok_of {a:Aut} (h:a.mx) (h1:a.s1≤1048576) (h2:a.s2≤1048576) (h3:a.s3≤1048576):a.ok:=⟨h,h1,h2,h3⟩
end Go.Proofs.YtknlmbniicacmaaGreat

namespace Go.Proofs.YtknlmbniicacmaaGreat
open Go.Gl
attribute [local irreducible] z31 AWP z48 z52 z50
def onB (t:Trans) (n:Int):Bool:=decide (((n.toNat &&& t.care.toNat:Nat):Int)=t.val)
def z382 (n:Nat) (i:Nat) (ℓ to:Int) (e:Trans):List (Nat×Int):=if onB e ℓ then [((i:Nat) * n+e.src.toNat,to * n+e.dst)] else []
def z530 (n:Nat) (ed:List Trans) (i:Nat) (ℓ to:Int):List (Nat×Int):=ed.flatMap (z382 n i ℓ to)
def z474 (n:Nat) (ed:List Trans) (nx:List (List Int)) (ls:List Int) (i:Nat):List (Nat×Int):=(nx.getD i []).flatMap (z530 n ed i (ls.getD i 0))
def z529 (g:Graph) (ls:List Int) (a:Aut):List (Nat×Int):=(List.range g.st.length).flatMap (z474 a.acc.length a.ed g.nx ls)
def z26 (g:Graph) (ls:List Int) (a:Aut):List (List Int):=build (a.acc.length * g.st.length) (z529 g ls a)
theorem z473 (g:Graph) (hg:GB g) (ls:List Int) (a:Aut) (ha:AutP a):(z529 g ls a).length≤7372800:=by
  obtain ⟨⟨g1,g2⟩,g3,g4⟩:=hg
  have h1:∀ i ℓ to,(z530 a.acc.length a.ed i ℓ to).length≤2048:=fun i ℓ to=>by
    have:=z238 (f:=z382 a.acc.length i ℓ to) (c:=1) a.ed (fun e _=>by unfold z382;split<;>simp)
    have:=ha.2.1
    unfold z530;omega
  have h2:∀ i∈List.range g.st.length,(z474 a.acc.length a.ed g.nx ls i).length≤122880:=fun i hi=>by
    rw [List.mem_range] at hi
    unfold z474
    rw [z19 (l:=g.nx) (by omega)]
    have h3:=z238 (f:=z530 a.acc.length a.ed i (ls.getD i 0)) (c:=2048) g.nx[i] (fun e _=>h1 _ _ _)
    have h4:=(g4 i (by omega) (by omega) hi).2.1
    have:g.nx[i].length * 2048≤60 * 2048:=Nat.mul_le_mul_right _ (by omega)
    omega
  have h5:=z238 (f:=z474 a.acc.length a.ed g.nx ls) (c:=122880) (List.range g.st.length) h2
  rw [List.length_range] at h5
  have:g.st.length * 122880≤60 * 122880:=Nat.mul_le_mul_right _ (by omega)
  unfold z529;omega
theorem z608 (g:Graph) (hg:GB g) (ls:List Int) (hls:ls.length=g.st.length) (hlr:∀ x∈ls,0≤x∧x≤7) (a:Aut) (ha:AutP a):CallsA Tryz.prog 82 [.agg g.cs,ints ls,.agg a.cs] [] (.sref 0 0 (a.acc.length * g.st.length)) [.cells 1 ((z26 g ls a).map ownRow)]:=by
  have hpl:=z473 g hg ls a ha
  obtain ⟨⟨g1,g2⟩,g3,g4⟩:=hg
  obtain ⟨⟨a1,a2⟩,a3,_,a5⟩:=ha
  have hN:=z128 (a:=(a.acc.length:Int)) (b:=(g.st.length:Int)) (A:=64) (B:=60) (by omega) (by omega) (by omega) (by omega)
  have hNn:((a.acc.length * g.st.length:Nat):Int)=(a.acc.length:Int) * g.st.length:=by simp
  refine z17 z18 Tryz.func82 rfl rfl 93 Tryz.ntmps82 (by simp) ?_
  repeat' (first|(apply AWP.go ok;rfl;conv=>whnf)|(apply And.intro;(first|(unfold inI;omega)|(dsimp only;omega));conv=>whnf))
  refine AWP.reach (Gl.Reach.weaken (es':=List.replicate (a.acc.length * g.st.length) [.own 1 []]) 2 rfl (by rw [List.length_replicate,List.length_replicate];rfl) z314 rfl) ?_
  conv=>whnf
  have hrow:∀ i (hi:i < g.nx.length),∀ x∈g.nx[i],0≤x∧x≤g.st.length - 1:=fun i hi x hx=>by
    obtain ⟨j,hj,rfl⟩:=List.mem_iff_getElem.1 hx
    exact ((g4 i hi hi (by omega)).2.2.2 j hj hj).1
  have hlen:∀ i (hi:i < g.nx.length),g.nx[i].length≤60:=fun i hi=>by
    have:=(g4 i hi hi (by omega)).2.1;omega
  refine z90 (fun x:Nat×List (Nat×Int)=>([(1,ints ls),(3,.ptr 0 none 0),(5,.ptr 1 none 0),(7,.int a.acc.length),(8,.sref 2 0 (a.acc.length * g.st.length)),(9,.int x.1)],[.cells 2 [[lst 2 State.cs g.st,lst 1 encL g.nx]],.cells 3 [[lst 1 enI a.ini,lst 1 enB a.acc,lst 4 Trans.cs a.ed]],.cells 1 ((build (a.acc.length * g.st.length) x.2).map ownRow)])) (fun x=>x.1≤g.st.length∧x.2++((List.range g.st.length).drop x.1).flatMap (z474 a.acc.length a.ed g.nx ls)=z529 g ls a) (fun x=>g.st.length - x.1) (0,[]) ⟨by omega,rfl⟩
    ⟨[0,1,2],rfl,by decide,rfl,⟨⟨rfl,rfl⟩,⟨rfl,rfl⟩,⟨rfl,rfl⟩,⟨rfl,rfl⟩,⟨rfl,rfl⟩,⟨rfl,rfl⟩,trivial⟩,⟨z24 rfl rfl,z24 rfl rfl,z40 (z56 (z834 _).symm) (z6 fun _=>rfl),trivial⟩⟩ ?_
  rintro ⟨i,ps⟩ ⟨hi1,hi2⟩
  dsimp only at hi1 hi2 ⊢
  repeat' (first|(apply AWP.go ok;rfl;conv=>whnf)|(apply z7<;>intro _<;>conv=>whnf))
  · have hig:i < g.st.length:=by omega
    rw [z163 _ _ _ (by simpa using hig),List.getElem_range] at hi2
    have hin:i < g.nx.length:=by omega
    have hrow:=hrow i hin
    have hlen:=hlen i hin
    have hli:=hlr ls[i] (List.getElem_mem _)
    have hpI:z474 a.acc.length a.ed g.nx ls i=g.nx[i].flatMap (z530 a.acc.length a.ed i ls[i]):=by
      unfold z474
      rw [z19 hin,z19 (by omega)]
    rw [hpI] at hi2
    refine z90 (fun x:Nat×List (Nat×Int)=>([(1,ints ls),(3,.ptr 0 none 0),(5,.ptr 1 none 0),(7,.int a.acc.length),(8,.sref 2 0 (a.acc.length * g.st.length)),(9,.int i),(10,.int x.1)],[.cells 2 [[lst 2 State.cs g.st,lst 1 encL g.nx]],.cells 3 [[lst 1 enI a.ini,lst 1 enB a.acc,lst 4 Trans.cs a.ed]],.cells 1 ((build (a.acc.length * g.st.length) x.2).map ownRow)])) (fun x=>x.1≤g.nx[i].length∧x.2++((g.nx[i].drop x.1).flatMap (z530 a.acc.length a.ed i ls[i])++((List.range g.st.length).drop (i+1)).flatMap (z474 a.acc.length a.ed g.nx ls))=z529 g ls a) (fun x=>g.nx[i].length - x.1) (0,ps) ⟨by omega,hi2⟩
      ⟨[0,1,2],rfl,by decide,rfl,⟨⟨rfl,rfl⟩,⟨rfl,rfl⟩,⟨rfl,rfl⟩,⟨rfl,rfl⟩,⟨rfl,rfl⟩,⟨rfl,rfl⟩,⟨rfl,rfl⟩,trivial⟩,⟨z24 rfl rfl,z24 rfl rfl,z40 rfl (z6 fun _=>rfl),trivial⟩⟩ ?_
    rintro ⟨j,ps⟩ ⟨hj1,hj2⟩
    dsimp only at hj1 hj2 ⊢
    repeat' (first|(apply AWP.go ok;rfl;conv=>whnf)|(apply And.intro;(first|omega|(unfold inI;omega));conv=>whnf)|(with_reducible apply z11;omega;intro _;conv=>whnf)|(apply z7<;>intro _<;>conv=>whnf))
    · have hjn:j < g.nx[i].length:=by omega
      rw [z163 _ _ _ hjn,List.append_assoc] at hj2
      have hto:=hrow g.nx[i][j] (List.getElem_mem _)
      refine z90 (fun x:Nat×List (Nat×Int)=>([(1,ints ls),(3,.ptr 0 none 0),(5,.ptr 1 none 0),(7,.int a.acc.length),(8,.sref 2 0 (a.acc.length * g.st.length)),(9,.int i),(10,.int j),(11,.int x.1)],[.cells 2 [[lst 2 State.cs g.st,lst 1 encL g.nx]],.cells 3 [[lst 1 enI a.ini,lst 1 enB a.acc,lst 4 Trans.cs a.ed]],.cells 1 ((build (a.acc.length * g.st.length) x.2).map ownRow)])) (fun x=>x.1≤a.ed.length∧x.2++((a.ed.drop x.1).flatMap (z382 a.acc.length i ls[i] g.nx[i][j])++((g.nx[i].drop (j+1)).flatMap (z530 a.acc.length a.ed i ls[i])++((List.range g.st.length).drop (i+1)).flatMap (z474 a.acc.length a.ed g.nx ls)))=z529 g ls a) (fun x=>a.ed.length - x.1) (0,ps) ⟨by omega,hj2⟩
        ⟨[0,1,2],rfl,by decide,rfl,⟨⟨rfl,rfl⟩,⟨rfl,rfl⟩,⟨rfl,rfl⟩,⟨rfl,rfl⟩,⟨rfl,rfl⟩,⟨rfl,rfl⟩,⟨rfl,rfl⟩,⟨rfl,rfl⟩,trivial⟩,⟨z24 rfl rfl,z24 rfl rfl,z40 rfl (z6 fun _=>rfl),trivial⟩⟩ ?_
      rintro ⟨k,ps⟩ ⟨hk1,hk2⟩
      dsimp only at hk1 hk2 ⊢
      have hm1:=z128 (a:=(i:Int)) (b:=(a.acc.length:Int)) (A:=60) (B:=64) (by omega) (by omega) (by omega) (by omega)
      have hm2:=z128 (a:=g.nx[i][j]) (b:=(a.acc.length:Int)) (A:=60) (B:=64) (by omega) (by omega) (by omega) (by omega)
      by_cases hke:k < a.ed.length
      · have he:=a5 a.ed[k] (List.getElem_mem hke)
        unfold z420 at he
        have hlt:i * a.acc.length+a.ed[k].src.toNat < (build (a.acc.length * g.st.length) ps).length:=by
          rw [z83]
          have h1:(i+1) * a.acc.length≤g.st.length * a.acc.length:=Nat.mul_le_mul_right _ hig
          rw [Nat.add_mul,Nat.one_mul,Nat.mul_comm g.st.length] at h1
          omega
        repeat' (first|((fail_if_success apply z146 14);(fail_if_success apply z112 14);apply AWP.go ok;rfl;conv=>whnf)|(apply z34;kernel_rfl;conv=>whnf)|(apply And.intro;(first|omega|(unfold inI;omega));conv=>whnf)|(with_reducible apply z11;omega;intro _;conv=>whnf)|(apply z7<;>intro _<;>conv=>whnf)|(apply z9 (l7On_ok a.ed[k] ls[i] hli.1 hli.2 (a5 _ (List.getElem_mem _)).2.2.1);rfl;rfl;conv=>whnf))
        · have hon:((ls[i].toNat &&& a.ed[k].care.toNat:Nat):Int)=a.ed[k].val:=by assumption
          have hrl:(build (a.acc.length * g.st.length) ps)[i * a.acc.length+a.ed[k].src.toNat].length≤1000000000:=by
            have h1:=z273 (N:=a.acc.length * g.st.length) (ps:=ps) hlt
            have h2:=congrArg List.length hk2
            rw [List.length_append] at h2
            omega
          have hin:((i:Int) * a.acc.length+a.ed[k].src).toNat=i * a.acc.length+a.ed[k].src.toNat:=by
            have e:((i * a.acc.length:Nat):Int)=(i:Int) * a.acc.length:=by simp
            omega
          have hlt2:((i:Int) * a.acc.length+a.ed[k].src).toNat < a.acc.length * g.st.length:=by
            rw [hin,← z83 (a.acc.length * g.st.length) ps];exact hlt
          have hmap:i * a.acc.length+a.ed[k].src.toNat < ((build (a.acc.length * g.st.length) ps).map ownRow).length:=by rw [List.length_map];exact hlt
          refine AWP.reach (Gl.Reach.expose (e:=ownRow (build (a.acc.length * g.st.length) ps)[i * a.acc.length+a.ed[k].src.toNat]) 2 (i * a.acc.length+a.ed[k].src.toNat) 0 rfl (by rw [List.getElem?_map,List.getElem?_eq_getElem hlt];rfl) rfl (z231 (fun _=>rfl) _) rfl) ?_
          conv=>whnf
          (apply AWP.go ok;rfl;conv=>whnf)
          repeat' (first|(apply z34;kernel_rfl;conv=>whnf)|(apply z619;exact hin;exact hmap;conv=>whnf)|(apply And.intro;(first|omega|(unfold inI;omega)|((try dsimp only);simp only [List.length_map,List.length_take,List.length_append,List.length_replicate,List.length_cons,List.length_nil];omega)|exact ⟨rfl,z21 rfl z30⟩);conv=>whnf)|(with_reducible apply z11;omega;intro _;conv=>whnf))
          refine AWP.reach (Gl.Reach.absorb 2 5 (i * a.acc.length+a.ed[k].src.toNat) 0 rfl (z1041 hin (by rw [List.length_set];exact hmap)) rfl rfl (by simp) rfl (z99 (fun e he=>(z6 (fun _=>rfl)) e (List.mem_of_mem_take he)) (z216 rfl z37)) rfl) ?_
          conv=>whnf
          repeat' (first|(apply AWP.go ok;rfl;conv=>whnf)|(apply And.intro;((unfold inI;omega));conv=>whnf))
          rw [z163 _ _ _ hke] at hk2
          have hpe:z382 a.acc.length i ls[i] g.nx[i][j] a.ed[k]=[(i * a.acc.length+a.ed[k].src.toNat,g.nx[i][j] * a.acc.length+a.ed[k].dst)]:=by
            unfold z382 onB;rw [if_pos (decide_eq_true hon)]
          rw [hpe,List.append_assoc,← List.append_assoc] at hk2
          exact z78 (k+1,ps++[(i * a.acc.length+a.ed[k].src.toNat,g.nx[i][j] * a.acc.length+a.ed[k].dst)]) [0,1,2] ⟨by dsimp only;omega,hk2⟩ (by dsimp only;omega)
            ⟨rfl,by decide,rfl,⟨⟨rfl,rfl⟩,⟨rfl,rfl⟩,⟨rfl,rfl⟩,⟨rfl,rfl⟩,⟨rfl,rfl⟩,⟨rfl,rfl⟩,⟨rfl,rfl⟩,⟨rfl,rfl⟩,trivial⟩,⟨z24 rfl rfl,z24 rfl rfl,z40 (z56 (rows_push' hlt hin (by simp))) (z6 fun _=>rfl),trivial⟩⟩
        · rename_i hon
          rw [z163 _ _ _ hke] at hk2
          have hpe:z382 a.acc.length i ls[i] g.nx[i][j] a.ed[k]=[]:=by
            unfold z382 onB;rw [if_neg (by simpa using hon)]
          rw [hpe,List.nil_append] at hk2
          exact z78 (k+1,ps) [0,1,2] ⟨by dsimp only;omega,hk2⟩ (by dsimp only;omega)
            ⟨rfl,by decide,rfl,⟨⟨rfl,rfl⟩,⟨rfl,rfl⟩,⟨rfl,rfl⟩,⟨rfl,rfl⟩,⟨rfl,rfl⟩,⟨rfl,rfl⟩,⟨rfl,rfl⟩,⟨rfl,rfl⟩,trivial⟩,⟨z24 rfl rfl,z24 rfl rfl,z40 rfl (z6 fun _=>rfl),trivial⟩⟩
        · omega
      · repeat' (first|((fail_if_success apply z146 14);(fail_if_success apply z112 14);apply AWP.go ok;rfl;conv=>whnf)|(apply And.intro;(first|omega|(unfold inI;omega));conv=>whnf)|(with_reducible apply z11;omega;intro _;conv=>whnf)|(apply z7<;>intro _<;>conv=>whnf))
        · omega
        · rw [z107 _ _ _ (by omega),List.nil_append] at hk2
          exact z78 (j+1,ps) [0,1,2] ⟨by dsimp only;omega,hk2⟩ (by dsimp only;omega)
            ⟨rfl,by decide,rfl,⟨⟨rfl,rfl⟩,⟨rfl,rfl⟩,⟨rfl,rfl⟩,⟨rfl,rfl⟩,⟨rfl,rfl⟩,⟨rfl,rfl⟩,⟨rfl,rfl⟩,trivial⟩,⟨z24 rfl rfl,z24 rfl rfl,z40 rfl (z6 fun _=>rfl),trivial⟩⟩
    · rw [z107 _ _ _ (by omega),List.nil_append] at hj2
      exact z78 (i+1,ps) [0,1,2] ⟨by dsimp only;omega,hj2⟩ (by dsimp only;omega)
        ⟨rfl,by decide,rfl,⟨⟨rfl,rfl⟩,⟨rfl,rfl⟩,⟨rfl,rfl⟩,⟨rfl,rfl⟩,⟨rfl,rfl⟩,⟨rfl,rfl⟩,trivial⟩,⟨z24 rfl rfl,z24 rfl rfl,z40 rfl (z6 fun _=>rfl),trivial⟩⟩
  · rw [z107 _ _ _ (by simp;omega),List.append_nil] at hi2
    subst hi2
    exact z470 rfl (z6 fun _=>rfl) rfl rfl
theorem keepRows {f:FuncId} {args:List AC} {n:Nat} {l:List (List Int)} (h:CallsA Tryz.prog f args [] (.sref 0 0 n) [.cells 1 (l.map ownRow)]) (hl:l.length=n):CallsA Tryz.prog f args [] (lst 1 encL l) []:=by
  refine h.lend [] [0] rfl rfl rfl ?_ z4
  rw [z292 (w:=1) (es:=l.map ownRow) rfl rfl rfl (by rw [List.length_map];exact hl),z150,← hl];rfl
theorem z264 (g:Graph) (hg:GB g) (ls:List Int) (hls:ls.length=g.st.length) (hlr:∀ x∈ls,0≤x∧x≤7) (a:Aut) (ha:AutP a):CallsA Tryz.prog 82 [.agg g.cs,ints ls,.agg a.cs] [] (lst 1 encL (z26 g ls a)) [] :=
  keepRows (z608 g hg ls hls hlr a ha) (z83 _ _)
end Go.Proofs.YtknlmbniicacmaaGreat

