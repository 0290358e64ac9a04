/- A part of the proofs over this program: T53, T54, T101, T102, T103, T55, T56, T57, T58, T59. -/
import Derived.Test.YtjhgpfaodkchjaaGreatG0
import Derived.Test.YtjhgpfaodkchjaaGreatG1
import Derived.Test.YtjhgpfaodkchjaaGreatG2
import Derived.Test.YtjhgpfaodkchjaaGreatG3
import Derived.Test.YtjhgpfaodkchjaaGreatP0
import Derived.Test.YtjhgpfaodkchjaaGreatP1
import Derived.Test.YtjhgpfaodkchjaaGreatP2
import Derived.Test.YtjhgpfaodkchjaaGreatP3
import Derived.Test.YtjhgpfaodkchjaaGreatP4
import Derived.Test.YtjhgpfaodkchjaaGreatP5
set_option linter.all false
namespace Go.Proofs.YtjhgpfaodkchjaaGreat
open Go.Gl
attribute [local irreducible] z19 AWP z25 z31 z28
theorem z444 {d : Int} (l : List Tree) (hl : l.length ≤ maxLen) (p : Tree → Int → Bool) (nx : Tree → Int → Int) (okS : Int → Prop) (hok : ∀ x s, okS s → p x s = false → okS (nx x s)) (f : FuncId) (s : Int) (h0 : okS s)
    (hf:∀ x∈l,∀ s,okS s→CallsA Tryz.prog f [z30 Tree.cs' x,.pt [.int d],.ptr 1 none 0] [.cells 1 [[.int s]],.cells 1 [[.ptr 0 none 0]]] (.bool (p x s)) [.cells 1 [[.int (nx x s)]],.cells 1 [[.ptr 0 none 0]]]) :
    CallsA Tryz.prog 296 [lst 3 Tree.cs' l,.fn (.func f) [] [.pt [.int d],.ptr 1 none 0]] [.cells 1 [[.int s]],.cells 1 [[.ptr 0 none 0]]] (.int (idxS p nx l s 0).1) [.cells 1 [[.int (idxS p nx l s 0).2]],.cells 1 [[.ptr 0 none 0]]]:=by
  unfold maxLen at hl
  refine z9 z17 Tryz.func296 rfl rfl 19 Tryz.ntmps296 (by simp) ?_
  repeat' (((apply y4 ok;rfl))<;>conv=>whnf)
  refine z80 (fun x:Nat×Int=>([(0,lst 3 Tree.cs' l),(1,.fn (.func f) [] [.pt [.int d],.ptr 1 none 0]),(7,.int l.length),(8,.int x.1)],[.cells 1 [[.int x.2]],.cells 1 [[.ptr 0 none 0]]])) (fun x=>x.1≤l.length∧okS x.2∧idxS p nx l s 0=idxS p nx (l.drop x.1) x.2 x.1) (fun x=>l.length - x.1) (0,s) ⟨by omega,h0,rfl⟩
    ⟨[0,1],rfl,by decide,rfl,⟨⟨rfl,rfl⟩,⟨rfl,rfl⟩,⟨rfl,rfl⟩,⟨rfl,rfl⟩,trivial⟩,⟨z15 rfl rfl,z15 rfl rfl,trivial⟩⟩ ?_
  rintro ⟨k,t⟩ ⟨hk1,hk2,hk3⟩
  dsimp only at hk1 hk2 hk3
  repeat' ((first|(apply y4 ok;rfl)|(apply y45;first|omega|(unfold inI;omega))|(((with_reducible apply z10;omega));intro _)|((first|apply z5|apply z74)<;>intro _)|(apply z34 [0,1] [] (hf l[k] (y46 _) t hk2);rfl;rfl;rfl))<;>conv=>whnf)
  · rename_i h hkl h1
    rw [y82 hkl,idxS,if_pos h1] at hk3
    rw [hk3]
    exact z56 [0,1] (by decide) rfl rfl rfl ⟨z15 rfl rfl,z15 rfl rfl,trivial⟩
  · rename_i h hkl h1
    rw [y82 hkl,idxS,if_neg (by rw [h1];simp)] at hk3
    exact z68 (k+1,nx l[k] t) [0,1] ⟨by dsimp only;omega,hok _ _ hk2 h1,hk3⟩ (by dsimp only;omega) ⟨rfl,by decide,rfl,⟨⟨rfl,rfl⟩,⟨rfl,rfl⟩,⟨rfl,rfl⟩,⟨rfl,rfl⟩,trivial⟩,⟨z15 rfl rfl,z15 rfl rfl,trivial⟩⟩
  · rw [y86 (by omega),idxS] at hk3
    rw [hk3]
    exact z56 [0,1] (by decide) rfl rfl rfl ⟨z15 rfl rfl,z15 rfl rfl,trivial⟩
theorem z767 {d : Int} (l : List Tree) (hl : l.length ≤ maxLen) (p : Tree → Int → Bool) (nx : Tree → Int → Int) (okS : Int → Prop) (hok : ∀ x s, okS s → p x s = false → okS (nx x s)) (f : FuncId) (s : Int) (h0 : okS s)
    (hf:∀ x∈l,∀ s,okS s→CallsA Tryz.prog f [z30 Tree.cs' x,.pt [.int d],.ptr 1 none 0] [.cells 1 [[.int s]],.cells 1 [[.ptr 0 none 0]]] (.bool (p x s)) [.cells 1 [[.int (nx x s)]],.cells 1 [[.ptr 0 none 0]]]) :
    CallsA Tryz.prog 262 [lst 3 Tree.cs' l,.fn (.func f) [] [.pt [.int d],.ptr 1 none 0]] [.cells 1 [[.int s]],.cells 1 [[.ptr 0 none 0]]] (.bool (decide (0≤(idxS p nx l s 0).1))) [.cells 1 [[.int (idxS p nx l s 0).2]],.cells 1 [[.ptr 0 none 0]]]:=by
  refine z9 z17 Tryz.func262 rfl rfl 9 Tryz.ntmps262 (by simp) ?_
  repeat' ((first|(apply y4 ok;rfl)|(apply z34 [0,1] [] (z444 (d:=d) l hl p nx okS hok f s h0 hf);rfl;rfl;rfl))<;>conv=>whnf)
  exact z56 [0,1] (by decide) rfl rfl rfl ⟨z15 rfl rfl,z15 rfl rfl,trivial⟩
theorem z867 (k:Int):CallsA Tryz.prog 261 [.int k] [] (.int (if k=1∨k=2 then 0 else if k=4∨k=5∨k=7∨k=10 then 2 else 1)) []:=by
 refine z9 z17 Tryz.func261 rfl rfl 12 Tryz.ntmps261 (by simp) ?_
 repeat' ((first|(apply y4 ok;rfl)|((apply z5)<;>intro _))<;>conv=>whnf)
 all_goals (refine z39 rfl rfl ?_;first|(rw [if_pos (by omega)];rfl)|(rw [if_neg (by omega),if_pos (by omega)];rfl)|(rw [if_neg (by omega),if_neg (by omega)];rfl))
theorem walkB_ok (t:Tree):t.mx→∀ d n:Int,0≤d→d≤100→0≤n→n≤12→CallsA Tryz.prog 204 [z30 Tree.cs' t,.int d,.ptr 0 none 0] [.cells 1 [[.int n]]] (.bool (t.walkB d n).2) [.cells 1 [[.int (t.walkB d n).1]]]:=by
  induction t using y26 with|h t ih=>?_
  intro hm d n hd0 hd1 h0 h1
  rw [y27] at hm
  have hs:=Tree.walkB_spec.1
  have hk:d≤6→n+1≤12→CallsA Tryz.prog 262 [lst 3 Tree.cs' t.kids,.fn (.func 263) [] [.pt [.int d],.ptr 1 none 0]] [.cells 1 [[.int (n+1)]],.cells 1 [[.ptr 0 none 0]]] (.bool (!(Tree.walkBs t.kids (d+1) (n+1)).2)) [.cells 1 [[.int (Tree.walkBs t.kids (d+1) (n+1)).1]],.cells 1 [[.ptr 0 none 0]]]:=by
    intro hd hn
    have h:=z767 (d:=d) t.kids hm.1 (fun x s=>!(x.walkB (d+1) s).2) (fun x s=>(x.walkB (d+1) s).1) (fun s=>0≤s∧s≤12) (fun x s h1 h2=>by
      obtain ⟨a1,a2,a3,a4⟩:=hs x (d+1) s h1.1 h1.2
      have h3:(x.walkB (d+1) s).2=true:=by simpa using h2
      have:=(a1.1 h3).2
      rw [← a2 h3] at this
      exact ⟨by omega,this⟩) 263 (n+1) ⟨by omega,by omega⟩ (fun x hx s h=>by
        have hc:=ih x hx (hm.2 x hx) (d+1) s (by omega) (by omega) h.1 h.2
        refine z9 z17 Tryz.func263 rfl rfl 11 Tryz.ntmps263 (by simp) ?_
        repeat' ((first|(apply y4 ok;rfl)|(apply y45;(unfold inI;omega))|(apply z34 [0] [] hc;rfl;rfl;rfl))<;>conv=>whnf)
        exact z56 [0,1] (by decide) rfl rfl rfl ⟨z15 rfl rfl,z15 rfl rfl,trivial⟩)
    rw [y40 (d+1) t.kids (n+1) 0,Bool.not_not]
    exact h
  have hk2:=fun h1 h2=>by
    have:=hk h1 h2
    unfold lst at this
    rw [← y17] at this
    exact this
  refine z9 z17 Tryz.func204 rfl rfl 51 Tryz.ntmps204 (by simp) ?_
  repeat' ((first|(apply y4 ok;rfl)|(apply z32;kernel_rfl)|(apply y45;(unfold inI;omega))|((first|apply z5|apply z45|apply z81)<;>intro _)|(apply z6 (z285 _ 1 11);rfl;rfl)|(apply z6 (z285 _ 0 2);rfl;rfl)|(apply z6 (z285 _ 0 0);rfl;rfl)|(apply z6 (z867 t.kind);rfl;rfl)|(apply z95 [0,3] [2] [] (hk2 (by omega) (by omega));rfl;rfl;rfl;(focus ((repeat' first|exact z13|apply z11)<;>exact z44 rfl rfl));((refine .inr ⟨rfl,?_⟩;repeat' first|exact True.intro|apply y45|exact rfl))))<;>conv=>whnf)
  all_goals first
    | (have e : t.walkB d n = (n + 1, false) := by
        rw [y39,if_neg]
        clear hk hk2 hs ih
        rintro ⟨c1,c2,c3,c4,c5⟩
        try simp only [z264,z110] at *
        unfold z441 at c4
        unfold z174 at c5
        grind
       rw [e]
       exact z56 [0] (by decide) rfl rfl rfl ⟨z15 rfl rfl,trivial⟩)
    | (have e : t.walkB d n = Tree.walkBs t.kids (d + 1) (n + 1) := by
        rw [y39,if_pos]
        clear hk hk2 hs ih
        try simp only [z264,z110] at *
        unfold z441 z174
        grind
       rw [e]
       refine z56 [0] (by decide) rfl rfl ?_ ⟨z15 rfl rfl,trivial⟩
       show AC.raw (.bool (!!_))=_
       rw [Bool.not_not];rfl)
theorem z559 (t:Tree) (hm:t.mx):CallsA Tryz.prog 140 [z30 Tree.cs' t] [] (.bool t.brB) []:=by
 have hk:=walkB_ok t hm 1 0 (by omega) (by omega) (by omega) (by omega)
 refine z9 z17 Tryz.func140 rfl rfl 6 Tryz.ntmps140 (by simp) ?_
 repeat' ((first|(apply y4 ok;rfl)|(apply z34 [1] [] hk;rfl;rfl;rfl))<;>conv=>whnf)
 exact z23 rfl rfl
theorem z519 (k:Int):CallsA Tryz.prog 260 [.int k] [] (.int (z174 k)) []:=by
 refine z9 z17 Tryz.func260 rfl rfl 18 Tryz.ntmps260 (by simp) ?_
 repeat' ((first|(apply y4 ok;rfl)|((apply z5)<;>intro _))<;>conv=>whnf)
 all_goals (refine z39 rfl rfl ?_;unfold z174;first|(rw [if_pos (by omega)];rfl)|(rw [if_neg (by omega),if_pos (by omega)];rfl)|(rw [if_neg (by omega),if_neg (by omega),if_pos (by omega)];rfl)|(rw [if_neg (by omega),if_neg (by omega),if_neg (by omega)];rfl))
theorem z816 (l:List Tree) (d:Int):Tree.shapeBBs l d=l.all (fun t=>t.shapeB d):=by
 induction l with
 |nil=>rfl
 |cons t l ih=>simp [Tree.shapeBBs,ih]
theorem z223 (t:Tree) (d:Int):t.shapeB d=(decide (1≤d∧(t.kids.length:Int)=z174 t.kind∧0≤t.val∧t.val≤z441 t.kind) && t.kids.all fun t=>t.shapeB (d - 1)):=by
 cases t;simp only [Tree.shapeB,Tree.kids,Tree.kind,Tree.val,z816];rfl
theorem z844 (t:Tree):t.mx→∀ d:Int,-100≤d→d≤100→CallsA Tryz.prog 219 [z30 Tree.cs' t,.int d] [] (.bool (t.shapeB d)) []:=by
  induction t using y26 with|h t ih=>?_
  intro hm d h0 h1
  rw [y27] at hm
  have hl:=hm.1
  unfold maxLen at hl
  rw [y15,z223]
  refine z9 z17 Tryz.func219 rfl rfl 51 Tryz.ntmps219 (by simp) ?_
  repeat' ((first|(apply y4 ok;rfl)|(apply z32;kernel_rfl)|((first|apply z5|apply z45)<;>intro _)|(apply z6 (z519 _);rfl;rfl))<;>conv=>whnf)
  all_goals first
    | (refine z23 rfl ?_
       rw [y85]
       · rfl
       · clear ih
         rintro ⟨c1,c2,c3,c4⟩
         unfold z441 at c4
         grind)
    | (have hg : decide (1 ≤ d ∧ (t.kids.length : Int) = z174 t.kind ∧ 0 ≤ t.val ∧ t.val ≤ z441 t.kind) = true := by
         clear ih
         refine y84 ?_
         unfold z441
         grind
       rw [hg,Bool.true_and]
       refine z80 (fun k:Nat=>([(1,.int d),(2,.ptr 0 none 0),(5,.int k)],[.cells 3 [[.int t.kind,.int t.val,lst 3 Tree.cs' t.kids]]])) (fun k=>k≤t.kids.length∧(t.kids.all fun t=>t.shapeB (d - 1))=(t.kids.drop k).all fun t=>t.shapeB (d - 1)) (fun k=>t.kids.length - k) 0 ⟨by omega,rfl⟩ ⟨[0],rfl,by decide,rfl,by repeat' (first|exact True.intro|exact ⟨rfl,rfl⟩|apply y45),by repeat' (first|exact True.intro|exact z15 rfl rfl|apply y45)⟩ ?_
       intro k hk
       repeat' ((first|(apply y4 ok;rfl)|(apply y45;first|omega|(unfold inI;omega))|(((with_reducible apply z10;omega));intro _)|((first|apply z5|apply z81)<;>intro _)|(apply z6 (ih t.kids[k] (y46 _) (hm.2 _ (y46 _)) (d - 1) (by omega) (by omega));rfl;rfl))<;>conv=>whnf)
       · rename_i h1
         exact z23 rfl (by rw [hk.2,z149 _ _ _ (by assumption)];simp [h1])
       · rename_i h1
         exact z68 (k+1) [0] ⟨by omega,by rw [hk.2,z149 _ _ _ (by assumption)];simp [h1]⟩ (by omega) ⟨rfl,by decide,rfl,by repeat' (first|exact True.intro|exact ⟨rfl,rfl⟩|apply y45),by repeat' (first|exact True.intro|exact z15 rfl rfl|apply y45)⟩
       · exact z23 rfl (by rw [hk.2,z140 _ _ _ (by omega)]))
theorem z1141 (t:Tree):∀ d n:Nat,t.shapeB d=true→t.count n≤2 ^ d - 1:=by
 induction t using y26 with|h t ih=>?_
 intro d n h
 rw [z223,y73,decide_eq_true_eq] at h
 obtain ⟨⟨h1,h2,_,_⟩,h3⟩:=h
 rw [y81] at h3
 obtain ⟨d,rfl⟩:∃ e,d=e+1:=⟨d - 1,by omega⟩
 have e:((d+1:Nat):Int) - 1=(d:Nat):=by omega
 rw [e] at h3
 rw [z468]
 have hp:(1:Int)≤2 ^ d:=by exact_mod_cast Nat.one_le_two_pow
 have hq:((2:Int) ^ (d+1))=2 * 2 ^ d:=by rw [Int.pow_succ];omega
 split
 ·rename_i hn
  obtain ⟨n,rfl⟩:∃ e,n=e+1:=⟨n - 1,by omega⟩
  have e:((n+1:Nat):Int) - 1=(n:Nat):=by omega
  rw [e]
  have hl:(t.kids.length:Int)≤2:=by rw [h2];unfold z174;grind
  have hk:∀ u∈t.kids,u.count n≤2 ^ d - 1:=fun u hu=>ih u hu d n (h3 u hu)
  match hkk:t.kids with
  |[]=>simp only [List.map_nil,List.sum_nil];omega
  |[a] =>
   have:=hk a (by simp [hkk])
   simp only [List.map_cons,List.map_nil,List.sum_cons,List.sum_nil];omega
  |[a,b] =>
   have:=hk a (by simp [hkk])
   have:=hk b (by simp [hkk])
   simp only [List.map_cons,List.map_nil,List.sum_cons,List.sum_nil];omega
  |a::b::c::r=>rw [hkk] at hl;simp only [y60] at hl;omega
 ·omega
theorem z765 (t:Tree) (e d:Int) (he:e≤50) (hd:0≤d) (h:t.shapeB e=true):t.count d≤2 ^ 50:=by
 have h1:1≤e:=by
  rw [z223,y73,decide_eq_true_eq] at h;exact h.1.1
 obtain ⟨n,rfl⟩:=Int.eq_ofNat_of_zero_le (show 0≤e by omega)
 obtain ⟨m,rfl⟩:=Int.eq_ofNat_of_zero_le hd
 have h2:=z1141 t n m h
 have h4:(2:Int) ^ n≤2 ^ 50:=by exact_mod_cast Nat.pow_le_pow_right (by omega) (by omega)
 omega
theorem z845 (t:Tree):t.mx→∀ e d:Int,e≤50→0≤d→d≤50→t.shapeB e=true→CallsA Tryz.prog 220 [z30 Tree.cs' t,.int d] [] (.int (t.count d)) []:=by
 induction t using y26 with|h t ih=>?_
 intro hm e d h0 h1 h2 hs
 rw [y27] at hm
 rw [z223,y73,decide_eq_true_eq,y81] at hs
 obtain ⟨⟨hs1,hs2,_,_⟩,hs3⟩:=hs
 have hl:(t.kids.length:Int)≤2:=by rw [hs2];unfold z174;grind
 rw [y15,z468]
 have hb:0 < d→∀ k,k≤t.kids.length→0≤((t.kids.take k).map fun t=>t.count (d - 1)).sum∧((t.kids.take k).map fun t=>t.count (d - 1)).sum≤k * 2 ^ 50:=by
  intro hd k
  induction k with
  |zero=>intro _;simp
  |succ k ihk =>
   intro hk
   have h1:=ihk (by omega)
   rw [z450 _ _ _ (by omega)]
   have h2:=z765 t.kids[k] (e - 1) (d - 1) (by omega) (by omega) (hs3 _ (y46 _))
   have h3:=Tree.count_pos.1 t.kids[k] (d - 1)
   omega
 refine z9 z17 Tryz.func220 rfl rfl 29 Tryz.ntmps220 (by simp) ?_
 repeat' (((apply y4 ok;rfl))<;>conv=>whnf)
 by_cases hd:0 < d
 ·rw [if_pos hd]
  refine z80 (fun k:Nat=>([(1,.int d),(2,.ptr 0 none 0),(5,.int (1+((t.kids.take k).map fun t=>t.count (d - 1)).sum)),(6,.int k)],[.cells 3 [[.int t.kind,.int t.val,lst 3 Tree.cs' t.kids]]])) (fun k=>k≤t.kids.length) (fun k=>t.kids.length - k) 0 (by omega) ⟨[0],rfl,by decide,rfl,by repeat' (first|exact True.intro|exact ⟨rfl,rfl⟩|apply y45),by repeat' (first|exact True.intro|exact z15 rfl rfl|apply y45)⟩ ?_
  intro k hk
  have hbk:=hb hd k hk
  have hbk1:=fun h=>hb hd (k+1) h
  have hss:=fun h=>z450 (fun t=>t.count (d - 1)) t.kids k h
  repeat' ((first|(apply y4 ok;rfl)|(apply y45;first|omega|(unfold inI;omega))|(((with_reducible apply z10;omega));intro _)|((apply z5)<;>intro _)|(apply z6 (ih t.kids[k] (y46 _) (hm.2 _ (y46 _)) (e - 1) (d - 1) (by omega) (by omega) (by omega) (hs3 _ (y46 _)));rfl;rfl))<;>conv=>whnf)
  ·have e1:=hss ‹_›
   have e2:=hbk1 (by omega)
   refine y45 (by unfold inI;omega) ?_
   conv=>whnf
   repeat' ((first|(apply y4 ok;rfl)|(apply y45;(unfold inI;omega)))<;>conv=>whnf)
   exact z68 (k+1) [0] (by omega) (by omega) ⟨rfl,by decide,rfl,⟨⟨rfl,rfl⟩,⟨rfl,rfl⟩,⟨rfl,by rw [e1,← Int.add_assoc];rfl⟩,⟨rfl,rfl⟩,trivial⟩,⟨z15 rfl rfl,trivial⟩⟩
  ·omega
  ·obtain rfl:k=t.kids.length:=by omega
   exact z39 rfl rfl (by rw [y58];rfl)
 ·rw [if_neg hd]
  refine z80 (fun k:Nat=>([(1,.int d),(2,.ptr 0 none 0),(5,.int 1),(6,.int k)],[.cells 3 [[.int t.kind,.int t.val,lst 3 Tree.cs' t.kids]]])) (fun k=>k≤t.kids.length) (fun k=>t.kids.length - k) 0 (by omega) ⟨[0],rfl,by decide,rfl,by repeat' (first|exact True.intro|exact ⟨rfl,rfl⟩|apply y45),by repeat' (first|exact True.intro|exact z15 rfl rfl|apply y45)⟩ ?_
  intro k hk
  repeat' ((first|(apply y4 ok;rfl)|(apply y45;omega)|(((with_reducible apply z10;omega));intro _)|((apply z5)<;>intro _))<;>conv=>whnf)
  ·omega
  ·exact z39 rfl rfl rfl
  ·exact z39 rfl rfl rfl
theorem z322 (t:Tree) (hm:t.mx):CallsA Tryz.prog 142 [z30 Tree.cs' t] [] (.bool t.brB) []:=by
 rw [y16]
 refine z9 z17 Tryz.func142 rfl rfl 10 Tryz.ntmps142 (by simp) ?_
 repeat' ((first|(apply y4 ok;rfl)|((apply z74)<;>intro _)|(apply z6 (z844 t hm 6 (by omega) (by omega));rfl;rfl)|(apply z6 (z845 t hm 6 6 (by omega) (by omega) (by omega) (by assumption));rfl;rfl))<;>conv=>whnf)
 all_goals (refine z23 rfl ?_;(simp [*];done))
end Go.Proofs.YtjhgpfaodkchjaaGreat
namespace Go.Proofs.YtjhgpfaodkchjaaGreat
open Go.Gl
attribute [local irreducible] z19 AWP z25 z31 z28 RetS z38
set_option maxHeartbeats 1600000 in
theorem z740 (bs:List Int) (hb:BytesOk bs):∀ (n:Nat) (d p:Int),d≤n+1→n≤100→0≤d→0≤p→p+drK n≤1000000000→∃ (t:Tree) (p' : Int),(t.sz≤drS n∧p≤p'∧p'≤p+drK n)∧CallsA Tryz.prog 203 [.ptr 0 none 0,.int d] [rdO bs p] (z30 Tree.cs' t) [rdO bs p']:=by
 intro n
 induction n with
 |zero =>
  intro d p hd hd1 hd0 hp hq
  rw [drK] at hq ⊢
  obtain ⟨v0,⟨l0,u0⟩,c0⟩:=z70 bs hb p 8 (by omega) (by omega) (by omega)
  by_cases h0:v0=0
  ·subst h0
   refine ⟨leaf 1 0,p+1,⟨by rw [z87];omega,by omega,by omega⟩,?_⟩
   refine z7 z17 Tryz.func203 rfl rfl 43 Tryz.ntmps203 (by simp) ?_
   repeat' ((first|(apply y4 ok;rfl)|((apply z5)<;>intro _)|(apply z34 [0] [] c0;rfl;rfl;rfl))<;>conv=>whnf)
   all_goals try (exfalso;omega)
   all_goals (refine rsD [0] [] rfl ?_;(repeat' first|exact y88 _|exact z43|apply y89|apply z52|constructor))
  ·obtain ⟨v1,m1,c1⟩:=z102 bs hb (p+1) (by omega) (by omega) [0,1,0,2] (by decide) (by decide)
   refine ⟨leaf 2 v1,p+1+1,⟨by rw [z87];omega,by omega,by omega⟩,?_⟩
   refine z7 z17 Tryz.func203 rfl rfl 43 Tryz.ntmps203 (by simp) ?_
   repeat' ((first|(apply y4 ok;rfl)|((apply z5)<;>intro _)|((first|(apply z8 [0] [] c0;rfl;rfl)|(apply z8 [0,2] [] c1;rfl;rfl));rfl;(focus ((repeat' first|exact z13|apply z11)<;>first|exact z44 rfl rfl|(refine z21 ?_;((exact z4 fun _=>rfl)))))))<;>conv=>whnf)
   all_goals try (exfalso;omega)
   all_goals (refine rsD [0] [] rfl ?_;(repeat' first|exact y88 _|exact z43|apply y89|apply z52|constructor))
 |succ n ih =>
  intro d p hd hd1 hd0 hp hq
  have hK:=z1137 n
  by_cases hlt:d < 2
  ·obtain ⟨t,p',h1,h2⟩:=ih d p (by omega) (by omega) hd0 hp (by rw [drK] at hq;omega)
   exact ⟨t,p',⟨by rw [drS];omega,h1.2.1,by rw [drK];omega⟩,h2⟩
  rw [drK] at hq
  rw [drK,drS]
  obtain ⟨w,⟨lw,uw⟩,cw⟩:=z70 bs hb p 5 (by omega) (by omega) (by omega)
  by_cases hw:w=0
  ·subst hw
   obtain ⟨v0,⟨l0,u0⟩,c0⟩:=z70 bs hb (p+1) 8 (by omega) (by omega) (by omega)
   by_cases h0:v0=0
   ·subst h0
    refine ⟨leaf 1 0,p+1+1,⟨by rw [z87];omega,by omega,by omega⟩,?_⟩
    refine z7 z17 Tryz.func203 rfl rfl 43 Tryz.ntmps203 (by simp) ?_
    repeat' ((first|(apply y4 ok;rfl)|((apply z5)<;>intro _)|((first|(apply z34 [0] [] cw;rfl;rfl)|(apply z34 [0] [] c0;rfl;rfl));rfl))<;>conv=>whnf)
    all_goals try (exfalso;omega)
    all_goals (refine rsD [0] [] rfl ?_;(repeat' first|exact y88 _|exact z43|apply y89|apply z52|constructor))
   ·obtain ⟨v1,m1,c1⟩:=z102 bs hb (p+1+1) (by omega) (by omega) [0,1,0,2] (by decide) (by decide)
    refine ⟨leaf 2 v1,p+1+1+1,⟨by rw [z87];omega,by omega,by omega⟩,?_⟩
    refine z7 z17 Tryz.func203 rfl rfl 43 Tryz.ntmps203 (by simp) ?_
    repeat' ((first|(apply y4 ok;rfl)|((apply z5)<;>intro _)|((first|(apply z8 [0] [] cw;rfl;rfl)|(apply z8 [0] [] c0;rfl;rfl)|(apply z8 [0,2] [] c1;rfl;rfl));rfl;(focus ((repeat' first|exact z13|apply z11)<;>first|exact z44 rfl rfl|(refine z21 ?_;((exact z4 fun _=>rfl)))))))<;>conv=>whnf)
    all_goals try (exfalso;omega)
    all_goals (refine rsD [0] [] rfl ?_;(repeat' first|exact y88 _|exact z43|apply y89|apply z52|constructor))
  ·obtain ⟨kd,mk,ck⟩:=z102 bs hb (p+1) (by omega) (by omega) [7,10,8,11,6,9,3,4,5] (by decide) (by decide)
   have ca:=z519 kd
   have ham:∃ m:Nat,z174 kd=m∧m≤2:=by
    simp only [List.mem_cons,List.not_mem_nil,or_false] at mk
    unfold z174
    rcases mk with rfl|rfl|rfl|rfl|rfl|rfl|rfl|rfl|rfl
    all_goals first|exact ⟨2,rfl,by omega⟩|exact ⟨1,rfl,by omega⟩
   obtain ⟨m,em,hm⟩:=ham
   rw [em] at ca
   obtain ⟨ks,pf,hks,hp0,hst,hpf⟩:=z493 (fun k q (t:Tree) q'=>t.sz≤drS n∧CallsA Tryz.prog 203 [.ptr 0 none 0,.int (d - 1)] [rdO bs q] (z30 Tree.cs' t) [rdO bs q']) (p+1+1) (drK n) m (fun k q hk h1 h2=>by
    have:drK n * k≤drK n:=by
     have:k=0∨k=1:=by omega
     rcases this with rfl|rfl<;>simp<;>omega
    obtain ⟨t,q',⟨a1,a2,a3⟩,a4⟩:=ih (d - 1) q (by omega) (by omega) (by omega) (by omega) (by omega)
    exact ⟨t,q',⟨a1,a4⟩,a2,a3⟩)
   have hpm:=hpf m (y54 _)
   have hKm:drK n * m≤2 * drK n:=by
    have:m=0∨m=1∨m=2:=by omega
    rcases this with rfl|rfl|rfl<;>simp<;>omega
   have hsum:(ks.map Tree.sz).sum≤2 * drS n:=by
    have:∀ (l:List Tree),(∀ t∈l,t.sz≤drS n)→(l.map Tree.sz).sum≤l.length * drS n:=by
     intro l
     induction l with
     |nil=>intro _;simp
     |cons t l ih =>
      intro h
      have h1:=h t (by simp)
      have h2:=ih fun u hu=>h u (by simp [hu])
      simp only [List.map_cons,List.sum_cons,y60,Nat.add_mul]
      omega
    have h1:=this ks fun t ht=>by
     obtain ⟨i,hi,rfl⟩:=List.mem_iff_getElem.1 ht
     exact (hst i hi).1
    have h2:ks.length * drS n≤2 * drS n:=Nat.mul_le_mul_right _ (by omega)
    omega
   refine ⟨.mk kd 0 ks,pf m,⟨by rw [z231];omega,by omega,by omega⟩,?_⟩
   refine z7 z17 Tryz.func203 rfl rfl 43 Tryz.ntmps203 (by simp) ?_
   rw [← hp0] at ck
   repeat' ((first|(apply y4 ok;rfl)|((apply z5)<;>intro _)|(apply z6 (ca);rfl;rfl)|((first|(apply z8 [0] [] cw;rfl;rfl)|(apply z8 [0,2] [] ck;rfl;rfl));rfl;(focus ((repeat' first|exact z13|apply z11)<;>first|exact z44 rfl rfl|(refine z21 ?_;((exact z4 fun _=>rfl)))))))<;>conv=>whnf)
   all_goals try (exfalso;omega)
   refine y87 (y90 3 rfl) ?_
   refine z86 (fun k:Nat=>([(0,.ptr 0 none 0),(1,.int d),(4,.ptr 1 none 0),(5,.ptr 2 none 0),(6,.int (m - k))],[rdO bs (pf k),.cells 3 [[.int 0,.int 0,.nils]],.cells 3 [[.int kd,.int 0,.sref 3 0 k]],.cells 3 ((ks.take k).map Tree.cs')])) (fun k=>k≤m) (fun k=>m - k) 0 (by omega) (by refine swR [0,1,3,4] [] rfl rfl ?_;(repeat' first|exact y88 _|exact z46|apply y89|refine z14 rfl (z33) ?_|constructor)) ?_
   intro k hk
   by_cases hkm:k < m
   ·have hc:=(hst k (by omega)).2
    have hkl:k < ks.length:=by omega
    rw [y15] at hc
    repeat' ((first|(apply y4 ok;rfl)|(apply z32;kernel_rfl)|(apply y45;first|(unfold inI;omega)|((try dsimp only);simp only [y51,y50,y49,y48,y60,y61];omega)|exact ⟨rfl,z22 rfl z29⟩)|((apply z5)<;>intro _)|(apply z34 [0] [] hc;rfl;rfl;rfl))<;>conv=>whnf)
    all_goals try (exfalso;omega)
    refine z41 (k+1) (by omega) (by omega) (by refine swR [0,1,2,5] [] rfl rfl ?_;(repeat' first|exact y88 _|exact z289|(refine z168 ?_;omega)|apply y89|((refine z40 rfl ?_ ?_);(focus ((repeat' (first|exact z4 (fun _=>rfl)|apply z27));done)))|refine z117 (by omega) (by omega) ?_|(apply z79;rfl)|constructor))
   ·have:k=m:=by omega
    subst this
    repeat' ((first|(apply y4 ok;rfl)|(apply y45;omega)|((apply z5)<;>intro _))<;>conv=>whnf)
    all_goals try (exfalso;omega)
    all_goals (refine rsD [0] [3] rfl ?_;(repeat' first|exact y88 _|(refine z334 ?_;omega)|apply y89|((apply z54 rfl rfl rfl);(focus ((repeat ((exact z42 (fun _=>rfl) _)));done));(focus (((simp;omega));done)))|apply z52|constructor))
theorem z646 (bs:List Int) (hb:BytesOk bs) (p:Int) (hp:few p):∃ (t:Tree) (p' : Int),(t.sz≤20∧p≤p'∧p'≤p+100)∧CallsA Tryz.prog 139 [.ptr 0 none 0] [rdO bs p] (z30 Tree.cs' t) [rdO bs p']:=by
 obtain ⟨d,md,cd⟩:=z102 bs hb p (by omega) (by omega) [3,2,4,3] (by decide) (by decide)
 have hd:0≤d∧d≤4:=by simp at md;omega
 obtain ⟨t,q,⟨t1,t2,t3⟩,ct⟩:=z740 bs hb 3 d (p+1) (by omega) (by omega) (by omega) (by omega) (by simp only [drK];omega)
 simp only [drK] at t3
 simp only [drS] at t1
 have cv:=z322 t (z106 t (by unfold maxLen;omega))
 by_cases hv:t.brB=true
 ·refine ⟨t,q,⟨by omega,by omega,by omega⟩,?_⟩
  rw [hv] at cv
  rw [y15] at *
  refine z7 z17 Tryz.func139 rfl rfl 15 Tryz.ntmps139 (by simp) ?_
  repeat' ((first|(apply y4 ok;rfl)|(apply z6 (cv);rfl;rfl)|((first|(apply z8 [0,2] [] cd;rfl;rfl)|(apply z8 [0] [] ct;rfl;rfl));rfl;(focus ((repeat' first|exact z13|apply z11)<;>first|exact z44 rfl rfl|(refine z21 ?_;((exact z4 fun _=>rfl)))))))<;>conv=>whnf)
  all_goals (refine rsD [0] [] rfl ?_;(repeat' first|exact y88 _|apply y89|constructor))
 ·refine ⟨.mk 8 0 [leaf 2 0],q,⟨by rw [z231];simp [z87],by omega,by omega⟩,?_⟩
  rw [(y74 _).mp hv] at cv
  rw [y15] at cv ct
  refine z7 z17 Tryz.func139 rfl rfl 15 Tryz.ntmps139 (by simp) ?_
  repeat' ((first|(apply y4 ok;rfl)|(apply z6 (cv);rfl;rfl)|((first|(apply z8 [0,2] [] cd;rfl;rfl)|(apply z8 [0] [] ct;rfl;rfl));rfl;(focus ((repeat' first|exact z13|apply z11)<;>first|exact z44 rfl rfl|(refine z21 ?_;((exact z4 fun _=>rfl)))))))<;>conv=>whnf)
  all_goals (refine rsD [0] [4] rfl ?_;(repeat' first|exact y88 _|exact z43|apply y89|refine z54 rfl rfl rfl rfl rfl ?_|apply z52|(apply z79;rfl)|constructor))
theorem z846 (t:Tree) (h:t.sz≤1000000):CallsA Tryz.prog 202 [z30 Tree.cs' t] [] (ownT t) [.cells 3 (t.kids.map Tree.cs')]:=by
 induction t using y26 with|h t ih=>?_
 have hkl:t.kids.length≤1000000:=by rw [y38] at h;omega
 have hks:∀ u∈t.kids,u.sz≤1000000:=fun u hu=>by
  have:=z370 Tree.sz hu
  rw [y38] at h;omega
 rw [y15 t]
 obtain ⟨k,v,l⟩:=t
 simp only [Tree.kind,Tree.val,Tree.kids] at *
 have hcs:∀ (i:Nat) (hi:i < l.length),CallsA Tryz.prog 202 [z30 Tree.cs' l[i]] [] (z30 Tree.cs' l[i]) []:=fun i hi =>
  z454 (ih _ (y46 _) (hks _ (y46 _)))
 unfold ownT
 simp only [Tree.kind,Tree.val,Tree.kids] at *
 refine z7 z17 Tryz.func202 rfl rfl 29 Tryz.ntmps202 (by simp) ?_
 repeat' (((apply y4 ok;rfl))<;>conv=>whnf)
 refine y87 (y90 3 rfl) ?_
 refine z86 (fun i:Nat=>([(1,.ptr 0 none 0),(2,.ptr 1 none 0),(3,.ptr 2 none 0),(4,.int i)],[.cells 3 [[.int k,.int v,lst 3 Tree.cs' l]],.cells 3 [[.int 0,.int 0,.nils]],.cells 3 [[.int k,.int v,.sref 3 0 i]],.cells 3 ((l.take i).map Tree.cs')])) (fun i=>i≤l.length) (fun i=>l.length - i) 0 (by omega) (by refine swR [0,1,2,3] [] rfl rfl ?_;(repeat' first|exact y88 _|exact z46|apply y89|refine z14 rfl (z33) ?_|constructor)) ?_
 intro i hi
 by_cases hil:i < l.length
 ·have hc:=hcs i hil
  repeat' ((first|(apply y4 ok;rfl)|(apply z32;kernel_rfl)|(apply y45;first|omega|(unfold inI;omega)|((try dsimp only);simp only [y51,y50,y49,y48,y60,y61];omega)|exact ⟨rfl,z22 rfl z29⟩)|(((with_reducible apply z10;omega));intro _)|((apply z5)<;>intro _)|(apply z6 (hc);rfl;rfl))<;>conv=>whnf)
  all_goals try (exfalso;omega)
  refine z41 (i+1) (by omega) (by omega) (by refine swR [0,1,2,5] [] rfl rfl ?_;(repeat' first|exact y88 _|apply y89|((refine z40 rfl ?_ ?_);(focus ((repeat' (first|exact z4 (fun _=>rfl)|apply z27));done)))|refine z117 (by omega) (by omega) ?_|constructor))
 ·have e:i=l.length:=by omega
  subst e
  rw [y58]
  repeat' ((first|(apply y4 ok;rfl)|(apply y45;omega)|(((with_reducible apply z10;omega));intro _)|((apply z5)<;>intro _))<;>conv=>whnf)
  all_goals try (exfalso;omega)
  all_goals (refine rsD [3] [] rfl ?_;(repeat' first|exact y88 _|exact z16 _|refine z14 rfl (z4 (fun _=>rfl)) ?_|constructor))
set_option maxHeartbeats 1600000 in
theorem z741 (bs:List Int) (hb:BytesOk bs) (p:Int) (hp:few p) (t:Tree) (ht:t.sz≤1000):∃ (t' : Tree) (p' : Int),(t'.sz≤t.sz+1∧p≤p'∧p'≤p+2)∧CallsA Tryz.prog 138 [.ptr 0 none 0,z30 Tree.cs' t] [rdO bs p] (z30 Tree.cs' t') [rdO bs p']:=by
 have cs:=z846 t (by omega)
 obtain ⟨u,hu⟩:∃ u,u=t:=⟨t,rfl⟩
 have hsz:u.sz≤t.sz:=by rw [hu];exact y54 _
 have cs:CallsA Tryz.prog 202 [z30 Tree.cs' t] [] (ownT u) [.cells 3 (u.kids.map Tree.cs')]:=by rw [hu];exact cs
 clear hu
 have hul:u.kids.length≤1000:=by rw [y38] at hsz;omega
 obtain ⟨v,⟨lv,uv⟩,cv⟩:=z70 bs hb p 50 (by omega) (by omega) (by omega)
 rw [y15 t]
 rw [y15 t] at cs
 unfold ownT at cs
 by_cases h0:v=0
 ·subst h0
  obtain ⟨k,mk,ck⟩:=z102 bs hb (p+1) (by omega) (by omega) [0,12,-1,2,3,4] (by decide) (by decide)
  refine ⟨.mk k u.val u.kids,p+1+1,⟨by rw [z231];rw [y38] at hsz;omega,by omega,by omega⟩,?_⟩
  refine z7 z17 Tryz.func138 rfl rfl 34 Tryz.ntmps138 (by simp) ?_
  repeat' ((first|(apply y4 ok;rfl)|((first|(apply z8 [] [3] cs;rfl;rfl)|(apply z8 [0] [] cv;rfl;rfl)|(apply z8 [0,5] [] ck;rfl;rfl));rfl;(focus ((repeat' first|exact z13|apply z11)<;>first|exact z44 rfl rfl|(refine z21 ?_;((exact z4 fun _=>rfl)))))))<;>conv=>whnf)
  all_goals (refine rsD [0] [3] rfl ?_;(repeat' first|exact y88 _|exact z289|apply y89|((apply z54 rfl rfl rfl);(focus ((repeat ((exact z42 (fun _=>rfl) _)));done));(focus (((simp;done));done)))|apply z52|(apply z79;rfl)|constructor))
 by_cases h1:v=1
 ·subst h1
  obtain ⟨k,mk,ck⟩:=z102 bs hb (p+1) (by omega) (by omega) [-1,3,2,9223372036854775807] (by decide) (by decide)
  refine ⟨.mk u.kind k u.kids,p+1+1,⟨by rw [z231];rw [y38] at hsz;omega,by omega,by omega⟩,?_⟩
  refine z7 z17 Tryz.func138 rfl rfl 34 Tryz.ntmps138 (by simp) ?_
  repeat' ((first|(apply y4 ok;rfl)|((first|(apply z8 [] [3] cs;rfl;rfl)|(apply z8 [0] [] cv;rfl;rfl)|(apply z8 [0,5] [] ck;rfl;rfl));rfl;(focus ((repeat' first|exact z13|apply z11)<;>first|exact z44 rfl rfl|(refine z21 ?_;((exact z4 fun _=>rfl)))))))<;>conv=>whnf)
  all_goals (refine rsD [0] [3] rfl ?_;(repeat' first|exact y88 _|exact z289|apply y89|((apply z54 rfl rfl rfl);(focus ((repeat ((exact z42 (fun _=>rfl) _)));done));(focus (((simp;done));done)))|apply z52|(apply z79;rfl)|constructor))
 by_cases h2:v=2
 ·subst h2
  refine ⟨.mk u.kind u.val (u.kids++[leaf 1 0]),p+1,⟨by rw [z231];rw [y38] at hsz;simp [z87];omega,by omega,by omega⟩,?_⟩
  refine z7 z17 Tryz.func138 rfl rfl 34 Tryz.ntmps138 (by simp) ?_
  repeat' ((first|(apply y4 ok;rfl)|(apply y45;first|((try dsimp only);simp only [y51,y50,y49,y48,y60,y61];omega)|exact ⟨rfl,z22 rfl z29⟩)|((first|(apply z8 [] [3] cs;rfl;rfl)|(apply z8 [0] [] cv;rfl;rfl));rfl;(focus ((repeat' first|exact z13|apply z11)<;>first|exact z44 rfl rfl|(refine z21 ?_;((exact z4 fun _=>rfl)))))))<;>conv=>whnf)
  all_goals (refine rsD [0] [6] rfl ?_;(repeat' first|exact y88 _|apply y89|((apply z54 rfl rfl rfl);(focus ((repeat (first|exact z42 (fun _=>rfl) _|apply z141|apply z198|rfl));done));(focus (((simp;done));done)))|apply z52|constructor))
  all_goals exact z701 rfl rfl (node_le' z43)
 by_cases h3:v=3
 ·subst h3
  refine ⟨leaf 0 0,p+1,⟨by rw [z87];omega,by omega,by omega⟩,?_⟩
  refine z7 z17 Tryz.func138 rfl rfl 34 Tryz.ntmps138 (by simp) ?_
  repeat' ((first|(apply y4 ok;rfl)|((first|(apply z8 [] [3] cs;rfl;rfl)|(apply z8 [0] [] cv;rfl;rfl));rfl;(focus ((repeat' first|exact z13|apply z11)<;>first|exact z44 rfl rfl|(refine z21 ?_;((exact z4 fun _=>rfl)))))))<;>conv=>whnf)
  all_goals (refine rsD [0] [] rfl ?_;(repeat' first|exact y88 _|exact z43|apply y89|apply z52|constructor))
 ·refine ⟨.mk u.kind u.val u.kids,p+1,⟨by rw [z231];rw [y38] at hsz;omega,by omega,by omega⟩,?_⟩
  refine z7 z17 Tryz.func138 rfl rfl 34 Tryz.ntmps138 (by simp) ?_
  repeat' ((first|(apply y4 ok;rfl)|(apply y45;omega)|((apply z5)<;>intro _)|((first|(apply z8 [] [3] cs;rfl;rfl)|(apply z8 [0] [] cv;rfl;rfl));rfl;(focus ((repeat' first|exact z13|apply z11)<;>first|exact z44 rfl rfl|(refine z21 ?_;((exact z4 fun _=>rfl)))))))<;>conv=>whnf)
  all_goals try (exfalso;omega)
  all_goals (refine rsD [0] [3] rfl ?_;(repeat' first|exact y88 _|exact z289|apply y89|((apply z54 rfl rfl rfl);(focus ((repeat ((exact z42 (fun _=>rfl) _)));done));(focus (((simp;done));done)))|apply z52|(apply z79;rfl)|constructor))
theorem z1136 (bs:List Int) (hb:CodeOk bs):∃ (g:Graph) (l:List Tree) (f:Tree),(g.d∧Lab.d l∧f.sz≤21)∧CallsA Tryz.prog 69 [lst 1 enU bs] [] (.tup [.agg g.cs,lst 3 Tree.cs' l,z30 Tree.cs' f]) []:=by
 have co:=z978 bs hb.len
 obtain ⟨l,p1,⟨a1,a2,a3,a4⟩,c1⟩:=z839 (bs.take 2000) hb.take 0 ⟨by omega,by omega⟩
 obtain ⟨f0,p2,⟨b1,b2,b3⟩,c2⟩:=z646 (bs.take 2000) hb.take p1 ⟨by omega,by omega⟩
 obtain ⟨f,p3,⟨d1,d2,d3⟩,c3⟩:=z741 (bs.take 2000) hb.take p2 ⟨by omega,by omega⟩ f0 (by omega)
 obtain ⟨g0,g,p4,p5,c4,c5,hg,_,_⟩:=mutG_ok (bs.take 2000) hb.take p3 ⟨by omega,by omega⟩
 refine ⟨g,l,f,⟨hg,⟨a1,a2⟩,by omega⟩,?_⟩
 generalize bs.take 2000=b0 at *
 rw [y15] at c2 c3 c3 ⊢
 refine z7 z17 Tryz.func69 rfl rfl 22 Tryz.ntmps69 (by simp) ?_
 repeat' ((first|(apply y4 ok;rfl)|(apply z32;kernel_rfl)|((first|(apply z34 [] [2] co;rfl;rfl)|(apply z34 [2] [] c1;rfl;rfl)|(apply z34 [2] [] c2;rfl;rfl)|(apply z34 [2] [] c3;rfl;rfl)|(apply z34 [2] [] c4;rfl;rfl)|(apply z34 [2] [] c5;rfl;rfl));rfl))<;>conv=>whnf)
 all_goals (refine rsD [] [] rfl ?_;(repeat' first|exact y88 _|constructor))
end Go.Proofs.YtjhgpfaodkchjaaGreat
namespace Go.Proofs.YtjhgpfaodkchjaaGreat
open Go.Gl
section
attribute [local irreducible] z19
end
end Go.Proofs.YtjhgpfaodkchjaaGreat
namespace Go.Proofs.YtjhgpfaodkchjaaGreat
open Go.Gl
attribute [local irreducible] z19 AWP z25 z31 z28
def z103 (l:List Bool):List AC:=[lst 1 enB l]
set_option maxHeartbeats 1600000 in
theorem z658 (c1 c2:List AC) (g:Graph) (hn:g.st.length≤1048576) (s:Bool) (H:Nat→List Bool→Bool) (hm:z567 s H g.st.length) (f:FuncId) (hf:∀ (i:Nat) (S:List Bool),i < g.st.length→S.length=g.st.length→CallsA Tryz.prog f [.int i,lst 1 enB S,.pt c1,.pt c2] [] (.bool (H i S)) []):CallsA Tryz.prog 206 [.agg g.cs,.bool s,.fn (.func f) [] [.pt c1,.pt c2]] [] (.sref 0 0 g.st.length) [.cells 1 ((lim s H g.st.length).map enB)]:=by
 generalize hN:g.st.length=N at *
 refine z9 z17 Tryz.func206 rfl rfl 48 Tryz.ntmps206 (by simp) ?_
 repeat' ((first|(apply y4 ok;rfl)|(apply y45;(dsimp only;omega)))<;>conv=>whnf)
 refine z80 (fun i:Nat=>([(1,.bool s),(2,.fn (.func f) [] [.pt c1,.pt c2]),(7,.sref 0 0 N),(17,.int N),(18,.int i)],[.cells 1 (mixL (fun _=>enB s) (List.replicate N [AC.bool false]) i)])) (fun i=>i≤N) (fun i=>N - i) 0 (by omega) ⟨[1],rfl,by decide,rfl,⟨⟨rfl,rfl⟩,⟨rfl,rfl⟩,⟨rfl,by simp only [← hN];rfl⟩,⟨rfl,by simp only [← hN];rfl⟩,⟨rfl,rfl⟩,trivial⟩,⟨z18 (z36 (by rw [z167,← hN];rfl)) (z53 (z4 fun _=>rfl) fun e he=>z37 rfl e (List.mem_of_mem_drop he)),trivial⟩⟩ ?_
 intro i hi
 by_cases hil:i < N
 ·have hg:(mixL (fun _=>enB s) (List.replicate N [AC.bool false]) i)[i]?=some [AC.bool false]:=by
   unfold mixL
   rw [y69 (by simp)]
   simp only [y51,List.length_range,Nat.sub_self]
   rw [List.getElem?_drop,Nat.add_zero,List.getElem?_replicate,if_pos hil]
  repeat' ((first|(apply y4 ok;rfl)|(refine z12 (i:=i) rfl hg ?_)|(apply y45;first|omega|(unfold inI;omega))|((apply z5)<;>intro _))<;>conv=>whnf)
  all_goals try (exfalso;omega)
  exact z68 (i+1) [0] (by omega) (by omega) ⟨rfl,by decide,rfl,⟨⟨rfl,rfl⟩,⟨rfl,rfl⟩,⟨rfl,rfl⟩,⟨rfl,rfl⟩,⟨rfl,rfl⟩,trivial⟩,⟨z18 (z36 (z202 (by simpa using hil) (y79 i) rfl)) (z53 (z4 fun _=>rfl) fun e he=>z37 rfl e (List.mem_of_mem_drop he)),trivial⟩⟩
 repeat' ((first|(apply y4 ok;rfl)|(apply y45;omega)|((apply z5)<;>intro _))<;>conv=>whnf)
 all_goals try (exfalso;omega)
 have e0:mixL (fun _=>enB s) (List.replicate N [AC.bool false]) i=(List.replicate N s).map enB:=by
  rw [z203 (by simp;omega),z825,List.map_replicate,show i=N by omega]
 rw [e0]
 clear e0
 refine z80 (fun x:Bool×List Bool=>([(2,.fn (.func f) [] [.pt c1,.pt c2]),(7,.sref 0 0 N),(9,.bool x.1)],[.cells 1 (x.2.map enB)])) (fun x=>Gl.Way s H N x.2∧(x.1=false→∀ i,i < N→H i x.2=gB x.2 i)) (fun x=>2 * cntS s x.2+(if x.1 then 1 else 0)) (true,List.replicate N s) ⟨Gl.Way.start,fun h=>by cases h⟩ ⟨[0],rfl,by decide,rfl,⟨⟨rfl,rfl⟩,⟨rfl,rfl⟩,⟨rfl,rfl⟩,trivial⟩,⟨z18 rfl (z4 fun _=>rfl),trivial⟩⟩ ?_
 rintro ⟨ch,S⟩ ⟨hw,hfx⟩
 dsimp only at hw hfx ⊢
 cases ch
 ·have hR:=hw.ends (hfx rfl)
  repeat' (((apply y4 ok;rfl))<;>conv=>whnf)
  rw [z728 hR]
  exact z72 rfl (z4 fun _=>rfl) rfl rfl rfl
 ·repeat' (((apply y4 ok;rfl))<;>conv=>whnf)
  refine z80 (fun y:Nat×Bool×List Bool=>([(2,.fn (.func f) [] [.pt c1,.pt c2]),(7,.sref 0 0 N),(9,.bool y.2.1),(28,.int N),(29,.int y.1)],[.cells 1 (y.2.2.map enB)])) (fun y=>y.1≤N∧Gl.Way s H N y.2.2∧(y.2.1=false→y.2.2=S∧∀ i,i < y.1→H i S=gB S i)∧(y.2.1=true→cntS s y.2.2+1≤cntS s S)) (fun y=>N - y.1) (0,false,S) ⟨by dsimp only;omega,hw,fun _=>⟨rfl,fun i hi=>by dsimp only at hi;omega⟩,fun h=>by cases h⟩ ⟨[0],rfl,by decide,rfl,⟨⟨rfl,rfl⟩,⟨rfl,rfl⟩,⟨rfl,rfl⟩,⟨rfl,rfl⟩,⟨rfl,rfl⟩,trivial⟩,⟨z18 rfl (z4 fun _=>rfl),trivial⟩⟩ ?_
  rintro ⟨k,c,S'⟩ ⟨hk1,hw',hc1,hc2⟩
  dsimp only at hk1 hw' hc1 hc2 ⊢
  by_cases hkN:k < N
  ·have hkl:k < S'.length:=by rw [hw'.len];exact hkN
   have c1:=hf k S' hkN hw'.len
   have hgk:(S'.map enB)[k]?=some (enB (gB S' k)):=by
    unfold gB
    rw [z20 hkl,y53,y47 hkl];rfl
   have hput:=hw'.put hm hkN (hw'.post k hkN) (ordB.refl s _)
   by_cases he:H k S'=gB S' k
   ·repeat' ((first|(apply y4 ok;rfl)|(refine z12 (i:=k) rfl hgk ?_)|(apply y45;first|omega|(unfold inI;omega))|((first|apply z5|apply z45)<;>intro _)|(apply z95 [] [0] [] c1;(focus (exact z51 rfl (z51 (z237 rfl rfl rfl hw'.len) rfl)));rfl;rfl;(focus ((repeat' exact z13)<;>fail));((refine .inr ⟨rfl,?_⟩;repeat' exact True.intro))))<;>conv=>whnf)
    all_goals first|(exfalso;simp_all;done)|skip
    all_goals
     refine z68 (k+1,c,S') [0] ⟨by dsimp only;omega,hw',fun hc=>⟨(hc1 hc).1,fun i hi=>?_⟩,hc2⟩ (by dsimp only;omega) ⟨rfl,by decide,rfl,⟨⟨rfl,rfl⟩,⟨rfl,rfl⟩,⟨rfl,rfl⟩,⟨rfl,rfl⟩,⟨rfl,rfl⟩,trivial⟩,⟨z18 rfl (z4 fun _=>rfl),trivial⟩⟩
     dsimp only at hi hc
     rcases y72 i k with h3|h3
     ·exact (hc1 hc).2 i h3
     ·obtain rfl:i=k:=by omega
      rw [← (hc1 hc).1];exact he
   ·have hcn:=hput.2 he
    repeat' ((first|(apply y4 ok;rfl)|(refine z12 (i:=k) rfl hgk ?_)|(apply y45;first|omega|(unfold inI;omega))|((first|apply z5|apply z45)<;>intro _)|(apply z95 [] [0] [] c1;(focus (exact z51 rfl (z51 (z237 rfl rfl rfl hw'.len) rfl)));rfl;rfl;(focus ((repeat' exact z13)<;>fail));((refine .inr ⟨rfl,?_⟩;repeat' exact True.intro))))<;>conv=>whnf)
    all_goals first|(exfalso;simp_all;done)|skip
    all_goals
     refine z68 (k+1,true,S'.set k (H k S')) [0] ⟨by dsimp only;omega,hput.1,(fun hc=>by dsimp only at hc;cases hc),fun _=>?_⟩ (by dsimp only;omega) ⟨rfl,by decide,rfl,⟨⟨rfl,rfl⟩,⟨rfl,rfl⟩,⟨rfl,rfl⟩,⟨rfl,rfl⟩,⟨rfl,rfl⟩,trivial⟩,⟨z18 (z36 (by rw [List.map_set];rfl)) (z4 fun _=>rfl),trivial⟩⟩
     dsimp only
     cases c
     ·rw [(hc1 rfl).1] at hcn ⊢;omega
     ·have:=hc2 rfl;omega
  ·repeat' ((first|(apply y4 ok;rfl)|((apply z5)<;>intro _))<;>conv=>whnf)
   all_goals try (exfalso;omega)
   refine z68 (c,S') [0] ⟨hw',fun hc i hi=>?_⟩ ?_ ⟨rfl,by decide,rfl,⟨⟨rfl,rfl⟩,⟨rfl,rfl⟩,⟨rfl,rfl⟩,trivial⟩,⟨z18 rfl (z4 fun _=>rfl),trivial⟩⟩
   ·dsimp only at hc ⊢
    rw [(hc1 hc).1];exact (hc1 hc).2 i (by omega)
   ·dsimp only
    cases c
    ·rw [(hc1 rfl).1];simp
    ·have:=hc2 rfl;simp;omega
theorem GB.rowB {g:Graph} (h:GB g):∀ i (hi:i < g.nx.length),1≤g.nx[i].length∧g.nx[i].length≤60∧InN g.st.length g.nx[i]:=fun i hi=>by
 obtain ⟨⟨g1,g2⟩,g3,g4⟩:=h
 have h4:=g4 i hi hi (by omega)
 refine ⟨by have:=h4.2.1;omega,by have:=h4.2.1;omega,fun x hx=>?_⟩
 obtain ⟨j,hj,rfl⟩:=List.mem_iff_getElem.1 hx
 have:=(h4.2.2.2 j hj hj).1
 omega
theorem z916 {S:List Bool} {i n:Nat} {K:List AC→Prop} (h:n=i) (hi:i < S.length) (k:K (enB (gB S i))):∃ e,(S.map enB)[n]?=some e∧K e:=by
 refine z12 h ?_ k
 unfold gB
 rw [z20 hi,y53,y47 hi];rfl
theorem z555 (S:List Bool) (l:List Int) (hl:l.length≤maxLen) (p:Int→Bool) (f:FuncId) (hf:∀ x∈l,CallsA Tryz.prog f [.int x,.pt [lst 1 enB S]] [] (.bool (p x)) []):CallsA Tryz.prog 179 [lst 1 enI l,.fn (.func f) [] [.pt [lst 1 enB S]]] [] (.int (idxF p l)) []:=by
 unfold maxLen at hl
 refine z9 z17 Tryz.func179 rfl rfl 19 Tryz.ntmps179 (by simp) ?_
 repeat' (((apply y4 ok;rfl))<;>conv=>whnf)
 refine z80 (fun k:Nat=>([(0,lst 1 enI l),(1,.fn (.func f) [] [.pt [lst 1 enB S]]),(7,.int l.length),(8,.int k)],[])) (fun k=>k≤l.length∧∀ j (hj:j < l.length),j < k→p l[j]=false) (fun k=>l.length - k) 0 (by simp)
  ⟨[],rfl,by decide,rfl,⟨⟨rfl,rfl⟩,⟨rfl,rfl⟩,⟨rfl,rfl⟩,⟨rfl,rfl⟩,trivial⟩,trivial⟩ ?_
 intro k hk
 repeat' ((first|(apply y4 ok;rfl)|(apply y45;first|omega|(unfold inI;omega))|(((with_reducible apply z10;omega));intro _)|((first|apply z5|apply z74)<;>intro _)|(apply z6 (hf l[k] (y46 _));rfl;rfl))<;>conv=>whnf)
 ·rename_i h h1
  exact z39 rfl rfl (by rw [z169 (by omega) h1 hk.2];rfl)
 ·rename_i h h1
  refine z68 (k+1) [] ⟨by omega,fun j hj hjk=>?_⟩ (by omega) ⟨rfl,by decide,rfl,⟨⟨rfl,rfl⟩,⟨rfl,rfl⟩,⟨rfl,rfl⟩,⟨rfl,rfl⟩,trivial⟩,trivial⟩
  rcases y72 j k with h2|h2
  ·exact hk.2 j hj h2
  ·obtain rfl:j=k:=by omega
   exact h1
 ·exact z39 rfl rfl (by rw [z146 fun j hj=>hk.2 j hj (by omega)];rfl)
theorem z236 (S:List Bool) (l:List Int) (hl:l.length≤maxLen) (p:Int→Bool) (f:FuncId) (hf:∀ x∈l,CallsA Tryz.prog f [.int x,.pt [lst 1 enB S]] [] (.bool (p x)) []):CallsA Tryz.prog 98 [lst 1 enI l,.fn (.func f) [] [.pt [lst 1 enB S]]] [] (.bool (l.any p)) []:=by
 refine z9 z17 Tryz.func98 rfl rfl 9 Tryz.ntmps98 (by simp) ?_
 repeat' ((first|(apply y4 ok;rfl)|(apply z6 (z555 S l hl p f hf);rfl;rfl))<;>conv=>whnf)
 exact z23 rfl (by rw [← z205])
theorem some1_ok (S:List Bool) (x:Int) (h0:0≤x) (h1:x < S.length) (hS:S.length≤1048576):CallsA Tryz.prog 264 [.int x,.pt [lst 1 enB S]] [] (.bool (gB S x.toNat)) []:=by
 refine z9 z17 Tryz.func264 rfl rfl 8 Tryz.ntmps264 (by simp) ?_
 repeat' ((first|(apply y4 ok;rfl)|(refine z916 (i:=x.toNat) rfl (by omega) ?_)|(apply y45;omega))<;>conv=>whnf)
 exact z23 rfl rfl
theorem z1132 (S:List Bool) (x:Int) (h0:0≤x) (h1:x < S.length) (hS:S.length≤1048576):CallsA Tryz.prog 265 [.int x,.pt [lst 1 enB S]] [] (.bool (!gB S x.toNat)) []:=by
 refine z9 z17 Tryz.func265 rfl rfl 9 Tryz.ntmps265 (by simp) ?_
 repeat' ((first|(apply y4 ok;rfl)|(refine z916 (i:=x.toNat) rfl (by omega) ?_)|(apply y45;omega))<;>conv=>whnf)
 exact z23 rfl rfl
theorem z814 (g:Graph) (hG:GB g) (S:List Bool) (hS:S.length=g.st.length) (i:Nat) (hi:i < g.st.length):CallsA Tryz.prog 208 [.agg g.cs,.int i,lst 1 enB S] [] (.bool (nxB g.nx false i S)) []:=by
 have hin:i < g.nx.length:=by rw [hG.2.1];exact hi
 have h60:=hG.1.2
 obtain ⟨r1,r2,r3⟩:=GB.rowB hG i hin
 have c1:=z236 S g.nx[i] (by unfold maxLen;omega) (fun t=>gB S t.toNat) 264 (fun x hx=>some1_ok S x (r3 x hx).1 (by have:=(r3 x hx).2;omega) (by omega))
 refine z9 z17 Tryz.func208 rfl rfl 14 Tryz.ntmps208 (by simp) ?_
 repeat' ((first|(apply y4 ok;rfl)|(apply y45;omega)|(((with_reducible apply z10;omega));intro _)|(apply z469 [1] (c1);rfl;rfl;rfl;rfl))<;>conv=>whnf)
 exact z23 rfl (by unfold nxB;rw [z20 hin];rfl)
theorem z662 (g:Graph) (hG:GB g) (S:List Bool) (hS:S.length=g.st.length) (i:Nat) (hi:i < g.st.length):CallsA Tryz.prog 211 [.agg g.cs,.int i,lst 1 enB S] [] (.bool (nxB g.nx true i S)) []:=by
 have hin:i < g.nx.length:=by rw [hG.2.1];exact hi
 have h60:=hG.1.2
 obtain ⟨r1,r2,r3⟩:=GB.rowB hG i hin
 have c1:=z236 S g.nx[i] (by unfold maxLen;omega) (fun t=>!gB S t.toNat) 265 (fun x hx=>z1132 S x (r3 x hx).1 (by have:=(r3 x hx).2;omega) (by omega))
 refine z9 z17 Tryz.func211 rfl rfl 15 Tryz.ntmps211 (by simp) ?_
 repeat' ((first|(apply y4 ok;rfl)|(apply y45;omega)|(((with_reducible apply z10;omega));intro _)|(apply z469 [1] (c1);rfl;rfl;rfl;rfl))<;>conv=>whnf)
 exact z23 rfl (by unfold nxB;rw [z20 hin,List.all_eq_not_any_not];rfl)
def nxR (ev:Bool) (S:List Bool) (row:List Int):Bool:=if ev then row.all (fun t=>gB S t.toNat) else row.any (fun t=>gB S t.toNat)
theorem nxR_nil (ev:Bool) (S:List Bool):nxR ev S []=ev:=by cases ev<;>rfl
theorem nxR_step (ev:Bool) (S:List Bool) (row:List Int) (j:Nat) (h:j < row.length):nxR ev S (row.take (j+1))=if gB S (row[j]).toNat=ev then nxR ev S (row.take j) else !ev:=by
 rw [y52 h]
 unfold nxR
 rw [List.all_append,List.any_append]
 simp only [List.all_cons,List.any_cons,List.all_nil,List.any_nil]
 cases ev<;>cases gB S (row[j]).toNat<;>simp
set_option maxHeartbeats 1600000 in
theorem z249 (g:Graph) (hG:GB g) (S:List Bool) (hS:S.length=g.st.length) (ev:Bool):CallsA Tryz.prog 221 [.agg g.cs,lst 1 enB S,.bool ev] [] (.sref 0 0 g.st.length) [.cells 1 ((nxL g.nx ev g.st.length S).map enB)]:=by
 have h60:=hG.1.2
 have hgl:=hG.2.1
 suffices h:CallsA Tryz.prog 221 [.agg g.cs,lst 1 enB S,.bool ev] [] (.sref 0 0 g.nx.length) [.cells 1 ((nxL g.nx ev g.nx.length S).map enB)] by rwa [hgl] at h
 refine z9 z17 Tryz.func221 rfl rfl 50 Tryz.ntmps221 (by simp) ?_
 repeat' (((apply y4 ok;rfl))<;>conv=>whnf)
 refine z80 (fun i:Nat=>([(1,lst 1 enB S),(2,.bool ev),(3,.ptr 0 none 0),(7,.sref 1 0 i),(8,.int i)],[.cells 2 [[lst 2 State.cs g.st,lst 1 encL g.nx]],.cells 1 (((List.range g.nx.length).take i).map fun i=>enB (nxB g.nx ev i S))])) (fun i=>i≤g.nx.length) (fun i=>g.nx.length - i) 0 (by omega) ⟨[0,1],rfl,by decide,rfl,⟨⟨rfl,rfl⟩,⟨rfl,rfl⟩,⟨rfl,rfl⟩,⟨rfl,rfl⟩,⟨rfl,rfl⟩,trivial⟩,⟨z15 rfl rfl,z18 rfl (z4 fun _=>rfl),trivial⟩⟩ ?_
 intro i hi
 by_cases hil:i < g.nx.length
 ·have hir:i < (List.range g.nx.length).length:=by simpa using hil
  obtain ⟨r1,r2,r3⟩:=GB.rowB hG i hil
  have hnx:nxB g.nx ev i S=nxR ev S g.nx[i]:=by unfold nxB nxR;rw [z20 hil]
  repeat' ((first|(apply y4 ok;rfl)|((apply z5)<;>intro _))<;>conv=>whnf)
  all_goals try (exfalso;omega)
  refine z80 (fun j:Nat=>([(1,lst 1 enB S),(2,.bool ev),(3,.ptr 0 none 0),(7,.sref 1 0 i),(8,.int i),(9,.bool (nxR ev S (g.nx[i].take j))),(10,.int j)],[.cells 2 [[lst 2 State.cs g.st,lst 1 encL g.nx]],.cells 1 (((List.range g.nx.length).take i).map fun i=>enB (nxB g.nx ev i S))])) (fun j=>j≤g.nx[i].length) (fun j=>g.nx[i].length - j) 0 (by omega) ⟨[0,1],rfl,by decide,rfl,⟨⟨rfl,rfl⟩,⟨rfl,rfl⟩,⟨rfl,rfl⟩,⟨rfl,rfl⟩,⟨rfl,rfl⟩,⟨rfl,by rw [List.take_zero,nxR_nil];rfl⟩,⟨rfl,rfl⟩,trivial⟩,⟨z15 rfl rfl,z18 rfl (z4 fun _=>rfl),trivial⟩⟩ ?_
  intro j hj
  by_cases hjl:j < g.nx[i].length
  ·have hx:=r3 g.nx[i][j] (y46 _)
   have hst:=nxR_step ev S g.nx[i] j hjl
   by_cases he:gB S (g.nx[i][j]).toNat=ev
   ·rw [if_pos he] at hst
    repeat' ((first|(apply y4 ok;rfl)|(refine z916 (i:=(g.nx[i][j]).toNat) rfl (by omega) ?_)|(apply y45;first|omega|(unfold inI;omega))|(((with_reducible apply z10;omega));intro _)|((first|apply z5|apply z45)<;>intro _))<;>conv=>whnf)
    all_goals first|(exfalso;omega)|(exfalso;simp_all;done)|skip
    all_goals exact z68 (j+1) [0,1] (by omega) (by omega) ⟨rfl,by decide,rfl,⟨⟨rfl,rfl⟩,⟨rfl,rfl⟩,⟨rfl,rfl⟩,⟨rfl,rfl⟩,⟨rfl,rfl⟩,⟨rfl,by rw [hst];rfl⟩,⟨rfl,rfl⟩,trivial⟩,⟨z15 rfl rfl,z18 rfl (z4 fun _=>rfl),trivial⟩⟩
   ·rw [if_neg he] at hst
    repeat' ((first|(apply y4 ok;rfl)|(refine z916 (i:=(g.nx[i][j]).toNat) rfl (by omega) ?_)|(apply y45;first|omega|(unfold inI;omega))|(((with_reducible apply z10;omega));intro _)|((first|apply z5|apply z45)<;>intro _))<;>conv=>whnf)
    all_goals first|(exfalso;omega)|(exfalso;simp_all;done)|skip
    all_goals exact z68 (j+1) [0,1] (by omega) (by omega) ⟨rfl,by decide,rfl,⟨⟨rfl,rfl⟩,⟨rfl,rfl⟩,⟨rfl,rfl⟩,⟨rfl,rfl⟩,⟨rfl,rfl⟩,⟨rfl,by rw [hst];rfl⟩,⟨rfl,rfl⟩,trivial⟩,⟨z15 rfl rfl,z18 rfl (z4 fun _=>rfl),trivial⟩⟩
  ·obtain rfl:j=g.nx[i].length:=by omega
   rw [y58,← hnx]
   repeat' ((first|(apply y4 ok;rfl)|(apply y45;first|omega|(unfold inI;omega)|((try dsimp only);simp only [y51,y50,y49,y48,y60,y61];omega)|exact ⟨rfl,z22 rfl z29⟩)|((first|(with_reducible apply z10;omega)|(with_reducible apply z127;omega));intro _)|((first|apply z5|apply z45)<;>intro _))<;>conv=>whnf)
   all_goals try (exfalso;omega)
   refine z68 (i+1) [0,3] (by omega) (by omega) ⟨rfl,by decide,rfl,⟨⟨rfl,rfl⟩,⟨rfl,rfl⟩,⟨rfl,rfl⟩,⟨rfl,rfl⟩,⟨rfl,rfl⟩,trivial⟩,⟨z15 rfl rfl,z18 (z36 ?_) (z4 fun _=>rfl),trivial⟩⟩
   rw [y59 (by simp;omega),y52 hir,y66]
   simp only [List.getElem_range];rfl
 ·repeat' ((first|(apply y4 ok;rfl)|((apply z5)<;>intro _))<;>conv=>whnf)
  all_goals try (exfalso;omega)
  obtain rfl:i=g.nx.length:=by omega
  refine z56 [1] (by decide) rfl rfl rfl ⟨z18 (z36 ?_) (z4 fun _=>rfl),trivial⟩
  rw [y59 (by simp)]
  unfold nxL
  rw [List.map_map];rfl
theorem z834 (g:List (List Int)) (ev:Bool) (n:Nat) (S:List Bool):(nxL g ev n S).length=n:=by simp [nxL]
theorem z917 (g:List (List Int)) (ev:Bool) (n:Nat) (S:List Bool) (i:Nat) (h:i < n):gB (nxL g ev n S) i=nxB g ev i S:=by
 unfold gB
 rw [z20 (by rw [z834];exact h)]
 simp [nxL]
theorem z116 {S:List Bool} {i:Nat} (hi:i < S.length):(S.map enB)[i]?=some (enB (gB S i)):=by
 unfold gB
 rw [z20 hi,y53,y47 hi];rfl
theorem GB.inN {g:Graph} (h:GB g):∀ r∈g.nx,InN g.st.length r:=fun r hr=>by
 obtain ⟨i,hi,rfl⟩:=List.mem_iff_getElem.1 hr
 exact (GB.rowB h i hi).2.2
set_option maxHeartbeats 1600000 in
theorem z429 (g:Graph) (hG:GB g) (a b:List Bool) (ha:a.length=g.st.length) (hb:b.length=g.st.length) (ev:Bool):CallsA Tryz.prog 222 [.agg g.cs,lst 1 enB a,lst 1 enB b,.bool ev] [] (.sref 0 0 g.st.length) [.cells 1 ((lim false (unH g.nx ev a b) g.st.length).map enB)]:=by
 have h60:=hG.1.2
 have hm:z567 false (unH g.nx ev a b) g.st.length:=z298 (s:=false) hG.inN a b
 have cn:=fun (S:List Bool) (hS:S.length=g.st.length)=>z249 g hG S hS ev
 have hnl:=fun (S:List Bool)=>z834 g.nx ev g.st.length S
 have hng:=fun (S:List Bool)=>z917 g.nx ev g.st.length S
 have w0:Gl.Way false (unH g.nx ev a b) g.st.length b:=Way.goal hb
 generalize hN:g.st.length=N at *
 generalize hHe:unH g.nx ev a b=H at *
 refine z9 z17 Tryz.func222 rfl rfl 48 Tryz.ntmps222 (by simp) ?_
 repeat' ((first|(apply y4 ok;rfl)|(apply y45;first|(dsimp only;omega)|exact z75 (fun _=>rfl)))<;>conv=>whnf)
 refine z80 (fun x:Bool×List Bool=>([(1,lst 1 enB a),(3,.bool ev),(4,.ptr 0 none 0),(9,.sref 1 0 N),(10,.bool x.1)],[.cells 2 [[lst 2 State.cs g.st,lst 1 encL g.nx]],.cells 1 (x.2.map enB)])) (fun x=>Gl.Way false H N x.2∧(x.1=false→∀ i,i < N→H i x.2=gB x.2 i)∧∀ i,i < N→gB x.2 i=false→gB b i=false) (fun x=>2 * cntS false x.2+(if x.1 then 1 else 0)) (true,b) ⟨w0,fun h=>(by dsimp only at h;cases h),fun i _ h=>h⟩ ⟨[0,2],rfl,by decide,rfl,⟨⟨rfl,rfl⟩,⟨rfl,rfl⟩,⟨rfl,rfl⟩,⟨rfl,by rw [← hb];exact congrArg (AC.sref 2 0) (Nat.zero_add _)⟩,⟨rfl,rfl⟩,trivial⟩,⟨z15 rfl rfl,z18 rfl (z4 fun _=>rfl),trivial⟩⟩ ?_
 rintro ⟨ch,S⟩ ⟨hw,hfx,hb0⟩
 dsimp only at hw hfx hb0 ⊢
 have hSl:=hw.len
 cases ch
 ·have hR:=hw.ends (hfx rfl)
  repeat' (((apply y4 ok;rfl))<;>conv=>whnf)
  rw [z728 hR]
  exact z56 [1] (by decide) rfl rfl rfl ⟨z18 rfl (z4 fun _=>rfl),trivial⟩
 ·have c1:=cn S hSl
  repeat' ((first|(apply y4 ok;rfl)|(apply z95 [] [1] [2] c1;(focus (exact z51 rfl (z51 (z237 rfl rfl rfl hSl) rfl)));rfl;rfl;(focus ((repeat' first|exact z13|apply z11)<;>(refine z21 ?_;((exact z4 fun _=>rfl)))));((refine .inr ⟨rfl,?_⟩;repeat' first|exact True.intro|apply y45|exact z136 (fun _=>rfl) _))))<;>conv=>whnf)
  refine z80 (fun y:Nat×Bool×List Bool=>([(1,lst 1 enB a),(3,.bool ev),(4,.ptr 0 none 0),(9,.sref 1 0 N),(10,.bool y.2.1),(11,.sref 2 0 N),(12,.int y.1)],[.cells 2 [[lst 2 State.cs g.st,lst 1 encL g.nx]],.cells 1 (y.2.2.map enB),.cells 1 ((nxL g.nx ev N S).map enB)])) (fun y=>y.1≤N∧Gl.Way false H N y.2.2∧(y.2.1=false→y.2.2=S∧∀ i,i < y.1→H i S=gB S i)∧(y.2.1=true→cntS false y.2.2+1≤cntS false S)∧(∀ j,j < N→ordB false (gB S j) (gB y.2.2 j))∧∀ i,i < N→gB y.2.2 i=false→gB b i=false) (fun y=>N - y.1) (0,false,S) ⟨by dsimp only;omega,hw,fun _=>⟨rfl,fun i hi=>by dsimp only at hi;omega⟩,fun h=>(by dsimp only at h;cases h),fun j _=>ordB.refl _ _,hb0⟩ ⟨[0,1,2],rfl,by decide,rfl,⟨⟨rfl,rfl⟩,⟨rfl,rfl⟩,⟨rfl,rfl⟩,⟨rfl,rfl⟩,⟨rfl,rfl⟩,⟨rfl,rfl⟩,⟨rfl,rfl⟩,trivial⟩,⟨z15 rfl rfl,z18 rfl (z4 fun _=>rfl),z18 rfl (z4 fun _=>rfl),trivial⟩⟩ ?_
  rintro ⟨k,c,S'⟩ ⟨hk1,hw',hc1,hc2,hle,hb1⟩
  dsimp only at hk1 hw' hc1 hc2 hle hb1 ⊢
  have hSl':=hw'.len
  by_cases hkN:k < N
  ·have g1:=z116 (S:=S') (i:=k) (by omega)
   have g2:=z116 (S:=a) (i:=k) (by omega)
   have g3:=z116 (S:=nxL g.nx ev N S) (i:=k) (by rw [hnl];omega)
   rw [hng S k hkN] at g3
   have same:(gB S' k=gB S k→H k S=gB S k)→c=false→S'=S∧∀ i,i < k+1→H i S=gB S i:=fun hh hc=>by
    obtain ⟨e1,e2⟩:=hc1 hc
    refine ⟨e1,fun i hi=>?_⟩
    rcases y72 i k with h3|h3
    ·exact e2 i h3
    ·obtain rfl:i=k:=by omega
     exact hh (by rw [e1])
   have hp:=hw.post k hkN
   by_cases he:gB S' k=false∧gB a k=true∧nxB g.nx ev k S=true
   ·have hst:=hw'.step hm hSl hle hkN (i:=k) (by rw [← hHe];unfold unH;rw [he.2.1,he.2.2];simp) he.1
    have hcn:=hst.2.1
    obtain ⟨he1,he2,he3⟩:=he
    rw [he1] at g1
    rw [he2] at g2
    rw [he3] at g3
    repeat' ((first|(apply y4 ok;rfl)|(refine z12 (i:=k) rfl g1 ?_)|(refine z12 (i:=k) rfl g2 ?_)|(refine z12 (i:=k) rfl g3 ?_)|(apply y45;first|omega|(unfold inI;omega))|((apply z5)<;>intro _))<;>conv=>whnf)
    all_goals try (exfalso;omega)
    all_goals
     refine z68 (k+1,true,S'.set k (!false)) [0,1,2] ⟨by dsimp only;omega,hst.1,(fun hc=>by dsimp only at hc;cases hc),fun _=>?_,hst.2.2,fun i hi h=>?_⟩ (by dsimp only;omega) ⟨rfl,by decide,rfl,⟨⟨rfl,rfl⟩,⟨rfl,rfl⟩,⟨rfl,rfl⟩,⟨rfl,rfl⟩,⟨rfl,rfl⟩,⟨rfl,rfl⟩,⟨rfl,rfl⟩,trivial⟩,⟨z15 rfl rfl,z18 (z36 (by rw [List.map_set];rfl)) (z4 fun _=>rfl),z18 rfl (z4 fun _=>rfl),trivial⟩⟩
     ·dsimp only
      cases c
      ·rw [(hc1 rfl).1] at hcn ⊢;omega
      ·have:=hc2 rfl;omega
     ·dsimp only at h
      rw [z592 (by omega)] at h
      split at h
      ·cases h
      ·exact hb1 i hi h
   ·have hcase:gB S' k=gB S k→H k S=gB S k:=fun e=>by
     cases hs:gB S k
     ·have hb:=hb0 k hkN hs
      rw [← hHe];unfold unH
      rw [hb]
      cases h1:gB a k<;>cases h2:nxB g.nx ev k S<;>first|rfl|(exfalso;exact he ⟨by rw [e,hs],h1,h2⟩)
     ·rw [hs] at hp
      rcases hp with e|e
      ·exact e.symm
      ·cases e
    generalize gB S' k=p at *
    generalize gB a k=q at *
    generalize nxB g.nx ev k S=r at *
    clear c1
    cases p<;>cases q<;>cases r<;>first|(exfalso;exact he ⟨rfl,rfl,rfl⟩)|skip
    ·repeat' ((first|(apply y4 ok;rfl)|(refine z12 (i:=k) rfl g1 ?_)|(refine z12 (i:=k) rfl g2 ?_)|(apply y45;first|omega|(unfold inI;omega))|((apply z5)<;>intro _))<;>conv=>whnf)
     all_goals try (exfalso;omega)
     all_goals exact z68 (k+1,c,S') [0,1,2] ⟨by dsimp only;omega,hw',same hcase,hc2,hle,hb1⟩ (by dsimp only;omega) ⟨rfl,by decide,rfl,⟨⟨rfl,rfl⟩,⟨rfl,rfl⟩,⟨rfl,rfl⟩,⟨rfl,rfl⟩,⟨rfl,rfl⟩,⟨rfl,rfl⟩,⟨rfl,rfl⟩,trivial⟩,⟨z15 rfl rfl,z18 rfl (z4 fun _=>rfl),z18 rfl (z4 fun _=>rfl),trivial⟩⟩
    ·repeat' ((first|(apply y4 ok;rfl)|(refine z12 (i:=k) rfl g1 ?_)|(refine z12 (i:=k) rfl g2 ?_)|(apply y45;first|omega|(unfold inI;omega))|((apply z5)<;>intro _))<;>conv=>whnf)
     all_goals try (exfalso;omega)
     all_goals exact z68 (k+1,c,S') [0,1,2] ⟨by dsimp only;omega,hw',same hcase,hc2,hle,hb1⟩ (by dsimp only;omega) ⟨rfl,by decide,rfl,⟨⟨rfl,rfl⟩,⟨rfl,rfl⟩,⟨rfl,rfl⟩,⟨rfl,rfl⟩,⟨rfl,rfl⟩,⟨rfl,rfl⟩,⟨rfl,rfl⟩,trivial⟩,⟨z15 rfl rfl,z18 rfl (z4 fun _=>rfl),z18 rfl (z4 fun _=>rfl),trivial⟩⟩
    ·repeat' ((first|(apply y4 ok;rfl)|(refine z12 (i:=k) rfl g1 ?_)|(refine z12 (i:=k) rfl g2 ?_)|(refine z12 (i:=k) rfl g3 ?_)|(apply y45;first|omega|(unfold inI;omega))|((apply z5)<;>intro _))<;>conv=>whnf)
     all_goals try (exfalso;omega)
     all_goals exact z68 (k+1,c,S') [0,1,2] ⟨by dsimp only;omega,hw',same hcase,hc2,hle,hb1⟩ (by dsimp only;omega) ⟨rfl,by decide,rfl,⟨⟨rfl,rfl⟩,⟨rfl,rfl⟩,⟨rfl,rfl⟩,⟨rfl,rfl⟩,⟨rfl,rfl⟩,⟨rfl,rfl⟩,⟨rfl,rfl⟩,trivial⟩,⟨z15 rfl rfl,z18 rfl (z4 fun _=>rfl),z18 rfl (z4 fun _=>rfl),trivial⟩⟩
    ·repeat' ((first|(apply y4 ok;rfl)|(refine z12 (i:=k) rfl g1 ?_)|(apply y45;first|omega|(unfold inI;omega))|((apply z5)<;>intro _))<;>conv=>whnf)
     all_goals try (exfalso;omega)
     all_goals exact z68 (k+1,c,S') [0,1,2] ⟨by dsimp only;omega,hw',same hcase,hc2,hle,hb1⟩ (by dsimp only;omega) ⟨rfl,by decide,rfl,⟨⟨rfl,rfl⟩,⟨rfl,rfl⟩,⟨rfl,rfl⟩,⟨rfl,rfl⟩,⟨rfl,rfl⟩,⟨rfl,rfl⟩,⟨rfl,rfl⟩,trivial⟩,⟨z15 rfl rfl,z18 rfl (z4 fun _=>rfl),z18 rfl (z4 fun _=>rfl),trivial⟩⟩
    ·repeat' ((first|(apply y4 ok;rfl)|(refine z12 (i:=k) rfl g1 ?_)|(apply y45;first|omega|(unfold inI;omega))|((apply z5)<;>intro _))<;>conv=>whnf)
     all_goals try (exfalso;omega)
     all_goals exact z68 (k+1,c,S') [0,1,2] ⟨by dsimp only;omega,hw',same hcase,hc2,hle,hb1⟩ (by dsimp only;omega) ⟨rfl,by decide,rfl,⟨⟨rfl,rfl⟩,⟨rfl,rfl⟩,⟨rfl,rfl⟩,⟨rfl,rfl⟩,⟨rfl,rfl⟩,⟨rfl,rfl⟩,⟨rfl,rfl⟩,trivial⟩,⟨z15 rfl rfl,z18 rfl (z4 fun _=>rfl),z18 rfl (z4 fun _=>rfl),trivial⟩⟩
    ·repeat' ((first|(apply y4 ok;rfl)|(refine z12 (i:=k) rfl g1 ?_)|(apply y45;first|omega|(unfold inI;omega))|((apply z5)<;>intro _))<;>conv=>whnf)
     all_goals try (exfalso;omega)
     all_goals exact z68 (k+1,c,S') [0,1,2] ⟨by dsimp only;omega,hw',same hcase,hc2,hle,hb1⟩ (by dsimp only;omega) ⟨rfl,by decide,rfl,⟨⟨rfl,rfl⟩,⟨rfl,rfl⟩,⟨rfl,rfl⟩,⟨rfl,rfl⟩,⟨rfl,rfl⟩,⟨rfl,rfl⟩,⟨rfl,rfl⟩,trivial⟩,⟨z15 rfl rfl,z18 rfl (z4 fun _=>rfl),z18 rfl (z4 fun _=>rfl),trivial⟩⟩
    ·repeat' ((first|(apply y4 ok;rfl)|(refine z12 (i:=k) rfl g1 ?_)|(apply y45;first|omega|(unfold inI;omega))|((apply z5)<;>intro _))<;>conv=>whnf)
     all_goals try (exfalso;omega)
     all_goals exact z68 (k+1,c,S') [0,1,2] ⟨by dsimp only;omega,hw',same hcase,hc2,hle,hb1⟩ (by dsimp only;omega) ⟨rfl,by decide,rfl,⟨⟨rfl,rfl⟩,⟨rfl,rfl⟩,⟨rfl,rfl⟩,⟨rfl,rfl⟩,⟨rfl,rfl⟩,⟨rfl,rfl⟩,⟨rfl,rfl⟩,trivial⟩,⟨z15 rfl rfl,z18 rfl (z4 fun _=>rfl),z18 rfl (z4 fun _=>rfl),trivial⟩⟩
  ·repeat' ((first|(apply y4 ok;rfl)|(apply y45;omega)|((first|(with_reducible apply z10;omega)|(apply z10;omega));intro _)|((first|apply z5|apply z81|apply z74)<;>intro _))<;>conv=>whnf)
   all_goals try (exfalso;omega)
   refine z68 (c,S') [0,1] ⟨hw',fun hc i hi=>?_,hb1⟩ ?_ ⟨rfl,by decide,rfl,⟨⟨rfl,rfl⟩,⟨rfl,rfl⟩,⟨rfl,rfl⟩,⟨rfl,rfl⟩,⟨rfl,rfl⟩,trivial⟩,⟨z15 rfl rfl,z18 rfl (z4 fun _=>rfl),trivial⟩⟩
   ·dsimp only at hc ⊢
    rw [(hc1 hc).1];exact (hc1 hc).2 i (by omega)
   ·dsimp only
    cases c
    ·rw [(hc1 rfl).1];simp
    ·have:=hc2 rfl;simp;omega
set_option maxHeartbeats 1600000 in
theorem z372 (g:Graph) (hG:GB g) (a:List Bool) (ha:a.length=g.st.length) (ev:Bool):CallsA Tryz.prog 223 [.agg g.cs,lst 1 enB a,.bool ev] [] (.sref 0 0 g.st.length) [.cells 1 ((lim true (alH g.nx ev a) g.st.length).map enB)]:=by
 have h60:=hG.1.2
 have hm:z567 true (alH g.nx ev a) g.st.length:=z312 (s:=true) hG.inN a
 have cn:=fun (S:List Bool) (hS:S.length=g.st.length)=>z249 g hG S hS ev
 have hnl:=fun (S:List Bool)=>z834 g.nx ev g.st.length S
 have hng:=fun (S:List Bool)=>z917 g.nx ev g.st.length S
 have w0:Gl.Way true (alH g.nx ev a) g.st.length a:=Way.now ha
 generalize hN:g.st.length=N at *
 generalize hHe:alH g.nx ev a=H at *
 refine z9 z17 Tryz.func223 rfl rfl 40 Tryz.ntmps223 (by simp) ?_
 repeat' ((first|(apply y4 ok;rfl)|(apply y45;first|(dsimp only;omega)|exact z75 (fun _=>rfl)))<;>conv=>whnf)
 refine z80 (fun x:Bool×List Bool=>([(2,.bool ev),(3,.ptr 0 none 0),(7,.sref 1 0 N),(8,.bool x.1)],[.cells 2 [[lst 2 State.cs g.st,lst 1 encL g.nx]],.cells 1 (x.2.map enB)])) (fun x=>Gl.Way true H N x.2∧(x.1=false→∀ i,i < N→H i x.2=gB x.2 i)∧∀ i,i < N→gB x.2 i=true→gB a i=true) (fun x=>2 * cntS true x.2+(if x.1 then 1 else 0)) (true,a) ⟨w0,fun h=>(by dsimp only at h;cases h),fun i _ h=>h⟩ ⟨[0,2],rfl,by decide,rfl,⟨⟨rfl,rfl⟩,⟨rfl,rfl⟩,⟨rfl,by rw [← ha];exact congrArg (AC.sref 2 0) (Nat.zero_add _)⟩,⟨rfl,rfl⟩,trivial⟩,⟨z15 rfl rfl,z18 rfl (z4 fun _=>rfl),trivial⟩⟩ ?_
 rintro ⟨ch,S⟩ ⟨hw,hfx,hb0⟩
 dsimp only at hw hfx hb0 ⊢
 have hSl:=hw.len
 cases ch
 ·have hR:=hw.ends (hfx rfl)
  repeat' (((apply y4 ok;rfl))<;>conv=>whnf)
  rw [z728 hR]
  exact z56 [1] (by decide) rfl rfl rfl ⟨z18 rfl (z4 fun _=>rfl),trivial⟩
 ·have c1:=cn S hSl
  repeat' ((first|(apply y4 ok;rfl)|(apply z95 [] [1] [2] c1;(focus (exact z51 rfl (z51 (z237 rfl rfl rfl hSl) rfl)));rfl;rfl;(focus ((repeat' first|exact z13|apply z11)<;>(refine z21 ?_;((exact z4 fun _=>rfl)))));((refine .inr ⟨rfl,?_⟩;repeat' first|exact True.intro|apply y45|exact z136 (fun _=>rfl) _))))<;>conv=>whnf)
  refine z80 (fun y:Nat×Bool×List Bool=>([(2,.bool ev),(3,.ptr 0 none 0),(7,.sref 1 0 N),(8,.bool y.2.1),(9,.sref 2 0 N),(10,.int y.1)],[.cells 2 [[lst 2 State.cs g.st,lst 1 encL g.nx]],.cells 1 (y.2.2.map enB),.cells 1 ((nxL g.nx ev N S).map enB)])) (fun y=>y.1≤N∧Gl.Way true H N y.2.2∧(y.2.1=false→y.2.2=S∧∀ i,i < y.1→H i S=gB S i)∧(y.2.1=true→cntS true y.2.2+1≤cntS true S)∧(∀ j,j < N→ordB true (gB S j) (gB y.2.2 j))∧∀ i,i < N→gB y.2.2 i=true→gB a i=true) (fun y=>N - y.1) (0,false,S) ⟨by dsimp only;omega,hw,fun _=>⟨rfl,fun i hi=>by dsimp only at hi;omega⟩,fun h=>(by dsimp only at h;cases h),fun j _=>ordB.refl _ _,hb0⟩ ⟨[0,1,2],rfl,by decide,rfl,⟨⟨rfl,rfl⟩,⟨rfl,rfl⟩,⟨rfl,rfl⟩,⟨rfl,rfl⟩,⟨rfl,rfl⟩,⟨rfl,rfl⟩,trivial⟩,⟨z15 rfl rfl,z18 rfl (z4 fun _=>rfl),z18 rfl (z4 fun _=>rfl),trivial⟩⟩ ?_
  rintro ⟨k,c,S'⟩ ⟨hk1,hw',hc1,hc2,hle,hb1⟩
  dsimp only at hk1 hw' hc1 hc2 hle hb1 ⊢
  have hSl':=hw'.len
  by_cases hkN:k < N
  ·have g1:=z116 (S:=S') (i:=k) (by omega)
   have g2:=z116 (S:=a) (i:=k) (by omega)
   have g3:=z116 (S:=nxL g.nx ev N S) (i:=k) (by rw [hnl];omega)
   rw [hng S k hkN] at g3
   have same:(gB S' k=gB S k→H k S=gB S k)→c=false→S'=S∧∀ i,i < k+1→H i S=gB S i:=fun hh hc=>by
    obtain ⟨e1,e2⟩:=hc1 hc
    refine ⟨e1,fun i hi=>?_⟩
    rcases y72 i k with h3|h3
    ·exact e2 i h3
    ·obtain rfl:i=k:=by omega
     exact hh (by rw [e1])
   have hp:=hw.post k hkN
   by_cases he:gB S' k=true∧nxB g.nx ev k S=false
   ·have hst:=hw'.step hm hSl hle hkN (i:=k) (by rw [← hHe];unfold alH;rw [hb0 k hkN (by rcases hle k hkN with e|e<;>first|exact e|(rw [e];exact he.1)),he.2];rfl) he.1
    have hcn:=hst.2.1
    obtain ⟨he1,he3⟩:=he
    rw [he1] at g1
    rw [he3] at g3
    repeat' ((first|(apply y4 ok;rfl)|(refine z12 (i:=k) rfl g1 ?_)|(refine z12 (i:=k) rfl g3 ?_)|(apply y45;first|omega|(unfold inI;omega))|((apply z5)<;>intro _))<;>conv=>whnf)
    all_goals try (exfalso;omega)
    all_goals
     refine z68 (k+1,true,S'.set k (!true)) [0,1,2] ⟨by dsimp only;omega,hst.1,(fun hc=>by dsimp only at hc;cases hc),fun _=>?_,hst.2.2,fun i hi h=>?_⟩ (by dsimp only;omega) ⟨rfl,by decide,rfl,⟨⟨rfl,rfl⟩,⟨rfl,rfl⟩,⟨rfl,rfl⟩,⟨rfl,rfl⟩,⟨rfl,rfl⟩,⟨rfl,rfl⟩,trivial⟩,⟨z15 rfl rfl,z18 (z36 (by rw [List.map_set];rfl)) (z4 fun _=>rfl),z18 rfl (z4 fun _=>rfl),trivial⟩⟩
     ·dsimp only
      cases c
      ·rw [(hc1 rfl).1] at hcn ⊢;omega
      ·have:=hc2 rfl;omega
     ·dsimp only at h
      rw [z592 (by omega)] at h
      split at h
      ·cases h
      ·exact hb1 i hi h
   ·have hcase:gB S' k=gB S k→H k S=gB S k:=fun e=>by
     cases hs:gB S k
     ·rw [hs] at hp
      rcases hp with e|e
      ·exact e.symm
      ·cases e
     ·have hb:=hb0 k hkN hs
      rw [← hHe];unfold alH
      rw [hb]
      cases h2:nxB g.nx ev k S<;>first|rfl|(exfalso;exact he ⟨by rw [e,hs],h2⟩)
    generalize gB S' k=p at *
    generalize nxB g.nx ev k S=r at *
    clear c1
    cases p<;>cases r<;>first|(exfalso;exact he ⟨rfl,rfl⟩)|skip
    ·repeat' ((first|(apply y4 ok;rfl)|(refine z12 (i:=k) rfl g1 ?_)|(apply y45;first|omega|(unfold inI;omega))|((apply z5)<;>intro _))<;>conv=>whnf)
     all_goals try (exfalso;omega)
     all_goals exact z68 (k+1,c,S') [0,1,2] ⟨by dsimp only;omega,hw',same hcase,hc2,hle,hb1⟩ (by dsimp only;omega) ⟨rfl,by decide,rfl,⟨⟨rfl,rfl⟩,⟨rfl,rfl⟩,⟨rfl,rfl⟩,⟨rfl,rfl⟩,⟨rfl,rfl⟩,⟨rfl,rfl⟩,trivial⟩,⟨z15 rfl rfl,z18 rfl (z4 fun _=>rfl),z18 rfl (z4 fun _=>rfl),trivial⟩⟩
    ·repeat' ((first|(apply y4 ok;rfl)|(refine z12 (i:=k) rfl g1 ?_)|(apply y45;first|omega|(unfold inI;omega))|((apply z5)<;>intro _))<;>conv=>whnf)
     all_goals try (exfalso;omega)
     all_goals exact z68 (k+1,c,S') [0,1,2] ⟨by dsimp only;omega,hw',same hcase,hc2,hle,hb1⟩ (by dsimp only;omega) ⟨rfl,by decide,rfl,⟨⟨rfl,rfl⟩,⟨rfl,rfl⟩,⟨rfl,rfl⟩,⟨rfl,rfl⟩,⟨rfl,rfl⟩,⟨rfl,rfl⟩,trivial⟩,⟨z15 rfl rfl,z18 rfl (z4 fun _=>rfl),z18 rfl (z4 fun _=>rfl),trivial⟩⟩
    ·repeat' ((first|(apply y4 ok;rfl)|(refine z12 (i:=k) rfl g1 ?_)|(refine z12 (i:=k) rfl g3 ?_)|(apply y45;first|omega|(unfold inI;omega))|((apply z5)<;>intro _))<;>conv=>whnf)
     all_goals try (exfalso;omega)
     all_goals exact z68 (k+1,c,S') [0,1,2] ⟨by dsimp only;omega,hw',same hcase,hc2,hle,hb1⟩ (by dsimp only;omega) ⟨rfl,by decide,rfl,⟨⟨rfl,rfl⟩,⟨rfl,rfl⟩,⟨rfl,rfl⟩,⟨rfl,rfl⟩,⟨rfl,rfl⟩,⟨rfl,rfl⟩,trivial⟩,⟨z15 rfl rfl,z18 rfl (z4 fun _=>rfl),z18 rfl (z4 fun _=>rfl),trivial⟩⟩
  ·repeat' ((first|(apply y4 ok;rfl)|(apply y45;omega)|(((apply z10;omega));intro _)|((first|apply z5|apply z81|apply z74)<;>intro _))<;>conv=>whnf)
   all_goals try (exfalso;omega)
   refine z68 (c,S') [0,1] ⟨hw',fun hc i hi=>?_,hb1⟩ ?_ ⟨rfl,by decide,rfl,⟨⟨rfl,rfl⟩,⟨rfl,rfl⟩,⟨rfl,rfl⟩,⟨rfl,rfl⟩,trivial⟩,⟨z15 rfl rfl,z18 rfl (z4 fun _=>rfl),trivial⟩⟩
   ·dsimp only at hc ⊢
    rw [(hc1 hc).1];exact (hc1 hc).2 i (by omega)
   ·dsimp only
    cases c
    ·rw [(hc1 rfl).1];simp
    ·have:=hc2 rfl;simp;omega
theorem l6Has_ok (x a:Int) (h0:0≤x) (h1:x≤7) (h2:0≤a) (h3:a≤2):CallsA Tryz.prog 224 [.int x,.int a] [] (.bool (hasB x a)) []:=by
 have h5:0≤x / 2 ^ a.toNat∧x / 2 ^ a.toNat≤7:=by
  have:a=0∨a=1∨a=2:=by omega
  rcases this with rfl|rfl|rfl<;>simp<;>omega
 have hw:IntKind.u64.wrap a=a:=by
  have:a=0∨a=1∨a=2:=by omega
  rcases this with rfl|rfl|rfl<;>decide
 refine z9 z17 Tryz.func224 rfl rfl 11 Tryz.ntmps224 (by simp) ?_
 repeat' ((first|(apply y4 ok;rfl)|(apply y45;first|omega|(unfold z111;omega)))<;>conv=>whnf)
 all_goals (exact z23 rfl rfl)
theorem sat1_ok (i:Int):CallsA Tryz.prog 205 [.int i] [] (.bool true) []:=by
 refine z9 z17 Tryz.func205 rfl rfl 3 Tryz.ntmps205 (by simp) ?_
 repeat' (((apply y4 ok;rfl))<;>conv=>whnf)
 exact z23 rfl rfl
theorem sat6_ok (L:List Int) (k v:Int) (x:AC) (i:Nat) (hi:i < L.length) (hl:L.length≤1048576) (h0:0≤L.getD i 0) (h1:L.getD i 0≤7) (h2:0≤v) (h3:v≤2):CallsA Tryz.prog 213 [.int i,.pt [ints L],.pt [.int k,.int v,x]] [] (.bool (hasB (L.getD i 0) v)) []:=by
 have g1:(L.map enI)[i]?=some (enI (L.getD i 0)):=by rw [z20 hi,y53,y47 hi];rfl
 generalize L.getD i 0=y at *
 have h5:0≤y / 2 ^ v.toNat∧y / 2 ^ v.toNat≤7:=by
  have:v=0∨v=1∨v=2:=by omega
  rcases this with rfl|rfl|rfl<;>simp<;>omega
 refine z9 z17 Tryz.func213 rfl rfl 14 Tryz.ntmps213 (by simp) ?_
 repeat' ((first|(apply y4 ok;rfl)|(apply z32;kernel_rfl)|(refine z12 (i:=i) rfl g1 ?_)|(apply y45;first|omega|(unfold z111;omega)))<;>conv=>whnf)
 all_goals (exact z23 rfl rfl)
theorem sat2_ok (g:Graph) (hG:GB g) (a b:List Bool) (ha:a.length=g.st.length) (hb:b.length=g.st.length) (i:Nat) (S:List Bool) (hi:i < g.st.length) (hS:S.length=g.st.length):CallsA Tryz.prog 207 [.int i,lst 1 enB S,.pt [lst 1 z103 [a,b]],.pt g.cs] [] (.bool (unH g.nx false a b i S)) []:=by
 have h60:=hG.1.2
 have g1:=z116 (S:=a) (i:=i) (by omega)
 have g2:=z116 (S:=b) (i:=i) (by omega)
 have c1:=z814 g hG S hS i hi
 unfold unH
 generalize gB a i=p at *
 generalize gB b i=q at *
 refine z9 z17 Tryz.func207 rfl rfl 27 Tryz.ntmps207 (by simp) ?_
 cases p<;>cases q
 all_goals
  repeat' ((first|(apply y4 ok;rfl)|(refine z12 (i:=0) rfl rfl ?_)|(refine z12 (i:=1) rfl rfl ?_)|(refine z12 (i:=i) rfl g1 ?_)|(refine z12 (i:=i) rfl g2 ?_)|(apply y45;omega)|(apply z6 (c1);rfl;rfl))<;>conv=>whnf)
  all_goals exact z23 rfl rfl
theorem sat3_ok (g:Graph) (hG:GB g) (a:List Bool) (ha:a.length=g.st.length) (i:Nat) (S:List Bool) (hi:i < g.st.length) (hS:S.length=g.st.length):CallsA Tryz.prog 209 [.int i,lst 1 enB S,.pt [lst 1 z103 [a]],.pt g.cs] [] (.bool (alH g.nx false a i S)) []:=by
 have h60:=hG.1.2
 have g1:=z116 (S:=a) (i:=i) (by omega)
 have c1:=z814 g hG S hS i hi
 unfold alH
 generalize gB a i=p at *
 refine z9 z17 Tryz.func209 rfl rfl 19 Tryz.ntmps209 (by simp) ?_
 cases p
 all_goals
  repeat' ((first|(apply y4 ok;rfl)|(refine z12 (i:=0) rfl rfl ?_)|(refine z12 (i:=i) rfl g1 ?_)|(apply y45;omega)|(apply z6 (c1);rfl;rfl))<;>conv=>whnf)
  all_goals exact z23 rfl rfl
theorem sat4_ok (g:Graph) (hG:GB g) (a b:List Bool) (ha:a.length=g.st.length) (hb:b.length=g.st.length) (i:Nat) (S:List Bool) (hi:i < g.st.length) (hS:S.length=g.st.length):CallsA Tryz.prog 210 [.int i,lst 1 enB S,.pt [lst 1 z103 [a,b]],.pt g.cs] [] (.bool (unH g.nx true a b i S)) []:=by
 have h60:=hG.1.2
 have g1:=z116 (S:=a) (i:=i) (by omega)
 have g2:=z116 (S:=b) (i:=i) (by omega)
 have c1:=z662 g hG S hS i hi
 unfold unH
 generalize gB a i=p at *
 generalize gB b i=q at *
 refine z9 z17 Tryz.func210 rfl rfl 27 Tryz.ntmps210 (by simp) ?_
 cases p<;>cases q
 all_goals
  repeat' ((first|(apply y4 ok;rfl)|(refine z12 (i:=0) rfl rfl ?_)|(refine z12 (i:=1) rfl rfl ?_)|(refine z12 (i:=i) rfl g1 ?_)|(refine z12 (i:=i) rfl g2 ?_)|(apply y45;omega)|(apply z6 (c1);rfl;rfl))<;>conv=>whnf)
  all_goals exact z23 rfl rfl
theorem sat5_ok (g:Graph) (hG:GB g) (a:List Bool) (ha:a.length=g.st.length) (i:Nat) (S:List Bool) (hi:i < g.st.length) (hS:S.length=g.st.length):CallsA Tryz.prog 212 [.int i,lst 1 enB S,.pt [lst 1 z103 [a]],.pt g.cs] [] (.bool (alH g.nx true a i S)) []:=by
 have h60:=hG.1.2
 have g1:=z116 (S:=a) (i:=i) (by omega)
 have c1:=z662 g hG S hS i hi
 unfold alH
 generalize gB a i=p at *
 refine z9 z17 Tryz.func212 rfl rfl 19 Tryz.ntmps212 (by simp) ?_
 cases p
 all_goals
  repeat' ((first|(apply y4 ok;rfl)|(refine z12 (i:=0) rfl rfl ?_)|(refine z12 (i:=i) rfl g1 ?_)|(apply y45;omega)|(apply z6 (c1);rfl;rfl))<;>conv=>whnf)
  all_goals exact z23 rfl rfl
theorem sat7_ok (a:List Bool) (N:Nat) (hN:N≤1048576) (ha:a.length=N) (i:Nat) (hi:i < N):CallsA Tryz.prog 214 [.int i,.pt [lst 1 z103 [a]]] [] (.bool (!gB a i)) []:=by
 have g1:=z116 (S:=a) (i:=i) (by omega)
 refine z9 z17 Tryz.func214 rfl rfl 11 Tryz.ntmps214 (by simp) ?_
 repeat' ((first|(apply y4 ok;rfl)|(refine z12 (i:=0) rfl rfl ?_)|(refine z12 (i:=i) rfl g1 ?_)|(apply y45;omega))<;>conv=>whnf)
 all_goals exact z23 rfl rfl
theorem sat8_ok (a b:List Bool) (N:Nat) (hN:N≤1048576) (ha:a.length=N) (hb:b.length=N) (i:Nat) (hi:i < N):CallsA Tryz.prog 215 [.int i,.pt [lst 1 z103 [a,b]]] [] (.bool (gB a i && gB b i)) []:=by
 have g1:=z116 (S:=a) (i:=i) (by omega)
 have g2:=z116 (S:=b) (i:=i) (by omega)
 generalize gB a i=p at *
 generalize gB b i=q at *
 refine z9 z17 Tryz.func215 rfl rfl 18 Tryz.ntmps215 (by simp) ?_
 cases p<;>cases q
 all_goals
  repeat' ((first|(apply y4 ok;rfl)|(refine z12 (i:=0) rfl rfl ?_)|(refine z12 (i:=1) rfl rfl ?_)|(refine z12 (i:=i) rfl g1 ?_)|(refine z12 (i:=i) rfl g2 ?_)|(apply y45;omega))<;>conv=>whnf)
  all_goals exact z23 rfl rfl
theorem sat9_ok (a b:List Bool) (N:Nat) (hN:N≤1048576) (ha:a.length=N) (hb:b.length=N) (i:Nat) (hi:i < N):CallsA Tryz.prog 216 [.int i,.pt [lst 1 z103 [a,b]]] [] (.bool (gB a i || gB b i)) []:=by
 have g1:=z116 (S:=a) (i:=i) (by omega)
 have g2:=z116 (S:=b) (i:=i) (by omega)
 generalize gB a i=p at *
 generalize gB b i=q at *
 refine z9 z17 Tryz.func216 rfl rfl 18 Tryz.ntmps216 (by simp) ?_
 cases p<;>cases q
 all_goals
  repeat' ((first|(apply y4 ok;rfl)|(refine z12 (i:=0) rfl rfl ?_)|(refine z12 (i:=1) rfl rfl ?_)|(refine z12 (i:=i) rfl g1 ?_)|(refine z12 (i:=i) rfl g2 ?_)|(apply y45;omega))<;>conv=>whnf)
  all_goals exact z23 rfl rfl
theorem sat10_ok (g:Graph) (hG:GB g) (a:List Bool) (ha:a.length=g.st.length) (i:Nat) (hi:i < g.st.length):CallsA Tryz.prog 217 [.int i,.pt g.cs,.pt [lst 1 z103 [a]]] [] (.bool (nxB g.nx false i a)) []:=by
 have c1:=z814 g hG a ha i hi
 refine z9 z17 Tryz.func217 rfl rfl 11 Tryz.ntmps217 (by simp) ?_
 repeat' ((first|(apply y4 ok;rfl)|(apply z32;kernel_rfl)|(refine z12 (i:=0) rfl rfl ?_)|(apply y45;omega)|(apply z6 (c1);rfl;rfl))<;>conv=>whnf)
 all_goals exact z23 rfl rfl
theorem sat11_ok (g:Graph) (hG:GB g) (a:List Bool) (ha:a.length=g.st.length) (i:Nat) (hi:i < g.st.length):CallsA Tryz.prog 218 [.int i,.pt g.cs,.pt [lst 1 z103 [a]]] [] (.bool (nxB g.nx true i a)) []:=by
 have c1:=z662 g hG a ha i hi
 refine z9 z17 Tryz.func218 rfl rfl 11 Tryz.ntmps218 (by simp) ?_
 repeat' ((first|(apply y4 ok;rfl)|(apply z32;kernel_rfl)|(refine z12 (i:=0) rfl rfl ?_)|(apply y45;omega)|(apply z6 (c1);rfl;rfl))<;>conv=>whnf)
 all_goals exact z23 rfl rfl
end Go.Proofs.YtjhgpfaodkchjaaGreat
