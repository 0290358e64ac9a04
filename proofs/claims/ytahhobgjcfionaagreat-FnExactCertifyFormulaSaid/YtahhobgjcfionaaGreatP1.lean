/- A part of the proofs over this program: T19, T20, T21, T22, T23, T23R, T23S, T220, T31. -/
import Derived.Test.YtahhobgjcfionaaGreatG0
import Derived.Test.YtahhobgjcfionaaGreatG1
import Derived.Test.YtahhobgjcfionaaGreatG2
import Derived.Test.YtahhobgjcfionaaGreatG3
import Derived.Test.YtahhobgjcfionaaGreatP0
set_option linter.all false
namespace Go.Proofs.YtahhobgjcfionaaGreat
open Go.Gl
attribute [local irreducible] z21 AWP z42 z46 z43
theorem y13 (t:Tree):z24 Tree.cs' t=.agg [.int t.kind,.int t.val,lst 3 Tree.cs' t.kids]:=by
 simp only [z24,Tree.cs',lst,y28]
theorem z760 (t:Tree) (hm:t.mx):CallsA Tryz.prog 213 [z24 Tree.cs' t] [] (.int (if t.exprB then t.count 6 else 0)) []:=by
 have hk:=walk_ok t hm 1 0 (by omega) (by omega) (by omega) (by omega)
 obtain ⟨_,h2,_,_⟩:=Tree.walkE_spec.1 t 1 0 (by omega) (by omega)
 refine z6 z12 Tryz.func213 rfl rfl 8 Tryz.ntmps213 (by simp) ?_
 repeat' ((first|(apply y83 ok;rfl)|((apply z37)<;>intro _)|(apply z309 [1] [] hk;rfl;rfl;rfl))<;>conv=>whnf)
 ·rename_i h
  exact z50 rfl rfl (by rw [if_neg (by unfold Tree.exprB;rw [h];simp)];rfl)
 ·rename_i h
  have e:=h2 h
  rw [Int.zero_add] at e
  exact z50 rfl rfl (by rw [if_pos (show t.exprB=true from h),show t.count 6=(t.walkE 1 0).1 from e.symm];rfl)
theorem z759 (t:Tree) (hm:t.mx):CallsA Tryz.prog 154 [z24 Tree.cs' t] [] (.bool t.exprB) []:=by
 refine z6 z12 Tryz.func154 rfl rfl 6 Tryz.ntmps154 (by simp) ?_
 repeat' ((first|(apply y83 ok;rfl)|(apply z0 (z760 t hm);rfl;rfl))<;>conv=>whnf)
 refine z22 rfl ?_
 have:=Tree.count_pos.1 t 6
 cases t.exprB
 ·simp
 ·simp;omega
theorem z543 (t:Tree) (hm:t.mx):CallsA Tryz.prog 153 [z24 Tree.cs' t] [] (.bool (!t.exprB)) []:=by
 refine z6 z12 Tryz.func153 rfl rfl 6 Tryz.ntmps153 (by simp) ?_
 repeat' ((first|(apply y83 ok;rfl)|(apply z0 (z759 t hm);rfl;rfl))<;>conv=>whnf)
 exact z22 rfl rfl
def z224 (l:List Tree):Bool:=decide ((l.length:Int)=3) && l.all Tree.exprB
theorem z344 (l:List Tree) (hl:l.length≤maxLen) (hm:∀ t∈l,t.mx):CallsA Tryz.prog 75 [lst 3 Tree.cs' l] [] (.bool (z224 l)) []:=by
 have hk:=z446 l hl (fun t=>!t.exprB) 153 (fun t ht=>z543 t (hm t ht))
 refine z6 z12 Tryz.func75 rfl rfl 11 Tryz.ntmps75 (by simp) ?_
 repeat' ((first|(apply y83 ok;rfl)|((apply z2)<;>intro _)|(apply z0 (hk);rfl;rfl))<;>conv=>whnf)
 ·refine z22 rfl ?_
  rename_i h
  unfold z224
  rw [y80 h,List.all_eq_not_any_not];rfl
 ·refine z22 rfl ?_
  rename_i h
  unfold z224
  rw [y81 h];rfl
theorem z980 (k:Int):CallsA Tryz.prog 266 [.int k] [] (.int (z413 k)) []:=by
 refine z6 z12 Tryz.func266 rfl rfl 15 Tryz.ntmps266 (by simp) ?_
 repeat' ((first|(apply y83 ok;rfl)|((apply z2)<;>intro _))<;>conv=>whnf)
 all_goals (refine z50 rfl rfl ?_;unfold z413;first|(rw [if_pos (by omega)];rfl)|(rw [if_neg (by omega),if_pos (by omega)];rfl)|(rw [if_neg (by omega),if_neg (by omega),if_pos (by omega)];rfl)|(rw [if_neg (by omega),if_neg (by omega),if_neg (by omega)];rfl))
theorem z953 (l:List Tree) (d:Int):Tree.shapes l d=l.all (fun t=>t.shape d):=by
 induction l with
 |nil=>rfl
 |cons t l ih=>simp [Tree.shapes,ih]
theorem z479 (t:Tree) (d:Int):t.shape d=(decide (1≤d∧(t.kids.length:Int)=z413 t.kind∧0≤t.val∧t.val≤z437 t.kind) && t.kids.all fun t=>t.shape (d - 1)):=by
 cases t;simp only [Tree.shape,Tree.kids,Tree.kind,Tree.val,z953];rfl
theorem z978 (t:Tree):t.mx→∀ d:Int,-100≤d→d≤100→CallsA Tryz.prog 246 [z24 Tree.cs' t,.int d] [] (.bool (t.shape d)) []:=by
  induction t using y27 with|h t ih=>?_
  intro hm d h0 h1
  rw [y29] at hm
  have hl:=hm.1
  unfold maxLen at hl
  rw [y13,z479]
  refine z6 z12 Tryz.func246 rfl rfl 49 Tryz.ntmps246 (by simp) ?_
  repeat' ((first|(apply y83 ok;rfl)|(apply z7;kernel_rfl)|((first|apply z2|apply z8)<;>intro _)|(apply z0 (z980 _);rfl;rfl))<;>conv=>whnf)
  all_goals first
    | (refine z22 rfl ?_
       rw [y81]
       · rfl
       · clear ih
         rintro ⟨c1,c2,c3,c4⟩
         unfold z437 at c4
         grind)
    | (have hg : decide (1 ≤ d ∧ (t.kids.length : Int) = z413 t.kind ∧ 0 ≤ t.val ∧ t.val ≤ z437 t.kind) = true := by
         clear ih
         refine y80 ?_
         unfold z437
         grind
       rw [hg,Bool.true_and]
       refine z93 (fun k:Nat=>([(1,.int d),(2,.ptr 0 none 0),(6,.int k)],[.cells 3 [[.int t.kind,.int t.val,lst 3 Tree.cs' t.kids]]])) (fun k=>k≤t.kids.length∧(t.kids.all fun t=>t.shape (d - 1))=(t.kids.drop k).all fun t=>t.shape (d - 1)) (fun k=>t.kids.length - k) 0 ⟨by omega,rfl⟩ ⟨[0],rfl,by decide,rfl,by repeat' (first|exact True.intro|exact ⟨rfl,rfl⟩|apply y44),by repeat' (first|exact True.intro|exact z25 rfl rfl|apply y44)⟩ ?_
       intro k hk
       repeat' ((first|(apply y83 ok;rfl)|(apply y44;first|omega|(unfold inI;omega))|(((with_reducible apply z4;omega));intro _)|((first|apply z2|apply z37)<;>intro _)|(apply z0 (ih t.kids[k] (y45 _) (hm.2 _ (y45 _)) (d - 1) (by omega) (by omega));rfl;rfl))<;>conv=>whnf)
       · rename_i h1
         exact z22 rfl (by rw [hk.2,z188 _ _ _ (by assumption)];simp [h1])
       · rename_i h1
         exact z81 (k+1) [0] ⟨by omega,by rw [hk.2,z188 _ _ _ (by assumption)];simp [h1]⟩ (by omega) ⟨rfl,by decide,rfl,by repeat' (first|exact True.intro|exact ⟨rfl,rfl⟩|apply y44),by repeat' (first|exact True.intro|exact z25 rfl rfl|apply y44)⟩
       · exact z22 rfl (by rw [hk.2,z216 _ _ _ (by omega)]))
theorem z499 (t:Tree) (d:Int):t.count d=if 0 < d then 1+(t.kids.map fun t=>t.count (d - 1)).sum else 1:=by
 have:∀ (l:List Tree) d,Tree.counts l d=(l.map fun t=>t.count d).sum:=by
  intro l d
  induction l with
  |nil=>rfl
  |cons t l ih=>simp [Tree.counts,ih]
 cases t;simp only [Tree.count,Tree.kids,this]
theorem count_le (t:Tree):∀ d n:Nat,t.shape d=true→t.count n≤2 ^ d - 1:=by
 induction t using y27 with|h t ih=>?_
 intro d n h
 rw [z479,y69,decide_eq_true_eq] at h
 obtain ⟨⟨h1,h2,_,_⟩,h3⟩:=h
 rw [y76] at h3
 obtain ⟨d,rfl⟩:∃ e,d=e+1:=⟨d - 1,by omega⟩
 have e:((d+1:Nat):Int) - 1=(d:Nat):=by omega
 rw [e] at h3
 rw [z499]
 have hp:(1:Int)≤2 ^ d:=by exact_mod_cast Nat.one_le_two_pow
 have hq:((2:Int) ^ (d+1))=2 * 2 ^ d:=by rw [Int.pow_succ];omega
 split
 ·rename_i hn
  obtain ⟨n,rfl⟩:∃ e,n=e+1:=⟨n - 1,by omega⟩
  have e:((n+1:Nat):Int) - 1=(n:Nat):=by omega
  rw [e]
  have hl:(t.kids.length:Int)≤2:=by rw [h2];unfold z413;grind
  have hk:∀ u∈t.kids,u.count n≤2 ^ d - 1:=fun u hu=>ih u hu d n (h3 u hu)
  match hkk:t.kids with
  |[]=>simp only [List.map_nil,List.sum_nil];omega
  |[a] =>
   have:=hk a (by simp [hkk])
   simp only [List.map_cons,List.map_nil,List.sum_cons,List.sum_nil];omega
  |[a,b] =>
   have:=hk a (by simp [hkk])
   have:=hk b (by simp [hkk])
   simp only [List.map_cons,List.map_nil,List.sum_cons,List.sum_nil];omega
  |a::b::c::r=>rw [hkk] at hl;simp only [y57] at hl;omega
 ·omega
theorem z478 (f:Tree→Int) (l:List Tree) (k:Nat) (hk:k < l.length):((l.take (k+1)).map f).sum=((l.take k).map f).sum+f l[k]:=by
 rw [y51 hk,y62,List.sum_append];simp
theorem z858 (t:Tree) (e d:Int) (he:e≤50) (hd:0≤d) (h:t.shape e=true):t.count d≤2 ^ 50:=by
 have h1:1≤e:=by
  rw [z479,y69,decide_eq_true_eq] at h;exact h.1.1
 obtain ⟨n,rfl⟩:=Int.eq_ofNat_of_zero_le (show 0≤e by omega)
 obtain ⟨m,rfl⟩:=Int.eq_ofNat_of_zero_le hd
 have h2:=count_le t n m h
 have h4:(2:Int) ^ n≤2 ^ 50:=by exact_mod_cast Nat.pow_le_pow_right (by omega) (by omega)
 omega
theorem z979 (t:Tree):t.mx→∀ e d:Int,e≤50→0≤d→d≤50→t.shape e=true→CallsA Tryz.prog 247 [z24 Tree.cs' t,.int d] [] (.int (t.count d)) []:=by
 induction t using y27 with|h t ih=>?_
 intro hm e d h0 h1 h2 hs
 rw [y29] at hm
 rw [z479,y69,decide_eq_true_eq,y76] at hs
 obtain ⟨⟨hs1,hs2,_,_⟩,hs3⟩:=hs
 have hl:(t.kids.length:Int)≤2:=by rw [hs2];unfold z413;grind
 rw [y13,z499]
 have hb:0 < d→∀ k,k≤t.kids.length→0≤((t.kids.take k).map fun t=>t.count (d - 1)).sum∧((t.kids.take k).map fun t=>t.count (d - 1)).sum≤k * 2 ^ 50:=by
  intro hd k
  induction k with
  |zero=>intro _;simp
  |succ k ihk =>
   intro hk
   have h1:=ihk (by omega)
   rw [z478 _ _ _ (by omega)]
   have h2:=z858 t.kids[k] (e - 1) (d - 1) (by omega) (by omega) (hs3 _ (y45 _))
   have h3:=Tree.count_pos.1 t.kids[k] (d - 1)
   omega
 refine z6 z12 Tryz.func247 rfl rfl 29 Tryz.ntmps247 (by simp) ?_
 repeat' (((apply y83 ok;rfl))<;>conv=>whnf)
 by_cases hd:0 < d
 ·rw [if_pos hd]
  refine z93 (fun k:Nat=>([(1,.int d),(2,.ptr 0 none 0),(5,.int (1+((t.kids.take k).map fun t=>t.count (d - 1)).sum)),(6,.int k)],[.cells 3 [[.int t.kind,.int t.val,lst 3 Tree.cs' t.kids]]])) (fun k=>k≤t.kids.length) (fun k=>t.kids.length - k) 0 (by omega) ⟨[0],rfl,by decide,rfl,by repeat' (first|exact True.intro|exact ⟨rfl,rfl⟩|apply y44),by repeat' (first|exact True.intro|exact z25 rfl rfl|apply y44)⟩ ?_
  intro k hk
  have hbk:=hb hd k hk
  have hbk1:=fun h=>hb hd (k+1) h
  have hss:=fun h=>z478 (fun t=>t.count (d - 1)) t.kids k h
  repeat' ((first|(apply y83 ok;rfl)|(apply y44;first|omega|(unfold inI;omega))|(((with_reducible apply z4;omega));intro _)|((apply z2)<;>intro _)|(apply z0 (ih t.kids[k] (y45 _) (hm.2 _ (y45 _)) (e - 1) (d - 1) (by omega) (by omega) (by omega) (hs3 _ (y45 _)));rfl;rfl))<;>conv=>whnf)
  ·have e1:=hss ‹_›
   have e2:=hbk1 (by omega)
   refine y44 (by unfold inI;omega) ?_
   conv=>whnf
   repeat' ((first|(apply y83 ok;rfl)|(apply y44;(unfold inI;omega)))<;>conv=>whnf)
   exact z81 (k+1) [0] (by omega) (by omega) ⟨rfl,by decide,rfl,⟨⟨rfl,rfl⟩,⟨rfl,rfl⟩,⟨rfl,by rw [e1,← Int.add_assoc];rfl⟩,⟨rfl,rfl⟩,trivial⟩,⟨z25 rfl rfl,trivial⟩⟩
  ·omega
  ·obtain rfl:k=t.kids.length:=by omega
   exact z50 rfl rfl (by rw [y55];rfl)
 ·rw [if_neg hd]
  refine z93 (fun k:Nat=>([(1,.int d),(2,.ptr 0 none 0),(5,.int 1),(6,.int k)],[.cells 3 [[.int t.kind,.int t.val,lst 3 Tree.cs' t.kids]]])) (fun k=>k≤t.kids.length) (fun k=>t.kids.length - k) 0 (by omega) ⟨[0],rfl,by decide,rfl,by repeat' (first|exact True.intro|exact ⟨rfl,rfl⟩|apply y44),by repeat' (first|exact True.intro|exact z25 rfl rfl|apply y44)⟩ ?_
  intro k hk
  repeat' ((first|(apply y83 ok;rfl)|(apply y44;omega)|(((with_reducible apply z4;omega));intro _)|((apply z2)<;>intro _))<;>conv=>whnf)
  ·omega
  ·exact z50 rfl rfl rfl
  ·exact z50 rfl rfl rfl
theorem z469 (t:Tree) (hm:t.mx):CallsA Tryz.prog 210 [z24 Tree.cs' t] [] (.bool t.exprB) []:=by
 rw [y20]
 refine z6 z12 Tryz.func210 rfl rfl 10 Tryz.ntmps210 (by simp) ?_
 repeat' ((first|(apply y83 ok;rfl)|((apply z47)<;>intro _)|(apply z0 (z978 t hm 6 (by omega) (by omega));rfl;rfl)|(apply z0 (z979 t hm 6 6 (by omega) (by omega) (by omega) (by assumption));rfl;rfl))<;>conv=>whnf)
 all_goals (refine z22 rfl ?_;(simp [*];done))
theorem z376 (l:List Tree) (hl:l.length≤maxLen) (hm:∀ t∈l,t.mx):CallsA Tryz.prog 145 [lst 3 Tree.cs' l] [] (.bool (z224 l)) []:=by
 unfold maxLen at hl
 unfold z224
 refine z6 z12 Tryz.func145 rfl rfl 19 Tryz.ntmps145 (by simp) ?_
 repeat' (((apply y83 ok;rfl))<;>conv=>whnf)
 refine z93 (fun k:Nat=>([(0,lst 3 Tree.cs' l),(3,.int k)],[])) (fun k=>k≤l.length∧l.all Tree.exprB=(l.drop k).all Tree.exprB) (fun k=>l.length - k) 0 ⟨by omega,rfl⟩ ⟨[],rfl,by decide,rfl,by repeat' (first|exact True.intro|exact ⟨rfl,rfl⟩|apply y44),by repeat' (exact True.intro)⟩ ?_
 intro k hk
 repeat' ((first|(apply y83 ok;rfl)|(apply y44;first|omega|(unfold inI;omega))|(((with_reducible apply z4;omega));intro _)|((first|apply z2|apply z37)<;>intro _)|(apply z0 (z469 l[k] (hm _ (y45 _)));rfl;rfl))<;>conv=>whnf)
 ·rename_i h1
  exact z22 rfl (by rw [hk.2,z188 _ _ _ (by assumption)];simp [h1])
 ·rename_i h1
  exact z81 (k+1) [] ⟨by omega,by rw [hk.2,z188 _ _ _ (by assumption)];simp [h1]⟩ (by omega) ⟨rfl,by decide,rfl,by repeat' (first|exact True.intro|exact ⟨rfl,rfl⟩|apply y44),by repeat' (exact True.intro)⟩
 ·exact z22 rfl (by rw [hk.2,z216 _ _ _ (by omega),Bool.and_true])
theorem z882 (b:Bool):CallsA Tryz.prog 250 [.bool b] [] (.int (b2i b)) []:=by
 refine z6 z12 Tryz.func250 rfl rfl 4 Tryz.ntmps250 (by simp) ?_
 repeat' ((first|(apply y83 ok;rfl)|((apply z47)<;>intro _))<;>conv=>whnf)
 all_goals (refine z50 rfl rfl ?_;simp only [*];rfl)
theorem z748 (b:Bool):CallsA Tryz.prog 267 [.bool b] [] (.int (b2i b)) []:=by
 refine z6 z12 Tryz.func267 rfl rfl 4 Tryz.ntmps267 (by simp) ?_
 repeat' ((first|(apply y83 ok;rfl)|((apply z47)<;>intro _))<;>conv=>whnf)
 all_goals (refine z50 rfl rfl ?_;simp only [*];rfl)
theorem z611 {t:Tree} (hg:t.good):(∃ x,t=.mk 1 x []∧0≤x∧x≤3)∨(∃ x,t=.mk 2 x []∧0≤x∧x≤2)∨(∃ x a,t=.mk 3 x [a]∧a.good)∨(∃ k x a b,t=.mk k x [a,b]∧4≤k∧k≤9∧a.good∧b.good):=by
 obtain ⟨g1,g2,g3,g4⟩:=y25 hg
 obtain ⟨k,x,l⟩:=t
 simp only [Tree.kind,Tree.val,Tree.kids] at *
 unfold z413 at g1
 unfold z437 at g3
 match l,g1,g4 with
 |[],g1,_ =>
  simp only [y58] at g1
  have:k=1∨k=2:=by grind
  rcases this with rfl|rfl
  ·exact .inl ⟨x,rfl,g2,by grind⟩
  ·exact .inr (.inl ⟨x,rfl,g2,by grind⟩)
 |[a],g1,g4 =>
  simp only [y57,y58] at g1
  have:k=3:=by grind
  subst this
  exact .inr (.inr (.inl ⟨x,a,rfl,g4 a (by simp)⟩))
 |[a,b],g1,g4 =>
  simp only [y57,y58] at g1
  exact .inr (.inr (.inr ⟨k,x,a,b,rfl,by grind,by grind,g4 a (by simp),g4 b (by simp)⟩))
 |a::b::c::r,g1,_=>simp only [y57] at g1;grind
theorem eval_ok (v:List Int) (hv:ValsOk v) (t:Tree):t.good→CallsA Tryz.prog 214 [z24 Tree.cs' t,ints v] [] (.int (t.ev v)) []:=by
 induction t using y27 with|h t ih=>?_
 intro hg
 have hl:=hv.1
 rw [y13]
 rcases z611 hg with ⟨x,rfl,h1,h2⟩|⟨x,rfl,h1,h2⟩|⟨x,a,rfl,h1⟩|⟨k,x,a,b,rfl,h1,h2,h3,h4⟩<;>simp only [Tree.kind,Tree.val,Tree.kids] at *
 ·refine z6 z12 Tryz.func214 rfl rfl 82 Tryz.ntmps214 (by simp) ?_
  repeat' (((apply y83 ok;rfl))<;>conv=>whnf)
  all_goals (exact z50 rfl rfl (by rw [Tree.ev,if_pos rfl];rfl))
 ·refine z6 z12 Tryz.func214 rfl rfl 82 Tryz.ntmps214 (by simp) ?_
  repeat' ((first|(apply y83 ok;rfl)|(apply y44;omega)|(apply z69;omega;intro _))<;>conv=>whnf)
  refine z50 rfl rfl ?_
  rw [Tree.ev,if_neg (by omega),if_pos rfl,y66,y46 (by omega)];rfl
 ·have ha:=y19 hv a h1
  refine z6 z12 Tryz.func214 rfl rfl 82 Tryz.ntmps214 (by simp) ?_
  repeat' ((first|(apply y83 ok;rfl)|(apply y44;omega)|apply z66|(apply z0 (ih a (by simp) h1);rfl;rfl)|(apply z0 (z882 _);rfl;rfl))<;>conv=>whnf)
  all_goals (refine z50 rfl rfl ?_;rw [Tree.ev,if_neg (by omega),if_neg (by omega)];simp only [Tree.evs];rfl)
 ·have ha:=y19 hv a h3
  have hb:=y19 hv b h4
  refine z6 z12 Tryz.func214 rfl rfl 82 Tryz.ntmps214 (by simp) ?_
  repeat' ((first|(apply y83 ok;rfl)|(apply y44;first|omega|(unfold inI;omega))|(((apply z4;omega));intro _)|apply z66|((first|apply z2|apply z8)<;>intro _)|(apply z0 (ih a (by simp) h3);rfl;rfl)|(apply z0 (ih b (by simp) h4);rfl;rfl)|(apply z0 (z882 _);rfl;rfl))<;>conv=>whnf)
  all_goals try (exfalso;omega)
  all_goals (refine z825 rfl ?_;clear ih;simp only [Tree.ev,Tree.evs,b2i];grind)
theorem z1118 (v:List Int) (hv:ValsOk v) (t:Tree):t.good→CallsA Tryz.prog 248 [z24 Tree.cs' t,ints v] [] (.int (t.ev v)) []:=by
 induction t using y27 with|h t ih=>?_
 intro hg
 have hl:=hv.1
 rw [y13]
 rcases z611 hg with ⟨x,rfl,h1,h2⟩|⟨x,rfl,h1,h2⟩|⟨x,a,rfl,h1⟩|⟨k,x,a,b,rfl,h1,h2,h3,h4⟩<;>simp only [Tree.kind,Tree.val,Tree.kids] at *
 ·refine z6 z12 Tryz.func248 rfl rfl 86 Tryz.ntmps248 (by simp) ?_
  repeat' (((apply y83 ok;rfl))<;>conv=>whnf)
  all_goals (exact z50 rfl rfl (by rw [Tree.ev,if_pos rfl];rfl))
 ·refine z6 z12 Tryz.func248 rfl rfl 86 Tryz.ntmps248 (by simp) ?_
  repeat' ((first|(apply y83 ok;rfl)|(apply y44;omega)|(apply z69;omega;intro _))<;>conv=>whnf)
  refine z50 rfl rfl ?_
  rw [Tree.ev,if_neg (by omega),if_pos rfl,y66,y46 (by omega)];rfl
 ·have ha:=y19 hv a h1
  refine z6 z12 Tryz.func248 rfl rfl 86 Tryz.ntmps248 (by simp) ?_
  repeat' ((first|(apply y83 ok;rfl)|(apply y44;omega)|apply z66|(apply z0 (ih a (by simp) h1);rfl;rfl)|(apply z0 (z748 _);rfl;rfl))<;>conv=>whnf)
  all_goals (refine z50 rfl rfl ?_;rw [Tree.ev,if_neg (by omega),if_neg (by omega)];simp only [Tree.evs];rfl)
 ·have ha:=y19 hv a h3
  have hb:=y19 hv b h4
  refine z6 z12 Tryz.func248 rfl rfl 86 Tryz.ntmps248 (by simp) ?_
  repeat' ((first|(apply y83 ok;rfl)|(apply y44;first|omega|(unfold inI;omega))|(((apply z4;omega));intro _)|apply z66|((first|apply z2|apply z8)<;>intro _)|(apply z0 (ih a (by simp) h3);rfl;rfl)|(apply z0 (ih b (by simp) h4);rfl;rfl)|(apply z0 (z748 _);rfl;rfl))<;>conv=>whnf)
  all_goals try (exfalso;omega)
  all_goals (refine z825 rfl ?_;clear ih;simp only [Tree.ev,Tree.evs,b2i];grind)
def ltr (v:List Int) (l:List Tree) (k n:Nat):Nat:=match l with
 |[]=>n
 |t::r=>ltr v r (k+1) (if t.ev v=0 then n else n ||| 2 ^ k)
theorem z488 (v:List Int) (l:List Tree) (k n:Nat) (h:k < l.length):ltr v (l.drop k) k n=ltr v (l.drop (k+1)) (k+1) (if l[k].ev v=0 then n else n ||| 2 ^ k):=by
 rw [y77 h,ltr]
theorem z1098 (v:List Int) (l:List Tree) (k n:Nat) (h:l.length≤k):ltr v (l.drop k) k n=n:=by
 rw [y82 h,ltr]
def z35 (labels:List Tree) (s:State):Int:=ltr s.b labels 0 0
theorem or_lt {n k:Nat} (h:n < 2 ^ k):n ||| 2 ^ k < 2 ^ (k+1) :=
 Nat.or_lt_two_pow (by rw [Nat.pow_succ];omega) (by rw [Nat.pow_succ];have:=Nat.two_pow_pos k;omega)
def z174 (l:List Tree):Prop:=l.length=3∧∀ t∈l,t.good
theorem y9 {l:List Tree} (h:z224 l=true):z174 l:=by
 simp only [z224,y69,decide_eq_true_eq,y76] at h
 exact ⟨by omega,fun t ht=>y26 (h.2 t ht)⟩
theorem z888 (k:Nat) (hk:k < 3):(1:Int) * 2 ^ ((k:Int).toNat)=((2 ^ k:Nat):Int):=by simp
theorem z382 {k:Nat} (hk:k < 3):2 ^ k≤8∧2 ^ (k+1)≤8∧0 < 2 ^ k:=by
 have:k=0∨k=1∨k=2:=by omega
 rcases this with rfl|rfl|rfl<;>simp
theorem z1100 (s:State) (hv:ValsOk s.b) (l:List Tree) (hl:z174 l):CallsA Tryz.prog 155 [ints s.b,lst 3 Tree.cs' l] [] (.int (z35 l s)) []:=by
 have h3:=hl.1
 refine z6 z12 Tryz.func155 rfl rfl 25 Tryz.ntmps155 (by simp) ?_
 repeat' (((apply y83 ok;rfl))<;>conv=>whnf)
 refine z93 (fun x:Nat×Nat=>([(0,ints s.b),(5,.int x.2),(8,lst 3 Tree.cs' l),(9,.int l.length),(10,.int x.1)],[])) (fun x=>x.1≤l.length∧x.2 < 2 ^ x.1∧ltr s.b l 0 0=ltr s.b (l.drop x.1) x.1 x.2) (fun x=>l.length - x.1) (0,0) ⟨by omega,by decide,rfl⟩ ⟨[],rfl,by decide,rfl,by repeat' (first|exact True.intro|exact ⟨rfl,rfl⟩|apply y44),by repeat' (exact True.intro)⟩ ?_
 rintro ⟨k,n⟩ ⟨hk1,hk2,hk3⟩
 dsimp only at hk1 hk2 hk3
 repeat' ((first|(apply y83 ok;rfl)|(apply y44;first|omega|(unfold inI;omega))|(((with_reducible apply z4;omega));intro _)|((first|apply z2|apply z8)<;>intro _)|(apply z0 (eval_ok s.b hv l[k] (hl.2 _ (y45 _)));rfl;rfl))<;>conv=>whnf)
 ·rename_i hkl h
  have hp:=z382 (show k < 3 by omega)
  have e:=z888 k (by omega)
  refine y44 ⟨by omega,by omega,by rw [e];unfold inI;omega⟩ ?_
  conv=>whnf
  refine y44 (by rw [e];unfold z39;omega) ?_
  conv=>whnf
  repeat' ((first|(apply y83 ok;rfl)|(apply y44;(unfold inI;omega)))<;>conv=>whnf)
  rw [z488 _ _ _ _ hkl,if_neg h] at hk3
  refine z81 (k+1,n ||| 2 ^ k) [] ⟨by dsimp only;omega,or_lt hk2,hk3⟩ (by dsimp only;omega) ⟨rfl,by decide,rfl,⟨⟨rfl,rfl⟩,⟨rfl,?_⟩,⟨rfl,rfl⟩,⟨rfl,rfl⟩,⟨rfl,rfl⟩,trivial⟩,trivial⟩
  show AC.raw (.int .i64 (((n:Int).toNat ||| ((1:Int) * 2 ^ ((k:Int).toNat)).toNat:Nat):Int))=_
  rw [e];rfl
 ·rename_i hkl h
  rw [z488 _ _ _ _ hkl,if_pos h] at hk3
  have:2 ^ k≤2 ^ (k+1):=by rw [Nat.pow_succ];omega
  exact z81 (k+1,n) [] ⟨by dsimp only;omega,by dsimp only;omega,hk3⟩ (by dsimp only;omega) ⟨rfl,by decide,rfl,by repeat' (first|exact True.intro|exact ⟨rfl,rfl⟩|apply y44),by repeat' (exact True.intro)⟩
 ·rw [z1098 _ _ _ _ (by omega)] at hk3
  exact z50 rfl rfl (by unfold z35;rw [hk3];rfl)
theorem z841 (s:State) (hv:ValsOk s.b) (l:List Tree) (hl:z174 l):CallsA Tryz.prog 211 [z24 State.cs s,lst 3 Tree.cs' l] [] (.int (z35 l s)) []:=by
 have h3:=hl.1
 refine z6 z12 Tryz.func211 rfl rfl 27 Tryz.ntmps211 (by simp) ?_
 repeat' (((apply y83 ok;rfl))<;>conv=>whnf)
 refine z93 (fun x:Nat×Nat=>([(1,lst 3 Tree.cs' l),(2,.ptr 0 none 0),(5,.int x.2),(6,.int x.1)],[.cells 2 [[ints s.a,ints s.b]]])) (fun x=>x.1≤l.length∧x.2 < 2 ^ x.1∧ltr s.b l 0 0=ltr s.b (l.drop x.1) x.1 x.2) (fun x=>l.length - x.1) (0,0) ⟨by omega,by decide,rfl⟩ ⟨[0],rfl,by decide,rfl,by repeat' (first|exact True.intro|exact ⟨rfl,rfl⟩|apply y44),by repeat' (first|exact True.intro|exact z25 rfl rfl|apply y44)⟩ ?_
 rintro ⟨k,n⟩ ⟨hk1,hk2,hk3⟩
 dsimp only at hk1 hk2 hk3
 repeat' ((first|(apply y83 ok;rfl)|(apply z7;kernel_rfl)|(apply y44;first|omega|(unfold inI;omega))|(((with_reducible apply z4;omega));intro _)|((first|apply z2|apply z8)<;>intro _)|(apply z0 (z1118 s.b hv l[k] (hl.2 _ (y45 _)));rfl;rfl))<;>conv=>whnf)
 ·rename_i hkl h
  have hp:=z382 (show k < 3 by omega)
  have e:=z888 k (by omega)
  refine y44 ?_ ?_
  ·show IntKind.u64.wrap k=k
   have:k=0∨k=1∨k=2:=by dsimp only at hkl;omega
   rcases this with rfl|rfl|rfl<;>rfl
  conv=>whnf
  refine y44 ⟨by omega,by omega,by rw [e];unfold inI;omega⟩ ?_
  conv=>whnf
  refine y44 (by rw [e];unfold z39;omega) ?_
  conv=>whnf
  repeat' ((first|(apply y83 ok;rfl)|(apply y44;(unfold inI;omega)))<;>conv=>whnf)
  rw [z488 _ _ _ _ hkl,if_neg h] at hk3
  refine z81 (k+1,n ||| 2 ^ k) [0] ⟨by dsimp only;omega,or_lt hk2,hk3⟩ (by dsimp only;omega) ⟨rfl,by decide,rfl,⟨⟨rfl,rfl⟩,⟨rfl,rfl⟩,⟨rfl,?_⟩,⟨rfl,rfl⟩,trivial⟩,⟨z25 rfl rfl,trivial⟩⟩
  show AC.raw (.int .i64 (((n:Int).toNat ||| ((1:Int) * 2 ^ ((k:Int).toNat)).toNat:Nat):Int))=_
  rw [e];rfl
 ·rename_i hkl h
  rw [z488 _ _ _ _ hkl,if_pos h] at hk3
  have:2 ^ k≤2 ^ (k+1):=by rw [Nat.pow_succ];omega
  exact z81 (k+1,n) [0] ⟨by dsimp only;omega,by dsimp only;omega,hk3⟩ (by dsimp only;omega) ⟨rfl,by decide,rfl,by repeat' (first|exact True.intro|exact ⟨rfl,rfl⟩|apply y44),by repeat' (first|exact True.intro|exact z25 rfl rfl|apply y44)⟩
 ·rw [z1098 _ _ _ _ (by omega)] at hk3
  exact z50 rfl rfl (by unfold z35;rw [hk3];rfl)
theorem z1106 (g:Graph) (hg:∀ s∈g.st,ValsOk s.b) (hn:g.st.length≤60) (l:List Tree) (hl:z174 l):CallsA Tryz.prog 76 [.agg g.cs,lst 3 Tree.cs' l] [] (.sref 0 0 g.st.length) [.cells 1 (g.st.map fun s=>enI (z35 l s))]:=by
 refine z6 z12 Tryz.func76 rfl rfl 29 Tryz.ntmps76 (by simp) ?_
 repeat' ((first|(apply y83 ok;rfl)|(apply y44;(dsimp only;omega)))<;>conv=>whnf)
 refine z93 (fun k:Nat=>([(1,lst 3 Tree.cs' l),(5,.sref 0 0 g.st.length),(13,lst 2 State.cs g.st),(14,.int g.st.length),(15,.int k)],[.cells 1 ((g.st.take k).map (fun s=>enI (z35 l s))++List.replicate (g.st.length - k) (enI 0))])) (fun k=>k≤g.st.length) (fun k=>g.st.length - k) 0 (by omega) ⟨[1],rfl,by decide,rfl,by repeat' (first|exact True.intro|exact ⟨rfl,rfl⟩|apply y44),by repeat' (first|exact True.intro|exact z17 (by rfl) (by (first|exact z19|exact z3 rfl))|apply y44)⟩ ?_
 intro k hk
 repeat' ((first|(apply y83 ok;rfl)|(apply y44;first|omega|(unfold inI;omega))|(((with_reducible apply z4;omega));intro _)|(apply z56;omega)|((apply z2)<;>intro _)|(apply z0 (z1100 g.st[k] (hg _ (y45 _)) l hl);rfl;rfl))<;>conv=>whnf)
 ·rename_i h hkl
  exact z81 (k+1) [0] (by omega) (by omega) ⟨rfl,by decide,rfl,⟨⟨rfl,rfl⟩,⟨rfl,rfl⟩,⟨rfl,rfl⟩,⟨rfl,rfl⟩,⟨rfl,rfl⟩,trivial⟩,⟨z899 hkl rfl rfl rfl (fun _=>rfl) rfl,trivial⟩⟩
 ·exact z222 rfl (z1 fun _=>rfl) rfl (z324 _ _ _ _ (by omega))
theorem label_ok (g:Graph) (hg:∀ s∈g.st,ValsOk s.b) (hn:g.st.length≤60) (l:List Tree) (hl:z174 l):CallsA Tryz.prog 76 [.agg g.cs,lst 3 Tree.cs' l] [] (ints (g.st.map (z35 l))) []:=by
 have h:=(z1106 g hg hn l hl).keep (z149 _ _) (by simp)
 unfold ints
 rw [y50,List.map_map]
 exact h
theorem z663 (g:Graph) (hg:∀ s∈g.st,ValsOk s.b) (hn:g.st.length≤60) (l:List Tree) (hl:z174 l):CallsA Tryz.prog 146 [.agg g.cs,lst 3 Tree.cs' l] [] (.sref 0 0 g.st.length) [.cells 1 (g.st.map fun s=>enI (z35 l s))]:=by
 refine z6 z12 Tryz.func146 rfl rfl 26 Tryz.ntmps146 (by simp) ?_
 repeat' (((apply y83 ok;rfl))<;>conv=>whnf)
 refine z93 (fun k:Nat=>([(1,lst 3 Tree.cs' l),(2,.ptr 0 none 0),(5,.sref 1 0 k),(6,.int k)],[.cells 2 [[lst 2 State.cs g.st,lst 1 encL g.nx]],.cells 1 ((g.st.take k).map fun s=>enI (z35 l s))])) (fun k=>k≤g.st.length) (fun k=>g.st.length - k) 0 (by omega) ⟨[0,1],rfl,by decide,rfl,by repeat' (first|exact True.intro|exact ⟨rfl,rfl⟩|apply y44),by repeat' (first|exact True.intro|exact z25 rfl rfl|exact z17 (by rfl) (by (exact z19))|apply y44)⟩ ?_
 intro k hk
 repeat' ((first|(apply y83 ok;rfl)|(apply y44;first|omega|(unfold inI;omega)|((try dsimp only);simp only [y50,y49,y48,y47,y57,y58];omega)|exact ⟨rfl,z23 rfl z29⟩)|(((with_reducible apply z4;omega));intro _)|((apply z2)<;>intro _)|(apply z0 (z841 g.st[k] (hg _ (y45 _)) l hl);rfl;rfl))<;>conv=>whnf)
 ·rename_i h hkl
  exact z81 (k+1) [0,3] (by omega) (by omega) ⟨rfl,by decide,rfl,⟨⟨rfl,rfl⟩,⟨rfl,rfl⟩,⟨rfl,rfl⟩,⟨rfl,rfl⟩,trivial⟩,⟨z25 rfl rfl,obj_app hkl _ rfl rfl rfl (fun _=>rfl),trivial⟩⟩
 ·obtain rfl:k=g.st.length:=by omega
  exact z222 rfl (z1 fun _=>rfl) rfl (by rw [y55])
theorem z742 (g:Graph) (hg:∀ s∈g.st,ValsOk s.b) (hn:g.st.length≤60) (l:List Tree) (hl:z174 l):CallsA Tryz.prog 146 [.agg g.cs,lst 3 Tree.cs' l] [] (ints (g.st.map (z35 l))) []:=by
 have h:=(z663 g hg hn l hl).keep (z149 _ _) (by simp)
 unfold ints
 rw [y50,List.map_map]
 exact h
theorem z1117 (l:List Int) (hl:l.length≤maxLen):CallsA Tryz.prog 209 [ints l] [] (.bool (z466 l)) []:=by
 unfold maxLen at hl
 have e:z466 l=(l.all (fun n=>btw n 0 3) && decide ((l.length:Int)=3)):=by
  unfold z466;rw [Bool.and_comm,List.all_eq_not_any_not]
 rw [e]
 refine z6 z12 Tryz.func209 rfl rfl 25 Tryz.ntmps209 (by simp) ?_
 repeat' (((apply y83 ok;rfl))<;>conv=>whnf)
 refine z93 (fun k:Nat=>([(0,ints l),(3,.int k)],[])) (fun k=>k≤l.length∧l.all (fun n=>btw n 0 3)=(l.drop k).all (fun n=>btw n 0 3)) (fun k=>l.length - k) 0 ⟨by omega,rfl⟩ ⟨[],rfl,by decide,rfl,by repeat' (first|exact True.intro|exact ⟨rfl,rfl⟩|apply y44),by repeat' (exact True.intro)⟩ ?_
 intro k hk
 repeat' ((first|(apply y83 ok;rfl)|(apply y44;first|omega|(unfold inI;omega))|(((with_reducible apply z4;omega));intro _)|((apply z2)<;>intro _))<;>conv=>whnf)
 ·refine z22 rfl ?_
  have:btw l[k] 0 3=false:=z312.2 (by omega)
  rw [hk.2,z188 _ _ _ (by assumption),this];rfl
 ·refine z22 rfl ?_
  have:btw l[k] 0 3=false:=z312.2 (by omega)
  rw [hk.2,z188 _ _ _ (by assumption),this];rfl
 ·have:btw l[k] 0 3=true:=z52.2 (by omega)
  exact z81 (k+1) [] ⟨by omega,by rw [hk.2,z188 _ _ _ (by assumption),this];rfl⟩ (by omega) ⟨rfl,by decide,rfl,by repeat' (first|exact True.intro|exact ⟨rfl,rfl⟩|apply y44),by repeat' (exact True.intro)⟩
 ·exact z22 rfl (by rw [hk.2,z216 _ _ _ (by omega),Bool.true_and])
theorem z845 (l:List Int) (hl:l.length≤maxLen) (v:Int):CallsA Tryz.prog 202 [ints l,.int v] [] (.bool (decide (v∈l))) []:=by
 unfold maxLen at hl
 have e:decide (v∈l)=l.any (fun x=>decide (x=v)):=by
  rw [Bool.eq_iff_iff];simp
 rw [e]
 refine z6 z12 Tryz.func202 rfl rfl 18 Tryz.ntmps202 (by simp) ?_
 repeat' (((apply y83 ok;rfl))<;>conv=>whnf)
 refine z93 (fun k:Nat=>([(0,ints l),(1,.int v),(5,.int k)],[])) (fun k=>k≤l.length∧l.any (fun x=>decide (x=v))=(l.drop k).any (fun x=>decide (x=v))) (fun k=>l.length - k) 0 ⟨by omega,rfl⟩ ⟨[],rfl,by decide,rfl,by repeat' (first|exact True.intro|exact ⟨rfl,rfl⟩|apply y44),by repeat' (exact True.intro)⟩ ?_
 intro k hk
 repeat' ((first|(apply y83 ok;rfl)|(apply y44;first|omega|(unfold inI;omega))|(((with_reducible apply z4;omega));intro _)|((apply z2)<;>intro _))<;>conv=>whnf)
 ·rename_i h
  exact z22 rfl (by rw [hk.2,z918 _ _ _ (by assumption),y80 h];rfl)
 ·rename_i h
  exact z81 (k+1) [] ⟨by omega,by rw [hk.2,z918 _ _ _ (by assumption),y81 h];rfl⟩ (by omega) ⟨rfl,by decide,rfl,by repeat' (first|exact True.intro|exact ⟨rfl,rfl⟩|apply y44),by repeat' (exact True.intro)⟩
 ·exact z22 rfl (by rw [hk.2,z763 _ _ _ (by omega)])
theorem Distinct.le {l:List Int} {n:Int} (h:Distinct l n l.length) (h0:0≤n):(l.length:Int)≤n:=by
 have hnd:(l.map Int.toNat).Nodup:=by
  rw [List.nodup_iff_pairwise_ne,List.pairwise_map,List.pairwise_iff_getElem]
  intro i j hi hj hij he
  have h1:=h i hi hi
  have h2:=h j hj hj
  refine h2.2 ?_
  have:l[j]=l[i]:=by omega
  rw [this,List.mem_take_iff_getElem]
  exact ⟨i,by omega,rfl⟩
 have hsub:(l.map Int.toNat) ⊆ List.range n.toNat:=by
  intro x hx
  obtain ⟨y,hy,rfl⟩:=List.mem_map.1 hx
  obtain ⟨i,hi,rfl⟩:=List.mem_iff_getElem.1 hy
  have:=(h i hi hi).1
  rw [y59];omega
 have:=hnd.length_le_of_subset hsub
 simp at this
 omega
def RowOk (g:Graph) (i:Nat):Prop:=∀ (h:i < g.nx.length) (h' : i < g.st.length),1≤g.nx[i].length∧g.nx[i].length≤g.st.length∧z466 g.st[i].b=true∧Distinct g.nx[i] g.st.length g.nx[i].length
def GB (g:Graph):Prop:=(1≤g.st.length∧g.st.length≤60)∧g.nx.length=g.st.length∧∀ i,i < g.nx.length→RowOk g i
theorem z714 {n:Int} {l:List Int} : z804 n l=true↔1≤l.length∧Distinct l n l.length:=by
 unfold z804
 rw [y69,decide_eq_true_eq,Bool.not_eq_true',decide_eq_false_iff_not]
 exact and_congr (by omega) Iff.rfl
theorem z111 (g:Graph):z399 g=true↔GB g:=by
 unfold z399 GB
 simp only [y69,z52,decide_eq_true_eq,Bool.not_eq_true',List.any_eq_false]
 constructor
 ·rintro ⟨h1,h2,h3,h4⟩
  refine ⟨by omega,by omega,fun i hi h h'=>?_⟩
  have h5:=z714.1 (by simpa using h4 _ (y45 h))
  have h6:=h5.2.le (by omega)
  exact ⟨h5.1,by omega,by simpa using h3 _ (y45 h'),h5.2⟩
 ·rintro ⟨h1,h2,h3⟩
  refine ⟨by omega,by omega,fun s hs=>?_,fun l hl=>?_⟩
  ·obtain ⟨i,hi,rfl⟩:=List.mem_iff_getElem.1 hs
   simpa using (h3 i (by omega) (by omega) hi).2.2.1
  ·obtain ⟨i,hi,rfl⟩:=List.mem_iff_getElem.1 hl
   have:=h3 i hi hi (by omega)
   simpa using z714.2 ⟨this.1,this.2.2.2⟩
set_option maxHeartbeats 800000 in
theorem z422 (g:Graph) (hg:g.mx):CallsA Tryz.prog 144 [.agg g.cs] [] (.bool (z399 g)) []:=by
 obtain ⟨hs,hn,hm⟩:=hg
 have hl1:=hs.1
 unfold maxLen at hl1 hn
 have hiff:=z111 g
 refine z6 z12 Tryz.func144 rfl rfl 111 Tryz.ntmps144 (by simp) ?_
 repeat' ((first|(apply y83 ok;rfl)|((first|apply z2|apply z8)<;>intro _))<;>conv=>whnf)
 ·exact z22 rfl (by rw [← y70,hiff];rintro ⟨h1,h2,_⟩;omega)
 ·exact z22 rfl (by rw [← y70,hiff];rintro ⟨h1,h2,_⟩;omega)
 ·exact z22 rfl (by rw [← y70,hiff];rintro ⟨h1,h2,_⟩;omega)
 rename_i b1 b2 b3
 have hne:g.nx.length=g.st.length:=by omega
 refine z93 (fun k:Nat=>([(1,.ptr 0 none 0),(3,.int k)],[.cells 2 [[lst 2 State.cs g.st,lst 1 encL g.nx]]])) (fun k=>k≤g.nx.length∧∀ i,i < k→RowOk g i) (fun k=>g.nx.length - k) 0 ⟨by omega,fun i h=>by omega⟩ ⟨[0],rfl,by decide,rfl,by repeat' (first|exact True.intro|exact ⟨rfl,rfl⟩|apply y44),by repeat' (first|exact True.intro|exact z25 rfl rfl|apply y44)⟩ ?_
 intro k hk
 have bad:k < g.nx.length→¬ RowOk g k→z399 g=false:=fun h1 h2=>by
  rw [← y70,hiff];rintro ⟨_,_,h3⟩;exact h2 (h3 k h1)
 repeat' ((first|(apply y83 ok;rfl)|(apply z7;kernel_rfl)|(apply y44;omega)|(((with_reducible apply z4;omega));intro _)|((first|apply z2|apply z37)<;>intro _)|(apply z0 (z1117 _ (hs.2 _ (y45 _)).2);rfl;rfl))<;>conv=>whnf)
 ·refine z22 rfl (bad (by assumption) fun h=>?_)
  have:=h (by assumption) (by omega);omega
 ·refine z22 rfl (bad (by assumption) fun h=>?_)
  have:=h (by assumption) (by omega);omega
 ·rename_i hv
  refine z22 rfl (bad (by assumption) fun h=>?_)
  have:=h (by assumption) (by omega)
  rw [hv] at this;simp at this
 ·rename_i hv
  have hkn:k < g.nx.length:=by assumption
  have hks:k < g.st.length:=by omega
  refine z93 (fun j:Nat=>([(1,.ptr 0 none 0),(3,.int k),(4,.int j)],[.cells 2 [[lst 2 State.cs g.st,lst 1 encL g.nx]]])) (fun j=>j≤g.nx[k].length∧Distinct g.nx[k] g.st.length j) (fun j=>g.nx[k].length - j) 0 ⟨by omega,fun i h hi=>by omega⟩ ⟨[0],rfl,by decide,rfl,by repeat' (first|exact True.intro|exact ⟨rfl,rfl⟩|apply y44),by repeat' (first|exact True.intro|exact z25 rfl rfl|apply y44)⟩ ?_
  intro j hj
  repeat' ((first|(apply y83 ok;rfl)|(apply z7;kernel_rfl)|(apply y44;first|omega|(unfold inI;omega))|(((with_reducible apply z4;omega));intro _)|((apply z2)<;>intro _))<;>conv=>whnf)
  ·refine z22 rfl (bad hkn fun h=>?_)
   have:=((h hkn hks).2.2.2 j (by assumption) (by assumption)).1;omega
  ·refine z22 rfl (bad hkn fun h=>?_)
   have:=((h hkn hks).2.2.2 j (by assumption) (by assumption)).1;omega
  ·apply z0 (z845 (g.nx[k].take j) (by rw [y49];unfold maxLen;omega) g.nx[k][j])
   ·show _=[AC.list 1 _ _,_]
    rw [show AC.list 1 (g.nx[k].take j).length ((g.nx[k].take j).map enI)=_ from (z423 1 enI g.nx[k] j hj.1).symm]
    rfl
   ·rfl
   conv=>whnf
   repeat' ((first|(apply y83 ok;rfl)|(apply z7;kernel_rfl)|(apply y44;(unfold inI;omega))|((apply z2)<;>intro _))<;>conv=>whnf)
   ·rename_i h2
    exact z22 rfl (bad hkn fun h=>((h hkn hks).2.2.2 j (by assumption) (by assumption)).2 h2)
   ·rename_i h2
    refine z81 (j+1) [0] ⟨by omega,fun i hi hik=>?_⟩ (by omega) ⟨rfl,by decide,rfl,by repeat' (first|exact True.intro|exact ⟨rfl,rfl⟩|apply y44),by repeat' (first|exact True.intro|exact z25 rfl rfl|apply y44)⟩
    rcases y68 i j with h3|h3
    ·exact hj.2 i hi h3
    ·obtain rfl:i=j:=by omega
     exact ⟨by omega,h2⟩
  ·refine z81 (k+1) [0] ⟨by omega,fun i hi=>?_⟩ (by omega) ⟨rfl,by decide,rfl,by repeat' (first|exact True.intro|exact ⟨rfl,rfl⟩|apply y44),by repeat' (first|exact True.intro|exact z25 rfl rfl|apply y44)⟩
   rcases y68 i k with h3|h3
   ·exact hk.2 i h3
   ·obtain rfl:i=k:=by omega
    intro _ _
    obtain rfl:j=g.nx[i].length:=by omega
    exact ⟨by omega,by omega,hv,hj.2⟩
 ·exact z22 rfl (by rw [hiff];exact ⟨by omega,hne,fun i hi=>hk.2 i (by omega)⟩)
def Trans.mx (t:Trans):Prop:=inI t.val
def z475 (n:Int) (t:Trans):Prop:=(0≤t.src∧t.src≤n - 1)∧(0≤t.dst∧t.dst≤n - 1)∧(0≤t.care∧t.care≤7)∧0≤t.val∧t.val.toNat &&& t.care.toNat=t.val.toNat
instance {n:Int} {t:Trans} : Decidable (z475 n t):=by unfold z475;infer_instance
def z995 (n:Int) (t:Trans):Bool:=decide (z475 n t)
theorem z307 {n:Int} {t:Trans} : z995 n t=true↔z475 n t:=by unfold z995;exact decide_eq_true_iff
theorem edgeB_no {n:Int} {t:Trans} : z995 n t=false↔¬ z475 n t:=by rw [← z307,y70]
def IniP (l:List Int) (n:Int) (k:Nat):Prop:=∀ i (h:i < l.length),i < k→(0≤l[i]∧l[i]≤n - 1)∧∀ j (hj:j+1=i),l[j]'(by omega) < l[i]
def AutP (a:Aut):Prop:=(1≤a.acc.length∧a.acc.length≤64)∧a.ed.length≤2048∧IniP a.ini a.acc.length a.ini.length∧∀ e∈a.ed,z475 a.acc.length e
noncomputable instance {a:Aut} : Decidable (AutP a):=Classical.propDecidable _
noncomputable def autB (a:Aut):Bool:=decide (AutP a)
theorem z120 {a:Aut} : autB a=true↔AutP a:=by unfold autB;exact decide_eq_true_iff
theorem z207 {a:Aut} : autB a=false↔¬ AutP a:=by rw [← z120,y70]
theorem IniP.ge {l:List Int} {n:Int} (h:IniP l n l.length):∀ i (hi:i < l.length),(i:Int)≤l[i]:=by
 intro i
 induction i with
 |zero=>intro hi;exact (h 0 hi hi).1.1
 |succ i ih =>
  intro hi
  have h1:=ih (by omega)
  have h2:=(h (i+1) hi hi).2 i rfl
  omega
theorem IniP.le {l:List Int} {n:Int} (h:IniP l n l.length) (h0:0≤n):(l.length:Int)≤n:=by
 rcases Nat.eq_zero_or_pos l.length with e|e
 ·omega
 ·have h1:=h.ge (l.length - 1) (by omega)
  have h2:=(h (l.length - 1) (by omega) (by omega)).1.2
  omega
theorem z1016 {v c:Int} (h0:0≤v) (h1:v≤9223372036854775807) (h2:0≤c) (h3:c≤7):(((BitVec.ofNat 64 v.toNat &&& ~~~BitVec.ofNat 64 c.toNat).toNat:Nat):Int)=0↔v.toNat &&& c.toNat=v.toNat:=by
 obtain ⟨v,rfl⟩:=Int.eq_ofNat_of_zero_le h0
 obtain ⟨c,rfl⟩:=Int.eq_ofNat_of_zero_le h2
 simp only [y75]
 have hv:v < 2 ^ 64:=by omega
 have hc:c < 2 ^ 64:=by omega
 have e:∀ x y:BitVec 64,(x &&& ~~~y)=0#64↔x &&& y=x:=by
  intro x y
  constructor
  ·intro h
   apply BitVec.eq_of_getElem_eq
   intro i hi
   have:=congrArg (fun z=>z[i]) h
   simp at this ⊢
   cases hx:x[i]<;>simp_all
  ·intro h
   apply BitVec.eq_of_getElem_eq
   intro i hi
   have:=congrArg (fun z=>z[i]) h
   simp at this ⊢
   cases hx:x[i]<;>simp_all
 have e2:=e (BitVec.ofNat 64 v) (BitVec.ofNat 64 c)
 constructor
 ·intro h
  have h4:(BitVec.ofNat 64 v &&& ~~~BitVec.ofNat 64 c)=0#64:=BitVec.eq_of_toNat_eq (by simpa using h)
  have h5:=congrArg BitVec.toNat (e2.1 h4)
  simpa [BitVec.toNat_and,Nat.mod_eq_of_lt hv,Nat.mod_eq_of_lt hc] using h5
 ·intro h
  have h4:BitVec.ofNat 64 v &&& BitVec.ofNat 64 c=BitVec.ofNat 64 v:=BitVec.eq_of_toNat_eq (by
   simpa [BitVec.toNat_and,Nat.mod_eq_of_lt hv,Nat.mod_eq_of_lt hc] using h)
  have h5:=congrArg BitVec.toNat (e2.2 h4)
  simpa using h5
theorem z1012 (n:Int) (h0:0≤n) (h1:n≤maxLen) (t:Trans) (ht:t.mx):CallsA Tryz.prog 158 [z24 Trans.cs t,.pt [.int n]] [] (.bool (!z995 n t)) []:=by
 unfold Trans.mx inI at ht
 unfold maxLen at h1
 refine z6 z12 Tryz.func158 rfl rfl 37 Tryz.ntmps158 (by simp) ?_
 repeat' (first|(apply y83 ok;rfl;conv=>whnf)|(apply y44;(first|(unfold inI;omega)|(simp only [z52] at *;(unfold z39;omega)));conv=>whnf)|(apply z2<;>intro _<;>conv=>whnf)|(apply z37<;>intro _<;>conv=>whnf)|(apply z0 (z334 _ 0 (n - 1));rfl;rfl;conv=>whnf)|(apply z0 (z334 _ 0 7);rfl;rfl;conv=>whnf))
 all_goals (refine z22 rfl ?_;rw [Bool.eq_iff_iff];simp only [z52,z312,z307,edgeB_no,Bool.not_eq_true',decide_eq_false_iff_not,decide_eq_true_eq,Bool.false_eq_true,iff_false,iff_true] at *;unfold z475)
 all_goals try omega
 all_goals (rw [z1016 (by omega) (by omega) (by omega) (by omega)];omega)
theorem z1110 (n:Int) (t:Trans) (ht:t.mx):CallsA Tryz.prog 147 [z24 Trans.cs t,.int n] [] (.bool (z995 n t)) []:=by
 unfold Trans.mx inI at ht
 refine z6 z12 Tryz.func147 rfl rfl 50 Tryz.ntmps147 (by simp) ?_
 repeat' (first|(apply y83 ok;rfl;conv=>whnf)|(apply y44;((unfold z39;omega));conv=>whnf)|(apply z2<;>intro _<;>conv=>whnf))
 all_goals (refine z22 rfl ?_;rw [Bool.eq_iff_iff];simp only [z307,decide_eq_true_eq,Bool.false_eq_true,iff_false] at *;unfold z475)
 all_goals omega
theorem takes_ok (t:Trans) (n:Int) (h0:0≤n) (h1:n≤7) (ht:0≤t.care∧t.care≤7):CallsA Tryz.prog 138 [z24 Trans.cs t,.int n] [] (.bool (decide (((n.toNat &&& t.care.toNat:Nat):Int)=t.val))) []:=by
 refine z6 z12 Tryz.func138 rfl rfl 12 Tryz.ntmps138 (by simp) ?_
 repeat' (first|(apply y83 ok;rfl;conv=>whnf)|(apply y44;((unfold z39;omega));conv=>whnf))
 exact z22 rfl rfl
theorem l7On_ok (t:Trans) (n:Int) (h0:0≤n) (h1:n≤7) (ht:0≤t.care∧t.care≤7):CallsA Tryz.prog 167 [z24 Trans.cs t,.int n] [] (.bool (decide (((n.toNat &&& t.care.toNat:Nat):Int)=t.val))) []:=by
 refine z6 z12 Tryz.func167 rfl rfl 12 Tryz.ntmps167 (by simp) ?_
 repeat' (first|(apply y83 ok;rfl;conv=>whnf)|(apply y44;((unfold z39;omega));conv=>whnf))
 exact z22 rfl rfl
def Aut.mx (a:Aut):Prop:=a.ini.length≤maxLen∧a.acc.length≤maxLen∧a.ed.length≤maxLen∧∀ t∈a.ed,t.mx
theorem z473 (c:Int) (l:List Trans) (hl:l.length≤maxLen) (p:Trans→Bool) (f:FuncId) (hf:∀ x∈l,CallsA Tryz.prog f [z24 Trans.cs x,.pt [.int c]] [] (.bool (p x)) []):CallsA Tryz.prog 216 [lst 4 Trans.cs l,.fn (.func f) [] [.pt [.int c]]] [] (.int (idxF p l)) []:=by
 unfold maxLen at hl
 refine z6 z12 Tryz.func216 rfl rfl 19 Tryz.ntmps216 (by simp) ?_
 repeat' ((apply y83 ok;rfl;conv=>whnf))
 refine z93 (fun k:Nat=>([(0,lst 4 Trans.cs l),(1,.fn (.func f) [] [.pt [.int c]]),(7,.int l.length),(8,.int k)],[])) (fun k=>k≤l.length∧∀ j (hj:j < l.length),j < k→p l[j]=false) (fun k=>l.length - k) 0 (by simp)
  ⟨[],rfl,by decide,rfl,⟨⟨rfl,rfl⟩,⟨rfl,rfl⟩,⟨rfl,rfl⟩,⟨rfl,rfl⟩,trivial⟩,trivial⟩ ?_
 intro k hk
 repeat' (first|(apply y83 ok;rfl;conv=>whnf)|(apply y44;(first|omega|(unfold inI;omega));conv=>whnf)|(with_reducible apply z4;omega;intro _;conv=>whnf)|(apply z2<;>intro _<;>conv=>whnf)|(apply z47<;>intro _<;>conv=>whnf)|(apply z0 (hf l[k] (y45 _));rfl;rfl;conv=>whnf))
 ·rename_i h h1
  exact z50 rfl rfl (by rw [z179 (by omega) h1 hk.2];rfl)
 ·rename_i h h1
  refine z81 (k+1) [] ⟨by omega,fun j hj hjk=>?_⟩ (by omega) ⟨rfl,by decide,rfl,⟨⟨rfl,rfl⟩,⟨rfl,rfl⟩,⟨rfl,rfl⟩,⟨rfl,rfl⟩,trivial⟩,trivial⟩
  rcases y68 j k with h2|h2
  ·exact hk.2 j hj h2
  ·obtain rfl:j=k:=by omega
   exact h1
 ·exact z50 rfl rfl (by rw [z155 fun j hj=>hk.2 j hj (by omega)];rfl)
theorem z357 (c:Int) (l:List Trans) (hl:l.length≤maxLen) (p:Trans→Bool) (f:FuncId) (hf:∀ x∈l,CallsA Tryz.prog f [z24 Trans.cs x,.pt [.int c]] [] (.bool (p x)) []):CallsA Tryz.prog 157 [lst 4 Trans.cs l,.fn (.func f) [] [.pt [.int c]]] [] (.bool (l.any p)) []:=by
 refine z6 z12 Tryz.func157 rfl rfl 9 Tryz.ntmps157 (by simp) ?_
 repeat' (first|(apply y83 ok;rfl;conv=>whnf)|(apply z0 (z473 c l hl p f hf);rfl;rfl;conv=>whnf))
 exact z22 rfl (by rw [← z214])
theorem IniP.step {l:List Int} {n:Int} {k:Nat} (h:IniP l n k) (hk:k < l.length) (h1:0≤l[k]∧l[k]≤n - 1) (h2:∀ j (hj:j+1=k),l[j]'(by omega) < l[k]):IniP l n (k+1):=by
 intro i hi hik
 rcases y68 i k with h3|h3
 ·exact h i hi h3
 ·obtain rfl:i=k:=by omega
  exact ⟨h1,h2⟩
def z396 (l:List Int) (k:Nat):Int:=if h:0 < k∧k≤l.length then l[k - 1]'(by omega) else -1
theorem z248 (a:Aut) (ha:a.mx):CallsA Tryz.prog 79 [.agg a.cs] [] (.bool (autB a)) []:=by
 obtain ⟨hi,hc,he,hm⟩:=ha
 have hk:=z357 (a.acc.length:Int) a.ed he (fun t=>!z995 a.acc.length t) 158 (fun t ht=>z1012 _ (by omega) (by omega) t (hm t ht))
 unfold maxLen at hi hc he
 refine z6 z12 Tryz.func79 rfl rfl 41 Tryz.ntmps79 (by simp) ?_
 repeat' ((apply y83 ok;rfl;conv=>whnf))
 refine z93 (fun k:Nat=>([(1,.ptr 0 none 0),(3,.ptr 1 none 0),(4,.int (z396 a.ini k)),(11,lst 1 enI a.ini),(12,.int a.ini.length),(13,.int k)],[.cells 3 [[lst 1 enI a.ini,lst 1 enB a.acc,lst 4 Trans.cs a.ed]],.cells 1 [[.int a.acc.length]]])) (fun k=>k≤a.ini.length∧IniP a.ini a.acc.length k) (fun k=>a.ini.length - k) 0 ⟨by omega,fun i h hi=>by omega⟩ ⟨[0,1],rfl,by decide,rfl,by repeat' (first|exact True.intro|exact ⟨rfl,rfl⟩|apply y44),by repeat' (first|exact True.intro|exact z25 rfl rfl|apply y44)⟩ ?_
 rintro k ⟨hk1,hk2⟩
 have hlast : -1≤z396 a.ini k∧z396 a.ini k≤a.acc.length - 1:=by
  unfold z396
  split
  ·rename_i h
   have:=(hk2 (k - 1) (by omega) (by omega)).1;omega
  ·omega
 repeat' (first|(apply y83 ok;rfl;conv=>whnf)|(apply y44;(first|omega|(unfold inI;omega));conv=>whnf)|(with_reducible apply z4;omega;intro _;conv=>whnf)|(apply z2<;>intro _<;>conv=>whnf)|(apply z37<;>intro _<;>conv=>whnf)|(apply z47<;>intro _<;>conv=>whnf)|(apply z0 (z334 _ (z396 a.ini k+1) _);rfl;rfl;conv=>whnf)|(apply z0 (z334 _ 1 64);rfl;rfl;conv=>whnf)|(apply z921 [1] (hk);rfl;rfl;rfl;rfl;conv=>whnf))
 ·rename_i hkl hb
  refine z22 rfl (z207.2 fun ⟨_,_,h,_⟩=>?_)
  have h1:=h k hkl hkl
  rw [z312] at hb
  refine hb ⟨?_,h1.1.2⟩
  unfold z396
  split
  ·rename_i hp
   have:=h1.2 (k - 1) (by omega);omega
  ·omega
 ·rename_i hkl hb
  rw [z52] at hb
  refine z81 (k+1) [0,1] ⟨by omega,hk2.step hkl (by omega) fun j hj=>?_⟩ (by omega) ⟨rfl,by decide,rfl,⟨⟨rfl,rfl⟩,⟨rfl,rfl⟩,⟨rfl,?_⟩,⟨rfl,rfl⟩,⟨rfl,rfl⟩,⟨rfl,rfl⟩,trivial⟩,⟨z25 rfl rfl,z25 rfl rfl,trivial⟩⟩
  ·subst hj
   have:=hb.1
   unfold z396 at this
   rw [dif_pos (by omega)] at this
   simp only [Nat.add_sub_cancel] at this
   omega
  ·have:z396 a.ini (k+1)=a.ini[k]:=by unfold z396;rw [dif_pos (by omega)];rfl
   rw [this];rfl
 all_goals (have hfull:IniP a.ini a.acc.length a.ini.length:=by (have:k=a.ini.length:=by omega);rw [← this];exact hk2)
 ·rename_i hb hl
  refine z22 rfl ?_
  rw [z52] at hb
  rw [Bool.eq_iff_iff,z120,Bool.not_eq_true',List.any_eq_false]
  constructor
  ·rintro ⟨_,_,_,h⟩ x hx
   simpa using z307.2 (h x hx)
  ·intro h
   exact ⟨by omega,by omega,hfull,fun e he=>z307.1 (by simpa using h e he)⟩
 ·refine z22 rfl (z207.2 fun hh=>?_)
  have:=hh.2.1;omega
 ·rename_i hb
  refine z22 rfl (z207.2 fun hh=>?_)
  have:=hh.1
  rw [z312] at hb;omega
theorem z123 (a:Aut) (ha:a.mx):CallsA Tryz.prog 73 [.agg a.cs] [] (.bool (autB a)) []:=by
 obtain ⟨hi,hc,he,hm⟩:=ha
 unfold maxLen at hi hc he
 refine z6 z12 Tryz.func73 rfl rfl 83 Tryz.ntmps73 (by simp) ?_
 repeat' (first|(apply y83 ok;rfl;conv=>whnf)|(apply z2<;>intro _<;>conv=>whnf))
 ·exact z22 rfl (z207.2 fun ⟨h,_⟩=>by omega)
 ·exact z22 rfl (z207.2 fun ⟨h,_⟩=>by omega)
 ·exact z22 rfl (z207.2 fun ⟨h,_,h2,_⟩=>by have:=h2.le (by omega);omega)
 ·exact z22 rfl (z207.2 fun ⟨_,h,_⟩=>by omega)
 refine z93 (fun k:Nat=>([(1,.ptr 0 none 0),(3,.int a.acc.length),(4,.int k)],[.cells 3 [[lst 1 enI a.ini,lst 1 enB a.acc,lst 4 Trans.cs a.ed]]])) (fun k=>k≤a.ini.length∧IniP a.ini a.acc.length k) (fun k=>a.ini.length - k) 0 ⟨by omega,fun i h hi=>by omega⟩ ⟨[0],rfl,by decide,rfl,by repeat' (first|exact True.intro|exact ⟨rfl,rfl⟩|apply y44),by repeat' (first|exact True.intro|exact z25 rfl rfl|apply y44)⟩ ?_
 rintro k ⟨hk1,hk2⟩
 repeat' (first|(apply y83 ok;rfl;conv=>whnf)|(apply z7;kernel_rfl;conv=>whnf)|(apply y44;(first|omega|(unfold inI;omega));conv=>whnf)|(with_reducible apply z4;omega;intro _;conv=>whnf)|(apply z69;omega;intro _;conv=>whnf)|(apply z2<;>intro _<;>conv=>whnf))
 ·refine z22 rfl (z207.2 fun ⟨_,_,h,_⟩=>?_)
  have:=(h k (by assumption) (by assumption)).1;omega
 ·refine z22 rfl (z207.2 fun ⟨_,_,h,_⟩=>?_)
  have:=(h k (by assumption) (by assumption)).1;omega
 ·rename_i hk0 _ _ hb
  refine z22 rfl (z207.2 fun ⟨_,_,h,_⟩=>?_)
  have:=(h k (by assumption) (by assumption)).2 (k - 1) (by omega)
  have e:((k:Int) - 1).toNat=k - 1:=by omega
  simp only [e] at hb
  omega
 ·rename_i hk0 _ _ hb
  refine z81 (k+1) [0] ⟨by omega,hk2.step (by assumption) (by omega) fun j hj=>?_⟩ (by omega) ⟨rfl,by decide,rfl,by repeat' (first|exact True.intro|exact ⟨rfl,rfl⟩|apply y44),by repeat' (first|exact True.intro|exact z25 rfl rfl|apply y44)⟩
  have e:((k:Int) - 1).toNat=k - 1:=by omega
  simp only [e] at hb
  subst hj
  simp only [Nat.add_sub_cancel] at hb
  omega
 ·exact z81 (k+1) [0] ⟨by omega,hk2.step (by assumption) (by omega) fun j hj=>by omega⟩ (by omega) ⟨rfl,by decide,rfl,by repeat' (first|exact True.intro|exact ⟨rfl,rfl⟩|apply y44),by repeat' (first|exact True.intro|exact z25 rfl rfl|apply y44)⟩
 have hfull:IniP a.ini a.acc.length a.ini.length:=by (have:k=a.ini.length:=by omega);rw [← this];exact hk2
 clear hk2 hk1
 refine z93 (fun k:Nat=>([(1,.ptr 0 none 0),(3,.int a.acc.length),(5,.int k)],[.cells 3 [[lst 1 enI a.ini,lst 1 enB a.acc,lst 4 Trans.cs a.ed]]])) (fun k=>k≤a.ed.length∧∀ i (h:i < a.ed.length),i < k→z475 a.acc.length a.ed[i]) (fun k=>a.ed.length - k) 0 ⟨by omega,fun i h hi=>by omega⟩ ⟨[0],rfl,by decide,rfl,by repeat' (first|exact True.intro|exact ⟨rfl,rfl⟩|apply y44),by repeat' (first|exact True.intro|exact z25 rfl rfl|apply y44)⟩ ?_
 rintro k2 ⟨hk1,hk2⟩
 repeat' (first|(apply y83 ok;rfl;conv=>whnf)|(apply y44;(first|omega|(unfold inI;omega));conv=>whnf)|(with_reducible apply z4;omega;intro _;conv=>whnf)|(apply z2<;>intro _<;>conv=>whnf)|(apply z8<;>intro _<;>conv=>whnf)|(apply z0 (z1110 _ a.ed[k2] (hm _ (y45 _)));rfl;rfl;conv=>whnf))
 ·rename_i hb
  exact z22 rfl (z207.2 fun ⟨_,_,_,h⟩=>hb (h _ (y45 _)))
 ·rename_i hb
  refine z81 (k2+1) [0] ⟨by omega,fun i hi hik=>?_⟩ (by omega) ⟨rfl,by decide,rfl,by repeat' (first|exact True.intro|exact ⟨rfl,rfl⟩|apply y44),by repeat' (first|exact True.intro|exact z25 rfl rfl|apply y44)⟩
  rcases y68 i k2 with h3|h3
  ·exact hk2 i hi h3
  ·obtain rfl:i=k2:=by omega
   exact hb
 ·refine z22 rfl (z120.2 ⟨by omega,by omega,hfull,fun e he=>?_⟩)
  obtain ⟨i,hi,rfl⟩:=List.mem_iff_getElem.1 he
  exact hk2 i hi (by omega)
theorem z205 {P:Program} {f:FuncId} {w:Nat} {res:AC} {objs' : List AObj} (hf:z787 P f) (h:∀ a cap,CallsA P f [.raw (.slice a 0 cap)] [] res objs'):CallsA P f [.list w 0 []] [] res objs':=by
 refine ⟨hf,fun G W vs hW hs hv=>?_⟩
 simp only [VL] at hv
 obtain ⟨⟨v,hv1,hv2⟩,_⟩:=hv
 simp only [V] at hv2
 obtain ⟨a,cap,rfl,_⟩:=hv2
 exact (h a cap).2 G W vs hW hs (by simp only [VL];exact ⟨⟨_,hv1,by simp [V]⟩,trivial⟩)
theorem nils_le {w:Nat} : ACle .nils (.list w 0 []):=fun G h v hv=>by
 simp only [V] at hv ⊢
 exact ⟨none,0,hv,y53 _,rfl,.inl trivial⟩
theorem z808 {o off w:Nat} : ACle (.sref o off 0) (.list w 0 []):=fun G h v hv=>by
 simp only [V] at hv ⊢
 obtain ⟨cap,_,⟨rfl,a,rfl⟩|⟨b,size,w',_,_,rfl⟩⟩:=hv
 ·exact ⟨_,_,rfl,y53 _,rfl,.inl trivial⟩
 ·exact ⟨_,_,rfl,y54 _,rfl,.inl trivial⟩
theorem z301 {P : Program} {f : FuncId} {fn : Func} {c : Code} (hf : P.funcs[f]? = some fn) (hb : fn.body = some c) (hn : (fn.name == "runtime.NumGoroutine") = false) : z787 P f := ⟨fn, c, hf, hn, hb⟩
theorem z617 (l:List Int) (hl:l.length≤1048576) (hp:0 < l.length):CallsA Tryz.prog 205 [ints l] [] (.sref 0 0 l.length) [.cells 1 (l.map enI)]:=by
 refine z6 z12 Tryz.func205 rfl rfl 8 Tryz.ntmps205 (by simp) ?_
 repeat' (first|(apply y83 ok;rfl;conv=>whnf)|(apply y44;(first|omega|(dsimp only;omega)|exact z15 (fun _=>rfl));conv=>whnf))
 exact z105 rfl (z1 fun _=>rfl) (Nat.zero_add _) rfl rfl
theorem z861 (l:List Int) (hl:l.length≤1048576):CallsA Tryz.prog 205 [ints l] [] (ints l) []:=by
 by_cases hp:0 < l.length
 ·have h:=(z617 l hl hp).keep (z149 _ _) (by simp)
  exact h
 ·obtain rfl:l=[]:=y72 (by omega)
  refine z205 (z301 Tryz.func205 rfl (by rfl)) fun ad cap=>?_
  refine z6 z12 Tryz.func205 rfl rfl 8 Tryz.ntmps205 (by simp) ?_
  repeat' (first|(apply y83 ok;rfl;conv=>whnf)|(apply y44;(omega);conv=>whnf)|(apply z47<;>intro _<;>conv=>whnf))
  ·exact z893 rfl rfl nils_le
  ·exact z893 rfl rfl z808
theorem z1001 (l:List Int) (hl:l.length≤1048576):CallsA Tryz.prog 204 [ints l] [] (ints l) []:=by
 refine z6 z12 Tryz.func204 rfl rfl 9 Tryz.ntmps204 (by simp) ?_
 repeat' (first|(apply y83 ok;rfl;conv=>whnf)|(apply y44;(omega);conv=>whnf))
 refine z50 rfl rfl ?_
 show AC.list 1 _ _=ints l
 rw [show AC.list 1 ((l.length:Int).toNat - (0:Int).toNat) (((l.map enI).drop (0:Int).toNat).take ((l.length:Int).toNat - (0:Int).toNat))=_ from z423 1 enI l l.length (y53 _),y55]
 rfl
theorem z753 (l:List Int) (hl:l.length≤1048576):CallsA Tryz.prog 139 [ints l] [] (ints l) []:=by
 refine z6 z12 Tryz.func139 rfl rfl 6 Tryz.ntmps139 (by simp) ?_
 repeat' (first|(apply y83 ok;rfl;conv=>whnf)|(apply z0 (z861 l hl);rfl;rfl;conv=>whnf)|(apply z0 (z1001 l hl);rfl;rfl;conv=>whnf))
 exact z50 rfl rfl rfl
theorem z1037 {x x' y:AC} (h:ACle x x'):ACle (.tup [x,y]) (.tup [x',y]):=fun G hh v hv=>by
 simp only [V,VL] at hv ⊢
 obtain ⟨c,rfl,hc,⟨v1,h1,h2⟩,h3,_⟩:=hv
 exact ⟨c,rfl,hc,⟨v1,h1,h _ _ _ h2⟩,h3,trivial⟩
noncomputable def glB (g:Graph) (l:List Tree):Bool:=z399 g && z224 l
theorem z708 {l:List Int} (h:z466 l=true):ValsOk l:=by
 unfold z466 at h
 rw [y69,decide_eq_true_eq,Bool.not_eq_true',List.any_eq_false] at h
 exact ⟨by omega,fun x hx=>by simpa [z52] using h.2 x hx⟩
theorem GB.vals {g:Graph} (h:GB g):∀ s∈g.st,ValsOk s.b:=fun s hs=>by
 obtain ⟨i,hi,rfl⟩:=List.mem_iff_getElem.1 hs
 exact z708 (h.2.2 i (by have:=h.2.1;omega) (by have:=h.2.1;omega) hi).2.2.1
def Lmx (l:List Tree):Prop:=l.length≤maxLen∧∀ t∈l,t.mx
theorem z132 (g:Graph) (hg:g.mx) (l:List Tree) (hl:Lmx l):CallsA Tryz.prog 72 [.agg g.cs,lst 3 Tree.cs' l] [] (.tup [ints (if glB g l then g.st.map (z35 l) else []),.bool (glB g l)]) []:=by
 refine z6 z12 Tryz.func72 rfl rfl 18 Tryz.ntmps72 (by simp) ?_
 have k1:=z422 g hg
 have k2:=z376 l hl.1 hl.2
 have k3:=fun (h1:z399 g=true) (h2:z224 l=true)=>z742 g ((z111 g).1 h1).vals ((z111 g).1 h1).1.2 l (y9 h2)
 repeat' (first|(apply y83 ok;rfl;conv=>whnf)|(apply z37<;>intro _<;>conv=>whnf)|(apply z0 (k1);rfl;rfl;conv=>whnf)|(apply z0 (k2);rfl;rfl;conv=>whnf)|(apply z0 (k3 (by assumption) (by assumption));rfl;rfl;conv=>whnf))
 ·rename_i h
  have e:glB g l=false:=by unfold glB;rw [h];rfl
  rw [e]
  exact z893 rfl rfl (z1037 z808)
 ·rename_i h1 h2
  have e:glB g l=false:=by unfold glB;rw [h1,h2];rfl
  rw [e]
  exact z893 rfl rfl (z1037 z808)
 ·rename_i h1 h2
  have e:glB g l=true:=by unfold glB;rw [h1,h2];rfl
  rw [e]
  exact z50 rfl rfl rfl
theorem z447 (g:Graph) (hg:g.mx) (l:List Tree) (hl:Lmx l) (a:Aut) (ha:a.mx):CallsA Tryz.prog 67 [.agg g.cs,lst 3 Tree.cs' l,.agg a.cs] [] (.bool (glB g l && autB a)) []:=by
 refine z6 z12 Tryz.func67 rfl rfl 17 Tryz.ntmps67 (by simp) ?_
 repeat' (first|(apply y83 ok;rfl;conv=>whnf)|(apply z47<;>intro _<;>conv=>whnf)|(apply z0 (z398 g hg);rfl;rfl;conv=>whnf)|(apply z0 (z344 l hl.1 hl.2);rfl;rfl;conv=>whnf)|(apply z0 (z248 a ha);rfl;rfl;conv=>whnf))
 all_goals (refine z22 rfl ?_;(unfold glB;simp [*];done))
theorem z428 (l:List (List Int)):z91 (l.map z96)=l.map encL:=by
 rw [z131,List.map_map]
 refine List.map_congr_left fun r _=>?_
 show [AC.list 1 _ (z91 _)]=_
 rw [z149]
 simp [encL,ints,enI]
theorem z227 {n:Int} {s:Nat} (h:¬ bud n s < 0):bud n s=n - s∧(s:Int)≤n:=by
 unfold bud at h ⊢
 split at h
 ·omega
 ·rename_i h2;rw [if_neg h2];omega
theorem z994 (l:List Bool):z91 (l.map enB)=l.map enB:=z149 (fun b=>Value.bool b) l
theorem z1009 {objs:Nat→AObj} {π Bn:List Nat} {o n:Nat} {l:List Bool} (ho:objs o=.cells 1 (l.map enB)) (h1:idx π o=none) (h2:inB Bn o=true) (hl:l.length=n):bor objs π Bn (.sref o 0 n)=lst 1 enB l:=by
 subst hl;exact z158 ho h1 h2 (by simp) (z994 _)
theorem z1160 {objs:Nat→AObj} {π Bn:List Nat} {o:Nat} {l:List Bool} (ho:objs o=.cells 1 (l.map enB)) (h1:idx π o=none) (h2:inB Bn o=true):bor objs π Bn (.sref o 0 l.length)=lst 1 enB l :=
 z1009 ho h1 h2 rfl
theorem z476 {d : Int} (l : List Tree) (hl : l.length ≤ maxLen) (p : Tree → Int → Bool) (nx : Tree → Int → Int) (okS : Int → Prop) (hok : ∀ x s, okS s → p x s = false → okS (nx x s)) (f : FuncId) (s : Int) (h0 : okS s)
    (hf:∀ x∈l,∀ s,okS s→CallsA Tryz.prog f [z24 Tree.cs' x,.pt [.int d],.ptr 1 none 0] [.cells 1 [[.int s]],.cells 1 [[.ptr 0 none 0]]] (.bool (p x s)) [.cells 1 [[.int (nx x s)]],.cells 1 [[.ptr 0 none 0]]]) :
    CallsA Tryz.prog 272 [lst 3 Tree.cs' l,.fn (.func f) [] [.pt [.int d],.ptr 1 none 0]] [.cells 1 [[.int s]],.cells 1 [[.ptr 0 none 0]]] (.int (idxS p nx l s 0).1) [.cells 1 [[.int (idxS p nx l s 0).2]],.cells 1 [[.ptr 0 none 0]]]:=by
  unfold maxLen at hl
  refine z6 z12 Tryz.func272 rfl rfl 19 Tryz.ntmps272 (by simp) ?_
  repeat' ((apply y83 ok;rfl;conv=>whnf))
  refine z93 (fun x:Nat×Int=>([(0,lst 3 Tree.cs' l),(1,.fn (.func f) [] [.pt [.int d],.ptr 1 none 0]),(7,.int l.length),(8,.int x.1)],[.cells 1 [[.int x.2]],.cells 1 [[.ptr 0 none 0]]])) (fun x=>x.1≤l.length∧okS x.2∧idxS p nx l s 0=idxS p nx (l.drop x.1) x.2 x.1) (fun x=>l.length - x.1) (0,s) ⟨by omega,h0,rfl⟩
    ⟨[0,1],rfl,by decide,rfl,⟨⟨rfl,rfl⟩,⟨rfl,rfl⟩,⟨rfl,rfl⟩,⟨rfl,rfl⟩,trivial⟩,⟨z25 rfl rfl,z25 rfl rfl,trivial⟩⟩ ?_
  rintro ⟨k,t⟩ ⟨hk1,hk2,hk3⟩
  dsimp only at hk1 hk2 hk3
  repeat' (first|(apply y83 ok;rfl;conv=>whnf)|(apply y44;(first|omega|(unfold inI;omega));conv=>whnf)|(with_reducible apply z4;omega;intro _;conv=>whnf)|(apply z2<;>intro _<;>conv=>whnf)|(apply z47<;>intro _<;>conv=>whnf)|(apply z32 [0,1] [] [] (hf l[k] (y45 _) t hk2);rfl;(focus ((repeat' (first|exact z11|apply z28))<;>(rfl)));rfl;rfl;rfl;rfl;rfl;(focus ((repeat' (first|exact z10|apply z14))<;>(exact z83 rfl rfl)));(exact .inl rfl);conv=>whnf))
  · rename_i h hkl h1
    rw [y77 hkl,idxS,if_pos h1] at hk3
    rw [hk3]
    exact z82 [0,1] (by decide) rfl rfl rfl ⟨z25 rfl rfl,z25 rfl rfl,trivial⟩
  · rename_i h hkl h1
    rw [y77 hkl,idxS,if_neg (by rw [h1];simp)] at hk3
    exact z81 (k+1,nx l[k] t) [0,1] ⟨by dsimp only;omega,hok _ _ hk2 h1,hk3⟩ (by dsimp only;omega) ⟨rfl,by decide,rfl,⟨⟨rfl,rfl⟩,⟨rfl,rfl⟩,⟨rfl,rfl⟩,⟨rfl,rfl⟩,trivial⟩,⟨z25 rfl rfl,z25 rfl rfl,trivial⟩⟩
  · rw [y82 (by omega),idxS] at hk3
    rw [hk3]
    exact z82 [0,1] (by decide) rfl rfl rfl ⟨z25 rfl rfl,z25 rfl rfl,trivial⟩
theorem z767 {d : Int} (l : List Tree) (hl : l.length ≤ maxLen) (p : Tree → Int → Bool) (nx : Tree → Int → Int) (okS : Int → Prop) (hok : ∀ x s, okS s → p x s = false → okS (nx x s)) (f : FuncId) (s : Int) (h0 : okS s)
    (hf:∀ x∈l,∀ s,okS s→CallsA Tryz.prog f [z24 Tree.cs' x,.pt [.int d],.ptr 1 none 0] [.cells 1 [[.int s]],.cells 1 [[.ptr 0 none 0]]] (.bool (p x s)) [.cells 1 [[.int (nx x s)]],.cells 1 [[.ptr 0 none 0]]]) :
    CallsA Tryz.prog 258 [lst 3 Tree.cs' l,.fn (.func f) [] [.pt [.int d],.ptr 1 none 0]] [.cells 1 [[.int s]],.cells 1 [[.ptr 0 none 0]]] (.bool (decide (0≤(idxS p nx l s 0).1))) [.cells 1 [[.int (idxS p nx l s 0).2]],.cells 1 [[.ptr 0 none 0]]]:=by
  refine z6 z12 Tryz.func258 rfl rfl 9 Tryz.ntmps258 (by simp) ?_
  repeat' (first|(apply y83 ok;rfl;conv=>whnf)|(apply z32 [0,1] [] [] (z476 (d:=d) l hl p nx okS hok f s h0 hf);rfl;(focus ((repeat' (first|exact z11|apply z28))<;>(rfl)));rfl;rfl;rfl;rfl;rfl;(focus ((repeat' (first|exact z10|apply z14))<;>(exact z83 rfl rfl)));(exact .inl rfl);conv=>whnf))
  exact z82 [0,1] (by decide) rfl rfl rfl ⟨z25 rfl rfl,z25 rfl rfl,trivial⟩
theorem z832 (k:Int):CallsA Tryz.prog 257 [.int k] [] (.int (if k=1∨k=2 then 0 else if k=4∨k=5∨k=7∨k=8 then 2 else 1)) []:=by
 refine z6 z12 Tryz.func257 rfl rfl 12 Tryz.ntmps257 (by simp) ?_
 repeat' (first|(apply y83 ok;rfl;conv=>whnf)|(apply z2<;>intro _<;>conv=>whnf))
 all_goals (refine z50 rfl rfl ?_;first|(rw [if_pos (by omega)];rfl)|(rw [if_neg (by omega),if_pos (by omega)];rfl)|(rw [if_neg (by omega),if_neg (by omega)];rfl))
theorem walkF_ok (t:Tree):t.mx→∀ d n:Int,0≤d→d≤100→0≤n→n≤12→CallsA Tryz.prog 230 [z24 Tree.cs' t,.int d,.ptr 0 none 0] [.cells 1 [[.int n]]] (.bool (t.walkF d n).2) [.cells 1 [[.int (t.walkF d n).1]]]:=by
  induction t using y27 with|h t ih=>?_
  intro hm d n hd0 hd1 h0 h1
  rw [y29] at hm
  have hs:=Tree.walkF_spec.1
  have hk:d≤6→n+1≤12→CallsA Tryz.prog 258 [lst 3 Tree.cs' t.kids,.fn (.func 259) [] [.pt [.int d],.ptr 1 none 0]] [.cells 1 [[.int (n+1)]],.cells 1 [[.ptr 0 none 0]]] (.bool (!(Tree.walkFs t.kids (d+1) (n+1)).2)) [.cells 1 [[.int (Tree.walkFs t.kids (d+1) (n+1)).1]],.cells 1 [[.ptr 0 none 0]]]:=by
    intro hd hn
    have h:=z767 (d:=d) t.kids hm.1 (fun x s=>!(x.walkF (d+1) s).2) (fun x s=>(x.walkF (d+1) s).1) (fun s=>0≤s∧s≤12) (fun x s h1 h2=>by
      obtain ⟨a1,a2,a3,a4⟩:=hs x (d+1) s h1.1 h1.2
      have h3:(x.walkF (d+1) s).2=true:=by simpa using h2
      have:=(a1.1 h3).2
      rw [← a2 h3] at this
      exact ⟨by omega,this⟩) 259 (n+1) ⟨by omega,by omega⟩ (fun x hx s h=>by
        have hc:=ih x hx (hm.2 x hx) (d+1) s (by omega) (by omega) h.1 h.2
        refine z6 z12 Tryz.func259 rfl rfl 11 Tryz.ntmps259 (by simp) ?_
        repeat' (first|(apply y83 ok;rfl;conv=>whnf)|(apply y44;((unfold inI;omega));conv=>whnf)|(apply z32 [0] [] [] (hc);rfl;(focus ((repeat' (first|exact z11|apply z28))<;>(rfl)));rfl;rfl;rfl;rfl;rfl;(focus ((repeat' (first|exact z10|apply z14))<;>(exact z83 rfl rfl)));(exact .inl rfl);conv=>whnf))
        exact z82 [0,1] (by decide) rfl rfl rfl ⟨z25 rfl rfl,z25 rfl rfl,trivial⟩)
    rw [y43 (d+1) t.kids (n+1) 0,Bool.not_not]
    exact h
  have hk2:=fun h1 h2=>by
    have:=hk h1 h2
    unfold lst at this
    rw [← y18] at this
    exact this
  refine z6 z12 Tryz.func230 rfl rfl 51 Tryz.ntmps230 (by simp) ?_
  repeat' (first|(apply y83 ok;rfl;conv=>whnf)|(apply z7;kernel_rfl;conv=>whnf)|(apply y44;((unfold inI;omega));conv=>whnf)|(apply z2<;>intro _<;>conv=>whnf)|(apply z8<;>intro _<;>conv=>whnf)|(apply z37<;>intro _<;>conv=>whnf)|(apply z0 (z334 _ 1 10);rfl;rfl;conv=>whnf)|(apply z0 (z334 _ 0 2);rfl;rfl;conv=>whnf)|(apply z0 (z334 _ 0 0);rfl;rfl;conv=>whnf)|(apply z0 (z832 t.kind);rfl;rfl;conv=>whnf)|(apply z32 [0,3] [2] [] (hk2 (by omega) (by omega));rfl;(focus ((repeat' (first|exact z11|apply z28))<;>(rfl)));rfl;rfl;rfl;rfl;rfl;(focus ((repeat' (first|exact z10|apply z14))<;>(exact z83 rfl rfl)));((refine .inr ⟨rfl,?_⟩;repeat' (first|exact True.intro|apply y44|exact rfl)));conv=>whnf))
  all_goals first
    | (have e : t.walkF d n = (n + 1, false) := by
        rw [y42,if_neg]
        clear hk hk2 hs ih
        rintro ⟨c1,c2,c3,c4,c5⟩
        try simp only [z312,z52] at *
        unfold z388 at c4
        unfold z208 at c5
        grind
       rw [e]
       exact z82 [0] (by decide) rfl rfl rfl ⟨z25 rfl rfl,trivial⟩)
    | (have e : t.walkF d n = Tree.walkFs t.kids (d + 1) (n + 1) := by
        rw [y42,if_pos]
        clear hk hk2 hs ih
        try simp only [z312,z52] at *
        unfold z388 z208
        grind
       rw [e]
       refine z82 [0] (by decide) rfl rfl ?_ ⟨z25 rfl rfl,trivial⟩
       show AC.raw (.bool (!!_))=_
       rw [Bool.not_not];rfl)
theorem z986 (t:Tree) (hm:t.mx):CallsA Tryz.prog 181 [z24 Tree.cs' t] [] (.int (if t.fmB=true then (t.walkF 1 0).1 else 0)) []:=by
 have hk:=walkF_ok t hm 1 0 (by omega) (by omega) (by omega) (by omega)
 unfold Tree.fmB
 refine z6 z12 Tryz.func181 rfl rfl 8 Tryz.ntmps181 (by simp) ?_
 repeat' (first|(apply y83 ok;rfl;conv=>whnf)|(apply z37<;>intro _<;>conv=>whnf)|(apply z32 [1] [] [] (hk);rfl;(focus ((repeat' (first|exact z11|apply z28))<;>(rfl)));rfl;rfl;rfl;rfl;rfl;(focus ((repeat' (first|exact z10|apply z14))<;>(exact z83 rfl rfl)));(exact .inl rfl);conv=>whnf))
 all_goals exact z825 rfl (by simp [*])
theorem z138 (t:Tree) (hm:t.mx):CallsA Tryz.prog 122 [z24 Tree.cs' t] [] (.bool t.fmB) []:=by
 have hk:=z986 t hm
 have e:decide (0 < if t.fmB=true then (t.walkF 1 0).1 else 0)=t.fmB:=by
  by_cases h:t.fmB=true
  ·have h2:=(Tree.walkF_spec.1 t 1 0 (by omega) (by omega)).2.1 h
   have h3:=Tree.count_pos.1 t (7 - 1)
   rw [h,if_pos rfl];exact y80 (by omega)
  ·rw [if_neg h,(y70 _).mp h];rfl
 refine z6 z12 Tryz.func122 rfl rfl 6 Tryz.ntmps122 (by simp) ?_
 repeat' (first|(apply y83 ok;rfl;conv=>whnf)|(apply z0 (hk);rfl;rfl;conv=>whnf))
 all_goals exact z22 rfl e.symm
def State.co (s:State):List AC:=[.own 1 (s.a.map enI),.own 1 (s.b.map enI)]
theorem z420 (l:List Int) (hl:l.length≤1048576):CallsA Tryz.prog 114 [ints l] [] (.sref 0 0 l.length) [.cells 1 (l.map enI)]:=by
 refine z6 z12 Tryz.func114 rfl rfl 22 Tryz.ntmps114 (by simp) ?_
 repeat' (first|(apply y83 ok;rfl;conv=>whnf)|(apply z7;kernel_rfl;conv=>whnf)|(apply y44;(first|omega|(unfold inI;omega)|(dsimp only;omega)|(unfold z39;omega)|((try dsimp only);simp only [y50,y49,y48,y47,y57,y58];omega)|(simp only [z52] at *;first|omega|(unfold inI;omega)|(unfold z39;omega))|exact z15 (fun _=>rfl)|exact ⟨rfl,z23 rfl z29⟩|exact ⟨rfl,z15 (fun _=>rfl) _⟩|exact ⟨⟨rfl,by omega⟩,z15 (fun _=>rfl) _⟩);conv=>whnf)|(with_reducible apply z4;omega;intro _;conv=>whnf)|(with_reducible apply z33;omega;intro _;conv=>whnf)|(apply z4;omega;intro _;conv=>whnf)|(apply z56;omega;conv=>whnf)|(apply z66;conv=>whnf)|(apply z69;omega;intro _;conv=>whnf)|(apply z74<;>intro _<;>conv=>whnf)|(apply z61<;>intro _<;>conv=>whnf)|(apply z73<;>intro _<;>conv=>whnf)|(apply z90<;>intro _<;>conv=>whnf)|(apply z2<;>intro _<;>conv=>whnf)|(apply z8<;>intro _<;>conv=>whnf)|(apply z37<;>intro _<;>conv=>whnf)|(apply z47<;>intro _<;>conv=>whnf))
 refine z93 (fun k:Nat=>([(0,ints l),(3,.sref 0 0 l.length),(4,.int k)],[.cells 1 ((l.take k).map enI++List.replicate (l.length - k) [.int 0])])) (fun k=>k≤l.length) (fun k=>l.length - k) 0 (by omega) ⟨[0],rfl,by decide,rfl,by repeat' (first|exact True.intro|exact ⟨rfl,rfl⟩|apply y44),by repeat' (first|exact True.intro|exact z25 rfl rfl|exact z17 (by rfl) (by (first|exact z19|exact z3 rfl|exact z1 (fun _=>rfl)|exact z1 y15|(apply z20<;>(first|exact z3 rfl|exact z1 (fun _=>rfl)))|assumption))|apply y44)⟩ ?_
 intro k hk
 repeat' (first|(apply y83 ok;rfl;conv=>whnf)|(apply z7;kernel_rfl;conv=>whnf)|(apply y44;(first|omega|(unfold inI;omega)|(dsimp only;omega)|(unfold z39;omega)|((try dsimp only);simp only [y50,y49,y48,y47,y57,y58];omega)|(simp only [z52] at *;first|omega|(unfold inI;omega)|(unfold z39;omega))|exact z15 (fun _=>rfl)|exact ⟨rfl,z23 rfl z29⟩|exact ⟨rfl,z15 (fun _=>rfl) _⟩|exact ⟨⟨rfl,by omega⟩,z15 (fun _=>rfl) _⟩);conv=>whnf)|(with_reducible apply z4;omega;intro _;conv=>whnf)|(with_reducible apply z33;omega;intro _;conv=>whnf)|(apply z4;omega;intro _;conv=>whnf)|(apply z56;omega;conv=>whnf)|(apply z66;conv=>whnf)|(apply z69;omega;intro _;conv=>whnf)|(apply z74<;>intro _<;>conv=>whnf)|(apply z61<;>intro _<;>conv=>whnf)|(apply z73<;>intro _<;>conv=>whnf)|(apply z90<;>intro _<;>conv=>whnf)|(apply z2<;>intro _<;>conv=>whnf)|(apply z8<;>intro _<;>conv=>whnf)|(apply z37<;>intro _<;>conv=>whnf)|(apply z47<;>intro _<;>conv=>whnf))
 ·exact z81 (k+1) [0] (by omega) (by omega) ⟨rfl,by decide,rfl,⟨⟨rfl,rfl⟩,⟨rfl,rfl⟩,⟨rfl,rfl⟩,trivial⟩,⟨z899 (by omega) rfl rfl rfl (fun _=>rfl) rfl,trivial⟩⟩
 ·obtain rfl:k=l.length:=by omega
  exact z222 rfl (z1 fun _=>rfl) rfl (z324 _ _ _ _ rfl)
theorem z797 (s:State) (h:s.small):CallsA Tryz.prog 176 [.agg s.cs] [] (.agg [.sref 0 0 s.a.length,.sref 1 0 s.b.length]) [.cells 1 (s.a.map enI),.cells 1 (s.b.map enI)]:=by
 refine z6 z12 Tryz.func176 rfl rfl 13 Tryz.ntmps176 (by simp) ?_
 repeat' (first|(apply y83 ok;rfl;conv=>whnf)|(apply z7;kernel_rfl;conv=>whnf)|(apply y44;(first|omega|(unfold inI;omega)|(dsimp only;omega)|(unfold z39;omega)|((try dsimp only);simp only [y50,y49,y48,y47,y57,y58];omega)|(simp only [z52] at *;first|omega|(unfold inI;omega)|(unfold z39;omega))|exact z15 (fun _=>rfl)|exact ⟨rfl,z23 rfl z29⟩|exact ⟨rfl,z15 (fun _=>rfl) _⟩|exact ⟨⟨rfl,by omega⟩,z15 (fun _=>rfl) _⟩);conv=>whnf)|(with_reducible apply z4;omega;intro _;conv=>whnf)|(with_reducible apply z33;omega;intro _;conv=>whnf)|(apply z4;omega;intro _;conv=>whnf)|(apply z56;omega;conv=>whnf)|(apply z66;conv=>whnf)|(apply z69;omega;intro _;conv=>whnf)|(apply z74<;>intro _<;>conv=>whnf)|(apply z61<;>intro _<;>conv=>whnf)|(apply z73<;>intro _<;>conv=>whnf)|(apply z90<;>intro _<;>conv=>whnf)|(apply z2<;>intro _<;>conv=>whnf)|(apply z8<;>intro _<;>conv=>whnf)|(apply z37<;>intro _<;>conv=>whnf)|(apply z47<;>intro _<;>conv=>whnf)|(apply z32 [] [] [3] (z420 s.a h.1);rfl;(focus ((repeat' (first|exact z11|apply z28))<;>(first|rfl|(refine z44 rfl ?_;(first|exact z19|exact z3 rfl|exact z1 (fun _=>rfl)|exact z1 y15|(apply z20<;>(first|exact z3 rfl|exact z1 (fun _=>rfl)))|assumption)))));rfl;rfl;rfl;rfl;rfl;(focus ((repeat' (first|exact z10|apply z14))<;>(first|exact z77|exact z83 rfl rfl|(refine z26 ?_;(first|exact z19|exact z3 rfl|exact z1 (fun _=>rfl)|exact z1 y15|(apply z20<;>(first|exact z3 rfl|exact z1 (fun _=>rfl)))|assumption)))));(first|exact .inl rfl|(refine .inr ⟨rfl,?_⟩;repeat' (first|exact True.intro|apply y44|exact rfl|exact z59 (fun _=>rfl) _)));conv=>whnf)|(apply z32 [] [] [4] (z420 s.b h.2);rfl;(focus ((repeat' (first|exact z11|apply z28))<;>(first|rfl|(refine z44 rfl ?_;(first|exact z19|exact z3 rfl|exact z1 (fun _=>rfl)|exact z1 y15|(apply z20<;>(first|exact z3 rfl|exact z1 (fun _=>rfl)))|assumption)))));rfl;rfl;rfl;rfl;rfl;(focus ((repeat' (first|exact z10|apply z14))<;>(first|exact z77|exact z83 rfl rfl|(refine z26 ?_;(first|exact z19|exact z3 rfl|exact z1 (fun _=>rfl)|exact z1 y15|(apply z20<;>(first|exact z3 rfl|exact z1 (fun _=>rfl)))|assumption)))));(first|exact .inl rfl|(refine .inr ⟨rfl,?_⟩;repeat' (first|exact True.intro|apply y44|exact rfl|exact z59 (fun _=>rfl) _)));conv=>whnf))
 exact z82 [3,4] (by decide) rfl rfl rfl ⟨z17 rfl (z1 fun _=>rfl),z17 rfl (z1 fun _=>rfl),trivial⟩
theorem z712 (l:List State) (hl:l.length≤1048576) (hm:∀ s∈l,s.small):CallsA Tryz.prog 110 [lst 2 State.cs l] [] (.sref 0 0 l.length) [.cells 2 (l.map State.co)]:=by
 refine z6 z12 Tryz.func110 rfl rfl 23 Tryz.ntmps110 (by simp) ?_
 repeat' (first|(apply y83 ok;rfl;conv=>whnf)|(apply z7;kernel_rfl;conv=>whnf)|(apply y44;(first|omega|(unfold inI;omega)|(dsimp only;omega)|(unfold z39;omega)|((try dsimp only);simp only [y50,y49,y48,y47,y57,y58];omega)|(simp only [z52] at *;first|omega|(unfold inI;omega)|(unfold z39;omega))|exact z15 (fun _=>rfl)|exact ⟨rfl,z23 rfl z29⟩|exact ⟨rfl,z15 (fun _=>rfl) _⟩|exact ⟨⟨rfl,by omega⟩,z15 (fun _=>rfl) _⟩);conv=>whnf)|(with_reducible apply z4;omega;intro _;conv=>whnf)|(with_reducible apply z33;omega;intro _;conv=>whnf)|(apply z4;omega;intro _;conv=>whnf)|(apply z56;omega;conv=>whnf)|(apply z66;conv=>whnf)|(apply z69;omega;intro _;conv=>whnf)|(apply z74<;>intro _<;>conv=>whnf)|(apply z61<;>intro _<;>conv=>whnf)|(apply z73<;>intro _<;>conv=>whnf)|(apply z90<;>intro _<;>conv=>whnf)|(apply z2<;>intro _<;>conv=>whnf)|(apply z8<;>intro _<;>conv=>whnf)|(apply z37<;>intro _<;>conv=>whnf)|(apply z47<;>intro _<;>conv=>whnf))
 refine z93 (fun k:Nat=>([(0,lst 2 State.cs l),(3,.sref 0 0 l.length),(4,.int k)],[.cells 2 ((l.take k).map State.co++List.replicate (l.length - k) [.nils,.nils])])) (fun k=>k≤l.length) (fun k=>l.length - k) 0 (by omega) ⟨[0],rfl,by decide,rfl,by repeat' (first|exact True.intro|exact ⟨rfl,rfl⟩|apply y44),by repeat' (first|exact True.intro|exact z25 rfl rfl|exact z17 (by rfl) (by (first|exact z19|exact z3 rfl|exact z1 (fun _=>rfl)|exact z1 y15|(apply z20<;>(first|exact z3 rfl|exact z1 (fun _=>rfl)))|assumption))|apply y44)⟩ ?_
 intro k hk
 by_cases hkl:k < l.length
 ·repeat' (first|((fail_if_success apply z53 4);(fail_if_success apply z38 4);apply y83 ok;rfl;conv=>whnf)|(apply z7;kernel_rfl;conv=>whnf)|(apply y44;(first|omega|(unfold inI;omega)|(dsimp only;omega)|(unfold z39;omega)|((try dsimp only);simp only [y50,y49,y48,y47,y57,y58];omega)|(simp only [z52] at *;first|omega|(unfold inI;omega)|(unfold z39;omega))|exact z15 (fun _=>rfl)|exact ⟨rfl,z23 rfl z29⟩|exact ⟨rfl,z15 (fun _=>rfl) _⟩|exact ⟨⟨rfl,by omega⟩,z15 (fun _=>rfl) _⟩);conv=>whnf)|(with_reducible apply z4;omega;intro _;conv=>whnf)|(with_reducible apply z33;omega;intro _;conv=>whnf)|(apply z4;omega;intro _;conv=>whnf)|(apply z56;omega;conv=>whnf)|(apply z66;conv=>whnf)|(apply z69;omega;intro _;conv=>whnf)|(apply z74<;>intro _<;>conv=>whnf)|(apply z61<;>intro _<;>conv=>whnf)|(apply z73<;>intro _<;>conv=>whnf)|(apply z90<;>intro _<;>conv=>whnf)|(apply z2<;>intro _<;>conv=>whnf)|(apply z8<;>intro _<;>conv=>whnf)|(apply z37<;>intro _<;>conv=>whnf)|(apply z47<;>intro _<;>conv=>whnf)|(apply z32 [] [] [1,2] (z797 l[k] (hm _ (y45 _)));rfl;(focus ((repeat' (first|exact z11|apply z28))<;>(first|rfl|(refine z44 rfl ?_;(first|exact z19|exact z3 rfl|exact z1 (fun _=>rfl)|exact z1 y15|(apply z20<;>(first|exact z3 rfl|exact z1 (fun _=>rfl)))|assumption)))));rfl;rfl;rfl;rfl;rfl;(focus ((repeat' (first|exact z10|apply z14))<;>(first|exact z77|exact z83 rfl rfl|(refine z26 ?_;(first|exact z19|exact z3 rfl|exact z1 (fun _=>rfl)|exact z1 y15|(apply z20<;>(first|exact z3 rfl|exact z1 (fun _=>rfl)))|assumption)))));(first|exact .inl rfl|(refine .inr ⟨rfl,?_⟩;repeat' (first|exact True.intro|apply y44|exact rfl|exact z59 (fun _=>rfl) _)));conv=>whnf))
  ·refine y84 (Gl.Reach.absorb 0 1 k 0 rfl (z202 rfl (by rw [z404 hk];exact hkl)) rfl rfl (by simp) rfl (z1 fun _=>rfl) rfl) ?_
   conv=>whnf
   refine y84 (Gl.Reach.absorb 0 2 k 1 rfl (z202 rfl (by rw [y79,z404 hk];exact hkl)) rfl rfl (by simp) rfl (z1 fun _=>rfl) rfl) ?_
   conv=>whnf
   repeat' (first|(apply y83 ok;rfl;conv=>whnf)|(apply z7;kernel_rfl;conv=>whnf)|(apply y44;(first|omega|(unfold inI;omega)|(dsimp only;omega)|(unfold z39;omega)|((try dsimp only);simp only [y50,y49,y48,y47,y57,y58];omega)|(simp only [z52] at *;first|omega|(unfold inI;omega)|(unfold z39;omega))|exact z15 (fun _=>rfl)|exact ⟨rfl,z23 rfl z29⟩|exact ⟨rfl,z15 (fun _=>rfl) _⟩|exact ⟨⟨rfl,by omega⟩,z15 (fun _=>rfl) _⟩);conv=>whnf)|(with_reducible apply z4;omega;intro _;conv=>whnf)|(with_reducible apply z33;omega;intro _;conv=>whnf)|(apply z4;omega;intro _;conv=>whnf)|(apply z56;omega;conv=>whnf)|(apply z66;conv=>whnf)|(apply z69;omega;intro _;conv=>whnf)|(apply z74<;>intro _<;>conv=>whnf)|(apply z61<;>intro _<;>conv=>whnf)|(apply z73<;>intro _<;>conv=>whnf)|(apply z90<;>intro _<;>conv=>whnf)|(apply z2<;>intro _<;>conv=>whnf)|(apply z8<;>intro _<;>conv=>whnf)|(apply z37<;>intro _<;>conv=>whnf)|(apply z47<;>intro _<;>conv=>whnf))
   exact z81 (k+1) [0] (by omega) (by omega) ⟨rfl,by decide,rfl,⟨⟨rfl,rfl⟩,⟨rfl,rfl⟩,⟨rfl,rfl⟩,trivial⟩,⟨z17 (z31 (z1141 hkl rfl rfl)) (z20 (z1 fun _=>rfl) (z3 rfl)),trivial⟩⟩
  ·omega
 ·repeat' (first|(apply y83 ok;rfl;conv=>whnf)|(apply z7;kernel_rfl;conv=>whnf)|(apply y44;(first|omega|(unfold inI;omega)|(dsimp only;omega)|(unfold z39;omega)|((try dsimp only);simp only [y50,y49,y48,y47,y57,y58];omega)|(simp only [z52] at *;first|omega|(unfold inI;omega)|(unfold z39;omega))|exact z15 (fun _=>rfl)|exact ⟨rfl,z23 rfl z29⟩|exact ⟨rfl,z15 (fun _=>rfl) _⟩|exact ⟨⟨rfl,by omega⟩,z15 (fun _=>rfl) _⟩);conv=>whnf)|(with_reducible apply z4;omega;intro _;conv=>whnf)|(with_reducible apply z33;omega;intro _;conv=>whnf)|(apply z4;omega;intro _;conv=>whnf)|(apply z56;omega;conv=>whnf)|(apply z66;conv=>whnf)|(apply z69;omega;intro _;conv=>whnf)|(apply z74<;>intro _<;>conv=>whnf)|(apply z61<;>intro _<;>conv=>whnf)|(apply z73<;>intro _<;>conv=>whnf)|(apply z90<;>intro _<;>conv=>whnf)|(apply z2<;>intro _<;>conv=>whnf)|(apply z8<;>intro _<;>conv=>whnf)|(apply z37<;>intro _<;>conv=>whnf)|(apply z47<;>intro _<;>conv=>whnf))
  ·omega
  ·obtain rfl:k=l.length:=by omega
   exact z222 rfl (z1 fun _=>rfl) rfl (z324 _ _ _ _ rfl)
theorem z799 (l:List (List Int)) (hl:l.length≤1048576) (hm:∀ s∈l,s.length≤1048576):CallsA Tryz.prog 111 [lst 1 encL l] [] (.sref 0 0 l.length) [.cells 1 (l.map z96)]:=by
 refine z6 z12 Tryz.func111 rfl rfl 23 Tryz.ntmps111 (by simp) ?_
 repeat' (first|(apply y83 ok;rfl;conv=>whnf)|(apply z7;kernel_rfl;conv=>whnf)|(apply y44;(first|omega|(unfold inI;omega)|(dsimp only;omega)|(unfold z39;omega)|((try dsimp only);simp only [y50,y49,y48,y47,y57,y58];omega)|(simp only [z52] at *;first|omega|(unfold inI;omega)|(unfold z39;omega))|exact z15 (fun _=>rfl)|exact ⟨rfl,z23 rfl z29⟩|exact ⟨rfl,z15 (fun _=>rfl) _⟩|exact ⟨⟨rfl,by omega⟩,z15 (fun _=>rfl) _⟩);conv=>whnf)|(with_reducible apply z4;omega;intro _;conv=>whnf)|(with_reducible apply z33;omega;intro _;conv=>whnf)|(apply z4;omega;intro _;conv=>whnf)|(apply z56;omega;conv=>whnf)|(apply z66;conv=>whnf)|(apply z69;omega;intro _;conv=>whnf)|(apply z74<;>intro _<;>conv=>whnf)|(apply z61<;>intro _<;>conv=>whnf)|(apply z73<;>intro _<;>conv=>whnf)|(apply z90<;>intro _<;>conv=>whnf)|(apply z2<;>intro _<;>conv=>whnf)|(apply z8<;>intro _<;>conv=>whnf)|(apply z37<;>intro _<;>conv=>whnf)|(apply z47<;>intro _<;>conv=>whnf))
 refine z93 (fun k:Nat=>([(0,lst 1 encL l),(3,.sref 0 0 l.length),(4,.int k)],[.cells 1 ((l.take k).map z96++List.replicate (l.length - k) [.nils])])) (fun k=>k≤l.length) (fun k=>l.length - k) 0 (by omega) ⟨[0],rfl,by decide,rfl,by repeat' (first|exact True.intro|exact ⟨rfl,rfl⟩|apply y44),by repeat' (first|exact True.intro|exact z25 rfl rfl|exact z17 (by rfl) (by (first|exact z19|exact z3 rfl|exact z1 (fun _=>rfl)|exact z1 y15|(apply z20<;>(first|exact z3 rfl|exact z1 (fun _=>rfl)))|assumption))|apply y44)⟩ ?_
 intro k hk
 by_cases hkl:k < l.length
 ·repeat' (first|((fail_if_success apply z53 4);(fail_if_success apply z38 4);apply y83 ok;rfl;conv=>whnf)|(apply z7;kernel_rfl;conv=>whnf)|(apply y44;(first|omega|(unfold inI;omega)|(dsimp only;omega)|(unfold z39;omega)|((try dsimp only);simp only [y50,y49,y48,y47,y57,y58];omega)|(simp only [z52] at *;first|omega|(unfold inI;omega)|(unfold z39;omega))|exact z15 (fun _=>rfl)|exact ⟨rfl,z23 rfl z29⟩|exact ⟨rfl,z15 (fun _=>rfl) _⟩|exact ⟨⟨rfl,by omega⟩,z15 (fun _=>rfl) _⟩);conv=>whnf)|(with_reducible apply z4;omega;intro _;conv=>whnf)|(with_reducible apply z33;omega;intro _;conv=>whnf)|(apply z4;omega;intro _;conv=>whnf)|(apply z56;omega;conv=>whnf)|(apply z66;conv=>whnf)|(apply z69;omega;intro _;conv=>whnf)|(apply z74<;>intro _<;>conv=>whnf)|(apply z61<;>intro _<;>conv=>whnf)|(apply z73<;>intro _<;>conv=>whnf)|(apply z90<;>intro _<;>conv=>whnf)|(apply z2<;>intro _<;>conv=>whnf)|(apply z8<;>intro _<;>conv=>whnf)|(apply z37<;>intro _<;>conv=>whnf)|(apply z47<;>intro _<;>conv=>whnf)|(apply z32 [] [] [1] (z420 l[k] (hm _ (y45 _)));rfl;(focus ((repeat' (first|exact z11|apply z28))<;>(first|rfl|(refine z44 rfl ?_;(first|exact z19|exact z3 rfl|exact z1 (fun _=>rfl)|exact z1 y15|(apply z20<;>(first|exact z3 rfl|exact z1 (fun _=>rfl)))|assumption)))));rfl;rfl;rfl;rfl;rfl;(focus ((repeat' (first|exact z10|apply z14))<;>(first|exact z77|exact z83 rfl rfl|(refine z26 ?_;(first|exact z19|exact z3 rfl|exact z1 (fun _=>rfl)|exact z1 y15|(apply z20<;>(first|exact z3 rfl|exact z1 (fun _=>rfl)))|assumption)))));(first|exact .inl rfl|(refine .inr ⟨rfl,?_⟩;repeat' (first|exact True.intro|apply y44|exact rfl|exact z59 (fun _=>rfl) _)));conv=>whnf))
  ·refine y84 (Gl.Reach.absorb 0 1 k 0 rfl (z202 rfl (by rw [z404 hk];exact hkl)) rfl rfl (by simp) rfl (z1 fun _=>rfl) rfl) ?_
   conv=>whnf
   repeat' (first|(apply y83 ok;rfl;conv=>whnf)|(apply z7;kernel_rfl;conv=>whnf)|(apply y44;(first|omega|(unfold inI;omega)|(dsimp only;omega)|(unfold z39;omega)|((try dsimp only);simp only [y50,y49,y48,y47,y57,y58];omega)|(simp only [z52] at *;first|omega|(unfold inI;omega)|(unfold z39;omega))|exact z15 (fun _=>rfl)|exact ⟨rfl,z23 rfl z29⟩|exact ⟨rfl,z15 (fun _=>rfl) _⟩|exact ⟨⟨rfl,by omega⟩,z15 (fun _=>rfl) _⟩);conv=>whnf)|(with_reducible apply z4;omega;intro _;conv=>whnf)|(with_reducible apply z33;omega;intro _;conv=>whnf)|(apply z4;omega;intro _;conv=>whnf)|(apply z56;omega;conv=>whnf)|(apply z66;conv=>whnf)|(apply z69;omega;intro _;conv=>whnf)|(apply z74<;>intro _<;>conv=>whnf)|(apply z61<;>intro _<;>conv=>whnf)|(apply z73<;>intro _<;>conv=>whnf)|(apply z90<;>intro _<;>conv=>whnf)|(apply z2<;>intro _<;>conv=>whnf)|(apply z8<;>intro _<;>conv=>whnf)|(apply z37<;>intro _<;>conv=>whnf)|(apply z47<;>intro _<;>conv=>whnf))
   exact z81 (k+1) [0] (by omega) (by omega) ⟨rfl,by decide,rfl,⟨⟨rfl,rfl⟩,⟨rfl,rfl⟩,⟨rfl,rfl⟩,trivial⟩,⟨z17 (z31 (z403 hkl rfl rfl)) (z20 (z1 fun _=>rfl) (z3 rfl)),trivial⟩⟩
  ·omega
 ·repeat' (first|(apply y83 ok;rfl;conv=>whnf)|(apply z7;kernel_rfl;conv=>whnf)|(apply y44;(first|omega|(unfold inI;omega)|(dsimp only;omega)|(unfold z39;omega)|((try dsimp only);simp only [y50,y49,y48,y47,y57,y58];omega)|(simp only [z52] at *;first|omega|(unfold inI;omega)|(unfold z39;omega))|exact z15 (fun _=>rfl)|exact ⟨rfl,z23 rfl z29⟩|exact ⟨rfl,z15 (fun _=>rfl) _⟩|exact ⟨⟨rfl,by omega⟩,z15 (fun _=>rfl) _⟩);conv=>whnf)|(with_reducible apply z4;omega;intro _;conv=>whnf)|(with_reducible apply z33;omega;intro _;conv=>whnf)|(apply z4;omega;intro _;conv=>whnf)|(apply z56;omega;conv=>whnf)|(apply z66;conv=>whnf)|(apply z69;omega;intro _;conv=>whnf)|(apply z74<;>intro _<;>conv=>whnf)|(apply z61<;>intro _<;>conv=>whnf)|(apply z73<;>intro _<;>conv=>whnf)|(apply z90<;>intro _<;>conv=>whnf)|(apply z2<;>intro _<;>conv=>whnf)|(apply z8<;>intro _<;>conv=>whnf)|(apply z37<;>intro _<;>conv=>whnf)|(apply z47<;>intro _<;>conv=>whnf))
  ·omega
  ·obtain rfl:k=l.length:=by omega
   exact z222 rfl (z1 fun _=>rfl) rfl (z324 _ _ _ _ rfl)
theorem z800 (g : Graph) (c0 : CallsA Tryz.prog 110 [lst 2 State.cs g.st] [] (.sref 0 0 g.st.length) [.cells 2 (g.st.map State.co)]) (c1 : CallsA Tryz.prog 111 [lst 1 encL g.nx] [] (.sref 0 0 g.nx.length) [.cells 1 (g.nx.map z96)]) :
    CallsA Tryz.prog 37 [.agg g.cs] [] (.agg [.sref 0 0 g.st.length,.sref 1 0 g.nx.length]) [.cells 2 (g.st.map State.co),.cells 1 (g.nx.map z96)]:=by
  refine z6 z12 Tryz.func37 rfl rfl 13 Tryz.ntmps37 (by simp) ?_
  repeat' (first|(apply y83 ok;rfl;conv=>whnf)|(apply z7;kernel_rfl;conv=>whnf)|(apply y44;(first|omega|(unfold inI;omega)|(dsimp only;omega)|(unfold z39;omega)|((try dsimp only);simp only [y50,y49,y48,y47,y57,y58];omega)|(simp only [z52] at *;first|omega|(unfold inI;omega)|(unfold z39;omega))|exact z15 (fun _=>rfl)|exact ⟨rfl,z23 rfl z29⟩|exact ⟨rfl,z15 (fun _=>rfl) _⟩|exact ⟨⟨rfl,by omega⟩,z15 (fun _=>rfl) _⟩);conv=>whnf)|(with_reducible apply z4;omega;intro _;conv=>whnf)|(with_reducible apply z33;omega;intro _;conv=>whnf)|(apply z4;omega;intro _;conv=>whnf)|(apply z56;omega;conv=>whnf)|(apply z66;conv=>whnf)|(apply z69;omega;intro _;conv=>whnf)|(apply z74<;>intro _<;>conv=>whnf)|(apply z61<;>intro _<;>conv=>whnf)|(apply z73<;>intro _<;>conv=>whnf)|(apply z90<;>intro _<;>conv=>whnf)|(apply z2<;>intro _<;>conv=>whnf)|(apply z8<;>intro _<;>conv=>whnf)|(apply z37<;>intro _<;>conv=>whnf)|(apply z47<;>intro _<;>conv=>whnf)|(apply z32 [] [] [3] (c0);rfl;(focus ((repeat' (first|exact z11|apply z28))<;>(first|rfl|(refine z44 rfl ?_;(first|exact z19|exact z3 rfl|exact z1 (fun _=>rfl)|exact z1 y15|(apply z20<;>(first|exact z3 rfl|exact z1 (fun _=>rfl)))|assumption)))));rfl;rfl;rfl;rfl;rfl;(focus ((repeat' (first|exact z10|apply z14))<;>(first|exact z77|exact z83 rfl rfl|(refine z26 ?_;(first|exact z19|exact z3 rfl|exact z1 (fun _=>rfl)|exact z1 y15|(apply z20<;>(first|exact z3 rfl|exact z1 (fun _=>rfl)))|assumption)))));(first|exact .inl rfl|(refine .inr ⟨rfl,?_⟩;repeat' (first|exact True.intro|apply y44|exact rfl|exact z59 (fun _=>rfl) _)));conv=>whnf)|(apply z32 [] [] [4] (c1);rfl;(focus ((repeat' (first|exact z11|apply z28))<;>(first|rfl|(refine z44 rfl ?_;(first|exact z19|exact z3 rfl|exact z1 (fun _=>rfl)|exact z1 y15|(apply z20<;>(first|exact z3 rfl|exact z1 (fun _=>rfl)))|assumption)))));rfl;rfl;rfl;rfl;rfl;(focus ((repeat' (first|exact z10|apply z14))<;>(first|exact z77|exact z83 rfl rfl|(refine z26 ?_;(first|exact z19|exact z3 rfl|exact z1 (fun _=>rfl)|exact z1 y15|(apply z20<;>(first|exact z3 rfl|exact z1 (fun _=>rfl)))|assumption)))));(first|exact .inl rfl|(refine .inr ⟨rfl,?_⟩;repeat' (first|exact True.intro|apply y44|exact rfl|exact z59 (fun _=>rfl) _)));conv=>whnf))
  exact z82 [3,4] (by decide) rfl rfl rfl ⟨z17 rfl (z1 fun _=>rfl),z17 rfl (z1 fun _=>rfl),trivial⟩
theorem z513 (l:List Tree) (hl:l.length≤1048576) (hel:∀ t∈l,CallsA Tryz.prog 112 [z24 Tree.cs' t] [] (.agg [.int t.kind,.int t.val,.sref 0 0 t.kids.length]) [.cells 3 (t.kids.map Tree.co)]):CallsA Tryz.prog 38 [lst 3 Tree.cs' l] [] (.sref 0 0 l.length) [.cells 3 (l.map Tree.co')]:=by
 refine z6 z12 Tryz.func38 rfl rfl 23 Tryz.ntmps38 (by simp) ?_
 repeat' (first|(apply y83 ok;rfl;conv=>whnf)|(apply z7;kernel_rfl;conv=>whnf)|(apply y44;(first|omega|(unfold inI;omega)|(dsimp only;omega)|(unfold z39;omega)|((try dsimp only);simp only [y50,y49,y48,y47,y57,y58];omega)|(simp only [z52] at *;first|omega|(unfold inI;omega)|(unfold z39;omega))|exact z15 (fun _=>rfl)|exact ⟨rfl,z23 rfl z29⟩|exact ⟨rfl,z15 (fun _=>rfl) _⟩|exact ⟨⟨rfl,by omega⟩,z15 (fun _=>rfl) _⟩);conv=>whnf)|(with_reducible apply z4;omega;intro _;conv=>whnf)|(with_reducible apply z33;omega;intro _;conv=>whnf)|(apply z4;omega;intro _;conv=>whnf)|(apply z56;omega;conv=>whnf)|(apply z66;conv=>whnf)|(apply z69;omega;intro _;conv=>whnf)|(apply z74<;>intro _<;>conv=>whnf)|(apply z61<;>intro _<;>conv=>whnf)|(apply z73<;>intro _<;>conv=>whnf)|(apply z90<;>intro _<;>conv=>whnf)|(apply z2<;>intro _<;>conv=>whnf)|(apply z8<;>intro _<;>conv=>whnf)|(apply z37<;>intro _<;>conv=>whnf)|(apply z47<;>intro _<;>conv=>whnf))
 refine z93 (fun k:Nat=>([(0,lst 3 Tree.cs' l),(3,.sref 0 0 l.length),(4,.int k)],[.cells 3 ((l.take k).map Tree.co'++List.replicate (l.length - k) [.int 0,.int 0,.nils])])) (fun k=>k≤l.length) (fun k=>l.length - k) 0 (by omega) ⟨[0],rfl,by decide,rfl,by repeat' (first|exact True.intro|exact ⟨rfl,rfl⟩|apply y44),by repeat' (first|exact True.intro|exact z25 rfl rfl|exact z17 (by rfl) (by (first|exact z19|exact z3 rfl|exact z1 (fun _=>rfl)|exact z1 y15|(apply z20<;>(first|exact z3 rfl|exact z1 (fun _=>rfl)))|assumption))|apply y44)⟩ ?_
 intro k hk
 by_cases hkl:k < l.length
 ·repeat' (first|((fail_if_success apply z53 4);(fail_if_success apply z38 4);apply y83 ok;rfl;conv=>whnf)|(apply z7;kernel_rfl;conv=>whnf)|(apply y44;(first|omega|(unfold inI;omega)|(dsimp only;omega)|(unfold z39;omega)|((try dsimp only);simp only [y50,y49,y48,y47,y57,y58];omega)|(simp only [z52] at *;first|omega|(unfold inI;omega)|(unfold z39;omega))|exact z15 (fun _=>rfl)|exact ⟨rfl,z23 rfl z29⟩|exact ⟨rfl,z15 (fun _=>rfl) _⟩|exact ⟨⟨rfl,by omega⟩,z15 (fun _=>rfl) _⟩);conv=>whnf)|(with_reducible apply z4;omega;intro _;conv=>whnf)|(with_reducible apply z33;omega;intro _;conv=>whnf)|(apply z4;omega;intro _;conv=>whnf)|(apply z56;omega;conv=>whnf)|(apply z66;conv=>whnf)|(apply z69;omega;intro _;conv=>whnf)|(apply z74<;>intro _<;>conv=>whnf)|(apply z61<;>intro _<;>conv=>whnf)|(apply z73<;>intro _<;>conv=>whnf)|(apply z90<;>intro _<;>conv=>whnf)|(apply z2<;>intro _<;>conv=>whnf)|(apply z8<;>intro _<;>conv=>whnf)|(apply z37<;>intro _<;>conv=>whnf)|(apply z47<;>intro _<;>conv=>whnf)|(apply z32 [] [] [1] (hel l[k] (y45 _));rfl;(focus ((repeat' (first|exact z11|apply z28))<;>(first|rfl|(refine z44 rfl ?_;(first|exact z19|exact z3 rfl|exact z1 (fun _=>rfl)|exact z1 y15|(apply z20<;>(first|exact z3 rfl|exact z1 (fun _=>rfl)))|assumption)))));rfl;rfl;rfl;rfl;rfl;(focus ((repeat' (first|exact z10|apply z14))<;>(first|exact z77|exact z83 rfl rfl|(refine z26 ?_;(first|exact z19|exact z3 rfl|exact z1 (fun _=>rfl)|exact z1 y15|(apply z20<;>(first|exact z3 rfl|exact z1 (fun _=>rfl)))|assumption)))));(first|exact .inl rfl|(refine .inr ⟨rfl,?_⟩;repeat' (first|exact True.intro|apply y44|exact rfl|exact z59 (fun _=>rfl) _)));conv=>whnf))
  ·refine y84 (Gl.Reach.absorb 0 1 k 2 rfl (z202 rfl (by rw [z404 hk];exact hkl)) rfl rfl (by simp) rfl (z1 y15) rfl) ?_
   conv=>whnf
   repeat' (first|(apply y83 ok;rfl;conv=>whnf)|(apply z7;kernel_rfl;conv=>whnf)|(apply y44;(first|omega|(unfold inI;omega)|(dsimp only;omega)|(unfold z39;omega)|((try dsimp only);simp only [y50,y49,y48,y47,y57,y58];omega)|(simp only [z52] at *;first|omega|(unfold inI;omega)|(unfold z39;omega))|exact z15 (fun _=>rfl)|exact ⟨rfl,z23 rfl z29⟩|exact ⟨rfl,z15 (fun _=>rfl) _⟩|exact ⟨⟨rfl,by omega⟩,z15 (fun _=>rfl) _⟩);conv=>whnf)|(with_reducible apply z4;omega;intro _;conv=>whnf)|(with_reducible apply z33;omega;intro _;conv=>whnf)|(apply z4;omega;intro _;conv=>whnf)|(apply z56;omega;conv=>whnf)|(apply z66;conv=>whnf)|(apply z69;omega;intro _;conv=>whnf)|(apply z74<;>intro _<;>conv=>whnf)|(apply z61<;>intro _<;>conv=>whnf)|(apply z73<;>intro _<;>conv=>whnf)|(apply z90<;>intro _<;>conv=>whnf)|(apply z2<;>intro _<;>conv=>whnf)|(apply z8<;>intro _<;>conv=>whnf)|(apply z37<;>intro _<;>conv=>whnf)|(apply z47<;>intro _<;>conv=>whnf))
   exact z81 (k+1) [0] (by omega) (by omega) ⟨rfl,by decide,rfl,⟨⟨rfl,rfl⟩,⟨rfl,rfl⟩,⟨rfl,rfl⟩,trivial⟩,⟨z17 (z31 (z403 hkl rfl rfl)) (z20 (z1 fun _=>rfl) (z3 rfl)),trivial⟩⟩
  ·omega
 ·repeat' (first|(apply y83 ok;rfl;conv=>whnf)|(apply z7;kernel_rfl;conv=>whnf)|(apply y44;(first|omega|(unfold inI;omega)|(dsimp only;omega)|(unfold z39;omega)|((try dsimp only);simp only [y50,y49,y48,y47,y57,y58];omega)|(simp only [z52] at *;first|omega|(unfold inI;omega)|(unfold z39;omega))|exact z15 (fun _=>rfl)|exact ⟨rfl,z23 rfl z29⟩|exact ⟨rfl,z15 (fun _=>rfl) _⟩|exact ⟨⟨rfl,by omega⟩,z15 (fun _=>rfl) _⟩);conv=>whnf)|(with_reducible apply z4;omega;intro _;conv=>whnf)|(with_reducible apply z33;omega;intro _;conv=>whnf)|(apply z4;omega;intro _;conv=>whnf)|(apply z56;omega;conv=>whnf)|(apply z66;conv=>whnf)|(apply z69;omega;intro _;conv=>whnf)|(apply z74<;>intro _<;>conv=>whnf)|(apply z61<;>intro _<;>conv=>whnf)|(apply z73<;>intro _<;>conv=>whnf)|(apply z90<;>intro _<;>conv=>whnf)|(apply z2<;>intro _<;>conv=>whnf)|(apply z8<;>intro _<;>conv=>whnf)|(apply z37<;>intro _<;>conv=>whnf)|(apply z47<;>intro _<;>conv=>whnf))
  ·omega
  ·obtain rfl:k=l.length:=by omega
   exact z222 rfl (z1 fun _=>rfl) rfl (z324 _ _ _ _ rfl)
theorem z938 (t:Tree):t.sz≤1048576→CallsA Tryz.prog 112 [z24 Tree.cs' t] [] (.agg [.int t.kind,.int t.val,.sref 0 0 t.kids.length]) [.cells 3 (t.kids.map Tree.co)]:=by
 induction t using y27 with|h t ih=>?_
 intro hm
 rw [y38] at hm
 have hk:=z513 t.kids (by omega) (fun s hs=>ih s hs (by
  have:=z200 Tree.sz hs
  omega))
 rw [← y14] at hk
 rw [y13]
 refine z6 z12 Tryz.func112 rfl rfl 15 Tryz.ntmps112 (by simp) ?_
 repeat' (first|(apply y83 ok;rfl;conv=>whnf)|(apply z7;kernel_rfl;conv=>whnf)|(apply y44;(first|omega|(unfold inI;omega)|(dsimp only;omega)|(unfold z39;omega)|((try dsimp only);simp only [y50,y49,y48,y47,y57,y58];omega)|(simp only [z52] at *;first|omega|(unfold inI;omega)|(unfold z39;omega))|exact z15 (fun _=>rfl)|exact ⟨rfl,z23 rfl z29⟩|exact ⟨rfl,z15 (fun _=>rfl) _⟩|exact ⟨⟨rfl,by omega⟩,z15 (fun _=>rfl) _⟩);conv=>whnf)|(with_reducible apply z4;omega;intro _;conv=>whnf)|(with_reducible apply z33;omega;intro _;conv=>whnf)|(apply z4;omega;intro _;conv=>whnf)|(apply z56;omega;conv=>whnf)|(apply z66;conv=>whnf)|(apply z69;omega;intro _;conv=>whnf)|(apply z74<;>intro _<;>conv=>whnf)|(apply z61<;>intro _<;>conv=>whnf)|(apply z73<;>intro _<;>conv=>whnf)|(apply z90<;>intro _<;>conv=>whnf)|(apply z2<;>intro _<;>conv=>whnf)|(apply z8<;>intro _<;>conv=>whnf)|(apply z37<;>intro _<;>conv=>whnf)|(apply z47<;>intro _<;>conv=>whnf)|(apply z32 [] [] [3] (hk);rfl;(focus ((repeat' (first|exact z11|apply z28))<;>(first|rfl|(refine z44 rfl ?_;(first|exact z19|exact z3 rfl|exact z1 (fun _=>rfl)|exact z1 y15|(apply z20<;>(first|exact z3 rfl|exact z1 (fun _=>rfl)))|assumption)))));rfl;rfl;rfl;rfl;rfl;(focus ((repeat' (first|exact z10|apply z14))<;>(first|exact z77|exact z83 rfl rfl|(refine z26 ?_;(first|exact z19|exact z3 rfl|exact z1 (fun _=>rfl)|exact z1 y15|(apply z20<;>(first|exact z3 rfl|exact z1 (fun _=>rfl)))|assumption)))));(first|exact .inl rfl|(refine .inr ⟨rfl,?_⟩;repeat' (first|exact True.intro|apply y44|exact rfl|exact z59 (fun _=>rfl) _)));conv=>whnf))
 exact z82 [3] (by decide) rfl rfl rfl ⟨z17 rfl (z1 y15),trivial⟩
end Go.Proofs.YtahhobgjcfionaaGreat
