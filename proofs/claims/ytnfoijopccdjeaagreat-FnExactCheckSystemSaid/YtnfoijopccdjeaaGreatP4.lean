/- A part of the proofs over this program: T140, T141, T142, T221, T222, T223, T143, T224, T144, T225, T145, T226, T146, T147, T227, T148. -/
import Derived.Test.YtnfoijopccdjeaaGreatG0
import Derived.Test.YtnfoijopccdjeaaGreatG1
import Derived.Test.YtnfoijopccdjeaaGreatG2
import Derived.Test.YtnfoijopccdjeaaGreatG3
import Derived.Test.YtnfoijopccdjeaaGreatP0
import Derived.Test.YtnfoijopccdjeaaGreatP1
import Derived.Test.YtnfoijopccdjeaaGreatP2
import Derived.Test.YtnfoijopccdjeaaGreatP3
set_option linter.all false
namespace Go.Proofs.YtnfoijopccdjeaaGreat
open Go.Gl
attribute [local irreducible] z16 AWP z29 z32 z30
theorem z1025 (k:Int):CallsA Tryz.prog 157 [.int k] [] (.int (z209 k)) []:=by
 refine z7 z9 Tryz.func157 rfl rfl 17 Tryz.ntmps157 (by simp) ?_
 repeat' (first|(apply y4 ok;rfl;conv=>whnf)|(apply z5<;>intro _<;>conv=>whnf))
 all_goals (refine z42 rfl rfl ?_;unfold z209;first|(rw [if_pos (by omega)];rfl)|(rw [if_neg (by omega),if_pos (by omega)];rfl)|(rw [if_neg (by omega),if_neg (by omega),if_pos (by omega)];rfl)|(rw [if_neg (by omega),if_neg (by omega),if_neg (by omega)];rfl))
theorem z863 (l:List Tree) (d:Int):Tree.shapeFs l d=l.all (fun t=>t.shapeF d):=by
 induction l with
 |nil=>rfl
 |cons t l ih=>simp [Tree.shapeFs,ih]
theorem z371 (t:Tree) (d:Int):t.shapeF d=(decide (1≤d∧(t.kids.length:Int)=z209 t.kind∧0≤t.val∧t.val≤z386 t.kind) && t.kids.all fun t=>t.shapeF (d - 1)):=by
 cases t;simp only [Tree.shapeF,Tree.kids,Tree.kind,Tree.val,z863];rfl
theorem z1023 (t:Tree):t.mx→∀ d:Int,-100≤d→d≤100→CallsA Tryz.prog 117 [z20 Tree.cs' t,.int d] [] (.bool (t.shapeF d)) []:=by
  induction t using y32 with|h t ih=>?_
  intro hm d h0 h1
  rw [y34] at hm
  have hl:=hm.1
  unfold maxLen at hl
  rw [y17,z371]
  refine z7 z9 Tryz.func117 rfl rfl 51 Tryz.ntmps117 (by simp) ?_
  repeat' (first|(apply y4 ok;rfl;conv=>whnf)|(apply z17;kernel_rfl;conv=>whnf)|(apply z5<;>intro _<;>conv=>whnf)|(apply z28<;>intro _<;>conv=>whnf)|(apply z0 (z1025 _);rfl;rfl;conv=>whnf))
  all_goals first
    | (refine z21 rfl ?_
       rw [y90]
       · rfl
       · clear ih
         rintro ⟨c1,c2,c3,c4⟩
         unfold z386 at c4
         grind)
    | (have hg : decide (1 ≤ d ∧ (t.kids.length : Int) = z209 t.kind ∧ 0 ≤ t.val ∧ t.val ≤ z386 t.kind) = true := by
         clear ih
         refine y89 ?_
         unfold z386
         grind
       rw [hg,Bool.true_and]
       refine z85 (fun k:Nat=>([(1,.int d),(2,.ptr 0 none 0),(5,.int k)],[.cells 3 [[.int t.kind,.int t.val,lst 3 Tree.cs' t.kids]]])) (fun k=>k≤t.kids.length∧(t.kids.all fun t=>t.shapeF (d - 1))=(t.kids.drop k).all fun t=>t.shapeF (d - 1)) (fun k=>t.kids.length - k) 0 ⟨by omega,rfl⟩ ⟨[0],rfl,by decide,rfl,by repeat' (first|exact True.intro|exact ⟨rfl,rfl⟩|apply y50),by repeat' (first|exact True.intro|exact z24 rfl rfl|apply y50)⟩ ?_
       intro k hk
       repeat' (first|(apply y4 ok;rfl;conv=>whnf)|(apply y50;(first|omega|(unfold inI;omega));conv=>whnf)|(with_reducible apply z8;omega;intro _;conv=>whnf)|(apply z5<;>intro _<;>conv=>whnf)|(apply z96<;>intro _<;>conv=>whnf)|(apply z0 (ih t.kids[k] (y51 _) (hm.2 _ (y51 _)) (d - 1) (by omega) (by omega));rfl;rfl;conv=>whnf))
       · rename_i h1
         exact z21 rfl (by rw [hk.2,z123 _ _ _ (by assumption)];simp [h1])
       · rename_i h1
         exact z78 (k+1) [0] ⟨by omega,by rw [hk.2,z123 _ _ _ (by assumption)];simp [h1]⟩ (by omega) ⟨rfl,by decide,rfl,by repeat' (first|exact True.intro|exact ⟨rfl,rfl⟩|apply y50),by repeat' (first|exact True.intro|exact z24 rfl rfl|apply y50)⟩
       · exact z21 rfl (by rw [hk.2,z99 _ _ _ (by omega)]))
theorem z1200 (t:Tree):∀ d n:Nat,t.shapeF d=true→t.count n≤2 ^ d - 1:=by
 induction t using y32 with|h t ih=>?_
 intro d n h
 rw [z371,y77,decide_eq_true_eq] at h
 obtain ⟨⟨h1,h2,_,_⟩,h3⟩:=h
 rw [y85] at h3
 obtain ⟨d,rfl⟩:∃ e,d=e+1:=⟨d - 1,by omega⟩
 have e:((d+1:Nat):Int) - 1=(d:Nat):=by omega
 rw [e] at h3
 rw [z490]
 have hp:(1:Int)≤2 ^ d:=by exact_mod_cast Nat.one_le_two_pow
 have hq:((2:Int) ^ (d+1))=2 * 2 ^ d:=by rw [Int.pow_succ];omega
 split
 ·rename_i hn
  obtain ⟨n,rfl⟩:∃ e,n=e+1:=⟨n - 1,by omega⟩
  have e:((n+1:Nat):Int) - 1=(n:Nat):=by omega
  rw [e]
  have hl:(t.kids.length:Int)≤2:=by rw [h2];unfold z209;grind
  have hk:∀ u∈t.kids,u.count n≤2 ^ d - 1:=fun u hu=>ih u hu d n (h3 u hu)
  match hkk:t.kids with
  |[]=>simp only [List.map_nil,List.sum_nil];omega
  |[a] =>
   have:=hk a (by simp [hkk])
   simp only [List.map_cons,List.map_nil,List.sum_cons,List.sum_nil];omega
  |[a,b] =>
   have:=hk a (by simp [hkk])
   have:=hk b (by simp [hkk])
   simp only [List.map_cons,List.map_nil,List.sum_cons,List.sum_nil];omega
  |a::b::c::r=>rw [hkk] at hl;simp only [y64] at hl;omega
 ·omega
theorem z813 (t:Tree) (e d:Int) (he:e≤50) (hd:0≤d) (h:t.shapeF e=true):t.count d≤2 ^ 50:=by
 have h1:1≤e:=by
  rw [z371,y77,decide_eq_true_eq] at h;exact h.1.1
 obtain ⟨n,rfl⟩:=Int.eq_ofNat_of_zero_le (show 0≤e by omega)
 obtain ⟨m,rfl⟩:=Int.eq_ofNat_of_zero_le hd
 have h2:=z1200 t n m h
 have h4:(2:Int) ^ n≤2 ^ 50:=by exact_mod_cast Nat.pow_le_pow_right (by omega) (by omega)
 omega
theorem z1024 (t:Tree):t.mx→∀ e d:Int,e≤50→0≤d→d≤50→t.shapeF e=true→CallsA Tryz.prog 118 [z20 Tree.cs' t,.int d] [] (.int (t.count d)) []:=by
 induction t using y32 with|h t ih=>?_
 intro hm e d h0 h1 h2 hs
 rw [y34] at hm
 rw [z371,y77,decide_eq_true_eq,y85] at hs
 obtain ⟨⟨hs1,hs2,_,_⟩,hs3⟩:=hs
 have hl:(t.kids.length:Int)≤2:=by rw [hs2];unfold z209;grind
 rw [y17,z490]
 have hb:0 < d→∀ k,k≤t.kids.length→0≤((t.kids.take k).map fun t=>t.count (d - 1)).sum∧((t.kids.take k).map fun t=>t.count (d - 1)).sum≤k * 2 ^ 50:=by
  intro hd k
  induction k with
  |zero=>intro _;simp
  |succ k ihk =>
   intro hk
   have h1:=ihk (by omega)
   rw [z471 _ _ _ (by omega)]
   have h2:=z813 t.kids[k] (e - 1) (d - 1) (by omega) (by omega) (hs3 _ (y51 _))
   have h3:=Tree.count_pos.1 t.kids[k] (d - 1)
   omega
 refine z7 z9 Tryz.func118 rfl rfl 29 Tryz.ntmps118 (by simp) ?_
 repeat' ((apply y4 ok;rfl;conv=>whnf))
 by_cases hd:0 < d
 ·rw [if_pos hd]
  refine z85 (fun k:Nat=>([(1,.int d),(2,.ptr 0 none 0),(5,.int (1+((t.kids.take k).map fun t=>t.count (d - 1)).sum)),(6,.int k)],[.cells 3 [[.int t.kind,.int t.val,lst 3 Tree.cs' t.kids]]])) (fun k=>k≤t.kids.length) (fun k=>t.kids.length - k) 0 (by omega) ⟨[0],rfl,by decide,rfl,by repeat' (first|exact True.intro|exact ⟨rfl,rfl⟩|apply y50),by repeat' (first|exact True.intro|exact z24 rfl rfl|apply y50)⟩ ?_
  intro k hk
  have hbk:=hb hd k hk
  have hbk1:=fun h=>hb hd (k+1) h
  have hss:=fun h=>z471 (fun t=>t.count (d - 1)) t.kids k h
  repeat' (first|(apply y4 ok;rfl;conv=>whnf)|(apply y50;(first|omega|(unfold inI;omega));conv=>whnf)|(with_reducible apply z8;omega;intro _;conv=>whnf)|(apply z5<;>intro _<;>conv=>whnf)|(apply z0 (ih t.kids[k] (y51 _) (hm.2 _ (y51 _)) (e - 1) (d - 1) (by omega) (by omega) (by omega) (hs3 _ (y51 _)));rfl;rfl;conv=>whnf))
  ·have e1:=hss ‹_›
   have e2:=hbk1 (by omega)
   refine y50 (by unfold inI;omega) ?_
   conv=>whnf
   repeat' (first|(apply y4 ok;rfl;conv=>whnf)|(apply y50;((unfold inI;omega));conv=>whnf))
   exact z78 (k+1) [0] (by omega) (by omega) ⟨rfl,by decide,rfl,⟨⟨rfl,rfl⟩,⟨rfl,rfl⟩,⟨rfl,by rw [e1,← Int.add_assoc];rfl⟩,⟨rfl,rfl⟩,trivial⟩,⟨z24 rfl rfl,trivial⟩⟩
  ·omega
  ·obtain rfl:k=t.kids.length:=by omega
   exact z42 rfl rfl (by rw [y62];rfl)
 ·rw [if_neg hd]
  refine z85 (fun k:Nat=>([(1,.int d),(2,.ptr 0 none 0),(5,.int 1),(6,.int k)],[.cells 3 [[.int t.kind,.int t.val,lst 3 Tree.cs' t.kids]]])) (fun k=>k≤t.kids.length) (fun k=>t.kids.length - k) 0 (by omega) ⟨[0],rfl,by decide,rfl,by repeat' (first|exact True.intro|exact ⟨rfl,rfl⟩|apply y50),by repeat' (first|exact True.intro|exact z24 rfl rfl|apply y50)⟩ ?_
  intro k hk
  repeat' (first|(apply y4 ok;rfl;conv=>whnf)|(apply y50;(omega);conv=>whnf)|(with_reducible apply z8;omega;intro _;conv=>whnf)|(apply z5<;>intro _<;>conv=>whnf))
  ·omega
  ·exact z42 rfl rfl rfl
  ·exact z42 rfl rfl rfl
theorem z100 (t:Tree) (hm:t.mx):CallsA Tryz.prog 47 [z20 Tree.cs' t] [] (.bool t.fmB) []:=by
 rw [y26]
 refine z7 z9 Tryz.func47 rfl rfl 10 Tryz.ntmps47 (by simp) ?_
 repeat' (first|(apply y4 ok;rfl;conv=>whnf)|(apply z93<;>intro _<;>conv=>whnf)|(apply z0 (z1023 t hm 6 (by omega) (by omega));rfl;rfl;conv=>whnf)|(apply z0 (z1024 t hm 6 6 (by omega) (by omega) (by omega) (by assumption));rfl;rfl;conv=>whnf))
 all_goals (refine z21 rfl ?_;(simp [*];done))
end Go.Proofs.YtnfoijopccdjeaaGreat
namespace Go.Proofs.YtnfoijopccdjeaaGreat
open Go.Gl
attribute [local irreducible] z16 AWP z29 z32 z30 RetS z36
theorem z1164:CallsA Tryz.prog 92 [] [] (.agg [.int 1,.int 0,.list 3 0 []]) []:=by
 refine z6 z9 Tryz.func92 rfl rfl 2 Tryz.ntmps92 (by simp) ?_
 repeat' (((apply y4 ok;rfl))<;>conv=>whnf)
 all_goals (refine rsD [] [] rfl ?_;(repeat' first|exact y93 _|exact z61|apply z64|constructor))
theorem argU (k v:Int) (a:Tree):z20 Tree.cs' (.mk k v [a])=.agg [.int k,.int v,.list 3 1 [Tree.cs' a]]:=by
 rw [y17]
 show AC.agg [AC.int k,AC.int v,lst 3 Tree.cs' [a]]=_
 rfl
theorem argB (k v:Int) (a b:Tree):z20 Tree.cs' (.mk k v [a,b])=.agg [.int k,.int v,.list 3 2 [Tree.cs' a,Tree.cs' b]]:=by
 rw [y17]
 rfl
theorem z504 (x:Tree):F2 LocLe (z281 [AC.int x.kind,AC.int x.val,lst 3 Tree.cs' x.kids]) (Tree.cs x):=by
 have e:Tree.cs x=[AC.int x.kind,AC.int x.val,lst 3 Tree.cs' x.kids]:=by rw [y22];exact AC.agg.inj (y17 x)
 rw [e];exact z560 _
theorem z482 (t:Tree):CallsA Tryz.prog 224 [z20 Tree.cs' t] [] (z20 Tree.cs' (notT t)) []:=by
 unfold notT
 rw [y17 t,y17]
 refine z6 z9 Tryz.func224 rfl rfl 6 Tryz.ntmps224 (by simp) ?_
 repeat' (((apply y4 ok;rfl))<;>conv=>whnf)
 all_goals (refine rsD [] [2] rfl ?_;(repeat' first|exact y93 _|exact f22_cs|refine z66 rfl rfl rfl rfl rfl ?_|apply z64|(apply z221;rfl)|constructor))
 all_goals exact z504 _
theorem z1167 (k:Int):CallsA Tryz.prog 275 [.int k] [] (.int (z565 k)) []:=by
 unfold z565
 refine z6 z9 Tryz.func275 rfl rfl 10 Tryz.ntmps275 (by simp) ?_
 repeat' ((first|(apply y4 ok;rfl)|((apply z5)<;>intro _))<;>conv=>whnf)
 all_goals (refine rsL [] [] rfl ?_;refine y13 (z453 ?_) .nil;first|(rw [if_pos (by omega)];done)|(rw [if_neg (by omega),if_pos (by omega)];done)|(rw [if_neg (by omega),if_neg (by omega),if_pos (by omega)];done)|(rw [if_neg (by omega),if_neg (by omega),if_neg (by omega)];done))
set_option maxHeartbeats 3200000 in
theorem z1166 (t:Tree):t.goodF→∀ neg:Bool,CallsA Tryz.prog 260 [z20 Tree.cs' t,.bool neg] [] (z20 Tree.cs' (t.nrm neg)) []:=by
 induction t using y32 with|h t ih=>?_
 intro hg neg
 have hT:=z1164
 cases y27 hg with
 |tr =>
  rw [z763]
  have cn:=(z482 (.mk 1 0 [])).arg (args0:=[.agg [.int 1,.int 0,.nils]]) (by (repeat' first|exact y93 _|exact z61|apply z64|constructor))
  cases neg
  all_goals
   refine z6 z9 Tryz.func260 rfl rfl 86 Tryz.ntmps260 (by simp) ?_
   repeat' ((first|(apply y4 ok;rfl)|(apply z0 (cn);rfl;rfl))<;>conv=>whnf)
   all_goals (refine rsD [] [] rfl ?_;(repeat' first|exact y93 _|exact z61|apply z64|constructor))
 |«at» v h0 h1 =>
  rw [z765]
  have cn:=(z482 (.mk 2 v [])).arg (args0:=[.agg [.int 2,.int v,.nils]]) (by (repeat' first|exact y93 _|exact z61|apply z64|constructor))
  cases neg
  all_goals
   refine z6 z9 Tryz.func260 rfl rfl 86 Tryz.ntmps260 (by simp) ?_
   repeat' ((first|(apply y4 ok;rfl)|(apply z0 (cn);rfl;rfl))<;>conv=>whnf)
   all_goals (refine rsD [] [] rfl ?_;(repeat' first|exact y93 _|exact z61|apply z64|constructor))
 |un k a hk ha =>
  have ca:=ih a (by simp [Tree.kids]) ha
  clear ih
  have cn:=z482 truT
  rcases hk with rfl|rfl|rfl|rfl
  ·rw [z532,argU 3 0 a]
   have ca:=ca (!neg)
   refine z6 z9 Tryz.func260 rfl rfl 86 Tryz.ntmps260 (by simp) ?_
   repeat' ((first|(apply y4 ok;rfl)|(refine ⟨_,rfl,?_⟩)|(apply y50;omega)|(apply z0 (ca);rfl;rfl))<;>conv=>whnf)
   all_goals (refine rsD [] [] rfl ?_;(repeat' first|exact y93 _|constructor))
  ·rw [z383,argU 6 0 a]
   have ca:=ca neg
   generalize a.nrm neg=x at *
   rw [y17 x] at ca
   refine z6 z9 Tryz.func260 rfl rfl 86 Tryz.ntmps260 (by simp) ?_
   repeat' ((first|(apply y4 ok;rfl)|(refine ⟨_,rfl,?_⟩)|(apply y50;omega)|(apply z0 (ca);rfl;rfl))<;>conv=>whnf)
   all_goals (refine rsD [] [2] rfl ?_;(repeat' first|exact y93 _|refine z66 rfl rfl rfl rfl rfl ?_|apply z64|(apply z221;rfl)|constructor))
   all_goals exact z504 _
  ·rw [z764,argU 9 0 a]
   have ca:=ca neg
   generalize a.nrm neg=x at *
   rw [y17 x] at ca
   cases neg
   all_goals
    refine z6 z9 Tryz.func260 rfl rfl 86 Tryz.ntmps260 (by simp) ?_
    repeat' ((first|(apply y4 ok;rfl)|(apply z17;kernel_rfl)|(refine ⟨_,rfl,?_⟩)|(apply y50;omega)|(apply z0 (ca);rfl;rfl)|(apply z0 (hT);rfl;rfl)|(apply z0 (cn);rfl;rfl))<;>conv=>whnf)
    all_goals (refine rsD [] [3] rfl ?_;(repeat' first|exact y93 _|refine z66 rfl rfl rfl rfl rfl ?_|apply z64|(apply z221;rfl)|constructor))
    all_goals exact z504 _
  ·rw [z766,argU 10 0 a]
   have ca:=ca neg
   generalize a.nrm neg=x at *
   rw [y17 x] at ca
   cases neg
   all_goals
    refine z6 z9 Tryz.func260 rfl rfl 86 Tryz.ntmps260 (by simp) ?_
    repeat' ((first|(apply y4 ok;rfl)|(apply z17;kernel_rfl)|(refine ⟨_,rfl,?_⟩)|(apply y50;omega)|(apply z0 (ca);rfl;rfl)|(apply z0 (hT);rfl;rfl)|(apply z0 (cn);rfl;rfl))<;>conv=>whnf)
    all_goals (refine rsD [] [3] rfl ?_;(repeat' first|exact y93 _|refine z66 rfl rfl rfl rfl rfl ?_|apply z64|(apply z221;rfl)|constructor))
    all_goals exact z504 _
 |bin k a b hk ha hb =>
  have ca:=ih a (by simp [Tree.kids]) ha neg
  have cb:=ih b (by simp [Tree.kids]) hb neg
  clear ih
  have cd:=z1167 k
  rw [z533 _ _ _ _ _ hk,argB k 0 a b]
  generalize a.nrm neg=x at *
  generalize b.nrm neg=y at *
  rw [y17 x] at ca
  rw [y17 y] at cb
  generalize z565 k=k' at *
  cases neg
  all_goals
   refine z6 z9 Tryz.func260 rfl rfl 86 Tryz.ntmps260 (by simp) ?_
   repeat' ((first|(apply y4 ok;rfl)|(apply z17;kernel_rfl)|(refine ⟨_,rfl,?_⟩)|(apply y50;omega)|((first|apply z5|apply z28)<;>intro _)|(apply z0 (ca);rfl;rfl)|(apply z0 (cb);rfl;rfl)|(apply z0 (cd);rfl;rfl))<;>conv=>whnf)
   all_goals try (exfalso;omega)
   all_goals (refine rsD [] [2] rfl ?_;(repeat' first|exact y93 _|refine z66 rfl rfl rfl rfl rfl ?_|apply z64|(apply z221;rfl)|constructor))
   all_goals exact z504 _
end Go.Proofs.YtnfoijopccdjeaaGreat
namespace Go.Proofs.YtnfoijopccdjeaaGreat
open Go.Gl
attribute [local irreducible] z16 AWP z29 z32 z30
theorem z908 (l:List Tree) (hl:l.length≤1048576) (hp:0 < l.length):CallsA Tryz.prog 277 [lst 3 Tree.cs' l] [] (.sref 0 0 l.length) [.cells 3 (l.map Tree.cs')]:=by
 refine z7 z9 Tryz.func277 rfl rfl 8 Tryz.ntmps277 (by simp) ?_
 repeat' (first|(apply y4 ok;rfl;conv=>whnf)|(apply y50;(first|omega|(dsimp only;omega)|exact z151 (fun _=>rfl));conv=>whnf))
 exact z97 rfl (z4 fun _=>rfl) (Nat.zero_add _) rfl rfl
theorem z1049 (l:List Tree) (hl:l.length≤1048576):CallsA Tryz.prog 277 [lst 3 Tree.cs' l] [] (.sref 0 0 l.length) [.cells 3 (l.map Tree.cs')]:=by
 by_cases hp:0 < l.length
 ·exact z908 l hl hp
 ·obtain rfl:l=[]:=y80 (by omega)
  refine z207 (z297 Tryz.func277 rfl (by rfl)) fun ad cap=>?_
  cases ad with
  |none =>
   refine CallsA.nils (res:=.nils) (l:=[.cells 3 []]) ?_ (by simp) z478
   refine z7 z9 Tryz.func277 rfl rfl 8 Tryz.ntmps277 (by simp) ?_
   repeat' ((apply y4 ok;rfl;conv=>whnf))
   all_goals exact z42 rfl rfl rfl
  |some p =>
   refine z7 z9 Tryz.func277 rfl rfl 8 Tryz.ntmps277 (by simp) ?_
   repeat' (first|(apply y4 ok;rfl;conv=>whnf)|(apply y50;(omega);conv=>whnf))
   all_goals (exact z97 rfl z33 rfl rfl rfl)
theorem z566 (l:List Tree) (hl:l.length≤1048576):CallsA Tryz.prog 266 [.sref 0 0 l.length] [.cells 3 (l.map Tree.cs')] (.sref 0 0 l.length) [.cells 3 (l.map Tree.cs')]:=by
 refine z7 z9 Tryz.func266 rfl rfl 9 Tryz.ntmps266 (by simp) ?_
 repeat' (first|(apply y4 ok;rfl;conv=>whnf)|(apply y50;(omega);conv=>whnf))
 exact z97 rfl (z4 fun _=>rfl) (by omega) rfl rfl
theorem z173 (l:List Tree) (hl:l.length≤1048576):CallsA Tryz.prog 264 [lst 3 Tree.cs' l] [] (.sref 0 0 l.length) [.cells 3 (l.map Tree.cs')]:=by
 refine z7 z9 Tryz.func264 rfl rfl 6 Tryz.ntmps264 (by simp) ?_
 repeat' (first|(apply y4 ok;rfl;conv=>whnf)|(apply z35 [] [] [0] (z1049 l hl);rfl;(focus ((repeat' (exact z14))<;>(fail)));rfl;rfl;rfl;rfl;rfl;(focus ((repeat' (first|exact z12|apply z15))<;>((refine z22 ?_;((exact z4 (fun _=>rfl)))))));(exact .inl rfl);conv=>whnf)|(apply z35 [0] [] [] (z566 l hl);rfl;(focus ((repeat' (first|exact z14|apply z27))<;>((refine z41 rfl ?_;((exact z4 (fun _=>rfl)))))));rfl;rfl;rfl;rfl;rfl;(focus ((repeat' (first|exact z12|apply z15))<;>((refine z22 ?_;((exact z4 (fun _=>rfl)))))));(exact .inl rfl);conv=>whnf))
 exact z97 rfl (z4 fun _=>rfl) rfl rfl rfl
end Go.Proofs.YtnfoijopccdjeaaGreat
namespace Go.Proofs.YtnfoijopccdjeaaGreat
open Go.Gl
attribute [local irreducible] z16 AWP z29 z32 z30 RetS z36
theorem z1033 (k:Int) (l:List Tree) (hl:l.length≤1048576):CallsA Tryz.prog 235 [.int k,lst 3 Tree.cs' l] [] (.agg [.int k,.int 0,lst 3 Tree.cs' l]) []:=by
 have c:=z173 l hl
 refine z6 z9 Tryz.func235 rfl rfl 9 Tryz.ntmps235 (by simp) ?_
 repeat' ((first|(apply y4 ok;rfl)|(apply z54 [] [1] c;rfl;rfl;rfl;(focus ((repeat' first|exact z12|apply z15)<;>(refine z22 ?_;((exact z4 fun _=>rfl)))))))<;>conv=>whnf)
 all_goals (refine rsD [] [1] rfl ?_;(repeat' first|exact y93 _|((apply z66 rfl rfl rfl);(focus ((repeat ((exact z53 (fun _=>rfl) _)));done));(focus (((simp;done));done)))|apply z64|constructor))
theorem z892 (k:Int):CallsA Tryz.prog 235 [.int k,.nils] [] (.agg [.int k,.int 0,.list 3 0 []]) []:=(z1033 k [] (by simp)).arg (by (repeat' first|exact y93 _|exact z61|constructor))
theorem z130 (k:Int) (l:List Tree) (hl:l.length≤1048576):CallsA Tryz.prog 235 [.int k,.sref 0 0 l.length] [.cells 3 (l.map Tree.cs')] (.agg [.int k,.int 0,lst 3 Tree.cs' l]) [.dead]:=by
 have c:=z173 l hl
 refine z6 z9 Tryz.func235 rfl rfl 9 Tryz.ntmps235 (by simp) ?_
 refine y92 (Reach.rnm 0 rfl) ?_
 refine y92 (show Gl.Reach _ _ (mkSt _ [(0,.int k),(1,lst 3 Tree.cs' l)] [.dead]) from (by refine swR [0] [1] rfl rfl ?_;(repeat' first|exact y93 _|((apply z66 rfl rfl rfl);(focus ((repeat ((exact z53 (fun _=>rfl) _)));done));(focus (((simp;done));done)))|constructor))) ?_
 repeat' ((first|(apply y4 ok;rfl)|(apply z54 [] [2] c;rfl;rfl;rfl;(focus ((repeat' first|exact z12|apply z15)<;>(refine z22 ?_;((exact z4 fun _=>rfl)))))))<;>conv=>whnf)
 all_goals (refine rsD [0] [2] rfl ?_;(repeat' first|exact y93 _|((apply z66 rfl rfl rfl);(focus ((repeat ((exact z53 (fun _=>rfl) _)));done));(focus (((simp;done));done)))|apply z64|constructor))
theorem z456 (k kd v:Int):CallsA Tryz.prog 235 [.int k,.sref 0 0 1] [.cells 3 [[.int kd,.int v,.nils]]] (.agg [.int k,.int 0,lst 3 Tree.cs' [.mk kd v []]]) [.dead]:=by
 have c:=z173 [.mk kd v []] (by simp)
 refine z6 z9 Tryz.func235 rfl rfl 9 Tryz.ntmps235 (by simp) ?_
 refine y92 (Reach.rnm 0 rfl) ?_
 refine y92 (show Gl.Reach _ _ (mkSt _ [(0,.int k),(1,lst 3 Tree.cs' [.mk kd v []])] [.dead]) from (by refine swR [0] [1] rfl rfl ?_;(repeat' first|exact y93 _|exact z61|refine z66 rfl rfl rfl rfl rfl ?_|(apply z221;rfl)|constructor))) ?_
 repeat' ((first|(apply y4 ok;rfl)|(apply z266 [] [2] c;rfl;rfl;rfl))<;>conv=>whnf)
 all_goals (refine rsD [0] [2] rfl ?_;(repeat' first|exact y93 _|constructor))
theorem z292 (k v : Int) (l : List Tree) (neg : Bool) (i : Nat) (hi : i < l.length) (x : Tree) (hx : CallsA Tryz.prog 238 [z20 Tree.cs' l[i], .bool neg] [] (z20 Tree.cs' x) []) :
    CallsA Tryz.prog 267 [.int i,.ptr 0 none 0,.ptr 1 none 0] [.cells 3 [[.int k,.int v,lst 3 Tree.cs' l]],.cells 1 [[.bool neg]]] (z20 Tree.cs' x) [.cells 3 [[.int k,.int v,lst 3 Tree.cs' l]],.cells 1 [[.bool neg]]]:=by
  have g:(l.map Tree.cs')[i]?=some (Tree.cs' l[i]):=by rw [y58,y52 hi];rfl
  generalize l[i]=y at *
  refine z6 z9 Tryz.func267 rfl rfl 12 Tryz.ntmps267 (by simp) ?_
  repeat' ((first|(apply y4 ok;rfl)|(apply z17;kernel_rfl)|(refine z13 (i:=i) rfl g ?_)|(apply y50;omega)|(apply z0 (hx);rfl;rfl))<;>conv=>whnf)
  all_goals (refine rsD [0,1] [] rfl ?_;(repeat' first|exact y93 _|apply y94|constructor))
theorem z1012 (a b:Int) (neg:Bool):CallsA Tryz.prog 268 [.int a,.int b,.ptr 0 none 0] [.cells 1 [[.bool neg]]] (.int (if neg then b else a)) [.cells 1 [[.bool neg]]]:=by
 refine z6 z9 Tryz.func268 rfl rfl 9 Tryz.ntmps268 (by simp) ?_
 cases neg
 all_goals
  repeat' (((apply y4 ok;rfl))<;>conv=>whnf)
  all_goals (refine rsD [0] [] rfl ?_;(repeat' first|exact y93 _|apply y94|constructor))
set_option maxHeartbeats 6400000 in
theorem z1142 (t:Tree):t.goodF→∀ neg:Bool,CallsA Tryz.prog 238 [z20 Tree.cs' t,.bool neg] [] (z20 Tree.cs' (t.nrm neg)) []:=by
 induction t using y32 with|h t ih=>?_
 intro hg neg
 have cT:=z892 1
 have cF:=z130 3 [.mk 1 0 []] (by simp)
 cases y27 hg with
 |tr =>
  rw [z763]
  clear ih
  cases neg
  all_goals
   refine z6 z9 Tryz.func238 rfl rfl 99 Tryz.ntmps238 (by simp) ?_
   repeat' ((first|(apply y4 ok;rfl)|(apply z0 (cT);rfl;rfl)|((first|(apply z54 [3] [] cF;rfl;rfl)|(apply z54 [6] [] (z456 3 1 0);rfl;rfl));rfl;(focus ((repeat' first|exact z12|apply z15)<;>exact z135))))<;>conv=>whnf)
   all_goals (refine rsD [] [] rfl ?_;(repeat' first|exact y93 _|exact z61|apply z64|constructor))
 |«at» v h0 h1 =>
  rw [z765]
  clear ih
  cases neg
  all_goals
   refine z6 z9 Tryz.func238 rfl rfl 99 Tryz.ntmps238 (by simp) ?_
   repeat' ((first|(apply y4 ok;rfl)|(apply z0 (cT);rfl;rfl)|((first|(apply z54 [3] [] cF;rfl;rfl)|(apply z54 [6] [] (z456 3 2 v);rfl;rfl));rfl;(focus ((repeat' first|exact z12|apply z15)<;>exact z135))))<;>conv=>whnf)
   all_goals (refine rsD [] [] rfl ?_;(repeat' first|exact y93 _|exact z61|apply z64|constructor))
 |un k a hk ha =>
  have ca:=fun n=>ih a (by simp [Tree.kids]) ha n
  clear ih
  rcases hk with rfl|rfl|rfl|rfl
  ·rw [z532,argU 3 0 a]
   have ca:=ca (!neg)
   refine z6 z9 Tryz.func238 rfl rfl 99 Tryz.ntmps238 (by simp) ?_
   repeat' ((first|(apply y4 ok;rfl)|(apply z17;kernel_rfl)|(refine ⟨_,rfl,?_⟩)|(apply y50;omega)|(apply z0 (cT);rfl;rfl)|(apply z0 (ca);rfl;rfl)|(apply z54 [3] [] cF;rfl;rfl;rfl;(focus ((repeat' first|exact z12|apply z15)<;>exact z135))))<;>conv=>whnf)
   all_goals (refine rsD [] [] rfl ?_;(repeat' first|exact y93 _|constructor))
  ·rw [z383,argU 6 0 a,argU]
   have ck:=z292 6 0 [a] neg 0 (by simp) (a.nrm neg) (ca neg)
   have cf:=z130 6 [a.nrm neg] (by simp)
   generalize a.nrm neg=x at *
   refine z6 z9 Tryz.func238 rfl rfl 99 Tryz.ntmps238 (by simp) ?_
   repeat' ((first|(apply y4 ok;rfl)|(apply z0 (cT);rfl;rfl)|((first|(apply z54 [3] [] cF;rfl;rfl)|(apply z54 [0,1] [] ck;rfl;rfl)|(apply z54 [5] [] cf;rfl;rfl));rfl;(focus ((repeat' first|exact z12|apply z15)<;>first|exact z135|exact z117 rfl rfl))))<;>conv=>whnf)
   all_goals (refine rsD [] [] rfl ?_;(repeat' first|exact y93 _|constructor))
  ·rw [z764,argU 9 0 a]
   have ck:=z292 9 0 [a] neg 0 (by simp) (a.nrm neg) (ca neg)
   have c7:=z130 7 [truT,a.nrm neg] (by simp)
   have c8:=z130 8 [notT truT,a.nrm neg] (by simp)
   generalize a.nrm neg=x at *
   cases neg
   ·rw [if_neg (by simp),argB]
    refine z6 z9 Tryz.func238 rfl rfl 99 Tryz.ntmps238 (by simp) ?_
    repeat' ((first|(apply y4 ok;rfl)|(apply z0 (cT);rfl;rfl)|((first|(apply z54 [3] [] cF;rfl;rfl)|(apply z54 [0,1] [] ck;rfl;rfl)|(apply z54 [5] [] c7;rfl;rfl));rfl;(focus ((repeat' first|exact z12|apply z15)<;>first|exact z135|exact z117 rfl rfl))))<;>conv=>whnf)
    all_goals (refine rsD [] [] rfl ?_;(repeat' first|exact y93 _|constructor))
   ·rw [if_pos rfl,argB]
    refine z6 z9 Tryz.func238 rfl rfl 99 Tryz.ntmps238 (by simp) ?_
    repeat' ((first|(apply y4 ok;rfl)|(apply z17;kernel_rfl)|(apply z0 (cT);rfl;rfl)|((first|(apply z54 [3] [] cF;rfl;rfl)|(apply z54 [0,1] [] ck;rfl;rfl)|(apply z54 [5] [] c8;rfl;rfl));rfl;(focus ((repeat' first|exact z12|apply z15)<;>first|exact z135|exact z117 rfl rfl))))<;>conv=>whnf)
    all_goals (refine rsD [] [] rfl ?_;(repeat' first|exact y93 _|constructor))
  ·rw [z766,argU 10 0 a]
   have ck:=z292 10 0 [a] neg 0 (by simp) (a.nrm neg) (ca neg)
   have c7:=z130 7 [truT,a.nrm neg] (by simp)
   have c8:=z130 8 [notT truT,a.nrm neg] (by simp)
   generalize a.nrm neg=x at *
   cases neg
   ·rw [if_neg (by simp),argB]
    refine z6 z9 Tryz.func238 rfl rfl 99 Tryz.ntmps238 (by simp) ?_
    repeat' ((first|(apply y4 ok;rfl)|(apply z17;kernel_rfl)|(apply z0 (cT);rfl;rfl)|((first|(apply z54 [3] [] cF;rfl;rfl)|(apply z54 [0,1] [] ck;rfl;rfl)|(apply z54 [5] [] c8;rfl;rfl));rfl;(focus ((repeat' first|exact z12|apply z15)<;>first|exact z135|exact z117 rfl rfl))))<;>conv=>whnf)
    all_goals (refine rsD [] [] rfl ?_;(repeat' first|exact y93 _|constructor))
   ·rw [if_pos rfl,argB]
    refine z6 z9 Tryz.func238 rfl rfl 99 Tryz.ntmps238 (by simp) ?_
    repeat' ((first|(apply y4 ok;rfl)|(apply z0 (cT);rfl;rfl)|((first|(apply z54 [3] [] cF;rfl;rfl)|(apply z54 [0,1] [] ck;rfl;rfl)|(apply z54 [5] [] c7;rfl;rfl));rfl;(focus ((repeat' first|exact z12|apply z15)<;>first|exact z135|exact z117 rfl rfl))))<;>conv=>whnf)
    all_goals (refine rsD [] [] rfl ?_;(repeat' first|exact y93 _|constructor))
 |bin k a b hk ha hb =>
  have ca:=z292 k 0 [a,b] neg 0 (by simp) (a.nrm neg) (ih a (by simp [Tree.kids]) ha neg)
  have cb:=z292 k 0 [a,b] neg 1 (by simp) (b.nrm neg) (ih b (by simp [Tree.kids]) hb neg)
  clear ih
  have cf:=z130 (if neg then z565 k else k) [a.nrm neg,b.nrm neg] (by simp)
  have cp:=z1012 k (z565 k) neg
  rw [z533 _ _ _ _ _ hk,argB k 0 a b,argB]
  generalize a.nrm neg=x at *
  generalize b.nrm neg=y at *
  rcases hk with rfl|rfl|rfl|rfl
  all_goals
   refine z6 z9 Tryz.func238 rfl rfl 99 Tryz.ntmps238 (by simp) ?_
   repeat' ((first|(apply y4 ok;rfl)|(apply z0 (cT);rfl;rfl)|((first|(apply z54 [3] [] cF;rfl;rfl)|(apply z54 [0,1] [] ca;rfl;rfl)|(apply z54 [0,1] [] cb;rfl;rfl)|(apply z54 [1] [] cp;rfl;rfl)|(apply z54 [5] [] cf;rfl;rfl));rfl;(focus ((repeat' first|exact z12|apply z15)<;>first|exact z135|exact z117 rfl rfl))))<;>conv=>whnf)
   all_goals (refine rsD [] [] rfl ?_;(repeat' first|exact y93 _|constructor))
theorem z433 (t:Tree) (h:t.sz≤1000000):CallsA Tryz.prog 90 [z20 Tree.cs' t] [] (ownT t) [.cells 3 (t.kids.map Tree.cs')]:=by
 induction t using y32 with|h t ih=>?_
 have hkl:t.kids.length≤1000000:=by rw [y44] at h;omega
 have hks:∀ u∈t.kids,u.sz≤1000000:=fun u hu=>by
  have:=z180 Tree.sz hu
  rw [y44] at h;omega
 rw [y17 t]
 obtain ⟨k,v,l⟩:=t
 simp only [Tree.kind,Tree.val,Tree.kids] at *
 have hcs:∀ (i:Nat) (hi:i < l.length),CallsA Tryz.prog 90 [z20 Tree.cs' l[i]] [] (z20 Tree.cs' l[i]) []:=fun i hi =>
  z317 (ih _ (y51 _) (hks _ (y51 _)))
 unfold ownT
 simp only [Tree.kind,Tree.val,Tree.kids] at *
 refine z6 z9 Tryz.func90 rfl rfl 29 Tryz.ntmps90 (by simp) ?_
 repeat' (((apply y4 ok;rfl))<;>conv=>whnf)
 refine y92 (y95 3 rfl) ?_
 refine z77 (fun i:Nat=>([(1,.ptr 0 none 0),(2,.ptr 1 none 0),(3,.ptr 2 none 0),(4,.int i)],[.cells 3 [[.int k,.int v,lst 3 Tree.cs' l]],.cells 3 [[.int 0,.int 0,.nils]],.cells 3 [[.int k,.int v,.sref 3 0 i]],.cells 3 ((l.take i).map Tree.cs')])) (fun i=>i≤l.length) (fun i=>l.length - i) 0 (by omega) (by refine swR [0,1,2,3] [] rfl rfl ?_;(repeat' first|exact y93 _|exact z57|apply y94|refine z10 rfl (z33) ?_|constructor)) ?_
 intro i hi
 by_cases hil:i < l.length
 ·have hc:=hcs i hil
  repeat' ((first|(apply y4 ok;rfl)|(apply z17;kernel_rfl)|(apply y50;first|omega|(unfold inI;omega)|((try dsimp only);simp only [y56,y55,y54,y53,y64,y65];omega)|exact ⟨rfl,z38 rfl z45⟩)|(((with_reducible apply z8;omega));intro _)|((apply z5)<;>intro _)|(apply z0 (hc);rfl;rfl))<;>conv=>whnf)
  all_goals try (exfalso;omega)
  refine z34 (i+1) (by omega) (by omega) (by refine swR [0,1,2,5] [] rfl rfl ?_;(repeat' first|exact y93 _|apply y94|((refine z51 rfl ?_ ?_);(focus ((repeat' (first|exact z4 (fun _=>rfl)|apply z40));done)))|refine app_le (by omega) (by omega) ?_|constructor))
 ·have e:i=l.length:=by omega
  subst e
  rw [y62]
  repeat' ((first|(apply y4 ok;rfl)|(apply y50;omega)|(((with_reducible apply z8;omega));intro _)|((apply z5)<;>intro _))<;>conv=>whnf)
  all_goals try (exfalso;omega)
  all_goals (refine rsD [3] [] rfl ?_;(repeat' first|exact y93 _|exact z11 _|refine z10 rfl (z4 (fun _=>rfl)) ?_|constructor))
theorem z698 (c:Tree) (l:List Tree) (hl:l.length≤maxLen) (p:Tree→Bool) (f:FuncId) (hf:∀ x∈l,CallsA Tryz.prog f [z20 Tree.cs' x,.pt [.int c.kind,.int c.val,lst 3 Tree.cs' c.kids]] [] (.bool (p x)) []):CallsA Tryz.prog 256 [lst 3 Tree.cs' l,.fn (.func f) [] [.pt [.int c.kind,.int c.val,lst 3 Tree.cs' c.kids]]] [] (.int (idxF p l)) []:=by
 unfold maxLen at hl
 refine z7 z9 Tryz.func256 rfl rfl 19 Tryz.ntmps256 (by simp) ?_
 repeat' (((apply y4 ok;rfl))<;>conv=>whnf)
 refine z85 (fun k:Nat=>([(0,lst 3 Tree.cs' l),(1,.fn (.func f) [] [.pt [.int c.kind,.int c.val,lst 3 Tree.cs' c.kids]]),(7,.int l.length),(8,.int k)],[])) (fun k=>k≤l.length∧∀ j (hj:j < l.length),j < k→p l[j]=false) (fun k=>l.length - k) 0 (by simp)
  ⟨[],rfl,by decide,rfl,⟨⟨rfl,rfl⟩,⟨rfl,rfl⟩,⟨rfl,rfl⟩,⟨rfl,rfl⟩,trivial⟩,trivial⟩ ?_
 intro k hk
 repeat' ((first|(apply y4 ok;rfl)|(apply y50;first|omega|(unfold inI;omega))|(((with_reducible apply z8;omega));intro _)|((first|apply z5|apply z93)<;>intro _)|(apply z0 (hf l[k] (y51 _));rfl;rfl))<;>conv=>whnf)
 ·rename_i h h1
  exact z42 rfl rfl (by rw [z140 (by omega) h1 hk.2];rfl)
 ·rename_i h h1
  refine z78 (k+1) [] ⟨by omega,fun j hj hjk=>?_⟩ (by omega) ⟨rfl,by decide,rfl,⟨⟨rfl,rfl⟩,⟨rfl,rfl⟩,⟨rfl,rfl⟩,⟨rfl,rfl⟩,trivial⟩,trivial⟩
  rcases y76 j k with h2|h2
  ·exact hk.2 j hj h2
  ·obtain rfl:j=k:=by omega
   exact h1
 ·exact z42 rfl rfl (by rw [z129 fun j hj=>hk.2 j hj (by omega)];rfl)
theorem z1192 (A B : List Tree) (hA : A.length ≤ maxLen) (hB : B.length ≤ maxLen) (f : FuncId) (hf : ∀ i (h : i < A.length) (h2 : i < B.length), CallsA Tryz.prog f [z20 Tree.cs' A[i], z20 Tree.cs' B[i]] [] (.bool (decide (A[i] = B[i]))) []) :
    CallsA Tryz.prog 279 [lst 3 Tree.cs' A,lst 3 Tree.cs' B,.fn (.func f) [] []] [] (.bool (decide (A=B))) []:=by
  unfold maxLen at hA hB
  by_cases hl:A.length=B.length
  · have hT:(∀ i (h:i < A.length) (h2:i < B.length),A[i]=B[i])→decide (A=B)=true:=fun h=>y89 (y81 hl h)
    have hF:∀ i (h:i < A.length) (h2:i < B.length),A[i]≠B[i]→decide (A=B)=false:=fun i h h2 hne=>y90 fun e=>hne (by subst e;rfl)
    generalize decide (A=B)=D at *
    refine z6 z9 Tryz.func279 rfl (by kernel_rfl) 32 Tryz.ntmps279 (by simp) ?_
    repeat' ((first|(apply y4 ok;rfl)|((apply z28)<;>intro _))<;>conv=>whnf)
    all_goals try (exfalso;omega)
    refine z77 (fun i:Nat=>([(0,lst 3 Tree.cs' A),(1,lst 3 Tree.cs' B),(2,.fn (.func f) [] []),(15,lst 3 Tree.cs' A),(16,.int A.length),(17,.int i)],[])) (fun i=>i≤A.length∧∀ j (h:j < A.length) (h2:j < B.length),j < i→A[j]=B[j]) (fun i=>A.length - i) 0 ⟨y60 _,fun j _ _ h=>absurd h (Nat.not_lt_zero _)⟩ (by refine swR [] [] rfl rfl ?_;(repeat' first|exact y93 _|constructor)) ?_
    rintro i ⟨hi,hj⟩
    by_cases hil:i < A.length
    · have hil2:i < B.length:=by omega
      have c1:=hf i hil hil2
      have gA:(A.map Tree.cs')[i]?=some (Tree.cs' A[i]):=by rw [y58,y52 hil];rfl
      have gB:(B.map Tree.cs')[i]?=some (Tree.cs' B[i]):=by rw [y58,y52 hil2];rfl
      by_cases he:A[i]=B[i]
      · rw [y89 he] at c1
        have hj2:∀ j (h:j < A.length) (h2:j < B.length),j < i+1→A[j]=B[j]:=fun j h h2 hji=>by
          rcases y76 j i with h3|h3
          · exact hj j h h2 h3
          · obtain rfl:j=i:=by omega
            exact he
        generalize A[i]=x at *
        generalize B[i]=y at *
        repeat' ((first|(apply y4 ok;rfl)|(refine z13 (i:=i) rfl gA ?_)|(refine z13 (i:=i) rfl gB ?_)|(apply y50;first|omega|(unfold inI;omega))|((apply z5)<;>intro _)|(apply z0 (c1);rfl;rfl))<;>conv=>whnf)
        all_goals try (exfalso;omega)
        all_goals refine z34 (i+1) ⟨by omega,hj2⟩ (by omega) (by refine swR [] [] rfl rfl ?_;(repeat' first|exact y93 _|constructor))
      · rw [y90 he] at c1
        have hD:=hF i hil hil2 he
        subst hD
        generalize A[i]=x at *
        generalize B[i]=y at *
        repeat' ((first|(apply y4 ok;rfl)|(refine z13 (i:=i) rfl gA ?_)|(refine z13 (i:=i) rfl gB ?_)|(apply y50;omega)|((apply z5)<;>intro _)|(apply z0 (c1);rfl;rfl))<;>conv=>whnf)
        all_goals try (exfalso;omega)
        all_goals (refine rsD [] [] rfl ?_;(repeat' first|exact y93 _|constructor))
    · have hD:=hT (fun j h h2=>hj j h h2 (by omega))
      subst hD
      repeat' ((first|(apply y4 ok;rfl)|(apply y50;omega)|(((with_reducible apply z8;omega));intro _)|((apply z5)<;>intro _))<;>conv=>whnf)
      all_goals try (exfalso;omega)
      all_goals (refine rsD [] [] rfl ?_;(repeat' first|exact y93 _|constructor))
  · rw [y90 (fun e=>hl (by rw [e]))]
    refine z6 z9 Tryz.func279 rfl (by kernel_rfl) 32 Tryz.ntmps279 (by simp) ?_
    repeat' ((first|(apply y4 ok;rfl)|((apply z28)<;>intro _))<;>conv=>whnf)
    all_goals first|(exfalso;omega)|(refine rsD [] [] rfl ?_;(repeat' first|exact y93 _|constructor))
theorem z702 (a:Tree):a.mx→∀ b:Tree,b.mx→CallsA Tryz.prog 270 [z20 Tree.cs' a,z20 Tree.cs' b] [] (.bool (decide (a=b))) []:=by
 induction a using y32 with|h a ih=>?_
 intro ha b hb
 rw [y34] at ha hb
 have cE:=z1192 a.kids b.kids ha.1 hb.1 270 (fun i h h2=>ih _ (y51 _) (ha.2 _ (y51 _)) _ (hb.2 _ (y51 _)))
 clear ih
 rw [y17,y17]
 by_cases hk:a.kind=b.kind∧a.val=b.val
 ·obtain ⟨k1,k2⟩:=hk
  have e:decide (a.kids=b.kids)=decide (a=b):=decide_eq_decide.2 ⟨fun h=>Tree.ext k1 k2 h,fun h=>by rw [h]⟩
  rw [e] at cE
  generalize decide (a=b)=D at *
  cases D
  all_goals
   refine z6 z9 Tryz.func270 rfl rfl 24 Tryz.ntmps270 (by simp) ?_
   repeat' ((first|(apply y4 ok;rfl)|((apply z5)<;>intro _)|(apply z0 (cE);rfl;rfl))<;>conv=>whnf)
   all_goals try (exfalso;omega)
   all_goals (refine rsD [] [] rfl ?_;(repeat' first|exact y93 _|constructor))
 ·rw [y90 (fun e=>hk (by subst e;exact ⟨rfl,rfl⟩))]
  clear cE
  refine z6 z9 Tryz.func270 rfl rfl 24 Tryz.ntmps270 (by simp) ?_
  repeat' ((first|(apply y4 ok;rfl)|((apply z5)<;>intro _))<;>conv=>whnf)
  all_goals first|(exfalso;omega)|(refine rsD [] [] rfl ?_;(repeat' first|exact y93 _|constructor))
theorem z301 (l:List Tree) (hl:l.length≤1000000) (hm:∀ t∈l,t.mx) (t:Tree) (ht:t.mx):CallsA Tryz.prog 239 [lst 3 Tree.cs' l,z20 Tree.cs' t] [] (.int (idxF (fun x=>decide (x=t)) l)) []:=by
 have cI:=z698 t l (by unfold maxLen;omega) (fun x=>decide (x=t)) 269 (fun x hx=>by
  have cS:=z702 x (hm x hx) t ht
  rw [y17 t] at cS
  refine z6 z9 Tryz.func269 rfl rfl 7 Tryz.ntmps269 (by simp) ?_
  rw [y17 x] at cS ⊢
  repeat' ((first|(apply y4 ok;rfl)|(apply z0 (cS);rfl;rfl))<;>conv=>whnf)
  all_goals (refine rsD [] [] rfl ?_;(repeat' first|exact y93 _|constructor)))
 rw [y17 t]
 refine z6 z9 Tryz.func239 rfl rfl 8 Tryz.ntmps239 (by simp) ?_
 repeat' ((first|(apply y4 ok;rfl)|(apply z83 [] [0] [] cI;(focus ((repeat' first|exact z48|apply z23)<;>rfl));rfl;rfl;(focus ((repeat' exact z12)<;>fail));((refine .inr ⟨rfl,?_⟩;repeat' exact True.intro))))<;>conv=>whnf)
 all_goals (refine rsD [] [] rfl ?_;(repeat' first|exact y93 _|constructor))
theorem z1201 (t:Tree) (h:t.sz≤1000000):CallsA Tryz.prog 234 [z20 Tree.cs' t] [] (ownT t) [.cells 3 (t.kids.map Tree.cs')]:=by
 induction t using y32 with|h t ih=>?_
 have hkl:t.kids.length≤1000000:=by rw [y44] at h;omega
 have hks:∀ u∈t.kids,u.sz≤1000000:=fun u hu=>by
  have:=z180 Tree.sz hu
  rw [y44] at h;omega
 rw [y17 t]
 obtain ⟨k,v,l⟩:=t
 simp only [Tree.kind,Tree.val,Tree.kids] at *
 have hcs:∀ (i:Nat) (hi:i < l.length),CallsA Tryz.prog 234 [z20 Tree.cs' l[i]] [] (z20 Tree.cs' l[i]) []:=fun i hi =>
  z317 (ih _ (y51 _) (hks _ (y51 _)))
 have cC:=z173 l (by omega)
 unfold ownT
 simp only [Tree.kind,Tree.val,Tree.kids] at *
 refine z6 z9 Tryz.func234 rfl rfl 30 Tryz.ntmps234 (by simp) ?_
 repeat' ((first|(apply y4 ok;rfl)|(apply z17;kernel_rfl)|(apply z54 [] [2] cC;rfl;rfl;rfl;(focus ((repeat' first|exact z12|apply z15)<;>(refine z22 ?_;((exact z4 fun _=>rfl)))))))<;>conv=>whnf)
 refine z77 (fun i:Nat=>([(1,.ptr 0 none 0),(2,.ptr 1 none 0),(3,.ptr 3 none 0),(15,lst 3 Tree.cs' l),(16,.int l.length),(17,.int i)],[.cells 3 [[.int k,.int v,lst 3 Tree.cs' l]],.cells 3 [[.int 0,.int 0,.nils]],.cells 3 (l.map Tree.cs'),.cells 3 [[.int k,.int v,.sref 2 0 l.length]]])) (fun i=>i≤l.length) (fun i=>l.length - i) 0 (by omega) (by refine swR [0,1,2,3] [] rfl rfl ?_;(repeat' first|exact y93 _|exact z11 _|apply y94|refine z10 rfl (z4 (fun _=>rfl)) ?_|constructor)) ?_
 intro i hi
 by_cases hil:i < l.length
 ·have hc:=hcs i hil
  have gk:(l.map Tree.cs')[i]?=some (Tree.cs' l[i]):=by rw [y58,y52 hil];rfl
  have hset:(l.map Tree.cs').set i (Tree.cs' l[i])=l.map Tree.cs':=by
   apply y81 (by simp)
   intro j h1 h2
   rw [List.getElem_set]
   split
   ·rename_i e;subst e;simp
   ·rfl
  generalize l[i]=x at *
  repeat' ((first|(apply y4 ok;rfl)|(apply z17;kernel_rfl)|(refine z13 (i:=i) rfl gk ?_)|(apply y50;first|omega|(unfold inI;omega))|((apply z5)<;>intro _)|(apply z0 (hc);rfl;rfl))<;>conv=>whnf)
  all_goals try (exfalso;omega)
  all_goals refine z34 (i+1) (by omega) (by omega) (by refine swR [0,1,2,3] [] rfl rfl ?_;(repeat' first|exact y93 _|apply y94|refine z82 rfl (z4 (fun _=>rfl)) ?_|constructor)<;>((refine z55 ?_;exact hset)))
 ·have e:i=l.length:=by omega
  subst e
  repeat' ((first|(apply y4 ok;rfl)|(apply y50;omega)|(((with_reducible apply z8;omega));intro _)|((apply z5)<;>intro _))<;>conv=>whnf)
  all_goals try (exfalso;omega)
  all_goals (refine rsD [2] [] rfl ?_;(repeat' first|exact y93 _|exact z11 _|refine z10 rfl (z4 (fun _=>rfl)) ?_|constructor))
theorem z713 (t:Tree) (h:t.sz≤1000000):CallsA Tryz.prog 234 [z20 Tree.cs' t] [] (z20 Tree.cs' t) []:=z317 (z1201 t h)
theorem z384 (t:Tree) (hs:t.sz≤1000):CallsA Tryz.prog 226 [z20 Tree.cs' t] [] (.tup [z20 Tree.cs' (if t.fmB=true∧(t.nrm false).fmB=true then t.nrm false else dftT),.bool (decide (t.fmB=true∧(t.nrm false).fmB=true))]) []:=by
 have cv:=z100 t (z88 t (by unfold maxLen;omega))
 by_cases h1:t.fmB=true
 ·have hg:=y29 h1
  have cp:=z1166 t hg false
  have hz:=y35 t hg false
  have cw:=z100 (t.nrm false) (z88 _ (by unfold maxLen;omega))
  rw [h1] at cv ⊢
  generalize t.nrm false=u at *
  by_cases h2:u.fmB=true
  ·rw [h2] at cw ⊢
   rw [if_pos ⟨rfl,rfl⟩,y89 ⟨rfl,rfl⟩]
   rw [y17 t] at cv cp ⊢
   rw [y17 u] at cp cw ⊢
   refine z6 z9 Tryz.func226 rfl rfl 16 Tryz.ntmps226 (by simp) ?_
   repeat' ((first|(apply y4 ok;rfl)|(apply z0 (cv);rfl;rfl)|(apply z0 (cp);rfl;rfl)|(apply z0 (cw);rfl;rfl))<;>conv=>whnf)
   all_goals (refine rsD [] [] rfl ?_;(repeat' first|exact y93 _|constructor))
  ·rw [if_neg (fun h=>h2 h.2),y90 (fun h=>h2 h.2)]
   rw [(y78 _).mp h2] at cw
   rw [y17 t] at cv cp ⊢
   rw [y17 u] at cp cw
   refine z6 z9 Tryz.func226 rfl rfl 16 Tryz.ntmps226 (by simp) ?_
   repeat' ((first|(apply y4 ok;rfl)|(apply z0 (cv);rfl;rfl)|(apply z0 (cp);rfl;rfl)|(apply z0 (cw);rfl;rfl))<;>conv=>whnf)
   all_goals (refine rsD [] [] rfl ?_;(repeat' first|exact y93 _|exact z61|apply z64|apply z72|constructor))
 ·rw [if_neg (fun h=>h1 h.1),y90 (fun h=>h1 h.1)]
  rw [(y78 _).mp h1] at cv
  rw [y17 t] at cv ⊢
  refine z6 z9 Tryz.func226 rfl rfl 16 Tryz.ntmps226 (by simp) ?_
  repeat' ((first|(apply y4 ok;rfl)|(apply z0 (cv);rfl;rfl))<;>conv=>whnf)
  all_goals (refine rsD [] [] rfl ?_;(repeat' first|exact y93 _|exact z61|apply z64|apply z72|constructor))
theorem z1186 (a:Tree):a.mx→∀ b:Tree,b.mx→CallsA Tryz.prog 276 [z20 Tree.cs' a,z20 Tree.cs' b] [] (.bool (decide (a=b))) []:=by
 induction a using y32 with|h a ih=>?_
 intro ha b hb
 rw [y34] at ha hb
 have hal:=ha.1
 have hbl:=hb.1
 unfold maxLen at hal hbl
 rw [y17,y17]
 by_cases hk:a.kind=b.kind∧a.val=b.val∧a.kids.length=b.kids.length
 ·obtain ⟨k1,k2,k3⟩:=hk
  have hiff:(a=b)↔∀ i (h:i < a.kids.length) (h2:i < b.kids.length),a.kids[i]=b.kids[i]:=⟨fun e=>by subst e;exact fun _ _ _=>rfl,fun h=>Tree.ext k1 k2 (y81 k3 h)⟩
  have hc:∀ i (h:i < a.kids.length) (h2:i < b.kids.length),CallsA Tryz.prog 276 [z20 Tree.cs' a.kids[i],z20 Tree.cs' b.kids[i]] [] (.bool (decide (a.kids[i]=b.kids[i]))) []:=fun i h h2=>ih _ (y51 _) (ha.2 _ (y51 _)) _ (hb.2 _ (y51 _))
  clear ih
  have hT:(∀ i (h:i < a.kids.length) (h2:i < b.kids.length),a.kids[i]=b.kids[i])→decide (a=b)=true:=fun h=>y89 (hiff.2 h)
  have hF:∀ i (h:i < a.kids.length) (h2:i < b.kids.length),a.kids[i]≠b.kids[i]→decide (a=b)=false:=fun i h h2 hne=>y90 fun e=>hne (hiff.1 e i h h2)
  generalize decide (a=b)=D at *
  clear hiff
  generalize a.kids=A at *
  generalize b.kids=B at *
  refine z6 z9 Tryz.func276 rfl rfl 46 Tryz.ntmps276 (by simp) ?_
  repeat' ((first|(apply y4 ok;rfl)|((apply z28)<;>intro _))<;>conv=>whnf)
  all_goals try (exfalso;omega)
  refine z77 (fun i:Nat=>([(2,.ptr 0 none 0),(3,.ptr 1 none 0),(5,.int i)],[.cells 3 [[.int a.kind,.int a.val,lst 3 Tree.cs' A]],.cells 3 [[.int b.kind,.int b.val,lst 3 Tree.cs' B]]])) (fun i=>i≤A.length∧∀ j (h:j < A.length) (h2:j < B.length),j < i→A[j]=B[j]) (fun i=>A.length - i) 0 ⟨y60 _,fun j _ _ h=>absurd h (Nat.not_lt_zero _)⟩ (by refine swR [0,1] [] rfl rfl ?_;(repeat' first|exact y93 _|apply y94|constructor)) ?_
  rintro i ⟨hi,hj⟩
  by_cases hil:i < A.length
  ·have hil2:i < B.length:=by omega
   have c1:=hc i hil hil2
   have gA:(A.map Tree.cs')[i]?=some (Tree.cs' A[i]):=by rw [y58,y52 hil];rfl
   have gB:(B.map Tree.cs')[i]?=some (Tree.cs' B[i]):=by rw [y58,y52 hil2];rfl
   by_cases he:A[i]=B[i]
   ·rw [y89 he] at c1
    have hj2:∀ j (h:j < A.length) (h2:j < B.length),j < i+1→A[j]=B[j]:=fun j h h2 hji=>by
     rcases y76 j i with h3|h3
     ·exact hj j h h2 h3
     ·obtain rfl:j=i:=by omega
      exact he
    generalize A[i]=x at *
    generalize B[i]=y at *
    repeat' ((first|(apply y4 ok;rfl)|(apply z17;kernel_rfl)|(refine z13 (i:=i) rfl gA ?_)|(refine z13 (i:=i) rfl gB ?_)|(apply y50;first|omega|(unfold inI;omega))|((apply z5)<;>intro _)|(apply z0 (c1);rfl;rfl))<;>conv=>whnf)
    all_goals try (exfalso;omega)
    all_goals refine z34 (i+1) ⟨by omega,hj2⟩ (by omega) (by refine swR [0,1] [] rfl rfl ?_;(repeat' first|exact y93 _|apply y94|constructor))
   ·rw [y90 he] at c1
    have hD:=hF i hil hil2 he
    subst hD
    generalize A[i]=x at *
    generalize B[i]=y at *
    repeat' ((first|(apply y4 ok;rfl)|(apply z17;kernel_rfl)|(refine z13 (i:=i) rfl gA ?_)|(refine z13 (i:=i) rfl gB ?_)|(apply y50;omega)|((apply z5)<;>intro _)|(apply z0 (c1);rfl;rfl))<;>conv=>whnf)
    all_goals try (exfalso;omega)
    all_goals (refine rsD [] [] rfl ?_;(repeat' first|exact y93 _|constructor))
  ·have hD:=hT (fun j h h2=>hj j h h2 (by omega))
   subst hD
   repeat' ((first|(apply y4 ok;rfl)|(apply y50;omega)|(((with_reducible apply z8;omega));intro _)|((apply z5)<;>intro _))<;>conv=>whnf)
   all_goals try (exfalso;omega)
   all_goals (refine rsD [] [] rfl ?_;(repeat' first|exact y93 _|constructor))
 ·rw [y90 (fun e=>hk (by subst e;exact ⟨rfl,rfl,rfl⟩))]
  clear ih
  refine z6 z9 Tryz.func276 rfl rfl 46 Tryz.ntmps276 (by simp) ?_
  repeat' ((first|(apply y4 ok;rfl)|((apply z28)<;>intro _))<;>conv=>whnf)
  all_goals first|(exfalso;omega)|(refine rsD [] [] rfl ?_;(repeat' first|exact y93 _|constructor))
theorem z782 (l:List Tree) (hl:l.length≤1000000) (hm:∀ t∈l,t.mx) (t:Tree) (ht:t.mx):CallsA Tryz.prog 262 [lst 3 Tree.cs' l,z20 Tree.cs' t] [] (.int (idxF (fun x=>decide (x=t)) l)) []:=by
 have hc:∀ i (h:i < l.length),CallsA Tryz.prog 276 [z20 Tree.cs' l[i],z20 Tree.cs' t] [] (.bool (decide (l[i]=t))) []:=fun i h=>z1186 _ (hm _ (y51 _)) _ ht
 rw [y17 t] at *
 refine z6 z9 Tryz.func262 rfl rfl 19 Tryz.ntmps262 (by simp) ?_
 repeat' (((apply y4 ok;rfl))<;>conv=>whnf)
 refine z77 (fun i:Nat=>([(0,lst 3 Tree.cs' l),(3,.ptr 0 none 0),(5,.int i)],[.cells 3 [[.int t.kind,.int t.val,lst 3 Tree.cs' t.kids]]])) (fun i=>i≤l.length∧∀ j (h:j < l.length),j < i→decide (l[j]=t)=false) (fun i=>l.length - i) 0 ⟨y60 _,fun j _ h=>absurd h (Nat.not_lt_zero _)⟩ (by refine swR [0] [] rfl rfl ?_;(repeat' first|exact y93 _|apply y94|constructor)) ?_
 rintro i ⟨hi,hj⟩
 by_cases hil:i < l.length
 ·have c1:=hc i hil
  have gl:(l.map Tree.cs')[i]?=some (Tree.cs' l[i]):=by rw [y58,y52 hil];rfl
  by_cases he:l[i]=t
  ·have e:idxF (fun x=>decide (x=t)) l=i:=z140 hil (y89 he) fun j h h2=>hj j h h2
   rw [e]
   rw [y89 he] at c1
   generalize l[i]=x at *
   repeat' ((first|(apply y4 ok;rfl)|(apply z17;kernel_rfl)|(refine z13 (i:=i) rfl gl ?_)|(apply y50;omega)|((apply z5)<;>intro _)|(apply z0 (c1);rfl;rfl))<;>conv=>whnf)
   all_goals try (exfalso;omega)
   all_goals (refine rsD [] [] rfl ?_;(repeat' first|exact y93 _|constructor))
  ·have hj2:∀ j (h:j < l.length),j < i+1→decide (l[j]=t)=false:=fun j h hji=>by
    rcases y76 j i with h3|h3
    ·exact hj j h h3
    ·obtain rfl:j=i:=by omega
     exact y90 he
   rw [y90 he] at c1
   generalize l[i]=x at *
   repeat' ((first|(apply y4 ok;rfl)|(apply z17;kernel_rfl)|(refine z13 (i:=i) rfl gl ?_)|(apply y50;first|omega|(unfold inI;omega))|((apply z5)<;>intro _)|(apply z0 (c1);rfl;rfl))<;>conv=>whnf)
   all_goals try (exfalso;omega)
   all_goals refine z34 (i+1) ⟨by omega,hj2⟩ (by omega) (by refine swR [0] [] rfl rfl ?_;(repeat' first|exact y93 _|apply y94|constructor))
 ·have e:idxF (fun x=>decide (x=t)) l=-1:=z129 fun j h=>hj j h (by omega)
  rw [e]
  repeat' ((first|(apply y4 ok;rfl)|(apply y50;omega)|(((with_reducible apply z8;omega));intro _)|((apply z5)<;>intro _))<;>conv=>whnf)
  all_goals try (exfalso;omega)
  all_goals (refine rsD [] [] rfl ?_;(repeat' first|exact y93 _|constructor))
theorem z629 (t:Tree) (hg:t.goodF) (hs:t.sz≤1000):CallsA Tryz.prog 187 [z20 Tree.cs' t] [] (.tup [z20 Tree.cs' (if (t.nrm false).fmB=true then t.nrm false else dftT),.bool (t.nrm false).fmB]) []:=by
 have cp:=z1142 t hg false
 have hz:=y35 t hg false
 have cw:=z115 (t.nrm false) (z88 _ (by unfold maxLen;omega))
 generalize t.nrm false=u at *
 rw [y17 t] at *
 rw [y17 u] at *
 by_cases h2:u.fmB=true
 ·rw [if_pos h2,h2,y17 u]
  rw [h2] at cw
  refine z6 z9 Tryz.func187 rfl rfl 12 Tryz.ntmps187 (by simp) ?_
  repeat' ((first|(apply y4 ok;rfl)|(apply z0 (cp);rfl;rfl)|(apply z0 (cw);rfl;rfl))<;>conv=>whnf)
  all_goals (refine rsD [] [] rfl ?_;(repeat' first|exact y93 _|constructor))
 ·rw [if_neg h2,(y78 _).mp h2]
  rw [(y78 _).mp h2] at cw
  refine z6 z9 Tryz.func187 rfl rfl 12 Tryz.ntmps187 (by simp) ?_
  repeat' ((first|(apply y4 ok;rfl)|(apply z0 (cp);rfl;rfl)|(apply z0 (cw);rfl;rfl))<;>conv=>whnf)
  all_goals (refine rsD [] [] rfl ?_;(repeat' first|exact y93 _|exact z61|apply z64|apply z72|constructor))
theorem z1173 (t:Tree) (hs:t.sz≤1000):CallsA Tryz.prog 236 [z20 Tree.cs' t] [] (.tup [z20 Tree.cs' (if t.fmB=true∧(t.nrm false).fmB=true then t.nrm false else dftT),.bool (decide (t.fmB=true∧(t.nrm false).fmB=true))]) []:=by
 have cv:=z115 t (z88 t (by unfold maxLen;omega))
 by_cases h1:t.fmB=true
 ·have cn:=z629 t (y29 h1) hs
  have e:(if t.fmB=true∧(t.nrm false).fmB=true then t.nrm false else dftT)=if (t.nrm false).fmB=true then t.nrm false else dftT:=by simp only [h1,true_and]
  have e2:decide (t.fmB=true∧(t.nrm false).fmB=true)=(t.nrm false).fmB:=by simp [h1]
  rw [e,e2]
  rw [h1] at cv
  clear e e2
  generalize (if (t.nrm false).fmB=true then t.nrm false else dftT)=u at *
  generalize (t.nrm false).fmB=b at *
  rw [y17 t] at cv cn ⊢
  rw [y17 u] at cn ⊢
  refine z6 z9 Tryz.func236 rfl rfl 12 Tryz.ntmps236 (by simp) ?_
  repeat' ((first|(apply y4 ok;rfl)|(apply z0 (cv);rfl;rfl)|(apply z0 (cn);rfl;rfl))<;>conv=>whnf)
  all_goals (refine rsD [] [] rfl ?_;(repeat' first|exact y93 _|constructor))
 ·rw [if_neg (fun h=>h1 h.1),y90 (fun h=>h1 h.1)]
  rw [(y78 _).mp h1] at cv
  rw [y17 t] at cv ⊢
  refine z6 z9 Tryz.func236 rfl rfl 12 Tryz.ntmps236 (by simp) ?_
  repeat' ((first|(apply y4 ok;rfl)|(apply z0 (cv);rfl;rfl))<;>conv=>whnf)
  all_goals (refine rsD [] [] rfl ?_;(repeat' first|exact y93 _|exact z61|apply z64|apply z72|constructor))
theorem z878 (t:Tree) (hg:t.goodF) (hs:t.sz≤1000):CallsA Tryz.prog 185 [z20 Tree.cs' t] [] (z20 Tree.cs' (negT t)) []:=by
 by_cases hk:t.kind=3
 ·have hf:=y27 hg
  cases hf with
  |tr=>simp [Tree.kind] at hk
  |«at» v _ _=>simp [Tree.kind] at hk
  |bin k a b hk2 _ _=>simp only [Tree.kind] at hk;omega
  |un k a _ _ =>
   simp only [Tree.kind] at hk
   subst hk
   have e:negT (.mk 3 0 [a])=a:=by simp [negT,Tree.kind,Tree.kids]
   rw [z337] at hs
   have cc:=z713 a (by omega)
   rw [e,argU 3 0 a]
   refine z6 z9 Tryz.func185 rfl rfl 15 Tryz.ntmps185 (by simp) ?_
   repeat' ((first|(apply y4 ok;rfl)|(refine ⟨_,rfl,?_⟩)|(apply y50;omega)|(apply z0 (cc);rfl;rfl))<;>conv=>whnf)
   all_goals (refine rsD [] [] rfl ?_;(repeat' first|exact y93 _|constructor))
 ·have e:negT t=notT t:=if_neg hk
  have cc:=z713 t (by omega)
  have cf:=z130 3 [t] (by simp)
  rw [e]
  unfold notT
  rw [argU]
  refine z6 z9 Tryz.func185 rfl rfl 15 Tryz.ntmps185 (by simp) ?_
  repeat' ((first|(apply y4 ok;rfl)|(apply y50;omega)|(((with_reducible apply z103;omega));intro _)|((first|apply z5|apply z93)<;>intro _)|(apply z0 (cc);rfl;rfl)|(apply z54 [2] [] cf;rfl;rfl;rfl;(focus ((repeat' first|exact z12|apply z15)<;>exact z135))))<;>conv=>whnf)
  all_goals first|(exfalso;omega)|(refine rsD [] [] rfl ?_;(repeat' first|exact y93 _|constructor))
def ngB (t:Tree):Bool:=t.fmB && (negT t).fmB
def ngT (t:Tree):Tree:=if ngB t=true then negT t else dftT
theorem ngT_sz (t:Tree):(ngT t).sz≤t.sz+1:=by
 unfold ngT
 split
 ·exact z879 t
 ·simp [dftT,z508]
theorem z701 (t:Tree) (hm:t.mx):CallsA Tryz.prog 132 [z20 Tree.cs' t] [] (.tup [z20 Tree.cs' (ngT t),.bool (ngB t)]) []:=by
 have cv:=z115 t hm
 have hz:=z879 t
 unfold ngT ngB
 by_cases h1:t.fmB=true
 ·have hs:=fm_sz h1
  have cn:=z878 t (y29 h1) (by omega)
  have cw:=z115 (negT t) (z88 _ (by unfold maxLen;omega))
  rw [h1,Bool.true_and]
  rw [h1] at cv
  generalize negT t=u at *
  by_cases h2:u.fmB=true
  ·rw [if_pos h2,h2]
   rw [h2] at cw
   rw [y17 t] at cv cn ⊢
   rw [y17 u] at cw cn ⊢
   refine z6 z9 Tryz.func132 rfl rfl 16 Tryz.ntmps132 (by simp) ?_
   repeat' ((first|(apply y4 ok;rfl)|(apply z0 (cv);rfl;rfl)|(apply z0 (cn);rfl;rfl)|(apply z0 (cw);rfl;rfl))<;>conv=>whnf)
   all_goals (refine rsD [] [] rfl ?_;(repeat' first|exact y93 _|constructor))
  ·rw [if_neg h2,(y78 _).mp h2]
   rw [(y78 _).mp h2] at cw
   rw [y17 t] at cv cn ⊢
   rw [y17 u] at cw cn
   refine z6 z9 Tryz.func132 rfl rfl 16 Tryz.ntmps132 (by simp) ?_
   repeat' ((first|(apply y4 ok;rfl)|(apply z0 (cv);rfl;rfl)|(apply z0 (cn);rfl;rfl)|(apply z0 (cw);rfl;rfl))<;>conv=>whnf)
   all_goals (refine rsD [] [] rfl ?_;(repeat' first|exact y93 _|exact z61|apply z64|apply z72|constructor))
 ·rw [(y78 _).mp h1,Bool.false_and,if_neg (by simp)]
  rw [(y78 _).mp h1] at cv
  rw [y17 t] at cv ⊢
  refine z6 z9 Tryz.func132 rfl rfl 16 Tryz.ntmps132 (by simp) ?_
  repeat' ((first|(apply y4 ok;rfl)|(apply z0 (cv);rfl;rfl))<;>conv=>whnf)
  all_goals (refine rsD [] [] rfl ?_;(repeat' first|exact y93 _|exact z61|apply z64|apply z72|constructor))
theorem z668 (t:Tree) (hm:t.mx):CallsA Tryz.prog 177 [z20 Tree.cs' t] [] (.tup [z20 Tree.cs' (ngT t),.bool (ngB t)]) []:=by
 have cv:=z100 t hm
 have hz:=z879 t
 unfold ngT ngB
 by_cases h1:t.fmB=true
 ·have hs:=fm_sz h1
  rw [h1,Bool.true_and]
  by_cases hk:t.kind=3
  ·obtain ⟨a,v,rfl,ha⟩:=fm_kid h1 hk
   have e:negT (.mk 3 v [a])=a:=by simp [negT,Tree.kind,Tree.kids]
   rw [e,if_pos ha,ha]
   rw [h1] at cv
   rw [z337] at hs
   have cc:=z317 (z433 a (by omega))
   rw [argU] at cv ⊢
   refine z6 z9 Tryz.func177 rfl rfl 25 Tryz.ntmps177 (by simp) ?_
   repeat' ((first|(apply y4 ok;rfl)|(refine ⟨_,rfl,?_⟩)|(apply y50;omega)|(apply z0 (cv);rfl;rfl)|(apply z0 (cc);rfl;rfl))<;>conv=>whnf)
   all_goals (refine rsD [] [] rfl ?_;(repeat' first|exact y93 _|constructor))
  ·have e:negT t=notT t:=if_neg hk
   have cc:=z317 (z433 t (by omega))
   have cn:=z482 t
   have cw:=z100 (notT t) (z88 _ (by rw [← e];unfold maxLen;omega))
   rw [h1] at cv
   rw [e]
   generalize notT t=u at *
   by_cases h2:u.fmB=true
   ·rw [if_pos h2,h2]
    rw [h2] at cw
    rw [y17 t] at cv cn cc ⊢
    rw [y17 u] at cw cn ⊢
    refine z6 z9 Tryz.func177 rfl rfl 25 Tryz.ntmps177 (by simp) ?_
    repeat' ((first|(apply y4 ok;rfl)|(apply y50;omega)|(((with_reducible apply z103;omega));intro _)|((apply z5)<;>intro _)|(apply z0 (cv);rfl;rfl)|(apply z0 (cc);rfl;rfl)|(apply z0 (cn);rfl;rfl)|(apply z0 (cw);rfl;rfl))<;>conv=>whnf)
    all_goals first|(exfalso;omega)|(refine rsD [] [] rfl ?_;(repeat' first|exact y93 _|constructor))
   ·rw [if_neg h2,(y78 _).mp h2]
    rw [(y78 _).mp h2] at cw
    rw [y17 t] at cv cn cc ⊢
    rw [y17 u] at cw cn
    refine z6 z9 Tryz.func177 rfl rfl 25 Tryz.ntmps177 (by simp) ?_
    repeat' ((first|(apply y4 ok;rfl)|(apply y50;omega)|(((with_reducible apply z103;omega));intro _)|((apply z5)<;>intro _)|(apply z0 (cv);rfl;rfl)|(apply z0 (cc);rfl;rfl)|(apply z0 (cn);rfl;rfl)|(apply z0 (cw);rfl;rfl))<;>conv=>whnf)
    all_goals first|(exfalso;omega)|(refine rsD [] [] rfl ?_;(repeat' first|exact y93 _|exact z61|apply z64|apply z72|constructor))
 ·rw [(y78 _).mp h1,Bool.false_and,if_neg (by simp)]
  rw [(y78 _).mp h1] at cv
  rw [y17 t] at cv ⊢
  refine z6 z9 Tryz.func177 rfl rfl 25 Tryz.ntmps177 (by simp) ?_
  repeat' ((first|(apply y4 ok;rfl)|(apply z0 (cv);rfl;rfl))<;>conv=>whnf)
  all_goals (refine rsD [] [] rfl ?_;(repeat' first|exact y93 _|exact z61|apply z64|apply z72|constructor))
theorem z1168 (t:Tree) (h:t.sz≤1000000):CallsA Tryz.prog 90 [z20 Tree.cs' t] [] (z20 Tree.cs' t) []:=z317 (z433 t h)
set_option maxHeartbeats 3200000 in
theorem z1165 (t:Tree):t.sz≤1000→∀ (o:List Tree),o.length+t.sz≤2000→(∀ x∈o,x.sz≤1000)→CallsA Tryz.prog 258 [.sref 0 0 o.length,z20 Tree.cs' t] [.cells 3 (o.map Tree.cs')] (.sref 1 0 (t.subs o).length) [.dead,.cells 3 ((t.subs o).map Tree.cs')]:=by
 induction t using y32 with|h t ih=>?_
 intro hs o ho hm
 have hsz:=y44 t
 have hkid:∀ k (h:k < t.kids.length),t.kids[k].sz≤1000:=fun k h=>by have:=z180 Tree.sz (y51 h);omega
 have hpre:∀ k,k≤t.kids.length→(Tree.subss (t.kids.take k) o).length≤o.length+((t.kids.take k).map fun u=>u.sz+1).sum∧∀ x∈Tree.subss (t.kids.take k) o,x.sz≤1000:=by
  intro k
  induction k with
  |zero=>intro _;exact ⟨by simp [Tree.subss],hm⟩
  |succ k ihk =>
   intro hk
   obtain ⟨a1,a2⟩:=ihk (by omega)
   obtain ⟨_,_,_,b4,b5,_⟩:=z193 t.kids[k] (Tree.subss (t.kids.take k) o)
   rw [y43 (by omega)]
   refine ⟨?_,fun x hx=>?_⟩
   ·rw [y57 (by omega),y70,List.sum_append]
    simp only [List.map_cons,List.map_nil,List.sum_cons,List.sum_nil]
    omega
   ·rcases b5 x hx with h|h
    ·exact a2 x h
    ·have:=hkid k (by omega);omega
 have hsum:∀ k,k≤t.kids.length→((t.kids.take k).map fun u=>u.sz+1).sum≤t.sz:=fun k hk=>by
  have h1:∀ l:List Tree,(l.map fun u=>u.sz+1).sum=l.length+(l.map Tree.sz).sum:=by
   intro l
   induction l with
   |nil=>rfl
   |cons a l ih=>simp only [List.map_cons,List.sum_cons,y64,ih];omega
  have h2:=z87 Tree.sz t.kids k
  rw [h1,y55];omega
 rw [y17 t,y41]
 have hl5:t.kids.length≤1000:=by omega
 have hfs:(∀ x∈Tree.subss t.kids o,x.sz≤1000):=by have:=(hpre t.kids.length (y59 _)).2;rwa [y62] at this
 have hfl:(Tree.subss t.kids o).length≤2000:=by have h1:=(hpre t.kids.length (y59 _)).1;have h2:=hsum t.kids.length (y59 _);rw [y62] at h1 h2;omega
 have cF:=z782 (Tree.subss t.kids o) (by omega) (fun x hx=>z88 x (by have:=hfs x hx;unfold maxLen;omega)) t (z88 t (by unfold maxLen;omega))
 have cC:=z1168 t (by omega)
 have hidx:=z191 (fun x=>decide (x=t)) (Tree.subss t.kids o)
 refine z6 z9 Tryz.func258 rfl rfl 30 Tryz.ntmps258 (by simp) ?_
 refine y92 (Reach.rnm 0 rfl) ?_
 conv=>whnf
 repeat' (((apply y4 ok;rfl))<;>conv=>whnf)
 refine z77 (fun x:Nat×List Tree=>([(0,.sref 1 0 x.2.length),(3,.ptr 2 none 0),(5,.int x.1)],[.dead,.cells 3 (x.2.map Tree.cs'),.cells 3 [[.int t.kind,.int t.val,lst 3 Tree.cs' t.kids]]])) (fun x=>x.1≤t.kids.length∧Tree.subss (t.kids.take x.1) o=x.2) (fun x=>t.kids.length - x.1) (0,o) ⟨y60 _,by simp [Tree.subss]⟩ (by refine swR [0,1,2] [] rfl rfl ?_;(repeat' first|exact y93 _|exact z11 _|apply y94|refine z10 rfl (z4 (fun _=>rfl)) ?_|constructor)) ?_
 rintro ⟨i,q⟩ ⟨hi,hq⟩
 dsimp only at hi hq ⊢
 obtain ⟨p1,p2⟩:=hpre i hi
 have p3:=hsum i hi
 rw [hq] at p1 p2
 have hql:q.length≤2000:=by omega
 by_cases hil:i < t.kids.length
 ·have ci:=ih t.kids[i] (y51 _) (hkid i hil) q (by
   have h1:=hsum (i+1) (by omega)
   rw [y57 hil,y70,List.sum_append] at h1
   simp only [List.map_cons,List.map_nil,List.sum_cons,List.sum_nil] at h1
   omega) p2
  have ht:=y43 hil o
  rw [hq] at ht
  have gk:(t.kids.map Tree.cs')[i]?=some (Tree.cs' t.kids[i]):=by rw [y58,y52 hil];rfl
  clear ih cF hidx
  generalize t.kids[i]=u at *
  generalize u.subs q=q' at *
  repeat' ((first|(apply y4 ok;rfl)|(refine z13 (i:=i) rfl gk ?_)|(apply y50;first|omega|(unfold inI;omega))|((apply z5)<;>intro _)|(apply z95 [1] [3] ci;rfl;(focus ((repeat' first|exact z14|apply z27)<;>(refine z41 rfl ?_;((exact z4 fun _=>rfl)))));rfl;(focus ((repeat' first|exact z12|apply z15)<;>first|exact z135|(refine z22 ?_;((exact z4 fun _=>rfl)))))))<;>conv=>whnf)
  all_goals try (exfalso;omega)
  all_goals refine z34 (i+1,q') ⟨by show i+1≤_;omega,ht⟩ (by show t.kids.length - (i+1) < t.kids.length - i;omega) (by refine swR [0,3,2] [] rfl rfl ?_;(repeat' first|exact y93 _|exact z11 _|apply y94|refine z10 rfl (z4 (fun _=>rfl)) ?_|constructor))
 ·obtain rfl:i=t.kids.length:=by omega
  rw [y62] at hq
  rw [hq] at cF hidx ⊢
  unfold addT
  by_cases hin:t∈q
  ·rw [if_pos hin]
   have hx:0≤idxF (fun x=>decide (x=t)) q:=by
    rw [List.any_eq_true.2 ⟨t,hin,by simp⟩] at hidx
    exact of_decide_eq_true hidx
   generalize idxF (fun x=>decide (x=t)) q=z at *
   rw [y17 t] at cF
   repeat' ((first|(apply y4 ok;rfl)|(apply y50;omega)|(((with_reducible apply z8;omega));intro _)|((apply z5)<;>intro _)|(apply z83 [] [1] [] cF;(focus (exact z23 (z143 rfl rfl rfl (by simp) (z53 (fun _=>rfl) _)) (z23 rfl z48)));rfl;rfl;(focus ((repeat' exact z12)<;>fail));((refine .inr ⟨rfl,?_⟩;repeat' exact True.intro))))<;>conv=>whnf)
   all_goals try (exfalso;omega)
   all_goals (refine rsD [0,1] [] rfl ?_;(repeat' first|exact y93 _|exact z11 _|refine z10 rfl (z4 (fun _=>rfl)) ?_|constructor))
  ·rw [if_neg hin]
   have hx:¬ 0≤idxF (fun x=>decide (x=t)) q:=fun h=>by
    rw [y89 h] at hidx
    obtain ⟨x,h1,h2⟩:=List.any_eq_true.1 hidx.symm
    rw [of_decide_eq_true h2] at h1
    exact hin h1
   generalize idxF (fun x=>decide (x=t)) q=z at *
   rw [y17 t] at cC cF
   repeat' ((first|(apply y4 ok;rfl)|(apply y50;first|omega|((try dsimp only);simp only [y56,y55,y54,y53,y64,y65];omega)|exact ⟨rfl,z38 rfl z45⟩)|(((with_reducible apply z8;omega));intro _)|((apply z5)<;>intro _)|(apply z0 (cC);rfl;rfl)|(apply z83 [] [1] [] cF;(focus (exact z23 (z143 rfl rfl rfl (by simp) (z53 (fun _=>rfl) _)) (z23 rfl z48)));rfl;rfl;(focus ((repeat' exact z12)<;>fail));((refine .inr ⟨rfl,?_⟩;repeat' exact True.intro))))<;>conv=>whnf)
   all_goals try (exfalso;omega)
   all_goals (refine rsD [0,4] [] rfl ?_;(repeat' first|exact y93 _|exact f22_cs|(refine z43 ?_;((simp;done)))|((refine z51 rfl ?_ ?_);(focus ((repeat' (first|exact z4 (fun _=>rfl)|apply z40));done)))|(refine z73 ?_ ?_;(focus (omega)))|(apply z221;rfl)|constructor))
@[reducible] def subF:AC:=.fn (.func 278) [] [.ptr 0 none 0,.ptr 1 none 0]
@[reducible] def objsS (o:List Tree):List AObj:=[.cells 1 [[subF]],.cells 1 [[.own 3 (o.map Tree.cs')]]]
set_option maxHeartbeats 6400000 in
theorem z850 (t:Tree):t.sz≤1000→∀ (o:List Tree),o.length+t.sz≤2000→(∀ x∈o,x.sz≤1000)→CallsA Tryz.prog 278 [z20 Tree.cs' t,.ptr 0 none 0,.ptr 1 none 0] (objsS o) (.tup []) (objsS (t.subs o)):=by
 induction t using y32 with|h t ih=>?_
 intro hs o ho hm
 have hsz:=y44 t
 have hkid:∀ k (h:k < t.kids.length),t.kids[k].sz≤1000:=fun k h=>by have:=z180 Tree.sz (y51 h);omega
 have hpre:∀ k,k≤t.kids.length→(Tree.subss (t.kids.take k) o).length≤o.length+((t.kids.take k).map fun u=>u.sz+1).sum∧∀ x∈Tree.subss (t.kids.take k) o,x.sz≤1000:=by
  intro k
  induction k with
  |zero=>intro _;exact ⟨by simp [Tree.subss],hm⟩
  |succ k ihk =>
   intro hk
   obtain ⟨a1,a2⟩:=ihk (by omega)
   obtain ⟨_,_,_,b4,b5,_⟩:=z193 t.kids[k] (Tree.subss (t.kids.take k) o)
   rw [y43 (by omega)]
   refine ⟨?_,fun x hx=>?_⟩
   ·rw [y57 (by omega),y70,List.sum_append]
    simp only [List.map_cons,List.map_nil,List.sum_cons,List.sum_nil]
    omega
   ·rcases b5 x hx with h|h
    ·exact a2 x h
    ·have:=hkid k (by omega);omega
 have hsum:∀ k,k≤t.kids.length→((t.kids.take k).map fun u=>u.sz+1).sum≤t.sz:=fun k hk=>by
  have h1:∀ l:List Tree,(l.map fun u=>u.sz+1).sum=l.length+(l.map Tree.sz).sum:=by
   intro l
   induction l with
   |nil=>rfl
   |cons a l ih=>simp only [List.map_cons,List.sum_cons,y64,ih];omega
  have h2:=z87 Tree.sz t.kids k
  rw [h1,y55];omega
 rw [y41]
 have hl5:t.kids.length≤1000:=by omega
 have hfs:(∀ x∈Tree.subss t.kids o,x.sz≤1000):=by have:=(hpre t.kids.length (y59 _)).2;rwa [y62] at this
 have hfl:(Tree.subss t.kids o).length≤2000:=by have h1:=(hpre t.kids.length (y59 _)).1;have h2:=hsum t.kids.length (y59 _);rw [y62] at h1 h2;omega
 have cF:=z301 (Tree.subss t.kids o) (by omega) (fun x hx=>z88 x (by have:=hfs x hx;unfold maxLen;omega)) t (z88 t (by unfold maxLen;omega))
 have cC:=z713 t (by omega)
 have hidx:=z191 (fun x=>decide (x=t)) (Tree.subss t.kids o)
 have et:=y17 t
 rw [et]
 refine z6 z9 Tryz.func278 rfl rfl 28 Tryz.ntmps278 (by simp) ?_
 repeat' (((apply y4 ok;rfl))<;>conv=>whnf)
 refine z77 (fun x:Nat×List Tree=>([(1,.ptr 0 none 0),(2,.ptr 1 none 0),(3,.ptr 2 none 0),(7,lst 3 Tree.cs' t.kids),(8,.int t.kids.length),(9,.int x.1)],[.cells 1 [[subF]],.cells 1 [[.own 3 (x.2.map Tree.cs')]],.cells 3 [[.int t.kind,.int t.val,lst 3 Tree.cs' t.kids]]])) (fun x=>x.1≤t.kids.length∧Tree.subss (t.kids.take x.1) o=x.2) (fun x=>t.kids.length - x.1) (0,o) ⟨y60 _,by simp [Tree.subss]⟩ (by refine swR [0,1,2] [] rfl rfl ?_;(repeat' first|exact y93 _|apply y94|constructor)) ?_
 rintro ⟨i,q⟩ ⟨hi,hq⟩
 dsimp only at hi hq ⊢
 obtain ⟨p1,p2⟩:=hpre i hi
 have p3:=hsum i hi
 rw [hq] at p1 p2
 have hql:q.length≤2000:=by omega
 by_cases hil:i < t.kids.length
 ·have ci:=ih t.kids[i] (y51 _) (hkid i hil) q (by
   have h1:=hsum (i+1) (by omega)
   rw [y57 hil,y70,List.sum_append] at h1
   simp only [List.map_cons,List.map_nil,List.sum_cons,List.sum_nil] at h1
   omega) p2
  have ht:=y43 hil o
  rw [hq] at ht
  have gk:(t.kids.map Tree.cs')[i]?=some (Tree.cs' t.kids[i]):=by rw [y58,y52 hil];rfl
  clear ih cF hidx
  generalize t.kids[i]=u at *
  generalize u.subs q=q' at *
  repeat' ((first|(apply y4 ok;rfl)|(refine z13 (i:=i) rfl gk ?_)|(apply y50;first|omega|(unfold inI;omega))|((apply z5)<;>intro _)|(apply z266 [0,1] [] ci;rfl;rfl;rfl))<;>conv=>whnf)
  all_goals try (exfalso;omega)
  all_goals refine z34 (i+1,q') ⟨by show i+1≤_;omega,ht⟩ (by show t.kids.length - (i+1) < t.kids.length - i;omega) (by refine swR [0,1,2] [] rfl rfl ?_;(repeat' first|exact y93 _|apply y94|constructor))
 ·obtain rfl:i=t.kids.length:=by omega
  rw [y62] at hq
  rw [hq] at cF hidx ⊢
  unfold addT
  refine y92 (Gl.Reach.expose 1 0 0 rfl rfl rfl (z155 (fun _=>rfl) _) rfl) ?_
  refine y92 (show Gl.Reach _ _ (mkSt _ [(1,.ptr 0 none 0),(2,.ptr 1 none 0),(3,.ptr 2 none 0),(7,lst 3 Tree.cs' t.kids),(8,.int t.kids.length),(9,.int t.kids.length)] [.cells 1 [[subF]],.cells 1 [[.sref 3 0 q.length]],.cells 3 [[.int t.kind,.int t.val,lst 3 Tree.cs' t.kids]],.cells 3 (q.map Tree.cs')]) from (by refine swR [0,1,2,3] [] rfl rfl ?_;(repeat' first|exact y93 _|exact z11 _|(refine z43 ?_;((simp;done)))|apply y94|refine z10 rfl (z4 (fun _=>rfl)) ?_|constructor))) ?_
  by_cases hin:t∈q
  ·rw [if_pos hin]
   have hx:0≤idxF (fun x=>decide (x=t)) q:=by
    rw [List.any_eq_true.2 ⟨t,hin,by simp⟩] at hidx
    exact of_decide_eq_true hidx
   generalize idxF (fun x=>decide (x=t)) q=z at *
   rw [et] at cF
   repeat' ((first|(apply y4 ok;rfl)|(apply y50;omega)|(((with_reducible apply z8;omega));intro _)|((apply z5)<;>intro _)|(apply z83 [] [3] [] cF;(focus (exact z23 (z143 rfl rfl rfl (by simp) (z53 (fun _=>rfl) _)) (z23 rfl z48)));rfl;rfl;(focus ((repeat' exact z12)<;>fail));((refine .inr ⟨rfl,?_⟩;repeat' exact True.intro))))<;>conv=>whnf)
   all_goals try (exfalso;omega)
   all_goals
    refine Gl.RetS.absorb 1 3 0 0 rfl rfl rfl rfl (by simp) rfl (z4 (fun _=>rfl)) ?_
    conv=>whnf
    (refine rsD [0,1] [] rfl ?_;(repeat' first|exact y93 _|apply y94|constructor))
  ·rw [if_neg hin]
   have hx:¬ 0≤idxF (fun x=>decide (x=t)) q:=fun h=>by
    rw [y89 h] at hidx
    obtain ⟨x,h1,h2⟩:=List.any_eq_true.1 hidx.symm
    rw [of_decide_eq_true h2] at h1
    exact hin h1
   generalize idxF (fun x=>decide (x=t)) q=z at *
   rw [et] at cF cC
   have gz:(List.take q.length (List.map Tree.cs' q)++[[AC.raw (Value.int IntKind.i64 0),AC.raw (Value.int IntKind.i64 0),AC.raw (Value.slice none 0 0)]])[q.length]?=some [AC.raw (Value.int IntKind.i64 0),AC.raw (Value.int IntKind.i64 0),AC.raw (Value.slice none 0 0)]:=by
    rw [y63 (by simp),y73 (by simp)];simp
   have e2:((List.take q.length (List.map Tree.cs' q)++[[AC.raw (Value.int IntKind.i64 0),AC.raw (Value.int IntKind.i64 0),AC.raw (Value.slice none 0 0)]]).set q.length (Tree.cs' t))=(q++[t]).map Tree.cs':=by
    rw [y63 (by simp),List.set_append_right _ _ (by simp)];simp
   have ec:Tree.cs' t=[.int t.kind,.int t.val,lst 3 Tree.cs' t.kids]:=AC.agg.inj et
   rw [ec] at e2
   repeat' ((first|(apply y4 ok;rfl)|(apply z17;kernel_rfl)|(refine z13 (i:=q.length) rfl gz ?_)|(apply y50;first|omega|((try dsimp only);simp only [y56,y55,y54,y53,y64,y65];omega)|exact ⟨rfl,z38 rfl z45⟩)|(((with_reducible apply z8;omega));intro _)|((apply z5)<;>intro _)|(apply z0 (cC);rfl;rfl)|(apply z83 [] [3] [] cF;(focus (exact z23 (z143 rfl rfl rfl (by simp) (z53 (fun _=>rfl) _)) (z23 rfl z48)));rfl;rfl;(focus ((repeat' exact z12)<;>fail));((refine .inr ⟨rfl,?_⟩;repeat' exact True.intro))))<;>conv=>whnf)
   all_goals try (exfalso;omega)
   all_goals
    refine Gl.RetS.absorb 1 5 0 0 rfl rfl rfl rfl (by simp) rfl (z706 (by simp) (fun e he=>(z4 (fun _=>rfl)) e (List.mem_of_mem_take he)) rfl) ?_
    conv=>whnf
    (refine rsD [0,1] [] rfl ?_;(repeat' first|exact y93 _|apply y94|constructor))
    all_goals exact y9 (congrArg (AC.own 3) e2)
theorem z849 (t:Tree) (hs:t.sz≤1000):CallsA Tryz.prog 265 [z20 Tree.cs' t] [] (.sref 0 0 (t.subs []).length) [.cells 3 ((t.subs []).map Tree.cs')]:=by
 have cV:=z850 t hs [] (by simp;omega) (fun x hx=>by cases hx)
 have hl:=(z193 t []).2.2.2.1
 simp only [y65,Nat.zero_add] at hl
 generalize t.subs []=L at *
 have cC:=z566 L (by omega)
 rw [y17 t] at *
 refine z6 z9 Tryz.func265 rfl rfl 11 Tryz.ntmps265 (by simp) ?_
 repeat' ((((fail_if_success apply z65 4);(fail_if_success apply z50 4);apply y4 ok;rfl))<;>conv=>whnf)
 refine y92 (show Gl.Reach _ _ (mkSt _ [(1,.ptr 0 none 0),(3,.ptr 1 none 0),(4,.ptr 2 none 0)] [.cells 3 [[.int t.kind,.int t.val,lst 3 Tree.cs' t.kids]],.cells 1 [[.own 3 []]],.cells 1 [[.fn (.func 278) [] [.ptr 2 none 0,.ptr 1 none 0]]]]) from (by refine swR [0,1,2] [] rfl rfl ?_;(repeat' first|exact y93 _|apply y94|constructor)<;>(exact z385))) ?_
 repeat' ((first|((fail_if_success apply z65 5);(fail_if_success apply z50 5);apply y4 ok;rfl)|(apply z266 [2,1] [] cV;rfl;rfl;rfl))<;>conv=>whnf)
 refine y92 (Gl.Reach.expose 1 0 0 rfl rfl rfl (z155 (fun _=>rfl) _) rfl) ?_
 refine y92 (show Gl.Reach _ _ (mkSt _ [(3,.ptr 1 none 0)] [.cells 3 [[.int t.kind,.int t.val,lst 3 Tree.cs' t.kids]],.cells 1 [[.sref 2 0 L.length]],.cells 3 (L.map Tree.cs')]) from (by refine swR [0,1,3] [] rfl rfl ?_;(repeat' first|exact y93 _|exact z11 _|(refine z43 ?_;((simp;done)))|apply y94|refine z10 rfl (z4 (fun _=>rfl)) ?_|constructor))) ?_
 repeat' ((first|(apply y4 ok;rfl)|(apply z95 [2] [] cC;rfl;(focus ((repeat' first|exact z14|apply z27)<;>(refine z41 rfl ?_;((exact z4 fun _=>rfl)))));rfl;(focus ((repeat' first|exact z12|apply z15)<;>(refine z22 ?_;((exact z4 fun _=>rfl)))))))<;>conv=>whnf)
 all_goals (refine rsD [2] [] rfl ?_;(repeat' first|exact y93 _|exact z11 _|refine z10 rfl (z4 (fun _=>rfl)) ?_|constructor))
theorem z1022 (t:Tree):CallsA Tryz.prog 259 [z20 Tree.cs' t] [] (.bool (z75 t)) []:=by
 rw [y17]
 unfold z75
 refine z6 z9 Tryz.func259 rfl rfl 21 Tryz.ntmps259 (by simp) ?_
 repeat' ((first|(apply y4 ok;rfl)|((apply z5)<;>intro _))<;>conv=>whnf)
 all_goals (refine rsL [] [] rfl ?_;refine y13 (z268 ?_) .nil;first|(rw [y89 (by omega)];done)|(rw [decide_eq_decide];omega))
set_option maxHeartbeats 3200000 in
theorem z1216 (t:Tree) (hs:t.sz≤200):CallsA Tryz.prog 225 [z20 Tree.cs' t] [] (.tup [lst 3 Tree.cs' (if bscB t then bscL (t.nrm false) else []),.bool (bscB t)]) []:=by
 have cn:=z384 t (by omega)
 unfold bscB
 by_cases h:t.fmB=true∧(t.nrm false).fmB=true
 ·rw [if_pos h,y89 h] at cn
  have hz:=y35 t (y29 h.1) false
  have hd:decide ((t.fmB=true∧(t.nrm false).fmB=true)∧(bscL (t.nrm false)).length≤5)=decide ((bscL (t.nrm false)).length≤5):=by
   rw [decide_eq_decide];exact ⟨fun h=>h.2,fun h2=>⟨h,h2⟩⟩
  rw [hd]
  clear hd h
  generalize t.nrm false=u at *
  have cS:=(z1165 u (by omega) [] (by simp;omega) (fun x hx=>by cases hx)).arg (args0:=[.nils,z20 Tree.cs' u]) (by (repeat' first|exact y93 _|exact z57|constructor))
  obtain ⟨_,_,_,hl,hz2,_⟩:=z193 u []
  unfold bscL
  simp only [y65,Nat.zero_add] at hl
  generalize u.subs []=L at *
  have hb:∀ k (hk:k < L.length),CallsA Tryz.prog 259 [z20 Tree.cs' L[k]] [] (.bool (z75 L[k])) []:=fun k hk=>z1022 _
  rw [y17 u] at cn cS
  refine z6 z9 Tryz.func225 rfl rfl 43 Tryz.ntmps225 (by simp) ?_
  repeat' ((first|((fail_if_success apply z65 5);(fail_if_success apply z50 5);apply y4 ok;rfl)|(apply z0 (cn);rfl;rfl))<;>conv=>whnf)
  refine y92 (y95 3 rfl) ?_
  repeat' ((first|(apply y4 ok;rfl)|(apply z54 [3] [4] cS;rfl;rfl;rfl;(focus ((repeat' first|exact z12|apply z15)<;>first|exact z135|(refine z22 ?_;((exact z4 fun _=>rfl)))))))<;>conv=>whnf)
  refine z77 (fun x:Nat×List Tree=>([(6,.sref 0 0 x.2.length),(7,.sref 1 0 L.length),(8,.int x.1)],[.cells 3 (x.2.map Tree.cs'),.cells 3 (L.map Tree.cs')])) (fun x=>x.1≤L.length∧(L.take x.1).filter z75=x.2) (fun x=>L.length - x.1) (0,[]) ⟨y60 _,rfl⟩ (by refine swR [2,4] [] rfl rfl ?_;(repeat' first|exact y93 _|exact z11 _|((refine z10 rfl ?_ ?_);(focus ((repeat' (first|exact z33|exact z4 (fun _=>rfl)));done)))|constructor)) ?_
  rintro ⟨k,O⟩ ⟨hk,hO⟩
  dsimp only at hk hO ⊢
  have hOl:O.length≤L.length:=by
   rw [← hO]
   have:=List.length_filter_le z75 (L.take k)
   rw [y55] at this
   omega
  by_cases hkl:k < L.length
  ·have gk:(L.map Tree.cs')[k]?=some (Tree.cs' L[k]):=by rw [y58,y52 hkl];rfl
   have cb:=hb k hkl
   have ht:(L.take (k+1)).filter z75=O++(if z75 L[k]=true then [L[k]] else []):=by
    rw [y57 hkl,List.filter_append,hO]
    congr 1
    by_cases hb:z75 L[k]=true
    ·rw [if_pos hb,List.filter_cons_of_pos hb];rfl
    ·rw [if_neg hb,List.filter_cons_of_neg hb];rfl
   generalize L[k]=y at *
   by_cases hy:z75 y=true
   ·rw [hy] at cb
    rw [if_pos hy] at ht
    repeat' ((first|(apply y4 ok;rfl)|(refine z13 (i:=k) rfl gk ?_)|(apply y50;first|omega|(unfold inI;omega)|((try dsimp only);simp only [y56,y55,y54,y53,y64,y65];omega)|exact ⟨rfl,z38 rfl z45⟩)|((apply z5)<;>intro _)|(apply z0 (cb);rfl;rfl))<;>conv=>whnf)
    all_goals try (exfalso;omega)
    all_goals refine z34 (k+1,O++[y]) ⟨by show k+1≤_;omega,ht⟩ (by show L.length - (k+1) < L.length - k;omega) (by refine swR [3,1] [] rfl rfl ?_;(repeat' first|exact y93 _|exact z11 _|(refine z43 ?_;((simp;done)))|((first|refine z51 rfl ?_ ?_|refine z10 rfl ?_ ?_);(focus ((repeat' (first|exact z4 (fun _=>rfl)|apply z40));done)))|(refine z73 ?_ ?_;(focus (omega)))|constructor))
   ·rw [(y78 _).mp hy] at cb
    rw [if_neg hy,y71] at ht
    repeat' ((first|(apply y4 ok;rfl)|(refine z13 (i:=k) rfl gk ?_)|(apply y50;first|omega|(unfold inI;omega))|((apply z5)<;>intro _)|(apply z0 (cb);rfl;rfl))<;>conv=>whnf)
    all_goals try (exfalso;omega)
    all_goals refine z34 (k+1,O) ⟨by show k+1≤_;omega,ht⟩ (by show L.length - (k+1) < L.length - k;omega) (by refine swR [0,1] [] rfl rfl ?_;(repeat' first|exact y93 _|exact z11 _|refine z10 rfl (z4 (fun _=>rfl)) ?_|constructor))
  ·obtain rfl:k=L.length:=by omega
   rw [y62] at hO
   rw [hO]
   by_cases h5:O.length≤5
   ·rw [y89 h5,if_pos rfl]
    repeat' ((first|(apply y4 ok;rfl)|(apply y50;omega)|(((apply z8;omega));intro _)|((apply z5)<;>intro _))<;>conv=>whnf)
    all_goals try (exfalso;omega)
    all_goals (refine rsD [] [0] rfl ?_;(repeat' first|exact y93 _|((apply z66 rfl rfl rfl);(focus ((repeat ((exact z53 (fun _=>rfl) _)));done));(focus (((simp;done));done)))|apply z72|constructor))
   ·rw [y90 h5,if_neg (by simp)]
    repeat' ((first|(apply y4 ok;rfl)|(apply y50;omega)|(((apply z8;omega));intro _)|((apply z5)<;>intro _))<;>conv=>whnf)
    all_goals try (exfalso;omega)
    all_goals (refine rsD [] [2] rfl ?_;(repeat' first|exact y93 _|constructor))
 ·rw [if_neg h,y90 h] at cn
  have hd:decide ((t.fmB=true∧(t.nrm false).fmB=true)∧(bscL (t.nrm false)).length≤5)=false:=y90 fun h2=>h h2.1
  rw [hd,if_neg (by simp)]
  refine z6 z9 Tryz.func225 rfl rfl 43 Tryz.ntmps225 (by simp) ?_
  repeat' ((first|(apply y4 ok;rfl)|(apply z0 (cn);rfl;rfl))<;>conv=>whnf)
  all_goals (refine rsD [] [2] rfl ?_;(repeat' first|exact y93 _|constructor))
theorem z296 (x a:Int) (h0:0≤x) (h1:x≤31) (h2:0≤a) (h3:a≤5):CallsA Tryz.prog 261 [.int x,.int a] [] (.bool (hasB x a)) []:=by
 have ha:a=0∨a=1∨a=2∨a=3∨a=4∨a=5:=by omega
 have h5:0≤x / 2 ^ a.toNat∧x / 2 ^ a.toNat≤31:=by
  rcases ha with rfl|rfl|rfl|rfl|rfl|rfl<;>simp<;>omega
 have hw:IntKind.u64.wrap a=a:=by
  rcases ha with rfl|rfl|rfl|rfl|rfl|rfl<;>decide
 refine z6 z9 Tryz.func261 rfl rfl 11 Tryz.ntmps261 (by simp) ?_
 repeat' ((first|(apply y4 ok;rfl)|(apply y50;omega))<;>conv=>whnf)
 refine y50 (by unfold z161;omega) ?_
 conv=>whnf
 repeat' (((apply y4 ok;rfl))<;>conv=>whnf)
 all_goals (refine rsD [] [] rfl ?_;(repeat' first|exact y93 _|constructor))
structure BasL (B:List Tree):Prop where
 len:B.length≤5
 nd:B.Nodup
 sz:∀ x∈B,x.sz≤1000
 cl:∀ x∈B,In (·∈B) x
 bk:∀ x∈B,z75 x=true
 av:∀ v,Tree.mk 2 v []∈B→0≤v∧v≤2
theorem BasL.mx {B:List Tree} (h:BasL B):∀ x∈B,x.mx:=fun x hx=>z88 x (by have:=h.sz x hx;unfold maxLen;omega)
set_option maxHeartbeats 3200000 in
theorem z169 (B:List Tree) (hB:BasL B) (s:Int) (s0:0≤s) (s1:s≤31) (t:Tree) (h:In (·∈B) t):t.sz≤1000→CallsA Tryz.prog 228 [lst 3 Tree.cs' B,.int s,z20 Tree.cs' t] [] (.bool (vlB B s t)) []:=by
 have basic:∀ t,t∈B→z75 t=true→CallsA Tryz.prog 228 [lst 3 Tree.cs' B,.int s,z20 Tree.cs' t] [] (.bool (sgB B s t)) []:=fun t ht hb=>by
  have hl:=hB.len
  have cF:=z782 B (by omega) hB.mx t (hB.mx t ht)
  have hp:=z1131 ht
  have cH:=z296 s (plc B t) s0 s1 hp.1 (by omega)
  have e:idxF (fun x=>decide (x=t)) B=plc B t:=rfl
  rw [e] at cF
  unfold sgB
  generalize plc B t=p at *
  unfold z75 at hb
  have hb:=of_decide_eq_true hb
  rw [y17 t] at cF ⊢
  refine z6 z9 Tryz.func228 rfl rfl 62 Tryz.ntmps228 (by simp) ?_
  repeat' ((first|(apply y4 ok;rfl)|(apply y50;omega)|(((with_reducible apply z103;omega));intro _)|((apply z5)<;>intro _)|(apply z0 (cF);rfl;rfl)|(apply z0 (cH);rfl;rfl))<;>conv=>whnf)
  all_goals first|(exfalso;omega)|(refine rsD [] [] rfl ?_;(repeat' first|exact y93 _|constructor))
 unfold vlB
 induction h with
 |tr =>
  intro _
  rw [z497]
  refine z6 z9 Tryz.func228 rfl rfl 62 Tryz.ntmps228 (by simp) ?_
  repeat' (((apply y4 ok;rfl))<;>conv=>whnf)
  all_goals (refine rsD [] [] rfl ?_;(repeat' first|exact y93 _|constructor))
 |«at» v hb=>intro _;rw [z460];exact basic _ hb (by simp [z75,Tree.kind])
 |nt =>
  intro _
  rw [z270,z497]
  have c1:CallsA Tryz.prog 228 [lst 3 Tree.cs' B,.int s,z20 Tree.cs' (.mk 1 0 [])] [] (.bool true) []:=by
   refine z6 z9 Tryz.func228 rfl rfl 62 Tryz.ntmps228 (by simp) ?_
   repeat' (((apply y4 ok;rfl))<;>conv=>whnf)
   all_goals (refine rsD [] [] rfl ?_;(repeat' first|exact y93 _|constructor))
  rw [argU]
  refine z6 z9 Tryz.func228 rfl rfl 62 Tryz.ntmps228 (by simp) ?_
  repeat' ((first|(apply y4 ok;rfl)|(refine ⟨_,rfl,?_⟩)|(apply y50;omega)|(apply z0 (c1);rfl;rfl))<;>conv=>whnf)
  all_goals (refine rsD [] [] rfl ?_;(repeat' first|exact y93 _|constructor))
 |na v hb =>
  intro _
  rw [z270,z460]
  have c1:=basic _ hb (by simp [z75,Tree.kind])
  rw [argU]
  refine z6 z9 Tryz.func228 rfl rfl 62 Tryz.ntmps228 (by simp) ?_
  repeat' ((first|(apply y4 ok;rfl)|(refine ⟨_,rfl,?_⟩)|(apply y50;omega)|(apply z0 (c1);rfl;rfl))<;>conv=>whnf)
  all_goals (refine rsD [] [] rfl ?_;(repeat' first|exact y93 _|constructor))
 |an _ _ iha ihb =>
  rename_i a b _ _
  intro hs
  rw [z336] at hs
  have ca:=iha (by omega)
  have cb:=ihb (by omega)
  rw [z606,argB]
  generalize a.vl (sgB B s)=x at *
  generalize b.vl (sgB B s)=y at *
  cases x
  all_goals
   refine z6 z9 Tryz.func228 rfl rfl 62 Tryz.ntmps228 (by simp) ?_
   repeat' ((first|(apply y4 ok;rfl)|(refine ⟨_,rfl,?_⟩)|(apply y50;omega)|(apply z0 (ca);rfl;rfl)|(apply z0 (cb);rfl;rfl))<;>conv=>whnf)
   all_goals (refine rsD [] [] rfl ?_;(repeat' first|exact y93 _|constructor))
 |or _ _ iha ihb =>
  rename_i a b _ _
  intro hs
  rw [z336] at hs
  have ca:=iha (by omega)
  have cb:=ihb (by omega)
  rw [z976,argB]
  generalize a.vl (sgB B s)=x at *
  generalize b.vl (sgB B s)=y at *
  cases x
  all_goals
   refine z6 z9 Tryz.func228 rfl rfl 62 Tryz.ntmps228 (by simp) ?_
   repeat' ((first|(apply y4 ok;rfl)|(refine ⟨_,rfl,?_⟩)|(apply y50;omega)|(apply z0 (ca);rfl;rfl)|(apply z0 (cb);rfl;rfl))<;>conv=>whnf)
   all_goals (refine rsD [] [] rfl ?_;(repeat' first|exact y93 _|constructor))
 |nx hb _ _=>intro _;rw [z977];exact basic _ hb (by simp [z75,Tree.kind])
 |un hb _ _ _ _=>intro _;rw [z974];exact basic _ hb (by simp [z75,Tree.kind])
 |re hb _ _ _ _=>intro _;rw [z975];exact basic _ hb (by simp [z75,Tree.kind])
set_option maxHeartbeats 3200000 in
theorem z599 (u:Tree) (hs:u.sz≤1000):CallsA Tryz.prog 237 [z20 Tree.cs' u] [] (.sref 0 0 (bscL u).length) [.cells 3 ((bscL u).map Tree.cs')]:=by
 have cS:=z849 u hs
 obtain ⟨_,_,_,hl,hz2,_⟩:=z193 u []
 simp only [y65,Nat.zero_add] at hl
 unfold bscL
 generalize u.subs []=L at *
 rw [y17 u] at *
 refine z6 z9 Tryz.func237 rfl rfl 38 Tryz.ntmps237 (by simp) ?_
 repeat' ((first|(apply y4 ok;rfl)|(apply z54 [] [1] cS;rfl;rfl;rfl;(focus ((repeat' first|exact z12|apply z15)<;>(refine z22 ?_;((exact z4 fun _=>rfl)))))))<;>conv=>whnf)
 refine y92 (y95 3 rfl) ?_
 refine z77 (fun x:Nat×List Tree=>([(3,.sref 0 0 x.2.length),(7,.sref 1 0 L.length),(8,.int L.length),(9,.int x.1)],[.cells 3 (x.2.map Tree.cs'),.cells 3 (L.map Tree.cs')])) (fun x=>x.1≤L.length∧(L.take x.1).filter z75=x.2) (fun x=>L.length - x.1) (0,[]) ⟨y60 _,rfl⟩ (by refine swR [2,1] [] rfl rfl ?_;(repeat' first|exact y93 _|exact z57|exact z11 _|((refine z10 rfl ?_ ?_);(focus ((repeat' (first|exact z33|exact z4 (fun _=>rfl)));done)))|constructor)) ?_
 rintro ⟨k,O⟩ ⟨hk,hO⟩
 dsimp only at hk hO ⊢
 have hOl:O.length≤L.length:=by
  rw [← hO]
  have:=List.length_filter_le z75 (L.take k)
  rw [y55] at this
  omega
 by_cases hkl:k < L.length
 ·have gk:(L.map Tree.cs')[k]?=some (Tree.cs' L[k]):=by rw [y58,y52 hkl];rfl
  have ht:(L.take (k+1)).filter z75=O++(if z75 L[k]=true then [L[k]] else []):=by
   rw [y57 hkl,List.filter_append,hO]
   congr 1
   by_cases hb:z75 L[k]=true
   ·rw [if_pos hb,List.filter_cons_of_pos hb];rfl
   ·rw [if_neg hb,List.filter_cons_of_neg hb];rfl
  generalize L[k]=y at *
  by_cases hy:z75 y=true
  ·rw [if_pos hy] at ht
   have hy:=of_decide_eq_true (show decide _=true from hy)
   repeat' ((first|(apply y4 ok;rfl)|(refine z13 (i:=k) rfl gk ?_)|(apply y50;first|omega|(unfold inI;omega)|((try dsimp only);simp only [y56,y55,y54,y53,y64,y65];omega)|exact ⟨rfl,z38 rfl z45⟩)|((apply z5)<;>intro _))<;>conv=>whnf)
   all_goals try (exfalso;omega)
   all_goals refine z34 (k+1,O++[y]) ⟨by show k+1≤_;omega,ht⟩ (by show L.length - (k+1) < L.length - k;omega) (by refine swR [4,1] [] rfl rfl ?_;(repeat' first|exact y93 _|exact z11 _|(refine z43 ?_;((simp;done)))|((first|refine z51 rfl ?_ ?_|refine z10 rfl ?_ ?_);(focus ((repeat' (first|exact z4 (fun _=>rfl)|apply z40));done)))|(refine z73 ?_ ?_;(focus (omega)))|constructor))
  ·rw [if_neg hy,y71] at ht
   have hy:=of_decide_eq_false (show decide _=false from (y78 _).mp hy)
   repeat' ((first|(apply y4 ok;rfl)|(refine z13 (i:=k) rfl gk ?_)|(apply y50;first|omega|(unfold inI;omega))|((apply z5)<;>intro _))<;>conv=>whnf)
   all_goals try (exfalso;omega)
   all_goals refine z34 (k+1,O) ⟨by show k+1≤_;omega,ht⟩ (by show L.length - (k+1) < L.length - k;omega) (by refine swR [0,1] [] rfl rfl ?_;(repeat' first|exact y93 _|exact z11 _|refine z10 rfl (z4 (fun _=>rfl)) ?_|constructor))
 ·obtain rfl:k=L.length:=by omega
  rw [y62] at hO
  rw [hO]
  have cC:=z566 O (by omega)
  repeat' ((first|(apply y4 ok;rfl)|(apply y50;omega)|(((apply z8;omega));intro _)|((apply z5)<;>intro _)|(apply z95 [0] [] cC;rfl;(focus ((repeat' first|exact z14|apply z27)<;>(refine z41 rfl ?_;((exact z4 fun _=>rfl)))));rfl;(focus ((repeat' first|exact z12|apply z15)<;>(refine z22 ?_;((exact z4 fun _=>rfl)))))))<;>conv=>whnf)
  all_goals try (exfalso;omega)
  all_goals (refine rsD [0] [] rfl ?_;(repeat' first|exact y93 _|exact z11 _|refine z10 rfl (z4 (fun _=>rfl)) ?_|constructor))
theorem z704 (t:Tree) (hs:t.sz≤200):CallsA Tryz.prog 186 [z20 Tree.cs' t] [] (.tup [lst 3 Tree.cs' (if bscB t then bscL (t.nrm false) else []),.bool (bscB t)]) []:=by
 have cn:=z1173 t (by omega)
 unfold bscB
 by_cases h:t.fmB=true∧(t.nrm false).fmB=true
 ·rw [if_pos h,y89 h] at cn
  have hz:=y35 t (y29 h.1) false
  have hd:decide ((t.fmB=true∧(t.nrm false).fmB=true)∧(bscL (t.nrm false)).length≤5)=decide ((bscL (t.nrm false)).length≤5):=by
   rw [decide_eq_decide];exact ⟨fun h=>h.2,fun h2=>⟨h,h2⟩⟩
  rw [hd]
  clear hd h
  generalize t.nrm false=u at *
  have cB:=z599 u (by omega)
  generalize bscL u=O at *
  rw [y17 u] at cn cB
  by_cases h5:O.length≤5
  ·rw [y89 h5,if_pos rfl]
   refine z6 z9 Tryz.func186 rfl rfl 20 Tryz.ntmps186 (by simp) ?_
   repeat' ((first|(apply y4 ok;rfl)|((apply z5)<;>intro _)|(apply z0 (cn);rfl;rfl)|(apply z54 [] [2] cB;rfl;rfl;rfl;(focus ((repeat' first|exact z12|apply z15)<;>(refine z22 ?_;((exact z4 fun _=>rfl)))))))<;>conv=>whnf)
   all_goals try (exfalso;omega)
   all_goals (refine rsD [] [2] rfl ?_;(repeat' first|exact y93 _|((apply z66 rfl rfl rfl);(focus ((repeat ((exact z53 (fun _=>rfl) _)));done));(focus (((simp;done));done)))|apply z72|constructor))
  ·rw [y90 h5,if_neg (by simp)]
   refine z6 z9 Tryz.func186 rfl rfl 20 Tryz.ntmps186 (by simp) ?_
   repeat' ((first|(apply y4 ok;rfl)|((apply z5)<;>intro _)|(apply z0 (cn);rfl;rfl)|(apply z54 [] [2] cB;rfl;rfl;rfl;(focus ((repeat' first|exact z12|apply z15)<;>(refine z22 ?_;((exact z4 fun _=>rfl)))))))<;>conv=>whnf)
   all_goals try (exfalso;omega)
   all_goals (refine rsD [] [] rfl ?_;(repeat' first|exact y93 _|exact z61|apply z72|constructor))
 ·rw [if_neg h,y90 h] at cn
  have hd:decide ((t.fmB=true∧(t.nrm false).fmB=true)∧(bscL (t.nrm false)).length≤5)=false:=y90 fun h2=>h h2.1
  rw [hd,if_neg (by simp)]
  refine z6 z9 Tryz.func186 rfl rfl 20 Tryz.ntmps186 (by simp) ?_
  repeat' ((first|(apply y4 ok;rfl)|(apply z0 (cn);rfl;rfl))<;>conv=>whnf)
  all_goals (refine rsD [] [] rfl ?_;(repeat' first|exact y93 _|exact z61|apply z72|constructor))
theorem csU (k v:Int) (a:Tree):Tree.cs' (.mk k v [a])=[.int k,.int v,.list 3 1 [Tree.cs' a]]:=AC.agg.inj (argU k v a)
theorem csB2 (k v:Int) (a b:Tree):Tree.cs' (.mk k v [a,b])=[.int k,.int v,.list 3 2 [Tree.cs' a,Tree.cs' b]]:=AC.agg.inj (argB k v a b)
inductive FormB (B:List Tree):Tree→Prop
 |at (v:Int):FormB B (.mk 2 v [])
 |nx (a:Tree) (ha:In (·∈B) a) (sa:a.sz≤1000):FormB B (.mk 6 0 [a])
 |un (a b:Tree) (ha:In (·∈B) a) (hb:In (·∈B) b) (sa:a.sz≤1000) (sb:b.sz≤1000):FormB B (.mk 7 0 [a,b])
 |re (a b:Tree) (ha:In (·∈B) a) (hb:In (·∈B) b) (sa:a.sz≤1000) (sb:b.sz≤1000):FormB B (.mk 8 0 [a,b])
theorem BasL.form {B:List Tree} (h:BasL B) {x:Tree} (hx:x∈B):FormB B x:=by
 have h1:=h.cl x hx
 have h2:=h.bk x hx
 have h3:=h.sz x hx
 cases h1 with
 |tr=>simp [z75,Tree.kind] at h2
 |«at» v _=>exact .at v
 |nt=>simp [z75,Tree.kind] at h2
 |na v _=>simp [z75,Tree.kind] at h2
 |an _ _=>simp [z75,Tree.kind] at h2
 |or _ _=>simp [z75,Tree.kind] at h2
 |nx _ ha=>rw [z337] at h3;exact .nx _ ha (by omega)
 |un _ ha hb=>rw [z336] at h3;exact .un _ _ ha hb (by omega) (by omega)
 |re _ ha hb=>rw [z336] at h3;exact .re _ _ ha hb (by omega) (by omega)
theorem z797 {B:List Tree} {s t:Int} (h:∀ i,i < B.length→folI B s t i=true):folB B s t=true:=by
 unfold folB;rw [y85];exact fun i hi=>h i (List.mem_range.1 hi)
theorem z633 {B:List Tree} {s t:Int} {i:Nat} (hi:i < B.length) (h:folI B s t i=false):folB B s t=false:=by
 unfold folB;rw [List.all_eq_false];exact ⟨i,List.mem_range.2 hi,by rw [h];simp⟩
set_option maxHeartbeats 6400000 in
theorem z781 (B:List Tree) (hB:BasL B) (s t:Int) (s0:0≤s) (s1:s≤31) (t0:0≤t) (t1:t≤31):CallsA Tryz.prog 231 [lst 3 Tree.cs' B,.int s,.int t] [] (.bool (folB B s t)) []:=by
 have hl:=hB.len
 refine z6 z9 Tryz.func231 rfl rfl 85 Tryz.ntmps231 (by simp) ?_
 repeat' (((apply y4 ok;rfl))<;>conv=>whnf)
 refine z77 (fun i:Nat=>([(0,lst 3 Tree.cs' B),(1,.int s),(2,.int t),(7,.int i)],[])) (fun i=>i≤B.length∧∀ j,j < i→folI B s t j=true) (fun i=>B.length - i) 0 ⟨y60 _,fun j h=>absurd h (Nat.not_lt_zero _)⟩ (by refine swR [] [] rfl rfl ?_;(repeat' first|exact y93 _|constructor)) ?_
 rintro i ⟨hi,hj⟩
 by_cases hil:i < B.length
 ·have gk:(B.map Tree.cs')[i]?=some (Tree.cs' (B.getD i dftT)):=by rw [y58,y52 hil,z18 hil];rfl
  have hf:=hB.form (x:=B.getD i dftT) (by rw [z18 hil];exact y51 _)
  have cw:=z296 s i s0 s1 (by omega) (by omega)
  have cn:=z296 t i t0 t1 (by omega) (by omega)
  have hI:folI B s t i=(folV B s t (B.getD i dftT) (hasB s i) (hasB t i) == hasB s i):=rfl
  have hT:folI B s t i=true→∀ j,j < i+1→folI B s t j=true:=fun h j hji=>by
   rcases y76 j i with h3|h3
   ·exact hj j h3
   ·obtain rfl:j=i:=by omega
    exact h
  have hF:folI B s t i=false→folB B s t=false:=z633 hil
  rw [hI] at hT hF
  clear hI hj
  generalize B.getD i dftT=f at *
  generalize hasB s i=x at *
  generalize hasB t i=y at *
  cases hf with
  |«at» v =>
   have hT2:=hT (by simp [folV,Tree.kind])
   clear hT hF
   cases x
   all_goals
    repeat' ((first|(apply y4 ok;rfl)|(refine z13 (i:=i) rfl gk ?_)|(apply y50;first|omega|(unfold inI;omega))|((apply z5)<;>intro _)|(apply z0 (cw);rfl;rfl))<;>conv=>whnf)
    all_goals try (exfalso;omega)
    all_goals refine z34 (i+1) ⟨by omega,hT2⟩ (by omega) (by refine swR [] [] rfl rfl ?_;(repeat' first|exact y93 _|constructor))
  |nx a ha sa =>
   have ca:=z169 B hB t t0 t1 a ha sa
   have e:folV B s t (.mk 6 0 [a]) x y=vlB B t a:=by simp [folV,kidV,Tree.kind,Tree.kids]
   rw [e] at hT hF
   rw [csU] at gk
   clear e
   generalize vlB B t a=z at *
   cases x<;>cases z
   all_goals first|have hT:=hT rfl|(have hF:=hF rfl;rw [hF])
   all_goals
    repeat' ((first|(apply y4 ok;rfl)|(refine z13 (i:=i) rfl gk ?_)|(refine ⟨_,rfl,?_⟩)|(apply y50;first|omega|(unfold inI;omega))|((apply z5)<;>intro _)|(apply z0 (cw);rfl;rfl)|(apply z0 (ca);rfl;rfl))<;>conv=>whnf)
    all_goals try (exfalso;omega)
    all_goals first|(refine z34 (i+1) ⟨by omega,hT⟩ (by omega) (by refine swR [] [] rfl rfl ?_;(repeat' first|exact y93 _|constructor)))|(refine rsD [] [] rfl ?_;(repeat' first|exact y93 _|constructor))
  |un a b ha hb sa sb =>
   have ca:=z169 B hB s s0 s1 a ha sa
   have cb:=z169 B hB s s0 s1 b hb sb
   have e:folV B s t (.mk 7 0 [a,b]) x y=(vlB B s b || (vlB B s a && y)):=by simp [folV,kidV,Tree.kind,Tree.kids]
   rw [e] at hT hF
   rw [csB2] at gk
   clear e
   generalize vlB B s a=z at *
   generalize vlB B s b=u at *
   cases x<;>cases y<;>cases z<;>cases u
   all_goals first|have hT:=hT rfl|(have hF:=hF rfl;rw [hF])
   all_goals
    repeat' ((first|(apply y4 ok;rfl)|(refine z13 (i:=i) rfl gk ?_)|(refine ⟨_,rfl,?_⟩)|(apply y50;first|omega|(unfold inI;omega))|((apply z5)<;>intro _)|(apply z0 (cw);rfl;rfl)|(apply z0 (cn);rfl;rfl)|(apply z0 (ca);rfl;rfl)|(apply z0 (cb);rfl;rfl))<;>conv=>whnf)
    all_goals try (exfalso;omega)
    all_goals first|(refine z34 (i+1) ⟨by omega,hT⟩ (by omega) (by refine swR [] [] rfl rfl ?_;(repeat' first|exact y93 _|constructor)))|(refine rsD [] [] rfl ?_;(repeat' first|exact y93 _|constructor))
  |re a b ha hb sa sb =>
   have ca:=z169 B hB s s0 s1 a ha sa
   have cb:=z169 B hB s s0 s1 b hb sb
   have e:folV B s t (.mk 8 0 [a,b]) x y=(vlB B s b && (vlB B s a || y)):=by simp [folV,kidV,Tree.kind,Tree.kids]
   rw [e] at hT hF
   rw [csB2] at gk
   clear e
   generalize vlB B s a=z at *
   generalize vlB B s b=u at *
   cases x<;>cases y<;>cases z<;>cases u
   all_goals first|have hT:=hT rfl|(have hF:=hF rfl;rw [hF])
   all_goals
    repeat' ((first|(apply y4 ok;rfl)|(refine z13 (i:=i) rfl gk ?_)|(refine ⟨_,rfl,?_⟩)|(apply y50;first|omega|(unfold inI;omega))|((apply z5)<;>intro _)|(apply z0 (cw);rfl;rfl)|(apply z0 (cn);rfl;rfl)|(apply z0 (ca);rfl;rfl)|(apply z0 (cb);rfl;rfl))<;>conv=>whnf)
    all_goals try (exfalso;omega)
    all_goals first|(refine z34 (i+1) ⟨by omega,hT⟩ (by omega) (by refine swR [] [] rfl rfl ?_;(repeat' first|exact y93 _|constructor)))|(refine rsD [] [] rfl ?_;(repeat' first|exact y93 _|constructor))
 ·obtain rfl:i=B.length:=by omega
  rw [z797 fun j hji=>hj j hji]
  repeat' ((first|(apply y4 ok;rfl)|(apply y50;omega)|(((with_reducible apply z8;omega));intro _)|((apply z5)<;>intro _))<;>conv=>whnf)
  all_goals first|(exfalso;omega)|(refine rsD [] [] rfl ?_;(repeat' first|exact y93 _|constructor))
end Go.Proofs.YtnfoijopccdjeaaGreat
