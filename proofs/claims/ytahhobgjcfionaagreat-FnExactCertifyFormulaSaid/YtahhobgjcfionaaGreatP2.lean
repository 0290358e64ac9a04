/- A part of the proofs over this program: T32, T33I, T33, T34, T24, T25, T26. -/
import Derived.Test.YtahhobgjcfionaaGreatG0
import Derived.Test.YtahhobgjcfionaaGreatG1
import Derived.Test.YtahhobgjcfionaaGreatG2
import Derived.Test.YtahhobgjcfionaaGreatG3
import Derived.Test.YtahhobgjcfionaaGreatP0
import Derived.Test.YtahhobgjcfionaaGreatP1
set_option linter.all false
namespace Go.Proofs.YtahhobgjcfionaaGreat
open Go.Gl
attribute [local irreducible] z21 AWP z42 z46 z43
def enM (k:Int) (j:Nat):List AC:=[.int (k+j)]
theorem z167 (l:List Int) (k:Int) (hl:l.length≤1048576) (h0:0≤k) (h1:k≤1000000000000):CallsA Tryz.prog 126 [.sref 0 0 l.length,.int k] [.cells 1 (l.map enI)] (.int (k+l.length)) [.cells 1 ((z351 k l.length).map enI)]:=by
 refine z6 z12 Tryz.func126 rfl rfl 19 Tryz.ntmps126 (by simp) ?_
 repeat' (first|(apply y83 ok;rfl;conv=>whnf)|(apply z7;kernel_rfl;conv=>whnf)|(apply y44;(first|omega|(unfold inI;omega)|(dsimp only;omega)|(unfold z39;omega)|((try dsimp only);simp only [y50,y49,y48,y47,y57,y58];omega)|(simp only [z52] at *;first|omega|(unfold inI;omega)|(unfold z39;omega))|exact z15 (fun _=>rfl)|exact ⟨rfl,z23 rfl z29⟩|exact ⟨rfl,z15 (fun _=>rfl) _⟩|exact ⟨⟨rfl,by omega⟩,z15 (fun _=>rfl) _⟩);conv=>whnf)|(with_reducible apply z4;omega;intro _;conv=>whnf)|(with_reducible apply z33;omega;intro _;conv=>whnf)|(apply z4;omega;intro _;conv=>whnf)|(apply z56;omega;conv=>whnf)|(apply z66;conv=>whnf)|(apply z69;omega;intro _;conv=>whnf)|(apply z74<;>intro _<;>conv=>whnf)|(apply z61<;>intro _<;>conv=>whnf)|(apply z73<;>intro _<;>conv=>whnf)|(apply z90<;>intro _<;>conv=>whnf)|(apply z2<;>intro _<;>conv=>whnf)|(apply z8<;>intro _<;>conv=>whnf)|(apply z37<;>intro _<;>conv=>whnf)|(apply z47<;>intro _<;>conv=>whnf))
 refine z93 (fun i:Nat=>([(0,.sref 0 0 l.length),(1,.int (k+i)),(5,.int i)],[.cells 1 (mixL (enM k) (l.map enI) i)])) (fun i=>i≤l.length) (fun i=>l.length - i) 0 (by omega) ⟨[0],rfl,by decide,rfl,⟨⟨rfl,rfl⟩,⟨rfl,z182 (by simp)⟩,⟨rfl,rfl⟩,trivial⟩,⟨z17 (z31 (z296 _ _).symm) (z137 (fun _=>rfl) (fun _=>rfl)),trivial⟩⟩ ?_
 intro i hi
 repeat' (first|(apply y83 ok;rfl;conv=>whnf)|(apply z7;kernel_rfl;conv=>whnf)|(refine get_mix (by omega) (by omega) ?_;conv=>whnf)|(apply y44;(first|omega|(unfold inI;omega)|(dsimp only;omega)|(unfold z39;omega)|((try dsimp only);simp only [y50,y49,y48,y47,y57,y58];omega)|(simp only [z52] at *;first|omega|(unfold inI;omega)|(unfold z39;omega))|exact z15 (fun _=>rfl)|exact ⟨rfl,z23 rfl z29⟩|exact ⟨rfl,z15 (fun _=>rfl) _⟩|exact ⟨⟨rfl,by omega⟩,z15 (fun _=>rfl) _⟩);conv=>whnf)|(with_reducible apply z4;omega;intro _;conv=>whnf)|(with_reducible apply z33;omega;intro _;conv=>whnf)|(apply z4;omega;intro _;conv=>whnf)|(apply z56;omega;conv=>whnf)|(apply z66;conv=>whnf)|(apply z69;omega;intro _;conv=>whnf)|(apply z74<;>intro _<;>conv=>whnf)|(apply z61<;>intro _<;>conv=>whnf)|(apply z73<;>intro _<;>conv=>whnf)|(apply z90<;>intro _<;>conv=>whnf)|(apply z2<;>intro _<;>conv=>whnf)|(apply z8<;>intro _<;>conv=>whnf)|(apply z37<;>intro _<;>conv=>whnf)|(apply z47<;>intro _<;>conv=>whnf))
 ·exact z81 (i+1) [0] (by omega) (by omega) ⟨rfl,by decide,rfl,⟨⟨rfl,rfl⟩,⟨rfl,z182 (by omega)⟩,⟨rfl,rfl⟩,trivial⟩,⟨z17 (z31 (z389 (by simpa using by omega) (by omega) rfl)) (z137 (fun _=>rfl) (fun _=>rfl)),trivial⟩⟩
 ·obtain rfl:i=l.length:=by omega
  refine z82 [0] (by decide) rfl rfl rfl ⟨z17 (z31 ?_) (z1 fun _=>rfl),trivial⟩
  rw [z391 (by simp),z351,List.map_map];rfl
theorem z355 (n:Nat) (k:Int) (hl:n≤1048576) (h0:0≤k) (h1:k≤1000000000000):CallsA Tryz.prog 127 [ints (z351 k n),.int k] [] (.int (k+n)) []:=by
 have hn:=z199 k n
 refine z6 z12 Tryz.func127 rfl rfl 21 Tryz.ntmps127 (by simp) ?_
 repeat' (first|(apply y83 ok;rfl;conv=>whnf)|(apply z7;kernel_rfl;conv=>whnf)|(apply y44;(first|omega|(unfold inI;omega)|(dsimp only;omega)|(unfold z39;omega)|((try dsimp only);simp only [y50,y49,y48,y47,y57,y58];omega)|(simp only [z52] at *;first|omega|(unfold inI;omega)|(unfold z39;omega))|exact z15 (fun _=>rfl)|exact ⟨rfl,z23 rfl z29⟩|exact ⟨rfl,z15 (fun _=>rfl) _⟩|exact ⟨⟨rfl,by omega⟩,z15 (fun _=>rfl) _⟩);conv=>whnf)|(with_reducible apply z4;omega;intro _;conv=>whnf)|(with_reducible apply z33;omega;intro _;conv=>whnf)|(apply z4;omega;intro _;conv=>whnf)|(apply z56;omega;conv=>whnf)|(apply z66;conv=>whnf)|(apply z69;omega;intro _;conv=>whnf)|(apply z74<;>intro _<;>conv=>whnf)|(apply z61<;>intro _<;>conv=>whnf)|(apply z73<;>intro _<;>conv=>whnf)|(apply z90<;>intro _<;>conv=>whnf)|(apply z2<;>intro _<;>conv=>whnf)|(apply z8<;>intro _<;>conv=>whnf)|(apply z37<;>intro _<;>conv=>whnf)|(apply z47<;>intro _<;>conv=>whnf))
 refine z93 (fun i:Nat=>([(0,ints (z351 k n)),(1,.int (k+i)),(5,.int i)],[])) (fun i=>i≤n) (fun i=>n - i) 0 (by omega) ⟨[],rfl,by decide,rfl,⟨⟨rfl,rfl⟩,⟨rfl,z182 (by simp)⟩,⟨rfl,rfl⟩,trivial⟩,trivial⟩ ?_
 intro i hi
 repeat' (first|(apply y83 ok;rfl;conv=>whnf)|(apply z7;kernel_rfl;conv=>whnf)|(apply y44;(first|omega|(unfold inI;omega)|(dsimp only;omega)|(unfold z39;omega)|((try dsimp only);simp only [y50,y49,y48,y47,y57,y58];omega)|(simp only [z52] at *;first|omega|(unfold inI;omega)|(unfold z39;omega))|exact z15 (fun _=>rfl)|exact ⟨rfl,z23 rfl z29⟩|exact ⟨rfl,z15 (fun _=>rfl) _⟩|exact ⟨⟨rfl,by omega⟩,z15 (fun _=>rfl) _⟩);conv=>whnf)|(with_reducible apply z4;omega;intro _;conv=>whnf)|(with_reducible apply z33;omega;intro _;conv=>whnf)|(apply z4;omega;intro _;conv=>whnf)|(apply z56;omega;conv=>whnf)|(apply z66;conv=>whnf)|(apply z69;omega;intro _;conv=>whnf)|(apply z74<;>intro _<;>conv=>whnf)|(apply z61<;>intro _<;>conv=>whnf)|(apply z73<;>intro _<;>conv=>whnf)|(apply z90<;>intro _<;>conv=>whnf)|(apply z2<;>intro _<;>conv=>whnf)|(apply z8<;>intro _<;>conv=>whnf)|(apply z37<;>intro _<;>conv=>whnf)|(apply z47<;>intro _<;>conv=>whnf))
 ·rename_i h1 h2 h3
  exact absurd (z1092 (by omega)) (by assumption)
 ·exact z81 (i+1) [] (by omega) (by omega) ⟨rfl,by decide,rfl,⟨⟨rfl,rfl⟩,⟨rfl,z182 (by omega)⟩,⟨rfl,rfl⟩,trivial⟩,trivial⟩
 ·obtain rfl:i=n:=by omega
  exact z50 rfl rfl rfl
theorem z660 (l:List State) (k:Int) (hl:l.length≤1048576) (hm:∀ s∈l,s.small) (h0:0≤k) (h1:k+(l.map State.sz).sum≤1000000000000):CallsA Tryz.prog 123 [.sref 0 0 l.length,.int k] [.cells 2 (l.map State.co)] (.int (k+(l.map State.sz).sum)) [.cells 2 (List.replicate l.length [.any,.any])]:=by
 refine z6 z12 Tryz.func123 rfl rfl 27 Tryz.ntmps123 (by simp) ?_
 repeat' (first|(apply y83 ok;rfl;conv=>whnf)|(apply z7;kernel_rfl;conv=>whnf)|(apply y44;(first|omega|(unfold inI;omega)|(dsimp only;omega)|(unfold z39;omega)|((try dsimp only);simp only [y50,y49,y48,y47,y57,y58];omega)|(simp only [z52] at *;first|omega|(unfold inI;omega)|(unfold z39;omega))|exact z15 (fun _=>rfl)|exact ⟨rfl,z23 rfl z29⟩|exact ⟨rfl,z15 (fun _=>rfl) _⟩|exact ⟨⟨rfl,by omega⟩,z15 (fun _=>rfl) _⟩);conv=>whnf)|(with_reducible apply z4;omega;intro _;conv=>whnf)|(with_reducible apply z33;omega;intro _;conv=>whnf)|(apply z4;omega;intro _;conv=>whnf)|(apply z56;omega;conv=>whnf)|(apply z66;conv=>whnf)|(apply z69;omega;intro _;conv=>whnf)|(apply z74<;>intro _<;>conv=>whnf)|(apply z61<;>intro _<;>conv=>whnf)|(apply z73<;>intro _<;>conv=>whnf)|(apply z90<;>intro _<;>conv=>whnf)|(apply z2<;>intro _<;>conv=>whnf)|(apply z8<;>intro _<;>conv=>whnf)|(apply z37<;>intro _<;>conv=>whnf)|(apply z47<;>intro _<;>conv=>whnf))
 refine z93 (fun i:Nat=>([(0,.sref 0 0 l.length),(1,.int (k+((l.take i).map State.sz).sum)),(5,.int i)],[.cells 2 (mixL (fun _=>[.any,.any]) (l.map State.co) i)])) (fun i=>i≤l.length) (fun i=>l.length - i) 0 (by omega) ⟨[0],rfl,by decide,rfl,⟨⟨rfl,rfl⟩,⟨rfl,z182 (by simp)⟩,⟨rfl,rfl⟩,trivial⟩,⟨z17 (z31 (z296 _ _).symm) (z137 (fun _=>rfl) (fun _=>rfl)),trivial⟩⟩ ?_
 intro i hi
 by_cases hil:i < l.length
 ·have e:=z210 State.sz l i hil
  have e2:=z107 State.sz l (i+1)
  have hs:=hm l[i] (y45 _)
  have hz:State.sz l[i]=l[i].a.length+l[i].b.length:=rfl
  have hm2:i < (mixL (fun _=>[AC.any,.any]) (l.map State.co) i).length:=by rw [z486 (by simpa using hi)];simpa using hil
  repeat' (first|((fail_if_success apply z53 4);(fail_if_success apply z38 4);apply y83 ok;rfl;conv=>whnf)|(apply z7;kernel_rfl;conv=>whnf)|(apply y44;(first|omega|(unfold inI;omega)|(dsimp only;omega)|(unfold z39;omega)|((try dsimp only);simp only [y50,y49,y48,y47,y57,y58];omega)|(simp only [z52] at *;first|omega|(unfold inI;omega)|(unfold z39;omega))|exact z15 (fun _=>rfl)|exact ⟨rfl,z23 rfl z29⟩|exact ⟨rfl,z15 (fun _=>rfl) _⟩|exact ⟨⟨rfl,by omega⟩,z15 (fun _=>rfl) _⟩);conv=>whnf)|(with_reducible apply z4;omega;intro _;conv=>whnf)|(with_reducible apply z33;omega;intro _;conv=>whnf)|(apply z4;omega;intro _;conv=>whnf)|(apply z56;omega;conv=>whnf)|(apply z66;conv=>whnf)|(apply z69;omega;intro _;conv=>whnf)|(apply z74<;>intro _<;>conv=>whnf)|(apply z61<;>intro _<;>conv=>whnf)|(apply z73<;>intro _<;>conv=>whnf)|(apply z90<;>intro _<;>conv=>whnf)|(apply z2<;>intro _<;>conv=>whnf)|(apply z8<;>intro _<;>conv=>whnf)|(apply z37<;>intro _<;>conv=>whnf)|(apply z47<;>intro _<;>conv=>whnf))
  ·refine y84 (Gl.Reach.exposeD (e:=State.co l[i]) 0 i 0 rfl (z390 hil) rfl rfl) ?_
   conv=>whnf
   refine y84 (Gl.Reach.exposeD (e:=[.sref 1 0 (l[i].a.map enI).length,.own 1 (l[i].b.map enI)]) 0 i 1 rfl (z202 rfl hm2) rfl rfl) ?_
   conv=>whnf
   rw [y50,y50]
   repeat' (first|((fail_if_success apply z53 3);(fail_if_success apply z38 3);apply y83 ok;rfl;conv=>whnf)|(apply z7;kernel_rfl;conv=>whnf)|(apply z266;(exact y75 i);(rw [y79];exact hm2);conv=>whnf)|(apply y44;(first|omega|(unfold inI;omega)|(dsimp only;omega)|(unfold z39;omega)|((try dsimp only);simp only [y50,y49,y48,y47,y57,y58];omega)|(simp only [z52] at *;first|omega|(unfold inI;omega)|(unfold z39;omega))|exact z15 (fun _=>rfl)|exact ⟨rfl,z23 rfl z29⟩|exact ⟨rfl,z15 (fun _=>rfl) _⟩|exact ⟨⟨rfl,by omega⟩,z15 (fun _=>rfl) _⟩);conv=>whnf)|(with_reducible apply z4;omega;intro _;conv=>whnf)|(with_reducible apply z33;omega;intro _;conv=>whnf)|(apply z4;omega;intro _;conv=>whnf)|(apply z56;omega;conv=>whnf)|(apply z66;conv=>whnf)|(apply z69;omega;intro _;conv=>whnf)|(apply z74<;>intro _<;>conv=>whnf)|(apply z61<;>intro _<;>conv=>whnf)|(apply z73<;>intro _<;>conv=>whnf)|(apply z90<;>intro _<;>conv=>whnf)|(apply z2<;>intro _<;>conv=>whnf)|(apply z8<;>intro _<;>conv=>whnf)|(apply z37<;>intro _<;>conv=>whnf)|(apply z47<;>intro _<;>conv=>whnf)|(apply z32 [1] [] [] (z167 l[i].a (k+((l.take i).map State.sz).sum) hs.1 (by omega) (by omega));rfl;(focus ((repeat' (first|exact z11|apply z28))<;>(first|rfl|(refine z44 rfl ?_;(first|exact z19|exact z3 rfl|exact z1 (fun _=>rfl)|exact z1 y15|(apply z20<;>(first|exact z3 rfl|exact z1 (fun _=>rfl)))|assumption)))));rfl;rfl;rfl;rfl;rfl;(focus ((repeat' (first|exact z10|apply z14))<;>(first|exact z77|exact z83 rfl rfl|(refine z26 ?_;(first|exact z19|exact z3 rfl|exact z1 (fun _=>rfl)|exact z1 y15|(apply z20<;>(first|exact z3 rfl|exact z1 (fun _=>rfl)))|assumption)))));(first|exact .inl rfl|(refine .inr ⟨rfl,?_⟩;repeat' (first|exact True.intro|apply y44|exact rfl|exact z59 (fun _=>rfl) _)));conv=>whnf)|(apply z32 [2] [] [] (z167 l[i].b (k+((l.take i).map State.sz).sum+l[i].a.length) hs.2 (by omega) (by omega));rfl;(focus ((repeat' (first|exact z11|apply z28))<;>(first|rfl|(refine z44 rfl ?_;(first|exact z19|exact z3 rfl|exact z1 (fun _=>rfl)|exact z1 y15|(apply z20<;>(first|exact z3 rfl|exact z1 (fun _=>rfl)))|assumption)))));rfl;rfl;rfl;rfl;rfl;(focus ((repeat' (first|exact z10|apply z14))<;>(first|exact z77|exact z83 rfl rfl|(refine z26 ?_;(first|exact z19|exact z3 rfl|exact z1 (fun _=>rfl)|exact z1 y15|(apply z20<;>(first|exact z3 rfl|exact z1 (fun _=>rfl)))|assumption)))));(first|exact .inl rfl|(refine .inr ⟨rfl,?_⟩;repeat' (first|exact True.intro|apply y44|exact rfl|exact z59 (fun _=>rfl) _)));conv=>whnf))
   refine y84 (Gl.Reach.forget 0 i [.any,.any] rfl (z202 rfl (by rw [y79];exact hm2)) rfl rfl) ?_
   conv=>whnf
   repeat' (first|(apply y83 ok;rfl;conv=>whnf)|(apply z7;kernel_rfl;conv=>whnf)|(apply y44;(first|omega|(unfold inI;omega)|(dsimp only;omega)|(unfold z39;omega)|((try dsimp only);simp only [y50,y49,y48,y47,y57,y58];omega)|(simp only [z52] at *;first|omega|(unfold inI;omega)|(unfold z39;omega))|exact z15 (fun _=>rfl)|exact ⟨rfl,z23 rfl z29⟩|exact ⟨rfl,z15 (fun _=>rfl) _⟩|exact ⟨⟨rfl,by omega⟩,z15 (fun _=>rfl) _⟩);conv=>whnf)|(with_reducible apply z4;omega;intro _;conv=>whnf)|(with_reducible apply z33;omega;intro _;conv=>whnf)|(apply z4;omega;intro _;conv=>whnf)|(apply z56;omega;conv=>whnf)|(apply z66;conv=>whnf)|(apply z69;omega;intro _;conv=>whnf)|(apply z74<;>intro _<;>conv=>whnf)|(apply z61<;>intro _<;>conv=>whnf)|(apply z73<;>intro _<;>conv=>whnf)|(apply z90<;>intro _<;>conv=>whnf)|(apply z2<;>intro _<;>conv=>whnf)|(apply z8<;>intro _<;>conv=>whnf)|(apply z37<;>intro _<;>conv=>whnf)|(apply z47<;>intro _<;>conv=>whnf))
   exact z81 (i+1) [0] (by omega) (by omega) ⟨rfl,by decide,rfl,⟨⟨rfl,rfl⟩,⟨rfl,z182 (by omega)⟩,⟨rfl,rfl⟩,trivial⟩,⟨z17 (z31 (by rw [List.set_set,List.set_set,z389 (by simpa using hil) rfl rfl])) (z137 (fun _=>rfl) (fun _=>rfl)),trivial⟩⟩
  ·omega
 ·repeat' (first|(apply y83 ok;rfl;conv=>whnf)|(apply z7;kernel_rfl;conv=>whnf)|(apply y44;(first|omega|(unfold inI;omega)|(dsimp only;omega)|(unfold z39;omega)|((try dsimp only);simp only [y50,y49,y48,y47,y57,y58];omega)|(simp only [z52] at *;first|omega|(unfold inI;omega)|(unfold z39;omega))|exact z15 (fun _=>rfl)|exact ⟨rfl,z23 rfl z29⟩|exact ⟨rfl,z15 (fun _=>rfl) _⟩|exact ⟨⟨rfl,by omega⟩,z15 (fun _=>rfl) _⟩);conv=>whnf)|(with_reducible apply z4;omega;intro _;conv=>whnf)|(with_reducible apply z33;omega;intro _;conv=>whnf)|(apply z4;omega;intro _;conv=>whnf)|(apply z56;omega;conv=>whnf)|(apply z66;conv=>whnf)|(apply z69;omega;intro _;conv=>whnf)|(apply z74<;>intro _<;>conv=>whnf)|(apply z61<;>intro _<;>conv=>whnf)|(apply z73<;>intro _<;>conv=>whnf)|(apply z90<;>intro _<;>conv=>whnf)|(apply z2<;>intro _<;>conv=>whnf)|(apply z8<;>intro _<;>conv=>whnf)|(apply z37<;>intro _<;>conv=>whnf)|(apply z47<;>intro _<;>conv=>whnf))
  ·omega
  ·obtain rfl:i=l.length:=by omega
   rw [y55]
   exact z82 [0] (by decide) rfl rfl rfl ⟨z17 (z31 (by rw [z391 (by simp),z260])) (z3 rfl),trivial⟩
theorem z738 (l:List (List Int)) (k:Int) (hl:l.length≤1048576) (hm:∀ s∈l,s.length≤1048576) (h0:0≤k) (h1:k+(l.map List.length).sum≤1000000000000):CallsA Tryz.prog 124 [.sref 0 0 l.length,.int k] [.cells 1 (l.map z96)] (.int (k+(l.map List.length).sum)) [.cells 1 (List.replicate l.length [.any])]:=by
 refine z6 z12 Tryz.func124 rfl rfl 19 Tryz.ntmps124 (by simp) ?_
 repeat' (first|(apply y83 ok;rfl;conv=>whnf)|(apply z7;kernel_rfl;conv=>whnf)|(apply y44;(first|omega|(unfold inI;omega)|(dsimp only;omega)|(unfold z39;omega)|((try dsimp only);simp only [y50,y49,y48,y47,y57,y58];omega)|(simp only [z52] at *;first|omega|(unfold inI;omega)|(unfold z39;omega))|exact z15 (fun _=>rfl)|exact ⟨rfl,z23 rfl z29⟩|exact ⟨rfl,z15 (fun _=>rfl) _⟩|exact ⟨⟨rfl,by omega⟩,z15 (fun _=>rfl) _⟩);conv=>whnf)|(with_reducible apply z4;omega;intro _;conv=>whnf)|(with_reducible apply z33;omega;intro _;conv=>whnf)|(apply z4;omega;intro _;conv=>whnf)|(apply z56;omega;conv=>whnf)|(apply z66;conv=>whnf)|(apply z69;omega;intro _;conv=>whnf)|(apply z74<;>intro _<;>conv=>whnf)|(apply z61<;>intro _<;>conv=>whnf)|(apply z73<;>intro _<;>conv=>whnf)|(apply z90<;>intro _<;>conv=>whnf)|(apply z2<;>intro _<;>conv=>whnf)|(apply z8<;>intro _<;>conv=>whnf)|(apply z37<;>intro _<;>conv=>whnf)|(apply z47<;>intro _<;>conv=>whnf))
 refine z93 (fun i:Nat=>([(0,.sref 0 0 l.length),(1,.int (k+((l.take i).map List.length).sum)),(5,.int i)],[.cells 1 (mixL (fun _=>[.any]) (l.map z96) i)])) (fun i=>i≤l.length) (fun i=>l.length - i) 0 (by omega) ⟨[0],rfl,by decide,rfl,⟨⟨rfl,rfl⟩,⟨rfl,z182 (by simp)⟩,⟨rfl,rfl⟩,trivial⟩,⟨z17 (z31 (z296 _ _).symm) (z137 (fun _=>rfl) (fun _=>rfl)),trivial⟩⟩ ?_
 intro i hi
 by_cases hil:i < l.length
 ·have e:=z210 List.length l i hil
  have e2:=z107 List.length l (i+1)
  have hs:=hm l[i] (y45 _)
  have hm2:i < (mixL (fun _=>[AC.any]) (l.map z96) i).length:=by rw [z486 (by simpa using hi)];simpa using hil
  repeat' (first|((fail_if_success apply z53 4);(fail_if_success apply z38 4);apply y83 ok;rfl;conv=>whnf)|(apply z7;kernel_rfl;conv=>whnf)|(apply y44;(first|omega|(unfold inI;omega)|(dsimp only;omega)|(unfold z39;omega)|((try dsimp only);simp only [y50,y49,y48,y47,y57,y58];omega)|(simp only [z52] at *;first|omega|(unfold inI;omega)|(unfold z39;omega))|exact z15 (fun _=>rfl)|exact ⟨rfl,z23 rfl z29⟩|exact ⟨rfl,z15 (fun _=>rfl) _⟩|exact ⟨⟨rfl,by omega⟩,z15 (fun _=>rfl) _⟩);conv=>whnf)|(with_reducible apply z4;omega;intro _;conv=>whnf)|(with_reducible apply z33;omega;intro _;conv=>whnf)|(apply z4;omega;intro _;conv=>whnf)|(apply z56;omega;conv=>whnf)|(apply z66;conv=>whnf)|(apply z69;omega;intro _;conv=>whnf)|(apply z74<;>intro _<;>conv=>whnf)|(apply z61<;>intro _<;>conv=>whnf)|(apply z73<;>intro _<;>conv=>whnf)|(apply z90<;>intro _<;>conv=>whnf)|(apply z2<;>intro _<;>conv=>whnf)|(apply z8<;>intro _<;>conv=>whnf)|(apply z37<;>intro _<;>conv=>whnf)|(apply z47<;>intro _<;>conv=>whnf))
  ·refine y84 (Gl.Reach.exposeD (e:=z96 l[i]) 0 i 0 rfl (z390 hil) rfl rfl) ?_
   conv=>whnf
   rw [y50]
   repeat' (first|((fail_if_success apply z53 3);(fail_if_success apply z38 3);apply y83 ok;rfl;conv=>whnf)|(apply z7;kernel_rfl;conv=>whnf)|(apply z266;(exact y75 i);exact hm2;conv=>whnf)|(apply y44;(first|omega|(unfold inI;omega)|(dsimp only;omega)|(unfold z39;omega)|((try dsimp only);simp only [y50,y49,y48,y47,y57,y58];omega)|(simp only [z52] at *;first|omega|(unfold inI;omega)|(unfold z39;omega))|exact z15 (fun _=>rfl)|exact ⟨rfl,z23 rfl z29⟩|exact ⟨rfl,z15 (fun _=>rfl) _⟩|exact ⟨⟨rfl,by omega⟩,z15 (fun _=>rfl) _⟩);conv=>whnf)|(with_reducible apply z4;omega;intro _;conv=>whnf)|(with_reducible apply z33;omega;intro _;conv=>whnf)|(apply z4;omega;intro _;conv=>whnf)|(apply z56;omega;conv=>whnf)|(apply z66;conv=>whnf)|(apply z69;omega;intro _;conv=>whnf)|(apply z74<;>intro _<;>conv=>whnf)|(apply z61<;>intro _<;>conv=>whnf)|(apply z73<;>intro _<;>conv=>whnf)|(apply z90<;>intro _<;>conv=>whnf)|(apply z2<;>intro _<;>conv=>whnf)|(apply z8<;>intro _<;>conv=>whnf)|(apply z37<;>intro _<;>conv=>whnf)|(apply z47<;>intro _<;>conv=>whnf)|(apply z32 [1] [] [] (z167 l[i] (k+((l.take i).map List.length).sum) hs (by omega) (by omega));rfl;(focus ((repeat' (first|exact z11|apply z28))<;>(first|rfl|(refine z44 rfl ?_;(first|exact z19|exact z3 rfl|exact z1 (fun _=>rfl)|exact z1 y15|(apply z20<;>(first|exact z3 rfl|exact z1 (fun _=>rfl)))|assumption)))));rfl;rfl;rfl;rfl;rfl;(focus ((repeat' (first|exact z10|apply z14))<;>(first|exact z77|exact z83 rfl rfl|(refine z26 ?_;(first|exact z19|exact z3 rfl|exact z1 (fun _=>rfl)|exact z1 y15|(apply z20<;>(first|exact z3 rfl|exact z1 (fun _=>rfl)))|assumption)))));(first|exact .inl rfl|(refine .inr ⟨rfl,?_⟩;repeat' (first|exact True.intro|apply y44|exact rfl|exact z59 (fun _=>rfl) _)));conv=>whnf))
   refine y84 (Gl.Reach.forget 0 i [.any] rfl (z202 rfl hm2) rfl rfl) ?_
   conv=>whnf
   repeat' (first|(apply y83 ok;rfl;conv=>whnf)|(apply z7;kernel_rfl;conv=>whnf)|(apply y44;(first|omega|(unfold inI;omega)|(dsimp only;omega)|(unfold z39;omega)|((try dsimp only);simp only [y50,y49,y48,y47,y57,y58];omega)|(simp only [z52] at *;first|omega|(unfold inI;omega)|(unfold z39;omega))|exact z15 (fun _=>rfl)|exact ⟨rfl,z23 rfl z29⟩|exact ⟨rfl,z15 (fun _=>rfl) _⟩|exact ⟨⟨rfl,by omega⟩,z15 (fun _=>rfl) _⟩);conv=>whnf)|(with_reducible apply z4;omega;intro _;conv=>whnf)|(with_reducible apply z33;omega;intro _;conv=>whnf)|(apply z4;omega;intro _;conv=>whnf)|(apply z56;omega;conv=>whnf)|(apply z66;conv=>whnf)|(apply z69;omega;intro _;conv=>whnf)|(apply z74<;>intro _<;>conv=>whnf)|(apply z61<;>intro _<;>conv=>whnf)|(apply z73<;>intro _<;>conv=>whnf)|(apply z90<;>intro _<;>conv=>whnf)|(apply z2<;>intro _<;>conv=>whnf)|(apply z8<;>intro _<;>conv=>whnf)|(apply z37<;>intro _<;>conv=>whnf)|(apply z47<;>intro _<;>conv=>whnf))
   exact z81 (i+1) [0] (by omega) (by omega) ⟨rfl,by decide,rfl,⟨⟨rfl,rfl⟩,⟨rfl,z182 (by omega)⟩,⟨rfl,rfl⟩,trivial⟩,⟨z17 (z31 (by rw [List.set_set,z389 (by simpa using hil) rfl rfl])) (z137 (fun _=>rfl) (fun _=>rfl)),trivial⟩⟩
  ·omega
 ·repeat' (first|(apply y83 ok;rfl;conv=>whnf)|(apply z7;kernel_rfl;conv=>whnf)|(apply y44;(first|omega|(unfold inI;omega)|(dsimp only;omega)|(unfold z39;omega)|((try dsimp only);simp only [y50,y49,y48,y47,y57,y58];omega)|(simp only [z52] at *;first|omega|(unfold inI;omega)|(unfold z39;omega))|exact z15 (fun _=>rfl)|exact ⟨rfl,z23 rfl z29⟩|exact ⟨rfl,z15 (fun _=>rfl) _⟩|exact ⟨⟨rfl,by omega⟩,z15 (fun _=>rfl) _⟩);conv=>whnf)|(with_reducible apply z4;omega;intro _;conv=>whnf)|(with_reducible apply z33;omega;intro _;conv=>whnf)|(apply z4;omega;intro _;conv=>whnf)|(apply z56;omega;conv=>whnf)|(apply z66;conv=>whnf)|(apply z69;omega;intro _;conv=>whnf)|(apply z74<;>intro _<;>conv=>whnf)|(apply z61<;>intro _<;>conv=>whnf)|(apply z73<;>intro _<;>conv=>whnf)|(apply z90<;>intro _<;>conv=>whnf)|(apply z2<;>intro _<;>conv=>whnf)|(apply z8<;>intro _<;>conv=>whnf)|(apply z37<;>intro _<;>conv=>whnf)|(apply z47<;>intro _<;>conv=>whnf))
  ·omega
  ·obtain rfl:i=l.length:=by omega
   rw [y55]
   exact z82 [0] (by decide) rfl rfl rfl ⟨z17 (z31 (by rw [z391 (by simp),z260])) (z3 rfl),trivial⟩
theorem z739 (g : Graph) (k : Int) (c0 : ∀ k : Int, 0 ≤ k → k + (g.st.map State.sz).sum ≤ 1000000000000 → CallsA Tryz.prog 123 [.sref 0 0 g.st.length, .int k] [.cells 2 (g.st.map State.co)] (.int (k + (g.st.map State.sz).sum)) [.cells 2 (List.replicate g.st.length [.any, .any])])
    (c1:∀ k:Int,0≤k→k+(g.nx.map List.length).sum≤1000000000000→CallsA Tryz.prog 124 [.sref 0 0 g.nx.length,.int k] [.cells 1 (g.nx.map z96)] (.int (k+(g.nx.map List.length).sum)) [.cells 1 (List.replicate g.nx.length [.any])]) (h0:0≤k) (h1:k+(g.st.map State.sz).sum+(g.nx.map List.length).sum≤1000000000000) :
    CallsA Tryz.prog 49 [.agg [.sref 0 0 g.st.length,.sref 1 0 g.nx.length],.int k] [.cells 2 (g.st.map State.co),.cells 1 (g.nx.map z96)] (.int (k+(g.st.map State.sz).sum+(g.nx.map List.length).sum)) [.cells 2 (List.replicate g.st.length [.any,.any]),.cells 1 (List.replicate g.nx.length [.any])]:=by
  refine z6 z12 Tryz.func49 rfl rfl 14 Tryz.ntmps49 (by simp) ?_
  repeat' (first|(apply y83 ok;rfl;conv=>whnf)|(apply z7;kernel_rfl;conv=>whnf)|(apply y44;(first|omega|(unfold inI;omega)|(dsimp only;omega)|(unfold z39;omega)|((try dsimp only);simp only [y50,y49,y48,y47,y57,y58];omega)|(simp only [z52] at *;first|omega|(unfold inI;omega)|(unfold z39;omega))|exact z15 (fun _=>rfl)|exact ⟨rfl,z23 rfl z29⟩|exact ⟨rfl,z15 (fun _=>rfl) _⟩|exact ⟨⟨rfl,by omega⟩,z15 (fun _=>rfl) _⟩);conv=>whnf)|(with_reducible apply z4;omega;intro _;conv=>whnf)|(with_reducible apply z33;omega;intro _;conv=>whnf)|(apply z4;omega;intro _;conv=>whnf)|(apply z56;omega;conv=>whnf)|(apply z66;conv=>whnf)|(apply z69;omega;intro _;conv=>whnf)|(apply z74<;>intro _<;>conv=>whnf)|(apply z61<;>intro _<;>conv=>whnf)|(apply z73<;>intro _<;>conv=>whnf)|(apply z90<;>intro _<;>conv=>whnf)|(apply z2<;>intro _<;>conv=>whnf)|(apply z8<;>intro _<;>conv=>whnf)|(apply z37<;>intro _<;>conv=>whnf)|(apply z47<;>intro _<;>conv=>whnf)|(apply z32 [0] [] [] (c0 k h0 (by omega));rfl;(focus ((repeat' (first|exact z11|apply z28))<;>(first|rfl|(refine z44 rfl ?_;(first|exact z19|exact z3 rfl|exact z1 (fun _=>rfl)|exact z1 y15|(apply z20<;>(first|exact z3 rfl|exact z1 (fun _=>rfl)))|assumption)))));rfl;rfl;rfl;rfl;rfl;(focus ((repeat' (first|exact z10|apply z14))<;>(first|exact z77|exact z83 rfl rfl|(refine z26 ?_;(first|exact z19|exact z3 rfl|exact z1 (fun _=>rfl)|exact z1 y15|(apply z20<;>(first|exact z3 rfl|exact z1 (fun _=>rfl)))|assumption)))));(first|exact .inl rfl|(refine .inr ⟨rfl,?_⟩;repeat' (first|exact True.intro|apply y44|exact rfl|exact z59 (fun _=>rfl) _)));conv=>whnf)|(apply z32 [1] [] [] (c1 (k+(g.st.map State.sz).sum) (by omega) h1);rfl;(focus ((repeat' (first|exact z11|apply z28))<;>(first|rfl|(refine z44 rfl ?_;(first|exact z19|exact z3 rfl|exact z1 (fun _=>rfl)|exact z1 y15|(apply z20<;>(first|exact z3 rfl|exact z1 (fun _=>rfl)))|assumption)))));rfl;rfl;rfl;rfl;rfl;(focus ((repeat' (first|exact z10|apply z14))<;>(first|exact z77|exact z83 rfl rfl|(refine z26 ?_;(first|exact z19|exact z3 rfl|exact z1 (fun _=>rfl)|exact z1 y15|(apply z20<;>(first|exact z3 rfl|exact z1 (fun _=>rfl)))|assumption)))));(first|exact .inl rfl|(refine .inr ⟨rfl,?_⟩;repeat' (first|exact True.intro|apply y44|exact rfl|exact z59 (fun _=>rfl) _)));conv=>whnf))
  exact z82 [0,1] (by decide) rfl rfl rfl ⟨z17 rfl (z3 rfl),z17 rfl (z3 rfl),trivial⟩
theorem z458 (l : List Tree) (k : Int) (hl : l.length ≤ 1048576) (hel : ∀ t ∈ l, ∀ k : Int, 0 ≤ k → k + 2 * (t.sz : Int) ≤ 1000000000000 → CallsA Tryz.prog 50 [.sref 0 0 t.kids.length, .int k] [.cells 3 (t.kids.map Tree.co)] (.int (k + 2 * (t.sz : Int))) [.cells 3 (List.replicate t.kids.length [.any, .any, .any])]) (h0 : 0 ≤ k) (h1 : k + 2 * (l.length + (l.map Tree.sz).sum : Nat) ≤ 1000000000000) :
    CallsA Tryz.prog 50 [.sref 0 0 l.length,.int k] [.cells 3 (l.map Tree.co')] (.int (k+2 * (l.length+(l.map Tree.sz).sum:Nat))) [.cells 3 (List.replicate l.length [.any,.any,.any])]:=by
  refine z6 z12 Tryz.func50 rfl rfl 34 Tryz.ntmps50 (by simp) ?_
  repeat' (first|(apply y83 ok;rfl;conv=>whnf)|(apply z7;kernel_rfl;conv=>whnf)|(apply y44;(first|omega|(unfold inI;omega)|(dsimp only;omega)|(unfold z39;omega)|((try dsimp only);simp only [y50,y49,y48,y47,y57,y58];omega)|(simp only [z52] at *;first|omega|(unfold inI;omega)|(unfold z39;omega))|exact z15 (fun _=>rfl)|exact ⟨rfl,z23 rfl z29⟩|exact ⟨rfl,z15 (fun _=>rfl) _⟩|exact ⟨⟨rfl,by omega⟩,z15 (fun _=>rfl) _⟩);conv=>whnf)|(with_reducible apply z4;omega;intro _;conv=>whnf)|(with_reducible apply z33;omega;intro _;conv=>whnf)|(apply z4;omega;intro _;conv=>whnf)|(apply z56;omega;conv=>whnf)|(apply z66;conv=>whnf)|(apply z69;omega;intro _;conv=>whnf)|(apply z74<;>intro _<;>conv=>whnf)|(apply z61<;>intro _<;>conv=>whnf)|(apply z73<;>intro _<;>conv=>whnf)|(apply z90<;>intro _<;>conv=>whnf)|(apply z2<;>intro _<;>conv=>whnf)|(apply z8<;>intro _<;>conv=>whnf)|(apply z37<;>intro _<;>conv=>whnf)|(apply z47<;>intro _<;>conv=>whnf))
  refine z93 (fun i:Nat=>([(0,.sref 0 0 l.length),(1,.int (k+2 * (i+((l.take i).map Tree.sz).sum:Nat))),(5,.int i)],[.cells 3 (mixL (fun _=>[.any,.any,.any]) (l.map Tree.co') i)])) (fun i=>i≤l.length) (fun i=>l.length - i) 0 (by omega) ⟨[0],rfl,by decide,rfl,⟨⟨rfl,rfl⟩,⟨rfl,z182 (by simp)⟩,⟨rfl,rfl⟩,trivial⟩,⟨z17 (z31 (z296 _ _).symm) (z137 (fun _=>rfl) (fun _=>rfl)),trivial⟩⟩ ?_
  intro i hi
  by_cases hil:i < l.length
  · have e:=z210 Tree.sz l i hil
    have e2:=z107 Tree.sz l (i+1)
    have hc:=hel l[i] (y45 _)
    have hm2:i < (mixL (fun _=>[AC.any,.any,.any]) (l.map Tree.co') i).length:=by rw [z486 (by simpa using hi)];simpa using hil
    have hin:((i:Int)).toNat=i:=y75 i
    generalize hF:mixL (fun _=>[AC.any,.any,.any]) (l.map Tree.co') i=F at hm2
    have hg:F[i]?=some (Tree.co' l[i]):=by rw [← hF];exact z390 hil
    repeat' (first|((fail_if_success apply z53 8);(fail_if_success apply z38 8);apply y83 ok;rfl;conv=>whnf)|(apply z7;kernel_rfl;conv=>whnf)|(apply z266;exact hin;exact hm2;conv=>whnf)|(apply z16;exact hin;exact hg;conv=>whnf)|(apply y44;(first|omega|(unfold inI;omega)|(dsimp only;omega)|(unfold z39;omega)|((try dsimp only);simp only [y50,y49,y48,y47,y57,y58];omega)|(simp only [z52] at *;first|omega|(unfold inI;omega)|(unfold z39;omega))|exact z15 (fun _=>rfl)|exact ⟨rfl,z23 rfl z29⟩|exact ⟨rfl,z15 (fun _=>rfl) _⟩|exact ⟨⟨rfl,by omega⟩,z15 (fun _=>rfl) _⟩);conv=>whnf)|(with_reducible apply z4;omega;intro _;conv=>whnf)|(with_reducible apply z33;omega;intro _;conv=>whnf)|(apply z4;omega;intro _;conv=>whnf)|(apply z56;omega;conv=>whnf)|(apply z66;conv=>whnf)|(apply z69;omega;intro _;conv=>whnf)|(apply z74<;>intro _<;>conv=>whnf)|(apply z61<;>intro _<;>conv=>whnf)|(apply z73<;>intro _<;>conv=>whnf)|(apply z90<;>intro _<;>conv=>whnf)|(apply z2<;>intro _<;>conv=>whnf)|(apply z8<;>intro _<;>conv=>whnf)|(apply z37<;>intro _<;>conv=>whnf)|(apply z47<;>intro _<;>conv=>whnf))
    · refine y84 (Gl.Reach.exposeD (e:=[.int (k+2 * (i+((l.take i).map Tree.sz).sum:Nat)),.int (k+2 * (i+((l.take i).map Tree.sz).sum:Nat)+1),.own 3 (l[i].kids.map Tree.co)]) 0 i 2 rfl (z202 rfl (by rw [y79];exact hm2)) rfl rfl) ?_
      conv=>whnf
      rw [y50]
      repeat' (first|((fail_if_success apply z53 3);(fail_if_success apply z38 3);apply y83 ok;rfl;conv=>whnf)|(apply z7;kernel_rfl;conv=>whnf)|(apply z266;exact hin;(rw [y79,y79];exact hm2);conv=>whnf)|(apply y44;(first|omega|(unfold inI;omega)|(dsimp only;omega)|(unfold z39;omega)|((try dsimp only);simp only [y50,y49,y48,y47,y57,y58];omega)|(simp only [z52] at *;first|omega|(unfold inI;omega)|(unfold z39;omega))|exact z15 (fun _=>rfl)|exact ⟨rfl,z23 rfl z29⟩|exact ⟨rfl,z15 (fun _=>rfl) _⟩|exact ⟨⟨rfl,by omega⟩,z15 (fun _=>rfl) _⟩);conv=>whnf)|(with_reducible apply z4;omega;intro _;conv=>whnf)|(with_reducible apply z33;omega;intro _;conv=>whnf)|(apply z4;omega;intro _;conv=>whnf)|(apply z56;omega;conv=>whnf)|(apply z66;conv=>whnf)|(apply z69;omega;intro _;conv=>whnf)|(apply z74<;>intro _<;>conv=>whnf)|(apply z61<;>intro _<;>conv=>whnf)|(apply z73<;>intro _<;>conv=>whnf)|(apply z90<;>intro _<;>conv=>whnf)|(apply z2<;>intro _<;>conv=>whnf)|(apply z8<;>intro _<;>conv=>whnf)|(apply z37<;>intro _<;>conv=>whnf)|(apply z47<;>intro _<;>conv=>whnf)|(apply z32 [1] [] [] (hc (k+2 * (i+((l.take i).map Tree.sz).sum:Nat)+1+1) (by omega) (by omega));rfl;(focus ((repeat' (first|exact z11|apply z28))<;>(first|rfl|(refine z44 rfl ?_;(first|exact z19|exact z3 rfl|exact z1 (fun _=>rfl)|exact z1 y15|(apply z20<;>(first|exact z3 rfl|exact z1 (fun _=>rfl)))|assumption)))));rfl;rfl;rfl;rfl;rfl;(focus ((repeat' (first|exact z10|apply z14))<;>(first|exact z77|exact z83 rfl rfl|(refine z26 ?_;(first|exact z19|exact z3 rfl|exact z1 (fun _=>rfl)|exact z1 y15|(apply z20<;>(first|exact z3 rfl|exact z1 (fun _=>rfl)))|assumption)))));(first|exact .inl rfl|(refine .inr ⟨rfl,?_⟩;repeat' (first|exact True.intro|apply y44|exact rfl|exact z59 (fun _=>rfl) _)));conv=>whnf))
      refine y84 (Gl.Reach.forget 0 i [.any,.any,.any] rfl (z202 rfl (by rw [y79,y79];exact hm2)) rfl rfl) ?_
      conv=>whnf
      repeat' (first|(apply y83 ok;rfl;conv=>whnf)|(apply z7;kernel_rfl;conv=>whnf)|(apply y44;(first|omega|(unfold inI;omega)|(dsimp only;omega)|(unfold z39;omega)|((try dsimp only);simp only [y50,y49,y48,y47,y57,y58];omega)|(simp only [z52] at *;first|omega|(unfold inI;omega)|(unfold z39;omega))|exact z15 (fun _=>rfl)|exact ⟨rfl,z23 rfl z29⟩|exact ⟨rfl,z15 (fun _=>rfl) _⟩|exact ⟨⟨rfl,by omega⟩,z15 (fun _=>rfl) _⟩);conv=>whnf)|(with_reducible apply z4;omega;intro _;conv=>whnf)|(with_reducible apply z33;omega;intro _;conv=>whnf)|(apply z4;omega;intro _;conv=>whnf)|(apply z56;omega;conv=>whnf)|(apply z66;conv=>whnf)|(apply z69;omega;intro _;conv=>whnf)|(apply z74<;>intro _<;>conv=>whnf)|(apply z61<;>intro _<;>conv=>whnf)|(apply z73<;>intro _<;>conv=>whnf)|(apply z90<;>intro _<;>conv=>whnf)|(apply z2<;>intro _<;>conv=>whnf)|(apply z8<;>intro _<;>conv=>whnf)|(apply z37<;>intro _<;>conv=>whnf)|(apply z47<;>intro _<;>conv=>whnf))
      exact z81 (i+1) [0] (by omega) (by omega) ⟨rfl,by decide,rfl,⟨⟨rfl,rfl⟩,⟨rfl,z182 (by omega)⟩,⟨rfl,rfl⟩,trivial⟩,⟨z17 (z31 (by rw [List.set_set,List.set_set,Nat.add_zero,hin,List.set_set,← hF,z389 (by simpa using hil) rfl rfl])) (z137 (fun _=>rfl) (fun _=>rfl)),trivial⟩⟩
    · omega
  · repeat' (first|(apply y83 ok;rfl;conv=>whnf)|(apply z7;kernel_rfl;conv=>whnf)|(apply y44;(first|omega|(unfold inI;omega)|(dsimp only;omega)|(unfold z39;omega)|((try dsimp only);simp only [y50,y49,y48,y47,y57,y58];omega)|(simp only [z52] at *;first|omega|(unfold inI;omega)|(unfold z39;omega))|exact z15 (fun _=>rfl)|exact ⟨rfl,z23 rfl z29⟩|exact ⟨rfl,z15 (fun _=>rfl) _⟩|exact ⟨⟨rfl,by omega⟩,z15 (fun _=>rfl) _⟩);conv=>whnf)|(with_reducible apply z4;omega;intro _;conv=>whnf)|(with_reducible apply z33;omega;intro _;conv=>whnf)|(apply z4;omega;intro _;conv=>whnf)|(apply z56;omega;conv=>whnf)|(apply z66;conv=>whnf)|(apply z69;omega;intro _;conv=>whnf)|(apply z74<;>intro _<;>conv=>whnf)|(apply z61<;>intro _<;>conv=>whnf)|(apply z73<;>intro _<;>conv=>whnf)|(apply z90<;>intro _<;>conv=>whnf)|(apply z2<;>intro _<;>conv=>whnf)|(apply z8<;>intro _<;>conv=>whnf)|(apply z37<;>intro _<;>conv=>whnf)|(apply z47<;>intro _<;>conv=>whnf))
    · omega
    · obtain rfl:i=l.length:=by omega
      rw [y55]
      exact z82 [0] (by decide) rfl rfl rfl ⟨z17 (z31 (by rw [z391 (by simp),z260])) (z3 rfl),trivial⟩
theorem z838 (t:Tree):t.sz≤1048576→∀ k:Int,0≤k→k+2 * (t.sz:Int)≤1000000000000→CallsA Tryz.prog 50 [.sref 0 0 t.kids.length,.int k] [.cells 3 (t.kids.map Tree.co)] (.int (k+2 * (t.sz:Int))) [.cells 3 (List.replicate t.kids.length [.any,.any,.any])]:=by
 induction t using y27 with|h t ih=>?_
 intro hm k h0 h1
 have hz:=y38 t
 have hk:=z458 t.kids k (by omega) (fun s hs=>ih s hs (by
  have:=z200 Tree.sz hs
  omega)) h0 (by rw [← hz];exact h1)
 rw [← y14,← hz] at hk
 exact hk
theorem z740 (l : List Tree) (k : Int) (hl : l.length ≤ 1048576) (hel : ∀ t ∈ l, t.sz ≤ 1048576) (h0 : 0 ≤ k) (h1 : k + 2 * (l.length + (l.map Tree.sz).sum : Nat) ≤ 1000000000000) :
    CallsA Tryz.prog 50 [.sref 0 0 l.length,.int k] [.cells 3 (l.map Tree.co')] (.int (k+2 * (l.length+(l.map Tree.sz).sum:Nat))) [.cells 3 (List.replicate l.length [.any,.any,.any])] :=
  z458 l k hl (fun t ht=>z838 t (hel t ht)) h0 h1
theorem keepI {f:FuncId} {args:List AC} {n:Nat} {l:List Int} (h:CallsA Tryz.prog f args [] (.sref 0 0 n) [.cells 1 (l.map enI)]) (hl:l.length=n):CallsA Tryz.prog f args [] (ints l) []:=by
 subst hl
 exact h.keep (z149 _ _) (by simp)
theorem z143 {objs:Nat→AObj} {π Bn:List Nat} {o:Nat} {l:List Int} (ho:objs o=.cells 1 (l.map enI)) (h1:idx π o=none) (h2:inB Bn o=true):bor objs π Bn (.sref o 0 l.length)=ints l :=
 z158 ho h1 h2 (by simp) (z149 _ _)
end Go.Proofs.YtahhobgjcfionaaGreat
namespace Go.Proofs.YtahhobgjcfionaaGreat
open Go.Gl
section
attribute [local irreducible] z21
theorem z1116 (a b:List Int) (ha:a.length≤maxLen) (hb:b.length≤maxLen):CallsA Tryz.prog 238 [lst 1 enI a,lst 1 enI b] [] (.bool (decide (a=b))) []:=by
 unfold maxLen at ha hb
 refine z6 z12 Tryz.func238 rfl rfl 26 Tryz.ntmps238 (by simp) ?_
 repeat (refine y83 ok _ _ _ _ _ rfl ?_)
 refine z8 (fun h=>?_) (fun h=>?_)
 ·repeat (refine y83 ok _ _ _ _ _ rfl ?_)
  have hne:a≠b:=by rintro rfl;exact h rfl
  rw [y81 hne]
  exact ⟨[],by decide,rfl,rfl,y3 rfl,trivial⟩
 ·have hl:a.length=b.length:=by omega
  repeat (refine y83 ok _ _ _ _ _ rfl ?_)
  refine z109 (fun k:Nat=>([(0,lst 1 enI a),(1,lst 1 enI b),(5,.int k)],[])) (fun k=>k≤a.length∧a.take k=b.take k) (fun k=>a.length - k) 0 (by simp)
   ⟨[],rfl,by decide,rfl,⟨⟨rfl,rfl⟩,⟨rfl,rfl⟩,⟨rfl,rfl⟩,trivial⟩,trivial⟩ ?_
  intro k hk
  repeat (refine y83 ok _ _ _ _ _ rfl ?_)
  refine z2 (fun h=>?_) (fun h=>?_)
  ·have hka:k < a.length:=by omega
   repeat (first|refine y83 ok _ _ _ _ _ rfl ?_|refine y44 (by omega) ?_)
   refine ⟨_,z100 _ _ _ (by omega),?_⟩
   repeat ((refine y44 (by omega) ?_))
   refine ⟨_,z100 _ _ _ (by omega),?_⟩
   repeat (first|refine y83 ok _ _ _ _ _ rfl ?_|refine z7 (by kernel_rfl) ?_)
   refine z8 (fun h=>?_) (fun h=>?_)
   ·repeat (refine y83 ok _ _ _ _ _ rfl ?_)
    have hne:a≠b:=by rintro rfl;exact h rfl
    rw [y81 hne]
    exact ⟨[],by decide,rfl,rfl,y3 rfl,trivial⟩
   ·repeat (first|refine y83 ok _ _ _ _ _ rfl ?_|refine y44 (by first|omega|(unfold inI;omega)) ?_)
    refine ⟨k+1,[],⟨by omega,?_⟩,by omega,rfl,by decide,rfl,⟨⟨rfl,rfl⟩,⟨rfl,rfl⟩,⟨rfl,rfl⟩,trivial⟩,trivial⟩
    have h' : a[k]=b[k]:=h
    rw [y51 hka,y51 (by omega),hk.2,h']
  ·repeat (refine y83 ok _ _ _ _ _ rfl ?_)
   have he:a=b:=by
    have:=hk.2
    rwa [y56 (by omega),y56 (by omega)] at this
   rw [y80 he]
   exact ⟨[],by decide,rfl,rfl,y3 rfl,trivial⟩
end
attribute [local irreducible] z21 AWP z42 z46 z43
end Go.Proofs.YtahhobgjcfionaaGreat
namespace Go.Proofs.YtahhobgjcfionaaGreat
open Go.Gl
attribute [local irreducible] z21 AWP z42 z46 z43
theorem bor_rows {objs:Nat→AObj} {π Bn:List Nat} {o n:Nat} {l:List (List Int)} (ho:objs o=.cells 1 (l.map z96)) (h1:idx π o=none) (h2:inB Bn o=true) (hl:l.length=n):bor objs π Bn (.sref o 0 n)=lst 1 encL l:=by
 subst hl;exact z158 ho h1 h2 (by simp) (z428 l)
theorem z1008 {objs:Nat→AObj} {π Bn:List Nat} {o:Nat} {l:List State} (ho:objs o=.cells 2 (l.map State.co)) (h1:idx π o=none) (h2:inB Bn o=true):bor objs π Bn (.sref o 0 l.length)=lst 2 State.cs l:=by
 refine z158 ho h1 h2 (by simp) ?_
 rw [z131,List.map_map]
 refine List.map_congr_left fun s _=>?_
 show [AC.list 1 _ (z91 _),AC.list 1 _ (z91 _)]=_
 have e:∀ l:List Int,z91 (l.map enI)=l.map enI:=fun l=>z149 (fun n=>Value.int .i64 n) l
 rw [e,e]
 simp [State.cs,ints]
theorem z313 {objs:Nat→AObj} {π Bn:List Nat} {o:Nat} {l:List Tree} (ho:objs o=.cells 3 (l.map Tree.co')) (h1:idx π o=none) (h2:inB Bn o=true):bor objs π Bn (.sref o 0 l.length)=lst 3 Tree.cs' l :=
 z158 ho h1 h2 (by simp) (y39 l)
theorem z410 {objs : Nat → AObj} {π Bn : List Nat} {o1 o2 : Nat} {g : Graph} (h1 : objs o1 = .cells 2 (g.st.map State.co)) (h2 : objs o2 = .cells 1 (g.nx.map z96)) (h3 : idx π o1 = none) (h4 : inB Bn o1 = true) (h5 : idx π o2 = none) (h6 : inB Bn o2 = true) :
    bor objs π Bn (.agg [.sref o1 0 g.st.length,.sref o2 0 g.nx.length])=.agg g.cs :=
  z560 (z36 (z1008 h1 h3 h4) (z36 (bor_rows h2 h5 h6 rfl) z65))
def onB (t:Trans) (n:Int):Bool:=decide (((n.toNat &&& t.care.toNat:Nat):Int)=t.val)
def z433 (n:Nat) (i:Nat) (ℓ to:Int) (e:Trans):List (Nat×Int):=if onB e ℓ then [((i:Nat) * n+e.src.toNat,to * n+e.dst)] else []
def z582 (n:Nat) (ed:List Trans) (i:Nat) (ℓ to:Int):List (Nat×Int):=ed.flatMap (z433 n i ℓ to)
def z533 (n:Nat) (ed:List Trans) (nx:List (List Int)) (ls:List Int) (i:Nat):List (Nat×Int):=(nx.getD i []).flatMap (z582 n ed i (ls.getD i 0))
def z581 (g:Graph) (ls:List Int) (a:Aut):List (Nat×Int):=(List.range g.st.length).flatMap (z533 a.acc.length a.ed g.nx ls)
def z41 (g:Graph) (ls:List Int) (a:Aut):List (List Int):=build (a.acc.length * g.st.length) (z581 g ls a)
theorem z532 (g:Graph) (hg:GB g) (ls:List Int) (a:Aut) (ha:AutP a):(z581 g ls a).length≤7372800:=by
 obtain ⟨⟨g1,g2⟩,g3,g4⟩:=hg
 have h1:∀ i ℓ to,(z582 a.acc.length a.ed i ℓ to).length≤2048:=fun i ℓ to=>by
  have:=z268 (f:=z433 a.acc.length i ℓ to) (c:=1) a.ed (fun e _=>by unfold z433;split<;>simp)
  have:=ha.2.1
  unfold z582;omega
 have h2:∀ i∈List.range g.st.length,(z533 a.acc.length a.ed g.nx ls i).length≤122880:=fun i hi=>by
  rw [y59] at hi
  unfold z533
  rw [z18 (l:=g.nx) (by omega)]
  have h3:=z268 (f:=z582 a.acc.length a.ed i (ls.getD i 0)) (c:=2048) g.nx[i] (fun e _=>h1 _ _ _)
  have h4:=(g4 i (by omega) (by omega) hi).2.1
  have:g.nx[i].length * 2048≤60 * 2048:=Nat.mul_le_mul_right _ (by omega)
  omega
 have h5:=z268 (f:=z533 a.acc.length a.ed g.nx ls) (c:=122880) (List.range g.st.length) h2
 rw [List.length_range] at h5
 have:g.st.length * 122880≤60 * 122880:=Nat.mul_le_mul_right _ (by omega)
 unfold z581;omega
theorem z662 (g:Graph) (hg:GB g) (ls:List Int) (hls:ls.length=g.st.length) (hlr:∀ x∈ls,0≤x∧x≤7) (a:Aut) (ha:AutP a):CallsA Tryz.prog 96 [.agg g.cs,ints ls,.agg a.cs] [] (.sref 0 0 (a.acc.length * g.st.length)) [.cells 1 ((z41 g ls a).map z96)]:=by
 have hpl:=z532 g hg ls a ha
 obtain ⟨⟨g1,g2⟩,g3,g4⟩:=hg
 obtain ⟨⟨a1,a2⟩,a3,_,a5⟩:=ha
 have hN:=z115 (a:=(a.acc.length:Int)) (b:=(g.st.length:Int)) (A:=64) (B:=60) (by omega) (by omega) (by omega) (by omega)
 have hNn:((a.acc.length * g.st.length:Nat):Int)=(a.acc.length:Int) * g.st.length:=by simp
 refine z6 z12 Tryz.func96 rfl rfl 93 Tryz.ntmps96 (by simp) ?_
 repeat' (first|(apply y83 ok;rfl;conv=>whnf)|(apply y44;(first|(unfold inI;omega)|(dsimp only;omega));conv=>whnf))
 refine y84 (Gl.Reach.weaken (es':=List.replicate (a.acc.length * g.st.length) [.own 1 []]) 2 rfl (by rw [y47,y47];rfl) z348 rfl) ?_
 conv=>whnf
 have hrow:∀ i (hi:i < g.nx.length),∀ x∈g.nx[i],0≤x∧x≤g.st.length - 1:=fun i hi x hx=>by
  obtain ⟨j,hj,rfl⟩:=List.mem_iff_getElem.1 hx
  exact ((g4 i hi hi (by omega)).2.2.2 j hj hj).1
 have hlen:∀ i (hi:i < g.nx.length),g.nx[i].length≤60:=fun i hi=>by
  have:=(g4 i hi hi (by omega)).2.1;omega
 refine z93 (fun x:Nat×List (Nat×Int)=>([(1,ints ls),(3,.ptr 0 none 0),(5,.ptr 1 none 0),(7,.int a.acc.length),(8,.sref 2 0 (a.acc.length * g.st.length)),(9,.int x.1)],[.cells 2 [[lst 2 State.cs g.st,lst 1 encL g.nx]],.cells 3 [[lst 1 enI a.ini,lst 1 enB a.acc,lst 4 Trans.cs a.ed]],.cells 1 ((build (a.acc.length * g.st.length) x.2).map z96)])) (fun x=>x.1≤g.st.length∧x.2++((List.range g.st.length).drop x.1).flatMap (z533 a.acc.length a.ed g.nx ls)=z581 g ls a) (fun x=>g.st.length - x.1) (0,[]) ⟨by omega,rfl⟩
  ⟨[0,1,2],rfl,by decide,rfl,⟨⟨rfl,rfl⟩,⟨rfl,rfl⟩,⟨rfl,rfl⟩,⟨rfl,rfl⟩,⟨rfl,rfl⟩,⟨rfl,rfl⟩,trivial⟩,⟨z25 rfl rfl,z25 rfl rfl,z17 (z31 (z892 _).symm) (z1 fun _=>rfl),trivial⟩⟩ ?_
 rintro ⟨i,ps⟩ ⟨hi1,hi2⟩
 dsimp only at hi1 hi2 ⊢
 repeat' (first|(apply y83 ok;rfl;conv=>whnf)|(apply z2<;>intro _<;>conv=>whnf))
 ·have hig:i < g.st.length:=by omega
  rw [z180 _ _ _ (by simpa using hig),List.getElem_range] at hi2
  have hin:i < g.nx.length:=by omega
  have hrow:=hrow i hin
  have hlen:=hlen i hin
  have hli:=hlr ls[i] (y45 _)
  have hpI:z533 a.acc.length a.ed g.nx ls i=g.nx[i].flatMap (z582 a.acc.length a.ed i ls[i]):=by
   unfold z533
   rw [z18 hin,z18 (by omega)]
  rw [hpI] at hi2
  refine z93 (fun x:Nat×List (Nat×Int)=>([(1,ints ls),(3,.ptr 0 none 0),(5,.ptr 1 none 0),(7,.int a.acc.length),(8,.sref 2 0 (a.acc.length * g.st.length)),(9,.int i),(10,.int x.1)],[.cells 2 [[lst 2 State.cs g.st,lst 1 encL g.nx]],.cells 3 [[lst 1 enI a.ini,lst 1 enB a.acc,lst 4 Trans.cs a.ed]],.cells 1 ((build (a.acc.length * g.st.length) x.2).map z96)])) (fun x=>x.1≤g.nx[i].length∧x.2++((g.nx[i].drop x.1).flatMap (z582 a.acc.length a.ed i ls[i])++((List.range g.st.length).drop (i+1)).flatMap (z533 a.acc.length a.ed g.nx ls))=z581 g ls a) (fun x=>g.nx[i].length - x.1) (0,ps) ⟨by omega,hi2⟩
   ⟨[0,1,2],rfl,by decide,rfl,⟨⟨rfl,rfl⟩,⟨rfl,rfl⟩,⟨rfl,rfl⟩,⟨rfl,rfl⟩,⟨rfl,rfl⟩,⟨rfl,rfl⟩,⟨rfl,rfl⟩,trivial⟩,⟨z25 rfl rfl,z25 rfl rfl,z17 rfl (z1 fun _=>rfl),trivial⟩⟩ ?_
  rintro ⟨j,ps⟩ ⟨hj1,hj2⟩
  dsimp only at hj1 hj2 ⊢
  repeat' (first|(apply y83 ok;rfl;conv=>whnf)|(apply y44;(first|omega|(unfold inI;omega));conv=>whnf)|(with_reducible apply z4;omega;intro _;conv=>whnf)|(apply z2<;>intro _<;>conv=>whnf))
  ·have hjn:j < g.nx[i].length:=by omega
   rw [z180 _ _ _ hjn,List.append_assoc] at hj2
   have hto:=hrow g.nx[i][j] (y45 _)
   refine z93 (fun x:Nat×List (Nat×Int)=>([(1,ints ls),(3,.ptr 0 none 0),(5,.ptr 1 none 0),(7,.int a.acc.length),(8,.sref 2 0 (a.acc.length * g.st.length)),(9,.int i),(10,.int j),(11,.int x.1)],[.cells 2 [[lst 2 State.cs g.st,lst 1 encL g.nx]],.cells 3 [[lst 1 enI a.ini,lst 1 enB a.acc,lst 4 Trans.cs a.ed]],.cells 1 ((build (a.acc.length * g.st.length) x.2).map z96)])) (fun x=>x.1≤a.ed.length∧x.2++((a.ed.drop x.1).flatMap (z433 a.acc.length i ls[i] g.nx[i][j])++((g.nx[i].drop (j+1)).flatMap (z582 a.acc.length a.ed i ls[i])++((List.range g.st.length).drop (i+1)).flatMap (z533 a.acc.length a.ed g.nx ls)))=z581 g ls a) (fun x=>a.ed.length - x.1) (0,ps) ⟨by omega,hj2⟩
    ⟨[0,1,2],rfl,by decide,rfl,⟨⟨rfl,rfl⟩,⟨rfl,rfl⟩,⟨rfl,rfl⟩,⟨rfl,rfl⟩,⟨rfl,rfl⟩,⟨rfl,rfl⟩,⟨rfl,rfl⟩,⟨rfl,rfl⟩,trivial⟩,⟨z25 rfl rfl,z25 rfl rfl,z17 rfl (z1 fun _=>rfl),trivial⟩⟩ ?_
   rintro ⟨k,ps⟩ ⟨hk1,hk2⟩
   dsimp only at hk1 hk2 ⊢
   have hm1:=z115 (a:=(i:Int)) (b:=(a.acc.length:Int)) (A:=60) (B:=64) (by omega) (by omega) (by omega) (by omega)
   have hm2:=z115 (a:=g.nx[i][j]) (b:=(a.acc.length:Int)) (A:=60) (B:=64) (by omega) (by omega) (by omega) (by omega)
   by_cases hke:k < a.ed.length
   ·have he:=a5 a.ed[k] (y45 hke)
    unfold z475 at he
    have hlt:i * a.acc.length+a.ed[k].src.toNat < (build (a.acc.length * g.st.length) ps).length:=by
     rw [z101]
     have h1:(i+1) * a.acc.length≤g.st.length * a.acc.length:=Nat.mul_le_mul_right _ hig
     rw [Nat.add_mul,Nat.one_mul,Nat.mul_comm g.st.length] at h1
     omega
    repeat' (first|((fail_if_success apply z53 14);(fail_if_success apply z38 14);apply y83 ok;rfl;conv=>whnf)|(apply z7;kernel_rfl;conv=>whnf)|(apply y44;(first|omega|(unfold inI;omega));conv=>whnf)|(with_reducible apply z4;omega;intro _;conv=>whnf)|(apply z2<;>intro _<;>conv=>whnf)|(apply z0 (l7On_ok a.ed[k] ls[i] hli.1 hli.2 (a5 _ (y45 _)).2.2.1);rfl;rfl;conv=>whnf))
    ·have hon:((ls[i].toNat &&& a.ed[k].care.toNat:Nat):Int)=a.ed[k].val:=by assumption
     have hrl:(build (a.acc.length * g.st.length) ps)[i * a.acc.length+a.ed[k].src.toNat].length≤1000000000:=by
      have h1:=z311 (N:=a.acc.length * g.st.length) (ps:=ps) hlt
      have h2:=congrArg List.length hk2
      rw [y48] at h2
      omega
     have hin:((i:Int) * a.acc.length+a.ed[k].src).toNat=i * a.acc.length+a.ed[k].src.toNat:=by
      have e:((i * a.acc.length:Nat):Int)=(i:Int) * a.acc.length:=by simp
      omega
     have hlt2:((i:Int) * a.acc.length+a.ed[k].src).toNat < a.acc.length * g.st.length:=by
      rw [hin,← z101 (a.acc.length * g.st.length) ps];exact hlt
     have hmap:i * a.acc.length+a.ed[k].src.toNat < ((build (a.acc.length * g.st.length) ps).map z96).length:=by rw [y50];exact hlt
     refine y84 (Gl.Reach.expose (e:=z96 (build (a.acc.length * g.st.length) ps)[i * a.acc.length+a.ed[k].src.toNat]) 2 (i * a.acc.length+a.ed[k].src.toNat) 0 rfl (by rw [y52,y46 hlt];rfl) rfl (z153 (fun _=>rfl) _) rfl) ?_
     conv=>whnf
     (apply y83 ok;rfl;conv=>whnf)
     repeat' (first|(apply z7;kernel_rfl;conv=>whnf)|(apply z266;exact hin;exact hmap;conv=>whnf)|(apply y44;(first|omega|(unfold inI;omega)|((try dsimp only);simp only [y50,y49,y48,y47,y57,y58];omega)|exact ⟨rfl,z23 rfl z29⟩);conv=>whnf)|(with_reducible apply z4;omega;intro _;conv=>whnf))
     refine y84 (Gl.Reach.absorb 2 5 (i * a.acc.length+a.ed[k].src.toNat) 0 rfl (z202 hin (by rw [y79];exact hmap)) rfl rfl (by simp) rfl (z20 (fun e he=>(z1 (fun _=>rfl)) e (List.mem_of_mem_take he)) (z204 rfl z19)) rfl) ?_
     conv=>whnf
     repeat' (first|(apply y83 ok;rfl;conv=>whnf)|(apply y44;((unfold inI;omega));conv=>whnf))
     rw [z180 _ _ _ hke] at hk2
     have hpe:z433 a.acc.length i ls[i] g.nx[i][j] a.ed[k]=[(i * a.acc.length+a.ed[k].src.toNat,g.nx[i][j] * a.acc.length+a.ed[k].dst)]:=by
      unfold z433 onB;rw [if_pos (y80 hon)]
     rw [hpe,List.append_assoc,← List.append_assoc] at hk2
     exact z81 (k+1,ps++[(i * a.acc.length+a.ed[k].src.toNat,g.nx[i][j] * a.acc.length+a.ed[k].dst)]) [0,1,2] ⟨by dsimp only;omega,hk2⟩ (by dsimp only;omega)
      ⟨rfl,by decide,rfl,⟨⟨rfl,rfl⟩,⟨rfl,rfl⟩,⟨rfl,rfl⟩,⟨rfl,rfl⟩,⟨rfl,rfl⟩,⟨rfl,rfl⟩,⟨rfl,rfl⟩,⟨rfl,rfl⟩,trivial⟩,⟨z25 rfl rfl,z25 rfl rfl,z17 (z31 (rows_push' hlt hin (by simp))) (z1 fun _=>rfl),trivial⟩⟩
    ·rename_i hon
     rw [z180 _ _ _ hke] at hk2
     have hpe:z433 a.acc.length i ls[i] g.nx[i][j] a.ed[k]=[]:=by
      unfold z433 onB;rw [if_neg (by simpa using hon)]
     rw [hpe,List.nil_append] at hk2
     exact z81 (k+1,ps) [0,1,2] ⟨by dsimp only;omega,hk2⟩ (by dsimp only;omega)
      ⟨rfl,by decide,rfl,⟨⟨rfl,rfl⟩,⟨rfl,rfl⟩,⟨rfl,rfl⟩,⟨rfl,rfl⟩,⟨rfl,rfl⟩,⟨rfl,rfl⟩,⟨rfl,rfl⟩,⟨rfl,rfl⟩,trivial⟩,⟨z25 rfl rfl,z25 rfl rfl,z17 rfl (z1 fun _=>rfl),trivial⟩⟩
    ·omega
   ·repeat' (first|((fail_if_success apply z53 14);(fail_if_success apply z38 14);apply y83 ok;rfl;conv=>whnf)|(apply y44;(first|omega|(unfold inI;omega));conv=>whnf)|(with_reducible apply z4;omega;intro _;conv=>whnf)|(apply z2<;>intro _<;>conv=>whnf))
    ·omega
    ·rw [z114 _ _ _ (by omega),List.nil_append] at hk2
     exact z81 (j+1,ps) [0,1,2] ⟨by dsimp only;omega,hk2⟩ (by dsimp only;omega)
      ⟨rfl,by decide,rfl,⟨⟨rfl,rfl⟩,⟨rfl,rfl⟩,⟨rfl,rfl⟩,⟨rfl,rfl⟩,⟨rfl,rfl⟩,⟨rfl,rfl⟩,⟨rfl,rfl⟩,trivial⟩,⟨z25 rfl rfl,z25 rfl rfl,z17 rfl (z1 fun _=>rfl),trivial⟩⟩
  ·rw [z114 _ _ _ (by omega),List.nil_append] at hj2
   exact z81 (i+1,ps) [0,1,2] ⟨by dsimp only;omega,hj2⟩ (by dsimp only;omega)
    ⟨rfl,by decide,rfl,⟨⟨rfl,rfl⟩,⟨rfl,rfl⟩,⟨rfl,rfl⟩,⟨rfl,rfl⟩,⟨rfl,rfl⟩,⟨rfl,rfl⟩,trivial⟩,⟨z25 rfl rfl,z25 rfl rfl,z17 rfl (z1 fun _=>rfl),trivial⟩⟩
 ·rw [z114 _ _ _ (by simp;omega),y63] at hi2
  subst hi2
  exact z222 rfl (z1 fun _=>rfl) rfl rfl
theorem keepRows {f:FuncId} {args:List AC} {n:Nat} {l:List (List Int)} (h:CallsA Tryz.prog f args [] (.sref 0 0 n) [.cells 1 (l.map z96)]) (hl:l.length=n):CallsA Tryz.prog f args [] (lst 1 encL l) []:=by
 refine h.lend [] [0] rfl rfl rfl ?_ z11
 rw [z328 (w:=1) (es:=l.map z96) rfl rfl rfl (by rw [y50];exact hl),z428,← hl];rfl
theorem z299 (g:Graph) (hg:GB g) (ls:List Int) (hls:ls.length=g.st.length) (hlr:∀ x∈ls,0≤x∧x≤7) (a:Aut) (ha:AutP a):CallsA Tryz.prog 96 [.agg g.cs,ints ls,.agg a.cs] [] (lst 1 encL (z41 g ls a)) [] :=
 keepRows (z662 g hg ls hls hlr a ha) (z101 _ _)
def z76 (a:Aut):List (List Trans):=z112 a.acc.length (a.ed.map fun e=>(e.src.toNat,e))
def encT (r:List Trans):List AC:=[.list 4 r.length (r.map Trans.cs)]
theorem ltr_lt (v:List Int):∀ (l:List Tree) (k n:Nat),n < 2 ^ k→ltr v l k n < 2 ^ (k+l.length):=by
 intro l
 induction l with
 |nil=>intro k n h;simpa [ltr] using h
 |cons t l ih =>
  intro k n h
  rw [ltr]
  have e:k+(t::l).length=k+1+l.length:=by simp only [y57];omega
  rw [e]
  refine ih (k+1) _ ?_
  split
  ·rw [Nat.pow_succ];omega
  ·exact or_lt h
theorem z178 {l:List Tree} (hl:z174 l) (s:State):0≤z35 l s∧z35 l s≤7:=by
 have:=ltr_lt s.b l 0 0 (by decide)
 rw [hl.1] at this
 unfold z35
 have e:(2:Nat) ^ (0+3)=8:=by decide
 omega
def pE2 (n i q:Nat) (ℓ to:Int) (e:Trans):List (Nat×Int):=if onB e ℓ then [(i * n+q,to * n+e.dst)] else []
def pTo (n:Nat) (row:List Trans) (i q:Nat) (ℓ to:Int):List (Nat×Int):=row.flatMap (pE2 n i q ℓ to)
def pQ (n:Nat) (nxi:List Int) (rows:List (List Trans)) (i:Nat) (ℓ:Int) (q:Nat):List (Nat×Int):=nxi.flatMap (pTo n (rows.getD q []) i q ℓ)
def pI2 (n:Nat) (nx:List (List Int)) (rows:List (List Trans)) (ls:List Int) (i:Nat):List (Nat×Int):=(List.range n).flatMap (pQ n (nx.getD i []) rows i (ls.getD i 0))
def pS2 (g:Graph) (ls:List Int) (a:Aut):List (Nat×Int):=(List.range g.st.length).flatMap (pI2 a.acc.length g.nx (z76 a) ls)
theorem z325 {a:Aut} {q:Nat} (h:q < a.acc.length):(z76 a).getD q []=a.ed.filter (fun e=>e.src.toNat == q):=by
 unfold z76
 rw [z18 (by rw [z157];exact h),z326,List.filter_map,List.map_map]
 exact List.map_id _
theorem z1074 {β:Type} {F:Nat→List β} {n q0:Nat} (hq:q0 < n) (h:∀ q,q < n→q≠q0→F q=[]):(List.range n).flatMap F=F q0:=by
 have:∀ m,(List.range m).flatMap F=if q0 < m∧m≤n then F q0 else if m≤n then [] else (List.range m).flatMap F:=by
  intro m
  induction m with
  |zero=>simp
  |succ m ih =>
   by_cases hm:m+1≤n
   ·rw [y60,List.flatMap_append,ih,List.flatMap_cons,List.flatMap_nil,y63]
    by_cases h1:q0 < m
    ·rw [if_pos ⟨h1,by omega⟩,if_pos ⟨by omega,hm⟩,h m (by omega) (by omega),y63]
    ·rw [if_neg (by omega),if_pos (by omega)]
     by_cases h2:q0=m
     ·subst h2;rw [if_pos ⟨by omega,hm⟩];rfl
     ·rw [if_neg (by omega),if_pos hm,h m (by omega) (by omega)];rfl
   ·rw [if_neg (by omega),if_neg hm]
 rw [this n,if_pos ⟨hq,y53 _⟩]
theorem z957 {β:Type} {F:Nat→List β} {n:Nat} (h:∀ q,q < n→F q=[]):(List.range n).flatMap F=[]:=by
 rw [List.flatMap_eq_nil_iff]
 intro q hq
 exact h q (List.mem_range.1 hq)
theorem pS2_rows (g:Graph) (ls:List Int) (a:Aut) (ha:AutP a) (r:Nat):(pS2 g ls a).filter (fun p=>p.1 == r)=(z581 g ls a).filter (fun p=>p.1 == r):=by
 unfold pS2 z581
 rw [List.filter_flatMap,List.filter_flatMap]
 refine z614 fun i hi=>?_
 unfold pI2 z533
 rw [List.filter_flatMap,List.filter_flatMap]
 have hsrc:∀ e∈a.ed,e.src.toNat < a.acc.length:=fun e he=>by
  have:=(ha.2.2.2 e he).1;omega
 by_cases hr:i * a.acc.length≤r∧r < i * a.acc.length+a.acc.length
 ·obtain ⟨q0,rfl⟩:∃ q0,r=i * a.acc.length+q0:=⟨r - i * a.acc.length,by omega⟩
  have hq0:q0 < a.acc.length:=by omega
  rw [z1074 hq0 (fun q hq hne=>by
   unfold pQ
   rw [List.filter_flatMap]
   refine List.flatMap_eq_nil_iff.2 fun to _=>?_
   unfold pTo
   rw [List.filter_flatMap]
   refine List.flatMap_eq_nil_iff.2 fun e _=>?_
   unfold pE2
   split
   ·simp;omega
   ·rfl)]
  unfold pQ
  rw [List.filter_flatMap,z325 hq0]
  refine z614 fun to _=>?_
  unfold pTo z582
  rw [List.filter_flatMap,List.filter_flatMap]
  induction a.ed with
  |nil=>rfl
  |cons e es ih =>
   rw [List.flatMap_cons,← ih,List.filter_cons]
   by_cases he:e.src.toNat=q0
   ·rw [if_pos (by simpa using he),List.flatMap_cons]
    unfold pE2 z433
    rw [he]
   ·rw [if_neg (by simpa using he)]
    have:(z433 a.acc.length i (ls.getD i 0) to e).filter (fun p=>p.1 == i * a.acc.length+q0)=[]:=by
     unfold z433
     split
     ·simp;omega
     ·rfl
    rw [this,List.nil_append]
 ·rw [z957 (fun q hq=>by
   unfold pQ
   rw [List.filter_flatMap]
   refine List.flatMap_eq_nil_iff.2 fun to _=>?_
   unfold pTo
   rw [List.filter_flatMap]
   refine List.flatMap_eq_nil_iff.2 fun e _=>?_
   unfold pE2
   split
   ·simp;omega
   ·rfl)]
  symm
  refine List.flatMap_eq_nil_iff.2 fun to _=>?_
  unfold z582
  rw [List.filter_flatMap]
  refine List.flatMap_eq_nil_iff.2 fun e he=>?_
  have:=hsrc e he
  unfold z433
  split
  ·simp;omega
  ·rfl
theorem pS2_len (g:Graph) (hg:GB g) (ls:List Int) (a:Aut) (ha:AutP a):(pS2 g ls a).length≤1000000000:=by
 obtain ⟨⟨g1,g2⟩,g3,g4⟩:=hg
 have h2:∀ i∈List.range g.st.length,(pI2 a.acc.length g.nx (z76 a) ls i).length≤7864320:=fun i hi=>by
  rw [y59] at hi
  unfold pI2
  rw [z18 (l:=g.nx) (by omega)]
  have h3:=z268 (f:=pQ a.acc.length g.nx[i] (z76 a) i (ls.getD i 0)) (c:=122880) (List.range a.acc.length) (fun q hq=>by
   have h1:∀ to,(pTo a.acc.length ((z76 a).getD q []) i q (ls.getD i 0) to).length≤2048:=fun to=>by
    have h5:=z268 (f:=pE2 a.acc.length i q (ls.getD i 0) to) (c:=1) ((z76 a).getD q []) (fun e _=>by unfold pE2;split<;>simp)
    rw [z325 (List.mem_range.1 hq)] at h5 ⊢
    have:=List.length_filter_le (fun e:Trans=>e.src.toNat == q) a.ed
    have:=ha.2.1
    unfold pTo;omega
   have h3:=z268 (f:=pTo a.acc.length ((z76 a).getD q []) i q (ls.getD i 0)) (c:=2048) g.nx[i] (fun to _=>h1 to)
   have h4:=(g4 i (by omega) (by omega) hi).2.1
   have:g.nx[i].length * 2048≤60 * 2048:=Nat.mul_le_mul_right _ (by omega)
   unfold pQ;omega)
  rw [List.length_range] at h3
  have:a.acc.length * 122880≤64 * 122880:=Nat.mul_le_mul_right _ ha.1.2
  omega
 have h5:=z268 (f:=pI2 a.acc.length g.nx (z76 a) ls) (c:=7864320) (List.range g.st.length) h2
 rw [List.length_range] at h5
 have:g.st.length * 7864320≤60 * 7864320:=Nat.mul_le_mul_right _ (by omega)
 unfold pS2;omega
theorem z1157 (g:Graph) (ls:List Int) (a:Aut) (ha:AutP a):build (g.st.length * a.acc.length) (pS2 g ls a)=z41 g ls a:=by
 unfold z41 build
 rw [Nat.mul_comm]
 refine List.map_congr_left fun r _=>?_
 rw [pS2_rows g ls a ha r]
set_option maxHeartbeats 800000 in
theorem z828 (g:Graph) (hg:GB g) (l:List Tree) (hl:z174 l) (a:Aut) (ha:AutP a):CallsA Tryz.prog 68 [.agg g.cs,lst 3 Tree.cs' l,.agg a.cs] [] (.tup [.sref 0 0 (g.st.length * a.acc.length),ints a.ini]) [.cells 1 ((z41 g (g.st.map (z35 l)) a).map z96)]:=by
 have hvals:=hg.vals
 have hpl:=z532 g hg (g.st.map (z35 l)) a ha
 have hini:=ha.2.2.1.le (by omega)
 obtain ⟨⟨g1,g2⟩,g3,g4⟩:=hg
 obtain ⟨⟨a1,a2⟩,a3,a4,a5⟩:=ha
 have hN:=z115 (a:=(g.st.length:Int)) (b:=(a.acc.length:Int)) (A:=60) (B:=64) (by omega) (by omega) (by omega) (by omega)
 refine z6 z12 Tryz.func68 rfl rfl 117 Tryz.ntmps68 (by simp) ?_
 repeat' (first|(apply y83 ok;rfl;conv=>whnf)|(apply y44;((dsimp only;omega));conv=>whnf))
 refine y84 (Gl.Reach.weaken (es':=List.replicate a.acc.length [.own 4 []]) 2 rfl (by rw [y47,y47];rfl) z348 rfl) ?_
 conv=>whnf
 refine z93 (fun k:Nat=>([(1,lst 3 Tree.cs' l),(3,.ptr 0 none 0),(5,.ptr 1 none 0),(8,.int a.acc.length),(9,.sref 2 0 a.acc.length),(26,lst 4 Trans.cs a.ed),(27,.int a.ed.length),(28,.int k)],[.cells 2 [[lst 2 State.cs g.st,lst 1 encL g.nx]],.cells 3 [[lst 1 enI a.ini,lst 1 enB a.acc,lst 4 Trans.cs a.ed]],.cells 1 ((z112 a.acc.length ((a.ed.take k).map fun e=>(e.src.toNat,e))).map (ownG 4 Trans.cs))])) (fun k=>k≤a.ed.length) (fun k=>a.ed.length - k) 0 (by omega)
  ⟨[0,1,2],rfl,by decide,rfl,⟨⟨rfl,rfl⟩,⟨rfl,rfl⟩,⟨rfl,rfl⟩,⟨rfl,rfl⟩,⟨rfl,rfl⟩,⟨rfl,rfl⟩,⟨rfl,rfl⟩,⟨rfl,rfl⟩,trivial⟩,⟨z25 rfl rfl,z25 rfl rfl,z17 (z31 (z1065 _ _ _).symm) (z1 fun _=>rfl),trivial⟩⟩ ?_
 intro k hk
 have hN2:((g.st.length * a.acc.length:Nat):Int)=(g.st.length:Int) * a.acc.length:=by simp
 repeat' (first|((fail_if_success apply z53 6);(fail_if_success apply z38 6);(fail_if_success apply z53 8);(fail_if_success apply z38 8);apply y83 ok;rfl;conv=>whnf)|(apply y44;(omega);conv=>whnf)|(with_reducible apply z4;omega;intro _;conv=>whnf)|(apply z2<;>intro _<;>conv=>whnf))
 ·have hkl:k < a.ed.length:=by assumption
  have he:=a5 a.ed[k] (y45 hkl)
  unfold z475 at he
  have hlt:a.ed[k].src.toNat < (z112 a.acc.length ((a.ed.take k).map fun e=>(e.src.toNat,e))).length:=by rw [z157];omega
  have hmap:a.ed[k].src.toNat < ((z112 a.acc.length ((a.ed.take k).map fun e=>(e.src.toNat,e))).map (ownG 4 Trans.cs)).length:=by rw [y50];exact hlt
  have hrl:=z686 hlt
  rw [y50,y49] at hrl
  refine y84 (Gl.Reach.expose (e:=ownG 4 Trans.cs (z112 a.acc.length ((a.ed.take k).map fun e=>(e.src.toNat,e)))[a.ed[k].src.toNat]) 2 a.ed[k].src.toNat 0 rfl (by rw [y52,y46 hlt];rfl) rfl (z153 (fun _=>rfl) _) rfl) ?_
  conv=>whnf
  (apply y83 ok;rfl;conv=>whnf)
  repeat' (first|(apply z7;kernel_rfl;conv=>whnf)|(apply z266;exact Nat.add_zero _;exact hmap;conv=>whnf)|(apply y44;(first|omega|((try dsimp only);simp only [y50,y49,y48,y47,y57,y58];omega)|exact ⟨rfl,z23 rfl z29⟩);conv=>whnf))
  refine y84 (Gl.Reach.absorb 2 6 a.ed[k].src.toNat 0 rfl (z202 (Nat.add_zero _) (by rw [y79];exact hmap)) rfl rfl (by simp) rfl (z20 (fun e he=>(z1 (fun _=>rfl)) e (List.mem_of_mem_take he)) (z204 rfl z19)) rfl) ?_
  conv=>whnf
  repeat' (first|((fail_if_success apply z53 6);(fail_if_success apply z38 6);(fail_if_success apply z53 8);(fail_if_success apply z38 8);apply y83 ok;rfl;conv=>whnf)|(apply y44;((unfold inI;omega));conv=>whnf))
  refine z81 (k+1) [0,1,2] (by omega) (by omega)
   ⟨rfl,by decide,rfl,⟨⟨rfl,rfl⟩,⟨rfl,rfl⟩,⟨rfl,rfl⟩,⟨rfl,rfl⟩,⟨rfl,rfl⟩,⟨rfl,rfl⟩,⟨rfl,rfl⟩,⟨rfl,rfl⟩,trivial⟩,⟨z25 rfl rfl,z25 rfl rfl,z17 (z31 ?_) (z1 fun _=>rfl),trivial⟩⟩
  have e1:((a.ed.take (k+1)).map fun e=>(e.src.toNat,e))=((a.ed.take k).map fun e=>(e.src.toNat,e))++[(a.ed[k].src.toNat,a.ed[k])]:=by
   rw [y51 hkl,y62];rfl
  rw [e1]
  exact z956 hlt (Nat.add_zero _) (by simp) rfl
 obtain rfl:k=a.ed.length:=by omega
 refine y84 (SealL.reach (π:=[0,1]) (Bn:=[2]) (env:=[(1,lst 3 Tree.cs' l),(3,.ptr 0 none 0),(5,.ptr 1 none 0),(8,.int a.acc.length),(9,lst 1 encT (z76 a))]) (objs:=[.cells 2 [[lst 2 State.cs g.st,lst 1 encL g.nx]],.cells 3 [[lst 1 enI a.ini,lst 1 enB a.acc,lst 4 Trans.cs a.ed]]]) ⟨rfl,rfl,by simp,rfl,by intro o ho;simp at ho;rcases ho with rfl|rfl<;>rfl,⟨rfl,rfl,rfl,rfl,?_,trivial⟩,rfl⟩) ?_
 ·show bor _ _ _ (.sref 2 0 a.acc.length)=_
  rw [z328 (w:=1) (es:=(z112 a.acc.length ((a.ed.take a.ed.length).map fun e=>(e.src.toNat,e))).map (ownG 4 Trans.cs)) rfl rfl rfl (by rw [y50,z157]),z823 (fun t=>Trans.unown t),y55]
  unfold lst z76
  rw [z157];rfl
 conv=>whnf
 repeat' (first|(apply y83 ok;rfl;conv=>whnf)|(apply y44;(first|(unfold inI;omega)|(dsimp only;omega));conv=>whnf)|(apply z0 (label_ok g hvals g2 l hl);rfl;rfl;conv=>whnf))
 refine y84 (Gl.Reach.weaken (es':=List.replicate (g.st.length * a.acc.length) [.own 1 []]) 2 rfl (by rw [y47,y47];rfl) z348 rfl) ?_
 conv=>whnf
 have hls:(g.st.map (z35 l)).length=g.st.length:=by simp
 have hlr:∀ x∈g.st.map (z35 l),0≤x∧x≤7:=fun x hx=>by
  obtain ⟨s,_,rfl⟩:=List.mem_map.1 hx
  exact z178 hl s
 rw [← z1157 g _ a ⟨⟨a1,a2⟩,a3,a4,a5⟩]
 have hpl2:=pS2_len g ⟨⟨g1,g2⟩,g3,g4⟩ (g.st.map (z35 l)) a ⟨⟨a1,a2⟩,a3,a4,a5⟩
 generalize hlsd:g.st.map (z35 l)=ls at hls hlr hpl hpl2
 have hrow:∀ i (hi:i < g.nx.length),∀ x∈g.nx[i],0≤x∧x≤g.st.length - 1:=fun i hi x hx=>by
  obtain ⟨j,hj,rfl⟩:=List.mem_iff_getElem.1 hx
  exact ((g4 i hi hi (by omega)).2.2.2 j hj hj).1
 have hlen:∀ i (hi:i < g.nx.length),g.nx[i].length≤60:=fun i hi=>by
  have:=(g4 i hi hi (by omega)).2.1;omega
 have hel:(z76 a).length=a.acc.length:=z157 _ _
 have hed:∀ q (hq:q < (z76 a).length),∀ e∈(z76 a)[q],e∈a.ed:=fun q hq e he=>by
  rw [← z18 (d:=[]) hq,z325 (by omega)] at he;exact (List.mem_filter.1 he).1
 have hedl:∀ q (hq:q < (z76 a).length),(z76 a)[q].length≤2048:=fun q hq=>by
  rw [← z18 (d:=[]) hq,z325 (by omega)];exact Nat.le_trans (List.length_filter_le _ _) a3
 refine z93 (fun x:Nat×List (Nat×Int)=>([(3,.ptr 0 none 0),(5,.ptr 1 none 0),(8,.int a.acc.length),(9,lst 1 encT (z76 a)),(12,.sref 2 0 (g.st.length * a.acc.length)),(53,ints ls),(54,.int ls.length),(55,.int x.1)],[.cells 2 [[lst 2 State.cs g.st,lst 1 encL g.nx]],.cells 3 [[lst 1 enI a.ini,lst 1 enB a.acc,lst 4 Trans.cs a.ed]],.cells 1 ((build (g.st.length * a.acc.length) x.2).map z96)])) (fun x=>x.1≤ls.length∧x.2++((List.range g.st.length).drop x.1).flatMap (pI2 a.acc.length g.nx (z76 a) ls)=pS2 g ls a) (fun x=>ls.length - x.1) (0,[]) ⟨by omega,rfl⟩
  ⟨[0,1,2],rfl,by decide,rfl,⟨⟨rfl,by rfl⟩,⟨rfl,by rfl⟩,⟨rfl,by rfl⟩,⟨rfl,by rfl⟩,⟨rfl,by rfl⟩,⟨rfl,by rfl⟩,⟨rfl,by rfl⟩,⟨rfl,by rfl⟩,trivial⟩,⟨z25 rfl rfl,z25 rfl rfl,z17 (z31 (z892 _).symm) (z1 fun _=>rfl),trivial⟩⟩ ?_
 rintro ⟨i,ps⟩ ⟨hi1,hi2⟩
 dsimp only at hi1 hi2 ⊢
 repeat' (first|(apply y83 ok;rfl;conv=>whnf)|(apply y44;(omega);conv=>whnf)|(with_reducible apply z4;omega;intro _;conv=>whnf)|(apply z2<;>intro _<;>conv=>whnf))
 ·have hig:i < g.st.length:=by omega
  rw [z180 _ _ _ (by simpa using hig),List.getElem_range] at hi2
  have hin:i < g.nx.length:=by omega
  have hrow:=hrow i hin
  have hlen:=hlen i hin
  have hil:i < ls.length:=by omega
  have hli:=hlr ls[i] (y45 _)
  have hpI:pI2 a.acc.length g.nx (z76 a) ls i=(List.range a.acc.length).flatMap (pQ a.acc.length g.nx[i] (z76 a) i ls[i]):=by
   unfold pI2
   rw [z18 (l:=g.nx) hin,z18 (l:=ls) hil]
  rw [hpI] at hi2
  have hm1:=z115 (a:=(i:Int)) (b:=(a.acc.length:Int)) (A:=60) (B:=64) (by omega) (by omega) (by omega) (by omega)
  refine z93 (fun x:Nat×List (Nat×Int)=>([(3,.ptr 0 none 0),(5,.ptr 1 none 0),(8,.int a.acc.length),(9,lst 1 encT (z76 a)),(12,.sref 2 0 (g.st.length * a.acc.length)),(53,ints ls),(54,.int ls.length),(55,.int i),(13,.int i),(14,.int ls[i]),(60,.int a.acc.length),(61,.int x.1)],[.cells 2 [[lst 2 State.cs g.st,lst 1 encL g.nx]],.cells 3 [[lst 1 enI a.ini,lst 1 enB a.acc,lst 4 Trans.cs a.ed]],.cells 1 ((build (g.st.length * a.acc.length) x.2).map z96)])) (fun x=>x.1≤a.acc.length∧x.2++(((List.range a.acc.length).drop x.1).flatMap (pQ a.acc.length g.nx[i] (z76 a) i ls[i])++((List.range g.st.length).drop (i+1)).flatMap (pI2 a.acc.length g.nx (z76 a) ls))=pS2 g ls a) (fun x=>a.acc.length - x.1) (0,ps) ⟨by omega,hi2⟩
   ⟨[0,1,2],rfl,by decide,rfl,⟨⟨rfl,rfl⟩,⟨rfl,rfl⟩,⟨rfl,rfl⟩,⟨rfl,rfl⟩,⟨rfl,rfl⟩,⟨rfl,rfl⟩,⟨rfl,rfl⟩,⟨rfl,rfl⟩,⟨rfl,rfl⟩,⟨rfl,rfl⟩,⟨rfl,rfl⟩,⟨rfl,rfl⟩,trivial⟩,⟨z25 rfl rfl,z25 rfl rfl,z17 rfl (z1 fun _=>rfl),trivial⟩⟩ ?_
  rintro ⟨q,ps⟩ ⟨hq1,hq2⟩
  dsimp only at hq1 hq2 ⊢
  repeat' (first|(apply y83 ok;rfl;conv=>whnf)|(apply y44;(first|omega|(unfold inI;omega));conv=>whnf)|(with_reducible apply z4;omega;intro _;conv=>whnf)|(apply z2<;>intro _<;>conv=>whnf))
  ·have hqn:q < a.acc.length:=by omega
   rw [z180 _ _ _ (by simpa using hqn),List.getElem_range,List.append_assoc] at hq2
   have hqe:q < (z76 a).length:=by omega
   have hpQ:pQ a.acc.length g.nx[i] (z76 a) i ls[i] q=g.nx[i].flatMap (pTo a.acc.length (z76 a)[q] i q ls[i]):=by
    unfold pQ;rw [z18 hqe]
   rw [hpQ] at hq2
   have hedl:=hedl q hqe
   have hlt:i * a.acc.length+q < g.st.length * a.acc.length:=by
    have h1:(i+1) * a.acc.length≤g.st.length * a.acc.length:=Nat.mul_le_mul_right _ hig
    rw [Nat.add_mul,Nat.one_mul] at h1
    omega
   refine z93 (fun x:Nat×List (Nat×Int)=>([(3,.ptr 0 none 0),(5,.ptr 1 none 0),(8,.int a.acc.length),(9,lst 1 encT (z76 a)),(12,.sref 2 0 (g.st.length * a.acc.length)),(53,ints ls),(54,.int ls.length),(55,.int i),(13,.int i),(14,.int ls[i]),(60,.int a.acc.length),(61,.int q),(15,.int q),(68,ints g.nx[i]),(69,.int g.nx[i].length),(70,.int x.1)],[.cells 2 [[lst 2 State.cs g.st,lst 1 encL g.nx]],.cells 3 [[lst 1 enI a.ini,lst 1 enB a.acc,lst 4 Trans.cs a.ed]],.cells 1 ((build (g.st.length * a.acc.length) x.2).map z96)])) (fun x=>x.1≤g.nx[i].length∧x.2++((g.nx[i].drop x.1).flatMap (pTo a.acc.length (z76 a)[q] i q ls[i])++(((List.range a.acc.length).drop (q+1)).flatMap (pQ a.acc.length g.nx[i] (z76 a) i ls[i])++((List.range g.st.length).drop (i+1)).flatMap (pI2 a.acc.length g.nx (z76 a) ls)))=pS2 g ls a) (fun x=>g.nx[i].length - x.1) (0,ps) ⟨by omega,hq2⟩
    ⟨[0,1,2],rfl,by decide,rfl,⟨⟨rfl,rfl⟩,⟨rfl,rfl⟩,⟨rfl,rfl⟩,⟨rfl,rfl⟩,⟨rfl,rfl⟩,⟨rfl,rfl⟩,⟨rfl,rfl⟩,⟨rfl,rfl⟩,⟨rfl,rfl⟩,⟨rfl,rfl⟩,⟨rfl,rfl⟩,⟨rfl,rfl⟩,⟨rfl,rfl⟩,⟨rfl,rfl⟩,⟨rfl,rfl⟩,⟨rfl,rfl⟩,trivial⟩,⟨z25 rfl rfl,z25 rfl rfl,z17 rfl (z1 fun _=>rfl),trivial⟩⟩ ?_
   rintro ⟨j,ps⟩ ⟨hj1,hj2⟩
   dsimp only at hj1 hj2 ⊢
   repeat' (first|(apply y83 ok;rfl;conv=>whnf)|(apply y44;(first|omega|(unfold inI;omega));conv=>whnf)|(with_reducible apply z4;omega;intro _;conv=>whnf)|(apply z2<;>intro _<;>conv=>whnf))
   ·have hjn:j < g.nx[i].length:=by omega
    rw [z180 _ _ _ hjn,List.append_assoc] at hj2
    have hto:=hrow g.nx[i][j] (y45 _)
    have hm2:=z115 (a:=g.nx[i][j]) (b:=(a.acc.length:Int)) (A:=60) (B:=64) (by omega) (by omega) (by omega) (by omega)
    refine z93 (fun x:Nat×List (Nat×Int)=>([(3,.ptr 0 none 0),(5,.ptr 1 none 0),(8,.int a.acc.length),(9,lst 1 encT (z76 a)),(12,.sref 2 0 (g.st.length * a.acc.length)),(53,ints ls),(54,.int ls.length),(55,.int i),(13,.int i),(14,.int ls[i]),(60,.int a.acc.length),(61,.int q),(15,.int q),(68,ints g.nx[i]),(69,.int g.nx[i].length),(70,.int j),(17,.int g.nx[i][j]),(77,lst 4 Trans.cs (z76 a)[q]),(78,.int (z76 a)[q].length),(79,.int x.1)],[.cells 2 [[lst 2 State.cs g.st,lst 1 encL g.nx]],.cells 3 [[lst 1 enI a.ini,lst 1 enB a.acc,lst 4 Trans.cs a.ed]],.cells 1 ((build (g.st.length * a.acc.length) x.2).map z96)])) (fun x=>x.1≤(z76 a)[q].length∧x.2++(((z76 a)[q].drop x.1).flatMap (pE2 a.acc.length i q ls[i] g.nx[i][j])++((g.nx[i].drop (j+1)).flatMap (pTo a.acc.length (z76 a)[q] i q ls[i])++(((List.range a.acc.length).drop (q+1)).flatMap (pQ a.acc.length g.nx[i] (z76 a) i ls[i])++((List.range g.st.length).drop (i+1)).flatMap (pI2 a.acc.length g.nx (z76 a) ls))))=pS2 g ls a) (fun x=>(z76 a)[q].length - x.1) (0,ps) ⟨by omega,hj2⟩
     ⟨[0,1,2],rfl,by decide,rfl,⟨⟨rfl,rfl⟩,⟨rfl,rfl⟩,⟨rfl,rfl⟩,⟨rfl,rfl⟩,⟨rfl,rfl⟩,⟨rfl,rfl⟩,⟨rfl,rfl⟩,⟨rfl,rfl⟩,⟨rfl,rfl⟩,⟨rfl,rfl⟩,⟨rfl,rfl⟩,⟨rfl,rfl⟩,⟨rfl,rfl⟩,⟨rfl,rfl⟩,⟨rfl,rfl⟩,⟨rfl,rfl⟩,⟨rfl,rfl⟩,⟨rfl,rfl⟩,⟨rfl,rfl⟩,⟨rfl,rfl⟩,trivial⟩,⟨z25 rfl rfl,z25 rfl rfl,z17 rfl (z1 fun _=>rfl),trivial⟩⟩ ?_
    rintro ⟨k,ps⟩ ⟨hk1,hk2⟩
    dsimp only at hk1 hk2 ⊢
    by_cases hke:k < (z76 a)[q].length
    ·have he:=a5 (z76 a)[q][k] (hed q hqe _ (y45 hke))
     unfold z475 at he
     have hlt' : i * a.acc.length+q < (build (g.st.length * a.acc.length) ps).length:=by rw [z101];exact hlt
     have hmap:i * a.acc.length+q < ((build (g.st.length * a.acc.length) ps).map z96).length:=by rw [y50];exact hlt'
     have hrl:(build (g.st.length * a.acc.length) ps)[i * a.acc.length+q].length≤1000000000:=by
      have h1:=z311 (N:=g.st.length * a.acc.length) (ps:=ps) hlt'
      have h2:=congrArg List.length hk2
      rw [y48] at h2
      omega
     have hix:((i:Int) * a.acc.length+q).toNat=i * a.acc.length+q:=by
      have e:((i * a.acc.length:Nat):Int)=(i:Int) * a.acc.length:=by simp
      omega
     have hlt2:((i:Int) * a.acc.length+q).toNat < g.st.length * a.acc.length:=by rw [hix];exact hlt
     rw [z180 _ _ _ hke] at hk2
     repeat' (first|((fail_if_success apply z53 22);(fail_if_success apply z38 22);apply y83 ok;rfl;conv=>whnf)|(apply y44;(first|omega|(unfold inI;omega));conv=>whnf)|(with_reducible apply z4;omega;intro _;conv=>whnf)|(apply z2<;>intro _<;>conv=>whnf)|(apply z0 (takes_ok (z76 a)[q][k] ls[i] hli.1 hli.2 he.2.2.1);rfl;rfl;conv=>whnf))
     ·have hon:((ls[i].toNat &&& (z76 a)[q][k].care.toNat:Nat):Int)=(z76 a)[q][k].val:=by assumption
      refine y84 (Gl.Reach.expose (e:=z96 (build (g.st.length * a.acc.length) ps)[i * a.acc.length+q]) 2 (i * a.acc.length+q) 0 rfl (by rw [y52,y46 hlt'];rfl) rfl (z153 (fun _=>rfl) _) rfl) ?_
      conv=>whnf
      (apply y83 ok;rfl;conv=>whnf)
      repeat' (first|(apply z7;kernel_rfl;conv=>whnf)|(apply z266;exact hix;exact hmap;conv=>whnf)|(apply y44;(first|omega|(unfold inI;omega)|((try dsimp only);simp only [y50,y49,y48,y47,y57,y58];omega)|exact ⟨rfl,z23 rfl z29⟩);conv=>whnf))
      refine y84 (Gl.Reach.absorb 2 6 (i * a.acc.length+q) 0 rfl (z202 hix (by rw [y79];exact hmap)) rfl rfl (by simp) rfl (z20 (fun e he=>(z1 (fun _=>rfl)) e (List.mem_of_mem_take he)) (z204 rfl z19)) rfl) ?_
      conv=>whnf
      repeat' (first|(apply y83 ok;rfl;conv=>whnf)|(apply y44;((unfold inI;omega));conv=>whnf))
      have hpe:pE2 a.acc.length i q ls[i] g.nx[i][j] (z76 a)[q][k]=[(i * a.acc.length+q,g.nx[i][j] * a.acc.length+(z76 a)[q][k].dst)]:=by
       unfold pE2 onB;rw [if_pos (y80 hon)]
      rw [hpe,List.append_assoc,← List.append_assoc] at hk2
      exact z81 (k+1,ps++[(i * a.acc.length+q,g.nx[i][j] * a.acc.length+(z76 a)[q][k].dst)]) [0,1,2] ⟨by dsimp only;omega,hk2⟩ (by dsimp only;omega) ⟨rfl,by decide,rfl,⟨⟨rfl,rfl⟩,⟨rfl,rfl⟩,⟨rfl,rfl⟩,⟨rfl,rfl⟩,⟨rfl,rfl⟩,⟨rfl,rfl⟩,⟨rfl,rfl⟩,⟨rfl,rfl⟩,⟨rfl,rfl⟩,⟨rfl,rfl⟩,⟨rfl,rfl⟩,⟨rfl,rfl⟩,⟨rfl,rfl⟩,⟨rfl,rfl⟩,⟨rfl,rfl⟩,⟨rfl,rfl⟩,⟨rfl,rfl⟩,⟨rfl,rfl⟩,⟨rfl,rfl⟩,⟨rfl,rfl⟩,trivial⟩,⟨z25 rfl rfl,z25 rfl rfl,z17 (z31 (rows_push' hlt' hix (by simp))) (z1 fun _=>rfl),trivial⟩⟩
     ·have hon:¬ ((ls[i].toNat &&& (z76 a)[q][k].care.toNat:Nat):Int)=(z76 a)[q][k].val:=by assumption
      have hpe:pE2 a.acc.length i q ls[i] g.nx[i][j] (z76 a)[q][k]=[]:=by
       unfold pE2 onB;rw [if_neg (by simpa using hon)]
      rw [hpe,List.nil_append] at hk2
      exact z81 (k+1,ps) [0,1,2] ⟨by dsimp only;omega,hk2⟩ (by dsimp only;omega) ⟨rfl,by decide,rfl,⟨⟨rfl,rfl⟩,⟨rfl,rfl⟩,⟨rfl,rfl⟩,⟨rfl,rfl⟩,⟨rfl,rfl⟩,⟨rfl,rfl⟩,⟨rfl,rfl⟩,⟨rfl,rfl⟩,⟨rfl,rfl⟩,⟨rfl,rfl⟩,⟨rfl,rfl⟩,⟨rfl,rfl⟩,⟨rfl,rfl⟩,⟨rfl,rfl⟩,⟨rfl,rfl⟩,⟨rfl,rfl⟩,⟨rfl,rfl⟩,⟨rfl,rfl⟩,⟨rfl,rfl⟩,⟨rfl,rfl⟩,trivial⟩,⟨z25 rfl rfl,z25 rfl rfl,z17 rfl (z1 fun _=>rfl),trivial⟩⟩
     ·omega
    ·repeat' (first|((fail_if_success apply z53 22);(fail_if_success apply z38 22);apply y83 ok;rfl;conv=>whnf)|(apply y44;(first|omega|(unfold inI;omega));conv=>whnf)|(with_reducible apply z4;omega;intro _;conv=>whnf)|(apply z2<;>intro _<;>conv=>whnf))
     ·omega
     ·rw [z114 _ _ _ (by omega),List.nil_append] at hk2
      exact z81 (j+1,ps) [0,1,2] ⟨by dsimp only;omega,hk2⟩ (by dsimp only;omega) ⟨rfl,by decide,rfl,⟨⟨rfl,rfl⟩,⟨rfl,rfl⟩,⟨rfl,rfl⟩,⟨rfl,rfl⟩,⟨rfl,rfl⟩,⟨rfl,rfl⟩,⟨rfl,rfl⟩,⟨rfl,rfl⟩,⟨rfl,rfl⟩,⟨rfl,rfl⟩,⟨rfl,rfl⟩,⟨rfl,rfl⟩,⟨rfl,rfl⟩,⟨rfl,rfl⟩,⟨rfl,rfl⟩,⟨rfl,rfl⟩,trivial⟩,⟨z25 rfl rfl,z25 rfl rfl,z17 rfl (z1 fun _=>rfl),trivial⟩⟩
   ·rw [z114 _ _ _ (by omega),List.nil_append] at hj2
    exact z81 (q+1,ps) [0,1,2] ⟨by dsimp only;omega,hj2⟩ (by dsimp only;omega) ⟨rfl,by decide,rfl,⟨⟨rfl,rfl⟩,⟨rfl,rfl⟩,⟨rfl,rfl⟩,⟨rfl,rfl⟩,⟨rfl,rfl⟩,⟨rfl,rfl⟩,⟨rfl,rfl⟩,⟨rfl,rfl⟩,⟨rfl,rfl⟩,⟨rfl,rfl⟩,⟨rfl,rfl⟩,⟨rfl,rfl⟩,trivial⟩,⟨z25 rfl rfl,z25 rfl rfl,z17 rfl (z1 fun _=>rfl),trivial⟩⟩
  ·rw [z114 _ _ _ (by simp;omega),List.nil_append] at hq2
   exact z81 (i+1,ps) [0,1,2] ⟨by dsimp only;omega,hq2⟩ (by dsimp only;omega) ⟨rfl,by decide,rfl,⟨⟨rfl,rfl⟩,⟨rfl,rfl⟩,⟨rfl,rfl⟩,⟨rfl,rfl⟩,⟨rfl,rfl⟩,⟨rfl,rfl⟩,⟨rfl,rfl⟩,⟨rfl,rfl⟩,trivial⟩,⟨z25 rfl rfl,z25 rfl rfl,z17 rfl (z1 fun _=>rfl),trivial⟩⟩
 ·rw [z114 _ _ _ (by simp;omega),y63] at hi2
  subst hi2
  repeat' (first|(apply y83 ok;rfl;conv=>whnf)|(apply z0 (z753 a.ini (by omega));rfl;rfl;conv=>whnf))
  exact z82 [2] (by decide) rfl rfl rfl ⟨z17 rfl (z1 fun _=>rfl),trivial⟩
theorem z434 (g:Graph) (hg:GB g) (l:List Tree) (hl:z174 l) (a:Aut) (ha:AutP a):CallsA Tryz.prog 68 [.agg g.cs,lst 3 Tree.cs' l,.agg a.cs] [] (.tup [lst 1 encL (z41 g (g.st.map (z35 l)) a),ints a.ini]) []:=by
 have h:=z828 g hg l hl a ha
 have hlen:(z41 g (g.st.map (z35 l)) a).length=g.st.length * a.acc.length:=by unfold z41;rw [z101,Nat.mul_comm]
 refine h.lend [] [0] rfl rfl rfl ?_ z11
 show AC.tup [bor _ _ _ (.sref 0 0 _),bor _ _ _ (ints a.ini)]=_
 rw [z328 (w:=1) (es:=(z41 g (g.st.map (z35 l)) a).map z96) rfl rfl rfl (by rw [y50];exact hlen),z428,← hlen]
 rfl
theorem z349 (g:Graph) (hg:GB g) (ls:List Int) (a:Aut) (ha:AutP a):∀ row∈z41 g ls a,∀ x∈row,0≤x∧x < ((g.st.length * a.acc.length:Nat):Int):=by
 intro row hrow x hx
 unfold z41 build at hrow
 obtain ⟨r,_,rfl⟩:=List.mem_map.1 hrow
 obtain ⟨⟨p,v⟩,hp,rfl⟩:=List.mem_map.1 hx
 have hp:=(List.mem_filter.1 hp).1
 unfold z581 at hp
 obtain ⟨i,hi,hp⟩:=List.mem_flatMap.1 hp
 rw [y59] at hi
 unfold z533 at hp
 obtain ⟨to,hto,hp⟩:=List.mem_flatMap.1 hp
 unfold z582 at hp
 obtain ⟨e,he,hp⟩:=List.mem_flatMap.1 hp
 have hin:i < g.nx.length:=by have:=hg.2.1;omega
 rw [z18 hin] at hto
 obtain ⟨j,hj,rfl⟩:=List.mem_iff_getElem.1 hto
 have h1:=((hg.2.2 i hin hin hi).2.2.2 j hj hj).1
 have h2:=(ha.2.2.2 e he).2.1
 unfold z433 at hp
 split at hp
 ·simp only [List.mem_singleton,Prod.mk.injEq] at hp
  obtain ⟨_,rfl⟩:=hp
  have h3:0≤g.nx[i][j] * (a.acc.length:Int):=Int.mul_nonneg h1.1 (by omega)
  have h4:(g.nx[i][j]+1) * (a.acc.length:Int)≤g.st.length * a.acc.length:=Int.mul_le_mul_of_nonneg_right (by omega) (by omega)
  rw [Int.add_mul,Int.one_mul] at h4
  have e:((g.st.length * a.acc.length:Nat):Int)=(g.st.length:Int) * a.acc.length:=by simp
  rw [e]
  dsimp only
  omega
 ·simp at hp
theorem z292 (g:Graph) (hg:GB g) (ls:List Int) (a:Aut) (ha:AutP a):∀ row∈z41 g ls a,row.length≤7372800:=by
 intro row hrow
 obtain ⟨i,hi,rfl⟩:=List.mem_iff_getElem.1 hrow
 exact Nat.le_trans (z311 (N:=a.acc.length * g.st.length) (ps:=z581 g ls a) hi) (z532 g hg ls a ha)
def rk (ranks:List Int) (x:Int):Int:=ranks.getD x.toNat 0
def less (acc:Bool) (r:Int):Int:=if acc then r - 1 else r
def z436 (row ranks:List Int) (rank:Int) (acc:Bool):Prop:=∀ x∈row,0≤rk ranks x∧rk ranks x≤less acc rank
instance {row ranks:List Int} {rank:Int} {acc:Bool} : Decidable (z436 row ranks rank acc):=by unfold z436;infer_instance
theorem z1108 (row ranks:List Int) (rank:Int) (acc:Bool) (hr:row.length≤maxLen) (hb:∀ x∈row,0≤x∧x < ranks.length):CallsA Tryz.prog 97 [ints row,ints ranks,.int rank,.bool acc] [] (.bool (decide (z436 row ranks rank acc))) []:=by
 unfold maxLen at hr
 refine z6 z12 Tryz.func97 rfl rfl 39 Tryz.ntmps97 (by simp) ?_
 repeat' ((apply y83 ok;rfl;conv=>whnf))
 refine z93 (fun k:Nat=>([(0,ints row),(1,ints ranks),(2,.int rank),(3,.bool acc),(9,.int k)],[])) (fun k=>k≤row.length∧∀ i (h:i < row.length),i < k→0≤rk ranks row[i]∧rk ranks row[i]≤less acc rank) (fun k=>row.length - k) 0 ⟨by omega,fun i h hi=>by omega⟩ ⟨[],rfl,by decide,rfl,by repeat' (first|exact True.intro|exact ⟨rfl,rfl⟩|apply y44),by repeat' (exact True.intro)⟩ ?_
 rintro k ⟨hk1,hk2⟩
 by_cases hkl:k < row.length
 ·have hx:=hb row[k] (y45 _)
  have hrk:rk ranks row[k]=ranks[row[k].toNat]'(by omega):=z18 (by omega)
  have hno:(¬ 0≤rk ranks row[k]∨rank < rk ranks row[k]∨(acc=true∧rk ranks row[k]=rank))→¬ z436 row ranks rank acc:=fun h h2=>by
   have h3:=h2 _ (y45 hkl)
   unfold less at h3
   rcases h with h|h|⟨rfl,h⟩
   ·omega
   ·split at h3<;>omega
   ·rw [if_pos rfl] at h3;omega
  have hyes:(0≤rk ranks row[k]∧rk ranks row[k]≤rank∧(acc=false∨rk ranks row[k]≠rank))→∀ i (h:i < row.length),i < k+1→0≤rk ranks row[i]∧rk ranks row[i]≤less acc rank:=fun h i hi hik=>by
   rcases y68 i k with h3|h3
   ·exact hk2 i hi h3
   ·obtain rfl:i=k:=by omega
    refine ⟨h.1,?_⟩
    unfold less
    rcases h.2.2 with h4|h4
    ·rw [h4,if_neg (by simp)];omega
    ·split<;>omega
  rw [hrk] at hno hyes
  repeat' (first|(apply y83 ok;rfl;conv=>whnf)|(apply y44;(first|omega|(unfold inI;omega));conv=>whnf)|(with_reducible apply z4;omega;intro _;conv=>whnf)|(with_reducible apply z33;omega;intro _;conv=>whnf)|(apply z2<;>intro _<;>conv=>whnf)|(apply z47<;>intro _<;>conv=>whnf))
  all_goals first
   |exact z22 rfl (y81 (hno (by first|exact .inl (by omega)|exact .inr (.inl (by omega))|exact .inr (.inr ⟨by assumption,by assumption⟩))))
   |exact z81 (k+1) [] ⟨by omega,hyes ⟨by omega,by omega,by first|exact .inl (by assumption)|exact .inr (by assumption)⟩⟩ (by omega) ⟨rfl,by decide,rfl,by repeat' (first|exact True.intro|exact ⟨rfl,rfl⟩|apply y44),by repeat' (exact True.intro)⟩
   |omega
 ·repeat' (first|(apply y83 ok;rfl;conv=>whnf)|(apply y44;(omega);conv=>whnf)|(with_reducible apply z4;omega;intro _;conv=>whnf)|(with_reducible apply z33;omega;intro _;conv=>whnf)|(apply z2<;>intro _<;>conv=>whnf)|(apply z47<;>intro _<;>conv=>whnf))
  all_goals try (exfalso;omega)
  refine z22 rfl (y80 ?_)
  intro x hx
  obtain ⟨i,hi,rfl⟩:=List.mem_iff_getElem.1 hx
  exact hk2 i hi (by omega)
def z1002 (rows:List (List Int)) (ini:List Int) (acc:List Bool) (N:Nat) (ranks:List Int):Prop :=
 ranks.length=N∧(∀ x∈ranks,-1≤x∧x≤4000)∧(∀ x∈ini,0≤rk ranks x)∧∀ i (h:i < ranks.length),0≤ranks[i]→z436 (rows.getD i []) ranks ranks[i] (acc.getD (i % acc.length) false)
noncomputable instance {rows:List (List Int)} {ini:List Int} {acc:List Bool} {N:Nat} {ranks:List Int} : Decidable (z1002 rows ini acc N ranks):=Classical.propDecidable _
noncomputable def z360 (g:Graph) (l:List Tree) (a:Aut) (c:Cert):Bool:=glB g l && autB a && decide (z1002 (z41 g (g.st.map (z35 l)) a) a.ini a.acc (g.st.length * a.acc.length) c.ranks)
def Cert.mx (c:Cert):Prop:=c.ranks.length≤maxLen
set_option maxHeartbeats 800000 in
theorem z257 (g:Graph) (hg:g.mx) (l:List Tree) (hl:Lmx l) (a:Aut) (ha:a.mx) (c:Cert) (hc:c.mx):CallsA Tryz.prog 26 [.agg g.cs,lst 3 Tree.cs' l,.agg a.cs,.agg c.cs] [] (.bool (z360 g l a c)) []:=by
 have hcm:=hc
 unfold Cert.mx maxLen at hcm
 by_cases hgl:glB g l=true
 ·have hG:=(z111 g).1 (by unfold glB at hgl;exact (Bool.and_eq_true_iff.1 hgl).1)
  have hL:=y9 (by unfold glB at hgl;exact (Bool.and_eq_true_iff.1 hgl).2)
  have k1:=z132 g hg l hl
  rw [hgl,if_pos rfl] at k1
  by_cases hab:autB a=true
  ·have hA:=z120.1 hab
   have hlr:∀ x∈g.st.map (z35 l),0≤x∧x≤7:=fun x hx=>by
    obtain ⟨s,_,rfl⟩:=List.mem_map.1 hx
    exact z178 hL s
   have k2:=z299 g hG (g.st.map (z35 l)) (by simp) hlr a hA
   have hrows:=z349 g hG (g.st.map (z35 l)) a hA
   have hrl:(z41 g (g.st.map (z35 l)) a).length=g.st.length * a.acc.length:=by unfold z41;rw [z101,Nat.mul_comm]
   have hN:=z115 (a:=(g.st.length:Int)) (b:=(a.acc.length:Int)) (A:=60) (B:=64) (by omega) (by have:=hG.1;omega) (by omega) (by have:=hA.1;omega)
   have hN2:((g.st.length * a.acc.length:Nat):Int)=(g.st.length:Int) * a.acc.length:=by simp
   have hini:=hA.2.2.1
   have e:z360 g l a c=decide (z1002 (z41 g (g.st.map (z35 l)) a) a.ini a.acc (g.st.length * a.acc.length) c.ranks):=by unfold z360;rw [hgl,hab];rfl
   rw [e]
   have hrowl:=z292 g hG (g.st.map (z35 l)) a hA
   generalize z41 g (g.st.map (z35 l)) a=rows at k2 hrows hrl hrowl
   have k3:=z123 a ha
   rw [hab] at k3
   have ha1:=hA.1
   refine z6 z12 Tryz.func26 rfl rfl 112 Tryz.ntmps26 (by simp) ?_
   repeat' (first|(apply y83 ok;rfl;conv=>whnf)|(apply y44;((unfold inI;omega));conv=>whnf)|(apply z8<;>intro _<;>conv=>whnf)|(apply z0 (k1);rfl;rfl;conv=>whnf)|(apply z0 (k3);rfl;rfl;conv=>whnf)|(apply z0 (k2);rfl;rfl;conv=>whnf))
   ·rename_i hlen
    exact z22 rfl (y81 fun h=>hlen (by rw [h.1];exact hN2))
   rename_i hlen
   have hcl:c.ranks.length=g.st.length * a.acc.length:=by omega
   have hmod:∀ k:Nat,(((k:Int) % (a.acc.length:Int)).toNat)=k % a.acc.length:=fun k=>by omega
   have hmodlt:∀ k:Nat,k % a.acc.length < a.acc.length:=fun k=>Nat.mod_lt _ (by omega)
   refine z93 (fun k:Nat=>([(4,.ptr 0 none 0),(6,.ptr 1 none 0),(7,.ptr 2 none 0),(11,lst 1 encL rows),(12,.int k)],[.cells 2 [[lst 2 State.cs g.st,lst 1 encL g.nx]],.cells 3 [[lst 1 enI a.ini,lst 1 enB a.acc,lst 4 Trans.cs a.ed]],.cells 1 [[lst 1 enI c.ranks]]])) (fun k=>k≤c.ranks.length∧∀ i (h:i < c.ranks.length),i < k→(-1≤c.ranks[i]∧c.ranks[i]≤4000)∧(0≤c.ranks[i]→z436 (rows.getD i []) c.ranks c.ranks[i] (a.acc.getD (i % a.acc.length) false))) (fun k=>c.ranks.length - k) 0 ⟨by omega,fun i h hi=>by omega⟩ ⟨[0,1,2],rfl,by decide,rfl,by repeat' (first|exact True.intro|exact ⟨rfl,rfl⟩|apply y44),by repeat' (first|exact True.intro|exact z25 rfl rfl|apply y44)⟩ ?_
   rintro k ⟨hk1,hk2⟩
   have hm:=hmod k
   have hml:=hmodlt k
   by_cases hkl:k < c.ranks.length
   ·have hrr:k < rows.length:=by omega
    have hacc:a.acc.getD (k % a.acc.length) false=a.acc[((k:Int) % (a.acc.length:Int)).toNat]'(by omega):=by
     rw [z18 hml];simp only [hm]
    have hrw:rows.getD k []=rows[k]:=z18 hrr
    have hrl2:rows[k].length≤maxLen:=by have:=hrowl _ (y45 hrr);unfold maxLen;omega
    have hxs:∀ x∈rows[k],0≤x∧x < c.ranks.length:=fun x hx=>by
     have:=hrows _ (y45 hrr) x hx
     rw [hcl];exact this
    have hkacc:((k:Int) % (a.acc.length:Int)).toNat < a.acc.length:=by omega
    have hnode:=z1108 rows[k] c.ranks c.ranks[k] (a.acc[((k:Int) % (a.acc.length:Int)).toNat]'hkacc) hrl2 hxs
    have hno:z1002 rows a.ini a.acc (g.st.length * a.acc.length) c.ranks→(-1≤c.ranks[k]∧c.ranks[k]≤4000)∧(0≤c.ranks[k]→z436 rows[k] c.ranks c.ranks[k] (a.acc[((k:Int) % (a.acc.length:Int)).toNat]'hkacc)):=fun h=>by
     have h1:=h.2.2.2 k hkl
     rw [hrw,hacc] at h1
     exact ⟨h.2.1 _ (y45 _),h1⟩
    have hyes:((-1≤c.ranks[k]∧c.ranks[k]≤4000)∧(0≤c.ranks[k]→z436 rows[k] c.ranks c.ranks[k] (a.acc[((k:Int) % (a.acc.length:Int)).toNat]'hkacc)))→∀ i (h:i < c.ranks.length),i < k+1→(-1≤c.ranks[i]∧c.ranks[i]≤4000)∧(0≤c.ranks[i]→z436 (rows.getD i []) c.ranks c.ranks[i] (a.acc.getD (i % a.acc.length) false)):=fun h i hi hik=>by
     rcases y68 i k with h3|h3
     ·exact hk2 i hi h3
     ·obtain rfl:i=k:=by omega
      rw [hrw,hacc];exact h
    repeat' (first|(apply y83 ok;rfl;conv=>whnf)|(apply z7;kernel_rfl;conv=>whnf)|(apply y44;(first|omega|(unfold inI;omega));conv=>whnf)|(with_reducible apply z4;omega;intro _;conv=>whnf)|(with_reducible apply z33;omega;intro _;conv=>whnf)|(apply z2<;>intro _<;>conv=>whnf)|(apply z8<;>intro _<;>conv=>whnf)|(apply z0 (hnode);rfl;rfl;conv=>whnf))
    ·exact z22 rfl (y81 fun h=>by have:=(hno h).1;omega)
    ·exact z22 rfl (y81 fun h=>by have:=(hno h).1;omega)
    ·rename_i hn
     exact z22 rfl (y81 fun h=>hn ((hno h).2 (by assumption)))
    ·rename_i hn
     exact z81 (k+1) [0,1,2] ⟨by omega,hyes ⟨by omega,fun _=>hn⟩⟩ (by omega) ⟨rfl,by decide,rfl,by repeat' (first|exact True.intro|exact ⟨rfl,rfl⟩|apply y44),by repeat' (first|exact True.intro|exact z25 rfl rfl|apply y44)⟩
    ·rename_i hn
     exact z81 (k+1) [0,1,2] ⟨by omega,hyes ⟨by omega,fun h=>absurd h hn⟩⟩ (by omega) ⟨rfl,by decide,rfl,by repeat' (first|exact True.intro|exact ⟨rfl,rfl⟩|apply y44),by repeat' (first|exact True.intro|exact z25 rfl rfl|apply y44)⟩
    ·omega
   ·repeat' (first|(apply y83 ok;rfl;conv=>whnf)|(apply z7;kernel_rfl;conv=>whnf)|(apply y44;(omega);conv=>whnf)|(with_reducible apply z4;omega;intro _;conv=>whnf)|(with_reducible apply z33;omega;intro _;conv=>whnf)|(apply z2<;>intro _<;>conv=>whnf))
    all_goals try (exfalso;omega)
    obtain rfl:k=c.ranks.length:=by omega
    have hil:=hini.le (by omega)
    refine z93 (fun j:Nat=>([(6,.ptr 1 none 0),(7,.ptr 2 none 0),(13,.int j)],[.cells 2 [[lst 2 State.cs g.st,lst 1 encL g.nx]],.cells 3 [[lst 1 enI a.ini,lst 1 enB a.acc,lst 4 Trans.cs a.ed]],.cells 1 [[lst 1 enI c.ranks]]])) (fun j=>j≤a.ini.length∧∀ i (h:i < a.ini.length),i < j→0≤rk c.ranks a.ini[i]) (fun j=>a.ini.length - j) 0 ⟨by omega,fun i h hi=>by omega⟩ ⟨[0,1,2],rfl,by decide,rfl,by repeat' (first|exact True.intro|exact ⟨rfl,rfl⟩|apply y44),by repeat' (first|exact True.intro|exact z25 rfl rfl|apply y44)⟩ ?_
    rintro j ⟨hj1,hj2⟩
    by_cases hjl:j < a.ini.length
    ·have hin:=(hini j hjl hjl).1
     have hb1:=z115 (a:=(g.st.length:Int) - 1) (b:=(a.acc.length:Int)) (A:=60) (B:=64) (by have:=hG.1;omega) (by have:=hG.1;omega) (by omega) (by omega)
     rw [Int.sub_mul,Int.one_mul] at hb1
     have hix:a.ini[j].toNat < c.ranks.length:=by rw [hcl];omega
     have hrk:rk c.ranks a.ini[j]=c.ranks[a.ini[j].toNat]'hix:=z18 hix
     repeat' (first|(apply y83 ok;rfl;conv=>whnf)|(apply z7;kernel_rfl;conv=>whnf)|(apply y44;(first|omega|(unfold inI;omega));conv=>whnf)|(with_reducible apply z4;omega;intro _;conv=>whnf)|(with_reducible apply z33;omega;intro _;conv=>whnf)|(apply z2<;>intro _<;>conv=>whnf))
     ·exact z22 rfl (y81 fun h=>by have:=h.2.2.1 _ (y45 hjl);rw [hrk] at this;omega)
     ·refine z81 (j+1) [0,1,2] ⟨by omega,fun i hi hij=>?_⟩ (by omega) ⟨rfl,by decide,rfl,by repeat' (first|exact True.intro|exact ⟨rfl,rfl⟩|apply y44),by repeat' (first|exact True.intro|exact z25 rfl rfl|apply y44)⟩
      rcases y68 i j with h3|h3
      ·exact hj2 i hi h3
      ·obtain rfl:i=j:=by omega
       rw [hrk];omega
     ·omega
    ·repeat' (first|(apply y83 ok;rfl;conv=>whnf)|(apply z7;kernel_rfl;conv=>whnf)|(apply y44;(omega);conv=>whnf)|(with_reducible apply z4;omega;intro _;conv=>whnf)|(with_reducible apply z33;omega;intro _;conv=>whnf)|(apply z2<;>intro _<;>conv=>whnf))
     all_goals try (exfalso;omega)
     refine z22 rfl (y80 ⟨hcl,fun x hx=>?_,fun x hx=>?_,fun i h=>?_⟩)
     ·obtain ⟨i,hi,rfl⟩:=List.mem_iff_getElem.1 hx
      exact (hk2 i hi hi).1
     ·obtain ⟨i,hi,rfl⟩:=List.mem_iff_getElem.1 hx
      exact hj2 i hi (by omega)
     ·exact (hk2 i h h).2
  ·have hab:=(y70 _).mp hab
   have e:z360 g l a c=false:=by unfold z360;rw [hab,Bool.and_false];rfl
   have k3:=z123 a ha
   rw [hab] at k3
   rw [e]
   refine z6 z12 Tryz.func26 rfl rfl 112 Tryz.ntmps26 (by simp) ?_
   repeat' (first|(apply y83 ok;rfl;conv=>whnf)|(apply z0 (k1);rfl;rfl;conv=>whnf)|(apply z0 (k3);rfl;rfl;conv=>whnf))
   all_goals (refine z22 rfl ?_;rfl)
 ·have k1:=z132 g hg l hl
  have hgl:=(y70 _).mp hgl
  rw [hgl,if_neg (by simp)] at k1
  have e:z360 g l a c=false:=by unfold z360;rw [hgl];rfl
  rw [e]
  refine z6 z12 Tryz.func26 rfl rfl 112 Tryz.ntmps26 (by simp) ?_
  repeat' (first|(apply y83 ok;rfl;conv=>whnf)|(apply z0 (k1);rfl;rfl;conv=>whnf))
  all_goals (refine z22 rfl ?_;rfl)
end Go.Proofs.YtahhobgjcfionaaGreat
