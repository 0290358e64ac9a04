/- A part of the proofs over this program: T55G, T308, T309, T310, T307, T62G, T69, T188H. -/
import Derived.Test.YtnfoijopccdjeaaGreatG0
import Derived.Test.YtnfoijopccdjeaaGreatG1
import Derived.Test.YtnfoijopccdjeaaGreatG2
import Derived.Test.YtnfoijopccdjeaaGreatG3
import Derived.Test.YtnfoijopccdjeaaGreatP0
import Derived.Test.YtnfoijopccdjeaaGreatP1
import Derived.Test.YtnfoijopccdjeaaGreatP2
import Derived.Test.YtnfoijopccdjeaaGreatP3
import Derived.Test.YtnfoijopccdjeaaGreatP4
import Derived.Test.YtnfoijopccdjeaaGreatP5
import Derived.Test.YtnfoijopccdjeaaGreatP6
import Derived.Test.YtnfoijopccdjeaaGreatP7
set_option linter.all false
namespace Go.Proofs.YtnfoijopccdjeaaGreat
open Go.Gl
section
attribute [local irreducible] z16 AWP z29 z32 z30
theorem z1098 (l:List Tree) (hl:l.length≤1048576) (hel:∀ t∈l,CallsA Tryz.prog 18 [z20 Tree.cs' t] [] (.agg [.int t.kind,.int t.val,.sref 0 0 t.kids.length]) [.cells 3 (t.kids.map Tree.co)]):CallsA Tryz.prog 62 [lst 3 Tree.cs' l] [] (.sref 0 0 l.length) [.cells 3 (l.map Tree.co')]:=by
 refine z7 z9 Tryz.func62 rfl rfl 23 Tryz.ntmps62 (by simp) ?_
 repeat' (first|(apply y4 ok;rfl;conv=>whnf)|(apply y50;((dsimp only;omega));conv=>whnf))
 refine z85 (fun k:Nat=>([(0,lst 3 Tree.cs' l),(3,.sref 0 0 l.length),(4,.int k)],[.cells 3 ((l.take k).map Tree.co'++List.replicate (l.length - k) [.int 0,.int 0,.nils])])) (fun k=>k≤l.length) (fun k=>l.length - k) 0 (by omega) ⟨[0],rfl,by decide,rfl,by repeat' (first|exact True.intro|exact ⟨rfl,rfl⟩|apply y50),by repeat' (first|exact True.intro|exact z25 (by rfl) (by (first|exact z33|exact z19 rfl))|apply y50)⟩ ?_
 intro k hk
 by_cases hkl:k < l.length
 ·repeat' (first|((fail_if_success apply z65 4);(fail_if_success apply z50 4);apply y4 ok;rfl;conv=>whnf)|(apply y50;(omega);conv=>whnf)|(with_reducible apply z8;omega;intro _;conv=>whnf)|(apply z323;omega;conv=>whnf)|(apply z5<;>intro _<;>conv=>whnf)|(apply z35 [] [] [1] (hel l[k] (y51 _));rfl;(focus ((repeat' (exact z14))<;>(fail)));rfl;rfl;rfl;rfl;rfl;(focus ((repeat' (first|exact z12|apply z15))<;>((refine z22 ?_;(exact z4 y19)))));(exact .inl rfl);conv=>whnf))
  ·refine y92 (Gl.Reach.absorb 0 1 k 2 rfl (z148 rfl (by rw [z400 hk];exact hkl)) rfl rfl (by simp) rfl (z4 y19) rfl) ?_
   conv=>whnf
   repeat' (first|(apply y4 ok;rfl;conv=>whnf)|(apply y50;((unfold inI;omega));conv=>whnf))
   exact z78 (k+1) [0] (by omega) (by omega) ⟨rfl,by decide,rfl,⟨⟨rfl,rfl⟩,⟨rfl,rfl⟩,⟨rfl,rfl⟩,trivial⟩,⟨z25 (z39 (z399 hkl rfl rfl)) (z52 (z4 fun _=>rfl) (z19 rfl)),trivial⟩⟩
  ·omega
 ·repeat' (first|(apply y4 ok;rfl;conv=>whnf)|(apply y50;(omega);conv=>whnf)|(with_reducible apply z8;omega;intro _;conv=>whnf)|(apply z5<;>intro _<;>conv=>whnf))
  ·omega
  ·obtain rfl:k=l.length:=by omega
   exact z252 rfl (z4 fun _=>rfl) rfl (z324 _ _ _ _ rfl)
theorem toFm_new (t:Tree):t.sz≤1048576→CallsA Tryz.prog 18 [z20 Tree.cs' t] [] (.agg [.int t.kind,.int t.val,.sref 0 0 t.kids.length]) [.cells 3 (t.kids.map Tree.co)]:=by
 induction t using y32 with|h t ih=>?_
 intro hm
 rw [y44] at hm
 have hk:=z1098 t.kids (by omega) (fun s hs=>ih s hs (by
  have:=z180 Tree.sz hs
  omega))
 rw [← y18] at hk
 rw [y17]
 refine z7 z9 Tryz.func18 rfl rfl 15 Tryz.ntmps18 (by simp) ?_
 repeat' (first|(apply y4 ok;rfl;conv=>whnf)|(apply z35 [] [] [3] (hk);rfl;(focus ((repeat' (exact z14))<;>(fail)));rfl;rfl;rfl;rfl;rfl;(focus ((repeat' (first|exact z12|apply z15))<;>((refine z22 ?_;(exact z4 y19)))));(exact .inl rfl);conv=>whnf))
 exact z70 [3] (by decide) rfl rfl rfl ⟨z25 rfl (z4 y19),trivial⟩
theorem z1016 (l : List Tree) (k : Int) (hl : l.length ≤ 1048576) (hel : ∀ t ∈ l, ∀ k : Int, 0 ≤ k → k + 2 * (t.sz : Int) ≤ 1000000000000 → CallsA Tryz.prog 70 [.sref 0 0 t.kids.length, .int k] [.cells 3 (t.kids.map Tree.co)] (.int (k + 2 * (t.sz : Int))) [.cells 3 (List.replicate t.kids.length [.any, .any, .any])]) (h0 : 0 ≤ k) (h1 : k + 2 * (l.length + (l.map Tree.sz).sum : Nat) ≤ 1000000000000) :
    CallsA Tryz.prog 70 [.sref 0 0 l.length,.int k] [.cells 3 (l.map Tree.co')] (.int (k+2 * (l.length+(l.map Tree.sz).sum:Nat))) [.cells 3 (List.replicate l.length [.any,.any,.any])]:=by
  refine z7 z9 Tryz.func70 rfl rfl 34 Tryz.ntmps70 (by simp) ?_
  repeat' ((apply y4 ok;rfl;conv=>whnf))
  refine z85 (fun i:Nat=>([(0,.sref 0 0 l.length),(1,.int (k+2 * (i+((l.take i).map Tree.sz).sum:Nat))),(5,.int i)],[.cells 3 (mixL (fun _=>[.any,.any,.any]) (l.map Tree.co') i)])) (fun i=>i≤l.length) (fun i=>l.length - i) 0 (by omega) ⟨[0],rfl,by decide,rfl,⟨⟨rfl,rfl⟩,⟨rfl,z139 (by simp)⟩,⟨rfl,rfl⟩,trivial⟩,⟨z25 (z39 (z238 _ _).symm) (z112 (fun _=>rfl) (fun _=>rfl)),trivial⟩⟩ ?_
  intro i hi
  by_cases hil:i < l.length
  · have e:=z172 Tree.sz l i hil
    have e2:=z87 Tree.sz l (i+1)
    have hc:=hel l[i] (y51 _)
    have hm2:i < (mixL (fun _=>[AC.any,.any,.any]) (l.map Tree.co') i).length:=by rw [z387 (by simpa using hi)];simpa using hil
    have hin:((i:Int)).toNat=i:=y83 i
    generalize hF:mixL (fun _=>[AC.any,.any,.any]) (l.map Tree.co') i=F at hm2
    have hg:F[i]?=some (Tree.co' l[i]):=by rw [← hF];exact z319 hil
    repeat' (first|((fail_if_success apply z65 8);(fail_if_success apply z50 8);apply y4 ok;rfl;conv=>whnf)|(apply z225;exact hin;exact hm2;conv=>whnf)|(apply z13;exact hin;exact hg;conv=>whnf)|(apply y50;(first|omega|(unfold inI;omega));conv=>whnf)|(apply z5<;>intro _<;>conv=>whnf))
    · refine y92 (Gl.Reach.exposeD (e:=[.int (k+2 * (i+((l.take i).map Tree.sz).sum:Nat)),.int (k+2 * (i+((l.take i).map Tree.sz).sum:Nat)+1),.own 3 (l[i].kids.map Tree.co)]) 0 i 2 rfl (z148 rfl (by rw [y88];exact hm2)) rfl rfl) ?_
      conv=>whnf
      rw [y56]
      repeat' (first|((fail_if_success apply z65 3);(fail_if_success apply z50 3);apply y4 ok;rfl;conv=>whnf)|(apply z225;exact hin;(rw [y88,y88];exact hm2);conv=>whnf)|(apply y50;(omega);conv=>whnf)|(apply z35 [1] [] [] (hc (k+2 * (i+((l.take i).map Tree.sz).sum:Nat)+1+1) (by omega) (by omega));rfl;(focus ((repeat' (first|exact z14|apply z27))<;>((refine z41 rfl ?_;(exact z4 y19)))));rfl;rfl;rfl;rfl;rfl;(focus ((repeat' (first|exact z12|apply z15))<;>((refine z22 ?_;(exact z19 rfl)))));(exact .inl rfl);conv=>whnf))
      refine y92 (Gl.Reach.forget 0 i [.any,.any,.any] rfl (z148 rfl (by rw [y88,y88];exact hm2)) rfl rfl) ?_
      conv=>whnf
      repeat' (first|(apply y4 ok;rfl;conv=>whnf)|(apply y50;((unfold inI;omega));conv=>whnf))
      exact z78 (i+1) [0] (by omega) (by omega) ⟨rfl,by decide,rfl,⟨⟨rfl,rfl⟩,⟨rfl,z139 (by omega)⟩,⟨rfl,rfl⟩,trivial⟩,⟨z25 (z39 (by rw [List.set_set,List.set_set,Nat.add_zero,hin,List.set_set,← hF,z318 (by simpa using hil) rfl rfl])) (z112 (fun _=>rfl) (fun _=>rfl)),trivial⟩⟩
    · omega
  · repeat' (first|(apply y4 ok;rfl;conv=>whnf)|(apply y50;(omega);conv=>whnf)|(apply z5<;>intro _<;>conv=>whnf))
    · omega
    · obtain rfl:i=l.length:=by omega
      rw [y62]
      exact z70 [0] (by decide) rfl rfl rfl ⟨z25 (z39 (by rw [z320 (by simp),z253])) (z19 rfl),trivial⟩
theorem z1151 (t:Tree):t.sz≤1048576→∀ k:Int,0≤k→k+2 * (t.sz:Int)≤1000000000000→CallsA Tryz.prog 70 [.sref 0 0 t.kids.length,.int k] [.cells 3 (t.kids.map Tree.co)] (.int (k+2 * (t.sz:Int))) [.cells 3 (List.replicate t.kids.length [.any,.any,.any])]:=by
 induction t using y32 with|h t ih=>?_
 intro hm k h0 h1
 have hz:=y44 t
 have hk:=z1016 t.kids k (by omega) (fun s hs=>ih s hs (by
  have:=z180 Tree.sz hs
  omega)) h0 (by rw [← hz];exact h1)
 rw [← y18,← hz] at hk
 exact hk
end
end Go.Proofs.YtnfoijopccdjeaaGreat
namespace Go.Proofs.YtnfoijopccdjeaaGreat
open Go.Gl
attribute [local irreducible] z16 AWP z29 z32 z30
def Edge.co (e:Edge):List AC:=[.int e.fr,.int e.to,.int e.gd.kind,.int e.gd.val,.own 3 (e.gd.kids.map Tree.co),.int e.var,.int e.val.kind,.int e.val.val,.own 3 (e.val.kids.map Tree.co),.int e.sync]
def Proc.co (p:Proc):List AC:=[.int p.loc,.own 10 (p.es.map Edge.co)]
theorem Edge.co_flat (e:Edge):z240 (Edge.co e)=true:=rfl
theorem Proc.co_flat (p:Proc):z240 (Proc.co p)=true:=rfl
theorem z1088 (l:List Tree):z62 (l.map Tree.co)=l.map Tree.cs':=by rw [y18];exact y45 l
theorem Edge.unown_co (l:List Edge):z62 (l.map Edge.co)=l.map Edge.cs:=by
 rw [z104,List.map_map]
 refine List.map_congr_left fun e _=>?_
 simp only [Function.comp,Edge.co,Edge.cs,List.map_cons,List.map_nil,AC.unown,z1088,lst,y56]
theorem Proc.unown_co (l:List Proc):z62 (l.map Proc.co)=l.map Proc.cs:=by
 rw [z104,List.map_map]
 refine List.map_congr_left fun e _=>?_
 simp only [Function.comp,Proc.co,Proc.cs,List.map_cons,List.map_nil,AC.unown,Edge.unown_co,lst,y56]
theorem z639 {objs : Nat → AObj} {π Bn : List Nat} {o1 o2 : Nat} {s : Sys} (h1 : objs o1 = .cells 1 (s.init.map enI)) (h2 : objs o2 = .cells 2 (s.ps.map Proc.co)) (h3 : idx π o1 = none) (h4 : inB Bn o1 = true) (h5 : idx π o2 = none) (h6 : inB Bn o2 = true) :
    bor objs π Bn (.agg [.sref o1 0 s.init.length,.sref o2 0 s.ps.length])=.agg s.cs :=
  z916 (z23 (z91 h1 h3 h4) (z23 (z143 h2 h5 h6 (by simp) (Proc.unown_co s.ps)) z48))
theorem z983 (e:Edge) (h:e.bg):CallsA Tryz.prog 251 [z20 Edge.cs e] [] (.agg [.int e.fr,.int e.to,.int e.gd.kind,.int e.gd.val,.sref 0 0 e.gd.kids.length,.int e.var,.int e.val.kind,.int e.val.val,.sref 1 0 e.val.kids.length,.int e.sync]) [.cells 3 (e.gd.kids.map Tree.co),.cells 3 (e.val.kids.map Tree.co)]:=by
 have c1:=z418 e.gd h.gd
 have c2:=z418 e.val h.val
 rw [y17] at c1 c2
 unfold z20
 refine z7 z9 Tryz.func251 rfl rfl 25 Tryz.ntmps251 (by simp) ?_
 repeat' (first|(apply y4 ok;rfl;conv=>whnf)|(apply z35 [] [] [3] (c1);rfl;(focus ((repeat' (exact z14))<;>(fail)));rfl;rfl;rfl;rfl;rfl;(focus ((repeat' (first|exact z12|apply z15))<;>((refine z22 ?_;(exact z4 y19)))));(exact .inl rfl);conv=>whnf)|(apply z35 [] [] [4] (c2);rfl;(focus ((repeat' (exact z14))<;>(fail)));rfl;rfl;rfl;rfl;rfl;(focus ((repeat' (first|exact z12|apply z15))<;>((refine z22 ?_;(exact z4 y19)))));(exact .inl rfl);conv=>whnf))
 exact z70 [3,4] (by decide) rfl rfl rfl ⟨z25 rfl (z4 y19),z25 rfl (z4 y19),trivial⟩
theorem z845 (l:List Edge) (hl:l.length≤1048576) (hm:∀ e∈l,e.bg):CallsA Tryz.prog 202 [lst 10 Edge.cs l] [] (.sref 0 0 l.length) [.cells 10 (l.map Edge.co)]:=by
 refine z7 z9 Tryz.func202 rfl rfl 23 Tryz.ntmps202 (by simp) ?_
 repeat' (first|(apply y4 ok;rfl;conv=>whnf)|(apply y50;((dsimp only;omega));conv=>whnf))
 refine z85 (fun k:Nat=>([(0,lst 10 Edge.cs l),(3,.sref 0 0 l.length),(4,.int k)],[.cells 10 ((l.take k).map Edge.co++List.replicate (l.length - k) [.int 0,.int 0,.int 0,.int 0,.nils,.int 0,.int 0,.int 0,.nils,.int 0])])) (fun k=>k≤l.length) (fun k=>l.length - k) 0 (by omega) ⟨[0],rfl,by decide,rfl,by repeat' (first|exact True.intro|exact ⟨rfl,rfl⟩|apply y50),by repeat' (first|exact True.intro|exact z25 (by rfl) (by (first|exact z33|exact z19 rfl))|apply y50)⟩ ?_
 intro k hk
 by_cases hkl:k < l.length
 ·repeat' (first|((fail_if_success apply z65 4);(fail_if_success apply z50 4);apply y4 ok;rfl;conv=>whnf)|(apply y50;(omega);conv=>whnf)|(with_reducible apply z8;omega;intro _;conv=>whnf)|(apply z323;omega;conv=>whnf)|(apply z5<;>intro _<;>conv=>whnf)|(apply z35 [] [] [1,2] (z983 l[k] (hm _ (y51 _)));rfl;(focus ((repeat' (exact z14))<;>(fail)));rfl;rfl;rfl;rfl;rfl;(focus ((repeat' (first|exact z12|apply z15))<;>((refine z22 ?_;(exact z4 y19)))));(exact .inl rfl);conv=>whnf))
  ·refine y92 (Gl.Reach.absorb 0 1 k 4 rfl (z148 rfl (by rw [z400 hk];exact hkl)) rfl rfl (by simp) rfl (z4 y19) rfl) ?_
   conv=>whnf
   refine y92 (Gl.Reach.absorb 0 2 k 8 rfl (z148 rfl (by rw [y88,z400 hk];exact hkl)) rfl rfl (by simp) rfl (z4 y19) rfl) ?_
   conv=>whnf
   repeat' (first|(apply y4 ok;rfl;conv=>whnf)|(apply y50;((unfold inI;omega));conv=>whnf))
   exact z78 (k+1) [0] (by omega) (by omega) ⟨rfl,by decide,rfl,⟨⟨rfl,rfl⟩,⟨rfl,rfl⟩,⟨rfl,rfl⟩,trivial⟩,⟨z25 (z39 (z800 hkl rfl rfl)) (z52 (z4 fun _=>rfl) (z19 rfl)),trivial⟩⟩
  ·omega
 ·repeat' (first|(apply y4 ok;rfl;conv=>whnf)|(apply y50;(omega);conv=>whnf)|(with_reducible apply z8;omega;intro _;conv=>whnf)|(apply z5<;>intro _<;>conv=>whnf))
  ·omega
  ·obtain rfl:k=l.length:=by omega
   exact z252 rfl (z4 fun _=>rfl) rfl (z324 _ _ _ _ rfl)
theorem z655 (p:Proc) (h:p.bg):CallsA Tryz.prog 140 [z20 Proc.cs p] [] (.agg [.int p.loc,.sref 0 0 p.es.length]) [.cells 10 (p.es.map Edge.co)]:=by
 have c1:=z845 p.es h.len h.el
 unfold z20
 refine z7 z9 Tryz.func140 rfl rfl 12 Tryz.ntmps140 (by simp) ?_
 repeat' (first|(apply y4 ok;rfl;conv=>whnf)|(apply z35 [] [] [3] (c1);rfl;(focus ((repeat' (exact z14))<;>(fail)));rfl;rfl;rfl;rfl;rfl;(focus ((repeat' (first|exact z12|apply z15))<;>((refine z22 ?_;((exact z4 (fun _=>rfl)))))));(exact .inl rfl);conv=>whnf))
 exact z70 [3] (by decide) rfl rfl rfl ⟨z25 rfl (z4 fun _=>rfl),trivial⟩
theorem z587 (l:List Proc) (hl:l.length≤1048576) (hm:∀ p∈l,p.bg):CallsA Tryz.prog 60 [lst 2 Proc.cs l] [] (.sref 0 0 l.length) [.cells 2 (l.map Proc.co)]:=by
 refine z7 z9 Tryz.func60 rfl rfl 23 Tryz.ntmps60 (by simp) ?_
 repeat' (first|(apply y4 ok;rfl;conv=>whnf)|(apply y50;((dsimp only;omega));conv=>whnf))
 refine z85 (fun k:Nat=>([(0,lst 2 Proc.cs l),(3,.sref 0 0 l.length),(4,.int k)],[.cells 2 ((l.take k).map Proc.co++List.replicate (l.length - k) [.int 0,.nils])])) (fun k=>k≤l.length) (fun k=>l.length - k) 0 (by omega) ⟨[0],rfl,by decide,rfl,by repeat' (first|exact True.intro|exact ⟨rfl,rfl⟩|apply y50),by repeat' (first|exact True.intro|exact z25 (by rfl) (by (first|exact z33|exact z19 rfl))|apply y50)⟩ ?_
 intro k hk
 by_cases hkl:k < l.length
 ·repeat' (first|((fail_if_success apply z65 4);(fail_if_success apply z50 4);apply y4 ok;rfl;conv=>whnf)|(apply y50;(omega);conv=>whnf)|(with_reducible apply z8;omega;intro _;conv=>whnf)|(apply z323;omega;conv=>whnf)|(apply z5<;>intro _<;>conv=>whnf)|(apply z35 [] [] [1] (z655 l[k] (hm _ (y51 _)));rfl;(focus ((repeat' (exact z14))<;>(fail)));rfl;rfl;rfl;rfl;rfl;(focus ((repeat' (first|exact z12|apply z15))<;>((refine z22 ?_;((exact z4 (fun _=>rfl)))))));(exact .inl rfl);conv=>whnf))
  ·refine y92 (Gl.Reach.absorb 0 1 k 1 rfl (z148 rfl (by rw [z400 hk];exact hkl)) rfl rfl (by simp) rfl (z4 fun _=>rfl) rfl) ?_
   conv=>whnf
   repeat' (first|(apply y4 ok;rfl;conv=>whnf)|(apply y50;((unfold inI;omega));conv=>whnf))
   exact z78 (k+1) [0] (by omega) (by omega) ⟨rfl,by decide,rfl,⟨⟨rfl,rfl⟩,⟨rfl,rfl⟩,⟨rfl,rfl⟩,trivial⟩,⟨z25 (z39 (z399 hkl rfl rfl)) (z52 (z4 fun _=>rfl) (z19 rfl)),trivial⟩⟩
  ·omega
 ·repeat' (first|(apply y4 ok;rfl;conv=>whnf)|(apply y50;(omega);conv=>whnf)|(with_reducible apply z8;omega;intro _;conv=>whnf)|(apply z5<;>intro _<;>conv=>whnf))
  ·omega
  ·obtain rfl:k=l.length:=by omega
   exact z252 rfl (z4 fun _=>rfl) rfl (z324 _ _ _ _ rfl)
theorem toSysN {s:Sys} (h:SysOk s):CallsA Tryz.prog 16 [.agg s.cs] [] (.agg [.sref 0 0 s.init.length,.sref 1 0 s.ps.length]) [.cells 1 (s.init.map enI),.cells 2 (s.ps.map Proc.co)]:=by
 have c1:=z982 s.init h.bg.init
 have c2:=z587 s.ps h.bg.len h.bg.el
 refine z7 z9 Tryz.func16 rfl rfl 13 Tryz.ntmps16 (by simp) ?_
 repeat' (first|(apply y4 ok;rfl;conv=>whnf)|(apply z35 [] [] [3] (c1);rfl;(focus ((repeat' (exact z14))<;>(fail)));rfl;rfl;rfl;rfl;rfl;(focus ((repeat' (first|exact z12|apply z15))<;>((refine z22 ?_;((exact z4 (fun _=>rfl)))))));(exact .inl rfl);conv=>whnf)|(apply z35 [] [] [4] (c2);rfl;(focus ((repeat' (exact z14))<;>(fail)));rfl;rfl;rfl;rfl;rfl;(focus ((repeat' (first|exact z12|apply z15))<;>((refine z22 ?_;((exact z4 (fun _=>rfl)))))));(exact .inl rfl);conv=>whnf))
 exact z70 [3,4] (by decide) rfl rfl rfl ⟨z25 rfl (z4 fun _=>rfl),z25 rfl (z4 fun _=>rfl),trivial⟩
def Edge.ml (e:Edge):Nat:=8+2 * e.gd.sz+2 * e.val.sz
def Proc.ml (p:Proc):Nat:=1+(p.es.map Edge.ml).sum
def Sys.ml (s:Sys):Nat:=s.init.length+(s.ps.map Proc.ml).sum
theorem z951 (t:Tree) (h:t.sz≤1048576) (k:Int) (h0:0≤k) (h1:k+2 * (t.sz:Int)≤1000000000000):CallsA Tryz.prog 24 [.sref 0 0 t.kids.length,.int k] [.cells 3 (t.kids.map Tree.co)] (.int (k+2 * (t.sz:Int))) [.cells 3 (List.replicate t.kids.length [.any,.any,.any])]:=z540 t h k h0 h1
def z721:List AC:=[.any,.any,.any,.any,.any,.any,.any,.any,.any,.any]
set_option maxHeartbeats 3200000 in
theorem z772 (l:List Edge) (k:Int) (hl:l.length≤1048576) (hm:∀ e∈l,e.bg) (h0:0≤k) (h1:k+(l.map Edge.ml).sum≤1000000000000):CallsA Tryz.prog 142 [.sref 0 0 l.length,.int k] [.cells 10 (l.map Edge.co)] (.int (k+(l.map Edge.ml).sum)) [.cells 10 (List.replicate l.length z721)]:=by
 refine z7 z9 Tryz.func142 rfl rfl 89 Tryz.ntmps142 (by simp) ?_
 repeat' ((apply y4 ok;rfl;conv=>whnf))
 refine z85 (fun i:Nat=>([(0,.sref 0 0 l.length),(1,.int (k+((l.take i).map Edge.ml).sum)),(5,.int i)],[.cells 10 (mixL (fun _=>z721) (l.map Edge.co) i)])) (fun i=>i≤l.length) (fun i=>l.length - i) 0 (by omega) ⟨[0],rfl,by decide,rfl,⟨⟨rfl,rfl⟩,⟨rfl,z139 (by simp)⟩,⟨rfl,rfl⟩,trivial⟩,⟨z25 (z39 (z238 _ _).symm) (z112 (fun _=>rfl) (fun _=>rfl)),trivial⟩⟩ ?_
 intro i hi
 by_cases hil:i < l.length
 ·have e:=z172 Edge.ml l i hil
  have e2:=z87 Edge.ml l (i+1)
  have hs:=hm l[i] (y51 _)
  have hz:Edge.ml l[i]=8+2 * l[i].gd.sz+2 * l[i].val.sz:=rfl
  have hm2:i < (mixL (fun _=>z721) (l.map Edge.co) i).length:=by rw [z387 (by simpa using hi)];simpa using hil
  have hin:((i:Int)).toNat=i:=y83 i
  have hg:(mixL (fun _=>z721) (l.map Edge.co) i)[i]?=some (Edge.co l[i]):=z319 hil
  have hset:(mixL (fun _=>z721) (l.map Edge.co) i).set i z721=mixL (fun _=>z721) (l.map Edge.co) (i+1):=z318 (by simpa using hil) rfl rfl
  generalize mixL (fun _=>z721) (l.map Edge.co) i=F at *
  generalize l[i]=d at *
  generalize ((l.take i).map Edge.ml).sum=a at *
  have c1:=z951 d.gd hs.gd (k+a+1+1+1+1) (by omega) (by have:=hs.gd;omega)
  have c2:=z951 d.val hs.val (k+a+1+1+1+1+2 * (d.gd.sz:Int)+1+1+1) (by omega) (by have:=hs.gd;have:=hs.val;omega)
  repeat' (first|((fail_if_success apply z65 4);(fail_if_success apply z50 4);apply y4 ok;rfl;conv=>whnf)|(apply z5<;>intro _<;>conv=>whnf))
  ·refine y92 (Gl.Reach.exposeD (e:=Edge.co d) 0 i 4 rfl hg rfl rfl) ?_
   conv=>whnf
   refine y92 (Gl.Reach.exposeD (e:=[.int d.fr,.int d.to,.int d.gd.kind,.int d.gd.val,.sref 1 0 (d.gd.kids.map Tree.co).length,.int d.var,.int d.val.kind,.int d.val.val,.own 3 (d.val.kids.map Tree.co),.int d.sync]) 0 i 8 rfl (z148 rfl hm2) rfl rfl) ?_
   conv=>whnf
   rw [y56,y56]
   repeat' (first|((fail_if_success apply z65 3);(fail_if_success apply z50 3);apply y4 ok;rfl;conv=>whnf)|(apply z225;exact hin;((try simp only [y88]);exact hm2);conv=>whnf)|(apply y50;(first|omega|(unfold inI;omega));conv=>whnf)|(apply z35 [1] [] [] (c1);rfl;(focus ((repeat' (first|exact z14|apply z27))<;>((refine z41 rfl ?_;(exact z4 y19)))));rfl;rfl;rfl;rfl;rfl;(focus ((repeat' (first|exact z12|apply z15))<;>((refine z22 ?_;(exact z19 rfl)))));(exact .inl rfl);conv=>whnf)|(apply z35 [2] [] [] (c2);rfl;(focus ((repeat' (first|exact z14|apply z27))<;>((refine z41 rfl ?_;(exact z4 y19)))));rfl;rfl;rfl;rfl;rfl;(focus ((repeat' (first|exact z12|apply z15))<;>((refine z22 ?_;(exact z19 rfl)))));(exact .inl rfl);conv=>whnf))
   refine y92 (Gl.Reach.forget 0 i z721 rfl (z148 hin (by (try simp only [y88]);exact hm2)) rfl rfl) ?_
   conv=>whnf
   repeat' (first|(apply y4 ok;rfl;conv=>whnf)|(apply y50;((unfold inI;omega));conv=>whnf))
   exact z78 (i+1) [0] (by omega) (by omega) ⟨rfl,by decide,rfl,⟨⟨rfl,rfl⟩,⟨rfl,z139 (by omega)⟩,⟨rfl,rfl⟩,trivial⟩,⟨z25 (z39 (by simp only [List.set_set,Nat.add_zero,hin];exact hset)) (z112 (fun _=>rfl) (fun _=>rfl)),trivial⟩⟩
  ·omega
 ·repeat' (first|(apply y4 ok;rfl;conv=>whnf)|(apply y50;(omega);conv=>whnf)|(apply z5<;>intro _<;>conv=>whnf))
  ·omega
  ·obtain rfl:i=l.length:=by omega
   rw [y62]
   exact z70 [0] (by decide) rfl rfl rfl ⟨z25 (z39 (by rw [z320 (by simp),z253])) (z19 rfl),trivial⟩
set_option maxHeartbeats 3200000 in
theorem z539 (l:List Proc) (k:Int) (hl:l.length≤1048576) (hm:∀ e∈l,e.bg) (h0:0≤k) (h1:k+(l.map Proc.ml).sum≤1000000000000):CallsA Tryz.prog 69 [.sref 0 0 l.length,.int k] [.cells 2 (l.map Proc.co)] (.int (k+(l.map Proc.ml).sum)) [.cells 2 (List.replicate l.length [.any,.any])]:=by
 refine z7 z9 Tryz.func69 rfl rfl 27 Tryz.ntmps69 (by simp) ?_
 repeat' ((apply y4 ok;rfl;conv=>whnf))
 refine z85 (fun i:Nat=>([(0,.sref 0 0 l.length),(1,.int (k+((l.take i).map Proc.ml).sum)),(5,.int i)],[.cells 2 (mixL (fun _=>[.any,.any]) (l.map Proc.co) i)])) (fun i=>i≤l.length) (fun i=>l.length - i) 0 (by omega) ⟨[0],rfl,by decide,rfl,⟨⟨rfl,rfl⟩,⟨rfl,z139 (by simp)⟩,⟨rfl,rfl⟩,trivial⟩,⟨z25 (z39 (z238 _ _).symm) (z112 (fun _=>rfl) (fun _=>rfl)),trivial⟩⟩ ?_
 intro i hi
 by_cases hil:i < l.length
 ·have e:=z172 Proc.ml l i hil
  have e2:=z87 Proc.ml l (i+1)
  have hs:=hm l[i] (y51 _)
  have hz:Proc.ml l[i]=1+(l[i].es.map Edge.ml).sum:=rfl
  have hm2:i < (mixL (fun _=>[AC.any,.any]) (l.map Proc.co) i).length:=by rw [z387 (by simpa using hi)];simpa using hil
  have hin:((i:Int)).toNat=i:=y83 i
  have hg:(mixL (fun _=>[AC.any,.any]) (l.map Proc.co) i)[i]?=some (Proc.co l[i]):=z319 hil
  have hset:(mixL (fun _=>[AC.any,.any]) (l.map Proc.co) i).set i [.any,.any]=mixL (fun _=>[AC.any,.any]) (l.map Proc.co) (i+1):=z318 (by simpa using hil) rfl rfl
  generalize mixL (fun _=>[AC.any,.any]) (l.map Proc.co) i=F at *
  generalize l[i]=d at *
  generalize ((l.take i).map Proc.ml).sum=a at *
  have c1:=z772 d.es (k+a+1) hs.len hs.el (by omega) (by omega)
  repeat' (first|((fail_if_success apply z65 4);(fail_if_success apply z50 4);apply y4 ok;rfl;conv=>whnf)|(apply z5<;>intro _<;>conv=>whnf))
  ·refine y92 (Gl.Reach.exposeD (e:=Proc.co d) 0 i 1 rfl hg rfl rfl) ?_
   conv=>whnf
   rw [y56]
   repeat' (first|((fail_if_success apply z65 3);(fail_if_success apply z50 3);apply y4 ok;rfl;conv=>whnf)|(apply z225;exact hin;((try simp only [y88]);exact hm2);conv=>whnf)|(apply y50;(first|omega|(unfold inI;omega));conv=>whnf)|(apply z35 [1] [] [] (c1);rfl;(focus ((repeat' (first|exact z14|apply z27))<;>((refine z41 rfl ?_;((exact z4 (fun _=>rfl)))))));rfl;rfl;rfl;rfl;rfl;(focus ((repeat' (first|exact z12|apply z15))<;>((refine z22 ?_;(exact z19 rfl)))));(exact .inl rfl);conv=>whnf))
   refine y92 (Gl.Reach.forget 0 i [.any,.any] rfl (z148 hin (by (try simp only [y88]);exact hm2)) rfl rfl) ?_
   conv=>whnf
   repeat' (first|(apply y4 ok;rfl;conv=>whnf)|(apply y50;((unfold inI;omega));conv=>whnf))
   exact z78 (i+1) [0] (by omega) (by omega) ⟨rfl,by decide,rfl,⟨⟨rfl,rfl⟩,⟨rfl,z139 (by omega)⟩,⟨rfl,rfl⟩,trivial⟩,⟨z25 (z39 (by simp only [List.set_set,Nat.add_zero,hin];exact hset)) (z112 (fun _=>rfl) (fun _=>rfl)),trivial⟩⟩
  ·omega
 ·repeat' (first|(apply y4 ok;rfl;conv=>whnf)|(apply y50;(omega);conv=>whnf)|(apply z5<;>intro _<;>conv=>whnf))
  ·omega
  ·obtain rfl:i=l.length:=by omega
   rw [y62]
   exact z70 [0] (by decide) rfl rfl rfl ⟨z25 (z39 (by rw [z320 (by simp),z253])) (z19 rfl),trivial⟩
theorem z1010 {P:Program} {α β γ δ ε ζ η:Type} {t:TypeId} {F1 F2 F3 F4 F5 F6:Field} {e1:α→List AC} {ok1:α→Prop} {e2:β→List AC} {ok2:β→Prop} {e3:γ→List AC} {ok3:γ→Prop} {e4:δ→List AC} {ok4:δ→Prop} {e5:ε→List AC} {ok5:ε→Prop} {e6:ζ→List AC} {ok6:ζ→Prop} {enc:η→List AC} (mk:α→β→γ→δ→ε→ζ→η) (ht:P.underlying t=some (.struct #[F1,F2,F3,F4,F5,F6])) (o1:F1.offset=0) (o2:F2.offset=0+P.cellsOf F1.type) (o3:F3.offset=0+P.cellsOf F1.type+P.cellsOf F2.type) (o4:F4.offset=0+P.cellsOf F1.type+P.cellsOf F2.type+P.cellsOf F3.type) (o5:F5.offset=0+P.cellsOf F1.type+P.cellsOf F2.type+P.cellsOf F3.type+P.cellsOf F4.type) (o6:F6.offset=0+P.cellsOf F1.type+P.cellsOf F2.type+P.cellsOf F3.type+P.cellsOf F4.type+P.cellsOf F5.type) (hs:P.cellsOf F1.type+(P.cellsOf F2.type+(P.cellsOf F3.type+(P.cellsOf F4.type+(P.cellsOf F5.type+(P.cellsOf F6.type+0)))))=P.cellsOf t) {k:Nat} (h1:Opens P F1.type (fun xs=>∃ a,xs=e1 a∧ok1 a) k) (h2:Opens P F2.type (fun xs=>∃ a,xs=e2 a∧ok2 a) k) (h3:Opens P F3.type (fun xs=>∃ a,xs=e3 a∧ok3 a) k) (h4:Opens P F4.type (fun xs=>∃ a,xs=e4 a∧ok4 a) k) (h5:Opens P F5.type (fun xs=>∃ a,xs=e5 a∧ok5 a) k) (h6:Opens P F6.type (fun xs=>∃ a,xs=e6 a∧ok6 a) k) (he:∀ a b c d x y,enc (mk a b c d x y)=e1 a++(e2 b++(e3 c++(e4 d++(e5 x++(e6 y++[])))))):Opens P t (fun xs=>∃ z,xs=enc z∧∃ a b c d x y,z=mk a b c d x y∧ok1 a∧ok2 b∧ok3 c∧ok4 d∧ok5 x∧ok6 y) (k+1) :=
 z289 (fs := [F1, F2, F3, F4, F5, F6]) ht (by simpa using hs) ⟨o1, _, (fun xs => ∃ b c d x y, xs = e2 b ++ (e3 c ++ (e4 d ++ (e5 x ++ (e6 y ++ [])))) ∧ ok2 b ∧ ok3 c ∧ ok4 d ∧ ok5 x ∧ ok6 y), h1, ⟨o2, _, (fun xs => ∃ c d x y, xs = e3 c ++ (e4 d ++ (e5 x ++ (e6 y ++ []))) ∧ ok3 c ∧ ok4 d ∧ ok5 x ∧ ok6 y), h2, ⟨o3, _, (fun xs => ∃ d x y, xs = e4 d ++ (e5 x ++ (e6 y ++ [])) ∧ ok4 d ∧ ok5 x ∧ ok6 y), h3, ⟨o4, _, (fun xs => ∃ x y, xs = e5 x ++ (e6 y ++ []) ∧ ok5 x ∧ ok6 y), h4, ⟨o5, _, (fun xs => ∃ y, xs = e6 y ++ [] ∧ ok6 y), h5, ⟨o6, _, _, h6, rfl (a := ([] : List AC)), by
   rintro _ _ ⟨b,rfl,h⟩ rfl
   exact ⟨b,rfl,h⟩⟩,by
   rintro _ _ ⟨x,rfl,h⟩ ⟨y,rfl,h'⟩
   exact ⟨x,y,rfl,h,h'⟩⟩,by
   rintro _ _ ⟨d,rfl,h⟩ ⟨x,y,rfl,h'⟩
   exact ⟨d,x,y,rfl,h,h'⟩⟩,by
   rintro _ _ ⟨c,rfl,h⟩ ⟨d,x,y,rfl,h'⟩
   exact ⟨c,d,x,y,rfl,h,h'⟩⟩,by
   rintro _ _ ⟨b,rfl,h⟩ ⟨c,d,x,y,rfl,h'⟩
   exact ⟨b,c,d,x,y,rfl,h,h'⟩⟩,by
   rintro _ _ ⟨a,rfl,h⟩ ⟨b,c,d,x,y,rfl,h'⟩
   exact ⟨mk a b c d x y,(he a b c d x y).symm,a,b,c,d,x,y,rfl,h,h'⟩⟩
theorem csx (t:Tree):Tree.cs' t=[.int t.kind,.int t.val,lst 3 Tree.cs' t.kids]:=AC.agg.inj (show AC.agg (Tree.cs' t)=_ from y17 t)
theorem od_edge:OpensD Tryz.prog 283 Edge.cs Edge.mx :=
 (OpensD.of_succ fun k=>(z1010 (enc:=Edge.cs) Edge.mk Tryz.underlying283 rfl (by kernel_rfl) (by kernel_rfl) (by kernel_rfl) (by kernel_rfl) (by kernel_rfl) (by kernel_rfl) (z446 (enc:=enI) Tryz.underlying3 (fun _=>rfl) k) (z446 (enc:=enI) Tryz.underlying3 (fun _=>rfl) k) (z876 k) (z446 (enc:=enI) Tryz.underlying3 (fun _=>rfl) k) (z876 k) (z446 (enc:=enI) Tryz.underlying3 (fun _=>rfl) k) (fun _ _ g _ v _=>by rw [csx g,csx v];rfl)).imp fun xs ⟨s,e1,a,b,c,d,x,y,e,h1,h2,h3,h4,h5,h6⟩=>⟨s,e1,by subst e;exact ⟨h3,h5⟩⟩)
theorem od_edgeS:OpensD Tryz.prog 186 (fun l=>[lst 10 Edge.cs l]) (fun l=>l.length≤maxLen∧∀ e∈l,e.mx):=z682 10 (encL:=fun l=>[lst 10 Edge.cs l]) Tryz.underlying186 (by kernel_rfl) (by decide) od_edge (fun _=>rfl)
theorem od_proc:OpensD Tryz.prog 188 Proc.cs Proc.mx :=
 (z622 (enc:=Proc.cs) Proc.mk Tryz.underlying188 rfl (by kernel_rfl) (by kernel_rfl) (z446 (enc:=enI) Tryz.underlying3 (fun _=>rfl)) od_edgeS (fun _ _=>rfl)).imp fun s ⟨a,b,e,h1,h2⟩=>⟨s,rfl,by subst e;exact ⟨h2.1,h2.2⟩⟩
theorem od_procS:OpensD Tryz.prog 49 (fun l=>[lst 2 Proc.cs l]) (fun l=>l.length≤maxLen∧∀ e∈l,e.mx):=z682 2 (encL:=fun l=>[lst 2 Proc.cs l]) Tryz.underlying49 (by kernel_rfl) (by decide) od_proc (fun _=>rfl)
theorem z1224:ArgD Tryz.prog 51 (fun s:Sys=>.agg s.cs) Sys.mx :=
 z575 Tryz.underlying51 ((z622 (enc:=Sys.cs) Sys.mk Tryz.underlying51 rfl (by kernel_rfl) (by kernel_rfl) od_intS od_procS (fun _ _=>rfl)).imp fun s ⟨a,b,e,h1,h2⟩=>⟨s,rfl,by subst e;exact ⟨h1.1,h2.1,h2.2⟩⟩)
theorem Edge.ml_sum (l:List Edge):(l.map Edge.ml).sum=8 * l.length+2 * (l.map Edge.sz).sum:=by
 induction l with
 |nil=>rfl
 |cons e l ih =>
  simp only [List.map_cons,List.sum_cons,y64,ih]
  unfold Edge.ml Edge.sz Edge.z1 Edge.z2
  omega
theorem Proc.ml_sum (l:List Proc):(l.map Proc.ml).sum≤l.length+8 * (l.map Proc.sz).sum:=by
 induction l with
 |nil=>simp
 |cons e l ih =>
  simp only [List.map_cons,List.sum_cons,y64]
  have h:=Edge.ml_sum e.es
  have h' : Proc.ml e=1+(e.es.map Edge.ml).sum:=rfl
  have:Proc.sz e=e.es.length+(e.es.map Edge.sz).sum:=rfl
  omega
theorem Sys.ml_le {s:Sys} (h:SysOk s):s.ml≤16777216:=by
 have h1:=h.sum
 have h2:=Proc.ml_sum s.ps
 have h3:s.z2=s.ps.length+(s.ps.map Proc.sz).sum:=rfl
 have h4:s.z1=s.init.length:=rfl
 unfold Sys.ml
 omega
theorem markSysT {s:Sys} (h:SysOk s) (k:Int) (h0:0≤k) (h1:k≤1000000000):CallsA Tryz.prog 23 [.agg [.sref 0 0 s.init.length,.sref 1 0 s.ps.length],.int k] [.cells 1 (s.init.map enI),.cells 2 (s.ps.map Proc.co)] (.int (k+s.ml)) [.cells 1 ((z389 k s.init.length).map enI),.cells 2 (List.replicate s.ps.length [.any,.any])]:=by
 have hb:=h.bg.init
 have hm:=Sys.ml_le h
 unfold Sys.ml at hm
 have m1:=z350 s.init k h.bg.init h0 (by omega)
 have m2:=z539 s.ps (k+s.init.length) h.bg.len h.bg.el (by omega) (by omega)
 rw [show k+(s.init.length:Int)+((s.ps.map Proc.ml).sum:Nat)=k+s.ml by unfold Sys.ml;omega] at m2
 refine z7 z9 Tryz.func23 rfl rfl 14 Tryz.ntmps23 (by simp) ?_
 repeat' (first|(apply y4 ok;rfl;conv=>whnf)|(apply z35 [0] [] [] (m1);rfl;(focus ((repeat' (first|exact z14|apply z27))<;>((refine z41 rfl ?_;((exact z4 (fun _=>rfl)))))));rfl;rfl;rfl;rfl;rfl;(focus ((repeat' (first|exact z12|apply z15))<;>((refine z22 ?_;((exact z4 (fun _=>rfl)))))));(exact .inl rfl);conv=>whnf)|(apply z35 [1] [] [] (m2);rfl;(focus ((repeat' (first|exact z14|apply z27))<;>((refine z41 rfl ?_;((exact z4 (fun _=>rfl)))))));rfl;rfl;rfl;rfl;rfl;(focus ((repeat' (first|exact z12|apply z15))<;>((refine z22 ?_;(exact z19 rfl)))));(exact .inl rfl);conv=>whnf))
 exact z70 [0,1] (by decide) rfl rfl rfl ⟨z25 rfl (z4 fun _=>rfl),z25 rfl (z19 rfl),trivial⟩
end Go.Proofs.YtnfoijopccdjeaaGreat
namespace Go.Proofs.YtnfoijopccdjeaaGreat
open Go.Gl
attribute [local irreducible] z16 AWP z29 z32 z30 RetS z36
theorem z900 (e:Edge) (h:e.mx):CallsA Tryz.prog 252 [z20 Edge.cs e,z20 Edge.cs e] [] (.bool true) []:=by
 have c1:=z563 e.gd h.gd e.gd h.gd
 have c2:=z563 e.val h.val e.val h.val
 rw [y89 rfl,y17] at c1 c2
 unfold z20
 refine z7 z9 Tryz.func252 rfl rfl 37 Tryz.ntmps252 (by simp) ?_
 repeat' ((first|(apply y4 ok;rfl)|((apply z28)<;>intro _)|(apply z0 (c1);rfl;rfl)|(apply z0 (c2);rfl;rfl))<;>conv=>whnf)
 all_goals first|(exfalso;contradiction)|exact z21 rfl rfl
theorem z804 (l:List Edge) (hl:l.length≤maxLen) (hm:∀ e∈l,e.mx):CallsA Tryz.prog 203 [lst 10 Edge.cs l,lst 10 Edge.cs l] [] (.bool true) []:=by
 unfold maxLen at hl
 refine z7 z9 Tryz.func203 rfl rfl 27 Tryz.ntmps203 (by simp) ?_
 repeat' ((first|(apply y4 ok;rfl)|((apply z28)<;>intro _))<;>conv=>whnf)
 all_goals first|exact absurd rfl (by assumption)|skip
 refine z85 (fun k:Nat=>([(0,lst 10 Edge.cs l),(1,lst 10 Edge.cs l),(5,.int k)],[])) (fun k=>k≤l.length) (fun k=>l.length - k) 0 (by omega) ⟨[],rfl,by decide,rfl,by repeat' (first|exact True.intro|exact ⟨rfl,rfl⟩|apply y50),by repeat' (exact True.intro)⟩ ?_
 intro k hk
 by_cases hkl:k < l.length
 ·have ce:=z900 l[k] (hm _ (y51 _))
  have g0:(l.map Edge.cs)[k]?=some (Edge.cs l[k]):=by rw [y58,y52 hkl];rfl
  unfold z20 at ce
  repeat' ((first|(apply y4 ok;rfl)|(apply z17;kernel_rfl)|(refine z13 (i:=k) rfl g0 ?_)|(apply y50;first|omega|(unfold inI;omega))|((apply z5)<;>intro _)|(apply z0 (ce);rfl;rfl))<;>conv=>whnf)
  all_goals first|(exfalso;omega)|exact z78 (k+1) [] hkl (by omega) ⟨rfl,by decide,rfl,by repeat' (first|exact True.intro|exact ⟨rfl,rfl⟩|apply y50),by repeat' (exact True.intro)⟩
 ·repeat' ((first|(apply y4 ok;rfl)|(apply y50;omega)|(((with_reducible apply z8;omega));intro _)|((apply z5)<;>intro _))<;>conv=>whnf)
  all_goals first|(exfalso;omega)|exact z21 rfl rfl
theorem z602 (p:Proc) (h:p.mx):CallsA Tryz.prog 141 [z20 Proc.cs p,z20 Proc.cs p] [] (.bool true) []:=by
 have c1:=z804 p.es h.len h.el
 unfold z20
 refine z7 z9 Tryz.func141 rfl rfl 16 Tryz.ntmps141 (by simp) ?_
 repeat' ((first|(apply y4 ok;rfl)|((apply z28)<;>intro _)|(apply z0 (c1);rfl;rfl))<;>conv=>whnf)
 all_goals first|(exfalso;contradiction)|exact z21 rfl rfl
theorem z561 (l:List Proc) (hl:l.length≤maxLen) (hm:∀ e∈l,e.mx):CallsA Tryz.prog 65 [lst 2 Proc.cs l,lst 2 Proc.cs l] [] (.bool true) []:=by
 unfold maxLen at hl
 refine z7 z9 Tryz.func65 rfl rfl 27 Tryz.ntmps65 (by simp) ?_
 repeat' ((first|(apply y4 ok;rfl)|((apply z28)<;>intro _))<;>conv=>whnf)
 all_goals first|exact absurd rfl (by assumption)|skip
 refine z85 (fun k:Nat=>([(0,lst 2 Proc.cs l),(1,lst 2 Proc.cs l),(5,.int k)],[])) (fun k=>k≤l.length) (fun k=>l.length - k) 0 (by omega) ⟨[],rfl,by decide,rfl,by repeat' (first|exact True.intro|exact ⟨rfl,rfl⟩|apply y50),by repeat' (exact True.intro)⟩ ?_
 intro k hk
 by_cases hkl:k < l.length
 ·have ce:=z602 l[k] (hm _ (y51 _))
  have g0:(l.map Proc.cs)[k]?=some (Proc.cs l[k]):=by rw [y58,y52 hkl];rfl
  unfold z20 at ce
  repeat' ((first|(apply y4 ok;rfl)|(apply z17;kernel_rfl)|(refine z13 (i:=k) rfl g0 ?_)|(apply y50;first|omega|(unfold inI;omega))|((apply z5)<;>intro _)|(apply z0 (ce);rfl;rfl))<;>conv=>whnf)
  all_goals first|(exfalso;omega)|exact z78 (k+1) [] hkl (by omega) ⟨rfl,by decide,rfl,by repeat' (first|exact True.intro|exact ⟨rfl,rfl⟩|apply y50),by repeat' (exact True.intro)⟩
 ·repeat' ((first|(apply y4 ok;rfl)|(apply y50;omega)|(((with_reducible apply z8;omega));intro _)|((apply z5)<;>intro _))<;>conv=>whnf)
  all_goals first|(exfalso;omega)|exact z21 rfl rfl
theorem eqSysT {s:Sys} (h:SysOk s):CallsA Tryz.prog 20 [.agg s.cs,.agg s.cs] [] (.bool true) []:=by
 have c1:=eqIntST s.init h.mx.init
 have c2:=z561 s.ps h.mx.len h.mx.el
 refine z7 z9 Tryz.func20 rfl rfl 17 Tryz.ntmps20 (by simp) ?_
 repeat' ((first|(apply y4 ok;rfl)|(apply z0 (c1);rfl;rfl)|(apply z0 (c2);rfl;rfl))<;>conv=>whnf)
 all_goals exact z21 rfl rfl
end Go.Proofs.YtnfoijopccdjeaaGreat
namespace Go.Proofs.YtnfoijopccdjeaaGreat
open Go.Gl
attribute [local irreducible] z16 AWP z29 z32 z30
theorem toFmN {t:Tree} (h:FmOk t):CallsA Tryz.prog 18 [z20 Tree.cs' t] [] (.agg [.int t.kind,.int t.val,.sref 0 0 t.kids.length]) [.cells 3 (t.kids.map Tree.co')]:=by
 have:=toFm_new t h.sz
 rwa [y18] at this
def fmml (t:Tree):Nat:=2 * t.sz
theorem fmml_le {t:Tree} (h:FmOk t):fmml t≤4194304:=by
 have:=h.sz
 unfold fmml;omega
theorem markFmT {t:Tree} (h:FmOk t) (k:Int) (h0:0≤k) (h1:k≤1000000000):CallsA Tryz.prog 25 [.agg [.int t.kind,.int t.val,.sref 0 0 t.kids.length],.int k] [.cells 3 (t.kids.map Tree.co')] (.int (k+fmml t)) [.cells 3 (List.replicate t.kids.length [.any,.any,.any])]:=by
 have hs:=h.sz
 have m1:=z1151 t h.sz k h0 (by omega)
 rw [y18] at m1
 rw [show (k+2 * (t.sz:Int))=k+fmml t by unfold fmml;omega] at m1
 refine z7 z9 Tryz.func25 rfl rfl 10 Tryz.ntmps25 (by simp) ?_
 repeat' (first|(apply y4 ok;rfl;conv=>whnf)|(apply z35 [0] [] [] (m1);rfl;(focus ((repeat' (first|exact z14|apply z27))<;>((refine z41 rfl ?_;((exact z4 (fun _=>rfl)))))));rfl;rfl;rfl;rfl;rfl;(focus ((repeat' (first|exact z12|apply z15))<;>((refine z22 ?_;(exact z19 rfl)))));(exact .inl rfl);conv=>whnf))
 exact z70 [0] (by decide) rfl rfl rfl ⟨z25 rfl (z19 rfl),trivial⟩
theorem z640 {objs:Nat→AObj} {π Bn:List Nat} {o1:Nat} {t:Tree} (h1:objs o1=.cells 3 (t.kids.map Tree.co')) (i1:idx π o1=none) (b1:inB Bn o1=true):bor objs π Bn (.agg [.int t.kind,.int t.val,.sref o1 0 t.kids.length])=z20 Tree.cs' t:=by
 rw [y17]
 exact z916 (z23 rfl (z23 rfl (z23 (z569 h1 i1 b1) z48)))
end Go.Proofs.YtnfoijopccdjeaaGreat
namespace Go.Proofs.YtnfoijopccdjeaaGreat
open Go.Gl
section
attribute [local irreducible] z16
def Trace.a1 (t:Trace):AC:=ints t.stem
def Trace.a2 (t:Trace):AC:=ints t.loop
def Trace.s1 (t:Trace):Nat:=t.stem.length
def Trace.s2 (t:Trace):Nat:=t.loop.length
def Trace.mx (t:Trace):Prop:=t.stem.length≤maxLen∧t.loop.length≤maxLen
end
section
attribute [local irreducible] z16 AWP z29 z32 z30
structure Trace.ok (t:Trace):Prop where
 mx:t.mx
 l1:t.stem.length≤1048576
 l2:t.loop.length≤1048576
theorem Trace.ok_of {t:Trace} (h:t.mx) (h1:t.s1≤1048576) (h2:t.s2≤1048576):t.ok:=⟨h,h1,h2⟩
def Trace.ml (t:Trace):Nat:=t.stem.length+t.loop.length
theorem Trace.ml_le {t:Trace} (h:t.ok):t.ml≤4194304:=by
 have:=h.l1;have:=h.l2
 unfold Trace.ml;omega
end
end Go.Proofs.YtnfoijopccdjeaaGreat
namespace Go.Proofs.YtnfoijopccdjeaaGreat
open Go.Gl
attribute [local irreducible] z16 AWP z29 z32 z30
end Go.Proofs.YtnfoijopccdjeaaGreat
