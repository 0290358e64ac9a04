/- A part of the proofs over this program: T70, T71, T72, T73, T74, T75, T75K, T75M, T81, T82, T83, T84, T85, T86, T87, T33I. -/
import Derived.Test.YteinbnahinpegaaGreatG0
import Derived.Test.YteinbnahinpegaaGreatG1
import Derived.Test.YteinbnahinpegaaGreatG2
import Derived.Test.YteinbnahinpegaaGreatG3
import Derived.Test.YteinbnahinpegaaGreatP0
set_option linter.all false
namespace Go.Proofs.YteinbnahinpegaaGreat
open Go.Gl
attribute [local irreducible] z20 AWP z30 z35 z34
def enU (n:Int):List AC:=[.raw (.int .u8 n)]
def rdO (bs:List Int) (p:Int):AObj:=.cells 2 [[lst 1 enU bs,.int p]]
structure BytesOk (bs:List Int):Prop where
 len:bs.length≤2000
 el:∀ x∈bs,0≤x∧x≤255
theorem u_at {l:List Int} {i:Nat} (h:i < l.length):(l.map enU)[i]?=some (enU l[i]):=by rw [y47,y41 h];rfl
theorem rem_at {l:List Int} {i:Int} (h:0 < l.length) (h0:0≤i):(i % (l.length:Int)).toNat < l.length:=by
 have:=Int.emod_lt_of_pos i (show (0:Int) < l.length by omega)
 have:=Int.emod_nonneg i (show (l.length:Int)≠0 by omega)
 omega
set_option maxHeartbeats 1600000 in
theorem z69 (bs:List Int) (hb:BytesOk bs) (p n:Int) (h0:0≤p) (h1:p≤1000000000) (hn:n≤1000000000):∃ v:Int,(0≤v∧(1≤n→v < n))∧CallsA Tryz.prog 58 [.ptr 0 none 0,.int n] [rdO bs p] (.int v) [rdO bs (p+1)]:=by
 have hlen:=hb.len
 by_cases hz:n < 1∨bs.length=0
 ·refine ⟨0,⟨by omega,fun _=>by omega⟩,?_⟩
  refine z12 z19 Tryz.func58 rfl rfl 99 Tryz.ntmps58 (by simp) ?_
  repeat' (first|(apply y4 ok;rfl;conv=>whnf)|(apply z37;kernel_rfl;conv=>whnf)|(apply y39;(first|omega|(unfold inI;omega));conv=>whnf)|(with_reducible apply z154;omega;intro _;conv=>whnf)|(apply z8<;>intro _<;>conv=>whnf))
  all_goals first|(exfalso;omega)|exact z95 [0] (by decide) rfl rfl rfl ⟨z27 rfl rfl,trivial⟩
 by_cases hk:p < bs.length
 ·have hp:(p+1 - 1).toNat < bs.length:=by omega
  have g0:=u_at (l:=bs) (i:=(p+1 - 1).toNat) hp
  have hr:=hb.el bs[(p+1 - 1).toNat] (y40 _)
  generalize bs[(p+1 - 1).toNat]=b at *
  have hw:IntKind.i64.wrap b=b:=IntWalk.i64_in _ (by omega)
  refine ⟨b % n,⟨Int.emod_nonneg _ (by omega),fun _=>Int.emod_lt_of_pos _ (by omega)⟩,?_⟩
  refine z12 z19 Tryz.func58 rfl rfl 99 Tryz.ntmps58 (by simp) ?_
  repeat' (first|(apply y4 ok;rfl;conv=>whnf)|(apply z37;kernel_rfl;conv=>whnf)|(refine z21 (i:=(p+1 - 1).toNat) rfl g0 ?_;conv=>whnf)|(apply y39;(first|omega|(unfold inI;omega));conv=>whnf)|(with_reducible apply z154;omega;intro _;conv=>whnf)|(apply z8<;>intro _<;>conv=>whnf))
  all_goals first|(exfalso;omega)|exact z95 [0] (by decide) rfl rfl rfl ⟨z27 rfl rfl,trivial⟩
 have hl0:0 < bs.length:=by omega
 have m1:=rem_at (l:=bs) (i:=p+1 - 1) hl0 (by omega)
 have m2:=rem_at (l:=bs) (i:=(p+1 - 1) * 7+3) hl0 (by omega)
 have g1:=u_at m1
 have g2:=u_at m2
 have r1:=hb.el bs[((p+1 - 1) % (bs.length:Int)).toNat] (y40 _)
 have r2:=hb.el bs[(((p+1 - 1) * 7+3) % (bs.length:Int)).toNat] (y40 _)
 generalize bs[((p+1 - 1) % (bs.length:Int)).toNat]=b1 at *
 generalize bs[(((p+1 - 1) * 7+3) % (bs.length:Int)).toNat]=b2 at *
 have w1:IntKind.i64.wrap b1=b1:=IntWalk.i64_in _ (by omega)
 have w2:IntKind.i64.wrap b2=b2:=IntWalk.i64_in _ (by omega)
 have n1:=Int.emod_nonneg (p+1 - 1) (show (bs.length:Int)≠0 by omega)
 have n2:=Int.emod_nonneg ((p+1 - 1) * 7+3) (show (bs.length:Int)≠0 by omega)
 have l1:=Int.emod_lt_of_pos (p+1 - 1) (show (0:Int) < bs.length by omega)
 have l2:=Int.emod_lt_of_pos ((p+1 - 1) * 7+3) (show (0:Int) < bs.length by omega)
 have q0:0≤(p+1 - 1) / (bs.length:Int):=Int.ediv_nonneg (by omega) (by omega)
 have q1:(p+1 - 1) / (bs.length:Int)≤p+1 - 1:=Int.ediv_le_self _ (by omega)
 have hx0:0≤b1 * 131+b2 * 1117+(p+1 - 1) * 29+(p+1 - 1) / (bs.length:Int) * 53:=by omega
 have hx1:b1 * 131+b2 * 1117+(p+1 - 1) * 29+(p+1 - 1) / (bs.length:Int) * 53≤1000000000000:=by omega
 have hq:0≤(b1 * 131+b2 * 1117+(p+1 - 1) * 29+(p+1 - 1) / (bs.length:Int) * 53) / 64∧(b1 * 131+b2 * 1117+(p+1 - 1) * 29+(p+1 - 1) / (bs.length:Int) * 53) / 64≤1000000000000:=by omega
 refine ⟨(((b1 * 131+b2 * 1117+(p+1 - 1) * 29+(p+1 - 1) / (bs.length:Int) * 53).toNat ^^^ ((b1 * 131+b2 * 1117+(p+1 - 1) * 29+(p+1 - 1) / (bs.length:Int) * 53) / 64).toNat:Nat):Int) % n,⟨Int.emod_nonneg _ (by omega),fun _=>Int.emod_lt_of_pos _ (by omega)⟩,?_⟩
 refine z12 z19 Tryz.func58 rfl rfl 99 Tryz.ntmps58 (by simp) ?_
 repeat' (first|(apply y4 ok;rfl;conv=>whnf)|(apply z37;kernel_rfl;conv=>whnf)|(refine z21 (i:=(((p+1 - 1) * 7+3) % (bs.length:Int)).toNat) rfl g2 ?_;conv=>whnf)|(refine z21 (i:=((p+1 - 1) % (bs.length:Int)).toNat) rfl g1 ?_;conv=>whnf)|(apply y39;(first|omega|(unfold inI;omega)|(unfold z215;omega));conv=>whnf)|(with_reducible apply z154;omega;intro _;conv=>whnf)|(apply z8<;>intro _<;>conv=>whnf))
 all_goals first|(exfalso;omega)|exact z95 [0] (by decide) rfl rfl rfl ⟨z27 rfl rfl,trivial⟩
theorem z592 (bs:List Int) (hl:bs.length≤maxLen):CallsA Tryz.prog 16 [lst 1 enU bs] [] (.ptr 0 none 0) [rdO (bs.take 2000) 0]:=by
 unfold maxLen at hl
 refine z12 z19 Tryz.func16 rfl rfl 11 Tryz.ntmps16 (by simp) ?_
 by_cases h:bs.length≤2000
 ·rw [y53 h]
  repeat' (first|(apply y4 ok;rfl;conv=>whnf)|(apply y39;(omega);conv=>whnf)|(apply z8<;>intro _<;>conv=>whnf))
  all_goals first|(exfalso;omega)|exact z95 [0] (by decide) rfl rfl rfl ⟨z27 rfl rfl,trivial⟩
 ·repeat' (first|(apply y4 ok;rfl;conv=>whnf)|(apply y39;(omega);conv=>whnf)|(apply z8<;>intro _<;>conv=>whnf))
  all_goals try (exfalso;omega)
  all_goals exact z95 [0] (by decide) rfl rfl rfl ⟨z27 rfl (congrArg (fun x=>AObj.cells 2 [[x,AC.int 0]]) (z197 1 enU bs 2000 (by omega))),trivial⟩
theorem z108 (bs:List Int) (hb:BytesOk bs) (p:Int) (h0:0≤p) (h1:p≤1000000000) (l:List Int) (hl:0 < l.length) (hl2:l.length≤1000):∃ v:Int,v∈l∧CallsA Tryz.prog 60 [.ptr 0 none 0,.sref 1 0 l.length] [rdO bs p,.cells 1 (l.map enI)] (.int v) [rdO bs (p+1),.cells 1 (l.map enI)]:=by
 obtain ⟨k,⟨hk0,hk1⟩,hc⟩:=z69 bs hb p l.length h0 h1 (by omega)
 have hk:k.toNat < l.length:=by omega
 have g0:(l.map enI)[k.toNat]?=some (enI l[k.toNat]):=by rw [y47,y41 hk];rfl
 refine ⟨l[k.toNat],y40 _,?_⟩
 generalize l[k.toNat]=v at *
 refine z12 z19 Tryz.func60 rfl rfl 12 Tryz.ntmps60 (by simp) ?_
 repeat' (first|(apply y4 ok;rfl;conv=>whnf)|(refine z21 (i:=k.toNat) rfl g0 ?_;conv=>whnf)|(apply y39;(omega);conv=>whnf)|(apply z86 [0] [] [] (hc);rfl;(focus ((repeat' (first|exact z43|apply z64))<;>(rfl)));rfl;rfl;rfl;rfl;rfl;(focus ((repeat' (first|exact z17|apply z14))<;>(exact z45 rfl rfl)));(exact .inl rfl);conv=>whnf))
 all_goals (exact z95 [0,1] (by decide) rfl rfl rfl ⟨z27 rfl rfl,z59 rfl (z7 fun _=>rfl),trivial⟩)
end Go.Proofs.YteinbnahinpegaaGreat
namespace Go.Proofs.YteinbnahinpegaaGreat
open Go.Gl
attribute [local irreducible] z20 AWP z30 z35 z34 RetS z42
theorem z132 (t:Tree):t.sz≤maxLen→t.mx:=by
 induction t using y25 with|h t ih=>?_
 intro h
 rw [y26]
 rw [y34] at h
 refine ⟨by omega,fun u hu=>ih u hu ?_⟩
 have:=z385 Tree.sz hu
 omega
abbrev few (p:Int):Prop:=0≤p∧p≤999999000
abbrev few1 (p:Int):Prop:=0≤p∧p≤999990000
abbrev few2 (p:Int):Prop:=0≤p∧p≤999900000
abbrev few3 (p:Int):Prop:=0≤p∧p≤999000000
def leaf (k v:Int):Tree:=.mk k v []
theorem z94 (k v:Int):(leaf k v).sz=0:=rfl
theorem z244 (k v:Int) (l:List Tree):(Tree.mk k v l).sz=l.length+(l.map Tree.sz).sum:=y34 _
set_option maxHeartbeats 1600000 in
theorem z590 (bs:List Int) (hb:BytesOk bs) (p:Int) (hp:few p):∃ (t:Tree) (p' : Int),(t.sz≤3∧p≤p'∧p'≤p+5)∧CallsA Tryz.prog 66 [.ptr 0 none 0] [rdO bs p] (z40 Tree.cs' t) [rdO bs p']:=by
 obtain ⟨v0,⟨l0,u0⟩,c0⟩:=z69 bs hb p 3 (by omega) (by omega) (by omega)
 by_cases h0:v0=0
 ·subst h0
  refine ⟨leaf 1 1,p+1,⟨by rw [z94];omega,by omega,by omega⟩,?_⟩
  refine z10 z19 Tryz.func66 rfl rfl 31 Tryz.ntmps66 (by simp) ?_
  repeat' ((first|(apply y4 ok;rfl)|(apply z29 [0] [] c0;rfl;rfl;rfl))<;>conv=>whnf)
  all_goals (refine rsD [0] [] rfl ?_;(repeat' first|exact y82 _|exact z52|apply y83|apply z60|constructor))
 ·obtain ⟨v1,m1,c1⟩:=z108 bs hb (p+1) (by omega) (by omega) [0,1,0,2] (by decide) (by decide)
  obtain ⟨v2,⟨l2,u2⟩,c2⟩:=z69 bs hb (p+1+1) 3 (by omega) (by omega) (by omega)
  obtain ⟨v3,m3,c3⟩:=z108 bs hb (p+1+1+1) (by omega) (by omega) [6,7,6] (by decide) (by decide)
  obtain ⟨v4,⟨l4,u4⟩,c4⟩:=z69 bs hb (p+1+1+1+1) 5 (by omega) (by omega) (by omega)
  have z0:v0≠0:=h0
  by_cases h4:v4=0
  ·subst h4
   refine ⟨.mk 3 0 [.mk v3 0 [leaf 2 v1,leaf 1 v2]],p+1+1+1+1+1,⟨by simp [z244,z94],by omega,by omega⟩,?_⟩
   refine z10 z19 Tryz.func66 rfl rfl 31 Tryz.ntmps66 (by simp) ?_
   repeat' ((first|(apply y4 ok;rfl)|(apply z37;kernel_rfl)|((apply z8)<;>intro _)|((first|(apply z11 [0] [] c0;rfl;rfl)|(apply z11 [0,2] [] c1;rfl;rfl)|(apply z11 [0] [] c2;rfl;rfl)|(apply z11 [0,5] [] c3;rfl;rfl)|(apply z11 [0] [] c4;rfl;rfl));rfl;(focus ((repeat' first|exact z17|apply z14)<;>first|exact z45 rfl rfl|(refine z23 ?_;((exact z7 fun _=>rfl)))))))<;>conv=>whnf)
   all_goals try (exfalso;omega)
   all_goals (refine rsL [0,8] [6] rfl ?_;refine rsD [0] [1] rfl ?_;(repeat' first|exact y82 _|exact z52|apply y83|((first|apply z48 rfl rfl rfl|apply z93 rfl rfl rfl);(focus ((repeat (rfl));done));(focus ((rfl);done)))|apply z60|(apply z79;rfl)|constructor))
  ·refine ⟨.mk v3 0 [leaf 2 v1,leaf 1 v2],p+1+1+1+1+1,⟨by simp [z244,z94],by omega,by omega⟩,?_⟩
   refine z10 z19 Tryz.func66 rfl rfl 31 Tryz.ntmps66 (by simp) ?_
   repeat' ((first|(apply y4 ok;rfl)|(apply z37;kernel_rfl)|((apply z8)<;>intro _)|((first|(apply z11 [0] [] c0;rfl;rfl)|(apply z11 [0,2] [] c1;rfl;rfl)|(apply z11 [0] [] c2;rfl;rfl)|(apply z11 [0,5] [] c3;rfl;rfl)|(apply z11 [0] [] c4;rfl;rfl));rfl;(focus ((repeat' first|exact z17|apply z14)<;>first|exact z45 rfl rfl|(refine z23 ?_;((exact z7 fun _=>rfl)))))))<;>conv=>whnf)
   all_goals try (exfalso;omega)
   all_goals (refine rsD [0] [6] rfl ?_;(repeat' first|exact y82 _|exact z52|apply y83|refine z48 rfl rfl rfl rfl rfl ?_|apply z60|(apply z79;rfl)|constructor))
def drK:Nat→Int
 |0=>4
 |n+1=>4+2 * drK n
def drS:Nat→Nat
 |0=>0
 |n+1=>2+2 * drS n
theorem z1155 (n:Nat):4≤drK n:=by induction n with
 |zero=>decide
 |succ n ih=>rw [drK];omega
set_option maxHeartbeats 1600000 in
theorem z841 (bs:List Int) (hb:BytesOk bs):∀ (n:Nat) (d p:Int),d≤n+1→n≤100→0≤d→0≤p→p+drK n≤1000000000→∃ (t:Tree) (p' : Int),(t.sz≤drS n∧p≤p'∧p'≤p+drK n)∧CallsA Tryz.prog 216 [.ptr 0 none 0,.int d] [rdO bs p] (z40 Tree.cs' t) [rdO bs p']:=by
 intro n
 induction n with
 |zero =>
  intro d p hd hd1 hd0 hp hq
  rw [drK] at hq ⊢
  obtain ⟨v0,⟨l0,u0⟩,c0⟩:=z69 bs hb p 3 (by omega) (by omega) (by omega)
  by_cases h0:v0=0
  ·subst h0
   obtain ⟨v1,⟨l1,u1⟩,c1⟩:=z69 bs hb (p+1) 4 (by omega) (by omega) (by omega)
   refine ⟨leaf 1 v1,p+1+1,⟨by rw [z94];omega,by omega,by omega⟩,?_⟩
   refine z10 z19 Tryz.func216 rfl rfl 46 Tryz.ntmps216 (by simp) ?_
   repeat' ((first|(apply y4 ok;rfl)|((apply z8)<;>intro _)|((first|(apply z29 [0] [] c0;rfl;rfl)|(apply z29 [0] [] c1;rfl;rfl));rfl))<;>conv=>whnf)
   all_goals try (exfalso;omega)
   all_goals (refine rsD [0] [] rfl ?_;(repeat' first|exact y82 _|exact z52|apply y83|apply z60|constructor))
  ·obtain ⟨v1,m1,c1⟩:=z108 bs hb (p+1) (by omega) (by omega) [0,1,0,2] (by decide) (by decide)
   refine ⟨leaf 2 v1,p+1+1,⟨by rw [z94];omega,by omega,by omega⟩,?_⟩
   refine z10 z19 Tryz.func216 rfl rfl 46 Tryz.ntmps216 (by simp) ?_
   repeat' ((first|(apply y4 ok;rfl)|((apply z8)<;>intro _)|((first|(apply z11 [0] [] c0;rfl;rfl)|(apply z11 [0,2] [] c1;rfl;rfl));rfl;(focus ((repeat' first|exact z17|apply z14)<;>first|exact z45 rfl rfl|(refine z23 ?_;((exact z7 fun _=>rfl)))))))<;>conv=>whnf)
   all_goals try (exfalso;omega)
   all_goals (refine rsD [0] [] rfl ?_;(repeat' first|exact y82 _|exact z52|apply y83|apply z60|constructor))
 |succ n ih =>
  intro d p hd hd1 hd0 hp hq
  have hK:=z1155 n
  by_cases hlt:d < 2
  ·obtain ⟨t,p',h1,h2⟩:=ih d p (by omega) (by omega) hd0 hp (by rw [drK] at hq;omega)
   exact ⟨t,p',⟨by rw [drS];omega,h1.2.1,by rw [drK];omega⟩,h2⟩
  rw [drK] at hq
  rw [drK,drS]
  obtain ⟨w,⟨lw,uw⟩,cw⟩:=z69 bs hb p 5 (by omega) (by omega) (by omega)
  by_cases hw:w=0
  ·subst hw
   obtain ⟨v0,⟨l0,u0⟩,c0⟩:=z69 bs hb (p+1) 3 (by omega) (by omega) (by omega)
   by_cases h0:v0=0
   ·subst h0
    obtain ⟨v1,⟨l1,u1⟩,c1⟩:=z69 bs hb (p+1+1) 4 (by omega) (by omega) (by omega)
    refine ⟨leaf 1 v1,p+1+1+1,⟨by rw [z94];omega,by omega,by omega⟩,?_⟩
    refine z10 z19 Tryz.func216 rfl rfl 46 Tryz.ntmps216 (by simp) ?_
    repeat' ((first|(apply y4 ok;rfl)|((apply z8)<;>intro _)|((first|(apply z29 [0] [] cw;rfl;rfl)|(apply z29 [0] [] c0;rfl;rfl)|(apply z29 [0] [] c1;rfl;rfl));rfl))<;>conv=>whnf)
    all_goals try (exfalso;omega)
    all_goals (refine rsD [0] [] rfl ?_;(repeat' first|exact y82 _|exact z52|apply y83|apply z60|constructor))
   ·obtain ⟨v1,m1,c1⟩:=z108 bs hb (p+1+1) (by omega) (by omega) [0,1,0,2] (by decide) (by decide)
    refine ⟨leaf 2 v1,p+1+1+1,⟨by rw [z94];omega,by omega,by omega⟩,?_⟩
    refine z10 z19 Tryz.func216 rfl rfl 46 Tryz.ntmps216 (by simp) ?_
    repeat' ((first|(apply y4 ok;rfl)|((apply z8)<;>intro _)|((first|(apply z11 [0] [] cw;rfl;rfl)|(apply z11 [0] [] c0;rfl;rfl)|(apply z11 [0,2] [] c1;rfl;rfl));rfl;(focus ((repeat' first|exact z17|apply z14)<;>first|exact z45 rfl rfl|(refine z23 ?_;((exact z7 fun _=>rfl)))))))<;>conv=>whnf)
    all_goals try (exfalso;omega)
    all_goals (refine rsD [0] [] rfl ?_;(repeat' first|exact y82 _|exact z52|apply y83|apply z60|constructor))
  ·obtain ⟨kd,mk,ck⟩:=z108 bs hb (p+1) (by omega) (by omega) [6,8,7,4,3,5,9] (by decide) (by decide)
   have ca:=z591 kd
   have ham:∃ m:Nat,z323 kd=m∧m≤2:=by
    simp only [List.mem_cons,List.not_mem_nil,or_false] at mk
    unfold z323
    rcases mk with rfl|rfl|rfl|rfl|rfl|rfl|rfl
    all_goals first|exact ⟨2,rfl,by omega⟩|exact ⟨1,rfl,by omega⟩
   obtain ⟨m,em,hm⟩:=ham
   rw [em] at ca
   obtain ⟨ks,pf,hks,hp0,hst,hpf⟩:=z370 (fun k q (t:Tree) q'=>t.sz≤drS n∧CallsA Tryz.prog 216 [.ptr 0 none 0,.int (d - 1)] [rdO bs q] (z40 Tree.cs' t) [rdO bs q']) (p+1+1) (drK n) m (fun k q hk h1 h2=>by
    have:drK n * k≤drK n:=by
     have:k=0∨k=1:=by omega
     rcases this with rfl|rfl<;>simp<;>omega
    obtain ⟨t,q',⟨a1,a2,a3⟩,a4⟩:=ih (d - 1) q (by omega) (by omega) (by omega) (by omega) (by omega)
    exact ⟨t,q',⟨a1,a4⟩,a2,a3⟩)
   have hpm:=hpf m (y48 _)
   have hKm:drK n * m≤2 * drK n:=by
    have:m=0∨m=1∨m=2:=by omega
    rcases this with rfl|rfl|rfl<;>simp<;>omega
   have hsum:(ks.map Tree.sz).sum≤2 * drS n:=by
    have:∀ (l:List Tree),(∀ t∈l,t.sz≤drS n)→(l.map Tree.sz).sum≤l.length * drS n:=by
     intro l
     induction l with
     |nil=>intro _;simp
     |cons t l ih =>
      intro h
      have h1:=h t (by simp)
      have h2:=ih fun u hu=>h u (by simp [hu])
      simp only [List.map_cons,List.sum_cons,y54,Nat.add_mul]
      omega
    have h1:=this ks fun t ht=>by
     obtain ⟨i,hi,rfl⟩:=List.mem_iff_getElem.1 ht
     exact (hst i hi).1
    have h2:ks.length * drS n≤2 * drS n:=Nat.mul_le_mul_right _ (by omega)
    omega
   refine ⟨.mk kd 0 ks,pf m,⟨by rw [z244];omega,by omega,by omega⟩,?_⟩
   refine z10 z19 Tryz.func216 rfl rfl 46 Tryz.ntmps216 (by simp) ?_
   rw [← hp0] at ck
   repeat' ((first|(apply y4 ok;rfl)|((apply z8)<;>intro _)|(apply z6 (ca);rfl;rfl)|((first|(apply z11 [0] [] cw;rfl;rfl)|(apply z11 [0,2] [] ck;rfl;rfl));rfl;(focus ((repeat' first|exact z17|apply z14)<;>first|exact z45 rfl rfl|(refine z23 ?_;((exact z7 fun _=>rfl)))))))<;>conv=>whnf)
   all_goals try (exfalso;omega)
   refine y81 (y84 3 rfl) ?_
   refine z92 (fun k:Nat=>([(0,.ptr 0 none 0),(1,.int d),(4,.ptr 1 none 0),(6,.ptr 2 none 0),(7,.int (m - k))],[rdO bs (pf k),.cells 3 [[.int 0,.int 0,.nils]],.cells 3 [[.int kd,.int 0,.sref 3 0 k]],.cells 3 ((ks.take k).map Tree.cs')])) (fun k=>k≤m) (fun k=>m - k) 0 (by omega) (by refine swR [0,1,3,4] [] rfl rfl ?_;(repeat' first|exact y82 _|exact z57|apply y83|refine z16 rfl (z36) ?_|constructor)) ?_
   intro k hk
   by_cases hkm:k < m
   ·have hc:=(hst k (by omega)).2
    have hkl:k < ks.length:=by omega
    rw [y15] at hc
    repeat' ((first|(apply y4 ok;rfl)|(apply z37;kernel_rfl)|(apply y39;first|(unfold inI;omega)|((try dsimp only);simp only [y45,y44,y43,y42,y54,y55];omega)|exact ⟨rfl,z25 rfl z32⟩)|((apply z8)<;>intro _)|(apply z29 [0] [] hc;rfl;rfl;rfl))<;>conv=>whnf)
    all_goals try (exfalso;omega)
    refine z44 (k+1) (by omega) (by omega) (by refine swR [0,1,2,5] [] rfl rfl ?_;(repeat' first|exact y82 _|exact z333|(refine z152 ?_;omega)|apply y83|((refine z47 rfl ?_ ?_);(focus ((repeat' (first|exact z7 (fun _=>rfl)|apply z33));done)))|refine z127 (by omega) (by omega) ?_|(apply z79;rfl)|constructor))
   ·have:k=m:=by omega
    subst this
    repeat' ((first|(apply y4 ok;rfl)|(apply y39;omega)|((apply z8)<;>intro _))<;>conv=>whnf)
    all_goals try (exfalso;omega)
    all_goals (refine rsD [0] [3] rfl ?_;(repeat' first|exact y82 _|(refine z524 ?_;omega)|apply y83|((apply z48 rfl rfl rfl);(focus ((repeat ((exact z38 (fun _=>rfl) _)));done));(focus (((simp;omega));done)))|apply z60|constructor))
theorem z1124 (bs:List Int) (hb:BytesOk bs) (p:Int) (hp:few p):∃ (t:Tree) (p' : Int),(t.sz≤20∧p≤p'∧p'≤p+100)∧CallsA Tryz.prog 175 [.ptr 0 none 0] [rdO bs p] (z40 Tree.cs' t) [rdO bs p']:=by
 obtain ⟨d,md,cd⟩:=z108 bs hb p (by omega) (by omega) [3,2,3,4] (by decide) (by decide)
 have hd:0≤d∧d≤4:=by simp at md;omega
 obtain ⟨t,q,⟨t1,t2,t3⟩,ct⟩:=z841 bs hb 3 d (p+1) (by omega) (by omega) (by omega) (by omega) (by simp only [drK];omega)
 simp only [drK] at t3
 simp only [drS] at t1
 have cv:=z139 t (z132 t (by unfold maxLen;omega))
 by_cases hv:t.exprB=true
 ·refine ⟨t,q,⟨by omega,by omega,by omega⟩,?_⟩
  rw [hv] at cv
  rw [y15] at *
  refine z10 z19 Tryz.func175 rfl rfl 15 Tryz.ntmps175 (by simp) ?_
  repeat' ((first|(apply y4 ok;rfl)|(apply z6 (cv);rfl;rfl)|((first|(apply z11 [0,2] [] cd;rfl;rfl)|(apply z11 [0] [] ct;rfl;rfl));rfl;(focus ((repeat' first|exact z17|apply z14)<;>first|exact z45 rfl rfl|(refine z23 ?_;((exact z7 fun _=>rfl)))))))<;>conv=>whnf)
  all_goals (refine rsD [0] [] rfl ?_;(repeat' first|exact y82 _|apply y83|constructor))
 ·obtain ⟨w,⟨lw,uw⟩,cw⟩:=z69 bs hb q 3 (by omega) (by omega) (by omega)
  refine ⟨leaf 2 w,q+1,⟨by rw [z94];omega,by omega,by omega⟩,?_⟩
  rw [(y68 _).mp hv] at cv
  rw [y15] at cv ct
  refine z10 z19 Tryz.func175 rfl rfl 15 Tryz.ntmps175 (by simp) ?_
  repeat' ((first|(apply y4 ok;rfl)|(apply z6 (cv);rfl;rfl)|((first|(apply z11 [0,2] [] cd;rfl;rfl)|(apply z11 [0] [] ct;rfl;rfl)|(apply z11 [0] [] cw;rfl;rfl));rfl;(focus ((repeat' first|exact z17|apply z14)<;>first|exact z45 rfl rfl|(refine z23 ?_;((exact z7 fun _=>rfl)))))))<;>conv=>whnf)
  all_goals (refine rsD [0] [] rfl ?_;(repeat' first|exact y82 _|exact z52|apply y83|apply z60|constructor))
mutual
def subZ (t:Tree):Tree:=match t with
 |.mk k v l=>if k=2∧v=-1 then .mk 0 0 [] else .mk k v (z1052 l)
def z1052 (l:List Tree):List Tree:=match l with
 |[]=>[]
 |t::r=>subZ t::z1052 r
end
theorem z891 (l:List Tree):z1052 l=l.map subZ:=by
 induction l with
 |nil=>simp [z1052]
 |cons t l ih=>simp [z1052,ih]
theorem subZ_sz (t:Tree):(subZ t).sz≤t.sz:=by
 induction t using y25 with|h t ih=>?_
 cases t with
 |mk k v l =>
  rw [subZ]
  split
  ·rw [z244];simp
  ·rw [z891,z244,z244]
   simp only [Tree.kids] at ih
   have key:∀ l:List Tree,(∀ u∈l,(subZ u).sz≤u.sz)→((l.map subZ).map Tree.sz).sum≤(l.map Tree.sz).sum:=by
    intro l
    induction l with
    |nil=>intro _;simp
    |cons t l ihl =>
     intro ih
     have h1:=ih t (by simp)
     have h2:=ihl fun u hu=>ih u (by simp [hu])
     simp only [List.map_cons,List.sum_cons]
     omega
   have:=key l ih
   simp only [y45]
   omega
def z790:AC:=.agg [.int 0,.int 0,.nils]
def ownT (t:Tree):AC:=.agg [.int t.kind,.int t.val,.sref 0 0 t.kids.length]
theorem z951:CallsA Tryz.prog 122 [z790,.int (-1),z790] [] (ownT (.mk 0 0 [])) [.cells 3 []]:=by
 refine z10 z19 Tryz.func122 rfl rfl 47 Tryz.ntmps122 (by simp) ?_
 repeat' (((apply y4 ok;rfl))<;>conv=>whnf)
 refine z97 (fun _:Nat=>([(6,.ptr 0 none 0),(7,.ptr 1 none 0),(8,.int 0),(3,.ptr 2 none 0)],[.cells 3 [[.int 0,.int 0,.nils]],.cells 3 [[.int 0,.int 0,.nils]],.cells 3 [[.int 0,.int 0,.nils]]])) (fun _=>True) (fun _=>0) 0 trivial ⟨[2,3,0],rfl,by decide,rfl,by repeat' (first|exact True.intro|exact ⟨rfl,rfl⟩|apply y39),by repeat' (first|exact True.intro|exact z27 rfl rfl|apply y39)⟩ ?_
 intro k hk
 repeat' (((apply y4 ok;rfl))<;>conv=>whnf)
 all_goals (refine rsL [] [] rfl ?_;refine y85 3 ?_;refine y12 ?_ ?_<;>(repeat' first|exact y82 _|exact z57|apply z60|apply ObjLe.mk|constructor))
theorem z465 {f:FuncId} {args:List AC} {t:Tree} (h:CallsA Tryz.prog f args [] (ownT t) [.cells 3 (t.kids.map Tree.cs')]):CallsA Tryz.prog f args [] (z40 Tree.cs' t) []:=by
 rw [y15]
 exact (by refine y5 (h) [] [0] rfl rfl rfl ?_ ?_<;>(repeat' first|exact y82 _|((apply z48 rfl rfl rfl);(focus ((repeat ((exact z38 (fun _=>rfl) _)));done));(focus (((simp;done));done)))|apply z60|constructor))
theorem z840 (t:Tree) (h:t.sz≤1000000):CallsA Tryz.prog 122 [z40 Tree.cs' t,.int (-1),z790] [] (ownT (subZ t)) [.cells 3 ((subZ t).kids.map Tree.cs')]:=by
 induction t using y25 with|h t ih=>?_
 have hkl:t.kids.length≤1000000:=by rw [y34] at h;omega
 have hks:∀ u∈t.kids,u.sz≤1000000:=fun u hu=>by
  have:=z385 Tree.sz hu
  rw [y34] at h;omega
 rw [y15 t]
 obtain ⟨k,v,l⟩:=t
 simp only [Tree.kind,Tree.val,Tree.kids] at *
 rw [subZ]
 by_cases hz:k=2∧v=-1
 ·obtain ⟨rfl,rfl⟩:=hz
  rw [if_pos ⟨rfl,rfl⟩]
  have c:=z951
  unfold z790 ownT at *
  refine z10 z19 Tryz.func122 rfl rfl 47 Tryz.ntmps122 (by simp) ?_
  repeat' ((first|(apply y4 ok;rfl)|(apply z11 [] [3] c;rfl;rfl;rfl;(focus ((repeat' first|exact z17|apply z14)<;>(refine z23 ?_;(exact z36))))))<;>conv=>whnf)
  all_goals (refine rsD [3] [] rfl ?_;(repeat' first|exact y82 _|refine z16 rfl (z36) ?_|constructor))
 ·rw [if_neg hz,z891]
  have hcs:∀ (i:Nat) (hi:i < l.length) (hi2:i < (l.map subZ).length),CallsA Tryz.prog 122 [z40 Tree.cs' l[i],.int (-1),z790] [] (z40 Tree.cs' (l.map subZ)[i]) []:=fun i hi hi2=>by
   rw [List.getElem_map]
   exact z465 (ih _ (y40 _) (hks _ (y40 _)))
  have hll:(l.map subZ).length=l.length:=y45 ..
  generalize l.map subZ=L at *
  unfold z790 ownT at *
  simp only [Tree.kind,Tree.val,Tree.kids] at *
  rw [hll]
  refine z10 z19 Tryz.func122 rfl rfl 47 Tryz.ntmps122 (by simp) ?_
  by_cases h2:k=2
  all_goals
   repeat' ((first|(apply y4 ok;rfl)|((apply z8)<;>intro _))<;>conv=>whnf)
   all_goals try (exfalso;omega)
   refine y81 (y84 3 rfl) ?_
   refine z92 (fun i:Nat=>([(1,.int (-1)),(3,.ptr 0 none 0),(5,.ptr 1 none 0),(6,.ptr 2 none 0),(7,.ptr 3 none 0),(8,.int i)],[.cells 3 [[.int k,.int v,lst 3 Tree.cs' l]],.cells 3 [[.int 0,.int 0,.nils]],.cells 3 [[.int 0,.int 0,.nils]],.cells 3 [[.int k,.int v,.sref 4 0 i]],.cells 3 ((L.take i).map Tree.cs')])) (fun i=>i≤l.length) (fun i=>l.length - i) 0 (by omega) (by refine swR [0,1,2,3,4] [] rfl rfl ?_;(repeat' first|exact y82 _|exact z57|apply y83|refine z16 rfl (z36) ?_|constructor)) ?_
   intro i hi
   by_cases hil:i < l.length
   ·have hiL:i < L.length:=by omega
    have hc:=hcs i hil hiL
    repeat' ((first|(apply y4 ok;rfl)|(apply z37;kernel_rfl)|(apply y39;first|omega|(unfold inI;omega)|((try dsimp only);simp only [y45,y44,y43,y42,y54,y55];omega)|exact ⟨rfl,z25 rfl z32⟩)|(((with_reducible apply z15;omega));intro _)|((apply z8)<;>intro _)|(apply z6 (hc);rfl;rfl))<;>conv=>whnf)
    all_goals try (exfalso;omega)
    refine z44 (i+1) (by omega) (by omega) (by refine swR [0,1,2,3,6] [] rfl rfl ?_;(repeat' first|exact y82 _|apply y83|((refine z47 rfl ?_ ?_);(focus ((repeat' (first|exact z7 (fun _=>rfl)|apply z33));done)))|refine z127 (by omega) (by omega) ?_|constructor))
   ·have e:i=l.length:=by omega
    subst e
    rw [y53 (show L.length≤l.length by omega)]
    repeat' ((first|(apply y4 ok;rfl)|(apply y39;omega)|(((with_reducible apply z15;omega));intro _)|((apply z8)<;>intro _))<;>conv=>whnf)
    all_goals try (exfalso;omega)
    all_goals (refine rsD [4] [] rfl ?_;(repeat' first|exact y82 _|exact z18 _|refine z16 rfl (z7 (fun _=>rfl)) ?_|constructor))
theorem z1067 {w n n2:Nat} {α:Type} {f:α→List AC} {l:List α} {x:α} {e:List AC} (hn:n=l.length) (h2:n2=l.length+1) (h:F2 LocLe e (f x)):LocLe (.list w n2 (((l.map f).take n)++[e])) (.list w (l++[x]).length ((l++[x]).map f)):=by
 subst hn
 refine z79 (by simp [h2]) ?_
 rw [y53 (by simp),y60]
 have:∀ (a:List (List AC)) {b c:List AC},F2 LocLe b c→F2 (F2 LocLe) (a++[b]) (a++[c]):=fun a b c h=>by
  induction a with
  |nil=>exact .cons h .nil
  |cons x a ih=>exact .cons (z298 x) ih
 exact this _ h
theorem z707 {n n2:Nat} {l:List Tree} {x:Tree} {e:List AC} (hn:n=l.length) (h2:n2=l.length+1) (h:F2 LocLe e (Tree.cs' x)):LocLe (.list 3 n2 (((l.map Tree.cs').take n)++[e])) (.list 3 (l++[x]).length ((l++[x]).map Tree.cs)):=by
 rw [y16];exact z1067 hn h2 h
set_option maxHeartbeats 1600000 in
theorem z522 (bs:List Int) (hb:BytesOk bs) (p:Int) (hp:few p) (t:Tree) (ht:t.sz≤1000):∃ (t' : Tree) (p' : Int),(t'.sz≤t.sz+1∧p≤p'∧p'≤p+2)∧CallsA Tryz.prog 67 [.ptr 0 none 0,z40 Tree.cs' t] [rdO bs p] (z40 Tree.cs' t') [rdO bs p']:=by
 have cs:=z840 t (by omega)
 have hsz:=subZ_sz t
 generalize subZ t=u at *
 have hul:u.kids.length≤1000:=by rw [y34] at hsz;omega
 obtain ⟨v,⟨lv,uv⟩,cv⟩:=z69 bs hb p 40 (by omega) (by omega) (by omega)
 rw [y15 t]
 rw [y15 t] at cs
 unfold ownT z790 at cs
 by_cases h0:v=0
 ·subst h0
  obtain ⟨k,mk,ck⟩:=z108 bs hb (p+1) (by omega) (by omega) [0,10,-1,1,2,3,4] (by decide) (by decide)
  refine ⟨.mk k u.val u.kids,p+1+1,⟨by rw [z244];rw [y34] at hsz;omega,by omega,by omega⟩,?_⟩
  refine z10 z19 Tryz.func67 rfl rfl 35 Tryz.ntmps67 (by simp) ?_
  repeat' ((first|(apply y4 ok;rfl)|((first|(apply z11 [] [3] cs;rfl;rfl)|(apply z11 [0] [] cv;rfl;rfl)|(apply z11 [0,5] [] ck;rfl;rfl));rfl;(focus ((repeat' first|exact z17|apply z14)<;>first|exact z45 rfl rfl|(refine z23 ?_;((exact z7 fun _=>rfl)))))))<;>conv=>whnf)
  all_goals (refine rsD [0] [3] rfl ?_;(repeat' first|exact y82 _|exact z333|apply y83|((apply z48 rfl rfl rfl);(focus ((repeat ((exact z38 (fun _=>rfl) _)));done));(focus (((simp;done));done)))|apply z60|(apply z79;rfl)|constructor))
 by_cases h1:v=1
 ·subst h1
  obtain ⟨k,mk,ck⟩:=z108 bs hb (p+1) (by omega) (by omega) [-1,4,3,9223372036854775807] (by decide) (by decide)
  refine ⟨.mk u.kind k u.kids,p+1+1,⟨by rw [z244];rw [y34] at hsz;omega,by omega,by omega⟩,?_⟩
  refine z10 z19 Tryz.func67 rfl rfl 35 Tryz.ntmps67 (by simp) ?_
  repeat' ((first|(apply y4 ok;rfl)|((first|(apply z11 [] [3] cs;rfl;rfl)|(apply z11 [0] [] cv;rfl;rfl)|(apply z11 [0,5] [] ck;rfl;rfl));rfl;(focus ((repeat' first|exact z17|apply z14)<;>first|exact z45 rfl rfl|(refine z23 ?_;((exact z7 fun _=>rfl)))))))<;>conv=>whnf)
  all_goals (refine rsD [0] [3] rfl ?_;(repeat' first|exact y82 _|exact z333|apply y83|((apply z48 rfl rfl rfl);(focus ((repeat ((exact z38 (fun _=>rfl) _)));done));(focus (((simp;done));done)))|apply z60|(apply z79;rfl)|constructor))
 by_cases h2:v=2
 ·subst h2
  refine ⟨.mk u.kind u.val (u.kids++[leaf 1 0]),p+1,⟨by rw [z244];rw [y34] at hsz;simp [z94];omega,by omega,by omega⟩,?_⟩
  refine z10 z19 Tryz.func67 rfl rfl 35 Tryz.ntmps67 (by simp) ?_
  repeat' ((first|(apply y4 ok;rfl)|(apply y39;first|((try dsimp only);simp only [y45,y44,y43,y42,y54,y55];omega)|exact ⟨rfl,z25 rfl z32⟩)|((first|(apply z11 [] [3] cs;rfl;rfl)|(apply z11 [0] [] cv;rfl;rfl));rfl;(focus ((repeat' first|exact z17|apply z14)<;>first|exact z45 rfl rfl|(refine z23 ?_;((exact z7 fun _=>rfl)))))))<;>conv=>whnf)
  all_goals (refine rsD [0] [6] rfl ?_;(repeat' first|exact y82 _|apply y83|((apply z48 rfl rfl rfl);(focus ((repeat (first|exact z38 (fun _=>rfl) _|apply z119|apply z166|rfl));done));(focus (((simp;done));done)))|apply z60|constructor))
  all_goals exact z707 rfl rfl (node_le' z52)
 by_cases h3:v=3
 ·subst h3
  refine ⟨leaf 0 0,p+1,⟨by rw [z94];omega,by omega,by omega⟩,?_⟩
  refine z10 z19 Tryz.func67 rfl rfl 35 Tryz.ntmps67 (by simp) ?_
  repeat' ((first|(apply y4 ok;rfl)|((first|(apply z11 [] [3] cs;rfl;rfl)|(apply z11 [0] [] cv;rfl;rfl));rfl;(focus ((repeat' first|exact z17|apply z14)<;>first|exact z45 rfl rfl|(refine z23 ?_;((exact z7 fun _=>rfl)))))))<;>conv=>whnf)
  all_goals (refine rsD [0] [] rfl ?_;(repeat' first|exact y82 _|exact z52|apply y83|apply z60|constructor))
 ·refine ⟨.mk u.kind u.val u.kids,p+1,⟨by rw [z244];rw [y34] at hsz;omega,by omega,by omega⟩,?_⟩
  refine z10 z19 Tryz.func67 rfl rfl 35 Tryz.ntmps67 (by simp) ?_
  repeat' ((first|(apply y4 ok;rfl)|(apply y39;omega)|((apply z8)<;>intro _)|((first|(apply z11 [] [3] cs;rfl;rfl)|(apply z11 [0] [] cv;rfl;rfl));rfl;(focus ((repeat' first|exact z17|apply z14)<;>first|exact z45 rfl rfl|(refine z23 ?_;((exact z7 fun _=>rfl)))))))<;>conv=>whnf)
  all_goals try (exfalso;omega)
  all_goals (refine rsD [0] [3] rfl ?_;(repeat' first|exact y82 _|exact z333|apply y83|((apply z48 rfl rfl rfl);(focus ((repeat ((exact z38 (fun _=>rfl) _)));done));(focus (((simp;done));done)))|apply z60|(apply z79;rfl)|constructor))
theorem len3 {α:Type} {l:List α} (h:l.length=3):∃ a b c,l=[a,b,c]:=by
 match l,h with
 |[a,b,c],_=>exact ⟨a,b,c,rfl⟩
set_option maxHeartbeats 3200000 in
theorem z442 (bs:List Int) (hb:BytesOk bs) (p:Int) (hp:few1 p):∃ (M:List Tree) (n:Nat) (p' : Int),(n≤M.length∧M.length=3∧(∀ t∈M,t.sz≤5)∧p≤p'∧p'≤p+30)∧CallsA Tryz.prog 21 [.ptr 0 none 0] [rdO bs p] (.sref 1 0 n) [rdO bs p',.cells 3 (M.map Tree.cs')]:=by
 obtain ⟨M,pf,hM,hp0,hst,hpf⟩:=z370 (fun _ q (t' : Tree) q'=>t'.sz≤3∧∃ t q1,CallsA Tryz.prog 66 [.ptr 0 none 0] [rdO bs q] (z40 Tree.cs' t) [rdO bs q1]∧((t.kind=1∧∃ w,t'=leaf 2 w∧q'=q1+1∧CallsA Tryz.prog 58 [.ptr 0 none 0,.int 3] [rdO bs q1] (.int w) [rdO bs (q1+1)])∨(t.kind≠1∧t'=t∧q'=q1))) p 6 3 (fun k q hk h1 h2=>by
  obtain ⟨t,q1,⟨a1,a2,a3⟩,ct⟩:=z590 bs hb q ⟨by omega,by omega⟩
  by_cases ht:t.kind=1
  ·obtain ⟨w,⟨lw,uw⟩,cw⟩:=z69 bs hb q1 3 (by omega) (by omega) (by omega)
   exact ⟨leaf 2 w,q1+1,⟨by rw [z94];omega,t,q1,ct,.inl ⟨ht,w,rfl,rfl,cw⟩⟩,by omega,by omega⟩
  ·exact ⟨t,q1,⟨a1,t,q1,ct,.inr ⟨ht,rfl,rfl⟩⟩,by omega,by omega⟩)
 have hMs:∀ t∈M,t.sz≤3:=fun t ht=>by
  obtain ⟨i,hi,rfl⟩:=List.mem_iff_getElem.1 ht
  exact (hst i hi).1
 have hp3:=hpf 3 (y48 _)
 obtain ⟨v,⟨lv,uv⟩,cv⟩:=z69 bs hb (pf 3) 40 (by omega) (by omega) (by omega)
 have key:∀ (M' : List Tree) (n:Nat) (p' : Int),(v=0→n=2∧M'=M∧p'=pf 3+1)→(v≠0→v≠1→n=3∧M'=M∧p'=pf 3+1)→(v=1→n=3∧∃ a b c u w q1,M=[a,b,c]∧M'=[a,w,c]∧CallsA Tryz.prog 67 [.ptr 0 none 0,z40 Tree.cs' b] [rdO bs (pf 3+1)] (z40 Tree.cs' u) [rdO bs q1]∧CallsA Tryz.prog 67 [.ptr 0 none 0,z40 Tree.cs' u] [rdO bs q1] (z40 Tree.cs' w) [rdO bs p'])→CallsA Tryz.prog 21 [.ptr 0 none 0] [rdO bs p] (.sref 1 0 n) [rdO bs p',.cells 3 (M'.map Tree.cs')]:=by
  intro M' n p' k0 k2 k1
  refine z10 z19 Tryz.func21 rfl rfl 41 Tryz.ntmps21 (by simp) ?_
  repeat' (((apply y4 ok;rfl))<;>conv=>whnf)
  rw [← hp0]
  refine z92 (fun i:Nat=>([(0,.ptr 0 none 0),(3,.sref 1 0 i),(4,.int i)],[rdO bs (pf i),.cells 3 ((M.take i).map Tree.cs')])) (fun i=>i≤3) (fun i=>3 - i) 0 (by omega) (by refine swR [0,1] [] rfl rfl ?_;(repeat' first|exact y82 _|apply y83|refine z16 rfl (z36) ?_|constructor)) ?_
  intro i hi
  by_cases hil:i < 3
  ·obtain ⟨a1,t,q1,ct,ht⟩:=hst i (by omega)
   have hiM:i < M.length:=by omega
   rw [y15 t] at ct
   rcases ht with ⟨h1,w,h2,h3,cw⟩|⟨h1,h2,h3⟩
   ·repeat' ((first|(apply y4 ok;rfl)|(apply y39;first|omega|(unfold inI;omega)|((try dsimp only);simp only [y45,y44,y43,y42,y54,y55];omega)|exact ⟨rfl,z25 rfl z32⟩)|((apply z8)<;>intro _)|((first|(apply z29 [0] [] ct;rfl;rfl)|(apply z29 [0] [] cw;rfl;rfl));rfl))<;>conv=>whnf)
    all_goals try (exfalso;omega)
    have e1:M[i].kind=2:=by rw [h2];rfl
    have e2:M[i].val=w:=by rw [h2];rfl
    have e3:M[i].kids=[]:=by rw [h2];rfl
    all_goals refine z44 (i+1) (by omega) (by omega) (by refine swR [0,4] [] rfl rfl ?_;(repeat' first|exact y82 _|(refine nils_of ?_;assumption)|(refine z152 ?_;omega)|apply y83|((refine z47 rfl ?_ ?_);(focus ((repeat' (first|exact z7 (fun _=>rfl)|apply z33));done)))|refine z127 (by omega) (by omega) ?_|constructor))
   ·subst h2
    repeat' ((first|(apply y4 ok;rfl)|(apply y39;first|(unfold inI;omega)|((try dsimp only);simp only [y45,y44,y43,y42,y54,y55];omega)|exact ⟨rfl,z25 rfl z32⟩)|((apply z8)<;>intro _)|(apply z29 [0] [] ct;rfl;rfl;rfl))<;>conv=>whnf)
    all_goals try (exfalso;omega)
    all_goals refine z44 (i+1) (by omega) (by omega) (by refine swR [0,4] [] rfl rfl ?_;(repeat' first|exact y82 _|exact z333|(refine z152 ?_;omega)|apply y83|((refine z47 rfl ?_ ?_);(focus ((repeat' (first|exact z7 (fun _=>rfl)|apply z33));done)))|refine z127 (by omega) (by omega) ?_|(apply z79;rfl)|constructor))
  ·have:i=3:=by omega
   subst this
   obtain ⟨a,b,c,rfl⟩:=len3 hM
   by_cases h0:v=0
   ·obtain ⟨rfl,rfl,rfl⟩:=k0 h0
    subst h0
    repeat' ((first|(apply y4 ok;rfl)|(apply y39;omega)|(apply z29 [0] [] cv;rfl;rfl;rfl))<;>conv=>whnf)
    all_goals (refine rsD [0,1] [] rfl ?_;(repeat' first|exact y82 _|apply y83|refine z16 rfl (z7 (fun _=>rfl)) ?_|constructor))
   by_cases h1:v=1
   ·obtain ⟨rfl,a',b',c',u,w,q1,e,rfl,c1,c2⟩:=k1 h1
    simp only [List.cons.injEq,and_true] at e
    obtain ⟨rfl,rfl,rfl⟩:=e
    subst h1
    rw [y15 u] at c1 c2
    rw [y15 w] at c2
    repeat' ((first|(apply y4 ok;rfl)|(apply y39;omega)|apply z155|((first|(apply z29 [0] [] cv;rfl;rfl)|(apply z29 [0] [] c1;rfl;rfl)|(apply z29 [0] [] c2;rfl;rfl));rfl))<;>conv=>whnf)
    all_goals (refine rsD [0,1] [] rfl ?_;(repeat' first|exact y82 _|exact z333|apply y83|refine z80 rfl (z7 (fun _=>rfl)) ?_|(apply z79;rfl)|constructor))
   ·obtain ⟨rfl,rfl,rfl⟩:=k2 h0 h1
    repeat' ((first|(apply y4 ok;rfl)|(apply y39;omega)|(((apply z15;omega));intro _)|((apply z8)<;>intro _)|(apply z29 [0] [] cv;rfl;rfl;rfl))<;>conv=>whnf)
    all_goals try (exfalso;omega)
    all_goals (refine rsD [0,1] [] rfl ?_;(repeat' first|exact y82 _|apply y83|refine z16 rfl (z7 (fun _=>rfl)) ?_|constructor))
 by_cases h1:v=1
 ·obtain ⟨a,b,c,rfl⟩:=len3 hM
  have hb1:=hMs b (by simp)
  obtain ⟨u,q1,⟨b1,b2,b3⟩,c1⟩:=z522 bs hb (pf 3+1) ⟨by omega,by omega⟩ b (by omega)
  obtain ⟨w,q2,⟨d1,d2,d3⟩,c2⟩:=z522 bs hb q1 ⟨by omega,by omega⟩ u (by omega)
  refine ⟨[a,w,c],3,q2,⟨by simp,by simp,fun t ht=>?_,by omega,by omega⟩,key _ _ _ (fun h=>by omega) (fun _ h=>absurd h1 h) fun _=>⟨rfl,a,b,c,u,w,q1,rfl,rfl,c1,c2⟩⟩
  have ha:=hMs a (by simp)
  have hc:=hMs c (by simp)
  simp only [List.mem_cons,List.not_mem_nil,or_false] at ht
  rcases ht with rfl|rfl|rfl<;>omega
 ·by_cases h0:v=0
  ·exact ⟨M,2,pf 3+1,⟨by omega,hM,fun t ht=>by have:=hMs t ht;omega,by omega,by omega⟩,key _ _ _ (fun _=>⟨rfl,rfl,rfl⟩) (fun h=>absurd h0 h) fun h=>absurd h h1⟩
  ·exact ⟨M,3,pf 3+1,⟨by omega,hM,fun t ht=>by have:=hMs t ht;omega,by omega,by omega⟩,key _ _ _ (fun h=>absurd h h0) (fun _ _=>⟨rfl,rfl,rfl⟩) fun h=>absurd h h1⟩
theorem z835 (bs:List Int) (hb:BytesOk bs) (p:Int) (hp:few1 p):∃ (L:List Tree) (p' : Int),(L.length≤3∧(∀ t∈L,t.sz≤5)∧p≤p'∧p'≤p+30)∧CallsA Tryz.prog 21 [.ptr 0 none 0] [rdO bs p] (lst 3 Tree.cs' L) [rdO bs p']:=by
 obtain ⟨M,n,p',⟨h1,h2,h3,h4,h5⟩,c⟩:=z442 bs hb p hp
 refine ⟨M.take n,p',⟨by simp;omega,fun t ht=>h3 t (List.mem_of_mem_take ht),h4,h5⟩,?_⟩
 obtain ⟨a,b,d,rfl⟩:=len3 h2
 have hn:n=0∨n=1∨n=2∨n=3:=by simp at h1;omega
 rcases hn with rfl|rfl|rfl|rfl
 all_goals exact (by refine y5 (c) [0] [1] rfl rfl rfl ?_ ?_<;>(repeat' first|exact y82 _|apply y83|constructor))
theorem Lmx_of {L:List Tree} (h1:L.length≤10) (h2:∀ t∈L,t.sz≤1000):Lmx L:=⟨by unfold maxLen;omega,fun t ht=>z132 t (by have:=h2 t ht;unfold maxLen;omega)⟩
theorem mix_set {α:Type} {f:α→List AC} {N M:List α} {i:Nat} {e:List AC} (hi:i < M.length) (hl:N.length=M.length) (he:e=f (N[i]'(by omega))):((N.take i++M.drop i).map f).set i e=(N.take (i+1)++M.drop (i+1)).map f:=by
 subst he
 have hN:i < N.length:=by omega
 rw [y60,List.set_append_right _ _ (by simp;omega)]
 simp only [y45,y44]
 rw [show i - min i N.length=0 by omega,y76 hi,List.map_cons,List.set_cons_zero,y46 hN,y60,y60]
 simp
theorem set_le {l:List (List AC)} {i j:Nat} {e e' : List AC} (hj:j=i) (h:F2 LocLe e e'):F2 (F2 LocLe) (l.set j e) (l.set i e'):=by
 subst hj
 induction l generalizing j with
 |nil=>exact .nil
 |cons x l ih =>
  cases j with
  |zero=>exact .cons h (z18 _)
  |succ j=>exact .cons (z298 _) ih
theorem mix_le {α:Type} {f:α→List AC} {N M:List α} {i j:Nat} {e:List AC} (hj:j=i) (hi:i < M.length) (hl:N.length=M.length) (he:F2 LocLe e (f (N[i]'(by omega)))):F2 (F2 LocLe) (((N.take i++M.drop i).map f).set j e) ((N.take (i+1)++M.drop (i+1)).map f):=by
 rw [← mix_set hi hl rfl];exact set_le hj he
theorem mix_keep {α:Type} {N M:List α} {i:Nat} (hi:i < M.length) (hl:N.length=M.length) (he:N[i]'(by omega)=M[i]):N.take i++M.drop i=N.take (i+1)++M.drop (i+1):=by
 rw [y76 hi,y46 (show i < N.length by omega),he];simp
set_option maxHeartbeats 3200000 in
theorem z655 (bs:List Int) (hb:BytesOk bs) (p:Int) (hp:few1 p):∃ (M:List Tree) (n:Nat) (p' : Int),(n≤M.length∧M.length=3∧(∀ t∈M,t.sz≤5)∧p≤p'∧p'≤p+40)∧CallsA Tryz.prog 17 [.ptr 0 none 0] [rdO bs p] (.sref 1 0 n) [rdO bs p',.cells 3 (M.map Tree.cs')]:=by
 obtain ⟨M,n,q,⟨h1,h2,h3,h4,h5⟩,c⟩:=z442 bs hb p hp
 obtain ⟨W,pf,hW,hp0,hst,hpf⟩:=z370 (fun _ q (v:Int) q'=>q'=q+1∧CallsA Tryz.prog 58 [.ptr 0 none 0,.int 2] [rdO bs q] (.int v) [rdO bs (q+1)]) q 1 n (fun k q hk a1 a2=>by
  obtain ⟨w,_,cw⟩:=z69 bs hb q 2 (by omega) (by omega) (by omega)
  exact ⟨w,q+1,⟨rfl,cw⟩,by omega,by omega⟩)
 have hpn:=hpf n (y48 _)
 obtain ⟨N,hNl,hNi⟩:∃ (N:List Tree) (h:N.length=M.length),∀ i (hi:i < M.length),N[i]'(by omega)=if i < n∧W.getD i 1=0 then leaf 1 1 else M[i]:=by
  refine ⟨(List.range M.length).map fun j=>if j < n∧W.getD j 1=0 then leaf 1 1 else M.getD j (leaf 0 0),by simp,fun i hi=>?_⟩
  simp only [List.getElem_map,List.getElem_range]
  split
  ·rfl
  ·exact z13 hi
 refine ⟨N,n,pf n,⟨by omega,by omega,fun t ht=>?_,by omega,by omega⟩,?_⟩
 ·obtain ⟨i,hi,rfl⟩:=List.mem_iff_getElem.1 ht
  rw [hNi i (by omega)]
  split
  ·rw [z94];omega
  ·exact h3 _ (y40 _)
 have hNn:N=N.take n++M.drop n:=by
  apply y71 (by simp [hNl];omega)
  intro i hi hi2
  by_cases hin:i < n
  ·rw [List.getElem_append_left (by simp;omega),List.getElem_take]
  ·rw [List.getElem_append_right (by simp;omega),hNi i (by omega),if_neg (by omega)]
   simp only [y44,List.getElem_drop]
   congr 1;omega
 rw [hNn]
 rw [← hp0] at c
 refine z10 z19 Tryz.func17 rfl rfl 21 Tryz.ntmps17 (by simp) ?_
 repeat' ((first|(apply y4 ok;rfl)|(apply z11 [0] [1] c;rfl;rfl;rfl;(focus ((repeat' first|exact z17|apply z14)<;>first|exact z45 rfl rfl|(refine z23 ?_;((exact z7 fun _=>rfl)))))))<;>conv=>whnf)
 refine z92 (fun i:Nat=>([(0,.ptr 0 none 0),(3,.sref 1 0 n),(4,.int i)],[rdO bs (pf i),.cells 3 ((N.take i++M.drop i).map Tree.cs')])) (fun i=>i≤n) (fun i=>n - i) 0 (by omega) (by refine swR [0,1] [] rfl rfl ?_;(repeat' first|exact y82 _|exact z18 _|apply y83|refine z16 rfl (z7 (fun _=>rfl)) ?_|constructor)) ?_
 intro i hi
 by_cases hin:i < n
 ·obtain ⟨e1,cw⟩:=hst i (by omega)
  have hiM:i < M.length:=by omega
  have e2:=hNi i hiM
  have hl3:(N.take i++M.drop i).length=3:=by simp;omega
  by_cases hw:W[i]'(by omega)=0
  ·rw [if_pos ⟨hin,by rw [z13 (by omega),hw]⟩] at e2
   rw [hw] at cw
   repeat' ((first|(apply y4 ok;rfl)|(apply y39;first|omega|(unfold inI;omega))|(((apply z15;omega));intro _)|((apply z8)<;>intro _)|(apply z29 [0] [] cw;rfl;rfl;rfl))<;>conv=>whnf)
   all_goals try (exfalso;omega)
   all_goals refine z44 (i+1) (by omega) (by omega) (by refine swR [0,1] [] rfl rfl ?_;(repeat' first|exact y82 _|(refine z152 ?_;omega)|apply y83|refine z80 rfl (z7 (fun _=>rfl)) ?_|constructor)<;>(exact mix_le (by omega) hiM hNl (by rw [e2];exact node_le' z52)))
  ·rw [if_neg (fun h=>hw (by rw [← h.2,z13 (by omega)]))] at e2
   have e3:=mix_keep hiM hNl e2
   repeat' ((first|(apply y4 ok;rfl)|(apply y39;first|omega|(unfold inI;omega))|(((apply z15;omega));intro _)|((apply z8)<;>intro _)|(apply z29 [0] [] cw;rfl;rfl;rfl))<;>conv=>whnf)
   all_goals try (exfalso;omega)
   all_goals refine z44 (i+1) (by omega) (by omega) (by refine swR [0,1] [] rfl rfl ?_;(repeat' first|exact y82 _|(refine z152 ?_;omega)|apply y83|refine z16 rfl (z7 (fun _=>rfl)) ?_|constructor)<;>(exact z68 (by rw [e3])))
 ·have:i=n:=by omega
  subst this
  repeat' ((first|(apply y4 ok;rfl)|((apply z8)<;>intro _))<;>conv=>whnf)
  all_goals try (exfalso;omega)
  all_goals (refine rsD [0,1] [] rfl ?_;(repeat' first|exact y82 _|exact z18 _|apply y83|refine z16 rfl (z7 (fun _=>rfl)) ?_|constructor))
def z225 (n:Nat):List Int:=(List.range n).map Int.ofNat
theorem z248 (n:Nat):(z225 n).length=n:=by simp [z225]
theorem z763 {n i:Nat} (h:i < (z225 n).length):(z225 n)[i]=i:=by simp [z225]
theorem z588 (n:Nat) (hn:n≤1000000):CallsA Tryz.prog 65 [.int n] [] (ints (z225 n)) []:=by
 refine z10 z19 Tryz.func65 rfl rfl 16 Tryz.ntmps65 (by simp) ?_
 repeat' (((apply y4 ok;rfl))<;>conv=>whnf)
 refine z92 (fun i:Nat=>([(0,.int n),(3,.sref 0 0 i),(4,.int i)],[.cells 1 (((z225 n).take i).map enI)])) (fun i=>i≤n) (fun i=>n - i) 0 (by omega) (by refine swR [0] [] rfl rfl ?_;(repeat' first|exact y82 _|refine z16 rfl (z36) ?_|constructor)) ?_
 intro i hi
 by_cases hin:i < n
 ·have hl:i < (z225 n).length:=by rw [z248];exact hin
  have e:=z763 hl
  repeat' ((first|(apply y4 ok;rfl)|(apply y39;first|(unfold inI;omega)|((try dsimp only);simp only [y45,y44,y43,y42,y54,y55];omega)|exact ⟨rfl,z25 rfl z32⟩)|((apply z8)<;>intro _))<;>conv=>whnf)
  all_goals try (exfalso;omega)
  all_goals refine z44 (i+1) (by omega) (by omega) (by refine swR [2] [] rfl rfl ?_;(repeat' first|exact y82 _|(refine z152 ?_;omega)|((refine z47 rfl ?_ ?_);(focus ((repeat' (first|exact z7 (fun _=>rfl)|apply z33));done)))|refine z127 (by omega) (by omega) ?_|constructor))
 ·have e:i=n:=by omega
  subst e
  have hl:=z248 i
  rw [y53 (by omega)]
  generalize z225 i=L at *
  repeat' ((first|(apply y4 ok;rfl)|(apply y39;omega)|((apply z8)<;>intro _))<;>conv=>whnf)
  all_goals try (exfalso;omega)
  all_goals (refine rsD [] [0] rfl ?_;(repeat' first|(refine z331 ?_;omega)|((apply z48 rfl rfl rfl);(focus ((repeat ((exact z38 (fun _=>rfl) _)));done));(focus (((simp;omega));done)))|constructor))
structure State.sm (s:State):Prop where
 a:s.a.length≤100
 b:s.b.length≤100
structure Graph.sm (g:Graph):Prop where
 st:g.st.length≤100
 nx:g.nx.length≤100
 el:∀ s∈g.st,s.sm
 row:∀ r∈g.nx,r.length≤1000
theorem Graph.sm.mx {g:Graph} (h:g.sm):g.mx:=by
 have h1:=h.st
 have h2:=h.nx
 refine ⟨?_,by unfold maxLen;omega,fun l hl=>by have:=h.row l hl;unfold maxLen;omega⟩
 have h3:=h.el
 exact ⟨by unfold maxLen;omega,fun s hs=>⟨by have:=(h3 s hs).a;unfold maxLen;omega,by have:=(h3 s hs).b;unfold maxLen;omega⟩⟩
theorem z737 (g : Graph) (hg : g.sm) (path : List Int) (hp : path.length ≤ 100000) (hin : ∀ x ∈ path, 0 ≤ x ∧ x < g.st.length) (S : List State) (hS : S.length = path.length) (he : ∀ i (h : i < path.length) (h2 : i < S.length), g.st[(path[i]).toNat]? = some S[i]) :
    CallsA Tryz.prog 114 [.agg g.cs,ints path] [] (.sref 0 0 S.length) [.cells 2 (S.map State.cs)]:=by
  refine z10 z19 Tryz.func114 rfl rfl 36 Tryz.ntmps114 (by simp) ?_
  repeat' (((apply y4 ok;rfl))<;>conv=>whnf)
  refine z92 (fun i:Nat=>([(1,ints path),(2,.ptr 0 none 0),(5,.sref 1 0 i),(6,.int i)],[.cells 2 [g.cs],.cells 2 ((S.take i).map State.cs)])) (fun i=>i≤path.length) (fun i=>path.length - i) 0 (by omega) (by refine swR [0,1] [] rfl rfl ?_;(repeat' first|exact y82 _|apply y83|refine z16 rfl (z36) ?_|constructor)) ?_
  intro i hi
  by_cases hip:i < path.length
  · have hl:i < S.length:=by omega
    have hx:=hin path[i] (y40 _)
    have g0:(path.map enI)[i]?=some (enI path[i]):=by rw [y47,y41 hip];rfl
    have g1:=he i hip hl
    have g2:(g.st.map State.cs)[(path[i]).toNat]?=some (State.cs S[i]):=by rw [y47,g1];rfl
    have hs:=hg.el S[i] (List.mem_of_getElem? g1)
    have ha:=hs.a
    have hb:=hs.b
    generalize path[i]=x at *
    repeat' ((first|(apply y4 ok;rfl)|(apply z37;kernel_rfl)|(refine z21 (i:=i) rfl g0 ?_)|(refine z21 (i:=x.toNat) rfl g2 ?_)|(apply y39;first|omega|(unfold inI;omega)|(dsimp only;omega)|((try dsimp only);simp only [y45,y44,y43,y42,y54,y55];omega)|exact z106 (fun _=>rfl)|exact ⟨rfl,z25 rfl z32⟩)|((apply z8)<;>intro _))<;>conv=>whnf)
    all_goals try (exfalso;omega)
    all_goals refine z44 (i+1) (by omega) (by omega) (by refine swR [0,8] [4,6] rfl rfl ?_;(repeat' first|exact y82 _|(refine z331 ?_;omega)|apply y83|((refine z47 rfl ?_ ?_);(focus ((repeat' (first|exact z7 (fun _=>rfl)|apply z33));done)))|refine z127 (by omega) (by omega) ?_|((apply z93 rfl rfl rfl);(focus ((repeat ((exact z38 (fun _=>rfl) _)));done));(focus (((simp;done));done)))|constructor))
  · have e:i=S.length:=by omega
    subst e
    rw [y53 (by omega)]
    repeat' ((first|(apply y4 ok;rfl)|(apply z37;kernel_rfl)|(apply y39;omega)|((first|(with_reducible apply z15;omega)|(with_reducible apply z154;omega));intro _)|((apply z8)<;>intro _))<;>conv=>whnf)
    all_goals try (exfalso;omega)
    all_goals (refine rsD [1] [] rfl ?_;(repeat' first|exact y82 _|exact z18 _|refine z16 rfl (z7 (fun _=>rfl)) ?_|constructor))
theorem z1158 {n:Nat} {x:Int} (h:x∈z225 n):0≤x∧x < n:=by
 unfold z225 at h
 obtain ⟨i,hi,rfl⟩:=List.mem_map.1 h
 have:=List.mem_range.1 hi
 show (0:Int)≤(i:Int)∧(i:Int) < n
 omega
theorem snoc_at {α:Type} (a:List α) (x:α) (k:Nat) (h:a.length=k):(a++[x])[k]?=some x:=by subst h;simp
set_option maxHeartbeats 1600000 in
theorem z987 (g:Graph) (hg:g.sm):CallsA Tryz.prog 59 [.agg g.cs] [] (.agg [.sref 0 0 g.st.length,.sref 1 0 g.nx.length]) [.cells 2 (g.st.map State.cs),.cells 1 (g.nx.map z89)]:=by
 have hst:=hg.st
 have hnx:=hg.nx
 have c1:=z588 g.st.length (by omega)
 have c2:=z737 g hg (z225 g.st.length) (by rw [z248];omega) (fun x hx=>z1158 hx) g.st (by rw [z248]) (fun i h h2=>by rw [z763 h];simp)
 generalize z225 g.st.length=C at *
 refine z10 z19 Tryz.func59 rfl rfl 32 Tryz.ntmps59 (by simp) ?_
 repeat' ((first|(apply y4 ok;rfl)|(apply z37;kernel_rfl)|(apply z6 (c1);rfl;rfl)|(apply z11 [] [2] c2;rfl;rfl;rfl;(focus ((repeat' first|exact z17|apply z14)<;>(refine z23 ?_;((exact z7 fun _=>rfl)))))))<;>conv=>whnf)
 refine y81 (y84 1 rfl) ?_
 refine z92 (fun i:Nat=>([(1,.ptr 0 none 0),(2,.ptr 1 none 0),(3,.ptr 3 none 0),(4,.int i)],[.cells 2 [g.cs],.cells 2 [[.nils,.nils]],.cells 2 (g.st.map State.cs),.cells 2 [[.sref 2 0 g.st.length,.sref 4 0 i]],.cells 1 ((g.nx.take i).map z89)])) (fun i=>i≤g.nx.length) (fun i=>g.nx.length - i) 0 (by omega) (by refine swR [0,1,2,3,4] [] rfl rfl ?_;(repeat' first|exact y82 _|exact z57|exact z18 _|apply y83|((refine z16 rfl ?_ ?_);(focus ((repeat' (first|exact z36|exact z7 (fun _=>rfl)));done)))|constructor)) ?_
 intro i hi
 by_cases hin:i < g.nx.length
 ·have hr:=hg.row g.nx[i] (y40 _)
  have g0:(g.nx.map encL)[i]?=some (encL g.nx[i]):=by rw [y47,y41 hin];rfl
  have htl:((g.nx.take i).map z89).length=i:=by simp;omega
  have hrow:z89 g.nx[i]=[.own 1 (g.nx[i].map enI)]:=rfl
  have htk:(g.nx.take (i+1)).map z89=(g.nx.take i).map z89++[z89 g.nx[i]]:=by rw [y46 hin,y60];rfl
  generalize hrw:g.nx[i]=row at *
  repeat' ((first|(apply y4 ok;rfl)|(apply z37;kernel_rfl)|(refine z21 (i:=i) rfl g0 ?_)|(apply y39;first|omega|(unfold inI;omega)|(dsimp only;omega)|exact z106 (fun _=>rfl)|exact ⟨rfl,z25 rfl z32⟩)|((apply z8)<;>intro _))<;>conv=>whnf)
  all_goals try (exfalso;omega)
  all_goals refine z44 (i+1) (by omega) (by omega) (by
   refine Gl.Reach.trans (Gl.Reach.absorb (e:=[.sref 6 0 (0+row.length)]) 8 6 i 0 rfl (snoc_at _ _ i (by simp;omega)) rfl rfl (by simp) rfl (z90 z36 (z7 fun _=>rfl)) rfl) ?_
   exact (by refine swR [0,1,2,3,8] [] rfl rfl ?_;(repeat' first|exact y82 _|exact z18 _|apply y83|((first|refine z80 rfl ?_ ?_|refine z16 rfl ?_ ?_);(focus ((repeat' (first|exact z7 (fun _=>rfl)|apply z90|apply z33));done)))|(refine z16 rfl ?_ ?_;(focus (refine z396 ?_ ?_ rfl<;>first|(simp;omega)|(apply z33;exact z7 fun _=>rfl))))|(refine z815 ?_ ?_;(focus (simp;omega)))|refine z127 (by omega) (by omega) ?_|constructor)<;>(rw [hrw];exact y82 _)))
 ·have e:i=g.nx.length:=by omega
  subst e
  rw [y52]
  repeat' ((first|(apply y4 ok;rfl)|(apply z37;kernel_rfl)|(apply y39;omega)|(((with_reducible apply z15;omega));intro _)|((apply z8)<;>intro _))<;>conv=>whnf)
  all_goals try (exfalso;omega)
  all_goals (refine rsD [2,4] [] rfl ?_;(repeat' first|exact y82 _|exact z18 _|refine z16 rfl (z7 (fun _=>rfl)) ?_|constructor))
set_option maxHeartbeats 3200000 in
theorem z838 (bs:List Int) (hb:BytesOk bs) (p:Int) (hp:few p) (g:Graph) (hg:g.sm) (h1:1≤g.st.length) (h2:g.nx.length=g.st.length):∃ (g' : Graph) (p' : Int),(g'.st.length≤100∧g'.nx.length≤101∧(∀ s∈g'.st,s.sm)∧(∀ r∈g'.nx,r.length≤1001)∧p≤p'∧p'≤p+3)∧CallsA Tryz.prog 18 [.ptr 0 none 0,.agg g.cs] [rdO bs p] (.agg g'.cs) [rdO bs p']:=by
 have hst:=hg.st
 have hnx:=hg.nx
 have cc:=z987 g hg
 obtain ⟨k,⟨k0,k1⟩,ck⟩:=z69 bs hb p g.st.length (by omega) (by omega) (by omega)
 obtain ⟨v,⟨v0,v1⟩,cv⟩:=z69 bs hb (p+1) 50 (by omega) (by omega) (by omega)
 have hks:k.toNat < g.st.length:=by omega
 have hkn:k.toNat < g.nx.length:=by omega
 have hrows:∀ r∈g.nx,r.length≤1001:=fun r hr=>by have:=hg.row r hr;omega
 by_cases e0:v=0
 ·subst e0
  refine ⟨⟨g.st,g.nx++[[0]]⟩,p+1+1,⟨hst,by simp;omega,hg.el,fun r hr=>?_,by omega,by omega⟩,?_⟩
  ·simp only [y50,y51] at hr
   rcases hr with hr|rfl
   ·exact hrows r hr
   ·simp
  refine z10 z19 Tryz.func18 rfl rfl 62 Tryz.ntmps18 (by simp) ?_
  repeat' ((first|(apply y4 ok;rfl)|(apply y39;first|((try dsimp only);simp only [y45,y44,y43,y42,y54,y55];omega)|exact ⟨rfl,z25 rfl z32⟩)|((first|(apply z11 [] [3,4] cc;rfl;rfl)|(apply z11 [0] [] ck;rfl;rfl)|(apply z11 [0] [] cv;rfl;rfl));rfl;(focus ((repeat' first|exact z17|apply z14)<;>first|exact z45 rfl rfl|(refine z23 ?_;((exact z7 fun _=>rfl)))))))<;>conv=>whnf)
  all_goals (refine RetS.mid [0,3,8] [6] [rdO bs (p+1+1),.cells 2 (g.st.map State.cs),.cells 1 (g.nx.map z89++[encL [0]])] (.agg [.sref 1 0 g.st.length,.sref 2 0 (g.nx.length+1)]) rfl rfl rfl ?_ ?_ ?_;(focus (repeat' (exact y82 _)));(focus (repeat' first|exact y82 _|exact z18 _|apply y83|((first|refine z47 rfl ?_ ?_|refine z16 rfl ?_ ?_);(focus ((repeat' (first|exact z7 (fun _=>rfl)|apply z33));done)))|(refine app2_le ?_ ?_;(focus (simp;done)))|constructor)))
  all_goals (refine rsD [0] [1,2] rfl ?_;(repeat' first|exact y82 _|apply y83|refine app3_le ?_|((apply z48 rfl rfl rfl);(focus ((repeat (first|exact z38 (fun _=>rfl) _|exact z143 _|apply z119|rfl));done));(focus (((simp;done));done)))|apply z60|(refine z79 ?_ ?_;(focus (simp;done)))|constructor))
 by_cases e1:v=1
 ·subst e1
  obtain ⟨x,mx,cx⟩:=z108 bs hb (p+1+1) (by omega) (by omega) [0,-1,60,9223372036854775807] (by decide) (by decide)
  refine ⟨⟨g.st,g.nx.set k.toNat (g.nx[k.toNat]++[x])⟩,p+1+1+1,⟨hst,by simp;omega,hg.el,fun r hr=>?_,by omega,by omega⟩,?_⟩
  ·rcases List.mem_or_eq_of_mem_set hr with h|rfl
   ·exact hrows r h
   ·have:=hg.row g.nx[k.toNat] (y40 _)
    simp;omega
  have hr:=hg.row g.nx[k.toNat] (y40 _)
  have g0:(g.nx.map z89)[k.toNat]?=some (z89 g.nx[k.toNat]):=by rw [y47,y41 hkn];rfl
  generalize g.nx[k.toNat]=row at *
  refine z10 z19 Tryz.func18 rfl rfl 62 Tryz.ntmps18 (by simp) ?_
  repeat' ((first|((fail_if_success apply z114 7);(fail_if_success apply z96 7);apply y4 ok;rfl)|((first|(apply z11 [] [3,4] cc;rfl;rfl)|(apply z11 [0] [] ck;rfl;rfl)|(apply z11 [0] [] cv;rfl;rfl));rfl;(focus ((repeat' first|exact z17|apply z14)<;>first|exact z45 rfl rfl|(refine z23 ?_;((exact z7 fun _=>rfl)))))))<;>conv=>whnf)
  refine y81 (Gl.Reach.exposeD (e:=z89 row) 4 k.toNat 0 rfl g0 rfl rfl) ?_
  conv=>whnf
  repeat' ((first|(apply y4 ok;rfl)|(apply z37;kernel_rfl)|(refine z529 rfl (by simp;omega) ?_)|(apply y39;first|omega|((try dsimp only);simp only [y45,y44,y43,y42,y54,y55];omega)|exact ⟨rfl,z25 rfl z32⟩)|(apply z11 [0,7] [] cx;rfl;rfl;rfl;(focus ((repeat' first|exact z17|apply z14)<;>first|exact z45 rfl rfl|(refine z23 ?_;((exact z7 fun _=>rfl)))))))<;>conv=>whnf)
  all_goals (refine RetS.mid [0,3,4] [9] [rdO bs (p+1+1+1),.cells 2 (g.st.map State.cs),.cells 1 ((g.nx.map z89).set k.toNat (encL (row++[x])))] (.agg [.sref 1 0 g.st.length,.sref 2 0 g.nx.length]) rfl rfl rfl ?_ ?_ ?_;(focus (repeat' (exact y82 _)));(focus (repeat' first|exact y82 _|exact z18 _|apply y83|((first|refine z1089 rfl rfl ?_ ?_|refine z16 rfl ?_ ?_);(focus ((repeat' ((exact z7 (fun _=>rfl))));done)))|refine set2_le (by omega) ?_|(refine z100 ?_ ?_;(focus ((simp;done))))|((apply z93 rfl rfl rfl);(focus ((repeat (first|exact z38 (fun _=>rfl) _|apply z119|apply z166|rfl));done));(focus (((simp;done));done)))|(refine z79 ?_ ?_;(focus (simp;done)))|constructor)))
  all_goals (refine rsD [0] [1,2] rfl ?_;(repeat' first|exact y82 _|apply y83|refine z438 (by omega) ?_|((apply z48 rfl rfl rfl);(focus ((repeat (first|exact z38 (fun _=>rfl) _|exact z143 _|apply z356));done));(focus (((simp;done));done)))|apply z60|(refine z79 ?_ ?_;(focus (simp;done)))|constructor))
 have gs:(g.st.map State.cs)[k.toNat]?=some (State.cs g.st[k.toNat]):=by rw [y47,y41 hks];rfl
 have hsm:=hg.el g.st[k.toNat] (y40 _)
 by_cases e2:v=2
 ·subst e2
  refine ⟨⟨g.st,g.nx.set k.toNat []⟩,p+1+1,⟨hst,by simp;omega,hg.el,fun r hr=>?_,by omega,by omega⟩,?_⟩
  ·rcases List.mem_or_eq_of_mem_set hr with h|rfl
   ·exact hrows r h
   ·simp
  refine z10 z19 Tryz.func18 rfl rfl 62 Tryz.ntmps18 (by simp) ?_
  repeat' ((first|(apply y4 ok;rfl)|(apply y39;omega)|(((apply z15;omega));intro _)|((first|(apply z11 [] [3,4] cc;rfl;rfl)|(apply z11 [0] [] ck;rfl;rfl)|(apply z11 [0] [] cv;rfl;rfl));rfl;(focus ((repeat' first|exact z17|apply z14)<;>first|exact z45 rfl rfl|(refine z23 ?_;((exact z7 fun _=>rfl)))))))<;>conv=>whnf)
  all_goals (refine RetS.mid [0,3,4] [6] [rdO bs (p+1+1),.cells 2 (g.st.map State.cs),.cells 1 ((g.nx.map z89).set k.toNat (encL []))] (.agg [.sref 1 0 g.st.length,.sref 2 0 g.nx.length]) rfl rfl rfl ?_ ?_ ?_;(focus (repeat' (exact y82 _)));(focus (repeat' first|exact y82 _|exact z18 _|apply y83|refine z80 rfl (z7 (fun _=>rfl)) ?_|refine z16 rfl (z7 (fun _=>rfl)) ?_|constructor)))
  all_goals (refine rsD [0] [1,2] rfl ?_;(repeat' first|exact y82 _|apply y83|refine z438 (by omega) ?_|((apply z48 rfl rfl rfl);(focus ((repeat (first|exact z38 (fun _=>rfl) _|exact z143 _|apply z356));done));(focus (((simp;done));done)))|apply z60|(refine z79 ?_ ?_;(focus (simp;done)))|constructor))
 by_cases e3:v=3
 ·subst e3
  obtain ⟨x,mx,cx⟩:=z108 bs hb (p+1+1) (by omega) (by omega) [4,-1,0] (by decide) (by decide)
  refine ⟨⟨g.st.set k.toNat ⟨g.st[k.toNat].a,[0,0,x]⟩,g.nx⟩,p+1+1+1,⟨by simp;omega,by show g.nx.length≤101;omega,fun s hs=>?_,hrows,by omega,by omega⟩,?_⟩
  ·rcases List.mem_or_eq_of_mem_set hs with h|rfl
   ·exact hg.el s h
   ·exact ⟨hsm.a,by simp⟩
  generalize g.st[k.toNat]=s0 at *
  refine z10 z19 Tryz.func18 rfl rfl 62 Tryz.ntmps18 (by simp) ?_
  repeat' ((first|(apply y4 ok;rfl)|(apply z37;kernel_rfl)|(refine z21 (i:=k.toNat) rfl gs ?_)|(apply y39;omega)|((first|(apply z11 [] [3,4] cc;rfl;rfl)|(apply z11 [0] [] ck;rfl;rfl)|(apply z11 [0] [] cv;rfl;rfl)|(apply z11 [0,6] [] cx;rfl;rfl));rfl;(focus ((repeat' first|exact z17|apply z14)<;>first|exact z45 rfl rfl|(refine z23 ?_;((exact z7 fun _=>rfl)))))))<;>conv=>whnf)
  all_goals (refine RetS.mid [0,3,4] [7] [rdO bs (p+1+1+1),.cells 2 ((g.st.set k.toNat ⟨s0.a,[0,0,x]⟩).map State.cs),.cells 1 (g.nx.map z89)] (.agg [.sref 1 0 g.st.length,.sref 2 0 g.nx.length]) rfl rfl rfl ?_ ?_ ?_;(focus (repeat' (exact y82 _)));(focus (repeat' first|exact y82 _|exact z18 _|apply y83|refine z80 rfl (z7 (fun _=>rfl)) ?_|refine z16 rfl (z7 (fun _=>rfl)) ?_|refine z438 (by omega) ?_|constructor)))
  all_goals (refine rsD [0] [1,2] rfl ?_;(repeat' first|exact y82 _|exact z18 _|apply y83|((apply z48 rfl rfl rfl);(focus ((repeat (first|exact z38 (fun _=>rfl) _|exact z143 _));done));(focus (((simp;done));done)))|apply z60|(refine z79 ?_ ?_;(focus (simp;done)))|constructor))
 by_cases e4:v=4
 ·subst e4
  refine ⟨⟨[],[]⟩,p+1+1,⟨by simp,by simp,by simp,by simp,by omega,by omega⟩,?_⟩
  refine z10 z19 Tryz.func18 rfl rfl 62 Tryz.ntmps18 (by simp) ?_
  repeat' ((first|(apply y4 ok;rfl)|((first|(apply z11 [] [3,4] cc;rfl;rfl)|(apply z11 [0] [] ck;rfl;rfl)|(apply z11 [0] [] cv;rfl;rfl));rfl;(focus ((repeat' first|exact z17|apply z14)<;>first|exact z45 rfl rfl|(refine z23 ?_;((exact z7 fun _=>rfl)))))))<;>conv=>whnf)
  all_goals (refine rsD [0] [] rfl ?_;(repeat' first|exact y82 _|exact z52|apply y83|apply z60|constructor))
 ·refine ⟨g,p+1+1,⟨hst,by omega,hg.el,hrows,by omega,by omega⟩,?_⟩
  refine z10 z19 Tryz.func18 rfl rfl 62 Tryz.ntmps18 (by simp) ?_
  repeat' ((first|(apply y4 ok;rfl)|(apply y39;omega)|(((apply z15;omega));intro _)|((apply z8)<;>intro _)|((first|(apply z11 [] [3,4] cc;rfl;rfl)|(apply z11 [0] [] ck;rfl;rfl)|(apply z11 [0] [] cv;rfl;rfl));rfl;(focus ((repeat' first|exact z17|apply z14)<;>first|exact z45 rfl rfl|(refine z23 ?_;((exact z7 fun _=>rfl)))))))<;>conv=>whnf)
  all_goals try (exfalso;omega)
  all_goals (refine rsD [0] [3,4] rfl ?_;(repeat' first|exact y82 _|apply y83|((apply z48 rfl rfl rfl);(focus ((repeat (first|exact z38 (fun _=>rfl) _|exact z143 _));done));(focus (((simp;done));done)))|apply z60|constructor))
structure Edge where
 fr:Int
 to:Int
 gd:Tree
 var:Int
 val:Tree
 sync:Int
def Edge.cs (e:Edge):List AC:=[.int e.fr,.int e.to,.int e.gd.kind,.int e.gd.val,lst 3 Tree.cs' e.gd.kids,.int e.var,.int e.val.kind,.int e.val.val,lst 3 Tree.cs' e.val.kids,.int e.sync]
structure Proc where
 loc:Int
 es:List Edge
def Proc.cs (p:Proc):List AC:=[.int p.loc,lst 10 Edge.cs p.es]
structure Sys where
 init:List Int
 ps:List Proc
def Sys.cs (s:Sys):List AC:=[ints s.init,lst 2 Proc.cs s.ps]
structure Edge.sm (e:Edge):Prop where
 gd:e.gd.sz≤100
 val:e.val.sz≤100
 var : -1≤e.var∧e.var≤2
 sync : -2≤e.sync∧e.sync≤2
structure Proc.sm (p:Proc):Prop where
 loc:0≤p.loc∧p.loc≤100
 len:p.es.length≤10
 el:∀ e∈p.es,e.sm
structure Sys.sm (s:Sys):Prop where
 init:s.init.length≤10
 len:s.ps.length≤10
 el:∀ p∈s.ps,p.sm
structure Edge.s1 (e:Edge):Prop where
 gd:e.gd.sz≤1000
 val:e.val.sz≤1000
structure Proc.s1 (p:Proc):Prop where
 len:p.es.length≤10
 el:∀ e∈p.es,e.s1
structure Sys.s1 (s:Sys):Prop where
 init:s.init.length≤20
 len:s.ps.length≤20
 el:∀ p∈s.ps,p.s1
theorem Edge.sm.s1 {e:Edge} (h:e.sm):e.s1:=⟨by have:=h.gd;omega,by have:=h.val;omega⟩
theorem Proc.sm.s1 {p:Proc} (h:p.sm):p.s1:=⟨h.len,fun e he=>(h.el e he).s1⟩
theorem Sys.sm.s1 {s:Sys} (h:s.sm):s.s1:=⟨by have:=h.init;omega,by have:=h.len;omega,fun p hp=>(h.el p hp).s1⟩
set_option maxHeartbeats 6400000 in
theorem z654 (bs:List Int) (hb:BytesOk bs) (p:Int) (hp:few1 p) (n:Int) (hn:0≤n∧n≤100):∃ (e:Edge) (p' : Int),(e.sm∧p≤p'∧p'≤p+200)∧CallsA Tryz.prog 120 [.ptr 0 none 0,.int n] [rdO bs p] (.agg e.cs) [rdO bs p']:=by
 obtain ⟨a,⟨la,ua⟩,ca⟩:=z69 bs hb p n (by omega) (by omega) (by omega)
 obtain ⟨b,⟨lb,ub⟩,cb⟩:=z69 bs hb (p+1) n (by omega) (by omega) (by omega)
 obtain ⟨gd,q,⟨g1,g2,g3⟩,cg⟩:=z590 bs hb (p+1+1) ⟨by omega,by omega⟩
 obtain ⟨w,⟨lw,uw⟩,cw⟩:=z69 bs hb q 3 (by omega) (by omega) (by omega)
 rw [y15] at cg
 by_cases hw:w=0
 ·subst hw
  obtain ⟨y,⟨ly,uy⟩,cy⟩:=z69 bs hb (q+1) 4 (by omega) (by omega) (by omega)
  by_cases hy:y=0
  ·subst hy
   obtain ⟨s,ms,cs⟩:=z108 bs hb (q+1+1) (by omega) (by omega) [1,-1,1,-1,2,-2] (by decide) (by decide)
   refine ⟨⟨a,b,gd,-1,leaf 0 0,s⟩,q+1+1+1,⟨⟨by show gd.sz≤100;omega,by (rw [z94];omega),by show -1≤(-1:Int)∧(-1:Int)≤2;omega,by simp at ms;show -2≤s∧s≤2;omega⟩,by omega,by omega⟩,?_⟩
   refine z10 z19 Tryz.func120 rfl rfl 61 Tryz.ntmps120 (by simp) ?_
   repeat' ((first|(apply y4 ok;rfl)|((first|(apply z11 [0] [] ca;rfl;rfl)|(apply z11 [0] [] cb;rfl;rfl)|(apply z11 [0] [] cg;rfl;rfl)|(apply z11 [0] [] cw;rfl;rfl)|(apply z11 [0] [] cy;rfl;rfl)|(apply z11 [0,3] [] cs;rfl;rfl));rfl;(focus ((repeat' first|exact z17|apply z14)<;>first|exact z45 rfl rfl|(refine z23 ?_;((exact z7 fun _=>rfl)))))))<;>conv=>whnf)
   all_goals (refine rsD [0] [] rfl ?_;(repeat' first|exact y82 _|exact z52|apply y83|apply z60|constructor))
  ·refine ⟨⟨a,b,gd,-1,leaf 0 0,0⟩,q+1+1,⟨⟨by show gd.sz≤100;omega,by (rw [z94];omega),by show -1≤(-1:Int)∧(-1:Int)≤2;omega,by show -2≤(0:Int)∧(0:Int)≤2;omega⟩,by omega,by omega⟩,?_⟩
   refine z10 z19 Tryz.func120 rfl rfl 61 Tryz.ntmps120 (by simp) ?_
   repeat' ((first|(apply y4 ok;rfl)|((apply z8)<;>intro _)|((first|(apply z29 [0] [] ca;rfl;rfl)|(apply z29 [0] [] cb;rfl;rfl)|(apply z29 [0] [] cg;rfl;rfl)|(apply z29 [0] [] cw;rfl;rfl)|(apply z29 [0] [] cy;rfl;rfl));rfl))<;>conv=>whnf)
   all_goals try (exfalso;omega)
   all_goals (refine rsD [0] [] rfl ?_;(repeat' first|exact y82 _|exact z52|apply y83|apply z60|constructor))
 obtain ⟨x,mx,cx⟩:=z108 bs hb (q+1) (by omega) (by omega) [0,1,0,2] (by decide) (by decide)
 obtain ⟨z,⟨lz,uz⟩,cz⟩:=z69 bs hb (q+1+1) 4 (by omega) (by omega) (by omega)
 by_cases h0:z=0
 ·subst h0
  obtain ⟨k,⟨lk,uk⟩,ck⟩:=z69 bs hb (q+1+1+1) 3 (by omega) (by omega) (by omega)
  obtain ⟨y,⟨ly,uy⟩,cy⟩:=z69 bs hb (q+1+1+1+1) 4 (by omega) (by omega) (by omega)
  by_cases hy:y=0
  ·subst hy
   obtain ⟨s,ms,cs⟩:=z108 bs hb (q+1+1+1+1+1) (by omega) (by omega) [1,-1,1,-1,2,-2] (by decide) (by decide)
   refine ⟨⟨a,b,gd,x,leaf 1 k,s⟩,q+1+1+1+1+1+1,⟨⟨by show gd.sz≤100;omega,by (rw [z94];omega),by simp at mx;show -1≤x∧x≤2;omega,by simp at ms;show -2≤s∧s≤2;omega⟩,by omega,by omega⟩,?_⟩
   refine z10 z19 Tryz.func120 rfl rfl 61 Tryz.ntmps120 (by simp) ?_
   repeat' ((first|(apply y4 ok;rfl)|((apply z8)<;>intro _)|((first|(apply z11 [0] [] ca;rfl;rfl)|(apply z11 [0] [] cb;rfl;rfl)|(apply z11 [0] [] cg;rfl;rfl)|(apply z11 [0] [] cw;rfl;rfl)|(apply z11 [0,3] [] cx;rfl;rfl)|(apply z11 [0] [] cz;rfl;rfl)|(apply z11 [0] [] ck;rfl;rfl)|(apply z11 [0] [] cy;rfl;rfl)|(apply z11 [0,6] [] cs;rfl;rfl));rfl;(focus ((repeat' first|exact z17|apply z14)<;>first|exact z45 rfl rfl|(refine z23 ?_;((exact z7 fun _=>rfl)))))))<;>conv=>whnf)
   all_goals try (exfalso;omega)
   all_goals (refine rsD [0] [] rfl ?_;(repeat' first|exact y82 _|exact z52|apply y83|apply z60|constructor))
  ·refine ⟨⟨a,b,gd,x,leaf 1 k,0⟩,q+1+1+1+1+1,⟨⟨by show gd.sz≤100;omega,by (rw [z94];omega),by simp at mx;show -1≤x∧x≤2;omega,by show -2≤(0:Int)∧(0:Int)≤2;omega⟩,by omega,by omega⟩,?_⟩
   refine z10 z19 Tryz.func120 rfl rfl 61 Tryz.ntmps120 (by simp) ?_
   repeat' ((first|(apply y4 ok;rfl)|((apply z8)<;>intro _)|((first|(apply z11 [0] [] ca;rfl;rfl)|(apply z11 [0] [] cb;rfl;rfl)|(apply z11 [0] [] cg;rfl;rfl)|(apply z11 [0] [] cw;rfl;rfl)|(apply z11 [0,3] [] cx;rfl;rfl)|(apply z11 [0] [] cz;rfl;rfl)|(apply z11 [0] [] ck;rfl;rfl)|(apply z11 [0] [] cy;rfl;rfl));rfl;(focus ((repeat' first|exact z17|apply z14)<;>first|exact z45 rfl rfl|(refine z23 ?_;((exact z7 fun _=>rfl)))))))<;>conv=>whnf)
   all_goals try (exfalso;omega)
   all_goals (refine rsD [0] [] rfl ?_;(repeat' first|exact y82 _|exact z52|apply y83|apply z60|constructor))
 by_cases h1:z=1
 ·subst h1
  obtain ⟨y,⟨ly,uy⟩,cy⟩:=z69 bs hb (q+1+1+1) 4 (by omega) (by omega) (by omega)
  by_cases hy:y=0
  ·subst hy
   obtain ⟨s,ms,cs⟩:=z108 bs hb (q+1+1+1+1) (by omega) (by omega) [1,-1,1,-1,2,-2] (by decide) (by decide)
   refine ⟨⟨a,b,gd,x,.mk 8 0 [leaf 2 x,leaf 1 1],s⟩,q+1+1+1+1+1,⟨⟨by show gd.sz≤100;omega,by (show Tree.sz _≤100;rw [z244];simp [z94]),by simp at mx;show -1≤x∧x≤2;omega,by simp at ms;show -2≤s∧s≤2;omega⟩,by omega,by omega⟩,?_⟩
   refine z10 z19 Tryz.func120 rfl rfl 61 Tryz.ntmps120 (by simp) ?_
   repeat' ((first|(apply y4 ok;rfl)|((apply z8)<;>intro _)|((first|(apply z11 [0] [] ca;rfl;rfl)|(apply z11 [0] [] cb;rfl;rfl)|(apply z11 [0] [] cg;rfl;rfl)|(apply z11 [0] [] cw;rfl;rfl)|(apply z11 [0,3] [] cx;rfl;rfl)|(apply z11 [0] [] cz;rfl;rfl)|(apply z11 [0] [] cy;rfl;rfl)|(apply z11 [0,7] [] cs;rfl;rfl));rfl;(focus ((repeat' first|exact z17|apply z14)<;>first|exact z45 rfl rfl|(refine z23 ?_;((exact z7 fun _=>rfl)))))))<;>conv=>whnf)
   all_goals try (exfalso;omega)
   all_goals (refine rsD [0] [6] rfl ?_;(repeat' first|exact y82 _|exact z52|apply y83|refine z48 rfl rfl rfl rfl rfl ?_|apply z60|(apply z79;rfl)|constructor))
  ·refine ⟨⟨a,b,gd,x,.mk 8 0 [leaf 2 x,leaf 1 1],0⟩,q+1+1+1+1,⟨⟨by show gd.sz≤100;omega,by (show Tree.sz _≤100;rw [z244];simp [z94]),by simp at mx;show -1≤x∧x≤2;omega,by show -2≤(0:Int)∧(0:Int)≤2;omega⟩,by omega,by omega⟩,?_⟩
   refine z10 z19 Tryz.func120 rfl rfl 61 Tryz.ntmps120 (by simp) ?_
   repeat' ((first|(apply y4 ok;rfl)|((apply z8)<;>intro _)|((first|(apply z11 [0] [] ca;rfl;rfl)|(apply z11 [0] [] cb;rfl;rfl)|(apply z11 [0] [] cg;rfl;rfl)|(apply z11 [0] [] cw;rfl;rfl)|(apply z11 [0,3] [] cx;rfl;rfl)|(apply z11 [0] [] cz;rfl;rfl)|(apply z11 [0] [] cy;rfl;rfl));rfl;(focus ((repeat' first|exact z17|apply z14)<;>first|exact z45 rfl rfl|(refine z23 ?_;((exact z7 fun _=>rfl)))))))<;>conv=>whnf)
   all_goals try (exfalso;omega)
   all_goals (refine rsD [0] [6] rfl ?_;(repeat' first|exact y82 _|exact z52|apply y83|refine z48 rfl rfl rfl rfl rfl ?_|apply z60|(apply z79;rfl)|constructor))
 by_cases h2:z=2
 ·subst h2
  obtain ⟨y,⟨ly,uy⟩,cy⟩:=z69 bs hb (q+1+1+1) 4 (by omega) (by omega) (by omega)
  by_cases hy:y=0
  ·subst hy
   obtain ⟨s,ms,cs⟩:=z108 bs hb (q+1+1+1+1) (by omega) (by omega) [1,-1,1,-1,2,-2] (by decide) (by decide)
   refine ⟨⟨a,b,gd,x,.mk 9 0 [leaf 1 1,leaf 2 x],s⟩,q+1+1+1+1+1,⟨⟨by show gd.sz≤100;omega,by (show Tree.sz _≤100;rw [z244];simp [z94]),by simp at mx;show -1≤x∧x≤2;omega,by simp at ms;show -2≤s∧s≤2;omega⟩,by omega,by omega⟩,?_⟩
   refine z10 z19 Tryz.func120 rfl rfl 61 Tryz.ntmps120 (by simp) ?_
   repeat' ((first|(apply y4 ok;rfl)|((apply z8)<;>intro _)|((first|(apply z11 [0] [] ca;rfl;rfl)|(apply z11 [0] [] cb;rfl;rfl)|(apply z11 [0] [] cg;rfl;rfl)|(apply z11 [0] [] cw;rfl;rfl)|(apply z11 [0,3] [] cx;rfl;rfl)|(apply z11 [0] [] cz;rfl;rfl)|(apply z11 [0] [] cy;rfl;rfl)|(apply z11 [0,7] [] cs;rfl;rfl));rfl;(focus ((repeat' first|exact z17|apply z14)<;>first|exact z45 rfl rfl|(refine z23 ?_;((exact z7 fun _=>rfl)))))))<;>conv=>whnf)
   all_goals try (exfalso;omega)
   all_goals (refine rsD [0] [6] rfl ?_;(repeat' first|exact y82 _|exact z52|apply y83|refine z48 rfl rfl rfl rfl rfl ?_|apply z60|(apply z79;rfl)|constructor))
  ·refine ⟨⟨a,b,gd,x,.mk 9 0 [leaf 1 1,leaf 2 x],0⟩,q+1+1+1+1,⟨⟨by show gd.sz≤100;omega,by (show Tree.sz _≤100;rw [z244];simp [z94]),by simp at mx;show -1≤x∧x≤2;omega,by show -2≤(0:Int)∧(0:Int)≤2;omega⟩,by omega,by omega⟩,?_⟩
   refine z10 z19 Tryz.func120 rfl rfl 61 Tryz.ntmps120 (by simp) ?_
   repeat' ((first|(apply y4 ok;rfl)|((apply z8)<;>intro _)|((first|(apply z11 [0] [] ca;rfl;rfl)|(apply z11 [0] [] cb;rfl;rfl)|(apply z11 [0] [] cg;rfl;rfl)|(apply z11 [0] [] cw;rfl;rfl)|(apply z11 [0,3] [] cx;rfl;rfl)|(apply z11 [0] [] cz;rfl;rfl)|(apply z11 [0] [] cy;rfl;rfl));rfl;(focus ((repeat' first|exact z17|apply z14)<;>first|exact z45 rfl rfl|(refine z23 ?_;((exact z7 fun _=>rfl)))))))<;>conv=>whnf)
   all_goals try (exfalso;omega)
   all_goals (refine rsD [0] [6] rfl ?_;(repeat' first|exact y82 _|exact z52|apply y83|refine z48 rfl rfl rfl rfl rfl ?_|apply z60|(apply z79;rfl)|constructor))
 obtain ⟨t,q2,⟨t1,t2,t3⟩,ct⟩:=z1124 bs hb (q+1+1+1) ⟨by omega,by omega⟩
 rw [y15] at ct
 obtain ⟨y,⟨ly,uy⟩,cy⟩:=z69 bs hb (q2) 4 (by omega) (by omega) (by omega)
 by_cases hy:y=0
 ·subst hy
  obtain ⟨s,ms,cs⟩:=z108 bs hb (q2+1) (by omega) (by omega) [1,-1,1,-1,2,-2] (by decide) (by decide)
  refine ⟨⟨a,b,gd,x,t,s⟩,q2+1+1,⟨⟨by show gd.sz≤100;omega,by show t.sz≤100;omega,by simp at mx;show -1≤x∧x≤2;omega,by simp at ms;show -2≤s∧s≤2;omega⟩,by omega,by omega⟩,?_⟩
  refine z10 z19 Tryz.func120 rfl rfl 61 Tryz.ntmps120 (by simp) ?_
  repeat' ((first|(apply y4 ok;rfl)|((apply z8)<;>intro _)|((first|(apply z11 [0] [] ca;rfl;rfl)|(apply z11 [0] [] cb;rfl;rfl)|(apply z11 [0] [] cg;rfl;rfl)|(apply z11 [0] [] cw;rfl;rfl)|(apply z11 [0,3] [] cx;rfl;rfl)|(apply z11 [0] [] cz;rfl;rfl)|(apply z11 [0] [] ct;rfl;rfl)|(apply z11 [0] [] cy;rfl;rfl)|(apply z11 [0,6] [] cs;rfl;rfl));rfl;(focus ((repeat' first|exact z17|apply z14)<;>first|exact z45 rfl rfl|(refine z23 ?_;((exact z7 fun _=>rfl)))))))<;>conv=>whnf)
  all_goals try (exfalso;omega)
  all_goals (refine rsD [0] [] rfl ?_;(repeat' first|exact y82 _|apply y83|constructor))
 ·refine ⟨⟨a,b,gd,x,t,0⟩,q2+1,⟨⟨by show gd.sz≤100;omega,by show t.sz≤100;omega,by simp at mx;show -1≤x∧x≤2;omega,by show -2≤(0:Int)∧(0:Int)≤2;omega⟩,by omega,by omega⟩,?_⟩
  refine z10 z19 Tryz.func120 rfl rfl 61 Tryz.ntmps120 (by simp) ?_
  repeat' ((first|(apply y4 ok;rfl)|((apply z8)<;>intro _)|((first|(apply z11 [0] [] ca;rfl;rfl)|(apply z11 [0] [] cb;rfl;rfl)|(apply z11 [0] [] cg;rfl;rfl)|(apply z11 [0] [] cw;rfl;rfl)|(apply z11 [0,3] [] cx;rfl;rfl)|(apply z11 [0] [] cz;rfl;rfl)|(apply z11 [0] [] ct;rfl;rfl)|(apply z11 [0] [] cy;rfl;rfl));rfl;(focus ((repeat' first|exact z17|apply z14)<;>first|exact z45 rfl rfl|(refine z23 ?_;((exact z7 fun _=>rfl)))))))<;>conv=>whnf)
  all_goals try (exfalso;omega)
  all_goals (refine rsD [0] [] rfl ?_;(repeat' first|exact y82 _|apply y83|constructor))
def isProc (bs:List Int) (q:Int) (pr:Proc) (q' : Int):Prop:=pr.sm∧∃ (m:Nat) (pf:Nat→Int),
 CallsA Tryz.prog 60 [.ptr 0 none 0,.sref 1 0 4] [rdO bs q,.cells 1 ([2,3,1,2].map enI)] (.int pr.loc) [rdO bs (q+1),.cells 1 ([2,3,1,2].map enI)] ∧
 CallsA Tryz.prog 60 [.ptr 0 none 0,.sref 1 0 5] [rdO bs (q+1),.cells 1 ([3,4,2,5,1].map enI)] (.int m) [rdO bs (q+1+1),.cells 1 ([3,4,2,5,1].map enI)] ∧
 m≤5∧pr.es.length=m∧pf 0=q+1+1∧pf m=q'∧∀ k (h:k < pr.es.length),CallsA Tryz.prog 120 [.ptr 0 none 0,.int pr.loc] [rdO bs (pf k)] (.agg pr.es[k].cs) [rdO bs (pf (k+1))]
theorem proc_ex (bs:List Int) (hb:BytesOk bs) (q:Int) (hq:0≤q∧q≤999980000):∃ pr q',isProc bs q pr q'∧q≤q'∧q'≤q+1010:=by
 obtain ⟨v,mv,cv⟩:=z108 bs hb q (by omega) (by omega) [2,3,1,2] (by decide) (by decide)
 obtain ⟨w,mw,cw⟩:=z108 bs hb (q+1) (by omega) (by omega) [3,4,2,5,1] (by decide) (by decide)
 simp only [List.mem_cons,List.not_mem_nil,or_false] at mv mw
 obtain ⟨m,rfl⟩:∃ m:Nat,w=m:=⟨w.toNat,by omega⟩
 obtain ⟨es,pf,h1,h2,h3,h4⟩:=z370 (fun _ r (e:Edge) r'=>e.sm∧CallsA Tryz.prog 120 [.ptr 0 none 0,.int v] [rdO bs r] (.agg e.cs) [rdO bs r']) (q+1+1) 200 m (fun k r hk a1 a2=>by
  obtain ⟨e,r',⟨b1,b2,b3⟩,c⟩:=z654 bs hb r ⟨by omega,by omega⟩ v (by omega)
  exact ⟨e,r',⟨b1,c⟩,b2,b3⟩)
 have h5:=h4 m (y48 _)
 refine ⟨⟨v,es⟩,pf m,⟨⟨by show 0≤v∧v≤100;omega,by show es.length≤10;omega,fun e he=>?_⟩,m,pf,cv,cw,by omega,h1,h2,rfl,fun k h=>(h3 k h).2⟩,by omega,by omega⟩
 obtain ⟨i,hi,rfl⟩:=List.mem_iff_getElem.1 he
 exact (h3 i hi).1
set_option maxHeartbeats 6400000 in
theorem z839 (bs:List Int) (hb:BytesOk bs) (p:Int) (hp:few2 p):∃ (s:Sys) (p' : Int),(s.sm∧p≤p'∧p'≤p+4000)∧CallsA Tryz.prog 62 [.ptr 0 none 0] [rdO bs p] (.agg s.cs) [rdO bs p']:=by
 obtain ⟨a,⟨la,ua⟩,ca⟩:=z69 bs hb p 2 (by omega) (by omega) (by omega)
 obtain ⟨b,mb,cb⟩:=z108 bs hb (p+1) (by omega) (by omega) [0,0,1,3] (by decide) (by decide)
 obtain ⟨w,mw,cw⟩:=z108 bs hb (p+1+1) (by omega) (by omega) [2,1,2,3] (by decide) (by decide)
 simp only [List.mem_cons,List.not_mem_nil,or_false] at mw
 obtain ⟨m,rfl⟩:∃ m:Nat,w=m:=⟨w.toNat,by omega⟩
 obtain ⟨ps,pf,h1,h2,h3,h4⟩:=z370 (fun _ q pr q'=>isProc bs q pr q') (p+1+1+1) 1010 m (fun k r hk a1 a2=>proc_ex bs hb r (by omega))
 have h5:=h4 m (y48 _)
 refine ⟨⟨[a,b,0],ps⟩,pf m,⟨⟨by simp,by show ps.length≤10;omega,fun e he=>?_⟩,by omega,by omega⟩,?_⟩
 ·obtain ⟨i,hi,rfl⟩:=List.mem_iff_getElem.1 he
  exact (h3 i hi).1
 rw [← h2] at cw
 refine z10 z19 Tryz.func62 rfl rfl 48 Tryz.ntmps62 (by simp) ?_
 repeat' ((first|(apply y4 ok;rfl)|((first|(apply z11 [0] [] ca;rfl;rfl)|(apply z11 [0,2] [] cb;rfl;rfl)|(apply z11 [0,5] [] cw;rfl;rfl));rfl;(focus ((repeat' first|exact z17|apply z14)<;>first|exact z45 rfl rfl|(refine z23 ?_;((exact z7 fun _=>rfl)))))))<;>conv=>whnf)
 refine y81 (y84 2 rfl) ?_
 refine z92 (fun i:Nat=>([(0,.ptr 0 none 0),(2,.ptr 1 none 0),(3,.ptr 2 none 0),(4,.int (m - i))],[rdO bs (pf i),.cells 2 [[.nils,.nils]],.cells 2 [[ints [a,b,0],.sref 3 0 i]],.cells 2 ((ps.take i).map Proc.cs)])) (fun i=>i≤m) (fun i=>m - i) 0 (by omega) (by refine swR [0,1,4,6] [3] rfl rfl ?_;(repeat' first|exact y82 _|exact z57|apply y83|refine z16 rfl (z36) ?_|constructor)) ?_
 intro i hi
 by_cases him:i < m
 ·have hil:i < ps.length:=by omega
  obtain ⟨g1,m2,pf2,c1,c2,g2,g3,g4,g5,g6⟩:=h3 i hil
  rw [← g4] at c2
  have hpi:(ps.take (i+1)).map Proc.cs=(ps.take i).map Proc.cs++[Proc.cs ps[i]]:=by rw [y46 hil,y60];rfl
  repeat' ((first|(apply y4 ok;rfl)|((apply z8)<;>intro _)|((first|(apply z11 [0,4] [] c1;rfl;rfl)|(apply z11 [0,6] [] c2;rfl;rfl));rfl;(focus ((repeat' first|exact z17|apply z14)<;>first|exact z45 rfl rfl|(refine z23 ?_;((exact z7 fun _=>rfl)))))))<;>conv=>whnf)
  all_goals try (exfalso;omega)
  refine y81 (y84 10 rfl) ?_
  refine z92 (fun k:Nat=>([(0,.ptr 0 none 0),(2,.ptr 1 none 0),(3,.ptr 2 none 0),(4,.int (m - i)),(5,.ptr 4 none 0),(6,.int (m2 - k))],[rdO bs (pf2 k),.cells 2 [[.nils,.nils]],.cells 2 [[ints [a,b,0],.sref 3 0 i]],.cells 2 ((ps.take i).map Proc.cs),.cells 2 [[.int ps[i].loc,.sref 5 0 k]],.cells 10 ((ps[i].es.take k).map Edge.cs)])) (fun k=>k≤m2) (fun k=>m2 - k) 0 (by omega) (by refine swR [0,1,2,3,5,7] [] rfl rfl ?_;(repeat' first|exact y82 _|exact z57|exact z18 _|apply y83|((refine z16 rfl ?_ ?_);(focus ((repeat' (first|exact z36|exact z7 (fun _=>rfl)));done)))|constructor)) ?_
  intro k hk
  by_cases hkm:k < m2
  ·have hke:k < ps[i].es.length:=by omega
   have ce:=g6 k hke
   repeat' ((first|(apply y4 ok;rfl)|(apply z37;kernel_rfl)|(apply y39;first|omega|(unfold inI;omega)|((try dsimp only);simp only [y45,y44,y43,y42,y54,y55];omega)|exact ⟨rfl,z25 rfl z32⟩)|((apply z8)<;>intro _)|(apply z29 [0] [] ce;rfl;rfl;rfl))<;>conv=>whnf)
   all_goals try (exfalso;omega)
   all_goals refine z44 (k+1) (by omega) (by omega) (by refine swR [0,1,2,3,4,7] [] rfl rfl ?_;(repeat' first|exact y82 _|exact z18 _|(refine z152 ?_;omega)|apply y83|((first|refine z47 rfl ?_ ?_|refine z16 rfl ?_ ?_);(focus ((repeat' (first|exact z7 (fun _=>rfl)|apply z33));done)))|refine z127 (by omega) (by omega) ?_|constructor))
  ·have ek:k=m2:=by omega
   subst ek
   rw [y53 (show ps[i].es.length≤k by omega)]
   repeat' ((first|(apply y4 ok;rfl)|(apply y39;first|(unfold inI;omega)|((try dsimp only);simp only [y45,y44,y43,y42,y54,y55];omega)|exact ⟨rfl,z25 rfl z32⟩)|((apply z8)<;>intro _))<;>conv=>whnf)
   all_goals try (exfalso;omega)
   all_goals refine z44 (i+1) (by omega) (by omega) (by refine swR [0,1,2,7] [5] rfl rfl ?_;(repeat' first|exact y82 _|(refine z331 ?_;omega)|(refine z152 ?_;omega)|apply y83|((refine z47 rfl ?_ ?_);(focus ((repeat' (first|exact z7 (fun _=>rfl)|apply z33));done)))|refine z127 (by omega) (by omega) ?_|((apply z93 rfl rfl rfl);(focus ((repeat ((exact z38 (fun _=>rfl) _)));done));(focus (((simp;omega));done)))|constructor))
 ·have e:i=m:=by omega
  subst e
  rw [y53 (show ps.length≤i by omega)]
  repeat' ((first|(apply y4 ok;rfl)|((apply z8)<;>intro _))<;>conv=>whnf)
  all_goals try (exfalso;omega)
  all_goals (refine rsD [0] [3] rfl ?_;(repeat' first|exact y82 _|(refine z331 ?_;omega)|apply y83|((apply z48 rfl rfl rfl);(focus ((repeat ((exact z38 (fun _=>rfl) _)));done));(focus (((simp;omega));done)))|apply z60|constructor))
theorem z1048 (n:Nat) (e:List AC):z70 (List.replicate n e)=List.replicate n (z281 e):=by
 induction n with
 |zero=>rfl
 |succ n ih=>simp only [List.replicate_succ,z70,ih]
noncomputable def noneB (t:Tree):Bool:=decide (t.kind=0∧t.val=0∧t.kids.length=0)
theorem z1123 (t:Tree):CallsA Tryz.prog 246 [z40 Tree.cs' t] [] (.bool (noneB t)) []:=by
 refine z12 z19 Tryz.func246 rfl rfl 17 Tryz.ntmps246 (by simp) ?_
 repeat' ((first|(apply y4 ok;rfl)|((apply z8)<;>intro _))<;>conv=>whnf)
 all_goals refine z24 rfl ?_
 all_goals unfold noneB
 all_goals first|(rw [decide_eq_decide];omega)|(rw [decide_eq_false_iff_not];omega)
noncomputable def z567 (e:Edge) (n:Int):Bool:=decide (0≤e.fr∧e.fr < n∧0≤e.to∧e.to < n∧n≤4) && (e.gd.exprB && (decide (-2≤e.sync∧e.sync≤2∧-1≤e.var∧e.var < 3) && (if e.var < 0 then noneB e.val else e.val.exprB)))
set_option maxHeartbeats 1600000 in
theorem z759 (e:Edge) (he:e.s1) (n:Int):CallsA Tryz.prog 241 [.agg e.cs,.int n] [] (.bool (z567 e n)) []:=by
 have h1:=he.gd
 have h2:=he.val
 have c1:=z139 e.gd (z132 _ (by unfold maxLen;omega))
 have c2:=z139 e.val (z132 _ (by unfold maxLen;omega))
 have c3:=z1123 e.val
 rw [y15] at c1 c2 c3
 unfold z567
 generalize e.gd.exprB=b1 at *
 generalize e.val.exprB=b2 at *
 generalize noneB e.val=b3 at *
 by_cases ha:0≤e.fr∧e.fr < n∧0≤e.to∧e.to < n∧n≤4
 ·rw [y78 ha]
  by_cases hb : -2≤e.sync∧e.sync≤2∧-1≤e.var∧e.var < 3
  ·rw [y78 hb]
   by_cases hv:e.var < 0
   ·rw [if_pos hv]
    refine z12 z19 Tryz.func241 rfl rfl 71 Tryz.ntmps241 (by simp) ?_
    cases b1<;>cases b3
    all_goals
     repeat' ((first|(apply y4 ok;rfl)|((apply z8)<;>intro _)|(apply z6 (c1);rfl;rfl)|(apply z6 (c3);rfl;rfl))<;>conv=>whnf)
     all_goals first|(exfalso;omega)|exact z24 rfl rfl
   ·rw [if_neg hv]
    refine z12 z19 Tryz.func241 rfl rfl 71 Tryz.ntmps241 (by simp) ?_
    cases b1<;>cases b2
    all_goals
     repeat' ((first|(apply y4 ok;rfl)|((apply z8)<;>intro _)|(apply z6 (c1);rfl;rfl)|(apply z6 (c2);rfl;rfl))<;>conv=>whnf)
     all_goals first|(exfalso;omega)|exact z24 rfl rfl
  ·rw [y79 hb]
   refine z12 z19 Tryz.func241 rfl rfl 71 Tryz.ntmps241 (by simp) ?_
   cases b1
   all_goals
    repeat' ((first|(apply y4 ok;rfl)|((apply z8)<;>intro _)|(apply z6 (c1);rfl;rfl))<;>conv=>whnf)
    all_goals first|(exfalso;omega)|exact z24 rfl rfl
 ·rw [y79 ha]
  refine z12 z19 Tryz.func241 rfl rfl 71 Tryz.ntmps241 (by simp) ?_
  repeat' ((first|(apply y4 ok;rfl)|((first|apply z8|apply z109)<;>intro _)|(apply z6 (c1);rfl;rfl))<;>conv=>whnf)
  all_goals first|(exfalso;omega)|exact z24 rfl rfl
noncomputable def z558 (p:Proc):Bool:=p.es.all (fun e=>z567 e p.loc) && decide (1≤p.loc∧p.loc≤4∧p.es.length≤6)
theorem z739 (p:Proc) (hp:p.s1):CallsA Tryz.prog 215 [.agg p.cs] [] (.bool (z558 p)) []:=by
 have hl:=hp.len
 unfold z558
 refine z12 z19 Tryz.func215 rfl rfl 34 Tryz.ntmps215 (by simp) ?_
 repeat' (((apply y4 ok;rfl))<;>conv=>whnf)
 refine z97 (fun k:Nat=>([(1,.ptr 0 none 0),(3,.int k)],[.cells 2 [p.cs]])) (fun k=>k≤p.es.length∧p.es.all (fun e=>z567 e p.loc)=(p.es.drop k).all (fun e=>z567 e p.loc)) (fun k=>p.es.length - k) 0 ⟨by omega,rfl⟩ ⟨[0],rfl,by decide,rfl,by repeat' (first|exact True.intro|exact ⟨rfl,rfl⟩|apply y39),by repeat' (first|exact True.intro|exact z27 rfl rfl|apply y39)⟩ ?_
 intro k hk
 by_cases hkl:k < p.es.length
 ·have ce:=z759 p.es[k] (hp.el _ (y40 _)) p.loc
  have e:=z156 (fun e=>z567 e p.loc) p.es k hkl
  rw [e] at hk
  have g0:(p.es.map Edge.cs)[k]?=some (Edge.cs p.es[k]):=by rw [y47,y41 hkl];rfl
  generalize z567 p.es[k] p.loc=b at *
  cases b
  all_goals
   repeat' ((first|(apply y4 ok;rfl)|(apply z37;kernel_rfl)|(refine z21 (i:=k) rfl g0 ?_)|(apply y39;first|omega|(unfold inI;omega))|((apply z8)<;>intro _)|(apply z6 (ce);rfl;rfl))<;>conv=>whnf)
   all_goals try (exfalso;omega)
  ·exact z24 rfl (by rw [hk.2];rfl)
  ·exact z81 (k+1) [0] ⟨by omega,by rw [hk.2,Bool.true_and]⟩ (by omega) ⟨rfl,by decide,rfl,by repeat' (first|exact True.intro|exact ⟨rfl,rfl⟩|apply y39),by repeat' (first|exact True.intro|exact z27 rfl rfl|apply y39)⟩
 ·have e:=z146 (fun e=>z567 e p.loc) p.es k (by omega)
  rw [e] at hk
  repeat' ((first|(apply y4 ok;rfl)|(apply y39;omega)|(((with_reducible apply z15;omega));intro _)|((apply z8)<;>intro _))<;>conv=>whnf)
  all_goals first|(exfalso;omega)|(refine z24 rfl ?_;rw [hk.2];simp only [Bool.true_and,Bool.false_and];first|(rw [decide_eq_decide];omega)|(rw [decide_eq_false_iff_not];omega))
noncomputable def sysB (s:Sys):Bool:=s.ps.all z558 && (z339 s.init && decide (1≤s.ps.length∧s.ps.length≤3))
theorem z551 (s:Sys) (hs:s.s1):CallsA Tryz.prog 170 [.agg s.cs] [] (.bool (sysB s)) []:=by
 have hl:=hs.len
 have hi:=hs.init
 have cv:=z740 s.init (by unfold maxLen;omega)
 unfold sysB
 generalize z339 s.init=vb at *
 refine z12 z19 Tryz.func170 rfl rfl 33 Tryz.ntmps170 (by simp) ?_
 repeat' (((apply y4 ok;rfl))<;>conv=>whnf)
 refine z97 (fun k:Nat=>([(1,.ptr 0 none 0),(3,.int k)],[.cells 2 [s.cs]])) (fun k=>k≤s.ps.length∧s.ps.all z558=(s.ps.drop k).all z558) (fun k=>s.ps.length - k) 0 ⟨by omega,rfl⟩ ⟨[0],rfl,by decide,rfl,by repeat' (first|exact True.intro|exact ⟨rfl,rfl⟩|apply y39),by repeat' (first|exact True.intro|exact z27 rfl rfl|apply y39)⟩ ?_
 intro k hk
 by_cases hkl:k < s.ps.length
 ·have ce:=z739 s.ps[k] (hs.el _ (y40 _))
  have e:=z156 z558 s.ps k hkl
  rw [e] at hk
  have g0:(s.ps.map Proc.cs)[k]?=some (Proc.cs s.ps[k]):=by rw [y47,y41 hkl];rfl
  generalize z558 s.ps[k]=b at *
  cases b
  all_goals
   repeat' ((first|(apply y4 ok;rfl)|(refine z21 (i:=k) rfl g0 ?_)|(apply y39;first|omega|(unfold inI;omega))|((apply z8)<;>intro _)|(apply z6 (ce);rfl;rfl))<;>conv=>whnf)
   all_goals try (exfalso;omega)
  ·exact z24 rfl (by rw [hk.2];rfl)
  ·exact z81 (k+1) [0] ⟨by omega,by rw [hk.2,Bool.true_and]⟩ (by omega) ⟨rfl,by decide,rfl,by repeat' (first|exact True.intro|exact ⟨rfl,rfl⟩|apply y39),by repeat' (first|exact True.intro|exact z27 rfl rfl|apply y39)⟩
 ·have e:=z146 z558 s.ps k (by omega)
  rw [e] at hk
  cases vb
  all_goals
   repeat' ((first|(apply y4 ok;rfl)|(apply y39;omega)|(((with_reducible apply z15;omega));intro _)|((apply z8)<;>intro _)|(apply z6 (cv);rfl;rfl))<;>conv=>whnf)
   all_goals first|(exfalso;omega)|(refine z24 rfl ?_;rw [hk.2];simp only [Bool.true_and,Bool.false_and];first|done|(rw [decide_eq_decide];omega)|(rw [decide_eq_false_iff_not];omega))
theorem z746 (s:Sys) (hs:s.s1):CallsA Tryz.prog 115 [.agg s.cs] [] (.tup [.agg (if sysB s then (⟨List.replicate s.ps.length 0,s.init⟩:State) else ⟨[],[]⟩).cs,.bool (sysB s)]) []:=by
 have hl:=hs.len
 have hi:=hs.init
 have c:=z551 s hs
 generalize sysB s=b at *
 refine z10 z19 Tryz.func115 rfl rfl 17 Tryz.ntmps115 (by simp) ?_
 cases b
 all_goals
  repeat' ((first|(apply y4 ok;rfl)|(apply z37;kernel_rfl)|(apply y39;first|(dsimp only;omega)|exact z106 (fun _=>rfl))|(apply z6 (c);rfl;rfl))<;>conv=>whnf)
 ·(refine rsD [] [] rfl ?_;(repeat' first|exact y82 _|exact z52|apply z60|apply z113|constructor))
 ·(refine rsD [] [2,4] rfl ?_;(repeat' first|exact y82 _|(refine z331 ?_;omega)|((apply z48 rfl rfl rfl);(focus ((repeat (first|exact z38 (fun _=>rfl) _|rfl));done));(focus (((simp;done));done)))|apply z60|apply z113|(refine z79 ?_ ?_;(focus (simp;done)))|constructor))
  exact z68 (by rw [z1048,if_pos rfl];simp only [List.map_replicate,y73];rfl)
def Sys.pr (s:Sys) (i:Nat):Proc:=s.ps.getD i ⟨0,[]⟩
def Proc.eg (p:Proc) (k:Nat):Edge:=p.es.getD k ⟨0,0,leaf 0 0,0,leaf 0 0,0⟩
theorem y14 {s:Sys} {i:Nat} (h:i < s.ps.length):(s.ps.map Proc.cs)[i]?=some (s.pr i).cs:=by
 unfold Sys.pr;rw [z13 h,y47,y41 h];rfl
theorem y11 {p:Proc} {k:Nat} (h:k < p.es.length):(p.es.map Edge.cs)[k]?=some (p.eg k).cs:=by
 unfold Proc.eg;rw [z13 h,y47,y41 h];rfl
structure Edge.ok (e:Edge) (n:Int):Prop where
 to:0≤e.to∧e.to < n
 gd:e.gd.good
 var : -1≤e.var∧e.var≤2
 val:0≤e.var→e.val.good
 sync : -2≤e.sync∧e.sync≤2
structure Sys.ok (s:Sys):Prop where
 n1:1≤s.ps.length
 n3:s.ps.length≤3
 ne:∀ i,i < s.ps.length→(s.pr i).es.length≤6
 loc:∀ i,i < s.ps.length→(s.pr i).loc≤4
 eg:∀ i k,i < s.ps.length→k < (s.pr i).es.length→((s.pr i).eg k).ok (s.pr i).loc
 init:ValsOk s.init
theorem Sys.ok_of {s:Sys} (h:sysB s=true):s.ok:=by
 unfold sysB at h
 rw [y67,y67,decide_eq_true_iff,y75] at h
 obtain ⟨h1,h2,h3⟩:=h
 have hp:∀ i,i < s.ps.length→z558 (s.pr i)=true:=fun i hi=>by unfold Sys.pr;rw [z13 hi];exact h1 _ (y40 _)
 have hq:∀ i,i < s.ps.length→(∀ e∈(s.pr i).es,z567 e (s.pr i).loc=true)∧1≤(s.pr i).loc∧(s.pr i).loc≤4∧(s.pr i).es.length≤6:=fun i hi=>by
  have:=hp i hi
  unfold z558 at this
  rw [y67,decide_eq_true_iff,y75] at this
  exact this
 refine ⟨h3.1,h3.2,fun i hi=>(hq i hi).2.2.2,fun i hi=>(hq i hi).2.2.1,fun i k hi hk=>?_,z693 h2⟩
 have he:=(hq i hi).1 ((s.pr i).eg k) (by unfold Proc.eg;rw [z13 hk];exact y40 _)
 unfold z567 at he
 simp only [y67,decide_eq_true_iff] at he
 obtain ⟨a1,a2,a3,a4⟩:=he
 refine ⟨⟨a1.2.2.1,a1.2.2.2.1⟩,y24 a2,⟨a3.2.2.1,by omega⟩,fun hv=>?_,⟨a3.1,a3.2.1⟩⟩
 rw [if_neg (by omega)] at a4
 exact y24 a4
noncomputable def rdyE (e:Edge) (st:State) (i:Nat):Bool:=decide (e.fr=st.a.getD i 0) && decide (e.gd.ev st.b≠0)
structure State.ok (st:State) (s:Sys):Prop where
 a:st.a.length=s.ps.length
 b:ValsOk st.b
theorem z589 (s:Sys) (hs:s.ok) (st:State) (h:st.ok s) (i k:Nat) (hi:i < s.ps.length) (hk:k < (s.pr i).es.length):CallsA Tryz.prog 171 [.agg s.cs,.agg st.cs,.int i,.int k] [] (.bool (rdyE ((s.pr i).eg k) st i)) []:=by
 have gp:=y14 hi
 have ge:=y11 hk
 have hE:=hs.eg i k hi hk
 have h3:=hs.n3
 have ha:=h.a
 have h6:=hs.ne i hi
 generalize (s.pr i).eg k=e at *
 have hb:=h.b.1
 have ga:(st.a.map enI)[i]?=some (enI (st.a.getD i 0)):=by rw [y47,z13 (show i < st.a.length by omega),y41 (by omega)];rfl
 have ce:=z523 st.b h.b e.gd hE.gd
 rw [y15] at ce
 unfold rdyE
 generalize st.a.getD i 0=x at *
 generalize s.pr i=p at *
 refine z12 z19 Tryz.func171 rfl rfl 35 Tryz.ntmps171 (by simp) ?_
 repeat' ((first|(apply y4 ok;rfl)|(apply z37;kernel_rfl)|(refine z21 (i:=i) rfl gp ?_)|(refine z21 (i:=k) rfl ge ?_)|(refine z21 (i:=i) rfl ga ?_)|(apply y39;omega)|((apply z8)<;>intro _)|(apply z6 (ce);rfl;rfl))<;>conv=>whnf)
 all_goals exact z24 rfl (by simp [*])
structure Stp where
 p:Int
 e:Int
 q:Int
 f:Int
def Stp.cs (x:Stp):List AC:=[.int x.p,.int x.e,.int x.q,.int x.f]
structure Stp.ok (x:Stp) (s:Sys):Prop where
 p:0≤x.p∧x.p < s.ps.length
 e:0≤x.e∧x.e < (s.pr x.p.toNat).es.length
 q : -1≤x.q∧x.q < s.ps.length
 f:0≤x.q→0≤x.f∧x.f < (s.pr x.q.toNat).es.length
open Classical in
noncomputable def z636 (s:Sys) (st:State) (i k:Nat) (j m:Nat):List Stp:=if j≠i∧((s.pr j).eg m).sync=-((s.pr i).eg k).sync∧rdyE ((s.pr j).eg m) st j=true then [⟨i,k,j,m⟩] else []
noncomputable def z637 (s:Sys) (st:State) (i k:Nat):List Stp:=cat s.ps.length fun j=>cat (s.pr j).es.length (z636 s st i k j)
theorem partL_ok {s:Sys} {st:State} {i k:Nat} (hi:i < s.ps.length) (hk:k < (s.pr i).es.length):∀ x∈z637 s st i k,x.ok s:=fun x hx=>by
 obtain ⟨j,hj,hx⟩:=z649 hx
 obtain ⟨m,hm,hx⟩:=z649 hx
 unfold z636 at hx
 split at hx
 ·rw [List.mem_singleton.1 hx]
  exact ⟨⟨by show 0≤(i:Int);omega,by show (i:Int) < _;omega⟩,⟨by show 0≤(k:Int);omega,by show (k:Int) < _;simpa using hk⟩,⟨by show -1≤(j:Int);omega,by show (j:Int) < _;omega⟩,fun _=>⟨by show 0≤(m:Int);omega,by show (m:Int) < _;simpa using hm⟩⟩
 ·cases hx
theorem z722 {s:Sys} (hs:s.ok) {st:State} {i k:Nat} : (z637 s st i k).length≤18:=by
 have h3:=hs.n3
 have:=z675 (n:=s.ps.length) (c:=6) (f:=fun j=>cat (s.pr j).es.length (z636 s st i k j)) (fun j hj=>by
  have h6:=hs.ne j hj
  have:=z675 (n:=(s.pr j).es.length) (c:=1) (f:=z636 s st i k j) (fun m _=>by unfold z636;split<;>simp)
  omega)
 unfold z637
 omega
set_option maxHeartbeats 1600000 in
theorem z653 (s:Sys) (hs:s.ok) (st:State) (h:st.ok s) (i k:Nat) (hi:i < s.ps.length) (hk:k < (s.pr i).es.length):CallsA Tryz.prog 172 [.agg s.cs,.agg st.cs,.int i,.int k] [] (lst 4 Stp.cs (z637 s st i k)) []:=by
  have gp:=y14 hi
  have ge:=y11 hk
  have h3:=hs.n3
  have h6:=hs.ne i hi
  have hE:=hs.eg i k hi hk
  have hsy:=hE.sync
  have hfin:z637 s st i k=cat s.ps.length (fun j=>cat (s.pr j).es.length (z636 s st i k j)):=rfl
  have hR1:∀ j m,(j≠i∧((s.pr j).eg m).sync=-((s.pr i).eg k).sync∧rdyE ((s.pr j).eg m) st j=true)→z636 s st i k j m=[⟨i,k,j,m⟩]:=fun _ _ h=>if_pos h
  have hR0:∀ j m,¬(j≠i∧((s.pr j).eg m).sync=-((s.pr i).eg k).sync∧rdyE ((s.pr j).eg m) st j=true)→z636 s st i k j m=[]:=fun _ _ h=>if_neg h
  generalize z637 s st i k=FIN at *
  generalize z636 s st i k=R at *
  generalize (s.pr i).eg k=e at *
  generalize hp:s.pr i=p at *
  refine z10 z19 Tryz.func172 rfl rfl 76 Tryz.ntmps172 (by simp) ?_
  repeat' ((first|(apply y4 ok;rfl)|(refine z21 (i:=i) rfl gp ?_)|(refine z21 (i:=k) rfl ge ?_)|(apply y39;omega))<;>conv=>whnf)
  refine z92 (fun x:Nat×List Stp=>([(2,.int i),(3,.int k),(4,.ptr 0 none 0),(5,.ptr 1 none 0),(9,.sref 2 0 x.2.length),(10,.int e.sync),(11,.int x.1)],[.cells 2 [s.cs],.cells 2 [st.cs],.cells 4 (x.2.map Stp.cs)])) (fun x=>x.1≤s.ps.length∧x.2.length≤6 * x.1∧x.2=cat x.1 fun j=>cat (s.pr j).es.length (R j)) (fun x=>s.ps.length - x.1) (0,[]) ⟨by omega,by simp,rfl⟩ (by refine swR [0,1,2] [] rfl rfl ?_;(repeat' first|exact y82 _|apply y83|refine z16 rfl (z36) ?_|constructor)) ?_
  rintro ⟨j,L⟩ ⟨hj,hLl,hL⟩
  simp only at hj hL hLl
  by_cases hjl:j < s.ps.length
  · have gj:=y14 hjl
    have hj6:=hs.ne j hjl
    repeat' ((first|(apply y4 ok;rfl)|((apply z8)<;>intro _))<;>conv=>whnf)
    all_goals try (exfalso;omega)
    refine z92 (fun x:Nat×List Stp=>([(2,.int i),(3,.int k),(4,.ptr 0 none 0),(5,.ptr 1 none 0),(9,.sref 2 0 x.2.length),(10,.int e.sync),(11,.int j),(12,.int x.1)],[.cells 2 [s.cs],.cells 2 [st.cs],.cells 4 (x.2.map Stp.cs)])) (fun x=>x.1≤(s.pr j).es.length∧x.2.length≤6 * j+x.1∧x.2=L++cat x.1 (R j)) (fun x=>(s.pr j).es.length - x.1) (0,L) ⟨by omega,by simpa using hLl,by rw [z935,y61]⟩ (by refine swR [0,1,2] [] rfl rfl ?_;(repeat' first|exact y82 _|exact z18 _|apply y83|refine z16 rfl (z7 (fun _=>rfl)) ?_|constructor)) ?_
    rintro ⟨m,M⟩ ⟨hm,hMl,hM⟩
    simp only at hm hM hMl
    by_cases hml:m < (s.pr j).es.length
    · have gm:=y11 hml
      have hl:=z589 s hs st h j m hjl hml
      have hR1m:=hR1 j m
      have hR0m:=hR0 j m
      have hcs:=z406 m (R j)
      have hE2:=(hs.eg j m hjl hml).sync
      generalize (s.pr j).eg m=e2 at *
      generalize rdyE e2 st j=rd at *
      generalize hpj:s.pr j=pj at *
      cases rd
      all_goals
        repeat' ((first|(apply y4 ok;rfl)|(refine z21 (i:=j) rfl gj ?_)|(refine z21 (i:=m) rfl gm ?_)|(apply y39;first|omega|(unfold inI;omega)|((try dsimp only);simp only [y45,y44,y43,y42,y54,y55];omega)|exact ⟨rfl,z25 rfl z32⟩)|((first|apply z8|apply z41)<;>intro _)|(apply z6 (hl);rfl;rfl))<;>conv=>whnf)
        all_goals try (exfalso;omega)
      all_goals first
        | (have hz := hR1m ⟨by omega, by omega, rfl⟩
           refine z44 (m+1,M++[⟨i,k,j,m⟩]) ⟨by omega,by simp;omega,by rw [hM,hcs,hz,List.append_assoc]⟩ (by show pj.es.length - (m+1) < pj.es.length - m;omega) (by refine swR [0,1,4] [] rfl rfl ?_;(repeat' first|exact y82 _|(refine z72 ?_;((simp;done)))|apply y83|((refine z47 rfl ?_ ?_);(focus ((repeat' (first|exact z7 (fun _=>rfl)|apply z33));done)))|(refine z100 ?_ ?_;(focus (omega)))|constructor)))
        | (have hz := hR0m (by rintro ⟨z1, z2, z3⟩; first | exact absurd z3 (by decide) | omega)
           refine z44 (m+1,M) ⟨by omega,by simp;omega,by rw [hM,hcs,hz,y61]⟩ (by show pj.es.length - (m+1) < pj.es.length - m;omega) (by refine swR [0,1,2] [] rfl rfl ?_;(repeat' first|exact y82 _|exact z18 _|apply y83|refine z16 rfl (z7 (fun _=>rfl)) ?_|constructor)))
    · repeat' ((first|(apply y4 ok;rfl)|(refine z21 (i:=j) rfl gj ?_)|(apply y39;first|omega|(unfold inI;omega))|(((with_reducible apply z15;omega));intro _)|((first|apply z8|apply z41)<;>intro _))<;>conv=>whnf)
      all_goals try (exfalso;omega)
      have e:m=(s.pr j).es.length:=by omega
      all_goals refine z44 (j+1,M) ⟨by omega,by simp;omega,by rw [hM,hL,e];exact (z406 j fun j=>cat (s.pr j).es.length (R j)).symm⟩ (by show s.ps.length - (j+1) < s.ps.length - j;omega) (by refine swR [0,1,2] [] rfl rfl ?_;(repeat' first|exact y82 _|exact z18 _|apply y83|refine z16 rfl (z7 (fun _=>rfl)) ?_|constructor))
  · have e:j=s.ps.length:=by omega
    have eL:L=FIN:=by rw [hfin,hL,e]
    subst eL
    repeat' ((first|(apply y4 ok;rfl)|((apply z8)<;>intro _))<;>conv=>whnf)
    all_goals try (exfalso;omega)
    all_goals (refine rsD [] [2] rfl ?_;(repeat' first|exact y82 _|((apply z48 rfl rfl rfl);(focus ((repeat ((exact z38 (fun _=>rfl) _)));done));(focus (((simp;done));done)))|constructor))
end Go.Proofs.YteinbnahinpegaaGreat
namespace Go.Proofs.YteinbnahinpegaaGreat
open Go.Gl
attribute [local irreducible] z20 AWP z30 z35 z34
theorem z992 {f:FuncId} {args:List AC} {n:Nat} {l:List Int} (h:CallsA Tryz.prog f args [] (.sref 0 0 n) [.cells 1 (l.map enI)]) (hl:l.length=n):CallsA Tryz.prog f args [] (ints l) []:=by
 subst hl
 exact h.keep (z145 _ _) (by simp)
theorem z171 {objs:Nat→AObj} {π Bn:List Nat} {o:Nat} {l:List Int} (ho:objs o=.cells 1 (l.map enI)) (h1:idx π o=none) (h2:inB Bn o=true):bor objs π Bn (.sref o 0 l.length)=ints l :=
 z195 ho h1 h2 (by simp) (z145 _ _)
end Go.Proofs.YteinbnahinpegaaGreat
