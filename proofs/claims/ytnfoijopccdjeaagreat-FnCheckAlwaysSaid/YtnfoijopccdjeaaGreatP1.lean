/- A part of the proofs over this program: T70, T71, T72, T73, T74, T75, T75K, T75M, T81, T82, T83, T84, T85, T86, T87, T33I, T88, T89, T31, T32, T33, T90. -/
import Derived.Test.YtnfoijopccdjeaaGreatG0
import Derived.Test.YtnfoijopccdjeaaGreatG1
import Derived.Test.YtnfoijopccdjeaaGreatG2
import Derived.Test.YtnfoijopccdjeaaGreatG3
import Derived.Test.YtnfoijopccdjeaaGreatP0
set_option linter.all false
namespace Go.Proofs.YtnfoijopccdjeaaGreat
open Go.Gl
attribute [local irreducible] z18 AWP z33 z37 z34
def enU (n:Int):List AC:=[.raw (.int .u8 n)]
def rdO (bs:List Int) (p:Int):AObj:=.cells 2 [[lst 1 enU bs,.int p]]
structure BytesOk (bs:List Int):Prop where
 len:bs.length≤2000
 el:∀ x∈bs,0≤x∧x≤255
theorem u_at {l:List Int} {i:Nat} (h:i < l.length):(l.map enU)[i]?=some (enU l[i]):=by rw [y51,y45 h];rfl
theorem rem_at {l:List Int} {i:Int} (h:0 < l.length) (h0:0≤i):(i % (l.length:Int)).toNat < l.length:=by
 have:=Int.emod_lt_of_pos i (show (0:Int) < l.length by omega)
 have:=Int.emod_nonneg i (show (l.length:Int)≠0 by omega)
 omega
set_option maxHeartbeats 1600000 in
theorem z79 (bs:List Int) (hb:BytesOk bs) (p n:Int) (h0:0≤p) (h1:p≤1000000000) (hn:n≤1000000000):∃ v:Int,(0≤v∧(1≤n→v < n))∧CallsA Tryz.prog 88 [.ptr 0 none 0,.int n] [rdO bs p] (.int v) [rdO bs (p+1)]:=by
 have hlen:=hb.len
 by_cases hz:n < 1∨bs.length=0
 ·refine ⟨0,⟨by omega,fun _=>by omega⟩,?_⟩
  refine z16 z14 Tryz.func88 rfl rfl 99 Tryz.ntmps88 (by simp) ?_
  repeat' (first|(apply y4 ok;rfl;conv=>whnf)|(apply z23;kernel_rfl;conv=>whnf)|(apply y43;(first|omega|(unfold inI;omega));conv=>whnf)|(with_reducible apply z90;omega;intro _;conv=>whnf)|(apply z6<;>intro _<;>conv=>whnf))
  all_goals first|(exfalso;omega)|exact z88 [0] (by decide) rfl rfl rfl ⟨z22 rfl rfl,trivial⟩
 by_cases hk:p < bs.length
 ·have hp:(p+1 - 1).toNat < bs.length:=by omega
  have g0:=u_at (l:=bs) (i:=(p+1 - 1).toNat) hp
  have hr:=hb.el bs[(p+1 - 1).toNat] (y44 _)
  generalize bs[(p+1 - 1).toNat]=b at *
  have hw:IntKind.i64.wrap b=b:=IntWalk.i64_in _ (by omega)
  refine ⟨b % n,⟨Int.emod_nonneg _ (by omega),fun _=>Int.emod_lt_of_pos _ (by omega)⟩,?_⟩
  refine z16 z14 Tryz.func88 rfl rfl 99 Tryz.ntmps88 (by simp) ?_
  repeat' (first|(apply y4 ok;rfl;conv=>whnf)|(apply z23;kernel_rfl;conv=>whnf)|(refine z15 (i:=(p+1 - 1).toNat) rfl g0 ?_;conv=>whnf)|(apply y43;(first|omega|(unfold inI;omega));conv=>whnf)|(with_reducible apply z90;omega;intro _;conv=>whnf)|(apply z6<;>intro _<;>conv=>whnf))
  all_goals first|(exfalso;omega)|exact z88 [0] (by decide) rfl rfl rfl ⟨z22 rfl rfl,trivial⟩
 have hl0:0 < bs.length:=by omega
 have m1:=rem_at (l:=bs) (i:=p+1 - 1) hl0 (by omega)
 have m2:=rem_at (l:=bs) (i:=(p+1 - 1) * 7+3) hl0 (by omega)
 have g1:=u_at m1
 have g2:=u_at m2
 have r1:=hb.el bs[((p+1 - 1) % (bs.length:Int)).toNat] (y44 _)
 have r2:=hb.el bs[(((p+1 - 1) * 7+3) % (bs.length:Int)).toNat] (y44 _)
 generalize bs[((p+1 - 1) % (bs.length:Int)).toNat]=b1 at *
 generalize bs[(((p+1 - 1) * 7+3) % (bs.length:Int)).toNat]=b2 at *
 have w1:IntKind.i64.wrap b1=b1:=IntWalk.i64_in _ (by omega)
 have w2:IntKind.i64.wrap b2=b2:=IntWalk.i64_in _ (by omega)
 have n1:=Int.emod_nonneg (p+1 - 1) (show (bs.length:Int)≠0 by omega)
 have n2:=Int.emod_nonneg ((p+1 - 1) * 7+3) (show (bs.length:Int)≠0 by omega)
 have l1:=Int.emod_lt_of_pos (p+1 - 1) (show (0:Int) < bs.length by omega)
 have l2:=Int.emod_lt_of_pos ((p+1 - 1) * 7+3) (show (0:Int) < bs.length by omega)
 have q0:0≤(p+1 - 1) / (bs.length:Int):=Int.ediv_nonneg (by omega) (by omega)
 have q1:(p+1 - 1) / (bs.length:Int)≤p+1 - 1:=Int.ediv_le_self _ (by omega)
 have hx0:0≤b1 * 131+b2 * 1117+(p+1 - 1) * 29+(p+1 - 1) / (bs.length:Int) * 53:=by omega
 have hx1:b1 * 131+b2 * 1117+(p+1 - 1) * 29+(p+1 - 1) / (bs.length:Int) * 53≤1000000000000:=by omega
 have hq:0≤(b1 * 131+b2 * 1117+(p+1 - 1) * 29+(p+1 - 1) / (bs.length:Int) * 53) / 64∧(b1 * 131+b2 * 1117+(p+1 - 1) * 29+(p+1 - 1) / (bs.length:Int) * 53) / 64≤1000000000000:=by omega
 refine ⟨(((b1 * 131+b2 * 1117+(p+1 - 1) * 29+(p+1 - 1) / (bs.length:Int) * 53).toNat ^^^ ((b1 * 131+b2 * 1117+(p+1 - 1) * 29+(p+1 - 1) / (bs.length:Int) * 53) / 64).toNat:Nat):Int) % n,⟨Int.emod_nonneg _ (by omega),fun _=>Int.emod_lt_of_pos _ (by omega)⟩,?_⟩
 refine z16 z14 Tryz.func88 rfl rfl 99 Tryz.ntmps88 (by simp) ?_
 repeat' (first|(apply y4 ok;rfl;conv=>whnf)|(apply z23;kernel_rfl;conv=>whnf)|(refine z15 (i:=(((p+1 - 1) * 7+3) % (bs.length:Int)).toNat) rfl g2 ?_;conv=>whnf)|(refine z15 (i:=((p+1 - 1) % (bs.length:Int)).toNat) rfl g1 ?_;conv=>whnf)|(apply y43;(first|omega|(unfold inI;omega)|(unfold z150;omega));conv=>whnf)|(with_reducible apply z90;omega;intro _;conv=>whnf)|(apply z6<;>intro _<;>conv=>whnf))
 all_goals first|(exfalso;omega)|exact z88 [0] (by decide) rfl rfl rfl ⟨z22 rfl rfl,trivial⟩
theorem z1017 (bs:List Int) (hl:bs.length≤maxLen):CallsA Tryz.prog 34 [lst 1 enU bs] [] (.ptr 0 none 0) [rdO (bs.take 2000) 0]:=by
 unfold maxLen at hl
 refine z16 z14 Tryz.func34 rfl rfl 11 Tryz.ntmps34 (by simp) ?_
 by_cases h:bs.length≤2000
 ·rw [y56 h]
  repeat' (first|(apply y4 ok;rfl;conv=>whnf)|(apply y43;(omega);conv=>whnf)|(apply z6<;>intro _<;>conv=>whnf))
  all_goals first|(exfalso;omega)|exact z88 [0] (by decide) rfl rfl rfl ⟨z22 rfl rfl,trivial⟩
 ·repeat' (first|(apply y4 ok;rfl;conv=>whnf)|(apply y43;(omega);conv=>whnf)|(apply z6<;>intro _<;>conv=>whnf))
  all_goals try (exfalso;omega)
  all_goals exact z88 [0] (by decide) rfl rfl rfl ⟨z22 rfl (congrArg (fun x=>AObj.cells 2 [[x,AC.int 0]]) (z320 1 enU bs 2000 (by omega))),trivial⟩
theorem z100 (bs:List Int) (hb:BytesOk bs) (p:Int) (h0:0≤p) (h1:p≤1000000000) (l:List Int) (hl:0 < l.length) (hl2:l.length≤1000):∃ v:Int,v∈l∧CallsA Tryz.prog 91 [.ptr 0 none 0,.sref 1 0 l.length] [rdO bs p,.cells 1 (l.map enI)] (.int v) [rdO bs (p+1),.cells 1 (l.map enI)]:=by
 obtain ⟨k,⟨hk0,hk1⟩,hc⟩:=z79 bs hb p l.length h0 h1 (by omega)
 have hk:k.toNat < l.length:=by omega
 have g0:(l.map enI)[k.toNat]?=some (enI l[k.toNat]):=by rw [y51,y45 hk];rfl
 refine ⟨l[k.toNat],y44 _,?_⟩
 generalize l[k.toNat]=v at *
 refine z16 z14 Tryz.func91 rfl rfl 12 Tryz.ntmps91 (by simp) ?_
 repeat' (first|(apply y4 ok;rfl;conv=>whnf)|(refine z15 (i:=k.toNat) rfl g0 ?_;conv=>whnf)|(apply y43;(omega);conv=>whnf)|(apply z98 [0] [] [] (hc);rfl;(focus ((repeat' (first|exact z35|apply z44))<;>(rfl)));rfl;rfl;rfl;rfl;rfl;(focus ((repeat' (first|exact z13|apply z11))<;>(exact z42 rfl rfl)));(exact .inl rfl);conv=>whnf))
 all_goals (exact z88 [0,1] (by decide) rfl rfl rfl ⟨z22 rfl rfl,z70 rfl (z5 fun _=>rfl),trivial⟩)
end Go.Proofs.YtnfoijopccdjeaaGreat
namespace Go.Proofs.YtnfoijopccdjeaaGreat
open Go.Gl
attribute [local irreducible] z18 AWP z33 z37 z34 RetS z40
theorem z85 (t:Tree):t.sz≤maxLen→t.mx:=by
 induction t using y28 with|h t ih=>?_
 intro h
 rw [y29]
 rw [y38] at h
 refine ⟨by omega,fun u hu=>ih u hu ?_⟩
 have:=z348 Tree.sz hu
 omega
abbrev few (p:Int):Prop:=0≤p∧p≤999999000
abbrev few1 (p:Int):Prop:=0≤p∧p≤999990000
abbrev few2 (p:Int):Prop:=0≤p∧p≤999900000
def leaf (k v:Int):Tree:=.mk k v []
theorem z86 (k v:Int):(leaf k v).sz=0:=rfl
theorem z249 (k v:Int) (l:List Tree):(Tree.mk k v l).sz=l.length+(l.map Tree.sz).sum:=y38 _
set_option maxHeartbeats 1600000 in
theorem z617 (bs:List Int) (hb:BytesOk bs) (p:Int) (hp:few p):∃ (t:Tree) (p' : Int),(t.sz≤3∧p≤p'∧p'≤p+5)∧CallsA Tryz.prog 87 [.ptr 0 none 0] [rdO bs p] (z20 Tree.cs' t) [rdO bs p']:=by
 obtain ⟨v0,⟨l0,u0⟩,c0⟩:=z79 bs hb p 3 (by omega) (by omega) (by omega)
 by_cases h0:v0=0
 ·subst h0
  refine ⟨leaf 1 1,p+1,⟨by rw [z86];omega,by omega,by omega⟩,?_⟩
  refine z7 z14 Tryz.func87 rfl rfl 31 Tryz.ntmps87 (by simp) ?_
  repeat' ((first|(apply y4 ok;rfl)|(apply z55 [0] [] c0;rfl;rfl;rfl))<;>conv=>whnf)
  all_goals (refine rsD [0] [] rfl ?_;(repeat' first|exact y85 _|exact z26|apply y86|apply z38|constructor))
 ·obtain ⟨v1,m1,c1⟩:=z100 bs hb (p+1) (by omega) (by omega) [0,1,0,2] (by decide) (by decide)
  obtain ⟨v2,⟨l2,u2⟩,c2⟩:=z79 bs hb (p+1+1) 3 (by omega) (by omega) (by omega)
  obtain ⟨v3,m3,c3⟩:=z100 bs hb (p+1+1+1) (by omega) (by omega) [6,7,6] (by decide) (by decide)
  obtain ⟨v4,⟨l4,u4⟩,c4⟩:=z79 bs hb (p+1+1+1+1) 5 (by omega) (by omega) (by omega)
  have z0:v0≠0:=h0
  by_cases h4:v4=0
  ·subst h4
   refine ⟨.mk 3 0 [.mk v3 0 [leaf 2 v1,leaf 1 v2]],p+1+1+1+1+1,⟨by simp [z249,z86],by omega,by omega⟩,?_⟩
   refine z7 z14 Tryz.func87 rfl rfl 31 Tryz.ntmps87 (by simp) ?_
   repeat' ((first|(apply y4 ok;rfl)|(apply z23;kernel_rfl)|((apply z6)<;>intro _)|((first|(apply z8 [0] [] c0;rfl;rfl)|(apply z8 [0,2] [] c1;rfl;rfl)|(apply z8 [0] [] c2;rfl;rfl)|(apply z8 [0,5] [] c3;rfl;rfl)|(apply z8 [0] [] c4;rfl;rfl));rfl;(focus ((repeat' first|exact z13|apply z11)<;>first|exact z42 rfl rfl|(refine z19 ?_;((exact z5 fun _=>rfl)))))))<;>conv=>whnf)
   all_goals try (exfalso;omega)
   all_goals (refine rsL [0,8] [6] rfl ?_;refine rsD [0] [1] rfl ?_;(repeat' first|exact y85 _|exact z26|apply y86|((first|apply z36 rfl rfl rfl|apply z203 rfl rfl rfl);(focus ((repeat (rfl));done));(focus ((rfl);done)))|apply z38|(apply z63;rfl)|constructor))
  ·refine ⟨.mk v3 0 [leaf 2 v1,leaf 1 v2],p+1+1+1+1+1,⟨by simp [z249,z86],by omega,by omega⟩,?_⟩
   refine z7 z14 Tryz.func87 rfl rfl 31 Tryz.ntmps87 (by simp) ?_
   repeat' ((first|(apply y4 ok;rfl)|(apply z23;kernel_rfl)|((apply z6)<;>intro _)|((first|(apply z8 [0] [] c0;rfl;rfl)|(apply z8 [0,2] [] c1;rfl;rfl)|(apply z8 [0] [] c2;rfl;rfl)|(apply z8 [0,5] [] c3;rfl;rfl)|(apply z8 [0] [] c4;rfl;rfl));rfl;(focus ((repeat' first|exact z13|apply z11)<;>first|exact z42 rfl rfl|(refine z19 ?_;((exact z5 fun _=>rfl)))))))<;>conv=>whnf)
   all_goals try (exfalso;omega)
   all_goals (refine rsD [0] [6] rfl ?_;(repeat' first|exact y85 _|exact z26|apply y86|refine z36 rfl rfl rfl rfl rfl ?_|apply z38|(apply z63;rfl)|constructor))
def drK:Nat→Int
 |0=>4
 |n+1=>4+2 * drK n
def drS:Nat→Nat
 |0=>0
 |n+1=>2+2 * drS n
theorem z1182 (n:Nat):4≤drK n:=by induction n with
 |zero=>decide
 |succ n ih=>rw [drK];omega
set_option maxHeartbeats 1600000 in
theorem z884 (bs:List Int) (hb:BytesOk bs):∀ (n:Nat) (d p:Int),d≤n+1→n≤100→0≤d→0≤p→p+drK n≤1000000000→∃ (t:Tree) (p' : Int),(t.sz≤drS n∧p≤p'∧p'≤p+drK n)∧CallsA Tryz.prog 158 [.ptr 0 none 0,.int d] [rdO bs p] (z20 Tree.cs' t) [rdO bs p']:=by
 intro n
 induction n with
 |zero =>
  intro d p hd hd1 hd0 hp hq
  rw [drK] at hq ⊢
  obtain ⟨v0,⟨l0,u0⟩,c0⟩:=z79 bs hb p 3 (by omega) (by omega) (by omega)
  by_cases h0:v0=0
  ·subst h0
   obtain ⟨v1,⟨l1,u1⟩,c1⟩:=z79 bs hb (p+1) 4 (by omega) (by omega) (by omega)
   refine ⟨leaf 1 v1,p+1+1,⟨by rw [z86];omega,by omega,by omega⟩,?_⟩
   refine z7 z14 Tryz.func158 rfl rfl 46 Tryz.ntmps158 (by simp) ?_
   repeat' ((first|(apply y4 ok;rfl)|((apply z6)<;>intro _)|((first|(apply z55 [0] [] c0;rfl;rfl)|(apply z55 [0] [] c1;rfl;rfl));rfl))<;>conv=>whnf)
   all_goals try (exfalso;omega)
   all_goals (refine rsD [0] [] rfl ?_;(repeat' first|exact y85 _|exact z26|apply y86|apply z38|constructor))
  ·obtain ⟨v1,m1,c1⟩:=z100 bs hb (p+1) (by omega) (by omega) [0,1,0,2] (by decide) (by decide)
   refine ⟨leaf 2 v1,p+1+1,⟨by rw [z86];omega,by omega,by omega⟩,?_⟩
   refine z7 z14 Tryz.func158 rfl rfl 46 Tryz.ntmps158 (by simp) ?_
   repeat' ((first|(apply y4 ok;rfl)|((apply z6)<;>intro _)|((first|(apply z8 [0] [] c0;rfl;rfl)|(apply z8 [0,2] [] c1;rfl;rfl));rfl;(focus ((repeat' first|exact z13|apply z11)<;>first|exact z42 rfl rfl|(refine z19 ?_;((exact z5 fun _=>rfl)))))))<;>conv=>whnf)
   all_goals try (exfalso;omega)
   all_goals (refine rsD [0] [] rfl ?_;(repeat' first|exact y85 _|exact z26|apply y86|apply z38|constructor))
 |succ n ih =>
  intro d p hd hd1 hd0 hp hq
  have hK:=z1182 n
  by_cases hlt:d < 2
  ·obtain ⟨t,p',h1,h2⟩:=ih d p (by omega) (by omega) hd0 hp (by rw [drK] at hq;omega)
   exact ⟨t,p',⟨by rw [drS];omega,h1.2.1,by rw [drK];omega⟩,h2⟩
  rw [drK] at hq
  rw [drK,drS]
  obtain ⟨w,⟨lw,uw⟩,cw⟩:=z79 bs hb p 5 (by omega) (by omega) (by omega)
  by_cases hw:w=0
  ·subst hw
   obtain ⟨v0,⟨l0,u0⟩,c0⟩:=z79 bs hb (p+1) 3 (by omega) (by omega) (by omega)
   by_cases h0:v0=0
   ·subst h0
    obtain ⟨v1,⟨l1,u1⟩,c1⟩:=z79 bs hb (p+1+1) 4 (by omega) (by omega) (by omega)
    refine ⟨leaf 1 v1,p+1+1+1,⟨by rw [z86];omega,by omega,by omega⟩,?_⟩
    refine z7 z14 Tryz.func158 rfl rfl 46 Tryz.ntmps158 (by simp) ?_
    repeat' ((first|(apply y4 ok;rfl)|((apply z6)<;>intro _)|((first|(apply z55 [0] [] cw;rfl;rfl)|(apply z55 [0] [] c0;rfl;rfl)|(apply z55 [0] [] c1;rfl;rfl));rfl))<;>conv=>whnf)
    all_goals try (exfalso;omega)
    all_goals (refine rsD [0] [] rfl ?_;(repeat' first|exact y85 _|exact z26|apply y86|apply z38|constructor))
   ·obtain ⟨v1,m1,c1⟩:=z100 bs hb (p+1+1) (by omega) (by omega) [0,1,0,2] (by decide) (by decide)
    refine ⟨leaf 2 v1,p+1+1+1,⟨by rw [z86];omega,by omega,by omega⟩,?_⟩
    refine z7 z14 Tryz.func158 rfl rfl 46 Tryz.ntmps158 (by simp) ?_
    repeat' ((first|(apply y4 ok;rfl)|((apply z6)<;>intro _)|((first|(apply z8 [0] [] cw;rfl;rfl)|(apply z8 [0] [] c0;rfl;rfl)|(apply z8 [0,2] [] c1;rfl;rfl));rfl;(focus ((repeat' first|exact z13|apply z11)<;>first|exact z42 rfl rfl|(refine z19 ?_;((exact z5 fun _=>rfl)))))))<;>conv=>whnf)
    all_goals try (exfalso;omega)
    all_goals (refine rsD [0] [] rfl ?_;(repeat' first|exact y85 _|exact z26|apply y86|apply z38|constructor))
  ·obtain ⟨kd,mk,ck⟩:=z100 bs hb (p+1) (by omega) (by omega) [6,8,7,4,3,5,9] (by decide) (by decide)
   have ca:=z619 kd
   have ham:∃ m:Nat,z339 kd=m∧m≤2:=by
    simp only [List.mem_cons,List.not_mem_nil,or_false] at mk
    unfold z339
    rcases mk with rfl|rfl|rfl|rfl|rfl|rfl|rfl
    all_goals first|exact ⟨2,rfl,by omega⟩|exact ⟨1,rfl,by omega⟩
   obtain ⟨m,em,hm⟩:=ham
   rw [em] at ca
   obtain ⟨ks,pf,hks,hp0,hst,hpf⟩:=z743 (fun k q (t:Tree) q'=>t.sz≤drS n∧CallsA Tryz.prog 158 [.ptr 0 none 0,.int (d - 1)] [rdO bs q] (z20 Tree.cs' t) [rdO bs q']) (p+1+1) (drK n) m (fun k q hk h1 h2=>by
    have:drK n * k≤drK n:=by
     have:k=0∨k=1:=by omega
     rcases this with rfl|rfl<;>simp<;>omega
    obtain ⟨t,q',⟨a1,a2,a3⟩,a4⟩:=ih (d - 1) q (by omega) (by omega) (by omega) (by omega) (by omega)
    exact ⟨t,q',⟨a1,a4⟩,a2,a3⟩)
   have hpm:=hpf m (y52 _)
   have hKm:drK n * m≤2 * drK n:=by
    have:m=0∨m=1∨m=2:=by omega
    rcases this with rfl|rfl|rfl<;>simp<;>omega
   have hsum:(ks.map Tree.sz).sum≤2 * drS n:=by
    have:∀ (l:List Tree),(∀ t∈l,t.sz≤drS n)→(l.map Tree.sz).sum≤l.length * drS n:=by
     intro l
     induction l with
     |nil=>intro _;simp
     |cons t l ih =>
      intro h
      have h1:=h t (by simp)
      have h2:=ih fun u hu=>h u (by simp [hu])
      simp only [List.map_cons,List.sum_cons,y57,Nat.add_mul]
      omega
    have h1:=this ks fun t ht=>by
     obtain ⟨i,hi,rfl⟩:=List.mem_iff_getElem.1 ht
     exact (hst i hi).1
    have h2:ks.length * drS n≤2 * drS n:=Nat.mul_le_mul_right _ (by omega)
    omega
   refine ⟨.mk kd 0 ks,pf m,⟨by rw [z249];omega,by omega,by omega⟩,?_⟩
   refine z7 z14 Tryz.func158 rfl rfl 46 Tryz.ntmps158 (by simp) ?_
   rw [← hp0] at ck
   repeat' ((first|(apply y4 ok;rfl)|((apply z6)<;>intro _)|(apply z4 (ca);rfl;rfl)|((first|(apply z8 [0] [] cw;rfl;rfl)|(apply z8 [0,2] [] ck;rfl;rfl));rfl;(focus ((repeat' first|exact z13|apply z11)<;>first|exact z42 rfl rfl|(refine z19 ?_;((exact z5 fun _=>rfl)))))))<;>conv=>whnf)
   all_goals try (exfalso;omega)
   refine y84 (y87 3 rfl) ?_
   refine z64 (fun k:Nat=>([(0,.ptr 0 none 0),(1,.int d),(4,.ptr 1 none 0),(6,.ptr 2 none 0),(7,.int (m - k))],[rdO bs (pf k),.cells 3 [[.int 0,.int 0,.nils]],.cells 3 [[.int kd,.int 0,.sref 3 0 k]],.cells 3 ((ks.take k).map Tree.cs')])) (fun k=>k≤m) (fun k=>m - k) 0 (by omega) (by refine swR [0,1,3,4] [] rfl rfl ?_;(repeat' first|exact y85 _|exact z49|apply y86|refine z10 rfl (z30) ?_|constructor)) ?_
   intro k hk
   by_cases hkm:k < m
   ·have hc:=(hst k (by omega)).2
    have hkl:k < ks.length:=by omega
    rw [y16] at hc
    repeat' ((first|(apply y4 ok;rfl)|(apply z23;kernel_rfl)|(apply y43;first|(unfold inI;omega)|((try dsimp only);simp only [y49,y48,y47,y46,y57,y58];omega)|exact ⟨rfl,z21 rfl z31⟩)|((apply z6)<;>intro _)|(apply z55 [0] [] hc;rfl;rfl;rfl))<;>conv=>whnf)
    all_goals try (exfalso;omega)
    refine z27 (k+1) (by omega) (by omega) (by refine swR [0,1,2,5] [] rfl rfl ?_;(repeat' first|exact y85 _|exact z276|(refine z224 ?_;omega)|apply y86|((refine z43 rfl ?_ ?_);(focus ((repeat' (first|exact z5 (fun _=>rfl)|apply z28));done)))|refine z313 (by omega) (by omega) ?_|(apply z63;rfl)|constructor))
   ·have:k=m:=by omega
    subst this
    repeat' ((first|(apply y4 ok;rfl)|(apply y43;omega)|((apply z6)<;>intro _))<;>conv=>whnf)
    all_goals try (exfalso;omega)
    all_goals (refine rsD [0] [3] rfl ?_;(repeat' first|exact y85 _|(refine z548 ?_;omega)|apply y86|((apply z36 rfl rfl rfl);(focus ((repeat ((exact z24 (fun _=>rfl) _)));done));(focus (((simp;omega));done)))|apply z38|constructor))
theorem z779 (bs:List Int) (hb:BytesOk bs) (p:Int) (hp:few p):∃ (t:Tree) (p' : Int),(t.sz≤20∧p≤p'∧p'≤p+100)∧CallsA Tryz.prog 94 [.ptr 0 none 0] [rdO bs p] (z20 Tree.cs' t) [rdO bs p']:=by
 obtain ⟨d,md,cd⟩:=z100 bs hb p (by omega) (by omega) [3,2,3,4] (by decide) (by decide)
 have hd:0≤d∧d≤4:=by simp at md;omega
 obtain ⟨t,q,⟨t1,t2,t3⟩,ct⟩:=z884 bs hb 3 d (p+1) (by omega) (by omega) (by omega) (by omega) (by simp only [drK];omega)
 simp only [drK] at t3
 simp only [drS] at t1
 have cv:=z141 t (z85 t (by unfold maxLen;omega))
 by_cases hv:t.exprB=true
 ·refine ⟨t,q,⟨by omega,by omega,by omega⟩,?_⟩
  rw [hv] at cv
  rw [y16] at *
  refine z7 z14 Tryz.func94 rfl rfl 15 Tryz.ntmps94 (by simp) ?_
  repeat' ((first|(apply y4 ok;rfl)|(apply z4 (cv);rfl;rfl)|((first|(apply z8 [0,2] [] cd;rfl;rfl)|(apply z8 [0] [] ct;rfl;rfl));rfl;(focus ((repeat' first|exact z13|apply z11)<;>first|exact z42 rfl rfl|(refine z19 ?_;((exact z5 fun _=>rfl)))))))<;>conv=>whnf)
  all_goals (refine rsD [0] [] rfl ?_;(repeat' first|exact y85 _|apply y86|constructor))
 ·obtain ⟨w,⟨lw,uw⟩,cw⟩:=z79 bs hb q 3 (by omega) (by omega) (by omega)
  refine ⟨leaf 2 w,q+1,⟨by rw [z86];omega,by omega,by omega⟩,?_⟩
  rw [(y71 _).mp hv] at cv
  rw [y16] at cv ct
  refine z7 z14 Tryz.func94 rfl rfl 15 Tryz.ntmps94 (by simp) ?_
  repeat' ((first|(apply y4 ok;rfl)|(apply z4 (cv);rfl;rfl)|((first|(apply z8 [0,2] [] cd;rfl;rfl)|(apply z8 [0] [] ct;rfl;rfl)|(apply z8 [0] [] cw;rfl;rfl));rfl;(focus ((repeat' first|exact z13|apply z11)<;>first|exact z42 rfl rfl|(refine z19 ?_;((exact z5 fun _=>rfl)))))))<;>conv=>whnf)
  all_goals (refine rsD [0] [] rfl ?_;(repeat' first|exact y85 _|exact z26|apply y86|apply z38|constructor))
mutual
def subZ (t:Tree):Tree:=match t with
 |.mk k v l=>if k=2∧v=-1 then .mk 0 0 [] else .mk k v (z1083 l)
def z1083 (l:List Tree):List Tree:=match l with
 |[]=>[]
 |t::r=>subZ t::z1083 r
end
theorem z930 (l:List Tree):z1083 l=l.map subZ:=by
 induction l with
 |nil=>simp [z1083]
 |cons t l ih=>simp [z1083,ih]
theorem z842 (t:Tree):(subZ t).sz≤t.sz:=by
 induction t using y28 with|h t ih=>?_
 cases t with
 |mk k v l =>
  rw [subZ]
  split
  ·rw [z249];simp
  ·rw [z930,z249,z249]
   simp only [Tree.kids] at ih
   have key:∀ l:List Tree,(∀ u∈l,(subZ u).sz≤u.sz)→((l.map subZ).map Tree.sz).sum≤(l.map Tree.sz).sum:=by
    intro l
    induction l with
    |nil=>intro _;simp
    |cons t l ihl =>
     intro ih
     have h1:=ih t (by simp)
     have h2:=ihl fun u hu=>ih u (by simp [hu])
     simp only [List.map_cons,List.sum_cons]
     omega
   have:=key l ih
   simp only [y49]
   omega
def z714:AC:=.agg [.int 0,.int 0,.nils]
def ownT (t:Tree):AC:=.agg [.int t.kind,.int t.val,.sref 0 0 t.kids.length]
theorem z978:CallsA Tryz.prog 155 [z714,.int (-1),z714] [] (ownT (.mk 0 0 [])) [.cells 3 []]:=by
 refine z7 z14 Tryz.func155 rfl rfl 47 Tryz.ntmps155 (by simp) ?_
 repeat' (((apply y4 ok;rfl))<;>conv=>whnf)
 refine z108 (fun _:Nat=>([(6,.ptr 0 none 0),(7,.ptr 1 none 0),(8,.int 0),(3,.ptr 2 none 0)],[.cells 3 [[.int 0,.int 0,.nils]],.cells 3 [[.int 0,.int 0,.nils]],.cells 3 [[.int 0,.int 0,.nils]]])) (fun _=>True) (fun _=>0) 0 trivial ⟨[2,3,0],rfl,by decide,rfl,by repeat' (first|exact True.intro|exact ⟨rfl,rfl⟩|apply y43),by repeat' (first|exact True.intro|exact z22 rfl rfl|apply y43)⟩ ?_
 intro k hk
 repeat' (((apply y4 ok;rfl))<;>conv=>whnf)
 all_goals (refine rsL [] [] rfl ?_;refine y88 3 ?_;refine y12 ?_ ?_<;>(repeat' first|exact y85 _|exact z49|apply z38|apply ObjLe.mk|constructor))
theorem z221 {f:FuncId} {args:List AC} {t:Tree} (h:CallsA Tryz.prog f args [] (ownT t) [.cells 3 (t.kids.map Tree.cs')]):CallsA Tryz.prog f args [] (z20 Tree.cs' t) []:=by
 rw [y16]
 exact (by refine y5 (h) [] [0] rfl rfl rfl ?_ ?_<;>(repeat' first|exact y85 _|((apply z36 rfl rfl rfl);(focus ((repeat ((exact z24 (fun _=>rfl) _)));done));(focus (((simp;done));done)))|apply z38|constructor))
theorem z546 (t:Tree) (h:t.sz≤1000000):CallsA Tryz.prog 155 [z20 Tree.cs' t,.int (-1),z714] [] (ownT (subZ t)) [.cells 3 ((subZ t).kids.map Tree.cs')]:=by
 induction t using y28 with|h t ih=>?_
 have hkl:t.kids.length≤1000000:=by rw [y38] at h;omega
 have hks:∀ u∈t.kids,u.sz≤1000000:=fun u hu=>by
  have:=z348 Tree.sz hu
  rw [y38] at h;omega
 rw [y16 t]
 obtain ⟨k,v,l⟩:=t
 simp only [Tree.kind,Tree.val,Tree.kids] at *
 rw [subZ]
 by_cases hz:k=2∧v=-1
 ·obtain ⟨rfl,rfl⟩:=hz
  rw [if_pos ⟨rfl,rfl⟩]
  have c:=z978
  unfold z714 ownT at *
  refine z7 z14 Tryz.func155 rfl rfl 47 Tryz.ntmps155 (by simp) ?_
  repeat' ((first|(apply y4 ok;rfl)|(apply z8 [] [3] c;rfl;rfl;rfl;(focus ((repeat' first|exact z13|apply z11)<;>(refine z19 ?_;(exact z30))))))<;>conv=>whnf)
  all_goals (refine rsD [3] [] rfl ?_;(repeat' first|exact y85 _|refine z10 rfl (z30) ?_|constructor))
 ·rw [if_neg hz,z930]
  have hcs:∀ (i:Nat) (hi:i < l.length) (hi2:i < (l.map subZ).length),CallsA Tryz.prog 155 [z20 Tree.cs' l[i],.int (-1),z714] [] (z20 Tree.cs' (l.map subZ)[i]) []:=fun i hi hi2=>by
   rw [List.getElem_map]
   exact z221 (ih _ (y44 _) (hks _ (y44 _)))
  have hll:(l.map subZ).length=l.length:=y49 ..
  generalize l.map subZ=L at *
  unfold z714 ownT at *
  simp only [Tree.kind,Tree.val,Tree.kids] at *
  rw [hll]
  refine z7 z14 Tryz.func155 rfl rfl 47 Tryz.ntmps155 (by simp) ?_
  by_cases h2:k=2
  all_goals
   repeat' ((first|(apply y4 ok;rfl)|((apply z6)<;>intro _))<;>conv=>whnf)
   all_goals try (exfalso;omega)
   refine y84 (y87 3 rfl) ?_
   refine z64 (fun i:Nat=>([(1,.int (-1)),(3,.ptr 0 none 0),(5,.ptr 1 none 0),(6,.ptr 2 none 0),(7,.ptr 3 none 0),(8,.int i)],[.cells 3 [[.int k,.int v,lst 3 Tree.cs' l]],.cells 3 [[.int 0,.int 0,.nils]],.cells 3 [[.int 0,.int 0,.nils]],.cells 3 [[.int k,.int v,.sref 4 0 i]],.cells 3 ((L.take i).map Tree.cs')])) (fun i=>i≤l.length) (fun i=>l.length - i) 0 (by omega) (by refine swR [0,1,2,3,4] [] rfl rfl ?_;(repeat' first|exact y85 _|exact z49|apply y86|refine z10 rfl (z30) ?_|constructor)) ?_
   intro i hi
   by_cases hil:i < l.length
   ·have hiL:i < L.length:=by omega
    have hc:=hcs i hil hiL
    repeat' ((first|(apply y4 ok;rfl)|(apply z23;kernel_rfl)|(apply y43;first|omega|(unfold inI;omega)|((try dsimp only);simp only [y49,y48,y47,y46,y57,y58];omega)|exact ⟨rfl,z21 rfl z31⟩)|(((with_reducible apply z9;omega));intro _)|((apply z6)<;>intro _)|(apply z4 (hc);rfl;rfl))<;>conv=>whnf)
    all_goals try (exfalso;omega)
    refine z27 (i+1) (by omega) (by omega) (by refine swR [0,1,2,3,6] [] rfl rfl ?_;(repeat' first|exact y85 _|apply y86|((refine z43 rfl ?_ ?_);(focus ((repeat' (first|exact z5 (fun _=>rfl)|apply z28));done)))|refine z313 (by omega) (by omega) ?_|constructor))
   ·have e:i=l.length:=by omega
    subst e
    rw [y56 (show L.length≤l.length by omega)]
    repeat' ((first|(apply y4 ok;rfl)|(apply y43;omega)|(((with_reducible apply z9;omega));intro _)|((apply z6)<;>intro _))<;>conv=>whnf)
    all_goals try (exfalso;omega)
    all_goals (refine rsD [4] [] rfl ?_;(repeat' first|exact y85 _|exact z12 _|refine z10 rfl (z5 (fun _=>rfl)) ?_|constructor))
theorem z618 (t:Tree) (h:t.sz≤1000000):CallsA Tryz.prog 155 [z20 Tree.cs' t,.int (-1),z714] [] (z20 Tree.cs' (subZ t)) []:=z221 (z546 t h)
theorem z1098 {w n n2:Nat} {α:Type} {f:α→List AC} {l:List α} {x:α} {e:List AC} (hn:n=l.length) (h2:n2=l.length+1) (h:F2 LocLe e (f x)):LocLe (.list w n2 (((l.map f).take n)++[e])) (.list w (l++[x]).length ((l++[x]).map f)):=by
 subst hn
 refine z63 (by simp [h2]) ?_
 rw [y56 (by simp),y63]
 have:∀ (a:List (List AC)) {b c:List AC},F2 LocLe b c→F2 (F2 LocLe) (a++[b]) (a++[c]):=fun a b c h=>by
  induction a with
  |nil=>exact .cons h .nil
  |cons x a ih=>exact .cons (z442 x) ih
 exact this _ h
theorem z739 {n n2:Nat} {l:List Tree} {x:Tree} {e:List AC} (hn:n=l.length) (h2:n2=l.length+1) (h:F2 LocLe e (Tree.cs' x)):LocLe (.list 3 n2 (((l.map Tree.cs').take n)++[e])) (.list 3 (l++[x]).length ((l++[x]).map Tree.cs)):=by
 rw [y19];exact z1098 hn h2 h
set_option maxHeartbeats 1600000 in
theorem z357 (bs:List Int) (hb:BytesOk bs) (p:Int) (hp:few p) (t:Tree) (ht:t.sz≤1000):∃ (t' : Tree) (p' : Int),(t'.sz≤t.sz+1∧p≤p'∧p'≤p+2)∧CallsA Tryz.prog 89 [.ptr 0 none 0,z20 Tree.cs' t] [rdO bs p] (z20 Tree.cs' t') [rdO bs p']:=by
 have cs:=z546 t (by omega)
 have hsz:=z842 t
 generalize subZ t=u at *
 have hul:u.kids.length≤1000:=by rw [y38] at hsz;omega
 obtain ⟨v,⟨lv,uv⟩,cv⟩:=z79 bs hb p 40 (by omega) (by omega) (by omega)
 rw [y16 t]
 rw [y16 t] at cs
 unfold ownT z714 at cs
 by_cases h0:v=0
 ·subst h0
  obtain ⟨k,mk,ck⟩:=z100 bs hb (p+1) (by omega) (by omega) [0,10,-1,1,2,3,4] (by decide) (by decide)
  refine ⟨.mk k u.val u.kids,p+1+1,⟨by rw [z249];rw [y38] at hsz;omega,by omega,by omega⟩,?_⟩
  refine z7 z14 Tryz.func89 rfl rfl 35 Tryz.ntmps89 (by simp) ?_
  repeat' ((first|(apply y4 ok;rfl)|((first|(apply z8 [] [3] cs;rfl;rfl)|(apply z8 [0] [] cv;rfl;rfl)|(apply z8 [0,5] [] ck;rfl;rfl));rfl;(focus ((repeat' first|exact z13|apply z11)<;>first|exact z42 rfl rfl|(refine z19 ?_;((exact z5 fun _=>rfl)))))))<;>conv=>whnf)
  all_goals (refine rsD [0] [3] rfl ?_;(repeat' first|exact y85 _|exact z276|apply y86|((apply z36 rfl rfl rfl);(focus ((repeat ((exact z24 (fun _=>rfl) _)));done));(focus (((simp;done));done)))|apply z38|(apply z63;rfl)|constructor))
 by_cases h1:v=1
 ·subst h1
  obtain ⟨k,mk,ck⟩:=z100 bs hb (p+1) (by omega) (by omega) [-1,4,3,9223372036854775807] (by decide) (by decide)
  refine ⟨.mk u.kind k u.kids,p+1+1,⟨by rw [z249];rw [y38] at hsz;omega,by omega,by omega⟩,?_⟩
  refine z7 z14 Tryz.func89 rfl rfl 35 Tryz.ntmps89 (by simp) ?_
  repeat' ((first|(apply y4 ok;rfl)|((first|(apply z8 [] [3] cs;rfl;rfl)|(apply z8 [0] [] cv;rfl;rfl)|(apply z8 [0,5] [] ck;rfl;rfl));rfl;(focus ((repeat' first|exact z13|apply z11)<;>first|exact z42 rfl rfl|(refine z19 ?_;((exact z5 fun _=>rfl)))))))<;>conv=>whnf)
  all_goals (refine rsD [0] [3] rfl ?_;(repeat' first|exact y85 _|exact z276|apply y86|((apply z36 rfl rfl rfl);(focus ((repeat ((exact z24 (fun _=>rfl) _)));done));(focus (((simp;done));done)))|apply z38|(apply z63;rfl)|constructor))
 by_cases h2:v=2
 ·subst h2
  refine ⟨.mk u.kind u.val (u.kids++[leaf 1 0]),p+1,⟨by rw [z249];rw [y38] at hsz;simp [z86];omega,by omega,by omega⟩,?_⟩
  refine z7 z14 Tryz.func89 rfl rfl 35 Tryz.ntmps89 (by simp) ?_
  repeat' ((first|(apply y4 ok;rfl)|(apply y43;first|((try dsimp only);simp only [y49,y48,y47,y46,y57,y58];omega)|exact ⟨rfl,z21 rfl z31⟩)|((first|(apply z8 [] [3] cs;rfl;rfl)|(apply z8 [0] [] cv;rfl;rfl));rfl;(focus ((repeat' first|exact z13|apply z11)<;>first|exact z42 rfl rfl|(refine z19 ?_;((exact z5 fun _=>rfl)))))))<;>conv=>whnf)
  all_goals (refine rsD [0] [6] rfl ?_;(repeat' first|exact y85 _|apply y86|((apply z36 rfl rfl rfl);(focus ((repeat (first|exact z24 (fun _=>rfl) _|apply z151|apply z188|rfl));done));(focus (((simp;done));done)))|apply z38|constructor))
  all_goals exact z739 rfl rfl (node_le' z26)
 by_cases h3:v=3
 ·subst h3
  refine ⟨leaf 0 0,p+1,⟨by rw [z86];omega,by omega,by omega⟩,?_⟩
  refine z7 z14 Tryz.func89 rfl rfl 35 Tryz.ntmps89 (by simp) ?_
  repeat' ((first|(apply y4 ok;rfl)|((first|(apply z8 [] [3] cs;rfl;rfl)|(apply z8 [0] [] cv;rfl;rfl));rfl;(focus ((repeat' first|exact z13|apply z11)<;>first|exact z42 rfl rfl|(refine z19 ?_;((exact z5 fun _=>rfl)))))))<;>conv=>whnf)
  all_goals (refine rsD [0] [] rfl ?_;(repeat' first|exact y85 _|exact z26|apply y86|apply z38|constructor))
 ·refine ⟨.mk u.kind u.val u.kids,p+1,⟨by rw [z249];rw [y38] at hsz;omega,by omega,by omega⟩,?_⟩
  refine z7 z14 Tryz.func89 rfl rfl 35 Tryz.ntmps89 (by simp) ?_
  repeat' ((first|(apply y4 ok;rfl)|(apply y43;omega)|((apply z6)<;>intro _)|((first|(apply z8 [] [3] cs;rfl;rfl)|(apply z8 [0] [] cv;rfl;rfl));rfl;(focus ((repeat' first|exact z13|apply z11)<;>first|exact z42 rfl rfl|(refine z19 ?_;((exact z5 fun _=>rfl)))))))<;>conv=>whnf)
  all_goals try (exfalso;omega)
  all_goals (refine rsD [0] [3] rfl ?_;(repeat' first|exact y85 _|exact z276|apply y86|((apply z36 rfl rfl rfl);(focus ((repeat ((exact z24 (fun _=>rfl) _)));done));(focus (((simp;done));done)))|apply z38|(apply z63;rfl)|constructor))
theorem len3 {α:Type} {l:List α} (h:l.length=3):∃ a b c,l=[a,b,c]:=by
 match l,h with
 |[a,b,c],_=>exact ⟨a,b,c,rfl⟩
set_option maxHeartbeats 3200000 in
theorem z769 (bs:List Int) (hb:BytesOk bs) (p:Int) (hp:few1 p):∃ (M:List Tree) (n:Nat) (p' : Int),(n≤M.length∧M.length=3∧(∀ t∈M,t.sz≤5)∧p≤p'∧p'≤p+30)∧CallsA Tryz.prog 35 [.ptr 0 none 0] [rdO bs p] (.sref 1 0 n) [rdO bs p',.cells 3 (M.map Tree.cs')]:=by
 obtain ⟨M,pf,hM,hp0,hst,hpf⟩:=z743 (fun _ q (t' : Tree) q'=>t'.sz≤3∧∃ t q1,CallsA Tryz.prog 87 [.ptr 0 none 0] [rdO bs q] (z20 Tree.cs' t) [rdO bs q1]∧((t.kind=1∧∃ w,t'=leaf 2 w∧q'=q1+1∧CallsA Tryz.prog 88 [.ptr 0 none 0,.int 3] [rdO bs q1] (.int w) [rdO bs (q1+1)])∨(t.kind≠1∧t'=t∧q'=q1))) p 6 3 (fun k q hk h1 h2=>by
  obtain ⟨t,q1,⟨a1,a2,a3⟩,ct⟩:=z617 bs hb q ⟨by omega,by omega⟩
  by_cases ht:t.kind=1
  ·obtain ⟨w,⟨lw,uw⟩,cw⟩:=z79 bs hb q1 3 (by omega) (by omega) (by omega)
   exact ⟨leaf 2 w,q1+1,⟨by rw [z86];omega,t,q1,ct,.inl ⟨ht,w,rfl,rfl,cw⟩⟩,by omega,by omega⟩
  ·exact ⟨t,q1,⟨a1,t,q1,ct,.inr ⟨ht,rfl,rfl⟩⟩,by omega,by omega⟩)
 have hMs:∀ t∈M,t.sz≤3:=fun t ht=>by
  obtain ⟨i,hi,rfl⟩:=List.mem_iff_getElem.1 ht
  exact (hst i hi).1
 have hp3:=hpf 3 (y52 _)
 obtain ⟨v,⟨lv,uv⟩,cv⟩:=z79 bs hb (pf 3) 40 (by omega) (by omega) (by omega)
 have key:∀ (M' : List Tree) (n:Nat) (p' : Int),(v=0→n=2∧M'=M∧p'=pf 3+1)→(v≠0→v≠1→n=3∧M'=M∧p'=pf 3+1)→(v=1→n=3∧∃ a b c u w q1,M=[a,b,c]∧M'=[a,w,c]∧CallsA Tryz.prog 89 [.ptr 0 none 0,z20 Tree.cs' b] [rdO bs (pf 3+1)] (z20 Tree.cs' u) [rdO bs q1]∧CallsA Tryz.prog 89 [.ptr 0 none 0,z20 Tree.cs' u] [rdO bs q1] (z20 Tree.cs' w) [rdO bs p'])→CallsA Tryz.prog 35 [.ptr 0 none 0] [rdO bs p] (.sref 1 0 n) [rdO bs p',.cells 3 (M'.map Tree.cs')]:=by
  intro M' n p' k0 k2 k1
  refine z7 z14 Tryz.func35 rfl rfl 41 Tryz.ntmps35 (by simp) ?_
  repeat' (((apply y4 ok;rfl))<;>conv=>whnf)
  rw [← hp0]
  refine z64 (fun i:Nat=>([(0,.ptr 0 none 0),(3,.sref 1 0 i),(4,.int i)],[rdO bs (pf i),.cells 3 ((M.take i).map Tree.cs')])) (fun i=>i≤3) (fun i=>3 - i) 0 (by omega) (by refine swR [0,1] [] rfl rfl ?_;(repeat' first|exact y85 _|apply y86|refine z10 rfl (z30) ?_|constructor)) ?_
  intro i hi
  by_cases hil:i < 3
  ·obtain ⟨a1,t,q1,ct,ht⟩:=hst i (by omega)
   have hiM:i < M.length:=by omega
   rw [y16 t] at ct
   rcases ht with ⟨h1,w,h2,h3,cw⟩|⟨h1,h2,h3⟩
   ·repeat' ((first|(apply y4 ok;rfl)|(apply y43;first|omega|(unfold inI;omega)|((try dsimp only);simp only [y49,y48,y47,y46,y57,y58];omega)|exact ⟨rfl,z21 rfl z31⟩)|((apply z6)<;>intro _)|((first|(apply z55 [0] [] ct;rfl;rfl)|(apply z55 [0] [] cw;rfl;rfl));rfl))<;>conv=>whnf)
    all_goals try (exfalso;omega)
    have e1:M[i].kind=2:=by rw [h2];rfl
    have e2:M[i].val=w:=by rw [h2];rfl
    have e3:M[i].kids=[]:=by rw [h2];rfl
    all_goals refine z27 (i+1) (by omega) (by omega) (by refine swR [0,4] [] rfl rfl ?_;(repeat' first|exact y85 _|(refine nils_of ?_;assumption)|(refine z224 ?_;omega)|apply y86|((refine z43 rfl ?_ ?_);(focus ((repeat' (first|exact z5 (fun _=>rfl)|apply z28));done)))|refine z313 (by omega) (by omega) ?_|constructor))
   ·subst h2
    repeat' ((first|(apply y4 ok;rfl)|(apply y43;first|(unfold inI;omega)|((try dsimp only);simp only [y49,y48,y47,y46,y57,y58];omega)|exact ⟨rfl,z21 rfl z31⟩)|((apply z6)<;>intro _)|(apply z55 [0] [] ct;rfl;rfl;rfl))<;>conv=>whnf)
    all_goals try (exfalso;omega)
    all_goals refine z27 (i+1) (by omega) (by omega) (by refine swR [0,4] [] rfl rfl ?_;(repeat' first|exact y85 _|exact z276|(refine z224 ?_;omega)|apply y86|((refine z43 rfl ?_ ?_);(focus ((repeat' (first|exact z5 (fun _=>rfl)|apply z28));done)))|refine z313 (by omega) (by omega) ?_|(apply z63;rfl)|constructor))
  ·have:i=3:=by omega
   subst this
   obtain ⟨a,b,c,rfl⟩:=len3 hM
   by_cases h0:v=0
   ·obtain ⟨rfl,rfl,rfl⟩:=k0 h0
    subst h0
    repeat' ((first|(apply y4 ok;rfl)|(apply y43;omega)|(apply z55 [0] [] cv;rfl;rfl;rfl))<;>conv=>whnf)
    all_goals (refine rsD [0,1] [] rfl ?_;(repeat' first|exact y85 _|apply y86|refine z10 rfl (z5 (fun _=>rfl)) ?_|constructor))
   by_cases h1:v=1
   ·obtain ⟨rfl,a',b',c',u,w,q1,e,rfl,c1,c2⟩:=k1 h1
    simp only [List.cons.injEq,and_true] at e
    obtain ⟨rfl,rfl,rfl⟩:=e
    subst h1
    rw [y16 u] at c1 c2
    rw [y16 w] at c2
    repeat' ((first|(apply y4 ok;rfl)|(apply y43;omega)|apply z363|((first|(apply z55 [0] [] cv;rfl;rfl)|(apply z55 [0] [] c1;rfl;rfl)|(apply z55 [0] [] c2;rfl;rfl));rfl))<;>conv=>whnf)
    all_goals (refine rsD [0,1] [] rfl ?_;(repeat' first|exact y85 _|exact z276|apply y86|refine z69 rfl (z5 (fun _=>rfl)) ?_|(apply z63;rfl)|constructor))
   ·obtain ⟨rfl,rfl,rfl⟩:=k2 h0 h1
    repeat' ((first|(apply y4 ok;rfl)|(apply y43;omega)|(((apply z9;omega));intro _)|((apply z6)<;>intro _)|(apply z55 [0] [] cv;rfl;rfl;rfl))<;>conv=>whnf)
    all_goals try (exfalso;omega)
    all_goals (refine rsD [0,1] [] rfl ?_;(repeat' first|exact y85 _|apply y86|refine z10 rfl (z5 (fun _=>rfl)) ?_|constructor))
 by_cases h1:v=1
 ·obtain ⟨a,b,c,rfl⟩:=len3 hM
  have hb1:=hMs b (by simp)
  obtain ⟨u,q1,⟨b1,b2,b3⟩,c1⟩:=z357 bs hb (pf 3+1) ⟨by omega,by omega⟩ b (by omega)
  obtain ⟨w,q2,⟨d1,d2,d3⟩,c2⟩:=z357 bs hb q1 ⟨by omega,by omega⟩ u (by omega)
  refine ⟨[a,w,c],3,q2,⟨by simp,by simp,fun t ht=>?_,by omega,by omega⟩,key _ _ _ (fun h=>by omega) (fun _ h=>absurd h1 h) fun _=>⟨rfl,a,b,c,u,w,q1,rfl,rfl,c1,c2⟩⟩
  have ha:=hMs a (by simp)
  have hc:=hMs c (by simp)
  simp only [List.mem_cons,List.not_mem_nil,or_false] at ht
  rcases ht with rfl|rfl|rfl<;>omega
 ·by_cases h0:v=0
  ·exact ⟨M,2,pf 3+1,⟨by omega,hM,fun t ht=>by have:=hMs t ht;omega,by omega,by omega⟩,key _ _ _ (fun _=>⟨rfl,rfl,rfl⟩) (fun h=>absurd h0 h) fun h=>absurd h h1⟩
  ·exact ⟨M,3,pf 3+1,⟨by omega,hM,fun t ht=>by have:=hMs t ht;omega,by omega,by omega⟩,key _ _ _ (fun h=>absurd h h0) (fun _ _=>⟨rfl,rfl,rfl⟩) fun h=>absurd h h1⟩
theorem z876 (bs:List Int) (hb:BytesOk bs) (p:Int) (hp:few1 p):∃ (L:List Tree) (p' : Int),(L.length≤3∧(∀ t∈L,t.sz≤5)∧p≤p'∧p'≤p+30)∧CallsA Tryz.prog 35 [.ptr 0 none 0] [rdO bs p] (lst 3 Tree.cs' L) [rdO bs p']:=by
 obtain ⟨M,n,p',⟨h1,h2,h3,h4,h5⟩,c⟩:=z769 bs hb p hp
 refine ⟨M.take n,p',⟨by simp;omega,fun t ht=>h3 t (List.mem_of_mem_take ht),h4,h5⟩,?_⟩
 obtain ⟨a,b,d,rfl⟩:=len3 h2
 have hn:n=0∨n=1∨n=2∨n=3:=by simp at h1;omega
 rcases hn with rfl|rfl|rfl|rfl
 all_goals exact (by refine y5 (c) [0] [1] rfl rfl rfl ?_ ?_<;>(repeat' first|exact y85 _|apply y86|constructor))
theorem Lmx_of {L:List Tree} (h1:L.length≤10) (h2:∀ t∈L,t.sz≤1000):Lmx L:=⟨by unfold maxLen;omega,fun t ht=>z85 t (by have:=h2 t ht;unfold maxLen;omega)⟩
structure State.sm (s:State):Prop where
 a:s.a.length≤100
 b:s.b.length≤100
structure Graph.sm (g:Graph):Prop where
 st:g.st.length≤100
 nx:g.nx.length≤100
 el:∀ s∈g.st,s.sm
 row:∀ r∈g.nx,r.length≤1000
theorem Graph.sm.mx {g:Graph} (h:g.sm):g.mx:=by
 have h1:=h.st
 have h2:=h.nx
 refine ⟨?_,by unfold maxLen;omega,fun l hl=>by have:=h.row l hl;unfold maxLen;omega⟩
 have h3:=h.el
 exact ⟨by unfold maxLen;omega,fun s hs=>⟨by have:=(h3 s hs).a;unfold maxLen;omega,by have:=(h3 s hs).b;unfold maxLen;omega⟩⟩
theorem z775 (g : Graph) (hg : g.sm) (path : List Int) (hp : path.length ≤ 100000) (hin : ∀ x ∈ path, 0 ≤ x ∧ x < g.st.length) (S : List State) (hS : S.length = path.length) (he : ∀ i (h : i < path.length) (h2 : i < S.length), g.st[(path[i]).toNat]? = some S[i]) :
    CallsA Tryz.prog 50 [.agg g.cs,ints path] [] (.sref 0 0 S.length) [.cells 2 (S.map State.cs)]:=by
  refine z7 z14 Tryz.func50 rfl rfl 36 Tryz.ntmps50 (by simp) ?_
  repeat' (((apply y4 ok;rfl))<;>conv=>whnf)
  refine z64 (fun i:Nat=>([(1,ints path),(2,.ptr 0 none 0),(5,.sref 1 0 i),(6,.int i)],[.cells 2 [g.cs],.cells 2 ((S.take i).map State.cs)])) (fun i=>i≤path.length) (fun i=>path.length - i) 0 (by omega) (by refine swR [0,1] [] rfl rfl ?_;(repeat' first|exact y85 _|apply y86|refine z10 rfl (z30) ?_|constructor)) ?_
  intro i hi
  by_cases hip:i < path.length
  · have hl:i < S.length:=by omega
    have hx:=hin path[i] (y44 _)
    have g0:(path.map enI)[i]?=some (enI path[i]):=by rw [y51,y45 hip];rfl
    have g1:=he i hip hl
    have g2:(g.st.map State.cs)[(path[i]).toNat]?=some (State.cs S[i]):=by rw [y51,g1];rfl
    have hs:=hg.el S[i] (List.mem_of_getElem? g1)
    have ha:=hs.a
    have hb:=hs.b
    generalize path[i]=x at *
    repeat' ((first|(apply y4 ok;rfl)|(apply z23;kernel_rfl)|(refine z15 (i:=i) rfl g0 ?_)|(refine z15 (i:=x.toNat) rfl g2 ?_)|(apply y43;first|omega|(unfold inI;omega)|(dsimp only;omega)|((try dsimp only);simp only [y49,y48,y47,y46,y57,y58];omega)|exact z140 (fun _=>rfl)|exact ⟨rfl,z21 rfl z31⟩)|((apply z6)<;>intro _))<;>conv=>whnf)
    all_goals try (exfalso;omega)
    all_goals refine z27 (i+1) (by omega) (by omega) (by refine swR [0,8] [4,6] rfl rfl ?_;(repeat' first|exact y85 _|(refine z395 ?_;omega)|apply y86|((refine z43 rfl ?_ ?_);(focus ((repeat' (first|exact z5 (fun _=>rfl)|apply z28));done)))|refine z313 (by omega) (by omega) ?_|((apply z203 rfl rfl rfl);(focus ((repeat ((exact z24 (fun _=>rfl) _)));done));(focus (((simp;done));done)))|constructor))
  · have e:i=S.length:=by omega
    subst e
    rw [y56 (by omega)]
    repeat' ((first|(apply y4 ok;rfl)|(apply z23;kernel_rfl)|(apply y43;omega)|((first|(with_reducible apply z9;omega)|(with_reducible apply z90;omega));intro _)|((apply z6)<;>intro _))<;>conv=>whnf)
    all_goals try (exfalso;omega)
    all_goals (refine rsD [1] [] rfl ?_;(repeat' first|exact y85 _|exact z12 _|refine z10 rfl (z5 (fun _=>rfl)) ?_|constructor))
theorem snoc_at {α:Type} (a:List α) (x:α) (k:Nat) (h:a.length=k):(a++[x])[k]?=some x:=by subst h;simp
structure Edge where
 fr:Int
 to:Int
 gd:Tree
 var:Int
 val:Tree
 sync:Int
def Edge.cs (e:Edge):List AC:=[.int e.fr,.int e.to,.int e.gd.kind,.int e.gd.val,lst 3 Tree.cs' e.gd.kids,.int e.var,.int e.val.kind,.int e.val.val,lst 3 Tree.cs' e.val.kids,.int e.sync]
structure Proc where
 loc:Int
 es:List Edge
def Proc.cs (p:Proc):List AC:=[.int p.loc,lst 10 Edge.cs p.es]
structure Sys where
 init:List Int
 ps:List Proc
def Sys.cs (s:Sys):List AC:=[ints s.init,lst 2 Proc.cs s.ps]
structure Edge.sm (e:Edge):Prop where
 gd:e.gd.sz≤100
 val:e.val.sz≤100
 var : -1≤e.var∧e.var≤2
 sync : -2≤e.sync∧e.sync≤2
structure Proc.sm (p:Proc):Prop where
 loc:0≤p.loc∧p.loc≤100
 len:p.es.length≤10
 el:∀ e∈p.es,e.sm
structure Sys.sm (s:Sys):Prop where
 init:s.init.length≤10
 len:s.ps.length≤10
 el:∀ p∈s.ps,p.sm
structure Edge.s1 (e:Edge):Prop where
 gd:e.gd.sz≤1000
 val:e.val.sz≤1000
structure Proc.s1 (p:Proc):Prop where
 len:p.es.length≤10
 el:∀ e∈p.es,e.s1
structure Sys.s1 (s:Sys):Prop where
 init:s.init.length≤20
 len:s.ps.length≤20
 el:∀ p∈s.ps,p.s1
theorem Edge.sm.s1 {e:Edge} (h:e.sm):e.s1:=⟨by have:=h.gd;omega,by have:=h.val;omega⟩
theorem Proc.sm.s1 {p:Proc} (h:p.sm):p.s1:=⟨h.len,fun e he=>(h.el e he).s1⟩
theorem Sys.sm.s1 {s:Sys} (h:s.sm):s.s1:=⟨by have:=h.init;omega,by have:=h.len;omega,fun p hp=>(h.el p hp).s1⟩
set_option maxHeartbeats 6400000 in
theorem z681 (bs:List Int) (hb:BytesOk bs) (p:Int) (hp:few1 p) (n:Int) (hn:0≤n∧n≤100):∃ (e:Edge) (p' : Int),(e.sm∧p≤p'∧p'≤p+200)∧CallsA Tryz.prog 95 [.ptr 0 none 0,.int n] [rdO bs p] (.agg e.cs) [rdO bs p']:=by
 obtain ⟨a,⟨la,ua⟩,ca⟩:=z79 bs hb p n (by omega) (by omega) (by omega)
 obtain ⟨b,⟨lb,ub⟩,cb⟩:=z79 bs hb (p+1) n (by omega) (by omega) (by omega)
 obtain ⟨gd,q,⟨g1,g2,g3⟩,cg⟩:=z617 bs hb (p+1+1) ⟨by omega,by omega⟩
 obtain ⟨w,⟨lw,uw⟩,cw⟩:=z79 bs hb q 3 (by omega) (by omega) (by omega)
 rw [y16] at cg
 by_cases hw:w=0
 ·subst hw
  obtain ⟨y,⟨ly,uy⟩,cy⟩:=z79 bs hb (q+1) 4 (by omega) (by omega) (by omega)
  by_cases hy:y=0
  ·subst hy
   obtain ⟨s,ms,cs⟩:=z100 bs hb (q+1+1) (by omega) (by omega) [1,-1,1,-1,2,-2] (by decide) (by decide)
   refine ⟨⟨a,b,gd,-1,leaf 0 0,s⟩,q+1+1+1,⟨⟨by show gd.sz≤100;omega,by (rw [z86];omega),by show -1≤(-1:Int)∧(-1:Int)≤2;omega,by simp at ms;show -2≤s∧s≤2;omega⟩,by omega,by omega⟩,?_⟩
   refine z7 z14 Tryz.func95 rfl rfl 61 Tryz.ntmps95 (by simp) ?_
   repeat' ((first|(apply y4 ok;rfl)|((first|(apply z8 [0] [] ca;rfl;rfl)|(apply z8 [0] [] cb;rfl;rfl)|(apply z8 [0] [] cg;rfl;rfl)|(apply z8 [0] [] cw;rfl;rfl)|(apply z8 [0] [] cy;rfl;rfl)|(apply z8 [0,3] [] cs;rfl;rfl));rfl;(focus ((repeat' first|exact z13|apply z11)<;>first|exact z42 rfl rfl|(refine z19 ?_;((exact z5 fun _=>rfl)))))))<;>conv=>whnf)
   all_goals (refine rsD [0] [] rfl ?_;(repeat' first|exact y85 _|exact z26|apply y86|apply z38|constructor))
  ·refine ⟨⟨a,b,gd,-1,leaf 0 0,0⟩,q+1+1,⟨⟨by show gd.sz≤100;omega,by (rw [z86];omega),by show -1≤(-1:Int)∧(-1:Int)≤2;omega,by show -2≤(0:Int)∧(0:Int)≤2;omega⟩,by omega,by omega⟩,?_⟩
   refine z7 z14 Tryz.func95 rfl rfl 61 Tryz.ntmps95 (by simp) ?_
   repeat' ((first|(apply y4 ok;rfl)|((apply z6)<;>intro _)|((first|(apply z55 [0] [] ca;rfl;rfl)|(apply z55 [0] [] cb;rfl;rfl)|(apply z55 [0] [] cg;rfl;rfl)|(apply z55 [0] [] cw;rfl;rfl)|(apply z55 [0] [] cy;rfl;rfl));rfl))<;>conv=>whnf)
   all_goals try (exfalso;omega)
   all_goals (refine rsD [0] [] rfl ?_;(repeat' first|exact y85 _|exact z26|apply y86|apply z38|constructor))
 obtain ⟨x,mx,cx⟩:=z100 bs hb (q+1) (by omega) (by omega) [0,1,0,2] (by decide) (by decide)
 obtain ⟨z,⟨lz,uz⟩,cz⟩:=z79 bs hb (q+1+1) 4 (by omega) (by omega) (by omega)
 by_cases h0:z=0
 ·subst h0
  obtain ⟨k,⟨lk,uk⟩,ck⟩:=z79 bs hb (q+1+1+1) 3 (by omega) (by omega) (by omega)
  obtain ⟨y,⟨ly,uy⟩,cy⟩:=z79 bs hb (q+1+1+1+1) 4 (by omega) (by omega) (by omega)
  by_cases hy:y=0
  ·subst hy
   obtain ⟨s,ms,cs⟩:=z100 bs hb (q+1+1+1+1+1) (by omega) (by omega) [1,-1,1,-1,2,-2] (by decide) (by decide)
   refine ⟨⟨a,b,gd,x,leaf 1 k,s⟩,q+1+1+1+1+1+1,⟨⟨by show gd.sz≤100;omega,by (rw [z86];omega),by simp at mx;show -1≤x∧x≤2;omega,by simp at ms;show -2≤s∧s≤2;omega⟩,by omega,by omega⟩,?_⟩
   refine z7 z14 Tryz.func95 rfl rfl 61 Tryz.ntmps95 (by simp) ?_
   repeat' ((first|(apply y4 ok;rfl)|((apply z6)<;>intro _)|((first|(apply z8 [0] [] ca;rfl;rfl)|(apply z8 [0] [] cb;rfl;rfl)|(apply z8 [0] [] cg;rfl;rfl)|(apply z8 [0] [] cw;rfl;rfl)|(apply z8 [0,3] [] cx;rfl;rfl)|(apply z8 [0] [] cz;rfl;rfl)|(apply z8 [0] [] ck;rfl;rfl)|(apply z8 [0] [] cy;rfl;rfl)|(apply z8 [0,6] [] cs;rfl;rfl));rfl;(focus ((repeat' first|exact z13|apply z11)<;>first|exact z42 rfl rfl|(refine z19 ?_;((exact z5 fun _=>rfl)))))))<;>conv=>whnf)
   all_goals try (exfalso;omega)
   all_goals (refine rsD [0] [] rfl ?_;(repeat' first|exact y85 _|exact z26|apply y86|apply z38|constructor))
  ·refine ⟨⟨a,b,gd,x,leaf 1 k,0⟩,q+1+1+1+1+1,⟨⟨by show gd.sz≤100;omega,by (rw [z86];omega),by simp at mx;show -1≤x∧x≤2;omega,by show -2≤(0:Int)∧(0:Int)≤2;omega⟩,by omega,by omega⟩,?_⟩
   refine z7 z14 Tryz.func95 rfl rfl 61 Tryz.ntmps95 (by simp) ?_
   repeat' ((first|(apply y4 ok;rfl)|((apply z6)<;>intro _)|((first|(apply z8 [0] [] ca;rfl;rfl)|(apply z8 [0] [] cb;rfl;rfl)|(apply z8 [0] [] cg;rfl;rfl)|(apply z8 [0] [] cw;rfl;rfl)|(apply z8 [0,3] [] cx;rfl;rfl)|(apply z8 [0] [] cz;rfl;rfl)|(apply z8 [0] [] ck;rfl;rfl)|(apply z8 [0] [] cy;rfl;rfl));rfl;(focus ((repeat' first|exact z13|apply z11)<;>first|exact z42 rfl rfl|(refine z19 ?_;((exact z5 fun _=>rfl)))))))<;>conv=>whnf)
   all_goals try (exfalso;omega)
   all_goals (refine rsD [0] [] rfl ?_;(repeat' first|exact y85 _|exact z26|apply y86|apply z38|constructor))
 by_cases h1:z=1
 ·subst h1
  obtain ⟨y,⟨ly,uy⟩,cy⟩:=z79 bs hb (q+1+1+1) 4 (by omega) (by omega) (by omega)
  by_cases hy:y=0
  ·subst hy
   obtain ⟨s,ms,cs⟩:=z100 bs hb (q+1+1+1+1) (by omega) (by omega) [1,-1,1,-1,2,-2] (by decide) (by decide)
   refine ⟨⟨a,b,gd,x,.mk 8 0 [leaf 2 x,leaf 1 1],s⟩,q+1+1+1+1+1,⟨⟨by show gd.sz≤100;omega,by (show Tree.sz _≤100;rw [z249];simp [z86]),by simp at mx;show -1≤x∧x≤2;omega,by simp at ms;show -2≤s∧s≤2;omega⟩,by omega,by omega⟩,?_⟩
   refine z7 z14 Tryz.func95 rfl rfl 61 Tryz.ntmps95 (by simp) ?_
   repeat' ((first|(apply y4 ok;rfl)|((apply z6)<;>intro _)|((first|(apply z8 [0] [] ca;rfl;rfl)|(apply z8 [0] [] cb;rfl;rfl)|(apply z8 [0] [] cg;rfl;rfl)|(apply z8 [0] [] cw;rfl;rfl)|(apply z8 [0,3] [] cx;rfl;rfl)|(apply z8 [0] [] cz;rfl;rfl)|(apply z8 [0] [] cy;rfl;rfl)|(apply z8 [0,7] [] cs;rfl;rfl));rfl;(focus ((repeat' first|exact z13|apply z11)<;>first|exact z42 rfl rfl|(refine z19 ?_;((exact z5 fun _=>rfl)))))))<;>conv=>whnf)
   all_goals try (exfalso;omega)
   all_goals (refine rsD [0] [6] rfl ?_;(repeat' first|exact y85 _|exact z26|apply y86|refine z36 rfl rfl rfl rfl rfl ?_|apply z38|(apply z63;rfl)|constructor))
  ·refine ⟨⟨a,b,gd,x,.mk 8 0 [leaf 2 x,leaf 1 1],0⟩,q+1+1+1+1,⟨⟨by show gd.sz≤100;omega,by (show Tree.sz _≤100;rw [z249];simp [z86]),by simp at mx;show -1≤x∧x≤2;omega,by show -2≤(0:Int)∧(0:Int)≤2;omega⟩,by omega,by omega⟩,?_⟩
   refine z7 z14 Tryz.func95 rfl rfl 61 Tryz.ntmps95 (by simp) ?_
   repeat' ((first|(apply y4 ok;rfl)|((apply z6)<;>intro _)|((first|(apply z8 [0] [] ca;rfl;rfl)|(apply z8 [0] [] cb;rfl;rfl)|(apply z8 [0] [] cg;rfl;rfl)|(apply z8 [0] [] cw;rfl;rfl)|(apply z8 [0,3] [] cx;rfl;rfl)|(apply z8 [0] [] cz;rfl;rfl)|(apply z8 [0] [] cy;rfl;rfl));rfl;(focus ((repeat' first|exact z13|apply z11)<;>first|exact z42 rfl rfl|(refine z19 ?_;((exact z5 fun _=>rfl)))))))<;>conv=>whnf)
   all_goals try (exfalso;omega)
   all_goals (refine rsD [0] [6] rfl ?_;(repeat' first|exact y85 _|exact z26|apply y86|refine z36 rfl rfl rfl rfl rfl ?_|apply z38|(apply z63;rfl)|constructor))
 by_cases h2:z=2
 ·subst h2
  obtain ⟨y,⟨ly,uy⟩,cy⟩:=z79 bs hb (q+1+1+1) 4 (by omega) (by omega) (by omega)
  by_cases hy:y=0
  ·subst hy
   obtain ⟨s,ms,cs⟩:=z100 bs hb (q+1+1+1+1) (by omega) (by omega) [1,-1,1,-1,2,-2] (by decide) (by decide)
   refine ⟨⟨a,b,gd,x,.mk 9 0 [leaf 1 1,leaf 2 x],s⟩,q+1+1+1+1+1,⟨⟨by show gd.sz≤100;omega,by (show Tree.sz _≤100;rw [z249];simp [z86]),by simp at mx;show -1≤x∧x≤2;omega,by simp at ms;show -2≤s∧s≤2;omega⟩,by omega,by omega⟩,?_⟩
   refine z7 z14 Tryz.func95 rfl rfl 61 Tryz.ntmps95 (by simp) ?_
   repeat' ((first|(apply y4 ok;rfl)|((apply z6)<;>intro _)|((first|(apply z8 [0] [] ca;rfl;rfl)|(apply z8 [0] [] cb;rfl;rfl)|(apply z8 [0] [] cg;rfl;rfl)|(apply z8 [0] [] cw;rfl;rfl)|(apply z8 [0,3] [] cx;rfl;rfl)|(apply z8 [0] [] cz;rfl;rfl)|(apply z8 [0] [] cy;rfl;rfl)|(apply z8 [0,7] [] cs;rfl;rfl));rfl;(focus ((repeat' first|exact z13|apply z11)<;>first|exact z42 rfl rfl|(refine z19 ?_;((exact z5 fun _=>rfl)))))))<;>conv=>whnf)
   all_goals try (exfalso;omega)
   all_goals (refine rsD [0] [6] rfl ?_;(repeat' first|exact y85 _|exact z26|apply y86|refine z36 rfl rfl rfl rfl rfl ?_|apply z38|(apply z63;rfl)|constructor))
  ·refine ⟨⟨a,b,gd,x,.mk 9 0 [leaf 1 1,leaf 2 x],0⟩,q+1+1+1+1,⟨⟨by show gd.sz≤100;omega,by (show Tree.sz _≤100;rw [z249];simp [z86]),by simp at mx;show -1≤x∧x≤2;omega,by show -2≤(0:Int)∧(0:Int)≤2;omega⟩,by omega,by omega⟩,?_⟩
   refine z7 z14 Tryz.func95 rfl rfl 61 Tryz.ntmps95 (by simp) ?_
   repeat' ((first|(apply y4 ok;rfl)|((apply z6)<;>intro _)|((first|(apply z8 [0] [] ca;rfl;rfl)|(apply z8 [0] [] cb;rfl;rfl)|(apply z8 [0] [] cg;rfl;rfl)|(apply z8 [0] [] cw;rfl;rfl)|(apply z8 [0,3] [] cx;rfl;rfl)|(apply z8 [0] [] cz;rfl;rfl)|(apply z8 [0] [] cy;rfl;rfl));rfl;(focus ((repeat' first|exact z13|apply z11)<;>first|exact z42 rfl rfl|(refine z19 ?_;((exact z5 fun _=>rfl)))))))<;>conv=>whnf)
   all_goals try (exfalso;omega)
   all_goals (refine rsD [0] [6] rfl ?_;(repeat' first|exact y85 _|exact z26|apply y86|refine z36 rfl rfl rfl rfl rfl ?_|apply z38|(apply z63;rfl)|constructor))
 obtain ⟨t,q2,⟨t1,t2,t3⟩,ct⟩:=z779 bs hb (q+1+1+1) ⟨by omega,by omega⟩
 rw [y16] at ct
 obtain ⟨y,⟨ly,uy⟩,cy⟩:=z79 bs hb (q2) 4 (by omega) (by omega) (by omega)
 by_cases hy:y=0
 ·subst hy
  obtain ⟨s,ms,cs⟩:=z100 bs hb (q2+1) (by omega) (by omega) [1,-1,1,-1,2,-2] (by decide) (by decide)
  refine ⟨⟨a,b,gd,x,t,s⟩,q2+1+1,⟨⟨by show gd.sz≤100;omega,by show t.sz≤100;omega,by simp at mx;show -1≤x∧x≤2;omega,by simp at ms;show -2≤s∧s≤2;omega⟩,by omega,by omega⟩,?_⟩
  refine z7 z14 Tryz.func95 rfl rfl 61 Tryz.ntmps95 (by simp) ?_
  repeat' ((first|(apply y4 ok;rfl)|((apply z6)<;>intro _)|((first|(apply z8 [0] [] ca;rfl;rfl)|(apply z8 [0] [] cb;rfl;rfl)|(apply z8 [0] [] cg;rfl;rfl)|(apply z8 [0] [] cw;rfl;rfl)|(apply z8 [0,3] [] cx;rfl;rfl)|(apply z8 [0] [] cz;rfl;rfl)|(apply z8 [0] [] ct;rfl;rfl)|(apply z8 [0] [] cy;rfl;rfl)|(apply z8 [0,6] [] cs;rfl;rfl));rfl;(focus ((repeat' first|exact z13|apply z11)<;>first|exact z42 rfl rfl|(refine z19 ?_;((exact z5 fun _=>rfl)))))))<;>conv=>whnf)
  all_goals try (exfalso;omega)
  all_goals (refine rsD [0] [] rfl ?_;(repeat' first|exact y85 _|apply y86|constructor))
 ·refine ⟨⟨a,b,gd,x,t,0⟩,q2+1,⟨⟨by show gd.sz≤100;omega,by show t.sz≤100;omega,by simp at mx;show -1≤x∧x≤2;omega,by show -2≤(0:Int)∧(0:Int)≤2;omega⟩,by omega,by omega⟩,?_⟩
  refine z7 z14 Tryz.func95 rfl rfl 61 Tryz.ntmps95 (by simp) ?_
  repeat' ((first|(apply y4 ok;rfl)|((apply z6)<;>intro _)|((first|(apply z8 [0] [] ca;rfl;rfl)|(apply z8 [0] [] cb;rfl;rfl)|(apply z8 [0] [] cg;rfl;rfl)|(apply z8 [0] [] cw;rfl;rfl)|(apply z8 [0,3] [] cx;rfl;rfl)|(apply z8 [0] [] cz;rfl;rfl)|(apply z8 [0] [] ct;rfl;rfl)|(apply z8 [0] [] cy;rfl;rfl));rfl;(focus ((repeat' first|exact z13|apply z11)<;>first|exact z42 rfl rfl|(refine z19 ?_;((exact z5 fun _=>rfl)))))))<;>conv=>whnf)
  all_goals try (exfalso;omega)
  all_goals (refine rsD [0] [] rfl ?_;(repeat' first|exact y85 _|apply y86|constructor))
def isProc (bs:List Int) (q:Int) (pr:Proc) (q' : Int):Prop:=pr.sm∧∃ (m:Nat) (pf:Nat→Int),
 CallsA Tryz.prog 91 [.ptr 0 none 0,.sref 1 0 4] [rdO bs q,.cells 1 ([2,3,1,2].map enI)] (.int pr.loc) [rdO bs (q+1),.cells 1 ([2,3,1,2].map enI)] ∧
 CallsA Tryz.prog 91 [.ptr 0 none 0,.sref 1 0 5] [rdO bs (q+1),.cells 1 ([3,4,2,5,1].map enI)] (.int m) [rdO bs (q+1+1),.cells 1 ([3,4,2,5,1].map enI)] ∧
 m≤5∧pr.es.length=m∧pf 0=q+1+1∧pf m=q'∧∀ k (h:k < pr.es.length),CallsA Tryz.prog 95 [.ptr 0 none 0,.int pr.loc] [rdO bs (pf k)] (.agg pr.es[k].cs) [rdO bs (pf (k+1))]
theorem proc_ex (bs:List Int) (hb:BytesOk bs) (q:Int) (hq:0≤q∧q≤999980000):∃ pr q',isProc bs q pr q'∧q≤q'∧q'≤q+1010:=by
 obtain ⟨v,mv,cv⟩:=z100 bs hb q (by omega) (by omega) [2,3,1,2] (by decide) (by decide)
 obtain ⟨w,mw,cw⟩:=z100 bs hb (q+1) (by omega) (by omega) [3,4,2,5,1] (by decide) (by decide)
 simp only [List.mem_cons,List.not_mem_nil,or_false] at mv mw
 obtain ⟨m,rfl⟩:∃ m:Nat,w=m:=⟨w.toNat,by omega⟩
 obtain ⟨es,pf,h1,h2,h3,h4⟩:=z743 (fun _ r (e:Edge) r'=>e.sm∧CallsA Tryz.prog 95 [.ptr 0 none 0,.int v] [rdO bs r] (.agg e.cs) [rdO bs r']) (q+1+1) 200 m (fun k r hk a1 a2=>by
  obtain ⟨e,r',⟨b1,b2,b3⟩,c⟩:=z681 bs hb r ⟨by omega,by omega⟩ v (by omega)
  exact ⟨e,r',⟨b1,c⟩,b2,b3⟩)
 have h5:=h4 m (y52 _)
 refine ⟨⟨v,es⟩,pf m,⟨⟨by show 0≤v∧v≤100;omega,by show es.length≤10;omega,fun e he=>?_⟩,m,pf,cv,cw,by omega,h1,h2,rfl,fun k h=>(h3 k h).2⟩,by omega,by omega⟩
 obtain ⟨i,hi,rfl⟩:=List.mem_iff_getElem.1 he
 exact (h3 i hi).1
set_option maxHeartbeats 6400000 in
theorem z882 (bs:List Int) (hb:BytesOk bs) (p:Int) (hp:few2 p):∃ (s:Sys) (p' : Int),(s.sm∧p≤p'∧p'≤p+4000)∧CallsA Tryz.prog 39 [.ptr 0 none 0] [rdO bs p] (.agg s.cs) [rdO bs p']:=by
 obtain ⟨a,⟨la,ua⟩,ca⟩:=z79 bs hb p 2 (by omega) (by omega) (by omega)
 obtain ⟨b,mb,cb⟩:=z100 bs hb (p+1) (by omega) (by omega) [0,0,1,3] (by decide) (by decide)
 obtain ⟨w,mw,cw⟩:=z100 bs hb (p+1+1) (by omega) (by omega) [2,1,2,3] (by decide) (by decide)
 simp only [List.mem_cons,List.not_mem_nil,or_false] at mw
 obtain ⟨m,rfl⟩:∃ m:Nat,w=m:=⟨w.toNat,by omega⟩
 obtain ⟨ps,pf,h1,h2,h3,h4⟩:=z743 (fun _ q pr q'=>isProc bs q pr q') (p+1+1+1) 1010 m (fun k r hk a1 a2=>proc_ex bs hb r (by omega))
 have h5:=h4 m (y52 _)
 refine ⟨⟨[a,b,0],ps⟩,pf m,⟨⟨by simp,by show ps.length≤10;omega,fun e he=>?_⟩,by omega,by omega⟩,?_⟩
 ·obtain ⟨i,hi,rfl⟩:=List.mem_iff_getElem.1 he
  exact (h3 i hi).1
 rw [← h2] at cw
 refine z7 z14 Tryz.func39 rfl rfl 48 Tryz.ntmps39 (by simp) ?_
 repeat' ((first|(apply y4 ok;rfl)|((first|(apply z8 [0] [] ca;rfl;rfl)|(apply z8 [0,2] [] cb;rfl;rfl)|(apply z8 [0,5] [] cw;rfl;rfl));rfl;(focus ((repeat' first|exact z13|apply z11)<;>first|exact z42 rfl rfl|(refine z19 ?_;((exact z5 fun _=>rfl)))))))<;>conv=>whnf)
 refine y84 (y87 2 rfl) ?_
 refine z64 (fun i:Nat=>([(0,.ptr 0 none 0),(2,.ptr 1 none 0),(3,.ptr 2 none 0),(4,.int (m - i))],[rdO bs (pf i),.cells 2 [[.nils,.nils]],.cells 2 [[ints [a,b,0],.sref 3 0 i]],.cells 2 ((ps.take i).map Proc.cs)])) (fun i=>i≤m) (fun i=>m - i) 0 (by omega) (by refine swR [0,1,4,6] [3] rfl rfl ?_;(repeat' first|exact y85 _|exact z49|apply y86|refine z10 rfl (z30) ?_|constructor)) ?_
 intro i hi
 by_cases him:i < m
 ·have hil:i < ps.length:=by omega
  obtain ⟨g1,m2,pf2,c1,c2,g2,g3,g4,g5,g6⟩:=h3 i hil
  rw [← g4] at c2
  have hpi:(ps.take (i+1)).map Proc.cs=(ps.take i).map Proc.cs++[Proc.cs ps[i]]:=by rw [y50 hil,y63];rfl
  repeat' ((first|(apply y4 ok;rfl)|((apply z6)<;>intro _)|((first|(apply z8 [0,4] [] c1;rfl;rfl)|(apply z8 [0,6] [] c2;rfl;rfl));rfl;(focus ((repeat' first|exact z13|apply z11)<;>first|exact z42 rfl rfl|(refine z19 ?_;((exact z5 fun _=>rfl)))))))<;>conv=>whnf)
  all_goals try (exfalso;omega)
  refine y84 (y87 10 rfl) ?_
  refine z64 (fun k:Nat=>([(0,.ptr 0 none 0),(2,.ptr 1 none 0),(3,.ptr 2 none 0),(4,.int (m - i)),(5,.ptr 4 none 0),(6,.int (m2 - k))],[rdO bs (pf2 k),.cells 2 [[.nils,.nils]],.cells 2 [[ints [a,b,0],.sref 3 0 i]],.cells 2 ((ps.take i).map Proc.cs),.cells 2 [[.int ps[i].loc,.sref 5 0 k]],.cells 10 ((ps[i].es.take k).map Edge.cs)])) (fun k=>k≤m2) (fun k=>m2 - k) 0 (by omega) (by refine swR [0,1,2,3,5,7] [] rfl rfl ?_;(repeat' first|exact y85 _|exact z49|exact z12 _|apply y86|((refine z10 rfl ?_ ?_);(focus ((repeat' (first|exact z30|exact z5 (fun _=>rfl)));done)))|constructor)) ?_
  intro k hk
  by_cases hkm:k < m2
  ·have hke:k < ps[i].es.length:=by omega
   have ce:=g6 k hke
   repeat' ((first|(apply y4 ok;rfl)|(apply z23;kernel_rfl)|(apply y43;first|omega|(unfold inI;omega)|((try dsimp only);simp only [y49,y48,y47,y46,y57,y58];omega)|exact ⟨rfl,z21 rfl z31⟩)|((apply z6)<;>intro _)|(apply z55 [0] [] ce;rfl;rfl;rfl))<;>conv=>whnf)
   all_goals try (exfalso;omega)
   all_goals refine z27 (k+1) (by omega) (by omega) (by refine swR [0,1,2,3,4,7] [] rfl rfl ?_;(repeat' first|exact y85 _|exact z12 _|(refine z224 ?_;omega)|apply y86|((first|refine z43 rfl ?_ ?_|refine z10 rfl ?_ ?_);(focus ((repeat' (first|exact z5 (fun _=>rfl)|apply z28));done)))|refine z313 (by omega) (by omega) ?_|constructor))
  ·have ek:k=m2:=by omega
   subst ek
   rw [y56 (show ps[i].es.length≤k by omega)]
   repeat' ((first|(apply y4 ok;rfl)|(apply y43;first|(unfold inI;omega)|((try dsimp only);simp only [y49,y48,y47,y46,y57,y58];omega)|exact ⟨rfl,z21 rfl z31⟩)|((apply z6)<;>intro _))<;>conv=>whnf)
   all_goals try (exfalso;omega)
   all_goals refine z27 (i+1) (by omega) (by omega) (by refine swR [0,1,2,7] [5] rfl rfl ?_;(repeat' first|exact y85 _|(refine z395 ?_;omega)|(refine z224 ?_;omega)|apply y86|((refine z43 rfl ?_ ?_);(focus ((repeat' (first|exact z5 (fun _=>rfl)|apply z28));done)))|refine z313 (by omega) (by omega) ?_|((apply z203 rfl rfl rfl);(focus ((repeat ((exact z24 (fun _=>rfl) _)));done));(focus (((simp;omega));done)))|constructor))
 ·have e:i=m:=by omega
  subst e
  rw [y56 (show ps.length≤i by omega)]
  repeat' ((first|(apply y4 ok;rfl)|((apply z6)<;>intro _))<;>conv=>whnf)
  all_goals try (exfalso;omega)
  all_goals (refine rsD [0] [3] rfl ?_;(repeat' first|exact y85 _|(refine z395 ?_;omega)|apply y86|((apply z36 rfl rfl rfl);(focus ((repeat ((exact z24 (fun _=>rfl) _)));done));(focus (((simp;omega));done)))|apply z38|constructor))
theorem z726 (n:Nat) (e:List AC):z62 (List.replicate n e)=List.replicate n (z165 e):=by
 induction n with
 |zero=>rfl
 |succ n ih=>simp only [List.replicate_succ,z62,ih]
noncomputable def z585 (t:Tree):Bool:=decide (t.kind=0∧t.val=0∧t.kids.length=0)
theorem z1152 (t:Tree):CallsA Tryz.prog 220 [z20 Tree.cs' t] [] (.bool (z585 t)) []:=by
 refine z16 z14 Tryz.func220 rfl rfl 17 Tryz.ntmps220 (by simp) ?_
 repeat' ((first|(apply y4 ok;rfl)|((apply z6)<;>intro _))<;>conv=>whnf)
 all_goals refine z32 rfl ?_
 all_goals unfold z585
 all_goals first|(rw [decide_eq_decide];omega)|(rw [decide_eq_false_iff_not];omega)
noncomputable def z238 (e:Edge) (n:Int):Bool:=decide (0≤e.fr∧e.fr < n∧0≤e.to∧e.to < n∧n≤4) && (e.gd.exprB && (decide (-2≤e.sync∧e.sync≤2∧-1≤e.var∧e.var < 3) && (if e.var < 0 then z585 e.val else e.val.exprB)))
set_option maxHeartbeats 1600000 in
theorem z797 (e:Edge) (he:e.s1) (n:Int):CallsA Tryz.prog 168 [.agg e.cs,.int n] [] (.bool (z238 e n)) []:=by
 have h1:=he.gd
 have h2:=he.val
 have c1:=z141 e.gd (z85 _ (by unfold maxLen;omega))
 have c2:=z141 e.val (z85 _ (by unfold maxLen;omega))
 have c3:=z1152 e.val
 rw [y16] at c1 c2 c3
 unfold z238
 generalize e.gd.exprB=b1 at *
 generalize e.val.exprB=b2 at *
 generalize z585 e.val=b3 at *
 by_cases ha:0≤e.fr∧e.fr < n∧0≤e.to∧e.to < n∧n≤4
 ·rw [y81 ha]
  by_cases hb : -2≤e.sync∧e.sync≤2∧-1≤e.var∧e.var < 3
  ·rw [y81 hb]
   by_cases hv:e.var < 0
   ·rw [if_pos hv]
    refine z16 z14 Tryz.func168 rfl rfl 71 Tryz.ntmps168 (by simp) ?_
    cases b1<;>cases b3
    all_goals
     repeat' ((first|(apply y4 ok;rfl)|((apply z6)<;>intro _)|(apply z4 (c1);rfl;rfl)|(apply z4 (c3);rfl;rfl))<;>conv=>whnf)
     all_goals first|(exfalso;omega)|exact z32 rfl rfl
   ·rw [if_neg hv]
    refine z16 z14 Tryz.func168 rfl rfl 71 Tryz.ntmps168 (by simp) ?_
    cases b1<;>cases b2
    all_goals
     repeat' ((first|(apply y4 ok;rfl)|((apply z6)<;>intro _)|(apply z4 (c1);rfl;rfl)|(apply z4 (c2);rfl;rfl))<;>conv=>whnf)
     all_goals first|(exfalso;omega)|exact z32 rfl rfl
  ·rw [y82 hb]
   refine z16 z14 Tryz.func168 rfl rfl 71 Tryz.ntmps168 (by simp) ?_
   cases b1
   all_goals
    repeat' ((first|(apply y4 ok;rfl)|((apply z6)<;>intro _)|(apply z4 (c1);rfl;rfl))<;>conv=>whnf)
    all_goals first|(exfalso;omega)|exact z32 rfl rfl
 ·rw [y82 ha]
  refine z16 z14 Tryz.func168 rfl rfl 71 Tryz.ntmps168 (by simp) ?_
  repeat' ((first|(apply y4 ok;rfl)|((first|apply z6|apply z109)<;>intro _)|(apply z4 (c1);rfl;rfl))<;>conv=>whnf)
  all_goals first|(exfalso;omega)|exact z32 rfl rfl
noncomputable def z290 (p:Proc):Bool:=p.es.all (fun e=>z238 e p.loc) && decide (1≤p.loc∧p.loc≤4∧p.es.length≤6)
theorem z777 (p:Proc) (hp:p.s1):CallsA Tryz.prog 114 [.agg p.cs] [] (.bool (z290 p)) []:=by
 have hl:=hp.len
 unfold z290
 refine z16 z14 Tryz.func114 rfl rfl 34 Tryz.ntmps114 (by simp) ?_
 repeat' (((apply y4 ok;rfl))<;>conv=>whnf)
 refine z108 (fun k:Nat=>([(1,.ptr 0 none 0),(3,.int k)],[.cells 2 [p.cs]])) (fun k=>k≤p.es.length∧p.es.all (fun e=>z238 e p.loc)=(p.es.drop k).all (fun e=>z238 e p.loc)) (fun k=>p.es.length - k) 0 ⟨by omega,rfl⟩ ⟨[0],rfl,by decide,rfl,by repeat' (first|exact True.intro|exact ⟨rfl,rfl⟩|apply y43),by repeat' (first|exact True.intro|exact z22 rfl rfl|apply y43)⟩ ?_
 intro k hk
 by_cases hkl:k < p.es.length
 ·have ce:=z797 p.es[k] (hp.el _ (y44 _)) p.loc
  have e:=z142 (fun e=>z238 e p.loc) p.es k hkl
  rw [e] at hk
  have g0:(p.es.map Edge.cs)[k]?=some (Edge.cs p.es[k]):=by rw [y51,y45 hkl];rfl
  generalize z238 p.es[k] p.loc=b at *
  cases b
  all_goals
   repeat' ((first|(apply y4 ok;rfl)|(apply z23;kernel_rfl)|(refine z15 (i:=k) rfl g0 ?_)|(apply y43;first|omega|(unfold inI;omega))|((apply z6)<;>intro _)|(apply z4 (ce);rfl;rfl))<;>conv=>whnf)
   all_goals try (exfalso;omega)
  ·exact z32 rfl (by rw [hk.2];rfl)
  ·exact z97 (k+1) [0] ⟨by omega,by rw [hk.2,Bool.true_and]⟩ (by omega) ⟨rfl,by decide,rfl,by repeat' (first|exact True.intro|exact ⟨rfl,rfl⟩|apply y43),by repeat' (first|exact True.intro|exact z22 rfl rfl|apply y43)⟩
 ·have e:=z132 (fun e=>z238 e p.loc) p.es k (by omega)
  rw [e] at hk
  repeat' ((first|(apply y4 ok;rfl)|(apply y43;omega)|(((with_reducible apply z9;omega));intro _)|((apply z6)<;>intro _))<;>conv=>whnf)
  all_goals first|(exfalso;omega)|(refine z32 rfl ?_;rw [hk.2];simp only [Bool.true_and,Bool.false_and];first|(rw [decide_eq_decide];omega)|(rw [decide_eq_false_iff_not];omega))
noncomputable def sysB (s:Sys):Bool:=s.ps.all z290 && (z282 s.init && decide (1≤s.ps.length∧s.ps.length≤3))
theorem z342 (s:Sys) (hs:s.s1):CallsA Tryz.prog 45 [.agg s.cs] [] (.bool (sysB s)) []:=by
 have hl:=hs.len
 have hi:=hs.init
 have cv:=z778 s.init (by unfold maxLen;omega)
 unfold sysB
 generalize z282 s.init=vb at *
 refine z16 z14 Tryz.func45 rfl rfl 33 Tryz.ntmps45 (by simp) ?_
 repeat' (((apply y4 ok;rfl))<;>conv=>whnf)
 refine z108 (fun k:Nat=>([(1,.ptr 0 none 0),(3,.int k)],[.cells 2 [s.cs]])) (fun k=>k≤s.ps.length∧s.ps.all z290=(s.ps.drop k).all z290) (fun k=>s.ps.length - k) 0 ⟨by omega,rfl⟩ ⟨[0],rfl,by decide,rfl,by repeat' (first|exact True.intro|exact ⟨rfl,rfl⟩|apply y43),by repeat' (first|exact True.intro|exact z22 rfl rfl|apply y43)⟩ ?_
 intro k hk
 by_cases hkl:k < s.ps.length
 ·have ce:=z777 s.ps[k] (hs.el _ (y44 _))
  have e:=z142 z290 s.ps k hkl
  rw [e] at hk
  have g0:(s.ps.map Proc.cs)[k]?=some (Proc.cs s.ps[k]):=by rw [y51,y45 hkl];rfl
  generalize z290 s.ps[k]=b at *
  cases b
  all_goals
   repeat' ((first|(apply y4 ok;rfl)|(refine z15 (i:=k) rfl g0 ?_)|(apply y43;first|omega|(unfold inI;omega))|((apply z6)<;>intro _)|(apply z4 (ce);rfl;rfl))<;>conv=>whnf)
   all_goals try (exfalso;omega)
  ·exact z32 rfl (by rw [hk.2];rfl)
  ·exact z97 (k+1) [0] ⟨by omega,by rw [hk.2,Bool.true_and]⟩ (by omega) ⟨rfl,by decide,rfl,by repeat' (first|exact True.intro|exact ⟨rfl,rfl⟩|apply y43),by repeat' (first|exact True.intro|exact z22 rfl rfl|apply y43)⟩
 ·have e:=z132 z290 s.ps k (by omega)
  rw [e] at hk
  cases vb
  all_goals
   repeat' ((first|(apply y4 ok;rfl)|(apply y43;omega)|(((with_reducible apply z9;omega));intro _)|((apply z6)<;>intro _)|(apply z4 (cv);rfl;rfl))<;>conv=>whnf)
   all_goals first|(exfalso;omega)|(refine z32 rfl ?_;rw [hk.2];simp only [Bool.true_and,Bool.false_and];first|done|(rw [decide_eq_decide];omega)|(rw [decide_eq_false_iff_not];omega))
theorem z784 (s:Sys) (hs:s.s1):CallsA Tryz.prog 119 [.agg s.cs] [] (.tup [.agg (if sysB s then (⟨List.replicate s.ps.length 0,s.init⟩:State) else ⟨[],[]⟩).cs,.bool (sysB s)]) []:=by
 have hl:=hs.len
 have hi:=hs.init
 have c:=z342 s hs
 generalize sysB s=b at *
 refine z7 z14 Tryz.func119 rfl rfl 17 Tryz.ntmps119 (by simp) ?_
 cases b
 all_goals
  repeat' ((first|(apply y4 ok;rfl)|(apply z23;kernel_rfl)|(apply y43;first|(dsimp only;omega)|exact z140 (fun _=>rfl))|(apply z4 (c);rfl;rfl))<;>conv=>whnf)
 ·(refine rsD [] [] rfl ?_;(repeat' first|exact y85 _|exact z26|apply z38|apply z71|constructor))
 ·(refine rsD [] [2,4] rfl ?_;(repeat' first|exact y85 _|(refine z395 ?_;omega)|((apply z36 rfl rfl rfl);(focus ((repeat (first|exact z24 (fun _=>rfl) _|rfl));done));(focus (((simp;done));done)))|apply z38|apply z71|(refine z63 ?_ ?_;(focus (simp;done)))|constructor))
  exact z46 (by rw [z726,if_pos rfl];simp only [List.map_replicate,y76];rfl)
def Sys.pr (s:Sys) (i:Nat):Proc:=s.ps.getD i ⟨0,[]⟩
def Proc.eg (p:Proc) (k:Nat):Edge:=p.es.getD k ⟨0,0,leaf 0 0,0,leaf 0 0,0⟩
theorem y15 {s:Sys} {i:Nat} (h:i < s.ps.length):(s.ps.map Proc.cs)[i]?=some (s.pr i).cs:=by
 unfold Sys.pr;rw [z17 h,y51,y45 h];rfl
theorem y11 {p:Proc} {k:Nat} (h:k < p.es.length):(p.es.map Edge.cs)[k]?=some (p.eg k).cs:=by
 unfold Proc.eg;rw [z17 h,y51,y45 h];rfl
structure Edge.ok (e:Edge) (n:Int):Prop where
 to:0≤e.to∧e.to < n
 gd:e.gd.good
 var : -1≤e.var∧e.var≤2
 val:0≤e.var→e.val.good
 sync : -2≤e.sync∧e.sync≤2
structure Sys.ok (s:Sys):Prop where
 n1:1≤s.ps.length
 n3:s.ps.length≤3
 ne:∀ i,i < s.ps.length→(s.pr i).es.length≤6
 loc:∀ i,i < s.ps.length→(s.pr i).loc≤4
 eg:∀ i k,i < s.ps.length→k < (s.pr i).es.length→((s.pr i).eg k).ok (s.pr i).loc
 init:ValsOk s.init
theorem y14 {s:Sys} (h:sysB s=true):s.ok:=by
 unfold sysB at h
 rw [y70,y70,decide_eq_true_iff,y78] at h
 obtain ⟨h1,h2,h3⟩:=h
 have hp:∀ i,i < s.ps.length→z290 (s.pr i)=true:=fun i hi=>by unfold Sys.pr;rw [z17 hi];exact h1 _ (y44 _)
 have hq:∀ i,i < s.ps.length→(∀ e∈(s.pr i).es,z238 e (s.pr i).loc=true)∧1≤(s.pr i).loc∧(s.pr i).loc≤4∧(s.pr i).es.length≤6:=fun i hi=>by
  have:=hp i hi
  unfold z290 at this
  rw [y70,decide_eq_true_iff,y78] at this
  exact this
 refine ⟨h3.1,h3.2,fun i hi=>(hq i hi).2.2.2,fun i hi=>(hq i hi).2.2.1,fun i k hi hk=>?_,z724 h2⟩
 have he:=(hq i hi).1 ((s.pr i).eg k) (by unfold Proc.eg;rw [z17 hk];exact y44 _)
 unfold z238 at he
 simp only [y70,decide_eq_true_iff] at he
 obtain ⟨a1,a2,a3,a4⟩:=he
 refine ⟨⟨a1.2.2.1,a1.2.2.2.1⟩,y27 a2,⟨a3.2.2.1,by omega⟩,fun hv=>?_,⟨a3.1,a3.2.1⟩⟩
 rw [if_neg (by omega)] at a4
 exact y27 a4
noncomputable def rdyE (e:Edge) (st:State) (i:Nat):Bool:=decide (e.fr=st.a.getD i 0) && decide (e.gd.ev st.b≠0)
structure State.ok (st:State) (s:Sys):Prop where
 a:st.a.length=s.ps.length
 b:ValsOk st.b
theorem z616 (s:Sys) (hs:s.ok) (st:State) (h:st.ok s) (i k:Nat) (hi:i < s.ps.length) (hk:k < (s.pr i).es.length):CallsA Tryz.prog 171 [.agg s.cs,.agg st.cs,.int i,.int k] [] (.bool (rdyE ((s.pr i).eg k) st i)) []:=by
 have gp:=y15 hi
 have ge:=y11 hk
 have hE:=hs.eg i k hi hk
 have h3:=hs.n3
 have ha:=h.a
 have h6:=hs.ne i hi
 generalize (s.pr i).eg k=e at *
 have hb:=h.b.1
 have ga:(st.a.map enI)[i]?=some (enI (st.a.getD i 0)):=by rw [y51,z17 (show i < st.a.length by omega),y45 (by omega)];rfl
 have ce:=z547 st.b h.b e.gd hE.gd
 rw [y16] at ce
 unfold rdyE
 generalize st.a.getD i 0=x at *
 generalize s.pr i=p at *
 refine z16 z14 Tryz.func171 rfl rfl 35 Tryz.ntmps171 (by simp) ?_
 repeat' ((first|(apply y4 ok;rfl)|(apply z23;kernel_rfl)|(refine z15 (i:=i) rfl gp ?_)|(refine z15 (i:=k) rfl ge ?_)|(refine z15 (i:=i) rfl ga ?_)|(apply y43;omega)|((apply z6)<;>intro _)|(apply z4 (ce);rfl;rfl))<;>conv=>whnf)
 all_goals exact z32 rfl (by simp [*])
structure Stp where
 p:Int
 e:Int
 q:Int
 f:Int
def Stp.cs (x:Stp):List AC:=[.int x.p,.int x.e,.int x.q,.int x.f]
structure Stp.ok (x:Stp) (s:Sys):Prop where
 p:0≤x.p∧x.p < s.ps.length
 e:0≤x.e∧x.e < (s.pr x.p.toNat).es.length
 q : -1≤x.q∧x.q < s.ps.length
 f:0≤x.q→0≤x.f∧x.f < (s.pr x.q.toNat).es.length
open Classical in
noncomputable def z433 (s:Sys) (st:State) (i k:Nat) (j m:Nat):List Stp:=if j≠i∧((s.pr j).eg m).sync=-((s.pr i).eg k).sync∧rdyE ((s.pr j).eg m) st j=true then [⟨i,k,j,m⟩] else []
noncomputable def z668 (s:Sys) (st:State) (i k:Nat):List Stp:=cat s.ps.length fun j=>cat (s.pr j).es.length (z433 s st i k j)
theorem partL_ok {s:Sys} {st:State} {i k:Nat} (hi:i < s.ps.length) (hk:k < (s.pr i).es.length):∀ x∈z668 s st i k,x.ok s:=fun x hx=>by
 obtain ⟨j,hj,hx⟩:=z675 hx
 obtain ⟨m,hm,hx⟩:=z675 hx
 unfold z433 at hx
 split at hx
 ·rw [List.mem_singleton.1 hx]
  exact ⟨⟨by show 0≤(i:Int);omega,by show (i:Int) < _;omega⟩,⟨by show 0≤(k:Int);omega,by show (k:Int) < _;simpa using hk⟩,⟨by show -1≤(j:Int);omega,by show (j:Int) < _;omega⟩,fun _=>⟨by show 0≤(m:Int);omega,by show (m:Int) < _;simpa using hm⟩⟩
 ·cases hx
theorem z754 {s:Sys} (hs:s.ok) {st:State} {i k:Nat} : (z668 s st i k).length≤18:=by
 have h3:=hs.n3
 have:=z706 (n:=s.ps.length) (c:=6) (f:=fun j=>cat (s.pr j).es.length (z433 s st i k j)) (fun j hj=>by
  have h6:=hs.ne j hj
  have:=z706 (n:=(s.pr j).es.length) (c:=1) (f:=z433 s st i k j) (fun m _=>by unfold z433;split<;>simp)
  omega)
 unfold z668
 omega
set_option maxHeartbeats 1600000 in
theorem z680 (s:Sys) (hs:s.ok) (st:State) (h:st.ok s) (i k:Nat) (hi:i < s.ps.length) (hk:k < (s.pr i).es.length):CallsA Tryz.prog 172 [.agg s.cs,.agg st.cs,.int i,.int k] [] (lst 4 Stp.cs (z668 s st i k)) []:=by
  have gp:=y15 hi
  have ge:=y11 hk
  have h3:=hs.n3
  have h6:=hs.ne i hi
  have hE:=hs.eg i k hi hk
  have hsy:=hE.sync
  have hfin:z668 s st i k=cat s.ps.length (fun j=>cat (s.pr j).es.length (z433 s st i k j)):=rfl
  have hR1:∀ j m,(j≠i∧((s.pr j).eg m).sync=-((s.pr i).eg k).sync∧rdyE ((s.pr j).eg m) st j=true)→z433 s st i k j m=[⟨i,k,j,m⟩]:=fun _ _ h=>if_pos h
  have hR0:∀ j m,¬(j≠i∧((s.pr j).eg m).sync=-((s.pr i).eg k).sync∧rdyE ((s.pr j).eg m) st j=true)→z433 s st i k j m=[]:=fun _ _ h=>if_neg h
  generalize z668 s st i k=FIN at *
  generalize z433 s st i k=R at *
  generalize (s.pr i).eg k=e at *
  generalize hp:s.pr i=p at *
  refine z7 z14 Tryz.func172 rfl rfl 76 Tryz.ntmps172 (by simp) ?_
  repeat' ((first|(apply y4 ok;rfl)|(refine z15 (i:=i) rfl gp ?_)|(refine z15 (i:=k) rfl ge ?_)|(apply y43;omega))<;>conv=>whnf)
  refine z64 (fun x:Nat×List Stp=>([(2,.int i),(3,.int k),(4,.ptr 0 none 0),(5,.ptr 1 none 0),(9,.sref 2 0 x.2.length),(10,.int e.sync),(11,.int x.1)],[.cells 2 [s.cs],.cells 2 [st.cs],.cells 4 (x.2.map Stp.cs)])) (fun x=>x.1≤s.ps.length∧x.2.length≤6 * x.1∧x.2=cat x.1 fun j=>cat (s.pr j).es.length (R j)) (fun x=>s.ps.length - x.1) (0,[]) ⟨by omega,by simp,rfl⟩ (by refine swR [0,1,2] [] rfl rfl ?_;(repeat' first|exact y85 _|apply y86|refine z10 rfl (z30) ?_|constructor)) ?_
  rintro ⟨j,L⟩ ⟨hj,hLl,hL⟩
  simp only at hj hL hLl
  by_cases hjl:j < s.ps.length
  · have gj:=y15 hjl
    have hj6:=hs.ne j hjl
    repeat' ((first|(apply y4 ok;rfl)|((apply z6)<;>intro _))<;>conv=>whnf)
    all_goals try (exfalso;omega)
    refine z64 (fun x:Nat×List Stp=>([(2,.int i),(3,.int k),(4,.ptr 0 none 0),(5,.ptr 1 none 0),(9,.sref 2 0 x.2.length),(10,.int e.sync),(11,.int j),(12,.int x.1)],[.cells 2 [s.cs],.cells 2 [st.cs],.cells 4 (x.2.map Stp.cs)])) (fun x=>x.1≤(s.pr j).es.length∧x.2.length≤6 * j+x.1∧x.2=L++cat x.1 (R j)) (fun x=>(s.pr j).es.length - x.1) (0,L) ⟨by omega,by simpa using hLl,by rw [z415,y64]⟩ (by refine swR [0,1,2] [] rfl rfl ?_;(repeat' first|exact y85 _|exact z12 _|apply y86|refine z10 rfl (z5 (fun _=>rfl)) ?_|constructor)) ?_
    rintro ⟨m,M⟩ ⟨hm,hMl,hM⟩
    simp only at hm hM hMl
    by_cases hml:m < (s.pr j).es.length
    · have gm:=y11 hml
      have hl:=z616 s hs st h j m hjl hml
      have hR1m:=hR1 j m
      have hR0m:=hR0 j m
      have hcs:=z193 m (R j)
      have hE2:=(hs.eg j m hjl hml).sync
      generalize (s.pr j).eg m=e2 at *
      generalize rdyE e2 st j=rd at *
      generalize hpj:s.pr j=pj at *
      cases rd
      all_goals
        repeat' ((first|(apply y4 ok;rfl)|(refine z15 (i:=j) rfl gj ?_)|(refine z15 (i:=m) rfl gm ?_)|(apply y43;first|omega|(unfold inI;omega)|((try dsimp only);simp only [y49,y48,y47,y46,y57,y58];omega)|exact ⟨rfl,z21 rfl z31⟩)|((first|apply z6|apply z53)<;>intro _)|(apply z4 (hl);rfl;rfl))<;>conv=>whnf)
        all_goals try (exfalso;omega)
      all_goals first
        | (have hz := hR1m ⟨by omega, by omega, rfl⟩
           refine z27 (m+1,M++[⟨i,k,j,m⟩]) ⟨by omega,by simp;omega,by rw [hM,hcs,hz,List.append_assoc]⟩ (by show pj.es.length - (m+1) < pj.es.length - m;omega) (by refine swR [0,1,4] [] rfl rfl ?_;(repeat' first|exact y85 _|(refine z45 ?_;((simp;done)))|apply y86|((refine z43 rfl ?_ ?_);(focus ((repeat' (first|exact z5 (fun _=>rfl)|apply z28));done)))|(refine z68 ?_ ?_;(focus (omega)))|constructor)))
        | (have hz := hR0m (by rintro ⟨z1, z2, z3⟩; first | exact absurd z3 (by decide) | omega)
           refine z27 (m+1,M) ⟨by omega,by simp;omega,by rw [hM,hcs,hz,y64]⟩ (by show pj.es.length - (m+1) < pj.es.length - m;omega) (by refine swR [0,1,2] [] rfl rfl ?_;(repeat' first|exact y85 _|exact z12 _|apply y86|refine z10 rfl (z5 (fun _=>rfl)) ?_|constructor)))
    · repeat' ((first|(apply y4 ok;rfl)|(refine z15 (i:=j) rfl gj ?_)|(apply y43;first|omega|(unfold inI;omega))|(((with_reducible apply z9;omega));intro _)|((first|apply z6|apply z53)<;>intro _))<;>conv=>whnf)
      all_goals try (exfalso;omega)
      have e:m=(s.pr j).es.length:=by omega
      all_goals refine z27 (j+1,M) ⟨by omega,by simp;omega,by rw [hM,hL,e];exact (z193 j fun j=>cat (s.pr j).es.length (R j)).symm⟩ (by show s.ps.length - (j+1) < s.ps.length - j;omega) (by refine swR [0,1,2] [] rfl rfl ?_;(repeat' first|exact y85 _|exact z12 _|apply y86|refine z10 rfl (z5 (fun _=>rfl)) ?_|constructor))
  · have e:j=s.ps.length:=by omega
    have eL:L=FIN:=by rw [hfin,hL,e]
    subst eL
    repeat' ((first|(apply y4 ok;rfl)|((apply z6)<;>intro _))<;>conv=>whnf)
    all_goals try (exfalso;omega)
    all_goals (refine rsD [] [2] rfl ?_;(repeat' first|exact y85 _|((apply z36 rfl rfl rfl);(focus ((repeat ((exact z24 (fun _=>rfl) _)));done));(focus (((simp;done));done)))|constructor))
end Go.Proofs.YtnfoijopccdjeaaGreat
namespace Go.Proofs.YtnfoijopccdjeaaGreat
open Go.Gl
attribute [local irreducible] z18 AWP z33 z37 z34
theorem z105 {objs:Nat→AObj} {π Bn:List Nat} {o:Nat} {l:List Int} (ho:objs o=.cells 1 (l.map enI)) (h1:idx π o=none) (h2:inB Bn o=true):bor objs π Bn (.sref o 0 l.length)=ints l :=
 z194 ho h1 h2 (by simp) (z198 _ _)
end Go.Proofs.YtnfoijopccdjeaaGreat
namespace Go.Proofs.YtnfoijopccdjeaaGreat
open Go.Gl
attribute [local irreducible] z18 AWP z33 z37 z34 RetS z40
noncomputable def z259 (s:Sys) (st:State) (j m:Nat):List Stp:=if ((s.pr j).eg m).sync < 0∨rdyE ((s.pr j).eg m) st j=false then [] else if ((s.pr j).eg m).sync=0 then [⟨j,m,-1,-1⟩] else z668 s st j m
noncomputable def z145 (s:Sys) (st:State):List Stp:=cat s.ps.length fun j=>cat (s.pr j).es.length (z259 s st j)
theorem z653 {s:Sys} {st:State} : ∀ x∈z145 s st,x.ok s:=fun x hx=>by
 obtain ⟨j,hj,hx⟩:=z675 hx
 obtain ⟨m,hm,hx⟩:=z675 hx
 unfold z259 at hx
 split at hx
 ·cases hx
 split at hx
 ·rw [List.mem_singleton.1 hx]
  exact ⟨⟨by show 0≤(j:Int);omega,by show (j:Int) < _;omega⟩,⟨by show 0≤(m:Int);omega,by show (m:Int) < _;simpa using hm⟩,⟨by show -1≤(-1:Int);omega,by show (-1:Int) < _;omega⟩,fun h=>absurd (show (0:Int)≤-1 from h) (by decide)⟩
 ·exact partL_ok hj hm x hx
set_option maxHeartbeats 1600000 in
theorem z1012 (s:Sys) (hs:s.ok) (st:State) (h:st.ok s):CallsA Tryz.prog 120 [.agg s.cs,.agg st.cs] [] (lst 4 Stp.cs (z145 s st)) []:=by
  have h3:=hs.n3
  have hfin:z145 s st=cat s.ps.length (fun j=>cat (s.pr j).es.length (z259 s st j)):=rfl
  have hR0:∀ j m,(((s.pr j).eg m).sync < 0∨rdyE ((s.pr j).eg m) st j=false)→z259 s st j m=[]:=fun _ _ h=>if_pos h
  have hR1:∀ j m,¬(((s.pr j).eg m).sync < 0∨rdyE ((s.pr j).eg m) st j=false)→((s.pr j).eg m).sync=0→z259 s st j m=[⟨j,m,-1,-1⟩]:=fun _ _ h k=>by unfold z259;rw [if_neg h,if_pos k]
  have hR2:∀ j m,¬(((s.pr j).eg m).sync < 0∨rdyE ((s.pr j).eg m) st j=false)→((s.pr j).eg m).sync≠0→z259 s st j m=z668 s st j m:=fun _ _ h k=>by unfold z259;rw [if_neg h,if_neg k]
  generalize z145 s st=FIN at *
  generalize z259 s st=R at *
  refine z7 z14 Tryz.func120 rfl rfl 64 Tryz.ntmps120 (by simp) ?_
  repeat' (((apply y4 ok;rfl))<;>conv=>whnf)
  refine z64 (fun x:Nat×List Stp=>([(2,.ptr 0 none 0),(3,.ptr 1 none 0),(5,.sref 2 0 x.2.length),(6,.int x.1)],[.cells 2 [s.cs],.cells 2 [st.cs],.cells 4 (x.2.map Stp.cs)])) (fun x=>x.1≤s.ps.length∧x.2.length≤108 * x.1∧x.2=cat x.1 fun j=>cat (s.pr j).es.length (R j)) (fun x=>s.ps.length - x.1) (0,[]) ⟨by omega,by simp,rfl⟩ (by refine swR [0,1,2] [] rfl rfl ?_;(repeat' first|exact y85 _|apply y86|refine z10 rfl (z30) ?_|constructor)) ?_
  rintro ⟨j,L⟩ ⟨hj,hLl,hL⟩
  simp only at hj hL hLl
  by_cases hjl:j < s.ps.length
  · have gj:=y15 hjl
    have hj6:=hs.ne j hjl
    repeat' ((first|(apply y4 ok;rfl)|((apply z6)<;>intro _))<;>conv=>whnf)
    all_goals try (exfalso;omega)
    refine z64 (fun x:Nat×List Stp=>([(2,.ptr 0 none 0),(3,.ptr 1 none 0),(5,.sref 2 0 x.2.length),(6,.int j),(7,.int x.1)],[.cells 2 [s.cs],.cells 2 [st.cs],.cells 4 (x.2.map Stp.cs)])) (fun x=>x.1≤(s.pr j).es.length∧x.2.length≤108 * j+18 * x.1∧x.2=L++cat x.1 (R j)) (fun x=>(s.pr j).es.length - x.1) (0,L) ⟨by omega,by simpa using hLl,by rw [z415,y64]⟩ (by refine swR [0,1,2] [] rfl rfl ?_;(repeat' first|exact y85 _|exact z12 _|apply y86|refine z10 rfl (z5 (fun _=>rfl)) ?_|constructor)) ?_
    rintro ⟨m,M⟩ ⟨hm,hMl,hM⟩
    simp only at hm hM hMl
    by_cases hml:m < (s.pr j).es.length
    · have gm:=y11 hml
      have hl:=z616 s hs st h j m hjl hml
      have hP:=z680 s hs st h j m hjl hml
      have hPl:=z754 hs (st:=st) (i:=j) (k:=m)
      have hR0m:=hR0 j m
      have hR1m:=hR1 j m
      have hR2m:=hR2 j m
      have hcs:=z193 m (R j)
      have hE2:=(hs.eg j m hjl hml).sync
      generalize (s.pr j).eg m=e2 at *
      generalize rdyE e2 st j=rd at *
      generalize z668 s st j m=PL at *
      generalize hpj:s.pr j=pj at *
      cases rd
      all_goals
        repeat' ((first|(apply y4 ok;rfl)|(refine z15 (i:=j) rfl gj ?_)|(refine z15 (i:=m) rfl gm ?_)|(apply y43;first|omega|(unfold inI;omega)|((try dsimp only);simp only [y49,y48,y47,y46,y57,y58];omega)|exact z140 (fun _=>rfl)|exact ⟨rfl,z21 rfl z31⟩)|((apply z6)<;>intro _)|(apply z4 (hl);rfl;rfl)|(apply z4 (hP);rfl;rfl))<;>conv=>whnf)
        all_goals try (exfalso;omega)
      all_goals first
        | (have hz := hR2m (by rintro (z1 | z1) <;> first | omega | exact absurd z1 (by decide)) (by omega)
           refine z27 (m+1,M++PL) ⟨by omega,by simp;omega,by rw [hM,hcs,hz,List.append_assoc]⟩ (by show pj.es.length - (m+1) < pj.es.length - m;omega) (by refine swR [0,1,3] [] rfl rfl ?_;(repeat' first|exact y85 _|(refine z45 ?_;((simp;done)))|apply y86|((refine z10 rfl ?_ ?_);(focus ((repeat' (first|exact z5 (fun _=>rfl)|apply z96|apply z28));done)))|(refine appL_le ?_;(omega))|constructor)))
        | (have hz := hR1m (by rintro (z1 | z1) <;> first | omega | exact absurd z1 (by decide)) (by omega)
           refine z27 (m+1,M++[⟨j,m,-1,-1⟩]) ⟨by omega,by simp;omega,by rw [hM,hcs,hz,List.append_assoc]⟩ (by show pj.es.length - (m+1) < pj.es.length - m;omega) (by refine swR [0,1,4] [] rfl rfl ?_;(repeat' first|exact y85 _|(refine z45 ?_;((simp;done)))|apply y86|((refine z43 rfl ?_ ?_);(focus ((repeat' (first|exact z5 (fun _=>rfl)|apply z28));done)))|(refine z68 ?_ ?_;(focus (omega)))|constructor)))
        | (have hz := hR0m (by first | exact .inr rfl | exact .inl (by omega))
           refine z27 (m+1,M) ⟨by omega,by simp;omega,by rw [hM,hcs,hz,y64]⟩ (by show pj.es.length - (m+1) < pj.es.length - m;omega) (by refine swR [0,1,2] [] rfl rfl ?_;(repeat' first|exact y85 _|exact z12 _|apply y86|refine z10 rfl (z5 (fun _=>rfl)) ?_|constructor)))
    · repeat' ((first|(apply y4 ok;rfl)|(refine z15 (i:=j) rfl gj ?_)|(apply y43;first|omega|(unfold inI;omega))|(((with_reducible apply z9;omega));intro _)|((apply z6)<;>intro _))<;>conv=>whnf)
      all_goals try (exfalso;omega)
      have e:m=(s.pr j).es.length:=by omega
      all_goals refine z27 (j+1,M) ⟨by omega,by simp;omega,by rw [hM,hL,e];exact (z193 j fun j=>cat (s.pr j).es.length (R j)).symm⟩ (by show s.ps.length - (j+1) < s.ps.length - j;omega) (by refine swR [0,1,2] [] rfl rfl ?_;(repeat' first|exact y85 _|exact z12 _|apply y86|refine z10 rfl (z5 (fun _=>rfl)) ?_|constructor))
  · have e:j=s.ps.length:=by omega
    have eL:L=FIN:=by rw [hfin,hL,e]
    subst eL
    repeat' ((first|(apply y4 ok;rfl)|((apply z6)<;>intro _))<;>conv=>whnf)
    all_goals try (exfalso;omega)
    all_goals (refine rsD [] [2] rfl ?_;(repeat' first|exact y85 _|((apply z36 rfl rfl rfl);(focus ((repeat ((exact z24 (fun _=>rfl) _)));done));(focus (((simp;done));done)))|constructor))
noncomputable def z113 (st:State) (i:Nat) (e:Edge):State:=⟨st.a.set i e.to,if 0≤e.var then st.b.set e.var.toNat (e.val.ev st.b) else st.b⟩
theorem z472 {s:Sys} {st:State} (h:st.ok s) {i:Nat} {e:Edge} {n:Int} (he:e.ok n):(z113 st i e).ok s:=by
 refine ⟨by simp [z113,h.a],?_⟩
 unfold z113
 dsimp only
 split
 ·refine ⟨by simp [h.b.1],fun x hx=>?_⟩
  rcases List.mem_or_eq_of_mem_set hx with hx|rfl
  ·exact h.b.2 x hx
  ·exact y20 h.b _ (he.val (by assumption))
 ·exact h.b
theorem z776 (st:State) (e:Edge) (n:Int) (he:e.ok n) (i:Nat) (hi:i < st.a.length) (hl:st.a.length≤10) (hv:ValsOk st.b):CallsA Tryz.prog 173 [.agg [.sref 0 0 st.a.length,.sref 1 0 st.b.length],.int i,.agg e.cs] [.cells 1 (st.a.map enI),.cells 1 (st.b.map enI)] (.agg [.sref 0 0 st.a.length,.sref 1 0 st.b.length]) [.cells 1 ((z113 st i e).a.map enI),.cells 1 ((z113 st i e).b.map enI)]:=by
 have hb:=hv.1
 have hvar:=he.var
 by_cases h0:0≤e.var
 ·have c:=z547 st.b hv e.val (he.val h0)
  rw [y16] at c
  have hr:=y20 hv e.val (he.val h0)
  have e1:z113 st i e=⟨st.a.set i e.to,st.b.set e.var.toNat (e.val.ev st.b)⟩:=by unfold z113;rw [if_pos h0]
  rw [e1]
  generalize e.val.ev st.b=x at *
  refine z7 z14 Tryz.func173 rfl rfl 27 Tryz.ntmps173 (by simp) ?_
  repeat' ((first|(apply y4 ok;rfl)|(apply z23;kernel_rfl)|(apply y43;omega)|(((apply z9;omega));intro _)|((apply z6)<;>intro _)|(apply z80 [] [1] [] c;(focus ((repeat' first|exact z60|apply z39)<;>first|exact z105 rfl rfl rfl|rfl));rfl;rfl;(focus ((repeat' exact z13)<;>fail));((refine .inr ⟨rfl,?_⟩;repeat' first|exact True.intro|apply y43))))<;>conv=>whnf)
  all_goals first|(exfalso;omega)|exact h0|(show e.var.toNat < st.b.length;omega)|skip
  all_goals (refine rsD [0,1] [] rfl ?_;(repeat' first|exact y85 _|refine z69 rfl (z5 (fun _=>rfl)) ?_|refine z751 (by omega) ?_|constructor))
 ·have e1:z113 st i e=⟨st.a.set i e.to,st.b⟩:=by unfold z113;rw [if_neg h0]
  rw [e1]
  refine z7 z14 Tryz.func173 rfl rfl 27 Tryz.ntmps173 (by simp) ?_
  repeat' ((first|(apply y4 ok;rfl)|(apply y43;omega)|(((apply z9;omega));intro _)|((apply z6)<;>intro _))<;>conv=>whnf)
  all_goals try (exfalso;omega)
  all_goals (refine rsD [0,1] [] rfl ?_;(repeat' first|exact y85 _|exact z12 _|refine z69 rfl (z5 (fun _=>rfl)) ?_|refine z10 rfl (z5 (fun _=>rfl)) ?_|refine z751 (by omega) ?_|constructor))
noncomputable def z76 (s:Sys) (st:State) (x:Stp):State:=if 0≤x.q then z113 (z113 st x.p.toNat ((s.pr x.p.toNat).eg x.e.toNat)) x.q.toNat ((s.pr x.q.toNat).eg x.f.toNat) else z113 st x.p.toNat ((s.pr x.p.toNat).eg x.e.toNat)
theorem z452 {a:Int} {n:Nat} (h:0≤a) (h2:a < n):∃ m:Nat,a=m∧m < n:=⟨a.toNat,by omega,by omega⟩
theorem z311 {s:Sys} (hs:s.ok) {st:State} (h:st.ok s) {x:Stp} (hx:x.ok s):(z76 s st x).ok s:=by
 have hp:=hx.p
 have he:=hx.e
 have hq:=hx.q
 unfold z76
 have h1:=z472 (i:=x.p.toNat) h (hs.eg x.p.toNat x.e.toNat (by omega) (by omega))
 split
 ·rename_i hq0
  have hf:=hx.f hq0
  exact z472 h1 (hs.eg x.q.toNat x.f.toNat (by omega) (by omega))
 ·exact h1
theorem z372 (st:State) (i:Nat) (e:Edge):(z113 st i e).a.length=st.a.length∧(z113 st i e).b.length=st.b.length:=by
 unfold z113
 constructor
 ·simp
 ·dsimp only;split<;>simp
set_option maxHeartbeats 3200000 in
theorem z1013 (s:Sys) (hs:s.ok) (st:State) (h:st.ok s) (x:Stp) (hx:x.ok s):CallsA Tryz.prog 121 [.agg s.cs,.agg st.cs,.agg x.cs] [] (.agg (z76 s st x).cs) []:=by
 have hn3:=hs.n3
 have ha:=h.a
 have hb:=h.b.1
 obtain ⟨p,e,q,f⟩:=x
 obtain ⟨hp,he,hq,hf⟩:=hx
 simp only at hp he hq hf
 obtain ⟨pi,rfl,hpi⟩:=z452 hp.1 hp.2
 simp only [y76] at he
 obtain ⟨ei,rfl,hei⟩:=z452 he.1 he.2
 have gp:=y15 hpi
 have ge:=y11 hei
 have hE:=hs.eg pi ei hpi hei
 have hP6:=hs.ne pi hpi
 have c1:=z776 st ((s.pr pi).eg ei) _ hE pi (by omega) (by omega) h.b
 have h1:=z472 (i:=pi) h hE
 have hl1:=z372 st pi ((s.pr pi).eg ei)
 rw [show st.a.length=0+st.a.length by omega,show st.b.length=0+st.b.length by omega] at c1
 by_cases hq0:0≤q
 ·have hf:=hf hq0
  obtain ⟨qi,rfl,hqi⟩:=z452 hq0 hq.2
  simp only [y76] at hf
  obtain ⟨fi,rfl,hfi⟩:=z452 hf.1 hf.2
  have gq:=y15 hqi
  have gf:=y11 hfi
  have hF:=hs.eg qi fi hqi hfi
  have hQ6:=hs.ne qi hqi
  have e0:z76 s st ⟨pi,ei,qi,fi⟩=z113 (z113 st pi ((s.pr pi).eg ei)) qi ((s.pr qi).eg fi):=by unfold z76;rw [if_pos hq0];rfl
  have c2:=z776 (z113 st pi ((s.pr pi).eg ei)) ((s.pr qi).eg fi) _ hF qi (by omega) (by omega) h1.b
  have hl2:=z372 (z113 st pi ((s.pr pi).eg ei)) qi ((s.pr qi).eg fi)
  rw [hl1.1,hl1.2,show st.a.length=0+st.a.length by omega,show st.b.length=0+st.b.length by omega] at c2
  rw [e0]
  generalize z113 (z113 st pi ((s.pr pi).eg ei)) qi ((s.pr qi).eg fi)=s2 at *
  generalize z113 st pi ((s.pr pi).eg ei)=s1 at *
  generalize (s.pr pi).eg ei=ed at *
  generalize (s.pr qi).eg fi=fd at *
  generalize s.pr pi=pp at *
  generalize s.pr qi=qq at *
  refine z7 z14 Tryz.func121 rfl rfl 51 Tryz.ntmps121 (by simp) ?_
  repeat' ((first|(apply y4 ok;rfl)|(apply z23;kernel_rfl)|(refine z15 (i:=pi) rfl gp ?_)|(refine z15 (i:=ei) rfl ge ?_)|(refine z15 (i:=qi) rfl gq ?_)|(refine z15 (i:=fi) rfl gf ?_)|(apply y43;first|omega|(dsimp only;omega)|exact z140 (fun _=>rfl))|((first|(apply z93 [5,7] [] c1;rfl;(focus ((repeat' first|exact z35|apply z44)<;>(refine z59 rfl ?_;((exact z5 fun _=>rfl))))))|(apply z93 [5,7] [] c2;rfl;(focus ((repeat' first|exact z35|apply z44)<;>(refine z59 rfl ?_;((exact z5 fun _=>rfl)))))));rfl;(focus ((repeat' first|exact z13|apply z11)<;>(refine z19 ?_;((exact z5 fun _=>rfl)))))))<;>conv=>whnf)
  all_goals (refine rsD [] [5,7] rfl ?_;(repeat' first|(refine z395 ?_;omega)|((apply z36 rfl rfl rfl);(focus ((repeat ((exact z24 (fun _=>rfl) _)));done));(focus (((simp;omega));done)))|apply z38|constructor))
 ·have e0:z76 s st ⟨pi,ei,q,f⟩=z113 st pi ((s.pr pi).eg ei):=by unfold z76;rw [if_neg hq0];rfl
  rw [e0]
  generalize z113 st pi ((s.pr pi).eg ei)=s1 at *
  generalize (s.pr pi).eg ei=ed at *
  generalize s.pr pi=pp at *
  refine z7 z14 Tryz.func121 rfl rfl 51 Tryz.ntmps121 (by simp) ?_
  repeat' ((first|(apply y4 ok;rfl)|(apply z23;kernel_rfl)|(refine z15 (i:=pi) rfl gp ?_)|(refine z15 (i:=ei) rfl ge ?_)|(apply y43;first|omega|(dsimp only;omega)|exact z140 (fun _=>rfl))|((apply z6)<;>intro _)|(apply z93 [5,7] [] c1;rfl;(focus ((repeat' first|exact z35|apply z44)<;>(refine z59 rfl ?_;((exact z5 fun _=>rfl)))));rfl;(focus ((repeat' first|exact z13|apply z11)<;>(refine z19 ?_;((exact z5 fun _=>rfl)))))))<;>conv=>whnf)
  all_goals first|(exfalso;apply hq0;assumption)|skip
  all_goals (refine rsD [] [5,7] rfl ?_;(repeat' first|(refine z395 ?_;omega)|((apply z36 rfl rfl rfl);(focus ((repeat ((exact z24 (fun _=>rfl) _)));done));(focus (((simp;omega));done)))|apply z38|constructor))
end Go.Proofs.YtnfoijopccdjeaaGreat
namespace Go.Proofs.YtnfoijopccdjeaaGreat
open Go.Gl
attribute [local irreducible] z18 AWP z33 z37 z34
def State.co (s:State):List AC:=[.own 1 (s.a.map enI),.own 1 (s.b.map enI)]
end Go.Proofs.YtnfoijopccdjeaaGreat
namespace Go.Proofs.YtnfoijopccdjeaaGreat
open Go.Gl
section
attribute [local irreducible] z18
theorem z545 (a b:List Int) (ha:a.length≤maxLen) (hb:b.length≤maxLen):CallsA Tryz.prog 222 [lst 1 enI a,lst 1 enI b] [] (.bool (decide (a=b))) []:=by
 unfold maxLen at ha hb
 refine z16 z14 Tryz.func222 rfl rfl 26 Tryz.ntmps222 (by simp) ?_
 repeat (refine y4 ok _ _ _ _ _ rfl ?_)
 refine z53 (fun h=>?_) (fun h=>?_)
 ·repeat (refine y4 ok _ _ _ _ _ rfl ?_)
  have hne:a≠b:=by rintro rfl;exact h rfl
  rw [y82 hne]
  exact ⟨[],by decide,rfl,rfl,y3 rfl,trivial⟩
 ·have hl:a.length=b.length:=by omega
  repeat (refine y4 ok _ _ _ _ _ rfl ?_)
  refine z964 (fun k:Nat=>([(0,lst 1 enI a),(1,lst 1 enI b),(5,.int k)],[])) (fun k=>k≤a.length∧a.take k=b.take k) (fun k=>a.length - k) 0 (by simp)
   ⟨[],rfl,by decide,rfl,⟨⟨rfl,rfl⟩,⟨rfl,rfl⟩,⟨rfl,rfl⟩,trivial⟩,trivial⟩ ?_
  intro k hk
  repeat (refine y4 ok _ _ _ _ _ rfl ?_)
  refine z6 (fun h=>?_) (fun h=>?_)
  ·have hka:k < a.length:=by omega
   repeat (first|refine y4 ok _ _ _ _ _ rfl ?_|refine y43 (by omega) ?_)
   refine ⟨_,z540 _ _ _ (by omega),?_⟩
   repeat ((refine y43 (by omega) ?_))
   refine ⟨_,z540 _ _ _ (by omega),?_⟩
   repeat (first|refine y4 ok _ _ _ _ _ rfl ?_|refine z23 (by kernel_rfl) ?_)
   refine z53 (fun h=>?_) (fun h=>?_)
   ·repeat (refine y4 ok _ _ _ _ _ rfl ?_)
    have hne:a≠b:=by rintro rfl;exact h rfl
    rw [y82 hne]
    exact ⟨[],by decide,rfl,rfl,y3 rfl,trivial⟩
   ·repeat (first|refine y4 ok _ _ _ _ _ rfl ?_|refine y43 (by first|omega|(unfold inI;omega)) ?_)
    refine ⟨k+1,[],⟨by omega,?_⟩,by omega,rfl,by decide,rfl,⟨⟨rfl,rfl⟩,⟨rfl,rfl⟩,⟨rfl,rfl⟩,trivial⟩,trivial⟩
    have h' : a[k]=b[k]:=h
    rw [y50 hka,y50 (by omega),hk.2,h']
  ·repeat (refine y4 ok _ _ _ _ _ rfl ?_)
   have he:a=b:=by
    have:=hk.2
    rwa [y56 (by omega),y56 (by omega)] at this
   rw [y81 he]
   exact ⟨[],by decide,rfl,rfl,y3 rfl,trivial⟩
end
attribute [local irreducible] z18 AWP z33 z37 z34
end Go.Proofs.YtnfoijopccdjeaaGreat
namespace Go.Proofs.YtnfoijopccdjeaaGreat
open Go.Gl
attribute [local irreducible] z18 AWP z33 z37 z34 RetS z40
theorem z735 (a b:State) (ha:a.sm) (hb:b.sm):CallsA Tryz.prog 174 [.agg a.cs,.agg b.cs] [] (.bool (decide (a=b))) []:=by
 have h1:=ha.a
 have h2:=ha.b
 have h3:=hb.a
 have h4:=hb.b
 have c1:=z545 a.a b.a (by unfold maxLen;omega) (by unfold maxLen;omega)
 have c2:=z545 a.b b.b (by unfold maxLen;omega) (by unfold maxLen;omega)
 obtain ⟨a1,a2⟩:=a
 obtain ⟨b1,b2⟩:=b
 simp only at *
 have e:decide ((⟨a1,a2⟩:State)=⟨b1,b2⟩)=(decide (a1=b1) && decide (a2=b2)):=by
  by_cases h:a1=b1<;>by_cases k:a2=b2<;>simp [h,k]
 rw [e]
 generalize decide (a1=b1)=p at *
 generalize decide (a2=b2)=q at *
 refine z16 z14 Tryz.func174 rfl rfl 17 Tryz.ntmps174 (by simp) ?_
 cases p
 all_goals
  repeat' ((first|(apply y4 ok;rfl)|(apply z4 (c1);rfl;rfl)|(apply z4 (c2);rfl;rfl))<;>conv=>whnf)
  all_goals exact z32 rfl rfl
def z119 (t:State):List State→Int→Int
 |[],_=>-1
 |x::r,k=>if x=t then k else z119 t r (k+1)
theorem z362 (t:State):∀ (l:List State) (k:Int),0≤k→-1≤z119 t l k∧z119 t l k < k+l.length:=by
 intro l
 induction l with
 |nil=>intro k h;simp only [z119,y58];omega
 |cons x l ih =>
  intro k h
  simp only [z119,y57]
  split
  ·omega
  ·have:=ih (k+1) (by omega);omega
theorem z1026 (t:State) (l:List State) (k:Nat) (h:k < l.length):z119 t (l.drop k) k=if l[k]=t then (k:Int) else z119 t (l.drop (k+1)) ((k+1:Nat):Int):=by
 rw [y79 h,z119];rfl
theorem z1151 (l:List State) (t:State) (hl:l.length≤1000) (hs:∀ s∈l,s.sm) (ht:t.sm):CallsA Tryz.prog 122 [lst 2 State.cs l,.agg t.cs] [] (.int (z119 t l 0)) []:=by
 refine z16 z14 Tryz.func122 rfl rfl 19 Tryz.ntmps122 (by simp) ?_
 repeat' (((apply y4 ok;rfl))<;>conv=>whnf)
 refine z108 (fun k:Nat=>([(0,lst 2 State.cs l),(3,.ptr 0 none 0),(5,.int k)],[.cells 2 [t.cs]])) (fun k=>k≤l.length∧z119 t l 0=z119 t (l.drop k) k) (fun k=>l.length - k) 0 ⟨by omega,rfl⟩ ⟨[0],rfl,by decide,rfl,by repeat' (first|exact True.intro|exact ⟨rfl,rfl⟩|apply y43),by repeat' (first|exact True.intro|exact z22 rfl rfl|apply y43)⟩ ?_
 intro k hk
 by_cases hkl:k < l.length
 ·have c:=z735 l[k] t (hs _ (y44 _)) ht
  have e:=z1026 t l k hkl
  rw [e] at hk
  have g0:(l.map State.cs)[k]?=some (State.cs l[k]):=by rw [y51,y45 hkl];rfl
  by_cases hx:l[k]=t
  ·rw [if_pos hx] at hk
   rw [y81 hx] at c
   generalize l[k]=x at *
   repeat' ((first|(apply y4 ok;rfl)|(apply z23;kernel_rfl)|(refine z15 (i:=k) rfl g0 ?_)|(apply y43;omega)|((apply z6)<;>intro _)|(apply z4 (c);rfl;rfl))<;>conv=>whnf)
   all_goals first|(exfalso;omega)|exact z527 rfl hk.2
  ·rw [if_neg hx] at hk
   rw [y82 hx] at c
   generalize l[k]=x at *
   repeat' ((first|(apply y4 ok;rfl)|(apply z23;kernel_rfl)|(refine z15 (i:=k) rfl g0 ?_)|(apply y43;first|omega|(unfold inI;omega))|((apply z6)<;>intro _)|(apply z4 (c);rfl;rfl))<;>conv=>whnf)
   all_goals try (exfalso;omega)
   exact z97 (k+1) [0] ⟨by omega,hk.2⟩ (by omega) ⟨rfl,by decide,rfl,by repeat' (first|exact True.intro|exact ⟨rfl,rfl⟩|apply y43),by repeat' (first|exact True.intro|exact z22 rfl rfl|apply y43)⟩
 ·have e:l.drop k=[]:=y83 (by omega)
  rw [e] at hk
  repeat' ((first|(apply y4 ok;rfl)|(apply y43;omega)|(((with_reducible apply z9;omega));intro _)|((apply z6)<;>intro _))<;>conv=>whnf)
  all_goals first|(exfalso;omega)|exact z527 rfl hk.2
end Go.Proofs.YtnfoijopccdjeaaGreat
