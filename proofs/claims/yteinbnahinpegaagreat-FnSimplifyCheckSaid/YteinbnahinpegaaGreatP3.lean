/- A part of the proofs over this program: T140, T141, T142, T221, T222, T223, T143, T224, T144, T225, T145, T180, T226, T146, T147, T227, T148, T149, T228, T229, T150, T151. -/
import Derived.Test.YteinbnahinpegaaGreatP2
set_option linter.all false
namespace Go.Proofs.YteinbnahinpegaaGreat
open Go.Gl Proofs.Tryz
attribute [local irreducible] z18 AWP z38 z41 z40 RetS z42
theorem z623 (k:Int):QQ 123 [.int k] [] (.int (z246 k)) []:=by
 refine z16 z24 func123 rfl rfl 17 ntmps123 (by simp) ?_
 repeat' (first|apply y6 ok;rfl;conv=>whnf|apply z7<;>intro _<;>conv=>whnf)
 all_goals (refine z67 rfl rfl ?_;unfold z246;first|rw [if_pos (by omega)];rfl|rw [if_neg (by omega),if_pos (by omega)];rfl|rw [if_neg (by omega),if_neg (by omega),if_pos (by omega)];rfl|rw [if_neg (by omega),if_neg (by omega),if_neg (by omega)];rfl)
theorem z857 (l:List Tree) (d:Int):Tree.shapeFs l d=l.all (fun t=>t.shapeF d):=by
 induction l with
 |nil=>rfl
 |cons t l ih=>simp [Tree.shapeFs,ih]
theorem z393 (t:Tree) (d:Int):t.shapeF d=(decide (1≤d∧(t.kids.length:Int)=z246 t.kind∧0≤t.val∧t.val≤z543 t.kind) && t.kids.all fun t=>t.shapeF (d - 1)):=by
 cases t;simp only [Tree.shapeF,Tree.kids,Tree.kind,Tree.val,z857];rfl
theorem z1028 (t:Tree):t.mx→∀ d:Int,-100≤d→d≤100→QQ 124 [z61 Tree.cs' t,.int d] [] (.bool (t.shapeF d)) []:=by
  induction t using y27 with|h t ih=>?_
  intro hm d h0 h1
  rw [y28] at hm
  have hl:=hm.1
  unfold maxLen at hl
  rw [y16,z393]
  refine z16 z24 func124 rfl rfl 51 ntmps124 (by simp) ?_
  repeat' (first|apply y6 ok;rfl;conv=>whnf|apply z27;kernel_rfl;conv=>whnf|apply z7<;>intro _<;>conv=>whnf|apply z35<;>intro _<;>conv=>whnf|apply z8 (z623 _);rfl;rfl;conv=>whnf)
  all_goals first
    | (refine z34 rfl ?_
       rw [y80]
       · rfl
       · clear ih
         rintro ⟨c1,c2,c3,c4⟩
         unfold z543 at c4
         grind)
    | (have hg : decide (1 ≤ d ∧ (t.kids.length : Int) = z246 t.kind ∧ 0 ≤ t.val ∧ t.val ≤ z543 t.kind) = true := by
         clear ih
         refine y79 ?_
         unfold z543
         grind
       rw [hg,Bool.true_and]
       refine z111 (fun k:Nat=>([(1,.int d),(2,.ptr 0 none 0),(5,.int k)],[.cells 3 [[.int t.kind,.int t.val,lst 3 Tree.cs' t.kids]]])) (fun k=>k≤t.kids.length∧(t.kids.all fun t=>t.shapeF (d - 1))=(t.kids.drop k).all fun t=>t.shapeF (d - 1)) (fun k=>t.kids.length - k) 0 ⟨by omega,rfl⟩ ⟨[0],rfl,by decide,rfl,by repeat' (first|exact True.intro|exact ⟨rfl,rfl⟩|apply y40),by repeat' (first|exact True.intro|exact z43 rfl rfl|apply y40)⟩ ?_
       intro k hk
       repeat' (first|apply y6 ok;rfl;conv=>whnf|apply y40;(first|omega|unfold inI;omega);conv=>whnf|with_reducible apply z13;omega;intro _;conv=>whnf|apply z7<;>intro _<;>conv=>whnf|apply z82<;>intro _<;>conv=>whnf|apply z8 (ih t.kids[k] (y41 _) (hm.2 _ (y41 _)) (d - 1) (by omega) (by omega));rfl;rfl;conv=>whnf)
       · rename_i h1
         exact z34 rfl (by rw [hk.2,z207 _ _ _ (by assumption)];simp [h1])
       · rename_i h1
         exact z92 (k+1) [0] ⟨by omega,by rw [hk.2,z207 _ _ _ (by assumption)];simp [h1]⟩ (by omega) ⟨rfl,by decide,rfl,by repeat' (first|exact True.intro|exact ⟨rfl,rfl⟩|apply y40),by repeat' (first|exact True.intro|exact z43 rfl rfl|apply y40)⟩
       · exact z34 rfl (by rw [hk.2,z195 _ _ _ (by omega)]))
theorem z1236 (t:Tree):∀ d n:Nat,t.shapeF d=true→t.count n≤2 ^ d - 1:=by
 induction t using y27 with|h t ih=>?_
 intro d n h
 rw [z393,y68,decide_eq_true_eq] at h
 obtain ⟨⟨h1,h2,_,_⟩,h3⟩:=h
 rw [y76] at h3
 obtain ⟨d,rfl⟩:∃ e,d=e+1:=⟨d - 1,by omega⟩
 have e:((d+1:Nat):Int) - 1=(d:Nat):=by omega
 rw [e] at h3
 rw [z501]
 have hp:(1:Int)≤2 ^ d:=by exact_mod_cast Nat.one_le_two_pow
 have hq:((2:Int) ^ (d+1))=2 * 2 ^ d:=by rw [Int.pow_succ];omega
 split
 ·rename_i hn
  obtain ⟨n,rfl⟩:∃ e,n=e+1:=⟨n - 1,by omega⟩
  have e:((n+1:Nat):Int) - 1=(n:Nat):=by omega
  rw [e]
  have hl:(t.kids.length:Int)≤2:=by rw [h2];unfold z246;grind
  have hk:∀ u∈t.kids,u.count n≤2 ^ d - 1:=fun u hu=>ih u hu d n (h3 u hu)
  match hkk:t.kids with
  |[]=>simp only [List.map_nil,List.sum_nil];omega
  |[a] =>
   have:=hk a (by simp [hkk])
   simp only [List.map_cons,List.map_nil,List.sum_cons,List.sum_nil];omega
  |[a,b] =>
   have:=hk a (by simp [hkk])
   have:=hk b (by simp [hkk])
   simp only [List.map_cons,List.map_nil,List.sum_cons,List.sum_nil];omega
  |a::b::c::r=>rw [hkk] at hl;simp only [y55] at hl;omega
 ·omega
theorem z809 (t:Tree) (e d:Int) (he:e≤50) (hd:0≤d) (h:t.shapeF e=true):t.count d≤2 ^ 50:=by
 have h1:1≤e:=by
  rw [z393,y68,decide_eq_true_eq] at h;exact h.1.1
 obtain ⟨n,rfl⟩:=Int.eq_ofNat_of_zero_le (show 0≤e by omega)
 obtain ⟨m,rfl⟩:=Int.eq_ofNat_of_zero_le hd
 have h2:=z1236 t n m h
 have h4:(2:Int) ^ n≤2 ^ 50:=by exact_mod_cast Nat.pow_le_pow_right (by omega) (by omega)
 omega
theorem z1029 (t:Tree):t.mx→∀ e d:Int,e≤50→0≤d→d≤50→t.shapeF e=true→QQ 125 [z61 Tree.cs' t,.int d] [] (.int (t.count d)) []:=by
 induction t using y27 with|h t ih=>?_
 intro hm e d h0 h1 h2 hs
 rw [y28] at hm
 rw [z393,y68,decide_eq_true_eq,y76] at hs
 obtain ⟨⟨hs1,hs2,_,_⟩,hs3⟩:=hs
 have hl:(t.kids.length:Int)≤2:=by rw [hs2];unfold z246;grind
 rw [y16,z501]
 have hb:0 < d→∀ k,k≤t.kids.length→0≤((t.kids.take k).map fun t=>t.count (d - 1)).sum∧((t.kids.take k).map fun t=>t.count (d - 1)).sum≤k * 2 ^ 50:=by
  intro hd k
  induction k with
  |zero=>intro _;simp
  |succ k ihk =>
   intro hk
   have h1:=ihk (by omega)
   rw [z487 _ _ _ (by omega)]
   have h2:=z809 t.kids[k] (e - 1) (d - 1) (by omega) (by omega) (hs3 _ (y41 _))
   have h3:=Tree.count_pos.1 t.kids[k] (d - 1)
   omega
 refine z16 z24 func125 rfl rfl 29 ntmps125 (by simp) ?_
 repeat' ((apply y6 ok;rfl;conv=>whnf))
 by_cases hd:0 < d
 ·rw [if_pos hd]
  refine z111 (fun k:Nat=>([(1,.int d),(2,.ptr 0 none 0),(5,.int (1+((t.kids.take k).map fun t=>t.count (d - 1)).sum)),(6,.int k)],[.cells 3 [[.int t.kind,.int t.val,lst 3 Tree.cs' t.kids]]])) (fun k=>k≤t.kids.length) (fun k=>t.kids.length - k) 0 (by omega) ⟨[0],rfl,by decide,rfl,by repeat' (first|exact True.intro|exact ⟨rfl,rfl⟩|apply y40),by repeat' (first|exact True.intro|exact z43 rfl rfl|apply y40)⟩ ?_
  intro k hk
  have hbk:=hb hd k hk
  have hbk1:=fun h=>hb hd (k+1) h
  have hss:=fun h=>z487 (fun t=>t.count (d - 1)) t.kids k h
  repeat' (first|apply y6 ok;rfl;conv=>whnf|apply y40;(first|omega|unfold inI;omega);conv=>whnf|with_reducible apply z13;omega;intro _;conv=>whnf|apply z7<;>intro _<;>conv=>whnf|apply z8 (ih t.kids[k] (y41 _) (hm.2 _ (y41 _)) (e - 1) (d - 1) (by omega) (by omega) (by omega) (hs3 _ (y41 _)));rfl;rfl;conv=>whnf)
  ·have e1:=hss ‹_›
   have e2:=hbk1 (by omega)
   refine y40 (by unfold inI;omega) ?_
   conv=>whnf
   repeat' (first|apply y6 ok;rfl;conv=>whnf|apply y40;((unfold inI;omega));conv=>whnf)
   exact z92 (k+1) [0] (by omega) (by omega) ⟨rfl,by decide,rfl,⟨⟨rfl,rfl⟩,⟨rfl,rfl⟩,⟨rfl,by rw [e1,← Int.add_assoc];rfl⟩,⟨rfl,rfl⟩,trivial⟩,⟨z43 rfl rfl,trivial⟩⟩
  ·omega
  ·obtain rfl:k=t.kids.length:=by omega
   exact z67 rfl rfl (by rw [y53];rfl)
 ·rw [if_neg hd]
  refine z111 (fun k:Nat=>([(1,.int d),(2,.ptr 0 none 0),(5,.int 1),(6,.int k)],[.cells 3 [[.int t.kind,.int t.val,lst 3 Tree.cs' t.kids]]])) (fun k=>k≤t.kids.length) (fun k=>t.kids.length - k) 0 (by omega) ⟨[0],rfl,by decide,rfl,by repeat' (first|exact True.intro|exact ⟨rfl,rfl⟩|apply y40),by repeat' (first|exact True.intro|exact z43 rfl rfl|apply y40)⟩ ?_
  intro k hk
  repeat' (first|apply y6 ok;rfl;conv=>whnf|apply y40;(omega);conv=>whnf|with_reducible apply z13;omega;intro _;conv=>whnf|apply z7<;>intro _<;>conv=>whnf)
  ·omega
  ·exact z67 rfl rfl rfl
  ·exact z67 rfl rfl rfl
theorem z248 (t:Tree) (hm:t.mx):QQ 71 [z61 Tree.cs' t] [] (.bool t.fmB) []:=by
 rw [y21]
 refine z16 z24 func71 rfl rfl 10 ntmps71 (by simp) ?_
 repeat' (first|apply y6 ok;rfl;conv=>whnf|apply z83<;>intro _<;>conv=>whnf|apply z8 (z1028 t hm 6 (by omega) (by omega));rfl;rfl;conv=>whnf|apply z8 (z1029 t hm 6 6 (by omega) (by omega) (by omega) (by assumption));rfl;rfl;conv=>whnf)
 all_goals (refine z34 rfl ?_;(simp [*];done))
theorem z550:QQ 69 [] [] (.agg [.int 1,.int 0,.list 3 0 []]) []:=by
 refine z12 z24 func69 rfl rfl 2 ntmps69 (by simp) ?_
 repeat' (((apply y6 ok;rfl))<;>conv=>whnf)
 all_goals (refine rsD [] [] rfl ?_;(repeat' first|exact y83 _|exact z63|apply z57|constructor))
set_option maxHeartbeats 1600000 in
theorem z885 (bs:List Int) (hb:BytesOk bs):∀ (n:Nat) (d p:Int),d≤n+1→n≤100→0≤d→0≤p→p+drK n≤1000000000→∃ (t:Tree) (p' : Int),(t.sz≤drS n∧p≤p'∧p'≤p+drK n)∧QQ 70 [.ptr 0 none 0,.int d] [rdO bs p] (z61 Tree.cs' t) [rdO bs p']:=by
 intro n
 induction n with
 |zero =>
  intro d p hd hd1 hd0 hp hq
  rw [drK] at hq ⊢
  obtain ⟨v0,⟨l0,u0⟩,c0⟩:=z73 bs hb p 8 (by omega) (by omega) (by omega)
  by_cases h0:v0=0
  ·subst h0
   refine ⟨leaf 1 0,p+1,⟨by rw [z112];omega,by omega,by omega⟩,?_⟩
   refine z12 z24 func70 rfl rfl 43 ntmps70 (by simp) ?_
   repeat' ((first|apply y6 ok;rfl|apply z7<;>intro _|apply z8 z550;rfl;rfl|apply z31 [0] [] c0;rfl;rfl;rfl)<;>conv=>whnf)
   all_goals try (exfalso;omega)
   all_goals (refine rsD [0] [] rfl ?_;(repeat' first|exact y83 _|apply y85|constructor))
  ·obtain ⟨v1,m1,c1⟩:=z115 bs hb (p+1) (by omega) (by omega) [0,1,0,2] (by decide) (by decide)
   refine ⟨leaf 2 v1,p+1+1,⟨by rw [z112];omega,by omega,by omega⟩,?_⟩
   refine z12 z24 func70 rfl rfl 43 ntmps70 (by simp) ?_
   repeat' ((first|apply y6 ok;rfl|apply z7<;>intro _|(first|apply z15 [0] [] c0;rfl;rfl|apply z15 [0,2] [] c1;rfl;rfl);rfl;(focus ((repeat' first|exact z23|apply z19)<;>first|exact z58 rfl rfl|refine z30 ?_;((exact z6 fun _=>rfl)))))<;>conv=>whnf)
   all_goals try (exfalso;omega)
   all_goals (refine rsD [0] [] rfl ?_;(repeat' first|exact y83 _|exact z63|apply y85|apply z57|constructor))
 |succ n ih =>
  intro d p hd hd1 hd0 hp hq
  have hK:=z1231 n
  by_cases hlt:d < 2
  ·obtain ⟨t,p',h1,h2⟩:=ih d p (by omega) (by omega) hd0 hp (by rw [drK] at hq;omega)
   exact ⟨t,p',⟨by rw [drS];omega,h1.2.1,by rw [drK];omega⟩,h2⟩
  rw [drK] at hq
  rw [drK,drS]
  obtain ⟨w,⟨lw,uw⟩,cw⟩:=z73 bs hb p 5 (by omega) (by omega) (by omega)
  by_cases hw:w=0
  ·subst hw
   obtain ⟨v0,⟨l0,u0⟩,c0⟩:=z73 bs hb (p+1) 8 (by omega) (by omega) (by omega)
   by_cases h0:v0=0
   ·subst h0
    refine ⟨leaf 1 0,p+1+1,⟨by rw [z112];omega,by omega,by omega⟩,?_⟩
    refine z12 z24 func70 rfl rfl 43 ntmps70 (by simp) ?_
    repeat' ((first|apply y6 ok;rfl|apply z7<;>intro _|apply z8 z550;rfl;rfl|(first|apply z31 [0] [] cw;rfl;rfl|apply z31 [0] [] c0;rfl;rfl);rfl)<;>conv=>whnf)
    all_goals try (exfalso;omega)
    all_goals (refine rsD [0] [] rfl ?_;(repeat' first|exact y83 _|apply y85|constructor))
   ·obtain ⟨v1,m1,c1⟩:=z115 bs hb (p+1+1) (by omega) (by omega) [0,1,0,2] (by decide) (by decide)
    refine ⟨leaf 2 v1,p+1+1+1,⟨by rw [z112];omega,by omega,by omega⟩,?_⟩
    refine z12 z24 func70 rfl rfl 43 ntmps70 (by simp) ?_
    repeat' ((first|apply y6 ok;rfl|apply z7<;>intro _|(first|apply z15 [0] [] cw;rfl;rfl|apply z15 [0] [] c0;rfl;rfl|apply z15 [0,2] [] c1;rfl;rfl);rfl;(focus ((repeat' first|exact z23|apply z19)<;>first|exact z58 rfl rfl|refine z30 ?_;((exact z6 fun _=>rfl)))))<;>conv=>whnf)
    all_goals try (exfalso;omega)
    all_goals (refine rsD [0] [] rfl ?_;(repeat' first|exact y83 _|exact z63|apply y85|apply z57|constructor))
  ·obtain ⟨kd,mk,ck⟩:=z115 bs hb (p+1) (by omega) (by omega) [7,9,10,3,4,5,6,8] (by decide) (by decide)
   have ca:=z623 kd
   have ham:∃ m:Nat,z246 kd=m∧m≤2:=by
    simp only [List.mem_cons,List.not_mem_nil,or_false] at mk
    unfold z246
    rcases mk with rfl|rfl|rfl|rfl|rfl|rfl|rfl|rfl
    all_goals first|exact ⟨2,rfl,by omega⟩|exact ⟨1,rfl,by omega⟩
   obtain ⟨m,em,hm⟩:=ham
   rw [em] at ca
   obtain ⟨ks,pf,hks,hp0,hst,hpf⟩:=z394 (fun k q (t:Tree) q'=>t.sz≤drS n∧QQ 70 [.ptr 0 none 0,.int (d - 1)] [rdO bs q] (z61 Tree.cs' t) [rdO bs q']) (p+1+1) (drK n) m (fun k q hk h1 h2=>by
    have:drK n * k≤drK n:=by
     have:k=0∨k=1:=by omega
     rcases this with rfl|rfl<;>simp<;>omega
    obtain ⟨t,q',⟨a1,a2,a3⟩,a4⟩:=ih (d - 1) q (by omega) (by omega) (by omega) (by omega) (by omega)
    exact ⟨t,q',⟨a1,a4⟩,a2,a3⟩)
   have hpm:=hpf m (y49 _)
   have hKm:drK n * m≤2 * drK n:=by
    have:m=0∨m=1∨m=2:=by omega
    rcases this with rfl|rfl|rfl<;>simp<;>omega
   have hsum:(ks.map Tree.sz).sum≤2 * drS n:=by
    have:∀ (l:List Tree),(∀ t∈l,t.sz≤drS n)→(l.map Tree.sz).sum≤l.length * drS n:=by
     intro l
     induction l with
     |nil=>intro _;simp
     |cons t l ih =>
      intro h
      have h1:=h t (by simp)
      have h2:=ih fun u hu=>h u (by simp [hu])
      simp only [List.map_cons,List.sum_cons,y55,Nat.add_mul]
      omega
    have h1:=this ks fun t ht=>by
     obtain ⟨i,hi,rfl⟩:=List.mem_iff_getElem.1 ht
     exact (hst i hi).1
    have h2:ks.length * drS n≤2 * drS n:=Nat.mul_le_mul_right _ (by omega)
    omega
   refine ⟨.mk kd 0 ks,pf m,⟨by rw [z359];omega,by omega,by omega⟩,?_⟩
   refine z12 z24 func70 rfl rfl 43 ntmps70 (by simp) ?_
   rw [← hp0] at ck
   repeat' ((first|apply y6 ok;rfl|apply z7<;>intro _|apply z8 ca;rfl;rfl|(first|apply z15 [0] [] cw;rfl;rfl|apply z15 [0,2] [] ck;rfl;rfl);rfl;(focus ((repeat' first|exact z23|apply z19)<;>first|exact z58 rfl rfl|refine z30 ?_;((exact z6 fun _=>rfl)))))<;>conv=>whnf)
   all_goals try (exfalso;omega)
   refine y82 (y86 3 rfl) ?_
   refine z69 (fun k:Nat=>([(0,.ptr 0 none 0),(1,.int d),(4,.ptr 1 none 0),(5,.ptr 2 none 0),(6,.int (m - k))],[rdO bs (pf k),.cells 3 [[.int 0,.int 0,.nils]],.cells 3 [[.int kd,.int 0,.sref 3 0 k]],.cells 3 ((ks.take k).map Tree.cs')])) (fun k=>k≤m) (fun k=>m - k) 0 (by omega) (by refine swR [0,1,3,4] [] rfl rfl ?_;(repeat' first|exact y83 _|exact z56|apply y85|refine z11 rfl z39 ?_|constructor)) ?_
   intro k hk
   by_cases hkm:k < m
   ·have hc:=(hst k (by omega)).2
    have hkl:k < ks.length:=by omega
    rw [y16] at hc
    repeat' ((first|apply y6 ok;rfl|apply z27;kernel_rfl|(apply y40;first|unfold inI;omega|(try dsimp only);simp only [y46,y45,y44,y43,y55,y56];omega|exact ⟨rfl,z17 rfl z26⟩)|apply z7<;>intro _|apply z31 [0] [] hc;rfl;rfl;rfl)<;>conv=>whnf)
    all_goals try (exfalso;omega)
    refine z29 (k+1) (by omega) (by omega) (by refine swR [0,1,2,5] [] rfl rfl ?_;(repeat' first|exact y83 _|exact z419|refine z160 ?_;omega|apply y85|(refine z33 rfl ?_ ?_);(focus ((repeat' (first|exact z6 (fun _=>rfl)|apply z25));done))|refine z130 (by omega) (by omega) ?_|apply z97;rfl|constructor))
   ·have:k=m:=by omega
    subst this
    repeat' ((first|apply y6 ok;rfl|apply y40;omega|apply z7<;>intro _)<;>conv=>whnf)
    all_goals try (exfalso;omega)
    all_goals (refine rsD [0] [3] rfl ?_;(repeat' first|exact y83 _|refine z553 ?_;omega|apply y85|(apply z55 rfl rfl rfl);(focus ((repeat ((exact z48 (fun _=>rfl) _)));done));(focus (((simp;omega));done))|apply z57|constructor))
theorem z784 (bs:List Int) (hb:BytesOk bs) (p:Int) (hp:few p):∃ (t:Tree) (p' : Int),(t.sz≤20∧p≤p'∧p'≤p+100)∧QQ 23 [.ptr 0 none 0] [rdO bs p] (z61 Tree.cs' t) [rdO bs p']:=by
 obtain ⟨d,md,cd⟩:=z115 bs hb p (by omega) (by omega) [3,2,4,3] (by decide) (by decide)
 have hd:0≤d∧d≤4:=by simp at md;omega
 obtain ⟨t,q,⟨t1,t2,t3⟩,ct⟩:=z885 bs hb 3 d (p+1) (by omega) (by omega) (by omega) (by omega) (by simp only [drK];omega)
 simp only [drK] at t3
 simp only [drS] at t1
 have cv:=z248 t (z187 t (by unfold maxLen;omega))
 by_cases hv:t.fmB=true
 ·refine ⟨t,q,⟨by omega,by omega,by omega⟩,?_⟩
  rw [hv] at cv
  rw [y16] at *
  refine z12 z24 func23 rfl rfl 15 ntmps23 (by simp) ?_
  repeat' ((first|apply y6 ok;rfl|apply z8 cv;rfl;rfl|(first|apply z15 [0,2] [] cd;rfl;rfl|apply z15 [0] [] ct;rfl;rfl);rfl;(focus ((repeat' first|exact z23|apply z19)<;>first|exact z58 rfl rfl|refine z30 ?_;((exact z6 fun _=>rfl)))))<;>conv=>whnf)
  all_goals (refine rsD [0] [] rfl ?_;(repeat' first|exact y83 _|apply y85|constructor))
 ·refine ⟨.mk 10 0 [leaf 2 0],q,⟨by rw [z359];simp [z112],by omega,by omega⟩,?_⟩
  rw [(y69 _).mp hv] at cv
  rw [y16] at cv ct
  refine z12 z24 func23 rfl rfl 15 ntmps23 (by simp) ?_
  repeat' ((first|apply y6 ok;rfl|apply z8 cv;rfl;rfl|(first|apply z15 [0,2] [] cd;rfl;rfl|apply z15 [0] [] ct;rfl;rfl);rfl;(focus ((repeat' first|exact z23|apply z19)<;>first|exact z58 rfl rfl|refine z30 ?_;((exact z6 fun _=>rfl)))))<;>conv=>whnf)
  all_goals (refine rsD [0] [4] rfl ?_;(repeat' first|exact y83 _|exact z63|apply y85|refine z55 rfl rfl rfl rfl rfl ?_|apply z57|apply z97;rfl|constructor))
theorem argU (k v:Int) (a:Tree):z61 Tree.cs' (.mk k v [a])=.agg [.int k,.int v,.list 3 1 [Tree.cs' a]]:=by
 rw [y16]
 show AC.agg [AC.int k,AC.int v,lst 3 Tree.cs' [a]]=_
 rfl
theorem argB (k v:Int) (a b:Tree):z61 Tree.cs' (.mk k v [a,b])=.agg [.int k,.int v,.list 3 2 [Tree.cs' a,Tree.cs' b]]:=by
 rw [y16]
 rfl
theorem z514 (x:Tree):F2 LocLe (z299 [AC.int x.kind,AC.int x.val,lst 3 Tree.cs' x.kids]) (Tree.cs x):=by
 have e:Tree.cs x=[AC.int x.kind,AC.int x.val,lst 3 Tree.cs' x.kids]:=by rw [y18];exact AC.agg.inj (y16 x)
 rw [e];exact z326 _
theorem z690 (t:Tree):QQ 234 [z61 Tree.cs' t] [] (z61 Tree.cs' (notT t)) []:=by
 unfold notT
 rw [y16 t,y16]
 refine z12 z24 func234 rfl rfl 6 ntmps234 (by simp) ?_
 repeat' (((apply y6 ok;rfl))<;>conv=>whnf)
 all_goals (refine rsD [] [2] rfl ?_;(repeat' first|exact y83 _|exact z419|refine z55 rfl rfl rfl rfl rfl ?_|apply z57|apply z97;rfl|constructor))
 all_goals exact z514 _
theorem z1183 (k:Int):QQ 235 [.int k] [] (.int (z1229 k)) []:=by
 unfold z1229
 refine z12 z24 func235 rfl rfl 10 ntmps235 (by simp) ?_
 repeat' ((first|apply y6 ok;rfl|apply z7<;>intro _)<;>conv=>whnf)
 all_goals (refine rsL [] [] rfl ?_;refine RetS.done (z160 ?_) .nil;first|rw [if_pos (by omega)];done|rw [if_neg (by omega),if_pos (by omega)];done|rw [if_neg (by omega),if_neg (by omega),if_pos (by omega)];done|rw [if_neg (by omega),if_neg (by omega),if_neg (by omega)];done)
set_option maxHeartbeats 3200000 in
theorem z1182 (t:Tree):t.goodF→∀ neg:Bool,QQ 206 [z61 Tree.cs' t,.bool neg] [] (z61 Tree.cs' (t.nrm neg)) []:=by
 induction t using y27 with|h t ih=>?_
 intro hg neg
 have hT:=z550
 cases y22 hg with
 |tr =>
  rw [z1156]
  have cn:=(z690 (.mk 1 0 [])).arg (args0:=[.agg [.int 1,.int 0,.nils]]) (by (repeat' first|exact y83 _|exact z63|apply z57|constructor))
  cases neg
  all_goals
   refine z12 z24 func206 rfl rfl 86 ntmps206 (by simp) ?_
   repeat' ((first|apply y6 ok;rfl|apply z8 cn;rfl;rfl)<;>conv=>whnf)
   all_goals (refine rsD [] [] rfl ?_;(repeat' first|exact y83 _|exact z63|apply z57|constructor))
 |«at» v h0 h1 =>
  rw [z1158]
  have cn:=(z690 (.mk 2 v [])).arg (args0:=[.agg [.int 2,.int v,.nils]]) (by (repeat' first|exact y83 _|exact z63|apply z57|constructor))
  cases neg
  all_goals
   refine z12 z24 func206 rfl rfl 86 ntmps206 (by simp) ?_
   repeat' ((first|apply y6 ok;rfl|apply z8 cn;rfl;rfl)<;>conv=>whnf)
   all_goals (refine rsD [] [] rfl ?_;(repeat' first|exact y83 _|exact z63|apply z57|constructor))
 |un k a hk ha =>
  have ca:=ih a (by simp [Tree.kids]) ha
  clear ih
  have cn:=z690 truT
  rcases hk with rfl|rfl|rfl|rfl
  ·rw [z874,argU 3 0 a]
   have ca:=ca (!neg)
   refine z12 z24 func206 rfl rfl 86 ntmps206 (by simp) ?_
   repeat' ((first|apply y6 ok;rfl|refine ⟨_,rfl,?_⟩|apply y40;omega|apply z8 ca;rfl;rfl)<;>conv=>whnf)
   all_goals (refine rsD [] [] rfl ?_;(repeat' first|exact y83 _|constructor))
  ·rw [z682,argU 6 0 a]
   have ca:=ca neg
   generalize a.nrm neg=x at *
   rw [y16 x] at ca
   refine z12 z24 func206 rfl rfl 86 ntmps206 (by simp) ?_
   repeat' ((first|apply y6 ok;rfl|refine ⟨_,rfl,?_⟩|apply y40;omega|apply z8 ca;rfl;rfl)<;>conv=>whnf)
   all_goals (refine rsD [] [2] rfl ?_;(repeat' first|exact y83 _|refine z55 rfl rfl rfl rfl rfl ?_|apply z57|apply z97;rfl|constructor))
   all_goals exact z514 _
  ·rw [z1157,argU 9 0 a]
   have ca:=ca neg
   generalize a.nrm neg=x at *
   rw [y16 x] at ca
   cases neg
   all_goals
    refine z12 z24 func206 rfl rfl 86 ntmps206 (by simp) ?_
    repeat' ((first|apply y6 ok;rfl|apply z27;kernel_rfl|refine ⟨_,rfl,?_⟩|apply y40;omega|apply z8 ca;rfl;rfl|apply z8 hT;rfl;rfl|apply z8 cn;rfl;rfl)<;>conv=>whnf)
    all_goals (refine rsD [] [3] rfl ?_;(repeat' first|exact y83 _|refine z55 rfl rfl rfl rfl rfl ?_|apply z57|apply z97;rfl|constructor))
    all_goals exact z514 _
  ·rw [z1159,argU 10 0 a]
   have ca:=ca neg
   generalize a.nrm neg=x at *
   rw [y16 x] at ca
   cases neg
   all_goals
    refine z12 z24 func206 rfl rfl 86 ntmps206 (by simp) ?_
    repeat' ((first|apply y6 ok;rfl|apply z27;kernel_rfl|refine ⟨_,rfl,?_⟩|apply y40;omega|apply z8 ca;rfl;rfl|apply z8 hT;rfl;rfl|apply z8 cn;rfl;rfl)<;>conv=>whnf)
    all_goals (refine rsD [] [3] rfl ?_;(repeat' first|exact y83 _|refine z55 rfl rfl rfl rfl rfl ?_|apply z57|apply z97;rfl|constructor))
    all_goals exact z514 _
 |bin k a b hk ha hb =>
  have ca:=ih a (by simp [Tree.kids]) ha neg
  have cb:=ih b (by simp [Tree.kids]) hb neg
  clear ih
  have cd:=z1183 k
  rw [z875 _ _ _ _ _ hk,argB k 0 a b]
  generalize a.nrm neg=x at *
  generalize b.nrm neg=y at *
  rw [y16 x] at ca
  rw [y16 y] at cb
  generalize z1229 k=k' at *
  cases neg
  all_goals
   refine z12 z24 func206 rfl rfl 86 ntmps206 (by simp) ?_
   repeat' ((first|apply y6 ok;rfl|apply z27;kernel_rfl|refine ⟨_,rfl,?_⟩|apply y40;omega|(first|apply z7|apply z35)<;>intro _|apply z8 ca;rfl;rfl|apply z8 cb;rfl;rfl|apply z8 cd;rfl;rfl)<;>conv=>whnf)
   all_goals try (exfalso;omega)
   all_goals (refine rsD [] [2] rfl ?_;(repeat' first|exact y83 _|refine z55 rfl rfl rfl rfl rfl ?_|apply z57|apply z97;rfl|constructor))
   all_goals exact z514 _
theorem z1030 (t:Tree) (h:t.sz≤1000000):QQ 68 [z61 Tree.cs' t] [] (ownT t) [.cells 3 (t.kids.map Tree.cs')]:=by
 induction t using y27 with|h t ih=>?_
 have hkl:t.kids.length≤1000000:=by rw [y36] at h;omega
 have hks:∀ u∈t.kids,u.sz≤1000000:=fun u hu=>by
  have:=z472 Tree.sz hu
  rw [y36] at h;omega
 rw [y16 t]
 obtain ⟨k,v,l⟩:=t
 simp only [Tree.kind,Tree.val,Tree.kids] at *
 have hcs:∀ (i:Nat) (hi:i < l.length),QQ 68 [z61 Tree.cs' l[i]] [] (z61 Tree.cs' l[i]) []:=fun i hi =>
  z678 (ih _ (y41 _) (hks _ (y41 _)))
 unfold ownT
 simp only [Tree.kind,Tree.val,Tree.kids] at *
 refine z12 z24 func68 rfl rfl 29 ntmps68 (by simp) ?_
 repeat' (((apply y6 ok;rfl))<;>conv=>whnf)
 refine y82 (y86 3 rfl) ?_
 refine z69 (fun i:Nat=>([(1,.ptr 0 none 0),(2,.ptr 1 none 0),(3,.ptr 2 none 0),(4,.int i)],[.cells 3 [[.int k,.int v,lst 3 Tree.cs' l]],.cells 3 [[.int 0,.int 0,.nils]],.cells 3 [[.int k,.int v,.sref 3 0 i]],.cells 3 ((l.take i).map Tree.cs')])) (fun i=>i≤l.length) (fun i=>l.length - i) 0 (by omega) (by refine swR [0,1,2,3] [] rfl rfl ?_;(repeat' first|exact y83 _|exact z56|apply y85|refine z11 rfl z39 ?_|constructor)) ?_
 intro i hi
 by_cases hil:i < l.length
 ·have hc:=hcs i hil
  repeat' ((first|apply y6 ok;rfl|apply z27;kernel_rfl|(apply y40;first|omega|unfold inI;omega|(try dsimp only);simp only [y46,y45,y44,y43,y55,y56];omega|exact ⟨rfl,z17 rfl z26⟩)|((with_reducible apply z13;omega));intro _|apply z7<;>intro _|apply z8 hc;rfl;rfl)<;>conv=>whnf)
  all_goals try (exfalso;omega)
  refine z29 (i+1) (by omega) (by omega) (by refine swR [0,1,2,5] [] rfl rfl ?_;(repeat' first|exact y83 _|apply y85|(refine z33 rfl ?_ ?_);(focus ((repeat' (first|exact z6 (fun _=>rfl)|apply z25));done))|refine z130 (by omega) (by omega) ?_|constructor))
 ·have e:i=l.length:=by omega
  subst e
  rw [y53]
  repeat' ((first|apply y6 ok;rfl|apply y40;omega|((with_reducible apply z13;omega));intro _|apply z7<;>intro _)<;>conv=>whnf)
  all_goals try (exfalso;omega)
  all_goals (refine rsD [3] [] rfl ?_;(repeat' first|exact y83 _|exact z10 _|refine z11 rfl (z6 (fun _=>rfl)) ?_|constructor))
theorem z406 (t:Tree) (hs:t.sz≤1000):QQ 149 [z61 Tree.cs' t] [] (.tup [z61 Tree.cs' (if t.fmB=true∧(t.nrm false).fmB=true then t.nrm false else dftT),.bool (decide (t.fmB=true∧(t.nrm false).fmB=true))]) []:=by
 have cv:=z248 t (z187 t (by unfold maxLen;omega))
 by_cases h1:t.fmB=true
 ·have hg:=y24 h1
  have cp:=z1182 t hg false
  have hz:=y29 t hg false
  have cw:=z248 (t.nrm false) (z187 _ (by unfold maxLen;omega))
  rw [h1] at cv ⊢
  generalize t.nrm false=u at *
  by_cases h2:u.fmB=true
  ·rw [h2] at cw ⊢
   rw [if_pos ⟨rfl,rfl⟩,y79 ⟨rfl,rfl⟩]
   rw [y16 t] at cv cp ⊢
   rw [y16 u] at cp cw ⊢
   refine z12 z24 func149 rfl rfl 16 ntmps149 (by simp) ?_
   repeat' ((first|apply y6 ok;rfl|apply z8 cv;rfl;rfl|apply z8 cp;rfl;rfl|apply z8 cw;rfl;rfl)<;>conv=>whnf)
   all_goals (refine rsD [] [] rfl ?_;(repeat' first|exact y83 _|constructor))
  ·rw [if_neg (fun h=>h2 h.2),y80 (fun h=>h2 h.2)]
   rw [(y69 _).mp h2] at cw
   rw [y16 t] at cv cp ⊢
   rw [y16 u] at cp cw
   refine z12 z24 func149 rfl rfl 16 ntmps149 (by simp) ?_
   repeat' ((first|apply y6 ok;rfl|apply z8 cv;rfl;rfl|apply z8 cp;rfl;rfl|apply z8 cw;rfl;rfl)<;>conv=>whnf)
   all_goals (refine rsD [] [] rfl ?_;(repeat' first|exact y83 _|exact z63|apply z57|apply z156|constructor))
 ·rw [if_neg (fun h=>h1 h.1),y80 (fun h=>h1 h.1)]
  rw [(y69 _).mp h1] at cv
  rw [y16 t] at cv ⊢
  refine z12 z24 func149 rfl rfl 16 ntmps149 (by simp) ?_
  repeat' ((first|apply y6 ok;rfl|apply z8 cv;rfl;rfl)<;>conv=>whnf)
  all_goals (refine rsD [] [] rfl ?_;(repeat' first|exact y83 _|exact z63|apply z57|apply z156|constructor))
theorem z1214 (a:Tree):a.mx→∀ b:Tree,b.mx→QQ 236 [z61 Tree.cs' a,z61 Tree.cs' b] [] (.bool (decide (a=b))) []:=by
 induction a using y27 with|h a ih=>?_
 intro ha b hb
 rw [y28] at ha hb
 have hal:=ha.1
 have hbl:=hb.1
 unfold maxLen at hal hbl
 rw [y16,y16]
 by_cases hk:a.kind=b.kind∧a.val=b.val∧a.kids.length=b.kids.length
 ·obtain ⟨k1,k2,k3⟩:=hk
  have hiff:(a=b)↔∀ i (h:i < a.kids.length) (h2:i < b.kids.length),a.kids[i]=b.kids[i]:=⟨fun e=>by subst e;exact fun _ _ _=>rfl,fun h=>Tree.ext k1 k2 (y72 k3 h)⟩
  have hc:∀ i (h:i < a.kids.length) (h2:i < b.kids.length),QQ 236 [z61 Tree.cs' a.kids[i],z61 Tree.cs' b.kids[i]] [] (.bool (decide (a.kids[i]=b.kids[i]))) []:=fun i h h2=>ih _ (y41 _) (ha.2 _ (y41 _)) _ (hb.2 _ (y41 _))
  clear ih
  have hT:(∀ i (h:i < a.kids.length) (h2:i < b.kids.length),a.kids[i]=b.kids[i])→decide (a=b)=true:=fun h=>y79 (hiff.2 h)
  have hF:∀ i (h:i < a.kids.length) (h2:i < b.kids.length),a.kids[i]≠b.kids[i]→decide (a=b)=false:=fun i h h2 hne=>y80 fun e=>hne (hiff.1 e i h h2)
  generalize decide (a=b)=D at *
  clear hiff
  generalize a.kids=A at *
  generalize b.kids=B at *
  refine z12 z24 func236 rfl rfl 46 ntmps236 (by simp) ?_
  repeat' ((first|apply y6 ok;rfl|apply z35<;>intro _)<;>conv=>whnf)
  all_goals try (exfalso;omega)
  refine z69 (fun i:Nat=>([(2,.ptr 0 none 0),(3,.ptr 1 none 0),(5,.int i)],[.cells 3 [[.int a.kind,.int a.val,lst 3 Tree.cs' A]],.cells 3 [[.int b.kind,.int b.val,lst 3 Tree.cs' B]]])) (fun i=>i≤A.length∧∀ j (h:j < A.length) (h2:j < B.length),j < i→A[j]=B[j]) (fun i=>A.length - i) 0 ⟨y50 _,fun j _ _ h=>absurd h (Nat.not_lt_zero _)⟩ (by refine swR [0,1] [] rfl rfl ?_;(repeat' first|exact y83 _|apply y85|constructor)) ?_
  rintro i ⟨hi,hj⟩
  by_cases hil:i < A.length
  ·have hil2:i < B.length:=by omega
   have c1:=hc i hil hil2
   have gA:(A.map Tree.cs')[i]?=some (Tree.cs' A[i]):=by rw [y48,y42 hil];rfl
   have gB:(B.map Tree.cs')[i]?=some (Tree.cs' B[i]):=by rw [y48,y42 hil2];rfl
   by_cases he:A[i]=B[i]
   ·rw [y79 he] at c1
    have hj2:∀ j (h:j < A.length) (h2:j < B.length),j < i+1→A[j]=B[j]:=fun j h h2 hji=>by
     rcases y67 j i with h3|h3
     ·exact hj j h h2 h3
     ·obtain rfl:j=i:=by omega
      exact he
    generalize A[i]=x at *
    generalize B[i]=y at *
    repeat' ((first|apply y6 ok;rfl|apply z27;kernel_rfl|refine z14 (i:=i) rfl gA ?_|refine z14 (i:=i) rfl gB ?_|(apply y40;first|omega|unfold inI;omega)|apply z7<;>intro _|apply z8 c1;rfl;rfl)<;>conv=>whnf)
    all_goals try (exfalso;omega)
    all_goals refine z29 (i+1) ⟨by omega,hj2⟩ (by omega) (by refine swR [0,1] [] rfl rfl ?_;(repeat' first|exact y83 _|apply y85|constructor))
   ·rw [y80 he] at c1
    have hD:=hF i hil hil2 he
    subst hD
    generalize A[i]=x at *
    generalize B[i]=y at *
    repeat' ((first|apply y6 ok;rfl|apply z27;kernel_rfl|refine z14 (i:=i) rfl gA ?_|refine z14 (i:=i) rfl gB ?_|apply y40;omega|apply z7<;>intro _|apply z8 c1;rfl;rfl)<;>conv=>whnf)
    all_goals try (exfalso;omega)
    all_goals (refine rsD [] [] rfl ?_;(repeat' first|exact y83 _|constructor))
  ·have hD:=hT (fun j h h2=>hj j h h2 (by omega))
   subst hD
   repeat' ((first|apply y6 ok;rfl|apply y40;omega|((with_reducible apply z13;omega));intro _|apply z7<;>intro _)<;>conv=>whnf)
   all_goals try (exfalso;omega)
   all_goals (refine rsD [] [] rfl ?_;(repeat' first|exact y83 _|constructor))
 ·rw [y80 (fun e=>hk (by subst e;exact ⟨rfl,rfl,rfl⟩))]
  clear ih
  refine z12 z24 func236 rfl rfl 46 ntmps236 (by simp) ?_
  repeat' ((first|apply y6 ok;rfl|apply z35<;>intro _)<;>conv=>whnf)
  all_goals first|exfalso;omega|refine rsD [] [] rfl ?_;(repeat' first|exact y83 _|constructor)
theorem z785 (l:List Tree) (hl:l.length≤1000000) (hm:∀ t∈l,t.mx) (t:Tree) (ht:t.mx):QQ 208 [lst 3 Tree.cs' l,z61 Tree.cs' t] [] (.int (idxF (fun x=>decide (x=t)) l)) []:=by
 have hc:∀ i (h:i < l.length),QQ 236 [z61 Tree.cs' l[i],z61 Tree.cs' t] [] (.bool (decide (l[i]=t))) []:=fun i h=>z1214 _ (hm _ (y41 _)) _ ht
 rw [y16 t] at *
 refine z12 z24 func208 rfl rfl 19 ntmps208 (by simp) ?_
 repeat' (((apply y6 ok;rfl))<;>conv=>whnf)
 refine z69 (fun i:Nat=>([(0,lst 3 Tree.cs' l),(3,.ptr 0 none 0),(5,.int i)],[.cells 3 [[.int t.kind,.int t.val,lst 3 Tree.cs' t.kids]]])) (fun i=>i≤l.length∧∀ j (h:j < l.length),j < i→decide (l[j]=t)=false) (fun i=>l.length - i) 0 ⟨y50 _,fun j _ h=>absurd h (Nat.not_lt_zero _)⟩ (by refine swR [0] [] rfl rfl ?_;(repeat' first|exact y83 _|apply y85|constructor)) ?_
 rintro i ⟨hi,hj⟩
 by_cases hil:i < l.length
 ·have c1:=hc i hil
  have gl:(l.map Tree.cs')[i]?=some (Tree.cs' l[i]):=by rw [y48,y42 hil];rfl
  by_cases he:l[i]=t
  ·have e:idxF (fun x=>decide (x=t)) l=i:=z231 hil (y79 he) fun j h h2=>hj j h h2
   rw [e]
   rw [y79 he] at c1
   generalize l[i]=x at *
   repeat' ((first|apply y6 ok;rfl|apply z27;kernel_rfl|refine z14 (i:=i) rfl gl ?_|apply y40;omega|apply z7<;>intro _|apply z8 c1;rfl;rfl)<;>conv=>whnf)
   all_goals try (exfalso;omega)
   all_goals (refine rsD [] [] rfl ?_;(repeat' first|exact y83 _|constructor))
  ·have hj2:∀ j (h:j < l.length),j < i+1→decide (l[j]=t)=false:=fun j h hji=>by
    rcases y67 j i with h3|h3
    ·exact hj j h h3
    ·obtain rfl:j=i:=by omega
     exact y80 he
   rw [y80 he] at c1
   generalize l[i]=x at *
   repeat' ((first|apply y6 ok;rfl|apply z27;kernel_rfl|refine z14 (i:=i) rfl gl ?_|(apply y40;first|omega|unfold inI;omega)|apply z7<;>intro _|apply z8 c1;rfl;rfl)<;>conv=>whnf)
   all_goals try (exfalso;omega)
   all_goals refine z29 (i+1) ⟨by omega,hj2⟩ (by omega) (by refine swR [0] [] rfl rfl ?_;(repeat' first|exact y83 _|apply y85|constructor))
 ·have e:idxF (fun x=>decide (x=t)) l=-1:=z232 fun j h=>hj j h (by omega)
  rw [e]
  repeat' ((first|apply y6 ok;rfl|apply y40;omega|((with_reducible apply z13;omega));intro _|apply z7<;>intro _)<;>conv=>whnf)
  all_goals try (exfalso;omega)
  all_goals (refine rsD [] [] rfl ?_;(repeat' first|exact y83 _|constructor))
theorem z1184 (t:Tree) (h:t.sz≤1000000):QQ 68 [z61 Tree.cs' t] [] (z61 Tree.cs' t) []:=z678 (z1030 t h)
set_option maxHeartbeats 3200000 in
theorem z1181 (t:Tree):t.sz≤1000→∀ (o:List Tree),o.length+t.sz≤2000→(∀ x∈o,x.sz≤1000)→QQ 204 [.sref 0 0 o.length,z61 Tree.cs' t] [.cells 3 (o.map Tree.cs')] (.sref 1 0 (t.subs o).length) [.dead,.cells 3 ((t.subs o).map Tree.cs')]:=by
 induction t using y27 with|h t ih=>?_
 intro hs o ho hm
 have hsz:=y36 t
 have hkid:∀ k (h:k < t.kids.length),t.kids[k].sz≤1000:=fun k h=>by have:=z472 Tree.sz (y41 h);omega
 have hpre:∀ k,k≤t.kids.length→(Tree.subss (t.kids.take k) o).length≤o.length+((t.kids.take k).map fun u=>u.sz+1).sum∧∀ x∈Tree.subss (t.kids.take k) o,x.sz≤1000:=by
  intro k
  induction k with
  |zero=>intro _;exact ⟨by simp [Tree.subss],hm⟩
  |succ k ihk =>
   intro hk
   obtain ⟨a1,a2⟩:=ihk (by omega)
   obtain ⟨_,_,_,b4,b5,_⟩:=z440 t.kids[k] (Tree.subss (t.kids.take k) o)
   rw [y35 (by omega)]
   refine ⟨?_,fun x hx=>?_⟩
   ·rw [y47 (by omega),y61,List.sum_append]
    simp only [List.map_cons,List.map_nil,List.sum_cons,List.sum_nil]
    omega
   ·rcases b5 x hx with h|h
    ·exact a2 x h
    ·have:=hkid k (by omega);omega
 have hsum:∀ k,k≤t.kids.length→((t.kids.take k).map fun u=>u.sz+1).sum≤t.sz:=fun k hk=>by
  have h1:∀ l:List Tree,(l.map fun u=>u.sz+1).sum=l.length+(l.map Tree.sz).sum:=by
   intro l
   induction l with
   |nil=>rfl
   |cons a l ih=>simp only [List.map_cons,List.sum_cons,y55,ih];omega
  have h2:=z844 Tree.sz t.kids k
  rw [h1,y45];omega
 rw [y16 t,y33]
 have hl5:t.kids.length≤1000:=by omega
 have hfs:(∀ x∈Tree.subss t.kids o,x.sz≤1000):=by have:=(hpre t.kids.length (y49 _)).2;rwa [y53] at this
 have hfl:(Tree.subss t.kids o).length≤2000:=by have h1:=(hpre t.kids.length (y49 _)).1;have h2:=hsum t.kids.length (y49 _);rw [y53] at h1 h2;omega
 have cF:=z785 (Tree.subss t.kids o) (by omega) (fun x hx=>z187 x (by have:=hfs x hx;unfold maxLen;omega)) t (z187 t (by unfold maxLen;omega))
 have cC:=z1184 t (by omega)
 have hidx:=z287 (fun x=>decide (x=t)) (Tree.subss t.kids o)
 refine z12 z24 func204 rfl rfl 30 ntmps204 (by simp) ?_
 refine y82 (Reach.rnm 0 rfl) ?_
 conv=>whnf
 repeat' (((apply y6 ok;rfl))<;>conv=>whnf)
 refine z69 (fun x:Nat×List Tree=>([(0,.sref 1 0 x.2.length),(3,.ptr 2 none 0),(5,.int x.1)],[.dead,.cells 3 (x.2.map Tree.cs'),.cells 3 [[.int t.kind,.int t.val,lst 3 Tree.cs' t.kids]]])) (fun x=>x.1≤t.kids.length∧Tree.subss (t.kids.take x.1) o=x.2) (fun x=>t.kids.length - x.1) (0,o) ⟨y50 _,by simp [Tree.subss]⟩ (by refine swR [0,1,2] [] rfl rfl ?_;(repeat' first|exact y83 _|exact z10 _|apply y85|refine z11 rfl (z6 (fun _=>rfl)) ?_|constructor)) ?_
 rintro ⟨i,q⟩ ⟨hi,hq⟩
 dsimp only at hi hq ⊢
 obtain ⟨p1,p2⟩:=hpre i hi
 have p3:=hsum i hi
 rw [hq] at p1 p2
 have hql:q.length≤2000:=by omega
 by_cases hil:i < t.kids.length
 ·have ci:=ih t.kids[i] (y41 _) (hkid i hil) q (by
   have h1:=hsum (i+1) (by omega)
   rw [y47 hil,y61,List.sum_append] at h1
   simp only [List.map_cons,List.map_nil,List.sum_cons,List.sum_nil] at h1
   omega) p2
  have ht:=y35 hil o
  rw [hq] at ht
  have gk:(t.kids.map Tree.cs')[i]?=some (Tree.cs' t.kids[i]):=by rw [y48,y42 hil];rfl
  clear ih cF hidx
  generalize t.kids[i]=u at *
  generalize u.subs q=q' at *
  repeat' ((first|apply y6 ok;rfl|refine z14 (i:=i) rfl gk ?_|(apply y40;first|omega|unfold inI;omega)|apply z7<;>intro _|apply z175 [1] [3] ci;rfl;(focus ((repeat' first|exact z62|apply z71)<;>(refine z89 rfl ?_;((exact z6 fun _=>rfl)))));rfl;(focus ((repeat' first|exact z23|apply z19)<;>first|exact z671|refine z30 ?_;((exact z6 fun _=>rfl)))))<;>conv=>whnf)
  all_goals try (exfalso;omega)
  all_goals refine z29 (i+1,q') ⟨by show i+1≤_;omega,ht⟩ (by show t.kids.length - (i+1) < t.kids.length - i;omega) (by refine swR [0,3,2] [] rfl rfl ?_;(repeat' first|exact y83 _|exact z10 _|apply y85|refine z11 rfl (z6 (fun _=>rfl)) ?_|constructor))
 ·obtain rfl:i=t.kids.length:=by omega
  rw [y53] at hq
  rw [hq] at cF hidx ⊢
  unfold addT
  by_cases hin:t∈q
  ·rw [if_pos hin]
   have hx:0≤idxF (fun x=>decide (x=t)) q:=by
    rw [List.any_eq_true.2 ⟨t,hin,by simp⟩] at hidx
    exact of_decide_eq_true hidx
   generalize idxF (fun x=>decide (x=t)) q=z at *
   rw [y16 t] at cF
   repeat' ((first|apply y6 ok;rfl|apply y40;omega|((with_reducible apply z13;omega));intro _|apply z7<;>intro _|apply z120 [] [1] [] cF;(focus (exact z60 (z353 rfl rfl rfl (by simp) (z48 (fun _=>rfl) _)) (z60 rfl z87)));rfl;rfl;(focus ((repeat' exact z23)<;>fail));((refine .inr ⟨rfl,?_⟩;repeat' exact True.intro)))<;>conv=>whnf)
   all_goals try (exfalso;omega)
   all_goals (refine rsD [0,1] [] rfl ?_;(repeat' first|exact y83 _|exact z10 _|refine z11 rfl (z6 (fun _=>rfl)) ?_|constructor))
  ·rw [if_neg hin]
   have hx:¬ 0≤idxF (fun x=>decide (x=t)) q:=fun h=>by
    rw [y79 h] at hidx
    obtain ⟨x,h1,h2⟩:=List.any_eq_true.1 hidx.symm
    rw [of_decide_eq_true h2] at h1
    exact hin h1
   generalize idxF (fun x=>decide (x=t)) q=z at *
   rw [y16 t] at cC cF
   repeat' ((first|apply y6 ok;rfl|(apply y40;first|omega|(try dsimp only);simp only [y46,y45,y44,y43,y55,y56];omega|exact ⟨rfl,z17 rfl z26⟩)|((with_reducible apply z13;omega));intro _|apply z7<;>intro _|apply z8 cC;rfl;rfl|apply z120 [] [1] [] cF;(focus (exact z60 (z353 rfl rfl rfl (by simp) (z48 (fun _=>rfl) _)) (z60 rfl z87)));rfl;rfl;(focus ((repeat' exact z23)<;>fail));((refine .inr ⟨rfl,?_⟩;repeat' exact True.intro)))<;>conv=>whnf)
   all_goals try (exfalso;omega)
   all_goals (refine rsD [0,4] [] rfl ?_;(repeat' first|exact y83 _|exact z419|refine z44 ?_;((simp;done))|(refine z33 rfl ?_ ?_);(focus ((repeat' (first|exact z6 (fun _=>rfl)|apply z25));done))|refine z77 ?_ ?_;(focus omega)|apply z97;rfl|constructor))
def fnL (N:Nat) (f:Nat→Int):List Int:=(List.range N).map f
theorem z136 (N:Nat) (f:Nat→Int):(fnL N f).length=N:=by simp [fnL]
theorem z172 {N u:Nat} (f:Nat→Int) (h:u < N):((fnL N f).map enI)[u]?=some (enI (f u)):=by
 unfold fnL
 rw [y48,y48,List.getElem?_range h];rfl
theorem fnL_set {N u:Nat} (f:Nat→Int) (x:Int):(fnL N f).set u x=fnL N (upd f u x):=by
 apply y72 (by simp [fnL])
 intro i h1 h2
 rw [List.getElem_set]
 simp only [fnL,List.getElem_map,List.getElem_range]
 split
 ·rename_i e;subst e;rw [z36]
 ·rename_i e;rw [z52 _ _ (fun h=>e h.symm)]
theorem z152 {N u:Nat} (f:Nat→Int) (x:Int):((fnL N f).map enI).set u (enI x)=(fnL N (upd f u x)).map enI:=by rw [← fnL_set,List.map_set]
def natL (l:List Nat):List Int:=l.map fun x:Nat=>(x:Int)
theorem z492 (l:List Nat):(natL l).length=l.length:=by simp [natL]
theorem natL_at {l:List Nat} {i:Nat} (h:i < l.length):((natL l).map enI)[i]?=some (enI (l[i]:Nat)):=by
 unfold natL
 rw [y48,y48,y42 h];rfl
theorem z533 {rows:List (List Int)} {u:Nat} (h:u < rows.length):(rows.map encL)[u]?=some (encL (rows.getD u [])):=by
 rw [y48,y42 h,z20 h];rfl
@[reducible] def visF:AC:=.fn (.func 214) [] [.ptr 0 none 0,.ptr 1 none 0,.ptr 3 none 0,.ptr 5 none 0,.ptr 6 none 0,.ptr 7 none 0,.ptr 8 none 0,.ptr 10 none 0]
@[reducible] def z1147 (rows:List (List Int)) (s:TS):List AObj:=[.cells 1 [[.int s.cnt]],.cells 1 [[.sref 2 0 rows.length]],.cells 1 ((fnL rows.length s.num).map enI),.cells 1 [[.sref 4 0 rows.length]],.cells 1 ((fnL rows.length s.low).map enI),.cells 1 [[.own 1 ((natL s.stk).map enI)]],.cells 1 [[lst 1 encL rows]],.cells 1 [[visF]],.cells 1 [[.sref 9 0 rows.length]],.cells 1 ((fnL rows.length s.part).map enI),.cells 1 [[.int s.prt]]]
set_option maxHeartbeats 12800000 in
theorem z987 (rows : List (List Int)) (hr : ∀ r ∈ rows, InN rows.length r) (hN : rows.length ≤ 100000) (hrl : ∀ r ∈ rows, r.length ≤ 1000000000) : ∀ (f : Nat) (s : TS) (g : List Nat) (u : Nat), unvN rows.length s.num ≤ f → TI rows s g → s.num u = 0 → u < rows.length → (∀ x ∈ g, RN rows x u) → s.prt ≤ s.cnt →
  QQ 214 [.int (u:Int),.ptr 0 none 0,.ptr 1 none 0,.ptr 3 none 0,.ptr 5 none 0,.ptr 6 none 0,.ptr 7 none 0,.ptr 8 none 0,.ptr 10 none 0] (z1147 rows s) (.tup []) (z1147 rows (z256 rows f u s)):=by
 intro f
 induction f with
 |zero =>
  intro s g u hf _ h0 hu _ _
  have:=z1089 (num:=s.num) hu h0
  omega
 |succ f ih =>
  intro s g u hf hI h0 hu hg hsp
  have hTL:=z1274 hr hf hI h0 hu hg
  have hc0:s.cnt≤100000:=by have:=hI.ct;omega
  have gr:=z533 hu
  have hrow:=z301 hr (u:Int)
  rw [y74] at hrow
  have hrowl:(rows.getD u []).length≤1000000000:=by rw [z20 hu];exact hrl _ (y41 _)
  have hte:z256 rows (f+1) u s=tEnd u ((rows.getD u []).foldl (z389 (z256 rows f) u) (z220 u s)):=rfl
  generalize hR:z256 rows (f+1) u s=R at *
  generalize hrw:rows.getD u []=row at *
  have e1:=z152 (N:=rows.length) (u:=u) s.num (s.cnt+1)
  have e2:=z152 (N:=rows.length) (u:=u) s.low (s.cnt+1)
  have g1:=z172 s.num hu
  have g2:=z172 s.low hu
  have l1:=z136 rows.length s.num
  have l2:=z136 rows.length s.low
  have hsl:s.stk.length≤100000:=by
   have:=z199 rows.length (natL s.stk) ?_ ?_
   ·rw [z492] at this;omega
   ·exact (hI.nd).map _ fun a b h=>by omega
   ·intro x hx
    obtain ⟨y,hy,rfl⟩:=List.mem_map.1 hx
    have:=hI.lt y ((hI.stk y).1 hy).1
    omega
  refine z12 z24 func214 rfl rfl 105 ntmps214 (by simp) ?_
  repeat' ((first|(fail_if_success apply z122 2);(fail_if_success apply z96 2);apply y6 ok;rfl|apply z27;kernel_rfl|refine z14 (i:=u) rfl g1 ?_|refine z14 (i:=u) rfl g2 ?_|(apply y40;first|omega|unfold inI;omega))<;>conv=>whnf)
  refine y82 (Gl.Reach.expose 5 0 0 rfl rfl rfl (z168 (fun _=>rfl) _) rfl) ?_
  conv=>whnf
  repeat' ((first|(fail_if_success apply z122 3);(fail_if_success apply z96 3);apply y6 ok;rfl|refine y40 ?_ ?_;(focus (dsimp only;simp only [y46,z492];omega))|refine z14 (i:=u) rfl gr ?_|(apply y40;first|omega|exact ⟨rfl,z17 rfl z26⟩))<;>conv=>whnf)
  refine y82 (Gl.Reach.absorb 5 13 0 0 rfl rfl rfl rfl (by simp) rfl (z90 (fun e he=>(z6 (fun _=>rfl)) e (List.mem_of_mem_take he)) (z235 rfl z39)) rfl) ?_
  conv=>whnf
  have e3:((natL s.stk).map enI).take ((natL s.stk).map enI).length++[enI (u:Int)]=(natL (s.stk++[u])).map enI:=by
   rw [y53];unfold natL;simp
  obtain ⟨T,hT⟩:∃ T:Nat→TS,T=fun k=>(row.take k).foldl (z389 (z256 rows f) u) (z220 u s):=⟨_,rfl⟩
  have hT0:T 0=z220 u s:=by rw [hT];rfl
  have hTs:∀ k (hk:k < row.length),T (k+1)=z389 (z256 rows f) u (T k) row[k]:=fun k hk=>by
   rw [hT]
   show (row.take (k+1)).foldl _ _=_
   rw [y47 hk,y60];rfl
  have hTn:R=tEnd u (T row.length):=by
   rw [hT,hte]
   show _=tEnd u ((row.take row.length).foldl _ _)
   rw [y53]
  have hTT:∀ k,k≤row.length→TL rows s (T k) g u (row.take k):=fun k hk=>by rw [hT];exact hTL k hk
  clear hT hTL hte hR
  have f1:(T 0).num=upd s.num u (s.cnt+1):=by rw [hT0];rfl
  have f2:(T 0).low=upd s.low u (s.cnt+1):=by rw [hT0];rfl
  have f3:(T 0).stk=s.stk++[u]:=by rw [hT0];rfl
  have f4:(T 0).cnt=s.cnt+1:=by rw [hT0];rfl
  have f5:(T 0).part=s.part:=by rw [hT0];rfl
  have f6:(T 0).prt=s.prt:=by rw [hT0];rfl
  refine z69 (fun k:Nat=>([(0,.int (u:Int)),(1,.ptr 0 none 0),(2,.ptr 1 none 0),(3,.ptr 3 none 0),(4,.ptr 5 none 0),(5,.ptr 6 none 0),(6,.ptr 7 none 0),(7,.ptr 8 none 0),(8,.ptr 10 none 0),(30,ints row),(31,.int row.length),(32,.int k)],[.cells 1 [[.int (T k).cnt]],.cells 1 [[.sref 2 0 rows.length]],.cells 1 ((fnL rows.length (T k).num).map enI),.cells 1 [[.sref 4 0 rows.length]],.cells 1 ((fnL rows.length (T k).low).map enI),.cells 1 [[.own 1 ((natL (T k).stk).map enI)]],.cells 1 [[lst 1 encL rows]],.cells 1 [[visF]],.cells 1 [[.sref 9 0 rows.length]],.cells 1 ((fnL rows.length (T k).part).map enI),.cells 1 [[.int (T k).prt]]])) (fun k=>k≤row.length) (fun k=>row.length - k) 0 (y50 _) (by refine swR [0,1,2,3,4,5,6,7,8,9,10] [] rfl rfl ?_;(repeat' first|exact y83 _|refine z160 ?_;omega|apply y85|refine z50 rfl (z6 (fun _=>rfl)) ?_|refine z11 rfl (z6 (fun _=>rfl)) ?_|constructor)<;>(first|refine z21 ?_;rw [f1];exact e1|refine z21 ?_;rw [f2];exact e2|rw [f5];exact z10 _|rw [f3];refine y11 ?_;rw [← e3];rfl)) ?_
  clear f1 f2 f3 f4 f5 f6 hT0 e1 e2 e3 g1 g2 l1 l2
  intro k hk
  have hL:=hTT k hk
  have hLI:=hL.inv
  have hL2:=hL.num
  have gu1:=z172 (T k).num hu
  have gu2:=z172 (T k).low hu
  have l1:=z136 rows.length (T k).num
  have l2:=z136 rows.length (T k).low
  have l3:=z136 rows.length (T k).part
  by_cases hk2:k < row.length
  ·have hs2:=hTs k hk2
   have gk:(row.map enI)[k]?=some (enI row[k]):=by rw [y48,y42 hk2];rfl
   have hv:=hrow _ (y41 hk2)
   have hvm:row[k]∈rows.getD u []:=by rw [hrw];exact y41 hk2
   generalize row[k]=v at *
   obtain ⟨w,rfl⟩:∃ w:Nat,v=w:=⟨v.toNat,by omega⟩
   have hw:w < rows.length:=by omega
   have gw1:=z172 (T k).num hw
   have gw3:=z172 (T k).part hw
   unfold z389 at hs2
   simp only [y74] at hs2
   have hnx:k+1≤row.length:=hk2
   generalize hS:T k=S at *
   generalize hS2:T (k+1)=S2 at *
   by_cases hw0:S.num w=0
   ·rw [if_pos hw0] at hs2
    have cW:=ih S (u::g) w (by have h1:=hL.cnt;have h2:=hLI.ct;have h3:=hI.ct;omega) hLI hw0 hw (fun x hx=>by
     rcases List.mem_cons.1 hx with rfl|hx
     ·exact .edge hvm
     ·exact (hg x hx).trans (.edge hvm)) (by have:=hL.prt;omega)
    generalize z256 rows f w S=S1 at *
    have hu1:=z172 S1.low hu
    have hw1:=z172 S1.low hw
    have l4:=z136 rows.length S1.low
    have e1:=z152 (N:=rows.length) (u:=u) S1.low (min (S1.low u) (S1.low w))
    have q1:S2.low=upd S1.low u (min (S1.low u) (S1.low w)):=by rw [hs2];rfl
    have q2:S2.num=S1.num:=by rw [hs2];rfl
    have q3:S2.part=S1.part:=by rw [hs2];rfl
    have q4:S2.stk=S1.stk:=by rw [hs2];rfl
    have q5:S2.cnt=S1.cnt:=by rw [hs2];rfl
    have q6:S2.prt=S1.prt:=by rw [hs2];rfl
    repeat' ((first|(fail_if_success apply z122 8);(fail_if_success apply z96 8);apply y6 ok;rfl|apply z27;kernel_rfl|refine z14 (i:=k) rfl gk ?_|refine z14 (i:=w) rfl gw1 ?_|apply y40;omega|((apply z13;omega));intro _|apply z7<;>intro _|apply z175 [0,1,2,3,4,5,6,7,8,9,10] [] cW;rfl;(focus ((repeat' first|exact z62|apply z71)<;>first|rfl|refine z89 rfl ?_;((exact z6 fun _=>rfl))));rfl;(focus ((repeat' first|exact z23|apply z19)<;>first|exact z58 rfl rfl|refine z30 ?_;((exact z6 fun _=>rfl)))))<;>conv=>whnf)
    all_goals try (exfalso;omega)
    repeat' ((first|apply y6 ok;rfl|apply z27;kernel_rfl|refine z14 (i:=u) rfl hu1 ?_|refine z14 (i:=w) rfl hw1 ?_|(apply y40;first|omega|unfold inI;omega))<;>conv=>whnf)
    all_goals refine z29 (k+1) hk2 (by omega) ?_
    all_goals dsimp only
    all_goals rw [hS2,q2,q3,q4,q5,q6,q1]
    all_goals exact (by refine swR [0,1,2,3,4,5,6,7,8,9,10] [] rfl rfl ?_;(repeat' first|exact y83 _|exact z10 _|apply y85|refine z50 rfl (z6 (fun _=>rfl)) ?_|refine z11 rfl (z6 (fun _=>rfl)) ?_|constructor)<;>((refine z21 ?_;exact e1)))
   ·rw [if_neg hw0] at hs2
    by_cases hp0:S.part w < 0
    ·rw [if_pos hp0] at hs2
     have e1:=z152 (N:=rows.length) (u:=u) S.low (min (S.low u) (S.num w))
     have q1:S2.low=upd S.low u (min (S.low u) (S.num w)):=by rw [hs2];rfl
     have q2:S2.num=S.num:=by rw [hs2];rfl
     have q3:S2.part=S.part:=by rw [hs2];rfl
     have q4:S2.stk=S.stk:=by rw [hs2];rfl
     have q5:S2.cnt=S.cnt:=by rw [hs2];rfl
     have q6:S2.prt=S.prt:=by rw [hs2];rfl
     repeat' ((first|apply y6 ok;rfl|apply z27;kernel_rfl|refine z14 (i:=k) rfl gk ?_|refine z14 (i:=w) rfl gw1 ?_|refine z14 (i:=w) rfl gw3 ?_|refine z14 (i:=u) rfl gu2 ?_|(apply y40;first|omega|unfold inI;omega)|((apply z13;omega));intro _|apply z7<;>intro _)<;>conv=>whnf)
     all_goals try (exfalso;omega)
     all_goals refine z29 (k+1) hk2 (by omega) ?_
     all_goals dsimp only
     all_goals rw [hS2,q2,q3,q4,q5,q6,q1]
     all_goals exact (by refine swR [0,1,2,3,4,5,6,7,8,9,10] [] rfl rfl ?_;(repeat' first|exact y83 _|exact z10 _|apply y85|refine z50 rfl (z6 (fun _=>rfl)) ?_|refine z11 rfl (z6 (fun _=>rfl)) ?_|constructor)<;>((refine z21 ?_;exact e1)))
    ·rw [if_neg hp0] at hs2
     repeat' ((first|apply y6 ok;rfl|apply z27;kernel_rfl|refine z14 (i:=k) rfl gk ?_|refine z14 (i:=w) rfl gw1 ?_|refine z14 (i:=w) rfl gw3 ?_|(apply y40;first|omega|unfold inI;omega)|((apply z13;omega));intro _|apply z7<;>intro _)<;>conv=>whnf)
     all_goals try (exfalso;omega)
     all_goals refine z29 (k+1) hk2 (by omega) ?_
     all_goals dsimp only
     all_goals rw [hS2,hs2]
     all_goals exact (by refine swR [0,1,2,3,4,5,6,7,8,9,10] [] rfl rfl ?_;(repeat' first|exact y83 _|exact z10 _|apply y85|refine z11 rfl (z6 (fun _=>rfl)) ?_|constructor))
  ·obtain rfl:k=row.length:=by omega
   have hpf:=hL.pref
   have hsu:u ∉ s.stk:=fun hm=>((hI.stk u).1 hm).1 h0
   have hnd:=hLI.nd
   have hpp:(T row.length).prt≤100001:=by have h1:=hL.prt;have h2:=hLI.ct;have h3:=hI.ct;have h4:=hL.cnt;omega
   generalize hS:T row.length=S at *
   unfold tEnd at hTn
   by_cases he:S.low u=S.num u
   ·rw [if_pos he] at hTn
    obtain ⟨B,hB⟩:=hpf
    have hcut:=z930 (A:=s.stk) (B:=B) hsu
    have hLl:S.stk.length=s.stk.length+1+B.length:=by rw [hB];simp;omega
    have hLs:S.stk.length≤100000:=by
     have:=z199 rows.length (natL S.stk) ?_ ?_
     ·rw [z492] at this;omega
     ·exact hnd.map _ fun a b h=>by omega
     ·intro x hx
      obtain ⟨y,hy,rfl⟩:=List.mem_map.1 hx
      have:=hLI.lt y ((hLI.stk y).1 hy).1
      omega
    have r1:R.stk=S.stk.take s.stk.length:=by
     rw [hTn];show S.stk.takeWhile _=_
     rw [hB,hcut.1];simp
    have r2:R.part=fun x=>if x∈S.stk.drop s.stk.length then (S.prt:Int) else S.part x:=by
     rw [hTn];show (fun x=>if x∈S.stk.dropWhile _ then _ else _)=_
     rw [hB,hcut.2];simp
    have r3:R.num=S.num:=by rw [hTn];rfl
    have r4:R.low=S.low:=by rw [hTn];rfl
    have r5:R.cnt=S.cnt:=by rw [hTn];rfl
    have r6:R.prt=S.prt+1:=by rw [hTn];rfl
    have hat:∀ j (hj:j < S.stk.length),(S.stk[j]=u↔j=s.stk.length):=by
     intro j hj
     have hu2:S.stk[s.stk.length]'(by omega)=u:=by simp [hB]
     constructor
     ·intro e
      have hne:=List.pairwise_iff_getElem.1 (List.nodup_iff_pairwise_ne.1 hnd)
      rcases Nat.lt_trichotomy j s.stk.length with h|h|h
      ·exact absurd (e.trans hu2.symm) (hne j s.stk.length hj (by omega) h)
      ·exact h
      ·exact absurd (hu2.trans e.symm) (hne s.stk.length j (by omega) hj h)
     ·rintro rfl;exact hu2
    have hlt:∀ j (hj:j < S.stk.length),S.stk[j] < rows.length:=fun j hj=>hLI.lt _ ((hLI.stk _).1 (y41 hj)).1
    have sl:=z492 S.stk
    repeat' ((first|(fail_if_success apply z122 14);(fail_if_success apply z96 14);apply y6 ok;rfl|apply z27;kernel_rfl|refine z14 (i:=u) rfl gu1 ?_|refine z14 (i:=u) rfl gu2 ?_|apply y40;omega|(first|with_reducible apply z13;omega|apply z13;omega);intro _|apply z7<;>intro _)<;>conv=>whnf)
    all_goals try (exfalso;omega)
    refine y82 (Gl.Reach.expose 5 0 0 rfl rfl rfl (z168 (fun _=>rfl) _) rfl) ?_
    obtain ⟨pm,hpm⟩:∃ pm:Nat→Nat→Int,pm=fun m x=>if x∈S.stk.drop m then (S.prt:Int) else S.part x:=⟨_,rfl⟩
    have hpm0:pm S.stk.length=S.part:=by rw [hpm];funext x;simp
    have hpmE:pm s.stk.length=R.part:=by rw [hpm,r2]
    have hpmS:∀ m (hm:m < S.stk.length),pm m=upd (pm (m+1)) S.stk[m] S.prt:=by
     intro m hm
     funext x
     by_cases hx:x=S.stk[m]
     ·rw [hx,z36,hpm]
      dsimp only
      rw [if_pos]
      rw [y77 hm]
      exact List.mem_cons_self
     ·rw [z52 _ _ hx,hpm]
      dsimp only
      rw [y77 hm]
      simp only [List.mem_cons,hx,false_or]
    clear hpm
    refine z69 (fun m:Nat=>([(0,.int (u:Int)),(1,.ptr 0 none 0),(2,.ptr 1 none 0),(3,.ptr 3 none 0),(4,.ptr 5 none 0),(5,.ptr 6 none 0),(6,.ptr 7 none 0),(7,.ptr 8 none 0),(8,.ptr 10 none 0),(12,.int ((natL S.stk).getD m (-1)))],[.cells 1 [[.int S.cnt]],.cells 1 [[.sref 2 0 rows.length]],.cells 1 ((fnL rows.length S.num).map enI),.cells 1 [[.sref 4 0 rows.length]],.cells 1 ((fnL rows.length S.low).map enI),.cells 1 [[.sref 11 0 m]],.cells 1 [[lst 1 encL rows]],.cells 1 [[visF]],.cells 1 [[.sref 9 0 rows.length]],.cells 1 ((fnL rows.length (pm m)).map enI),.cells 1 [[.int S.prt]],.cells 1 ((natL S.stk).map enI)])) (fun m=>s.stk.length≤m∧m≤S.stk.length) (fun m=>m) S.stk.length ⟨by omega,y49 _⟩ (by refine swR [0,1,2,3,4,5,6,7,8,9,10,11] [] rfl rfl ?_;(repeat' first|exact y83 _|exact z10 _|refine z44 ?_;((simp;omega))|apply y85|refine z11 rfl (z6 (fun _=>rfl)) ?_|constructor)<;>(first|rw [hpm0];exact z10 _|refine z160 ?_;simp [natL])) ?_
    rintro m ⟨hm1,hm2⟩
    by_cases hm:m=s.stk.length
    ·subst hm
     have htop:(natL S.stk).getD s.stk.length (-1)=(u:Int):=by
      rw [z20 (by rw [sl];omega)]
      unfold natL
      rw [List.getElem_map,(hat _ (by omega)).2 rfl]
     rw [htop]
     repeat' ((first|(fail_if_success apply z122 18);(fail_if_success apply z96 18);apply y6 ok;rfl|apply y40;omega|((apply z13;omega));intro _|apply z35<;>intro _)<;>conv=>whnf)
     all_goals try (exfalso;omega)
     refine y82 (Gl.Reach.trunc 11 s.stk.length rfl rfl) ?_
     refine y82 (Gl.Reach.absorb 5 11 0 0 rfl rfl rfl rfl (by simp [natL];omega) rfl (fun e he=>(z6 (fun _=>rfl)) e (List.mem_of_mem_take he)) rfl) ?_
     conv=>whnf
     repeat' ((first|apply y6 ok;rfl|apply y40;(unfold inI;omega))<;>conv=>whnf)
     have eR:z1147 rows R=[.cells 1 [[.int S.cnt]],.cells 1 [[.sref 2 0 rows.length]],.cells 1 ((fnL rows.length S.num).map enI),.cells 1 [[.sref 4 0 rows.length]],.cells 1 ((fnL rows.length S.low).map enI),.cells 1 [[.own 1 (((natL S.stk).map enI).take s.stk.length)]],.cells 1 [[lst 1 encL rows]],.cells 1 [[visF]],.cells 1 [[.sref 9 0 rows.length]],.cells 1 ((fnL rows.length (pm s.stk.length)).map enI),.cells 1 [[.int ((S.prt+1:Nat):Int)]]]:=by
      unfold z1147
      rw [r1,r3,r4,r5,r6,hpmE]
      simp [natL,List.map_take]
     rw [eR]
     (refine rsD [0,1,2,3,4,5,6,7,8,9,10] [] rfl ?_;(repeat' first|exact y83 _|exact z10 _|apply y85|refine z11 rfl (z6 (fun _=>rfl)) ?_|constructor))
    ·obtain ⟨m,rfl⟩:∃ m',m=m'+1:=⟨m - 1,by omega⟩
     have hmL:m < S.stk.length:=by omega
     have htop:(natL S.stk).getD (m+1) (-1)≠(u:Int):=by
      by_cases h:m+1 < S.stk.length
      ·rw [z20 (by rw [sl];exact h)]
       unfold natL
       rw [List.getElem_map]
       have:=(hat (m+1) h)
       omega
      ·rw [y65,y66 (by rw [sl];omega)]
       show (-1:Int)≠u
       omega
     have hnx:(natL S.stk).getD m (-1)=((S.stk[m]:Nat):Int):=by
      rw [z20 (by rw [sl];exact hmL)]
      unfold natL
      rw [List.getElem_map]
     have gst:=natL_at hmL
     have hwN:=hlt m hmL
     have hps:=hpmS m hmL
     generalize S.stk[m]=w at *
     have gw:=z172 (pm (m+1)) hwN
     have e1:=z152 (N:=rows.length) (u:=w) (pm (m+1)) S.prt
     rw [← hps] at e1
     generalize (natL S.stk).getD (m+1) (-1)=tp at *
     repeat' ((first|apply y6 ok;rfl|refine z14 (i:=m) ?_ gst ?_;(focus omega)|refine z14 (i:=w) rfl gw ?_|(apply y40;first|omega|unfold inI;omega)|apply z35<;>intro _)<;>conv=>whnf)
     all_goals try (exfalso;omega)
     all_goals refine z29 m ⟨by omega,by omega⟩ (by omega) ?_
     all_goals dsimp only
     all_goals rw [hnx]
     all_goals exact (by refine swR [0,1,2,3,4,5,6,7,8,9,10,11] [] rfl rfl ?_;(repeat' first|exact y83 _|exact z10 _|refine z44 ?_;(omega)|apply y85|refine z50 rfl (z6 (fun _=>rfl)) ?_|refine z11 rfl (z6 (fun _=>rfl)) ?_|constructor)<;>((refine z21 ?_;exact e1)))
   ·rw [if_neg he] at hTn
    subst hTn
    repeat' ((first|apply y6 ok;rfl|apply z27;kernel_rfl|refine z14 (i:=u) rfl gu1 ?_|refine z14 (i:=u) rfl gu2 ?_|apply y40;omega|(first|with_reducible apply z13;omega|apply z13;omega);intro _|apply z7<;>intro _)<;>conv=>whnf)
    all_goals try (exfalso;omega)
    all_goals (refine rsD [0,1,2,3,4,5,6,7,8,9,10] [] rfl ?_;(repeat' first|exact y83 _|exact z10 _|apply y85|refine z11 rfl (z6 (fun _=>rfl)) ?_|constructor))
theorem z1027 (t:Tree):QQ 205 [z61 Tree.cs' t] [] (.bool (z109 t)) []:=by
 rw [y16]
 unfold z109
 refine z12 z24 func205 rfl rfl 21 ntmps205 (by simp) ?_
 repeat' ((first|apply y6 ok;rfl|apply z7<;>intro _)<;>conv=>whnf)
 all_goals (refine rsL [] [] rfl ?_;refine RetS.done (bool_le ?_) .nil;first|rw [y79 (by omega)];done|rw [decide_eq_decide];omega)
set_option maxHeartbeats 3200000 in
theorem z1255 (t:Tree) (hs:t.sz≤200):QQ 148 [z61 Tree.cs' t] [] (.tup [lst 3 Tree.cs' (if bscB t then bscL (t.nrm false) else []),.bool (bscB t)]) []:=by
 have cn:=z406 t (by omega)
 unfold bscB
 by_cases h:t.fmB=true∧(t.nrm false).fmB=true
 ·rw [if_pos h,y79 h] at cn
  have hz:=y29 t (y24 h.1) false
  have hd:decide ((t.fmB=true∧(t.nrm false).fmB=true)∧(bscL (t.nrm false)).length≤5)=decide ((bscL (t.nrm false)).length≤5):=by
   rw [decide_eq_decide];exact ⟨fun h=>h.2,fun h2=>⟨h,h2⟩⟩
  rw [hd]
  clear hd h
  generalize t.nrm false=u at *
  have cS:=(z1181 u (by omega) [] (by simp;omega) (fun x hx=>by cases hx)).arg (args0:=[.nils,z61 Tree.cs' u]) (by (repeat' first|exact y83 _|exact z56|constructor))
  obtain ⟨_,_,_,hl,hz2,_⟩:=z440 u []
  unfold bscL
  simp only [y56,Nat.zero_add] at hl
  generalize u.subs []=L at *
  have hb:∀ k (hk:k < L.length),QQ 205 [z61 Tree.cs' L[k]] [] (.bool (z109 L[k])) []:=fun k hk=>z1027 _
  rw [y16 u] at cn cS
  refine z12 z24 func148 rfl rfl 43 ntmps148 (by simp) ?_
  repeat' ((first|(fail_if_success apply z122 5);(fail_if_success apply z96 5);apply y6 ok;rfl|apply z8 cn;rfl;rfl)<;>conv=>whnf)
  refine y82 (y86 3 rfl) ?_
  repeat' ((first|apply y6 ok;rfl|apply z15 [3] [4] cS;rfl;rfl;rfl;(focus ((repeat' first|exact z23|apply z19)<;>first|exact z671|refine z30 ?_;((exact z6 fun _=>rfl)))))<;>conv=>whnf)
  refine z69 (fun x:Nat×List Tree=>([(6,.sref 0 0 x.2.length),(7,.sref 1 0 L.length),(8,.int x.1)],[.cells 3 (x.2.map Tree.cs'),.cells 3 (L.map Tree.cs')])) (fun x=>x.1≤L.length∧(L.take x.1).filter z109=x.2) (fun x=>L.length - x.1) (0,[]) ⟨y50 _,rfl⟩ (by refine swR [2,4] [] rfl rfl ?_;(repeat' first|exact y83 _|exact z10 _|(refine z11 rfl ?_ ?_);(focus ((repeat' (first|exact z39|exact z6 (fun _=>rfl)));done))|constructor)) ?_
  rintro ⟨k,O⟩ ⟨hk,hO⟩
  dsimp only at hk hO ⊢
  have hOl:O.length≤L.length:=by
   rw [← hO]
   have:=List.length_filter_le z109 (L.take k)
   rw [y45] at this
   omega
  by_cases hkl:k < L.length
  ·have gk:(L.map Tree.cs')[k]?=some (Tree.cs' L[k]):=by rw [y48,y42 hkl];rfl
   have cb:=hb k hkl
   have ht:(L.take (k+1)).filter z109=O++(if z109 L[k]=true then [L[k]] else []):=by
    rw [y47 hkl,List.filter_append,hO]
    congr 1
    by_cases hb:z109 L[k]=true
    ·rw [if_pos hb,List.filter_cons_of_pos hb];rfl
    ·rw [if_neg hb,List.filter_cons_of_neg hb];rfl
   generalize L[k]=y at *
   by_cases hy:z109 y=true
   ·rw [hy] at cb
    rw [if_pos hy] at ht
    repeat' ((first|apply y6 ok;rfl|refine z14 (i:=k) rfl gk ?_|(apply y40;first|omega|unfold inI;omega|(try dsimp only);simp only [y46,y45,y44,y43,y55,y56];omega|exact ⟨rfl,z17 rfl z26⟩)|apply z7<;>intro _|apply z8 cb;rfl;rfl)<;>conv=>whnf)
    all_goals try (exfalso;omega)
    all_goals refine z29 (k+1,O++[y]) ⟨by show k+1≤_;omega,ht⟩ (by show L.length - (k+1) < L.length - k;omega) (by refine swR [3,1] [] rfl rfl ?_;(repeat' first|exact y83 _|exact z10 _|refine z44 ?_;((simp;done))|(first|refine z33 rfl ?_ ?_|refine z11 rfl ?_ ?_);(focus ((repeat' (first|exact z6 (fun _=>rfl)|apply z25));done))|refine z77 ?_ ?_;(focus omega)|constructor))
   ·rw [(y69 _).mp hy] at cb
    rw [if_neg hy,y62] at ht
    repeat' ((first|apply y6 ok;rfl|refine z14 (i:=k) rfl gk ?_|(apply y40;first|omega|unfold inI;omega)|apply z7<;>intro _|apply z8 cb;rfl;rfl)<;>conv=>whnf)
    all_goals try (exfalso;omega)
    all_goals refine z29 (k+1,O) ⟨by show k+1≤_;omega,ht⟩ (by show L.length - (k+1) < L.length - k;omega) (by refine swR [0,1] [] rfl rfl ?_;(repeat' first|exact y83 _|exact z10 _|refine z11 rfl (z6 (fun _=>rfl)) ?_|constructor))
  ·obtain rfl:k=L.length:=by omega
   rw [y53] at hO
   rw [hO]
   by_cases h5:O.length≤5
   ·rw [y79 h5,if_pos rfl]
    repeat' ((first|apply y6 ok;rfl|apply y40;omega|((apply z13;omega));intro _|apply z7<;>intro _)<;>conv=>whnf)
    all_goals try (exfalso;omega)
    all_goals (refine rsD [] [0] rfl ?_;(repeat' first|exact y83 _|(apply z55 rfl rfl rfl);(focus ((repeat ((exact z48 (fun _=>rfl) _)));done));(focus (((simp;done));done))|apply z156|constructor))
   ·rw [y80 h5,if_neg (by simp)]
    repeat' ((first|apply y6 ok;rfl|apply y40;omega|((apply z13;omega));intro _|apply z7<;>intro _)<;>conv=>whnf)
    all_goals try (exfalso;omega)
    all_goals (refine rsD [] [2] rfl ?_;(repeat' first|exact y83 _|constructor))
 ·rw [if_neg h,y80 h] at cn
  have hd:decide ((t.fmB=true∧(t.nrm false).fmB=true)∧(bscL (t.nrm false)).length≤5)=false:=y80 fun h2=>h h2.1
  rw [hd,if_neg (by simp)]
  refine z12 z24 func148 rfl rfl 43 ntmps148 (by simp) ?_
  repeat' ((first|apply y6 ok;rfl|apply z8 cn;rfl;rfl)<;>conv=>whnf)
  all_goals (refine rsD [] [2] rfl ?_;(repeat' first|exact y83 _|constructor))
theorem z320 (x a:Int) (h0:0≤x) (h1:x≤31) (h2:0≤a) (h3:a≤5):QQ 207 [.int x,.int a] [] (.bool (hasB x a)) []:=by
 have ha:a=0∨a=1∨a=2∨a=3∨a=4∨a=5:=by omega
 have h5:0≤x / 2 ^ a.toNat∧x / 2 ^ a.toNat≤31:=by
  rcases ha with rfl|rfl|rfl|rfl|rfl|rfl<;>simp<;>omega
 have hw:IntKind.u64.wrap a=a:=by
  rcases ha with rfl|rfl|rfl|rfl|rfl|rfl<;>decide
 refine z12 z24 func207 rfl rfl 11 ntmps207 (by simp) ?_
 repeat' ((first|apply y6 ok;rfl|apply y40;omega)<;>conv=>whnf)
 refine y40 (by unfold z129;omega) ?_
 conv=>whnf
 repeat' (((apply y6 ok;rfl))<;>conv=>whnf)
 all_goals (refine rsD [] [] rfl ?_;(repeat' first|exact y83 _|constructor))
structure BasL (B:List Tree):Prop where
 len:B.length≤5
 nd:B.Nodup
 sz:∀ x∈B,x.sz≤1000
 cl:∀ x∈B,In (·∈B) x
 bk:∀ x∈B,z109 x=true
 av:∀ v,Tree.mk 2 v []∈B→0≤v∧v≤2
theorem BasL.mx {B:List Tree} (h:BasL B):∀ x∈B,x.mx:=fun x hx=>z187 x (by have:=h.sz x hx;unfold maxLen;omega)
set_option maxHeartbeats 3200000 in
theorem z184 (B:List Tree) (hB:BasL B) (s:Int) (s0:0≤s) (s1:s≤31) (t:Tree) (h:In (·∈B) t):t.sz≤1000→QQ 151 [lst 3 Tree.cs' B,.int s,z61 Tree.cs' t] [] (.bool (vlB B s t)) []:=by
 have basic:∀ t,t∈B→z109 t=true→QQ 151 [lst 3 Tree.cs' B,.int s,z61 Tree.cs' t] [] (.bool (sgB B s t)) []:=fun t ht hb=>by
  have hl:=hB.len
  have cF:=z785 B (by omega) hB.mx t (hB.mx t ht)
  have hp:=plc_mem ht
  have cH:=z320 s (plc B t) s0 s1 hp.1 (by omega)
  have e:idxF (fun x=>decide (x=t)) B=plc B t:=rfl
  rw [e] at cF
  unfold sgB
  generalize plc B t=p at *
  unfold z109 at hb
  have hb:=of_decide_eq_true hb
  rw [y16 t] at cF ⊢
  refine z12 z24 func151 rfl rfl 62 ntmps151 (by simp) ?_
  repeat' ((first|apply y6 ok;rfl|apply y40;omega|((with_reducible apply z79;omega));intro _|apply z7<;>intro _|apply z8 cF;rfl;rfl|apply z8 cH;rfl;rfl)<;>conv=>whnf)
  all_goals first|exfalso;omega|refine rsD [] [] rfl ?_;(repeat' first|exact y83 _|constructor)
 unfold vlB
 induction h with
 |tr =>
  intro _
  rw [vl_tr]
  refine z12 z24 func151 rfl rfl 62 ntmps151 (by simp) ?_
  repeat' (((apply y6 ok;rfl))<;>conv=>whnf)
  all_goals (refine rsD [] [] rfl ?_;(repeat' first|exact y83 _|constructor))
 |«at» v hb=>intro _;rw [vl_at];exact basic _ hb (by simp [z109,Tree.kind])
 |nt =>
  intro _
  rw [vl_not,vl_tr]
  have c1:QQ 151 [lst 3 Tree.cs' B,.int s,z61 Tree.cs' (.mk 1 0 [])] [] (.bool true) []:=by
   refine z12 z24 func151 rfl rfl 62 ntmps151 (by simp) ?_
   repeat' (((apply y6 ok;rfl))<;>conv=>whnf)
   all_goals (refine rsD [] [] rfl ?_;(repeat' first|exact y83 _|constructor))
  rw [argU]
  refine z12 z24 func151 rfl rfl 62 ntmps151 (by simp) ?_
  repeat' ((first|apply y6 ok;rfl|refine ⟨_,rfl,?_⟩|apply y40;omega|apply z8 c1;rfl;rfl)<;>conv=>whnf)
  all_goals (refine rsD [] [] rfl ?_;(repeat' first|exact y83 _|constructor))
 |na v hb =>
  intro _
  rw [vl_not,vl_at]
  have c1:=basic _ hb (by simp [z109,Tree.kind])
  rw [argU]
  refine z12 z24 func151 rfl rfl 62 ntmps151 (by simp) ?_
  repeat' ((first|apply y6 ok;rfl|refine ⟨_,rfl,?_⟩|apply y40;omega|apply z8 c1;rfl;rfl)<;>conv=>whnf)
  all_goals (refine rsD [] [] rfl ?_;(repeat' first|exact y83 _|constructor))
 |an _ _ iha ihb =>
  rename_i a b _ _
  intro hs
  rw [z463] at hs
  have ca:=iha (by omega)
  have cb:=ihb (by omega)
  rw [vl_and,argB]
  generalize a.vl (sgB B s)=x at *
  generalize b.vl (sgB B s)=y at *
  cases x
  all_goals
   refine z12 z24 func151 rfl rfl 62 ntmps151 (by simp) ?_
   repeat' ((first|apply y6 ok;rfl|refine ⟨_,rfl,?_⟩|apply y40;omega|apply z8 ca;rfl;rfl|apply z8 cb;rfl;rfl)<;>conv=>whnf)
   all_goals (refine rsD [] [] rfl ?_;(repeat' first|exact y83 _|constructor))
 |or _ _ iha ihb =>
  rename_i a b _ _
  intro hs
  rw [z463] at hs
  have ca:=iha (by omega)
  have cb:=ihb (by omega)
  rw [vl_or,argB]
  generalize a.vl (sgB B s)=x at *
  generalize b.vl (sgB B s)=y at *
  cases x
  all_goals
   refine z12 z24 func151 rfl rfl 62 ntmps151 (by simp) ?_
   repeat' ((first|apply y6 ok;rfl|refine ⟨_,rfl,?_⟩|apply y40;omega|apply z8 ca;rfl;rfl|apply z8 cb;rfl;rfl)<;>conv=>whnf)
   all_goals (refine rsD [] [] rfl ?_;(repeat' first|exact y83 _|constructor))
 |nx hb _ _=>intro _;rw [vl_nx];exact basic _ hb (by simp [z109,Tree.kind])
 |un hb _ _ _ _=>intro _;rw [vl_un];exact basic _ hb (by simp [z109,Tree.kind])
 |re hb _ _ _ _=>intro _;rw [vl_re];exact basic _ hb (by simp [z109,Tree.kind])
theorem csU (k v:Int) (a:Tree):Tree.cs' (.mk k v [a])=[.int k,.int v,.list 3 1 [Tree.cs' a]]:=AC.agg.inj (argU k v a)
theorem csB2 (k v:Int) (a b:Tree):Tree.cs' (.mk k v [a,b])=[.int k,.int v,.list 3 2 [Tree.cs' a,Tree.cs' b]]:=AC.agg.inj (argB k v a b)
inductive FormB (B:List Tree):Tree→Prop
 |at (v:Int):FormB B (.mk 2 v [])
 |nx (a:Tree) (ha:In (·∈B) a) (sa:a.sz≤1000):FormB B (.mk 6 0 [a])
 |un (a b:Tree) (ha:In (·∈B) a) (hb:In (·∈B) b) (sa:a.sz≤1000) (sb:b.sz≤1000):FormB B (.mk 7 0 [a,b])
 |re (a b:Tree) (ha:In (·∈B) a) (hb:In (·∈B) b) (sa:a.sz≤1000) (sb:b.sz≤1000):FormB B (.mk 8 0 [a,b])
theorem BasL.form {B:List Tree} (h:BasL B) {x:Tree} (hx:x∈B):FormB B x:=by
 have h1:=h.cl x hx
 have h2:=h.bk x hx
 have h3:=h.sz x hx
 cases h1 with
 |tr=>simp [z109,Tree.kind] at h2
 |«at» v _=>exact .at v
 |nt=>simp [z109,Tree.kind] at h2
 |na v _=>simp [z109,Tree.kind] at h2
 |an _ _=>simp [z109,Tree.kind] at h2
 |or _ _=>simp [z109,Tree.kind] at h2
 |nx _ ha=>rw [z516] at h3;exact .nx _ ha (by omega)
 |un _ ha hb=>rw [z463] at h3;exact .un _ _ ha hb (by omega) (by omega)
 |re _ ha hb=>rw [z463] at h3;exact .re _ _ ha hb (by omega) (by omega)
theorem z1212 {B:List Tree} {s t:Int} (h:∀ i,i < B.length→folI B s t i=true):folB B s t=true:=by
 unfold folB;rw [y76];exact fun i hi=>h i (List.mem_range.1 hi)
theorem z1042 {B:List Tree} {s t:Int} {i:Nat} (hi:i < B.length) (h:folI B s t i=false):folB B s t=false:=by
 unfold folB;rw [List.all_eq_false];exact ⟨i,List.mem_range.2 hi,by rw [h];simp⟩
set_option maxHeartbeats 6400000 in
theorem z783 (B:List Tree) (hB:BasL B) (s t:Int) (s0:0≤s) (s1:s≤31) (t0:0≤t) (t1:t≤31):QQ 154 [lst 3 Tree.cs' B,.int s,.int t] [] (.bool (folB B s t)) []:=by
 have hl:=hB.len
 refine z12 z24 func154 rfl rfl 85 ntmps154 (by simp) ?_
 repeat' (((apply y6 ok;rfl))<;>conv=>whnf)
 refine z69 (fun i:Nat=>([(0,lst 3 Tree.cs' B),(1,.int s),(2,.int t),(7,.int i)],[])) (fun i=>i≤B.length∧∀ j,j < i→folI B s t j=true) (fun i=>B.length - i) 0 ⟨y50 _,fun j h=>absurd h (Nat.not_lt_zero _)⟩ (by refine swR [] [] rfl rfl ?_;(repeat' first|exact y83 _|constructor)) ?_
 rintro i ⟨hi,hj⟩
 by_cases hil:i < B.length
 ·have gk:(B.map Tree.cs')[i]?=some (Tree.cs' (B.getD i dftT)):=by rw [y48,y42 hil,z20 hil];rfl
  have hf:=hB.form (x:=B.getD i dftT) (by rw [z20 hil];exact y41 _)
  have cw:=z320 s i s0 s1 (by omega) (by omega)
  have cn:=z320 t i t0 t1 (by omega) (by omega)
  have hI:folI B s t i=(folV B s t (B.getD i dftT) (hasB s i) (hasB t i) == hasB s i):=rfl
  have hT:folI B s t i=true→∀ j,j < i+1→folI B s t j=true:=fun h j hji=>by
   rcases y67 j i with h3|h3
   ·exact hj j h3
   ·obtain rfl:j=i:=by omega
    exact h
  have hF:folI B s t i=false→folB B s t=false:=z1042 hil
  rw [hI] at hT hF
  clear hI hj
  generalize B.getD i dftT=f at *
  generalize hasB s i=x at *
  generalize hasB t i=y at *
  cases hf with
  |«at» v =>
   have hT2:=hT (by simp [folV,Tree.kind])
   clear hT hF
   cases x
   all_goals
    repeat' ((first|apply y6 ok;rfl|refine z14 (i:=i) rfl gk ?_|(apply y40;first|omega|unfold inI;omega)|apply z7<;>intro _|apply z8 cw;rfl;rfl)<;>conv=>whnf)
    all_goals try (exfalso;omega)
    all_goals refine z29 (i+1) ⟨by omega,hT2⟩ (by omega) (by refine swR [] [] rfl rfl ?_;(repeat' first|exact y83 _|constructor))
  |nx a ha sa =>
   have ca:=z184 B hB t t0 t1 a ha sa
   have e:folV B s t (.mk 6 0 [a]) x y=vlB B t a:=by simp [folV,kidV,Tree.kind,Tree.kids]
   rw [e] at hT hF
   rw [csU] at gk
   clear e
   generalize vlB B t a=z at *
   cases x<;>cases z
   all_goals first|have hT:=hT rfl|(have hF:=hF rfl;rw [hF])
   all_goals
    repeat' ((first|apply y6 ok;rfl|refine z14 (i:=i) rfl gk ?_|refine ⟨_,rfl,?_⟩|(apply y40;first|omega|unfold inI;omega)|apply z7<;>intro _|apply z8 cw;rfl;rfl|apply z8 ca;rfl;rfl)<;>conv=>whnf)
    all_goals try (exfalso;omega)
    all_goals first|refine z29 (i+1) ⟨by omega,hT⟩ (by omega) (by refine swR [] [] rfl rfl ?_;(repeat' first|exact y83 _|constructor))|refine rsD [] [] rfl ?_;(repeat' first|exact y83 _|constructor)
  |un a b ha hb sa sb =>
   have ca:=z184 B hB s s0 s1 a ha sa
   have cb:=z184 B hB s s0 s1 b hb sb
   have e:folV B s t (.mk 7 0 [a,b]) x y=(vlB B s b || (vlB B s a && y)):=by simp [folV,kidV,Tree.kind,Tree.kids]
   rw [e] at hT hF
   rw [csB2] at gk
   clear e
   generalize vlB B s a=z at *
   generalize vlB B s b=u at *
   cases x<;>cases y<;>cases z<;>cases u
   all_goals first|have hT:=hT rfl|(have hF:=hF rfl;rw [hF])
   all_goals
    repeat' ((first|apply y6 ok;rfl|refine z14 (i:=i) rfl gk ?_|refine ⟨_,rfl,?_⟩|(apply y40;first|omega|unfold inI;omega)|apply z7<;>intro _|apply z8 cw;rfl;rfl|apply z8 cn;rfl;rfl|apply z8 ca;rfl;rfl|apply z8 cb;rfl;rfl)<;>conv=>whnf)
    all_goals try (exfalso;omega)
    all_goals first|refine z29 (i+1) ⟨by omega,hT⟩ (by omega) (by refine swR [] [] rfl rfl ?_;(repeat' first|exact y83 _|constructor))|refine rsD [] [] rfl ?_;(repeat' first|exact y83 _|constructor)
  |re a b ha hb sa sb =>
   have ca:=z184 B hB s s0 s1 a ha sa
   have cb:=z184 B hB s s0 s1 b hb sb
   have e:folV B s t (.mk 8 0 [a,b]) x y=(vlB B s b && (vlB B s a || y)):=by simp [folV,kidV,Tree.kind,Tree.kids]
   rw [e] at hT hF
   rw [csB2] at gk
   clear e
   generalize vlB B s a=z at *
   generalize vlB B s b=u at *
   cases x<;>cases y<;>cases z<;>cases u
   all_goals first|have hT:=hT rfl|(have hF:=hF rfl;rw [hF])
   all_goals
    repeat' ((first|apply y6 ok;rfl|refine z14 (i:=i) rfl gk ?_|refine ⟨_,rfl,?_⟩|(apply y40;first|omega|unfold inI;omega)|apply z7<;>intro _|apply z8 cw;rfl;rfl|apply z8 cn;rfl;rfl|apply z8 ca;rfl;rfl|apply z8 cb;rfl;rfl)<;>conv=>whnf)
    all_goals try (exfalso;omega)
    all_goals first|refine z29 (i+1) ⟨by omega,hT⟩ (by omega) (by refine swR [] [] rfl rfl ?_;(repeat' first|exact y83 _|constructor))|refine rsD [] [] rfl ?_;(repeat' first|exact y83 _|constructor)
 ·obtain rfl:i=B.length:=by omega
  rw [z1212 fun j hji=>hj j hji]
  repeat' ((first|apply y6 ok;rfl|apply y40;omega|((with_reducible apply z13;omega));intro _|apply z7<;>intro _)<;>conv=>whnf)
  all_goals first|exfalso;omega|refine rsD [] [] rfl ?_;(repeat' first|exact y83 _|constructor)
theorem z782 (B:List Tree) (hB:BasL B) (s:Int) (s0:0≤s) (s1:s≤31) (u:Nat) (hu:u < B.length) (hk:(B.getD u dftT).kind=7):QQ 209 [lst 3 Tree.cs' B,.int s,.int u] [] (.bool (fulB B s u)) []:=by
 have hl:=hB.len
 have gk:(B.map Tree.cs')[u]?=some (Tree.cs' (B.getD u dftT)):=by rw [y48,y42 hu,z20 hu];rfl
 have hf:=hB.form (x:=B.getD u dftT) (by rw [z20 hu];exact y41 _)
 have cw:=z320 s u s0 s1 (by omega) (by omega)
 have e:fulB B s u=(!hasB s u || kidV B s (B.getD u dftT) 1):=rfl
 rw [e]
 generalize B.getD u dftT=f at *
 generalize hasB s u=x at *
 cases hf with
 |«at» v=>simp [Tree.kind] at hk
 |nx a _ _=>simp [Tree.kind] at hk
 |re a b _ _ _ _=>simp [Tree.kind] at hk
 |un a b ha hb sa sb =>
  have cb:=z184 B hB s s0 s1 b hb sb
  rw [csB2] at gk
  have e2:kidV B s (.mk 7 0 [a,b]) 1=vlB B s b:=by simp [kidV,Tree.kids]
  rw [e2]
  clear e e2
  generalize vlB B s b=y at *
  cases x
  all_goals
   refine z12 z24 func209 rfl rfl 23 ntmps209 (by simp) ?_
   repeat' ((first|apply y6 ok;rfl|refine z14 (i:=u) rfl gk ?_|refine ⟨_,rfl,?_⟩|apply y40;omega|apply z8 cw;rfl;rfl|apply z8 cb;rfl;rfl)<;>conv=>whnf)
   all_goals (refine rsD [] [] rfl ?_;(repeat' first|exact y83 _|constructor))
def untL (B:List Tree) (i:Nat):List Int:=((List.range i).filter fun i=>decide ((B.getD i dftT).kind=7)).map Int.ofNat
theorem z1090 (B:List Tree) (i:Nat):untL B (i+1)=untL B i++(if (B.getD i dftT).kind=7 then [(i:Int)] else []):=by
 unfold untL
 rw [y59,List.filter_append,y61]
 congr 1
 by_cases h:(B.getD i dftT).kind=7
 ·rw [if_pos h,List.filter_cons_of_pos (by simpa using h)];rfl
 ·rw [if_neg h,List.filter_cons_of_neg (by simpa using h)];rfl
theorem z653 (B:List Tree) (i:Nat):(untL B i).length≤i:=by
 unfold untL
 rw [y46]
 have:=List.length_filter_le (fun i=>decide ((B.getD i dftT).kind=7)) (List.range i)
 simpa using this
theorem z881 (B:List Tree) (hl:B.length≤1000):QQ 150 [lst 3 Tree.cs' B] [] (ints (untB B)) []:=by
 refine z12 z24 func150 rfl rfl 23 ntmps150 (by simp) ?_
 repeat' (((apply y6 ok;rfl))<;>conv=>whnf)
 refine z69 (fun x:Nat×List Int=>([(0,lst 3 Tree.cs' B),(3,.sref 0 0 x.2.length),(4,.int x.1)],[.cells 1 (x.2.map enI)])) (fun x=>x.1≤B.length∧untL B x.1=x.2) (fun x=>B.length - x.1) (0,[]) ⟨y50 _,rfl⟩ (by refine swR [0] [] rfl rfl ?_;(repeat' first|exact y83 _|refine z11 rfl z39 ?_|constructor)) ?_
 rintro ⟨i,U⟩ ⟨hi,hU⟩
 dsimp only at hi hU ⊢
 have hul:=z653 B i
 rw [hU] at hul
 by_cases hil:i < B.length
 ·have gk:(B.map Tree.cs')[i]?=some (Tree.cs' (B.getD i dftT)):=by rw [y48,y42 hil,z20 hil];rfl
  have hs:=z1090 B i
  rw [hU] at hs
  generalize B.getD i dftT=f at *
  by_cases hk:f.kind=7
  ·rw [if_pos hk] at hs
   repeat' ((first|apply y6 ok;rfl|refine z14 (i:=i) rfl gk ?_|(apply y40;first|omega|unfold inI;omega|(try dsimp only);simp only [y46,y45,y44,y43,y55,y56];omega|exact ⟨rfl,z17 rfl z26⟩)|apply z7<;>intro _)<;>conv=>whnf)
   all_goals try (exfalso;omega)
   all_goals refine z29 (i+1,U++[(i:Int)]) ⟨by show i+1≤_;omega,hs⟩ (by show B.length - (i+1) < B.length - i;omega) (by refine swR [2] [] rfl rfl ?_;(repeat' first|exact y83 _|refine z44 ?_;((simp;done))|(refine z33 rfl ?_ ?_);(focus ((repeat' (first|exact z6 (fun _=>rfl)|apply z25));done))|refine z77 ?_ ?_;(focus omega)|constructor))
  ·rw [if_neg hk,y62] at hs
   repeat' ((first|apply y6 ok;rfl|refine z14 (i:=i) rfl gk ?_|(apply y40;first|omega|unfold inI;omega)|apply z7<;>intro _)<;>conv=>whnf)
   all_goals try (exfalso;omega)
   all_goals refine z29 (i+1,U) ⟨by show i+1≤_;omega,hs⟩ (by show B.length - (i+1) < B.length - i;omega) (by refine swR [0] [] rfl rfl ?_;(repeat' first|exact y83 _|exact z10 _|refine z11 rfl (z6 (fun _=>rfl)) ?_|constructor))
 ·obtain rfl:i=B.length:=by omega
  have e:untB B=U:=hU
  rw [e]
  repeat' ((first|apply y6 ok;rfl|apply y40;omega|((with_reducible apply z13;omega));intro _|apply z7<;>intro _)<;>conv=>whnf)
  all_goals first|exfalso;omega|refine rsD [] [0] rfl ?_;(repeat' first|exact y83 _|(apply z55 rfl rfl rfl);(focus ((repeat ((exact z48 (fun _=>rfl) _)));done));(focus (((simp;done));done))|constructor)
theorem untB_mem {B:List Tree} {x:Int} (h:x∈untB B):∃ u:Nat,x=u∧u < B.length∧(B.getD u dftT).kind=7:=by
 unfold untB at h
 obtain ⟨u,hu,rfl⟩:=List.mem_map.1 h
 obtain ⟨h1,h2⟩:=List.mem_filter.1 hu
 exact ⟨u,rfl,List.mem_range.1 h1,of_decide_eq_true h2⟩
theorem z1025 (B:List Tree) (hB:BasL B) (s:Int) (s0:0≤s) (s1:s≤31) (ph:Nat) (hp:(untB B).length=0∨ph < (untB B).length):QQ 152 [lst 3 Tree.cs' B,ints (untB B),.int s,.int ph] [] (.tup [.int (phB B (untB B) s ph).1,.bool (phB B (untB B) s ph).2]) []:=by
 have hl:=hB.len
 have hul:(untB B).length≤B.length:=z653 B B.length
 have hm:=fun x=>@untB_mem B x
 unfold phB
 generalize untB B=U at *
 by_cases h0:U.length=0
 ·rw [if_pos h0]
  refine z12 z24 func152 rfl rfl 28 ntmps152 (by simp) ?_
  repeat' ((first|apply y6 ok;rfl|apply y40;omega|((with_reducible apply z13;omega));intro _|apply z7<;>intro _)<;>conv=>whnf)
  all_goals first|exfalso;omega|refine rsD [] [] rfl ?_;(repeat' first|exact y83 _|constructor)
 ·rw [if_neg h0]
  have hpl:ph < U.length:=by omega
  have gu:(U.map enI)[ph]?=some (enI (U.getD ph 0)):=by rw [y48,y42 hpl,z20 hpl];rfl
  obtain ⟨u,e,hu,hk⟩:=hm (U.getD ph 0) (by rw [z20 hpl];exact y41 _)
  rw [e] at gu
  have cf:=z782 B hB s s0 s1 u hu hk
  rw [y74,e]
  generalize fulB B s u=z at *
  cases z
  ·refine z12 z24 func152 rfl rfl 28 ntmps152 (by simp) ?_
   repeat' ((first|apply y6 ok;rfl|refine z14 (i:=ph) rfl gu ?_|apply y40;omega|apply z7<;>intro _|apply z8 cf;rfl;rfl)<;>conv=>whnf)
   all_goals first|exfalso;omega|refine rsD [] [] rfl ?_;(repeat' first|exact y83 _|constructor)
  ·refine z12 z24 func152 rfl rfl 28 ntmps152 (by simp) ?_
   repeat' ((first|apply y6 ok;rfl|refine z14 (i:=ph) rfl gu ?_|(apply y40;first|omega|unfold inI;omega)|apply z7<;>intro _|apply z8 cf;rfl;rfl)<;>conv=>whnf)
   all_goals try (exfalso;omega)
   all_goals (refine rsD [] [] rfl ?_;(repeat' first|exact y83 _|constructor))
theorem z459 {B:List Tree} {s:Int} (i:Nat):(List.range (i+1)).foldl (atoI B s) (0,0)=atoI B s ((List.range i).foldl (atoI B s) (0,0)) i:=by
 rw [y59,y60];rfl
theorem z765 {c k:Nat} (h:c < 8) (hk:k≤2):c ||| 2 ^ k < 8:=by
 have:k=0∨k=1∨k=2:=by omega
 rcases this with rfl|rfl|rfl<;>exact Nat.or_lt_two_pow (n:=3) h (by decide)
set_option maxHeartbeats 3200000 in
theorem z884 (B:List Tree) (hB:BasL B) (s:Int) (s0:0≤s) (s1:s≤31):QQ 153 [lst 3 Tree.cs' B,.int s] [] (.tup [.int (letB B s).1,.int (letB B s).2]) []:=by
 have hl:=hB.len
 refine z12 z24 func153 rfl rfl 44 ntmps153 (by simp) ?_
 repeat' (((apply y6 ok;rfl))<;>conv=>whnf)
 refine z69 (fun x:Nat×Nat×Nat=>([(0,lst 3 Tree.cs' B),(1,.int s),(6,.int x.2.1),(7,.int x.2.2),(8,.int x.1)],[])) (fun x=>x.1≤B.length∧(List.range x.1).foldl (atoI B s) (0,0)=x.2∧x.2.1 < 8∧x.2.2 < 8) (fun x=>B.length - x.1) (0,0,0) ⟨y50 _,rfl,by decide,by decide⟩ (by refine swR [] [] rfl rfl ?_;(repeat' first|exact y83 _|constructor)) ?_
 rintro ⟨i,c,v⟩ ⟨hi,hf,hc,hv⟩
 dsimp only at hi hf hc hv ⊢
 by_cases hil:i < B.length
 ·have gk:(B.map Tree.cs')[i]?=some (Tree.cs' (B.getD i dftT)):=by rw [y48,y42 hil,z20 hil];rfl
  have hmem:B.getD i dftT∈B:=by rw [z20 hil];exact y41 _
  have hform:=hB.form hmem
  have cw:=z320 s i s0 s1 (by omega) (by omega)
  have hs:=z459 (B:=B) (s:=s) i
  rw [hf] at hs
  unfold atoI at hs
  dsimp only at hs
  by_cases hk:(B.getD i dftT).kind=2
  ·rw [if_pos hk] at hs
   have hvv:∃ a:Nat,(B.getD i dftT).val=a∧a≤2:=by
    generalize B.getD i dftT=f at *
    cases hform with
    |«at» v=>have:=hB.av v hmem;exact ⟨v.toNat,by simp [Tree.val];omega,by omega⟩
    |nx a _ _=>simp [Tree.kind] at hk
    |un a b _ _ _ _=>simp [Tree.kind] at hk
    |re a b _ _ _ _=>simp [Tree.kind] at hk
   obtain ⟨a,ea,ha⟩:=hvv
   have gk2:(B.map Tree.cs')[i]?=some [.int 2,.int a,.list 3 (B.getD i dftT).kids.length ((B.getD i dftT).kids.map Tree.cs)]:=by rw [gk,← hk,← ea];rfl
   have o1:=z765 hc ha
   have o2:=z765 hv ha
   have e:=shl_eq a (by omega)
   have hp:=z760 (show a < 3 by omega)
   have hw:IntKind.u64.wrap (a:Int)=a:=by
    have:a=0∨a=1∨a=2:=by omega
    rcases this with rfl|rfl|rfl<;>rfl
   rw [ea,y74] at hs
   clear gk hform hmem hk ea
   generalize hasB s i=z at *
   generalize (B.getD i dftT).kids=ks at *
   cases z
   ·rw [if_neg (by simp)] at hs
    repeat' ((first|apply y6 ok;rfl|refine z14 (i:=i) rfl gk2 ?_|(apply y40;first|omega|unfold inI;omega)|apply z7<;>intro _)<;>conv=>whnf)
    all_goals try (exfalso;omega)
    refine y40 (by rw [e];unfold z129;omega) ?_
    conv=>whnf
    repeat' ((first|apply y6 ok;rfl|apply y40;(unfold inI;omega)|apply z8 cw;rfl;rfl)<;>conv=>whnf)
    all_goals refine z29 (i+1,c ||| 2 ^ a,v) ⟨by show i+1≤_;omega,hs,o1,hv⟩ (by show B.length - (i+1) < B.length - i;omega) (by refine swR [] [] rfl rfl ?_;(repeat' first|exact y83 _|constructor)<;>((rw [e];exact y83 _)))
   ·rw [if_pos rfl] at hs
    repeat' ((first|apply y6 ok;rfl|refine z14 (i:=i) rfl gk2 ?_|(apply y40;first|omega|unfold inI;omega)|apply z7<;>intro _)<;>conv=>whnf)
    all_goals try (exfalso;omega)
    refine y40 (by rw [e];unfold z129;omega) ?_
    conv=>whnf
    repeat' ((first|apply y6 ok;rfl|refine z14 (i:=i) rfl gk2 ?_|(apply y40;first|omega|unfold inI;omega)|apply z8 cw;rfl;rfl)<;>conv=>whnf)
    refine y40 (by rw [e];unfold z129;omega) ?_
    conv=>whnf
    repeat' ((first|apply y6 ok;rfl|apply y40;(unfold inI;omega))<;>conv=>whnf)
    all_goals refine z29 (i+1,c ||| 2 ^ a,v ||| 2 ^ a) ⟨by show i+1≤_;omega,hs,o1,o2⟩ (by show B.length - (i+1) < B.length - i;omega) (by refine swR [] [] rfl rfl ?_;(repeat' first|exact y83 _|constructor)<;>((rw [e];exact y83 _)))
  ·rw [if_neg hk] at hs
   generalize B.getD i dftT=f at *
   repeat' ((first|apply y6 ok;rfl|refine z14 (i:=i) rfl gk ?_|(apply y40;first|omega|unfold inI;omega)|apply z7<;>intro _|apply z8 cw;rfl;rfl)<;>conv=>whnf)
   all_goals try (exfalso;omega)
   all_goals refine z29 (i+1,c,v) ⟨by show i+1≤_;omega,hs,hc,hv⟩ (by show B.length - (i+1) < B.length - i;omega) (by refine swR [] [] rfl rfl ?_;(repeat' first|exact y83 _|constructor))
 ·obtain rfl:i=B.length:=by omega
  have e:letB B s=(c,v):=hf
  rw [e]
  repeat' ((first|apply y6 ok;rfl|apply y40;omega|((with_reducible apply z13;omega));intro _|apply z7<;>intro _)<;>conv=>whnf)
  all_goals first|exfalso;omega|refine rsD [] [] rfl ?_;(repeat' first|exact y83 _|constructor)
theorem z1178 (L:List (List Int)) (hL:L.length≤1000) (hr:∀ r∈L,r.length≤1000) (p:List Int) (hp:p.length≤1000):QQ 155 [.sref 0 0 L.length,.sref 1 0 p.length] [.cells 1 (L.map encL),.cells 1 (p.map enI)] (.tup [.sref 2 0 (z162 L p).length,.int (z303 L p)]) [.dead,.dead,.cells 1 ((z162 L p).map encL)]:=by
 have hc:∀ i (h:i < L.length),QQ 32 [ints L[i],ints p] [] (.bool (decide (L[i]=p))) []:=fun i h=>z412 _ _ (by have:=hr _ (y41 h);unfold maxLen;omega) (by unfold maxLen;omega)
 refine z12 z24 func155 rfl rfl 27 ntmps155 (by simp) ?_
 refine y82 (Reach.rnm 0 rfl) ?_
 refine y82 (Reach.rnm 1 rfl) ?_
 conv=>whnf
 repeat' (((apply y6 ok;rfl))<;>conv=>whnf)
 refine z69 (fun i:Nat=>([(0,.sref 2 0 L.length),(1,.sref 3 0 p.length),(6,.int i)],[.dead,.dead,.cells 1 (L.map encL),.cells 1 (p.map enI)])) (fun i=>i≤L.length∧∀ j (h:j < L.length),j < i→L[j]≠p) (fun i=>L.length - i) 0 ⟨y50 _,fun j _ h=>absurd h (Nat.not_lt_zero _)⟩ (by refine swR [0,1,2,3] [] rfl rfl ?_;(repeat' first|exact y83 _|exact z10 _|refine z11 rfl (z6 (fun _=>rfl)) ?_|constructor)) ?_
 rintro i ⟨hi,hj⟩
 by_cases hil:i < L.length
 ·have gk:(L.map encL)[i]?=some (encL L[i]):=by rw [y48,y42 hil];rfl
  have c1:=hc i hil
  by_cases he:L[i]=p
  ·have e1:z162 L p=L:=by unfold z162;rw [if_pos (by rw [← he];exact y41 hil)]
   have e2:z303 L p=i:=by
    unfold z303
    have h1:p∈L:=by rw [← he];exact y41 hil
    have h2:=List.idxOf_lt_length_of_mem h1
    have h3:=List.getElem_idxOf h2
    rcases Nat.lt_trichotomy (L.idxOf p) i with h|h|h
    ·exact absurd h3 (hj _ h2 h)
    ·exact h
    ·exfalso
     have:=List.not_of_lt_findIdx (p:=(· == p)) (xs:=L) (i:=i) (by simpa [List.idxOf] using h)
     simp [he] at this
   rw [e1,e2]
   rw [y79 he] at c1
   generalize L[i]=q at *
   repeat' ((first|apply y6 ok;rfl|refine z14 (i:=i) rfl gk ?_|apply y40;omega|apply z7<;>intro _|apply z120 [] [3] [] c1;(focus ((repeat' first|exact z87|apply z60)<;>first|exact z147 rfl rfl rfl|rfl));rfl;rfl;(focus ((repeat' exact z23)<;>fail));((refine .inr ⟨rfl,?_⟩;repeat' exact True.intro)))<;>conv=>whnf)
   all_goals try (exfalso;omega)
   all_goals (refine rsD [0,1,2] [] rfl ?_;(repeat' first|exact y83 _|exact z10 _|refine z11 rfl (z6 (fun _=>rfl)) ?_|constructor))
  ·rw [y80 he] at c1
   have hj2:∀ j (h:j < L.length),j < i+1→L[j]≠p:=fun j h hji=>by
    rcases y67 j i with h3|h3
    ·exact hj j h h3
    ·obtain rfl:j=i:=by omega
     exact he
   generalize L[i]=q at *
   repeat' ((first|apply y6 ok;rfl|refine z14 (i:=i) rfl gk ?_|(apply y40;first|omega|unfold inI;omega)|apply z7<;>intro _|apply z120 [] [3] [] c1;(focus ((repeat' first|exact z87|apply z60)<;>first|exact z147 rfl rfl rfl|rfl));rfl;rfl;(focus ((repeat' exact z23)<;>fail));((refine .inr ⟨rfl,?_⟩;repeat' exact True.intro)))<;>conv=>whnf)
   all_goals try (exfalso;omega)
   all_goals refine z29 (i+1) ⟨by omega,hj2⟩ (by omega) (by refine swR [0,1,2,3] [] rfl rfl ?_;(repeat' first|exact y83 _|exact z10 _|refine z11 rfl (z6 (fun _=>rfl)) ?_|constructor))
 ·have hn:p ∉ L:=fun h=>by
   obtain ⟨j,hjl,e⟩:=List.mem_iff_getElem.1 h
   exact hj j hjl (by omega) e
  have e1:z162 L p=L++[p]:=by unfold z162;rw [if_neg hn]
  have e2:z303 L p=L.length:=by unfold z303;exact List.idxOf_eq_length hn
  rw [e1,e2]
  obtain rfl:i=L.length:=by omega
  repeat' ((first|apply y6 ok;rfl|(apply y40;first|omega|(try dsimp only);simp only [y46,y45,y44,y43,y55,y56];omega|exact ⟨rfl,z17 rfl z26⟩)|((apply z13;omega));intro _|apply z7<;>intro _)<;>conv=>whnf)
  all_goals try (exfalso;omega)
  all_goals (refine rsD [0,1,5] [3] rfl ?_;(repeat' first|exact y83 _|refine z44 ?_;((simp;done))|(refine z33 rfl ?_ ?_);(focus ((repeat' (first|exact z6 (fun _=>rfl)|apply z25));done))|refine z77 ?_ ?_;(focus omega)|(apply z93 rfl rfl rfl);(focus ((repeat ((exact z48 (fun _=>rfl) _)));done));(focus (((simp;done));done))|apply z156|constructor))
end Go.Proofs.YteinbnahinpegaaGreat
