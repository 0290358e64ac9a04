/- A part of the proofs over this program: D14, D15, D16, D17, D18, D19, D20, D21, D22, D23, D24, D25, D26, D28, D29, D30, D32, D27, D31, D33, D36, D37, D38, D39, D40, GlV, D34, D41, D42, D43. -/
import Derived.Test.YteinbnahinpegaaGreatG0
import Derived.Test.YteinbnahinpegaaGreatG1
import Derived.Test.YteinbnahinpegaaGreatG2
set_option linter.all false
namespace Go.Gl
def z451 (a:Int) (s:List Int×List Int) (y:Int):List Int×List Int:=if s.2.getD y.toNat 0=-2 then (s.1++[y],s.2.set y.toNat a) else s
def back (P:List Int):Nat→Int→List Int
 |0,_=>[]
 |f+1,a=>if 0≤a then a::back P f (P.getD a.toNat 0) else []
def swp (l:List Int) (i j:Nat):List Int:=(l.set i (l.getD j 0)).set j (l.getD i 0)
def revG:Nat→Nat→Nat→List Int→List Int
 |0,_,_,l=>l
 |f+1,i,j,l=>if i < j then revG f (i+1) (j - 1) (swp l i j) else l
theorem revG_len:∀ (f i j:Nat) (l:List Int),(revG f i j l).length=l.length:=by
 intro f
 induction f with
 |zero=>intro i j l;rfl
 |succ f ih=>intro i j l;rw [revG];split;rw [ih];simp [swp];rfl
def rvs (l:List Int):List Int:=revG l.length 0 (l.length - 1) l
theorem z633 (l:List Int):(rvs l).length=l.length:=revG_len _ _ _ _
structure SI (rows:List (List Int)) (c:Int) (n:Nat) (Q P:List Int):Prop where
 nd:Q.Nodup
 inN:InN n Q
 len:P.length=n
 un:∀ v:Int,0≤v→v < n→(P.getD v.toNat 0=-2↔v ∉ Q)
 pr:∀ k,k < Q.length→P.getD (Q.getD k 0).toNat 0=-1∨∃ j,j < k∧P.getD (Q.getD k 0).toNat 0=Q.getD j 0
 rp:∀ x∈Q,RP rows [c] x
 st:c∈Q
theorem SI.le {rows:List (List Int)} {c:Int} {n:Nat} {Q P:List Int} (h:SI rows c n Q P):Q.length≤n:=z219 n Q h.nd h.inN
theorem z393 {Q:List Int} {k:Nat} (h:k < Q.length):Q.getD k 0∈Q:=by rw [z13 h];exact y40 _
theorem z265 {Q:List Int} {y:Int} {k:Nat} (h:k < Q.length):(Q++[y]).getD k 0=Q.getD k 0:=by
 rw [z13 (by simp;omega),z13 h,List.getElem_append_left h]
theorem z530 {P:List Int} {i j:Nat} {a:Int} (h:i≠j):(P.set i a).getD j 0=P.getD j 0:=by
 simp only [y64];rw [List.getElem?_set_ne h]
theorem z392 {P:List Int} {i:Nat} {a:Int} (h:i < P.length):(P.set i a).getD i 0=a:=by
 rw [z13 (by simpa using h)];simp
theorem SI.one {rows : List (List Int)} {c : Int} {n : Nat} {Q P : List Int} (h : SI rows c n Q P) {i : Nat} (hi : i < Q.length) {y : Int} (hy : y ∈ rows.getD (Q.getD i 0).toNat []) (h0 : 0 ≤ y) (h1 : y < n) :
    SI rows c n (z451 (Q.getD i 0) (Q,P) y).1 (z451 (Q.getD i 0) (Q,P) y).2∧(∃ t,(z451 (Q.getD i 0) (Q,P) y).1=Q++t)∧y∈(z451 (Q.getD i 0) (Q,P) y).1:=by
  unfold z451
  have ha:=h.inN _ (z393 hi)
  by_cases hu:P.getD y.toNat 0=-2
  · rw [if_pos hu]
    have hn:=(h.un y h0 h1).1 hu
    have hyl:y.toNat < P.length:=by rw [h.len];omega
    have hne:∀ v∈Q,y.toNat≠v.toNat:=fun v hv e=>by
      have:=h.inN v hv
      have:y=v:=by omega
      rw [this] at hn;exact hn hv
    refine ⟨⟨?_,?_,by simp [h.len],?_,?_,?_,List.mem_append_left _ h.st⟩,⟨_,rfl⟩,by simp⟩
    · rw [y72]
      exact ⟨h.nd,by simp,fun a ha b hb=>by rintro rfl;rw [List.mem_singleton.1 hb] at ha;exact hn ha⟩
    · intro x hx
      rcases List.mem_append.1 hx with hx|hx
      · exact h.inN x hx
      · rw [List.mem_singleton.1 hx];exact ⟨h0,h1⟩
    · intro v v0 v1
      by_cases hv:v=y
      · subst hv
        show (P.set v.toNat _).getD v.toNat 0=-2↔_
        rw [z392 hyl]
        exact ⟨fun e=>by omega,fun hh=>absurd (by simp) hh⟩
      · show (P.set y.toNat _).getD v.toNat 0=-2↔_
        rw [z530 (by omega),h.un v v0 v1]
        simp [hv]
    · intro k hk
      show (P.set y.toNat _).getD ((Q++[y]).getD k 0).toNat 0=-1∨∃ j,j < k∧(P.set y.toNat _).getD ((Q++[y]).getD k 0).toNat 0=(Q++[y]).getD j 0
      simp only [y43,List.length_singleton] at hk
      rcases y66 k Q.length with h2|h2
      · rw [z265 h2,z530 (hne _ (z393 h2))]
        rcases h.pr k h2 with h3|⟨j,h3,h4⟩
        · exact .inl h3
        · exact .inr ⟨j,h3,by rw [h4,z265 (by omega)]⟩
      · have e:k=Q.length:=by omega
        subst e
        have e2:(Q++[y]).getD Q.length 0=y:=by rw [z13 (by simp)];simp
        rw [e2,z392 hyl]
        exact .inr ⟨i,hi,by rw [z265 hi]⟩
    · intro x hx
      rcases List.mem_append.1 hx with hx|hx
      · exact h.rp x hx
      · rw [List.mem_singleton.1 hx];exact .step (h.rp _ (z393 hi)) hy
  · rw [if_neg hu]
    refine ⟨h,⟨[],by simp⟩,?_⟩
    have:=h.un y h0 h1
    exact y74 fun hc=>hu (this.2 hc)
theorem SI.fold {rows : List (List Int)} {c : Int} {n : Nat} {i : Nat} {a : Int} : ∀ (r : List Int) (Q P : List Int), SI rows c n Q P → i < Q.length → Q.getD i 0 = a → (∀ y ∈ r, y ∈ rows.getD a.toNat [] ∧ 0 ≤ y ∧ y < n) →
  SI rows c n (r.foldl (z451 a) (Q,P)).1 (r.foldl (z451 a) (Q,P)).2∧(∃ t,(r.foldl (z451 a) (Q,P)).1=Q++t)∧∀ y∈r,y∈(r.foldl (z451 a) (Q,P)).1:=by
 intro r
 induction r with
 |nil=>intro Q P h _ _ _;exact ⟨h,⟨[],by simp⟩,fun y hy=>by cases hy⟩
 |cons y r ih =>
  intro Q P h hi ha hr
  have hy:=hr y (by simp)
  obtain ⟨h1,⟨t,ht⟩,h3⟩:=h.one hi (by rw [ha];exact hy.1) hy.2.1 hy.2.2
  rw [ha] at h1 ht h3
  rw [List.foldl_cons]
  generalize z451 a (Q,P) y=s at *
  obtain ⟨Q1,P1⟩:=s
  simp only at h1 ht h3
  subst ht
  obtain ⟨k1,⟨t2,ht2⟩,k3⟩:=ih (Q++t) P1 h1 (by simp;omega) (by rw [← ha,z13 (by simp;omega),z13 hi,List.getElem_append_left hi]) (fun z hz=>hr z (y69 _ hz))
  refine ⟨k1,⟨t++t2,by rw [ht2,List.append_assoc]⟩,fun z hz=>?_⟩
  rcases List.mem_cons.1 hz with rfl|hz
  ·rw [ht2];exact List.mem_append_left _ h3
  ·exact k3 z hz
structure SJ (rows:List (List Int)) (b:List Bool) (c:Int) (n:Nat) (Q P:List Int) (i:Nat):Prop where
 si:SI rows c n Q P
 le:i≤Q.length
 no:∀ k,k < i→gB b (Q.getD k 0).toNat=false∧∀ y∈rows.getD (Q.getD k 0).toNat [],y∈Q
theorem SJ.step {rows : List (List Int)} {b : List Bool} {c : Int} {n : Nat} {Q P : List Int} {i : Nat} (h : SJ rows b c n Q P i) (hr : ∀ r ∈ rows, InN n r) (hi : i < Q.length) (hb : gB b (Q.getD i 0).toNat = false) :
    SJ rows b c n ((rows.getD (Q.getD i 0).toNat []).foldl (z451 (Q.getD i 0)) (Q,P)).1 ((rows.getD (Q.getD i 0).toNat []).foldl (z451 (Q.getD i 0)) (Q,P)).2 (i+1):=by
  obtain ⟨k1,⟨t,ht⟩,k3⟩:=h.si.fold (i:=i) (a:=Q.getD i 0) (rows.getD (Q.getD i 0).toNat []) Q P hi rfl (fun y hy=>⟨hy,z275 hr _ y hy⟩)
  have e:∀ k,k < Q.length→(Q++t).getD k 0=Q.getD k 0:=fun k hk=>by rw [z13 (by simp;omega),z13 hk,List.getElem_append_left hk]
  refine ⟨k1,by rw [ht];simp;omega,fun k hk=>?_⟩
  rw [ht] at k3 ⊢
  rw [e k (by omega)]
  rcases y66 k i with h1|h1
  · exact ⟨(h.no k h1).1,fun y hy=>List.mem_append_left _ ((h.no k h1).2 y hy)⟩
  · obtain rfl:k=i:=by omega
    exact ⟨hb,k3⟩
theorem SJ.start {rows:List (List Int)} {b:List Bool} {c:Int} {n:Nat} (h0:0≤c) (h1:c < n):SJ rows b c n [c] ((List.replicate n (-2)).set c.toNat (-1)) 0:=by
 refine ⟨⟨by simp,fun x hx=>by rw [List.mem_singleton.1 hx];exact ⟨h0,h1⟩,by simp,fun v v0 v1=>?_,fun k hk=>?_,fun x hx=>.base hx,by simp⟩,by simp,fun k hk=>by omega⟩
 ·by_cases e:v=c
  ·subst e
   rw [z392 (by simp;omega)]
   simp
  ·rw [z530 (by omega),z13 (by simp;omega)]
   simp [e]
 ·obtain rfl:k=0:=by simpa using hk
  left
  show ((List.replicate n (-2:Int)).set c.toNat (-1)).getD c.toNat 0=-1
  rw [z392 (by simp;omega)]
theorem SJ.closed {rows:List (List Int)} {b:List Bool} {c:Int} {n:Nat} {Q P:List Int} {i:Nat} (h:SJ rows b c n Q P i) (hi:Q.length≤i) {x:Int} (hx:RP rows [c] x):x∈Q∧gB b x.toNat=false:=by
 have key:x∈Q:=by
  induction hx with
  |base hx=>rw [List.mem_singleton.1 hx];exact h.si.st
  |step _ hy ih =>
   obtain ⟨k,hk,e⟩:=List.mem_iff_getElem.1 ih
   have:=(h.no k (by omega)).2
   rw [z13 hk,e] at this
   exact this _ hy
 refine ⟨key,?_⟩
 obtain ⟨k,hk,e⟩:=List.mem_iff_getElem.1 key
 have:=(h.no k (by omega)).1
 rwa [z13 hk,e] at this
theorem z1066 {l m:List Int} : z413 l=z413 m↔∀ x,x∈l↔x∈m:=by
 constructor
 ·intro h x
  rw [← z285 (l:=l),h,z285]
 ·intro h
  exact z681 (z500 l) (z500 m) (fun x=>by rw [z285,z285];exact h x)
theorem z1098 {K:Type} [DecidableEq K] (κ:Nat→K) {n a b:Nat} (ha:a < n) (hb:b < n):(numK κ n).1.getD a 0=(numK κ n).1.getD b 0↔κ a=κ b:=by
 rw [z13 (by rw [z192];exact ha),z13 (by rw [z192];exact hb)]
 exact z640 n (y48 _) a b ha hb
def keyN (nx:List (List Int)) (bl:List Int) (i:Nat):List Int:=bl.getD i 0::z413 ((nx.getD i []).map fun p:Int=>bl.getD p.toNat 0)
def refN (nx:List (List Int)) (n:Nat) (bl:List Int):List Int:=(numK (keyN nx bl) n).1
theorem z897 {nx:List (List Int)} {n:Nat} {bl:List Int} {a b:Nat} (ha:a < n) (hb:b < n):(refN nx n bl).getD a 0=(refN nx n bl).getD b 0↔bl.getD a 0=bl.getD b 0∧∀ x,(∃ p:Int,p∈nx.getD a []∧bl.getD p.toNat 0=x)↔∃ p:Int,p∈nx.getD b []∧bl.getD p.toNat 0=x:=by
 unfold refN
 rw [z1098 _ ha hb]
 unfold keyN
 simp only [List.cons.injEq,z1066,y56]
def Stb (nx:List (List Int)) (n:Nat) (c:Nat→Int):Prop:=∀ i j,i < n→j < n→c i=c j→∀ p∈nx.getD i [],∃ q∈nx.getD j [],c q.toNat=c p.toNat
theorem Stb.of_ref {nx:List (List Int)} {n:Nat} {bl:List Int} (h:refN nx n bl=bl):Stb nx n (fun i=>bl.getD i 0):=by
 intro i j hi hj e p hp
 have:=((z897 (nx:=nx) (bl:=bl) hi hj).1 (by rw [h];exact e)).2 (bl.getD p.toNat 0)
 obtain ⟨q,hq,e⟩:=this.1 ⟨p,hp,rfl⟩
 exact ⟨q,hq,e⟩
def bisM (nx:List (List Int)) (n:Nat) (b:List Int):Nat→List Int
 |0=>b
 |k+1=>refN nx n (bisM nx n b k)
theorem z594 {nx:List (List Int)} {n i:Nat} (hr:∀ r∈nx,InN n r) {p:Int} (hp:p∈nx.getD i []):p.toNat < n:=by
 have:=rowInN hr i p hp
 omega
theorem coarsest {nx:List (List Int)} {n:Nat} {c:Nat→Int} (hr:∀ r∈nx,InN n r) (hs:Stb nx n c) {b:List Int} (h0:∀ i j,i < n→j < n→c i=c j→b.getD i 0=b.getD j 0):∀ k i j,i < n→j < n→c i=c j→(bisM nx n b k).getD i 0=(bisM nx n b k).getD j 0:=by
 intro k
 induction k with
 |zero=>exact h0
 |succ k ih =>
  intro i j hi hj e
  refine (z897 hi hj).2 ⟨ih i j hi hj e,fun x=>⟨fun ⟨p,hp,e1⟩=>?_,fun ⟨p,hp,e1⟩=>?_⟩⟩
  ·obtain ⟨q,hq,e2⟩:=hs i j hi hj e p hp
   exact ⟨q,hq,by rw [← e1];exact ih _ _ (z594 hr hq) (z594 hr hp) e2⟩
  ·obtain ⟨q,hq,e2⟩:=hs j i hj hi e.symm p hp
   exact ⟨q,hq,by rw [← e1];exact ih _ _ (z594 hr hq) (z594 hr hp) e2⟩
def single (n:Nat):List Int:=(List.range n).map Int.ofNat
def fstB (bl:List Int) (n:Nat):List Nat:=(List.range n).filter fun i=>decide (∀ k,k < i→bl.getD k 0≠bl.getD i 0)
def mstD (bl:List Int):Nat→Int
 |0=>0
 |i+1=>if bl.getD i 0=mstD bl i then mstD bl i+1 else mstD bl i
theorem z296 (bl:List Int) (n:Nat):fstB bl (n+1)=fstB bl n++(if ∀ k,k < n→bl.getD k 0≠bl.getD n 0 then [n] else []):=by
 unfold fstB
 rw [y58,List.filter_append]
 congr 1
 by_cases h:∀ k,k < n→bl.getD k 0≠bl.getD n 0
 ·rw [if_pos h,List.filter_cons_of_pos (by simpa using h)];rfl
 ·rw [if_neg h,List.filter_cons_of_neg (by rw [decide_eq_true_iff];exact h)];rfl
theorem z845 {bl:List Int} {n i:Nat} (h:i∈fstB bl n):i < n:=by
 unfold fstB at h
 exact List.mem_range.1 (List.mem_filter.1 h).1
theorem z477 (bl:List Int) (n:Nat):(fstB bl n).length≤n:=by
 unfold fstB
 have:=List.length_filter_le (fun i=>decide (∀ k,k < i→bl.getD k 0≠bl.getD i 0)) (List.range n)
 simpa using this
theorem z531 {bl:List Int} {n:Nat} (hp:∀ i,i < n→0≤bl.getD i 0∧bl.getD i 0≤mstD bl i):∀ i,i≤n→((fstB bl i).length:Int)=mstD bl i∧(∀ b (h:b < (fstB bl i).length),bl.getD (fstB bl i)[b] 0=(b:Int))∧∀ k,k < i→bl.getD k 0 < mstD bl i:=by
 intro i
 induction i with
 |zero=>exact fun _=>⟨rfl,fun b h=>absurd h (by simp [fstB]),fun k hk=>by omega⟩
 |succ i ih =>
  intro hi
  obtain ⟨h1,h2,h3⟩:=ih (by omega)
  have hb:=hp i (by omega)
  rw [z296,mstD]
  by_cases he:bl.getD i 0=mstD bl i
  ·have hn:∀ k,k < i→bl.getD k 0≠bl.getD i 0:=fun k hk=>by have:=h3 k hk;omega
   rw [if_pos hn,if_pos he]
   refine ⟨by simp;omega,fun b h=>?_,fun k hk=>?_⟩
   ·rcases y66 b (fstB bl i).length with hb|hb
    ·rw [List.getElem_append_left hb];exact h2 b hb
    ·have:b=(fstB bl i).length:=by simp at h;omega
     subst this
     simp only [List.getElem_concat_length]
     omega
   ·rcases y66 k i with h|h
    ·have:=h3 k h;omega
    ·obtain rfl:k=i:=by omega
     omega
  ·have hlt:bl.getD i 0 < mstD bl i:=by omega
   have hn:¬ ∀ k,k < i→bl.getD k 0≠bl.getD i 0:=fun hn=>by
    have hx:(bl.getD i 0).toNat < (fstB bl i).length:=by omega
    have:=h2 _ hx
    exact hn _ (z845 (y40 hx)) (by omega)
   rw [if_neg hn,if_neg he,y61]
   refine ⟨h1,h2,fun k hk=>?_⟩
   rcases y66 k i with h|h
   ·exact h3 k h
   ·obtain rfl:k=i:=by omega
    exact hlt
structure Part (bl:List Int) (n:Nat):Prop where
 rng:∀ i,i < n→0≤bl.getD i 0∧bl.getD i 0≤mstD bl i
namespace Part
variable {bl:List Int} {n:Nat}
theorem cnt (h:Part bl n):((fstB bl n).length:Int)=mstD bl n:=(z531 h.rng n (y48 _)).1
theorem at_fst (h:Part bl n) {b:Nat} (hb:b < (fstB bl n).length):bl.getD ((fstB bl n).getD b 0) 0=(b:Int):=by
 rw [z13 hb];exact (z531 h.rng n (y48 _)).2.1 b hb
theorem lt (h:Part bl n) {i:Nat} (hi:i < n):(bl.getD i 0).toNat < (fstB bl n).length:=by
 have h1:=(z531 h.rng n (y48 _)).2.2 i hi
 have h2:=h.cnt
 have h3:=h.rng i hi
 omega
theorem nat (h:Part bl n) {i:Nat} (hi:i < n):(((bl.getD i 0).toNat:Nat):Int)=bl.getD i 0:=Int.toNat_of_nonneg (h.rng i hi).1
theorem fst_lt (h:Part bl n) {b:Nat} (hb:b < (fstB bl n).length):(fstB bl n).getD b 0 < n:=by
 rw [z13 hb];exact z845 (y40 hb)
theorem rep (h:Part bl n) {i:Nat} (hi:i < n):bl.getD ((fstB bl n).getD (bl.getD i 0).toNat 0) 0=bl.getD i 0:=by
 rw [h.at_fst (h.lt hi),h.nat hi]
end Part
def quoN (nx:List (List Int)) (n:Nat) (bl:List Int):List (List Int):=(fstB bl n).map fun i=>z85 [] ((nx.getD i []).map fun p:Int=>bl.getD p.toNat 0)
theorem z464 (nx:List (List Int)) (n:Nat) (bl:List Int):(quoN nx n bl).length=(fstB bl n).length:=by simp [quoN]
theorem z898 {nx:List (List Int)} {n:Nat} {bl:List Int} {b:Nat} (hb:b < (fstB bl n).length) {x:Int} : x∈(quoN nx n bl).getD b []↔∃ p:Int,p∈nx.getD ((fstB bl n).getD b 0) []∧bl.getD p.toNat 0=x:=by
 unfold quoN
 rw [z13 (by simpa using hb),z13 hb,List.getElem_map,z162,y56]
 simp
section
variable {nx:List (List Int)} {n:Nat} {bl:List Int} (hr:∀ r∈nx,InN n r) (hp:Part bl n)
include hr hp
theorem quoN_in:∀ r∈quoN nx n bl,InN (fstB bl n).length r:=by
 intro r h x hx
 obtain ⟨b,hb,e⟩:=List.mem_iff_getElem.1 h
 have hb' : b < (fstB bl n).length:=by rwa [z464] at hb
 have:x∈(quoN nx n bl).getD b []:=by rw [z13 hb,e];exact hx
 obtain ⟨p,hp',e⟩:=(z898 hb').1 this
 have h1:=hp.lt (z594 hr hp')
 have h2:=hp.nat (z594 hr hp')
 omega
theorem z716 (hs:Stb nx n (fun i=>bl.getD i 0)) {i:Nat} (hi:i < n) {x:Int} : x∈(quoN nx n bl).getD (bl.getD i 0).toNat []↔∃ p:Int,p∈nx.getD i []∧bl.getD p.toNat 0=x:=by
 rw [z898 (hp.lt hi)]
 have hf:=hp.fst_lt (hp.lt hi)
 have e:=hp.rep hi
 constructor
 ·rintro ⟨p,h1,h2⟩
  obtain ⟨q,h3,h4⟩:=hs _ i hf hi e p h1
  exact ⟨q,h3,by rw [← h2];exact h4⟩
 ·rintro ⟨p,h1,h2⟩
  obtain ⟨q,h3,h4⟩:=hs i _ hi hf e.symm p h1
  exact ⟨q,h3,by rw [← h2];exact h4⟩
end
end Go.Gl
namespace Go.Gl
section
variable {nx:List (List Int)} {n:Nat} {bl:List Int} (hr:∀ r∈nx,InN n r) (hp:Part bl n) (hs:Stb nx n (fun i=>bl.getD i 0))
include hr hp hs
end
end Go.Gl
namespace Go.Gl
def Cyc (rows:List (List Int)) (x:Int):Prop:=∃ y,y∈rows.getD x.toNat []∧RP rows [y] x
def PathP (rows:List (List Int)) (p:List Int):Prop:=∀ i,i+1 < p.length→p.getD (i+1) 0∈rows.getD (p.getD i 0).toNat []
theorem RP.trans {rows:List (List Int)} {ini:List Int} {x y z:Int} (h:RP rows ini x) (hy:y∈rows.getD x.toNat []) (k:RP rows [y] z):RP rows ini z:=by
 induction k with
 |base hb=>rw [List.mem_singleton.1 hb];exact .step h hy
 |step _ hs ih=>exact .step ih hs
theorem RP.trans0 {rows:List (List Int)} {ini:List Int} {x z:Int} (h:RP rows ini x) (k:RP rows [x] z):RP rows ini z:=by
 induction k with
 |base hb=>rw [List.mem_singleton.1 hb];exact h
 |step _ hs ih=>exact .step ih hs
theorem RP.path {rows:List (List Int)} {ini:List Int} {x:Int} (h:RP rows ini x):∃ p:List Int,0 < p.length∧p.getD 0 0∈ini∧p.getD (p.length - 1) 0=x∧PathP rows p:=by
 induction h with
 |base hb=>exact ⟨[_],by simp,hb,rfl,fun i hi=>by simp at hi⟩
 |step _ hy ih =>
  rename_i u y _
  obtain ⟨p,h1,h2,h3,h4⟩:=ih
  refine ⟨p++[y],by simp,by rwa [z265 h1],by rw [z13 (by simp)];simp,fun i hi=>?_⟩
  simp only [y43,List.length_singleton] at hi
  rcases y66 (i+1) p.length with h|h
  ·rw [z265 h,z265 (by omega)];exact h4 i h
  ·have e:i+1=p.length:=by omega
   have e1:(p++[y]).getD i 0=u:=by rw [z265 (by omega),show i=p.length - 1 by omega,h3]
   have e2:(p++[y]).getD (i+1) 0=y:=by rw [e,z13 (by simp)];simp
   rw [e1,e2];exact hy
theorem PathP.rp {rows:List (List Int)} {p:List Int} (h:PathP rows p) {ini:List Int} (h0:p.getD 0 0∈ini):∀ i,i < p.length→RP rows ini (p.getD i 0):=by
 intro i
 induction i with
 |zero=>exact fun _=>.base h0
 |succ i ih=>exact fun hi=>.step (ih (by omega)) (h i hi)
theorem run_rp {rows:List (List Int)} {π:Nat→Int} (h:∀ k,π (k+1)∈rows.getD (π k).toNat []):∀ d k,RP rows [π k] (π (k+d)):=by
 intro d
 induction d with
 |zero=>exact fun k=>.base (by simp)
 |succ d ih=>exact fun k=>.step (ih k) (h (k+d))
theorem runInN {rows:List (List Int)} {N:Nat} (hr:∀ r∈rows,InN N r) {π:Nat→Int} (h:∀ k,π (k+1)∈rows.getD (π k).toNat []) (h0:0≤π 0∧π 0 < N):∀ k,0≤π k∧π k < N
 |0=>h0
 |k+1=>rowInN hr _ _ (h k)
theorem run_cyc {rows:List (List Int)} {N:Nat} (hr:∀ r∈rows,InN N r) {π:Nat→Int} (h:∀ k,π (k+1)∈rows.getD (π k).toNat []) (h0:0≤π 0∧π 0 < N) {acc:Int→Prop} (ha:∀ m,∃ k,m≤k∧acc (π k)):∃ k,acc (π k)∧Cyc rows (π k):=by
 let f:Nat→Nat:=fun m=>(ha m).choose
 have hf:∀ m,m≤f m∧acc (π (f m)):=fun m=>(ha m).choose_spec
 let s:Nat→Nat:=fun i=>Nat.rec (f 0) (fun _ k=>f (k+1)) i
 have hs:∀ i,acc (π (s i)):=fun i=>by
  cases i with
  |zero=>exact (hf 0).2
  |succ i=>exact (hf (s i+1)).2
 have hlt:∀ i,s i < s (i+1):=fun i=>(hf (s i+1)).1
 have hmono:∀ d i,s i < s (i+d+1):=by
  intro d
  induction d with
  |zero=>exact hlt
  |succ d ih=>exact fun i=>Nat.lt_trans (ih i) (hlt (i+d+1))
 by_cases hne:∀ i j,i < j→π (s i)≠π (s j)
 ·exfalso
  have hin:=runInN hr h h0
  have:=z219 N ((List.range (N+1)).map fun i=>π (s i)) (by
   show List.Pairwise (·≠·) _
   rw [List.pairwise_map]
   exact List.Pairwise.imp (fun {a b} hab=>hne a b hab) List.pairwise_lt_range) (fun x hx=>by
   obtain ⟨i,_,rfl⟩:=List.mem_map.1 hx
   exact hin _)
  rw [y45,List.length_range] at this
  omega
 ·simp only [Classical.not_forall,Classical.not_not] at hne
  obtain ⟨i,j,hij,e⟩:=hne
  have hl:s i < s j:=by
   have:=hmono (j - i - 1) i
   rwa [show i+(j - i - 1)+1=j by omega] at this
  refine ⟨s i,hs i,π (s i+1),h _,?_⟩
  have:=run_rp h (s j - (s i+1)) (s i+1)
  rw [show s i+1+(s j - (s i+1))=s j by omega,← e] at this
  exact this
def z259 (p q:List Int) (k:Nat):Int:=if k < p.length then p.getD k 0 else q.getD ((k - p.length) % q.length) 0
theorem z651 {rows:List (List Int)} {p q:List Int} (hp:PathP rows p) (hq:PathP rows q) (hl:0 < q.length) (h1:0 < p.length→q.getD 0 0∈rows.getD (p.getD (p.length - 1) 0).toNat []) (h2:q.getD 0 0∈rows.getD (q.getD (q.length - 1) 0).toNat []) (k:Nat):z259 p q (k+1)∈rows.getD (z259 p q k).toNat []:=by
 unfold z259
 rcases y66 (k+1) p.length with h|h
 ·rw [if_pos h,if_pos (by omega)];exact hp k h
 rw [if_neg (show ¬ k+1 < p.length by omega)]
 rcases y66 k p.length with h3|h3
 ·rw [if_pos h3,show k+1 - p.length=0 by omega,Nat.zero_mod,show k=p.length - 1 by omega]
  exact h1 (by omega)
 rw [if_neg (show ¬ k < p.length by omega),show k+1 - p.length=(k - p.length)+1 by omega]
 generalize k - p.length=j
 have hm:=Nat.mod_lt j hl
 rcases y66 (j % q.length+1) q.length with h4|h4
 ·rw [Nat.add_mod,Nat.mod_eq_of_lt (show 1 < q.length by omega),Nat.mod_eq_of_lt h4];exact hq _ h4
 ·have e:j % q.length=q.length - 1:=by omega
  have e2:(j+1) % q.length=0:=by
   have:=Nat.div_add_mod j q.length
   rw [e] at this
   rw [show j+1=q.length * (j / q.length)+q.length by omega]
   simp
  rw [e,e2];exact h2
theorem z733 {p q:List Int} {i:Nat} (hi:i < q.length) (m:Nat):∃ k,m≤k∧z259 p q k=q.getD i 0:=by
 refine ⟨p.length+(q.length * m+i),by have:m≤q.length * m:=Nat.le_mul_of_pos_left m (by omega);omega,?_⟩
 unfold z259
 rw [if_neg (by omega),show p.length+(q.length * m+i) - p.length=q.length * m+i by omega,Nat.mul_add_mod,Nat.mod_eq_of_lt hi]
theorem cyc_run {rows:List (List Int)} {ini:List Int} {x:Int} (h:RP rows ini x) (hc:Cyc rows x):∃ π:Nat→Int,π 0∈ini∧(∀ k,π (k+1)∈rows.getD (π k).toNat [])∧∀ m,∃ k,m≤k∧π k=x:=by
 obtain ⟨p,p1,p2,p3,p4⟩:=h.path
 obtain ⟨y,hy,hr⟩:=hc
 obtain ⟨q,q1,q2,q3,q4⟩:=hr.path
 rw [y51] at q2
 refine ⟨z259 p q,by unfold z259;rw [if_pos p1];exact p2,z651 p4 q4 q1 (fun _=>by rw [q2,p3];exact hy) (by rw [q2,q3];exact hy),fun m=>?_⟩
 obtain ⟨k,h1,h2⟩:=z733 (p:=p) (q:=q) (i:=q.length - 1) (by omega) m
 exact ⟨k,h1,by rw [h2,q3]⟩
theorem inf_iff {rows:List (List Int)} {ini:List Int} {N:Nat} (hr:∀ r∈rows,InN N r) (hi:InN N ini) {acc:Int→Prop} : (∃ π:Nat→Int,π 0∈ini∧(∀ k,π (k+1)∈rows.getD (π k).toNat [])∧∀ m,∃ k,m≤k∧acc (π k))↔∃ x,RP rows ini x∧acc x∧Cyc rows x:=by
 constructor
 ·rintro ⟨π,h0,h1,h2⟩
  obtain ⟨k,h3,h4⟩:=run_cyc hr h1 (hi _ h0) h2
  refine ⟨_,?_,h3,h4⟩
  have:=run_rp h1 k 0
  rw [Nat.zero_add] at this
  exact (RP.base h0).trans0 this
 ·rintro ⟨x,h1,h2,h3⟩
  obtain ⟨π,p0,p1,p2⟩:=cyc_run h1 h3
  exact ⟨π,p0,p1,fun m=>by obtain ⟨k,k1,k2⟩:=p2 m;exact ⟨k,k1,by rw [k2];exact h2⟩⟩
def z179 (k:Int):Int:=if k=1∨k=2 then 0 else if k=3∨k=6∨k=9∨k=10 then 1 else if k=4∨k=5∨k=7∨k=8 then 2 else -1
def z381 (k:Int):Int:=if k=2 then 2 else 0
mutual
def Tree.walkF (t:Tree) (d n:Int):Int×Bool:=match t with
 |.mk k v l=>if d≤6∧n+1≤12∧0≤v∧v≤z381 k∧(l.length:Int)=z179 k then Tree.walkFs l (d+1) (n+1) else (n+1,false)
def Tree.walkFs (l:List Tree) (d n:Int):Int×Bool:=match l with
 |[]=>(n,true)
 |t::r=>if (Tree.walkF t d n).2 then Tree.walkFs r d (Tree.walkF t d n).1 else ((Tree.walkF t d n).1,false)
end
mutual
def Tree.shapeF (t:Tree) (d:Int):Bool:=match t with
 |.mk k v l=>decide (1≤d∧(l.length:Int)=z179 k∧0≤v∧v≤z381 k) && Tree.shapeFs l (d - 1)
def Tree.shapeFs (l:List Tree) (d:Int):Bool:=match l with
 |[]=>true
 |t::r=>Tree.shapeF t d && Tree.shapeFs r d
end
theorem Tree.walkF_spec : (∀ (t : Tree) d n, 0 ≤ n → n ≤ 12 → ((t.walkF d n).2 = true ↔ t.shapeF (7 - d) = true ∧ n + t.count (7 - d) ≤ 12) ∧ ((t.walkF d n).2 = true → (t.walkF d n).1 = n + t.count (7 - d)) ∧ n ≤ (t.walkF d n).1 ∧ (t.walkF d n).1 ≤ 13) ∧
  ∀ (l:List Tree) d n,0≤n→n≤12→((Tree.walkFs l d n).2=true↔Tree.shapeFs l (7 - d)=true∧n+Tree.counts l (7 - d)≤12)∧((Tree.walkFs l d n).2=true→(Tree.walkFs l d n).1=n+Tree.counts l (7 - d))∧n≤(Tree.walkFs l d n).1∧(Tree.walkFs l d n).1≤13:=by
 refine Tree.rec2 ?_ ?_ ?_
 ·intro k v l ih d n h0 h1
  simp only [Tree.walkF,Tree.shapeF,Tree.count,y67,decide_eq_true_eq]
  have hc:=Tree.count_pos.2 l (7 - d - 1)
  by_cases hb:d≤6∧n+1≤12∧0≤v∧v≤z381 k∧(l.length:Int)=z179 k
  ·rw [if_pos hb,if_pos (by omega)]
   have:=ih (d+1) (n+1) (by omega) hb.2.1
   rw [show 7 - (d+1)=7 - d - 1 by omega] at this
   obtain ⟨a1,a2,a3,a4⟩:=this
   refine ⟨?_,?_,by omega,by omega⟩
   ·rw [a1]
    constructor
    ·rintro ⟨b1,b2⟩;exact ⟨⟨⟨by omega,hb.2.2.2.2,hb.2.2.1,hb.2.2.2.1⟩,b1⟩,by omega⟩
    ·rintro ⟨b1,b2⟩;exact ⟨b1.2,by omega⟩
   ·intro h;rw [a2 h];omega
  ·rw [if_neg hb]
   refine ⟨⟨by simp,?_⟩,by simp,by simp only;omega,by simp only;omega⟩
   rintro ⟨⟨⟨b1,b2,b3,b4⟩,b5⟩,b6⟩
   rw [if_pos (by omega)] at b6
   exact absurd ⟨by omega,by omega,b3,b4,b2⟩ hb
 ·intro d n h0 h1
  simp [Tree.walkFs,Tree.shapeFs,Tree.counts];omega
 ·intro t r iht ihr d n h0 h1
  simp only [Tree.walkFs,Tree.shapeFs,Tree.counts,y67]
  obtain ⟨a1,a2,a3,a4⟩:=iht d n h0 h1
  have hc:=Tree.count_pos.2 r (7 - d)
  by_cases hb:(t.walkF d n).2=true
  ·rw [if_pos hb]
   have e:=a2 hb
   obtain ⟨b1,b2,b3,b4⟩:=ihr d (t.walkF d n).1 (by omega) (by rw [e];exact (a1.1 hb).2)
   refine ⟨?_,fun h=>by rw [b2 h,e];omega,by omega,b4⟩
   rw [b1,e]
   exact ⟨fun h=>⟨⟨(a1.1 hb).1,h.1⟩,by omega⟩,fun h=>⟨h.1.2,by omega⟩⟩
  ·rw [if_neg hb]
   refine ⟨⟨by simp,fun h=>absurd (a1.2 ⟨h.1.1,by omega⟩) hb⟩,by simp,a3,a4⟩
theorem y37 (t:Tree) (d n:Int):t.walkF d n=if d≤6∧n+1≤12∧0≤t.val∧t.val≤z381 t.kind∧(t.kids.length:Int)=z179 t.kind then Tree.walkFs t.kids (d+1) (n+1) else (n+1,false):=by
 cases t;rfl
theorem y38 (d:Int) (l:List Tree):∀ n k,Tree.walkFs l d n=((idxS (fun (x:Tree) s=>!(x.walkF d s).2) (fun x s=>(x.walkF d s).1) l n k).2,!decide (0≤(idxS (fun (x:Tree) s=>!(x.walkF d s).2) (fun x s=>(x.walkF d s).1) l n k).1)):=by
 induction l with
 |nil=>intro n k;simp [Tree.walkFs,idxS]
 |cons t l ih =>
  intro n k
  simp only [Tree.walkFs,idxS]
  cases h:(t.walkF d n).2
  ·simp
  ·simp only [if_true,Bool.not_true,Bool.false_eq_true,if_false];exact ih _ _
def Tree.fmB (t:Tree):Bool:=(t.walkF 1 0).2
theorem y19 (t:Tree):t.fmB=(t.shapeF 6 && decide (t.count 6≤12)):=by
 have h:=(Tree.walkF_spec.1 t 1 0 (by omega) (by omega)).1
 rw [show (7:Int) - 1=6 by omega,Int.zero_add] at h
 rw [Bool.eq_iff_iff,y67,decide_eq_true_eq]
 exact h
theorem y29 (l:List Tree) (d:Int):Tree.shapeFs l d=true↔∀ t∈l,t.shapeF d=true:=by
 induction l with
 |nil=>simp [Tree.shapeFs]
 |cons t l ih=>simp [Tree.shapeFs,ih]
theorem y28 (t:Tree) (d:Int):t.shapeF d=true↔(1≤d∧(t.kids.length:Int)=z179 t.kind∧0≤t.val∧t.val≤z381 t.kind)∧∀ u∈t.kids,u.shapeF (d - 1)=true:=by
 cases t with
 |mk k v l=>simp only [Tree.shapeF,y67,decide_eq_true_eq,y29,Tree.kids,Tree.kind,Tree.val]
def Tree.goodF (t:Tree):Prop:=∃ d,t.shapeF d=true
theorem y22 {t:Tree} (h:t.fmB=true):t.goodF:=by
 rw [y19,y67] at h
 exact ⟨6,h.1⟩
theorem y21 {t:Tree} (h:t.goodF):(t.kids.length:Int)=z179 t.kind∧0≤t.val∧t.val≤z381 t.kind∧∀ u∈t.kids,u.goodF:=by
 obtain ⟨d,h⟩:=h
 rw [y28] at h
 exact ⟨h.1.2.1,h.1.2.2.1,h.1.2.2.2,fun u hu=>⟨d - 1,h.2 u hu⟩⟩
inductive FormF:Tree→Prop
 |tr:FormF (.mk 1 0 [])
 |at (v:Int) (h0:0≤v) (h1:v≤2):FormF (.mk 2 v [])
 |un (k:Int) (a:Tree) (hk:k=3∨k=6∨k=9∨k=10) (ha:a.goodF):FormF (.mk k 0 [a])
 |bin (k:Int) (a b:Tree) (hk:k=4∨k=5∨k=7∨k=8) (ha:a.goodF) (hb:b.goodF):FormF (.mk k 0 [a,b])
theorem y20 {t:Tree} (h:t.goodF):FormF t:=by
 obtain ⟨h1,h2,h3,h4⟩:=y21 h
 cases t with
 |mk k v l =>
  simp only [Tree.kids,Tree.kind,Tree.val] at h1 h2 h3 h4
  unfold z381 at h3
  unfold z179 at h1
  by_cases e1:k=1
  ·subst e1
   simp at h1 h3
   obtain rfl:v=0:=by omega
   subst h1;exact .tr
  by_cases e2:k=2
  ·subst e2
   simp at h1 h3
   subst h1;exact .at v h2 h3
  rw [if_neg e2] at h3
  obtain rfl:v=0:=by omega
  by_cases e3:k=3∨k=6∨k=9∨k=10
  ·rw [if_neg (by omega),if_pos e3] at h1
   match l,h1 with
   |[a],_=>exact .un k a e3 (h4 a (by simp))
   |[],h1=>simp at h1
   |a::b::r,h1=>simp at h1;omega
  by_cases e4:k=4∨k=5∨k=7∨k=8
  ·rw [if_neg (by omega),if_neg e3,if_pos e4] at h1
   match l,h1 with
   |[a,b],_=>exact .bin k a b e4 (h4 a (by simp)) (h4 b (by simp))
   |[],h1=>simp at h1
   |[a],h1=>simp at h1
   |a::b::c::r,h1=>simp at h1;omega
  ·rw [if_neg (by omega),if_neg e3,if_neg e4] at h1
   omega
def z760 (k:Int):Int:=if k=4 then 5 else if k=5 then 4 else if k=7 then 8 else 7
def dftT:Tree:=.mk 0 0 []
def truT:Tree:=.mk 1 0 []
def notT (t:Tree):Tree:=.mk 3 0 [t]
def z831 (k v:Int) (neg:Bool) (ks:List Tree):Tree :=
 if k=1∨k=2 then (if neg then notT (.mk k v []) else .mk k v [])
 else if k=6 then .mk 6 0 [ks.getD 0 dftT]
 else if k=9∨k=10 then (if (decide (k=9) != neg)=true then .mk 7 0 [truT,ks.getD 0 dftT] else .mk 8 0 [notT truT,ks.getD 0 dftT])
 else .mk (if neg then z760 k else k) 0 [ks.getD 0 dftT,ks.getD 1 dftT]
mutual
def Tree.nrm (neg:Bool) (t:Tree):Tree:=match t with
 |.mk k v l=>if k=3 then (Tree.nrms (!neg) l).getD 0 dftT else z831 k v neg (Tree.nrms neg l)
def Tree.nrms (neg:Bool) (l:List Tree):List Tree:=match l with
 |[]=>[]
 |t::r=>Tree.nrm neg t::Tree.nrms neg r
end
theorem z902 (neg:Bool):(Tree.mk 1 0 []).nrm neg=if neg then notT (.mk 1 0 []) else .mk 1 0 []:=by simp [Tree.nrm,Tree.nrms,z831]
theorem z904 (neg:Bool) (v:Int):(Tree.mk 2 v []).nrm neg=if neg then notT (.mk 2 v []) else .mk 2 v []:=by simp [Tree.nrm,Tree.nrms,z831]
theorem z645 (neg:Bool) (v:Int) (a:Tree):(Tree.mk 3 v [a]).nrm neg=a.nrm (!neg):=by simp [Tree.nrm,Tree.nrms]
theorem z466 (neg:Bool) (v:Int) (a:Tree):(Tree.mk 6 v [a]).nrm neg=.mk 6 0 [a.nrm neg]:=by simp [Tree.nrm,Tree.nrms,z831]
theorem z903 (neg:Bool) (v:Int) (a:Tree):(Tree.mk 9 v [a]).nrm neg=if neg then .mk 8 0 [notT truT,a.nrm neg] else .mk 7 0 [truT,a.nrm neg]:=by cases neg<;>simp [Tree.nrm,Tree.nrms,z831]
theorem z905 (neg:Bool) (v:Int) (a:Tree):(Tree.mk 10 v [a]).nrm neg=if neg then .mk 7 0 [truT,a.nrm neg] else .mk 8 0 [notT truT,a.nrm neg]:=by cases neg<;>simp [Tree.nrm,Tree.nrms,z831]
theorem z646 (neg:Bool) (k v:Int) (a b:Tree) (hk:k=4∨k=5∨k=7∨k=8):(Tree.mk k v [a,b]).nrm neg=.mk (if neg then z760 k else k) 0 [a.nrm neg,b.nrm neg]:=by
 rcases hk with rfl|rfl|rfl|rfl<;>simp [Tree.nrm,Tree.nrms,z831]
theorem z362 (k v:Int) (a:Tree):(Tree.mk k v [a]).sz=1+a.sz:=by simp [Tree.sz,Tree.szs]
theorem z433 (k v:Int) (a b:Tree):(Tree.mk k v [a,b]).sz=2+(a.sz+b.sz):=by simp [Tree.sz,Tree.szs];omega
theorem z492 (k v:Int):(Tree.mk k v []).sz=0:=by simp [Tree.sz,Tree.szs]
theorem y27 (t:Tree):t.goodF→∀ neg,(t.nrm neg).sz≤4 * t.sz+3:=by
 induction t using y25 with|h t ih=>?_
 intro hg neg
 cases y20 hg with
 |tr=>rw [z902];cases neg<;>simp [notT,z362,z492]
 |«at» v _ _=>rw [z904];cases neg<;>simp [notT,z362,z492]
 |un k a hk ha =>
  have h1:=ih a (by simp [Tree.kids]) ha
  rw [z362]
  rcases hk with rfl|rfl|rfl|rfl
  ·rw [z645];have:=h1 (!neg);omega
  ·rw [z466,z362];have:=h1 neg;omega
  ·rw [z903];have:=h1 neg;cases neg<;>simp [z433,notT,truT,z362,z492]<;>omega
  ·rw [z905];have:=h1 neg;cases neg<;>simp [z433,notT,truT,z362,z492]<;>omega
 |bin k a b hk ha hb =>
  have h1:=ih a (by simp [Tree.kids]) ha neg
  have h2:=ih b (by simp [Tree.kids]) hb neg
  rw [z646 _ _ _ _ _ hk,z433,z433];omega
noncomputable def addT (o:List Tree) (t:Tree):List Tree:=if t∈o then o else o++[t]
mutual
noncomputable def Tree.subs (t:Tree) (o:List Tree):List Tree:=match t with
 |.mk k v l=>addT (Tree.subss l o) (.mk k v l)
noncomputable def Tree.subss (l:List Tree) (o:List Tree):List Tree:=match l with
 |[]=>o
 |t::r=>Tree.subss r (Tree.subs t o)
end
theorem y31 (t:Tree) (o:List Tree):t.subs o=addT (Tree.subss t.kids o) t:=by cases t;rw [Tree.subs];rfl
theorem y32 (l:List Tree) (t:Tree):∀ o,Tree.subss (l++[t]) o=t.subs (Tree.subss l o):=by
 induction l with
 |nil=>intro o;simp [Tree.subss]
 |cons u l ih=>intro o;simp only [List.cons_append,Tree.subss];exact ih _
theorem y33 {l:List Tree} {k:Nat} (h:k < l.length) (o:List Tree):Tree.subss (l.take (k+1)) o=l[k].subs (Tree.subss (l.take k) o):=by
 rw [y46 h,y32]
theorem z318 {o:List Tree} {t x:Tree} : x∈addT o t↔x∈o∨x=t:=by
 unfold addT
 split
 ·rename_i h
  constructor
  ·exact .inl
  ·rintro (h1|rfl)
   ·exact h1
   ·exact h
 ·simp
theorem z1023 {o:List Tree} {t:Tree} (h:o.Nodup):(addT o t).Nodup:=by
 unfold addT
 split
 ·exact h
 ·rename_i hn
  rw [y72]
  exact ⟨h,by simp,fun a ha b hb=>by rintro rfl;rw [List.mem_singleton.1 hb] at ha;exact hn ha⟩
theorem addT_len (o:List Tree) (t:Tree):(addT o t).length≤o.length+1:=by unfold addT;split<;>simp
theorem z309:∀ t:Tree,∀ o:List Tree,(o.Nodup→(t.subs o).Nodup)∧(∀ x∈o,x∈t.subs o)∧t∈t.subs o∧(t.subs o).length≤o.length+t.sz+1∧(∀ x∈t.subs o,x∈o∨x.sz≤t.sz)∧((∀ x∈o,∀ u∈x.kids,u∈o)→∀ x∈t.subs o,∀ u∈x.kids,u∈t.subs o):=by
 intro t
 induction t using y25 with|h t ih=>?_
 have key:∀ (l:List Tree),(∀ u∈l,u∈t.kids)→∀ o:List Tree,(o.Nodup→(Tree.subss l o).Nodup)∧(∀ x∈o,x∈Tree.subss l o)∧(∀ u∈l,u∈Tree.subss l o)∧(Tree.subss l o).length≤o.length+(l.map fun u=>u.sz+1).sum∧(∀ x∈Tree.subss l o,x∈o∨∃ u∈l,x.sz≤u.sz)∧((∀ x∈o,∀ u∈x.kids,u∈o)→∀ x∈Tree.subss l o,∀ u∈x.kids,u∈Tree.subss l o):=by
  intro l
  induction l with
  |nil=>intro _ o;simp [Tree.subss]
  |cons u l ihl =>
   intro hl o
   obtain ⟨a1,a2,a3,a4,a5,a6⟩:=ih u (hl u (by simp)) o
   obtain ⟨b1,b2,b3,b4,b5,b6⟩:=ihl (fun x hx=>hl x (y69 _ hx)) (u.subs o)
   rw [Tree.subss]
   refine ⟨fun h=>b1 (a1 h),fun x hx=>b2 x (a2 x hx),fun x hx=>?_,?_,fun x hx=>?_,fun h=>b6 (a6 h)⟩
   ·rcases List.mem_cons.1 hx with rfl|hx
    ·exact b2 _ a3
    ·exact b3 x hx
   ·simp only [List.map_cons,List.sum_cons];omega
   ·rcases b5 x hx with h|⟨y,hy,h⟩
    ·rcases a5 x h with h|h
     ·exact .inl h
     ·exact .inr ⟨u,by simp,h⟩
    ·exact .inr ⟨y,y69 _ hy,h⟩
 intro o
 obtain ⟨b1,b2,b3,b4,b5,b6⟩:=key t.kids (fun _ h=>h) o
 rw [y31]
 have hsz:=y34 t
 have hsum:(t.kids.map fun u=>u.sz+1).sum=t.kids.length+(t.kids.map Tree.sz).sum:=by
  generalize t.kids=l
  induction l with
  |nil=>rfl
  |cons a l ih=>simp only [List.map_cons,List.sum_cons,y54,ih];omega
 refine ⟨fun h=>z1023 (b1 h),fun x hx=>z318.2 (.inl (b2 x hx)),z318.2 (.inr rfl),?_,fun x hx=>?_,fun h x hx u hu=>z318.2 (.inl ?_)⟩
 ·have:=addT_len (Tree.subss t.kids o) t
  omega
 ·rcases z318.1 hx with h|rfl
  ·rcases b5 x h with h|⟨u,hu,h⟩
   ·exact .inl h
   ·have:=z385 Tree.sz hu
    exact .inr (by omega)
  ·exact .inr (y48 _)
 ·rcases z318.1 hx with h2|rfl
  ·exact b6 h x h2 u hu
  ·exact b3 u hu
def z107 (t:Tree):Bool:=decide (t.kind=2∨t.kind=6∨t.kind=7∨t.kind=8)
noncomputable def bscL (t:Tree):List Tree:=(t.subs []).filter z107
noncomputable def bscB (t:Tree):Bool:=decide ((t.fmB=true∧(t.nrm false).fmB=true)∧(bscL (t.nrm false)).length≤5)
def z501 (w:Nat→Int) (k v:Int) (ks:List (Nat→Prop)) (i:Nat):Prop :=
 if k=2 then hasB (w i) v=true
 else if k=3 then ¬ (ks.getD 0 fun _=>False) i
 else if k=4 then (ks.getD 0 fun _=>False) i∧(ks.getD 1 fun _=>False) i
 else if k=5 then (ks.getD 0 fun _=>False) i∨(ks.getD 1 fun _=>False) i
 else if k=6 then (ks.getD 0 fun _=>False) (i+1)
 else if k=7 then ∃ j,i≤j∧(ks.getD 1 fun _=>False) j∧∀ m,i≤m→m < j→(ks.getD 0 fun _=>False) m
 else if k=8 then ∀ j,i≤j→(ks.getD 1 fun _=>False) j∨∃ m,i≤m∧m < j∧(ks.getD 0 fun _=>False) m
 else if k=9 then ∃ j,i≤j∧(ks.getD 0 fun _=>False) j
 else if k=10 then ∀ j,i≤j→(ks.getD 0 fun _=>False) j
 else True
mutual
def Tree.sem (w:Nat→Int) (t:Tree):Nat→Prop:=match t with
 |.mk k v l=>z501 w k v (Tree.sems w l)
def Tree.sems (w:Nat→Int) (l:List Tree):List (Nat→Prop):=match l with
 |[]=>[]
 |t::r=>Tree.sem w t::Tree.sems w r
end
section
variable (w:Nat→Int)
theorem z709 (v:Int) (i:Nat):(Tree.mk 1 v []).sem w i↔True:=by simp [Tree.sem,Tree.sems,z501]
theorem z1073 (v:Int) (i:Nat):(Tree.mk 2 v []).sem w i↔hasB (w i) v=true:=by simp [Tree.sem,Tree.sems,z501]
theorem z414 (v:Int) (a:Tree) (i:Nat):(Tree.mk 3 v [a]).sem w i↔¬ a.sem w i:=by simp [Tree.sem,Tree.sems,z501]
theorem z415 (v:Int) (a b:Tree) (i:Nat):(Tree.mk 4 v [a,b]).sem w i↔a.sem w i∧b.sem w i:=by simp [Tree.sem,Tree.sems,z501]
theorem z574 (v:Int) (a b:Tree) (i:Nat):(Tree.mk 5 v [a,b]).sem w i↔a.sem w i∨b.sem w i:=by simp [Tree.sem,Tree.sems,z501]
theorem z462 (v:Int) (a:Tree) (i:Nat):(Tree.mk 6 v [a]).sem w i↔a.sem w (i+1):=by simp [Tree.sem,Tree.sems,z501]
theorem z325 (v:Int) (a b:Tree) (i:Nat):(Tree.mk 7 v [a,b]).sem w i↔∃ j,i≤j∧b.sem w j∧∀ m,i≤m→m < j→a.sem w m:=by simp [Tree.sem,Tree.sems,z501]
theorem z371 (v:Int) (a b:Tree) (i:Nat):(Tree.mk 8 v [a,b]).sem w i↔∀ j,i≤j→b.sem w j∨∃ m,i≤m∧m < j∧a.sem w m:=by simp [Tree.sem,Tree.sems,z501]
theorem sem_ev (v:Int) (a:Tree) (i:Nat):(Tree.mk 9 v [a]).sem w i↔∃ j,i≤j∧a.sem w j:=by simp [Tree.sem,Tree.sems,z501]
theorem sem_al (v:Int) (a:Tree) (i:Nat):(Tree.mk 10 v [a]).sem w i↔∀ j,i≤j→a.sem w j:=by simp [Tree.sem,Tree.sems,z501]
theorem z1049 (A B:Nat→Prop) (i:Nat):(¬ ∃ j,i≤j∧B j∧∀ m,i≤m→m < j→A m)↔∀ j,i≤j→¬ B j∨∃ m,i≤m∧m < j∧¬ A m:=by
 constructor
 ·intro h j hj
  refine y74 fun hc=>?_
  simp only [not_or,Classical.not_not,not_exists,not_and] at hc
  exact h ⟨j,hj,hc.1,hc.2⟩
 ·rintro h ⟨j,hj,hb,ha⟩
  rcases h j hj with h|⟨m,h1,h2,h3⟩
  ·exact h hb
  ·exact h3 (ha m h1 h2)
theorem re_dual (A B:Nat→Prop) (i:Nat):(¬ ∀ j,i≤j→B j∨∃ m,i≤m∧m < j∧A m)↔∃ j,i≤j∧¬ B j∧∀ m,i≤m→m < j→¬ A m:=by
 have h:=z1049 (fun m=>¬ A m) (fun m=>¬ B m) i
 simp only [Classical.not_not] at h
 rw [← h,Classical.not_not]
theorem z461 (i:Nat):truT.sem w i:=(z709 w 0 i).2 trivial
theorem z372 (a:Tree) (i:Nat):(notT a).sem w i↔¬ a.sem w i:=z414 w 0 a i
theorem sem_nrm (t:Tree):t.goodF→∀ (neg:Bool) (i:Nat),(t.nrm neg).sem w i↔if neg=true then ¬ t.sem w i else t.sem w i:=by
 induction t using y25 with|h t ih=>?_
 intro hg neg i
 cases y20 hg with
 |tr=>rw [z902];cases neg<;>simp [z372,z709]
 |«at» v _ _=>rw [z904];cases neg<;>simp [z372]
 |un k a hk ha =>
  have h1:=ih a (by simp [Tree.kids]) ha
  rcases hk with rfl|rfl|rfl|rfl
  ·rw [z645,h1];cases neg<;>simp [z414]
  ·rw [z466,z462,h1,z462]
  ·rw [z903]
   cases neg
   ·simp only [Bool.false_eq_true,if_false]
    rw [z325,sem_ev]
    refine exists_congr fun j=>and_congr_right fun _=>?_
    rw [h1]
    simp [z461]
   ·simp only [if_true]
    rw [z371,sem_ev,not_exists]
    refine forall_congr' fun j=>?_
    rw [not_and]
    refine imp_congr_right fun _=>?_
    rw [h1]
    simp [z372,z461]
  ·rw [z905]
   cases neg
   ·simp only [Bool.false_eq_true,if_false]
    rw [z371,sem_al]
    refine forall_congr' fun j=>imp_congr_right fun _=>?_
    rw [h1]
    simp [z372,z461]
   ·simp only [if_true]
    rw [z325,sem_al]
    simp only [Classical.not_forall]
    refine exists_congr fun j=>?_
    rw [h1]
    simp [z461]
 |bin k a b hk ha hb =>
  have h1:=ih a (by simp [Tree.kids]) ha neg
  have h2:=ih b (by simp [Tree.kids]) hb neg
  rw [z646 _ _ _ _ _ hk]
  rcases hk with rfl|rfl|rfl|rfl
  ·cases neg
   ·simp only [Bool.false_eq_true,if_false] at h1 h2 ⊢
    rw [z415,z415,h1,h2]
   ·simp only [if_true] at h1 h2 ⊢
    rw [show z760 4=5 from rfl,z574,z415,h1,h2,Classical.not_and_iff_not_or_not]
  ·cases neg
   ·simp only [Bool.false_eq_true,if_false] at h1 h2 ⊢
    rw [z574,z574,h1,h2]
   ·simp only [if_true] at h1 h2 ⊢
    rw [show z760 5=4 from rfl,z574,z415,h1,h2,not_or]
  ·cases neg
   ·simp only [Bool.false_eq_true,if_false] at h1 h2 ⊢
    rw [z325,z325]
    simp only [h1,h2]
   ·simp only [if_true] at h1 h2 ⊢
    rw [show z760 7=8 from rfl,z371,z325,z1049]
    simp only [h1,h2]
  ·cases neg
   ·simp only [Bool.false_eq_true,if_false] at h1 h2 ⊢
    rw [z371,z371]
    simp only [h1,h2]
   ·simp only [if_true] at h1 h2 ⊢
    rw [show z760 8=7 from rfl,z371,z325,re_dual]
    simp only [h1,h2]
end
mutual
def Tree.vl (σ:Tree→Bool) (t:Tree):Bool:=match t with
 |.mk k v l=>if k=1 then true else if k=3 then !((Tree.vls σ l).getD 0 false) else if k=4 then (Tree.vls σ l).getD 0 false && (Tree.vls σ l).getD 1 false else if k=5 then (Tree.vls σ l).getD 0 false || (Tree.vls σ l).getD 1 false else σ (.mk k v l)
def Tree.vls (σ:Tree→Bool) (l:List Tree):List Bool:=match l with
 |[]=>[]
 |t::r=>Tree.vl σ t::Tree.vls σ r
end
inductive NF:Tree→Prop
 |tr:NF (.mk 1 0 [])
 |at (v:Int):NF (.mk 2 v [])
 |nt:NF (.mk 3 0 [.mk 1 0 []])
 |na (v:Int):NF (.mk 3 0 [.mk 2 v []])
 |an {a b:Tree} : NF a→NF b→NF (.mk 4 0 [a,b])
 |or {a b:Tree} : NF a→NF b→NF (.mk 5 0 [a,b])
 |nx {a:Tree} : NF a→NF (.mk 6 0 [a])
 |un {a b:Tree} : NF a→NF b→NF (.mk 7 0 [a,b])
 |re {a b:Tree} : NF a→NF b→NF (.mk 8 0 [a,b])
theorem nrm_NF (t:Tree):t.goodF→∀ neg,NF (t.nrm neg):=by
 induction t using y25 with|h t ih=>?_
 intro hg neg
 cases y20 hg with
 |tr=>rw [z902];cases neg;exact .tr;exact .nt
 |«at» v _ _=>rw [z904];cases neg;exact .at v;exact .na v
 |un k a hk ha =>
  have h1:=ih a (by simp [Tree.kids]) ha
  rcases hk with rfl|rfl|rfl|rfl
  ·rw [z645];exact h1 _
  ·rw [z466];exact .nx (h1 _)
  ·rw [z903];cases neg;exact .un .tr (h1 _);exact .re .nt (h1 _)
  ·rw [z905];cases neg;exact .re .nt (h1 _);exact .un .tr (h1 _)
 |bin k a b hk ha hb =>
  have h1:=ih a (by simp [Tree.kids]) ha neg
  have h2:=ih b (by simp [Tree.kids]) hb neg
  rw [z646 _ _ _ _ _ hk]
  rcases hk with rfl|rfl|rfl|rfl<;>cases neg<;>first|exact .an h1 h2|exact .or h1 h2|exact .un h1 h2|exact .re h1 h2
section
variable {σ:Tree→Bool}
theorem z611:(Tree.mk 1 0 []).vl σ=true:=by simp [Tree.vl]
theorem z324 (v:Int) (a:Tree):(Tree.mk 3 v [a]).vl σ=!a.vl σ:=by simp [Tree.vl,Tree.vls]
theorem z686 (v:Int) (a b:Tree):(Tree.mk 4 v [a,b]).vl σ=(a.vl σ && b.vl σ):=by simp [Tree.vl,Tree.vls]
theorem z1030 (v:Int) (a b:Tree):(Tree.mk 5 v [a,b]).vl σ=(a.vl σ || b.vl σ):=by simp [Tree.vl,Tree.vls]
theorem z549 (v:Int):(Tree.mk 2 v []).vl σ=σ (.mk 2 v []):=by simp [Tree.vl]
theorem z1031 (v:Int) (l:List Tree):(Tree.mk 6 v l).vl σ=σ (.mk 6 v l):=by simp [Tree.vl]
theorem z1028 (v:Int) (l:List Tree):(Tree.mk 7 v l).vl σ=σ (.mk 7 v l):=by simp [Tree.vl]
theorem z1029 (v:Int) (l:List Tree):(Tree.mk 8 v l).vl σ=σ (.mk 8 v l):=by simp [Tree.vl]
end
structure Fits (w:Nat→Int) (B:Tree→Prop) (σ:Nat→Tree→Bool):Prop where
 at_:∀ k v,B (.mk 2 v [])→σ k (.mk 2 v [])=hasB (w k) v
 nx:∀ k a,B (.mk 6 0 [a])→σ k (.mk 6 0 [a])=a.vl (σ (k+1))
 un:∀ k a b,B (.mk 7 0 [a,b])→σ k (.mk 7 0 [a,b])=(b.vl (σ k) || (a.vl (σ k) && σ (k+1) (.mk 7 0 [a,b])))
 re:∀ k a b,B (.mk 8 0 [a,b])→σ k (.mk 8 0 [a,b])=(b.vl (σ k) && (a.vl (σ k) || σ (k+1) (.mk 8 0 [a,b])))
def Fair (B:Tree→Prop) (σ:Nat→Tree→Bool):Prop:=∀ a b,B (.mk 7 0 [a,b])→∀ m,∃ k,m≤k∧(σ k (.mk 7 0 [a,b])=false∨b.vl (σ k)=true)
inductive In (B:Tree→Prop):Tree→Prop
 |tr:In B (.mk 1 0 [])
 |at (v:Int):B (.mk 2 v [])→In B (.mk 2 v [])
 |nt:In B (.mk 3 0 [.mk 1 0 []])
 |na (v:Int):B (.mk 2 v [])→In B (.mk 3 0 [.mk 2 v []])
 |an {a b:Tree} : In B a→In B b→In B (.mk 4 0 [a,b])
 |or {a b:Tree} : In B a→In B b→In B (.mk 5 0 [a,b])
 |nx {a:Tree} : B (.mk 6 0 [a])→In B a→In B (.mk 6 0 [a])
 |un {a b:Tree} : B (.mk 7 0 [a,b])→In B a→In B b→In B (.mk 7 0 [a,b])
 |re {a b:Tree} : B (.mk 8 0 [a,b])→In B a→In B b→In B (.mk 8 0 [a,b])
theorem z1000 {w:Nat→Int} {B:Tree→Prop} {σ:Nat→Tree→Bool} (h:Fits w B σ) (hf:Fair B σ) {t:Tree} (ht:In B t):∀ k,t.vl (σ k)=true→t.sem w k:=by
 induction ht with
 |tr=>intro k _;exact (z709 w 0 k).2 trivial
 |«at» v hb=>intro k hv;rw [z549,h.at_ k v hb] at hv;exact (z1073 w v k).2 hv
 |nt=>intro k hv;rw [z324,z611] at hv;cases hv
 |na v hb =>
  intro k hv
  rw [z324,z549,h.at_ k v hb] at hv
  rw [z414,z1073]
  intro hc;rw [hc] at hv;cases hv
 |an _ _ iha ihb=>intro k hv;rw [z686,y67] at hv;exact (z415 w _ _ _ k).2 ⟨iha k hv.1,ihb k hv.2⟩
 |or _ _ iha ihb=>intro k hv;rw [z1030,Bool.or_eq_true] at hv;exact (z574 w _ _ _ k).2 (hv.imp (iha k) (ihb k))
 |nx hb _ iha=>intro k hv;rw [z1031,h.nx k _ hb] at hv;exact (z462 w _ _ k).2 (iha (k+1) hv)
 |un hb _ _ iha ihb =>
  rename_i a b _ _
  intro k hv
  rw [z1028] at hv
  rw [z325]
  obtain ⟨m,hm,he⟩:=hf a b hb k
  have key:∀ d k,σ k (.mk 7 0 [a,b])=true→m=k+d→∃ j,k≤j∧b.sem w j∧∀ m,k≤m→m < j→a.sem w m:=by
   intro d
   induction d with
   |zero =>
    intro k hv hk
    have hk:m=k:=by omega
    rw [hk] at he
    rcases he with he|he
    ·rw [he] at hv;cases hv
    ·exact ⟨k,y48 _,ihb k he,fun m h1 h2=>by omega⟩
   |succ d ihd =>
    intro k hv hk
    rw [h.un k a b hb,Bool.or_eq_true,y67] at hv
    rcases hv with hv|⟨h1,h2⟩
    ·exact ⟨k,y48 _,ihb k hv,fun m h1 h2=>by omega⟩
    ·obtain ⟨j,j1,j2,j3⟩:=ihd (k+1) h2 (by omega)
     refine ⟨j,by omega,j2,fun m h3 h4=>?_⟩
     by_cases e:m=k
     ·rw [e];exact iha k h1
     ·exact j3 m (by omega) h4
  exact key (m - k) k hv (by omega)
 |re hb _ _ iha ihb =>
  rename_i a b _ _
  intro k hv
  rw [z1029] at hv
  rw [z371]
  intro j hj
  have key:∀ d k,σ k (.mk 8 0 [a,b])=true→j=k+d→b.sem w j∨∃ m,k≤m∧m < j∧a.sem w m:=by
   intro d
   induction d with
   |zero =>
    intro k hv hk
    have hk:j=k:=by omega
    rw [h.re k a b hb,y67] at hv
    rw [hk];exact .inl (ihb k hv.1)
   |succ d ihd =>
    intro k hv hk
    rw [h.re k a b hb,y67,Bool.or_eq_true] at hv
    rcases hv.2 with h1|h1
    ·exact .inr ⟨k,y48 _,by omega,iha k h1⟩
    ·rcases ihd (k+1) h1 (by omega) with h2|⟨m,m1,m2,m3⟩
     ·exact .inl h2
     ·exact .inr ⟨m,by omega,m2,m3⟩
  exact key (j - k) k hv (by omega)
open Classical in
noncomputable def semA (w:Nat→Int) (k:Nat) (t:Tree):Bool:=decide (t.sem w k)
theorem z343 {w:Nat→Int} {t:Tree} (h:NF t) (k:Nat):t.vl (semA w k)=semA w k t:=by
 classical
 induction h with
 |tr=>rw [z611];unfold semA;rw [y78 ((z709 w 0 k).2 trivial)]
 |«at» v=>rw [z549]
 |nt=>rw [z324,z611];unfold semA;rw [y79];rfl;rw [z414,z709];exact fun h=>h trivial
 |na v =>
  rw [z324,z549];unfold semA
  rw [Bool.eq_iff_iff];simp [z414]
 |an _ _ iha ihb=>rw [z686,iha,ihb];unfold semA;rw [Bool.eq_iff_iff];simp [z415]
 |or _ _ iha ihb=>rw [z1030,iha,ihb];unfold semA;rw [Bool.eq_iff_iff];simp [z574]
 |nx _=>rw [z1031]
 |un _ _=>rw [z1028]
 |re _ _=>rw [z1029]
theorem z1074 {w:Nat→Int} {B:Tree→Prop} (hB:∀ t,B t→NF t):Fits w B (semA w):=by
 classical
 refine ⟨fun k v _=>?_,fun k a hb=>?_,fun k a b hb=>?_,fun k a b hb=>?_⟩
 ·unfold semA;rw [Bool.eq_iff_iff];simp [z1073]
 ·have ha:NF a:=by cases hB _ hb;assumption
  rw [z343 ha];unfold semA;rw [Bool.eq_iff_iff];simp [z462]
 ·obtain ⟨ha,hb2⟩:NF a∧NF b:=by cases hB _ hb;constructor<;>assumption
  rw [z343 ha,z343 hb2];unfold semA
  rw [Bool.eq_iff_iff]
  simp only [Bool.or_eq_true,y67,decide_eq_true_eq]
  rw [z325,z325]
  constructor
  ·rintro ⟨j,h1,h2,h3⟩
   by_cases e:j=k
   ·rw [e] at h2;exact .inl h2
   ·exact .inr ⟨h3 k (y48 _) (by omega),j,by omega,h2,fun m m1 m2=>h3 m (by omega) m2⟩
  ·rintro (h|⟨h1,j,h2,h3,h4⟩)
   ·exact ⟨k,y48 _,h,fun m m1 m2=>by omega⟩
   ·refine ⟨j,by omega,h3,fun m m1 m2=>?_⟩
    by_cases e:m=k
    ·rw [e];exact h1
    ·exact h4 m (by omega) m2
 ·obtain ⟨ha,hb2⟩:NF a∧NF b:=by cases hB _ hb;constructor<;>assumption
  rw [z343 ha,z343 hb2];unfold semA
  rw [Bool.eq_iff_iff]
  simp only [Bool.or_eq_true,y67,decide_eq_true_eq]
  rw [z371,z371]
  constructor
  ·intro h
   refine ⟨(h k (y48 _)).resolve_right fun ⟨m,m1,m2,_⟩=>by omega,?_⟩
   by_cases ha:a.sem w k
   ·exact .inl ha
   ·refine .inr fun j hj=>(h j (by omega)).imp id fun ⟨m,m1,m2,m3⟩=>⟨m,?_,m2,m3⟩
    by_cases e:m=k
    ·rw [e] at m3;exact absurd m3 ha
    ·omega
  ·rintro ⟨h1,h2⟩ j hj
   by_cases e:j=k
   ·rw [e];exact .inl h1
   ·rcases h2 with h2|h2
    ·exact .inr ⟨k,y48 _,by omega,h2⟩
    ·exact (h2 j (by omega)).imp id fun ⟨m,m1,m2,m3⟩=>⟨m,by omega,m2,m3⟩
theorem z1075 {w:Nat→Int} {B:Tree→Prop} (hB:∀ t,B t→NF t):Fair B (semA w):=by
 classical
 intro a b hb m
 obtain ⟨ha,hb2⟩:NF a∧NF b:=by cases hB _ hb;constructor<;>assumption
 by_cases h:(Tree.mk 7 0 [a,b]).sem w m
 ·obtain ⟨j,j1,j2,_⟩:=(z325 w 0 a b m).1 h
  refine ⟨j,j1,.inr ?_⟩
  rw [z343 hb2]
  exact y78 j2
 ·exact ⟨m,y48 _,.inl (y79 h)⟩
end Go.Gl
namespace Go.Gl
noncomputable def plc (B:List Tree) (t:Tree):Int:=match B.findIdx? (fun x=>decide (x=t)) with
 |some i=>i
 |none=>-1
noncomputable def sgB (B:List Tree) (s:Int) (t:Tree):Bool:=hasB s (plc B t)
theorem plc_mem {B:List Tree} {t:Tree} (h:t∈B):0≤plc B t∧plc B t < B.length:=by
 unfold plc
 split
 ·rename_i i e
  obtain ⟨h1,_,_⟩:=List.findIdx?_eq_some_iff_getElem.1 e
  omega
 ·rename_i e
  have:=List.findIdx?_eq_none_iff.1 e t h
  simp at this
theorem plc_at {B:List Tree} (hn:B.Nodup) {i:Nat} (hi:i < B.length):plc B B[i]=i:=by
 have:B.findIdx? (fun x=>decide (x=B[i]))=some i:=List.findIdx?_eq_some_iff_getElem.2 ⟨hi,by simp,fun j hj=>by
  rw [decide_eq_true_eq]
  exact List.pairwise_iff_getElem.1 hn j i (by omega) hi hj⟩
 unfold plc;rw [this]
noncomputable def vlB (B:List Tree) (s:Int) (t:Tree):Bool:=t.vl (sgB B s)
noncomputable def kidV (B:List Tree) (s:Int) (t:Tree) (j:Nat):Bool:=vlB B s (t.kids.getD j dftT)
noncomputable def folV (B:List Tree) (s t:Int) (f:Tree) (now next:Bool):Bool :=
 if f.kind=6 then kidV B t f 0
 else if f.kind=7 then kidV B s f 1 || (kidV B s f 0 && next)
 else if f.kind=8 then kidV B s f 1 && (kidV B s f 0 || next)
 else now
noncomputable def folI (B:List Tree) (s t:Int) (i:Nat):Bool:=folV B s t (B.getD i dftT) (hasB s i) (hasB t i) == hasB s i
noncomputable def folB (B:List Tree) (s t:Int):Bool:=(List.range B.length).all fun i=>folI B s t i
noncomputable def atoI (B:List Tree) (s:Int) (p:Nat×Nat) (i:Nat):Nat×Nat:=if (B.getD i dftT).kind=2 then (p.1 ||| 2 ^ (B.getD i dftT).val.toNat,if hasB s i=true then p.2 ||| 2 ^ (B.getD i dftT).val.toNat else p.2) else p
noncomputable def letB (B:List Tree) (s:Int):Nat×Nat:=(List.range B.length).foldl (atoI B s) (0,0)
noncomputable def untB (B:List Tree):List Int:=((List.range B.length).filter fun i=>decide ((B.getD i dftT).kind=7)).map Int.ofNat
noncomputable def fulB (B:List Tree) (s:Int) (u:Int):Bool:=!hasB s u || kidV B s (B.getD u.toNat dftT) 1
noncomputable def phB (B:List Tree) (U:List Int) (s ph:Int):Int×Bool :=
 if U.length=0 then (0,true) else if fulB B s (U.getD ph.toNat 0)=true then ((ph+1) % (U.length:Int),decide (ph=0)) else (ph,false)
noncomputable def z190 (L:List (List Int)) (p:List Int):List (List Int):=if p∈L then L else L++[p]
noncomputable def z288 (L:List (List Int)) (p:List Int):Nat:=L.idxOf p
structure Edg where
 src:Int
 care:Int
 val:Int
 dst:Int
structure TrS where
 L:List (List Int)
 acc:List Bool
 ed:List Edg
noncomputable def z117 (B:List Tree) (s ph:Int) (i:Nat) (c v:Int) (x:List (List Int)×List Edg) (t:Nat):List (List Int)×List Edg :=
 if folB B s t=true then (z190 x.1 [(t:Int),ph],x.2++[⟨i,c,v,z288 x.1 [(t:Int),ph]⟩]) else x
noncomputable def z217 (B:List Tree) (U:List Int) (i:Nat) (x:TrS):TrS :=
 let s:=(x.L.getD i []).getD 0 0
 let q:=phB B U s ((x.L.getD i []).getD 1 0)
 let c:=letB B s
 let y:=(List.range (2 ^ B.length)).foldl (z117 B s q.1 i c.1 c.2) (x.L,x.ed)
 ⟨y.1,x.acc++[q.2],y.2⟩
noncomputable def goS (B:List Tree) (U:List Int):Nat→Nat→TrS→Option TrS
 |0,_,_=>none
 |f+1,i,x=>if i < x.L.length then (if 64 < x.L.length then none else goS B U f (i+1) (z217 B U i x)) else some x
noncomputable def iniS (B:List Tree) (g:Tree):List (List Int):=((List.range (2 ^ B.length)).filter fun s=>vlB B (s:Nat) g).map fun s:Nat=>[(s:Int),0]
theorem z890 {p:Tree→Prop} (hk:∀ x,p x→∀ u∈x.kids,p u):∀ t:Tree,∀ o:List Tree,p t→(∀ x∈o,p x)→∀ x∈t.subs o,p x:=by
 intro t
 induction t using y25 with|h t ih=>?_
 have key:∀ (l:List Tree),(∀ u∈l,u∈t.kids)→∀ o:List Tree,(∀ u∈l,p u)→(∀ x∈o,p x)→∀ x∈Tree.subss l o,p x:=by
  intro l
  induction l with
  |nil=>intro _ o _ ho;simpa [Tree.subss] using ho
  |cons u l ihl =>
   intro hl o hp ho
   rw [Tree.subss]
   exact ihl (fun x hx=>hl x (y69 _ hx)) _ (fun x hx=>hp x (y69 _ hx)) (ih u (hl u (by simp)) o (hp u (by simp)) ho)
 intro o ht ho x hx
 rw [y31] at hx
 rcases z318.1 hx with h|rfl
 ·exact key t.kids (fun _ h=>h) o (hk t ht) ho x h
 ·exact ht
theorem NF.kids {t:Tree} (h:NF t):∀ u∈t.kids,NF u:=by
 cases h with
 |tr=>intro u hu;simp [Tree.kids] at hu
 |«at» v=>intro u hu;simp [Tree.kids] at hu
 |nt=>intro u hu;simp [Tree.kids] at hu;subst hu;exact .tr
 |na v=>intro u hu;simp [Tree.kids] at hu;subst hu;exact .at v
 |an ha hb=>intro u hu;simp [Tree.kids] at hu;rcases hu with rfl|rfl<;>assumption
 |or ha hb=>intro u hu;simp [Tree.kids] at hu;rcases hu with rfl|rfl<;>assumption
 |nx ha=>intro u hu;simp [Tree.kids] at hu;subst hu;assumption
 |un ha hb=>intro u hu;simp [Tree.kids] at hu;rcases hu with rfl|rfl<;>assumption
 |re ha hb=>intro u hu;simp [Tree.kids] at hu;rcases hu with rfl|rfl<;>assumption
theorem in_of {L:List Tree} (hcl:∀ x∈L,∀ u∈x.kids,u∈L) {t:Tree} (h:NF t):t∈L→In (·∈L.filter z107) t:=by
 have bs:∀ x,x∈L→z107 x=true→x∈L.filter z107:=fun x h1 h2=>List.mem_filter.2 ⟨h1,h2⟩
 induction h with
 |tr=>intro _;exact .tr
 |«at» v=>intro ht;exact .at v (bs _ ht (by simp [z107,Tree.kind]))
 |nt=>intro _;exact .nt
 |na v=>intro ht;exact .na v (bs _ (hcl _ ht _ (by simp [Tree.kids])) (by simp [z107,Tree.kind]))
 |an _ _ iha ihb=>intro ht;exact .an (iha (hcl _ ht _ (by simp [Tree.kids]))) (ihb (hcl _ ht _ (by simp [Tree.kids])))
 |or _ _ iha ihb=>intro ht;exact .or (iha (hcl _ ht _ (by simp [Tree.kids]))) (ihb (hcl _ ht _ (by simp [Tree.kids])))
 |nx _ iha=>intro ht;exact .nx (bs _ ht (by simp [z107,Tree.kind])) (iha (hcl _ ht _ (by simp [Tree.kids])))
 |un _ _ iha ihb=>intro ht;exact .un (bs _ ht (by simp [z107,Tree.kind])) (iha (hcl _ ht _ (by simp [Tree.kids]))) (ihb (hcl _ ht _ (by simp [Tree.kids])))
 |re _ _ iha ihb=>intro ht;exact .re (bs _ ht (by simp [z107,Tree.kind])) (iha (hcl _ ht _ (by simp [Tree.kids]))) (ihb (hcl _ ht _ (by simp [Tree.kids])))
theorem z1014 {u:Tree} (hg:u.goodF) (hn:NF u):(bscL u).Nodup∧(∀ x∈bscL u,x.sz≤u.sz)∧(∀ x∈bscL u,In (·∈bscL u) x)∧(∀ x∈bscL u,z107 x=true)∧(∀ v,Tree.mk 2 v []∈bscL u→0≤v∧v≤2)∧In (·∈bscL u) u:=by
 obtain ⟨h1,_,h3,_,h5,h6⟩:=z309 u []
 have hcl:=h6 (by simp)
 have hall:=z890 (p:=fun x=>NF x∧x.goodF) (fun x hx v hv=>⟨hx.1.kids v hv,(y21 hx.2).2.2.2 v hv⟩) u [] ⟨hn,hg⟩ (by simp)
 unfold bscL
 generalize u.subs []=L at *
 refine ⟨(h1 List.nodup_nil).filter _,fun x hx=>?_,fun x hx=>?_,fun x hx=>(List.mem_filter.1 hx).2,fun v hv=>?_,in_of hcl hn h3⟩
 ·rcases h5 x (List.mem_filter.1 hx).1 with h|h
  ·simp at h
  ·exact h
 ·have hx:=(List.mem_filter.1 hx).1
  exact in_of hcl (hall x hx).1 hx
 ·have hx:=(List.mem_filter.1 hv).1
  obtain ⟨_,a,b,_⟩:=y21 (hall _ hx).2
  simp [Tree.val,Tree.kind,z381] at a b
  exact ⟨a,b⟩
theorem z915 (B:List Tree) (g:Tree):(iniS B g).length≤2 ^ B.length:=by
 unfold iniS
 rw [y45]
 have:=List.length_filter_le (fun s=>vlB B (s:Nat) g) (List.range (2 ^ B.length))
 simpa using this
def numI (n:Nat):List Int:=(List.range n).map Int.ofNat
theorem z1099 (n:Nat):numI (n+1)=numI n++[(n:Int)]:=by
 unfold numI;rw [y58,y60];rfl
theorem z641 (n:Nat):(numI n).length=n:=by simp [numI]
def iniK (B:List Tree) (V:Nat→Bool) (k:Nat):List (List Int):=((List.range k).filter V).map fun s:Nat=>[(s:Int),0]
theorem z1128 (B:List Tree) (V:Nat→Bool) (k:Nat):iniK B V (k+1)=iniK B V k++(if V k=true then [[(k:Int),0]] else []):=by
 unfold iniK
 rw [y58,List.filter_append,y60]
 congr 1
 by_cases h:V k=true
 ·rw [if_pos h,List.filter_cons_of_pos h];rfl
 ·rw [if_neg h,List.filter_cons_of_neg h];rfl
theorem iniK_len (B:List Tree) (V:Nat→Bool) (k:Nat):(iniK B V k).length≤k:=by
 unfold iniK
 rw [y45]
 have:=List.length_filter_le V (List.range k)
 simpa using this
noncomputable def trS (B:List Tree) (g:Tree):Option TrS:=goS B (untB B) 65 0 ⟨iniS B g,[],[]⟩
theorem z929 (B:List Tree) (s ph:Int) (i:Nat) (c v:Int):∀ (l:List Nat) (x:List (List Int)×List Edg),(l.foldl (z117 B s ph i c v) x).2.length≤x.2.length+l.length
 |[],x=>by simp
 |t::l,x=>by
  rw [List.foldl_cons,y54]
  have h:=z929 B s ph i c v l (z117 B s ph i c v x t)
  have:(z117 B s ph i c v x t).2.length≤x.2.length+1:=by
   unfold z117
   split
   ·simp
   ·omega
  omega
theorem z1134 (B:List Tree) (U:List Int):∀ (f i:Nat) (x y:TrS),goS B U f i x=some y→y.acc.length≤x.acc.length+f∧y.ed.length≤x.ed.length+f * 2 ^ B.length
 |0,i,x,y,h=>by simp [goS] at h
 |f+1,i,x,y,h=>by
  rw [goS] at h
  split at h
  ·split at h
   ·cases h
   ·have h1:=z1134 B U f (i+1) (z217 B U i x) y h
    have h2:(z217 B U i x).acc.length=x.acc.length+1:=by simp [z217]
    have h3:(z217 B U i x).ed.length≤x.ed.length+2 ^ B.length:=by
     have:=z929 B ((x.L.getD i []).getD 0 0) (phB B U ((x.L.getD i []).getD 0 0) ((x.L.getD i []).getD 1 0)).1 i (letB B ((x.L.getD i []).getD 0 0)).1 (letB B ((x.L.getD i []).getD 0 0)).2 (List.range (2 ^ B.length)) (x.L,x.ed)
     rw [List.length_range] at this
     exact this
    rw [Nat.add_mul]
    omega
  ·cases h
   rw [Nat.add_mul]
   omega
def visP (u:Int) (x:List Int×List Int) (v:Int):List Int×List Int:=if v∈x.1 then x else (x.1++[v],x.2.set v.toNat u)
def visPs (u:Int) (x:List Int×List Int) (l:List Int):List Int×List Int:=l.foldl (visP u) x
theorem z615 {u:Int} {x:List Int×List Int} {v:Int} (h:v ∉ x.1):visP u x v=(x.1++[v],x.2.set v.toNat u):=by unfold visP;rw [if_neg h]
theorem z614 {u:Int} {x:List Int×List Int} {v:Int} (h:v∈x.1):visP u x v=x:=by unfold visP;rw [if_pos h]
theorem z947 {u:Int} {x:List Int×List Int} {l:List Int} {k:Nat} (h:k < l.length):visPs u x (l.take (k+1))=visP u (visPs u x (l.take k)) l[k]:=by
 unfold visPs
 rw [y46 h,y59];rfl
theorem z616 (u:Int) (x:List Int×List Int) (v:Int):(visP u x v).1=z161 x.1 v:=by
 unfold visP z161;split<;>rfl
theorem z487 (u:Int) (l:List Int):∀ x:List Int×List Int,(visPs u x l).1=z85 x.1 l:=by
 induction l with
 |nil=>intro x;rfl
 |cons v l ih =>
  intro x
  show (visPs u (visP u x v) l).1=z85 (z161 x.1 v) l
  rw [ih,z616]
structure PJ (N:Nat) (x:List Int×List Int):Prop where
 len:x.2.length=N
 inn:InN N x.1
 nd:x.1.Nodup
 pre:∀ k (h:k < x.1.length),x.2.getD (x.1[k]).toNat 0=-1∨∃ j,∃ h' : j < x.1.length,j < k∧x.2.getD (x.1[k]).toNat 0=x.1[j]
theorem PJ.visP {N:Nat} {x:List Int×List Int} (h:PJ N x) {i:Nat} (hi:i < x.1.length) {u v:Int} (hu:u=x.1[i]) (hv:0≤v∧v < N):PJ N (visP u x v):=by
 by_cases hm:v∈x.1
 ·rw [z614 hm];exact h
 ·rw [z615 hm]
  refine ⟨by simp [h.len],fun y hy=>?_,?_,fun k hk=>?_⟩
  ·rcases List.mem_append.1 hy with h1|h1
   ·exact h.inn y h1
   ·rw [List.mem_singleton.1 h1];exact hv
  ·rw [y72]
   exact ⟨h.nd,by simp,fun a ha b hb=>by rintro rfl;rw [List.mem_singleton.1 hb] at ha;exact hm ha⟩
  ·have hk' : k < x.1.length+1:=by simpa using hk
   have hl:=h.len
   by_cases hkl:k < x.1.length
   ·have e:(x.1++[v])[k]=x.1[k]:=List.getElem_append_left hkl
    dsimp only
    rw [e]
    have hne:v≠x.1[k]:=fun e=>hm (e ▸ y40 hkl)
    have hin:=h.inn _ (y40 hkl)
    have e2:(x.2.set v.toNat u).getD (x.1[k]).toNat 0=x.2.getD (x.1[k]).toNat 0:=by
     rw [y64,List.getElem?_set_ne (by omega),← y64]
    rw [e2]
    rcases h.pre k hkl with h1|⟨j,hj,h1,h2⟩
    ·exact .inl h1
    ·exact .inr ⟨j,by simp;omega,h1,by rw [h2,List.getElem_append_left hj]⟩
   ·obtain rfl:k=x.1.length:=by omega
    right
    refine ⟨i,by simp;omega,hi,?_⟩
    dsimp only
    rw [List.getElem_append_left hi]
    simp only [List.getElem_append_right (y48 _),Nat.sub_self,List.getElem_cons_zero]
    rw [z13 (by simp;omega),List.getElem_set_self,hu]
theorem PJ.visPs {N:Nat} {u:Int} (l:List Int):∀ {x:List Int×List Int} (_:PJ N x) {i:Nat} (hi:i < x.1.length) (_:u=x.1[i]) (_:InN N l),PJ N (visPs u x l)∧∃ h' : i < (Go.Gl.visPs u x l).1.length,(Go.Gl.visPs u x l).1[i]=u:=by
 induction l with
 |nil=>intro x h i hi hu hl;exact ⟨h,hi,hu.symm⟩
 |cons v l ih =>
  intro x h i hi hu hl
  have h1:=h.visP hi hu (hl v (by simp))
  obtain ⟨t,ht⟩:=z486 x.1 v
  have hf:=z616 u x v
  rw [ht] at hf
  have hi1:i < (Go.Gl.visP u x v).1.length:=by rw [hf,y43];omega
  exact ih h1 hi1 (by simp only [hf,List.getElem_append_left hi];exact hu) fun y hy=>hl y (by simp [hy])
def srS (rows:List (List Int)) (ini:List Int):Nat→List Int×List Int
 |0=>(ini,List.replicate rows.length (-1))
 |i+1=>if h:i < (srS rows ini i).1.length then visPs (srS rows ini i).1[i] (srS rows ini i) (rows.getD ((srS rows ini i).1[i]).toNat []) else srS rows ini i
def srQ (rows:List (List Int)) (ini:List Int):List Int:=(srS rows ini rows.length).1
def srP (rows:List (List Int)) (ini:List Int):List Int:=(srS rows ini rows.length).2
section
variable {rows:List (List Int)} {ini:List Int}
theorem z573 (hr:∀ r∈rows,InN rows.length r) (hi:InN rows.length ini) (hn:ini.Nodup) (i:Nat):PJ rows.length (srS rows ini i):=by
 induction i with
 |zero =>
  refine ⟨by simp [srS],hi,hn,fun k hk=>.inl ?_⟩
  have:=hi _ (y40 hk)
  show (List.replicate rows.length (-1)).getD _ 0=_
  rw [z13 (by simp;have:(srS rows ini 0).1[k]=ini[k]:=rfl;omega)]
  simp
 |succ i ih =>
  rw [srS];split
  ·rename_i h
   exact (PJ.visPs _ ih h rfl (z275 hr _)).1
  ·exact ih
theorem z1032 {l:List Int} : ∀ {out:List Int},(out++l).Nodup→z85 out l=out++l:=by
 induction l with
 |nil=>intro out _;simp [z85]
 |cons v l ih =>
  intro out h
  show z85 (z161 out v) l=_
  have hv:v ∉ out:=fun hm=>by
   rw [y72] at h
   exact h.2.2 v hm v (by simp) rfl
  have:z161 out v=out++[v]:=by unfold z161;rw [if_neg hv]
  rw [this,ih (by simpa using h)]
  simp
theorem z808 (hn:ini.Nodup) (i:Nat):(srS rows ini i).1=bfs rows ini i:=by
 induction i with
 |zero =>
  show ini=z85 [] ini
  rw [z1032 (by simpa using hn)];rfl
 |succ i ih =>
  rw [srS,bfs]
  by_cases h:i < (srS rows ini i).1.length
  ·have h2:i < (bfs rows ini i).length:=by rw [← ih];exact h
   rw [dif_pos h,dif_pos h2,z487]
   simp only [ih]
  ·have h2:¬ i < (bfs rows ini i).length:=by rw [← ih];exact h
   rw [dif_neg h,dif_neg h2,ih]
theorem z1055 {i j:Nat} (h:(srS rows ini i).1.length≤i) (hij:i≤j):srS rows ini j=srS rows ini i:=by
  induction j with
  | zero => obtain rfl : i = 0 := by omega
            rfl
  | succ j ih =>
    rcases y66 j i with h1|h1
    · obtain rfl:i=j+1:=by omega
      rfl
    · have e:=ih h1
      rw [srS,dif_neg (by rw [e];omega),e]
theorem z1054 (hr:∀ r∈rows,InN rows.length r) (hi:InN rows.length ini) (hn:ini.Nodup) (i:Nat):(srS rows ini i).1.length≤rows.length :=
 z219 _ _ (z573 hr hi hn i).nd (z573 hr hi hn i).inn
theorem srS_end {i:Nat} (h:(srS rows ini i).1.length≤i) (hil:i≤rows.length):srS rows ini i=(srQ rows ini,srP rows ini):=(z1055 h hil).symm
end
def bkw (P:List Int):Nat→Int→List Int→List Int
 |0,v,tl=>v::tl
 |f+1,v,tl=>if 0≤P.getD v.toNat 0 then bkw P f (P.getD v.toNat 0) (v::tl) else v::tl
def BackOk (P:List Int):Nat→Int→Prop
 |0,v=>(0≤v∧v < P.length)∧P.getD v.toNat 0 < 0
 |f+1,v=>(0≤v∧v < P.length)∧(P.getD v.toNat 0 < 0∨BackOk P f (P.getD v.toNat 0))
theorem BackOk.up {P:List Int} : ∀ {f:Nat} {v:Int},BackOk P f v→BackOk P (f+1) v
 |0,_,h=>⟨h.1,.inl h.2⟩
 |_+1,_,h=>⟨h.1,h.2.imp id fun h=>h.up⟩
theorem BackOk.le {P:List Int} {f g:Nat} {v:Int} (h:BackOk P f v) (hg:f≤g):BackOk P g v:=by
  induction g with
  | zero => obtain rfl : f = 0 := by omega
            exact h
  | succ g ih =>
    rcases y66 g f with h1|h1
    · obtain rfl:f=g+1:=by omega
      exact h
    · exact (ih h1).up
theorem PJ.back {N:Nat} {x:List Int×List Int} (h:PJ N x):∀ (k:Nat) (hk:k < x.1.length),BackOk x.2 k x.1[k]:=by
 intro k
 induction k using Nat.strongRecOn with
 |ind k ih =>
  intro hk
  have hin:=h.inn _ (y40 hk)
  rw [← h.len] at hin
  rcases h.pre k hk with h1|⟨j,hj,h1,h2⟩
  ·exact (show BackOk x.2 0 x.1[k] from ⟨hin,by omega⟩).le (y49 _)
  ·have h3:=(ih j h1 hj).le (show j≤k - 1 by omega)
   rw [← h2] at h3
   generalize x.1[k]=v at *
   obtain ⟨m,rfl⟩:∃ m,k=m+1:=⟨k - 1,by omega⟩
   exact ⟨hin,.inr h3⟩
theorem z679 (P:List Int):∀ (f:Nat) (v:Int) (tl:List Int),(bkw P f v tl).length≤f+1+tl.length
 |0,v,tl=>by rw [bkw,y54];omega
 |f+1,v,tl=>by
  rw [bkw];split
  ·have:=z679 P f (P.getD v.toNat 0) (v::tl)
   simp only [y54] at this
   omega
  ·rw [y54];omega
end Go.Gl
namespace Go.Gl
def cycT (rows:List (List Int)) (P:List Int) (v:Int):List Int→List Int
 |[]=>[]
 |u::t=>if v∈rows.getD u.toNat [] then bkw P rows.length u [] else cycT rows P v t
def cycL (rows:List (List Int)) (v:Int):List Int:=if v∈rows.getD v.toNat [] then [v] else cycT rows (srP rows [v]) v (srQ rows [v])
def finT (rows:List (List Int)) (acc:List Bool) (P:List Int):List Int→Option (List Int×List Int)
 |[]=>none
 |u::t=>if acc.getD (u % acc.length).toNat false=true then (if 0 < (cycL rows u).length then some (bkw P rows.length u [],cycL rows u) else finT rows acc P t) else finT rows acc P t
def stL (l:List Int) (n:Nat):List Int:=l.map fun x=>x / n
def finS (rows:List (List Int)) (ini:List Int) (acc:List Bool):Option (List Int×List Int):=finT rows acc (srP rows ini) (srQ rows ini)
theorem z932 (rows:List (List Int)) (P:List Int) (v:Int):∀ l,(cycT rows P v l).length≤rows.length+1
 |[]=>y49 _
 |u::t=>by
  rw [cycT];split
  ·exact z679 _ _ _ _
  ·exact z932 rows P v t
theorem z933 (rows:List (List Int)) (v:Int):(cycL rows v).length≤rows.length+1:=by
 unfold cycL;split
 ·simp
 ·exact z932 _ _ _ _
theorem z678 (P:List Int):∀ (f:Nat) (v:Int) (tl:List Int),1≤(bkw P f v tl).length
 |0,v,tl=>by rw [bkw,y54];omega
 |f+1,v,tl=>by
  rw [bkw];split
  ·exact z678 P f _ _
  ·rw [y54];omega
theorem z1172 {P:List Int} : ∀ (f:Nat) (v:Int) (tl:List Int),0≤v→(∀ x∈tl,0≤x)→∀ x∈bkw P f v tl,0≤x
 |0,v,tl,h0,h,x,hx=>by
  rw [bkw] at hx
  rcases List.mem_cons.1 hx with rfl|h1
  ·exact h0
  ·exact h x h1
 |f+1,v,tl,h0,h,x,hx=>by
  rw [bkw] at hx
  split at hx
  ·rename_i h2
   exact z1172 f _ _ h2 (fun y hy=>by
    rcases List.mem_cons.1 hy with rfl|h1
    ·exact h0
    ·exact h y h1) x hx
  ·rcases List.mem_cons.1 hx with rfl|h1
   ·exact h0
   ·exact h x h1
theorem z1156 (rows:List (List Int)) (P:List Int) (v:Int):∀ l:List Int,(∀ x∈l,0≤x)→∀ x∈cycT rows P v l,0≤x
 |[],_,x,hx=>by cases hx
 |u::t,h,x,hx=>by
  rw [cycT] at hx
  split at hx
  ·exact z1172 _ _ _ (h u (by simp)) (fun y hy=>by cases hy) x hx
  ·exact z1156 rows P v t (fun y hy=>h y (by simp [hy])) x hx
theorem z1057 {rows:List (List Int)} {ini:List Int} (hr:∀ r∈rows,InN rows.length r) (hi:InN rows.length ini) (hn:ini.Nodup):InN rows.length (srQ rows ini):=(z573 hr hi hn _).inn
theorem z726 {N:Nat} {v:Int} (h:0≤v∧v < N):InN N [v]:=fun x hx=>by rw [List.mem_singleton.1 hx];exact h
theorem cycL_nn {rows:List (List Int)} (hr:∀ r∈rows,InN rows.length r) {v:Int} (hv:0≤v∧v < rows.length):∀ x∈cycL rows v,0≤x:=by
 unfold cycL;split
 ·intro x hx;rw [List.mem_singleton.1 hx];exact hv.1
 ·exact z1156 _ _ _ _ fun x hx=>(z1057 hr (z726 hv) (by simp) x hx).1
theorem z880 {M u:Int} (hu:u≤M):∀ (l:List Int) (x:List Int×List Int),(∀ y∈x.2,y≤M)→∀ y∈(visPs u x l).2,y≤M
 |[],_,h=>h
 |v::l,x,h=>by
  refine z880 hu l (visP u x v) fun y hy=>?_
  unfold visP at hy
  split at hy
  ·exact h y hy
  ·rcases List.mem_or_eq_of_mem_set hy with h1|rfl
   ·exact h y h1
   ·exact hu
theorem srS_le {rows:List (List Int)} {ini:List Int} (hr:∀ r∈rows,InN rows.length r) (hi:InN rows.length ini) (hn:ini.Nodup) (i:Nat):∀ y∈(srS rows ini i).2,y≤rows.length:=by
 induction i with
 |zero =>
  intro y hy
  have:=List.eq_of_mem_replicate (show y∈List.replicate rows.length (-1) from hy)
  omega
 |succ i ih =>
  rw [srS];split
  ·rename_i h
   have:=(z573 hr hi hn i).inn _ (y40 h)
   exact z880 (by omega) _ _ ih
  ·exact ih
theorem z1173 {P:List Int} {M:Int} (hP:∀ x∈P,x≤M):∀ (f:Nat) (v:Int) (tl:List Int),v≤M→0≤M→(∀ x∈tl,x≤M)→∀ x∈bkw P f v tl,x≤M
 |0,v,tl,h0,_,h,x,hx=>by
  rw [bkw] at hx
  rcases List.mem_cons.1 hx with rfl|h1
  ·exact h0
  ·exact h x h1
 |f+1,v,tl,h0,hM,h,x,hx=>by
  have h2:∀ y∈v::tl,y≤M:=fun y hy=>by
   rcases List.mem_cons.1 hy with rfl|h1
   ·exact h0
   ·exact h y h1
  rw [bkw] at hx
  split at hx
  ·refine z1173 hP f _ _ ?_ hM h2 x hx
   by_cases hl:v.toNat < P.length
   ·rw [z13 hl];exact hP _ (y40 _)
   ·rw [y64,y65 (by omega)];exact hM
  ·exact h2 x hx
theorem z1157 (rows:List (List Int)) {P:List Int} {M:Int} (hP:∀ x∈P,x≤M) (hM:0≤M) (v:Int):∀ l:List Int,(∀ x∈l,x≤M)→∀ x∈cycT rows P v l,x≤M
 |[],_,x,hx=>by cases hx
 |u::t,h,x,hx=>by
  rw [cycT] at hx
  split at hx
  ·exact z1173 hP _ _ _ (h u (by simp)) hM (fun y hy=>by cases hy) x hx
  ·exact z1157 rows hP hM v t (fun y hy=>h y (by simp [hy])) x hx
theorem cycL_le {rows:List (List Int)} (hr:∀ r∈rows,InN rows.length r) {v:Int} (hv:0≤v∧v < rows.length):∀ x∈cycL rows v,x≤rows.length:=by
 unfold cycL;split
 ·intro x hx;rw [List.mem_singleton.1 hx];omega
 ·exact z1157 _ (srS_le hr (z726 hv) (by simp) _) (by omega) _ _ fun x hx=>by
   have:=z1057 hr (z726 hv) (by simp) x hx
   omega
structure TS where
 num:Nat→Int
 low:Nat→Int
 part:Nat→Int
 stk:List Nat
 cnt:Nat
 prt:Nat
def z203 (u:Nat) (s:TS):TS:={ s with num:=upd s.num u (s.cnt+1),low:=upd s.low u (s.cnt+1),stk:=s.stk++[u],cnt:=s.cnt+1 }
def tLow (u:Nat) (m:Int) (s:TS):TS:={ s with low:=upd s.low u (min (s.low u) m) }
def tPop (u:Nat) (s:TS):TS:={ s with part:=fun x=>if x∈s.stk.dropWhile (· != u) then (s.prt:Int) else s.part x,stk:=s.stk.takeWhile (· != u),prt:=s.prt+1 }
def tEnd (u:Nat) (s:TS):TS:=if s.low u=s.num u then tPop u s else s
def z361 (rec:Nat→TS→TS) (u:Nat) (s:TS) (v:Int):TS:=if s.num v.toNat=0 then tLow u ((rec v.toNat s).low v.toNat) (rec v.toNat s) else if s.part v.toNat < 0 then tLow u (s.num v.toNat) s else s
def z236 (rows:List (List Int)):Nat→Nat→TS→TS
 |0,_,s=>s
 |f+1,u,s=>tEnd u ((rows.getD u []).foldl (z361 (z236 rows f) u) (z203 u s))
def z360:TS:=⟨fun _=>0,fun _=>0,fun _=>-1,[],0,0⟩
def tTop (rows:List (List Int)) (s:TS) (u:Nat):TS:=if s.num u=0 then z236 rows rows.length u s else s
def tAll (rows:List (List Int)):TS:=(List.range rows.length).foldl (tTop rows) z360
inductive RN (rows:List (List Int)) (x:Nat):Nat→Prop
 |refl:RN rows x x
 |step {y z:Nat} : RN rows x y→(z:Int)∈rows.getD y []→RN rows x z
theorem RN.trans {rows:List (List Int)} {x y z:Nat} (h:RN rows x y) (k:RN rows y z):RN rows x z:=by
 induction k with
 |refl=>exact h
 |step _ e ih=>exact .step ih e
theorem RN.edge {rows:List (List Int)} {x y:Nat} (h:(y:Int)∈rows.getD x []):RN rows x y:=.step .refl h
theorem RN.inv {rows:List (List Int)} {p:Nat→Prop} (hp:∀ x y:Nat,p x→(y:Int)∈rows.getD x []→p y) {x y:Nat} (h:RN rows x y) (hx:p x):p y:=by
 induction h with
 |refl=>exact hx
 |step _ e ih=>exact hp _ _ ih e
def unvN (N:Nat) (num:Nat→Int):Nat:=((List.range N).filter fun x=>decide (num x=0)).length
structure TI (rows:List (List Int)) (s:TS) (g:List Nat):Prop where
 srt:s.stk.Pairwise fun x y=>s.num x < s.num y
 stk:∀ x,x∈s.stk↔s.num x≠0∧s.part x=-1
 lt:∀ x,s.num x≠0→x < rows.length
 nn:∀ x,0≤s.num x∧s.num x≤s.cnt
 pw:∀ x,s.part x=-1∨(0≤s.part x∧s.part x < s.prt)
 unv:∀ x,s.num x=0→s.part x=-1
 gs:∀ x∈g,x∈s.stk
 blk:∀ x y:Nat,s.num x≠0→x ∉ g→(y:Int)∈rows.getD x []→s.num y≠0
 up:∀ x∈s.stk,∀ y∈s.stk,s.num x≤s.num y→RN rows x y
 gr:∀ y∈s.stk,∃ x∈g,s.num x≤s.num y∧RN rows y x
 cl:∀ x y:Nat,0≤s.part x→(y:Int)∈rows.getD x []→0≤s.part y
 sc:∀ x y:Nat,0≤s.part x→(s.part y=s.part x↔RN rows x y∧RN rows y x)
 ct:s.cnt+unvN rows.length s.num=rows.length
structure TP (rows:List (List Int)) (s s' : TS) (g:List Nat) (u:Nat):Prop where
 inv:TI rows s' g
 keep:∀ x,s.num x≠0→s'.num x=s.num x∧s'.low x=s.low x∧s'.part x=s.part x
 pref:∃ B,s'.stk=s.stk++B
 num:s'.num u=s.cnt+1
 cnt:s.cnt < s'.cnt
 prt:s'.prt+s.cnt≤s.prt+s'.cnt
 low:s'.low u=s'.num u∨∃ y∈s'.stk,s'.low u=s'.num y∧RN rows u y
 edge:∀ x∈s'.stk,x ∉ s.stk→∀ y∈s.stk,(y:Int)∈rows.getD x []→s'.low u≤s.num y
structure TL (rows:List (List Int)) (s0 s:TS) (g:List Nat) (u:Nat) (dn:List Int):Prop where
 inv:TI rows s (u::g)
 keep:∀ x,s0.num x≠0→s.num x=s0.num x∧s.low x=s0.low x∧s.part x=s0.part x
 pref:∃ B,s.stk=s0.stk++u::B
 num:s.num u=s0.cnt+1
 cnt:s0.cnt < s.cnt
 prt:s.prt+s0.cnt+1≤s0.prt+s.cnt
 low:∃ y∈s.stk,s.low u=s.num y∧RN rows u y
 lown:s.low u≤s.num u
 seen:∀ y∈dn,s.num y.toNat≠0
 edge1:∀ y∈dn,y.toNat∈s0.stk→s.low u≤s0.num y.toNat
 edge2:∀ x∈s.stk,x ∉ s0.stk→x≠u→∀ y∈s0.stk,(y:Int)∈rows.getD x []→s.low u≤s0.num y
section
variable {rows:List (List Int)} {s s' s0:TS} {g:List Nat} {u v:Nat}
theorem TI.nd (h:TI rows s g):s.stk.Nodup:=h.srt.imp fun {a b} hab he=>by rw [he] at hab;omega
theorem unv_upd {N:Nat} {num:Nat→Int} {u:Nat} {n:Int} (hu:u < N) (h0:num u=0) (hn:n≠0):unvN N (upd num u n)+1=unvN N num:=by
 unfold unvN
 induction N with
 |zero=>omega
 |succ N ih =>
  rw [y58,List.filter_append,List.filter_append,y43,y43]
  by_cases h:u=N
  ·subst h
   have e:(List.range u).filter (fun x=>decide (upd num u n x=0))=(List.range u).filter (fun x=>decide (num x=0)):=by
    refine List.filter_congr fun x hx=>?_
    have:=List.mem_range.1 hx
    rw [z56 _ _ (by omega)]
   rw [e]
   simp [z31,h0,hn]
  ·have:=ih (by omega)
   have e:([N].filter fun x=>decide (upd num u n x=0))=([N].filter fun x=>decide (num x=0)):=by
    simp only [List.filter_cons,List.filter_nil,z56 num n (show N≠u by omega)]
   rw [e]
   omega
theorem TI.enter (h:TI rows s g) (hu:s.num u=0) (hN:u < rows.length) (hg:∀ x∈g,RN rows x u):TI rows (z203 u s) (u::g):=by
 have hus:u ∉ s.stk:=fun hm=>((h.stk u).1 hm).1 hu
 have hne:∀ x∈s.stk,x≠u:=fun x hx e=>hus (e ▸ hx)
 have hnum:∀ x,x≠u→(z203 u s).num x=s.num x:=fun x hx=>z56 _ _ hx
 have hnu:(z203 u s).num u=s.cnt+1:=z31 _ _ _
 have hst:∀ x,x∈(z203 u s).stk↔x∈s.stk∨x=u:=fun x=>by simp [z203]
 have hnz:∀ x,s.num x≠0→(z203 u s).num x≠0:=fun x hx=>by
  by_cases e:x=u
  ·subst e;exact absurd hu hx
  ·rw [hnum x e];exact hx
 refine ⟨?_,fun x=>?_,fun x hx=>?_,fun x=>?_,h.pw,fun x hx=>?_,fun x hx=>?_,fun x y hx hxg he=>?_,fun x hx y hy hxy=>?_,fun y hy=>?_,h.cl,h.sc,?_⟩
 ·show (s.stk++[u]).Pairwise _
  rw [List.pairwise_append]
  refine ⟨h.srt.imp_of_mem fun ha hb hab=>by rw [hnum _ (hne _ ha),hnum _ (hne _ hb)];exact hab,by simp,fun a ha b hb=>?_⟩
  rw [List.mem_singleton.1 hb,hnum _ (hne a ha),hnu]
  have:=(h.nn a).2
  omega
 ·rw [hst]
  by_cases e:x=u
  ·subst e
   have:=(h.nn x).2
   simp only [or_true,true_iff]
   exact ⟨by rw [hnu];omega,h.unv x hu⟩
  ·rw [hnum x e]
   simp only [e,or_false]
   exact h.stk x
 ·by_cases e:x=u
  ·rw [e];exact hN
  ·rw [hnum x e] at hx;exact h.lt x hx
 ·show 0≤(z203 u s).num x∧(z203 u s).num x≤((s.cnt+1:Nat):Int)
  by_cases e:x=u
  ·rw [e,hnu];omega
  ·rw [hnum x e];have:=h.nn x;omega
 ·by_cases e:x=u
  ·subst e;exact h.unv x hu
  ·rw [hnum x e] at hx;exact h.unv x hx
 ·rw [hst]
  rcases List.mem_cons.1 hx with e|hx
  ·exact .inr e
  ·exact .inl (h.gs x hx)
 ·have e:x≠u:=fun e=>hxg (by simp [e])
  rw [hnum x e] at hx
  exact hnz y (h.blk x y hx (fun hm=>hxg (by simp [hm])) he)
 ·rcases (hst x).1 hx with hx1|rfl
  ·rcases (hst y).1 hy with hy1|rfl
   ·rw [hnum _ (hne x hx1),hnum _ (hne y hy1)] at hxy
    exact h.up x hx1 y hy1 hxy
   ·obtain ⟨z,hz,_,hr⟩:=h.gr x hx1
    exact hr.trans (hg z hz)
  ·rcases (hst y).1 hy with hy|rfl
   ·rw [hnu,hnum _ (hne y hy)] at hxy
    have:=(h.nn y).2
    omega
   ·exact .refl
 ·rcases (hst y).1 hy with hy|rfl
  ·obtain ⟨z,hz,h1,hr⟩:=h.gr y hy
   exact ⟨z,by simp [hz],by rw [hnum _ (hne y hy),hnum _ (hne z (h.gs z hz))];exact h1,hr⟩
  ·exact ⟨y,by simp,Int.le_refl _,.refl⟩
 ·have:=unv_upd (num:=s.num) (n:=s.cnt+1) hN hu (by omega)
  have h2:=h.ct
  show s.cnt+1+unvN rows.length (upd s.num u (s.cnt+1))=_
  omega
theorem TI.low {m:Int} (h:TI rows s g):TI rows (tLow u m s) g:=⟨h.srt,h.stk,h.lt,h.nn,h.pw,h.unv,h.gs,h.blk,h.up,h.gr,h.cl,h.sc,h.ct⟩
theorem TL.start (h:TI rows s g) (hu:s.num u=0) (hN:u < rows.length) (hg:∀ x∈g,RN rows x u):TL rows s (z203 u s) g u []:=by
 have hne:∀ x,s.num x≠0→x≠u:=fun x hx e=>hx (e ▸ hu)
 refine ⟨h.enter hu hN hg,fun x hx=>⟨z56 _ _ (hne x hx),z56 _ _ (hne x hx),rfl⟩,⟨[],rfl⟩,z31 _ _ _,Nat.lt_succ_self _,?_,⟨u,by simp [z203],?_,.refl⟩,?_,by simp,by simp,fun x hx hx2 hxu=>?_⟩
 ·show s.prt+s.cnt+1≤s.prt+(s.cnt+1);omega
 ·show upd s.low u _ u=upd s.num u _ u;rw [z31,z31]
 ·show upd s.low u _ u≤upd s.num u _ u;rw [z31,z31];exact Int.le_refl _
 ·have:x∈s.stk++[u]:=hx
  rcases List.mem_append.1 this with h1|h1
  ·exact absurd h1 hx2
  ·exact absurd (List.mem_singleton.1 h1) hxu
theorem z439 (u:Nat) (m:Int) (s:TS):(tLow u m s).low u=min (s.low u) m:=z31 _ _ _
theorem low_ne {u x:Nat} (m:Int) (s:TS) (h:x≠u):(tLow u m s).low x=s.low x:=z56 _ _ h
theorem TL.edge {dn : List Int} {rec : Nat → TS → TS} (h : TL rows s0 s g u dn) (h0 : TI rows s0 g) (hu0 : s0.num u = 0) {v : Int} (hv : v ∈ rows.getD u []) (hvN : 0 ≤ v ∧ v < rows.length)
    (hrec:s.num v.toNat=0→TP rows s (rec v.toNat s) (u::g) v.toNat):TL rows s0 (z361 rec u s v) g u (dn++[v]):=by
  obtain ⟨w,rfl⟩:∃ w:Nat,v=w:=⟨v.toNat,by omega⟩
  simp only [y73] at hrec
  have hs0:∀ x∈s0.stk,x∈s.stk:=fun x hx=>by obtain ⟨B,e⟩:=h.pref;rw [e];simp [hx]
  have hnu:s.num u≠0:=by rw [h.num];omega
  unfold z361
  simp only [y73]
  by_cases hw:s.num w=0
  · rw [if_pos hw]
    have hp:=hrec hw
    generalize rec w s=s' at *
    obtain ⟨B,hB⟩:=h.pref
    obtain ⟨B',hB'⟩:=hp.pref
    have hls:∀ x∈s.stk,x∈s'.stk:=fun x hx=>by rw [hB'];simp [hx]
    have hku:=hp.keep u hnu
    refine ⟨hp.inv.low,fun x hx=>?_,⟨B++B',?_⟩,?_,?_,?_,?_,?_,fun y hy=>?_,fun y hy hy2=>?_,fun x hx hx2 hxu y hy he=>?_⟩
    · have hxu:x≠u:=fun e=>hx (e ▸ hu0)
      obtain ⟨a1,a2,a3⟩:=h.keep x hx
      obtain ⟨b1,b2,b3⟩:=hp.keep x (by rw [a1];exact hx)
      exact ⟨b1.trans a1,by rw [low_ne _ _ hxu,b2,a2],b3.trans a3⟩
    · show s'.stk=_;rw [hB',hB];simp
    · show s'.num u=_;rw [hku.1,h.num]
    · have:=h.cnt;have:=hp.cnt;show s0.cnt < s'.cnt;omega
    · have:=h.prt;have:=hp.prt;show s'.prt+s0.cnt+1≤s0.prt+s'.cnt;omega
    · rw [z439]
      obtain ⟨y,hy,h1,h2⟩:=h.low
      have hyz:s.num y≠0:=((h.inv.stk y).1 hy).1
      have hyk:=hp.keep y hyz
      rcases Int.le_total (s'.low u) (s'.low w) with hle|hle
      · exact ⟨y,hls y hy,by rw [Int.min_eq_left hle,hku.2.1,h1];exact hyk.1.symm,h2⟩
      · rcases hp.low with h3|⟨z,hz,h3,h4⟩
        · have h5:=hp.num
          have h6:=(h.inv.nn y).2
          refine ⟨y,hls y hy,?_,h2⟩
          show _=s'.num y
          rw [hyk.1,← h1,← hku.2.1]
          have:s'.low u=s.num y:=by rw [hku.2.1,h1]
          omega
        · exact ⟨z,hz,by rw [Int.min_eq_right hle];exact h3,(RN.edge hv).trans h4⟩
    · rw [z439]
      have:=h.lown
      have e:(tLow u (s'.low w) s').num u=s.num u:=hku.1
      rw [e,hku.2.1];omega
    · rcases List.mem_append.1 hy with hy|hy
      · have h1:=h.seen y hy
        show s'.num _≠0
        rw [(hp.keep _ h1).1];exact h1
      · rw [List.mem_singleton.1 hy]
        show s'.num w≠0
        rw [hp.num];omega
    · rw [z439]
      rcases List.mem_append.1 hy with hy|hy
      · have:=h.edge1 y hy hy2
        rw [hku.2.1];omega
      · rw [List.mem_singleton.1 hy] at hy2
        have:=((h.inv.stk w).1 (hs0 w hy2)).1
        exact absurd hw this
    · rw [z439]
      by_cases hxs:x∈s.stk
      · have:=h.edge2 x hxs hx2 hxu y hy he
        rw [hku.2.1];omega
      · have h1:=hp.edge x hx hxs y (hs0 y hy) he
        have h2:=(h.keep y ((h0.stk y).1 hy).1).1
        omega
  · rw [if_neg hw]
    have base:∀ m:Int,(∃ y∈s.stk,m=s.num y∧RN rows u y)→(w∈s0.stk→m≤s0.num w)→TL rows s0 (tLow u m s) g u (dn++[(w:Int)]):=by
      intro m hm hmw
      refine ⟨h.inv.low,fun x hx=>?_,h.pref,h.num,h.cnt,h.prt,?_,?_,fun y hy=>?_,fun y hy hy2=>?_,fun x hx hx2 hxu y hy he=>?_⟩
      · have hxu:x≠u:=fun e=>hx (e ▸ hu0)
        obtain ⟨a1,a2,a3⟩:=h.keep x hx
        exact ⟨a1,by rw [low_ne _ _ hxu,a2],a3⟩
      · rw [z439]
        rcases Int.le_total (s.low u) m with hle|hle
        · rw [Int.min_eq_left hle];exact h.low
        · rw [Int.min_eq_right hle];exact hm
      · rw [z439];have:=h.lown;show _≤s.num u;omega
      · rcases List.mem_append.1 hy with hy|hy
        · exact h.seen y hy
        · rw [List.mem_singleton.1 hy];exact hw
      · rw [z439]
        rcases List.mem_append.1 hy with hy|hy
        · have:=h.edge1 y hy hy2;omega
        · rw [List.mem_singleton.1 hy] at hy2 ⊢
          have:=hmw hy2
          simp only [y73];omega
      · rw [z439];have:=h.edge2 x hx hx2 hxu y hy he;omega
    by_cases hpt:s.part w < 0
    · rw [if_pos hpt]
      have hws:w∈s.stk:=(h.inv.stk w).2 ⟨hw,by have:=h.inv.pw w;omega⟩
      refine base _ ⟨w,hws,rfl,.edge hv⟩ fun hm=>?_
      rw [(h.keep w ((h0.stk w).1 hm).1).1]
      exact Int.le_refl _
    · rw [if_neg hpt]
      refine ⟨h.inv,h.keep,h.pref,h.num,h.cnt,h.prt,h.low,h.lown,fun y hy=>?_,fun y hy hy2=>?_,h.edge2⟩
      · rcases List.mem_append.1 hy with hy|hy
        · exact h.seen y hy
        · rw [List.mem_singleton.1 hy];exact hw
      · rcases List.mem_append.1 hy with hy|hy
        · exact h.edge1 y hy hy2
        · rw [List.mem_singleton.1 hy] at hy2
          have h1:=((h0.stk w).1 hy2)
          have h2:=(h.keep w h1.1).2.2
          have h3:=h1.2
          omega
theorem z889 {A B:List Nat} {u:Nat} (h:u ∉ A):(A++u::B).takeWhile (· != u)=A∧(A++u::B).dropWhile (· != u)=u::B:=by
 induction A with
 |nil=>simp
 |cons a A ih =>
  have hau:a≠u:=fun e=>h (by simp [e])
  obtain ⟨h1,h2⟩:=ih fun hm=>h (by simp [hm])
  have hb:(a != u)=true:=by simpa using hau
  simp only [List.cons_append,List.takeWhile_cons,List.dropWhile_cons,hb,if_true,h1,h2,and_self]
theorem TL.fin (h:TL rows s0 s g u (rows.getD u [])) (h0:TI rows s0 g) (hu0:s0.num u=0):TP rows s0 (tEnd u s) g u:=by
 obtain ⟨B,hB⟩:=h.pref
 have hs0:∀ x∈s0.stk,x∈s.stk:=fun x hx=>by rw [hB];simp [hx]
 have hu_s0:u ∉ s0.stk:=fun hm=>((h0.stk u).1 hm).1 hu0
 have hus:u∈s.stk:=by rw [hB];simp
 have hk:∀ x∈s0.stk,s.num x=s0.num x:=fun x hx=>(h.keep x ((h0.stk x).1 hx).1).1
 have hsrt:=h.inv.srt
 rw [hB,List.pairwise_append,List.pairwise_cons] at hsrt
 have hblk:∀ x y:Nat,s.num x≠0→x ∉ g→(y:Int)∈rows.getD x []→s.num y≠0:=fun x y hx hxg he=>by
  by_cases e:x=u
  ·subst e;have:=h.seen _ he;simpa using this
  ·exact h.inv.blk x y hx (by simp [e,hxg]) he
 have hnd:=h.inv.nd
 rw [hB,y72] at hnd
 have hedge:∀ x∈s.stk,x ∉ s0.stk→∀ y∈s0.stk,(y:Int)∈rows.getD x []→s.low u≤s0.num y:=fun x hx hx2 y hy he=>by
  by_cases e:x=u
  ·subst e;have:=h.edge1 _ he (by simpa using hy);simpa using this
  ·exact h.edge2 x hx hx2 e y hy he
 unfold tEnd
 by_cases hl:s.low u=s.num u
 ·rw [if_pos hl]
  have hcut:=z889 (A:=s0.stk) (B:=B) hu_s0
  have hstk:(tPop u s).stk=s0.stk:=by show s.stk.takeWhile _=_;rw [hB];exact hcut.1
  have hpart:∀ x,(tPop u s).part x=if x∈u::B then (s.prt:Int) else s.part x:=fun x=>by
   show (if x∈s.stk.dropWhile _ then _ else _)=_
   rw [hB,hcut.2]
  have hnum:∀ x,(tPop u s).num x=s.num x:=fun _=>rfl
  have hBs:∀ x∈u::B,x∈s.stk∧x ∉ s0.stk:=fun x hx=>⟨by rw [hB];exact List.mem_append_right _ hx,fun hm=>hnd.2.2 x hm x hx rfl⟩
  have hBp:∀ x∈u::B,s.part x=-1:=fun x hx=>((h.inv.stk x).1 (hBs x hx).1).2
  have hgB:∀ x∈u::B,x ∉ g:=fun x hx hm=>(hBs x hx).2 (h0.gs x hm)
  have h0B:∀ x∈s0.stk,x ∉ u::B:=fun x hx hm=>(hBs x hm).2 hx
  have hcl:∀ x y:Nat,0≤(tPop u s).part x→(y:Int)∈rows.getD x []→0≤(tPop u s).part y:=by
   intro x y hx he
   rw [hpart] at hx ⊢
   by_cases hyB:y∈u::B
   ·rw [if_pos hyB];omega
   ·rw [if_neg hyB]
    by_cases hxB:x∈u::B
    ·have hxs:=(hBs x hxB).1
     have hy:=hblk x y ((h.inv.stk x).1 hxs).1 (hgB x hxB) he
     rcases h.inv.pw y with h1|h1
     ·have hys:y∈s.stk:=(h.inv.stk y).2 ⟨hy,h1⟩
      rw [hB] at hys
      rcases List.mem_append.1 hys with h2|h2
      ·have h3:=hedge x hxs (hBs x hxB).2 y h2 he
       have h4:=hsrt.2.2 y h2 u (by simp)
       rw [hk y h2] at h4
       omega
      ·exact absurd h2 hyB
     ·exact h1.1
    ·rw [if_neg hxB] at hx
     exact h.inv.cl x y hx he
  have hreach:∀ x y:Nat,0≤(tPop u s).part x→RN rows x y→0≤(tPop u s).part y:=fun x y hx hr=>hr.inv hcl hx
  have hreach0:∀ x y:Nat,0≤s.part x→RN rows x y→0≤s.part y:=fun x y hx hr=>hr.inv h.inv.cl hx
  have hdown:∀ z∈u::B,RN rows u z:=fun z hz=>by
   refine h.inv.up u hus z (hBs z hz).1 ?_
   rcases List.mem_cons.1 hz with rfl|hz
   ·exact Int.le_refl _
   ·have:=hsrt.2.1.1 z hz;omega
  have hback:∀ z∈u::B,RN rows z u:=fun z hz=>by
   obtain ⟨x,hx,_,hr⟩:=h.inv.gr z (hBs z hz).1
   rcases List.mem_cons.1 hx with rfl|hx
   ·exact hr
   ·have h1:=hreach z x (by rw [hpart,if_pos hz];omega) hr
    have hx0:=h0.gs x hx
    rw [hpart,if_neg (h0B x hx0)] at h1
    have:=((h.inv.stk x).1 (hs0 x hx0)).2
    omega
  refine ⟨⟨?_,fun x=>?_,h.inv.lt,h.inv.nn,fun x=>?_,fun x hx=>?_,fun x hx=>?_,hblk,fun x hx y hy hxy=>?_,fun y hy=>?_,hcl,fun x y hx=>?_,h.inv.ct⟩,fun x hx=>?_,⟨[],by rw [hstk];simp⟩,h.num,h.cnt,?_,.inl hl,fun x hx hx2=>absurd (hstk ▸ hx) hx2⟩
  ·rw [hstk];exact hsrt.1
  ·rw [hstk,hpart]
   constructor
   ·intro hx
    rw [if_neg (h0B x hx)]
    exact (h.inv.stk x).1 (hs0 x hx)
   ·rintro ⟨h1,h2⟩
    split at h2
    ·omega
    ·rename_i hxB
     have:=(h.inv.stk x).2 ⟨h1,h2⟩
     rw [hB] at this
     rcases List.mem_append.1 this with h3|h3
     ·exact h3
     ·exact absurd h3 hxB
  ·rw [hpart]
   show _∨_∧_ < ((s.prt+1:Nat):Int)
   split
   ·right;omega
   ·have:=h.inv.pw x;omega
  ·rw [hpart,if_neg]
   ·exact h.inv.unv x hx
   ·intro hm;exact ((h.inv.stk x).1 (hBs x hm).1).1 hx
  ·rw [hstk];exact h0.gs x hx
  ·rw [hstk] at hx hy;exact h.inv.up x (hs0 x hx) y (hs0 y hy) hxy
  ·rw [hstk] at hy
   obtain ⟨x,hx,h1,h2⟩:=h0.gr y hy
   exact ⟨x,hx,by rw [hnum,hnum,hk y hy,hk x (h0.gs x hx)];exact h1,h2⟩
  ·rw [hpart x,hpart y]
   rw [hpart] at hx
   by_cases hxB:x∈u::B
   ·rw [if_pos hxB]
    by_cases hyB:y∈u::B
    ·rw [if_pos hyB]
     exact ⟨fun _=>⟨(hback x hxB).trans (hdown y hyB),(hback y hyB).trans (hdown x hxB)⟩,fun _=>rfl⟩
    ·rw [if_neg hyB]
     constructor
     ·intro e;have:=h.inv.pw y;omega
     ·rintro ⟨r1,r2⟩
      have h1:=hreach x y (by rw [hpart,if_pos hxB];omega) r1
      rw [hpart,if_neg hyB] at h1
      have h2:=hreach0 y x h1 r2
      have:=hBp x hxB
      omega
   ·rw [if_neg hxB] at hx ⊢
    by_cases hyB:y∈u::B
    ·rw [if_pos hyB]
     constructor
     ·intro e;have:=h.inv.pw x;omega
     ·rintro ⟨r1,_⟩
      have h2:=hreach0 x y hx r1
      have:=hBp y hyB
      omega
    ·rw [if_neg hyB];exact h.inv.sc x y hx
  ·obtain ⟨a1,a2,a3⟩:=h.keep x hx
   refine ⟨a1,a2,?_⟩
   rw [hpart,if_neg]
   ·exact a3
   ·intro hm
    have h1:=hBp x hm
    exact (hBs x hm).2 ((h0.stk x).2 ⟨hx,by rw [← a3];exact h1⟩)
  ·have:=h.prt;show s.prt+1+s0.cnt≤s0.prt+s.cnt;omega
 ·rw [if_neg hl]
  have hlt:s.low u < s.num u:=by have:=h.lown;omega
  refine ⟨⟨h.inv.srt,h.inv.stk,h.inv.lt,h.inv.nn,h.inv.pw,h.inv.unv,fun x hx=>h.inv.gs x (by simp [hx]),hblk,h.inv.up,fun y hy=>?_,h.inv.cl,h.inv.sc,h.inv.ct⟩,h.keep,⟨u::B,hB⟩,h.num,h.cnt,by have:=h.prt;omega,.inr h.low,hedge⟩
  obtain ⟨x,hx,h1,h2⟩:=h.inv.gr y hy
  rcases List.mem_cons.1 hx with rfl|hx
  ·obtain ⟨z,hz,h3,h4⟩:=h.low
   have hz0:z∈s0.stk:=by
    rw [hB] at hz
    rcases List.mem_append.1 hz with h5|h5
    ·exact h5
    ·rcases List.mem_cons.1 h5 with rfl|h5
     ·omega
     ·have:=hsrt.2.1.1 z h5;omega
   obtain ⟨t,ht,h5,h6⟩:=h0.gr z hz0
   refine ⟨t,ht,?_,(h2.trans h4).trans h6⟩
   rw [hk t (h0.gs t ht)]
   have:=hk z hz0
   omega
  ·exact ⟨x,hx,h1,h2⟩
end
theorem z1046 {N:Nat} {num:Nat→Int} {u:Nat} (hu:u < N) (h0:num u=0):0 < unvN N num:=by
 unfold unvN
 exact List.length_pos_iff.2 (List.ne_nil_of_mem (List.mem_filter.2 ⟨List.mem_range.2 hu,by simpa using h0⟩))
theorem z613 {rows:List (List Int)} (hr:∀ r∈rows,InN rows.length r):∀ (f:Nat) (s:TS) (g:List Nat) (u:Nat),unvN rows.length s.num≤f→TI rows s g→s.num u=0→u < rows.length→(∀ x∈g,RN rows x u)→TP rows s (z236 rows f u s) g u
 |0,s,g,u,hf,_,h0,hN,_=>by have:=z1046 (num:=s.num) hN h0;omega
 |f+1,s,g,u,hf,h,h0,hN,hg=>by
  have fold:∀ (l dn:List Int) (t:TS),(∀ v∈l,v∈rows.getD u [])→TL rows s t g u dn→TL rows s (l.foldl (z361 (z236 rows f) u) t) g u (dn++l):=by
   intro l
   induction l with
   |nil=>intro dn t _ ht;simpa using ht
   |cons v l ih =>
    intro dn t hl ht
    have hv:=hl v (by simp)
    have hvN:=z275 hr u v hv
    have:=ht.edge h h0 hv hvN (rec:=z236 rows f) fun hv0=>by
     refine z613 hr f t (u::g) v.toNat ?_ ht.inv hv0 (by omega) fun x hx=>?_
     ·have h1:=ht.cnt;have h2:=ht.inv.ct;have h3:=h.ct;omega
     ·have he:RN rows u v.toNat:=.edge (by rw [Int.toNat_of_nonneg hvN.1];exact hv)
      rcases List.mem_cons.1 hx with rfl|hx
      ·exact he
      ·exact (hg x hx).trans he
    have h2:=ih (dn++[v]) _ (fun y hy=>hl y (by simp [hy])) this
    rw [List.append_assoc] at h2
    exact h2
  have h1:=fold (rows.getD u []) [] _ (fun _ h=>h) (TL.start h h0 hN hg)
  rw [List.nil_append] at h1
  exact h1.fin h h0
theorem z1192 {rows : List (List Int)} (hr : ∀ r ∈ rows, InN rows.length r) {f : Nat} {s : TS} {g : List Nat} {u : Nat} (hf : unvN rows.length s.num ≤ f + 1) (h : TI rows s g) (h0 : s.num u = 0) (hN : u < rows.length) (hg : ∀ x ∈ g, RN rows x u) :
    ∀ k,k≤(rows.getD u []).length→TL rows s (((rows.getD u []).take k).foldl (z361 (z236 rows f) u) (z203 u s)) g u ((rows.getD u []).take k)
  | 0,_=>TL.start h h0 hN hg
  | k+1,hk=>by
    have ht:=z1192 hr hf h h0 hN hg k (by omega)
    have hv:(rows.getD u [])[k]∈rows.getD u []:=y40 _
    have hvN:=z275 hr u _ hv
    rw [y46 hk,y59]
    refine ht.edge h h0 hv hvN fun hv0=>?_
    refine z613 hr f _ (u::g) _ ?_ ht.inv hv0 (by omega) fun x hx=>?_
    · have h1:=ht.cnt;have h2:=ht.inv.ct;have h3:=h.ct;omega
    · have he:RN rows u ((rows.getD u [])[k]).toNat:=.edge (by rw [Int.toNat_of_nonneg hvN.1];exact hv)
      rcases List.mem_cons.1 hx with rfl|hx
      · exact he
      · exact (hg x hx).trans he
theorem TI.init (rows:List (List Int)):TI rows z360 []:=by
 refine ⟨.nil,fun x=>by simp [z360],fun x hx=>absurd rfl hx,fun x=>by simp [z360],fun x=>.inl rfl,fun _ _=>rfl,by simp,fun x y hx=>absurd rfl hx,by simp [z360],by simp [z360],fun x y hx=>?_,fun x y hx=>?_,?_⟩
 ·have:(0:Int)≤-1:=hx;omega
 ·have:(0:Int)≤-1:=hx;omega
 ·show 0+unvN rows.length (fun _=>0)=_
  unfold unvN
  rw [List.filter_eq_self.2 (by simp)]
  simp
structure TT (rows:List (List Int)) (s:TS) (k:Nat):Prop where
 inv:TI rows s []
 vis:∀ x,x < k→s.num x≠0
 prt:s.prt≤s.cnt
theorem TT.step {rows:List (List Int)} (hr:∀ r∈rows,InN rows.length r) {s:TS} {k:Nat} (hk:k < rows.length) (h:TT rows s k):TT rows (tTop rows s k) (k+1):=by
 unfold tTop
 by_cases h0:s.num k=0
 ·rw [if_pos h0]
  have hp:=z613 hr rows.length s [] k (by have:=h.inv.ct;omega) h.inv h0 hk (by simp)
  refine ⟨hp.inv,fun x hx=>?_,?_⟩
  ·by_cases e:x=k
   ·subst e;rw [hp.num];omega
   ·have h1:=h.vis x (by omega)
    rw [(hp.keep x h1).1];exact h1
  ·have:=hp.prt;have:=h.prt;omega
 ·rw [if_neg h0]
  refine ⟨h.inv,fun x hx=>?_,h.prt⟩
  by_cases e:x=k
  ·subst e;exact h0
  ·exact h.vis x (by omega)
theorem z624 {rows:List (List Int)} (hr:∀ r∈rows,InN rows.length r):∀ k,k≤rows.length→TT rows ((List.range k).foldl (tTop rows) z360) k
 |0,_=>⟨TI.init rows,fun x hx=>by omega,y48 _⟩
 |k+1,hk=>by
  rw [y58,y59]
  exact (z624 hr k (by omega)).step hr (by omega)
theorem tAll_ok {rows:List (List Int)} (hr:∀ r∈rows,InN rows.length r):(∀ x,x < rows.length→0≤(tAll rows).part x∧(tAll rows).part x < rows.length)∧∀ x y,x < rows.length→((tAll rows).part y=(tAll rows).part x↔RN rows x y∧RN rows y x):=by
 have h:=z624 hr rows.length (y48 _)
 have hp:∀ x,x < rows.length→0≤(tAll rows).part x:=fun x hx=>by
  have h1:=h.vis x hx
  rcases h.inv.pw x with h2|h2
  ·obtain ⟨z,hz,_⟩:=h.inv.gr x ((h.inv.stk x).2 ⟨h1,h2⟩)
   cases hz
  ·exact h2.1
 refine ⟨fun x hx=>⟨hp x hx,?_⟩,fun x y hx=>h.inv.sc x y (hp x hx)⟩
 have h2:=h.inv.pw x
 have h3:=h.prt
 have h4:=h.inv.ct
 have h5:=hp x hx
 have h6:(tAll rows).part x < (tAll rows).prt:=by
  rcases h2 with h2|h2
  ·have:(tAll rows).part x=-1:=h2
   omega
  ·exact h2.2
 have h7:(tAll rows).prt≤(tAll rows).cnt:=h3
 have h8:(tAll rows).cnt+unvN rows.length (tAll rows).num=rows.length:=h4
 omega
theorem RN.rp {rows:List (List Int)} {x y:Nat} (h:RN rows x y):RP rows [(x:Int)] y:=by
 induction h with
 |refl=>exact .base (by simp)
 |step _ e ih=>exact .step ih (by simpa using e)
theorem RP.rn {rows:List (List Int)} (hr:∀ r∈rows,InN rows.length r) {x:Nat} {y:Int} (h:RP rows [(x:Int)] y):0≤y∧RN rows x y.toNat:=by
 induction h with
 |base hb=>rw [List.mem_singleton.1 hb];exact ⟨by omega,.refl⟩
 |step _ e ih =>
  have:=z275 hr _ _ e
  exact ⟨this.1,.step ih.2 (by rw [Int.toNat_of_nonneg this.1];exact e)⟩
theorem cyc_iff {rows:List (List Int)} (hr:∀ r∈rows,InN rows.length r) {x:Nat} (hx:x < rows.length):Cyc rows x↔(x:Int)∈rows.getD x []∨∃ y,y < rows.length∧y≠x∧RN rows x y∧RN rows y x:=by
 constructor
 ·rintro ⟨y,hy,h⟩
  have hyN:=z275 hr _ _ hy
  obtain ⟨w,rfl⟩:∃ w:Nat,y=w:=⟨y.toNat,by omega⟩
  have h2:=(RP.rn hr h).2
  simp only [y73] at h2 hy
  by_cases e:w=x
  ·subst e;exact .inl hy
  ·exact .inr ⟨w,by omega,e,.edge hy,h2⟩
 ·rintro (h|⟨y,hy,hne,h1,h2⟩)
  ·exact ⟨x,by simpa using h,.base (by simp)⟩
  ·have key:∀ z,RN rows x z→z=x∨∃ w:Nat,(w:Int)∈rows.getD x []∧RN rows w z:=by
    intro z hz
    induction hz with
    |refl=>exact .inl rfl
    |step _ e ih =>
     rcases ih with rfl|⟨w,hw,ih⟩
     ·exact .inr ⟨_,e,.refl⟩
     ·exact .inr ⟨w,hw,.step ih e⟩
   rcases key y h1 with h3|⟨w,hw,h3⟩
   ·exact absurd h3 hne
   ·exact ⟨w,by simpa using hw,(h3.trans h2).rp⟩
end Go.Gl
namespace Go.Gl
def z247:Nat→List Int→List (List Int×Int)
 |_,[]=>[]
 |k,p::L=>([p],(k:Int))::z247 (k+1) L
theorem z533:∀ (k:Nat) (L:List Int),(z247 k L).length=L.length
 |_,[]=>rfl
 |k,p::L=>by rw [z247,y54,z533,y54]
theorem z517 (p:Int):∀ (k:Nat) (L:List Int),mget (z247 k L) [p]=if p∈L then some ((k+L.idxOf p:Nat):Int) else none
 |_,[]=>rfl
 |k,q::L=>by
  rw [z247,mget,z517 p (k+1) L]
  by_cases h:p=q
  ·subst h;simp
  ·have h2:¬ [p]=[q]:=by simpa using h
   have h3:¬ q=p:=fun e=>h e.symm
   rw [if_neg h2]
   simp only [List.mem_cons,h,false_or,List.idxOf_cons]
   have h4:(q == p)=false:=by simpa using h3
   rw [h4]
   by_cases hm:p∈L
   ·rw [if_pos hm,if_pos hm]
    simp only [cond_false]
    congr 2;omega
   ·rw [if_neg hm,if_neg hm]
theorem z730 {p:Int} (n:Int):∀ (k:Nat) (L:List Int),p ∉ L→mput (z247 k L) [p] n=z247 k L++[([p],n)]
 |_,[],_=>rfl
 |k,q::L,h=>by
  have h1:p≠q:=fun e=>h (by simp [e])
  rw [z247,mput,if_neg (by simpa using h1),z730 n (k+1) L (fun hm=>h (by simp [hm]))];rfl
theorem z758 (p:Int):∀ (k:Nat) (L:List Int),z247 k (L++[p])=z247 k L++[([p],((k+L.length:Nat):Int))]
 |k,[]=>rfl
 |k,q::L=>by
  rw [List.cons_append,z247,z758 p (k+1) L,z247,List.cons_append,y54]
  congr 4;omega
def metL (P:List Int) (i:Nat):List Int:=z85 [] (P.take i)
def nmI (P:List Int) (i:Nat):Int:=(((metL P P.length).idxOf (P.getD i 0):Nat):Int)
theorem z382 {P:List Int} {i:Nat} (h:i < P.length):metL P (i+1)=z161 (metL P i) P[i]:=by
 unfold metL z85
 rw [y46 h,y59];rfl
theorem z908 {P:List Int} {i j:Nat} (h:i≤j) (hj:j≤P.length):∃ t,metL P j=metL P i++t:=by
  induction j with
  | zero => obtain rfl : i = 0 := by omega
            exact ⟨[],by simp⟩
  | succ j ih =>
    rcases y66 j i with h1|h1
    · obtain rfl:i=j+1:=by omega
      exact ⟨[],by simp⟩
    · obtain ⟨t,ht⟩:=ih h1 (by omega)
      rw [z382 (by omega)]
      obtain ⟨t2,ht2⟩:=z486 (metL P j) P[j]
      exact ⟨t++t2,by rw [ht2,ht];simp⟩
theorem z647 {P:List Int} {i:Nat} (h:i < P.length):P[i]∈metL P (i+1):=by
 rw [z382 h];unfold z161;split
 ·assumption
 ·simp
theorem z648 {P:List Int} {i:Nat} (h:i < P.length):P[i]∈metL P P.length:=by
 obtain ⟨t,ht⟩:=z908 (P:=P) (i:=i+1) (j:=P.length) h (y48 _)
 rw [ht];exact List.mem_append_left _ (z647 h)
theorem nmI_at {P:List Int} {i:Nat} (h:i < P.length):nmI P i=(((metL P (i+1)).idxOf P[i]:Nat):Int):=by
 unfold nmI
 obtain ⟨t,ht⟩:=z908 (P:=P) (i:=i+1) (j:=P.length) h (y48 _)
 rw [ht,z13 h,List.idxOf_append,if_pos (z647 h)]
theorem z909 (P:List Int):∀ i,i≤P.length→(metL P i).length≤i
 |0,_=>by simp [metL,z85]
 |i+1,h=>by
  have ih:=z909 P i (by omega)
  rw [z382 (by omega)]
  unfold z161;split
  ·omega
  ·rw [y43,List.length_singleton];omega
theorem nmI_lt {P:List Int} {i:Nat} (h:i < P.length):0≤nmI P i∧nmI P i < P.length:=by
 have h1:=List.idxOf_lt_length_of_mem (z648 h)
 have h2:=z909 P P.length (y48 _)
 unfold nmI
 rw [z13 h];omega
theorem nmI_eq {P:List Int} {i j:Nat} (hi:i < P.length) (hj:j < P.length):nmI P i=nmI P j↔P[i]=P[j]:=by
 unfold nmI
 rw [z13 hi,z13 hj]
 constructor
 ·intro h
  have h1:=List.idxOf_lt_length_of_mem (z648 hi)
  have e1:=List.getElem_idxOf h1
  have h2:=List.idxOf_lt_length_of_mem (z648 hj)
  have e2:=List.getElem_idxOf h2
  rw [← e1,← e2]
  congr 1;omega
 ·intro h;rw [h]
def cmpL (rows:List (List Int)):List Int:=(List.range rows.length).map fun i=>nmI ((List.range rows.length).map (tAll rows).part) i
theorem z404 (rows:List (List Int)):(cmpL rows).length=rows.length:=by simp [cmpL]
theorem z858 {rows:List (List Int)} {i:Nat} (h:i < rows.length):(cmpL rows).getD i 0=nmI ((List.range rows.length).map (tAll rows).part) i:=by
 rw [z13 (by rw [z404];exact h)];simp [cmpL]
theorem z1161 {rows:List (List Int)} : InN rows.length (cmpL rows):=by
 intro x hx
 obtain ⟨i,hi,rfl⟩:=List.mem_map.1 hx
 have:=nmI_lt (P:=(List.range rows.length).map (tAll rows).part) (i:=i) (by simpa using hi)
 simpa using this
theorem z857 {rows:List (List Int)} (hr:∀ r∈rows,InN rows.length r) {x y:Nat} (hx:x < rows.length) (hy:y < rows.length):(cmpL rows).getD y 0=(cmpL rows).getD x 0↔RN rows x y∧RN rows y x:=by
 rw [z858 hx,z858 hy,nmI_eq (by simpa using hy) (by simpa using hx),← (tAll_ok hr).2 x y hx]
 simp
def cntL (P:List Int) (i:Nat) (v:Nat):Nat:=(P.take i).countP fun p=>decide (p=(v:Int))
theorem z767 {P:List Int} {i:Nat} (h:i < P.length) (v:Nat):cntL P (i+1) v=cntL P i v+if P[i]=(v:Int) then 1 else 0:=by
 unfold cntL
 rw [y46 h,List.countP_append]
 by_cases e:P[i]=(v:Int)<;>simp [e]
theorem cntL_le (P:List Int) (i v:Nat):cntL P i v≤i:=by
 unfold cntL
 have:=List.countP_le_length (p:=fun p:Int=>decide (p=(v:Int))) (l:=P.take i)
 rw [y44] at this;omega
theorem cntL_pos {P:List Int} {i j v:Nat} (hj:j < i) (hp:j < P.length) (e:P[j]=(v:Int)):0 < cntL P i v:=by
 unfold cntL
 rw [List.countP_pos_iff]
 exact ⟨P[j],List.mem_take_iff_getElem.2 ⟨j,by omega,rfl⟩,by simp [e]⟩
theorem z674 {P:List Int} {v:Nat} : ∀ i,i≤P.length→(1 < cntL P i v↔∃ a b,a < b∧∃ h:b < i,∃ h2:b < P.length,∃ h3:a < P.length,P[a]=(v:Int)∧P[b]=(v:Int))
 |0,_=>by simp [cntL]
 |i+1,hi=>by
  rw [z767 (by omega)]
  constructor
  ·intro h
   by_cases e:P[i]=(v:Int)
   ·rw [if_pos e] at h
    have h0:0 < cntL P i v:=by omega
    unfold cntL at h0
    rw [List.countP_pos_iff] at h0
    obtain ⟨x,hx,hx2⟩:=h0
    obtain ⟨a,ha,rfl⟩:=List.mem_take_iff_getElem.1 hx
    exact ⟨a,i,by omega,by omega,by omega,by omega,by simpa using hx2,e⟩
   ·rw [if_neg e] at h
    obtain ⟨a,b,h1,h2,h3,h4,h5⟩:=(z674 (P:=P) (v:=v) i (by omega)).1 (by omega)
    exact ⟨a,b,h1,by omega,h3,h4,h5⟩
  ·rintro ⟨a,b,h1,h2,h3,h4,h5,h6⟩
   by_cases hb:b=i
   ·subst hb
    rw [if_pos h6]
    have:=cntL_pos h1 h4 h5
    omega
   ·have:=(z674 (P:=P) (v:=v) i (by omega)).2 ⟨a,b,h1,by omega,h3,h4,h5,h6⟩
    omega
noncomputable def cycD (rows:List (List Int)) (x:Nat):Bool:=by classical exact decide (Cyc rows x)
theorem z400 {rows:List (List Int)} {x:Nat} : cycD rows x=true↔Cyc rows x:=by unfold cycD;simp
noncomputable def cycB (rows:List (List Int)):List Bool:=(List.range rows.length).map (cycD rows)
theorem cycB_len (rows:List (List Int)):(cycB rows).length=rows.length:=by simp [cycB]
theorem cyc_cnt {rows:List (List Int)} (hr:∀ r∈rows,InN rows.length r) {x:Nat} (hx:x < rows.length):cycD rows x=(decide (1 < cntL (cmpL rows) rows.length ((cmpL rows).getD x 0).toNat) || decide ((x:Int)∈rows.getD x [])):=by
 have hc:=z1161 (rows:=rows) _ (z393 (Q:=cmpL rows) (k:=x) (by rw [z404];exact hx))
 have hv:(((cmpL rows).getD x 0).toNat:Int)=(cmpL rows).getD x 0:=Int.toNat_of_nonneg hc.1
 rw [Bool.eq_iff_iff,z400,cyc_iff hr hx,Bool.or_eq_true,decide_eq_true_iff,decide_eq_true_iff,z674 _ (by rw [z404];exact y48 _),hv]
 have hat:∀ a (h:a < (cmpL rows).length),(cmpL rows)[a]=(cmpL rows).getD a 0:=fun a h=>(z13 h).symm
 have hlen:=z404 rows
 constructor
 ·rintro (h|⟨y,hy,hne,h1,h2⟩)
  ·exact .inr h
  ·left
   have he:=(z857 hr hx hy).2 ⟨h1,h2⟩
   rcases Nat.lt_or_gt_of_ne hne with h3|h3
   ·exact ⟨y,x,h3,hx,by omega,by omega,by rw [hat];exact he,by rw [hat]⟩
   ·exact ⟨x,y,h3,hy,by omega,by omega,by rw [hat],by rw [hat];exact he⟩
 ·rintro (⟨a,b,hab,h2,h3,h4,h5,h6⟩|h)
  ·right
   rw [hat] at h5 h6
   have ha:=(z857 hr hx (show a < rows.length by omega)).1 h5
   have hb:=(z857 hr hx (show b < rows.length by omega)).1 h6
   by_cases e:a=x
   ·exact ⟨b,by omega,by omega,hb⟩
   ·exact ⟨a,by omega,e,ha⟩
  ·exact .inl h
def frm (N:Nat) (Q P:List Int):List Int:=(List.range N).map fun v:Nat=>if (v:Int)∈Q then P.getD v 0 else -2
theorem z846 (N:Nat) (Q P:List Int):(frm N Q P).length=N:=by simp [frm]
theorem frm_nil (N:Nat) (P:List Int):frm N [] P=List.replicate N (-2):=by
 apply y71 (by simp [frm])
 intro i h1 h2
 simp [frm]
theorem frm_set {N:Nat} {Q P:List Int} {v u:Int} (hv:0≤v∧v < N) (hP:P.length=N):(frm N Q P).set v.toNat u=frm N (Q++[v]) (P.set v.toNat u):=by
 apply y71 (by simp [frm])
 intro i h1 h2
 have hi:i < N:=by simpa [frm] using h2
 rw [List.getElem_set]
 by_cases e:v.toNat=i
 ·have e2:(i:Int)=v:=by omega
  rw [if_pos e]
  simp only [frm,List.getElem_map,List.getElem_range]
  rw [if_pos (by simp [e2]),z13 (by simp;omega),List.getElem_set,if_pos e]
 ·have e2:(i:Int)≠v:=by omega
  rw [if_neg e]
  simp only [frm,List.getElem_map,List.getElem_range,y50,y51,e2,or_false]
  split
  ·rw [z13 (by omega),z13 (by simp;omega),List.getElem_set,if_neg e]
  ·rfl
section
variable {rows:List (List Int)} {ini:List Int}
theorem z1033 (u:Int) (l:List Int):∀ x:List Int×List Int,∃ t,(visPs u x l).1=x.1++t:=by
 intro x;rw [z487];exact z571 _ _
theorem z807 {i j:Nat} (h:i≤j):∃ t,(srS rows ini j).1=(srS rows ini i).1++t:=by
  induction j with
  | zero => obtain rfl : i = 0 := by omega
            exact ⟨[],by simp⟩
  | succ j ih =>
    rcases y66 j i with h1|h1
    · obtain rfl:i=j+1:=by omega
      exact ⟨[],by simp⟩
    · obtain ⟨t,ht⟩:=ih h1
      rw [srS];split
      · obtain ⟨t2,ht2⟩:=z1033 (srS rows ini j).1[j] (rows.getD ((srS rows ini j).1[j]).toNat []) (srS rows ini j)
        exact ⟨t++t2,by rw [ht2,ht];simp⟩
      · exact ⟨t,ht⟩
theorem z572 {u v:Int} (hv:0≤v):∀ (l:List Int) (x:List Int×List Int),(∀ y∈l,0≤y)→v∈x.1→(visPs u x l).2.getD v.toNat 0=x.2.getD v.toNat 0
 |[],_,_,_=>rfl
 |w::l,x,hl,hm=>by
  show (visPs u (visP u x w) l).2.getD v.toNat 0=_
  have hm2:v∈(visP u x w).1:=by rw [z616];exact z687.2 (.inl hm)
  rw [z572 hv l _ (fun y hy=>hl y (by simp [hy])) hm2]
  by_cases h:w∈x.1
  ·rw [z614 h]
  ·rw [z615 h]
   have hw:=hl w (by simp)
   have:v≠w:=fun e=>h (e ▸ hm)
   dsimp only
   rw [y64,List.getElem?_set_ne (by omega),← y64]
theorem srS_keep (hr:∀ r∈rows,InN rows.length r) {i j:Nat} (h:i≤j) {v:Int} (hv:0≤v) (hm:v∈(srS rows ini i).1):(srS rows ini j).2.getD v.toNat 0=(srS rows ini i).2.getD v.toNat 0:=by
  induction j with
  | zero => obtain rfl : i = 0 := by omega
            rfl
  | succ j ih =>
    rcases y66 j i with h1|h1
    · obtain rfl:i=j+1:=by omega
      rfl
    · obtain ⟨t,ht⟩:=z807 (rows:=rows) (ini:=ini) h1
      rw [srS];split
      · rw [z572 hv _ _ (fun y hy=>(z275 hr _ y hy).1) (by rw [ht];simp [hm])]
        exact ih h1
      · exact ih h1
theorem z1056 (hr:∀ r∈rows,InN rows.length r) (hi:InN rows.length ini) (hn:ini.Nodup) {i:Nat} (hil:i≤rows.length):∀ (f:Nat) (v:Int) (tl:List Int),v∈(srS rows ini i).1→bkw (srS rows ini i).2 f v tl=bkw (srP rows ini) f v tl
 |0,_,_,_=>rfl
 |f+1,v,tl,hm=>by
  have hJ:=z573 hr hi hn i
  have hv:=hJ.inn v hm
  have e:(srP rows ini).getD v.toNat 0=(srS rows ini i).2.getD v.toNat 0:=srS_keep hr hil hv.1 hm
  rw [bkw,bkw,e]
  split
  ·rename_i h
   refine z1056 hr hi hn hil f _ _ ?_
   obtain ⟨k,hk,rfl⟩:=List.mem_iff_getElem.1 hm
   rcases hJ.pre k hk with h1|⟨j,hj,_,h2⟩
   ·omega
   ·rw [h2];exact y40 _
  ·rfl
def shL (rows:List (List Int)) (ini:List Int) (G:Int→Bool):List Int:=match (srQ rows ini).find? G with
 |none=>[]
 |some v=>bkw (srP rows ini) rows.length v []
theorem z1070 (hr : ∀ r ∈ rows, InN rows.length r) (hi : InN rows.length ini) (hn : ini.Nodup) {G : Int → Bool} {i : Nat} (hil : i < (srS rows ini i).1.length) (hG : G (srS rows ini i).1[i] = true) (hk : ∀ k (_ : k < i), G ((srS rows ini i).1[k]) = false) :
    shL rows ini G=bkw (srS rows ini i).2 rows.length (srS rows ini i).1[i] []:=by
  have hle:i≤rows.length:=Nat.le_of_lt (Nat.lt_of_lt_of_le hil (z1054 hr hi hn i))
  obtain ⟨t,ht⟩:=z807 (rows:=rows) (ini:=ini) hle
  have:(srQ rows ini).find? G=some (srS rows ini i).1[i]:=by
    show (srS rows ini rows.length).1.find? G=_
    rw [ht,List.find?_append]
    have:(srS rows ini i).1.find? G=some (srS rows ini i).1[i]:=by
      rw [List.find?_eq_some_iff_getElem]
      exact ⟨hG,i,hil,rfl,fun j hj=>by rw [hk j hj];rfl⟩
    rw [this];rfl
  unfold shL
  rw [this]
  exact (z1056 hr hi hn hle _ _ _ (y40 _)).symm
theorem shL_none {G:Int→Bool} {i:Nat} (hil:(srS rows ini i).1.length≤i) (hle:i≤rows.length) (hk:∀ k (h:k < (srS rows ini i).1.length),G ((srS rows ini i).1[k])=false):shL rows ini G=[]:=by
 have e:=srS_end (ini:=ini) hil hle
 have:(srQ rows ini).find? G=none:=by
  rw [List.find?_eq_none]
  intro x hx
  have e1:(srS rows ini i).1=srQ rows ini:=by rw [e]
  rw [← e1] at hx
  obtain ⟨k,hk',rfl⟩:=List.mem_iff_getElem.1 hx
  rw [hk k hk'];simp
 unfold shL
 rw [this]
def aroL (rows:List (List Int)) (v:Int):List Int:=if v∈rows.getD v.toNat [] then [v] else shL rows [v] fun n=>decide (n≠v) && decide (v∈rows.getD n.toNat [])
theorem aroL_eq (v:Int):aroL rows v=cycL rows v:=by
 unfold aroL cycL
 split
 ·rfl
 ·rename_i h
  unfold shL
  have key:∀ l:List Int,(match l.find? (fun n=>decide (n≠v) && decide (v∈rows.getD n.toNat [])) with|none=>[]|some u=>bkw (srP rows [v]) rows.length u [])=cycT rows (srP rows [v]) v l:=by
   intro l
   induction l with
   |nil=>rfl
   |cons u l ih =>
    rw [List.find?_cons,cycT]
    by_cases hu:v∈rows.getD u.toNat []
    ·have hne:u≠v:=fun e=>by rw [e] at hu;exact h hu
     rw [y78 hu,y78 hne,if_pos hu];rfl
    ·rw [y79 hu,Bool.and_false,if_neg hu]
     exact ih
  exact key _
theorem RP.head {v u:Int} (h:RP rows [v] u):u=v∨∃ y,y∈rows.getD v.toNat []∧RP rows [y] u:=by
 induction h with
 |base hb=>exact .inl (List.mem_singleton.1 hb)
 |step _ e ih =>
  rcases ih with rfl|⟨y,hy,h2⟩
  ·exact .inr ⟨_,e,.base (by simp)⟩
  ·exact .inr ⟨y,hy,.step h2 e⟩
theorem z934 (hr:∀ r∈rows,InN rows.length r) {v:Int} (hv:0≤v∧v < rows.length):0 < (cycL rows v).length↔Cyc rows v:=by
 have hq:∀ x,x∈srQ rows [v]↔RP rows [v] x:=fun x=>by
  have:=z808 (rows:=rows) (ini:=[v]) (by simp) rows.length
  show x∈(srS rows [v] rows.length).1↔_
  rw [this]
  exact z869 hr (z726 hv) x
 unfold cycL
 split
 ·rename_i h
  exact ⟨fun _=>⟨v,h,.base (by simp)⟩,fun _=>by simp⟩
 ·rename_i h
  have key:∀ l:List Int,0 < (cycT rows (srP rows [v]) v l).length↔∃ u∈l,v∈rows.getD u.toNat []:=by
   intro l
   induction l with
   |nil=>simp [cycT]
   |cons u l ih =>
    rw [cycT]
    split
    ·rename_i hu
     exact ⟨fun _=>⟨u,by simp,hu⟩,fun _=>z678 _ _ _ _⟩
    ·rename_i hu
     rw [ih]
     constructor
     ·rintro ⟨w,h1,h2⟩;exact ⟨w,by simp [h1],h2⟩
     ·rintro ⟨w,h1,h2⟩
      rcases List.mem_cons.1 h1 with rfl|h1
      ·exact absurd h2 hu
      ·exact ⟨w,h1,h2⟩
  rw [key]
  constructor
  ·rintro ⟨u,hu,hvu⟩
   rcases RP.head ((hq u).1 hu) with rfl|⟨y,hy,h2⟩
   ·exact absurd hvu h
   ·exact ⟨y,hy,.step h2 hvu⟩
  ·rintro ⟨y,hy,h1⟩
   cases h1 with
   |base hb=>exact absurd (List.mem_singleton.1 hb ▸ hy) h
   |step h2 h3=>exact ⟨_,(hq _).2 (RP.trans (.base (by simp)) hy h2),h3⟩
noncomputable def lasL (rows:List (List Int)) (ini:List Int) (G:Int→Bool):Option (List Int×List Int):=((bfsL rows ini).find? fun v=>G v && cycD rows v.toNat).map fun v=>(bkw (srP rows ini) rows.length v [],cycL rows v)
theorem z471 (hr:∀ r∈rows,InN rows.length r) (hi:InN rows.length ini) (hn:ini.Nodup) (acc:List Bool):lasL rows ini (fun v=>acc.getD (v % acc.length).toNat false)=finS rows ini acc:=by
 have e:bfsL rows ini=srQ rows ini:=(z808 hn rows.length).symm
 have hin:=z1057 hr hi hn
 unfold lasL finS
 rw [e]
 generalize srQ rows ini=Q at *
 clear e
 induction Q with
 |nil=>rfl
 |cons u Q ih =>
  have hu:=hin u (by simp)
  have hc:cycD rows u.toNat=decide (0 < (cycL rows u).length):=by
   rw [Bool.eq_iff_iff,z400,decide_eq_true_iff,z934 hr hu,Int.toNat_of_nonneg hu.1]
  have ih:=ih fun x hx=>hin x (by simp [hx])
  rw [List.find?_cons,finT]
  dsimp only
  rw [hc]
  by_cases ha:acc.getD (u % acc.length).toNat false=true
  ·rw [if_pos ha,ha,Bool.true_and]
   by_cases hl:0 < (cycL rows u).length
   ·rw [if_pos hl,y78 hl];rfl
   ·rw [if_neg hl,y79 hl]
    exact ih
  ·rw [if_neg ha,(y68 _).mp ha,Bool.false_and]
   exact ih
theorem shL_to (hn:ini.Nodup) {v:Int} (hv:v∈bfsL rows ini):shL rows ini (fun n=>decide (n=v))=bkw (srP rows ini) rows.length v []:=by
 have e:bfsL rows ini=srQ rows ini:=(z808 hn rows.length).symm
 rw [e] at hv
 unfold shL
 cases h:(srQ rows ini).find? (fun n=>decide (n=v)) with
 |none=>rw [List.find?_eq_none] at h;have:=h v hv;simp at this
 |some u=>have:=List.find?_some h;rw [of_decide_eq_true this]
end
end Go.Gl
namespace Go.Gl
theorem z625 (l:List Int) (i j:Nat):(swp l i j).length=l.length:=by unfold swp;simp
theorem swp_at (l:List Int) {i j k:Nat} (hi:i < l.length) (hj:j < l.length) (hk:k < l.length):(swp l i j)[k]'(by rw [z625];exact hk)=if k=j then l[i] else if k=i then l[j] else l[k]:=by
 unfold swp
 rw [List.getElem_set]
 by_cases h:j=k
 ·rw [if_pos h,if_pos h.symm,z13 hi]
 ·rw [if_neg h,if_neg (fun e=>h e.symm),List.getElem_set]
  by_cases h2:i=k
  ·rw [if_pos h2,if_pos h2.symm,z13 hj]
  ·rw [if_neg h2,if_neg (fun e=>h2 e.symm)]
def chn (P:List Int):Nat→Int→List Int
 |0,v=>[v]
 |f+1,v=>v::if 0≤P.getD v.toNat 0 then chn P f (P.getD v.toNat 0) else []
theorem z1174 (P:List Int):∀ (f:Nat) (v:Int) (tl:List Int),bkw P f v tl=(chn P f v).reverse++tl
 |0,v,tl=>rfl
 |f+1,v,tl=>by
  rw [bkw,chn]
  split
  ·rw [z1174 P f];simp
  ·simp
theorem chn_pos (P:List Int) (f:Nat) (v:Int):1≤(chn P f v).length:=by cases f<;>simp [chn]
theorem z1082:∀ (f i j:Nat) (l:List Int),i+j+1=l.length→j+1≤2 * f+1+i→∀ k (h:k < (revG f i j l).length) (h' : k < l.length),(revG f i j l)[k]=if i≤k∧k≤j then l[l.length - 1 - k]'(by omega) else l[k]
 |0,i,j,l,hij,hf,k,h,h'=>by
  show l[k]=_
  split
  ·congr 1;omega
  ·rfl
 |f+1,i,j,l,hij,hf,k,h,h'=>by
  by_cases hlt:i < j
  ·have e:revG (f+1) i j l=revG f (i+1) (j - 1) (swp l i j):=by rw [revG,if_pos hlt]
   have hk:k < (revG f (i+1) (j - 1) (swp l i j)).length:=by rw [← e];exact h
   have ih:=z1082 f (i+1) (j - 1) (swp l i j) (by rw [z625];omega) (by omega) k hk (by rw [z625];exact h')
   have e2:(revG (f+1) i j l)[k]=(revG f (i+1) (j - 1) (swp l i j))[k]:=by simp only [e]
   rw [e2,ih]
   simp only [z625]
   by_cases h1:i+1≤k∧k≤j - 1
   ·rw [if_pos h1,if_pos (by omega),swp_at l (by omega) (by omega) (by omega),if_neg (by omega),if_neg (by omega)]
   ·rw [if_neg h1,swp_at l (by omega) (by omega) h']
    by_cases h2:k=j
    ·rw [if_pos h2,if_pos (by omega)];congr 1;omega
    ·rw [if_neg h2]
     by_cases h3:k=i
     ·rw [if_pos h3,if_pos (by omega)];congr 1;omega
     ·rw [if_neg h3,if_neg (by omega)]
  ·have e:revG (f+1) i j l=l:=by rw [revG,if_neg hlt]
   have e2:(revG (f+1) i j l)[k]=l[k]:=by simp only [e]
   rw [e2]
   split
   ·congr 1;omega
   ·rfl
theorem rvs_eq (l:List Int):rvs l=l.reverse:=by
 by_cases h0:l.length=0
 ·have:l=[]:=y70 h0
  subst this;rfl
 ·apply y71 (by rw [z633,List.length_reverse])
  intro k h1 h2
  have hk:k < l.length:=by rw [z633] at h1;exact h1
  have:=z1082 l.length 0 (l.length - 1) l (by omega) (by omega) k h1 hk
  rw [List.getElem_reverse]
  refine this.trans ?_
  rw [if_pos (by omega)]
def rkStep (R:List Int) (z:Bool) (o v:Int):Int:=if o < R.getD v.toNat 0+(if z=true then 1 else 0) then R.getD v.toNat 0+(if z=true then 1 else 0) else o
def rkOf (R:List Int) (z:Bool) (row:List Int):Int:=row.foldl (rkStep R z) 0
def Bd (M:Int) (R:List Int):Prop:=∀ x∈R,-1≤x∧x≤M
theorem Bd.getD {M:Int} {R:List Int} (h:Bd M R) (hM:0≤M) (i:Nat) : -1≤R.getD i 0∧R.getD i 0≤M:=by
 by_cases hl:i < R.length
 ·rw [z13 hl];exact h _ (y40 _)
 ·rw [y64,y65 (by omega)];exact ⟨by show -1≤(0:Int);omega,hM⟩
theorem Bd.mono {M M' : Int} {R:List Int} (h:Bd M R) (hM:M≤M'):Bd M' R:=fun x hx=>by have:=h x hx;omega
theorem Bd.set {M:Int} {R:List Int} (h:Bd M R) {i:Nat} {v:Int} (hv : -1≤v∧v≤M):Bd M (R.set i v):=fun x hx=>by
 rcases List.mem_or_eq_of_mem_set hx with h1|rfl
 ·exact h x h1
 ·exact hv
def wtA (acc:List Bool) (u:Int):Int:=if acc.getD (u % acc.length).toNat false=true then 1 else 0
def Wt (rows:List (List Int)) (acc:List Bool):Nat→Int→Int
 |0,_=>0
 |k+1,u=>(rows.getD u.toNat []).foldl (fun o v=>max o (Wt rows acc k v+wtA acc u)) 0
theorem z424 (f:Int→Int):∀ (l:List Int) (o:Int),o≤l.foldl (fun o v=>max o (f v)) o∧∀ v∈l,f v≤l.foldl (fun o v=>max o (f v)) o
 |[],o=>⟨Int.le_refl _,by simp⟩
 |x::l,o=>by
  obtain ⟨h1,h2⟩:=z424 f l (max o (f x))
  rw [List.foldl_cons]
  refine ⟨by omega,fun v hv=>?_⟩
  rcases List.mem_cons.1 hv with rfl|hv
  ·omega
  ·exact h2 v hv
section
variable {rows:List (List Int)} {ini:List Int} {acc:List Bool}
theorem Wt_nn (k:Nat) (u:Int):0≤Wt rows acc k u:=by
 cases k with
 |zero=>exact Int.le_refl _
 |succ k=>rw [Wt];exact (z424 _ _ _).1
def IncW (rows:List (List Int)) (acc:List Bool) (k:Nat) (u:Int):Prop:=Wt rows acc k u < Wt rows acc (k+1) u
structure ChW (rows:List (List Int)) (acc:List Bool) (k:Nat) (c:Nat→Int):Prop where
 step:∀ i,i < k→c i∈rows.getD (c (i+1)).toNat []∧Wt rows acc (i+2) (c (i+1))=Wt rows acc (i+1) (c i)+wtA acc (c (i+1))
 inc:∀ i,i≤k→IncW rows acc i (c i)
theorem ChW.reach {k:Nat} {c:Nat→Int} (h:ChW rows acc k c) {i:Nat} : ∀ d,i+d≤k→RP rows [c (i+d)] (c i)
 |0,_=>.base (by simp)
 |d+1,hd=>RP.trans (.base (by simp [Nat.add_assoc])) (h.step (i+d) (by omega)).1 (h.reach d (by omega))
theorem ChW.flat {k:Nat} {c:Nat→Int} (h:ChW rows acc k c) {j:Nat} : ∀ d,j+d≤k→(∀ l,j < l→l≤j+d→wtA acc (c l)=0)→Wt rows acc (j+d+1) (c (j+d))=Wt rows acc (j+1) (c j)
 |0,_,_=>rfl
 |d+1,hd,hl=>by
  have h1:=(h.step (j+d) (by omega)).2
  have h2:=h.flat d (by omega) fun l h1 h2=>hl l h1 (by omega)
  have h3:=hl (j+d+1) (by omega) (by omega)
  have e:j+(d+1)=j+d+1:=by omega
  rw [e,h1,h3,h2];omega
end
theorem rkOf_eq (R:List Int) (z:Bool) (row:List Int):rkOf R z row=row.foldl (fun o v=>max o (R.getD v.toNat 0+if z=true then 1 else 0)) 0:=by
 unfold rkOf
 congr 1
 funext o v
 unfold rkStep
 split<;>omega
structure RkI (rows:List (List Int)) (ini:List Int) (acc:List Bool) (t:Nat) (R:List Int):Prop where
 len:R.length=rows.length
 lo:∀ u,RP rows ini u→Wt rows acc t u≤R.getD u.toNat 0
 hi:∀ u,RP rows ini u→R.getD u.toNat 0≤Wt rows acc (bfsL rows ini).length u
section
variable {rows:List (List Int)} {ini:List Int} {acc:List Bool}
def rkU (rows:List (List Int)) (acc:List Bool) (R:List Int) (u:Int):Int:=rkOf R (acc.getD (u % acc.length).toNat false) (rows.getD u.toNat [])
end
end Go.Gl
namespace Go.Gl
section
variable {rows:List (List Int)} {ini:List Int}
theorem z1119 {G:Int→Bool} {p q:List Int} (h:lasL rows ini G=some (p,q)):∃ v,v∈bfsL rows ini∧G v=true∧cycD rows v.toNat=true∧p=bkw (srP rows ini) rows.length v []∧q=cycL rows v:=by
 unfold lasL at h
 rw [Option.map_eq_some_iff] at h
 obtain ⟨v,hv,he⟩:=h
 have h1:=List.find?_some hv
 have h2:=List.mem_of_find?_eq_some hv
 obtain ⟨h3,h4⟩:=Bool.and_eq_true_iff.1 h1
 cases he
 exact ⟨v,h2,h3,h4,rfl,rfl⟩
theorem z734 {G:Int→Bool} : lasL rows ini G=none↔∀ v∈bfsL rows ini,¬ (G v=true∧cycD rows v.toNat=true):=by
 unfold lasL
 rw [Option.map_eq_none_iff,List.find?_eq_none]
 simp only [y67]
theorem lasL_bd (hr : ∀ r ∈ rows, InN rows.length r) (hi : InN rows.length ini) (hn : ini.Nodup) {G : Int → Bool} {p q : List Int} (h : lasL rows ini G = some (p, q)) :
    (∀ x∈p,0≤x∧x≤rows.length)∧(∀ x∈q,0≤x∧x≤rows.length)∧p.length≤rows.length+1∧q.length≤rows.length+1∧1≤p.length∧1≤q.length:=by
  obtain ⟨v,hv,_,hc,rfl,rfl⟩:=z1119 h
  have hvN:=z773 hr hi _ v hv
  have h1:=z679 (srP rows ini) rows.length v []
  refine ⟨fun x hx=>⟨z1172 _ _ _ hvN.1 (by simp) x hx,z1173 (srS_le hr hi hn rows.length) _ _ _ (by omega) (by omega) (by simp) x hx⟩,fun x hx=>⟨cycL_nn hr hvN x hx,cycL_le hr hvN x hx⟩,by rw [y55] at h1;omega,z933 _ _,z678 _ _ _ _,?_⟩
  have:=(z934 hr hvN).2 (by have:=z400.1 hc;rwa [Int.toNat_of_nonneg hvN.1] at this)
  omega
end
end Go.Gl
namespace Go.Gl
section
variable {rows:List (List Int)} {ini:List Int}
end
end Go.Gl
namespace Go.Gl
def negT (t:Tree):Tree:=if t.kind=3 then t.kids.getD 0 dftT else notT t
theorem Tree.counts_eq (l:List Tree) (d:Int):Tree.counts l d=(l.map fun t=>t.count d).sum:=by
 induction l with
 |nil=>simp [Tree.counts]
 |cons t l ih=>simp [Tree.counts,ih]
theorem Tree.count_def (t:Tree) (d:Int):t.count d=if 0 < d then 1+(t.kids.map fun t=>t.count (d - 1)).sum else 1:=by
 cases t with
 |mk k v l=>simp only [Tree.count,Tree.kids,Tree.counts_eq]
theorem z1106 (t:Tree):(negT t).sz≤t.sz+1:=by
 unfold negT
 split
 ·rw [y34 t]
  cases t.kids with
  |nil=>simp [dftT,z492]
  |cons a l=>simp;omega
 ·simp [notT,z362];omega
def z277:Nat→List (List Int)→List (List Int×Int)
 |_,[]=>[]
 |k,r::L=>(r,(k:Int))::z277 (k+1) L
theorem z586 (p:List Int):∀ (k:Nat) (L:List (List Int)),mget (z277 k L) p=if p∈L then some ((k+L.idxOf p:Nat):Int) else none
 |_,[]=>by simp [z277,mget]
 |k,r::L=>by
  rw [z277,mget]
  by_cases h:p=r
  ·subst h;simp
  ·rw [if_neg h,z586 p (k+1) L]
   by_cases h2:p∈L
   ·have h4:(r == p)=false:=by simpa using fun e=>h e.symm
    rw [if_pos h2,if_pos (y69 _ h2),List.idxOf_cons,h4]
    simp only [cond_false]
    congr 2;omega
   ·rw [if_neg h2,if_neg (by simp [h,h2])]
theorem z585 {p:List Int} (n:Int):∀ (k:Nat) (L:List (List Int)),p ∉ L→mput (z277 k L) p n=z277 k L++[(p,n)]
 |_,[],_=>rfl
 |k,r::L,h=>by
  rw [z277,mput,if_neg (fun e=>h (by simp [e])),z585 n (k+1) L (fun e=>h (y69 _ e))]
  rfl
theorem z757 (p:List Int):∀ (k:Nat) (L:List (List Int)),z277 k (L++[p])=z277 k L++[(p,((k+L.length:Nat):Int))]
 |_,[]=>by simp [z277]
 |k,r::L=>by
  rw [List.cons_append,z277,z277,z757 p (k+1) L,List.cons_append]
  congr 4
  simp;omega
def enP (r:List Int):List AC:=[.int (r.getD 0 0),.int (r.getD 1 0)]
def RowP (n:Nat) (U:List Int) (r:List Int):Prop:=∃ (s ph:Nat),r=[(s:Int),(ph:Int)]∧s < 2 ^ n∧(U.length=0∧ph=0∨ph < U.length)
theorem z900 {B:List Tree} {U:List Int} {s ph:Nat} (h:U.length=0∧ph=0∨ph < U.length):∃ q:Nat,(phB B U s ph).1=q∧(U.length=0∧q=0∨q < U.length):=by
 unfold phB
 by_cases h0:U.length=0
 ·rw [if_pos h0];exact ⟨0,rfl,.inl ⟨h0,rfl⟩⟩
 ·rw [if_neg h0]
  split
  ·refine ⟨(ph+1) % U.length,by simp,.inr (Nat.mod_lt _ (by omega))⟩
  ·exact ⟨ph,rfl,.inr (by omega)⟩
theorem z638 (L:List (List Int)) (p:List Int):L.length≤(z190 L p).length∧(z190 L p).length≤L.length+1∧z288 L p < (z190 L p).length:=by
 unfold z190 z288
 by_cases h:p∈L
 ·rw [if_pos h];exact ⟨y48 _,Nat.le_succ _,List.idxOf_lt_length_of_mem h⟩
 ·rw [if_neg h,List.idxOf_eq_length h];simp
theorem z1091 {L:List (List Int)} {p r:List Int} (h:r∈z190 L p):r∈L∨r=p:=by
 unfold z190 at h
 split at h
 ·exact .inl h
 ·rcases List.mem_append.1 h with h|h
  ·exact .inl h
  ·exact .inr (List.mem_singleton.1 h)
def EdP (B:List Tree) (n:Nat) (e:Edg):Prop:=(0≤e.src∧e.src < n)∧(0≤e.dst∧e.dst < n)∧∃ s,e.care=((letB B s).1:Int)∧e.val=((letB B s).2:Int)
theorem EdP.mono {B:List Tree} {n m:Nat} {e:Edg} (h:EdP B n e) (hm:n≤m):EdP B m e:=⟨by have:=h.1;omega,by have:=h.2.1;omega,h.2.2⟩
structure ExI (B:List Tree) (U:List Int) (n0 i:Nat) (x:TrS):Prop where
 rows:∀ r∈x.L,RowP B.length U r
 base:n0≤x.L.length
 acc:x.acc.length=i
 le:i≤x.L.length
 edl:x.ed.length≤i * 2 ^ B.length
 ln:x.L.length≤n0+i * 2 ^ B.length
 ed:∀ e∈x.ed,EdP B x.L.length e
theorem z930 {B : List Tree} {U : List Int} {s : Int} {q i : Nat} (hq : U.length = 0 ∧ q = 0 ∨ q < U.length) : ∀ (l : List Nat) (y : List (List Int) × List Edg), (∀ t ∈ l, t < 2 ^ B.length) → (∀ r ∈ y.1, RowP B.length U r) → i < y.1.length → (∀ e ∈ y.2, EdP B y.1.length e) →
  (∀ r∈(l.foldl (z117 B s q i (letB B s).1 (letB B s).2) y).1,RowP B.length U r)∧y.1.length≤(l.foldl (z117 B s q i (letB B s).1 (letB B s).2) y).1.length∧(l.foldl (z117 B s q i (letB B s).1 (letB B s).2) y).1.length≤y.1.length+l.length ∧
  (l.foldl (z117 B s q i (letB B s).1 (letB B s).2) y).2.length≤y.2.length+l.length∧∀ e∈(l.foldl (z117 B s q i (letB B s).1 (letB B s).2) y).2,EdP B (l.foldl (z117 B s q i (letB B s).1 (letB B s).2) y).1.length e
 |[],y,_,h1,_,h2=>⟨h1,y48 _,y48 _,y48 _,h2⟩
 |t::l,y,hl,h1,hi,h2=>by
  rw [List.foldl_cons,y54]
  have hst : (∀ r ∈ (z117 B s q i (letB B s).1 (letB B s).2 y t).1, RowP B.length U r) ∧ y.1.length ≤ (z117 B s q i (letB B s).1 (letB B s).2 y t).1.length ∧ (z117 B s q i (letB B s).1 (letB B s).2 y t).1.length ≤ y.1.length + 1 ∧
    (z117 B s q i (letB B s).1 (letB B s).2 y t).2.length≤y.2.length+1∧∀ e∈(z117 B s q i (letB B s).1 (letB B s).2 y t).2,EdP B (z117 B s q i (letB B s).1 (letB B s).2 y t).1.length e:=by
   unfold z117
   split
   ·obtain ⟨p1,p2,p3⟩:=z638 y.1 [(t:Int),(q:Int)]
    refine ⟨fun r hr=>?_,p1,p2,by simp,fun e he=>?_⟩
    ·rcases z1091 hr with h|h
     ·exact h1 r h
     ·rw [h];exact ⟨t,q,rfl,hl t (by simp),hq⟩
    ·rcases List.mem_append.1 he with h|h
     ·exact (h2 e h).mono p1
     ·rw [List.mem_singleton.1 h]
      refine ⟨⟨?_,?_⟩,⟨?_,?_⟩,s,rfl,rfl⟩
      ·show (0:Int)≤(i:Int);omega
      ·show (i:Int) < ((z190 y.1 [(t:Int),(q:Int)]).length:Int);omega
      ·show (0:Int)≤(z288 y.1 [(t:Int),(q:Int)]:Int);omega
      ·show (z288 y.1 [(t:Int),(q:Int)]:Int) < ((z190 y.1 [(t:Int),(q:Int)]).length:Int);omega
   ·exact ⟨h1,y48 _,by omega,by omega,h2⟩
  obtain ⟨a1,a2,a3,a4,a5⟩:=hst
  have hi2:i < (z117 B s q i (letB B s).1 (letB B s).2 y t).1.length:=by omega
  obtain ⟨b1,b2,b3,b4,b5⟩:=z930 hq l (z117 B s q i (letB B s).1 (letB B s).2 y t) (fun x hx=>hl x (y69 _ hx)) a1 hi2 a5
  exact ⟨b1,by omega,by omega,by omega,b5⟩
theorem ExI.step {B:List Tree} {U:List Int} {n0 i:Nat} {x:TrS} (h:ExI B U n0 i x) (hi:i < x.L.length):ExI B U n0 (i+1) (z217 B U i x)∧x.L.length≤(z217 B U i x).L.length:=by
 obtain ⟨s,ph,er,hs,hp⟩:=h.rows (x.L.getD i []) (by rw [z13 hi];exact y40 _)
 obtain ⟨q,eq,hq⟩:=z900 (B:=B) (s:=s) hp
 have e:z217 B U i x=⟨((List.range (2 ^ B.length)).foldl (z117 B s q i (letB B s).1 (letB B s).2) (x.L,x.ed)).1,x.acc++[(phB B U s ph).2],((List.range (2 ^ B.length)).foldl (z117 B s q i (letB B s).1 (letB B s).2) (x.L,x.ed)).2⟩:=by
  unfold z217
  dsimp only
  rw [er,← eq];rfl
 have hf:=z930 (B:=B) (U:=U) (s:=(s:Int)) (i:=i) hq (List.range (2 ^ B.length)) (x.L,x.ed) (fun t ht=>List.mem_range.1 ht) h.rows hi h.ed
 rw [e]
 generalize (List.range (2 ^ B.length)).foldl (z117 B s q i (letB B s).1 (letB B s).2) (x.L,x.ed)=y at *
 rw [List.length_range] at hf
 dsimp only at hf
 obtain ⟨a1,a2,a3,a4,a5⟩:=hf
 have h1:=h.base;have h2:=h.acc;have h3:=h.edl;have h4:=h.ln
 refine ⟨⟨a1,?_,?_,?_,?_,?_,a5⟩,a2⟩
 ·show n0≤y.1.length;omega
 ·show (x.acc++[_]).length=i+1;simp [h2]
 ·show i+1≤y.1.length;omega
 ·show y.2.length≤(i+1) * 2 ^ B.length;rw [Nat.add_mul];omega
 ·show y.1.length≤n0+(i+1) * 2 ^ B.length;rw [Nat.add_mul];omega
theorem z1093 {c a m:Nat} (h:a &&& c=a):(a ||| m) &&& (c ||| m)=a ||| m∧a &&& (c ||| m)=a:=by
 have hb:∀ i,(a.testBit i && c.testBit i)=a.testBit i:=fun i=>by have:=congrArg (fun x=>x.testBit i) h;simpa [Nat.testBit_and] using this
 constructor
 ·apply Nat.eq_of_testBit_eq
  intro i
  have:=hb i
  simp only [Nat.testBit_and,Nat.testBit_or]
  cases ha:a.testBit i<;>cases hc:c.testBit i<;>cases hm:m.testBit i<;>simp_all
 ·apply Nat.eq_of_testBit_eq
  intro i
  have:=hb i
  simp only [Nat.testBit_and,Nat.testBit_or]
  cases ha:a.testBit i<;>cases hc:c.testBit i<;>cases hm:m.testBit i<;>simp_all
theorem letB_sub (B:List Tree) (s:Int):(letB B s).2 &&& (letB B s).1=(letB B s).2:=by
 have:∀ n:Nat,((List.range n).foldl (atoI B s) (0,0)).2 &&& ((List.range n).foldl (atoI B s) (0,0)).1=((List.range n).foldl (atoI B s) (0,0)).2:=by
  intro n
  induction n with
  |zero=>show (0:Nat) &&& 0=0;rfl
  |succ n ih =>
   rw [y58,y59]
   show (atoI B s _ n).2 &&& (atoI B s _ n).1=(atoI B s _ n).2
   generalize (List.range n).foldl (atoI B s) (0,0)=p at *
   unfold atoI
   split
   ·dsimp only
    split
    ·exact (z1093 ih).1
    ·exact (z1093 ih).2
   ·exact ih
 exact this _
theorem Tree.count_sz (t:Tree):∀ d:Int,t.shapeF d=true→t.count d=1+(t.sz:Int):=by
 induction t using y25 with|h t ih=>?_
 intro d hs
 rw [y28] at hs
 rw [Tree.count_def,if_pos (by omega),y34]
 have key:∀ l:List Tree,(∀ u∈l,u.count (d - 1)=1+(u.sz:Int))→(l.map fun t=>t.count (d - 1)).sum=(l.length:Int)+((l.map Tree.sz).sum:Nat):=by
  intro l
  induction l with
  |nil=>intro _;rfl
  |cons a l ihl =>
   intro h
   have h1:=h a (by simp)
   have h2:=ihl fun u hu=>h u (by simp [hu])
   simp only [List.map_cons,List.sum_cons,y54]
   rw [h1,h2];omega
 rw [key t.kids fun u hu=>ih u hu (d - 1) (hs.2 u hu)]
 omega
theorem fm_sz {t:Tree} (h:t.fmB=true):t.sz≤11:=by
 rw [y19,y67,decide_eq_true_eq] at h
 have:=Tree.count_sz t 6 h.1
 omega
end Go.Gl
namespace Go.Gl
open Go.RowKit Go.WideShapes Go.ChangeShapes
variable {P:Program}
def OpensD {α:Type} (P:Program) (t:TypeId) (enc:α→List AC) (ok:α→Prop):Prop:=∀ k,Opens P t (fun xs=>∃ a,xs=enc a∧ok a) k
theorem od_byte {t:TypeId} (ht:P.underlying t=some (.int .u8)) {enc:Int→List AC} (he:∀ n,enc n=[.raw (.int .u8 n)]):OpensD P t enc (fun n=>(Lit.int .u8 n).wf=true):=fun k =>
 (z1095 ht k).imp fun xs ⟨n,h1,h2⟩=>⟨n,h1.trans (he n).symm,h2⟩
theorem z603 {α:Type} {enc:α→List AC} {ok:α→Prop} : (es:List (List AC))→(∀ y∈es,∃ a,y=enc a∧ok a)→∃ l:List α,es=l.map enc∧∀ a∈l,ok a
 |[],_=>⟨[],rfl,fun _ h=>by cases h⟩
 |e::es,h=>by
  obtain ⟨a,h1,h2⟩:=h e (by simp)
  obtain ⟨l,h3,h4⟩:=z603 es fun y hy=>h y (by simp [hy])
  exact ⟨a::l,by rw [h1,h3];rfl,fun b hb=>by
   rcases List.mem_cons.1 hb with rfl|hb
   ·exact h2
   ·exact h4 b hb⟩
theorem z975 {α : Type} {t e : TypeId} {enc : α → List AC} {ok : α → Prop} {n k : Nat} (ht : P.underlying t = some (.slice e)) (hc : P.cellsOf e = n) (hn : 0 < n) (h : Opens P e (fun xs => ∃ a, xs = enc a ∧ ok a) k) :
    Opens P t (fun xs=>∃ l:List α,xs=[.list n l.length (l.map enc)]∧l.length≤maxLen∧∀ a∈l,ok a) (k+1) :=
  (z830 ht hc hn h).imp fun xs ⟨es,h1,h2,h3⟩=>by
    obtain ⟨l,rfl,h4⟩:=z603 es h3
    exact ⟨l,by rw [h1];simp,by simpa using h2,h4⟩
theorem od_list {α : Type} {t e : TypeId} {enc : α → List AC} {ok : α → Prop} (n : Nat) (ht : P.underlying t = some (.slice e)) (hc : P.cellsOf e = n) (hn : 0 < n) (h : OpensD P e enc ok) {encL : List α → List AC} (he : ∀ l, encL l = [.list n l.length (l.map enc)]) :
    OpensD P t encL (fun l=>l.length≤maxLen∧∀ a∈l,ok a)
  | 0=>z974
  | k+1=>(z975 ht hc hn (h k)).imp fun xs ⟨l,h1,h2⟩=>⟨l,h1.trans (he l).symm,h2⟩
theorem OpensD.imp {α β:Type} {t:TypeId} {enc:α→List AC} {ok:α→Prop} {enc' : β→List AC} {ok' : β→Prop} (h:OpensD P t enc ok) (hi:∀ a,ok a→∃ b,enc a=enc' b∧ok' b):OpensD P t enc' ok':=fun k =>
 (h k).imp fun xs ⟨a,h1,h2⟩=>by
  obtain ⟨b,h3,h4⟩:=hi a h2
  exact ⟨b,h1.trans h3,h4⟩
def ArgD {α:Type} (P:Program) (t:TypeId) (enc:α→AC) (ok:α→Prop):Prop:=ArgOk P t fun x _=>∃ a,x=enc a∧ok a
theorem ArgOk.imp {t:TypeId} {R R' : AC→Nat→Prop} (h:ArgOk P t R) (hi:∀ x m,R x m→R' x m):ArgOk P t R':=fun H enc b hB W r b0 v d ps hv hk=>by
 obtain ⟨x,m,h1,h2⟩:=h H enc b hB W r b0 v d ps hv hk
 exact ⟨x,m,hi _ _ h1,h2⟩
theorem z1181 {α:Type} {t e:TypeId} {enc:α→List AC} {ok:α→Prop} {enc1:α→AC} (ht:P.underlying t=some (.slice e)) (h:OpensD P t enc ok) (he:∀ a,enc a=[enc1 a]):ArgD P t enc1 ok :=
 (z873 ht h).imp fun x m ⟨⟨a,h1,h2⟩,_⟩=>⟨a,by rw [he] at h1;exact (List.cons.inj h1).1,h2⟩
theorem ArgD.imp {α β:Type} {t:TypeId} {enc:α→AC} {ok:α→Prop} {enc' : β→AC} {ok' : β→Prop} (h:ArgD P t enc ok) (hi:∀ a,ok a→∃ b,enc a=enc' b∧ok' b):ArgD P t enc' ok' :=
 ArgOk.imp h fun x m ⟨a,h1,h2⟩=>by
  obtain ⟨b,h3,h4⟩:=hi a h2
  exact ⟨b,h1.trans h3,h4⟩
theorem ArgsOk.imp : {ts:List TypeId}→{R R' : List AC→Nat→Prop}→ArgsOk P ts R→(∀ xs m,R xs m→R' xs m)→ArgsOk P ts R'
 |[],_,_,h,hi=>hi _ _ h
 |_::_,_,_,⟨R1,R2,h1,h2,h3⟩,hi=>⟨R1,R2,h1,h2,fun a m as n ha has=>hi _ _ (h3 a m as n ha has)⟩
theorem args_nil:ArgsOk P [] (fun xs _=>xs=[]):=rfl
theorem z776 {α:Type} {t:TypeId} {ts:List TypeId} {enc:α→AC} {ok:α→Prop} {R:List AC→Prop} (h:ArgD P t enc ok) (k:ArgsOk P ts (fun xs _=>R xs)):ArgsOk P (t::ts) (fun xs _=>∃ a ys,xs=enc a::ys∧ok a∧R ys) :=
 ⟨_,_,h,k,fun _ _ as _ ⟨b,h1,h2⟩ h3=>⟨b,as,by rw [h1],h2,h3⟩⟩
theorem z302 {H:Type} : (l:List (DataW H))→z538 SizeOf.sizeOf l+1≤SizeOf.sizeOf l
 |[]=>by simp [z538]
 |d::r=>by
  have:=z302 r
  simp only [z538,List.cons.sizeOf_spec]
  omega
theorem z864 {H:Type} : Bulk (H:=H) SizeOf.sizeOf where
 lit l:=by simp only [DataW.lit.sizeOf_spec];omega
 nil:=by simp
 slice es sp:=by
  have:=z302 es
  simp only [DataW.slice.sizeOf_spec];omega
 agg ps:=by
  have:=z302 ps
  simp only [DataW.agg.sizeOf_spec];omega
end Go.Gl
namespace Go.Gl
section
variable {rows:List (List Int)} {ini:List Int} {acc:List Bool}
def GrowR (rows:List (List Int)) (ini:List Int) (acc:List Bool) (R:List Int):Prop:=∀ u,RP rows ini u→R.getD u.toNat 0≤rkU rows acc R u
structure RoundI (rows:List (List Int)) (ini:List Int) (acc:List Bool) (t:Nat) (R:List Int) (c:Bool):Prop where
 rk:RkI rows ini acc t R
 gr:GrowR rows ini acc R
 off:∀ j:Nat,¬ RP rows ini j→R.getD j 0=0
 fin:c=false→∀ u,RP rows ini u→R.getD u.toNat 0=Wt rows acc (bfsL rows ini).length u
 lt:c=true→t≤(bfsL rows ini).length
theorem RoundI.init (hr:∀ r∈rows,InN rows.length r) (hin:InN rows.length ini):RoundI rows ini acc 0 (List.replicate rows.length 0) true:=by
 have h0:∀ j:Nat,(List.replicate rows.length (0:Int)).getD j 0=0:=fun j=>by
  rw [y64,List.getElem?_replicate];split<;>rfl
 refine ⟨⟨by simp,fun u hu=>by rw [h0];exact Int.le_refl _,fun u hu=>by rw [h0];exact Wt_nn _ _⟩,fun u hu=>?_,fun j _=>h0 j,(fun h=>by cases h),fun _=>y49 _⟩
 rw [h0]
 unfold rkU
 rw [rkOf_eq]
 exact (z424 _ _ _).1
end
end Go.Gl
namespace Go.Gl
def rowS (L:List (List Int)) (k:Nat):Int:=(L.getD k []).getD 0 0
def rowQ (L:List (List Int)) (k:Nat):Int:=(L.getD k []).getD 1 0
def EdX (B:List Tree) (U:List Int) (L:List (List Int)) (e:Edg) (k t:Nat):Prop :=
 e.src=(k:Int)∧e.care=((letB B (rowS L k)).1:Int)∧e.val=((letB B (rowS L k)).2:Int)∧∃ j:Nat,e.dst=j∧j < L.length∧L.getD j []=[(t:Int),(phB B U (rowS L k) (rowQ L k)).1]
theorem z224 {α:Type} {L suf:List α} {k:Nat} {d:α} (h:k < L.length):(L++suf).getD k d=L.getD k d:=by
 rw [y64,y64,y62 h]
theorem EdX.pre {B:List Tree} {U:List Int} {L suf:List (List Int)} {e:Edg} {k t:Nat} (hk:k < L.length) (h:EdX B U L e k t):EdX B U (L++suf) e k t:=by
 unfold EdX rowS rowQ at *
 rw [z224 hk]
 obtain ⟨h1,h2,h3,j,h4,h5,h6⟩:=h
 exact ⟨h1,h2,h3,j,h4,by simp;omega,by rw [z224 h5];exact h6⟩
theorem z1090 (L:List (List Int)) (p:List Int):(∃ suf,z190 L p=L++suf)∧(z190 L p).getD (z288 L p) []=p:=by
 unfold z190 z288
 by_cases h:p∈L
 ·rw [if_pos h]
  refine ⟨⟨[],by simp⟩,?_⟩
  rw [z13 (List.idxOf_lt_length_of_mem h)]
  exact List.getElem_idxOf _
 ·rw [if_neg h,List.idxOf_eq_length h]
  exact ⟨⟨[p],rfl⟩,by simp [y64]⟩
theorem z1151 {B : List Tree} {U : List Int} {s p : Int} {q : Int} {i : Nat} (hq : (phB B U s p).1 = q) : ∀ (l : List Nat) (y : List (List Int) × List Edg), i < y.1.length → rowS y.1 i = s → rowQ y.1 i = p →
  (∃ suf,(l.foldl (z117 B s q i (letB B s).1 (letB B s).2) y).1=y.1++suf)∧(∀ e∈y.2,e∈(l.foldl (z117 B s q i (letB B s).1 (letB B s).2) y).2) ∧
  (∀ e∈(l.foldl (z117 B s q i (letB B s).1 (letB B s).2) y).2,e∈y.2∨∃ t∈l,folB B s t=true∧EdX B U (l.foldl (z117 B s q i (letB B s).1 (letB B s).2) y).1 e i t) ∧
  (∀ t∈l,folB B s t=true→∃ e∈(l.foldl (z117 B s q i (letB B s).1 (letB B s).2) y).2,EdX B U (l.foldl (z117 B s q i (letB B s).1 (letB B s).2) y).1 e i t)
 |[],y,_,_,_=>⟨⟨[],by simp⟩,fun _ h=>h,fun _ h=>.inl h,fun _ h=>by cases h⟩
 |t::l,y,hi,h1,h2=>by
  rw [List.foldl_cons]
  by_cases hf:folB B s t=true
  ·have he:z117 B s q i (letB B s).1 (letB B s).2 y t=(z190 y.1 [(t:Int),q],y.2++[⟨i,(letB B s).1,(letB B s).2,z288 y.1 [(t:Int),q]⟩]):=if_pos hf
   obtain ⟨⟨suf,hs⟩,hg⟩:=z1090 y.1 [(t:Int),q]
   have hlt:=(z638 y.1 [(t:Int),q]).2.2
   rw [he]
   have hi2:i < (z190 y.1 [(t:Int),q]).length:=by rw [hs];simp;omega
   have r1:rowS (z190 y.1 [(t:Int),q]) i=s:=by unfold rowS;rw [hs,z224 hi];exact h1
   have r2:rowQ (z190 y.1 [(t:Int),q]) i=p:=by unfold rowQ;rw [hs,z224 hi];exact h2
   obtain ⟨⟨suf2,a1⟩,a2,a3,a4⟩:=z1151 hq l (z190 y.1 [(t:Int),q],y.2++[⟨i,(letB B s).1,(letB B s).2,z288 y.1 [(t:Int),q]⟩]) hi2 r1 r2
   have hx:EdX B U (z190 y.1 [(t:Int),q]) ⟨i,(letB B s).1,(letB B s).2,z288 y.1 [(t:Int),q]⟩ i t:=by
    refine ⟨rfl,by rw [r1],by rw [r1],z288 y.1 [(t:Int),q],rfl,hlt,?_⟩
    rw [r1,r2,hq];exact hg
   have hx2:=EdX.pre (suf:=suf2) hi2 hx
   rw [← a1] at hx2
   refine ⟨⟨suf++suf2,by rw [a1,hs,List.append_assoc]⟩,fun e h=>a2 e (List.mem_append.2 (.inl h)),fun e h=>?_,fun u hu hfu=>?_⟩
   ·rcases a3 e h with h|⟨u,hu,hfu,hxu⟩
    ·rcases List.mem_append.1 h with h|h
     ·exact .inl h
     ·rw [List.mem_singleton.1 h]
      exact .inr ⟨t,by simp,hf,hx2⟩
    ·exact .inr ⟨u,y69 _ hu,hfu,hxu⟩
   ·rcases List.mem_cons.1 hu with rfl|hu
    ·exact ⟨_,a2 _ (List.mem_append.2 (.inr (List.mem_singleton.2 rfl))),hx2⟩
    ·exact a4 u hu hfu
  ·have he:z117 B s q i (letB B s).1 (letB B s).2 y t=y:=if_neg hf
   rw [he]
   obtain ⟨a1,a2,a3,a4⟩:=z1151 hq l y hi h1 h2
   refine ⟨a1,a2,fun e h=>(a3 e h).imp id fun ⟨u,hu,h⟩=>⟨u,y69 _ hu,h⟩,fun u hu hfu=>?_⟩
   rcases List.mem_cons.1 hu with rfl|hu
   ·exact absurd hfu hf
   ·exact a4 u hu hfu
structure TInv (B:List Tree) (U:List Int) (i:Nat) (x:TrS):Prop where
 le:i≤x.L.length
 e1:∀ e∈x.ed,∃ k t:Nat,k < i∧t < 2 ^ B.length∧folB B (rowS x.L k) t=true∧EdX B U x.L e k t
 e2:∀ k t:Nat,k < i→t < 2 ^ B.length→folB B (rowS x.L k) t=true→∃ e∈x.ed,EdX B U x.L e k t
 al:x.acc.length=i
 ac:∀ k,k < i→x.acc.getD k false=(phB B U (rowS x.L k) (rowQ x.L k)).2
theorem TInv.step {B:List Tree} {U:List Int} {i:Nat} {x:TrS} (h:TInv B U i x) (hi:i < x.L.length):TInv B U (i+1) (z217 B U i x)∧∃ suf,(z217 B U i x).L=x.L++suf:=by
 have e:z217 B U i x=⟨((List.range (2 ^ B.length)).foldl (z117 B (rowS x.L i) (phB B U (rowS x.L i) (rowQ x.L i)).1 i (letB B (rowS x.L i)).1 (letB B (rowS x.L i)).2) (x.L,x.ed)).1,x.acc++[(phB B U (rowS x.L i) (rowQ x.L i)).2],((List.range (2 ^ B.length)).foldl (z117 B (rowS x.L i) (phB B U (rowS x.L i) (rowQ x.L i)).1 i (letB B (rowS x.L i)).1 (letB B (rowS x.L i)).2) (x.L,x.ed)).2⟩:=rfl
 have hx:=z1151 (B:=B) (U:=U) (s:=rowS x.L i) (p:=rowQ x.L i) (i:=i) rfl (List.range (2 ^ B.length)) (x.L,x.ed) hi rfl rfl
 rw [e]
 generalize (List.range (2 ^ B.length)).foldl (z117 B (rowS x.L i) (phB B U (rowS x.L i) (rowQ x.L i)).1 i (letB B (rowS x.L i)).1 (letB B (rowS x.L i)).2) (x.L,x.ed)=y at *
 obtain ⟨⟨suf,a1⟩,a2,a3,a4⟩:=hx
 dsimp only at a1 a2 a3 a4
 have hrow:∀ k,k < x.L.length→rowS y.1 k=rowS x.L k∧rowQ y.1 k=rowQ x.L k:=fun k hk=>by
  unfold rowS rowQ;rw [a1,z224 hk];exact ⟨rfl,rfl⟩
 have hle:=h.le
 refine ⟨⟨?_,?_,?_,?_,?_⟩,suf,a1⟩
 ·show i+1≤y.1.length;rw [a1];simp;omega
 ·intro e he
  rcases a3 e he with h1|⟨t,ht,hf,hx⟩
  ·obtain ⟨k,t,hk,ht,hf,hx⟩:=h.e1 e h1
   refine ⟨k,t,by omega,ht,?_,?_⟩
   ·show folB B (rowS y.1 k) t=true;rw [(hrow k (by omega)).1];exact hf
   ·show EdX B U y.1 e k t;rw [a1];exact hx.pre (by omega)
  ·exact ⟨i,t,by omega,List.mem_range.1 ht,by show folB B (rowS y.1 i) t=true;rw [(hrow i hi).1];exact hf,hx⟩
 ·intro k t hk ht hf
  change folB B (rowS y.1 k) t=true at hf
  by_cases hki:k=i
  ·subst hki
   rw [(hrow k hi).1] at hf
   exact a4 t (List.mem_range.2 ht) hf
  ·rw [(hrow k (by omega)).1] at hf
   obtain ⟨e,he,hx⟩:=h.e2 k t (by omega) ht hf
   exact ⟨e,a2 e he,by show EdX B U y.1 e k t;rw [a1];exact hx.pre (by omega)⟩
 ·show (x.acc++[_]).length=i+1;simp [h.al]
 ·intro k hk
  show (x.acc++[_]).getD k false=(phB B U (rowS y.1 k) (rowQ y.1 k)).2
  by_cases hki:k=i
  ·subst hki
   rw [(hrow k hi).1,(hrow k hi).2,y64,y63 (by rw [h.al];exact y48 _),h.al]
   simp
  ·rw [(hrow k (by omega)).1,(hrow k (by omega)).2,z224 (by rw [h.al];omega)]
   exact h.ac k (by omega)
theorem goS_T {B:List Tree} {U:List Int} : ∀ (f i:Nat) (x y:TrS),TInv B U i x→goS B U f i x=some y→TInv B U y.L.length y∧∃ suf,y.L=x.L++suf
 |0,i,x,y,_,h=>by simp [goS] at h
 |f+1,i,x,y,hI,h=>by
  rw [goS] at h
  split at h
  ·rename_i hi
   split at h
   ·cases h
   ·obtain ⟨h1,suf,h2⟩:=hI.step hi
    obtain ⟨h3,suf2,h4⟩:=goS_T f (i+1) _ y h1 h
    exact ⟨h3,suf++suf2,by rw [h4,h2,List.append_assoc]⟩
  ·cases h
   have:i=x.L.length:=by have:=hI.le;omega
   rw [this] at hI
   exact ⟨hI,[],by simp⟩
theorem trS_T {B:List Tree} {g:Tree} {y:TrS} (h:trS B g=some y):TInv B (untB B) y.L.length y∧∃ suf,y.L=iniS B g++suf :=
 goS_T 65 0 ⟨iniS B g,[],[]⟩ y ⟨y49 _,fun e he=>by (cases he),fun k t hk=>absurd hk (Nat.not_lt_zero _),rfl,fun k hk=>absurd hk (Nat.not_lt_zero _)⟩ h
theorem z476 (n i:Nat):hasB (n:Int) (i:Int)=n.testBit i:=by
 unfold hasB
 rw [Nat.testBit_eq_decide_div_mod_eq]
 have e:((n:Int) / 2 ^ ((i:Int).toNat)).toNat=n / 2 ^ i:=by
  rw [y73]
  have:((n:Int) / 2 ^ i)=((n / 2 ^ i:Nat):Int):=by norm_cast
  rw [this,y73]
 rw [e,show (1:Int).toNat=1 from rfl,Nat.and_one_is_mod,decide_eq_decide]
 omega
theorem z1175 (f:Nat→Bool):∀ n:Nat,∃ s,s < 2 ^ n∧∀ i,i < n→s.testBit i=f i
 |0=>⟨0,by simp,fun i h=>by omega⟩
 |n+1=>by
  obtain ⟨s,h1,h2⟩:=z1175 f n
  have hp:2 ^ (n+1)=2 ^ n+2 ^ n:=by rw [Nat.pow_succ];omega
  cases hf:f n with
  |false =>
   refine ⟨s,by omega,fun i hi=>?_⟩
   rcases y66 i n with h|h
   ·exact h2 i h
   ·obtain rfl:i=n:=by omega
    rw [hf];exact Nat.testBit_lt_two_pow h1
  |true =>
   refine ⟨2 ^ n+s,by omega,fun i hi=>?_⟩
   rcases y66 i n with h|h
   ·rw [Nat.testBit_two_pow_add_gt h];exact h2 i h
   ·obtain rfl:i=n:=by omega
    rw [Nat.testBit_two_pow_add_eq,Nat.testBit_lt_two_pow h1,hf];rfl
structure BOk (B:List Tree):Prop where
 nd:B.Nodup
 cl:∀ x∈B,In (·∈B) x
 bk:∀ x∈B,z107 x=true
 av:∀ v,Tree.mk 2 v []∈B→0≤v∧v≤2
section
variable {B:List Tree}
theorem BOk.at_ (hB:BOk B) {x:Tree} (hx:x∈B) (hk:x.kind=2):∃ b:Nat,x=.mk 2 (b:Int) []:=by
 cases hB.cl x hx with
 |«at» v hv=>exact ⟨v.toNat,by have:=hB.av v hv;rw [Int.toNat_of_nonneg this.1]⟩
 |tr=>simp [Tree.kind] at hk
 |nt=>simp [Tree.kind] at hk
 |na v _=>simp [Tree.kind] at hk
 |an _ _=>simp [Tree.kind] at hk
 |or _ _=>simp [Tree.kind] at hk
 |nx _ _=>simp [Tree.kind] at hk
 |un _ _ _=>simp [Tree.kind] at hk
 |re _ _ _=>simp [Tree.kind] at hk
theorem z1116 (B : List Tree) (s : Int) (n : Nat) : (∀ b, ((List.range n).foldl (atoI B s) (0, 0)).1.testBit b = true ↔ ∃ i, i < n ∧ (B.getD i dftT).kind = 2 ∧ (B.getD i dftT).val.toNat = b) ∧
  (∀ b,((List.range n).foldl (atoI B s) (0,0)).2.testBit b=true↔∃ i,i < n∧(B.getD i dftT).kind=2∧(B.getD i dftT).val.toNat=b∧hasB s i=true):=by
 induction n with
 |zero=>simp
 |succ n ih =>
  rw [y58,y59]
  simp only [List.foldl_cons,List.foldl_nil]
  generalize (List.range n).foldl (atoI B s) (0,0)=p at *
  have key:∀ (P:Nat→Prop),(∃ i,i < n+1∧P i)↔(∃ i,i < n∧P i)∨P n:=fun P=>by
   constructor
   ·rintro ⟨i,h1,h2⟩
    rcases y66 i n with h|h
    ·exact .inl ⟨i,h,h2⟩
    ·obtain rfl:i=n:=by omega
     exact .inr h2
   ·rintro (⟨i,h1,h2⟩|h)
    ·exact ⟨i,by omega,h2⟩
    ·exact ⟨n,by omega,h⟩
  have k1:=fun b=>key fun i=>(B.getD i dftT).kind=2∧(B.getD i dftT).val.toNat=b
  have k2:=fun b=>key fun i=>(B.getD i dftT).kind=2∧(B.getD i dftT).val.toNat=b∧hasB s i=true
  constructor
  ·intro b
   rw [k1,← ih.1 b]
   unfold atoI
   generalize B.getD n dftT=f
   by_cases hk:f.kind=2
   ·rw [if_pos hk,Nat.testBit_or,Nat.testBit_two_pow]
    simp [hk]
   ·rw [if_neg hk];simp [hk]
  ·intro b
   rw [k2,← ih.2 b]
   unfold atoI
   generalize B.getD n dftT=f
   by_cases hk:f.kind=2
   ·rw [if_pos hk]
    by_cases hh:hasB s n=true
    ·simp only [hh,if_true]
     rw [Nat.testBit_or,Nat.testBit_two_pow]
     simp [hk]
    ·simp only [hh]
     simp
   ·rw [if_neg hk];simp [hk]
theorem z1115 (hB:BOk B) (s w:Int) (hw:0≤w):(w.toNat &&& (letB B s).1=(letB B s).2)↔∀ i,i < B.length→∀ v,B.getD i dftT=.mk 2 v []→hasB w v=hasB s i:=by
 obtain ⟨b1,b2⟩:=z1116 B s B.length
 obtain ⟨W,rfl⟩:=Int.eq_ofNat_of_zero_le hw
 have h1:∀ b,(letB B s).1.testBit b=true↔∃ i,i < B.length∧(B.getD i dftT).kind=2∧(B.getD i dftT).val.toNat=b:=b1
 have h2:∀ b,(letB B s).2.testBit b=true↔∃ i,i < B.length∧(B.getD i dftT).kind=2∧(B.getD i dftT).val.toNat=b∧hasB s i=true:=b2
 have hat:∀ i,i < B.length→(B.getD i dftT).kind=2→∃ b:Nat,B.getD i dftT=.mk 2 (b:Int) []:=fun i hi hk=>hB.at_ (by rw [z13 hi];exact y40 _) hk
 have huni:∀ i j,i < B.length→j < B.length→(B.getD i dftT).kind=2→(B.getD j dftT).kind=2→(B.getD i dftT).val.toNat=(B.getD j dftT).val.toNat→i=j:=fun i j hi hj k1 k2 e=>by
  obtain ⟨b,e1⟩:=hat i hi k1
  obtain ⟨c,e2⟩:=hat j hj k2
  rw [e1,e2] at e
  simp only [Tree.val,y73] at e
  have e3:B[i]=B[j]:=by rw [← z13 (d:=dftT) hi,← z13 (d:=dftT) hj,e1,e2,e]
  have hp:=List.pairwise_iff_getElem.1 (List.nodup_iff_pairwise_ne.1 hB.nd)
  rcases Nat.lt_trichotomy i j with h|h|h
  ·exact absurd e3 (hp i j hi hj h)
  ·exact h
  ·exact absurd e3.symm (hp j i hj hi h)
 rw [y73]
 constructor
 ·intro he i hi v hv
  obtain ⟨b,e1⟩:=hat i hi (by rw [hv];rfl)
  have ev:v=(b:Int):=by rw [hv] at e1;cases e1;rfl
  subst ev
  rw [z476]
  have hb:=congrArg (fun x=>x.testBit b) he
  simp only [Nat.testBit_and] at hb
  have c1:(letB B s).1.testBit b=true:=(h1 b).2 ⟨i,hi,by rw [hv];rfl,by rw [hv];simp [Tree.val]⟩
  rw [c1,Bool.and_true] at hb
  rw [hb,Bool.eq_iff_iff,h2 b]
  constructor
  ·rintro ⟨j,hj,k1,k2,k3⟩
   rw [← huni j i hj hi k1 (by rw [hv];rfl) (by rw [k2,hv];simp [Tree.val])];exact k3
  ·intro h
   exact ⟨i,hi,by rw [hv];rfl,by rw [hv];simp [Tree.val],h⟩
 ·intro h
  apply Nat.eq_of_testBit_eq
  intro b
  rw [Nat.testBit_and,Bool.eq_iff_iff,y67,h1 b,h2 b]
  constructor
  ·rintro ⟨hw,i,hi,k1,k2⟩
   obtain ⟨c,e1⟩:=hat i hi k1
   have hc:c=b:=by rw [e1] at k2;simpa [Tree.val] using k2
   refine ⟨i,hi,k1,k2,?_⟩
   rw [← h i hi _ e1,z476,hc];exact hw
  ·rintro ⟨i,hi,k1,k2,k3⟩
   obtain ⟨c,e1⟩:=hat i hi k1
   have hc:c=b:=by rw [e1] at k2;simpa [Tree.val] using k2
   refine ⟨?_,i,hi,k1,k2⟩
   rw [← hc,← z476,h i hi _ e1];exact k3
theorem z612 {B:Tree→Prop} {σ τ:Tree→Bool} (h:∀ x,B x→σ x=τ x) {t:Tree} (ht:In B t):t.vl σ=t.vl τ:=by
 induction ht with
 |tr=>rw [z611,z611]
 |«at» v hb=>rw [z549,z549];exact h _ hb
 |nt=>rw [z324,z324,z611,z611]
 |na v hb=>rw [z324,z324,z549,z549,h _ hb]
 |an _ _ iha ihb=>rw [z686,z686,iha,ihb]
 |or _ _ iha ihb=>rw [z1030,z1030,iha,ihb]
 |nx hb _ _=>rw [z1031,z1031];exact h _ hb
 |un hb _ _ _ _=>rw [z1028,z1028];exact h _ hb
 |re hb _ _ _ _=>rw [z1029,z1029];exact h _ hb
theorem z596 {x:Tree} (hx:x∈B):∃ i,∃ h:i < B.length,B[i]=x:=List.mem_iff_getElem.1 hx
theorem z369 (hB:BOk B) (s:Int) {i:Nat} (hi:i < B.length):sgB B s B[i]=hasB s i:=by
 unfold sgB;rw [plc_at hB.nd hi]
theorem fits_of (hB:BOk B) {w:Nat→Int} (hw:∀ k,0≤w k) {s:Nat→Int} (hf:∀ k,folB B (s k) (s (k+1))=true) (hl:∀ k,(w k).toNat &&& (letB B (s k)).1=(letB B (s k)).2):Fits w (·∈B) (fun k=>sgB B (s k)):=by
 have hI:∀ k i (hi:i < B.length),folV B (s k) (s (k+1)) B[i] (sgB B (s k) B[i]) (sgB B (s (k+1)) B[i])=sgB B (s k) B[i]:=fun k i hi=>by
  have h1:=hf k
  unfold folB at h1
  rw [y75] at h1
  have h2:=h1 i (List.mem_range.2 hi)
  unfold folI at h2
  rw [z13 hi] at h2
  rw [z369 hB _ hi,z369 hB _ hi]
  exact eq_of_beq h2
 refine ⟨fun k v hb=>?_,fun k a hb=>?_,fun k a b hb=>?_,fun k a b hb=>?_⟩
 ·obtain ⟨i,hi,e⟩:=z596 hb
  have h1:=(z1115 hB (s k) (w k) (hw k)).1 (hl k) i hi v (by rw [z13 hi];exact e)
  show sgB B (s k) _=_
  rw [← e,z369 hB _ hi];exact h1.symm
 ·obtain ⟨i,hi,e⟩:=z596 hb
  have h1:=hI k i hi
  rw [e] at h1
  simp [folV,kidV,Tree.kind,Tree.kids] at h1
  exact h1.symm
 ·obtain ⟨i,hi,e⟩:=z596 hb
  have h1:=hI k i hi
  rw [e] at h1
  simp [folV,kidV,Tree.kind,Tree.kids] at h1
  exact h1.symm
 ·obtain ⟨i,hi,e⟩:=z596 hb
  have h1:=hI k i hi
  rw [e] at h1
  simp [folV,kidV,Tree.kind,Tree.kids] at h1
  exact h1.symm
theorem fol_of (hB:BOk B) {w:Nat→Int} (hw:∀ k,0≤w k) {σ:Nat→Tree→Bool} (hF:Fits w (·∈B) σ) {s:Nat→Int} (hs:∀ k,∀ x∈B,sgB B (s k) x=σ k x) (k:Nat):folB B (s k) (s (k+1))=true∧(w k).toNat &&& (letB B (s k)).1=(letB B (s k)).2:=by
 have hv:∀ k t,In (·∈B) t→vlB B (s k) t=t.vl (σ k):=fun k t ht=>z612 (hs k) ht
 constructor
 ·unfold folB
  rw [y75]
  intro i hi
  have hi:=List.mem_range.1 hi
  unfold folI
  rw [z13 hi,← z369 hB _ hi,← z369 hB _ hi]
  have hx:B[i]∈B:=y40 hi
  have hin:=hB.cl _ hx
  have hbk:=hB.bk _ hx
  generalize B[i]=x at *
  rw [beq_iff_eq]
  cases hin with
  |tr=>simp [z107,Tree.kind] at hbk
  |«at» v _=>simp [folV,Tree.kind]
  |nt=>simp [z107,Tree.kind] at hbk
  |na v _=>simp [z107,Tree.kind] at hbk
  |an _ _=>simp [z107,Tree.kind] at hbk
  |or _ _=>simp [z107,Tree.kind] at hbk
  |nx hb ha =>
   have h1:=hF.nx k _ hb
   rw [← hs k _ hx,← hv (k+1) _ ha] at h1
   simp [folV,kidV,Tree.kind,Tree.kids]
   exact h1.symm
  |un hb ha hb2 =>
   have h1:=hF.un k _ _ hb
   rw [← hs k _ hx,← hs (k+1) _ hx,← hv k _ ha,← hv k _ hb2] at h1
   simp [folV,kidV,Tree.kind,Tree.kids]
   exact h1.symm
  |re hb ha hb2 =>
   have h1:=hF.re k _ _ hb
   rw [← hs k _ hx,← hs (k+1) _ hx,← hv k _ ha,← hv k _ hb2] at h1
   simp [folV,kidV,Tree.kind,Tree.kids]
   exact h1.symm
 ·refine (z1115 hB (s k) (w k) (hw k)).2 fun i hi v hv=>?_
  have hx:B[i]∈B:=y40 hi
  rw [z13 hi] at hv
  rw [← z369 hB _ hi,hv,hs k _ (hv ▸ hx),hF.at_ k v (hv ▸ hx)]
end
end Go.Gl
namespace Go.Gl
section
variable {n:Nat} {p:Nat→Nat} {F:Nat→Nat→Bool}
theorem ph_all (hp:∀ k,p k < n) (hs:∀ k,p (k+1)=if F k (p k)=true then (p k+1) % n else p k) (hi:∀ m,∃ k,m≤k∧p k=0∧F k 0=true) (j:Nat) (hj:j < n) (m:Nat):∃ k,m≤k∧p k=j∧F k j=true:=by
 by_cases h0:j=0
 ·subst h0;exact hi m
 obtain ⟨a,ha,pa,fa⟩:=hi m
 obtain ⟨b,hb,pb,fb⟩:=hi (a+1)
 refine y74 fun hno=>?_
 have hnf:∀ k,m≤k→p k=j→F k j=false:=fun k hk hpk=>by
  cases h:F k j with
  |false=>rfl
  |true=>exact absurd ⟨k,hk,hpk,h⟩ hno
 have key:∀ d,1≤p (a+1+d)∧p (a+1+d)≤j:=by
  intro d
  induction d with
  |zero =>
   have h1:=hs a
   rw [pa,fa,if_pos rfl,Nat.zero_add,Nat.mod_eq_of_lt (by omega)] at h1
   rw [Nat.add_zero,h1];omega
  |succ d ih =>
   have h1:=hs (a+1+d)
   rw [show a+1+(d+1)=a+1+d+1 by omega,h1]
   by_cases hpj:p (a+1+d)=j
   ·have h2:=hnf (a+1+d) (by omega) hpj
    rw [hpj,h2,if_neg (by simp)];omega
   ·split
    ·rw [Nat.mod_eq_of_lt (by omega)];omega
    ·exact ih
 have:=key (b - (a+1))
 rw [show a+1+(b - (a+1))=b by omega] at this
 omega
theorem ph_adv (hs:∀ k,p (k+1)=if F k (p k)=true then (p k+1) % n else p k):∀ (d m:Nat),F (m+d) (p m)=true→∃ k,m≤k∧p k=p m∧F k (p m)=true
 |0,m,h=>⟨m,y48 _,rfl,h⟩
 |d+1,m,h=>by
  by_cases hf:F m (p m)=true
  ·exact ⟨m,y48 _,rfl,hf⟩
  ·have h1:=hs m
   rw [if_neg hf] at h1
   obtain ⟨k,k1,k2,k3⟩:=ph_adv hs d (m+1) (by rw [h1,show m+1+d=m+(d+1) by omega];exact h)
   rw [h1] at k2 k3
   exact ⟨k,by omega,k2,k3⟩
theorem ph_inf (hp:∀ k,p k < n) (hs:∀ k,p (k+1)=if F k (p k)=true then (p k+1) % n else p k) (hi:∀ j,j < n→∀ m,∃ k,m≤k∧F k j=true) (m:Nat):∃ k,m≤k∧p k=0∧F k 0=true:=by
 have adv:∀ m,∃ k,m≤k∧p k=p m∧F k (p m)=true:=fun m=>by
  obtain ⟨k,k1,k2⟩:=hi (p m) (hp m) m
  exact ph_adv hs (k - m) m (by rw [show m+(k - m)=k by omega];exact k2)
 have zero:∀ d m,p m+d=n→∃ k,m≤k∧p k=0:=by
  intro d
  induction d with
  |zero=>intro m h;have:=hp m;omega
  |succ d ih =>
   intro m h
   obtain ⟨k,k1,k2,k3⟩:=adv m
   have h1:=hs k
   rw [k2,k3,if_pos rfl] at h1
   by_cases hd:d=0
   ·rw [show p m+1=n by omega,Nat.mod_self] at h1
    exact ⟨k+1,by omega,h1⟩
   ·rw [Nat.mod_eq_of_lt (by omega)] at h1
    obtain ⟨k',a1,a2⟩:=ih (k+1) (by omega)
    exact ⟨k',by omega,a2⟩
 obtain ⟨k,k1,k2⟩:=zero (n - p m) m (by have:=hp m;omega)
 obtain ⟨k',a1,a2,a3⟩:=adv k
 rw [k2] at a2 a3
 exact ⟨k',by omega,a2,a3⟩
end
theorem z420 (B:List Tree) (U:List Int) (s:Int) (p:Nat) (hp:p < U.length):phB B U s p=(((if fulB B s (U.getD p 0)=true then (p+1) % U.length else p:Nat):Int),fulB B s (U.getD p 0) && decide (p=0)):=by
 unfold phB
 rw [if_neg (by omega),y73]
 cases fulB B s (U.getD p 0) with
 |true =>
  simp only [if_true,Bool.true_and]
  refine Prod.ext (by simp) ?_
  rw [decide_eq_decide];omega
 |false=>simp
theorem unt_idx {B:List Tree} {a b:Tree} (hB:BOk B) (h:Tree.mk 7 0 [a,b]∈B):∃ j,∃ hj:j < (untB B).length,∀ s:Int,fulB B s ((untB B).getD j 0)=(!sgB B s (.mk 7 0 [a,b]) || b.vl (sgB B s)):=by
 obtain ⟨i,hi,e⟩:=z596 h
 have hm:(i:Int)∈untB B:=by
  unfold untB
  refine List.mem_map.2 ⟨i,List.mem_filter.2 ⟨List.mem_range.2 hi,?_⟩,rfl⟩
  rw [z13 hi,e];simp [Tree.kind]
 obtain ⟨j,hj,e2⟩:=List.mem_iff_getElem.1 hm
 refine ⟨j,hj,fun s=>?_⟩
 rw [z13 hj,e2]
 unfold fulB
 rw [y73,z13 hi,e,← e,z369 hB _ hi]
 congr 1
 rw [e]
 simp [kidV,Tree.kids,vlB]
theorem unt_ful {B:List Tree} (hB:BOk B) {j:Nat} (hj:j < (untB B).length):∃ a b,Tree.mk 7 0 [a,b]∈B∧∀ s:Int,fulB B s ((untB B).getD j 0)=(!sgB B s (.mk 7 0 [a,b]) || b.vl (sgB B s)):=by
 obtain ⟨i,e,hil,hk⟩:∃ i:Nat,(untB B).getD j 0=i∧i < B.length∧(B.getD i dftT).kind=7:=by
  have hm:∀ x∈untB B,∃ i:Nat,x=i∧i < B.length∧(B.getD i dftT).kind=7:=fun x hx=>by
   unfold untB at hx
   obtain ⟨i,hi,rfl⟩:=List.mem_map.1 hx
   obtain ⟨h1,h2⟩:=List.mem_filter.1 hi
   exact ⟨i,rfl,List.mem_range.1 h1,of_decide_eq_true h2⟩
  exact hm _ (by rw [z13 hj];exact y40 _)
 rw [z13 hil] at hk
 have hx:B[i]∈B:=y40 hil
 have hin:=hB.cl _ hx
 have key:∃ a b,B[i]=.mk 7 0 [a,b]:=by
  generalize B[i]=x at *
  cases hin with
  |un _ _ _=>exact ⟨_,_,rfl⟩
  |tr=>simp [Tree.kind] at hk
  |«at» v _=>simp [Tree.kind] at hk
  |nt=>simp [Tree.kind] at hk
  |na v _=>simp [Tree.kind] at hk
  |an _ _=>simp [Tree.kind] at hk
  |or _ _=>simp [Tree.kind] at hk
  |nx _ _=>simp [Tree.kind] at hk
  |re _ _ _=>simp [Tree.kind] at hk
 obtain ⟨a,b,ex⟩:=key
 refine ⟨a,b,ex ▸ hx,fun s=>?_⟩
 rw [e]
 unfold fulB
 rw [y73,z13 hil,ex,← ex,z369 hB _ hil]
 congr 1
 rw [ex]
 simp [kidV,Tree.kids,vlB]
def TRun (y:TrS) (n0:Nat) (w:Nat→Int) (ρ:Nat→Nat):Prop :=
 ρ 0 < n0∧(∀ k,∃ e∈y.ed,e.src=(ρ k:Int)∧e.dst=(ρ (k+1):Int)∧(((w k).toNat &&& e.care.toNat:Nat):Int)=e.val)∧∀ m,∃ k,m≤k∧y.acc.getD (ρ k) false=true
theorem z914 {B:List Tree} {g:Tree} {r:List Int} : r∈iniS B g↔∃ s:Nat,s < 2 ^ B.length∧vlB B s g=true∧r=[(s:Int),0]:=by
 unfold iniS
 rw [y56]
 constructor
 ·rintro ⟨s,hs,rfl⟩
  obtain ⟨h1,h2⟩:=List.mem_filter.1 hs
  exact ⟨s,List.mem_range.1 h1,h2,rfl⟩
 ·rintro ⟨s,h1,h2,rfl⟩
  exact ⟨s,List.mem_filter.2 ⟨List.mem_range.2 h1,h2⟩,rfl⟩
theorem tr_sound {B:List Tree} {g:Tree} {y:TrS} (hB:BOk B) (hg:In (·∈B) g) (hy:trS B g=some y) {w:Nat→Int} (hw:∀ k,0≤w k) {ρ:Nat→Nat} (hr:TRun y (iniS B g).length w ρ):g.sem w 0:=by
 obtain ⟨hT,suf,hL⟩:=trS_T hy
 obtain ⟨r0,r1,r2⟩:=hr
 have step:∀ k,ρ k < y.L.length∧folB B (rowS y.L (ρ k)) (rowS y.L (ρ (k+1)))=true∧rowQ y.L (ρ (k+1))=(phB B (untB B) (rowS y.L (ρ k)) (rowQ y.L (ρ k))).1∧(w k).toNat &&& (letB B (rowS y.L (ρ k))).1=(letB B (rowS y.L (ρ k))).2:=fun k=>by
  obtain ⟨e,he,e1,e2,e3⟩:=r1 k
  obtain ⟨k',t,h1,h2,h3,x1,x2,x3,j,x4,x5,x6⟩:=hT.e1 e he
  have ek:k'=ρ k:=by omega
  subst ek
  have ej:j=ρ (k+1):=by omega
  subst ej
  have f1:rowS y.L (ρ (k+1))=t:=by unfold rowS;rw [x6];rfl
  have f2:rowQ y.L (ρ (k+1))=(phB B (untB B) (rowS y.L (ρ k)) (rowQ y.L (ρ k))).1:=by
   conv=>lhs;unfold rowQ
   rw [x6];rfl
  refine ⟨h1,by rw [f1];exact h3,f2,?_⟩
  rw [x2,x3] at e3
  exact_mod_cast e3
 have hrow0:y.L.getD (ρ 0) []∈iniS B g:=by
  rw [hL,z224 r0,z13 r0];exact y40 _
 obtain ⟨s0,_,hv0,e0⟩:=z914.1 hrow0
 have q0:rowQ y.L (ρ 0)=0:=by unfold rowQ;rw [e0];rfl
 have v0:vlB B (rowS y.L (ρ 0)) g=true:=by unfold rowS;rw [e0];exact hv0
 have hF:=fits_of hB hw (s:=fun k=>rowS y.L (ρ k)) (fun k=>(step k).2.1) (fun k=>(step k).2.2.2)
 refine z1000 hF ?_ hg 0 v0
 intro a b hb m
 obtain ⟨j,hj,hful⟩:=unt_idx hB hb
 have hpos:0 < (untB B).length:=by omega
 have hph:∀ k,∃ p:Nat,rowQ y.L (ρ k)=p∧p < (untB B).length:=by
  intro k
  induction k with
  |zero=>exact ⟨0,q0,hpos⟩
  |succ k ih =>
   obtain ⟨p,p1,p2⟩:=ih
   have h1:=(step k).2.2.1
   rw [p1,z420 _ _ _ _ p2] at h1
   refine ⟨_,h1,?_⟩
   split
   ·exact Nat.mod_lt _ hpos
   ·exact p2
 have hpk:∀ k,rowQ y.L (ρ k)=((rowQ y.L (ρ k)).toNat:Nat)∧(rowQ y.L (ρ k)).toNat < (untB B).length:=fun k=>by
  obtain ⟨p,p1,p2⟩:=hph k
  rw [p1];simp;exact p2
 have hst:∀ k,(rowQ y.L (ρ (k+1))).toNat=if fulB B (rowS y.L (ρ k)) ((untB B).getD (rowQ y.L (ρ k)).toNat 0)=true then ((rowQ y.L (ρ k)).toNat+1) % (untB B).length else (rowQ y.L (ρ k)).toNat:=fun k=>by
  have h1:=(step k).2.2.1
  rw [(hpk k).1,z420 _ _ _ _ (hpk k).2] at h1
  rw [h1];simp only [y73]
 have hinf:∀ m,∃ k,m≤k∧(rowQ y.L (ρ k)).toNat=0∧fulB B (rowS y.L (ρ k)) ((untB B).getD 0 0)=true:=fun m=>by
  obtain ⟨k,k1,k2⟩:=r2 m
  rw [hT.ac _ (step k).1,(hpk k).1,z420 _ _ _ _ (hpk k).2] at k2
  simp only [y67,decide_eq_true_eq] at k2
  exact ⟨k,k1,k2.2,by rw [k2.2] at k2;exact k2.1⟩
 obtain ⟨k,k1,k2,k3⟩:=ph_all (F:=fun k j=>fulB B (rowS y.L (ρ k)) ((untB B).getD j 0)) (fun k=>(hpk k).2) hst hinf j hj m
 refine ⟨k,k1,?_⟩
 have h3:fulB B (rowS y.L (ρ k)) ((untB B).getD j 0)=true:=k3
 rw [hful,Bool.or_eq_true,Bool.not_eq_true'] at h3
 exact h3
theorem z800 {B:List Tree} {g:Tree} {y:TrS} (hB:BOk B) (hNB:∀ x∈B,NF x) (hNg:NF g) (hg:In (·∈B) g) (hy:trS B g=some y) {w:Nat→Int} (hw:∀ k,0≤w k) (hs:g.sem w 0):∃ ρ,TRun y (iniS B g).length w ρ:=by
 obtain ⟨hT,suf,hL⟩:=trS_T hy
 have hsel:∀ k,∃ s:Nat,s < 2 ^ B.length∧∀ i (hi:i < B.length),hasB s i=semA w k B[i]:=fun k=>by
  obtain ⟨s,h1,h2⟩:=z1175 (fun i=>semA w k (B.getD i dftT)) B.length
  exact ⟨s,h1,fun i hi=>by rw [z476,h2 i hi,z13 hi]⟩
 obtain ⟨s,hsp⟩:=Classical.axiomOfChoice hsel
 have hag:∀ k,∀ x∈B,sgB B (s k:Int) x=semA w k x:=fun k x hx=>by
  obtain ⟨i,hi,e⟩:=z596 hx
  rw [← e,z369 hB _ hi];exact (hsp k).2 i hi
 have hfl:=fol_of hB hw (z1074 hNB) (s:=fun k=>(s k:Int)) hag
 have v0:vlB B (s 0:Int) g=true:=by
  have h1:vlB B (s 0:Int) g=g.vl (semA w 0):=z612 (hag 0) hg
  rw [h1,z343 hNg]
  unfold semA
  simp [hs]
 -- the states of the run
 have hex:∀ (j:Nat) (k:Nat),j < y.L.length→rowS y.L j=(s k:Int)→∃ j' : Nat,j' < y.L.length∧y.L.getD j' []=[(s (k+1):Int),(phB B (untB B) (rowS y.L j) (rowQ y.L j)).1]∧∃ e∈y.ed,e.src=(j:Int)∧e.dst=(j' : Int)∧(((w k).toNat &&& e.care.toNat:Nat):Int)=e.val:=fun j k hj hjs=>by
  obtain ⟨e,he,x1,x2,x3,j',x4,x5,x6⟩:=hT.e2 j (s (k+1)) hj (hsp (k+1)).1 (by rw [hjs];exact (hfl k).1)
  refine ⟨j',x5,x6,e,he,x1,x4,?_⟩
  rw [x2,x3,hjs,y73,(hfl k).2]
 have h0:∃ j0:Nat,j0 < (iniS B g).length∧y.L.getD j0 []=[(s 0:Int),0]:=by
  have hm : [(s 0:Int),0]∈iniS B g:=z914.2 ⟨s 0,(hsp 0).1,v0,rfl⟩
  obtain ⟨j0,hj0,e⟩:=List.mem_iff_getElem.1 hm
  exact ⟨j0,hj0,by rw [hL,z224 hj0,z13 hj0];exact e⟩
 obtain ⟨j0,hj0,e0⟩:=h0
 have hj0L:j0 < y.L.length:=by rw [hL];simp;omega
 let R:Nat→Nat:=fun k=>Nat.rec j0 (fun k j=>if h:j < y.L.length∧rowS y.L j=(s k:Int) then (hex j k h.1 h.2).choose else 0) k
 have hRs:∀ k (h:R k < y.L.length∧rowS y.L (R k)=(s k:Int)),R (k+1)=(hex (R k) k h.1 h.2).choose:=fun k h=>dif_pos h
 have hR:∀ k,R k < y.L.length∧rowS y.L (R k)=(s k:Int):=by
  intro k
  induction k with
  |zero=>exact ⟨hj0L,by show rowS y.L j0=_;unfold rowS;rw [e0];rfl⟩
  |succ k ih =>
   have h1:=(hex (R k) k ih.1 ih.2).choose_spec
   rw [← hRs k ih] at h1
   exact ⟨h1.1,by unfold rowS;rw [h1.2.1];rfl⟩
 have hstep:=fun k=>by
  have h1:=(hex (R k) k (hR k).1 (hR k).2).choose_spec
  rw [← hRs k (hR k)] at h1
  exact h1
 refine ⟨R,hj0,fun k=>(hstep k).2.2,?_⟩
 have hq:∀ k,rowQ y.L (R (k+1))=(phB B (untB B) (rowS y.L (R k)) (rowQ y.L (R k))).1:=fun k=>by
  have h1:=(hstep k).2.1
  conv=>lhs;unfold rowQ
  rw [h1];rfl
 intro m
 by_cases hpos:0 < (untB B).length
 ·have hph:∀ k,∃ p:Nat,rowQ y.L (R k)=p∧p < (untB B).length:=by
   intro k
   induction k with
   |zero=>exact ⟨0,by show rowQ y.L j0=_;unfold rowQ;rw [e0];rfl,hpos⟩
   |succ k ih =>
    obtain ⟨p,p1,p2⟩:=ih
    have h1:=hq k
    rw [p1,z420 _ _ _ _ p2] at h1
    refine ⟨_,h1,?_⟩
    split
    ·exact Nat.mod_lt _ hpos
    ·exact p2
  have hpk:∀ k,rowQ y.L (R k)=((rowQ y.L (R k)).toNat:Nat)∧(rowQ y.L (R k)).toNat < (untB B).length:=fun k=>by
   obtain ⟨p,p1,p2⟩:=hph k
   rw [p1];simp;exact p2
  have hst:∀ k,(rowQ y.L (R (k+1))).toNat=if fulB B (rowS y.L (R k)) ((untB B).getD (rowQ y.L (R k)).toNat 0)=true then ((rowQ y.L (R k)).toNat+1) % (untB B).length else (rowQ y.L (R k)).toNat:=fun k=>by
   have h1:=hq k
   rw [(hpk k).1,z420 _ _ _ _ (hpk k).2] at h1
   rw [h1];simp only [y73]
  have hall:∀ j,j < (untB B).length→∀ m,∃ k,m≤k∧fulB B (rowS y.L (R k)) ((untB B).getD j 0)=true:=fun j hj m=>by
   obtain ⟨a,b,hab,hful⟩:=unt_ful hB hj
   obtain ⟨k,k1,k2⟩:=z1075 hNB a b hab m
   refine ⟨k,k1,?_⟩
   rw [hful,(hR k).2,hag k _ hab]
   have hbv:b.vl (sgB B (s k:Int))=b.vl (semA w k):=by
    have:In (·∈B) b:=by
     have:=hB.cl _ hab
     cases this;assumption
    exact z612 (hag k) this
   rw [hbv,Bool.or_eq_true,Bool.not_eq_true']
   exact k2
  obtain ⟨k,k1,k2,k3⟩:=ph_inf (F:=fun k j=>fulB B (rowS y.L (R k)) ((untB B).getD j 0)) (fun k=>(hpk k).2) hst hall m
  refine ⟨k,k1,?_⟩
  rw [hT.ac _ (hR k).1,(hpk k).1,z420 _ _ _ _ (hpk k).2,k2]
  simp only [decide_true,Bool.and_true]
  exact k3
 ·refine ⟨m,y48 _,?_⟩
  rw [hT.ac _ (hR m).1]
  unfold phB
  rw [if_pos (by omega)]
end Go.Gl
