/- A part of the proofs over this program: D14, D17, D18, D13, D19, D20, D21, D22, D23, D24, D25, D26, D28, D29, D30, D32, D27, D31, D33, D36, D37, D38, D39, D40, GlV, D34, D41, D42, D43, D49, D15, D50, D51. -/
import Derived.Test.YteinbnahinpegaaGreatG2
set_option linter.all false
namespace Go.Gl
def z481 (a:Int) (s:List Int×List Int) (y:Int):List Int×List Int:=if s.2.getD y.toNat 0=-2 then (s.1++[y],s.2.set y.toNat a) else s
def back (P:List Int):Nat→Int→List Int
 |0,_=>[]
 |f+1,a=>if 0≤a then a::back P f (P.getD a.toNat 0) else []
def swp (l:List Int) (i j:Nat):List Int:=(l.set i (l.getD j 0)).set j (l.getD i 0)
def revG:Nat→Nat→Nat→List Int→List Int
 |0,_,_,l=>l
 |f+1,i,j,l=>if i < j then revG f (i+1) (j - 1) (swp l i j) else l
theorem revG_len:∀ (f i j:Nat) (l:List Int),(revG f i j l).length=l.length:=by
 intro f
 induction f with
 |zero=>intro i j l;rfl
 |succ f ih=>intro i j l;rw [revG];split;rw [ih];simp [swp];rfl
def rvs (l:List Int):List Int:=revG l.length 0 (l.length - 1) l
theorem z668 (l:List Int):(rvs l).length=l.length:=revG_len _ _ _ _
structure SI (rows:List (List Int)) (c:Int) (n:Nat) (Q P:List Int):Prop where
 nd:Q.Nodup
 inN:InN n Q
 len:P.length=n
 un:∀ v:Int,0≤v→v < n→(P.getD v.toNat 0=-2↔v ∉ Q)
 pr:∀ k,k < Q.length→P.getD (Q.getD k 0).toNat 0=-1∨∃ j,j < k∧P.getD (Q.getD k 0).toNat 0=Q.getD j 0
 rp:∀ x∈Q,RP rows [c] x
 st:c∈Q
theorem SI.le {rows:List (List Int)} {c:Int} {n:Nat} {Q P:List Int} (h:SI rows c n Q P):Q.length≤n:=z199 n Q h.nd h.inN
theorem z415 {Q:List Int} {k:Nat} (h:k < Q.length):Q.getD k 0∈Q:=by rw [z20 h];exact y41 _
theorem z290 {Q:List Int} {y:Int} {k:Nat} (h:k < Q.length):(Q++[y]).getD k 0=Q.getD k 0:=by
 rw [z20 (by simp;omega),z20 h,List.getElem_append_left h]
theorem z561 {P:List Int} {i j:Nat} {a:Int} (h:i≠j):(P.set i a).getD j 0=P.getD j 0:=by
 simp only [y65];rw [List.getElem?_set_ne h]
theorem z414 {P:List Int} {i:Nat} {a:Int} (h:i < P.length):(P.set i a).getD i 0=a:=by
 rw [z20 (by simpa using h)];simp
theorem SI.one {rows : List (List Int)} {c : Int} {n : Nat} {Q P : List Int} (h : SI rows c n Q P) {i : Nat} (hi : i < Q.length) {y : Int} (hy : y ∈ rows.getD (Q.getD i 0).toNat []) (h0 : 0 ≤ y) (h1 : y < n) :
    SI rows c n (z481 (Q.getD i 0) (Q,P) y).1 (z481 (Q.getD i 0) (Q,P) y).2∧(∃ t,(z481 (Q.getD i 0) (Q,P) y).1=Q++t)∧y∈(z481 (Q.getD i 0) (Q,P) y).1:=by
  unfold z481
  have ha:=h.inN _ (z415 hi)
  by_cases hu:P.getD y.toNat 0=-2
  · rw [if_pos hu]
    have hn:=(h.un y h0 h1).1 hu
    have hyl:y.toNat < P.length:=by rw [h.len];omega
    have hne:∀ v∈Q,y.toNat≠v.toNat:=fun v hv e=>by
      have:=h.inN v hv
      have:y=v:=by omega
      rw [this] at hn;exact hn hv
    refine ⟨⟨?_,?_,by simp [h.len],?_,?_,?_,List.mem_append_left _ h.st⟩,⟨_,rfl⟩,by simp⟩
    · rw [y73]
      exact ⟨h.nd,by simp,fun a ha b hb=>by rintro rfl;rw [List.mem_singleton.1 hb] at ha;exact hn ha⟩
    · intro x hx
      rcases List.mem_append.1 hx with hx|hx
      · exact h.inN x hx
      · rw [List.mem_singleton.1 hx];exact ⟨h0,h1⟩
    · intro v v0 v1
      by_cases hv:v=y
      · subst hv
        show (P.set v.toNat _).getD v.toNat 0=-2↔_
        rw [z414 hyl]
        exact ⟨fun e=>by omega,fun hh=>absurd (by simp) hh⟩
      · show (P.set y.toNat _).getD v.toNat 0=-2↔_
        rw [z561 (by omega),h.un v v0 v1]
        simp [hv]
    · intro k hk
      show (P.set y.toNat _).getD ((Q++[y]).getD k 0).toNat 0=-1∨∃ j,j < k∧(P.set y.toNat _).getD ((Q++[y]).getD k 0).toNat 0=(Q++[y]).getD j 0
      simp only [y44,List.length_singleton] at hk
      rcases y67 k Q.length with h2|h2
      · rw [z290 h2,z561 (hne _ (z415 h2))]
        rcases h.pr k h2 with h3|⟨j,h3,h4⟩
        · exact .inl h3
        · exact .inr ⟨j,h3,by rw [h4,z290 (by omega)]⟩
      · have e:k=Q.length:=by omega
        subst e
        have e2:(Q++[y]).getD Q.length 0=y:=by rw [z20 (by simp)];simp
        rw [e2,z414 hyl]
        exact .inr ⟨i,hi,by rw [z290 hi]⟩
    · intro x hx
      rcases List.mem_append.1 hx with hx|hx
      · exact h.rp x hx
      · rw [List.mem_singleton.1 hx];exact .step (h.rp _ (z415 hi)) hy
  · rw [if_neg hu]
    refine ⟨h,⟨[],by simp⟩,?_⟩
    have:=h.un y h0 h1
    exact y75 fun hc=>hu (this.2 hc)
theorem SI.fold {rows : List (List Int)} {c : Int} {n : Nat} {i : Nat} {a : Int} : ∀ (r : List Int) (Q P : List Int), SI rows c n Q P → i < Q.length → Q.getD i 0 = a → (∀ y ∈ r, y ∈ rows.getD a.toNat [] ∧ 0 ≤ y ∧ y < n) →
  SI rows c n (r.foldl (z481 a) (Q,P)).1 (r.foldl (z481 a) (Q,P)).2∧(∃ t,(r.foldl (z481 a) (Q,P)).1=Q++t)∧∀ y∈r,y∈(r.foldl (z481 a) (Q,P)).1:=by
 intro r
 induction r with
 |nil=>intro Q P h _ _ _;exact ⟨h,⟨[],by simp⟩,fun y hy=>by cases hy⟩
 |cons y r ih =>
  intro Q P h hi ha hr
  have hy:=hr y (by simp)
  obtain ⟨h1,⟨t,ht⟩,h3⟩:=h.one hi (by rw [ha];exact hy.1) hy.2.1 hy.2.2
  rw [ha] at h1 ht h3
  rw [List.foldl_cons]
  generalize z481 a (Q,P) y=s at *
  obtain ⟨Q1,P1⟩:=s
  simp only at h1 ht h3
  subst ht
  obtain ⟨k1,⟨t2,ht2⟩,k3⟩:=ih (Q++t) P1 h1 (by simp;omega) (by rw [← ha,z20 (by simp;omega),z20 hi,List.getElem_append_left hi]) (fun z hz=>hr z (y70 _ hz))
  refine ⟨k1,⟨t++t2,by rw [ht2,List.append_assoc]⟩,fun z hz=>?_⟩
  rcases List.mem_cons.1 hz with rfl|hz
  ·rw [ht2];exact List.mem_append_left _ h3
  ·exact k3 z hz
structure SJ (rows:List (List Int)) (b:List Bool) (c:Int) (n:Nat) (Q P:List Int) (i:Nat):Prop where
 si:SI rows c n Q P
 le:i≤Q.length
 no:∀ k,k < i→gB b (Q.getD k 0).toNat=false∧∀ y∈rows.getD (Q.getD k 0).toNat [],y∈Q
theorem SJ.step {rows : List (List Int)} {b : List Bool} {c : Int} {n : Nat} {Q P : List Int} {i : Nat} (h : SJ rows b c n Q P i) (hr : ∀ r ∈ rows, InN n r) (hi : i < Q.length) (hb : gB b (Q.getD i 0).toNat = false) :
    SJ rows b c n ((rows.getD (Q.getD i 0).toNat []).foldl (z481 (Q.getD i 0)) (Q,P)).1 ((rows.getD (Q.getD i 0).toNat []).foldl (z481 (Q.getD i 0)) (Q,P)).2 (i+1):=by
  obtain ⟨k1,⟨t,ht⟩,k3⟩:=h.si.fold (i:=i) (a:=Q.getD i 0) (rows.getD (Q.getD i 0).toNat []) Q P hi rfl (fun y hy=>⟨hy,z301 hr _ y hy⟩)
  have e:∀ k,k < Q.length→(Q++t).getD k 0=Q.getD k 0:=fun k hk=>by rw [z20 (by simp;omega),z20 hk,List.getElem_append_left hk]
  refine ⟨k1,by rw [ht];simp;omega,fun k hk=>?_⟩
  rw [ht] at k3 ⊢
  rw [e k (by omega)]
  rcases y67 k i with h1|h1
  · exact ⟨(h.no k h1).1,fun y hy=>List.mem_append_left _ ((h.no k h1).2 y hy)⟩
  · obtain rfl:k=i:=by omega
    exact ⟨hb,k3⟩
theorem SJ.start {rows:List (List Int)} {b:List Bool} {c:Int} {n:Nat} (h0:0≤c) (h1:c < n):SJ rows b c n [c] ((List.replicate n (-2)).set c.toNat (-1)) 0:=by
 refine ⟨⟨by simp,fun x hx=>by rw [List.mem_singleton.1 hx];exact ⟨h0,h1⟩,by simp,fun v v0 v1=>?_,fun k hk=>?_,fun x hx=>.base hx,by simp⟩,by simp,fun k hk=>by omega⟩
 ·by_cases e:v=c
  ·subst e
   rw [z414 (by simp;omega)]
   simp
  ·rw [z561 (by omega),z20 (by simp;omega)]
   simp [e]
 ·obtain rfl:k=0:=by simpa using hk
  left
  show ((List.replicate n (-2:Int)).set c.toNat (-1)).getD c.toNat 0=-1
  rw [z414 (by simp;omega)]
theorem SJ.closed {rows:List (List Int)} {b:List Bool} {c:Int} {n:Nat} {Q P:List Int} {i:Nat} (h:SJ rows b c n Q P i) (hi:Q.length≤i) {x:Int} (hx:RP rows [c] x):x∈Q∧gB b x.toNat=false:=by
 have key:x∈Q:=by
  induction hx with
  |base hx=>rw [List.mem_singleton.1 hx];exact h.si.st
  |step _ hy ih =>
   obtain ⟨k,hk,e⟩:=List.mem_iff_getElem.1 ih
   have:=(h.no k (by omega)).2
   rw [z20 hk,e] at this
   exact this _ hy
 refine ⟨key,?_⟩
 obtain ⟨k,hk,e⟩:=List.mem_iff_getElem.1 key
 have:=(h.no k (by omega)).1
 rwa [z20 hk,e] at this
def Cyc (rows:List (List Int)) (x:Int):Prop:=∃ y,y∈rows.getD x.toNat []∧RP rows [y] x
def PathP (rows:List (List Int)) (p:List Int):Prop:=∀ i,i+1 < p.length→p.getD (i+1) 0∈rows.getD (p.getD i 0).toNat []
theorem RP.trans {rows:List (List Int)} {ini:List Int} {x y z:Int} (h:RP rows ini x) (hy:y∈rows.getD x.toNat []) (k:RP rows [y] z):RP rows ini z:=by
 induction k with
 |base hb=>rw [List.mem_singleton.1 hb];exact .step h hy
 |step _ hs ih=>exact .step ih hs
theorem RP.trans0 {rows:List (List Int)} {ini:List Int} {x z:Int} (h:RP rows ini x) (k:RP rows [x] z):RP rows ini z:=by
 induction k with
 |base hb=>rw [List.mem_singleton.1 hb];exact h
 |step _ hs ih=>exact .step ih hs
theorem RP.path {rows:List (List Int)} {ini:List Int} {x:Int} (h:RP rows ini x):∃ p:List Int,0 < p.length∧p.getD 0 0∈ini∧p.getD (p.length - 1) 0=x∧PathP rows p:=by
 induction h with
 |base hb=>exact ⟨[_],by simp,hb,rfl,fun i hi=>by simp at hi⟩
 |step _ hy ih =>
  rename_i u y _
  obtain ⟨p,h1,h2,h3,h4⟩:=ih
  refine ⟨p++[y],by simp,by rwa [z290 h1],by rw [z20 (by simp)];simp,fun i hi=>?_⟩
  simp only [y44,List.length_singleton] at hi
  rcases y67 (i+1) p.length with h|h
  ·rw [z290 h,z290 (by omega)];exact h4 i h
  ·have e:i+1=p.length:=by omega
   have e1:(p++[y]).getD i 0=u:=by rw [z290 (by omega),show i=p.length - 1 by omega,h3]
   have e2:(p++[y]).getD (i+1) 0=y:=by rw [e,z20 (by simp)];simp
   rw [e1,e2];exact hy
theorem PathP.rp {rows:List (List Int)} {p:List Int} (h:PathP rows p) {ini:List Int} (h0:p.getD 0 0∈ini):∀ i,i < p.length→RP rows ini (p.getD i 0):=by
 intro i
 induction i with
 |zero=>exact fun _=>.base h0
 |succ i ih=>exact fun hi=>.step (ih (by omega)) (h i hi)
theorem z1119 {rows:List (List Int)} {π:Nat→Int} (h:∀ k,π (k+1)∈rows.getD (π k).toNat []):∀ d k,RP rows [π k] (π (k+d)):=by
 intro d
 induction d with
 |zero=>exact fun k=>.base (by simp)
 |succ d ih=>exact fun k=>.step (ih k) (h (k+d))
theorem runInN {rows:List (List Int)} {N:Nat} (hr:∀ r∈rows,InN N r) {π:Nat→Int} (h:∀ k,π (k+1)∈rows.getD (π k).toNat []) (h0:0≤π 0∧π 0 < N):∀ k,0≤π k∧π k < N
 |0=>h0
 |k+1=>rowInN hr _ _ (h k)
theorem z1120 {rows:List (List Int)} {N:Nat} (hr:∀ r∈rows,InN N r) {π:Nat→Int} (h:∀ k,π (k+1)∈rows.getD (π k).toNat []) (h0:0≤π 0∧π 0 < N) {acc:Int→Prop} (ha:∀ m,∃ k,m≤k∧acc (π k)):∃ k,acc (π k)∧Cyc rows (π k):=by
 let f:Nat→Nat:=fun m=>(ha m).choose
 have hf:∀ m,m≤f m∧acc (π (f m)):=fun m=>(ha m).choose_spec
 let s:Nat→Nat:=fun i=>Nat.rec (f 0) (fun _ k=>f (k+1)) i
 have hs:∀ i,acc (π (s i)):=fun i=>by
  cases i with
  |zero=>exact (hf 0).2
  |succ i=>exact (hf (s i+1)).2
 have hlt:∀ i,s i < s (i+1):=fun i=>(hf (s i+1)).1
 have hmono:∀ d i,s i < s (i+d+1):=by
  intro d
  induction d with
  |zero=>exact hlt
  |succ d ih=>exact fun i=>Nat.lt_trans (ih i) (hlt (i+d+1))
 by_cases hne:∀ i j,i < j→π (s i)≠π (s j)
 ·exfalso
  have hin:=runInN hr h h0
  have:=z199 N ((List.range (N+1)).map fun i=>π (s i)) (by
   show List.Pairwise (·≠·) _
   rw [List.pairwise_map]
   exact List.Pairwise.imp (fun {a b} hab=>hne a b hab) List.pairwise_lt_range) (fun x hx=>by
   obtain ⟨i,_,rfl⟩:=List.mem_map.1 hx
   exact hin _)
  rw [y46,List.length_range] at this
  omega
 ·simp only [Classical.not_forall,Classical.not_not] at hne
  obtain ⟨i,j,hij,e⟩:=hne
  have hl:s i < s j:=by
   have:=hmono (j - i - 1) i
   rwa [show i+(j - i - 1)+1=j by omega] at this
  refine ⟨s i,hs i,π (s i+1),h _,?_⟩
  have:=z1119 h (s j - (s i+1)) (s i+1)
  rw [show s i+1+(s j - (s i+1))=s j by omega,← e] at this
  exact this
def z285 (p q:List Int) (k:Nat):Int:=if k < p.length then p.getD k 0 else q.getD ((k - p.length) % q.length) 0
theorem z689 {rows:List (List Int)} {p q:List Int} (hp:PathP rows p) (hq:PathP rows q) (hl:0 < q.length) (h1:0 < p.length→q.getD 0 0∈rows.getD (p.getD (p.length - 1) 0).toNat []) (h2:q.getD 0 0∈rows.getD (q.getD (q.length - 1) 0).toNat []) (k:Nat):z285 p q (k+1)∈rows.getD (z285 p q k).toNat []:=by
 unfold z285
 rcases y67 (k+1) p.length with h|h
 ·rw [if_pos h,if_pos (by omega)];exact hp k h
 rw [if_neg (show ¬ k+1 < p.length by omega)]
 rcases y67 k p.length with h3|h3
 ·rw [if_pos h3,show k+1 - p.length=0 by omega,Nat.zero_mod,show k=p.length - 1 by omega]
  exact h1 (by omega)
 rw [if_neg (show ¬ k < p.length by omega),show k+1 - p.length=(k - p.length)+1 by omega]
 generalize k - p.length=j
 have hm:=Nat.mod_lt j hl
 rcases y67 (j % q.length+1) q.length with h4|h4
 ·rw [Nat.add_mod,Nat.mod_eq_of_lt (show 1 < q.length by omega),Nat.mod_eq_of_lt h4];exact hq _ h4
 ·have e:j % q.length=q.length - 1:=by omega
  have e2:(j+1) % q.length=0:=by
   have:=Nat.div_add_mod j q.length
   rw [e] at this
   rw [show j+1=q.length * (j / q.length)+q.length by omega]
   simp
  rw [e,e2];exact h2
theorem z779 {p q:List Int} {i:Nat} (hi:i < q.length) (m:Nat):∃ k,m≤k∧z285 p q k=q.getD i 0:=by
 refine ⟨p.length+(q.length * m+i),by have:m≤q.length * m:=Nat.le_mul_of_pos_left m (by omega);omega,?_⟩
 unfold z285
 rw [if_neg (by omega),show p.length+(q.length * m+i) - p.length=q.length * m+i by omega,Nat.mul_add_mod,Nat.mod_eq_of_lt hi]
theorem cyc_run {rows:List (List Int)} {ini:List Int} {x:Int} (h:RP rows ini x) (hc:Cyc rows x):∃ π:Nat→Int,π 0∈ini∧(∀ k,π (k+1)∈rows.getD (π k).toNat [])∧∀ m,∃ k,m≤k∧π k=x:=by
 obtain ⟨p,p1,p2,p3,p4⟩:=h.path
 obtain ⟨y,hy,hr⟩:=hc
 obtain ⟨q,q1,q2,q3,q4⟩:=hr.path
 rw [y52] at q2
 refine ⟨z285 p q,by unfold z285;rw [if_pos p1];exact p2,z689 p4 q4 q1 (fun _=>by rw [q2,p3];exact hy) (by rw [q2,q3];exact hy),fun m=>?_⟩
 obtain ⟨k,h1,h2⟩:=z779 (p:=p) (q:=q) (i:=q.length - 1) (by omega) m
 exact ⟨k,h1,by rw [h2,q3]⟩
theorem inf_iff {rows:List (List Int)} {ini:List Int} {N:Nat} (hr:∀ r∈rows,InN N r) (hi:InN N ini) {acc:Int→Prop} : (∃ π:Nat→Int,π 0∈ini∧(∀ k,π (k+1)∈rows.getD (π k).toNat [])∧∀ m,∃ k,m≤k∧acc (π k))↔∃ x,RP rows ini x∧acc x∧Cyc rows x:=by
 constructor
 ·rintro ⟨π,h0,h1,h2⟩
  obtain ⟨k,h3,h4⟩:=z1120 hr h1 (hi _ h0) h2
  refine ⟨_,?_,h3,h4⟩
  have:=z1119 h1 k 0
  rw [Nat.zero_add] at this
  exact (RP.base h0).trans0 this
 ·rintro ⟨x,h1,h2,h3⟩
  obtain ⟨π,p0,p1,p2⟩:=cyc_run h1 h3
  exact ⟨π,p0,p1,fun m=>by obtain ⟨k,k1,k2⟩:=p2 m;exact ⟨k,k1,by rw [k2];exact h2⟩⟩
def z246 (k:Int):Int:=if k=1∨k=2 then 0 else if k=3∨k=6∨k=9∨k=10 then 1 else if k=4∨k=5∨k=7∨k=8 then 2 else -1
def z543 (k:Int):Int:=if k=2 then 2 else 0
mutual
def Tree.walkF (t:Tree) (d n:Int):Int×Bool:=match t with
 |.mk k v l=>if d≤6∧n+1≤12∧0≤v∧v≤z543 k∧(l.length:Int)=z246 k then Tree.walkFs l (d+1) (n+1) else (n+1,false)
def Tree.walkFs (l:List Tree) (d n:Int):Int×Bool:=match l with
 |[]=>(n,true)
 |t::r=>if (Tree.walkF t d n).2 then Tree.walkFs r d (Tree.walkF t d n).1 else ((Tree.walkF t d n).1,false)
end
mutual
def Tree.shapeF (t:Tree) (d:Int):Bool:=match t with
 |.mk k v l=>decide (1≤d∧(l.length:Int)=z246 k∧0≤v∧v≤z543 k) && Tree.shapeFs l (d - 1)
def Tree.shapeFs (l:List Tree) (d:Int):Bool:=match l with
 |[]=>true
 |t::r=>Tree.shapeF t d && Tree.shapeFs r d
end
theorem Tree.walkF_spec : (∀ (t : Tree) d n, 0 ≤ n → n ≤ 12 → ((t.walkF d n).2 = true ↔ t.shapeF (7 - d) = true ∧ n + t.count (7 - d) ≤ 12) ∧ ((t.walkF d n).2 = true → (t.walkF d n).1 = n + t.count (7 - d)) ∧ n ≤ (t.walkF d n).1 ∧ (t.walkF d n).1 ≤ 13) ∧
  ∀ (l:List Tree) d n,0≤n→n≤12→((Tree.walkFs l d n).2=true↔Tree.shapeFs l (7 - d)=true∧n+Tree.counts l (7 - d)≤12)∧((Tree.walkFs l d n).2=true→(Tree.walkFs l d n).1=n+Tree.counts l (7 - d))∧n≤(Tree.walkFs l d n).1∧(Tree.walkFs l d n).1≤13:=by
 refine Tree.rec2 ?_ ?_ ?_
 ·intro k v l ih d n h0 h1
  simp only [Tree.walkF,Tree.shapeF,Tree.count,y68,decide_eq_true_eq]
  have hc:=Tree.count_pos.2 l (7 - d - 1)
  by_cases hb:d≤6∧n+1≤12∧0≤v∧v≤z543 k∧(l.length:Int)=z246 k
  ·rw [if_pos hb,if_pos (by omega)]
   have:=ih (d+1) (n+1) (by omega) hb.2.1
   rw [show 7 - (d+1)=7 - d - 1 by omega] at this
   obtain ⟨a1,a2,a3,a4⟩:=this
   refine ⟨?_,?_,by omega,by omega⟩
   ·rw [a1]
    constructor
    ·rintro ⟨b1,b2⟩;exact ⟨⟨⟨by omega,hb.2.2.2.2,hb.2.2.1,hb.2.2.2.1⟩,b1⟩,by omega⟩
    ·rintro ⟨b1,b2⟩;exact ⟨b1.2,by omega⟩
   ·intro h;rw [a2 h];omega
  ·rw [if_neg hb]
   refine ⟨⟨by simp,?_⟩,by simp,by simp only;omega,by simp only;omega⟩
   rintro ⟨⟨⟨b1,b2,b3,b4⟩,b5⟩,b6⟩
   rw [if_pos (by omega)] at b6
   exact absurd ⟨by omega,by omega,b3,b4,b2⟩ hb
 ·intro d n h0 h1
  simp [Tree.walkFs,Tree.shapeFs,Tree.counts];omega
 ·intro t r iht ihr d n h0 h1
  simp only [Tree.walkFs,Tree.shapeFs,Tree.counts,y68]
  obtain ⟨a1,a2,a3,a4⟩:=iht d n h0 h1
  have hc:=Tree.count_pos.2 r (7 - d)
  by_cases hb:(t.walkF d n).2=true
  ·rw [if_pos hb]
   have e:=a2 hb
   obtain ⟨b1,b2,b3,b4⟩:=ihr d (t.walkF d n).1 (by omega) (by rw [e];exact (a1.1 hb).2)
   refine ⟨?_,fun h=>by rw [b2 h,e];omega,by omega,b4⟩
   rw [b1,e]
   exact ⟨fun h=>⟨⟨(a1.1 hb).1,h.1⟩,by omega⟩,fun h=>⟨h.1.2,by omega⟩⟩
  ·rw [if_neg hb]
   refine ⟨⟨by simp,fun h=>absurd (a1.2 ⟨h.1.1,by omega⟩) hb⟩,by simp,a3,a4⟩
def Tree.fmB (t:Tree):Bool:=(t.walkF 1 0).2
theorem y21 (t:Tree):t.fmB=(t.shapeF 6 && decide (t.count 6≤12)):=by
 have h:=(Tree.walkF_spec.1 t 1 0 (by omega) (by omega)).1
 rw [show (7:Int) - 1=6 by omega,Int.zero_add] at h
 rw [Bool.eq_iff_iff,y68,decide_eq_true_eq]
 exact h
theorem z394 {α : Type} (R : Nat → Int → α → Int → Prop) (p0 c : Int) : ∀ (m : Nat), (∀ k p, k < m → p0 ≤ p → p ≤ p0 + c * k → ∃ a p', R k p a p' ∧ p ≤ p' ∧ p' ≤ p + c) →
  ∃ (l:List α) (pf:Nat→Int),l.length=m∧pf 0=p0∧(∀ k (hk:k < l.length),R k (pf k) l[k] (pf (k+1)))∧∀ k,k≤m→p0≤pf k∧pf k≤p0+c * k:=by
 intro m
 induction m with
 |zero =>
  intro _
  refine ⟨[],fun _=>p0,rfl,rfl,fun k hk=>by simp at hk,fun k hk=>?_⟩
  have:k=0:=by omega
  subst this;simp
 |succ m ih =>
  intro h
  obtain ⟨l,pf,h1,h2,h3,h4⟩:=ih fun k p hk=>h k p (by omega)
  have h5:=h4 m (y49 _)
  obtain ⟨a,p',h6,h7,h8⟩:=h m (pf m) (by omega) h5.1 h5.2
  refine ⟨l++[a],fun k=>if k≤m then pf k else p',by simp [h1],by simp [h2],fun k hk=>?_,fun k hk=>?_⟩
  ·by_cases hkm:k < m
   ·simp only [if_pos (show k≤m by omega),if_pos (show k+1≤m by omega)]
    rw [List.getElem_append_left (by omega)]
    exact h3 k (by omega)
   ·have:k=m:=by simp at hk;omega
    subst this
    simp only [if_pos (y49 _),if_neg (show ¬(k+1≤k) by omega)]
    rw [List.getElem_append_right (by omega)]
    simpa [h1] using h6
  ·by_cases hkm:k≤m
   ·simp only [if_pos hkm];exact h4 k hkm
   ·have:k=m+1:=by omega
    subst this
    simp only [if_neg hkm]
    rw [show ((m+1:Nat):Int)=m+1 by omega,Int.mul_add]
    omega
theorem y31 (l:List Tree) (d:Int):Tree.shapeFs l d=true↔∀ t∈l,t.shapeF d=true:=by
 induction l with
 |nil=>simp [Tree.shapeFs]
 |cons t l ih=>simp [Tree.shapeFs,ih]
theorem y30 (t:Tree) (d:Int):t.shapeF d=true↔(1≤d∧(t.kids.length:Int)=z246 t.kind∧0≤t.val∧t.val≤z543 t.kind)∧∀ u∈t.kids,u.shapeF (d - 1)=true:=by
 cases t with
 |mk k v l=>simp only [Tree.shapeF,y68,decide_eq_true_eq,y31,Tree.kids,Tree.kind,Tree.val]
def Tree.goodF (t:Tree):Prop:=∃ d,t.shapeF d=true
theorem y24 {t:Tree} (h:t.fmB=true):t.goodF:=by
 rw [y21,y68] at h
 exact ⟨6,h.1⟩
theorem y23 {t:Tree} (h:t.goodF):(t.kids.length:Int)=z246 t.kind∧0≤t.val∧t.val≤z543 t.kind∧∀ u∈t.kids,u.goodF:=by
 obtain ⟨d,h⟩:=h
 rw [y30] at h
 exact ⟨h.1.2.1,h.1.2.2.1,h.1.2.2.2,fun u hu=>⟨d - 1,h.2 u hu⟩⟩
inductive FormF:Tree→Prop
 |tr:FormF (.mk 1 0 [])
 |at (v:Int) (h0:0≤v) (h1:v≤2):FormF (.mk 2 v [])
 |un (k:Int) (a:Tree) (hk:k=3∨k=6∨k=9∨k=10) (ha:a.goodF):FormF (.mk k 0 [a])
 |bin (k:Int) (a b:Tree) (hk:k=4∨k=5∨k=7∨k=8) (ha:a.goodF) (hb:b.goodF):FormF (.mk k 0 [a,b])
theorem y22 {t:Tree} (h:t.goodF):FormF t:=by
 obtain ⟨h1,h2,h3,h4⟩:=y23 h
 cases t with
 |mk k v l =>
  simp only [Tree.kids,Tree.kind,Tree.val] at h1 h2 h3 h4
  unfold z543 at h3
  unfold z246 at h1
  by_cases e1:k=1
  ·subst e1
   simp at h1 h3
   obtain rfl:v=0:=by omega
   subst h1;exact .tr
  by_cases e2:k=2
  ·subst e2
   simp at h1 h3
   subst h1;exact .at v h2 h3
  rw [if_neg e2] at h3
  obtain rfl:v=0:=by omega
  by_cases e3:k=3∨k=6∨k=9∨k=10
  ·rw [if_neg (by omega),if_pos e3] at h1
   match l,h1 with
   |[a],_=>exact .un k a e3 (h4 a (by simp))
   |[],h1=>simp at h1
   |a::b::r,h1=>simp at h1;omega
  by_cases e4:k=4∨k=5∨k=7∨k=8
  ·rw [if_neg (by omega),if_neg e3,if_pos e4] at h1
   match l,h1 with
   |[a,b],_=>exact .bin k a b e4 (h4 a (by simp)) (h4 b (by simp))
   |[],h1=>simp at h1
   |[a],h1=>simp at h1
   |a::b::c::r,h1=>simp at h1;omega
  ·rw [if_neg (by omega),if_neg e3,if_neg e4] at h1
   omega
def z1229 (k:Int):Int:=if k=4 then 5 else if k=5 then 4 else if k=7 then 8 else 7
def dftT:Tree:=.mk 0 0 []
def truT:Tree:=.mk 1 0 []
def notT (t:Tree):Tree:=.mk 3 0 [t]
def z876 (k v:Int) (neg:Bool) (ks:List Tree):Tree :=
 if k=1∨k=2 then (if neg then notT (.mk k v []) else .mk k v [])
 else if k=6 then .mk 6 0 [ks.getD 0 dftT]
 else if k=9∨k=10 then (if (decide (k=9) != neg)=true then .mk 7 0 [truT,ks.getD 0 dftT] else .mk 8 0 [notT truT,ks.getD 0 dftT])
 else .mk (if neg then z1229 k else k) 0 [ks.getD 0 dftT,ks.getD 1 dftT]
mutual
def Tree.nrm (neg:Bool) (t:Tree):Tree:=match t with
 |.mk k v l=>if k=3 then (Tree.nrms (!neg) l).getD 0 dftT else z876 k v neg (Tree.nrms neg l)
def Tree.nrms (neg:Bool) (l:List Tree):List Tree:=match l with
 |[]=>[]
 |t::r=>Tree.nrm neg t::Tree.nrms neg r
end
theorem z1156 (neg:Bool):(Tree.mk 1 0 []).nrm neg=if neg then notT (.mk 1 0 []) else .mk 1 0 []:=by simp [Tree.nrm,Tree.nrms,z876]
theorem z1158 (neg:Bool) (v:Int):(Tree.mk 2 v []).nrm neg=if neg then notT (.mk 2 v []) else .mk 2 v []:=by simp [Tree.nrm,Tree.nrms,z876]
theorem z874 (neg:Bool) (v:Int) (a:Tree):(Tree.mk 3 v [a]).nrm neg=a.nrm (!neg):=by simp [Tree.nrm,Tree.nrms]
theorem z682 (neg:Bool) (v:Int) (a:Tree):(Tree.mk 6 v [a]).nrm neg=.mk 6 0 [a.nrm neg]:=by simp [Tree.nrm,Tree.nrms,z876]
theorem z1157 (neg:Bool) (v:Int) (a:Tree):(Tree.mk 9 v [a]).nrm neg=if neg then .mk 8 0 [notT truT,a.nrm neg] else .mk 7 0 [truT,a.nrm neg]:=by cases neg<;>simp [Tree.nrm,Tree.nrms,z876]
theorem z1159 (neg:Bool) (v:Int) (a:Tree):(Tree.mk 10 v [a]).nrm neg=if neg then .mk 7 0 [truT,a.nrm neg] else .mk 8 0 [notT truT,a.nrm neg]:=by cases neg<;>simp [Tree.nrm,Tree.nrms,z876]
theorem z875 (neg:Bool) (k v:Int) (a b:Tree) (hk:k=4∨k=5∨k=7∨k=8):(Tree.mk k v [a,b]).nrm neg=.mk (if neg then z1229 k else k) 0 [a.nrm neg,b.nrm neg]:=by
 rcases hk with rfl|rfl|rfl|rfl<;>simp [Tree.nrm,Tree.nrms,z876]
theorem z516 (k v:Int) (a:Tree):(Tree.mk k v [a]).sz=1+a.sz:=by simp [Tree.sz,Tree.szs]
theorem z463 (k v:Int) (a b:Tree):(Tree.mk k v [a,b]).sz=2+(a.sz+b.sz):=by simp [Tree.sz,Tree.szs];omega
theorem z931 (k v:Int):(Tree.mk k v []).sz=0:=by simp [Tree.sz,Tree.szs]
theorem y29 (t:Tree):t.goodF→∀ neg,(t.nrm neg).sz≤4 * t.sz+3:=by
 induction t using y27 with|h t ih=>?_
 intro hg neg
 cases y22 hg with
 |tr=>rw [z1156];cases neg<;>simp [notT,z516,z931]
 |«at» v _ _=>rw [z1158];cases neg<;>simp [notT,z516,z931]
 |un k a hk ha =>
  have h1:=ih a (by simp [Tree.kids]) ha
  rw [z516]
  rcases hk with rfl|rfl|rfl|rfl
  ·rw [z874];have:=h1 (!neg);omega
  ·rw [z682,z516];have:=h1 neg;omega
  ·rw [z1157];have:=h1 neg;cases neg<;>simp [z463,notT,truT,z516,z931]<;>omega
  ·rw [z1159];have:=h1 neg;cases neg<;>simp [z463,notT,truT,z516,z931]<;>omega
 |bin k a b hk ha hb =>
  have h1:=ih a (by simp [Tree.kids]) ha neg
  have h2:=ih b (by simp [Tree.kids]) hb neg
  rw [z875 _ _ _ _ _ hk,z463,z463];omega
noncomputable def addT (o:List Tree) (t:Tree):List Tree:=if t∈o then o else o++[t]
mutual
noncomputable def Tree.subs (t:Tree) (o:List Tree):List Tree:=match t with
 |.mk k v l=>addT (Tree.subss l o) (.mk k v l)
noncomputable def Tree.subss (l:List Tree) (o:List Tree):List Tree:=match l with
 |[]=>o
 |t::r=>Tree.subss r (Tree.subs t o)
end
theorem y33 (t:Tree) (o:List Tree):t.subs o=addT (Tree.subss t.kids o) t:=by cases t;rw [Tree.subs];rfl
theorem y34 (l:List Tree) (t:Tree):∀ o,Tree.subss (l++[t]) o=t.subs (Tree.subss l o):=by
 induction l with
 |nil=>intro o;simp [Tree.subss]
 |cons u l ih=>intro o;simp only [List.cons_append,Tree.subss];exact ih _
theorem y35 {l:List Tree} {k:Nat} (h:k < l.length) (o:List Tree):Tree.subss (l.take (k+1)) o=l[k].subs (Tree.subss (l.take k) o):=by
 rw [y47 h,y34]
theorem z355 {o:List Tree} {t x:Tree} : x∈addT o t↔x∈o∨x=t:=by
 unfold addT
 split
 ·rename_i h
  constructor
  ·exact .inl
  ·rintro (h1|rfl)
   ·exact h1
   ·exact h
 ·simp
theorem z1067 {o:List Tree} {t:Tree} (h:o.Nodup):(addT o t).Nodup:=by
 unfold addT
 split
 ·exact h
 ·rename_i hn
  rw [y73]
  exact ⟨h,by simp,fun a ha b hb=>by rintro rfl;rw [List.mem_singleton.1 hb] at ha;exact hn ha⟩
theorem addT_len (o:List Tree) (t:Tree):(addT o t).length≤o.length+1:=by unfold addT;split<;>simp
theorem z440:∀ t:Tree,∀ o:List Tree,(o.Nodup→(t.subs o).Nodup)∧(∀ x∈o,x∈t.subs o)∧t∈t.subs o∧(t.subs o).length≤o.length+t.sz+1∧(∀ x∈t.subs o,x∈o∨x.sz≤t.sz)∧((∀ x∈o,∀ u∈x.kids,u∈o)→∀ x∈t.subs o,∀ u∈x.kids,u∈t.subs o):=by
 intro t
 induction t using y27 with|h t ih=>?_
 have key:∀ (l:List Tree),(∀ u∈l,u∈t.kids)→∀ o:List Tree,(o.Nodup→(Tree.subss l o).Nodup)∧(∀ x∈o,x∈Tree.subss l o)∧(∀ u∈l,u∈Tree.subss l o)∧(Tree.subss l o).length≤o.length+(l.map fun u=>u.sz+1).sum∧(∀ x∈Tree.subss l o,x∈o∨∃ u∈l,x.sz≤u.sz)∧((∀ x∈o,∀ u∈x.kids,u∈o)→∀ x∈Tree.subss l o,∀ u∈x.kids,u∈Tree.subss l o):=by
  intro l
  induction l with
  |nil=>intro _ o;simp [Tree.subss]
  |cons u l ihl =>
   intro hl o
   obtain ⟨a1,a2,a3,a4,a5,a6⟩:=ih u (hl u (by simp)) o
   obtain ⟨b1,b2,b3,b4,b5,b6⟩:=ihl (fun x hx=>hl x (y70 _ hx)) (u.subs o)
   rw [Tree.subss]
   refine ⟨fun h=>b1 (a1 h),fun x hx=>b2 x (a2 x hx),fun x hx=>?_,?_,fun x hx=>?_,fun h=>b6 (a6 h)⟩
   ·rcases List.mem_cons.1 hx with rfl|hx
    ·exact b2 _ a3
    ·exact b3 x hx
   ·simp only [List.map_cons,List.sum_cons];omega
   ·rcases b5 x hx with h|⟨y,hy,h⟩
    ·rcases a5 x h with h|h
     ·exact .inl h
     ·exact .inr ⟨u,by simp,h⟩
    ·exact .inr ⟨y,y70 _ hy,h⟩
 intro o
 obtain ⟨b1,b2,b3,b4,b5,b6⟩:=key t.kids (fun _ h=>h) o
 rw [y33]
 have hsz:=y36 t
 have hsum:(t.kids.map fun u=>u.sz+1).sum=t.kids.length+(t.kids.map Tree.sz).sum:=by
  generalize t.kids=l
  induction l with
  |nil=>rfl
  |cons a l ih=>simp only [List.map_cons,List.sum_cons,y55,ih];omega
 refine ⟨fun h=>z1067 (b1 h),fun x hx=>z355.2 (.inl (b2 x hx)),z355.2 (.inr rfl),?_,fun x hx=>?_,fun h x hx u hu=>z355.2 (.inl ?_)⟩
 ·have:=addT_len (Tree.subss t.kids o) t
  omega
 ·rcases z355.1 hx with h|rfl
  ·rcases b5 x h with h|⟨u,hu,h⟩
   ·exact .inl h
   ·have:=z472 Tree.sz hu
    exact .inr (by omega)
  ·exact .inr (y49 _)
 ·rcases z355.1 hx with h2|rfl
  ·exact b6 h x h2 u hu
  ·exact b3 u hu
def z109 (t:Tree):Bool:=decide (t.kind=2∨t.kind=6∨t.kind=7∨t.kind=8)
noncomputable def bscL (t:Tree):List Tree:=(t.subs []).filter z109
noncomputable def bscB (t:Tree):Bool:=decide ((t.fmB=true∧(t.nrm false).fmB=true)∧(bscL (t.nrm false)).length≤5)
def semOp (w:Nat→Int) (k v:Int) (ks:List (Nat→Prop)) (i:Nat):Prop :=
 if k=2 then hasB (w i) v=true
 else if k=3 then ¬ (ks.getD 0 fun _=>False) i
 else if k=4 then (ks.getD 0 fun _=>False) i∧(ks.getD 1 fun _=>False) i
 else if k=5 then (ks.getD 0 fun _=>False) i∨(ks.getD 1 fun _=>False) i
 else if k=6 then (ks.getD 0 fun _=>False) (i+1)
 else if k=7 then ∃ j,i≤j∧(ks.getD 1 fun _=>False) j∧∀ m,i≤m→m < j→(ks.getD 0 fun _=>False) m
 else if k=8 then ∀ j,i≤j→(ks.getD 1 fun _=>False) j∨∃ m,i≤m∧m < j∧(ks.getD 0 fun _=>False) m
 else if k=9 then ∃ j,i≤j∧(ks.getD 0 fun _=>False) j
 else if k=10 then ∀ j,i≤j→(ks.getD 0 fun _=>False) j
 else True
mutual
def Tree.sem (w:Nat→Int) (t:Tree):Nat→Prop:=match t with
 |.mk k v l=>semOp w k v (Tree.sems w l)
def Tree.sems (w:Nat→Int) (l:List Tree):List (Nat→Prop):=match l with
 |[]=>[]
 |t::r=>Tree.sem w t::Tree.sems w r
end
section
variable (w:Nat→Int)
end
mutual
def Tree.vl (σ:Tree→Bool) (t:Tree):Bool:=match t with
 |.mk k v l=>if k=1 then true else if k=3 then !((Tree.vls σ l).getD 0 false) else if k=4 then (Tree.vls σ l).getD 0 false && (Tree.vls σ l).getD 1 false else if k=5 then (Tree.vls σ l).getD 0 false || (Tree.vls σ l).getD 1 false else σ (.mk k v l)
def Tree.vls (σ:Tree→Bool) (l:List Tree):List Bool:=match l with
 |[]=>[]
 |t::r=>Tree.vl σ t::Tree.vls σ r
end
inductive NF:Tree→Prop
 |tr:NF (.mk 1 0 [])
 |at (v:Int):NF (.mk 2 v [])
 |nt:NF (.mk 3 0 [.mk 1 0 []])
 |na (v:Int):NF (.mk 3 0 [.mk 2 v []])
 |an {a b:Tree} : NF a→NF b→NF (.mk 4 0 [a,b])
 |or {a b:Tree} : NF a→NF b→NF (.mk 5 0 [a,b])
 |nx {a:Tree} : NF a→NF (.mk 6 0 [a])
 |un {a b:Tree} : NF a→NF b→NF (.mk 7 0 [a,b])
 |re {a b:Tree} : NF a→NF b→NF (.mk 8 0 [a,b])
theorem nrm_NF (t:Tree):t.goodF→∀ neg,NF (t.nrm neg):=by
 induction t using y27 with|h t ih=>?_
 intro hg neg
 cases y22 hg with
 |tr=>rw [z1156];cases neg;exact .tr;exact .nt
 |«at» v _ _=>rw [z1158];cases neg;exact .at v;exact .na v
 |un k a hk ha =>
  have h1:=ih a (by simp [Tree.kids]) ha
  rcases hk with rfl|rfl|rfl|rfl
  ·rw [z874];exact h1 _
  ·rw [z682];exact .nx (h1 _)
  ·rw [z1157];cases neg;exact .un .tr (h1 _);exact .re .nt (h1 _)
  ·rw [z1159];cases neg;exact .re .nt (h1 _);exact .un .tr (h1 _)
 |bin k a b hk ha hb =>
  have h1:=ih a (by simp [Tree.kids]) ha neg
  have h2:=ih b (by simp [Tree.kids]) hb neg
  rw [z875 _ _ _ _ _ hk]
  rcases hk with rfl|rfl|rfl|rfl<;>cases neg<;>first|exact .an h1 h2|exact .or h1 h2|exact .un h1 h2|exact .re h1 h2
section
variable {σ:Tree→Bool}
theorem vl_tr:(Tree.mk 1 0 []).vl σ=true:=by simp [Tree.vl]
theorem vl_not (v:Int) (a:Tree):(Tree.mk 3 v [a]).vl σ=!a.vl σ:=by simp [Tree.vl,Tree.vls]
theorem vl_and (v:Int) (a b:Tree):(Tree.mk 4 v [a,b]).vl σ=(a.vl σ && b.vl σ):=by simp [Tree.vl,Tree.vls]
theorem vl_or (v:Int) (a b:Tree):(Tree.mk 5 v [a,b]).vl σ=(a.vl σ || b.vl σ):=by simp [Tree.vl,Tree.vls]
theorem vl_at (v:Int):(Tree.mk 2 v []).vl σ=σ (.mk 2 v []):=by simp [Tree.vl]
theorem vl_nx (v:Int) (l:List Tree):(Tree.mk 6 v l).vl σ=σ (.mk 6 v l):=by simp [Tree.vl]
theorem vl_un (v:Int) (l:List Tree):(Tree.mk 7 v l).vl σ=σ (.mk 7 v l):=by simp [Tree.vl]
theorem vl_re (v:Int) (l:List Tree):(Tree.mk 8 v l).vl σ=σ (.mk 8 v l):=by simp [Tree.vl]
end
inductive In (B:Tree→Prop):Tree→Prop
 |tr:In B (.mk 1 0 [])
 |at (v:Int):B (.mk 2 v [])→In B (.mk 2 v [])
 |nt:In B (.mk 3 0 [.mk 1 0 []])
 |na (v:Int):B (.mk 2 v [])→In B (.mk 3 0 [.mk 2 v []])
 |an {a b:Tree} : In B a→In B b→In B (.mk 4 0 [a,b])
 |or {a b:Tree} : In B a→In B b→In B (.mk 5 0 [a,b])
 |nx {a:Tree} : B (.mk 6 0 [a])→In B a→In B (.mk 6 0 [a])
 |un {a b:Tree} : B (.mk 7 0 [a,b])→In B a→In B b→In B (.mk 7 0 [a,b])
 |re {a b:Tree} : B (.mk 8 0 [a,b])→In B a→In B b→In B (.mk 8 0 [a,b])
end Go.Gl
namespace Go.Gl
noncomputable def plc (B:List Tree) (t:Tree):Int:=match B.findIdx? (fun x=>decide (x=t)) with
 |some i=>i
 |none=>-1
noncomputable def sgB (B:List Tree) (s:Int) (t:Tree):Bool:=hasB s (plc B t)
theorem plc_mem {B:List Tree} {t:Tree} (h:t∈B):0≤plc B t∧plc B t < B.length:=by
 unfold plc
 split
 ·rename_i i e
  obtain ⟨h1,_,_⟩:=List.findIdx?_eq_some_iff_getElem.1 e
  omega
 ·rename_i e
  have:=List.findIdx?_eq_none_iff.1 e t h
  simp at this
noncomputable def vlB (B:List Tree) (s:Int) (t:Tree):Bool:=t.vl (sgB B s)
noncomputable def kidV (B:List Tree) (s:Int) (t:Tree) (j:Nat):Bool:=vlB B s (t.kids.getD j dftT)
noncomputable def folV (B:List Tree) (s t:Int) (f:Tree) (now next:Bool):Bool :=
 if f.kind=6 then kidV B t f 0
 else if f.kind=7 then kidV B s f 1 || (kidV B s f 0 && next)
 else if f.kind=8 then kidV B s f 1 && (kidV B s f 0 || next)
 else now
noncomputable def folI (B:List Tree) (s t:Int) (i:Nat):Bool:=folV B s t (B.getD i dftT) (hasB s i) (hasB t i) == hasB s i
noncomputable def folB (B:List Tree) (s t:Int):Bool:=(List.range B.length).all fun i=>folI B s t i
noncomputable def atoI (B:List Tree) (s:Int) (p:Nat×Nat) (i:Nat):Nat×Nat:=if (B.getD i dftT).kind=2 then (p.1 ||| 2 ^ (B.getD i dftT).val.toNat,if hasB s i=true then p.2 ||| 2 ^ (B.getD i dftT).val.toNat else p.2) else p
noncomputable def letB (B:List Tree) (s:Int):Nat×Nat:=(List.range B.length).foldl (atoI B s) (0,0)
noncomputable def untB (B:List Tree):List Int:=((List.range B.length).filter fun i=>decide ((B.getD i dftT).kind=7)).map Int.ofNat
noncomputable def fulB (B:List Tree) (s:Int) (u:Int):Bool:=!hasB s u || kidV B s (B.getD u.toNat dftT) 1
noncomputable def phB (B:List Tree) (U:List Int) (s ph:Int):Int×Bool :=
 if U.length=0 then (0,true) else if fulB B s (U.getD ph.toNat 0)=true then ((ph+1) % (U.length:Int),decide (ph=0)) else (ph,false)
noncomputable def z162 (L:List (List Int)) (p:List Int):List (List Int):=if p∈L then L else L++[p]
noncomputable def z303 (L:List (List Int)) (p:List Int):Nat:=L.idxOf p
structure Edg where
 src:Int
 care:Int
 val:Int
 dst:Int
structure TrS where
 L:List (List Int)
 acc:List Bool
 ed:List Edg
noncomputable def z123 (B:List Tree) (s ph:Int) (i:Nat) (c v:Int) (x:List (List Int)×List Edg) (t:Nat):List (List Int)×List Edg :=
 if folB B s t=true then (z162 x.1 [(t:Int),ph],x.2++[⟨i,c,v,z303 x.1 [(t:Int),ph]⟩]) else x
noncomputable def z240 (B:List Tree) (U:List Int) (i:Nat) (x:TrS):TrS :=
 let s:=(x.L.getD i []).getD 0 0
 let q:=phB B U s ((x.L.getD i []).getD 1 0)
 let c:=letB B s
 let y:=(List.range (2 ^ B.length)).foldl (z123 B s q.1 i c.1 c.2) (x.L,x.ed)
 ⟨y.1,x.acc++[q.2],y.2⟩
noncomputable def goS (B:List Tree) (U:List Int):Nat→Nat→TrS→Option TrS
 |0,_,_=>none
 |f+1,i,x=>if i < x.L.length then (if 64 < x.L.length then none else goS B U f (i+1) (z240 B U i x)) else some x
noncomputable def iniS (B:List Tree) (g:Tree):List (List Int):=((List.range (2 ^ B.length)).filter fun s=>vlB B (s:Nat) g).map fun s:Nat=>[(s:Int),0]
theorem subs_all {p:Tree→Prop} (hk:∀ x,p x→∀ u∈x.kids,p u):∀ t:Tree,∀ o:List Tree,p t→(∀ x∈o,p x)→∀ x∈t.subs o,p x:=by
 intro t
 induction t using y27 with|h t ih=>?_
 have key:∀ (l:List Tree),(∀ u∈l,u∈t.kids)→∀ o:List Tree,(∀ u∈l,p u)→(∀ x∈o,p x)→∀ x∈Tree.subss l o,p x:=by
  intro l
  induction l with
  |nil=>intro _ o _ ho;simpa [Tree.subss] using ho
  |cons u l ihl =>
   intro hl o hp ho
   rw [Tree.subss]
   exact ihl (fun x hx=>hl x (y70 _ hx)) _ (fun x hx=>hp x (y70 _ hx)) (ih u (hl u (by simp)) o (hp u (by simp)) ho)
 intro o ht ho x hx
 rw [y33] at hx
 rcases z355.1 hx with h|rfl
 ·exact key t.kids (fun _ h=>h) o (hk t ht) ho x h
 ·exact ht
theorem NF.kids {t:Tree} (h:NF t):∀ u∈t.kids,NF u:=by
 cases h with
 |tr=>intro u hu;simp [Tree.kids] at hu
 |«at» v=>intro u hu;simp [Tree.kids] at hu
 |nt=>intro u hu;simp [Tree.kids] at hu;subst hu;exact .tr
 |na v=>intro u hu;simp [Tree.kids] at hu;subst hu;exact .at v
 |an ha hb=>intro u hu;simp [Tree.kids] at hu;rcases hu with rfl|rfl<;>assumption
 |or ha hb=>intro u hu;simp [Tree.kids] at hu;rcases hu with rfl|rfl<;>assumption
 |nx ha=>intro u hu;simp [Tree.kids] at hu;subst hu;assumption
 |un ha hb=>intro u hu;simp [Tree.kids] at hu;rcases hu with rfl|rfl<;>assumption
 |re ha hb=>intro u hu;simp [Tree.kids] at hu;rcases hu with rfl|rfl<;>assumption
theorem in_of {L:List Tree} (hcl:∀ x∈L,∀ u∈x.kids,u∈L) {t:Tree} (h:NF t):t∈L→In (·∈L.filter z109) t:=by
 have bs:∀ x,x∈L→z109 x=true→x∈L.filter z109:=fun x h1 h2=>List.mem_filter.2 ⟨h1,h2⟩
 induction h with
 |tr=>intro _;exact .tr
 |«at» v=>intro ht;exact .at v (bs _ ht (by simp [z109,Tree.kind]))
 |nt=>intro _;exact .nt
 |na v=>intro ht;exact .na v (bs _ (hcl _ ht _ (by simp [Tree.kids])) (by simp [z109,Tree.kind]))
 |an _ _ iha ihb=>intro ht;exact .an (iha (hcl _ ht _ (by simp [Tree.kids]))) (ihb (hcl _ ht _ (by simp [Tree.kids])))
 |or _ _ iha ihb=>intro ht;exact .or (iha (hcl _ ht _ (by simp [Tree.kids]))) (ihb (hcl _ ht _ (by simp [Tree.kids])))
 |nx _ iha=>intro ht;exact .nx (bs _ ht (by simp [z109,Tree.kind])) (iha (hcl _ ht _ (by simp [Tree.kids])))
 |un _ _ iha ihb=>intro ht;exact .un (bs _ ht (by simp [z109,Tree.kind])) (iha (hcl _ ht _ (by simp [Tree.kids]))) (ihb (hcl _ ht _ (by simp [Tree.kids])))
 |re _ _ iha ihb=>intro ht;exact .re (bs _ ht (by simp [z109,Tree.kind])) (iha (hcl _ ht _ (by simp [Tree.kids]))) (ihb (hcl _ ht _ (by simp [Tree.kids])))
theorem z1059 {u:Tree} (hg:u.goodF) (hn:NF u):(bscL u).Nodup∧(∀ x∈bscL u,x.sz≤u.sz)∧(∀ x∈bscL u,In (·∈bscL u) x)∧(∀ x∈bscL u,z109 x=true)∧(∀ v,Tree.mk 2 v []∈bscL u→0≤v∧v≤2)∧In (·∈bscL u) u:=by
 obtain ⟨h1,_,h3,_,h5,h6⟩:=z440 u []
 have hcl:=h6 (by simp)
 have hall:=subs_all (p:=fun x=>NF x∧x.goodF) (fun x hx v hv=>⟨hx.1.kids v hv,(y23 hx.2).2.2.2 v hv⟩) u [] ⟨hn,hg⟩ (by simp)
 unfold bscL
 generalize u.subs []=L at *
 refine ⟨(h1 List.nodup_nil).filter _,fun x hx=>?_,fun x hx=>?_,fun x hx=>(List.mem_filter.1 hx).2,fun v hv=>?_,in_of hcl hn h3⟩
 ·rcases h5 x (List.mem_filter.1 hx).1 with h|h
  ·simp at h
  ·exact h
 ·have hx:=(List.mem_filter.1 hx).1
  exact in_of hcl (hall x hx).1 hx
 ·have hx:=(List.mem_filter.1 hv).1
  obtain ⟨_,a,b,_⟩:=y23 (hall _ hx).2
  simp [Tree.val,Tree.kind,z543] at a b
  exact ⟨a,b⟩
theorem z958 (B:List Tree) (g:Tree):(iniS B g).length≤2 ^ B.length:=by
 unfold iniS
 rw [y46]
 have:=List.length_filter_le (fun s=>vlB B (s:Nat) g) (List.range (2 ^ B.length))
 simpa using this
def RowS (n:Nat) (U:List Int) (r:List Int):Prop:=∃ (s ph:Nat),r=[(s:Int),(ph:Int)]∧s < 2 ^ n∧(U.length=0∨ph < U.length)
def numI (n:Nat):List Int:=(List.range n).map Int.ofNat
theorem z1154 (n:Nat):numI (n+1)=numI n++[(n:Int)]:=by
 unfold numI;rw [y59,y61];rfl
theorem z679 (n:Nat):(numI n).length=n:=by simp [numI]
def iniK (B:List Tree) (V:Nat→Bool) (k:Nat):List (List Int):=((List.range k).filter V).map fun s:Nat=>[(s:Int),0]
theorem z1198 (B:List Tree) (V:Nat→Bool) (k:Nat):iniK B V (k+1)=iniK B V k++(if V k=true then [[(k:Int),0]] else []):=by
 unfold iniK
 rw [y59,List.filter_append,y61]
 congr 1
 by_cases h:V k=true
 ·rw [if_pos h,List.filter_cons_of_pos h];rfl
 ·rw [if_neg h,List.filter_cons_of_neg h];rfl
theorem iniK_len (B:List Tree) (V:Nat→Bool) (k:Nat):(iniK B V k).length≤k:=by
 unfold iniK
 rw [y46]
 have:=List.length_filter_le V (List.range k)
 simpa using this
theorem iniK_row (B:List Tree) (V:Nat→Bool) (k n:Nat) (U:List Int) (hk:k≤2 ^ n):∀ r∈iniK B V k,RowS n U r:=by
 intro r hr
 unfold iniK at hr
 obtain ⟨s,hs,rfl⟩:=List.mem_map.1 hr
 have:=List.mem_range.1 (List.mem_filter.1 hs).1
 exact ⟨s,0,rfl,by omega,by omega⟩
noncomputable def trS (B:List Tree) (g:Tree):Option TrS:=goS B (untB B) 65 0 ⟨iniS B g,[],[]⟩
theorem phB_row {B:List Tree} {U:List Int} {s ph:Nat} (h:U.length=0∨ph < U.length):∃ q:Nat,(phB B U s ph).1=q∧(U.length=0∨q < U.length):=by
 unfold phB
 by_cases h0:U.length=0
 ·rw [if_pos h0];exact ⟨0,rfl,.inl h0⟩
 ·rw [if_neg h0]
  split
  ·refine ⟨(ph+1) % U.length,by simp,.inr (Nat.mod_lt _ (by omega))⟩
  ·exact ⟨ph,rfl,h⟩
theorem z970 (B:List Tree) (s ph:Int) (i:Nat) (c v:Int):∀ (l:List Nat) (x:List (List Int)×List Edg),(l.foldl (z123 B s ph i c v) x).2.length≤x.2.length+l.length
 |[],x=>by simp
 |t::l,x=>by
  rw [List.foldl_cons,y55]
  have h:=z970 B s ph i c v l (z123 B s ph i c v x t)
  have:(z123 B s ph i c v x t).2.length≤x.2.length+1:=by
   unfold z123
   split
   ·simp
   ·omega
  omega
theorem z1203 (B:List Tree) (U:List Int):∀ (f i:Nat) (x y:TrS),goS B U f i x=some y→y.acc.length≤x.acc.length+f∧y.ed.length≤x.ed.length+f * 2 ^ B.length
 |0,i,x,y,h=>by simp [goS] at h
 |f+1,i,x,y,h=>by
  rw [goS] at h
  split at h
  ·split at h
   ·cases h
   ·have h1:=z1203 B U f (i+1) (z240 B U i x) y h
    have h2:(z240 B U i x).acc.length=x.acc.length+1:=by simp [z240]
    have h3:(z240 B U i x).ed.length≤x.ed.length+2 ^ B.length:=by
     have:=z970 B ((x.L.getD i []).getD 0 0) (phB B U ((x.L.getD i []).getD 0 0) ((x.L.getD i []).getD 1 0)).1 i (letB B ((x.L.getD i []).getD 0 0)).1 (letB B ((x.L.getD i []).getD 0 0)).2 (List.range (2 ^ B.length)) (x.L,x.ed)
     rw [List.length_range] at this
     exact this
    rw [Nat.add_mul]
    omega
  ·cases h
   rw [Nat.add_mul]
   omega
def visP (u:Int) (x:List Int×List Int) (v:Int):List Int×List Int:=if v∈x.1 then x else (x.1++[v],x.2.set v.toNat u)
def visPs (u:Int) (x:List Int×List Int) (l:List Int):List Int×List Int:=l.foldl (visP u) x
theorem z648 {u:Int} {x:List Int×List Int} {v:Int} (h:v ∉ x.1):visP u x v=(x.1++[v],x.2.set v.toNat u):=by unfold visP;rw [if_neg h]
theorem z647 {u:Int} {x:List Int×List Int} {v:Int} (h:v∈x.1):visP u x v=x:=by unfold visP;rw [if_pos h]
theorem z988 {u:Int} {x:List Int×List Int} {l:List Int} {k:Nat} (h:k < l.length):visPs u x (l.take (k+1))=visP u (visPs u x (l.take k)) l[k]:=by
 unfold visPs
 rw [y47 h,y60];rfl
theorem z649 (u:Int) (x:List Int×List Int) (v:Int):(visP u x v).1=z134 x.1 v:=by
 unfold visP z134;split<;>rfl
theorem z510 (u:Int) (l:List Int):∀ x:List Int×List Int,(visPs u x l).1=z75 x.1 l:=by
 induction l with
 |nil=>intro x;rfl
 |cons v l ih =>
  intro x
  show (visPs u (visP u x v) l).1=z75 (z134 x.1 v) l
  rw [ih,z649]
structure PJ (N:Nat) (x:List Int×List Int):Prop where
 len:x.2.length=N
 inn:InN N x.1
 nd:x.1.Nodup
 pre:∀ k (h:k < x.1.length),x.2.getD (x.1[k]).toNat 0=-1∨∃ j,∃ h' : j < x.1.length,j < k∧x.2.getD (x.1[k]).toNat 0=x.1[j]
theorem PJ.visP {N:Nat} {x:List Int×List Int} (h:PJ N x) {i:Nat} (hi:i < x.1.length) {u v:Int} (hu:u=x.1[i]) (hv:0≤v∧v < N):PJ N (visP u x v):=by
 by_cases hm:v∈x.1
 ·rw [z647 hm];exact h
 ·rw [z648 hm]
  refine ⟨by simp [h.len],fun y hy=>?_,?_,fun k hk=>?_⟩
  ·rcases List.mem_append.1 hy with h1|h1
   ·exact h.inn y h1
   ·rw [List.mem_singleton.1 h1];exact hv
  ·rw [y73]
   exact ⟨h.nd,by simp,fun a ha b hb=>by rintro rfl;rw [List.mem_singleton.1 hb] at ha;exact hm ha⟩
  ·have hk' : k < x.1.length+1:=by simpa using hk
   have hl:=h.len
   by_cases hkl:k < x.1.length
   ·have e:(x.1++[v])[k]=x.1[k]:=List.getElem_append_left hkl
    dsimp only
    rw [e]
    have hne:v≠x.1[k]:=fun e=>hm (e ▸ y41 hkl)
    have hin:=h.inn _ (y41 hkl)
    have e2:(x.2.set v.toNat u).getD (x.1[k]).toNat 0=x.2.getD (x.1[k]).toNat 0:=by
     rw [y65,List.getElem?_set_ne (by omega),← y65]
    rw [e2]
    rcases h.pre k hkl with h1|⟨j,hj,h1,h2⟩
    ·exact .inl h1
    ·exact .inr ⟨j,by simp;omega,h1,by rw [h2,List.getElem_append_left hj]⟩
   ·obtain rfl:k=x.1.length:=by omega
    right
    refine ⟨i,by simp;omega,hi,?_⟩
    dsimp only
    rw [List.getElem_append_left hi]
    simp only [List.getElem_append_right (y49 _),Nat.sub_self,List.getElem_cons_zero]
    rw [z20 (by simp;omega),List.getElem_set_self,hu]
theorem PJ.visPs {N:Nat} {u:Int} (l:List Int):∀ {x:List Int×List Int} (_:PJ N x) {i:Nat} (hi:i < x.1.length) (_:u=x.1[i]) (_:InN N l),PJ N (visPs u x l)∧∃ h' : i < (Go.Gl.visPs u x l).1.length,(Go.Gl.visPs u x l).1[i]=u:=by
 induction l with
 |nil=>intro x h i hi hu hl;exact ⟨h,hi,hu.symm⟩
 |cons v l ih =>
  intro x h i hi hu hl
  have h1:=h.visP hi hu (hl v (by simp))
  obtain ⟨t,ht⟩:=z508 x.1 v
  have hf:=z649 u x v
  rw [ht] at hf
  have hi1:i < (Go.Gl.visP u x v).1.length:=by rw [hf,y44];omega
  exact ih h1 hi1 (by simp only [hf,List.getElem_append_left hi];exact hu) fun y hy=>hl y (by simp [hy])
def srS (rows:List (List Int)) (ini:List Int):Nat→List Int×List Int
 |0=>(ini,List.replicate rows.length (-1))
 |i+1=>if h:i < (srS rows ini i).1.length then visPs (srS rows ini i).1[i] (srS rows ini i) (rows.getD ((srS rows ini i).1[i]).toNat []) else srS rows ini i
def srQ (rows:List (List Int)) (ini:List Int):List Int:=(srS rows ini rows.length).1
def srP (rows:List (List Int)) (ini:List Int):List Int:=(srS rows ini rows.length).2
section
variable {rows:List (List Int)} {ini:List Int}
theorem z611 (hr:∀ r∈rows,InN rows.length r) (hi:InN rows.length ini) (hn:ini.Nodup) (i:Nat):PJ rows.length (srS rows ini i):=by
 induction i with
 |zero =>
  refine ⟨by simp [srS],hi,hn,fun k hk=>.inl ?_⟩
  have:=hi _ (y41 hk)
  show (List.replicate rows.length (-1)).getD _ 0=_
  rw [z20 (by simp;have:(srS rows ini 0).1[k]=ini[k]:=rfl;omega)]
  simp
 |succ i ih =>
  rw [srS];split
  ·rename_i h
   exact (PJ.visPs _ ih h rfl (z301 hr _)).1
  ·exact ih
theorem z1073 {l:List Int} : ∀ {out:List Int},(out++l).Nodup→z75 out l=out++l:=by
 induction l with
 |nil=>intro out _;simp [z75]
 |cons v l ih =>
  intro out h
  show z75 (z134 out v) l=_
  have hv:v ∉ out:=fun hm=>by
   rw [y73] at h
   exact h.2.2 v hm v (by simp) rfl
  have:z134 out v=out++[v]:=by unfold z134;rw [if_neg hv]
  rw [this,ih (by simpa using h)]
  simp
theorem z848 (hn:ini.Nodup) (i:Nat):(srS rows ini i).1=bfs rows ini i:=by
 induction i with
 |zero =>
  show ini=z75 [] ini
  rw [z1073 (by simpa using hn)];rfl
 |succ i ih =>
  rw [srS,bfs]
  by_cases h:i < (srS rows ini i).1.length
  ·have h2:i < (bfs rows ini i).length:=by rw [← ih];exact h
   rw [dif_pos h,dif_pos h2,z510]
   simp only [ih]
  ·have h2:¬ i < (bfs rows ini i).length:=by rw [← ih];exact h
   rw [dif_neg h,dif_neg h2,ih]
theorem z1099 {i j:Nat} (h:(srS rows ini i).1.length≤i) (hij:i≤j):srS rows ini j=srS rows ini i:=by
  induction j with
  | zero => obtain rfl : i = 0 := by omega
            rfl
  | succ j ih =>
    rcases y67 j i with h1|h1
    · obtain rfl:i=j+1:=by omega
      rfl
    · have e:=ih h1
      rw [srS,dif_neg (by rw [e];omega),e]
theorem z1098 (hr:∀ r∈rows,InN rows.length r) (hi:InN rows.length ini) (hn:ini.Nodup) (i:Nat):(srS rows ini i).1.length≤rows.length :=
 z199 _ _ (z611 hr hi hn i).nd (z611 hr hi hn i).inn
theorem srS_end {i:Nat} (h:(srS rows ini i).1.length≤i) (hil:i≤rows.length):srS rows ini i=(srQ rows ini,srP rows ini):=(z1099 h hil).symm
end
def bkw (P:List Int):Nat→Int→List Int→List Int
 |0,v,tl=>v::tl
 |f+1,v,tl=>if 0≤P.getD v.toNat 0 then bkw P f (P.getD v.toNat 0) (v::tl) else v::tl
def BackOk (P:List Int):Nat→Int→Prop
 |0,v=>(0≤v∧v < P.length)∧P.getD v.toNat 0 < 0
 |f+1,v=>(0≤v∧v < P.length)∧(P.getD v.toNat 0 < 0∨BackOk P f (P.getD v.toNat 0))
theorem BackOk.up {P:List Int} : ∀ {f:Nat} {v:Int},BackOk P f v→BackOk P (f+1) v
 |0,_,h=>⟨h.1,.inl h.2⟩
 |_+1,_,h=>⟨h.1,h.2.imp id fun h=>h.up⟩
theorem BackOk.le {P:List Int} {f g:Nat} {v:Int} (h:BackOk P f v) (hg:f≤g):BackOk P g v:=by
  induction g with
  | zero => obtain rfl : f = 0 := by omega
            exact h
  | succ g ih =>
    rcases y67 g f with h1|h1
    · obtain rfl:f=g+1:=by omega
      exact h
    · exact (ih h1).up
theorem PJ.back {N:Nat} {x:List Int×List Int} (h:PJ N x):∀ (k:Nat) (hk:k < x.1.length),BackOk x.2 k x.1[k]:=by
 intro k
 induction k using Nat.strongRecOn with
 |ind k ih =>
  intro hk
  have hin:=h.inn _ (y41 hk)
  rw [← h.len] at hin
  rcases h.pre k hk with h1|⟨j,hj,h1,h2⟩
  ·exact (show BackOk x.2 0 x.1[k] from ⟨hin,by omega⟩).le (y50 _)
  ·have h3:=(ih j h1 hj).le (show j≤k - 1 by omega)
   rw [← h2] at h3
   generalize x.1[k]=v at *
   obtain ⟨m,rfl⟩:∃ m,k=m+1:=⟨k - 1,by omega⟩
   exact ⟨hin,.inr h3⟩
theorem z714 (P:List Int):∀ (f:Nat) (v:Int) (tl:List Int),(bkw P f v tl).length≤f+1+tl.length
 |0,v,tl=>by rw [bkw,y55];omega
 |f+1,v,tl=>by
  rw [bkw];split
  ·have:=z714 P f (P.getD v.toNat 0) (v::tl)
   simp only [y55] at this
   omega
  ·rw [y55];omega
end Go.Gl
namespace Go.Gl
def cycT (rows:List (List Int)) (P:List Int) (v:Int):List Int→List Int
 |[]=>[]
 |u::t=>if v∈rows.getD u.toNat [] then bkw P rows.length u [] else cycT rows P v t
def cycL (rows:List (List Int)) (v:Int):List Int:=if v∈rows.getD v.toNat [] then [v] else cycT rows (srP rows [v]) v (srQ rows [v])
def finT (rows:List (List Int)) (acc:List Bool) (P:List Int):List Int→Option (List Int×List Int)
 |[]=>none
 |u::t=>if acc.getD (u % acc.length).toNat false=true then (if 0 < (cycL rows u).length then some (bkw P rows.length u [],cycL rows u) else finT rows acc P t) else finT rows acc P t
def stL (l:List Int) (n:Nat):List Int:=l.map fun x=>x / n
def finS (rows:List (List Int)) (ini:List Int) (acc:List Bool):Option (List Int×List Int):=finT rows acc (srP rows ini) (srQ rows ini)
theorem z974 (rows:List (List Int)) (P:List Int) (v:Int):∀ l,(cycT rows P v l).length≤rows.length+1
 |[]=>y50 _
 |u::t=>by
  rw [cycT];split
  ·exact z714 _ _ _ _
  ·exact z974 rows P v t
theorem z975 (rows:List (List Int)) (v:Int):(cycL rows v).length≤rows.length+1:=by
 unfold cycL;split
 ·simp
 ·exact z974 _ _ _ _
theorem z713 (P:List Int):∀ (f:Nat) (v:Int) (tl:List Int),1≤(bkw P f v tl).length
 |0,v,tl=>by rw [bkw,y55];omega
 |f+1,v,tl=>by
  rw [bkw];split
  ·exact z713 P f _ _
  ·rw [y55];omega
theorem z1250 {P:List Int} : ∀ (f:Nat) (v:Int) (tl:List Int),0≤v→(∀ x∈tl,0≤x)→∀ x∈bkw P f v tl,0≤x
 |0,v,tl,h0,h,x,hx=>by
  rw [bkw] at hx
  rcases List.mem_cons.1 hx with rfl|h1
  ·exact h0
  ·exact h x h1
 |f+1,v,tl,h0,h,x,hx=>by
  rw [bkw] at hx
  split at hx
  ·rename_i h2
   exact z1250 f _ _ h2 (fun y hy=>by
    rcases List.mem_cons.1 hy with rfl|h1
    ·exact h0
    ·exact h y h1) x hx
  ·rcases List.mem_cons.1 hx with rfl|h1
   ·exact h0
   ·exact h x h1
theorem z1233 (rows:List (List Int)) (P:List Int) (v:Int):∀ l:List Int,(∀ x∈l,0≤x)→∀ x∈cycT rows P v l,0≤x
 |[],_,x,hx=>by cases hx
 |u::t,h,x,hx=>by
  rw [cycT] at hx
  split at hx
  ·exact z1250 _ _ _ (h u (by simp)) (fun y hy=>by cases hy) x hx
  ·exact z1233 rows P v t (fun y hy=>h y (by simp [hy])) x hx
theorem z1101 {rows:List (List Int)} {ini:List Int} (hr:∀ r∈rows,InN rows.length r) (hi:InN rows.length ini) (hn:ini.Nodup):InN rows.length (srQ rows ini):=(z611 hr hi hn _).inn
theorem z767 {N:Nat} {v:Int} (h:0≤v∧v < N):InN N [v]:=fun x hx=>by rw [List.mem_singleton.1 hx];exact h
theorem cycL_nn {rows:List (List Int)} (hr:∀ r∈rows,InN rows.length r) {v:Int} (hv:0≤v∧v < rows.length):∀ x∈cycL rows v,0≤x:=by
 unfold cycL;split
 ·intro x hx;rw [List.mem_singleton.1 hx];exact hv.1
 ·exact z1233 _ _ _ _ fun x hx=>(z1101 hr (z767 hv) (by simp) x hx).1
theorem z920 {M u:Int} (hu:u≤M):∀ (l:List Int) (x:List Int×List Int),(∀ y∈x.2,y≤M)→∀ y∈(visPs u x l).2,y≤M
 |[],_,h=>h
 |v::l,x,h=>by
  refine z920 hu l (visP u x v) fun y hy=>?_
  unfold visP at hy
  split at hy
  ·exact h y hy
  ·rcases List.mem_or_eq_of_mem_set hy with h1|rfl
   ·exact h y h1
   ·exact hu
theorem srS_le {rows:List (List Int)} {ini:List Int} (hr:∀ r∈rows,InN rows.length r) (hi:InN rows.length ini) (hn:ini.Nodup) (i:Nat):∀ y∈(srS rows ini i).2,y≤rows.length:=by
 induction i with
 |zero =>
  intro y hy
  have:=List.eq_of_mem_replicate (show y∈List.replicate rows.length (-1) from hy)
  omega
 |succ i ih =>
  rw [srS];split
  ·rename_i h
   have:=(z611 hr hi hn i).inn _ (y41 h)
   exact z920 (by omega) _ _ ih
  ·exact ih
theorem z1251 {P:List Int} {M:Int} (hP:∀ x∈P,x≤M):∀ (f:Nat) (v:Int) (tl:List Int),v≤M→0≤M→(∀ x∈tl,x≤M)→∀ x∈bkw P f v tl,x≤M
 |0,v,tl,h0,_,h,x,hx=>by
  rw [bkw] at hx
  rcases List.mem_cons.1 hx with rfl|h1
  ·exact h0
  ·exact h x h1
 |f+1,v,tl,h0,hM,h,x,hx=>by
  have h2:∀ y∈v::tl,y≤M:=fun y hy=>by
   rcases List.mem_cons.1 hy with rfl|h1
   ·exact h0
   ·exact h y h1
  rw [bkw] at hx
  split at hx
  ·refine z1251 hP f _ _ ?_ hM h2 x hx
   by_cases hl:v.toNat < P.length
   ·rw [z20 hl];exact hP _ (y41 _)
   ·rw [y65,y66 (by omega)];exact hM
  ·exact h2 x hx
theorem z1234 (rows:List (List Int)) {P:List Int} {M:Int} (hP:∀ x∈P,x≤M) (hM:0≤M) (v:Int):∀ l:List Int,(∀ x∈l,x≤M)→∀ x∈cycT rows P v l,x≤M
 |[],_,x,hx=>by cases hx
 |u::t,h,x,hx=>by
  rw [cycT] at hx
  split at hx
  ·exact z1251 hP _ _ _ (h u (by simp)) hM (fun y hy=>by cases hy) x hx
  ·exact z1234 rows hP hM v t (fun y hy=>h y (by simp [hy])) x hx
theorem cycL_le {rows:List (List Int)} (hr:∀ r∈rows,InN rows.length r) {v:Int} (hv:0≤v∧v < rows.length):∀ x∈cycL rows v,x≤rows.length:=by
 unfold cycL;split
 ·intro x hx;rw [List.mem_singleton.1 hx];omega
 ·exact z1234 _ (srS_le hr (z767 hv) (by simp) _) (by omega) _ _ fun x hx=>by
   have:=z1101 hr (z767 hv) (by simp) x hx
   omega
structure TS where
 num:Nat→Int
 low:Nat→Int
 part:Nat→Int
 stk:List Nat
 cnt:Nat
 prt:Nat
def z220 (u:Nat) (s:TS):TS:={ s with num:=upd s.num u (s.cnt+1),low:=upd s.low u (s.cnt+1),stk:=s.stk++[u],cnt:=s.cnt+1 }
def tLow (u:Nat) (m:Int) (s:TS):TS:={ s with low:=upd s.low u (min (s.low u) m) }
def tPop (u:Nat) (s:TS):TS:={ s with part:=fun x=>if x∈s.stk.dropWhile (· != u) then (s.prt:Int) else s.part x,stk:=s.stk.takeWhile (· != u),prt:=s.prt+1 }
def tEnd (u:Nat) (s:TS):TS:=if s.low u=s.num u then tPop u s else s
def z389 (rec:Nat→TS→TS) (u:Nat) (s:TS) (v:Int):TS:=if s.num v.toNat=0 then tLow u ((rec v.toNat s).low v.toNat) (rec v.toNat s) else if s.part v.toNat < 0 then tLow u (s.num v.toNat) s else s
def z256 (rows:List (List Int)):Nat→Nat→TS→TS
 |0,_,s=>s
 |f+1,u,s=>tEnd u ((rows.getD u []).foldl (z389 (z256 rows f) u) (z220 u s))
def z388:TS:=⟨fun _=>0,fun _=>0,fun _=>-1,[],0,0⟩
def tTop (rows:List (List Int)) (s:TS) (u:Nat):TS:=if s.num u=0 then z256 rows rows.length u s else s
def tAll (rows:List (List Int)):TS:=(List.range rows.length).foldl (tTop rows) z388
inductive RN (rows:List (List Int)) (x:Nat):Nat→Prop
 |refl:RN rows x x
 |step {y z:Nat} : RN rows x y→(z:Int)∈rows.getD y []→RN rows x z
theorem RN.trans {rows:List (List Int)} {x y z:Nat} (h:RN rows x y) (k:RN rows y z):RN rows x z:=by
 induction k with
 |refl=>exact h
 |step _ e ih=>exact .step ih e
theorem RN.edge {rows:List (List Int)} {x y:Nat} (h:(y:Int)∈rows.getD x []):RN rows x y:=.step .refl h
theorem RN.inv {rows:List (List Int)} {p:Nat→Prop} (hp:∀ x y:Nat,p x→(y:Int)∈rows.getD x []→p y) {x y:Nat} (h:RN rows x y) (hx:p x):p y:=by
 induction h with
 |refl=>exact hx
 |step _ e ih=>exact hp _ _ ih e
def unvN (N:Nat) (num:Nat→Int):Nat:=((List.range N).filter fun x=>decide (num x=0)).length
structure TI (rows:List (List Int)) (s:TS) (g:List Nat):Prop where
 srt:s.stk.Pairwise fun x y=>s.num x < s.num y
 stk:∀ x,x∈s.stk↔s.num x≠0∧s.part x=-1
 lt:∀ x,s.num x≠0→x < rows.length
 nn:∀ x,0≤s.num x∧s.num x≤s.cnt
 pw:∀ x,s.part x=-1∨(0≤s.part x∧s.part x < s.prt)
 unv:∀ x,s.num x=0→s.part x=-1
 gs:∀ x∈g,x∈s.stk
 blk:∀ x y:Nat,s.num x≠0→x ∉ g→(y:Int)∈rows.getD x []→s.num y≠0
 up:∀ x∈s.stk,∀ y∈s.stk,s.num x≤s.num y→RN rows x y
 gr:∀ y∈s.stk,∃ x∈g,s.num x≤s.num y∧RN rows y x
 cl:∀ x y:Nat,0≤s.part x→(y:Int)∈rows.getD x []→0≤s.part y
 sc:∀ x y:Nat,0≤s.part x→(s.part y=s.part x↔RN rows x y∧RN rows y x)
 ct:s.cnt+unvN rows.length s.num=rows.length
structure TP (rows:List (List Int)) (s s' : TS) (g:List Nat) (u:Nat):Prop where
 inv:TI rows s' g
 keep:∀ x,s.num x≠0→s'.num x=s.num x∧s'.low x=s.low x∧s'.part x=s.part x
 pref:∃ B,s'.stk=s.stk++B
 num:s'.num u=s.cnt+1
 cnt:s.cnt < s'.cnt
 prt:s'.prt+s.cnt≤s.prt+s'.cnt
 low:s'.low u=s'.num u∨∃ y∈s'.stk,s'.low u=s'.num y∧RN rows u y
 edge:∀ x∈s'.stk,x ∉ s.stk→∀ y∈s.stk,(y:Int)∈rows.getD x []→s'.low u≤s.num y
structure TL (rows:List (List Int)) (s0 s:TS) (g:List Nat) (u:Nat) (dn:List Int):Prop where
 inv:TI rows s (u::g)
 keep:∀ x,s0.num x≠0→s.num x=s0.num x∧s.low x=s0.low x∧s.part x=s0.part x
 pref:∃ B,s.stk=s0.stk++u::B
 num:s.num u=s0.cnt+1
 cnt:s0.cnt < s.cnt
 prt:s.prt+s0.cnt+1≤s0.prt+s.cnt
 low:∃ y∈s.stk,s.low u=s.num y∧RN rows u y
 lown:s.low u≤s.num u
 seen:∀ y∈dn,s.num y.toNat≠0
 edge1:∀ y∈dn,y.toNat∈s0.stk→s.low u≤s0.num y.toNat
 edge2:∀ x∈s.stk,x ∉ s0.stk→x≠u→∀ y∈s0.stk,(y:Int)∈rows.getD x []→s.low u≤s0.num y
section
variable {rows:List (List Int)} {s s' s0:TS} {g:List Nat} {u v:Nat}
theorem TI.nd (h:TI rows s g):s.stk.Nodup:=h.srt.imp fun {a b} hab he=>by rw [he] at hab;omega
theorem unv_upd {N:Nat} {num:Nat→Int} {u:Nat} {n:Int} (hu:u < N) (h0:num u=0) (hn:n≠0):unvN N (upd num u n)+1=unvN N num:=by
 unfold unvN
 induction N with
 |zero=>omega
 |succ N ih =>
  rw [y59,List.filter_append,List.filter_append,y44,y44]
  by_cases h:u=N
  ·subst h
   have e:(List.range u).filter (fun x=>decide (upd num u n x=0))=(List.range u).filter (fun x=>decide (num x=0)):=by
    refine List.filter_congr fun x hx=>?_
    have:=List.mem_range.1 hx
    rw [z52 _ _ (by omega)]
   rw [e]
   simp [z36,h0,hn]
  ·have:=ih (by omega)
   have e:([N].filter fun x=>decide (upd num u n x=0))=([N].filter fun x=>decide (num x=0)):=by
    simp only [List.filter_cons,List.filter_nil,z52 num n (show N≠u by omega)]
   rw [e]
   omega
theorem TI.enter (h:TI rows s g) (hu:s.num u=0) (hN:u < rows.length) (hg:∀ x∈g,RN rows x u):TI rows (z220 u s) (u::g):=by
 have hus:u ∉ s.stk:=fun hm=>((h.stk u).1 hm).1 hu
 have hne:∀ x∈s.stk,x≠u:=fun x hx e=>hus (e ▸ hx)
 have hnum:∀ x,x≠u→(z220 u s).num x=s.num x:=fun x hx=>z52 _ _ hx
 have hnu:(z220 u s).num u=s.cnt+1:=z36 _ _ _
 have hst:∀ x,x∈(z220 u s).stk↔x∈s.stk∨x=u:=fun x=>by simp [z220]
 have hnz:∀ x,s.num x≠0→(z220 u s).num x≠0:=fun x hx=>by
  by_cases e:x=u
  ·subst e;exact absurd hu hx
  ·rw [hnum x e];exact hx
 refine ⟨?_,fun x=>?_,fun x hx=>?_,fun x=>?_,h.pw,fun x hx=>?_,fun x hx=>?_,fun x y hx hxg he=>?_,fun x hx y hy hxy=>?_,fun y hy=>?_,h.cl,h.sc,?_⟩
 ·show (s.stk++[u]).Pairwise _
  rw [List.pairwise_append]
  refine ⟨h.srt.imp_of_mem fun ha hb hab=>by rw [hnum _ (hne _ ha),hnum _ (hne _ hb)];exact hab,by simp,fun a ha b hb=>?_⟩
  rw [List.mem_singleton.1 hb,hnum _ (hne a ha),hnu]
  have:=(h.nn a).2
  omega
 ·rw [hst]
  by_cases e:x=u
  ·subst e
   have:=(h.nn x).2
   simp only [or_true,true_iff]
   exact ⟨by rw [hnu];omega,h.unv x hu⟩
  ·rw [hnum x e]
   simp only [e,or_false]
   exact h.stk x
 ·by_cases e:x=u
  ·rw [e];exact hN
  ·rw [hnum x e] at hx;exact h.lt x hx
 ·show 0≤(z220 u s).num x∧(z220 u s).num x≤((s.cnt+1:Nat):Int)
  by_cases e:x=u
  ·rw [e,hnu];omega
  ·rw [hnum x e];have:=h.nn x;omega
 ·by_cases e:x=u
  ·subst e;exact h.unv x hu
  ·rw [hnum x e] at hx;exact h.unv x hx
 ·rw [hst]
  rcases List.mem_cons.1 hx with e|hx
  ·exact .inr e
  ·exact .inl (h.gs x hx)
 ·have e:x≠u:=fun e=>hxg (by simp [e])
  rw [hnum x e] at hx
  exact hnz y (h.blk x y hx (fun hm=>hxg (by simp [hm])) he)
 ·rcases (hst x).1 hx with hx1|rfl
  ·rcases (hst y).1 hy with hy1|rfl
   ·rw [hnum _ (hne x hx1),hnum _ (hne y hy1)] at hxy
    exact h.up x hx1 y hy1 hxy
   ·obtain ⟨z,hz,_,hr⟩:=h.gr x hx1
    exact hr.trans (hg z hz)
  ·rcases (hst y).1 hy with hy|rfl
   ·rw [hnu,hnum _ (hne y hy)] at hxy
    have:=(h.nn y).2
    omega
   ·exact .refl
 ·rcases (hst y).1 hy with hy|rfl
  ·obtain ⟨z,hz,h1,hr⟩:=h.gr y hy
   exact ⟨z,by simp [hz],by rw [hnum _ (hne y hy),hnum _ (hne z (h.gs z hz))];exact h1,hr⟩
  ·exact ⟨y,by simp,Int.le_refl _,.refl⟩
 ·have:=unv_upd (num:=s.num) (n:=s.cnt+1) hN hu (by omega)
  have h2:=h.ct
  show s.cnt+1+unvN rows.length (upd s.num u (s.cnt+1))=_
  omega
theorem TI.low {m:Int} (h:TI rows s g):TI rows (tLow u m s) g:=⟨h.srt,h.stk,h.lt,h.nn,h.pw,h.unv,h.gs,h.blk,h.up,h.gr,h.cl,h.sc,h.ct⟩
theorem TL.start (h:TI rows s g) (hu:s.num u=0) (hN:u < rows.length) (hg:∀ x∈g,RN rows x u):TL rows s (z220 u s) g u []:=by
 have hne:∀ x,s.num x≠0→x≠u:=fun x hx e=>hx (e ▸ hu)
 refine ⟨h.enter hu hN hg,fun x hx=>⟨z52 _ _ (hne x hx),z52 _ _ (hne x hx),rfl⟩,⟨[],rfl⟩,z36 _ _ _,Nat.lt_succ_self _,?_,⟨u,by simp [z220],?_,.refl⟩,?_,by simp,by simp,fun x hx hx2 hxu=>?_⟩
 ·show s.prt+s.cnt+1≤s.prt+(s.cnt+1);omega
 ·show upd s.low u _ u=upd s.num u _ u;rw [z36,z36]
 ·show upd s.low u _ u≤upd s.num u _ u;rw [z36,z36];exact Int.le_refl _
 ·have:x∈s.stk++[u]:=hx
  rcases List.mem_append.1 this with h1|h1
  ·exact absurd h1 hx2
  ·exact absurd (List.mem_singleton.1 h1) hxu
theorem z470 (u:Nat) (m:Int) (s:TS):(tLow u m s).low u=min (s.low u) m:=z36 _ _ _
theorem low_ne {u x:Nat} (m:Int) (s:TS) (h:x≠u):(tLow u m s).low x=s.low x:=z52 _ _ h
theorem TL.edge {dn : List Int} {rec : Nat → TS → TS} (h : TL rows s0 s g u dn) (h0 : TI rows s0 g) (hu0 : s0.num u = 0) {v : Int} (hv : v ∈ rows.getD u []) (hvN : 0 ≤ v ∧ v < rows.length)
    (hrec:s.num v.toNat=0→TP rows s (rec v.toNat s) (u::g) v.toNat):TL rows s0 (z389 rec u s v) g u (dn++[v]):=by
  obtain ⟨w,rfl⟩:∃ w:Nat,v=w:=⟨v.toNat,by omega⟩
  simp only [y74] at hrec
  have hs0:∀ x∈s0.stk,x∈s.stk:=fun x hx=>by obtain ⟨B,e⟩:=h.pref;rw [e];simp [hx]
  have hnu:s.num u≠0:=by rw [h.num];omega
  unfold z389
  simp only [y74]
  by_cases hw:s.num w=0
  · rw [if_pos hw]
    have hp:=hrec hw
    generalize rec w s=s' at *
    obtain ⟨B,hB⟩:=h.pref
    obtain ⟨B',hB'⟩:=hp.pref
    have hls:∀ x∈s.stk,x∈s'.stk:=fun x hx=>by rw [hB'];simp [hx]
    have hku:=hp.keep u hnu
    refine ⟨hp.inv.low,fun x hx=>?_,⟨B++B',?_⟩,?_,?_,?_,?_,?_,fun y hy=>?_,fun y hy hy2=>?_,fun x hx hx2 hxu y hy he=>?_⟩
    · have hxu:x≠u:=fun e=>hx (e ▸ hu0)
      obtain ⟨a1,a2,a3⟩:=h.keep x hx
      obtain ⟨b1,b2,b3⟩:=hp.keep x (by rw [a1];exact hx)
      exact ⟨b1.trans a1,by rw [low_ne _ _ hxu,b2,a2],b3.trans a3⟩
    · show s'.stk=_;rw [hB',hB];simp
    · show s'.num u=_;rw [hku.1,h.num]
    · have:=h.cnt;have:=hp.cnt;show s0.cnt < s'.cnt;omega
    · have:=h.prt;have:=hp.prt;show s'.prt+s0.cnt+1≤s0.prt+s'.cnt;omega
    · rw [z470]
      obtain ⟨y,hy,h1,h2⟩:=h.low
      have hyz:s.num y≠0:=((h.inv.stk y).1 hy).1
      have hyk:=hp.keep y hyz
      rcases Int.le_total (s'.low u) (s'.low w) with hle|hle
      · exact ⟨y,hls y hy,by rw [Int.min_eq_left hle,hku.2.1,h1];exact hyk.1.symm,h2⟩
      · rcases hp.low with h3|⟨z,hz,h3,h4⟩
        · have h5:=hp.num
          have h6:=(h.inv.nn y).2
          refine ⟨y,hls y hy,?_,h2⟩
          show _=s'.num y
          rw [hyk.1,← h1,← hku.2.1]
          have:s'.low u=s.num y:=by rw [hku.2.1,h1]
          omega
        · exact ⟨z,hz,by rw [Int.min_eq_right hle];exact h3,(RN.edge hv).trans h4⟩
    · rw [z470]
      have:=h.lown
      have e:(tLow u (s'.low w) s').num u=s.num u:=hku.1
      rw [e,hku.2.1];omega
    · rcases List.mem_append.1 hy with hy|hy
      · have h1:=h.seen y hy
        show s'.num _≠0
        rw [(hp.keep _ h1).1];exact h1
      · rw [List.mem_singleton.1 hy]
        show s'.num w≠0
        rw [hp.num];omega
    · rw [z470]
      rcases List.mem_append.1 hy with hy|hy
      · have:=h.edge1 y hy hy2
        rw [hku.2.1];omega
      · rw [List.mem_singleton.1 hy] at hy2
        have:=((h.inv.stk w).1 (hs0 w hy2)).1
        exact absurd hw this
    · rw [z470]
      by_cases hxs:x∈s.stk
      · have:=h.edge2 x hxs hx2 hxu y hy he
        rw [hku.2.1];omega
      · have h1:=hp.edge x hx hxs y (hs0 y hy) he
        have h2:=(h.keep y ((h0.stk y).1 hy).1).1
        omega
  · rw [if_neg hw]
    have base:∀ m:Int,(∃ y∈s.stk,m=s.num y∧RN rows u y)→(w∈s0.stk→m≤s0.num w)→TL rows s0 (tLow u m s) g u (dn++[(w:Int)]):=by
      intro m hm hmw
      refine ⟨h.inv.low,fun x hx=>?_,h.pref,h.num,h.cnt,h.prt,?_,?_,fun y hy=>?_,fun y hy hy2=>?_,fun x hx hx2 hxu y hy he=>?_⟩
      · have hxu:x≠u:=fun e=>hx (e ▸ hu0)
        obtain ⟨a1,a2,a3⟩:=h.keep x hx
        exact ⟨a1,by rw [low_ne _ _ hxu,a2],a3⟩
      · rw [z470]
        rcases Int.le_total (s.low u) m with hle|hle
        · rw [Int.min_eq_left hle];exact h.low
        · rw [Int.min_eq_right hle];exact hm
      · rw [z470];have:=h.lown;show _≤s.num u;omega
      · rcases List.mem_append.1 hy with hy|hy
        · exact h.seen y hy
        · rw [List.mem_singleton.1 hy];exact hw
      · rw [z470]
        rcases List.mem_append.1 hy with hy|hy
        · have:=h.edge1 y hy hy2;omega
        · rw [List.mem_singleton.1 hy] at hy2 ⊢
          have:=hmw hy2
          simp only [y74];omega
      · rw [z470];have:=h.edge2 x hx hx2 hxu y hy he;omega
    by_cases hpt:s.part w < 0
    · rw [if_pos hpt]
      have hws:w∈s.stk:=(h.inv.stk w).2 ⟨hw,by have:=h.inv.pw w;omega⟩
      refine base _ ⟨w,hws,rfl,.edge hv⟩ fun hm=>?_
      rw [(h.keep w ((h0.stk w).1 hm).1).1]
      exact Int.le_refl _
    · rw [if_neg hpt]
      refine ⟨h.inv,h.keep,h.pref,h.num,h.cnt,h.prt,h.low,h.lown,fun y hy=>?_,fun y hy hy2=>?_,h.edge2⟩
      · rcases List.mem_append.1 hy with hy|hy
        · exact h.seen y hy
        · rw [List.mem_singleton.1 hy];exact hw
      · rcases List.mem_append.1 hy with hy|hy
        · exact h.edge1 y hy hy2
        · rw [List.mem_singleton.1 hy] at hy2
          have h1:=((h0.stk w).1 hy2)
          have h2:=(h.keep w h1.1).2.2
          have h3:=h1.2
          omega
theorem z930 {A B:List Nat} {u:Nat} (h:u ∉ A):(A++u::B).takeWhile (· != u)=A∧(A++u::B).dropWhile (· != u)=u::B:=by
 induction A with
 |nil=>simp
 |cons a A ih =>
  have hau:a≠u:=fun e=>h (by simp [e])
  obtain ⟨h1,h2⟩:=ih fun hm=>h (by simp [hm])
  have hb:(a != u)=true:=by simpa using hau
  simp only [List.cons_append,List.takeWhile_cons,List.dropWhile_cons,hb,if_true,h1,h2,and_self]
theorem TL.fin (h:TL rows s0 s g u (rows.getD u [])) (h0:TI rows s0 g) (hu0:s0.num u=0):TP rows s0 (tEnd u s) g u:=by
 obtain ⟨B,hB⟩:=h.pref
 have hs0:∀ x∈s0.stk,x∈s.stk:=fun x hx=>by rw [hB];simp [hx]
 have hu_s0:u ∉ s0.stk:=fun hm=>((h0.stk u).1 hm).1 hu0
 have hus:u∈s.stk:=by rw [hB];simp
 have hk:∀ x∈s0.stk,s.num x=s0.num x:=fun x hx=>(h.keep x ((h0.stk x).1 hx).1).1
 have hsrt:=h.inv.srt
 rw [hB,List.pairwise_append,List.pairwise_cons] at hsrt
 have hblk:∀ x y:Nat,s.num x≠0→x ∉ g→(y:Int)∈rows.getD x []→s.num y≠0:=fun x y hx hxg he=>by
  by_cases e:x=u
  ·subst e;have:=h.seen _ he;simpa using this
  ·exact h.inv.blk x y hx (by simp [e,hxg]) he
 have hnd:=h.inv.nd
 rw [hB,y73] at hnd
 have hedge:∀ x∈s.stk,x ∉ s0.stk→∀ y∈s0.stk,(y:Int)∈rows.getD x []→s.low u≤s0.num y:=fun x hx hx2 y hy he=>by
  by_cases e:x=u
  ·subst e;have:=h.edge1 _ he (by simpa using hy);simpa using this
  ·exact h.edge2 x hx hx2 e y hy he
 unfold tEnd
 by_cases hl:s.low u=s.num u
 ·rw [if_pos hl]
  have hcut:=z930 (A:=s0.stk) (B:=B) hu_s0
  have hstk:(tPop u s).stk=s0.stk:=by show s.stk.takeWhile _=_;rw [hB];exact hcut.1
  have hpart:∀ x,(tPop u s).part x=if x∈u::B then (s.prt:Int) else s.part x:=fun x=>by
   show (if x∈s.stk.dropWhile _ then _ else _)=_
   rw [hB,hcut.2]
  have hnum:∀ x,(tPop u s).num x=s.num x:=fun _=>rfl
  have hBs:∀ x∈u::B,x∈s.stk∧x ∉ s0.stk:=fun x hx=>⟨by rw [hB];exact List.mem_append_right _ hx,fun hm=>hnd.2.2 x hm x hx rfl⟩
  have hBp:∀ x∈u::B,s.part x=-1:=fun x hx=>((h.inv.stk x).1 (hBs x hx).1).2
  have hgB:∀ x∈u::B,x ∉ g:=fun x hx hm=>(hBs x hx).2 (h0.gs x hm)
  have h0B:∀ x∈s0.stk,x ∉ u::B:=fun x hx hm=>(hBs x hm).2 hx
  have hcl:∀ x y:Nat,0≤(tPop u s).part x→(y:Int)∈rows.getD x []→0≤(tPop u s).part y:=by
   intro x y hx he
   rw [hpart] at hx ⊢
   by_cases hyB:y∈u::B
   ·rw [if_pos hyB];omega
   ·rw [if_neg hyB]
    by_cases hxB:x∈u::B
    ·have hxs:=(hBs x hxB).1
     have hy:=hblk x y ((h.inv.stk x).1 hxs).1 (hgB x hxB) he
     rcases h.inv.pw y with h1|h1
     ·have hys:y∈s.stk:=(h.inv.stk y).2 ⟨hy,h1⟩
      rw [hB] at hys
      rcases List.mem_append.1 hys with h2|h2
      ·have h3:=hedge x hxs (hBs x hxB).2 y h2 he
       have h4:=hsrt.2.2 y h2 u (by simp)
       rw [hk y h2] at h4
       omega
      ·exact absurd h2 hyB
     ·exact h1.1
    ·rw [if_neg hxB] at hx
     exact h.inv.cl x y hx he
  have hreach:∀ x y:Nat,0≤(tPop u s).part x→RN rows x y→0≤(tPop u s).part y:=fun x y hx hr=>hr.inv hcl hx
  have hreach0:∀ x y:Nat,0≤s.part x→RN rows x y→0≤s.part y:=fun x y hx hr=>hr.inv h.inv.cl hx
  have hdown:∀ z∈u::B,RN rows u z:=fun z hz=>by
   refine h.inv.up u hus z (hBs z hz).1 ?_
   rcases List.mem_cons.1 hz with rfl|hz
   ·exact Int.le_refl _
   ·have:=hsrt.2.1.1 z hz;omega
  have hback:∀ z∈u::B,RN rows z u:=fun z hz=>by
   obtain ⟨x,hx,_,hr⟩:=h.inv.gr z (hBs z hz).1
   rcases List.mem_cons.1 hx with rfl|hx
   ·exact hr
   ·have h1:=hreach z x (by rw [hpart,if_pos hz];omega) hr
    have hx0:=h0.gs x hx
    rw [hpart,if_neg (h0B x hx0)] at h1
    have:=((h.inv.stk x).1 (hs0 x hx0)).2
    omega
  refine ⟨⟨?_,fun x=>?_,h.inv.lt,h.inv.nn,fun x=>?_,fun x hx=>?_,fun x hx=>?_,hblk,fun x hx y hy hxy=>?_,fun y hy=>?_,hcl,fun x y hx=>?_,h.inv.ct⟩,fun x hx=>?_,⟨[],by rw [hstk];simp⟩,h.num,h.cnt,?_,.inl hl,fun x hx hx2=>absurd (hstk ▸ hx) hx2⟩
  ·rw [hstk];exact hsrt.1
  ·rw [hstk,hpart]
   constructor
   ·intro hx
    rw [if_neg (h0B x hx)]
    exact (h.inv.stk x).1 (hs0 x hx)
   ·rintro ⟨h1,h2⟩
    split at h2
    ·omega
    ·rename_i hxB
     have:=(h.inv.stk x).2 ⟨h1,h2⟩
     rw [hB] at this
     rcases List.mem_append.1 this with h3|h3
     ·exact h3
     ·exact absurd h3 hxB
  ·rw [hpart]
   show _∨_∧_ < ((s.prt+1:Nat):Int)
   split
   ·right;omega
   ·have:=h.inv.pw x;omega
  ·rw [hpart,if_neg]
   ·exact h.inv.unv x hx
   ·intro hm;exact ((h.inv.stk x).1 (hBs x hm).1).1 hx
  ·rw [hstk];exact h0.gs x hx
  ·rw [hstk] at hx hy;exact h.inv.up x (hs0 x hx) y (hs0 y hy) hxy
  ·rw [hstk] at hy
   obtain ⟨x,hx,h1,h2⟩:=h0.gr y hy
   exact ⟨x,hx,by rw [hnum,hnum,hk y hy,hk x (h0.gs x hx)];exact h1,h2⟩
  ·rw [hpart x,hpart y]
   rw [hpart] at hx
   by_cases hxB:x∈u::B
   ·rw [if_pos hxB]
    by_cases hyB:y∈u::B
    ·rw [if_pos hyB]
     exact ⟨fun _=>⟨(hback x hxB).trans (hdown y hyB),(hback y hyB).trans (hdown x hxB)⟩,fun _=>rfl⟩
    ·rw [if_neg hyB]
     constructor
     ·intro e;have:=h.inv.pw y;omega
     ·rintro ⟨r1,r2⟩
      have h1:=hreach x y (by rw [hpart,if_pos hxB];omega) r1
      rw [hpart,if_neg hyB] at h1
      have h2:=hreach0 y x h1 r2
      have:=hBp x hxB
      omega
   ·rw [if_neg hxB] at hx ⊢
    by_cases hyB:y∈u::B
    ·rw [if_pos hyB]
     constructor
     ·intro e;have:=h.inv.pw x;omega
     ·rintro ⟨r1,_⟩
      have h2:=hreach0 x y hx r1
      have:=hBp y hyB
      omega
    ·rw [if_neg hyB];exact h.inv.sc x y hx
  ·obtain ⟨a1,a2,a3⟩:=h.keep x hx
   refine ⟨a1,a2,?_⟩
   rw [hpart,if_neg]
   ·exact a3
   ·intro hm
    have h1:=hBp x hm
    exact (hBs x hm).2 ((h0.stk x).2 ⟨hx,by rw [← a3];exact h1⟩)
  ·have:=h.prt;show s.prt+1+s0.cnt≤s0.prt+s.cnt;omega
 ·rw [if_neg hl]
  have hlt:s.low u < s.num u:=by have:=h.lown;omega
  refine ⟨⟨h.inv.srt,h.inv.stk,h.inv.lt,h.inv.nn,h.inv.pw,h.inv.unv,fun x hx=>h.inv.gs x (by simp [hx]),hblk,h.inv.up,fun y hy=>?_,h.inv.cl,h.inv.sc,h.inv.ct⟩,h.keep,⟨u::B,hB⟩,h.num,h.cnt,by have:=h.prt;omega,.inr h.low,hedge⟩
  obtain ⟨x,hx,h1,h2⟩:=h.inv.gr y hy
  rcases List.mem_cons.1 hx with rfl|hx
  ·obtain ⟨z,hz,h3,h4⟩:=h.low
   have hz0:z∈s0.stk:=by
    rw [hB] at hz
    rcases List.mem_append.1 hz with h5|h5
    ·exact h5
    ·rcases List.mem_cons.1 h5 with rfl|h5
     ·omega
     ·have:=hsrt.2.1.1 z h5;omega
   obtain ⟨t,ht,h5,h6⟩:=h0.gr z hz0
   refine ⟨t,ht,?_,(h2.trans h4).trans h6⟩
   rw [hk t (h0.gs t ht)]
   have:=hk z hz0
   omega
  ·exact ⟨x,hx,h1,h2⟩
end
theorem z1089 {N:Nat} {num:Nat→Int} {u:Nat} (hu:u < N) (h0:num u=0):0 < unvN N num:=by
 unfold unvN
 exact List.length_pos_iff.2 (List.ne_nil_of_mem (List.mem_filter.2 ⟨List.mem_range.2 hu,by simpa using h0⟩))
theorem z646 {rows:List (List Int)} (hr:∀ r∈rows,InN rows.length r):∀ (f:Nat) (s:TS) (g:List Nat) (u:Nat),unvN rows.length s.num≤f→TI rows s g→s.num u=0→u < rows.length→(∀ x∈g,RN rows x u)→TP rows s (z256 rows f u s) g u
 |0,s,g,u,hf,_,h0,hN,_=>by have:=z1089 (num:=s.num) hN h0;omega
 |f+1,s,g,u,hf,h,h0,hN,hg=>by
  have fold:∀ (l dn:List Int) (t:TS),(∀ v∈l,v∈rows.getD u [])→TL rows s t g u dn→TL rows s (l.foldl (z389 (z256 rows f) u) t) g u (dn++l):=by
   intro l
   induction l with
   |nil=>intro dn t _ ht;simpa using ht
   |cons v l ih =>
    intro dn t hl ht
    have hv:=hl v (by simp)
    have hvN:=z301 hr u v hv
    have:=ht.edge h h0 hv hvN (rec:=z256 rows f) fun hv0=>by
     refine z646 hr f t (u::g) v.toNat ?_ ht.inv hv0 (by omega) fun x hx=>?_
     ·have h1:=ht.cnt;have h2:=ht.inv.ct;have h3:=h.ct;omega
     ·have he:RN rows u v.toNat:=.edge (by rw [Int.toNat_of_nonneg hvN.1];exact hv)
      rcases List.mem_cons.1 hx with rfl|hx
      ·exact he
      ·exact (hg x hx).trans he
    have h2:=ih (dn++[v]) _ (fun y hy=>hl y (by simp [hy])) this
    rw [List.append_assoc] at h2
    exact h2
  have h1:=fold (rows.getD u []) [] _ (fun _ h=>h) (TL.start h h0 hN hg)
  rw [List.nil_append] at h1
  exact h1.fin h h0
theorem z1274 {rows : List (List Int)} (hr : ∀ r ∈ rows, InN rows.length r) {f : Nat} {s : TS} {g : List Nat} {u : Nat} (hf : unvN rows.length s.num ≤ f + 1) (h : TI rows s g) (h0 : s.num u = 0) (hN : u < rows.length) (hg : ∀ x ∈ g, RN rows x u) :
    ∀ k,k≤(rows.getD u []).length→TL rows s (((rows.getD u []).take k).foldl (z389 (z256 rows f) u) (z220 u s)) g u ((rows.getD u []).take k)
  | 0,_=>TL.start h h0 hN hg
  | k+1,hk=>by
    have ht:=z1274 hr hf h h0 hN hg k (by omega)
    have hv:(rows.getD u [])[k]∈rows.getD u []:=y41 _
    have hvN:=z301 hr u _ hv
    rw [y47 hk,y60]
    refine ht.edge h h0 hv hvN fun hv0=>?_
    refine z646 hr f _ (u::g) _ ?_ ht.inv hv0 (by omega) fun x hx=>?_
    · have h1:=ht.cnt;have h2:=ht.inv.ct;have h3:=h.ct;omega
    · have he:RN rows u ((rows.getD u [])[k]).toNat:=.edge (by rw [Int.toNat_of_nonneg hvN.1];exact hv)
      rcases List.mem_cons.1 hx with rfl|hx
      · exact he
      · exact (hg x hx).trans he
theorem TI.init (rows:List (List Int)):TI rows z388 []:=by
 refine ⟨.nil,fun x=>by simp [z388],fun x hx=>absurd rfl hx,fun x=>by simp [z388],fun x=>.inl rfl,fun _ _=>rfl,by simp,fun x y hx=>absurd rfl hx,by simp [z388],by simp [z388],fun x y hx=>?_,fun x y hx=>?_,?_⟩
 ·have:(0:Int)≤-1:=hx;omega
 ·have:(0:Int)≤-1:=hx;omega
 ·show 0+unvN rows.length (fun _=>0)=_
  unfold unvN
  rw [List.filter_eq_self.2 (by simp)]
  simp
structure TT (rows:List (List Int)) (s:TS) (k:Nat):Prop where
 inv:TI rows s []
 vis:∀ x,x < k→s.num x≠0
 prt:s.prt≤s.cnt
theorem TT.step {rows:List (List Int)} (hr:∀ r∈rows,InN rows.length r) {s:TS} {k:Nat} (hk:k < rows.length) (h:TT rows s k):TT rows (tTop rows s k) (k+1):=by
 unfold tTop
 by_cases h0:s.num k=0
 ·rw [if_pos h0]
  have hp:=z646 hr rows.length s [] k (by have:=h.inv.ct;omega) h.inv h0 hk (by simp)
  refine ⟨hp.inv,fun x hx=>?_,?_⟩
  ·by_cases e:x=k
   ·subst e;rw [hp.num];omega
   ·have h1:=h.vis x (by omega)
    rw [(hp.keep x h1).1];exact h1
  ·have:=hp.prt;have:=h.prt;omega
 ·rw [if_neg h0]
  refine ⟨h.inv,fun x hx=>?_,h.prt⟩
  by_cases e:x=k
  ·subst e;exact h0
  ·exact h.vis x (by omega)
theorem z658 {rows:List (List Int)} (hr:∀ r∈rows,InN rows.length r):∀ k,k≤rows.length→TT rows ((List.range k).foldl (tTop rows) z388) k
 |0,_=>⟨TI.init rows,fun x hx=>by omega,y49 _⟩
 |k+1,hk=>by
  rw [y59,y60]
  exact (z658 hr k (by omega)).step hr (by omega)
theorem tAll_ok {rows:List (List Int)} (hr:∀ r∈rows,InN rows.length r):(∀ x,x < rows.length→0≤(tAll rows).part x∧(tAll rows).part x < rows.length)∧∀ x y,x < rows.length→((tAll rows).part y=(tAll rows).part x↔RN rows x y∧RN rows y x):=by
 have h:=z658 hr rows.length (y49 _)
 have hp:∀ x,x < rows.length→0≤(tAll rows).part x:=fun x hx=>by
  have h1:=h.vis x hx
  rcases h.inv.pw x with h2|h2
  ·obtain ⟨z,hz,_⟩:=h.inv.gr x ((h.inv.stk x).2 ⟨h1,h2⟩)
   cases hz
  ·exact h2.1
 refine ⟨fun x hx=>⟨hp x hx,?_⟩,fun x y hx=>h.inv.sc x y (hp x hx)⟩
 have h2:=h.inv.pw x
 have h3:=h.prt
 have h4:=h.inv.ct
 have h5:=hp x hx
 have h6:(tAll rows).part x < (tAll rows).prt:=by
  rcases h2 with h2|h2
  ·have:(tAll rows).part x=-1:=h2
   omega
  ·exact h2.2
 have h7:(tAll rows).prt≤(tAll rows).cnt:=h3
 have h8:(tAll rows).cnt+unvN rows.length (tAll rows).num=rows.length:=h4
 omega
theorem RN.rp {rows:List (List Int)} {x y:Nat} (h:RN rows x y):RP rows [(x:Int)] y:=by
 induction h with
 |refl=>exact .base (by simp)
 |step _ e ih=>exact .step ih (by simpa using e)
theorem RP.rn {rows:List (List Int)} (hr:∀ r∈rows,InN rows.length r) {x:Nat} {y:Int} (h:RP rows [(x:Int)] y):0≤y∧RN rows x y.toNat:=by
 induction h with
 |base hb=>rw [List.mem_singleton.1 hb];exact ⟨by omega,.refl⟩
 |step _ e ih =>
  have:=z301 hr _ _ e
  exact ⟨this.1,.step ih.2 (by rw [Int.toNat_of_nonneg this.1];exact e)⟩
theorem cyc_iff {rows:List (List Int)} (hr:∀ r∈rows,InN rows.length r) {x:Nat} (hx:x < rows.length):Cyc rows x↔(x:Int)∈rows.getD x []∨∃ y,y < rows.length∧y≠x∧RN rows x y∧RN rows y x:=by
 constructor
 ·rintro ⟨y,hy,h⟩
  have hyN:=z301 hr _ _ hy
  obtain ⟨w,rfl⟩:∃ w:Nat,y=w:=⟨y.toNat,by omega⟩
  have h2:=(RP.rn hr h).2
  simp only [y74] at h2 hy
  by_cases e:w=x
  ·subst e;exact .inl hy
  ·exact .inr ⟨w,by omega,e,.edge hy,h2⟩
 ·rintro (h|⟨y,hy,hne,h1,h2⟩)
  ·exact ⟨x,by simpa using h,.base (by simp)⟩
  ·have key:∀ z,RN rows x z→z=x∨∃ w:Nat,(w:Int)∈rows.getD x []∧RN rows w z:=by
    intro z hz
    induction hz with
    |refl=>exact .inl rfl
    |step _ e ih =>
     rcases ih with rfl|⟨w,hw,ih⟩
     ·exact .inr ⟨_,e,.refl⟩
     ·exact .inr ⟨w,hw,.step ih e⟩
   rcases key y h1 with h3|⟨w,hw,h3⟩
   ·exact absurd h3 hne
   ·exact ⟨w,by simpa using hw,(h3.trans h2).rp⟩
end Go.Gl
namespace Go.Gl
def z269:Nat→List Int→List (List Int×Int)
 |_,[]=>[]
 |k,p::L=>([p],(k:Int))::z269 (k+1) L
theorem z564:∀ (k:Nat) (L:List Int),(z269 k L).length=L.length
 |_,[]=>rfl
 |k,p::L=>by rw [z269,y55,z564,y55]
theorem z544 (p:Int):∀ (k:Nat) (L:List Int),mget (z269 k L) [p]=if p∈L then some ((k+L.idxOf p:Nat):Int) else none
 |_,[]=>rfl
 |k,q::L=>by
  rw [z269,mget,z544 p (k+1) L]
  by_cases h:p=q
  ·subst h;simp
  ·have h2:¬ [p]=[q]:=by simpa using h
   have h3:¬ q=p:=fun e=>h e.symm
   rw [if_neg h2]
   simp only [List.mem_cons,h,false_or,List.idxOf_cons]
   have h4:(q == p)=false:=by simpa using h3
   rw [h4]
   by_cases hm:p∈L
   ·rw [if_pos hm,if_pos hm]
    simp only [cond_false]
    congr 2;omega
   ·rw [if_neg hm,if_neg hm]
theorem z774 {p:Int} (n:Int):∀ (k:Nat) (L:List Int),p ∉ L→mput (z269 k L) [p] n=z269 k L++[([p],n)]
 |_,[],_=>rfl
 |k,q::L,h=>by
  have h1:p≠q:=fun e=>h (by simp [e])
  rw [z269,mput,if_neg (by simpa using h1),z774 n (k+1) L (fun hm=>h (by simp [hm]))];rfl
theorem z805 (p:Int):∀ (k:Nat) (L:List Int),z269 k (L++[p])=z269 k L++[([p],((k+L.length:Nat):Int))]
 |k,[]=>rfl
 |k,q::L=>by
  rw [List.cons_append,z269,z805 p (k+1) L,z269,List.cons_append,y55]
  congr 4;omega
def metL (P:List Int) (i:Nat):List Int:=z75 [] (P.take i)
def nmI (P:List Int) (i:Nat):Int:=(((metL P P.length).idxOf (P.getD i 0):Nat):Int)
theorem z407 {P:List Int} {i:Nat} (h:i < P.length):metL P (i+1)=z134 (metL P i) P[i]:=by
 unfold metL z75
 rw [y47 h,y60];rfl
theorem z951 {P:List Int} {i j:Nat} (h:i≤j) (hj:j≤P.length):∃ t,metL P j=metL P i++t:=by
  induction j with
  | zero => obtain rfl : i = 0 := by omega
            exact ⟨[],by simp⟩
  | succ j ih =>
    rcases y67 j i with h1|h1
    · obtain rfl:i=j+1:=by omega
      exact ⟨[],by simp⟩
    · obtain ⟨t,ht⟩:=ih h1 (by omega)
      rw [z407 (by omega)]
      obtain ⟨t2,ht2⟩:=z508 (metL P j) P[j]
      exact ⟨t++t2,by rw [ht2,ht];simp⟩
theorem z685 {P:List Int} {i:Nat} (h:i < P.length):P[i]∈metL P (i+1):=by
 rw [z407 h];unfold z134;split
 ·assumption
 ·simp
theorem z686 {P:List Int} {i:Nat} (h:i < P.length):P[i]∈metL P P.length:=by
 obtain ⟨t,ht⟩:=z951 (P:=P) (i:=i+1) (j:=P.length) h (y49 _)
 rw [ht];exact List.mem_append_left _ (z685 h)
theorem nmI_at {P:List Int} {i:Nat} (h:i < P.length):nmI P i=(((metL P (i+1)).idxOf P[i]:Nat):Int):=by
 unfold nmI
 obtain ⟨t,ht⟩:=z951 (P:=P) (i:=i+1) (j:=P.length) h (y49 _)
 rw [ht,z20 h,List.idxOf_append,if_pos (z685 h)]
theorem z952 (P:List Int):∀ i,i≤P.length→(metL P i).length≤i
 |0,_=>by simp [metL,z75]
 |i+1,h=>by
  have ih:=z952 P i (by omega)
  rw [z407 (by omega)]
  unfold z134;split
  ·omega
  ·rw [y44,List.length_singleton];omega
theorem nmI_lt {P:List Int} {i:Nat} (h:i < P.length):0≤nmI P i∧nmI P i < P.length:=by
 have h1:=List.idxOf_lt_length_of_mem (z686 h)
 have h2:=z952 P P.length (y49 _)
 unfold nmI
 rw [z20 h];omega
theorem nmI_eq {P:List Int} {i j:Nat} (hi:i < P.length) (hj:j < P.length):nmI P i=nmI P j↔P[i]=P[j]:=by
 unfold nmI
 rw [z20 hi,z20 hj]
 constructor
 ·intro h
  have h1:=List.idxOf_lt_length_of_mem (z686 hi)
  have e1:=List.getElem_idxOf h1
  have h2:=List.idxOf_lt_length_of_mem (z686 hj)
  have e2:=List.getElem_idxOf h2
  rw [← e1,← e2]
  congr 1;omega
 ·intro h;rw [h]
def cmpL (rows:List (List Int)):List Int:=(List.range rows.length).map fun i=>nmI ((List.range rows.length).map (tAll rows).part) i
theorem z427 (rows:List (List Int)):(cmpL rows).length=rows.length:=by simp [cmpL]
theorem z907 {rows:List (List Int)} {i:Nat} (h:i < rows.length):(cmpL rows).getD i 0=nmI ((List.range rows.length).map (tAll rows).part) i:=by
 rw [z20 (by rw [z427];exact h)];simp [cmpL]
theorem z1238 {rows:List (List Int)} : InN rows.length (cmpL rows):=by
 intro x hx
 obtain ⟨i,hi,rfl⟩:=List.mem_map.1 hx
 have:=nmI_lt (P:=(List.range rows.length).map (tAll rows).part) (i:=i) (by simpa using hi)
 simpa using this
theorem z906 {rows:List (List Int)} (hr:∀ r∈rows,InN rows.length r) {x y:Nat} (hx:x < rows.length) (hy:y < rows.length):(cmpL rows).getD y 0=(cmpL rows).getD x 0↔RN rows x y∧RN rows y x:=by
 rw [z907 hx,z907 hy,nmI_eq (by simpa using hy) (by simpa using hx),← (tAll_ok hr).2 x y hx]
 simp
def cntL (P:List Int) (i:Nat) (v:Nat):Nat:=(P.take i).countP fun p=>decide (p=(v:Int))
theorem z810 {P:List Int} {i:Nat} (h:i < P.length) (v:Nat):cntL P (i+1) v=cntL P i v+if P[i]=(v:Int) then 1 else 0:=by
 unfold cntL
 rw [y47 h,List.countP_append]
 by_cases e:P[i]=(v:Int)<;>simp [e]
theorem cntL_le (P:List Int) (i v:Nat):cntL P i v≤i:=by
 unfold cntL
 have:=List.countP_le_length (p:=fun p:Int=>decide (p=(v:Int))) (l:=P.take i)
 rw [y45] at this;omega
theorem cntL_pos {P:List Int} {i j v:Nat} (hj:j < i) (hp:j < P.length) (e:P[j]=(v:Int)):0 < cntL P i v:=by
 unfold cntL
 rw [List.countP_pos_iff]
 exact ⟨P[j],List.mem_take_iff_getElem.2 ⟨j,by omega,rfl⟩,by simp [e]⟩
theorem z708 {P:List Int} {v:Nat} : ∀ i,i≤P.length→(1 < cntL P i v↔∃ a b,a < b∧∃ h:b < i,∃ h2:b < P.length,∃ h3:a < P.length,P[a]=(v:Int)∧P[b]=(v:Int))
 |0,_=>by simp [cntL]
 |i+1,hi=>by
  rw [z810 (by omega)]
  constructor
  ·intro h
   by_cases e:P[i]=(v:Int)
   ·rw [if_pos e] at h
    have h0:0 < cntL P i v:=by omega
    unfold cntL at h0
    rw [List.countP_pos_iff] at h0
    obtain ⟨x,hx,hx2⟩:=h0
    obtain ⟨a,ha,rfl⟩:=List.mem_take_iff_getElem.1 hx
    exact ⟨a,i,by omega,by omega,by omega,by omega,by simpa using hx2,e⟩
   ·rw [if_neg e] at h
    obtain ⟨a,b,h1,h2,h3,h4,h5⟩:=(z708 (P:=P) (v:=v) i (by omega)).1 (by omega)
    exact ⟨a,b,h1,by omega,h3,h4,h5⟩
  ·rintro ⟨a,b,h1,h2,h3,h4,h5,h6⟩
   by_cases hb:b=i
   ·subst hb
    rw [if_pos h6]
    have:=cntL_pos h1 h4 h5
    omega
   ·have:=(z708 (P:=P) (v:=v) i (by omega)).2 ⟨a,b,h1,by omega,h3,h4,h5,h6⟩
    omega
noncomputable def cycD (rows:List (List Int)) (x:Nat):Bool:=by classical exact decide (Cyc rows x)
theorem z188 {rows:List (List Int)} {x:Nat} : cycD rows x=true↔Cyc rows x:=by unfold cycD;simp
noncomputable def cycB (rows:List (List Int)):List Bool:=(List.range rows.length).map (cycD rows)
theorem z423 (rows:List (List Int)):(cycB rows).length=rows.length:=by simp [cycB]
theorem cyc_cnt {rows:List (List Int)} (hr:∀ r∈rows,InN rows.length r) {x:Nat} (hx:x < rows.length):cycD rows x=(decide (1 < cntL (cmpL rows) rows.length ((cmpL rows).getD x 0).toNat) || decide ((x:Int)∈rows.getD x [])):=by
 have hc:=z1238 (rows:=rows) _ (z415 (Q:=cmpL rows) (k:=x) (by rw [z427];exact hx))
 have hv:(((cmpL rows).getD x 0).toNat:Int)=(cmpL rows).getD x 0:=Int.toNat_of_nonneg hc.1
 rw [Bool.eq_iff_iff,z188,cyc_iff hr hx,Bool.or_eq_true,decide_eq_true_iff,decide_eq_true_iff,z708 _ (by rw [z427];exact y49 _),hv]
 have hat:∀ a (h:a < (cmpL rows).length),(cmpL rows)[a]=(cmpL rows).getD a 0:=fun a h=>(z20 h).symm
 have hlen:=z427 rows
 constructor
 ·rintro (h|⟨y,hy,hne,h1,h2⟩)
  ·exact .inr h
  ·left
   have he:=(z906 hr hx hy).2 ⟨h1,h2⟩
   rcases Nat.lt_or_gt_of_ne hne with h3|h3
   ·exact ⟨y,x,h3,hx,by omega,by omega,by rw [hat];exact he,by rw [hat]⟩
   ·exact ⟨x,y,h3,hy,by omega,by omega,by rw [hat],by rw [hat];exact he⟩
 ·rintro (⟨a,b,hab,h2,h3,h4,h5,h6⟩|h)
  ·right
   rw [hat] at h5 h6
   have ha:=(z906 hr hx (show a < rows.length by omega)).1 h5
   have hb:=(z906 hr hx (show b < rows.length by omega)).1 h6
   by_cases e:a=x
   ·exact ⟨b,by omega,by omega,hb⟩
   ·exact ⟨a,by omega,e,ha⟩
  ·exact .inl h
def frm (N:Nat) (Q P:List Int):List Int:=(List.range N).map fun v:Nat=>if (v:Int)∈Q then P.getD v 0 else -2
theorem z896 (N:Nat) (Q P:List Int):(frm N Q P).length=N:=by simp [frm]
theorem frm_nil (N:Nat) (P:List Int):frm N [] P=List.replicate N (-2):=by
 apply y72 (by simp [frm])
 intro i h1 h2
 simp [frm]
theorem frm_set {N:Nat} {Q P:List Int} {v u:Int} (hv:0≤v∧v < N) (hP:P.length=N):(frm N Q P).set v.toNat u=frm N (Q++[v]) (P.set v.toNat u):=by
 apply y72 (by simp [frm])
 intro i h1 h2
 have hi:i < N:=by simpa [frm] using h2
 rw [List.getElem_set]
 by_cases e:v.toNat=i
 ·have e2:(i:Int)=v:=by omega
  rw [if_pos e]
  simp only [frm,List.getElem_map,List.getElem_range]
  rw [if_pos (by simp [e2]),z20 (by simp;omega),List.getElem_set,if_pos e]
 ·have e2:(i:Int)≠v:=by omega
  rw [if_neg e]
  simp only [frm,List.getElem_map,List.getElem_range,y51,y52,e2,or_false]
  split
  ·rw [z20 (by omega),z20 (by simp;omega),List.getElem_set,if_neg e]
  ·rfl
section
variable {rows:List (List Int)} {ini:List Int}
theorem z1074 (u:Int) (l:List Int):∀ x:List Int×List Int,∃ t,(visPs u x l).1=x.1++t:=by
 intro x;rw [z510];exact z436 _ _
theorem z847 {i j:Nat} (h:i≤j):∃ t,(srS rows ini j).1=(srS rows ini i).1++t:=by
  induction j with
  | zero => obtain rfl : i = 0 := by omega
            exact ⟨[],by simp⟩
  | succ j ih =>
    rcases y67 j i with h1|h1
    · obtain rfl:i=j+1:=by omega
      exact ⟨[],by simp⟩
    · obtain ⟨t,ht⟩:=ih h1
      rw [srS];split
      · obtain ⟨t2,ht2⟩:=z1074 (srS rows ini j).1[j] (rows.getD ((srS rows ini j).1[j]).toNat []) (srS rows ini j)
        exact ⟨t++t2,by rw [ht2,ht];simp⟩
      · exact ⟨t,ht⟩
theorem z610 {u v:Int} (hv:0≤v):∀ (l:List Int) (x:List Int×List Int),(∀ y∈l,0≤y)→v∈x.1→(visPs u x l).2.getD v.toNat 0=x.2.getD v.toNat 0
 |[],_,_,_=>rfl
 |w::l,x,hl,hm=>by
  show (visPs u (visP u x w) l).2.getD v.toNat 0=_
  have hm2:v∈(visP u x w).1:=by rw [z649];exact z509.2 (.inl hm)
  rw [z610 hv l _ (fun y hy=>hl y (by simp [hy])) hm2]
  by_cases h:w∈x.1
  ·rw [z647 h]
  ·rw [z648 h]
   have hw:=hl w (by simp)
   have:v≠w:=fun e=>h (e ▸ hm)
   dsimp only
   rw [y65,List.getElem?_set_ne (by omega),← y65]
theorem srS_keep (hr:∀ r∈rows,InN rows.length r) {i j:Nat} (h:i≤j) {v:Int} (hv:0≤v) (hm:v∈(srS rows ini i).1):(srS rows ini j).2.getD v.toNat 0=(srS rows ini i).2.getD v.toNat 0:=by
  induction j with
  | zero => obtain rfl : i = 0 := by omega
            rfl
  | succ j ih =>
    rcases y67 j i with h1|h1
    · obtain rfl:i=j+1:=by omega
      rfl
    · obtain ⟨t,ht⟩:=z847 (rows:=rows) (ini:=ini) h1
      rw [srS];split
      · rw [z610 hv _ _ (fun y hy=>(z301 hr _ y hy).1) (by rw [ht];simp [hm])]
        exact ih h1
      · exact ih h1
theorem z1100 (hr:∀ r∈rows,InN rows.length r) (hi:InN rows.length ini) (hn:ini.Nodup) {i:Nat} (hil:i≤rows.length):∀ (f:Nat) (v:Int) (tl:List Int),v∈(srS rows ini i).1→bkw (srS rows ini i).2 f v tl=bkw (srP rows ini) f v tl
 |0,_,_,_=>rfl
 |f+1,v,tl,hm=>by
  have hJ:=z611 hr hi hn i
  have hv:=hJ.inn v hm
  have e:(srP rows ini).getD v.toNat 0=(srS rows ini i).2.getD v.toNat 0:=srS_keep hr hil hv.1 hm
  rw [bkw,bkw,e]
  split
  ·rename_i h
   refine z1100 hr hi hn hil f _ _ ?_
   obtain ⟨k,hk,rfl⟩:=List.mem_iff_getElem.1 hm
   rcases hJ.pre k hk with h1|⟨j,hj,_,h2⟩
   ·omega
   ·rw [h2];exact y41 _
  ·rfl
def shL (rows:List (List Int)) (ini:List Int) (G:Int→Bool):List Int:=match (srQ rows ini).find? G with
 |none=>[]
 |some v=>bkw (srP rows ini) rows.length v []
theorem z1115 (hr : ∀ r ∈ rows, InN rows.length r) (hi : InN rows.length ini) (hn : ini.Nodup) {G : Int → Bool} {i : Nat} (hil : i < (srS rows ini i).1.length) (hG : G (srS rows ini i).1[i] = true) (hk : ∀ k (_ : k < i), G ((srS rows ini i).1[k]) = false) :
    shL rows ini G=bkw (srS rows ini i).2 rows.length (srS rows ini i).1[i] []:=by
  have hle:i≤rows.length:=Nat.le_of_lt (Nat.lt_of_lt_of_le hil (z1098 hr hi hn i))
  obtain ⟨t,ht⟩:=z847 (rows:=rows) (ini:=ini) hle
  have:(srQ rows ini).find? G=some (srS rows ini i).1[i]:=by
    show (srS rows ini rows.length).1.find? G=_
    rw [ht,List.find?_append]
    have:(srS rows ini i).1.find? G=some (srS rows ini i).1[i]:=by
      rw [List.find?_eq_some_iff_getElem]
      exact ⟨hG,i,hil,rfl,fun j hj=>by rw [hk j hj];rfl⟩
    rw [this];rfl
  unfold shL
  rw [this]
  exact (z1100 hr hi hn hle _ _ _ (y41 _)).symm
theorem shL_none {G:Int→Bool} {i:Nat} (hil:(srS rows ini i).1.length≤i) (hle:i≤rows.length) (hk:∀ k (h:k < (srS rows ini i).1.length),G ((srS rows ini i).1[k])=false):shL rows ini G=[]:=by
 have e:=srS_end (ini:=ini) hil hle
 have:(srQ rows ini).find? G=none:=by
  rw [List.find?_eq_none]
  intro x hx
  have e1:(srS rows ini i).1=srQ rows ini:=by rw [e]
  rw [← e1] at hx
  obtain ⟨k,hk',rfl⟩:=List.mem_iff_getElem.1 hx
  rw [hk k hk'];simp
 unfold shL
 rw [this]
def aroL (rows:List (List Int)) (v:Int):List Int:=if v∈rows.getD v.toNat [] then [v] else shL rows [v] fun n=>decide (n≠v) && decide (v∈rows.getD n.toNat [])
theorem aroL_eq (v:Int):aroL rows v=cycL rows v:=by
 unfold aroL cycL
 split
 ·rfl
 ·rename_i h
  unfold shL
  have key:∀ l:List Int,(match l.find? (fun n=>decide (n≠v) && decide (v∈rows.getD n.toNat [])) with|none=>[]|some u=>bkw (srP rows [v]) rows.length u [])=cycT rows (srP rows [v]) v l:=by
   intro l
   induction l with
   |nil=>rfl
   |cons u l ih =>
    rw [List.find?_cons,cycT]
    by_cases hu:v∈rows.getD u.toNat []
    ·have hne:u≠v:=fun e=>by rw [e] at hu;exact h hu
     rw [y79 hu,y79 hne,if_pos hu];rfl
    ·rw [y80 hu,Bool.and_false,if_neg hu]
     exact ih
  exact key _
theorem RP.head {v u:Int} (h:RP rows [v] u):u=v∨∃ y,y∈rows.getD v.toNat []∧RP rows [y] u:=by
 induction h with
 |base hb=>exact .inl (List.mem_singleton.1 hb)
 |step _ e ih =>
  rcases ih with rfl|⟨y,hy,h2⟩
  ·exact .inr ⟨_,e,.base (by simp)⟩
  ·exact .inr ⟨y,hy,.step h2 e⟩
theorem z976 (hr:∀ r∈rows,InN rows.length r) {v:Int} (hv:0≤v∧v < rows.length):0 < (cycL rows v).length↔Cyc rows v:=by
 have hq:∀ x,x∈srQ rows [v]↔RP rows [v] x:=fun x=>by
  have:=z848 (rows:=rows) (ini:=[v]) (by simp) rows.length
  show x∈(srS rows [v] rows.length).1↔_
  rw [this]
  exact z237 hr (z767 hv) x
 unfold cycL
 split
 ·rename_i h
  exact ⟨fun _=>⟨v,h,.base (by simp)⟩,fun _=>by simp⟩
 ·rename_i h
  have key:∀ l:List Int,0 < (cycT rows (srP rows [v]) v l).length↔∃ u∈l,v∈rows.getD u.toNat []:=by
   intro l
   induction l with
   |nil=>simp [cycT]
   |cons u l ih =>
    rw [cycT]
    split
    ·rename_i hu
     exact ⟨fun _=>⟨u,by simp,hu⟩,fun _=>z713 _ _ _ _⟩
    ·rename_i hu
     rw [ih]
     constructor
     ·rintro ⟨w,h1,h2⟩;exact ⟨w,by simp [h1],h2⟩
     ·rintro ⟨w,h1,h2⟩
      rcases List.mem_cons.1 h1 with rfl|h1
      ·exact absurd h2 hu
      ·exact ⟨w,h1,h2⟩
  rw [key]
  constructor
  ·rintro ⟨u,hu,hvu⟩
   rcases RP.head ((hq u).1 hu) with rfl|⟨y,hy,h2⟩
   ·exact absurd hvu h
   ·exact ⟨y,hy,.step h2 hvu⟩
  ·rintro ⟨y,hy,h1⟩
   cases h1 with
   |base hb=>exact absurd (List.mem_singleton.1 hb ▸ hy) h
   |step h2 h3=>exact ⟨_,(hq _).2 (RP.trans (.base (by simp)) hy h2),h3⟩
noncomputable def lasL (rows:List (List Int)) (ini:List Int) (G:Int→Bool):Option (List Int×List Int):=((bfsL rows ini).find? fun v=>G v && cycD rows v.toNat).map fun v=>(bkw (srP rows ini) rows.length v [],cycL rows v)
theorem z494 (hr:∀ r∈rows,InN rows.length r) (hi:InN rows.length ini) (hn:ini.Nodup) (acc:List Bool):lasL rows ini (fun v=>acc.getD (v % acc.length).toNat false)=finS rows ini acc:=by
 have e:bfsL rows ini=srQ rows ini:=(z848 hn rows.length).symm
 have hin:=z1101 hr hi hn
 unfold lasL finS
 rw [e]
 generalize srQ rows ini=Q at *
 clear e
 induction Q with
 |nil=>rfl
 |cons u Q ih =>
  have hu:=hin u (by simp)
  have hc:cycD rows u.toNat=decide (0 < (cycL rows u).length):=by
   rw [Bool.eq_iff_iff,z188,decide_eq_true_iff,z976 hr hu,Int.toNat_of_nonneg hu.1]
  have ih:=ih fun x hx=>hin x (by simp [hx])
  rw [List.find?_cons,finT]
  dsimp only
  rw [hc]
  by_cases ha:acc.getD (u % acc.length).toNat false=true
  ·rw [if_pos ha,ha,Bool.true_and]
   by_cases hl:0 < (cycL rows u).length
   ·rw [if_pos hl,y79 hl];rfl
   ·rw [if_neg hl,y80 hl]
    exact ih
  ·rw [if_neg ha,(y69 _).mp ha,Bool.false_and]
   exact ih
theorem shL_to (hn:ini.Nodup) {v:Int} (hv:v∈bfsL rows ini):shL rows ini (fun n=>decide (n=v))=bkw (srP rows ini) rows.length v []:=by
 have e:bfsL rows ini=srQ rows ini:=(z848 hn rows.length).symm
 rw [e] at hv
 unfold shL
 cases h:(srQ rows ini).find? (fun n=>decide (n=v)) with
 |none=>rw [List.find?_eq_none] at h;have:=h v hv;simp at this
 |some u=>have:=List.find?_some h;rw [of_decide_eq_true this]
end
end Go.Gl
namespace Go.Gl
theorem z659 (l:List Int) (i j:Nat):(swp l i j).length=l.length:=by unfold swp;simp
theorem swp_at (l:List Int) {i j k:Nat} (hi:i < l.length) (hj:j < l.length) (hk:k < l.length):(swp l i j)[k]'(by rw [z659];exact hk)=if k=j then l[i] else if k=i then l[j] else l[k]:=by
 unfold swp
 rw [List.getElem_set]
 by_cases h:j=k
 ·rw [if_pos h,if_pos h.symm,z20 hi]
 ·rw [if_neg h,if_neg (fun e=>h e.symm),List.getElem_set]
  by_cases h2:i=k
  ·rw [if_pos h2,if_pos h2.symm,z20 hj]
  ·rw [if_neg h2,if_neg (fun e=>h2 e.symm)]
def chn (P:List Int):Nat→Int→List Int
 |0,v=>[v]
 |f+1,v=>v::if 0≤P.getD v.toNat 0 then chn P f (P.getD v.toNat 0) else []
theorem z1252 (P:List Int):∀ (f:Nat) (v:Int) (tl:List Int),bkw P f v tl=(chn P f v).reverse++tl
 |0,v,tl=>rfl
 |f+1,v,tl=>by
  rw [bkw,chn]
  split
  ·rw [z1252 P f];simp
  ·simp
theorem chn_pos (P:List Int) (f:Nat) (v:Int):1≤(chn P f v).length:=by cases f<;>simp [chn]
theorem z1126:∀ (f i j:Nat) (l:List Int),i+j+1=l.length→j+1≤2 * f+1+i→∀ k (h:k < (revG f i j l).length) (h' : k < l.length),(revG f i j l)[k]=if i≤k∧k≤j then l[l.length - 1 - k]'(by omega) else l[k]
 |0,i,j,l,hij,hf,k,h,h'=>by
  show l[k]=_
  split
  ·congr 1;omega
  ·rfl
 |f+1,i,j,l,hij,hf,k,h,h'=>by
  by_cases hlt:i < j
  ·have e:revG (f+1) i j l=revG f (i+1) (j - 1) (swp l i j):=by rw [revG,if_pos hlt]
   have hk:k < (revG f (i+1) (j - 1) (swp l i j)).length:=by rw [← e];exact h
   have ih:=z1126 f (i+1) (j - 1) (swp l i j) (by rw [z659];omega) (by omega) k hk (by rw [z659];exact h')
   have e2:(revG (f+1) i j l)[k]=(revG f (i+1) (j - 1) (swp l i j))[k]:=by simp only [e]
   rw [e2,ih]
   simp only [z659]
   by_cases h1:i+1≤k∧k≤j - 1
   ·rw [if_pos h1,if_pos (by omega),swp_at l (by omega) (by omega) (by omega),if_neg (by omega),if_neg (by omega)]
   ·rw [if_neg h1,swp_at l (by omega) (by omega) h']
    by_cases h2:k=j
    ·rw [if_pos h2,if_pos (by omega)];congr 1;omega
    ·rw [if_neg h2]
     by_cases h3:k=i
     ·rw [if_pos h3,if_pos (by omega)];congr 1;omega
     ·rw [if_neg h3,if_neg (by omega)]
  ·have e:revG (f+1) i j l=l:=by rw [revG,if_neg hlt]
   have e2:(revG (f+1) i j l)[k]=l[k]:=by simp only [e]
   rw [e2]
   split
   ·congr 1;omega
   ·rfl
theorem rvs_eq (l:List Int):rvs l=l.reverse:=by
 by_cases h0:l.length=0
 ·have:l=[]:=y71 h0
  subst this;rfl
 ·apply y72 (by rw [z668,List.length_reverse])
  intro k h1 h2
  have hk:k < l.length:=by rw [z668] at h1;exact h1
  have:=z1126 l.length 0 (l.length - 1) l (by omega) (by omega) k h1 hk
  rw [List.getElem_reverse]
  refine this.trans ?_
  rw [if_pos (by omega)]
def rkStep (R:List Int) (z:Bool) (o v:Int):Int:=if o < R.getD v.toNat 0+(if z=true then 1 else 0) then R.getD v.toNat 0+(if z=true then 1 else 0) else o
def rkOf (R:List Int) (z:Bool) (row:List Int):Int:=row.foldl (rkStep R z) 0
def Bd (M:Int) (R:List Int):Prop:=∀ x∈R,-1≤x∧x≤M
theorem Bd.getD {M:Int} {R:List Int} (h:Bd M R) (hM:0≤M) (i:Nat) : -1≤R.getD i 0∧R.getD i 0≤M:=by
 by_cases hl:i < R.length
 ·rw [z20 hl];exact h _ (y41 _)
 ·rw [y65,y66 (by omega)];exact ⟨by show -1≤(0:Int);omega,hM⟩
theorem Bd.mono {M M' : Int} {R:List Int} (h:Bd M R) (hM:M≤M'):Bd M' R:=fun x hx=>by have:=h x hx;omega
theorem Bd.set {M:Int} {R:List Int} (h:Bd M R) {i:Nat} {v:Int} (hv : -1≤v∧v≤M):Bd M (R.set i v):=fun x hx=>by
 rcases List.mem_or_eq_of_mem_set hx with h1|rfl
 ·exact h x h1
 ·exact hv
def z593 (rows:List (List Int)) (acc:List Bool) (x:List Int×Bool) (u:Int):List Int×Bool :=
 if x.1.getD u.toNat 0 < rkOf x.1 (acc.getD (u % acc.length).toNat false) (rows.getD u.toNat []) then (x.1.set u.toNat (rkOf x.1 (acc.getD (u % acc.length).toNat false) (rows.getD u.toNat [])),true) else x
def z1139 (rows:List (List Int)) (acc:List Bool) (nodes R:List Int):List Int×Bool:=nodes.reverse.foldl (z593 rows acc) (R,false)
theorem z1128 (rows:List (List Int)) (acc:List Bool) (x:List Int×Bool) (u:Int):(z593 rows acc x u).1.length=x.1.length:=by
 unfold z593
 split
 ·simp
 ·rfl
theorem z942 {rows:List (List Int)} {acc:List Bool} : ∀ (l:List Int) (x:List Int×Bool),(l.foldl (z593 rows acc) x).1.length=x.1.length
 |[],_=>rfl
 |u::l,x=>by rw [List.foldl_cons,z942 l,z1128]
def wtA (acc:List Bool) (u:Int):Int:=if acc.getD (u % acc.length).toNat false=true then 1 else 0
def Wt (rows:List (List Int)) (acc:List Bool):Nat→Int→Int
 |0,_=>0
 |k+1,u=>(rows.getD u.toNat []).foldl (fun o v=>max o (Wt rows acc k v+wtA acc u)) 0
theorem z127 (f:Int→Int):∀ (l:List Int) (o:Int),o≤l.foldl (fun o v=>max o (f v)) o∧∀ v∈l,f v≤l.foldl (fun o v=>max o (f v)) o
 |[],o=>⟨Int.le_refl _,by simp⟩
 |x::l,o=>by
  obtain ⟨h1,h2⟩:=z127 f l (max o (f x))
  rw [List.foldl_cons]
  refine ⟨by omega,fun v hv=>?_⟩
  rcases List.mem_cons.1 hv with rfl|hv
  ·omega
  ·exact h2 v hv
theorem z454 (f:Int→Int):∀ (l:List Int) (o:Int),l.foldl (fun o v=>max o (f v)) o=o∨∃ v∈l,l.foldl (fun o v=>max o (f v)) o=f v
 |[],o=>.inl rfl
 |x::l,o=>by
  rw [List.foldl_cons]
  rcases z454 f l (max o (f x)) with h|⟨v,hv,h⟩
  ·rw [h]
   rcases Int.le_total o (f x) with h1|h1
   ·exact .inr ⟨x,by simp,by omega⟩
   ·exact .inl (by omega)
  ·exact .inr ⟨v,by simp [hv],h⟩
theorem z348 {f:Int→Int} {l:List Int} {o M:Int} (ho:o≤M) (h:∀ v∈l,f v≤M):l.foldl (fun o v=>max o (f v)) o≤M:=by
 rcases z454 f l o with h1|⟨v,hv,h1⟩
 ·rw [h1];exact ho
 ·rw [h1];exact h v hv
section
variable {rows:List (List Int)} {ini:List Int} {acc:List Bool}
theorem Wt_nn (k:Nat) (u:Int):0≤Wt rows acc k u:=by
 cases k with
 |zero=>exact Int.le_refl _
 |succ k=>rw [Wt];exact (z127 _ _ _).1
theorem z1268 (k:Nat):∀ u,Wt rows acc k u≤Wt rows acc (k+1) u:=by
 induction k with
 |zero=>intro u;exact Wt_nn 1 u
 |succ k ih =>
  intro u
  rw [Wt]
  refine z348 (Wt_nn _ _) fun v hv=>?_
  rw [Wt]
  have h1:=(z127 (fun v=>Wt rows acc (k+1) v+wtA acc u) (rows.getD u.toNat []) 0).2 v hv
  have:=ih v
  omega
theorem Wt_le {j k:Nat} (h:j≤k) (u:Int):Wt rows acc j u≤Wt rows acc k u:=by
  induction k with
  | zero => obtain rfl : j = 0 := by omega
            exact Int.le_refl _
  | succ k ih =>
    rcases y67 k j with h1|h1
    · obtain rfl:j=k+1:=by omega
      exact Int.le_refl _
    · have:=ih h1
      have:=z1268 (rows:=rows) (acc:=acc) k u
      omega
def IncW (rows:List (List Int)) (acc:List Bool) (k:Nat) (u:Int):Prop:=Wt rows acc k u < Wt rows acc (k+1) u
theorem Inc_step {k:Nat} {u:Int} (h:IncW rows acc (k+1) u):∃ v∈rows.getD u.toNat [],IncW rows acc k v∧Wt rows acc (k+2) u=Wt rows acc (k+1) v+wtA acc u:=by
 unfold IncW at h
 have h0:=Wt_nn (rows:=rows) (acc:=acc) (k+1) u
 rcases z454 (fun v=>Wt rows acc (k+1) v+wtA acc u) (rows.getD u.toNat []) 0 with h1|⟨v,hv,h1⟩
 ·have e:Wt rows acc (k+2) u=0:=h1
  have:Wt rows acc (k+1+1) u=0:=e
  omega
 ·have e:Wt rows acc (k+1+1) u=Wt rows acc (k+1) v+wtA acc u:=h1
  refine ⟨v,hv,?_,e⟩
  have h2:Wt rows acc k v+wtA acc u≤Wt rows acc (k+1) u:=(z127 (fun v=>Wt rows acc k v+wtA acc u) (rows.getD u.toNat []) 0).2 v hv
  unfold IncW
  omega
structure ChW (rows:List (List Int)) (acc:List Bool) (k:Nat) (c:Nat→Int):Prop where
 step:∀ i,i < k→c i∈rows.getD (c (i+1)).toNat []∧Wt rows acc (i+2) (c (i+1))=Wt rows acc (i+1) (c i)+wtA acc (c (i+1))
 inc:∀ i,i≤k→IncW rows acc i (c i)
theorem z834:∀ (k:Nat) (u:Int),IncW rows acc k u→∃ c:Nat→Int,c k=u∧ChW rows acc k c
  | 0, u, h => ⟨fun _ => u, rfl, fun i hi => by omega, fun i hi => by obtain rfl : i = 0 := by omega
                                                                      exact h⟩
  | k+1,u,h=>by
    obtain ⟨v,hv,h1,h2⟩:=Inc_step h
    obtain ⟨c,hc,hC⟩:=z834 k v h1
    refine ⟨fun i=>if i=k+1 then u else c i,by simp,fun i hi=>?_,fun i hi=>?_⟩
    · by_cases e:i=k
      · subst e
        simp only [if_pos,if_neg (show ¬ i=i+1 by omega)]
        rw [hc]
        exact ⟨hv,h2⟩
      · rw [if_neg (by omega),if_neg (by omega)]
        exact hC.step i (by omega)
    · by_cases e:i=k+1
      · rw [if_pos e,e];exact h
      · rw [if_neg e];exact hC.inc i (by omega)
theorem ChW.reach {k:Nat} {c:Nat→Int} (h:ChW rows acc k c) {i:Nat} : ∀ d,i+d≤k→RP rows [c (i+d)] (c i)
 |0,_=>.base (by simp)
 |d+1,hd=>RP.trans (.base (by simp [Nat.add_assoc])) (h.step (i+d) (by omega)).1 (h.reach d (by omega))
theorem ChW.flat {k:Nat} {c:Nat→Int} (h:ChW rows acc k c) {j:Nat} : ∀ d,j+d≤k→(∀ l,j < l→l≤j+d→wtA acc (c l)=0)→Wt rows acc (j+d+1) (c (j+d))=Wt rows acc (j+1) (c j)
 |0,_,_=>rfl
 |d+1,hd,hl=>by
  have h1:=(h.step (j+d) (by omega)).2
  have h2:=h.flat d (by omega) fun l h1 h2=>hl l h1 (by omega)
  have h3:=hl (j+d+1) (by omega) (by omega)
  have e:j+(d+1)=j+d+1:=by omega
  rw [e,h1,h3,h2];omega
theorem Wt_stop (hr:∀ r∈rows,InN rows.length r) (hi:InN rows.length ini) (hno:∀ x,RP rows ini x→Cyc rows x→acc.getD (x % acc.length).toNat false=false) {k:Nat} (hk:(bfsL rows ini).length≤k) {u:Int} (hu:RP rows ini u):¬ IncW rows acc k u:=by
 intro h
 obtain ⟨c,hc,hC⟩:=z834 k u h
 have hrp:∀ d,d≤k→RP rows ini (c (k - d)):=by
  intro d
  induction d with
  |zero=>intro _;rw [Nat.sub_zero,hc];exact hu
  |succ d ih =>
   intro hd
   have h1:=(hC.step (k - (d+1)) (by omega)).1
   rw [show k - (d+1)+1=k - d by omega] at h1
   exact .step (ih (by omega)) h1
 have hrp' : ∀ i,i≤k→c i∈bfsL rows ini:=fun i hi'=>by
  have:=hrp (k - i) (by omega)
  rw [show k - (k - i)=i by omega] at this
  exact (z237 hr hi _).2 this
 by_cases hinj:∃ i j,j < i∧i≤k∧c i=c j
 ·obtain ⟨i,j,hji,hik,he⟩:=hinj
  obtain ⟨d,rfl⟩:∃ d,i=j+(d+1):=⟨i - j - 1,by omega⟩
  have h1:=hC.inc (j+(d+1)) hik
  unfold IncW at h1
  have h2:=Wt_le (rows:=rows) (acc:=acc) (show j+1≤j+(d+1) by omega) (c (j+(d+1)))
  by_cases hz:∀ l,j < l→l≤j+(d+1)→wtA acc (c l)=0
  ·have h3:=hC.flat (d+1) hik hz
   rw [he] at h1 h2 h3
   omega
  ·simp only [Classical.not_forall] at hz
   obtain ⟨l,hl1,hl2,hl3⟩:=hz
   obtain ⟨e,rfl⟩:∃ e,l=j+e+1:=⟨l - j - 1,by omega⟩
   have hcy:Cyc rows (c (j+e+1)):=by
    refine ⟨c (j+e),(hC.step (j+e) (by omega)).1,?_⟩
    have r1:=hC.reach (i:=j) e (by omega)
    have r2:=hC.reach (i:=j+e+1) (d - e) (by omega)
    rw [show j+e+1+(d - e)=j+(d+1) by omega,he] at r2
    exact RP.trans0 r1 r2
   have:=hno _ ((z237 hr hi _).1 (hrp' _ (by omega))) hcy
   apply hl3
   unfold wtA
   rw [if_neg (by rw [this];simp)]
 ·have hinj:∀ i j,j < i→i≤k→c i≠c j:=fun i j h1 h2 h3=>hinj ⟨i,j,h1,h2,h3⟩
  have hidx:∀ i j,i≤k→j≤k→(bfsL rows ini).idxOf (c i)=(bfsL rows ini).idxOf (c j)→c i=c j:=fun i j h1 h2 h3=>by
   have a1:=List.getElem_idxOf (List.idxOf_lt_length_of_mem (hrp' i h1))
   have a2:=List.getElem_idxOf (List.idxOf_lt_length_of_mem (hrp' j h2))
   rw [← a1,← a2];congr 1
  have:=z199 (bfsL rows ini).length ((List.range (k+1)).map fun i=>(((bfsL rows ini).idxOf (c i):Nat):Int)) ?_ ?_
  ·simp at this;omega
  ·rw [List.nodup_iff_pairwise_ne,List.pairwise_iff_getElem]
   intro i j h1 h2 hij
   simp only [y46,List.length_range] at h1 h2
   simp only [List.getElem_map,List.getElem_range]
   intro he
   exact hinj j i hij (by omega) (hidx j i (by omega) (by omega) (by omega))
  ·intro x hx
   obtain ⟨i,hi',rfl⟩:=List.mem_map.1 hx
   have:=List.mem_range.1 hi'
   have:=List.idxOf_lt_length_of_mem (hrp' i (by omega))
   omega
theorem Wt_fix (hr:∀ r∈rows,InN rows.length r) (hi:InN rows.length ini) (hno:∀ x,RP rows ini x→Cyc rows x→acc.getD (x % acc.length).toNat false=false) {u:Int} (hu:RP rows ini u):Wt rows acc ((bfsL rows ini).length+1) u=Wt rows acc (bfsL rows ini).length u:=by
 have h1:=Wt_stop hr hi hno (y49 _) hu
 have h2:=z1268 (rows:=rows) (acc:=acc) (bfsL rows ini).length u
 unfold IncW at h1
 omega
end
theorem z534 (R:List Int) (z:Bool) (row:List Int):rkOf R z row=row.foldl (fun o v=>max o (R.getD v.toNat 0+if z=true then 1 else 0)) 0:=by
 unfold rkOf
 congr 1
 funext o v
 unfold rkStep
 split<;>omega
theorem z699 (R:List Int) (i j:Nat) (v:Int) (hi:i < R.length):(R.set i v).getD j 0=if i=j then v else R.getD j 0:=by
 rw [y65,List.getElem?_set]
 simp only [hi,if_true]
 split
 ·rfl
 ·rw [← y65]
structure RkI (rows:List (List Int)) (ini:List Int) (acc:List Bool) (t:Nat) (R:List Int):Prop where
 len:R.length=rows.length
 lo:∀ u,RP rows ini u→Wt rows acc t u≤R.getD u.toNat 0
 hi:∀ u,RP rows ini u→R.getD u.toNat 0≤Wt rows acc (bfsL rows ini).length u
section
variable {rows:List (List Int)} {ini:List Int} {acc:List Bool}
def rkU (rows:List (List Int)) (acc:List Bool) (R:List Int) (u:Int):Int:=rkOf R (acc.getD (u % acc.length).toNat false) (rows.getD u.toNat [])
theorem rkU_ge {t:Nat} {R:List Int} {u:Int} (hu:RP rows ini u) (h:∀ u,RP rows ini u→Wt rows acc t u≤R.getD u.toNat 0):Wt rows acc (t+1) u≤rkU rows acc R u:=by
 unfold rkU
 rw [z534,Wt]
 refine z348 (z127 _ _ _).1 fun v hv=>?_
 have h1:=(z127 (fun v=>R.getD v.toNat 0+if acc.getD (u % acc.length).toNat false=true then 1 else 0) (rows.getD u.toNat []) 0).2 v hv
 have h2:=h v (.step hu hv)
 unfold wtA
 omega
theorem rkU_le {t:Nat} {R:List Int} {u:Int} (hu:RP rows ini u) (h:∀ u,RP rows ini u→R.getD u.toNat 0≤Wt rows acc t u):rkU rows acc R u≤Wt rows acc (t+1) u:=by
 unfold rkU
 rw [z534,Wt]
 refine z348 (z127 _ _ _).1 fun v hv=>?_
 have h1:=(z127 (fun v=>Wt rows acc t v+wtA acc u) (rows.getD u.toNat []) 0).2 v hv
 have h2:=h v (.step hu hv)
 have e:(if acc.getD (u % acc.length).toNat false=true then (1:Int) else 0)=wtA acc u:=rfl
 rw [e]
 omega
theorem z672 (x:List Int×Bool) (u:Int):z593 rows acc x u=if x.1.getD u.toNat 0 < rkU rows acc x.1 u then (x.1.set u.toNat (rkU rows acc x.1 u),true) else x:=rfl
structure PsI (rows:List (List Int)) (ini:List Int) (acc:List Bool) (t:Nat) (l:List Int) (x y:List Int×Bool):Prop where
 inv:RkI rows ini acc t y.1
 up:∀ u,RP rows ini u→x.1.getD u.toNat 0≤y.1.getD u.toNat 0
 nxt:∀ u∈l,Wt rows acc (t+1) u≤y.1.getD u.toNat 0
 off:∀ j:Nat,¬ RP rows ini j→y.1.getD j 0=x.1.getD j 0
 same:y.2=false→y=x∧∀ u∈l,rkU rows acc x.1 u≤x.1.getD u.toNat 0
theorem z869 (hr:∀ r∈rows,InN rows.length r) (hin:InN rows.length ini) (hno:∀ x,RP rows ini x→Cyc rows x→acc.getD (x % acc.length).toNat false=false) {t:Nat} : ∀ (l:List Int) (x:List Int×Bool),(∀ u∈l,RP rows ini u)→RkI rows ini acc t x.1→PsI rows ini acc t l x (l.foldl (z593 rows acc) x)
 |[],x,_,h=>⟨h,fun _ _=>Int.le_refl _,by simp,fun _ _=>rfl,fun _=>⟨rfl,by simp⟩⟩
 |u::l,x,hl,h=>by
  have hu:=hl u (by simp)
  have huN:=RP.in hr hin hu
  have hx:=h.len
  rw [List.foldl_cons,z672]
  have hlo:=rkU_ge hu h.lo
  have hhi:=rkU_le hu h.hi
  rw [Wt_fix hr hin hno hu] at hhi
  by_cases hc:x.1.getD u.toNat 0 < rkU rows acc x.1 u
  ·rw [if_pos hc]
   have hg:∀ w,0≤w→(x.1.set u.toNat (rkU rows acc x.1 u)).getD w.toNat 0=if u=w then rkU rows acc x.1 u else x.1.getD w.toNat 0:=fun w hw=>by
    rw [z699 _ _ _ _ (by omega)]
    by_cases e:u=w
    ·rw [if_pos e,if_pos (by rw [e])]
    ·rw [if_neg e,if_neg (by omega)]
   have hup:∀ w,RP rows ini w→x.1.getD w.toNat 0≤(x.1.set u.toNat (rkU rows acc x.1 u)).getD w.toNat 0:=fun w hw=>by
    rw [hg w (RP.in hr hin hw).1]
    split
    ·rename_i e;subst e;omega
    ·exact Int.le_refl _
   have h1:=z869 hr hin hno (t:=t) l (x.1.set u.toNat (rkU rows acc x.1 u),true) (fun w hw=>hl w (by simp [hw])) ⟨by simp [hx],fun w hw=>Int.le_trans (h.lo w hw) (hup w hw),fun w hw=>by
    dsimp only
    rw [hg w (RP.in hr hin hw).1]
    split
    ·rename_i e;subst e;exact hhi
    ·exact h.hi w hw⟩
   refine ⟨h1.inv,fun w hw=>Int.le_trans (hup w hw) (h1.up w hw),fun w hw=>?_,fun j hj=>?_,fun hf=>?_⟩
   ·rcases List.mem_cons.1 hw with rfl|hw
    ·have:=h1.up w hu
     dsimp only at this
     rw [hg w huN.1,if_pos rfl] at this
     omega
    ·exact h1.nxt w hw
   ·rw [h1.off j hj]
    dsimp only
    rw [z699 _ _ _ _ (by omega),if_neg]
    intro e
    apply hj
    rw [← e,Int.toNat_of_nonneg huN.1];exact hu
   ·have:=(h1.same hf).1
    rw [this] at hf
    cases hf
  ·rw [if_neg hc]
   have h1:=z869 hr hin hno (t:=t) l x (fun w hw=>hl w (by simp [hw])) h
   refine ⟨h1.inv,h1.up,fun w hw=>?_,h1.off,fun hf=>⟨(h1.same hf).1,fun w hw=>?_⟩⟩
   ·rcases List.mem_cons.1 hw with rfl|hw
    ·have:=h1.up w hu
     omega
    ·exact h1.nxt w hw
   ·rcases List.mem_cons.1 hw with rfl|hw
    ·omega
    ·exact (h1.same hf).2 w hw
theorem rk_done {R:List Int} (h:RkI rows ini acc 0 R) (hf:∀ u,RP rows ini u→rkU rows acc R u≤R.getD u.toNat 0) {u:Int} (hu:RP rows ini u):R.getD u.toNat 0=Wt rows acc (bfsL rows ini).length u:=by
 have key:∀ k,∀ u,RP rows ini u→Wt rows acc k u≤R.getD u.toNat 0:=by
  intro k
  induction k with
  |zero=>exact h.lo
  |succ k ih=>intro u hu;exact Int.le_trans (rkU_ge hu ih) (hf u hu)
 have h1:=key (bfsL rows ini).length u hu
 have h2:=h.hi u hu
 omega
theorem RkI.weak {t:Nat} {R:List Int} (h:RkI rows ini acc t R):RkI rows ini acc 0 R:=⟨h.len,fun u hu=>Int.le_trans (Wt_le (y50 t) u) (h.lo u hu),h.hi⟩
theorem RkI.full {t:Nat} {R:List Int} (h:RkI rows ini acc t R) (ht:(bfsL rows ini).length≤t) {u:Int} (hu:RP rows ini u):R.getD u.toNat 0=Wt rows acc (bfsL rows ini).length u:=by
 have h1:=h.lo u hu
 have h2:=h.hi u hu
 have h3:=Wt_le (rows:=rows) (acc:=acc) ht u
 omega
end
end Go.Gl
namespace Go.Gl
section
variable {rows:List (List Int)} {ini:List Int}
theorem z1176 {G:Int→Bool} {p q:List Int} (h:lasL rows ini G=some (p,q)):∃ v,v∈bfsL rows ini∧G v=true∧cycD rows v.toNat=true∧p=bkw (srP rows ini) rows.length v []∧q=cycL rows v:=by
 unfold lasL at h
 rw [Option.map_eq_some_iff] at h
 obtain ⟨v,hv,he⟩:=h
 have h1:=List.find?_some hv
 have h2:=List.mem_of_find?_eq_some hv
 obtain ⟨h3,h4⟩:=Bool.and_eq_true_iff.1 h1
 cases he
 exact ⟨v,h2,h3,h4,rfl,rfl⟩
theorem z780 {G:Int→Bool} : lasL rows ini G=none↔∀ v∈bfsL rows ini,¬ (G v=true∧cycD rows v.toNat=true):=by
 unfold lasL
 rw [Option.map_eq_none_iff,List.find?_eq_none]
 simp only [y68]
theorem lasL_bd (hr : ∀ r ∈ rows, InN rows.length r) (hi : InN rows.length ini) (hn : ini.Nodup) {G : Int → Bool} {p q : List Int} (h : lasL rows ini G = some (p, q)) :
    (∀ x∈p,0≤x∧x≤rows.length)∧(∀ x∈q,0≤x∧x≤rows.length)∧p.length≤rows.length+1∧q.length≤rows.length+1∧1≤p.length∧1≤q.length:=by
  obtain ⟨v,hv,_,hc,rfl,rfl⟩:=z1176 h
  have hvN:=z432 hr hi _ v hv
  have h1:=z714 (srP rows ini) rows.length v []
  refine ⟨fun x hx=>⟨z1250 _ _ _ hvN.1 (by simp) x hx,z1251 (srS_le hr hi hn rows.length) _ _ _ (by omega) (by omega) (by simp) x hx⟩,fun x hx=>⟨cycL_nn hr hvN x hx,cycL_le hr hvN x hx⟩,by rw [y56] at h1;omega,z975 _ _,z713 _ _ _ _,?_⟩
  have:=(z976 hr hvN).2 (by have:=z188.1 hc;rwa [Int.toNat_of_nonneg hvN.1] at this)
  omega
end
end Go.Gl
namespace Go.Gl
section
variable {rows:List (List Int)} {ini:List Int}
end
end Go.Gl
namespace Go.Gl
def RowP (n:Nat) (U:List Int) (r:List Int):Prop:=∃ (s ph:Nat),r=[(s:Int),(ph:Int)]∧s < 2 ^ n∧(U.length=0∧ph=0∨ph < U.length)
theorem phB_rowP {B:List Tree} {U:List Int} {s ph:Nat} (h:U.length=0∧ph=0∨ph < U.length):∃ q:Nat,(phB B U s ph).1=q∧(U.length=0∧q=0∨q < U.length):=by
 unfold phB
 by_cases h0:U.length=0
 ·rw [if_pos h0];exact ⟨0,rfl,.inl ⟨h0,rfl⟩⟩
 ·rw [if_neg h0]
  split
  ·refine ⟨(ph+1) % U.length,by simp,.inr (Nat.mod_lt _ (by omega))⟩
  ·exact ⟨ph,rfl,.inr (by omega)⟩
theorem z944 (L:List (List Int)) (p:List Int):L.length≤(z162 L p).length∧(z162 L p).length≤L.length+1∧z303 L p < (z162 L p).length:=by
 unfold z162 z303
 by_cases h:p∈L
 ·rw [if_pos h];exact ⟨y49 _,Nat.le_succ _,List.idxOf_lt_length_of_mem h⟩
 ·rw [if_neg h,List.idxOf_eq_length h];simp
theorem z1141 {L:List (List Int)} {p r:List Int} (h:r∈z162 L p):r∈L∨r=p:=by
 unfold z162 at h
 split at h
 ·exact .inl h
 ·rcases List.mem_append.1 h with h|h
  ·exact .inl h
  ·exact .inr (List.mem_singleton.1 h)
def EdP (B:List Tree) (n:Nat) (e:Edg):Prop:=(0≤e.src∧e.src < n)∧(0≤e.dst∧e.dst < n)∧∃ s,e.care=((letB B s).1:Int)∧e.val=((letB B s).2:Int)
theorem EdP.mono {B:List Tree} {n m:Nat} {e:Edg} (h:EdP B n e) (hm:n≤m):EdP B m e:=⟨by have:=h.1;omega,by have:=h.2.1;omega,h.2.2⟩
structure ExI (B:List Tree) (U:List Int) (n0 i:Nat) (x:TrS):Prop where
 rows:∀ r∈x.L,RowP B.length U r
 base:n0≤x.L.length
 acc:x.acc.length=i
 le:i≤x.L.length
 edl:x.ed.length≤i * 2 ^ B.length
 ln:x.L.length≤n0+i * 2 ^ B.length
 ed:∀ e∈x.ed,EdP B x.L.length e
theorem z971 {B : List Tree} {U : List Int} {s : Int} {q i : Nat} (hq : U.length = 0 ∧ q = 0 ∨ q < U.length) : ∀ (l : List Nat) (y : List (List Int) × List Edg), (∀ t ∈ l, t < 2 ^ B.length) → (∀ r ∈ y.1, RowP B.length U r) → i < y.1.length → (∀ e ∈ y.2, EdP B y.1.length e) →
  (∀ r∈(l.foldl (z123 B s q i (letB B s).1 (letB B s).2) y).1,RowP B.length U r)∧y.1.length≤(l.foldl (z123 B s q i (letB B s).1 (letB B s).2) y).1.length∧(l.foldl (z123 B s q i (letB B s).1 (letB B s).2) y).1.length≤y.1.length+l.length ∧
  (l.foldl (z123 B s q i (letB B s).1 (letB B s).2) y).2.length≤y.2.length+l.length∧∀ e∈(l.foldl (z123 B s q i (letB B s).1 (letB B s).2) y).2,EdP B (l.foldl (z123 B s q i (letB B s).1 (letB B s).2) y).1.length e
 |[],y,_,h1,_,h2=>⟨h1,y49 _,y49 _,y49 _,h2⟩
 |t::l,y,hl,h1,hi,h2=>by
  rw [List.foldl_cons,y55]
  have hst : (∀ r ∈ (z123 B s q i (letB B s).1 (letB B s).2 y t).1, RowP B.length U r) ∧ y.1.length ≤ (z123 B s q i (letB B s).1 (letB B s).2 y t).1.length ∧ (z123 B s q i (letB B s).1 (letB B s).2 y t).1.length ≤ y.1.length + 1 ∧
    (z123 B s q i (letB B s).1 (letB B s).2 y t).2.length≤y.2.length+1∧∀ e∈(z123 B s q i (letB B s).1 (letB B s).2 y t).2,EdP B (z123 B s q i (letB B s).1 (letB B s).2 y t).1.length e:=by
   unfold z123
   split
   ·obtain ⟨p1,p2,p3⟩:=z944 y.1 [(t:Int),(q:Int)]
    refine ⟨fun r hr=>?_,p1,p2,by simp,fun e he=>?_⟩
    ·rcases z1141 hr with h|h
     ·exact h1 r h
     ·rw [h];exact ⟨t,q,rfl,hl t (by simp),hq⟩
    ·rcases List.mem_append.1 he with h|h
     ·exact (h2 e h).mono p1
     ·rw [List.mem_singleton.1 h]
      refine ⟨⟨?_,?_⟩,⟨?_,?_⟩,s,rfl,rfl⟩
      ·show (0:Int)≤(i:Int);omega
      ·show (i:Int) < ((z162 y.1 [(t:Int),(q:Int)]).length:Int);omega
      ·show (0:Int)≤(z303 y.1 [(t:Int),(q:Int)]:Int);omega
      ·show (z303 y.1 [(t:Int),(q:Int)]:Int) < ((z162 y.1 [(t:Int),(q:Int)]).length:Int);omega
   ·exact ⟨h1,y49 _,by omega,by omega,h2⟩
  obtain ⟨a1,a2,a3,a4,a5⟩:=hst
  have hi2:i < (z123 B s q i (letB B s).1 (letB B s).2 y t).1.length:=by omega
  obtain ⟨b1,b2,b3,b4,b5⟩:=z971 hq l (z123 B s q i (letB B s).1 (letB B s).2 y t) (fun x hx=>hl x (y70 _ hx)) a1 hi2 a5
  exact ⟨b1,by omega,by omega,by omega,b5⟩
theorem ExI.step {B:List Tree} {U:List Int} {n0 i:Nat} {x:TrS} (h:ExI B U n0 i x) (hi:i < x.L.length):ExI B U n0 (i+1) (z240 B U i x)∧x.L.length≤(z240 B U i x).L.length:=by
 obtain ⟨s,ph,er,hs,hp⟩:=h.rows (x.L.getD i []) (by rw [z20 hi];exact y41 _)
 obtain ⟨q,eq,hq⟩:=phB_rowP (B:=B) (s:=s) hp
 have e:z240 B U i x=⟨((List.range (2 ^ B.length)).foldl (z123 B s q i (letB B s).1 (letB B s).2) (x.L,x.ed)).1,x.acc++[(phB B U s ph).2],((List.range (2 ^ B.length)).foldl (z123 B s q i (letB B s).1 (letB B s).2) (x.L,x.ed)).2⟩:=by
  unfold z240
  dsimp only
  rw [er,← eq];rfl
 have hf:=z971 (B:=B) (U:=U) (s:=(s:Int)) (i:=i) hq (List.range (2 ^ B.length)) (x.L,x.ed) (fun t ht=>List.mem_range.1 ht) h.rows hi h.ed
 rw [e]
 generalize (List.range (2 ^ B.length)).foldl (z123 B s q i (letB B s).1 (letB B s).2) (x.L,x.ed)=y at *
 rw [List.length_range] at hf
 dsimp only at hf
 obtain ⟨a1,a2,a3,a4,a5⟩:=hf
 have h1:=h.base;have h2:=h.acc;have h3:=h.edl;have h4:=h.ln
 refine ⟨⟨a1,?_,?_,?_,?_,?_,a5⟩,a2⟩
 ·show n0≤y.1.length;omega
 ·show (x.acc++[_]).length=i+1;simp [h2]
 ·show i+1≤y.1.length;omega
 ·show y.2.length≤(i+1) * 2 ^ B.length;rw [Nat.add_mul];omega
 ·show y.1.length≤n0+(i+1) * 2 ^ B.length;rw [Nat.add_mul];omega
theorem z1143 {c a m:Nat} (h:a &&& c=a):(a ||| m) &&& (c ||| m)=a ||| m∧a &&& (c ||| m)=a:=by
 have hb:∀ i,(a.testBit i && c.testBit i)=a.testBit i:=fun i=>by have:=congrArg (fun x=>x.testBit i) h;simpa [Nat.testBit_and] using this
 constructor
 ·apply Nat.eq_of_testBit_eq
  intro i
  have:=hb i
  simp only [Nat.testBit_and,Nat.testBit_or]
  cases ha:a.testBit i<;>cases hc:c.testBit i<;>cases hm:m.testBit i<;>simp_all
 ·apply Nat.eq_of_testBit_eq
  intro i
  have:=hb i
  simp only [Nat.testBit_and,Nat.testBit_or]
  cases ha:a.testBit i<;>cases hc:c.testBit i<;>cases hm:m.testBit i<;>simp_all
theorem letB_sub (B:List Tree) (s:Int):(letB B s).2 &&& (letB B s).1=(letB B s).2:=by
 have:∀ n:Nat,((List.range n).foldl (atoI B s) (0,0)).2 &&& ((List.range n).foldl (atoI B s) (0,0)).1=((List.range n).foldl (atoI B s) (0,0)).2:=by
  intro n
  induction n with
  |zero=>show (0:Nat) &&& 0=0;rfl
  |succ n ih =>
   rw [y59,y60]
   show (atoI B s _ n).2 &&& (atoI B s _ n).1=(atoI B s _ n).2
   generalize (List.range n).foldl (atoI B s) (0,0)=p at *
   unfold atoI
   split
   ·dsimp only
    split
    ·exact (z1143 ih).1
    ·exact (z1143 ih).2
   ·exact ih
 exact this _
end Go.Gl
namespace Go.Gl
open Go.RowKit Go.WideShapes Go.ChangeShapes
variable {P:Program}
def OpensD {α:Type} (P:Program) (t:TypeId) (enc:α→List AC) (ok:α→Prop):Prop:=∀ k,Opens P t (fun xs=>∃ a,xs=enc a∧ok a) k
theorem od_byte {t:TypeId} (ht:P.underlying t=some (.int .u8)) {enc:Int→List AC} (he:∀ n,enc n=[.raw (.int .u8 n)]):OpensD P t enc (fun n=>(Lit.int .u8 n).wf=true):=fun k =>
 (z1145 ht k).imp fun xs ⟨n,h1,h2⟩=>⟨n,h1.trans (he n).symm,h2⟩
theorem z636 {α:Type} {enc:α→List AC} {ok:α→Prop} : (es:List (List AC))→(∀ y∈es,∃ a,y=enc a∧ok a)→∃ l:List α,es=l.map enc∧∀ a∈l,ok a
 |[],_=>⟨[],rfl,fun _ h=>by cases h⟩
 |e::es,h=>by
  obtain ⟨a,h1,h2⟩:=h e (by simp)
  obtain ⟨l,h3,h4⟩:=z636 es fun y hy=>h y (by simp [hy])
  exact ⟨a::l,by rw [h1,h3];rfl,fun b hb=>by
   rcases List.mem_cons.1 hb with rfl|hb
   ·exact h2
   ·exact h4 b hb⟩
theorem z1016 {α : Type} {t e : TypeId} {enc : α → List AC} {ok : α → Prop} {n k : Nat} (ht : P.underlying t = some (.slice e)) (hc : P.cellsOf e = n) (hn : 0 < n) (h : Opens P e (fun xs => ∃ a, xs = enc a ∧ ok a) k) :
    Opens P t (fun xs=>∃ l:List α,xs=[.list n l.length (l.map enc)]∧l.length≤maxLen∧∀ a∈l,ok a) (k+1) :=
  (z870 ht hc hn h).imp fun xs ⟨es,h1,h2,h3⟩=>by
    obtain ⟨l,rfl,h4⟩:=z636 es h3
    exact ⟨l,by rw [h1];simp,by simpa using h2,h4⟩
theorem od_list {α : Type} {t e : TypeId} {enc : α → List AC} {ok : α → Prop} (n : Nat) (ht : P.underlying t = some (.slice e)) (hc : P.cellsOf e = n) (hn : 0 < n) (h : OpensD P e enc ok) {encL : List α → List AC} (he : ∀ l, encL l = [.list n l.length (l.map enc)]) :
    OpensD P t encL (fun l=>l.length≤maxLen∧∀ a∈l,ok a)
  | 0=>z1015
  | k+1=>(z1016 ht hc hn (h k)).imp fun xs ⟨l,h1,h2⟩=>⟨l,h1.trans (he l).symm,h2⟩
theorem OpensD.imp {α β:Type} {t:TypeId} {enc:α→List AC} {ok:α→Prop} {enc' : β→List AC} {ok' : β→Prop} (h:OpensD P t enc ok) (hi:∀ a,ok a→∃ b,enc a=enc' b∧ok' b):OpensD P t enc' ok':=fun k =>
 (h k).imp fun xs ⟨a,h1,h2⟩=>by
  obtain ⟨b,h3,h4⟩:=hi a h2
  exact ⟨b,h1.trans h3,h4⟩
def ArgD {α:Type} (P:Program) (t:TypeId) (enc:α→AC) (ok:α→Prop):Prop:=ArgOk P t fun x _=>∃ a,x=enc a∧ok a
theorem ArgOk.imp {t:TypeId} {R R' : AC→Nat→Prop} (h:ArgOk P t R) (hi:∀ x m,R x m→R' x m):ArgOk P t R':=fun H enc b hB W r b0 v d ps hv hk=>by
 obtain ⟨x,m,h1,h2⟩:=h H enc b hB W r b0 v d ps hv hk
 exact ⟨x,m,hi _ _ h1,h2⟩
theorem z1264 {α:Type} {t e:TypeId} {enc:α→List AC} {ok:α→Prop} {enc1:α→AC} (ht:P.underlying t=some (.slice e)) (h:OpensD P t enc ok) (he:∀ a,enc a=[enc1 a]):ArgD P t enc1 ok :=
 (z913 ht h).imp fun x m ⟨⟨a,h1,h2⟩,_⟩=>⟨a,by rw [he] at h1;exact (List.cons.inj h1).1,h2⟩
theorem ArgD.imp {α β:Type} {t:TypeId} {enc:α→AC} {ok:α→Prop} {enc' : β→AC} {ok' : β→Prop} (h:ArgD P t enc ok) (hi:∀ a,ok a→∃ b,enc a=enc' b∧ok' b):ArgD P t enc' ok' :=
 ArgOk.imp h fun x m ⟨a,h1,h2⟩=>by
  obtain ⟨b,h3,h4⟩:=hi a h2
  exact ⟨b,h1.trans h3,h4⟩
theorem ArgsOk.imp : {ts:List TypeId}→{R R' : List AC→Nat→Prop}→ArgsOk P ts R→(∀ xs m,R xs m→R' xs m)→ArgsOk P ts R'
 |[],_,_,h,hi=>hi _ _ h
 |_::_,_,_,⟨R1,R2,h1,h2,h3⟩,hi=>⟨R1,R2,h1,h2,fun a m as n ha has=>hi _ _ (h3 a m as n ha has)⟩
theorem args_nil:ArgsOk P [] (fun xs _=>xs=[]):=rfl
theorem z1263 {α:Type} {t:TypeId} {ts:List TypeId} {enc:α→AC} {ok:α→Prop} {R:List AC→Prop} (h:ArgD P t enc ok) (k:ArgsOk P ts (fun xs _=>R xs)):ArgsOk P (t::ts) (fun xs _=>∃ a ys,xs=enc a::ys∧ok a∧R ys) :=
 ⟨_,_,h,k,fun _ _ as _ ⟨b,h1,h2⟩ h3=>⟨b,as,by rw [h1],h2,h3⟩⟩
theorem z331 {H:Type} : (l:List (DataW H))→z570 SizeOf.sizeOf l+1≤SizeOf.sizeOf l
 |[]=>by simp [z570]
 |d::r=>by
  have:=z331 r
  simp only [z570,List.cons.sizeOf_spec]
  omega
theorem z911 {H:Type} : Bulk (H:=H) SizeOf.sizeOf where
 lit l:=by simp only [DataW.lit.sizeOf_spec];omega
 nil:=by simp
 slice es sp:=by
  have:=z331 es
  simp only [DataW.slice.sizeOf_spec];omega
 agg ps:=by
  have:=z331 ps
  simp only [DataW.agg.sizeOf_spec];omega
end Go.Gl
namespace Go.Gl
section
variable {rows:List (List Int)} {ini:List Int} {acc:List Bool}
def z1275 (rows:List (List Int)) (ini:List Int) (acc:List Bool) (R:List Int):Prop:=∀ u,RP rows ini u→R.getD u.toNat 0≤rkU rows acc R u
theorem rkU_mono {R R' : List Int} {u:Int} (h:∀ v∈rows.getD u.toNat [],R.getD v.toNat 0≤R'.getD v.toNat 0):rkU rows acc R u≤rkU rows acc R' u:=by
 unfold rkU
 rw [z534,z534]
 refine z348 (z127 _ _ _).1 fun v hv=>?_
 have h1:=(z127 (fun v=>R'.getD v.toNat 0+if acc.getD (u % acc.length).toNat false=true then 1 else 0) (rows.getD u.toNat []) 0).2 v hv
 have:=h v hv
 omega
theorem z1041 (hr:∀ r∈rows,InN rows.length r) (hin:InN rows.length ini) {x:List Int×Bool} {u:Int} (hu:RP rows ini u) (hl:x.1.length=rows.length) (h:z1275 rows ini acc x.1):z1275 rows ini acc (z593 rows acc x u).1:=by
 rw [z672]
 split
 ·rename_i hc
  have huN:=RP.in hr hin hu
  have hg:∀ w,0≤w→(x.1.set u.toNat (rkU rows acc x.1 u)).getD w.toNat 0=if u=w then rkU rows acc x.1 u else x.1.getD w.toNat 0:=fun w hw=>by
   rw [z699 _ _ _ _ (by omega)]
   by_cases e:u=w
   ·rw [if_pos e,if_pos (by rw [e])]
   ·rw [if_neg e,if_neg (by omega)]
  have hup:∀ w,RP rows ini w→x.1.getD w.toNat 0≤(x.1.set u.toNat (rkU rows acc x.1 u)).getD w.toNat 0:=fun w hw=>by
   rw [hg w (RP.in hr hin hw).1]
   split
   ·rename_i e;subst e;omega
   ·exact Int.le_refl _
  intro w hw
  have h1:rkU rows acc x.1 w≤rkU rows acc (x.1.set u.toNat (rkU rows acc x.1 u)) w:=rkU_mono fun v hv=>hup v (.step hw hv)
  dsimp only
  rw [hg w (RP.in hr hin hw).1]
  split
  ·rename_i e;subst e;exact h1
  ·exact Int.le_trans (h w hw) h1
 ·exact h
def pst (rows:List (List Int)) (acc:List Bool) (nodes R:List Int) (k:Nat):List Int×Bool:=(nodes.drop k).reverse.foldl (z593 rows acc) (R,false)
theorem pst_full (nodes R:List Int):pst rows acc nodes R nodes.length=(R,false):=by unfold pst;rw [List.drop_length];rfl
theorem pst_zero (nodes R:List Int):pst rows acc nodes R 0=z1139 rows acc nodes R:=rfl
theorem pst_step {nodes R:List Int} {k:Nat} (h:k < nodes.length):pst rows acc nodes R k=z593 rows acc (pst rows acc nodes R (k+1)) nodes[k]:=by
 unfold pst;rw [y77 h,List.reverse_cons,y60];rfl
theorem z940 (hr:∀ r∈rows,InN rows.length r) (hin:InN rows.length ini) {R:List Int} (hl:R.length=rows.length) (h:z1275 rows ini acc R):∀ d k,k+d=(bfsL rows ini).length→z1275 rows ini acc (pst rows acc (bfsL rows ini) R k).1
 |0,k,hk=>by
  obtain rfl:k=(bfsL rows ini).length:=by omega
  rw [pst_full];exact h
 |d+1,k,hk=>by
  have hkl:k < (bfsL rows ini).length:=by omega
  rw [pst_step hkl]
  refine z1041 hr hin ((z237 hr hin _).1 (y41 _)) ?_ (z940 hr hin hl h d (k+1) (by omega))
  unfold pst;rw [z942];exact hl
structure RoundI (rows:List (List Int)) (ini:List Int) (acc:List Bool) (t:Nat) (R:List Int) (c:Bool):Prop where
 rk:RkI rows ini acc t R
 gr:z1275 rows ini acc R
 off:∀ j:Nat,¬ RP rows ini j→R.getD j 0=0
 fin:c=false→∀ u,RP rows ini u→R.getD u.toNat 0=Wt rows acc (bfsL rows ini).length u
 lt:c=true→t≤(bfsL rows ini).length
theorem RoundI.init (hr:∀ r∈rows,InN rows.length r) (hin:InN rows.length ini):RoundI rows ini acc 0 (List.replicate rows.length 0) true:=by
 have h0:∀ j:Nat,(List.replicate rows.length (0:Int)).getD j 0=0:=fun j=>by
  rw [y65,List.getElem?_replicate];split<;>rfl
 refine ⟨⟨by simp,fun u hu=>by rw [h0];exact Int.le_refl _,fun u hu=>by rw [h0];exact Wt_nn _ _⟩,fun u hu=>?_,fun j _=>h0 j,(fun h=>by cases h),fun _=>y50 _⟩
 rw [h0]
 unfold rkU
 rw [z534]
 exact (z127 _ _ _).1
theorem RoundI.pass (hr : ∀ r ∈ rows, InN rows.length r) (hin : InN rows.length ini) (hno : ∀ x, RP rows ini x → Cyc rows x → acc.getD (x % acc.length).toNat false = false) {t : Nat} {R : List Int} (h : RoundI rows ini acc t R true) :
    RoundI rows ini acc (t+1) (z1139 rows acc (bfsL rows ini) R).1 (z1139 rows acc (bfsL rows ini) R).2:=by
  have hm:∀ u∈(bfsL rows ini).reverse,RP rows ini u:=fun u hu=>(z237 hr hin u).1 (List.mem_reverse.1 hu)
  have hp:=z869 hr hin hno (t:=t) (bfsL rows ini).reverse (R,false) hm h.rk
  have hg:=z940 hr hin h.rk.len h.gr (bfsL rows ini).length 0 (by omega)
  rw [pst_zero] at hg
  change PsI rows ini acc t (bfsL rows ini).reverse (R,false) (z1139 rows acc (bfsL rows ini) R) at hp
  have hall:∀ u,RP rows ini u→u∈(bfsL rows ini).reverse:=fun u hu=>List.mem_reverse.2 ((z237 hr hin u).2 hu)
  refine ⟨⟨hp.inv.len,fun u hu=>hp.nxt u (hall u hu),hp.inv.hi⟩,hg,fun j hj=>by rw [hp.off j hj];exact h.off j hj,fun hc u hu=>?_,fun hc=>?_⟩
  · obtain ⟨h1,h2⟩:=hp.same hc
    rw [h1]
    exact rk_done h.rk.weak (fun w hw=>h2 w (hall w hw)) hu
  · rcases y67 t (bfsL rows ini).length with h1|h1
    · omega
    · exfalso
      have hst:∀ l:List Int,(∀ u∈l,RP rows ini u)→l.foldl (z593 rows acc) (R,false)=(R,false):=by
        intro l
        induction l with
        | nil=>intro _;rfl
        | cons u l ih =>
          intro hl
          have hu:=hl u (by simp)
          rw [List.foldl_cons,z672,if_neg]
          · exact ih fun w hw=>hl w (by simp [hw])
          · have e:=h.rk.full h1 hu
            have e2:=rkU_le (acc:=acc) (R:=R) (t:=(bfsL rows ini).length) hu (fun w hw=>by rw [h.rk.full h1 hw];exact Int.le_refl _)
            rw [Wt_fix hr hin hno hu] at e2
            show ¬ R.getD u.toNat 0 < rkU rows acc R u
            omega
      have:z1139 rows acc (bfsL rows ini) R=(R,false):=hst _ hm
      rw [this] at hc
      cases hc
end
end Go.Gl
namespace Go.Gl
def rowS (L:List (List Int)) (k:Nat):Int:=(L.getD k []).getD 0 0
def rowQ (L:List (List Int)) (k:Nat):Int:=(L.getD k []).getD 1 0
def EdX (B:List Tree) (U:List Int) (L:List (List Int)) (e:Edg) (k t:Nat):Prop :=
 e.src=(k:Int)∧e.care=((letB B (rowS L k)).1:Int)∧e.val=((letB B (rowS L k)).2:Int)∧∃ j:Nat,e.dst=j∧j < L.length∧L.getD j []=[(t:Int),(phB B U (rowS L k) (rowQ L k)).1]
theorem z347 {α:Type} {L suf:List α} {k:Nat} {d:α} (h:k < L.length):(L++suf).getD k d=L.getD k d:=by
 rw [y65,y65,y63 h]
theorem EdX.pre {B:List Tree} {U:List Int} {L suf:List (List Int)} {e:Edg} {k t:Nat} (hk:k < L.length) (h:EdX B U L e k t):EdX B U (L++suf) e k t:=by
 unfold EdX rowS rowQ at *
 rw [z347 hk]
 obtain ⟨h1,h2,h3,j,h4,h5,h6⟩:=h
 exact ⟨h1,h2,h3,j,h4,by simp;omega,by rw [z347 h5];exact h6⟩
theorem z1140 (L:List (List Int)) (p:List Int):(∃ suf,z162 L p=L++suf)∧(z162 L p).getD (z303 L p) []=p:=by
 unfold z162 z303
 by_cases h:p∈L
 ·rw [if_pos h]
  refine ⟨⟨[],by simp⟩,?_⟩
  rw [z20 (List.idxOf_lt_length_of_mem h)]
  exact List.getElem_idxOf _
 ·rw [if_neg h,List.idxOf_eq_length h]
  exact ⟨⟨[p],rfl⟩,by simp [y65]⟩
theorem z1228 {B : List Tree} {U : List Int} {s p : Int} {q : Int} {i : Nat} (hq : (phB B U s p).1 = q) : ∀ (l : List Nat) (y : List (List Int) × List Edg), i < y.1.length → rowS y.1 i = s → rowQ y.1 i = p →
  (∃ suf,(l.foldl (z123 B s q i (letB B s).1 (letB B s).2) y).1=y.1++suf)∧(∀ e∈y.2,e∈(l.foldl (z123 B s q i (letB B s).1 (letB B s).2) y).2) ∧
  (∀ e∈(l.foldl (z123 B s q i (letB B s).1 (letB B s).2) y).2,e∈y.2∨∃ t∈l,folB B s t=true∧EdX B U (l.foldl (z123 B s q i (letB B s).1 (letB B s).2) y).1 e i t) ∧
  (∀ t∈l,folB B s t=true→∃ e∈(l.foldl (z123 B s q i (letB B s).1 (letB B s).2) y).2,EdX B U (l.foldl (z123 B s q i (letB B s).1 (letB B s).2) y).1 e i t)
 |[],y,_,_,_=>⟨⟨[],by simp⟩,fun _ h=>h,fun _ h=>.inl h,fun _ h=>by cases h⟩
 |t::l,y,hi,h1,h2=>by
  rw [List.foldl_cons]
  by_cases hf:folB B s t=true
  ·have he:z123 B s q i (letB B s).1 (letB B s).2 y t=(z162 y.1 [(t:Int),q],y.2++[⟨i,(letB B s).1,(letB B s).2,z303 y.1 [(t:Int),q]⟩]):=if_pos hf
   obtain ⟨⟨suf,hs⟩,hg⟩:=z1140 y.1 [(t:Int),q]
   have hlt:=(z944 y.1 [(t:Int),q]).2.2
   rw [he]
   have hi2:i < (z162 y.1 [(t:Int),q]).length:=by rw [hs];simp;omega
   have r1:rowS (z162 y.1 [(t:Int),q]) i=s:=by unfold rowS;rw [hs,z347 hi];exact h1
   have r2:rowQ (z162 y.1 [(t:Int),q]) i=p:=by unfold rowQ;rw [hs,z347 hi];exact h2
   obtain ⟨⟨suf2,a1⟩,a2,a3,a4⟩:=z1228 hq l (z162 y.1 [(t:Int),q],y.2++[⟨i,(letB B s).1,(letB B s).2,z303 y.1 [(t:Int),q]⟩]) hi2 r1 r2
   have hx:EdX B U (z162 y.1 [(t:Int),q]) ⟨i,(letB B s).1,(letB B s).2,z303 y.1 [(t:Int),q]⟩ i t:=by
    refine ⟨rfl,by rw [r1],by rw [r1],z303 y.1 [(t:Int),q],rfl,hlt,?_⟩
    rw [r1,r2,hq];exact hg
   have hx2:=EdX.pre (suf:=suf2) hi2 hx
   rw [← a1] at hx2
   refine ⟨⟨suf++suf2,by rw [a1,hs,List.append_assoc]⟩,fun e h=>a2 e (List.mem_append.2 (.inl h)),fun e h=>?_,fun u hu hfu=>?_⟩
   ·rcases a3 e h with h|⟨u,hu,hfu,hxu⟩
    ·rcases List.mem_append.1 h with h|h
     ·exact .inl h
     ·rw [List.mem_singleton.1 h]
      exact .inr ⟨t,by simp,hf,hx2⟩
    ·exact .inr ⟨u,y70 _ hu,hfu,hxu⟩
   ·rcases List.mem_cons.1 hu with rfl|hu
    ·exact ⟨_,a2 _ (List.mem_append.2 (.inr (List.mem_singleton.2 rfl))),hx2⟩
    ·exact a4 u hu hfu
  ·have he:z123 B s q i (letB B s).1 (letB B s).2 y t=y:=if_neg hf
   rw [he]
   obtain ⟨a1,a2,a3,a4⟩:=z1228 hq l y hi h1 h2
   refine ⟨a1,a2,fun e h=>(a3 e h).imp id fun ⟨u,hu,h⟩=>⟨u,y70 _ hu,h⟩,fun u hu hfu=>?_⟩
   rcases List.mem_cons.1 hu with rfl|hu
   ·exact absurd hfu hf
   ·exact a4 u hu hfu
structure TInv (B:List Tree) (U:List Int) (i:Nat) (x:TrS):Prop where
 le:i≤x.L.length
 e1:∀ e∈x.ed,∃ k t:Nat,k < i∧t < 2 ^ B.length∧folB B (rowS x.L k) t=true∧EdX B U x.L e k t
 e2:∀ k t:Nat,k < i→t < 2 ^ B.length→folB B (rowS x.L k) t=true→∃ e∈x.ed,EdX B U x.L e k t
 al:x.acc.length=i
 ac:∀ k,k < i→x.acc.getD k false=(phB B U (rowS x.L k) (rowQ x.L k)).2
theorem TInv.step {B:List Tree} {U:List Int} {i:Nat} {x:TrS} (h:TInv B U i x) (hi:i < x.L.length):TInv B U (i+1) (z240 B U i x)∧∃ suf,(z240 B U i x).L=x.L++suf:=by
 have e:z240 B U i x=⟨((List.range (2 ^ B.length)).foldl (z123 B (rowS x.L i) (phB B U (rowS x.L i) (rowQ x.L i)).1 i (letB B (rowS x.L i)).1 (letB B (rowS x.L i)).2) (x.L,x.ed)).1,x.acc++[(phB B U (rowS x.L i) (rowQ x.L i)).2],((List.range (2 ^ B.length)).foldl (z123 B (rowS x.L i) (phB B U (rowS x.L i) (rowQ x.L i)).1 i (letB B (rowS x.L i)).1 (letB B (rowS x.L i)).2) (x.L,x.ed)).2⟩:=rfl
 have hx:=z1228 (B:=B) (U:=U) (s:=rowS x.L i) (p:=rowQ x.L i) (i:=i) rfl (List.range (2 ^ B.length)) (x.L,x.ed) hi rfl rfl
 rw [e]
 generalize (List.range (2 ^ B.length)).foldl (z123 B (rowS x.L i) (phB B U (rowS x.L i) (rowQ x.L i)).1 i (letB B (rowS x.L i)).1 (letB B (rowS x.L i)).2) (x.L,x.ed)=y at *
 obtain ⟨⟨suf,a1⟩,a2,a3,a4⟩:=hx
 dsimp only at a1 a2 a3 a4
 have hrow:∀ k,k < x.L.length→rowS y.1 k=rowS x.L k∧rowQ y.1 k=rowQ x.L k:=fun k hk=>by
  unfold rowS rowQ;rw [a1,z347 hk];exact ⟨rfl,rfl⟩
 have hle:=h.le
 refine ⟨⟨?_,?_,?_,?_,?_⟩,suf,a1⟩
 ·show i+1≤y.1.length;rw [a1];simp;omega
 ·intro e he
  rcases a3 e he with h1|⟨t,ht,hf,hx⟩
  ·obtain ⟨k,t,hk,ht,hf,hx⟩:=h.e1 e h1
   refine ⟨k,t,by omega,ht,?_,?_⟩
   ·show folB B (rowS y.1 k) t=true;rw [(hrow k (by omega)).1];exact hf
   ·show EdX B U y.1 e k t;rw [a1];exact hx.pre (by omega)
  ·exact ⟨i,t,by omega,List.mem_range.1 ht,by show folB B (rowS y.1 i) t=true;rw [(hrow i hi).1];exact hf,hx⟩
 ·intro k t hk ht hf
  change folB B (rowS y.1 k) t=true at hf
  by_cases hki:k=i
  ·subst hki
   rw [(hrow k hi).1] at hf
   exact a4 t (List.mem_range.2 ht) hf
  ·rw [(hrow k (by omega)).1] at hf
   obtain ⟨e,he,hx⟩:=h.e2 k t (by omega) ht hf
   exact ⟨e,a2 e he,by show EdX B U y.1 e k t;rw [a1];exact hx.pre (by omega)⟩
 ·show (x.acc++[_]).length=i+1;simp [h.al]
 ·intro k hk
  show (x.acc++[_]).getD k false=(phB B U (rowS y.1 k) (rowQ y.1 k)).2
  by_cases hki:k=i
  ·subst hki
   rw [(hrow k hi).1,(hrow k hi).2,y65,y64 (by rw [h.al];exact y49 _),h.al]
   simp
  ·rw [(hrow k (by omega)).1,(hrow k (by omega)).2,z347 (by rw [h.al];omega)]
   exact h.ac k (by omega)
structure BOk (B:List Tree):Prop where
 nd:B.Nodup
 cl:∀ x∈B,In (·∈B) x
 bk:∀ x∈B,z109 x=true
 av:∀ v,Tree.mk 2 v []∈B→0≤v∧v≤2
section
variable {B:List Tree}
theorem BOk.at_ (hB:BOk B) {x:Tree} (hx:x∈B) (hk:x.kind=2):∃ b:Nat,x=.mk 2 (b:Int) []:=by
 cases hB.cl x hx with
 |«at» v hv=>exact ⟨v.toNat,by have:=hB.av v hv;rw [Int.toNat_of_nonneg this.1]⟩
 |tr=>simp [Tree.kind] at hk
 |nt=>simp [Tree.kind] at hk
 |na v _=>simp [Tree.kind] at hk
 |an _ _=>simp [Tree.kind] at hk
 |or _ _=>simp [Tree.kind] at hk
 |nx _ _=>simp [Tree.kind] at hk
 |un _ _ _=>simp [Tree.kind] at hk
 |re _ _ _=>simp [Tree.kind] at hk
end
end Go.Gl
namespace Go.Gl
section
variable {n:Nat} {p:Nat→Nat} {F:Nat→Nat→Bool}
end
end Go.Gl
namespace Go.Gl
def RunOf (E:Int→Int→Int→Prop) (ini acc:Int→Prop) (w ρ:Nat→Int):Prop:=ini (ρ 0)∧(∀ k,E (ρ k) (w k) (ρ (k+1)))∧∀ m,∃ k,m≤k∧acc (ρ k)
theorem RunOf.congr {E E' : Int→Int→Int→Prop} {ini acc ini' acc' : Int→Prop} {w ρ:Nat→Int} (h:RunOf E ini acc w ρ) (hE:∀ c x d,E c x d→E' c x d) (hi:∀ c,ini c→ini' c) (ha:∀ c x d,E c x d→acc c→acc' c):RunOf E' ini' acc' w ρ :=
 ⟨hi _ h.1,fun k=>hE _ _ _ (h.2.1 k),fun m=>by
  obtain ⟨k,hk,hc⟩:=h.2.2 m
  exact ⟨k,hk,ha _ _ _ (h.2.1 k) hc⟩⟩
theorem chosen {P:Nat→Int→Prop} {S:Nat→Int→Int→Prop} {x0:Int} (h0:P 0 x0) (h:∀ k x,P k x→∃ y,S k x y∧P (k+1) y):∃ ρ:Nat→Int,ρ 0=x0∧∀ k,P k (ρ k)∧S k (ρ k) (ρ (k+1)):=by
 classical
 let f:(k:Nat)→{x:Int // P k x}:=fun k=>Nat.rec (motive:=fun k=>{x:Int // P k x}) ⟨x0,h0⟩ (fun k x=>⟨Classical.choose (h k x.1 x.2),(Classical.choose_spec (h k x.1 x.2)).2⟩) k
 exact ⟨fun k=>(f k).1,rfl,fun k=>⟨(f k).2,(Classical.choose_spec (h k (f k).1 (f k).2)).1⟩⟩
theorem quot_run {E : Int → Int → Int → Prop} {ini acc : Int → Prop} {R : Int → Int → Prop} {at' : Int → Int} {w : Nat → Int} {Q : Int → Prop}
    (hE:∀ p x q,E p x q→Q p∧Q q) (hI:∀ p,ini p→Q p)
    (hat:∀ p q,Q p→Q q→(at' p=at' q↔R p q∧R q p)) (htr:∀ p q r,Q p→Q q→Q r→R p q→R q r→R p r)
    (hsim:∀ p p' x q,Q p'→R p p'→E p x q→∃ q',E p' x q'∧R q q') (hacc:∀ p p',Q p→Q p'→R p p'→acc p→acc p') :
    (∃ ρ,RunOf E ini acc w ρ)↔∃ ρ,RunOf (fun c x d=>∃ p q,at' p=c∧at' q=d∧E p x q) (fun c=>∃ p,at' p=c∧ini p) (fun c=>∃ p,Q p∧at' p=c∧acc p) w ρ:=by
  constructor
  · rintro ⟨ρ,h1,h2,h3⟩
    refine ⟨fun k=>at' (ρ k),⟨_,rfl,h1⟩,fun k=>⟨_,_,rfl,rfl,h2 k⟩,fun m=>?_⟩
    obtain ⟨k,hk,ha⟩:=h3 m
    exact ⟨k,hk,_,(hE _ _ _ (h2 k)).1,rfl,ha⟩
  · rintro ⟨σ,⟨p0,e0,i0⟩,h2,h3⟩
    obtain ⟨ρ,hr0,hr⟩:=chosen (P:=fun k x=>Q x∧∀ p,Q p→at' p=σ k→R p x) (S:=fun k x y=>E x (w k) y) (x0:=p0) ⟨hI _ i0,fun p hp e=>((hat p p0 hp (hI _ i0)).1 (by rw [e,e0])).1⟩ (by
      rintro k x ⟨hx,hall⟩
      obtain ⟨p,q,ep,eq,he⟩:=h2 k
      obtain ⟨hp,hq⟩:=hE _ _ _ he
      obtain ⟨q',he',hq'⟩:=hsim p x (w k) q hx (hall p hp ep) he
      have hQ:=(hE _ _ _ he').2
      exact ⟨q',he',hQ,fun p2 hp2 e2=>htr p2 q q' hp2 hq hQ ((hat p2 q hp2 hq).1 (by rw [e2,eq])).1 hq'⟩)
    refine ⟨ρ,by rw [hr0];exact i0,fun k=>(hr k).2,fun m=>?_⟩
    obtain ⟨k,hk,p,hp,e,ha⟩:=h3 m
    exact ⟨k,hk,hacc p (ρ k) hp (hr k).1.1 ((hr k).1.2 p hp e) ha⟩
theorem part_run {E : Int → Int → Int → Prop} {ini acc : Int → Prop} {keep : Int → Prop} {ν : Int → Int} {w : Nat → Int}
    (hinj:∀ p q,keep p→keep q→ν p=ν q→p=q) (hall:∀ ρ,RunOf E ini acc w ρ→∀ k,keep (ρ k)) :
    (∃ ρ,RunOf E ini acc w ρ)↔∃ ρ,RunOf (fun c x d=>∃ p q,keep p∧keep q∧ν p=c∧ν q=d∧E p x q) (fun c=>∃ p,keep p∧ν p=c∧ini p) (fun c=>∃ p,keep p∧ν p=c∧acc p) w ρ:=by
  constructor
  · rintro ⟨ρ,h⟩
    have hk:=hall ρ h
    obtain ⟨h1,h2,h3⟩:=h
    refine ⟨fun k=>ν (ρ k),⟨_,hk 0,rfl,h1⟩,fun k=>⟨_,_,hk k,hk (k+1),rfl,rfl,h2 k⟩,fun m=>?_⟩
    obtain ⟨k,hm,ha⟩:=h3 m
    exact ⟨k,hm,_,hk k,rfl,ha⟩
  · rintro ⟨σ,h1,h2,h3⟩
    have hc:∀ k,∃ p,keep p∧ν p=σ k:=fun k=>by
      obtain ⟨p,q,hp,_,ep,_⟩:=h2 k
      exact ⟨p,hp,ep⟩
    obtain ⟨ρ,hρ⟩:∃ ρ:Nat→Int,∀ k,keep (ρ k)∧ν (ρ k)=σ k:=⟨fun k=>Classical.choose (hc k),fun k=>Classical.choose_spec (hc k)⟩
    refine ⟨ρ,?_,fun k=>?_,fun m=>?_⟩
    · obtain ⟨p,hp,e,hi⟩:=h1
      rw [hinj _ _ (hρ 0).1 hp (by rw [(hρ 0).2,e])];exact hi
    · obtain ⟨p,q,hp,hq,ep,eq,he⟩:=h2 k
      rw [hinj _ _ (hρ k).1 hp (by rw [(hρ k).2,ep]),hinj _ _ (hρ (k+1)).1 hq (by rw [(hρ (k+1)).2,eq])];exact he
    · obtain ⟨k,hm,p,hp,e,ha⟩:=h3 m
      refine ⟨k,hm,?_⟩
      rw [hinj _ _ (hρ k).1 hp (by rw [(hρ k).2,e])];exact ha
abbrev Rel2:=Nat→Nat→Bool
def clr (R:Rel2) (i j:Nat):Rel2:=fun a b=>if a=i∧b=j then false else R a b
def z357 (A:Rel2→Rel2) (R:Rel2) (i j:Nat):Rel2:=if (R i j && !A R i j)=true then clr R i j else R
def rowX (A:Rel2→Rel2) (R:Rel2) (i:Nat):Nat→Rel2
 |0=>R
 |j+1=>z357 A (rowX A R i j) i j
def z110 (A:Rel2→Rel2) (n:Nat) (R:Rel2):Nat→Rel2
 |0=>R
 |i+1=>rowX A (z110 A n R i) i n
def LeX (R S:Rel2):Prop:=∀ a b,R a b=true→S a b=true
theorem LeX.refl (R:Rel2):LeX R R:=fun _ _ h=>h
theorem LeX.trans {R S T:Rel2} (h:LeX R S) (k:LeX S T):LeX R T:=fun a b e=>k a b (h a b e)
theorem clr_le (R:Rel2) (i j:Nat):LeX (clr R i j) R:=fun a b h=>by
 unfold clr at h
 split at h
 ·cases h
 ·exact h
theorem z933 (A:Rel2→Rel2) (R:Rel2) (i j:Nat):LeX (z357 A R i j) R:=by
 unfold z357
 split
 ·exact clr_le R i j
 ·exact LeX.refl R
theorem z446 (A:Rel2→Rel2) (R:Rel2) (i:Nat):∀ j,LeX (rowX A R i j) R
 |0=>LeX.refl R
 |j+1=>(z933 A _ i j).trans (z446 A R i j)
theorem z342 (A:Rel2→Rel2) (n:Nat) (R:Rel2):∀ i,LeX (z110 A n R i) R
 |0=>LeX.refl R
 |i+1=>(z446 A _ i n).trans (z342 A n R i)
theorem y10 {R S:Rel2} (h:LeX R S) (k:LeX S R):R=S:=by
 funext a b
 rw [Bool.eq_iff_iff]
 exact ⟨h a b,k a b⟩
theorem rowX_fix {A:Rel2→Rel2} {R:Rel2} {i:Nat} : ∀ {n:Nat},rowX A R i n=R→∀ j,j < n→R i j=true→A R i j=true:=fun {n}=>by
 induction n with
 |zero=>intro _ j hj;omega
 |succ n ih =>
  intro h j hj hR
  have h1:rowX A R i n=R:=y10 (z446 A R i n) (by
   have:LeX R (rowX A R i (n+1)):=by rw [h];exact LeX.refl R
   exact this.trans (z933 A _ i n))
  by_cases hjn:j=n
  ·subst hjn
   have h2:z357 A (rowX A R i j) i j=R:=h
   rw [h1] at h2
   unfold z357 at h2
   split at h2
   ·have:=congrFun (congrFun h2 i) j
    unfold clr at this
    rw [if_pos ⟨rfl,rfl⟩,hR] at this
    cases this
   ·rename_i hc
    cases ha:A R i j with
    |true=>rfl
    |false=>rw [hR,ha] at hc;exact absurd rfl hc
  ·exact ih h1 j (by omega) hR
theorem z762 {A:Rel2→Rel2} {n:Nat} {R:Rel2} : ∀ {m:Nat},z110 A n R m=R→∀ i j,i < m→j < n→R i j=true→A R i j=true:=fun {m}=>by
 induction m with
 |zero=>intro _ i j hi;omega
 |succ m ih =>
  intro h i j hi hj hR
  have h1:z110 A n R m=R:=y10 (z342 A n R m) (by
   have:LeX R (z110 A n R (m+1)):=by rw [h];exact LeX.refl R
   exact this.trans (z446 A _ m n))
  by_cases him:i=m
  ·subst him
   have h2:rowX A (z110 A n R i) i n=R:=h
   rw [h1] at h2
   exact rowX_fix h2 j hj hR
  ·exact ih h1 i j (by omega) hj hR
theorem stepX_ge {A:Rel2→Rel2} (hA:∀ R S,LeX R S→LeX (A R) (A S)) {S R:Rel2} (hS:∀ i j,S i j=true→A S i j=true) (h:LeX S R) (i j:Nat):LeX S (z357 A R i j):=by
 unfold z357
 split
 ·rename_i hc
  rw [y68,Bool.not_eq_true'] at hc
  intro a b hab
  unfold clr
  split
  ·rename_i he
   obtain ⟨rfl,rfl⟩:=he
   have:=hA S R h a b (hS a b hab)
   rw [hc.2] at this;cases this
  ·exact h a b hab
 ·exact h
theorem z1125 {A:Rel2→Rel2} (hA:∀ R S,LeX R S→LeX (A R) (A S)) {S R:Rel2} (hS:∀ i j,S i j=true→A S i j=true) (h:LeX S R) (i:Nat):∀ j,LeX S (rowX A R i j)
 |0=>h
 |j+1=>stepX_ge hA hS (z1125 hA hS h i j) i j
theorem z943 {A:Rel2→Rel2} (hA:∀ R S,LeX R S→LeX (A R) (A S)) {S R:Rel2} (hS:∀ i j,S i j=true→A S i j=true) (h:LeX S R) (n:Nat):∀ i,LeX S (z110 A n R i)
 |0=>h
 |i+1=>z1125 hA hS (z943 hA hS h n i) i n
def cntX (n:Nat) (R:Rel2):Nat:=((List.range n).map fun i=>((List.range n).filter (R i)).length).sum
theorem z1218 {α:Type} {p q:α→Bool} (l:List α) (h:∀ a∈l,p a=true→q a=true):(l.filter p).length≤(l.filter q).length:=by
 induction l with
 |nil=>simp
 |cons a l ih =>
  have:=ih fun b hb=>h b (by simp [hb])
  simp only [List.filter_cons]
  cases hp:p a with
  |true=>rw [h a (by simp) hp];simp;exact this
  |false=>cases hq:q a with
   |true=>simp;omega
   |false=>simpa using this
theorem filt_lt {α:Type} {p q:α→Bool} {l:List α} (h:∀ a∈l,p a=true→q a=true) {a:α} (ha:a∈l) (h1:p a=false) (h2:q a=true):(l.filter p).length < (l.filter q).length:=by
 induction l with
 |nil=>cases ha
 |cons b l ih =>
  simp only [List.filter_cons]
  have hl:=z1218 l (fun c hc=>h c (by simp [hc]))
  rcases List.mem_cons.1 ha with rfl|ha
  ·rw [h1,h2];simp;omega
  ·have:=ih (fun c hc=>h c (by simp [hc])) ha
   cases hp:p b with
   |true=>rw [h b (by simp) hp];simp;omega
   |false=>cases hq:q b with
    |true=>simp;omega
    |false=>simpa using this
theorem z993 {α:Type} {f g:α→Nat} (l:List α) (h:∀ a∈l,f a≤g a):(l.map f).sum≤(l.map g).sum:=by
 induction l with
 |nil=>simp
 |cons a l ih =>
  have:=ih fun b hb=>h b (by simp [hb])
  have:=h a (by simp)
  simp only [List.map_cons,List.sum_cons];omega
theorem z992 {α:Type} {f g:α→Nat} {l:List α} (h:∀ a∈l,f a≤g a) {a:α} (ha:a∈l) (h1:f a < g a):(l.map f).sum < (l.map g).sum:=by
 induction l with
 |nil=>cases ha
 |cons b l ih =>
  have hl:=z993 l (fun c hc=>h c (by simp [hc]))
  have hb:=h b (by simp)
  simp only [List.map_cons,List.sum_cons]
  rcases List.mem_cons.1 ha with rfl|ha
  ·omega
  ·have:=ih (fun c hc=>h c (by simp [hc])) ha;omega
theorem cntX_lt {n:Nat} {R S:Rel2} (h:LeX R S) {i j:Nat} (hi:i < n) (hj:j < n) (h1:R i j=false) (h2:S i j=true):cntX n R < cntX n S:=by
 unfold cntX
 exact z992 (fun a _=>z1218 _ fun b _ hb=>h a b hb) (List.mem_range.2 hi) (filt_lt (fun b _ hb=>h i b hb) (List.mem_range.2 hj) h1 h2)
theorem cntX_le (n:Nat) (R:Rel2):cntX n R≤n * n:=by
 unfold cntX
 have:∀ l:List Nat,(l.map fun i=>((List.range n).filter (R i)).length).sum≤l.length * n:=fun l=>by
  induction l with
  |nil=>simp
  |cons a l ih =>
   have h1:((List.range n).filter (R a)).length≤n:=by
    have:=List.length_filter_le (R a) (List.range n)
    simpa using this
   simp only [List.map_cons,List.sum_cons,y55,Nat.add_mul,Nat.one_mul]
   omega
 have:=this (List.range n)
 simpa using this
theorem z1110 {l m:List Int} : z279 l=z279 m↔∀ x,x∈l↔x∈m:=by
 constructor
 ·intro h x
  rw [← z165 (l:=l),h,z165]
 ·intro h
  exact z575 (z312 l) (z312 m) (fun x=>by rw [z165,z165];exact h x)
theorem z770 {K:Type} [DecidableEq K] (κ:Nat→K) {n a b:Nat} (ha:a < n) (hb:b < n):(numK κ n).1.getD a 0=(numK κ n).1.getD b 0↔κ a=κ b:=by
 rw [z20 (by rw [z343];exact ha),z20 (by rw [z343];exact hb)]
 exact numK_iff n (y49 _) a b ha hb
def keyN (nx:List (List Int)) (bl:List Int) (i:Nat):List Int:=bl.getD i 0::z279 ((nx.getD i []).map fun p:Int=>bl.getD p.toNat 0)
def refN (nx:List (List Int)) (n:Nat) (bl:List Int):List Int:=(numK (keyN nx bl) n).1
theorem refN_iff {nx:List (List Int)} {n:Nat} {bl:List Int} {a b:Nat} (ha:a < n) (hb:b < n):(refN nx n bl).getD a 0=(refN nx n bl).getD b 0↔bl.getD a 0=bl.getD b 0∧∀ x,(∃ p:Int,p∈nx.getD a []∧bl.getD p.toNat 0=x)↔∃ p:Int,p∈nx.getD b []∧bl.getD p.toNat 0=x:=by
 unfold refN
 rw [z770 _ ha hb]
 unfold keyN
 simp only [List.cons.injEq,z1110,y57]
def Stb (nx:List (List Int)) (n:Nat) (c:Nat→Int):Prop:=∀ i j,i < n→j < n→c i=c j→∀ p∈nx.getD i [],∃ q∈nx.getD j [],c q.toNat=c p.toNat
def bisM (nx:List (List Int)) (n:Nat) (b:List Int):Nat→List Int
 |0=>b
 |k+1=>refN nx n (bisM nx n b k)
theorem z959 {nx:List (List Int)} {n i:Nat} (hr:∀ r∈nx,InN n r) {p:Int} (hp:p∈nx.getD i []):p.toNat < n:=by
 have:=rowInN hr i p hp
 omega
theorem coarsest {nx:List (List Int)} {n:Nat} {c:Nat→Int} (hr:∀ r∈nx,InN n r) (hs:Stb nx n c) {b:List Int} (h0:∀ i j,i < n→j < n→c i=c j→b.getD i 0=b.getD j 0):∀ k i j,i < n→j < n→c i=c j→(bisM nx n b k).getD i 0=(bisM nx n b k).getD j 0:=by
 intro k
 induction k with
 |zero=>exact h0
 |succ k ih =>
  intro i j hi hj e
  refine (refN_iff hi hj).2 ⟨ih i j hi hj e,fun x=>⟨fun ⟨p,hp,e1⟩=>?_,fun ⟨p,hp,e1⟩=>?_⟩⟩
  ·obtain ⟨q,hq,e2⟩:=hs i j hi hj e p hp
   exact ⟨q,hq,by rw [← e1];exact ih _ _ (z959 hr hq) (z959 hr hp) e2⟩
  ·obtain ⟨q,hq,e2⟩:=hs j i hj hi e.symm p hp
   exact ⟨q,hq,by rw [← e1];exact ih _ _ (z959 hr hq) (z959 hr hp) e2⟩
def single (n:Nat):List Int:=(List.range n).map Int.ofNat
def fstB (bl:List Int) (n:Nat):List Nat:=(List.range n).filter fun i=>decide (∀ k,k < i→bl.getD k 0≠bl.getD i 0)
def mstD (bl:List Int):Nat→Int
 |0=>0
 |i+1=>if bl.getD i 0=mstD bl i then mstD bl i+1 else mstD bl i
theorem z1208 (bl:List Int) (n:Nat):fstB bl (n+1)=fstB bl n++(if ∀ k,k < n→bl.getD k 0≠bl.getD n 0 then [n] else []):=by
 unfold fstB
 rw [y59,List.filter_append]
 congr 1
 by_cases h:∀ k,k < n→bl.getD k 0≠bl.getD n 0
 ·rw [if_pos h,List.filter_cons_of_pos (by simpa using h)];rfl
 ·rw [if_neg h,List.filter_cons_of_neg (by rw [decide_eq_true_iff];exact h)];rfl
theorem fstB_in {bl:List Int} {n i:Nat} (h:i∈fstB bl n):i < n:=by
 unfold fstB at h
 exact List.mem_range.1 (List.mem_filter.1 h).1
theorem z796 {bl:List Int} {n:Nat} (hp:∀ i,i < n→0≤bl.getD i 0∧bl.getD i 0≤mstD bl i):∀ i,i≤n→((fstB bl i).length:Int)=mstD bl i∧(∀ b (h:b < (fstB bl i).length),bl.getD (fstB bl i)[b] 0=(b:Int))∧∀ k,k < i→bl.getD k 0 < mstD bl i:=by
 intro i
 induction i with
 |zero=>exact fun _=>⟨rfl,fun b h=>absurd h (by simp [fstB]),fun k hk=>by omega⟩
 |succ i ih =>
  intro hi
  obtain ⟨h1,h2,h3⟩:=ih (by omega)
  have hb:=hp i (by omega)
  rw [z1208,mstD]
  by_cases he:bl.getD i 0=mstD bl i
  ·have hn:∀ k,k < i→bl.getD k 0≠bl.getD i 0:=fun k hk=>by have:=h3 k hk;omega
   rw [if_pos hn,if_pos he]
   refine ⟨by simp;omega,fun b h=>?_,fun k hk=>?_⟩
   ·rcases y67 b (fstB bl i).length with hb|hb
    ·rw [List.getElem_append_left hb];exact h2 b hb
    ·have:b=(fstB bl i).length:=by simp at h;omega
     subst this
     simp only [List.getElem_concat_length]
     omega
   ·rcases y67 k i with h|h
    ·have:=h3 k h;omega
    ·obtain rfl:k=i:=by omega
     omega
  ·have hlt:bl.getD i 0 < mstD bl i:=by omega
   have hn:¬ ∀ k,k < i→bl.getD k 0≠bl.getD i 0:=fun hn=>by
    have hx:(bl.getD i 0).toNat < (fstB bl i).length:=by omega
    have:=h2 _ hx
    exact hn _ (fstB_in (y41 hx)) (by omega)
   rw [if_neg hn,if_neg he,y62]
   refine ⟨h1,h2,fun k hk=>?_⟩
   rcases y67 k i with h|h
   ·exact h3 k h
   ·obtain rfl:k=i:=by omega
    exact hlt
structure Part (bl:List Int) (n:Nat):Prop where
 rng:∀ i,i < n→0≤bl.getD i 0∧bl.getD i 0≤mstD bl i
namespace Part
variable {bl:List Int} {n:Nat}
theorem cnt (h:Part bl n):((fstB bl n).length:Int)=mstD bl n:=(z796 h.rng n (y49 _)).1
theorem lt (h:Part bl n) {i:Nat} (hi:i < n):(bl.getD i 0).toNat < (fstB bl n).length:=by
 have h1:=(z796 h.rng n (y49 _)).2.2 i hi
 have h2:=h.cnt
 have h3:=h.rng i hi
 omega
end Part
section
variable {nx:List (List Int)} {n:Nat} {bl:List Int} (hr:∀ r∈nx,InN n r) (hp:Part bl n)
include hr hp
end
end Go.Gl
namespace Go.Gl
def itX (P:Rel2→Rel2):Nat→Rel2→Rel2
 |0,R=>R
 |k+1,R=>itX P k (P R)
theorem z1096 {A:Rel2→Rel2} {R:Rel2} {i j a b:Nat} (h:¬(a=i∧b=j)):z357 A R i j a b=R a b:=by
 unfold z357
 split
 ·unfold clr;rw [if_neg h]
 ·rfl
theorem rowX_out {A:Rel2→Rel2} {R:Rel2} {i a b:Nat} : ∀ {j},¬(a=i∧b < j)→rowX A R i j a b=R a b:=fun {j}=>by
 induction j with
 |zero=>intro _;rfl
 |succ j ih =>
  intro h
  show z357 A (rowX A R i j) i j a b=_
  rw [z1096 (by omega),ih (by omega)]
theorem z1138 {A:Rel2→Rel2} {n:Nat} {R:Rel2} {a b:Nat} : ∀ {i},¬(a < i∧b < n)→z110 A n R i a b=R a b:=fun {i}=>by
 induction i with
 |zero=>intro _;rfl
 |succ i ih =>
  intro h
  show rowX A (z110 A n R i) i n a b=_
  rw [rowX_out (by omega),ih (by omega)]
theorem z674 {A:Rel2→Rel2} {n:Nat} {R:Rel2} (h:z110 A n R n≠R):cntX n (z110 A n R n) < cntX n R:=by
 have hle:=z342 A n R n
 have:∃ a b,R a b=true∧z110 A n R n a b=false:=by
  refine y75 fun hc=>h (y10 hle fun a b hab=>?_)
  cases hp:z110 A n R n a b with
  |true=>rfl
  |false=>exact absurd ⟨a,b,hab,hp⟩ hc
 obtain ⟨a,b,h1,h2⟩:=this
 have hlt:a < n∧b < n:=by
  refine y75 fun hc=>?_
  rw [z1138 hc,h1] at h2;cases h2
 exact cntX_lt hle hlt.1 hlt.2 h2 h1
theorem z793 {P:Rel2→Rel2} {R:Rel2} (h:P R=R):∀ k,itX P k R=R
 |0=>rfl
 |k+1=>by show itX P k (P R)=R;rw [h];exact z793 h k
theorem z1193 {A:Rel2→Rel2} {n:Nat} : ∀ (k:Nat) (R:Rel2),cntX n R≤k→z110 A n (itX (fun R=>z110 A n R n) k R) n=itX (fun R=>z110 A n R n) k R
 |0,R,h=>by
  show z110 A n R n=R
  refine y75 fun hc=>?_
  have:=z674 hc;omega
 |k+1,R,h=>by
  by_cases hc:z110 A n R n=R
  ·rw [z793 (P:=fun R=>z110 A n R n) hc (k+1)];exact hc
  ·have:=z674 hc
   exact z1193 k (z110 A n R n) (by omega)
theorem z1191 {A:Rel2→Rel2} {n:Nat} : ∀ (k:Nat) (R:Rel2),LeX (itX (fun R=>z110 A n R n) k R) R
 |0,R=>LeX.refl R
 |k+1,R=>(z1191 k (z110 A n R n)).trans (z342 A n R n)
theorem z1192 {A:Rel2→Rel2} {n:Nat} (hA:∀ R S,LeX R S→LeX (A R) (A S)) {S:Rel2} (hS:∀ i j,S i j=true→A S i j=true):∀ (k:Nat) (R:Rel2),LeX S R→LeX S (itX (fun R=>z110 A n R n) k R)
 |0,_,h=>h
 |k+1,R,h=>z1192 hA hS k (z110 A n R n) (z943 hA hS h n n)
def gfX (A:Rel2→Rel2) (n:Nat) (R:Rel2):Rel2:=itX (fun R=>z110 A n R n) (n * n) R
theorem gfX_fix {A:Rel2→Rel2} {n:Nat} {R:Rel2} : z110 A n (gfX A n R) n=gfX A n R:=z1193 _ R (cntX_le n R)
theorem z1204 {A:Rel2→Rel2} {n:Nat} {R:Rel2} : LeX (gfX A n R) R:=z1191 _ R
theorem z1206 {A:Rel2→Rel2} {n:Nat} {R:Rel2} {i j:Nat} (hi:i < n) (hj:j < n) (h:gfX A n R i j=true):A (gfX A n R) i j=true:=z762 gfX_fix i j hi hj h
theorem z1205 {A:Rel2→Rel2} {n:Nat} {R S:Rel2} (hA:∀ R S,LeX R S→LeX (A R) (A S)) (hS:∀ i j,S i j=true→A S i j=true) (h:LeX S R):LeX S (gfX A n R):=z1192 hA hS _ R h
theorem gfX_of {A:Rel2→Rel2} {n:Nat} {R F:Rel2} (hA:∀ R S,LeX R S→LeX (A R) (A S)) (hin:∀ i j,F i j=true→i < n∧j < n) (hF:z110 A n F n=F) (hle:LeX F R) (hge:LeX (gfX A n R) F):F=gfX A n R :=
 y10 (z1205 hA (fun i j h=>z762 hF i j (hin i j h).1 (hin i j h).2 h) hle) hge
def wd (f:Nat→Bool):Nat→Nat
 |0=>0
 |n+1=>(if f n=true then 2 ^ n else 0)+wd f n
theorem wd_lt (f:Nat→Bool):∀ n,wd f n < 2 ^ n
 |0=>by simp [wd]
 |n+1=>by
  have:=wd_lt f n
  unfold wd
  rw [Nat.pow_succ]
  split<;>omega
theorem z306 (f:Nat→Bool):∀ n j,(wd f n).testBit j=(decide (j < n) && f j)
 |0,j=>by simp [wd]
 |n+1,j=>by
  have ih:=z306 f n
  have hl:=wd_lt f n
  unfold wd
  rcases Nat.lt_trichotomy j n with h|h|h
  ·split
   ·rw [Nat.testBit_two_pow_add_gt h,ih];simp [h,Nat.lt_succ_of_lt h]
   ·rw [Nat.zero_add,ih];simp [h,Nat.lt_succ_of_lt h]
  ·subst h
   split
   ·rename_i hf
    rw [Nat.testBit_two_pow_add_eq,ih,hf];simp
   ·rename_i hf
    rw [Nat.zero_add,ih];simp [hf]
  ·rw [Nat.testBit_lt_two_pow (Nat.lt_of_lt_of_le (m:=2 ^ (n+1)) (by rw [Nat.pow_succ];split<;>omega) (Nat.pow_le_pow_right (by decide) h))]
   simp;omega
theorem wd_w (f:Nat→Bool) {n:Nat} (h:n≤64):wd f n < 18446744073709551616 :=
 Nat.lt_of_lt_of_le (wd_lt f n) (Nat.pow_le_pow_right (by decide) h)
def updB (f:Nat→Bool) (j:Nat) (b:Bool):Nat→Bool:=fun k=>if k=j then b else f k
theorem wd_or (f:Nat→Bool) {n j:Nat} (h:j < n):wd f n ||| 2 ^ j=wd (updB f j true) n:=by
 apply Nat.eq_of_testBit_eq
 intro i
 rw [Nat.testBit_or,z306,z306,Nat.testBit_two_pow]
 unfold updB
 by_cases e:i=j
 ·subst e;simp [h]
 ·rw [if_neg e]
  have:¬ j=i:=fun h=>e h.symm
  simp [this]
theorem wd_clear (f:Nat→Bool) {j:Nat} (h:j < 64):(BitVec.ofNat 64 (wd f 64) &&& ~~~BitVec.ofNat 64 (2 ^ j)).toNat=wd (updB f j false) 64:=by
 apply Nat.eq_of_testBit_eq
 intro i
 rw [BitVec.testBit_toNat,z306]
 simp only [BitVec.getLsbD_and,BitVec.getLsbD_not,BitVec.getLsbD_ofNat,z306,Nat.testBit_two_pow]
 unfold updB
 by_cases e:i=j
 ·subst e;simp [h]
 ·rw [if_neg e]
  have:¬ j=i:=fun h=>e h.symm
  by_cases hi:i < 64<;>simp [this,hi]
theorem wd_get (f:Nat→Bool) {j:Nat} (h:j < 64):(wd f 64 / 2 ^ j) &&& 1=if f j=true then 1 else 0:=by
 have h1:=z306 f 64 j
 rw [Nat.testBit_eq_decide_div_mod_eq] at h1
 rw [Nat.and_one_is_mod]
 have h2:decide (j < 64)=true:=y79 h
 rw [h2,Bool.true_and] at h1
 split
 ·rename_i hf
  rw [hf] at h1
  exact of_decide_eq_true h1
 ·rename_i hf
  have:=of_decide_eq_false (h1.trans (Bool.eq_false_iff.2 hf))
  omega
theorem wd_and (f g:Nat→Bool) (n:Nat):wd f n &&& wd g n=wd (fun k=>f k && g k) n:=by
 apply Nat.eq_of_testBit_eq
 intro i
 rw [Nat.testBit_and,z306,z306,z306]
 cases decide (i < n)<;>simp
theorem z506 (f:Nat→Bool):∀ n,wd f n=0↔∀ k,k < n→f k=false
 |0=>by simp [wd]
 |n+1=>by
  have ih:=z506 f n
  unfold wd
  constructor
  ·intro h k hk
   split at h
   ·have:=Nat.pow_pos (n:=n) (show 0 < 2 by decide);omega
   ·rename_i hf
    rw [Nat.zero_add] at h
    by_cases e:k=n
    ·subst e;exact Bool.eq_false_iff.2 hf
    ·exact ih.1 h k (by omega)
  ·intro h
   rw [h n (by omega),ih.2 fun k hk=>h k (by omega)]
   simp
theorem wd_congr {f g:Nat→Bool} {n:Nat} (h:∀ k,k < n→f k=g k):wd f n=wd g n:=by
 apply Nat.eq_of_testBit_eq
 intro i
 rw [z306,z306]
 by_cases hi:i < n
 ·rw [h i hi]
 ·simp [hi]
theorem wd_none (n:Nat):wd (fun _=>false) n=0:=(z506 _ n).2 fun _ _=>rfl
end Go.Gl
