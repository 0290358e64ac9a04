/- A part of the proofs over this program: D17, D18, D19, D20, D21, D22, D23, D24, D25, D26, D28, D29, D30, D32, D27, D31, D33, D36, D37, D38, D39, D40, GlV, D34, D41, D42, D43. -/
import Derived.Test.YtjhgpfaodkchjaaGreatG0
import Derived.Test.YtjhgpfaodkchjaaGreatG1
import Derived.Test.YtjhgpfaodkchjaaGreatG2
set_option linter.all false
namespace Go.Gl
def Cyc (rows:List (List Int)) (x:Int):Prop:=∃ y,y∈rows.getD x.toNat []∧RP rows [y] x
def PathP (rows:List (List Int)) (p:List Int):Prop:=∀ i,i+1 < p.length→p.getD (i+1) 0∈rows.getD (p.getD i 0).toNat []
theorem RP.trans {rows:List (List Int)} {ini:List Int} {x y z:Int} (h:RP rows ini x) (hy:y∈rows.getD x.toNat []) (k:RP rows [y] z):RP rows ini z:=by
 induction k with
 |base hb=>rw [List.mem_singleton.1 hb];exact .step h hy
 |step _ hs ih=>exact .step ih hs
theorem RP.trans0 {rows:List (List Int)} {ini:List Int} {x z:Int} (h:RP rows ini x) (k:RP rows [x] z):RP rows ini z:=by
 induction k with
 |base hb=>rw [List.mem_singleton.1 hb];exact h
 |step _ hs ih=>exact .step ih hs
theorem RP.path {rows:List (List Int)} {ini:List Int} {x:Int} (h:RP rows ini x):∃ p:List Int,0 < p.length∧p.getD 0 0∈ini∧p.getD (p.length - 1) 0=x∧PathP rows p:=by
 induction h with
 |base hb=>exact ⟨[_],by simp,hb,rfl,fun i hi=>by simp at hi⟩
 |step _ hy ih =>
  rename_i u y _
  obtain ⟨p,h1,h2,h3,h4⟩:=ih
  refine ⟨p++[y],by simp,by rwa [z268 h1],by rw [z17 (by simp)];simp,fun i hi=>?_⟩
  simp only [y42,List.length_singleton] at hi
  rcases y65 (i+1) p.length with h|h
  ·rw [z268 h,z268 (by omega)];exact h4 i h
  ·have e:i+1=p.length:=by omega
   have e1:(p++[y]).getD i 0=u:=by rw [z268 (by omega),show i=p.length - 1 by omega,h3]
   have e2:(p++[y]).getD (i+1) 0=y:=by rw [e,z17 (by simp)];simp
   rw [e1,e2];exact hy
theorem PathP.rp {rows:List (List Int)} {p:List Int} (h:PathP rows p) {ini:List Int} (h0:p.getD 0 0∈ini):∀ i,i < p.length→RP rows ini (p.getD i 0):=by
 intro i
 induction i with
 |zero=>exact fun _=>.base h0
 |succ i ih=>exact fun hi=>.step (ih (by omega)) (h i hi)
theorem run_rp {rows:List (List Int)} {π:Nat→Int} (h:∀ k,π (k+1)∈rows.getD (π k).toNat []):∀ d k,RP rows [π k] (π (k+d)):=by
 intro d
 induction d with
 |zero=>exact fun k=>.base (by simp)
 |succ d ih=>exact fun k=>.step (ih k) (h (k+d))
theorem runInN {rows:List (List Int)} {N:Nat} (hr:∀ r∈rows,InN N r) {π:Nat→Int} (h:∀ k,π (k+1)∈rows.getD (π k).toNat []) (h0:0≤π 0∧π 0 < N):∀ k,0≤π k∧π k < N
 |0=>h0
 |k+1=>rowInN hr _ _ (h k)
theorem run_cyc {rows:List (List Int)} {N:Nat} (hr:∀ r∈rows,InN N r) {π:Nat→Int} (h:∀ k,π (k+1)∈rows.getD (π k).toNat []) (h0:0≤π 0∧π 0 < N) {acc:Int→Prop} (ha:∀ m,∃ k,m≤k∧acc (π k)):∃ k,acc (π k)∧Cyc rows (π k):=by
 let f:Nat→Nat:=fun m=>(ha m).choose
 have hf:∀ m,m≤f m∧acc (π (f m)):=fun m=>(ha m).choose_spec
 let s:Nat→Nat:=fun i=>Nat.rec (f 0) (fun _ k=>f (k+1)) i
 have hs:∀ i,acc (π (s i)):=fun i=>by
  cases i with
  |zero=>exact (hf 0).2
  |succ i=>exact (hf (s i+1)).2
 have hlt:∀ i,s i < s (i+1):=fun i=>(hf (s i+1)).1
 have hmono:∀ d i,s i < s (i+d+1):=by
  intro d
  induction d with
  |zero=>exact hlt
  |succ d ih=>exact fun i=>Nat.lt_trans (ih i) (hlt (i+d+1))
 by_cases hne:∀ i j,i < j→π (s i)≠π (s j)
 ·exfalso
  have hin:=runInN hr h h0
  have:=z181 N ((List.range (N+1)).map fun i=>π (s i)) (by
   show List.Pairwise (·≠·) _
   rw [List.pairwise_map]
   exact List.Pairwise.imp (fun {a b} hab=>hne a b hab) List.pairwise_lt_range) (fun x hx=>by
   obtain ⟨i,_,rfl⟩:=List.mem_map.1 hx
   exact hin _)
  rw [y44,List.length_range] at this
  omega
 ·simp only [Classical.not_forall,Classical.not_not] at hne
  obtain ⟨i,j,hij,e⟩:=hne
  have hl:s i < s j:=by
   have:=hmono (j - i - 1) i
   rwa [show i+(j - i - 1)+1=j by omega] at this
  refine ⟨s i,hs i,π (s i+1),h _,?_⟩
  have:=run_rp h (s j - (s i+1)) (s i+1)
  rw [show s i+1+(s j - (s i+1))=s j by omega,← e] at this
  exact this
def z261 (p q:List Int) (k:Nat):Int:=if k < p.length then p.getD k 0 else q.getD ((k - p.length) % q.length) 0
theorem z665 {rows:List (List Int)} {p q:List Int} (hp:PathP rows p) (hq:PathP rows q) (hl:0 < q.length) (h1:0 < p.length→q.getD 0 0∈rows.getD (p.getD (p.length - 1) 0).toNat []) (h2:q.getD 0 0∈rows.getD (q.getD (q.length - 1) 0).toNat []) (k:Nat):z261 p q (k+1)∈rows.getD (z261 p q k).toNat []:=by
 unfold z261
 rcases y65 (k+1) p.length with h|h
 ·rw [if_pos h,if_pos (by omega)];exact hp k h
 rw [if_neg (show ¬ k+1 < p.length by omega)]
 rcases y65 k p.length with h3|h3
 ·rw [if_pos h3,show k+1 - p.length=0 by omega,Nat.zero_mod,show k=p.length - 1 by omega]
  exact h1 (by omega)
 rw [if_neg (show ¬ k < p.length by omega),show k+1 - p.length=(k - p.length)+1 by omega]
 generalize k - p.length=j
 have hm:=Nat.mod_lt j hl
 rcases y65 (j % q.length+1) q.length with h4|h4
 ·rw [Nat.add_mod,Nat.mod_eq_of_lt (show 1 < q.length by omega),Nat.mod_eq_of_lt h4];exact hq _ h4
 ·have e:j % q.length=q.length - 1:=by omega
  have e2:(j+1) % q.length=0:=by
   have:=Nat.div_add_mod j q.length
   rw [e] at this
   rw [show j+1=q.length * (j / q.length)+q.length by omega]
   simp
  rw [e,e2];exact h2
theorem z753 {p q:List Int} {i:Nat} (hi:i < q.length) (m:Nat):∃ k,m≤k∧z261 p q k=q.getD i 0:=by
 refine ⟨p.length+(q.length * m+i),by have:m≤q.length * m:=Nat.le_mul_of_pos_left m (by omega);omega,?_⟩
 unfold z261
 rw [if_neg (by omega),show p.length+(q.length * m+i) - p.length=q.length * m+i by omega,Nat.mul_add_mod,Nat.mod_eq_of_lt hi]
theorem cyc_run {rows:List (List Int)} {ini:List Int} {x:Int} (h:RP rows ini x) (hc:Cyc rows x):∃ π:Nat→Int,π 0∈ini∧(∀ k,π (k+1)∈rows.getD (π k).toNat [])∧∀ m,∃ k,m≤k∧π k=x:=by
 obtain ⟨p,p1,p2,p3,p4⟩:=h.path
 obtain ⟨y,hy,hr⟩:=hc
 obtain ⟨q,q1,q2,q3,q4⟩:=hr.path
 rw [y50] at q2
 refine ⟨z261 p q,by unfold z261;rw [if_pos p1];exact p2,z665 p4 q4 q1 (fun _=>by rw [q2,p3];exact hy) (by rw [q2,q3];exact hy),fun m=>?_⟩
 obtain ⟨k,h1,h2⟩:=z753 (p:=p) (q:=q) (i:=q.length - 1) (by omega) m
 exact ⟨k,h1,by rw [h2,q3]⟩
theorem inf_iff {rows:List (List Int)} {ini:List Int} {N:Nat} (hr:∀ r∈rows,InN N r) (hi:InN N ini) {acc:Int→Prop} : (∃ π:Nat→Int,π 0∈ini∧(∀ k,π (k+1)∈rows.getD (π k).toNat [])∧∀ m,∃ k,m≤k∧acc (π k))↔∃ x,RP rows ini x∧acc x∧Cyc rows x:=by
 constructor
 ·rintro ⟨π,h0,h1,h2⟩
  obtain ⟨k,h3,h4⟩:=run_cyc hr h1 (hi _ h0) h2
  refine ⟨_,?_,h3,h4⟩
  have:=run_rp h1 k 0
  rw [Nat.zero_add] at this
  exact (RP.base h0).trans0 this
 ·rintro ⟨x,h1,h2,h3⟩
  obtain ⟨π,p0,p1,p2⟩:=cyc_run h1 h3
  exact ⟨π,p0,p1,fun m=>by obtain ⟨k,k1,k2⟩:=p2 m;exact ⟨k,k1,by rw [k2];exact h2⟩⟩
def z185 (k:Int):Int:=if k=1∨k=2 then 0 else if k=3∨k=6∨k=9∨k=10 then 1 else if k=4∨k=5∨k=7∨k=8 then 2 else -1
def z380 (k:Int):Int:=if k=2 then 2 else 0
mutual
def Tree.walkF (t:Tree) (d n:Int):Int×Bool:=match t with
 |.mk k v l=>if d≤6∧n+1≤12∧0≤v∧v≤z380 k∧(l.length:Int)=z185 k then Tree.walkFs l (d+1) (n+1) else (n+1,false)
def Tree.walkFs (l:List Tree) (d n:Int):Int×Bool:=match l with
 |[]=>(n,true)
 |t::r=>if (Tree.walkF t d n).2 then Tree.walkFs r d (Tree.walkF t d n).1 else ((Tree.walkF t d n).1,false)
end
mutual
def Tree.shapeF (t:Tree) (d:Int):Bool:=match t with
 |.mk k v l=>decide (1≤d∧(l.length:Int)=z185 k∧0≤v∧v≤z380 k) && Tree.shapeFs l (d - 1)
def Tree.shapeFs (l:List Tree) (d:Int):Bool:=match l with
 |[]=>true
 |t::r=>Tree.shapeF t d && Tree.shapeFs r d
end
theorem Tree.walkF_spec : (∀ (t : Tree) d n, 0 ≤ n → n ≤ 12 → ((t.walkF d n).2 = true ↔ t.shapeF (7 - d) = true ∧ n + t.count (7 - d) ≤ 12) ∧ ((t.walkF d n).2 = true → (t.walkF d n).1 = n + t.count (7 - d)) ∧ n ≤ (t.walkF d n).1 ∧ (t.walkF d n).1 ≤ 13) ∧
  ∀ (l:List Tree) d n,0≤n→n≤12→((Tree.walkFs l d n).2=true↔Tree.shapeFs l (7 - d)=true∧n+Tree.counts l (7 - d)≤12)∧((Tree.walkFs l d n).2=true→(Tree.walkFs l d n).1=n+Tree.counts l (7 - d))∧n≤(Tree.walkFs l d n).1∧(Tree.walkFs l d n).1≤13:=by
 refine Tree.rec2 ?_ ?_ ?_
 ·intro k v l ih d n h0 h1
  simp only [Tree.walkF,Tree.shapeF,Tree.count,y66,decide_eq_true_eq]
  have hc:=Tree.count_pos.2 l (7 - d - 1)
  by_cases hb:d≤6∧n+1≤12∧0≤v∧v≤z380 k∧(l.length:Int)=z185 k
  ·rw [if_pos hb,if_pos (by omega)]
   have:=ih (d+1) (n+1) (by omega) hb.2.1
   rw [show 7 - (d+1)=7 - d - 1 by omega] at this
   obtain ⟨a1,a2,a3,a4⟩:=this
   refine ⟨?_,?_,by omega,by omega⟩
   ·rw [a1]
    constructor
    ·rintro ⟨b1,b2⟩;exact ⟨⟨⟨by omega,hb.2.2.2.2,hb.2.2.1,hb.2.2.2.1⟩,b1⟩,by omega⟩
    ·rintro ⟨b1,b2⟩;exact ⟨b1.2,by omega⟩
   ·intro h;rw [a2 h];omega
  ·rw [if_neg hb]
   refine ⟨⟨by simp,?_⟩,by simp,by simp only;omega,by simp only;omega⟩
   rintro ⟨⟨⟨b1,b2,b3,b4⟩,b5⟩,b6⟩
   rw [if_pos (by omega)] at b6
   exact absurd ⟨by omega,by omega,b3,b4,b2⟩ hb
 ·intro d n h0 h1
  simp [Tree.walkFs,Tree.shapeFs,Tree.counts];omega
 ·intro t r iht ihr d n h0 h1
  simp only [Tree.walkFs,Tree.shapeFs,Tree.counts,y66]
  obtain ⟨a1,a2,a3,a4⟩:=iht d n h0 h1
  have hc:=Tree.count_pos.2 r (7 - d)
  by_cases hb:(t.walkF d n).2=true
  ·rw [if_pos hb]
   have e:=a2 hb
   obtain ⟨b1,b2,b3,b4⟩:=ihr d (t.walkF d n).1 (by omega) (by rw [e];exact (a1.1 hb).2)
   refine ⟨?_,fun h=>by rw [b2 h,e];omega,by omega,b4⟩
   rw [b1,e]
   exact ⟨fun h=>⟨⟨(a1.1 hb).1,h.1⟩,by omega⟩,fun h=>⟨h.1.2,by omega⟩⟩
  ·rw [if_neg hb]
   refine ⟨⟨by simp,fun h=>absurd (a1.2 ⟨h.1.1,by omega⟩) hb⟩,by simp,a3,a4⟩
theorem y36 (t:Tree) (d n:Int):t.walkF d n=if d≤6∧n+1≤12∧0≤t.val∧t.val≤z380 t.kind∧(t.kids.length:Int)=z185 t.kind then Tree.walkFs t.kids (d+1) (n+1) else (n+1,false):=by
 cases t;rfl
theorem y37 (d:Int) (l:List Tree):∀ n k,Tree.walkFs l d n=((idxS (fun (x:Tree) s=>!(x.walkF d s).2) (fun x s=>(x.walkF d s).1) l n k).2,!decide (0≤(idxS (fun (x:Tree) s=>!(x.walkF d s).2) (fun x s=>(x.walkF d s).1) l n k).1)):=by
 induction l with
 |nil=>intro n k;simp [Tree.walkFs,idxS]
 |cons t l ih =>
  intro n k
  simp only [Tree.walkFs,idxS]
  cases h:(t.walkF d n).2
  ·simp
  ·simp only [if_true,Bool.not_true,Bool.false_eq_true,if_false];exact ih _ _
def Tree.fmB (t:Tree):Bool:=(t.walkF 1 0).2
theorem y18 (t:Tree):t.fmB=(t.shapeF 6 && decide (t.count 6≤12)):=by
 have h:=(Tree.walkF_spec.1 t 1 0 (by omega) (by omega)).1
 rw [show (7:Int) - 1=6 by omega,Int.zero_add] at h
 rw [Bool.eq_iff_iff,y66,decide_eq_true_eq]
 exact h
theorem y28 (l:List Tree) (d:Int):Tree.shapeFs l d=true↔∀ t∈l,t.shapeF d=true:=by
 induction l with
 |nil=>simp [Tree.shapeFs]
 |cons t l ih=>simp [Tree.shapeFs,ih]
theorem y27 (t:Tree) (d:Int):t.shapeF d=true↔(1≤d∧(t.kids.length:Int)=z185 t.kind∧0≤t.val∧t.val≤z380 t.kind)∧∀ u∈t.kids,u.shapeF (d - 1)=true:=by
 cases t with
 |mk k v l=>simp only [Tree.shapeF,y66,decide_eq_true_eq,y28,Tree.kids,Tree.kind,Tree.val]
def Tree.goodF (t:Tree):Prop:=∃ d,t.shapeF d=true
theorem y21 {t:Tree} (h:t.fmB=true):t.goodF:=by
 rw [y18,y66] at h
 exact ⟨6,h.1⟩
theorem y20 {t:Tree} (h:t.goodF):(t.kids.length:Int)=z185 t.kind∧0≤t.val∧t.val≤z380 t.kind∧∀ u∈t.kids,u.goodF:=by
 obtain ⟨d,h⟩:=h
 rw [y27] at h
 exact ⟨h.1.2.1,h.1.2.2.1,h.1.2.2.2,fun u hu=>⟨d - 1,h.2 u hu⟩⟩
inductive FormF:Tree→Prop
 |tr:FormF (.mk 1 0 [])
 |at (v:Int) (h0:0≤v) (h1:v≤2):FormF (.mk 2 v [])
 |un (k:Int) (a:Tree) (hk:k=3∨k=6∨k=9∨k=10) (ha:a.goodF):FormF (.mk k 0 [a])
 |bin (k:Int) (a b:Tree) (hk:k=4∨k=5∨k=7∨k=8) (ha:a.goodF) (hb:b.goodF):FormF (.mk k 0 [a,b])
theorem y19 {t:Tree} (h:t.goodF):FormF t:=by
 obtain ⟨h1,h2,h3,h4⟩:=y20 h
 cases t with
 |mk k v l =>
  simp only [Tree.kids,Tree.kind,Tree.val] at h1 h2 h3 h4
  unfold z380 at h3
  unfold z185 at h1
  by_cases e1:k=1
  ·subst e1
   simp at h1 h3
   obtain rfl:v=0:=by omega
   subst h1;exact .tr
  by_cases e2:k=2
  ·subst e2
   simp at h1 h3
   subst h1;exact .at v h2 h3
  rw [if_neg e2] at h3
  obtain rfl:v=0:=by omega
  by_cases e3:k=3∨k=6∨k=9∨k=10
  ·rw [if_neg (by omega),if_pos e3] at h1
   match l,h1 with
   |[a],_=>exact .un k a e3 (h4 a (by simp))
   |[],h1=>simp at h1
   |a::b::r,h1=>simp at h1;omega
  by_cases e4:k=4∨k=5∨k=7∨k=8
  ·rw [if_neg (by omega),if_neg e3,if_pos e4] at h1
   match l,h1 with
   |[a,b],_=>exact .bin k a b e4 (h4 a (by simp)) (h4 b (by simp))
   |[],h1=>simp at h1
   |[a],h1=>simp at h1
   |a::b::c::r,h1=>simp at h1;omega
  ·rw [if_neg (by omega),if_neg e3,if_neg e4] at h1
   omega
def dualF (k:Int):Int:=if k=4 then 5 else if k=5 then 4 else if k=7 then 8 else 7
def dftT:Tree:=.mk 0 0 []
def truT:Tree:=.mk 1 0 []
def notT (t:Tree):Tree:=.mk 3 0 [t]
def z849 (k v:Int) (neg:Bool) (ks:List Tree):Tree :=
 if k=1∨k=2 then (if neg then notT (.mk k v []) else .mk k v [])
 else if k=6 then .mk 6 0 [ks.getD 0 dftT]
 else if k=9∨k=10 then (if (decide (k=9) != neg)=true then .mk 7 0 [truT,ks.getD 0 dftT] else .mk 8 0 [notT truT,ks.getD 0 dftT])
 else .mk (if neg then dualF k else k) 0 [ks.getD 0 dftT,ks.getD 1 dftT]
mutual
def Tree.nrm (neg:Bool) (t:Tree):Tree:=match t with
 |.mk k v l=>if k=3 then (Tree.nrms (!neg) l).getD 0 dftT else z849 k v neg (Tree.nrms neg l)
def Tree.nrms (neg:Bool) (l:List Tree):List Tree:=match l with
 |[]=>[]
 |t::r=>Tree.nrm neg t::Tree.nrms neg r
end
theorem z1099 (neg:Bool):(Tree.mk 1 0 []).nrm neg=if neg then notT (.mk 1 0 []) else .mk 1 0 []:=by simp [Tree.nrm,Tree.nrms,z849]
theorem z1101 (neg:Bool) (v:Int):(Tree.mk 2 v []).nrm neg=if neg then notT (.mk 2 v []) else .mk 2 v []:=by simp [Tree.nrm,Tree.nrms,z849]
theorem z847 (neg:Bool) (v:Int) (a:Tree):(Tree.mk 3 v [a]).nrm neg=a.nrm (!neg):=by simp [Tree.nrm,Tree.nrms]
theorem z661 (neg:Bool) (v:Int) (a:Tree):(Tree.mk 6 v [a]).nrm neg=.mk 6 0 [a.nrm neg]:=by simp [Tree.nrm,Tree.nrms,z849]
theorem z1100 (neg:Bool) (v:Int) (a:Tree):(Tree.mk 9 v [a]).nrm neg=if neg then .mk 8 0 [notT truT,a.nrm neg] else .mk 7 0 [truT,a.nrm neg]:=by cases neg<;>simp [Tree.nrm,Tree.nrms,z849]
theorem z1102 (neg:Bool) (v:Int) (a:Tree):(Tree.mk 10 v [a]).nrm neg=if neg then .mk 7 0 [truT,a.nrm neg] else .mk 8 0 [notT truT,a.nrm neg]:=by cases neg<;>simp [Tree.nrm,Tree.nrms,z849]
theorem z848 (neg:Bool) (k v:Int) (a b:Tree) (hk:k=4∨k=5∨k=7∨k=8):(Tree.mk k v [a,b]).nrm neg=.mk (if neg then dualF k else k) 0 [a.nrm neg,b.nrm neg]:=by
 rcases hk with rfl|rfl|rfl|rfl<;>simp [Tree.nrm,Tree.nrms,z849]
theorem z366 (k v:Int) (a:Tree):(Tree.mk k v [a]).sz=1+a.sz:=by simp [Tree.sz,Tree.szs]
theorem z438 (k v:Int) (a b:Tree):(Tree.mk k v [a,b]).sz=2+(a.sz+b.sz):=by simp [Tree.sz,Tree.szs];omega
theorem z499 (k v:Int):(Tree.mk k v []).sz=0:=by simp [Tree.sz,Tree.szs]
theorem y26 (t:Tree):t.goodF→∀ neg,(t.nrm neg).sz≤4 * t.sz+3:=by
 induction t using y24 with|h t ih=>?_
 intro hg neg
 cases y19 hg with
 |tr=>rw [z1099];cases neg<;>simp [notT,z366,z499]
 |«at» v _ _=>rw [z1101];cases neg<;>simp [notT,z366,z499]
 |un k a hk ha =>
  have h1:=ih a (by simp [Tree.kids]) ha
  rw [z366]
  rcases hk with rfl|rfl|rfl|rfl
  ·rw [z847];have:=h1 (!neg);omega
  ·rw [z661,z366];have:=h1 neg;omega
  ·rw [z1100];have:=h1 neg;cases neg<;>simp [z438,notT,truT,z366,z499]<;>omega
  ·rw [z1102];have:=h1 neg;cases neg<;>simp [z438,notT,truT,z366,z499]<;>omega
 |bin k a b hk ha hb =>
  have h1:=ih a (by simp [Tree.kids]) ha neg
  have h2:=ih b (by simp [Tree.kids]) hb neg
  rw [z848 _ _ _ _ _ hk,z438,z438];omega
noncomputable def addT (o:List Tree) (t:Tree):List Tree:=if t∈o then o else o++[t]
mutual
noncomputable def Tree.subs (t:Tree) (o:List Tree):List Tree:=match t with
 |.mk k v l=>addT (Tree.subss l o) (.mk k v l)
noncomputable def Tree.subss (l:List Tree) (o:List Tree):List Tree:=match l with
 |[]=>o
 |t::r=>Tree.subss r (Tree.subs t o)
end
theorem y30 (t:Tree) (o:List Tree):t.subs o=addT (Tree.subss t.kids o) t:=by cases t;rw [Tree.subs];rfl
theorem y31 (l:List Tree) (t:Tree):∀ o,Tree.subss (l++[t]) o=t.subs (Tree.subss l o):=by
 induction l with
 |nil=>intro o;simp [Tree.subss]
 |cons u l ih=>intro o;simp only [List.cons_append,Tree.subss];exact ih _
theorem y32 {l:List Tree} {k:Nat} (h:k < l.length) (o:List Tree):Tree.subss (l.take (k+1)) o=l[k].subs (Tree.subss (l.take k) o):=by
 rw [y45 h,y31]
theorem z322 {o:List Tree} {t x:Tree} : x∈addT o t↔x∈o∨x=t:=by
 unfold addT
 split
 ·rename_i h
  constructor
  ·exact .inl
  ·rintro (h1|rfl)
   ·exact h1
   ·exact h
 ·simp
theorem z1031 {o:List Tree} {t:Tree} (h:o.Nodup):(addT o t).Nodup:=by
 unfold addT
 split
 ·exact h
 ·rename_i hn
  rw [y71]
  exact ⟨h,by simp,fun a ha b hb=>by rintro rfl;rw [List.mem_singleton.1 hb] at ha;exact hn ha⟩
theorem addT_len (o:List Tree) (t:Tree):(addT o t).length≤o.length+1:=by unfold addT;split<;>simp
theorem z310:∀ t:Tree,∀ o:List Tree,(o.Nodup→(t.subs o).Nodup)∧(∀ x∈o,x∈t.subs o)∧t∈t.subs o∧(t.subs o).length≤o.length+t.sz+1∧(∀ x∈t.subs o,x∈o∨x.sz≤t.sz)∧((∀ x∈o,∀ u∈x.kids,u∈o)→∀ x∈t.subs o,∀ u∈x.kids,u∈t.subs o):=by
 intro t
 induction t using y24 with|h t ih=>?_
 have key:∀ (l:List Tree),(∀ u∈l,u∈t.kids)→∀ o:List Tree,(o.Nodup→(Tree.subss l o).Nodup)∧(∀ x∈o,x∈Tree.subss l o)∧(∀ u∈l,u∈Tree.subss l o)∧(Tree.subss l o).length≤o.length+(l.map fun u=>u.sz+1).sum∧(∀ x∈Tree.subss l o,x∈o∨∃ u∈l,x.sz≤u.sz)∧((∀ x∈o,∀ u∈x.kids,u∈o)→∀ x∈Tree.subss l o,∀ u∈x.kids,u∈Tree.subss l o):=by
  intro l
  induction l with
  |nil=>intro _ o;simp [Tree.subss]
  |cons u l ihl =>
   intro hl o
   obtain ⟨a1,a2,a3,a4,a5,a6⟩:=ih u (hl u (by simp)) o
   obtain ⟨b1,b2,b3,b4,b5,b6⟩:=ihl (fun x hx=>hl x (y68 _ hx)) (u.subs o)
   rw [Tree.subss]
   refine ⟨fun h=>b1 (a1 h),fun x hx=>b2 x (a2 x hx),fun x hx=>?_,?_,fun x hx=>?_,fun h=>b6 (a6 h)⟩
   ·rcases List.mem_cons.1 hx with rfl|hx
    ·exact b2 _ a3
    ·exact b3 x hx
   ·simp only [List.map_cons,List.sum_cons];omega
   ·rcases b5 x hx with h|⟨y,hy,h⟩
    ·rcases a5 x h with h|h
     ·exact .inl h
     ·exact .inr ⟨u,by simp,h⟩
    ·exact .inr ⟨y,y68 _ hy,h⟩
 intro o
 obtain ⟨b1,b2,b3,b4,b5,b6⟩:=key t.kids (fun _ h=>h) o
 rw [y30]
 have hsz:=y33 t
 have hsum:(t.kids.map fun u=>u.sz+1).sum=t.kids.length+(t.kids.map Tree.sz).sum:=by
  generalize t.kids=l
  induction l with
  |nil=>rfl
  |cons a l ih=>simp only [List.map_cons,List.sum_cons,y53,ih];omega
 refine ⟨fun h=>z1031 (b1 h),fun x hx=>z322.2 (.inl (b2 x hx)),z322.2 (.inr rfl),?_,fun x hx=>?_,fun h x hx u hu=>z322.2 (.inl ?_)⟩
 ·have:=addT_len (Tree.subss t.kids o) t
  omega
 ·rcases z322.1 hx with h|rfl
  ·rcases b5 x h with h|⟨u,hu,h⟩
   ·exact .inl h
   ·have:=z384 Tree.sz hu
    exact .inr (by omega)
  ·exact .inr (y47 _)
 ·rcases z322.1 hx with h2|rfl
  ·exact b6 h x h2 u hu
  ·exact b3 u hu
def z122 (t:Tree):Bool:=decide (t.kind=2∨t.kind=6∨t.kind=7∨t.kind=8)
noncomputable def bscL (t:Tree):List Tree:=(t.subs []).filter z122
noncomputable def bscB (t:Tree):Bool:=decide ((t.fmB=true∧(t.nrm false).fmB=true)∧(bscL (t.nrm false)).length≤5)
def semOp (w:Nat→Int) (k v:Int) (ks:List (Nat→Prop)) (i:Nat):Prop :=
 if k=2 then hasB (w i) v=true
 else if k=3 then ¬ (ks.getD 0 fun _=>False) i
 else if k=4 then (ks.getD 0 fun _=>False) i∧(ks.getD 1 fun _=>False) i
 else if k=5 then (ks.getD 0 fun _=>False) i∨(ks.getD 1 fun _=>False) i
 else if k=6 then (ks.getD 0 fun _=>False) (i+1)
 else if k=7 then ∃ j,i≤j∧(ks.getD 1 fun _=>False) j∧∀ m,i≤m→m < j→(ks.getD 0 fun _=>False) m
 else if k=8 then ∀ j,i≤j→(ks.getD 1 fun _=>False) j∨∃ m,i≤m∧m < j∧(ks.getD 0 fun _=>False) m
 else if k=9 then ∃ j,i≤j∧(ks.getD 0 fun _=>False) j
 else if k=10 then ∀ j,i≤j→(ks.getD 0 fun _=>False) j
 else True
mutual
def Tree.sem (w:Nat→Int) (t:Tree):Nat→Prop:=match t with
 |.mk k v l=>semOp w k v (Tree.sems w l)
def Tree.sems (w:Nat→Int) (l:List Tree):List (Nat→Prop):=match l with
 |[]=>[]
 |t::r=>Tree.sem w t::Tree.sems w r
end
section
variable (w:Nat→Int)
end
mutual
def Tree.vl (σ:Tree→Bool) (t:Tree):Bool:=match t with
 |.mk k v l=>if k=1 then true else if k=3 then !((Tree.vls σ l).getD 0 false) else if k=4 then (Tree.vls σ l).getD 0 false && (Tree.vls σ l).getD 1 false else if k=5 then (Tree.vls σ l).getD 0 false || (Tree.vls σ l).getD 1 false else σ (.mk k v l)
def Tree.vls (σ:Tree→Bool) (l:List Tree):List Bool:=match l with
 |[]=>[]
 |t::r=>Tree.vl σ t::Tree.vls σ r
end
inductive NF:Tree→Prop
 |tr:NF (.mk 1 0 [])
 |at (v:Int):NF (.mk 2 v [])
 |nt:NF (.mk 3 0 [.mk 1 0 []])
 |na (v:Int):NF (.mk 3 0 [.mk 2 v []])
 |an {a b:Tree} : NF a→NF b→NF (.mk 4 0 [a,b])
 |or {a b:Tree} : NF a→NF b→NF (.mk 5 0 [a,b])
 |nx {a:Tree} : NF a→NF (.mk 6 0 [a])
 |un {a b:Tree} : NF a→NF b→NF (.mk 7 0 [a,b])
 |re {a b:Tree} : NF a→NF b→NF (.mk 8 0 [a,b])
theorem nrm_NF (t:Tree):t.goodF→∀ neg,NF (t.nrm neg):=by
 induction t using y24 with|h t ih=>?_
 intro hg neg
 cases y19 hg with
 |tr=>rw [z1099];cases neg;exact .tr;exact .nt
 |«at» v _ _=>rw [z1101];cases neg;exact .at v;exact .na v
 |un k a hk ha =>
  have h1:=ih a (by simp [Tree.kids]) ha
  rcases hk with rfl|rfl|rfl|rfl
  ·rw [z847];exact h1 _
  ·rw [z661];exact .nx (h1 _)
  ·rw [z1100];cases neg;exact .un .tr (h1 _);exact .re .nt (h1 _)
  ·rw [z1102];cases neg;exact .re .nt (h1 _);exact .un .tr (h1 _)
 |bin k a b hk ha hb =>
  have h1:=ih a (by simp [Tree.kids]) ha neg
  have h2:=ih b (by simp [Tree.kids]) hb neg
  rw [z848 _ _ _ _ _ hk]
  rcases hk with rfl|rfl|rfl|rfl<;>cases neg<;>first|exact .an h1 h2|exact .or h1 h2|exact .un h1 h2|exact .re h1 h2
section
variable {σ:Tree→Bool}
theorem vl_tr:(Tree.mk 1 0 []).vl σ=true:=by simp [Tree.vl]
theorem vl_not (v:Int) (a:Tree):(Tree.mk 3 v [a]).vl σ=!a.vl σ:=by simp [Tree.vl,Tree.vls]
theorem vl_and (v:Int) (a b:Tree):(Tree.mk 4 v [a,b]).vl σ=(a.vl σ && b.vl σ):=by simp [Tree.vl,Tree.vls]
theorem vl_or (v:Int) (a b:Tree):(Tree.mk 5 v [a,b]).vl σ=(a.vl σ || b.vl σ):=by simp [Tree.vl,Tree.vls]
theorem vl_at (v:Int):(Tree.mk 2 v []).vl σ=σ (.mk 2 v []):=by simp [Tree.vl]
theorem vl_nx (v:Int) (l:List Tree):(Tree.mk 6 v l).vl σ=σ (.mk 6 v l):=by simp [Tree.vl]
theorem vl_un (v:Int) (l:List Tree):(Tree.mk 7 v l).vl σ=σ (.mk 7 v l):=by simp [Tree.vl]
theorem vl_re (v:Int) (l:List Tree):(Tree.mk 8 v l).vl σ=σ (.mk 8 v l):=by simp [Tree.vl]
end
inductive In (B:Tree→Prop):Tree→Prop
 |tr:In B (.mk 1 0 [])
 |at (v:Int):B (.mk 2 v [])→In B (.mk 2 v [])
 |nt:In B (.mk 3 0 [.mk 1 0 []])
 |na (v:Int):B (.mk 2 v [])→In B (.mk 3 0 [.mk 2 v []])
 |an {a b:Tree} : In B a→In B b→In B (.mk 4 0 [a,b])
 |or {a b:Tree} : In B a→In B b→In B (.mk 5 0 [a,b])
 |nx {a:Tree} : B (.mk 6 0 [a])→In B a→In B (.mk 6 0 [a])
 |un {a b:Tree} : B (.mk 7 0 [a,b])→In B a→In B b→In B (.mk 7 0 [a,b])
 |re {a b:Tree} : B (.mk 8 0 [a,b])→In B a→In B b→In B (.mk 8 0 [a,b])
end Go.Gl
namespace Go.Gl
noncomputable def plc (B:List Tree) (t:Tree):Int:=match B.findIdx? (fun x=>decide (x=t)) with
 |some i=>i
 |none=>-1
noncomputable def sgB (B:List Tree) (s:Int) (t:Tree):Bool:=hasB s (plc B t)
theorem plc_mem {B:List Tree} {t:Tree} (h:t∈B):0≤plc B t∧plc B t < B.length:=by
 unfold plc
 split
 ·rename_i i e
  obtain ⟨h1,_,_⟩:=List.findIdx?_eq_some_iff_getElem.1 e
  omega
 ·rename_i e
  have:=List.findIdx?_eq_none_iff.1 e t h
  simp at this
noncomputable def vlB (B:List Tree) (s:Int) (t:Tree):Bool:=t.vl (sgB B s)
noncomputable def kidV (B:List Tree) (s:Int) (t:Tree) (j:Nat):Bool:=vlB B s (t.kids.getD j dftT)
noncomputable def folV (B:List Tree) (s t:Int) (f:Tree) (now next:Bool):Bool :=
 if f.kind=6 then kidV B t f 0
 else if f.kind=7 then kidV B s f 1 || (kidV B s f 0 && next)
 else if f.kind=8 then kidV B s f 1 && (kidV B s f 0 || next)
 else now
noncomputable def folI (B:List Tree) (s t:Int) (i:Nat):Bool:=folV B s t (B.getD i dftT) (hasB s i) (hasB t i) == hasB s i
noncomputable def folB (B:List Tree) (s t:Int):Bool:=(List.range B.length).all fun i=>folI B s t i
noncomputable def atoI (B:List Tree) (s:Int) (p:Nat×Nat) (i:Nat):Nat×Nat:=if (B.getD i dftT).kind=2 then (p.1 ||| 2 ^ (B.getD i dftT).val.toNat,if hasB s i=true then p.2 ||| 2 ^ (B.getD i dftT).val.toNat else p.2) else p
noncomputable def letB (B:List Tree) (s:Int):Nat×Nat:=(List.range B.length).foldl (atoI B s) (0,0)
noncomputable def untB (B:List Tree):List Int:=((List.range B.length).filter fun i=>decide ((B.getD i dftT).kind=7)).map Int.ofNat
noncomputable def fulB (B:List Tree) (s:Int) (u:Int):Bool:=!hasB s u || kidV B s (B.getD u.toNat dftT) 1
noncomputable def phB (B:List Tree) (U:List Int) (s ph:Int):Int×Bool :=
 if U.length=0 then (0,true) else if fulB B s (U.getD ph.toNat 0)=true then ((ph+1) % (U.length:Int),decide (ph=0)) else (ph,false)
noncomputable def z192 (L:List (List Int)) (p:List Int):List (List Int):=if p∈L then L else L++[p]
noncomputable def z289 (L:List (List Int)) (p:List Int):Nat:=L.idxOf p
structure Edg where
 src:Int
 care:Int
 val:Int
 dst:Int
structure TrS where
 L:List (List Int)
 acc:List Bool
 ed:List Edg
noncomputable def z119 (B:List Tree) (s ph:Int) (i:Nat) (c v:Int) (x:List (List Int)×List Edg) (t:Nat):List (List Int)×List Edg :=
 if folB B s t=true then (z192 x.1 [(t:Int),ph],x.2++[⟨i,c,v,z289 x.1 [(t:Int),ph]⟩]) else x
noncomputable def z216 (B:List Tree) (U:List Int) (i:Nat) (x:TrS):TrS :=
 let s:=(x.L.getD i []).getD 0 0
 let q:=phB B U s ((x.L.getD i []).getD 1 0)
 let c:=letB B s
 let y:=(List.range (2 ^ B.length)).foldl (z119 B s q.1 i c.1 c.2) (x.L,x.ed)
 ⟨y.1,x.acc++[q.2],y.2⟩
noncomputable def goS (B:List Tree) (U:List Int):Nat→Nat→TrS→Option TrS
 |0,_,_=>none
 |f+1,i,x=>if i < x.L.length then (if 64 < x.L.length then none else goS B U f (i+1) (z216 B U i x)) else some x
noncomputable def iniS (B:List Tree) (g:Tree):List (List Int):=((List.range (2 ^ B.length)).filter fun s=>vlB B (s:Nat) g).map fun s:Nat=>[(s:Int),0]
theorem subs_all {p:Tree→Prop} (hk:∀ x,p x→∀ u∈x.kids,p u):∀ t:Tree,∀ o:List Tree,p t→(∀ x∈o,p x)→∀ x∈t.subs o,p x:=by
 intro t
 induction t using y24 with|h t ih=>?_
 have key:∀ (l:List Tree),(∀ u∈l,u∈t.kids)→∀ o:List Tree,(∀ u∈l,p u)→(∀ x∈o,p x)→∀ x∈Tree.subss l o,p x:=by
  intro l
  induction l with
  |nil=>intro _ o _ ho;simpa [Tree.subss] using ho
  |cons u l ihl =>
   intro hl o hp ho
   rw [Tree.subss]
   exact ihl (fun x hx=>hl x (y68 _ hx)) _ (fun x hx=>hp x (y68 _ hx)) (ih u (hl u (by simp)) o (hp u (by simp)) ho)
 intro o ht ho x hx
 rw [y30] at hx
 rcases z322.1 hx with h|rfl
 ·exact key t.kids (fun _ h=>h) o (hk t ht) ho x h
 ·exact ht
theorem NF.kids {t:Tree} (h:NF t):∀ u∈t.kids,NF u:=by
 cases h with
 |tr=>intro u hu;simp [Tree.kids] at hu
 |«at» v=>intro u hu;simp [Tree.kids] at hu
 |nt=>intro u hu;simp [Tree.kids] at hu;subst hu;exact .tr
 |na v=>intro u hu;simp [Tree.kids] at hu;subst hu;exact .at v
 |an ha hb=>intro u hu;simp [Tree.kids] at hu;rcases hu with rfl|rfl<;>assumption
 |or ha hb=>intro u hu;simp [Tree.kids] at hu;rcases hu with rfl|rfl<;>assumption
 |nx ha=>intro u hu;simp [Tree.kids] at hu;subst hu;assumption
 |un ha hb=>intro u hu;simp [Tree.kids] at hu;rcases hu with rfl|rfl<;>assumption
 |re ha hb=>intro u hu;simp [Tree.kids] at hu;rcases hu with rfl|rfl<;>assumption
theorem in_of {L:List Tree} (hcl:∀ x∈L,∀ u∈x.kids,u∈L) {t:Tree} (h:NF t):t∈L→In (·∈L.filter z122) t:=by
 have bs:∀ x,x∈L→z122 x=true→x∈L.filter z122:=fun x h1 h2=>List.mem_filter.2 ⟨h1,h2⟩
 induction h with
 |tr=>intro _;exact .tr
 |«at» v=>intro ht;exact .at v (bs _ ht (by simp [z122,Tree.kind]))
 |nt=>intro _;exact .nt
 |na v=>intro ht;exact .na v (bs _ (hcl _ ht _ (by simp [Tree.kids])) (by simp [z122,Tree.kind]))
 |an _ _ iha ihb=>intro ht;exact .an (iha (hcl _ ht _ (by simp [Tree.kids]))) (ihb (hcl _ ht _ (by simp [Tree.kids])))
 |or _ _ iha ihb=>intro ht;exact .or (iha (hcl _ ht _ (by simp [Tree.kids]))) (ihb (hcl _ ht _ (by simp [Tree.kids])))
 |nx _ iha=>intro ht;exact .nx (bs _ ht (by simp [z122,Tree.kind])) (iha (hcl _ ht _ (by simp [Tree.kids])))
 |un _ _ iha ihb=>intro ht;exact .un (bs _ ht (by simp [z122,Tree.kind])) (iha (hcl _ ht _ (by simp [Tree.kids]))) (ihb (hcl _ ht _ (by simp [Tree.kids])))
 |re _ _ iha ihb=>intro ht;exact .re (bs _ ht (by simp [z122,Tree.kind])) (iha (hcl _ ht _ (by simp [Tree.kids]))) (ihb (hcl _ ht _ (by simp [Tree.kids])))
theorem z1021 {u:Tree} (hg:u.goodF) (hn:NF u):(bscL u).Nodup∧(∀ x∈bscL u,x.sz≤u.sz)∧(∀ x∈bscL u,In (·∈bscL u) x)∧(∀ x∈bscL u,z122 x=true)∧(∀ v,Tree.mk 2 v []∈bscL u→0≤v∧v≤2)∧In (·∈bscL u) u:=by
 obtain ⟨h1,_,h3,_,h5,h6⟩:=z310 u []
 have hcl:=h6 (by simp)
 have hall:=subs_all (p:=fun x=>NF x∧x.goodF) (fun x hx v hv=>⟨hx.1.kids v hv,(y20 hx.2).2.2.2 v hv⟩) u [] ⟨hn,hg⟩ (by simp)
 unfold bscL
 generalize u.subs []=L at *
 refine ⟨(h1 List.nodup_nil).filter _,fun x hx=>?_,fun x hx=>?_,fun x hx=>(List.mem_filter.1 hx).2,fun v hv=>?_,in_of hcl hn h3⟩
 ·rcases h5 x (List.mem_filter.1 hx).1 with h|h
  ·simp at h
  ·exact h
 ·have hx:=(List.mem_filter.1 hx).1
  exact in_of hcl (hall x hx).1 hx
 ·have hx:=(List.mem_filter.1 hv).1
  obtain ⟨_,a,b,_⟩:=y20 (hall _ hx).2
  simp [Tree.val,Tree.kind,z380] at a b
  exact ⟨a,b⟩
theorem z924 (B:List Tree) (g:Tree):(iniS B g).length≤2 ^ B.length:=by
 unfold iniS
 rw [y44]
 have:=List.length_filter_le (fun s=>vlB B (s:Nat) g) (List.range (2 ^ B.length))
 simpa using this
def numI (n:Nat):List Int:=(List.range n).map Int.ofNat
theorem z1097 (n:Nat):numI (n+1)=numI n++[(n:Int)]:=by
 unfold numI;rw [y57,y59];rfl
theorem z658 (n:Nat):(numI n).length=n:=by simp [numI]
def iniK (B:List Tree) (V:Nat→Bool) (k:Nat):List (List Int):=((List.range k).filter V).map fun s:Nat=>[(s:Int),0]
theorem z1132 (B:List Tree) (V:Nat→Bool) (k:Nat):iniK B V (k+1)=iniK B V k++(if V k=true then [[(k:Int),0]] else []):=by
 unfold iniK
 rw [y57,List.filter_append,y59]
 congr 1
 by_cases h:V k=true
 ·rw [if_pos h,List.filter_cons_of_pos h];rfl
 ·rw [if_neg h,List.filter_cons_of_neg h];rfl
theorem iniK_len (B:List Tree) (V:Nat→Bool) (k:Nat):(iniK B V k).length≤k:=by
 unfold iniK
 rw [y44]
 have:=List.length_filter_le V (List.range k)
 simpa using this
noncomputable def trS (B:List Tree) (g:Tree):Option TrS:=goS B (untB B) 65 0 ⟨iniS B g,[],[]⟩
theorem z936 (B:List Tree) (s ph:Int) (i:Nat) (c v:Int):∀ (l:List Nat) (x:List (List Int)×List Edg),(l.foldl (z119 B s ph i c v) x).2.length≤x.2.length+l.length
 |[],x=>by simp
 |t::l,x=>by
  rw [List.foldl_cons,y53]
  have h:=z936 B s ph i c v l (z119 B s ph i c v x t)
  have:(z119 B s ph i c v x t).2.length≤x.2.length+1:=by
   unfold z119
   split
   ·simp
   ·omega
  omega
theorem z1138 (B:List Tree) (U:List Int):∀ (f i:Nat) (x y:TrS),goS B U f i x=some y→y.acc.length≤x.acc.length+f∧y.ed.length≤x.ed.length+f * 2 ^ B.length
 |0,i,x,y,h=>by simp [goS] at h
 |f+1,i,x,y,h=>by
  rw [goS] at h
  split at h
  ·split at h
   ·cases h
   ·have h1:=z1138 B U f (i+1) (z216 B U i x) y h
    have h2:(z216 B U i x).acc.length=x.acc.length+1:=by simp [z216]
    have h3:(z216 B U i x).ed.length≤x.ed.length+2 ^ B.length:=by
     have:=z936 B ((x.L.getD i []).getD 0 0) (phB B U ((x.L.getD i []).getD 0 0) ((x.L.getD i []).getD 1 0)).1 i (letB B ((x.L.getD i []).getD 0 0)).1 (letB B ((x.L.getD i []).getD 0 0)).2 (List.range (2 ^ B.length)) (x.L,x.ed)
     rw [List.length_range] at this
     exact this
    rw [Nat.add_mul]
    omega
  ·cases h
   rw [Nat.add_mul]
   omega
def visP (u:Int) (x:List Int×List Int) (v:Int):List Int×List Int:=if v∈x.1 then x else (x.1++[v],x.2.set v.toNat u)
def visPs (u:Int) (x:List Int×List Int) (l:List Int):List Int×List Int:=l.foldl (visP u) x
theorem z464 {u:Int} {x:List Int×List Int} {v:Int} (h:v ∉ x.1):visP u x v=(x.1++[v],x.2.set v.toNat u):=by unfold visP;rw [if_neg h]
theorem z463 {u:Int} {x:List Int×List Int} {v:Int} (h:v∈x.1):visP u x v=x:=by unfold visP;rw [if_pos h]
theorem z590 {u:Int} {x:List Int×List Int} {l:List Int} {k:Nat} (h:k < l.length):visPs u x (l.take (k+1))=visP u (visPs u x (l.take k)) l[k]:=by
 unfold visPs
 rw [y45 h,y58];rfl
theorem z630 (u:Int) (x:List Int×List Int) (v:Int):(visP u x v).1=z165 x.1 v:=by
 unfold visP z165;split<;>rfl
theorem z360 (u:Int) (l:List Int):∀ x:List Int×List Int,(visPs u x l).1=z87 x.1 l:=by
 induction l with
 |nil=>intro x;rfl
 |cons v l ih =>
  intro x
  show (visPs u (visP u x v) l).1=z87 (z165 x.1 v) l
  rw [ih,z630]
structure PJ (N:Nat) (x:List Int×List Int):Prop where
 len:x.2.length=N
 inn:InN N x.1
 nd:x.1.Nodup
 pre:∀ k (h:k < x.1.length),x.2.getD (x.1[k]).toNat 0=-1∨∃ j,∃ h' : j < x.1.length,j < k∧x.2.getD (x.1[k]).toNat 0=x.1[j]
theorem PJ.visP {N:Nat} {x:List Int×List Int} (h:PJ N x) {i:Nat} (hi:i < x.1.length) {u v:Int} (hu:u=x.1[i]) (hv:0≤v∧v < N):PJ N (visP u x v):=by
 by_cases hm:v∈x.1
 ·rw [z463 hm];exact h
 ·rw [z464 hm]
  refine ⟨by simp [h.len],fun y hy=>?_,?_,fun k hk=>?_⟩
  ·rcases List.mem_append.1 hy with h1|h1
   ·exact h.inn y h1
   ·rw [List.mem_singleton.1 h1];exact hv
  ·rw [y71]
   exact ⟨h.nd,by simp,fun a ha b hb=>by rintro rfl;rw [List.mem_singleton.1 hb] at ha;exact hm ha⟩
  ·have hk' : k < x.1.length+1:=by simpa using hk
   have hl:=h.len
   by_cases hkl:k < x.1.length
   ·have e:(x.1++[v])[k]=x.1[k]:=List.getElem_append_left hkl
    dsimp only
    rw [e]
    have hne:v≠x.1[k]:=fun e=>hm (e ▸ y39 hkl)
    have hin:=h.inn _ (y39 hkl)
    have e2:(x.2.set v.toNat u).getD (x.1[k]).toNat 0=x.2.getD (x.1[k]).toNat 0:=by
     rw [y63,List.getElem?_set_ne (by omega),← y63]
    rw [e2]
    rcases h.pre k hkl with h1|⟨j,hj,h1,h2⟩
    ·exact .inl h1
    ·exact .inr ⟨j,by simp;omega,h1,by rw [h2,List.getElem_append_left hj]⟩
   ·obtain rfl:k=x.1.length:=by omega
    right
    refine ⟨i,by simp;omega,hi,?_⟩
    dsimp only
    rw [List.getElem_append_left hi]
    simp only [List.getElem_append_right (y47 _),Nat.sub_self,List.getElem_cons_zero]
    rw [z17 (by simp;omega),List.getElem_set_self,hu]
theorem PJ.visPs {N:Nat} {u:Int} (l:List Int):∀ {x:List Int×List Int} (_:PJ N x) {i:Nat} (hi:i < x.1.length) (_:u=x.1[i]) (_:InN N l),PJ N (visPs u x l)∧∃ h' : i < (Go.Gl.visPs u x l).1.length,(Go.Gl.visPs u x l).1[i]=u:=by
 induction l with
 |nil=>intro x h i hi hu hl;exact ⟨h,hi,hu.symm⟩
 |cons v l ih =>
  intro x h i hi hu hl
  have h1:=h.visP hi hu (hl v (by simp))
  obtain ⟨t,ht⟩:=z493 x.1 v
  have hf:=z630 u x v
  rw [ht] at hf
  have hi1:i < (Go.Gl.visP u x v).1.length:=by rw [hf,y42];omega
  exact ih h1 hi1 (by simp only [hf,List.getElem_append_left hi];exact hu) fun y hy=>hl y (by simp [hy])
def srS (rows:List (List Int)) (ini:List Int):Nat→List Int×List Int
 |0=>(ini,List.replicate rows.length (-1))
 |i+1=>if h:i < (srS rows ini i).1.length then visPs (srS rows ini i).1[i] (srS rows ini i) (rows.getD ((srS rows ini i).1[i]).toNat []) else srS rows ini i
def srQ (rows:List (List Int)) (ini:List Int):List Int:=(srS rows ini rows.length).1
def srP (rows:List (List Int)) (ini:List Int):List Int:=(srS rows ini rows.length).2
section
variable {rows:List (List Int)} {ini:List Int}
theorem z501 (hr:∀ r∈rows,InN rows.length r) (hi:InN rows.length ini) (hn:ini.Nodup) (i:Nat):PJ rows.length (srS rows ini i):=by
 induction i with
 |zero =>
  refine ⟨by simp [srS],hi,hn,fun k hk=>.inl ?_⟩
  have:=hi _ (y39 hk)
  show (List.replicate rows.length (-1)).getD _ 0=_
  rw [z17 (by simp;have:(srS rows ini 0).1[k]=ini[k]:=rfl;omega)]
  simp
 |succ i ih =>
  rw [srS];split
  ·rename_i h
   exact (PJ.visPs _ ih h rfl (z236 hr _)).1
  ·exact ih
theorem z1038 {l:List Int} : ∀ {out:List Int},(out++l).Nodup→z87 out l=out++l:=by
 induction l with
 |nil=>intro out _;simp [z87]
 |cons v l ih =>
  intro out h
  show z87 (z165 out v) l=_
  have hv:v ∉ out:=fun hm=>by
   rw [y71] at h
   exact h.2.2 v hm v (by simp) rfl
  have:z165 out v=out++[v]:=by unfold z165;rw [if_neg hv]
  rw [this,ih (by simpa using h)]
  simp
theorem z822 (hn:ini.Nodup) (i:Nat):(srS rows ini i).1=bfs rows ini i:=by
 induction i with
 |zero =>
  show ini=z87 [] ini
  rw [z1038 (by simpa using hn)];rfl
 |succ i ih =>
  rw [srS,bfs]
  by_cases h:i < (srS rows ini i).1.length
  ·have h2:i < (bfs rows ini i).length:=by rw [← ih];exact h
   rw [dif_pos h,dif_pos h2,z360]
   simp only [ih]
  ·have h2:¬ i < (bfs rows ini i).length:=by rw [← ih];exact h
   rw [dif_neg h,dif_neg h2,ih]
theorem z1055 {i j:Nat} (h:(srS rows ini i).1.length≤i) (hij:i≤j):srS rows ini j=srS rows ini i:=by
  induction j with
  | zero => obtain rfl : i = 0 := by omega
            rfl
  | succ j ih =>
    rcases y65 j i with h1|h1
    · obtain rfl:i=j+1:=by omega
      rfl
    · have e:=ih h1
      rw [srS,dif_neg (by rw [e];omega),e]
theorem z821 (hr:∀ r∈rows,InN rows.length r) (hi:InN rows.length ini) (hn:ini.Nodup) (i:Nat):(srS rows ini i).1.length≤rows.length :=
 z181 _ _ (z501 hr hi hn i).nd (z501 hr hi hn i).inn
theorem srS_end {i:Nat} (h:(srS rows ini i).1.length≤i) (hil:i≤rows.length):srS rows ini i=(srQ rows ini,srP rows ini):=(z1055 h hil).symm
end
def bkw (P:List Int):Nat→Int→List Int→List Int
 |0,v,tl=>v::tl
 |f+1,v,tl=>if 0≤P.getD v.toNat 0 then bkw P f (P.getD v.toNat 0) (v::tl) else v::tl
def BackOk (P:List Int):Nat→Int→Prop
 |0,v=>(0≤v∧v < P.length)∧P.getD v.toNat 0 < 0
 |f+1,v=>(0≤v∧v < P.length)∧(P.getD v.toNat 0 < 0∨BackOk P f (P.getD v.toNat 0))
theorem BackOk.up {P:List Int} : ∀ {f:Nat} {v:Int},BackOk P f v→BackOk P (f+1) v
 |0,_,h=>⟨h.1,.inl h.2⟩
 |_+1,_,h=>⟨h.1,h.2.imp id fun h=>h.up⟩
theorem BackOk.le {P:List Int} {f g:Nat} {v:Int} (h:BackOk P f v) (hg:f≤g):BackOk P g v:=by
  induction g with
  | zero => obtain rfl : f = 0 := by omega
            exact h
  | succ g ih =>
    rcases y65 g f with h1|h1
    · obtain rfl:f=g+1:=by omega
      exact h
    · exact (ih h1).up
theorem PJ.back {N:Nat} {x:List Int×List Int} (h:PJ N x):∀ (k:Nat) (hk:k < x.1.length),BackOk x.2 k x.1[k]:=by
 intro k
 induction k using Nat.strongRecOn with
 |ind k ih =>
  intro hk
  have hin:=h.inn _ (y39 hk)
  rw [← h.len] at hin
  rcases h.pre k hk with h1|⟨j,hj,h1,h2⟩
  ·exact (show BackOk x.2 0 x.1[k] from ⟨hin,by omega⟩).le (y48 _)
  ·have h3:=(ih j h1 hj).le (show j≤k - 1 by omega)
   rw [← h2] at h3
   generalize x.1[k]=v at *
   obtain ⟨m,rfl⟩:∃ m,k=m+1:=⟨k - 1,by omega⟩
   exact ⟨hin,.inr h3⟩
theorem z692 (P:List Int):∀ (f:Nat) (v:Int) (tl:List Int),(bkw P f v tl).length≤f+1+tl.length
 |0,v,tl=>by rw [bkw,y53];omega
 |f+1,v,tl=>by
  rw [bkw];split
  ·have:=z692 P f (P.getD v.toNat 0) (v::tl)
   simp only [y53] at this
   omega
  ·rw [y53];omega
end Go.Gl
namespace Go.Gl
def cycT (rows:List (List Int)) (P:List Int) (v:Int):List Int→List Int
 |[]=>[]
 |u::t=>if v∈rows.getD u.toNat [] then bkw P rows.length u [] else cycT rows P v t
def cycL (rows:List (List Int)) (v:Int):List Int:=if v∈rows.getD v.toNat [] then [v] else cycT rows (srP rows [v]) v (srQ rows [v])
def finT (rows:List (List Int)) (acc:List Bool) (P:List Int):List Int→Option (List Int×List Int)
 |[]=>none
 |u::t=>if acc.getD (u % acc.length).toNat false=true then (if 0 < (cycL rows u).length then some (bkw P rows.length u [],cycL rows u) else finT rows acc P t) else finT rows acc P t
def stL (l:List Int) (n:Nat):List Int:=l.map fun x=>x / n
def finS (rows:List (List Int)) (ini:List Int) (acc:List Bool):Option (List Int×List Int):=finT rows acc (srP rows ini) (srQ rows ini)
theorem z939 (rows:List (List Int)) (P:List Int) (v:Int):∀ l,(cycT rows P v l).length≤rows.length+1
 |[]=>y48 _
 |u::t=>by
  rw [cycT];split
  ·exact z692 _ _ _ _
  ·exact z939 rows P v t
theorem z940 (rows:List (List Int)) (v:Int):(cycL rows v).length≤rows.length+1:=by
 unfold cycL;split
 ·simp
 ·exact z939 _ _ _ _
theorem z691 (P:List Int):∀ (f:Nat) (v:Int) (tl:List Int),1≤(bkw P f v tl).length
 |0,v,tl=>by rw [bkw,y53];omega
 |f+1,v,tl=>by
  rw [bkw];split
  ·exact z691 P f _ _
  ·rw [y53];omega
theorem z1178 {P:List Int} : ∀ (f:Nat) (v:Int) (tl:List Int),0≤v→(∀ x∈tl,0≤x)→∀ x∈bkw P f v tl,0≤x
 |0,v,tl,h0,h,x,hx=>by
  rw [bkw] at hx
  rcases List.mem_cons.1 hx with rfl|h1
  ·exact h0
  ·exact h x h1
 |f+1,v,tl,h0,h,x,hx=>by
  rw [bkw] at hx
  split at hx
  ·rename_i h2
   exact z1178 f _ _ h2 (fun y hy=>by
    rcases List.mem_cons.1 hy with rfl|h1
    ·exact h0
    ·exact h y h1) x hx
  ·rcases List.mem_cons.1 hx with rfl|h1
   ·exact h0
   ·exact h x h1
theorem z1161 (rows:List (List Int)) (P:List Int) (v:Int):∀ l:List Int,(∀ x∈l,0≤x)→∀ x∈cycT rows P v l,0≤x
 |[],_,x,hx=>by cases hx
 |u::t,h,x,hx=>by
  rw [cycT] at hx
  split at hx
  ·exact z1178 _ _ _ (h u (by simp)) (fun y hy=>by cases hy) x hx
  ·exact z1161 rows P v t (fun y hy=>h y (by simp [hy])) x hx
theorem z1057 {rows:List (List Int)} {ini:List Int} (hr:∀ r∈rows,InN rows.length r) (hi:InN rows.length ini) (hn:ini.Nodup):InN rows.length (srQ rows ini):=(z501 hr hi hn _).inn
theorem z746 {N:Nat} {v:Int} (h:0≤v∧v < N):InN N [v]:=fun x hx=>by rw [List.mem_singleton.1 hx];exact h
theorem cycL_nn {rows:List (List Int)} (hr:∀ r∈rows,InN rows.length r) {v:Int} (hv:0≤v∧v < rows.length):∀ x∈cycL rows v,0≤x:=by
 unfold cycL;split
 ·intro x hx;rw [List.mem_singleton.1 hx];exact hv.1
 ·exact z1161 _ _ _ _ fun x hx=>(z1057 hr (z746 hv) (by simp) x hx).1
theorem z895 {M u:Int} (hu:u≤M):∀ (l:List Int) (x:List Int×List Int),(∀ y∈x.2,y≤M)→∀ y∈(visPs u x l).2,y≤M
 |[],_,h=>h
 |v::l,x,h=>by
  refine z895 hu l (visP u x v) fun y hy=>?_
  unfold visP at hy
  split at hy
  ·exact h y hy
  ·rcases List.mem_or_eq_of_mem_set hy with h1|rfl
   ·exact h y h1
   ·exact hu
theorem srS_le {rows:List (List Int)} {ini:List Int} (hr:∀ r∈rows,InN rows.length r) (hi:InN rows.length ini) (hn:ini.Nodup) (i:Nat):∀ y∈(srS rows ini i).2,y≤rows.length:=by
 induction i with
 |zero =>
  intro y hy
  have:=List.eq_of_mem_replicate (show y∈List.replicate rows.length (-1) from hy)
  omega
 |succ i ih =>
  rw [srS];split
  ·rename_i h
   have:=(z501 hr hi hn i).inn _ (y39 h)
   exact z895 (by omega) _ _ ih
  ·exact ih
theorem z1179 {P:List Int} {M:Int} (hP:∀ x∈P,x≤M):∀ (f:Nat) (v:Int) (tl:List Int),v≤M→0≤M→(∀ x∈tl,x≤M)→∀ x∈bkw P f v tl,x≤M
 |0,v,tl,h0,_,h,x,hx=>by
  rw [bkw] at hx
  rcases List.mem_cons.1 hx with rfl|h1
  ·exact h0
  ·exact h x h1
 |f+1,v,tl,h0,hM,h,x,hx=>by
  have h2:∀ y∈v::tl,y≤M:=fun y hy=>by
   rcases List.mem_cons.1 hy with rfl|h1
   ·exact h0
   ·exact h y h1
  rw [bkw] at hx
  split at hx
  ·refine z1179 hP f _ _ ?_ hM h2 x hx
   by_cases hl:v.toNat < P.length
   ·rw [z17 hl];exact hP _ (y39 _)
   ·rw [y63,y64 (by omega)];exact hM
  ·exact h2 x hx
theorem z1162 (rows:List (List Int)) {P:List Int} {M:Int} (hP:∀ x∈P,x≤M) (hM:0≤M) (v:Int):∀ l:List Int,(∀ x∈l,x≤M)→∀ x∈cycT rows P v l,x≤M
 |[],_,x,hx=>by cases hx
 |u::t,h,x,hx=>by
  rw [cycT] at hx
  split at hx
  ·exact z1179 hP _ _ _ (h u (by simp)) hM (fun y hy=>by cases hy) x hx
  ·exact z1162 rows hP hM v t (fun y hy=>h y (by simp [hy])) x hx
theorem cycL_le {rows:List (List Int)} (hr:∀ r∈rows,InN rows.length r) {v:Int} (hv:0≤v∧v < rows.length):∀ x∈cycL rows v,x≤rows.length:=by
 unfold cycL;split
 ·intro x hx;rw [List.mem_singleton.1 hx];omega
 ·exact z1162 _ (srS_le hr (z746 hv) (by simp) _) (by omega) _ _ fun x hx=>by
   have:=z1057 hr (z746 hv) (by simp) x hx
   omega
structure TS where
 num:Nat→Int
 low:Nat→Int
 part:Nat→Int
 stk:List Nat
 cnt:Nat
 prt:Nat
def z202 (u:Nat) (s:TS):TS:={ s with num:=upd s.num u (s.cnt+1),low:=upd s.low u (s.cnt+1),stk:=s.stk++[u],cnt:=s.cnt+1 }
def tLow (u:Nat) (m:Int) (s:TS):TS:={ s with low:=upd s.low u (min (s.low u) m) }
def tPop (u:Nat) (s:TS):TS:={ s with part:=fun x=>if x∈s.stk.dropWhile (· != u) then (s.prt:Int) else s.part x,stk:=s.stk.takeWhile (· != u),prt:=s.prt+1 }
def tEnd (u:Nat) (s:TS):TS:=if s.low u=s.num u then tPop u s else s
def z365 (rec:Nat→TS→TS) (u:Nat) (s:TS) (v:Int):TS:=if s.num v.toNat=0 then tLow u ((rec v.toNat s).low v.toNat) (rec v.toNat s) else if s.part v.toNat < 0 then tLow u (s.num v.toNat) s else s
def z231 (rows:List (List Int)):Nat→Nat→TS→TS
 |0,_,s=>s
 |f+1,u,s=>tEnd u ((rows.getD u []).foldl (z365 (z231 rows f) u) (z202 u s))
def z364:TS:=⟨fun _=>0,fun _=>0,fun _=>-1,[],0,0⟩
def tTop (rows:List (List Int)) (s:TS) (u:Nat):TS:=if s.num u=0 then z231 rows rows.length u s else s
def tAll (rows:List (List Int)):TS:=(List.range rows.length).foldl (tTop rows) z364
inductive RN (rows:List (List Int)) (x:Nat):Nat→Prop
 |refl:RN rows x x
 |step {y z:Nat} : RN rows x y→(z:Int)∈rows.getD y []→RN rows x z
theorem RN.trans {rows:List (List Int)} {x y z:Nat} (h:RN rows x y) (k:RN rows y z):RN rows x z:=by
 induction k with
 |refl=>exact h
 |step _ e ih=>exact .step ih e
theorem RN.edge {rows:List (List Int)} {x y:Nat} (h:(y:Int)∈rows.getD x []):RN rows x y:=.step .refl h
theorem RN.inv {rows:List (List Int)} {p:Nat→Prop} (hp:∀ x y:Nat,p x→(y:Int)∈rows.getD x []→p y) {x y:Nat} (h:RN rows x y) (hx:p x):p y:=by
 induction h with
 |refl=>exact hx
 |step _ e ih=>exact hp _ _ ih e
def unvN (N:Nat) (num:Nat→Int):Nat:=((List.range N).filter fun x=>decide (num x=0)).length
structure TI (rows:List (List Int)) (s:TS) (g:List Nat):Prop where
 srt:s.stk.Pairwise fun x y=>s.num x < s.num y
 stk:∀ x,x∈s.stk↔s.num x≠0∧s.part x=-1
 lt:∀ x,s.num x≠0→x < rows.length
 nn:∀ x,0≤s.num x∧s.num x≤s.cnt
 pw:∀ x,s.part x=-1∨(0≤s.part x∧s.part x < s.prt)
 unv:∀ x,s.num x=0→s.part x=-1
 gs:∀ x∈g,x∈s.stk
 blk:∀ x y:Nat,s.num x≠0→x ∉ g→(y:Int)∈rows.getD x []→s.num y≠0
 up:∀ x∈s.stk,∀ y∈s.stk,s.num x≤s.num y→RN rows x y
 gr:∀ y∈s.stk,∃ x∈g,s.num x≤s.num y∧RN rows y x
 cl:∀ x y:Nat,0≤s.part x→(y:Int)∈rows.getD x []→0≤s.part y
 sc:∀ x y:Nat,0≤s.part x→(s.part y=s.part x↔RN rows x y∧RN rows y x)
 ct:s.cnt+unvN rows.length s.num=rows.length
structure TP (rows:List (List Int)) (s s' : TS) (g:List Nat) (u:Nat):Prop where
 inv:TI rows s' g
 keep:∀ x,s.num x≠0→s'.num x=s.num x∧s'.low x=s.low x∧s'.part x=s.part x
 pref:∃ B,s'.stk=s.stk++B
 num:s'.num u=s.cnt+1
 cnt:s.cnt < s'.cnt
 prt:s'.prt+s.cnt≤s.prt+s'.cnt
 low:s'.low u=s'.num u∨∃ y∈s'.stk,s'.low u=s'.num y∧RN rows u y
 edge:∀ x∈s'.stk,x ∉ s.stk→∀ y∈s.stk,(y:Int)∈rows.getD x []→s'.low u≤s.num y
structure TL (rows:List (List Int)) (s0 s:TS) (g:List Nat) (u:Nat) (dn:List Int):Prop where
 inv:TI rows s (u::g)
 keep:∀ x,s0.num x≠0→s.num x=s0.num x∧s.low x=s0.low x∧s.part x=s0.part x
 pref:∃ B,s.stk=s0.stk++u::B
 num:s.num u=s0.cnt+1
 cnt:s0.cnt < s.cnt
 prt:s.prt+s0.cnt+1≤s0.prt+s.cnt
 low:∃ y∈s.stk,s.low u=s.num y∧RN rows u y
 lown:s.low u≤s.num u
 seen:∀ y∈dn,s.num y.toNat≠0
 edge1:∀ y∈dn,y.toNat∈s0.stk→s.low u≤s0.num y.toNat
 edge2:∀ x∈s.stk,x ∉ s0.stk→x≠u→∀ y∈s0.stk,(y:Int)∈rows.getD x []→s.low u≤s0.num y
section
variable {rows:List (List Int)} {s s' s0:TS} {g:List Nat} {u v:Nat}
theorem TI.nd (h:TI rows s g):s.stk.Nodup:=h.srt.imp fun {a b} hab he=>by rw [he] at hab;omega
theorem unv_upd {N:Nat} {num:Nat→Int} {u:Nat} {n:Int} (hu:u < N) (h0:num u=0) (hn:n≠0):unvN N (upd num u n)+1=unvN N num:=by
 unfold unvN
 induction N with
 |zero=>omega
 |succ N ih =>
  rw [y57,List.filter_append,List.filter_append,y42,y42]
  by_cases h:u=N
  ·subst h
   have e:(List.range u).filter (fun x=>decide (upd num u n x=0))=(List.range u).filter (fun x=>decide (num x=0)):=by
    refine List.filter_congr fun x hx=>?_
    have:=List.mem_range.1 hx
    rw [z50 _ _ (by omega)]
   rw [e]
   simp [z25,h0,hn]
  ·have:=ih (by omega)
   have e:([N].filter fun x=>decide (upd num u n x=0))=([N].filter fun x=>decide (num x=0)):=by
    simp only [List.filter_cons,List.filter_nil,z50 num n (show N≠u by omega)]
   rw [e]
   omega
theorem TI.enter (h:TI rows s g) (hu:s.num u=0) (hN:u < rows.length) (hg:∀ x∈g,RN rows x u):TI rows (z202 u s) (u::g):=by
 have hus:u ∉ s.stk:=fun hm=>((h.stk u).1 hm).1 hu
 have hne:∀ x∈s.stk,x≠u:=fun x hx e=>hus (e ▸ hx)
 have hnum:∀ x,x≠u→(z202 u s).num x=s.num x:=fun x hx=>z50 _ _ hx
 have hnu:(z202 u s).num u=s.cnt+1:=z25 _ _ _
 have hst:∀ x,x∈(z202 u s).stk↔x∈s.stk∨x=u:=fun x=>by simp [z202]
 have hnz:∀ x,s.num x≠0→(z202 u s).num x≠0:=fun x hx=>by
  by_cases e:x=u
  ·subst e;exact absurd hu hx
  ·rw [hnum x e];exact hx
 refine ⟨?_,fun x=>?_,fun x hx=>?_,fun x=>?_,h.pw,fun x hx=>?_,fun x hx=>?_,fun x y hx hxg he=>?_,fun x hx y hy hxy=>?_,fun y hy=>?_,h.cl,h.sc,?_⟩
 ·show (s.stk++[u]).Pairwise _
  rw [List.pairwise_append]
  refine ⟨h.srt.imp_of_mem fun ha hb hab=>by rw [hnum _ (hne _ ha),hnum _ (hne _ hb)];exact hab,by simp,fun a ha b hb=>?_⟩
  rw [List.mem_singleton.1 hb,hnum _ (hne a ha),hnu]
  have:=(h.nn a).2
  omega
 ·rw [hst]
  by_cases e:x=u
  ·subst e
   have:=(h.nn x).2
   simp only [or_true,true_iff]
   exact ⟨by rw [hnu];omega,h.unv x hu⟩
  ·rw [hnum x e]
   simp only [e,or_false]
   exact h.stk x
 ·by_cases e:x=u
  ·rw [e];exact hN
  ·rw [hnum x e] at hx;exact h.lt x hx
 ·show 0≤(z202 u s).num x∧(z202 u s).num x≤((s.cnt+1:Nat):Int)
  by_cases e:x=u
  ·rw [e,hnu];omega
  ·rw [hnum x e];have:=h.nn x;omega
 ·by_cases e:x=u
  ·subst e;exact h.unv x hu
  ·rw [hnum x e] at hx;exact h.unv x hx
 ·rw [hst]
  rcases List.mem_cons.1 hx with e|hx
  ·exact .inr e
  ·exact .inl (h.gs x hx)
 ·have e:x≠u:=fun e=>hxg (by simp [e])
  rw [hnum x e] at hx
  exact hnz y (h.blk x y hx (fun hm=>hxg (by simp [hm])) he)
 ·rcases (hst x).1 hx with hx1|rfl
  ·rcases (hst y).1 hy with hy1|rfl
   ·rw [hnum _ (hne x hx1),hnum _ (hne y hy1)] at hxy
    exact h.up x hx1 y hy1 hxy
   ·obtain ⟨z,hz,_,hr⟩:=h.gr x hx1
    exact hr.trans (hg z hz)
  ·rcases (hst y).1 hy with hy|rfl
   ·rw [hnu,hnum _ (hne y hy)] at hxy
    have:=(h.nn y).2
    omega
   ·exact .refl
 ·rcases (hst y).1 hy with hy|rfl
  ·obtain ⟨z,hz,h1,hr⟩:=h.gr y hy
   exact ⟨z,by simp [hz],by rw [hnum _ (hne y hy),hnum _ (hne z (h.gs z hz))];exact h1,hr⟩
  ·exact ⟨y,by simp,Int.le_refl _,.refl⟩
 ·have:=unv_upd (num:=s.num) (n:=s.cnt+1) hN hu (by omega)
  have h2:=h.ct
  show s.cnt+1+unvN rows.length (upd s.num u (s.cnt+1))=_
  omega
theorem TI.low {m:Int} (h:TI rows s g):TI rows (tLow u m s) g:=⟨h.srt,h.stk,h.lt,h.nn,h.pw,h.unv,h.gs,h.blk,h.up,h.gr,h.cl,h.sc,h.ct⟩
theorem TL.start (h:TI rows s g) (hu:s.num u=0) (hN:u < rows.length) (hg:∀ x∈g,RN rows x u):TL rows s (z202 u s) g u []:=by
 have hne:∀ x,s.num x≠0→x≠u:=fun x hx e=>hx (e ▸ hu)
 refine ⟨h.enter hu hN hg,fun x hx=>⟨z50 _ _ (hne x hx),z50 _ _ (hne x hx),rfl⟩,⟨[],rfl⟩,z25 _ _ _,Nat.lt_succ_self _,?_,⟨u,by simp [z202],?_,.refl⟩,?_,by simp,by simp,fun x hx hx2 hxu=>?_⟩
 ·show s.prt+s.cnt+1≤s.prt+(s.cnt+1);omega
 ·show upd s.low u _ u=upd s.num u _ u;rw [z25,z25]
 ·show upd s.low u _ u≤upd s.num u _ u;rw [z25,z25];exact Int.le_refl _
 ·have:x∈s.stk++[u]:=hx
  rcases List.mem_append.1 this with h1|h1
  ·exact absurd h1 hx2
  ·exact absurd (List.mem_singleton.1 h1) hxu
theorem z446 (u:Nat) (m:Int) (s:TS):(tLow u m s).low u=min (s.low u) m:=z25 _ _ _
theorem low_ne {u x:Nat} (m:Int) (s:TS) (h:x≠u):(tLow u m s).low x=s.low x:=z50 _ _ h
theorem TL.edge {dn : List Int} {rec : Nat → TS → TS} (h : TL rows s0 s g u dn) (h0 : TI rows s0 g) (hu0 : s0.num u = 0) {v : Int} (hv : v ∈ rows.getD u []) (hvN : 0 ≤ v ∧ v < rows.length)
    (hrec:s.num v.toNat=0→TP rows s (rec v.toNat s) (u::g) v.toNat):TL rows s0 (z365 rec u s v) g u (dn++[v]):=by
  obtain ⟨w,rfl⟩:∃ w:Nat,v=w:=⟨v.toNat,by omega⟩
  simp only [y72] at hrec
  have hs0:∀ x∈s0.stk,x∈s.stk:=fun x hx=>by obtain ⟨B,e⟩:=h.pref;rw [e];simp [hx]
  have hnu:s.num u≠0:=by rw [h.num];omega
  unfold z365
  simp only [y72]
  by_cases hw:s.num w=0
  · rw [if_pos hw]
    have hp:=hrec hw
    generalize rec w s=s' at *
    obtain ⟨B,hB⟩:=h.pref
    obtain ⟨B',hB'⟩:=hp.pref
    have hls:∀ x∈s.stk,x∈s'.stk:=fun x hx=>by rw [hB'];simp [hx]
    have hku:=hp.keep u hnu
    refine ⟨hp.inv.low,fun x hx=>?_,⟨B++B',?_⟩,?_,?_,?_,?_,?_,fun y hy=>?_,fun y hy hy2=>?_,fun x hx hx2 hxu y hy he=>?_⟩
    · have hxu:x≠u:=fun e=>hx (e ▸ hu0)
      obtain ⟨a1,a2,a3⟩:=h.keep x hx
      obtain ⟨b1,b2,b3⟩:=hp.keep x (by rw [a1];exact hx)
      exact ⟨b1.trans a1,by rw [low_ne _ _ hxu,b2,a2],b3.trans a3⟩
    · show s'.stk=_;rw [hB',hB];simp
    · show s'.num u=_;rw [hku.1,h.num]
    · have:=h.cnt;have:=hp.cnt;show s0.cnt < s'.cnt;omega
    · have:=h.prt;have:=hp.prt;show s'.prt+s0.cnt+1≤s0.prt+s'.cnt;omega
    · rw [z446]
      obtain ⟨y,hy,h1,h2⟩:=h.low
      have hyz:s.num y≠0:=((h.inv.stk y).1 hy).1
      have hyk:=hp.keep y hyz
      rcases Int.le_total (s'.low u) (s'.low w) with hle|hle
      · exact ⟨y,hls y hy,by rw [Int.min_eq_left hle,hku.2.1,h1];exact hyk.1.symm,h2⟩
      · rcases hp.low with h3|⟨z,hz,h3,h4⟩
        · have h5:=hp.num
          have h6:=(h.inv.nn y).2
          refine ⟨y,hls y hy,?_,h2⟩
          show _=s'.num y
          rw [hyk.1,← h1,← hku.2.1]
          have:s'.low u=s.num y:=by rw [hku.2.1,h1]
          omega
        · exact ⟨z,hz,by rw [Int.min_eq_right hle];exact h3,(RN.edge hv).trans h4⟩
    · rw [z446]
      have:=h.lown
      have e:(tLow u (s'.low w) s').num u=s.num u:=hku.1
      rw [e,hku.2.1];omega
    · rcases List.mem_append.1 hy with hy|hy
      · have h1:=h.seen y hy
        show s'.num _≠0
        rw [(hp.keep _ h1).1];exact h1
      · rw [List.mem_singleton.1 hy]
        show s'.num w≠0
        rw [hp.num];omega
    · rw [z446]
      rcases List.mem_append.1 hy with hy|hy
      · have:=h.edge1 y hy hy2
        rw [hku.2.1];omega
      · rw [List.mem_singleton.1 hy] at hy2
        have:=((h.inv.stk w).1 (hs0 w hy2)).1
        exact absurd hw this
    · rw [z446]
      by_cases hxs:x∈s.stk
      · have:=h.edge2 x hxs hx2 hxu y hy he
        rw [hku.2.1];omega
      · have h1:=hp.edge x hx hxs y (hs0 y hy) he
        have h2:=(h.keep y ((h0.stk y).1 hy).1).1
        omega
  · rw [if_neg hw]
    have base:∀ m:Int,(∃ y∈s.stk,m=s.num y∧RN rows u y)→(w∈s0.stk→m≤s0.num w)→TL rows s0 (tLow u m s) g u (dn++[(w:Int)]):=by
      intro m hm hmw
      refine ⟨h.inv.low,fun x hx=>?_,h.pref,h.num,h.cnt,h.prt,?_,?_,fun y hy=>?_,fun y hy hy2=>?_,fun x hx hx2 hxu y hy he=>?_⟩
      · have hxu:x≠u:=fun e=>hx (e ▸ hu0)
        obtain ⟨a1,a2,a3⟩:=h.keep x hx
        exact ⟨a1,by rw [low_ne _ _ hxu,a2],a3⟩
      · rw [z446]
        rcases Int.le_total (s.low u) m with hle|hle
        · rw [Int.min_eq_left hle];exact h.low
        · rw [Int.min_eq_right hle];exact hm
      · rw [z446];have:=h.lown;show _≤s.num u;omega
      · rcases List.mem_append.1 hy with hy|hy
        · exact h.seen y hy
        · rw [List.mem_singleton.1 hy];exact hw
      · rw [z446]
        rcases List.mem_append.1 hy with hy|hy
        · have:=h.edge1 y hy hy2;omega
        · rw [List.mem_singleton.1 hy] at hy2 ⊢
          have:=hmw hy2
          simp only [y72];omega
      · rw [z446];have:=h.edge2 x hx hx2 hxu y hy he;omega
    by_cases hpt:s.part w < 0
    · rw [if_pos hpt]
      have hws:w∈s.stk:=(h.inv.stk w).2 ⟨hw,by have:=h.inv.pw w;omega⟩
      refine base _ ⟨w,hws,rfl,.edge hv⟩ fun hm=>?_
      rw [(h.keep w ((h0.stk w).1 hm).1).1]
      exact Int.le_refl _
    · rw [if_neg hpt]
      refine ⟨h.inv,h.keep,h.pref,h.num,h.cnt,h.prt,h.low,h.lown,fun y hy=>?_,fun y hy hy2=>?_,h.edge2⟩
      · rcases List.mem_append.1 hy with hy|hy
        · exact h.seen y hy
        · rw [List.mem_singleton.1 hy];exact hw
      · rcases List.mem_append.1 hy with hy|hy
        · exact h.edge1 y hy hy2
        · rw [List.mem_singleton.1 hy] at hy2
          have h1:=((h0.stk w).1 hy2)
          have h2:=(h.keep w h1.1).2.2
          have h3:=h1.2
          omega
theorem z902 {A B:List Nat} {u:Nat} (h:u ∉ A):(A++u::B).takeWhile (· != u)=A∧(A++u::B).dropWhile (· != u)=u::B:=by
 induction A with
 |nil=>simp
 |cons a A ih =>
  have hau:a≠u:=fun e=>h (by simp [e])
  obtain ⟨h1,h2⟩:=ih fun hm=>h (by simp [hm])
  have hb:(a != u)=true:=by simpa using hau
  simp only [List.cons_append,List.takeWhile_cons,List.dropWhile_cons,hb,if_true,h1,h2,and_self]
theorem TL.fin (h:TL rows s0 s g u (rows.getD u [])) (h0:TI rows s0 g) (hu0:s0.num u=0):TP rows s0 (tEnd u s) g u:=by
 obtain ⟨B,hB⟩:=h.pref
 have hs0:∀ x∈s0.stk,x∈s.stk:=fun x hx=>by rw [hB];simp [hx]
 have hu_s0:u ∉ s0.stk:=fun hm=>((h0.stk u).1 hm).1 hu0
 have hus:u∈s.stk:=by rw [hB];simp
 have hk:∀ x∈s0.stk,s.num x=s0.num x:=fun x hx=>(h.keep x ((h0.stk x).1 hx).1).1
 have hsrt:=h.inv.srt
 rw [hB,List.pairwise_append,List.pairwise_cons] at hsrt
 have hblk:∀ x y:Nat,s.num x≠0→x ∉ g→(y:Int)∈rows.getD x []→s.num y≠0:=fun x y hx hxg he=>by
  by_cases e:x=u
  ·subst e;have:=h.seen _ he;simpa using this
  ·exact h.inv.blk x y hx (by simp [e,hxg]) he
 have hnd:=h.inv.nd
 rw [hB,y71] at hnd
 have hedge:∀ x∈s.stk,x ∉ s0.stk→∀ y∈s0.stk,(y:Int)∈rows.getD x []→s.low u≤s0.num y:=fun x hx hx2 y hy he=>by
  by_cases e:x=u
  ·subst e;have:=h.edge1 _ he (by simpa using hy);simpa using this
  ·exact h.edge2 x hx hx2 e y hy he
 unfold tEnd
 by_cases hl:s.low u=s.num u
 ·rw [if_pos hl]
  have hcut:=z902 (A:=s0.stk) (B:=B) hu_s0
  have hstk:(tPop u s).stk=s0.stk:=by show s.stk.takeWhile _=_;rw [hB];exact hcut.1
  have hpart:∀ x,(tPop u s).part x=if x∈u::B then (s.prt:Int) else s.part x:=fun x=>by
   show (if x∈s.stk.dropWhile _ then _ else _)=_
   rw [hB,hcut.2]
  have hnum:∀ x,(tPop u s).num x=s.num x:=fun _=>rfl
  have hBs:∀ x∈u::B,x∈s.stk∧x ∉ s0.stk:=fun x hx=>⟨by rw [hB];exact List.mem_append_right _ hx,fun hm=>hnd.2.2 x hm x hx rfl⟩
  have hBp:∀ x∈u::B,s.part x=-1:=fun x hx=>((h.inv.stk x).1 (hBs x hx).1).2
  have hgB:∀ x∈u::B,x ∉ g:=fun x hx hm=>(hBs x hx).2 (h0.gs x hm)
  have h0B:∀ x∈s0.stk,x ∉ u::B:=fun x hx hm=>(hBs x hm).2 hx
  have hcl:∀ x y:Nat,0≤(tPop u s).part x→(y:Int)∈rows.getD x []→0≤(tPop u s).part y:=by
   intro x y hx he
   rw [hpart] at hx ⊢
   by_cases hyB:y∈u::B
   ·rw [if_pos hyB];omega
   ·rw [if_neg hyB]
    by_cases hxB:x∈u::B
    ·have hxs:=(hBs x hxB).1
     have hy:=hblk x y ((h.inv.stk x).1 hxs).1 (hgB x hxB) he
     rcases h.inv.pw y with h1|h1
     ·have hys:y∈s.stk:=(h.inv.stk y).2 ⟨hy,h1⟩
      rw [hB] at hys
      rcases List.mem_append.1 hys with h2|h2
      ·have h3:=hedge x hxs (hBs x hxB).2 y h2 he
       have h4:=hsrt.2.2 y h2 u (by simp)
       rw [hk y h2] at h4
       omega
      ·exact absurd h2 hyB
     ·exact h1.1
    ·rw [if_neg hxB] at hx
     exact h.inv.cl x y hx he
  have hreach:∀ x y:Nat,0≤(tPop u s).part x→RN rows x y→0≤(tPop u s).part y:=fun x y hx hr=>hr.inv hcl hx
  have hreach0:∀ x y:Nat,0≤s.part x→RN rows x y→0≤s.part y:=fun x y hx hr=>hr.inv h.inv.cl hx
  have hdown:∀ z∈u::B,RN rows u z:=fun z hz=>by
   refine h.inv.up u hus z (hBs z hz).1 ?_
   rcases List.mem_cons.1 hz with rfl|hz
   ·exact Int.le_refl _
   ·have:=hsrt.2.1.1 z hz;omega
  have hback:∀ z∈u::B,RN rows z u:=fun z hz=>by
   obtain ⟨x,hx,_,hr⟩:=h.inv.gr z (hBs z hz).1
   rcases List.mem_cons.1 hx with rfl|hx
   ·exact hr
   ·have h1:=hreach z x (by rw [hpart,if_pos hz];omega) hr
    have hx0:=h0.gs x hx
    rw [hpart,if_neg (h0B x hx0)] at h1
    have:=((h.inv.stk x).1 (hs0 x hx0)).2
    omega
  refine ⟨⟨?_,fun x=>?_,h.inv.lt,h.inv.nn,fun x=>?_,fun x hx=>?_,fun x hx=>?_,hblk,fun x hx y hy hxy=>?_,fun y hy=>?_,hcl,fun x y hx=>?_,h.inv.ct⟩,fun x hx=>?_,⟨[],by rw [hstk];simp⟩,h.num,h.cnt,?_,.inl hl,fun x hx hx2=>absurd (hstk ▸ hx) hx2⟩
  ·rw [hstk];exact hsrt.1
  ·rw [hstk,hpart]
   constructor
   ·intro hx
    rw [if_neg (h0B x hx)]
    exact (h.inv.stk x).1 (hs0 x hx)
   ·rintro ⟨h1,h2⟩
    split at h2
    ·omega
    ·rename_i hxB
     have:=(h.inv.stk x).2 ⟨h1,h2⟩
     rw [hB] at this
     rcases List.mem_append.1 this with h3|h3
     ·exact h3
     ·exact absurd h3 hxB
  ·rw [hpart]
   show _∨_∧_ < ((s.prt+1:Nat):Int)
   split
   ·right;omega
   ·have:=h.inv.pw x;omega
  ·rw [hpart,if_neg]
   ·exact h.inv.unv x hx
   ·intro hm;exact ((h.inv.stk x).1 (hBs x hm).1).1 hx
  ·rw [hstk];exact h0.gs x hx
  ·rw [hstk] at hx hy;exact h.inv.up x (hs0 x hx) y (hs0 y hy) hxy
  ·rw [hstk] at hy
   obtain ⟨x,hx,h1,h2⟩:=h0.gr y hy
   exact ⟨x,hx,by rw [hnum,hnum,hk y hy,hk x (h0.gs x hx)];exact h1,h2⟩
  ·rw [hpart x,hpart y]
   rw [hpart] at hx
   by_cases hxB:x∈u::B
   ·rw [if_pos hxB]
    by_cases hyB:y∈u::B
    ·rw [if_pos hyB]
     exact ⟨fun _=>⟨(hback x hxB).trans (hdown y hyB),(hback y hyB).trans (hdown x hxB)⟩,fun _=>rfl⟩
    ·rw [if_neg hyB]
     constructor
     ·intro e;have:=h.inv.pw y;omega
     ·rintro ⟨r1,r2⟩
      have h1:=hreach x y (by rw [hpart,if_pos hxB];omega) r1
      rw [hpart,if_neg hyB] at h1
      have h2:=hreach0 y x h1 r2
      have:=hBp x hxB
      omega
   ·rw [if_neg hxB] at hx ⊢
    by_cases hyB:y∈u::B
    ·rw [if_pos hyB]
     constructor
     ·intro e;have:=h.inv.pw x;omega
     ·rintro ⟨r1,_⟩
      have h2:=hreach0 x y hx r1
      have:=hBp y hyB
      omega
    ·rw [if_neg hyB];exact h.inv.sc x y hx
  ·obtain ⟨a1,a2,a3⟩:=h.keep x hx
   refine ⟨a1,a2,?_⟩
   rw [hpart,if_neg]
   ·exact a3
   ·intro hm
    have h1:=hBp x hm
    exact (hBs x hm).2 ((h0.stk x).2 ⟨hx,by rw [← a3];exact h1⟩)
  ·have:=h.prt;show s.prt+1+s0.cnt≤s0.prt+s.cnt;omega
 ·rw [if_neg hl]
  have hlt:s.low u < s.num u:=by have:=h.lown;omega
  refine ⟨⟨h.inv.srt,h.inv.stk,h.inv.lt,h.inv.nn,h.inv.pw,h.inv.unv,fun x hx=>h.inv.gs x (by simp [hx]),hblk,h.inv.up,fun y hy=>?_,h.inv.cl,h.inv.sc,h.inv.ct⟩,h.keep,⟨u::B,hB⟩,h.num,h.cnt,by have:=h.prt;omega,.inr h.low,hedge⟩
  obtain ⟨x,hx,h1,h2⟩:=h.inv.gr y hy
  rcases List.mem_cons.1 hx with rfl|hx
  ·obtain ⟨z,hz,h3,h4⟩:=h.low
   have hz0:z∈s0.stk:=by
    rw [hB] at hz
    rcases List.mem_append.1 hz with h5|h5
    ·exact h5
    ·rcases List.mem_cons.1 h5 with rfl|h5
     ·omega
     ·have:=hsrt.2.1.1 z h5;omega
   obtain ⟨t,ht,h5,h6⟩:=h0.gr z hz0
   refine ⟨t,ht,?_,(h2.trans h4).trans h6⟩
   rw [hk t (h0.gs t ht)]
   have:=hk z hz0
   omega
  ·exact ⟨x,hx,h1,h2⟩
end
theorem z1051 {N:Nat} {num:Nat→Int} {u:Nat} (hu:u < N) (h0:num u=0):0 < unvN N num:=by
 unfold unvN
 exact List.length_pos_iff.2 (List.ne_nil_of_mem (List.mem_filter.2 ⟨List.mem_range.2 hu,by simpa using h0⟩))
theorem z629 {rows:List (List Int)} (hr:∀ r∈rows,InN rows.length r):∀ (f:Nat) (s:TS) (g:List Nat) (u:Nat),unvN rows.length s.num≤f→TI rows s g→s.num u=0→u < rows.length→(∀ x∈g,RN rows x u)→TP rows s (z231 rows f u s) g u
 |0,s,g,u,hf,_,h0,hN,_=>by have:=z1051 (num:=s.num) hN h0;omega
 |f+1,s,g,u,hf,h,h0,hN,hg=>by
  have fold:∀ (l dn:List Int) (t:TS),(∀ v∈l,v∈rows.getD u [])→TL rows s t g u dn→TL rows s (l.foldl (z365 (z231 rows f) u) t) g u (dn++l):=by
   intro l
   induction l with
   |nil=>intro dn t _ ht;simpa using ht
   |cons v l ih =>
    intro dn t hl ht
    have hv:=hl v (by simp)
    have hvN:=z236 hr u v hv
    have:=ht.edge h h0 hv hvN (rec:=z231 rows f) fun hv0=>by
     refine z629 hr f t (u::g) v.toNat ?_ ht.inv hv0 (by omega) fun x hx=>?_
     ·have h1:=ht.cnt;have h2:=ht.inv.ct;have h3:=h.ct;omega
     ·have he:RN rows u v.toNat:=.edge (by rw [Int.toNat_of_nonneg hvN.1];exact hv)
      rcases List.mem_cons.1 hx with rfl|hx
      ·exact he
      ·exact (hg x hx).trans he
    have h2:=ih (dn++[v]) _ (fun y hy=>hl y (by simp [hy])) this
    rw [List.append_assoc] at h2
    exact h2
  have h1:=fold (rows.getD u []) [] _ (fun _ h=>h) (TL.start h h0 hN hg)
  rw [List.nil_append] at h1
  exact h1.fin h h0
theorem z1201 {rows : List (List Int)} (hr : ∀ r ∈ rows, InN rows.length r) {f : Nat} {s : TS} {g : List Nat} {u : Nat} (hf : unvN rows.length s.num ≤ f + 1) (h : TI rows s g) (h0 : s.num u = 0) (hN : u < rows.length) (hg : ∀ x ∈ g, RN rows x u) :
    ∀ k,k≤(rows.getD u []).length→TL rows s (((rows.getD u []).take k).foldl (z365 (z231 rows f) u) (z202 u s)) g u ((rows.getD u []).take k)
  | 0,_=>TL.start h h0 hN hg
  | k+1,hk=>by
    have ht:=z1201 hr hf h h0 hN hg k (by omega)
    have hv:(rows.getD u [])[k]∈rows.getD u []:=y39 _
    have hvN:=z236 hr u _ hv
    rw [y45 hk,y58]
    refine ht.edge h h0 hv hvN fun hv0=>?_
    refine z629 hr f _ (u::g) _ ?_ ht.inv hv0 (by omega) fun x hx=>?_
    · have h1:=ht.cnt;have h2:=ht.inv.ct;have h3:=h.ct;omega
    · have he:RN rows u ((rows.getD u [])[k]).toNat:=.edge (by rw [Int.toNat_of_nonneg hvN.1];exact hv)
      rcases List.mem_cons.1 hx with rfl|hx
      · exact he
      · exact (hg x hx).trans he
theorem TI.init (rows:List (List Int)):TI rows z364 []:=by
 refine ⟨.nil,fun x=>by simp [z364],fun x hx=>absurd rfl hx,fun x=>by simp [z364],fun x=>.inl rfl,fun _ _=>rfl,by simp,fun x y hx=>absurd rfl hx,by simp [z364],by simp [z364],fun x y hx=>?_,fun x y hx=>?_,?_⟩
 ·have:(0:Int)≤-1:=hx;omega
 ·have:(0:Int)≤-1:=hx;omega
 ·show 0+unvN rows.length (fun _=>0)=_
  unfold unvN
  rw [List.filter_eq_self.2 (by simp)]
  simp
structure TT (rows:List (List Int)) (s:TS) (k:Nat):Prop where
 inv:TI rows s []
 vis:∀ x,x < k→s.num x≠0
 prt:s.prt≤s.cnt
theorem TT.step {rows:List (List Int)} (hr:∀ r∈rows,InN rows.length r) {s:TS} {k:Nat} (hk:k < rows.length) (h:TT rows s k):TT rows (tTop rows s k) (k+1):=by
 unfold tTop
 by_cases h0:s.num k=0
 ·rw [if_pos h0]
  have hp:=z629 hr rows.length s [] k (by have:=h.inv.ct;omega) h.inv h0 hk (by simp)
  refine ⟨hp.inv,fun x hx=>?_,?_⟩
  ·by_cases e:x=k
   ·subst e;rw [hp.num];omega
   ·have h1:=h.vis x (by omega)
    rw [(hp.keep x h1).1];exact h1
  ·have:=hp.prt;have:=h.prt;omega
 ·rw [if_neg h0]
  refine ⟨h.inv,fun x hx=>?_,h.prt⟩
  by_cases e:x=k
  ·subst e;exact h0
  ·exact h.vis x (by omega)
theorem z638 {rows:List (List Int)} (hr:∀ r∈rows,InN rows.length r):∀ k,k≤rows.length→TT rows ((List.range k).foldl (tTop rows) z364) k
 |0,_=>⟨TI.init rows,fun x hx=>by omega,y47 _⟩
 |k+1,hk=>by
  rw [y57,y58]
  exact (z638 hr k (by omega)).step hr (by omega)
theorem tAll_ok {rows:List (List Int)} (hr:∀ r∈rows,InN rows.length r):(∀ x,x < rows.length→0≤(tAll rows).part x∧(tAll rows).part x < rows.length)∧∀ x y,x < rows.length→((tAll rows).part y=(tAll rows).part x↔RN rows x y∧RN rows y x):=by
 have h:=z638 hr rows.length (y47 _)
 have hp:∀ x,x < rows.length→0≤(tAll rows).part x:=fun x hx=>by
  have h1:=h.vis x hx
  rcases h.inv.pw x with h2|h2
  ·obtain ⟨z,hz,_⟩:=h.inv.gr x ((h.inv.stk x).2 ⟨h1,h2⟩)
   cases hz
  ·exact h2.1
 refine ⟨fun x hx=>⟨hp x hx,?_⟩,fun x y hx=>h.inv.sc x y (hp x hx)⟩
 have h2:=h.inv.pw x
 have h3:=h.prt
 have h4:=h.inv.ct
 have h5:=hp x hx
 have h6:(tAll rows).part x < (tAll rows).prt:=by
  rcases h2 with h2|h2
  ·have:(tAll rows).part x=-1:=h2
   omega
  ·exact h2.2
 have h7:(tAll rows).prt≤(tAll rows).cnt:=h3
 have h8:(tAll rows).cnt+unvN rows.length (tAll rows).num=rows.length:=h4
 omega
theorem RN.rp {rows:List (List Int)} {x y:Nat} (h:RN rows x y):RP rows [(x:Int)] y:=by
 induction h with
 |refl=>exact .base (by simp)
 |step _ e ih=>exact .step ih (by simpa using e)
theorem RP.rn {rows:List (List Int)} (hr:∀ r∈rows,InN rows.length r) {x:Nat} {y:Int} (h:RP rows [(x:Int)] y):0≤y∧RN rows x y.toNat:=by
 induction h with
 |base hb=>rw [List.mem_singleton.1 hb];exact ⟨by omega,.refl⟩
 |step _ e ih =>
  have:=z236 hr _ _ e
  exact ⟨this.1,.step ih.2 (by rw [Int.toNat_of_nonneg this.1];exact e)⟩
theorem cyc_iff {rows:List (List Int)} (hr:∀ r∈rows,InN rows.length r) {x:Nat} (hx:x < rows.length):Cyc rows x↔(x:Int)∈rows.getD x []∨∃ y,y < rows.length∧y≠x∧RN rows x y∧RN rows y x:=by
 constructor
 ·rintro ⟨y,hy,h⟩
  have hyN:=z236 hr _ _ hy
  obtain ⟨w,rfl⟩:∃ w:Nat,y=w:=⟨y.toNat,by omega⟩
  have h2:=(RP.rn hr h).2
  simp only [y72] at h2 hy
  by_cases e:w=x
  ·subst e;exact .inl hy
  ·exact .inr ⟨w,by omega,e,.edge hy,h2⟩
 ·rintro (h|⟨y,hy,hne,h1,h2⟩)
  ·exact ⟨x,by simpa using h,.base (by simp)⟩
  ·have key:∀ z,RN rows x z→z=x∨∃ w:Nat,(w:Int)∈rows.getD x []∧RN rows w z:=by
    intro z hz
    induction hz with
    |refl=>exact .inl rfl
    |step _ e ih =>
     rcases ih with rfl|⟨w,hw,ih⟩
     ·exact .inr ⟨_,e,.refl⟩
     ·exact .inr ⟨w,hw,.step ih e⟩
   rcases key y h1 with h3|⟨w,hw,h3⟩
   ·exact absurd h3 hne
   ·exact ⟨w,by simpa using hw,(h3.trans h2).rp⟩
end Go.Gl
namespace Go.Gl
def z246:Nat→List Int→List (List Int×Int)
 |_,[]=>[]
 |k,p::L=>([p],(k:Int))::z246 (k+1) L
theorem z549:∀ (k:Nat) (L:List Int),(z246 k L).length=L.length
 |_,[]=>rfl
 |k,p::L=>by rw [z246,y53,z549,y53]
theorem z527 (p:Int):∀ (k:Nat) (L:List Int),mget (z246 k L) [p]=if p∈L then some ((k+L.idxOf p:Nat):Int) else none
 |_,[]=>rfl
 |k,q::L=>by
  rw [z246,mget,z527 p (k+1) L]
  by_cases h:p=q
  ·subst h;simp
  ·have h2:¬ [p]=[q]:=by simpa using h
   have h3:¬ q=p:=fun e=>h e.symm
   rw [if_neg h2]
   simp only [List.mem_cons,h,false_or,List.idxOf_cons]
   have h4:(q == p)=false:=by simpa using h3
   rw [h4]
   by_cases hm:p∈L
   ·rw [if_pos hm,if_pos hm]
    simp only [cond_false]
    congr 2;omega
   ·rw [if_neg hm,if_neg hm]
theorem z750 {p:Int} (n:Int):∀ (k:Nat) (L:List Int),p ∉ L→mput (z246 k L) [p] n=z246 k L++[([p],n)]
 |_,[],_=>rfl
 |k,q::L,h=>by
  have h1:p≠q:=fun e=>h (by simp [e])
  rw [z246,mput,if_neg (by simpa using h1),z750 n (k+1) L (fun hm=>h (by simp [hm]))];rfl
theorem z775 (p:Int):∀ (k:Nat) (L:List Int),z246 k (L++[p])=z246 k L++[([p],((k+L.length:Nat):Int))]
 |k,[]=>rfl
 |k,q::L=>by
  rw [List.cons_append,z246,z775 p (k+1) L,z246,List.cons_append,y53]
  congr 4;omega
def metL (P:List Int) (i:Nat):List Int:=z87 [] (P.take i)
def nmI (P:List Int) (i:Nat):Int:=(((metL P P.length).idxOf (P.getD i 0):Nat):Int)
theorem z381 {P:List Int} {i:Nat} (h:i < P.length):metL P (i+1)=z165 (metL P i) P[i]:=by
 unfold metL z87
 rw [y45 h,y58];rfl
theorem z919 {P:List Int} {i j:Nat} (h:i≤j) (hj:j≤P.length):∃ t,metL P j=metL P i++t:=by
  induction j with
  | zero => obtain rfl : i = 0 := by omega
            exact ⟨[],by simp⟩
  | succ j ih =>
    rcases y65 j i with h1|h1
    · obtain rfl:i=j+1:=by omega
      exact ⟨[],by simp⟩
    · obtain ⟨t,ht⟩:=ih h1 (by omega)
      rw [z381 (by omega)]
      obtain ⟨t2,ht2⟩:=z493 (metL P j) P[j]
      exact ⟨t++t2,by rw [ht2,ht];simp⟩
theorem z662 {P:List Int} {i:Nat} (h:i < P.length):P[i]∈metL P (i+1):=by
 rw [z381 h];unfold z165;split
 ·assumption
 ·simp
theorem z663 {P:List Int} {i:Nat} (h:i < P.length):P[i]∈metL P P.length:=by
 obtain ⟨t,ht⟩:=z919 (P:=P) (i:=i+1) (j:=P.length) h (y47 _)
 rw [ht];exact List.mem_append_left _ (z662 h)
theorem nmI_at {P:List Int} {i:Nat} (h:i < P.length):nmI P i=(((metL P (i+1)).idxOf P[i]:Nat):Int):=by
 unfold nmI
 obtain ⟨t,ht⟩:=z919 (P:=P) (i:=i+1) (j:=P.length) h (y47 _)
 rw [ht,z17 h,List.idxOf_append,if_pos (z662 h)]
theorem z920 (P:List Int):∀ i,i≤P.length→(metL P i).length≤i
 |0,_=>by simp [metL,z87]
 |i+1,h=>by
  have ih:=z920 P i (by omega)
  rw [z381 (by omega)]
  unfold z165;split
  ·omega
  ·rw [y42,List.length_singleton];omega
theorem nmI_lt {P:List Int} {i:Nat} (h:i < P.length):0≤nmI P i∧nmI P i < P.length:=by
 have h1:=List.idxOf_lt_length_of_mem (z663 h)
 have h2:=z920 P P.length (y47 _)
 unfold nmI
 rw [z17 h];omega
theorem nmI_eq {P:List Int} {i j:Nat} (hi:i < P.length) (hj:j < P.length):nmI P i=nmI P j↔P[i]=P[j]:=by
 unfold nmI
 rw [z17 hi,z17 hj]
 constructor
 ·intro h
  have h1:=List.idxOf_lt_length_of_mem (z663 hi)
  have e1:=List.getElem_idxOf h1
  have h2:=List.idxOf_lt_length_of_mem (z663 hj)
  have e2:=List.getElem_idxOf h2
  rw [← e1,← e2]
  congr 1;omega
 ·intro h;rw [h]
def cmpL (rows:List (List Int)):List Int:=(List.range rows.length).map fun i=>nmI ((List.range rows.length).map (tAll rows).part) i
theorem z402 (rows:List (List Int)):(cmpL rows).length=rows.length:=by simp [cmpL]
theorem z876 {rows:List (List Int)} {i:Nat} (h:i < rows.length):(cmpL rows).getD i 0=nmI ((List.range rows.length).map (tAll rows).part) i:=by
 rw [z17 (by rw [z402];exact h)];simp [cmpL]
theorem z1166 {rows:List (List Int)} : InN rows.length (cmpL rows):=by
 intro x hx
 obtain ⟨i,hi,rfl⟩:=List.mem_map.1 hx
 have:=nmI_lt (P:=(List.range rows.length).map (tAll rows).part) (i:=i) (by simpa using hi)
 simpa using this
theorem z875 {rows:List (List Int)} (hr:∀ r∈rows,InN rows.length r) {x y:Nat} (hx:x < rows.length) (hy:y < rows.length):(cmpL rows).getD y 0=(cmpL rows).getD x 0↔RN rows x y∧RN rows y x:=by
 rw [z876 hx,z876 hy,nmI_eq (by simpa using hy) (by simpa using hx),← (tAll_ok hr).2 x y hx]
 simp
def cntL (P:List Int) (i:Nat) (v:Nat):Nat:=(P.take i).countP fun p=>decide (p=(v:Int))
theorem z784 {P:List Int} {i:Nat} (h:i < P.length) (v:Nat):cntL P (i+1) v=cntL P i v+if P[i]=(v:Int) then 1 else 0:=by
 unfold cntL
 rw [y45 h,List.countP_append]
 by_cases e:P[i]=(v:Int)<;>simp [e]
theorem cntL_le (P:List Int) (i v:Nat):cntL P i v≤i:=by
 unfold cntL
 have:=List.countP_le_length (p:=fun p:Int=>decide (p=(v:Int))) (l:=P.take i)
 rw [y43] at this;omega
theorem cntL_pos {P:List Int} {i j v:Nat} (hj:j < i) (hp:j < P.length) (e:P[j]=(v:Int)):0 < cntL P i v:=by
 unfold cntL
 rw [List.countP_pos_iff]
 exact ⟨P[j],List.mem_take_iff_getElem.2 ⟨j,by omega,rfl⟩,by simp [e]⟩
theorem z687 {P:List Int} {v:Nat} : ∀ i,i≤P.length→(1 < cntL P i v↔∃ a b,a < b∧∃ h:b < i,∃ h2:b < P.length,∃ h3:a < P.length,P[a]=(v:Int)∧P[b]=(v:Int))
 |0,_=>by simp [cntL]
 |i+1,hi=>by
  rw [z784 (by omega)]
  constructor
  ·intro h
   by_cases e:P[i]=(v:Int)
   ·rw [if_pos e] at h
    have h0:0 < cntL P i v:=by omega
    unfold cntL at h0
    rw [List.countP_pos_iff] at h0
    obtain ⟨x,hx,hx2⟩:=h0
    obtain ⟨a,ha,rfl⟩:=List.mem_take_iff_getElem.1 hx
    exact ⟨a,i,by omega,by omega,by omega,by omega,by simpa using hx2,e⟩
   ·rw [if_neg e] at h
    obtain ⟨a,b,h1,h2,h3,h4,h5⟩:=(z687 (P:=P) (v:=v) i (by omega)).1 (by omega)
    exact ⟨a,b,h1,by omega,h3,h4,h5⟩
  ·rintro ⟨a,b,h1,h2,h3,h4,h5,h6⟩
   by_cases hb:b=i
   ·subst hb
    rw [if_pos h6]
    have:=cntL_pos h1 h4 h5
    omega
   ·have:=(z687 (P:=P) (v:=v) i (by omega)).2 ⟨a,b,h1,by omega,h3,h4,h5,h6⟩
    omega
noncomputable def cycD (rows:List (List Int)) (x:Nat):Bool:=by classical exact decide (Cyc rows x)
theorem z398 {rows:List (List Int)} {x:Nat} : cycD rows x=true↔Cyc rows x:=by unfold cycD;simp
noncomputable def cycB (rows:List (List Int)):List Bool:=(List.range rows.length).map (cycD rows)
theorem cycB_len (rows:List (List Int)):(cycB rows).length=rows.length:=by simp [cycB]
theorem cyc_cnt {rows:List (List Int)} (hr:∀ r∈rows,InN rows.length r) {x:Nat} (hx:x < rows.length):cycD rows x=(decide (1 < cntL (cmpL rows) rows.length ((cmpL rows).getD x 0).toNat) || decide ((x:Int)∈rows.getD x [])):=by
 have hc:=z1166 (rows:=rows) _ (z391 (Q:=cmpL rows) (k:=x) (by rw [z402];exact hx))
 have hv:(((cmpL rows).getD x 0).toNat:Int)=(cmpL rows).getD x 0:=Int.toNat_of_nonneg hc.1
 rw [Bool.eq_iff_iff,z398,cyc_iff hr hx,Bool.or_eq_true,decide_eq_true_iff,decide_eq_true_iff,z687 _ (by rw [z402];exact y47 _),hv]
 have hat:∀ a (h:a < (cmpL rows).length),(cmpL rows)[a]=(cmpL rows).getD a 0:=fun a h=>(z17 h).symm
 have hlen:=z402 rows
 constructor
 ·rintro (h|⟨y,hy,hne,h1,h2⟩)
  ·exact .inr h
  ·left
   have he:=(z875 hr hx hy).2 ⟨h1,h2⟩
   rcases Nat.lt_or_gt_of_ne hne with h3|h3
   ·exact ⟨y,x,h3,hx,by omega,by omega,by rw [hat];exact he,by rw [hat]⟩
   ·exact ⟨x,y,h3,hy,by omega,by omega,by rw [hat],by rw [hat];exact he⟩
 ·rintro (⟨a,b,hab,h2,h3,h4,h5,h6⟩|h)
  ·right
   rw [hat] at h5 h6
   have ha:=(z875 hr hx (show a < rows.length by omega)).1 h5
   have hb:=(z875 hr hx (show b < rows.length by omega)).1 h6
   by_cases e:a=x
   ·exact ⟨b,by omega,by omega,hb⟩
   ·exact ⟨a,by omega,e,ha⟩
  ·exact .inl h
def frm (N:Nat) (Q P:List Int):List Int:=(List.range N).map fun v:Nat=>if (v:Int)∈Q then P.getD v 0 else -2
theorem z426 (N:Nat) (Q P:List Int):(frm N Q P).length=N:=by simp [frm]
theorem z1143 (N:Nat) (P:List Int):frm N [] P=List.replicate N (-2):=by
 apply y70 (by simp [frm])
 intro i h1 h2
 simp [frm]
theorem frm_set {N:Nat} {Q P:List Int} {v u:Int} (hv:0≤v∧v < N) (hP:P.length=N):(frm N Q P).set v.toNat u=frm N (Q++[v]) (P.set v.toNat u):=by
 apply y70 (by simp [frm])
 intro i h1 h2
 have hi:i < N:=by simpa [frm] using h2
 rw [List.getElem_set]
 by_cases e:v.toNat=i
 ·have e2:(i:Int)=v:=by omega
  rw [if_pos e]
  simp only [frm,List.getElem_map,List.getElem_range]
  rw [if_pos (by simp [e2]),z17 (by simp;omega),List.getElem_set,if_pos e]
 ·have e2:(i:Int)≠v:=by omega
  rw [if_neg e]
  simp only [frm,List.getElem_map,List.getElem_range,y49,y50,e2,or_false]
  split
  ·rw [z17 (by omega),z17 (by simp;omega),List.getElem_set,if_neg e]
  ·rfl
section
variable {rows:List (List Int)} {ini:List Int}
theorem z1039 (u:Int) (l:List Int):∀ x:List Int×List Int,∃ t,(visPs u x l).1=x.1++t:=by
 intro x;rw [z360];exact z589 _ _
theorem z640 {i j:Nat} (h:i≤j):∃ t,(srS rows ini j).1=(srS rows ini i).1++t:=by
  induction j with
  | zero => obtain rfl : i = 0 := by omega
            exact ⟨[],by simp⟩
  | succ j ih =>
    rcases y65 j i with h1|h1
    · obtain rfl:i=j+1:=by omega
      exact ⟨[],by simp⟩
    · obtain ⟨t,ht⟩:=ih h1
      rw [srS];split
      · obtain ⟨t2,ht2⟩:=z1039 (srS rows ini j).1[j] (rows.getD ((srS rows ini j).1[j]).toNat []) (srS rows ini j)
        exact ⟨t++t2,by rw [ht2,ht];simp⟩
      · exact ⟨t,ht⟩
theorem z591 {u v:Int} (hv:0≤v):∀ (l:List Int) (x:List Int×List Int),(∀ y∈l,0≤y)→v∈x.1→(visPs u x l).2.getD v.toNat 0=x.2.getD v.toNat 0
 |[],_,_,_=>rfl
 |w::l,x,hl,hm=>by
  show (visPs u (visP u x w) l).2.getD v.toNat 0=_
  have hm2:v∈(visP u x w).1:=by rw [z630];exact z705.2 (.inl hm)
  rw [z591 hv l _ (fun y hy=>hl y (by simp [hy])) hm2]
  by_cases h:w∈x.1
  ·rw [z463 h]
  ·rw [z464 h]
   have hw:=hl w (by simp)
   have:v≠w:=fun e=>h (e ▸ hm)
   dsimp only
   rw [y63,List.getElem?_set_ne (by omega),← y63]
theorem srS_keep (hr:∀ r∈rows,InN rows.length r) {i j:Nat} (h:i≤j) {v:Int} (hv:0≤v) (hm:v∈(srS rows ini i).1):(srS rows ini j).2.getD v.toNat 0=(srS rows ini i).2.getD v.toNat 0:=by
  induction j with
  | zero => obtain rfl : i = 0 := by omega
            rfl
  | succ j ih =>
    rcases y65 j i with h1|h1
    · obtain rfl:i=j+1:=by omega
      rfl
    · obtain ⟨t,ht⟩:=z640 (rows:=rows) (ini:=ini) h1
      rw [srS];split
      · rw [z591 hv _ _ (fun y hy=>(z236 hr _ y hy).1) (by rw [ht];simp [hm])]
        exact ih h1
      · exact ih h1
theorem z1056 (hr:∀ r∈rows,InN rows.length r) (hi:InN rows.length ini) (hn:ini.Nodup) {i:Nat} (hil:i≤rows.length):∀ (f:Nat) (v:Int) (tl:List Int),v∈(srS rows ini i).1→bkw (srS rows ini i).2 f v tl=bkw (srP rows ini) f v tl
 |0,_,_,_=>rfl
 |f+1,v,tl,hm=>by
  have hJ:=z501 hr hi hn i
  have hv:=hJ.inn v hm
  have e:(srP rows ini).getD v.toNat 0=(srS rows ini i).2.getD v.toNat 0:=srS_keep hr hil hv.1 hm
  rw [bkw,bkw,e]
  split
  ·rename_i h
   refine z1056 hr hi hn hil f _ _ ?_
   obtain ⟨k,hk,rfl⟩:=List.mem_iff_getElem.1 hm
   rcases hJ.pre k hk with h1|⟨j,hj,_,h2⟩
   ·omega
   ·rw [h2];exact y39 _
  ·rfl
def shL (rows:List (List Int)) (ini:List Int) (G:Int→Bool):List Int:=match (srQ rows ini).find? G with
 |none=>[]
 |some v=>bkw (srP rows ini) rows.length v []
theorem z727 (hr : ∀ r ∈ rows, InN rows.length r) (hi : InN rows.length ini) (hn : ini.Nodup) {G : Int → Bool} {i : Nat} (hil : i < (srS rows ini i).1.length) (hG : G (srS rows ini i).1[i] = true) (hk : ∀ k (_ : k < i), G ((srS rows ini i).1[k]) = false) :
    shL rows ini G=bkw (srS rows ini i).2 rows.length (srS rows ini i).1[i] []:=by
  have hle:i≤rows.length:=Nat.le_of_lt (Nat.lt_of_lt_of_le hil (z821 hr hi hn i))
  obtain ⟨t,ht⟩:=z640 (rows:=rows) (ini:=ini) hle
  have:(srQ rows ini).find? G=some (srS rows ini i).1[i]:=by
    show (srS rows ini rows.length).1.find? G=_
    rw [ht,List.find?_append]
    have:(srS rows ini i).1.find? G=some (srS rows ini i).1[i]:=by
      rw [List.find?_eq_some_iff_getElem]
      exact ⟨hG,i,hil,rfl,fun j hj=>by rw [hk j hj];rfl⟩
    rw [this];rfl
  unfold shL
  rw [this]
  exact (z1056 hr hi hn hle _ _ _ (y39 _)).symm
theorem z907 {G:Int→Bool} {i:Nat} (hil:(srS rows ini i).1.length≤i) (hle:i≤rows.length) (hk:∀ k (h:k < (srS rows ini i).1.length),G ((srS rows ini i).1[k])=false):shL rows ini G=[]:=by
 have e:=srS_end (ini:=ini) hil hle
 have:(srQ rows ini).find? G=none:=by
  rw [List.find?_eq_none]
  intro x hx
  have e1:(srS rows ini i).1=srQ rows ini:=by rw [e]
  rw [← e1] at hx
  obtain ⟨k,hk',rfl⟩:=List.mem_iff_getElem.1 hx
  rw [hk k hk'];simp
 unfold shL
 rw [this]
def aroL (rows:List (List Int)) (v:Int):List Int:=if v∈rows.getD v.toNat [] then [v] else shL rows [v] fun n=>decide (n≠v) && decide (v∈rows.getD n.toNat [])
theorem aroL_eq (v:Int):aroL rows v=cycL rows v:=by
 unfold aroL cycL
 split
 ·rfl
 ·rename_i h
  unfold shL
  have key:∀ l:List Int,(match l.find? (fun n=>decide (n≠v) && decide (v∈rows.getD n.toNat [])) with|none=>[]|some u=>bkw (srP rows [v]) rows.length u [])=cycT rows (srP rows [v]) v l:=by
   intro l
   induction l with
   |nil=>rfl
   |cons u l ih =>
    rw [List.find?_cons,cycT]
    by_cases hu:v∈rows.getD u.toNat []
    ·have hne:u≠v:=fun e=>by rw [e] at hu;exact h hu
     rw [y76 hu,y76 hne,if_pos hu];rfl
    ·rw [y77 hu,Bool.and_false,if_neg hu]
     exact ih
  exact key _
theorem RP.head {v u:Int} (h:RP rows [v] u):u=v∨∃ y,y∈rows.getD v.toNat []∧RP rows [y] u:=by
 induction h with
 |base hb=>exact .inl (List.mem_singleton.1 hb)
 |step _ e ih =>
  rcases ih with rfl|⟨y,hy,h2⟩
  ·exact .inr ⟨_,e,.base (by simp)⟩
  ·exact .inr ⟨y,hy,.step h2 e⟩
theorem z941 (hr:∀ r∈rows,InN rows.length r) {v:Int} (hv:0≤v∧v < rows.length):0 < (cycL rows v).length↔Cyc rows v:=by
 have hq:∀ x,x∈srQ rows [v]↔RP rows [v] x:=fun x=>by
  have:=z822 (rows:=rows) (ini:=[v]) (by simp) rows.length
  show x∈(srS rows [v] rows.length).1↔_
  rw [this]
  exact z146 hr (z746 hv) x
 unfold cycL
 split
 ·rename_i h
  exact ⟨fun _=>⟨v,h,.base (by simp)⟩,fun _=>by simp⟩
 ·rename_i h
  have key:∀ l:List Int,0 < (cycT rows (srP rows [v]) v l).length↔∃ u∈l,v∈rows.getD u.toNat []:=by
   intro l
   induction l with
   |nil=>simp [cycT]
   |cons u l ih =>
    rw [cycT]
    split
    ·rename_i hu
     exact ⟨fun _=>⟨u,by simp,hu⟩,fun _=>z691 _ _ _ _⟩
    ·rename_i hu
     rw [ih]
     constructor
     ·rintro ⟨w,h1,h2⟩;exact ⟨w,by simp [h1],h2⟩
     ·rintro ⟨w,h1,h2⟩
      rcases List.mem_cons.1 h1 with rfl|h1
      ·exact absurd h2 hu
      ·exact ⟨w,h1,h2⟩
  rw [key]
  constructor
  ·rintro ⟨u,hu,hvu⟩
   rcases RP.head ((hq u).1 hu) with rfl|⟨y,hy,h2⟩
   ·exact absurd hvu h
   ·exact ⟨y,hy,.step h2 hvu⟩
  ·rintro ⟨y,hy,h1⟩
   cases h1 with
   |base hb=>exact absurd (List.mem_singleton.1 hb ▸ hy) h
   |step h2 h3=>exact ⟨_,(hq _).2 (RP.trans (.base (by simp)) hy h2),h3⟩
noncomputable def lasL (rows:List (List Int)) (ini:List Int) (G:Int→Bool):Option (List Int×List Int):=((bfsL rows ini).find? fun v=>G v && cycD rows v.toNat).map fun v=>(bkw (srP rows ini) rows.length v [],cycL rows v)
theorem z475 (hr:∀ r∈rows,InN rows.length r) (hi:InN rows.length ini) (hn:ini.Nodup) (acc:List Bool):lasL rows ini (fun v=>acc.getD (v % acc.length).toNat false)=finS rows ini acc:=by
 have e:bfsL rows ini=srQ rows ini:=(z822 hn rows.length).symm
 have hin:=z1057 hr hi hn
 unfold lasL finS
 rw [e]
 generalize srQ rows ini=Q at *
 clear e
 induction Q with
 |nil=>rfl
 |cons u Q ih =>
  have hu:=hin u (by simp)
  have hc:cycD rows u.toNat=decide (0 < (cycL rows u).length):=by
   rw [Bool.eq_iff_iff,z398,decide_eq_true_iff,z941 hr hu,Int.toNat_of_nonneg hu.1]
  have ih:=ih fun x hx=>hin x (by simp [hx])
  rw [List.find?_cons,finT]
  dsimp only
  rw [hc]
  by_cases ha:acc.getD (u % acc.length).toNat false=true
  ·rw [if_pos ha,ha,Bool.true_and]
   by_cases hl:0 < (cycL rows u).length
   ·rw [if_pos hl,y76 hl];rfl
   ·rw [if_neg hl,y77 hl]
    exact ih
  ·rw [if_neg ha,(y67 _).mp ha,Bool.false_and]
   exact ih
theorem shL_to (hn:ini.Nodup) {v:Int} (hv:v∈bfsL rows ini):shL rows ini (fun n=>decide (n=v))=bkw (srP rows ini) rows.length v []:=by
 have e:bfsL rows ini=srQ rows ini:=(z822 hn rows.length).symm
 rw [e] at hv
 unfold shL
 cases h:(srQ rows ini).find? (fun n=>decide (n=v)) with
 |none=>rw [List.find?_eq_none] at h;have:=h v hv;simp at this
 |some u=>have:=List.find?_some h;rw [of_decide_eq_true this]
end
end Go.Gl
namespace Go.Gl
theorem z639 (l:List Int) (i j:Nat):(swp l i j).length=l.length:=by unfold swp;simp
theorem swp_at (l:List Int) {i j k:Nat} (hi:i < l.length) (hj:j < l.length) (hk:k < l.length):(swp l i j)[k]'(by rw [z639];exact hk)=if k=j then l[i] else if k=i then l[j] else l[k]:=by
 unfold swp
 rw [List.getElem_set]
 by_cases h:j=k
 ·rw [if_pos h,if_pos h.symm,z17 hi]
 ·rw [if_neg h,if_neg (fun e=>h e.symm),List.getElem_set]
  by_cases h2:i=k
  ·rw [if_pos h2,if_pos h2.symm,z17 hj]
  ·rw [if_neg h2,if_neg (fun e=>h2 e.symm)]
def chn (P:List Int):Nat→Int→List Int
 |0,v=>[v]
 |f+1,v=>v::if 0≤P.getD v.toNat 0 then chn P f (P.getD v.toNat 0) else []
theorem z886 (P:List Int):∀ (f:Nat) (v:Int) (tl:List Int),bkw P f v tl=(chn P f v).reverse++tl
 |0,v,tl=>rfl
 |f+1,v,tl=>by
  rw [bkw,chn]
  split
  ·rw [z886 P f];simp
  ·simp
theorem z1168 (P:List Int) (f:Nat) (v:Int):1≤(chn P f v).length:=by cases f<;>simp [chn]
theorem z1080:∀ (f i j:Nat) (l:List Int),i+j+1=l.length→j+1≤2 * f+1+i→∀ k (h:k < (revG f i j l).length) (h' : k < l.length),(revG f i j l)[k]=if i≤k∧k≤j then l[l.length - 1 - k]'(by omega) else l[k]
 |0,i,j,l,hij,hf,k,h,h'=>by
  show l[k]=_
  split
  ·congr 1;omega
  ·rfl
 |f+1,i,j,l,hij,hf,k,h,h'=>by
  by_cases hlt:i < j
  ·have e:revG (f+1) i j l=revG f (i+1) (j - 1) (swp l i j):=by rw [revG,if_pos hlt]
   have hk:k < (revG f (i+1) (j - 1) (swp l i j)).length:=by rw [← e];exact h
   have ih:=z1080 f (i+1) (j - 1) (swp l i j) (by rw [z639];omega) (by omega) k hk (by rw [z639];exact h')
   have e2:(revG (f+1) i j l)[k]=(revG f (i+1) (j - 1) (swp l i j))[k]:=by simp only [e]
   rw [e2,ih]
   simp only [z639]
   by_cases h1:i+1≤k∧k≤j - 1
   ·rw [if_pos h1,if_pos (by omega),swp_at l (by omega) (by omega) (by omega),if_neg (by omega),if_neg (by omega)]
   ·rw [if_neg h1,swp_at l (by omega) (by omega) h']
    by_cases h2:k=j
    ·rw [if_pos h2,if_pos (by omega)];congr 1;omega
    ·rw [if_neg h2]
     by_cases h3:k=i
     ·rw [if_pos h3,if_pos (by omega)];congr 1;omega
     ·rw [if_neg h3,if_neg (by omega)]
  ·have e:revG (f+1) i j l=l:=by rw [revG,if_neg hlt]
   have e2:(revG (f+1) i j l)[k]=l[k]:=by simp only [e]
   rw [e2]
   split
   ·congr 1;omega
   ·rfl
theorem rvs_eq (l:List Int):rvs l=l.reverse:=by
 by_cases h0:l.length=0
 ·have:l=[]:=y69 h0
  subst this;rfl
 ·apply y70 (by rw [z416,List.length_reverse])
  intro k h1 h2
  have hk:k < l.length:=by rw [z416] at h1;exact h1
  have:=z1080 l.length 0 (l.length - 1) l (by omega) (by omega) k h1 hk
  rw [List.getElem_reverse]
  refine this.trans ?_
  rw [if_pos (by omega)]
def rkStep (R:List Int) (z:Bool) (o v:Int):Int:=if o < R.getD v.toNat 0+(if z=true then 1 else 0) then R.getD v.toNat 0+(if z=true then 1 else 0) else o
def rkOf (R:List Int) (z:Bool) (row:List Int):Int:=row.foldl (rkStep R z) 0
def Bd (M:Int) (R:List Int):Prop:=∀ x∈R,-1≤x∧x≤M
theorem Bd.getD {M:Int} {R:List Int} (h:Bd M R) (hM:0≤M) (i:Nat) : -1≤R.getD i 0∧R.getD i 0≤M:=by
 by_cases hl:i < R.length
 ·rw [z17 hl];exact h _ (y39 _)
 ·rw [y63,y64 (by omega)];exact ⟨by show -1≤(0:Int);omega,hM⟩
theorem Bd.mono {M M' : Int} {R:List Int} (h:Bd M R) (hM:M≤M'):Bd M' R:=fun x hx=>by have:=h x hx;omega
theorem Bd.set {M:Int} {R:List Int} (h:Bd M R) {i:Nat} {v:Int} (hv : -1≤v∧v≤M):Bd M (R.set i v):=fun x hx=>by
 rcases List.mem_or_eq_of_mem_set hx with h1|rfl
 ·exact h x h1
 ·exact hv
def z576 (rows:List (List Int)) (acc:List Bool) (x:List Int×Bool) (u:Int):List Int×Bool :=
 if x.1.getD u.toNat 0 < rkOf x.1 (acc.getD (u % acc.length).toNat false) (rows.getD u.toNat []) then (x.1.set u.toNat (rkOf x.1 (acc.getD (u % acc.length).toNat false) (rows.getD u.toNat [])),true) else x
def z522 (rows:List (List Int)) (acc:List Bool) (nodes R:List Int):List Int×Bool:=nodes.reverse.foldl (z576 rows acc) (R,false)
def z258 (rows:List (List Int)) (acc:List Bool) (nodes:List Int):Nat→List Int→Bool→List Int
 |0,R,_=>R
 |f+1,R,c=>if c=true then z258 rows acc nodes f (z522 rows acc nodes R).1 (z522 rows acc nodes R).2 else R
def z952 (N:Nat) (nodes:List Int):List Int:=nodes.foldl (fun R u=>R.set u.toNat 0) (List.replicate N (-1))
def z853 (rows:List (List Int)) (ini:List Int) (acc:List Bool):List Int:=z258 rows acc (bfsL rows ini) ((bfsL rows ini).length+2) (z952 rows.length (bfsL rows ini)) true
theorem z701 (N:Nat) (nodes:List Int):(z952 N nodes).length=N:=by
 unfold z952
 have:∀ (l R:List Int),(l.foldl (fun R u=>R.set u.toNat 0) R).length=R.length:=by
  intro l
  induction l with
  |nil=>intro R;rfl
  |cons u l ih=>intro R;rw [List.foldl_cons,ih];simp
 rw [this];simp
theorem z1082 (rows:List (List Int)) (acc:List Bool) (x:List Int×Bool) (u:Int):(z576 rows acc x u).1.length=x.1.length:=by
 unfold z576
 split
 ·simp
 ·rfl
theorem z651 {rows:List (List Int)} {acc:List Bool} : ∀ (l:List Int) (x:List Int×Bool),(l.foldl (z576 rows acc) x).1.length=x.1.length
 |[],_=>rfl
 |u::l,x=>by rw [List.foldl_cons,z651 l,z1082]
theorem z594 {rows:List (List Int)} {acc:List Bool} {nodes:List Int} : ∀ (f:Nat) (R:List Int) (c:Bool),(z258 rows acc nodes f R c).length=R.length
 |0,_,_=>rfl
 |f+1,R,c=>by
  rw [z258];split
  ·rw [z594 f];exact z651 _ _
  ·rfl
theorem z1115 (rows:List (List Int)) (ini:List Int) (acc:List Bool):(z853 rows ini acc).length=rows.length:=by unfold z853;rw [z594,z701]
def wtA (acc:List Bool) (u:Int):Int:=if acc.getD (u % acc.length).toNat false=true then 1 else 0
def Wt (rows:List (List Int)) (acc:List Bool):Nat→Int→Int
 |0,_=>0
 |k+1,u=>(rows.getD u.toNat []).foldl (fun o v=>max o (Wt rows acc k v+wtA acc u)) 0
theorem z107 (f:Int→Int):∀ (l:List Int) (o:Int),o≤l.foldl (fun o v=>max o (f v)) o∧∀ v∈l,f v≤l.foldl (fun o v=>max o (f v)) o
 |[],o=>⟨Int.le_refl _,by simp⟩
 |x::l,o=>by
  obtain ⟨h1,h2⟩:=z107 f l (max o (f x))
  rw [List.foldl_cons]
  refine ⟨by omega,fun v hv=>?_⟩
  rcases List.mem_cons.1 hv with rfl|hv
  ·omega
  ·exact h2 v hv
theorem z428 (f:Int→Int):∀ (l:List Int) (o:Int),l.foldl (fun o v=>max o (f v)) o=o∨∃ v∈l,l.foldl (fun o v=>max o (f v)) o=f v
 |[],o=>.inl rfl
 |x::l,o=>by
  rw [List.foldl_cons]
  rcases z428 f l (max o (f x)) with h|⟨v,hv,h⟩
  ·rw [h]
   rcases Int.le_total o (f x) with h1|h1
   ·exact .inr ⟨x,by simp,by omega⟩
   ·exact .inl (by omega)
  ·exact .inr ⟨v,by simp [hv],h⟩
theorem z199 {f:Int→Int} {l:List Int} {o M:Int} (ho:o≤M) (h:∀ v∈l,f v≤M):l.foldl (fun o v=>max o (f v)) o≤M:=by
 rcases z428 f l o with h1|⟨v,hv,h1⟩
 ·rw [h1];exact ho
 ·rw [h1];exact h v hv
section
variable {rows:List (List Int)} {ini:List Int} {acc:List Bool}
theorem z1032 (k:Nat) (u:Int):0≤Wt rows acc k u:=by
 cases k with
 |zero=>exact Int.le_refl _
 |succ k=>rw [Wt];exact (z107 _ _ _).1
theorem z1193 (k:Nat):∀ u,Wt rows acc k u≤Wt rows acc (k+1) u:=by
 induction k with
 |zero=>intro u;exact z1032 1 u
 |succ k ih =>
  intro u
  rw [Wt]
  refine z199 (z1032 _ _) fun v hv=>?_
  rw [Wt]
  have h1:=(z107 (fun v=>Wt rows acc (k+1) v+wtA acc u) (rows.getD u.toNat []) 0).2 v hv
  have:=ih v
  omega
theorem Wt_le {j k:Nat} (h:j≤k) (u:Int):Wt rows acc j u≤Wt rows acc k u:=by
  induction k with
  | zero => obtain rfl : j = 0 := by omega
            exact Int.le_refl _
  | succ k ih =>
    rcases y65 k j with h1|h1
    · obtain rfl:j=k+1:=by omega
      exact Int.le_refl _
    · have:=ih h1
      have:=z1193 (rows:=rows) (acc:=acc) k u
      omega
def IncW (rows:List (List Int)) (acc:List Bool) (k:Nat) (u:Int):Prop:=Wt rows acc k u < Wt rows acc (k+1) u
theorem Inc_step {k:Nat} {u:Int} (h:IncW rows acc (k+1) u):∃ v∈rows.getD u.toNat [],IncW rows acc k v∧Wt rows acc (k+2) u=Wt rows acc (k+1) v+wtA acc u:=by
 unfold IncW at h
 have h0:=z1032 (rows:=rows) (acc:=acc) (k+1) u
 rcases z428 (fun v=>Wt rows acc (k+1) v+wtA acc u) (rows.getD u.toNat []) 0 with h1|⟨v,hv,h1⟩
 ·have e:Wt rows acc (k+2) u=0:=h1
  have:Wt rows acc (k+1+1) u=0:=e
  omega
 ·have e:Wt rows acc (k+1+1) u=Wt rows acc (k+1) v+wtA acc u:=h1
  refine ⟨v,hv,?_,e⟩
  have h2:Wt rows acc k v+wtA acc u≤Wt rows acc (k+1) u:=(z107 (fun v=>Wt rows acc k v+wtA acc u) (rows.getD u.toNat []) 0).2 v hv
  unfold IncW
  omega
structure ChW (rows:List (List Int)) (acc:List Bool) (k:Nat) (c:Nat→Int):Prop where
 step:∀ i,i < k→c i∈rows.getD (c (i+1)).toNat []∧Wt rows acc (i+2) (c (i+1))=Wt rows acc (i+1) (c i)+wtA acc (c (i+1))
 inc:∀ i,i≤k→IncW rows acc i (c i)
theorem z804:∀ (k:Nat) (u:Int),IncW rows acc k u→∃ c:Nat→Int,c k=u∧ChW rows acc k c
  | 0, u, h => ⟨fun _ => u, rfl, fun i hi => by omega, fun i hi => by obtain rfl : i = 0 := by omega
                                                                      exact h⟩
  | k+1,u,h=>by
    obtain ⟨v,hv,h1,h2⟩:=Inc_step h
    obtain ⟨c,hc,hC⟩:=z804 k v h1
    refine ⟨fun i=>if i=k+1 then u else c i,by simp,fun i hi=>?_,fun i hi=>?_⟩
    · by_cases e:i=k
      · subst e
        simp only [if_pos,if_neg (show ¬ i=i+1 by omega)]
        rw [hc]
        exact ⟨hv,h2⟩
      · rw [if_neg (by omega),if_neg (by omega)]
        exact hC.step i (by omega)
    · by_cases e:i=k+1
      · rw [if_pos e,e];exact h
      · rw [if_neg e];exact hC.inc i (by omega)
theorem ChW.reach {k:Nat} {c:Nat→Int} (h:ChW rows acc k c) {i:Nat} : ∀ d,i+d≤k→RP rows [c (i+d)] (c i)
 |0,_=>.base (by simp)
 |d+1,hd=>RP.trans (.base (by simp [Nat.add_assoc])) (h.step (i+d) (by omega)).1 (h.reach d (by omega))
theorem ChW.flat {k:Nat} {c:Nat→Int} (h:ChW rows acc k c) {j:Nat} : ∀ d,j+d≤k→(∀ l,j < l→l≤j+d→wtA acc (c l)=0)→Wt rows acc (j+d+1) (c (j+d))=Wt rows acc (j+1) (c j)
 |0,_,_=>rfl
 |d+1,hd,hl=>by
  have h1:=(h.step (j+d) (by omega)).2
  have h2:=h.flat d (by omega) fun l h1 h2=>hl l h1 (by omega)
  have h3:=hl (j+d+1) (by omega) (by omega)
  have e:j+(d+1)=j+d+1:=by omega
  rw [e,h1,h3,h2];omega
theorem Wt_stop (hr:∀ r∈rows,InN rows.length r) (hi:InN rows.length ini) (hno:∀ x,RP rows ini x→Cyc rows x→acc.getD (x % acc.length).toNat false=false) {k:Nat} (hk:(bfsL rows ini).length≤k) {u:Int} (hu:RP rows ini u):¬ IncW rows acc k u:=by
 intro h
 obtain ⟨c,hc,hC⟩:=z804 k u h
 have hrp:∀ d,d≤k→RP rows ini (c (k - d)):=by
  intro d
  induction d with
  |zero=>intro _;rw [Nat.sub_zero,hc];exact hu
  |succ d ih =>
   intro hd
   have h1:=(hC.step (k - (d+1)) (by omega)).1
   rw [show k - (d+1)+1=k - d by omega] at h1
   exact .step (ih (by omega)) h1
 have hrp' : ∀ i,i≤k→c i∈bfsL rows ini:=fun i hi'=>by
  have:=hrp (k - i) (by omega)
  rw [show k - (k - i)=i by omega] at this
  exact (z146 hr hi _).2 this
 by_cases hinj:∃ i j,j < i∧i≤k∧c i=c j
 ·obtain ⟨i,j,hji,hik,he⟩:=hinj
  obtain ⟨d,rfl⟩:∃ d,i=j+(d+1):=⟨i - j - 1,by omega⟩
  have h1:=hC.inc (j+(d+1)) hik
  unfold IncW at h1
  have h2:=Wt_le (rows:=rows) (acc:=acc) (show j+1≤j+(d+1) by omega) (c (j+(d+1)))
  by_cases hz:∀ l,j < l→l≤j+(d+1)→wtA acc (c l)=0
  ·have h3:=hC.flat (d+1) hik hz
   rw [he] at h1 h2 h3
   omega
  ·simp only [Classical.not_forall] at hz
   obtain ⟨l,hl1,hl2,hl3⟩:=hz
   obtain ⟨e,rfl⟩:∃ e,l=j+e+1:=⟨l - j - 1,by omega⟩
   have hcy:Cyc rows (c (j+e+1)):=by
    refine ⟨c (j+e),(hC.step (j+e) (by omega)).1,?_⟩
    have r1:=hC.reach (i:=j) e (by omega)
    have r2:=hC.reach (i:=j+e+1) (d - e) (by omega)
    rw [show j+e+1+(d - e)=j+(d+1) by omega,he] at r2
    exact RP.trans0 r1 r2
   have:=hno _ ((z146 hr hi _).1 (hrp' _ (by omega))) hcy
   apply hl3
   unfold wtA
   rw [if_neg (by rw [this];simp)]
 ·have hinj:∀ i j,j < i→i≤k→c i≠c j:=fun i j h1 h2 h3=>hinj ⟨i,j,h1,h2,h3⟩
  have hidx:∀ i j,i≤k→j≤k→(bfsL rows ini).idxOf (c i)=(bfsL rows ini).idxOf (c j)→c i=c j:=fun i j h1 h2 h3=>by
   have a1:=List.getElem_idxOf (List.idxOf_lt_length_of_mem (hrp' i h1))
   have a2:=List.getElem_idxOf (List.idxOf_lt_length_of_mem (hrp' j h2))
   rw [← a1,← a2];congr 1
  have:=z181 (bfsL rows ini).length ((List.range (k+1)).map fun i=>(((bfsL rows ini).idxOf (c i):Nat):Int)) ?_ ?_
  ·simp at this;omega
  ·rw [List.nodup_iff_pairwise_ne,List.pairwise_iff_getElem]
   intro i j h1 h2 hij
   simp only [y44,List.length_range] at h1 h2
   simp only [List.getElem_map,List.getElem_range]
   intro he
   exact hinj j i hij (by omega) (hidx j i (by omega) (by omega) (by omega))
  ·intro x hx
   obtain ⟨i,hi',rfl⟩:=List.mem_map.1 hx
   have:=List.mem_range.1 hi'
   have:=List.idxOf_lt_length_of_mem (hrp' i (by omega))
   omega
theorem Wt_fix (hr:∀ r∈rows,InN rows.length r) (hi:InN rows.length ini) (hno:∀ x,RP rows ini x→Cyc rows x→acc.getD (x % acc.length).toNat false=false) {u:Int} (hu:RP rows ini u):Wt rows acc ((bfsL rows ini).length+1) u=Wt rows acc (bfsL rows ini).length u:=by
 have h1:=Wt_stop hr hi hno (y47 _) hu
 have h2:=z1193 (rows:=rows) (acc:=acc) (bfsL rows ini).length u
 unfold IncW at h1
 omega
end
theorem z419 (R:List Int) (z:Bool) (row:List Int):rkOf R z row=row.foldl (fun o v=>max o (R.getD v.toNat 0+if z=true then 1 else 0)) 0:=by
 unfold rkOf
 congr 1
 funext o v
 unfold rkStep
 split<;>omega
theorem z480 (R:List Int) (i j:Nat) (v:Int) (hi:i < R.length):(R.set i v).getD j 0=if i=j then v else R.getD j 0:=by
 rw [y63,List.getElem?_set]
 simp only [hi,if_true]
 split
 ·rfl
 ·rw [← y63]
structure RkI (rows:List (List Int)) (ini:List Int) (acc:List Bool) (t:Nat) (R:List Int):Prop where
 len:R.length=rows.length
 lo:∀ u,RP rows ini u→Wt rows acc t u≤R.getD u.toNat 0
 hi:∀ u,RP rows ini u→R.getD u.toNat 0≤Wt rows acc (bfsL rows ini).length u
section
variable {rows:List (List Int)} {ini:List Int} {acc:List Bool}
def rkU (rows:List (List Int)) (acc:List Bool) (R:List Int) (u:Int):Int:=rkOf R (acc.getD (u % acc.length).toNat false) (rows.getD u.toNat [])
theorem rkU_ge {t:Nat} {R:List Int} {u:Int} (hu:RP rows ini u) (h:∀ u,RP rows ini u→Wt rows acc t u≤R.getD u.toNat 0):Wt rows acc (t+1) u≤rkU rows acc R u:=by
 unfold rkU
 rw [z419,Wt]
 refine z199 (z107 _ _ _).1 fun v hv=>?_
 have h1:=(z107 (fun v=>R.getD v.toNat 0+if acc.getD (u % acc.length).toNat false=true then 1 else 0) (rows.getD u.toNat []) 0).2 v hv
 have h2:=h v (.step hu hv)
 unfold wtA
 omega
theorem z1079 {t:Nat} {R:List Int} {u:Int} (hu:RP rows ini u) (h:∀ u,RP rows ini u→R.getD u.toNat 0≤Wt rows acc t u):rkU rows acc R u≤Wt rows acc (t+1) u:=by
 unfold rkU
 rw [z419,Wt]
 refine z199 (z107 _ _ _).1 fun v hv=>?_
 have h1:=(z107 (fun v=>Wt rows acc t v+wtA acc u) (rows.getD u.toNat []) 0).2 v hv
 have h2:=h v (.step hu hv)
 have e:(if acc.getD (u % acc.length).toNat false=true then (1:Int) else 0)=wtA acc u:=rfl
 rw [e]
 omega
theorem z468 (x:List Int×Bool) (u:Int):z576 rows acc x u=if x.1.getD u.toNat 0 < rkU rows acc x.1 u then (x.1.set u.toNat (rkU rows acc x.1 u),true) else x:=rfl
structure PsI (rows:List (List Int)) (ini:List Int) (acc:List Bool) (t:Nat) (l:List Int) (x y:List Int×Bool):Prop where
 inv:RkI rows ini acc t y.1
 up:∀ u,RP rows ini u→x.1.getD u.toNat 0≤y.1.getD u.toNat 0
 nxt:∀ u∈l,Wt rows acc (t+1) u≤y.1.getD u.toNat 0
 off:∀ j:Nat,¬ RP rows ini j→y.1.getD j 0=x.1.getD j 0
 same:y.2=false→y=x∧∀ u∈l,rkU rows acc x.1 u≤x.1.getD u.toNat 0
theorem z521 (hr:∀ r∈rows,InN rows.length r) (hin:InN rows.length ini) (hno:∀ x,RP rows ini x→Cyc rows x→acc.getD (x % acc.length).toNat false=false) {t:Nat} : ∀ (l:List Int) (x:List Int×Bool),(∀ u∈l,RP rows ini u)→RkI rows ini acc t x.1→PsI rows ini acc t l x (l.foldl (z576 rows acc) x)
 |[],x,_,h=>⟨h,fun _ _=>Int.le_refl _,by simp,fun _ _=>rfl,fun _=>⟨rfl,by simp⟩⟩
 |u::l,x,hl,h=>by
  have hu:=hl u (by simp)
  have huN:=RP.in hr hin hu
  have hx:=h.len
  rw [List.foldl_cons,z468]
  have hlo:=rkU_ge hu h.lo
  have hhi:=z1079 hu h.hi
  rw [Wt_fix hr hin hno hu] at hhi
  by_cases hc:x.1.getD u.toNat 0 < rkU rows acc x.1 u
  ·rw [if_pos hc]
   have hg:∀ w,0≤w→(x.1.set u.toNat (rkU rows acc x.1 u)).getD w.toNat 0=if u=w then rkU rows acc x.1 u else x.1.getD w.toNat 0:=fun w hw=>by
    rw [z480 _ _ _ _ (by omega)]
    by_cases e:u=w
    ·rw [if_pos e,if_pos (by rw [e])]
    ·rw [if_neg e,if_neg (by omega)]
   have hup:∀ w,RP rows ini w→x.1.getD w.toNat 0≤(x.1.set u.toNat (rkU rows acc x.1 u)).getD w.toNat 0:=fun w hw=>by
    rw [hg w (RP.in hr hin hw).1]
    split
    ·rename_i e;subst e;omega
    ·exact Int.le_refl _
   have h1:=z521 hr hin hno (t:=t) l (x.1.set u.toNat (rkU rows acc x.1 u),true) (fun w hw=>hl w (by simp [hw])) ⟨by simp [hx],fun w hw=>Int.le_trans (h.lo w hw) (hup w hw),fun w hw=>by
    dsimp only
    rw [hg w (RP.in hr hin hw).1]
    split
    ·rename_i e;subst e;exact hhi
    ·exact h.hi w hw⟩
   refine ⟨h1.inv,fun w hw=>Int.le_trans (hup w hw) (h1.up w hw),fun w hw=>?_,fun j hj=>?_,fun hf=>?_⟩
   ·rcases List.mem_cons.1 hw with rfl|hw
    ·have:=h1.up w hu
     dsimp only at this
     rw [hg w huN.1,if_pos rfl] at this
     omega
    ·exact h1.nxt w hw
   ·rw [h1.off j hj]
    dsimp only
    rw [z480 _ _ _ _ (by omega),if_neg]
    intro e
    apply hj
    rw [← e,Int.toNat_of_nonneg huN.1];exact hu
   ·have:=(h1.same hf).1
    rw [this] at hf
    cases hf
  ·rw [if_neg hc]
   have h1:=z521 hr hin hno (t:=t) l x (fun w hw=>hl w (by simp [hw])) h
   refine ⟨h1.inv,h1.up,fun w hw=>?_,h1.off,fun hf=>⟨(h1.same hf).1,fun w hw=>?_⟩⟩
   ·rcases List.mem_cons.1 hw with rfl|hw
    ·have:=h1.up w hu
     omega
    ·exact h1.nxt w hw
   ·rcases List.mem_cons.1 hw with rfl|hw
    ·omega
    ·exact (h1.same hf).2 w hw
noncomputable def rkL (rows:List (List Int)) (ini:List Int) (acc:List Bool) (z:Int):List Int:=by classical exact (List.range rows.length).map fun i:Nat=>if RP rows ini (i:Int) then Wt rows acc (bfsL rows ini).length i else z
theorem rkL_of {R:List Int} {z:Int} (hl:R.length=rows.length) (h1:∀ u,RP rows ini u→R.getD u.toNat 0=Wt rows acc (bfsL rows ini).length u) (h2:∀ j,j < rows.length→¬ RP rows ini (j:Int)→R.getD j 0=z):R=rkL rows ini acc z:=by
 apply y70 (by simp [rkL,hl])
 intro i h3 h4
 simp only [rkL,List.getElem_map,List.getElem_range]
 rw [← z17 (d:=0) h3]
 split
 ·rename_i h;have:=h1 i h;rwa [y72] at this
 ·rename_i h;exact h2 i (by omega) h
theorem z1078 {R:List Int} (h:RkI rows ini acc 0 R) (hf:∀ u,RP rows ini u→rkU rows acc R u≤R.getD u.toNat 0) {u:Int} (hu:RP rows ini u):R.getD u.toNat 0=Wt rows acc (bfsL rows ini).length u:=by
 have key:∀ k,∀ u,RP rows ini u→Wt rows acc k u≤R.getD u.toNat 0:=by
  intro k
  induction k with
  |zero=>exact h.lo
  |succ k ih=>intro u hu;exact Int.le_trans (rkU_ge hu ih) (hf u hu)
 have h1:=key (bfsL rows ini).length u hu
 have h2:=h.hi u hu
 omega
theorem RkI.weak {t:Nat} {R:List Int} (h:RkI rows ini acc t R):RkI rows ini acc 0 R:=⟨h.len,fun u hu=>Int.le_trans (Wt_le (y48 t) u) (h.lo u hu),h.hi⟩
theorem RkI.full {t:Nat} {R:List Int} (h:RkI rows ini acc t R) (ht:(bfsL rows ini).length≤t) {u:Int} (hu:RP rows ini u):R.getD u.toNat 0=Wt rows acc (bfsL rows ini).length u:=by
 have h1:=h.lo u hu
 have h2:=h.hi u hu
 have h3:=Wt_le (rows:=rows) (acc:=acc) ht u
 omega
theorem z733 (hr : ∀ r ∈ rows, InN rows.length r) (hin : InN rows.length ini) (hno : ∀ x, RP rows ini x → Cyc rows x → acc.getD (x % acc.length).toNat false = false) : ∀ (f t : Nat) (R : List Int), (bfsL rows ini).length ≤ t + f → RkI rows ini acc t R →
  (∀ u,RP rows ini u→(z258 rows acc (bfsL rows ini) f R true).getD u.toNat 0=Wt rows acc (bfsL rows ini).length u)∧(∀ j:Nat,¬ RP rows ini j→(z258 rows acc (bfsL rows ini) f R true).getD j 0=R.getD j 0)
 |0,t,R,hf,h=>⟨fun u hu=>h.full hf hu,fun _ _=>rfl⟩
 |f+1,t,R,hf,h=>by
  have hm:∀ u∈(bfsL rows ini).reverse,RP rows ini u:=fun u hu=>(z146 hr hin u).1 (List.mem_reverse.1 hu)
  have hp:=z521 hr hin hno (t:=t) (bfsL rows ini).reverse (R,false) hm h
  rw [z258,if_pos rfl]
  change PsI rows ini acc t (bfsL rows ini).reverse (R,false) (z522 rows acc (bfsL rows ini) R) at hp
  have hoff:=hp.off
  dsimp only at hoff
  cases hc:(z522 rows acc (bfsL rows ini) R).2 with
  |false =>
   obtain ⟨h1,h2⟩:=hp.same hc
   have e:z258 rows acc (bfsL rows ini) f (z522 rows acc (bfsL rows ini) R).1 false=(z522 rows acc (bfsL rows ini) R).1:=by cases f<;>simp [z258]
   rw [e,h1]
   dsimp only at h2 ⊢
   exact ⟨fun u hu=>z1078 h.weak (fun w hw=>h2 w (List.mem_reverse.2 ((z146 hr hin w).2 hw))) hu,fun _ _=>rfl⟩
  |true =>
   obtain ⟨h1,h2⟩:=z733 hr hin hno f (t+1) _ (by omega) ⟨hp.inv.len,fun u hu=>hp.nxt u (List.mem_reverse.2 ((z146 hr hin u).2 hu)),hp.inv.hi⟩
   exact ⟨h1,fun j hj=>by rw [h2 j hj,hoff j hj]⟩
theorem z702 {N:Nat} {j:Nat} (hj:j < N):∀ (l R:List Int),R.length=N→(∀ u∈l,0≤u∧u < N)→(l.foldl (fun R u=>R.set u.toNat 0) R).getD j 0=if (j:Int)∈l then 0 else R.getD j 0
 |[],R,_,_=>by simp
 |u::l,R,hR,h=>by
  have hu:=h u (by simp)
  rw [List.foldl_cons,z702 hj l _ (by simp [hR]) (fun w hw=>h w (by simp [hw])),z480 _ _ _ _ (by omega)]
  by_cases h1:(j:Int)∈l
  ·rw [if_pos h1,if_pos (by simp [h1])]
  ·rw [if_neg h1]
   by_cases h2:u.toNat=j
   ·rw [if_pos h2,if_pos]
    have:(j:Int)=u:=by omega
    simp [this]
   ·rw [if_neg h2,if_neg]
    rw [List.mem_cons,not_or]
    exact ⟨by omega,h1⟩
theorem makeR_eq (hr:∀ r∈rows,InN rows.length r) (hin:InN rows.length ini) (hno:∀ x,RP rows ini x→Cyc rows x→acc.getD (x % acc.length).toNat false=false):z853 rows ini acc=rkL rows ini acc (-1):=by
 have hz:∀ j,j < rows.length→(z952 rows.length (bfsL rows ini)).getD j 0=if RP rows ini (j:Int) then 0 else -1:=fun j hj=>by
  unfold z952
  rw [z702 hj (bfsL rows ini) _ (by simp) (fun u hu=>z621 hr hin rows.length u hu)]
  by_cases h:RP rows ini (j:Int)
  ·rw [if_pos ((z146 hr hin _).2 h),if_pos h]
  ·rw [if_neg (fun hm=>h ((z146 hr hin _).1 hm)),if_neg h,z17 (by simp;exact hj)];simp
 have h0:RkI rows ini acc 0 (z952 rows.length (bfsL rows ini)):=by
  refine ⟨z701 _ _,fun u hu=>?_,fun u hu=>?_⟩
  all_goals
   have huN:=RP.in hr hin hu
   rw [hz u.toNat (by omega),Int.toNat_of_nonneg huN.1,if_pos hu]
  ·exact Int.le_refl _
  ·exact z1032 _ _
 obtain ⟨h1,h2⟩:=z733 hr hin hno ((bfsL rows ini).length+2) 0 _ (by omega) h0
 refine rkL_of (z1115 _ _ _) h1 fun j hj hnp=>?_
 unfold z853
 rw [h2 j hnp,hz j hj,if_neg hnp]
end
end Go.Gl
namespace Go.Gl
section
variable {rows:List (List Int)} {ini:List Int}
theorem z1122 {G:Int→Bool} {p q:List Int} (h:lasL rows ini G=some (p,q)):∃ v,v∈bfsL rows ini∧G v=true∧cycD rows v.toNat=true∧p=bkw (srP rows ini) rows.length v []∧q=cycL rows v:=by
 unfold lasL at h
 rw [Option.map_eq_some_iff] at h
 obtain ⟨v,hv,he⟩:=h
 have h1:=List.find?_some hv
 have h2:=List.mem_of_find?_eq_some hv
 obtain ⟨h3,h4⟩:=Bool.and_eq_true_iff.1 h1
 cases he
 exact ⟨v,h2,h3,h4,rfl,rfl⟩
theorem z754 {G:Int→Bool} : lasL rows ini G=none↔∀ v∈bfsL rows ini,¬ (G v=true∧cycD rows v.toNat=true):=by
 unfold lasL
 rw [Option.map_eq_none_iff,List.find?_eq_none]
 simp only [y66]
theorem lasL_bd (hr : ∀ r ∈ rows, InN rows.length r) (hi : InN rows.length ini) (hn : ini.Nodup) {G : Int → Bool} {p q : List Int} (h : lasL rows ini G = some (p, q)) :
    (∀ x∈p,0≤x∧x≤rows.length)∧(∀ x∈q,0≤x∧x≤rows.length)∧p.length≤rows.length+1∧q.length≤rows.length+1∧1≤p.length∧1≤q.length:=by
  obtain ⟨v,hv,_,hc,rfl,rfl⟩:=z1122 h
  have hvN:=z621 hr hi _ v hv
  have h1:=z692 (srP rows ini) rows.length v []
  refine ⟨fun x hx=>⟨z1178 _ _ _ hvN.1 (by simp) x hx,z1179 (srS_le hr hi hn rows.length) _ _ _ (by omega) (by omega) (by simp) x hx⟩,fun x hx=>⟨cycL_nn hr hvN x hx,cycL_le hr hvN x hx⟩,by rw [y54] at h1;omega,z940 _ _,z691 _ _ _ _,?_⟩
  have:=(z941 hr hvN).2 (by have:=z398.1 hc;rwa [Int.toNat_of_nonneg hvN.1] at this)
  omega
end
end Go.Gl
namespace Go.Gl
section
variable {rows:List (List Int)} {ini:List Int}
end
end Go.Gl
namespace Go.Gl
def negT (t:Tree):Tree:=if t.kind=3 then t.kids.getD 0 dftT else notT t
theorem Tree.counts_eq (l:List Tree) (d:Int):Tree.counts l d=(l.map fun t=>t.count d).sum:=by
 induction l with
 |nil=>simp [Tree.counts]
 |cons t l ih=>simp [Tree.counts,ih]
theorem Tree.count_def (t:Tree) (d:Int):t.count d=if 0 < d then 1+(t.kids.map fun t=>t.count (d - 1)).sum else 1:=by
 cases t with
 |mk k v l=>simp only [Tree.count,Tree.kids,Tree.counts_eq]
theorem z1108 (t:Tree):(negT t).sz≤t.sz+1:=by
 unfold negT
 split
 ·rw [y33 t]
  cases t.kids with
  |nil=>simp [dftT,z499]
  |cons a l=>simp;omega
 ·simp [notT,z366];omega
def z279:Nat→List (List Int)→List (List Int×Int)
 |_,[]=>[]
 |k,r::L=>(r,(k:Int))::z279 (k+1) L
theorem z603 (p:List Int):∀ (k:Nat) (L:List (List Int)),mget (z279 k L) p=if p∈L then some ((k+L.idxOf p:Nat):Int) else none
 |_,[]=>by simp [z279,mget]
 |k,r::L=>by
  rw [z279,mget]
  by_cases h:p=r
  ·subst h;simp
  ·rw [if_neg h,z603 p (k+1) L]
   by_cases h2:p∈L
   ·have h4:(r == p)=false:=by simpa using fun e=>h e.symm
    rw [if_pos h2,if_pos (y68 _ h2),List.idxOf_cons,h4]
    simp only [cond_false]
    congr 2;omega
   ·rw [if_neg h2,if_neg (by simp [h,h2])]
theorem z602 {p:List Int} (n:Int):∀ (k:Nat) (L:List (List Int)),p ∉ L→mput (z279 k L) p n=z279 k L++[(p,n)]
 |_,[],_=>rfl
 |k,r::L,h=>by
  rw [z279,mput,if_neg (fun e=>h (by simp [e])),z602 n (k+1) L (fun e=>h (y68 _ e))]
  rfl
theorem z774 (p:List Int):∀ (k:Nat) (L:List (List Int)),z279 k (L++[p])=z279 k L++[(p,((k+L.length:Nat):Int))]
 |_,[]=>by simp [z279]
 |k,r::L=>by
  rw [List.cons_append,z279,z279,z774 p (k+1) L,List.cons_append]
  congr 4
  simp;omega
def enP (r:List Int):List AC:=[.int (r.getD 0 0),.int (r.getD 1 0)]
def RowP (n:Nat) (U:List Int) (r:List Int):Prop:=∃ (s ph:Nat),r=[(s:Int),(ph:Int)]∧s < 2 ^ n∧(U.length=0∧ph=0∨ph < U.length)
theorem z915 {B:List Tree} {U:List Int} {s ph:Nat} (h:U.length=0∧ph=0∨ph < U.length):∃ q:Nat,(phB B U s ph).1=q∧(U.length=0∧q=0∨q < U.length):=by
 unfold phB
 by_cases h0:U.length=0
 ·rw [if_pos h0];exact ⟨0,rfl,.inl ⟨h0,rfl⟩⟩
 ·rw [if_neg h0]
  split
  ·refine ⟨(ph+1) % U.length,by simp,.inr (Nat.mod_lt _ (by omega))⟩
  ·exact ⟨ph,rfl,.inr (by omega)⟩
theorem z655 (L:List (List Int)) (p:List Int):L.length≤(z192 L p).length∧(z192 L p).length≤L.length+1∧z289 L p < (z192 L p).length:=by
 unfold z192 z289
 by_cases h:p∈L
 ·rw [if_pos h];exact ⟨y47 _,Nat.le_succ _,List.idxOf_lt_length_of_mem h⟩
 ·rw [if_neg h,List.idxOf_eq_length h];simp
theorem z1091 {L:List (List Int)} {p r:List Int} (h:r∈z192 L p):r∈L∨r=p:=by
 unfold z192 at h
 split at h
 ·exact .inl h
 ·rcases List.mem_append.1 h with h|h
  ·exact .inl h
  ·exact .inr (List.mem_singleton.1 h)
def EdP (B:List Tree) (n:Nat) (e:Edg):Prop:=(0≤e.src∧e.src < n)∧(0≤e.dst∧e.dst < n)∧∃ s,e.care=((letB B s).1:Int)∧e.val=((letB B s).2:Int)
theorem EdP.mono {B:List Tree} {n m:Nat} {e:Edg} (h:EdP B n e) (hm:n≤m):EdP B m e:=⟨by have:=h.1;omega,by have:=h.2.1;omega,h.2.2⟩
structure ExI (B:List Tree) (U:List Int) (n0 i:Nat) (x:TrS):Prop where
 rows:∀ r∈x.L,RowP B.length U r
 base:n0≤x.L.length
 acc:x.acc.length=i
 le:i≤x.L.length
 edl:x.ed.length≤i * 2 ^ B.length
 ln:x.L.length≤n0+i * 2 ^ B.length
 ed:∀ e∈x.ed,EdP B x.L.length e
theorem z937 {B : List Tree} {U : List Int} {s : Int} {q i : Nat} (hq : U.length = 0 ∧ q = 0 ∨ q < U.length) : ∀ (l : List Nat) (y : List (List Int) × List Edg), (∀ t ∈ l, t < 2 ^ B.length) → (∀ r ∈ y.1, RowP B.length U r) → i < y.1.length → (∀ e ∈ y.2, EdP B y.1.length e) →
  (∀ r∈(l.foldl (z119 B s q i (letB B s).1 (letB B s).2) y).1,RowP B.length U r)∧y.1.length≤(l.foldl (z119 B s q i (letB B s).1 (letB B s).2) y).1.length∧(l.foldl (z119 B s q i (letB B s).1 (letB B s).2) y).1.length≤y.1.length+l.length ∧
  (l.foldl (z119 B s q i (letB B s).1 (letB B s).2) y).2.length≤y.2.length+l.length∧∀ e∈(l.foldl (z119 B s q i (letB B s).1 (letB B s).2) y).2,EdP B (l.foldl (z119 B s q i (letB B s).1 (letB B s).2) y).1.length e
 |[],y,_,h1,_,h2=>⟨h1,y47 _,y47 _,y47 _,h2⟩
 |t::l,y,hl,h1,hi,h2=>by
  rw [List.foldl_cons,y53]
  have hst : (∀ r ∈ (z119 B s q i (letB B s).1 (letB B s).2 y t).1, RowP B.length U r) ∧ y.1.length ≤ (z119 B s q i (letB B s).1 (letB B s).2 y t).1.length ∧ (z119 B s q i (letB B s).1 (letB B s).2 y t).1.length ≤ y.1.length + 1 ∧
    (z119 B s q i (letB B s).1 (letB B s).2 y t).2.length≤y.2.length+1∧∀ e∈(z119 B s q i (letB B s).1 (letB B s).2 y t).2,EdP B (z119 B s q i (letB B s).1 (letB B s).2 y t).1.length e:=by
   unfold z119
   split
   ·obtain ⟨p1,p2,p3⟩:=z655 y.1 [(t:Int),(q:Int)]
    refine ⟨fun r hr=>?_,p1,p2,by simp,fun e he=>?_⟩
    ·rcases z1091 hr with h|h
     ·exact h1 r h
     ·rw [h];exact ⟨t,q,rfl,hl t (by simp),hq⟩
    ·rcases List.mem_append.1 he with h|h
     ·exact (h2 e h).mono p1
     ·rw [List.mem_singleton.1 h]
      refine ⟨⟨?_,?_⟩,⟨?_,?_⟩,s,rfl,rfl⟩
      ·show (0:Int)≤(i:Int);omega
      ·show (i:Int) < ((z192 y.1 [(t:Int),(q:Int)]).length:Int);omega
      ·show (0:Int)≤(z289 y.1 [(t:Int),(q:Int)]:Int);omega
      ·show (z289 y.1 [(t:Int),(q:Int)]:Int) < ((z192 y.1 [(t:Int),(q:Int)]).length:Int);omega
   ·exact ⟨h1,y47 _,by omega,by omega,h2⟩
  obtain ⟨a1,a2,a3,a4,a5⟩:=hst
  have hi2:i < (z119 B s q i (letB B s).1 (letB B s).2 y t).1.length:=by omega
  obtain ⟨b1,b2,b3,b4,b5⟩:=z937 hq l (z119 B s q i (letB B s).1 (letB B s).2 y t) (fun x hx=>hl x (y68 _ hx)) a1 hi2 a5
  exact ⟨b1,by omega,by omega,by omega,b5⟩
theorem ExI.step {B:List Tree} {U:List Int} {n0 i:Nat} {x:TrS} (h:ExI B U n0 i x) (hi:i < x.L.length):ExI B U n0 (i+1) (z216 B U i x)∧x.L.length≤(z216 B U i x).L.length:=by
 obtain ⟨s,ph,er,hs,hp⟩:=h.rows (x.L.getD i []) (by rw [z17 hi];exact y39 _)
 obtain ⟨q,eq,hq⟩:=z915 (B:=B) (s:=s) hp
 have e:z216 B U i x=⟨((List.range (2 ^ B.length)).foldl (z119 B s q i (letB B s).1 (letB B s).2) (x.L,x.ed)).1,x.acc++[(phB B U s ph).2],((List.range (2 ^ B.length)).foldl (z119 B s q i (letB B s).1 (letB B s).2) (x.L,x.ed)).2⟩:=by
  unfold z216
  dsimp only
  rw [er,← eq];rfl
 have hf:=z937 (B:=B) (U:=U) (s:=(s:Int)) (i:=i) hq (List.range (2 ^ B.length)) (x.L,x.ed) (fun t ht=>List.mem_range.1 ht) h.rows hi h.ed
 rw [e]
 generalize (List.range (2 ^ B.length)).foldl (z119 B s q i (letB B s).1 (letB B s).2) (x.L,x.ed)=y at *
 rw [List.length_range] at hf
 dsimp only at hf
 obtain ⟨a1,a2,a3,a4,a5⟩:=hf
 have h1:=h.base;have h2:=h.acc;have h3:=h.edl;have h4:=h.ln
 refine ⟨⟨a1,?_,?_,?_,?_,?_,a5⟩,a2⟩
 ·show n0≤y.1.length;omega
 ·show (x.acc++[_]).length=i+1;simp [h2]
 ·show i+1≤y.1.length;omega
 ·show y.2.length≤(i+1) * 2 ^ B.length;rw [Nat.add_mul];omega
 ·show y.1.length≤n0+(i+1) * 2 ^ B.length;rw [Nat.add_mul];omega
theorem z1092 {c a m:Nat} (h:a &&& c=a):(a ||| m) &&& (c ||| m)=a ||| m∧a &&& (c ||| m)=a:=by
 have hb:∀ i,(a.testBit i && c.testBit i)=a.testBit i:=fun i=>by have:=congrArg (fun x=>x.testBit i) h;simpa [Nat.testBit_and] using this
 constructor
 ·apply Nat.eq_of_testBit_eq
  intro i
  have:=hb i
  simp only [Nat.testBit_and,Nat.testBit_or]
  cases ha:a.testBit i<;>cases hc:c.testBit i<;>cases hm:m.testBit i<;>simp_all
 ·apply Nat.eq_of_testBit_eq
  intro i
  have:=hb i
  simp only [Nat.testBit_and,Nat.testBit_or]
  cases ha:a.testBit i<;>cases hc:c.testBit i<;>cases hm:m.testBit i<;>simp_all
theorem letB_sub (B:List Tree) (s:Int):(letB B s).2 &&& (letB B s).1=(letB B s).2:=by
 have:∀ n:Nat,((List.range n).foldl (atoI B s) (0,0)).2 &&& ((List.range n).foldl (atoI B s) (0,0)).1=((List.range n).foldl (atoI B s) (0,0)).2:=by
  intro n
  induction n with
  |zero=>show (0:Nat) &&& 0=0;rfl
  |succ n ih =>
   rw [y57,y58]
   show (atoI B s _ n).2 &&& (atoI B s _ n).1=(atoI B s _ n).2
   generalize (List.range n).foldl (atoI B s) (0,0)=p at *
   unfold atoI
   split
   ·dsimp only
    split
    ·exact (z1092 ih).1
    ·exact (z1092 ih).2
   ·exact ih
 exact this _
theorem Tree.count_sz (t:Tree):∀ d:Int,t.shapeF d=true→t.count d=1+(t.sz:Int):=by
 induction t using y24 with|h t ih=>?_
 intro d hs
 rw [y27] at hs
 rw [Tree.count_def,if_pos (by omega),y33]
 have key:∀ l:List Tree,(∀ u∈l,u.count (d - 1)=1+(u.sz:Int))→(l.map fun t=>t.count (d - 1)).sum=(l.length:Int)+((l.map Tree.sz).sum:Nat):=by
  intro l
  induction l with
  |nil=>intro _;rfl
  |cons a l ihl =>
   intro h
   have h1:=h a (by simp)
   have h2:=ihl fun u hu=>h u (by simp [hu])
   simp only [List.map_cons,List.sum_cons,y53]
   rw [h1,h2];omega
 rw [key t.kids fun u hu=>ih u hu (d - 1) (hs.2 u hu)]
 omega
theorem fm_sz {t:Tree} (h:t.fmB=true):t.sz≤11:=by
 rw [y18,y66,decide_eq_true_eq] at h
 have:=Tree.count_sz t 6 h.1
 omega
end Go.Gl
namespace Go.Gl
open Go.RowKit Go.WideShapes Go.ChangeShapes
variable {P:Program}
def OpensD {α:Type} (P:Program) (t:TypeId) (enc:α→List AC) (ok:α→Prop):Prop:=∀ k,Opens P t (fun xs=>∃ a,xs=enc a∧ok a) k
theorem od_byte {t:TypeId} (ht:P.underlying t=some (.int .u8)) {enc:Int→List AC} (he:∀ n,enc n=[.raw (.int .u8 n)]):OpensD P t enc (fun n=>(Lit.int .u8 n).wf=true):=fun k =>
 (z1094 ht k).imp fun xs ⟨n,h1,h2⟩=>⟨n,h1.trans (he n).symm,h2⟩
theorem z618 {α:Type} {enc:α→List AC} {ok:α→Prop} : (es:List (List AC))→(∀ y∈es,∃ a,y=enc a∧ok a)→∃ l:List α,es=l.map enc∧∀ a∈l,ok a
 |[],_=>⟨[],rfl,fun _ h=>by cases h⟩
 |e::es,h=>by
  obtain ⟨a,h1,h2⟩:=h e (by simp)
  obtain ⟨l,h3,h4⟩:=z618 es fun y hy=>h y (by simp [hy])
  exact ⟨a::l,by rw [h1,h3];rfl,fun b hb=>by
   rcases List.mem_cons.1 hb with rfl|hb
   ·exact h2
   ·exact h4 b hb⟩
theorem z981 {α : Type} {t e : TypeId} {enc : α → List AC} {ok : α → Prop} {n k : Nat} (ht : P.underlying t = some (.slice e)) (hc : P.cellsOf e = n) (hn : 0 < n) (h : Opens P e (fun xs => ∃ a, xs = enc a ∧ ok a) k) :
    Opens P t (fun xs=>∃ l:List α,xs=[.list n l.length (l.map enc)]∧l.length≤maxLen∧∀ a∈l,ok a) (k+1) :=
  (z846 ht hc hn h).imp fun xs ⟨es,h1,h2,h3⟩=>by
    obtain ⟨l,rfl,h4⟩:=z618 es h3
    exact ⟨l,by rw [h1];simp,by simpa using h2,h4⟩
theorem od_list {α : Type} {t e : TypeId} {enc : α → List AC} {ok : α → Prop} (n : Nat) (ht : P.underlying t = some (.slice e)) (hc : P.cellsOf e = n) (hn : 0 < n) (h : OpensD P e enc ok) {encL : List α → List AC} (he : ∀ l, encL l = [.list n l.length (l.map enc)]) :
    OpensD P t encL (fun l=>l.length≤maxLen∧∀ a∈l,ok a)
  | 0=>z980
  | k+1=>(z981 ht hc hn (h k)).imp fun xs ⟨l,h1,h2⟩=>⟨l,h1.trans (he l).symm,h2⟩
theorem OpensD.imp {α β:Type} {t:TypeId} {enc:α→List AC} {ok:α→Prop} {enc' : β→List AC} {ok' : β→Prop} (h:OpensD P t enc ok) (hi:∀ a,ok a→∃ b,enc a=enc' b∧ok' b):OpensD P t enc' ok':=fun k =>
 (h k).imp fun xs ⟨a,h1,h2⟩=>by
  obtain ⟨b,h3,h4⟩:=hi a h2
  exact ⟨b,h1.trans h3,h4⟩
def ArgD {α:Type} (P:Program) (t:TypeId) (enc:α→AC) (ok:α→Prop):Prop:=ArgOk P t fun x _=>∃ a,x=enc a∧ok a
theorem ArgOk.imp {t:TypeId} {R R' : AC→Nat→Prop} (h:ArgOk P t R) (hi:∀ x m,R x m→R' x m):ArgOk P t R':=fun H enc b hB W r b0 v d ps hv hk=>by
 obtain ⟨x,m,h1,h2⟩:=h H enc b hB W r b0 v d ps hv hk
 exact ⟨x,m,hi _ _ h1,h2⟩
theorem z1187 {α:Type} {t e:TypeId} {enc:α→List AC} {ok:α→Prop} {enc1:α→AC} (ht:P.underlying t=some (.slice e)) (h:OpensD P t enc ok) (he:∀ a,enc a=[enc1 a]):ArgD P t enc1 ok :=
 (z889 ht h).imp fun x m ⟨⟨a,h1,h2⟩,_⟩=>⟨a,by rw [he] at h1;exact (List.cons.inj h1).1,h2⟩
theorem ArgD.imp {α β:Type} {t:TypeId} {enc:α→AC} {ok:α→Prop} {enc' : β→AC} {ok' : β→Prop} (h:ArgD P t enc ok) (hi:∀ a,ok a→∃ b,enc a=enc' b∧ok' b):ArgD P t enc' ok' :=
 ArgOk.imp h fun x m ⟨a,h1,h2⟩=>by
  obtain ⟨b,h3,h4⟩:=hi a h2
  exact ⟨b,h1.trans h3,h4⟩
theorem ArgsOk.imp : {ts:List TypeId}→{R R' : List AC→Nat→Prop}→ArgsOk P ts R→(∀ xs m,R xs m→R' xs m)→ArgsOk P ts R'
 |[],_,_,h,hi=>hi _ _ h
 |_::_,_,_,⟨R1,R2,h1,h2,h3⟩,hi=>⟨R1,R2,h1,h2,fun a m as n ha has=>hi _ _ (h3 a m as n ha has)⟩
theorem args_nil:ArgsOk P [] (fun xs _=>xs=[]):=rfl
theorem z793 {α:Type} {t:TypeId} {ts:List TypeId} {enc:α→AC} {ok:α→Prop} {R:List AC→Prop} (h:ArgD P t enc ok) (k:ArgsOk P ts (fun xs _=>R xs)):ArgsOk P (t::ts) (fun xs _=>∃ a ys,xs=enc a::ys∧ok a∧R ys) :=
 ⟨_,_,h,k,fun _ _ as _ ⟨b,h1,h2⟩ h3=>⟨b,as,by rw [h1],h2,h3⟩⟩
theorem z304 {H:Type} : (l:List (DataW H))→z553 SizeOf.sizeOf l+1≤SizeOf.sizeOf l
 |[]=>by simp [z553]
 |d::r=>by
  have:=z304 r
  simp only [z553,List.cons.sizeOf_spec]
  omega
theorem z882 {H:Type} : Bulk (H:=H) SizeOf.sizeOf where
 lit l:=by simp only [DataW.lit.sizeOf_spec];omega
 nil:=by simp
 slice es sp:=by
  have:=z304 es
  simp only [DataW.slice.sizeOf_spec];omega
 agg ps:=by
  have:=z304 ps
  simp only [DataW.agg.sizeOf_spec];omega
end Go.Gl
namespace Go.Gl
theorem z545 (f:Int→Int):∀ (l:List Int) (o:Int),l.foldl (fun o v=>max o (f v+1)) (o+1)=l.foldl (fun o v=>max o (f v)) o+1
 |[],_=>rfl
 |x::l,o=>by
  rw [List.foldl_cons,List.foldl_cons,← z545 f l]
  congr 1;omega
def rkP (R:List Int) (row:List Int):Int:=row.foldl (fun o v=>max o (R.getD v.toNat 0)) 0
theorem rkP_take {R row:List Int} {j:Nat} (h:j < row.length):rkP R (row.take (j+1))=max (rkP R (row.take j)) (R.getD row[j].toNat 0):=by
 unfold rkP;rw [y45 h,y58];rfl
theorem rk_impl {R row:List Int} {z:Bool} (h:∀ v∈row,0≤R.getD v.toNat 0):rkOf R z row=rkP R row+(if z=true∧0 < row.length then 1 else 0):=by
 rw [z419]
 unfold rkP
 cases z with
 |false=>simp
 |true =>
  cases row with
  |nil=>simp
  |cons x row =>
   have hx:=h x (by simp)
   simp only [if_true,List.foldl_cons,y53,Nat.zero_lt_succ,and_self]
   rw [show max 0 (R.getD x.toNat 0+1)=max 0 (R.getD x.toNat 0)+1 by omega]
   exact z545 (fun v=>R.getD v.toNat 0) row _
section
variable {rows:List (List Int)} {ini:List Int} {acc:List Bool}
def z1202 (rows:List (List Int)) (ini:List Int) (acc:List Bool) (R:List Int):Prop:=∀ u,RP rows ini u→R.getD u.toNat 0≤rkU rows acc R u
theorem rkU_mono {R R' : List Int} {u:Int} (h:∀ v∈rows.getD u.toNat [],R.getD v.toNat 0≤R'.getD v.toNat 0):rkU rows acc R u≤rkU rows acc R' u:=by
 unfold rkU
 rw [z419,z419]
 refine z199 (z107 _ _ _).1 fun v hv=>?_
 have h1:=(z107 (fun v=>R'.getD v.toNat 0+if acc.getD (u % acc.length).toNat false=true then 1 else 0) (rows.getD u.toNat []) 0).2 v hv
 have:=h v hv
 omega
theorem z1002 (hr:∀ r∈rows,InN rows.length r) (hin:InN rows.length ini) {x:List Int×Bool} {u:Int} (hu:RP rows ini u) (hl:x.1.length=rows.length) (h:z1202 rows ini acc x.1):z1202 rows ini acc (z576 rows acc x u).1:=by
 rw [z468]
 split
 ·rename_i hc
  have huN:=RP.in hr hin hu
  have hg:∀ w,0≤w→(x.1.set u.toNat (rkU rows acc x.1 u)).getD w.toNat 0=if u=w then rkU rows acc x.1 u else x.1.getD w.toNat 0:=fun w hw=>by
   rw [z480 _ _ _ _ (by omega)]
   by_cases e:u=w
   ·rw [if_pos e,if_pos (by rw [e])]
   ·rw [if_neg e,if_neg (by omega)]
  have hup:∀ w,RP rows ini w→x.1.getD w.toNat 0≤(x.1.set u.toNat (rkU rows acc x.1 u)).getD w.toNat 0:=fun w hw=>by
   rw [hg w (RP.in hr hin hw).1]
   split
   ·rename_i e;subst e;omega
   ·exact Int.le_refl _
  intro w hw
  have h1:rkU rows acc x.1 w≤rkU rows acc (x.1.set u.toNat (rkU rows acc x.1 u)) w:=rkU_mono fun v hv=>hup v (.step hw hv)
  dsimp only
  rw [hg w (RP.in hr hin hw).1]
  split
  ·rename_i e;subst e;exact h1
  ·exact Int.le_trans (h w hw) h1
 ·exact h
def pst (rows:List (List Int)) (acc:List Bool) (nodes R:List Int) (k:Nat):List Int×Bool:=(nodes.drop k).reverse.foldl (z576 rows acc) (R,false)
theorem z913 (nodes R:List Int):pst rows acc nodes R nodes.length=(R,false):=by unfold pst;rw [List.drop_length];rfl
theorem z911 (nodes R:List Int):pst rows acc nodes R 0=z522 rows acc nodes R:=rfl
theorem z912 {nodes R:List Int} {k:Nat} (h:k < nodes.length):pst rows acc nodes R k=z576 rows acc (pst rows acc nodes R (k+1)) nodes[k]:=by
 unfold pst;rw [y74 h,List.reverse_cons,y58];rfl
theorem z650 (hr:∀ r∈rows,InN rows.length r) (hin:InN rows.length ini) {R:List Int} (hl:R.length=rows.length) (h:z1202 rows ini acc R):∀ d k,k+d=(bfsL rows ini).length→z1202 rows ini acc (pst rows acc (bfsL rows ini) R k).1
 |0,k,hk=>by
  obtain rfl:k=(bfsL rows ini).length:=by omega
  rw [z913];exact h
 |d+1,k,hk=>by
  have hkl:k < (bfsL rows ini).length:=by omega
  rw [z912 hkl]
  refine z1002 hr hin ((z146 hr hin _).1 (y39 _)) ?_ (z650 hr hin hl h d (k+1) (by omega))
  unfold pst;rw [z651];exact hl
structure RoundI (rows:List (List Int)) (ini:List Int) (acc:List Bool) (t:Nat) (R:List Int) (c:Bool):Prop where
 rk:RkI rows ini acc t R
 gr:z1202 rows ini acc R
 off:∀ j:Nat,¬ RP rows ini j→R.getD j 0=0
 fin:c=false→∀ u,RP rows ini u→R.getD u.toNat 0=Wt rows acc (bfsL rows ini).length u
 lt:c=true→t≤(bfsL rows ini).length
theorem RoundI.init (hr:∀ r∈rows,InN rows.length r) (hin:InN rows.length ini):RoundI rows ini acc 0 (List.replicate rows.length 0) true:=by
 have h0:∀ j:Nat,(List.replicate rows.length (0:Int)).getD j 0=0:=fun j=>by
  rw [y63,List.getElem?_replicate];split<;>rfl
 refine ⟨⟨by simp,fun u hu=>by rw [h0];exact Int.le_refl _,fun u hu=>by rw [h0];exact z1032 _ _⟩,fun u hu=>?_,fun j _=>h0 j,(fun h=>by cases h),fun _=>y48 _⟩
 rw [h0]
 unfold rkU
 rw [z419]
 exact (z107 _ _ _).1
theorem RoundI.pass (hr : ∀ r ∈ rows, InN rows.length r) (hin : InN rows.length ini) (hno : ∀ x, RP rows ini x → Cyc rows x → acc.getD (x % acc.length).toNat false = false) {t : Nat} {R : List Int} (h : RoundI rows ini acc t R true) :
    RoundI rows ini acc (t+1) (z522 rows acc (bfsL rows ini) R).1 (z522 rows acc (bfsL rows ini) R).2:=by
  have hm:∀ u∈(bfsL rows ini).reverse,RP rows ini u:=fun u hu=>(z146 hr hin u).1 (List.mem_reverse.1 hu)
  have hp:=z521 hr hin hno (t:=t) (bfsL rows ini).reverse (R,false) hm h.rk
  have hg:=z650 hr hin h.rk.len h.gr (bfsL rows ini).length 0 (by omega)
  rw [z911] at hg
  change PsI rows ini acc t (bfsL rows ini).reverse (R,false) (z522 rows acc (bfsL rows ini) R) at hp
  have hall:∀ u,RP rows ini u→u∈(bfsL rows ini).reverse:=fun u hu=>List.mem_reverse.2 ((z146 hr hin u).2 hu)
  refine ⟨⟨hp.inv.len,fun u hu=>hp.nxt u (hall u hu),hp.inv.hi⟩,hg,fun j hj=>by rw [hp.off j hj];exact h.off j hj,fun hc u hu=>?_,fun hc=>?_⟩
  · obtain ⟨h1,h2⟩:=hp.same hc
    rw [h1]
    exact z1078 h.rk.weak (fun w hw=>h2 w (hall w hw)) hu
  · rcases y65 t (bfsL rows ini).length with h1|h1
    · omega
    · exfalso
      have hst:∀ l:List Int,(∀ u∈l,RP rows ini u)→l.foldl (z576 rows acc) (R,false)=(R,false):=by
        intro l
        induction l with
        | nil=>intro _;rfl
        | cons u l ih =>
          intro hl
          have hu:=hl u (by simp)
          rw [List.foldl_cons,z468,if_neg]
          · exact ih fun w hw=>hl w (by simp [hw])
          · have e:=h.rk.full h1 hu
            have e2:=z1079 (acc:=acc) (R:=R) (t:=(bfsL rows ini).length) hu (fun w hw=>by rw [h.rk.full h1 hw];exact Int.le_refl _)
            rw [Wt_fix hr hin hno hu] at e2
            show ¬ R.getD u.toNat 0 < rkU rows acc R u
            omega
      have:z522 rows acc (bfsL rows ini) R=(R,false):=hst _ hm
      rw [this] at hc
      cases hc
theorem pst_inv (hr:∀ r∈rows,InN rows.length r) (hin:InN rows.length ini) (hno:∀ x,RP rows ini x→Cyc rows x→acc.getD (x % acc.length).toNat false=false) {t:Nat} {R:List Int} (h:RkI rows ini acc t R) (k:Nat):RkI rows ini acc t (pst rows acc (bfsL rows ini) R k).1 :=
 (z521 hr hin hno (t:=t) ((bfsL rows ini).drop k).reverse (R,false) (fun u hu=>(z146 hr hin u).1 (List.mem_of_mem_drop (List.mem_reverse.1 hu))) h).inv
end
end Go.Gl
namespace Go.Gl
def rowS (L:List (List Int)) (k:Nat):Int:=(L.getD k []).getD 0 0
def rowQ (L:List (List Int)) (k:Nat):Int:=(L.getD k []).getD 1 0
def EdX (B:List Tree) (U:List Int) (L:List (List Int)) (e:Edg) (k t:Nat):Prop :=
 e.src=(k:Int)∧e.care=((letB B (rowS L k)).1:Int)∧e.val=((letB B (rowS L k)).2:Int)∧∃ j:Nat,e.dst=j∧j < L.length∧L.getD j []=[(t:Int),(phB B U (rowS L k) (rowQ L k)).1]
theorem z316 {α:Type} {L suf:List α} {k:Nat} {d:α} (h:k < L.length):(L++suf).getD k d=L.getD k d:=by
 rw [y63,y63,y61 h]
theorem EdX.pre {B:List Tree} {U:List Int} {L suf:List (List Int)} {e:Edg} {k t:Nat} (hk:k < L.length) (h:EdX B U L e k t):EdX B U (L++suf) e k t:=by
 unfold EdX rowS rowQ at *
 rw [z316 hk]
 obtain ⟨h1,h2,h3,j,h4,h5,h6⟩:=h
 exact ⟨h1,h2,h3,j,h4,by simp;omega,by rw [z316 h5];exact h6⟩
theorem z1090 (L:List (List Int)) (p:List Int):(∃ suf,z192 L p=L++suf)∧(z192 L p).getD (z289 L p) []=p:=by
 unfold z192 z289
 by_cases h:p∈L
 ·rw [if_pos h]
  refine ⟨⟨[],by simp⟩,?_⟩
  rw [z17 (List.idxOf_lt_length_of_mem h)]
  exact List.getElem_idxOf _
 ·rw [if_neg h,List.idxOf_eq_length h]
  exact ⟨⟨[p],rfl⟩,by simp [y63]⟩
theorem z1157 {B : List Tree} {U : List Int} {s p : Int} {q : Int} {i : Nat} (hq : (phB B U s p).1 = q) : ∀ (l : List Nat) (y : List (List Int) × List Edg), i < y.1.length → rowS y.1 i = s → rowQ y.1 i = p →
  (∃ suf,(l.foldl (z119 B s q i (letB B s).1 (letB B s).2) y).1=y.1++suf)∧(∀ e∈y.2,e∈(l.foldl (z119 B s q i (letB B s).1 (letB B s).2) y).2) ∧
  (∀ e∈(l.foldl (z119 B s q i (letB B s).1 (letB B s).2) y).2,e∈y.2∨∃ t∈l,folB B s t=true∧EdX B U (l.foldl (z119 B s q i (letB B s).1 (letB B s).2) y).1 e i t) ∧
  (∀ t∈l,folB B s t=true→∃ e∈(l.foldl (z119 B s q i (letB B s).1 (letB B s).2) y).2,EdX B U (l.foldl (z119 B s q i (letB B s).1 (letB B s).2) y).1 e i t)
 |[],y,_,_,_=>⟨⟨[],by simp⟩,fun _ h=>h,fun _ h=>.inl h,fun _ h=>by cases h⟩
 |t::l,y,hi,h1,h2=>by
  rw [List.foldl_cons]
  by_cases hf:folB B s t=true
  ·have he:z119 B s q i (letB B s).1 (letB B s).2 y t=(z192 y.1 [(t:Int),q],y.2++[⟨i,(letB B s).1,(letB B s).2,z289 y.1 [(t:Int),q]⟩]):=if_pos hf
   obtain ⟨⟨suf,hs⟩,hg⟩:=z1090 y.1 [(t:Int),q]
   have hlt:=(z655 y.1 [(t:Int),q]).2.2
   rw [he]
   have hi2:i < (z192 y.1 [(t:Int),q]).length:=by rw [hs];simp;omega
   have r1:rowS (z192 y.1 [(t:Int),q]) i=s:=by unfold rowS;rw [hs,z316 hi];exact h1
   have r2:rowQ (z192 y.1 [(t:Int),q]) i=p:=by unfold rowQ;rw [hs,z316 hi];exact h2
   obtain ⟨⟨suf2,a1⟩,a2,a3,a4⟩:=z1157 hq l (z192 y.1 [(t:Int),q],y.2++[⟨i,(letB B s).1,(letB B s).2,z289 y.1 [(t:Int),q]⟩]) hi2 r1 r2
   have hx:EdX B U (z192 y.1 [(t:Int),q]) ⟨i,(letB B s).1,(letB B s).2,z289 y.1 [(t:Int),q]⟩ i t:=by
    refine ⟨rfl,by rw [r1],by rw [r1],z289 y.1 [(t:Int),q],rfl,hlt,?_⟩
    rw [r1,r2,hq];exact hg
   have hx2:=EdX.pre (suf:=suf2) hi2 hx
   rw [← a1] at hx2
   refine ⟨⟨suf++suf2,by rw [a1,hs,List.append_assoc]⟩,fun e h=>a2 e (List.mem_append.2 (.inl h)),fun e h=>?_,fun u hu hfu=>?_⟩
   ·rcases a3 e h with h|⟨u,hu,hfu,hxu⟩
    ·rcases List.mem_append.1 h with h|h
     ·exact .inl h
     ·rw [List.mem_singleton.1 h]
      exact .inr ⟨t,by simp,hf,hx2⟩
    ·exact .inr ⟨u,y68 _ hu,hfu,hxu⟩
   ·rcases List.mem_cons.1 hu with rfl|hu
    ·exact ⟨_,a2 _ (List.mem_append.2 (.inr (List.mem_singleton.2 rfl))),hx2⟩
    ·exact a4 u hu hfu
  ·have he:z119 B s q i (letB B s).1 (letB B s).2 y t=y:=if_neg hf
   rw [he]
   obtain ⟨a1,a2,a3,a4⟩:=z1157 hq l y hi h1 h2
   refine ⟨a1,a2,fun e h=>(a3 e h).imp id fun ⟨u,hu,h⟩=>⟨u,y68 _ hu,h⟩,fun u hu hfu=>?_⟩
   rcases List.mem_cons.1 hu with rfl|hu
   ·exact absurd hfu hf
   ·exact a4 u hu hfu
structure TInv (B:List Tree) (U:List Int) (i:Nat) (x:TrS):Prop where
 le:i≤x.L.length
 e1:∀ e∈x.ed,∃ k t:Nat,k < i∧t < 2 ^ B.length∧folB B (rowS x.L k) t=true∧EdX B U x.L e k t
 e2:∀ k t:Nat,k < i→t < 2 ^ B.length→folB B (rowS x.L k) t=true→∃ e∈x.ed,EdX B U x.L e k t
 al:x.acc.length=i
 ac:∀ k,k < i→x.acc.getD k false=(phB B U (rowS x.L k) (rowQ x.L k)).2
theorem TInv.step {B:List Tree} {U:List Int} {i:Nat} {x:TrS} (h:TInv B U i x) (hi:i < x.L.length):TInv B U (i+1) (z216 B U i x)∧∃ suf,(z216 B U i x).L=x.L++suf:=by
 have e:z216 B U i x=⟨((List.range (2 ^ B.length)).foldl (z119 B (rowS x.L i) (phB B U (rowS x.L i) (rowQ x.L i)).1 i (letB B (rowS x.L i)).1 (letB B (rowS x.L i)).2) (x.L,x.ed)).1,x.acc++[(phB B U (rowS x.L i) (rowQ x.L i)).2],((List.range (2 ^ B.length)).foldl (z119 B (rowS x.L i) (phB B U (rowS x.L i) (rowQ x.L i)).1 i (letB B (rowS x.L i)).1 (letB B (rowS x.L i)).2) (x.L,x.ed)).2⟩:=rfl
 have hx:=z1157 (B:=B) (U:=U) (s:=rowS x.L i) (p:=rowQ x.L i) (i:=i) rfl (List.range (2 ^ B.length)) (x.L,x.ed) hi rfl rfl
 rw [e]
 generalize (List.range (2 ^ B.length)).foldl (z119 B (rowS x.L i) (phB B U (rowS x.L i) (rowQ x.L i)).1 i (letB B (rowS x.L i)).1 (letB B (rowS x.L i)).2) (x.L,x.ed)=y at *
 obtain ⟨⟨suf,a1⟩,a2,a3,a4⟩:=hx
 dsimp only at a1 a2 a3 a4
 have hrow:∀ k,k < x.L.length→rowS y.1 k=rowS x.L k∧rowQ y.1 k=rowQ x.L k:=fun k hk=>by
  unfold rowS rowQ;rw [a1,z316 hk];exact ⟨rfl,rfl⟩
 have hle:=h.le
 refine ⟨⟨?_,?_,?_,?_,?_⟩,suf,a1⟩
 ·show i+1≤y.1.length;rw [a1];simp;omega
 ·intro e he
  rcases a3 e he with h1|⟨t,ht,hf,hx⟩
  ·obtain ⟨k,t,hk,ht,hf,hx⟩:=h.e1 e h1
   refine ⟨k,t,by omega,ht,?_,?_⟩
   ·show folB B (rowS y.1 k) t=true;rw [(hrow k (by omega)).1];exact hf
   ·show EdX B U y.1 e k t;rw [a1];exact hx.pre (by omega)
  ·exact ⟨i,t,by omega,List.mem_range.1 ht,by show folB B (rowS y.1 i) t=true;rw [(hrow i hi).1];exact hf,hx⟩
 ·intro k t hk ht hf
  change folB B (rowS y.1 k) t=true at hf
  by_cases hki:k=i
  ·subst hki
   rw [(hrow k hi).1] at hf
   exact a4 t (List.mem_range.2 ht) hf
  ·rw [(hrow k (by omega)).1] at hf
   obtain ⟨e,he,hx⟩:=h.e2 k t (by omega) ht hf
   exact ⟨e,a2 e he,by show EdX B U y.1 e k t;rw [a1];exact hx.pre (by omega)⟩
 ·show (x.acc++[_]).length=i+1;simp [h.al]
 ·intro k hk
  show (x.acc++[_]).getD k false=(phB B U (rowS y.1 k) (rowQ y.1 k)).2
  by_cases hki:k=i
  ·subst hki
   rw [(hrow k hi).1,(hrow k hi).2,y63,y62 (by rw [h.al];exact y47 _),h.al]
   simp
  ·rw [(hrow k (by omega)).1,(hrow k (by omega)).2,z316 (by rw [h.al];omega)]
   exact h.ac k (by omega)
structure BOk (B:List Tree):Prop where
 nd:B.Nodup
 cl:∀ x∈B,In (·∈B) x
 bk:∀ x∈B,z122 x=true
 av:∀ v,Tree.mk 2 v []∈B→0≤v∧v≤2
section
variable {B:List Tree}
theorem BOk.at_ (hB:BOk B) {x:Tree} (hx:x∈B) (hk:x.kind=2):∃ b:Nat,x=.mk 2 (b:Int) []:=by
 cases hB.cl x hx with
 |«at» v hv=>exact ⟨v.toNat,by have:=hB.av v hv;rw [Int.toNat_of_nonneg this.1]⟩
 |tr=>simp [Tree.kind] at hk
 |nt=>simp [Tree.kind] at hk
 |na v _=>simp [Tree.kind] at hk
 |an _ _=>simp [Tree.kind] at hk
 |or _ _=>simp [Tree.kind] at hk
 |nx _ _=>simp [Tree.kind] at hk
 |un _ _ _=>simp [Tree.kind] at hk
 |re _ _ _=>simp [Tree.kind] at hk
end
end Go.Gl
namespace Go.Gl
section
variable {n:Nat} {p:Nat→Nat} {F:Nat→Nat→Bool}
end
end Go.Gl
