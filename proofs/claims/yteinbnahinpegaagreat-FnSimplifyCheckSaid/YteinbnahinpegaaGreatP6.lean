/- A part of the proofs over this program: T320, T321, T322, T323, T324, T43E, T325, T326, T327, T345, T328, T329, T330, T356, T360, T361. -/
import Derived.Test.YteinbnahinpegaaGreatP5
set_option linter.all false
namespace Go.Proofs.YteinbnahinpegaaGreat
open Go.Gl Proofs.Tryz
attribute [local irreducible] z18 AWP z38 z41 z40 RetS z42
def EA (a:Aut) (p x q:Int):Prop:=∃ e∈a.ed,e.src=p∧e.dst=q∧onB e x=true
def accA (a:Aut) (q:Int):Prop:=a.acc.getD q.toNat false=true
theorem z715 {a:Aut} {w ρ:Nat→Int} : ARun a w ρ↔RunOf (EA a) (fun q=>q∈a.ini) (accA a) w ρ:=Iff.rfl
def nxA (a:Aut):List (List Int):=(List.range a.acc.length).map fun q:Nat=>(a.ed.filter fun e=>decide (e.src=(q:Int))).map Trans.dst
theorem z106 (a:Aut):(nxA a).length=a.acc.length:=by simp [nxA]
theorem nxA_at {a:Aut} {q:Nat} (h:q < a.acc.length):(nxA a).getD q []=(a.ed.filter fun e=>decide (e.src=(q:Int))).map Trans.dst:=by
 rw [z20 (by rw [z106];exact h)]
 simp [nxA]
theorem nxA_mem {a:Aut} {q:Nat} (h:q < a.acc.length) {y:Int} : y∈(nxA a).getD q []↔∃ e∈a.ed,e.src=q∧e.dst=y:=by
 rw [nxA_at h,y57]
 constructor
 ·rintro ⟨e,he,rfl⟩
  have:=List.mem_filter.1 he
  exact ⟨e,this.1,by simpa using this.2,rfl⟩
 ·rintro ⟨e,he,h1,rfl⟩
  exact ⟨e,List.mem_filter.2 ⟨he,by simpa using h1⟩,rfl⟩
theorem z621 {a:Aut} (hA:AutP a):∀ r∈nxA a,InN (nxA a).length r:=fun r hr x hx=>by
 unfold nxA at hr
 obtain ⟨q,hq,rfl⟩:=List.mem_map.1 hr
 obtain ⟨e,he,rfl⟩:=List.mem_map.1 hx
 have:=hA.2.2.2 e (List.mem_filter.1 he).1
 rw [z106]
 exact ⟨this.2.1.1,by have:=this.2.1.2;omega⟩
theorem z194 {a:Aut} (hA:AutP a):InN (nxA a).length a.ini:=fun x hx=>by
 obtain ⟨i,hi,rfl⟩:=List.mem_iff_getElem.1 hx
 have:=(hA.2.2.1 i hi hi).1
 rw [z106];omega
open Classical in
noncomputable def z181 (a:Aut) (q:Nat):Bool:=decide (∃ x,RP (nxA a) [(q:Int)] x∧Cyc (nxA a) x∧accA a x)
open Classical in
theorem z546 {a:Aut} {q:Nat} : z181 a q=true↔∃ x,RP (nxA a) [(q:Int)] x∧Cyc (nxA a) x∧accA a x:=by
 unfold z181;exact decide_eq_true_iff
open Classical in
noncomputable def z86 (a:Aut) (q:Nat):Bool:=decide (RP (nxA a) a.ini (q:Int)) && z181 a q
open Classical in
theorem z792 {a:Aut} {q:Nat} : z86 a q=true↔RP (nxA a) a.ini (q:Int)∧z181 a q=true:=by
 unfold z86;rw [y68,decide_eq_true_iff]
def nuA (k:Nat→Bool) (q:Nat):Nat:=((List.range q).filter k).length
theorem z405 (k:Nat→Bool) (q:Nat):nuA k (q+1)=nuA k q+if k q=true then 1 else 0:=by
 unfold nuA
 rw [y59,List.filter_append,y44]
 congr 1
 simp only [List.filter_cons,List.filter_nil]
 split<;>rfl
theorem nuA_le {k:Nat→Bool} {p q:Nat} (h:p≤q):nuA k p≤nuA k q:=by
  induction q with
  | zero => obtain rfl : p = 0 := by omega
            exact y49 _
  | succ q ih =>
    by_cases e:p=q+1
    · subst e;exact y49 _
    · have:=ih (by omega)
      rw [z405];omega
theorem z469 {k:Nat→Bool} {p q:Nat} (h:p < q) (hp:k p=true):nuA k p < nuA k q:=by
 have:=nuA_le (k:=k) (show p+1≤q from h)
 rw [z405,if_pos hp] at this
 omega
theorem nuA_inj {k:Nat→Bool} {p q:Nat} (hp:k p=true) (hq:k q=true) (h:nuA k p=nuA k q):p=q:=by
 rcases Nat.lt_trichotomy p q with h1|h1|h1
 ·have:=z469 h1 hp;omega
 ·exact h1
 ·have:=z469 h1 hq;omega
theorem z948 {k:Nat→Bool} {n:Nat} (h:nuA k n=n):∀ q,q < n→k q=true:=by
 induction n with
 |zero=>intro q hq;omega
 |succ n ih =>
  intro q hq
  have h1:nuA k n≤n:=by
   unfold nuA
   have:=List.length_filter_le k (List.range n)
   simpa using this
  rw [z405] at h
  split at h
  ·rename_i hk
   by_cases e:q=n
   ·subst e;exact hk
   ·exact ih (by omega) q (by omega)
  ·omega
theorem z1155 {k:Nat→Bool} {n:Nat} (h:∀ q,q < n→k q=true):nuA k n=n:=by
 induction n with
 |zero=>rfl
 |succ n ih=>rw [z405,if_pos (h n (by omega)),ih fun q hq=>h q (by omega)]
def z137 (k:Nat→Bool) (l:List Bool) (n:Nat):List Bool:=((List.range n).filter k).map fun q=>l.getD q false
theorem z102 (k:Nat→Bool) (l:List Bool) (n:Nat):(z137 k l n).length=nuA k n:=by simp [z137,nuA]
theorem z186 (k:Nat→Bool) (l:List Bool) (n:Nat):z137 k l (n+1)=z137 k l n++if k n=true then [l.getD n false] else []:=by
 unfold z137
 rw [y59,List.filter_append,y61]
 congr 1
 simp only [List.filter_cons,List.filter_nil]
 split<;>rfl
theorem z716 {k:Nat→Bool} {l:List Bool} {n q:Nat} (hq:q < n) (hk:k q=true):(z137 k l n).getD (nuA k q) false=l.getD q false:=by
 induction n with
 |zero=>omega
 |succ n ih =>
  rw [z186]
  by_cases e:q=n
  ·subst e
   rw [if_pos hk,y65,y64 (by rw [z102];exact y49 _),z102,Nat.sub_self]
   rfl
  ·have h1:=z469 (show q < n by omega) hk
   rw [y65,y63 (by rw [z102];exact h1),← y65]
   exact ih (by omega)
noncomputable def z104 (a:Aut):Aut :=
  ⟨(a.ini.filter fun q=>z86 a q.toNat).map fun q=>(nuA (z86 a) q.toNat:Int),
   if z137 (z86 a) a.acc a.acc.length=[] then [false] else z137 (z86 a) a.acc a.acc.length,
   (a.ed.filter fun e=>z86 a e.src.toNat && z86 a e.dst.toNat).map fun e=>⟨nuA (z86 a) e.src.toNat,e.care,e.val,nuA (z86 a) e.dst.toNat⟩⟩
theorem run_keep {a:Aut} (hA:AutP a) {w ρ:Nat→Int} (h:ARun a w ρ) (k:Nat):(0≤ρ k∧ρ k < a.acc.length)∧z86 a (ρ k).toNat=true:=by
 obtain ⟨h1,h2,h3⟩:=h
 have hr:=z621 hA
 have h0:=z194 hA _ h1
 have hn:=z106 a
 have hstep:∀ k,0≤ρ k∧ρ k < a.acc.length:=fun k=>by
  obtain ⟨e,he,e1,_⟩:=h2 k
  have:=(hA.2.2.2 e he).1
  rw [e1] at this
  omega
 have hnx:∀ k,ρ (k+1)∈(nxA a).getD (ρ k).toNat []:=fun k=>by
  obtain ⟨e,he,e1,e2,_⟩:=h2 k
  have hk:=hstep k
  exact (nxA_mem (by omega)).2 ⟨e,he,by omega,e2⟩
 have hrp:∀ k,RP (nxA a) a.ini (ρ k):=fun k=>by
  induction k with
  |zero=>exact .base h1
  |succ k ih=>exact .step ih (hnx k)
 refine ⟨hstep k,?_⟩
 have hk:=hstep k
 have e0:(((ρ k).toNat:Nat):Int)=ρ k:=by omega
 refine z792.2 ⟨by rw [e0];exact hrp k,z546.2 ?_⟩
 rw [e0]
 obtain ⟨j,ha,hc⟩:=z1120 hr (π:=fun i=>ρ (k+i)) (fun i=>by have:=hnx (k+i);rwa [Nat.add_assoc] at this) (by rw [hn];exact hk) (acc:=accA a) (fun m=>by
  obtain ⟨i,hi,hai⟩:=h3 (k+m)
  exact ⟨i - k,by omega,by show accA a (ρ (k+(i - k)));rw [show k+(i - k)=i by omega];exact hai⟩)
 exact ⟨ρ (k+j),z1119 hnx j k,hc,ha⟩
theorem trim_run {a:Aut} (hA:AutP a) (w:Nat→Int):(∃ ρ,ARun a w ρ)↔∃ ρ,ARun (z104 a) w ρ:=by
 have key:=part_run (E:=EA a) (ini:=fun q=>q∈a.ini) (acc:=accA a) (keep:=fun q=>(0≤q∧q < a.acc.length)∧z86 a q.toNat=true) (ν:=fun q=>(nuA (z86 a) q.toNat:Int)) (w:=w)
  (fun p q hp hq e=>by
   have e' : nuA (z86 a) p.toNat=nuA (z86 a) q.toNat:=by have e2:(nuA (z86 a) p.toNat:Int)=nuA (z86 a) q.toNat:=e;omega
   have:=nuA_inj hp.2 hq.2 e'
   omega) (fun ρ h k=>run_keep hA (z715.2 h) k)
 simp only [z715]
 rw [key]
 have hacc:∀ p:Int,((0≤p∧p < a.acc.length)∧z86 a p.toNat=true)→(accA (z104 a) (nuA (z86 a) p.toNat:Int)↔accA a p):=fun p hp=>by
  have h1:=z716 (l:=a.acc) (show p.toNat < a.acc.length by omega) hp.2
  have h2:=z469 (show p.toNat < a.acc.length by omega) hp.2
  have hne:z137 (z86 a) a.acc a.acc.length≠[]:=fun e=>by
   have:=z102 (z86 a) a.acc a.acc.length
   rw [e] at this;simp at this;omega
  unfold accA z104
  rw [if_neg hne]
  simp only [y74]
  rw [h1]
 constructor
 ·rintro ⟨ρ,h⟩
  refine ⟨ρ,h.congr ?_ ?_ ?_⟩
  ·rintro c x d ⟨p,q,hp,hq,rfl,rfl,e,he,rfl,rfl,ho⟩
   refine ⟨⟨nuA (z86 a) e.src.toNat,e.care,e.val,nuA (z86 a) e.dst.toNat⟩,?_,rfl,rfl,ho⟩
   exact List.mem_map.2 ⟨e,List.mem_filter.2 ⟨he,by rw [hp.2,hq.2];rfl⟩,rfl⟩
  ·rintro c ⟨p,hp,rfl,hi⟩
   exact List.mem_map.2 ⟨p,List.mem_filter.2 ⟨hi,hp.2⟩,rfl⟩
  ·rintro c x d _ ⟨p,hp,rfl,ha⟩
   exact (hacc p hp).2 ha
 ·rintro ⟨ρ,h⟩
  have back:∀ c x d,EA (z104 a) c x d→∃ p q,((0≤p∧p < (a.acc.length:Int))∧z86 a p.toNat=true)∧((0≤q∧q < (a.acc.length:Int))∧z86 a q.toNat=true)∧(nuA (z86 a) p.toNat:Int)=c∧(nuA (z86 a) q.toNat:Int)=d∧EA a p x q:=by
   rintro c x d ⟨e,he,rfl,rfl,ho⟩
   obtain ⟨e',he',rfl⟩:=List.mem_map.1 he
   obtain ⟨h1,h2⟩:=List.mem_filter.1 he'
   rw [y68] at h2
   have hP:=hA.2.2.2 e' h1
   exact ⟨e'.src,e'.dst,⟨⟨hP.1.1,by have:=hP.1.2;omega⟩,h2.1⟩,⟨⟨hP.2.1.1,by have:=hP.2.1.2;omega⟩,h2.2⟩,rfl,rfl,e',h1,rfl,rfl,ho⟩
  refine ⟨ρ,h.congr back ?_ ?_⟩
  ·intro c hc
   obtain ⟨p,hp,rfl⟩:=List.mem_map.1 hc
   obtain ⟨h1,h2⟩:=List.mem_filter.1 hp
   have:=z194 hA p h1
   rw [z106] at this
   exact ⟨p,⟨this,h2⟩,rfl,h1⟩
  ·intro c x d he hc
   obtain ⟨p,q,hp,_,rfl,_⟩:=back c x d he
   exact ⟨p,hp,rfl,(hacc p hp).1 hc⟩
end Go.Proofs.YteinbnahinpegaaGreat
namespace Go.Proofs.YteinbnahinpegaaGreat
open Go.Gl Proofs.Tryz
attribute [local irreducible] z18 AWP z38 z41 z40 RetS z42
def ansA (a:Aut) (R:Rel2) (i j:Nat):Bool:=(List.range 8).all fun x:Nat=>a.ed.all fun e=>!(decide (e.src=(i:Int)) && onB e (x:Int)) || a.ed.any fun f=>decide (f.src=(j:Int)) && (onB f (x:Int) && R e.dst.toNat f.dst.toNat)
theorem z354 {a:Aut} {R:Rel2} {i j:Nat} : ansA a R i j=true↔∀ x:Nat,x < 8→∀ e∈a.ed,e.src=(i:Int)→onB e (x:Int)=true→∃ f∈a.ed,f.src=(j:Int)∧onB f (x:Int)=true∧R e.dst.toNat f.dst.toNat=true:=by
 unfold ansA
 simp only [y76,y58,Bool.or_eq_true,Bool.not_eq_true',Bool.and_eq_false_iff,decide_eq_false_iff_not,List.any_eq_true,y68,decide_eq_true_eq]
 constructor
 ·intro h x hx e he h1 h2
  rcases h x hx e he with (h3|h3)|h3
  ·exact absurd h1 h3
  ·rw [h2] at h3;cases h3
  ·exact h3
 ·intro h x hx e he
  by_cases h1:e.src=(i:Int)
  ·cases h2:onB e (x:Int) with
   |true=>exact .inr (h x hx e he h1 h2)
   |false=>exact .inl (.inr rfl)
  ·exact .inl (.inl h1)
theorem z433 (a:Aut):∀ R S,LeX R S→LeX (ansA a R) (ansA a S):=fun R S h i j hij=>by
 rw [z354] at hij ⊢
 intro x hx e he h1 h2
 obtain ⟨f,hf,h3,h4,h5⟩:=hij x hx e he h1 h2
 exact ⟨f,hf,h3,h4,h _ _ h5⟩
def rel0 (a:Aut):Rel2:=fun i j=>decide (i < a.acc.length∧j < a.acc.length) && (!a.acc.getD i false || a.acc.getD j false)
theorem z401 {a:Aut} {i j:Nat} : rel0 a i j=true↔(i < a.acc.length∧j < a.acc.length)∧(a.acc.getD i false=true→a.acc.getD j false=true):=by
 unfold rel0
 rw [y68,decide_eq_true_iff]
 generalize a.acc.getD i false=x
 generalize a.acc.getD j false=y
 cases x<;>cases y<;>simp
def relA (a:Aut):Rel2:=gfX (ansA a) a.acc.length (rel0 a)
theorem z447 {a:Aut} {i j:Nat} (h:relA a i j=true):i < a.acc.length∧j < a.acc.length:=(z401.1 (z1204 _ _ h)).1
theorem z400 {a:Aut} {i j:Nat} (h:relA a i j=true):a.acc.getD i false=true→a.acc.getD j false=true:=(z401.1 (z1204 _ _ h)).2
theorem z673 {a:Aut} {i j:Nat} (h:relA a i j=true) {x:Nat} (hx:x < 8) {e:Trans} (he:e∈a.ed) (h1:e.src=(i:Int)) (h2:onB e (x:Int)=true):∃ f∈a.ed,f.src=(j:Int)∧onB f (x:Int)=true∧relA a e.dst.toNat f.dst.toNat=true :=
 z354.1 (z1206 (z447 h).1 (z447 h).2 h) x hx e he h1 h2
theorem z420 {a:Aut} (hA:AutP a) {e:Trans} (he:e∈a.ed):e.src.toNat < a.acc.length∧e.dst.toNat < a.acc.length∧((e.src.toNat:Nat):Int)=e.src∧((e.dst.toNat:Nat):Int)=e.dst:=by
 obtain ⟨h1,h2,_⟩:=hA.2.2.2 e he
 have:=hA.1
 omega
theorem z1132 {a:Aut} (hA:AutP a) {i:Nat} (hi:i < a.acc.length):relA a i i=true:=by
 refine z1205 (z433 a) (S:=fun p q=>decide (p=q∧p < a.acc.length)) (fun p q h=>?_) (fun p q h=>?_) i i (y79 ⟨rfl,hi⟩)
 ·obtain ⟨rfl,hp⟩:=of_decide_eq_true h
  exact z354.2 fun x hx e he h1 h2=>⟨e,he,h1,h2,y79 ⟨rfl,(z420 hA he).2.1⟩⟩
 ·obtain ⟨rfl,hp⟩:=of_decide_eq_true h
  exact z401.2 ⟨⟨hp,hp⟩,id⟩
theorem z261 {a:Aut} (hA:AutP a) {i j k:Nat} (h1:relA a i j=true) (h2:relA a j k=true):relA a i k=true:=by
 refine z1205 (z433 a) (S:=fun p q=>(List.range a.acc.length).any fun m=>relA a p m && relA a m q) (fun p q h=>?_) (fun p q h=>?_) i k (List.any_eq_true.2 ⟨j,List.mem_range.2 (z447 h1).2,by rw [h1,h2];rfl⟩)
 ·obtain ⟨m,hm,h⟩:=List.any_eq_true.1 h
  obtain ⟨h3,h4⟩:=Bool.and_eq_true_iff.1 h
  refine z354.2 fun x hx e he e1 e2=>?_
  obtain ⟨f,hf,f1,f2,f3⟩:=z673 h3 hx he e1 e2
  obtain ⟨g,hg,g1,g2,g3⟩:=z673 h4 hx hf f1 f2
  exact ⟨g,hg,g1,g2,List.any_eq_true.2 ⟨f.dst.toNat,List.mem_range.2 (z420 hA hf).2.1,by rw [f3,g3];rfl⟩⟩
 ·obtain ⟨m,hm,h⟩:=List.any_eq_true.1 h
  obtain ⟨h3,h4⟩:=Bool.and_eq_true_iff.1 h
  exact z401.2 ⟨⟨(z447 h3).1,(z447 h4).2⟩,fun e=>z400 h4 (z400 h3 e)⟩
def eqA (a:Aut) (i k:Nat):Bool:=relA a i k && relA a k i
def numA (a:Aut):List Int:=(numF (eqA a) a.acc.length).1
theorem z681 (a:Aut):(numA a).length=a.acc.length:=z118 _ _
theorem z947 {a:Aut} (hA:AutP a) {p q:Nat} (hp:p < a.acc.length) (hq:q < a.acc.length):(numA a).getD p 0=(numA a).getD q 0↔relA a p q=true∧relA a q p=true:=by
 have key:∀ i k,i < a.acc.length→k < a.acc.length→((List.range a.acc.length).map (eqA a k)=(List.range a.acc.length).map (eqA a i)↔eqA a i k=true):=fun i k hi hk=>by
  constructor
  ·intro h
   have:=congrArg (fun l:List Bool=>l[i]?) h
   simp only [y48,List.getElem?_range hi,Option.map_some,Option.some.injEq] at this
   have hr:eqA a i i=true:=by unfold eqA;rw [z1132 hA hi];rfl
   rw [hr] at this
   unfold eqA at this ⊢
   rwa [Bool.and_comm] at this
  ·intro h
   obtain ⟨h1,h2⟩:=Bool.and_eq_true_iff.1 h
   refine List.map_congr_left fun m _=>?_
   rw [Bool.eq_iff_iff]
   unfold eqA
   rw [y68,y68]
   exact ⟨fun ⟨x,y⟩=>⟨z261 hA h1 x,z261 hA y h2⟩,fun ⟨x,y⟩=>⟨z261 hA h2 x,z261 hA y h1⟩⟩
 have e:numA a=(numK (fun i=>(List.range a.acc.length).map (eqA a i)) a.acc.length).1:=by
  unfold numA numK
  congr 1
  refine z1017 fun i k hk hi=>?_
  rw [Bool.eq_iff_iff,decide_eq_true_iff]
  exact (key i k hi (by omega)).symm
 rw [e,z770 _ hp hq]
 rw [show ((List.range a.acc.length).map (eqA a p)=(List.range a.acc.length).map (eqA a q))↔eqA a q p=true from key q p hq hp]
 unfold eqA
 rw [y68]
 exact And.comm
def frsA (a:Aut) (q:Nat):Bool:=decide ((numA a).getD q 0=((numF (eqA a) q).2:Int))
theorem z541 {a:Aut} {q:Nat} (h:q < a.acc.length):(numA a).getD q 0=(numF (eqA a) a.acc.length).1[q]'(by rw [z118];exact h):=z20 (l:=numA a) (by rw [z681];exact h)
theorem z797 (a:Aut):∀ i,i≤a.acc.length→nuA (frsA a) i=(numF (eqA a) i).2:=fun i=>by
 induction i with
 |zero=>intro _;rfl
 |succ i ih =>
  intro hi
  have ih:=ih (by omega)
  have e:=z541 (a:=a) (q:=i) (by omega)
  rw [z405,ih]
  rcases z701 (p:=eqA a i) (i:=i) with h|⟨k,h1,h2,h3⟩
  ·obtain ⟨f1,f2⟩:=z317 (same:=eqA a) (n:=a.acc.length) (i:=i) (by omega) h
   have:frsA a i=true:=y79 (by rw [e];exact f1)
   rw [if_pos this,f2]
  ·obtain ⟨f1,f2⟩:=z263 (same:=eqA a) (n:=a.acc.length) (i:=i) (by omega) h1 h2 h3
   have hlt:=numF_lt' (same:=eqA a) (i:=i) (k:=k) (n:=a.acc.length) (by omega) h1
   have:¬ frsA a i=true:=fun hf=>by
    have:=of_decide_eq_true hf
    rw [e,f1] at this
    omega
   rw [if_neg this,f2,Nat.add_zero]
theorem frs_of (a:Aut):∀ p,p < a.acc.length→∃ q,q < a.acc.length∧frsA a q=true∧(numA a).getD q 0=(numA a).getD p 0:=fun p=>by
 induction p using Nat.strongRecOn with
 |_ p ih =>
  intro hp
  have e:=z541 (a:=a) (q:=p) hp
  rcases z701 (p:=eqA a p) (i:=p) with h|⟨k,h1,h2,h3⟩
  ·obtain ⟨f1,f2⟩:=z317 (same:=eqA a) (n:=a.acc.length) (i:=p) hp h
   exact ⟨p,hp,y79 (by rw [e];exact f1),rfl⟩
  ·obtain ⟨f1,f2⟩:=z263 (same:=eqA a) (n:=a.acc.length) (i:=p) hp h1 h2 h3
   obtain ⟨q,hq,hf,he⟩:=ih k h1 (by omega)
   exact ⟨q,hq,hf,by rw [he,e,f1,z541 (by omega)]⟩
def mvE (num:List Int) (e:Trans):Trans:=⟨pick num e.src,e.care,e.val,pick num e.dst⟩
def dedT (l:List Trans):List Trans:=l.foldl (fun out e=>if e∈out then out else out++[e]) []
theorem ded_mem {l:List Trans} : ∀ {out:List Trans} {e:Trans},e∈l.foldl (fun out e=>if e∈out then out else out++[e]) out↔e∈out∨e∈l:=fun {out e}=>by
 induction l generalizing out with
 |nil=>simp
 |cons f l ih =>
  rw [List.foldl_cons,ih,List.mem_cons]
  split
  ·rename_i h
   exact ⟨fun h'=>h'.elim .inl fun h2=>.inr (.inr h2),fun h'=>h'.elim .inl fun h2=>h2.elim (fun h3=>.inl (by rw [h3];exact h)) .inr⟩
  ·rw [y51,y52]
   exact ⟨fun h'=>h'.elim (fun h2=>h2.elim .inl fun h3=>.inr (.inl h3)) fun h2=>.inr (.inr h2),fun h'=>h'.elim (fun h2=>.inl (.inl h2)) fun h2=>h2.elim (fun h3=>.inl (.inr h3)) .inr⟩
theorem z706 {l:List Trans} {e:Trans} : e∈dedT l↔e∈l:=by
 unfold dedT;rw [ded_mem];simp
def z105 (a:Aut):Aut:=⟨z279 (a.ini.map (pick (numA a))),z137 (frsA a) a.acc a.acc.length,dedT (a.ed.map (mvE (numA a)))⟩
theorem land_mod {x c:Nat} (h:c≤7):x &&& c=(x % 8) &&& c:=by
 have h1:x % 8=x &&& 7:=(Nat.and_two_pow_sub_one_eq_mod x 3).symm
 have h2:7 &&& c=c:=by
  rw [Nat.and_comm]
  exact (Nat.and_two_pow_sub_one_eq_mod c 3).trans (Nat.mod_eq_of_lt (by omega))
 rw [h1,Nat.and_assoc,h2]
theorem z1146 {e:Trans} (h:e.care≤7) (x:Int):onB e x=onB e ((x.toNat % 8:Nat):Int):=by
 unfold onB
 rw [y74,← land_mod (show e.care.toNat≤7 by omega)]
theorem z1168 {a:Aut} (hA:AutP a) {p:Nat} (hp:p < a.acc.length):accA (z105 a) ((numA a).getD p 0)↔a.acc.getD p false=true:=by
 obtain ⟨q,hq,hf,he⟩:=frs_of a p hp
 have h1:=z716 (l:=a.acc) hq hf
 have h2:=of_decide_eq_true hf
 rw [z797 a q (by omega)] at h1
 have h3:((numA a).getD p 0).toNat=(numF (eqA a) q).2:=by rw [← he,h2,y74]
 unfold accA z105
 rw [h3,h1]
 obtain ⟨r1,r2⟩:=(z947 hA hq hp).1 he
 exact ⟨z400 r1,z400 r2⟩
theorem z1167 {a:Aut} (hA:AutP a) (w:Nat→Int):(∃ ρ,ARun a w ρ)↔∃ ρ,ARun (z105 a) w ρ:=by
 have hE:∀ p x q,EA a p x q→(0≤p∧p < a.acc.length)∧(0≤q∧q < a.acc.length):=by
  rintro p x q ⟨e,he,rfl,rfl,_⟩
  have:=hA.2.2.2 e he
  exact ⟨⟨this.1.1,by have:=this.1.2;omega⟩,this.2.1.1,by have:=this.2.1.2;omega⟩
 have hI:∀ p,p∈a.ini→(0≤p∧p < a.acc.length):=fun p hp=>by
  have:=z194 hA p hp
  rwa [z106] at this
 have key:=quot_run (E:=EA a) (ini:=fun q=>q∈a.ini) (acc:=accA a) (R:=fun p q=>relA a p.toNat q.toNat=true) (at':=pick (numA a)) (w:=w) (Q:=fun p=>0≤p∧p < a.acc.length) hE hI
  (fun p q hp hq=>z947 hA (by omega) (by omega)) (fun p q r _ _ _ h1 h2=>z261 hA h1 h2)
  (fun p p' x q hp' hR he=>by
   obtain ⟨e,he,rfl,rfl,ho⟩:=he
   have hP:=hA.2.2.2 e he
   rw [z1146 (by have:=hP.2.2.1;omega)] at ho
   obtain ⟨f,hf,f1,f2,f3⟩:=z673 hR (Nat.mod_lt _ (by decide)) he (z420 hA he).2.2.1.symm ho
   have hP':=hA.2.2.2 f hf
   rw [← z1146 (by have:=hP'.2.2.1;omega)] at f2
   exact ⟨f.dst,⟨f,hf,by rw [f1];omega,rfl,f2⟩,f3⟩)
  (fun p p' _ _ hR ha=>z400 hR ha)
 simp only [z715]
 rw [key]
 have hacc:∀ p:Int,(0≤p∧p < a.acc.length)→(accA (z105 a) (pick (numA a) p)↔accA a p):=fun p hp=>z1168 hA (show p.toNat < a.acc.length by omega)
 constructor
 ·rintro ⟨ρ,h⟩
  refine ⟨ρ,h.congr ?_ ?_ ?_⟩
  ·rintro c x d ⟨p,q,rfl,rfl,e,he,rfl,rfl,ho⟩
   exact ⟨mvE (numA a) e,z706.2 (List.mem_map.2 ⟨e,he,rfl⟩),rfl,rfl,ho⟩
  ·rintro c ⟨p,rfl,hi⟩
   exact z165.2 (List.mem_map.2 ⟨p,hi,rfl⟩)
  ·rintro c x d _ ⟨p,hp,rfl,ha⟩
   exact (hacc p hp).2 ha
 ·rintro ⟨ρ,h⟩
  have back:∀ c x d,EA (z105 a) c x d→∃ p q,pick (numA a) p=c∧pick (numA a) q=d∧EA a p x q:=by
   rintro c x d ⟨e,he,rfl,rfl,ho⟩
   obtain ⟨e',he',rfl⟩:=List.mem_map.1 (z706.1 he)
   exact ⟨e'.src,e'.dst,rfl,rfl,e',he',rfl,rfl,ho⟩
  refine ⟨ρ,h.congr back ?_ ?_⟩
  ·intro c hc
   obtain ⟨p,hp,rfl⟩:=List.mem_map.1 (z165.1 hc)
   exact ⟨p,rfl,hp⟩
  ·intro c x d he hc
   obtain ⟨p,q,rfl,_,hpq⟩:=back c x d he
   have hp:=(hE _ _ _ hpq).1
   exact ⟨p,hp,rfl,(hacc p hp).1 hc⟩
theorem asc_of {l:List Int} {n:Int} (h:IniP l n l.length):Asc l:=by
 unfold Asc
 rw [List.pairwise_iff_getElem]
 intro i j hi hj hij
 induction j with
 |zero=>omega
 |succ j ih =>
  have h1:=(h (j+1) hj hj).2 j rfl
  by_cases e:i=j
  ·subst e;exact h1
  ·exact Int.lt_trans (ih (by omega) (by omega)) h1
theorem ini_of {l:List Int} {n:Int} (h:Asc l) (hb:∀ x∈l,0≤x∧x≤n - 1):IniP l n l.length:=fun i hi _=>by
 refine ⟨hb _ (y41 _),fun j hj=>?_⟩
 exact (List.pairwise_iff_getElem.1 h) j i (by omega) hi (by omega)
theorem z1045 {l:List Int} (h:Asc l) (p:Int→Bool):Asc (l.filter p):=List.Pairwise.filter p h
theorem z159 (k:Nat→Bool) (n:Nat):nuA k n≤n:=by
 unfold nuA
 have:=List.length_filter_le k (List.range n)
 simpa using this
theorem z825 (k:Nat→Bool) (l:List Bool):∀ n,n≤l.length→(z137 k l n).count true≤(l.take n).count true:=fun n=>by
 induction n with
 |zero=>intro _;simp [z137]
 |succ n ih =>
  intro hn
  have ih:=ih (by omega)
  rw [z186,List.count_append,y47 (by omega),List.count_append,z20 (show n < l.length by omega)]
  split
  ·omega
  ·simp;omega
def muA (a:Aut):Nat:=a.acc.length+a.ed.length+a.ini.length+a.acc.count true
theorem z255 {a:Aut} (hA:AutP a):AutP (z104 a):=by
 obtain ⟨h1,h2,h3,h4⟩:=hA
 have hA:AutP a:=⟨h1,h2,h3,h4⟩
 have hn:=z159 (z86 a) a.acc.length
 have hlen:(z104 a).acc.length=if z137 (z86 a) a.acc a.acc.length=[] then 1 else nuA (z86 a) a.acc.length:=by
  unfold z104
  simp only
  split
  ·rfl
  ·exact z102 _ _ _
 have hpos:z137 (z86 a) a.acc a.acc.length≠[]→1≤nuA (z86 a) a.acc.length:=fun h=>by
  have:=List.length_pos_iff.2 h
  rw [z102] at this;exact this
 have hlt:∀ q:Int,0≤q→q < a.acc.length→z86 a q.toNat=true→((nuA (z86 a) q.toNat:Nat):Int)≤(z104 a).acc.length - 1:=fun q q0 q1 hk=>by
  have:=z469 (show q.toNat < a.acc.length by omega) hk
  rw [hlen]
  split
  ·rename_i he
   have h5:=z102 (z86 a) a.acc a.acc.length
   rw [he] at h5;simp at h5;omega
  ·omega
 refine ⟨?_,?_,?_,?_⟩
 ·rw [hlen];split
  ·omega
  ·rename_i he;have:=hpos he;omega
 ·unfold z104
  simp only [y46]
  have:=List.length_filter_le (fun e:Trans=>z86 a e.src.toNat && z86 a e.dst.toNat) a.ed
  omega
 ·refine ini_of ?_ ?_
  ·unfold z104
   refine List.Pairwise.map _ ?_ (List.Pairwise.and_mem.1 (z1045 (asc_of h3) _))
   rintro p q ⟨hp,hq,hpq⟩
   obtain ⟨p1,p2⟩:=List.mem_filter.1 hp
   have:=z194 hA p p1
   have:=z469 (k:=z86 a) (show p.toNat < q.toNat by omega) p2
   omega
  ·intro x hx
   obtain ⟨p,hp,rfl⟩:=List.mem_map.1 hx
   obtain ⟨p1,p2⟩:=List.mem_filter.1 hp
   have:=z194 hA p p1
   rw [z106] at this
   exact ⟨Int.natCast_nonneg _,hlt p this.1 this.2 p2⟩
 ·intro e he
  obtain ⟨f,hf,rfl⟩:=List.mem_map.1 he
  obtain ⟨f1,f2⟩:=List.mem_filter.1 hf
  obtain ⟨g1,g2⟩:=Bool.and_eq_true_iff.1 f2
  have hP:=h4 f f1
  exact ⟨⟨Int.natCast_nonneg _,hlt _ hP.1.1 (by have:=hP.1.2;omega) g1⟩,⟨Int.natCast_nonneg _,hlt _ hP.2.1.1 (by have:=hP.2.1.2;omega) g2⟩,hP.2.2⟩
theorem z771 {k:Nat→Bool} {n q:Nat} (h:∀ q,q < n→k q=true) (hq:q < n):nuA k q=q:=z1155 fun p hp=>h p (by omega)
theorem z983 {k:Nat→Bool} {l:List Bool} (h:∀ q,q < l.length→k q=true):z137 k l l.length=l:=by
 apply y72
 ·rw [z102,z1155 h]
 ·intro i h1 h2
  have:=z716 (l:=l) h2 (h i h2)
  rw [z771 h h2,z20 h2,z20 h1] at this
  exact this
theorem trim_or {a:Aut} (hA:AutP a):z104 a=a∨muA (z104 a) < muA a:=by
 have hn:=z159 (z86 a) a.acc.length
 have hed:=List.length_filter_le (fun e:Trans=>z86 a e.src.toNat && z86 a e.dst.toNat) a.ed
 have hin:=List.length_filter_le (fun q:Int=>z86 a q.toNat) a.ini
 have hct:=z825 (z86 a) a.acc a.acc.length (y49 _)
 rw [y53] at hct
 by_cases he:z137 (z86 a) a.acc a.acc.length=[]
 ·have h0:nuA (z86 a) a.acc.length=0:=by rw [← z102 (z86 a) a.acc,he];rfl
  have hno:∀ q,q < a.acc.length→z86 a q=false:=fun q hq=>by
   cases hk:z86 a q with
   |false=>rfl
   |true=>have:=z469 hq hk;omega
  have e1:z104 a=⟨[],[false],[]⟩:=by
   unfold z104
   rw [if_pos he]
   have x1:(a.ini.filter fun q=>z86 a q.toNat)=[]:=List.filter_eq_nil_iff.2 fun q hq=>by
    have:=z194 hA q hq
    rw [z106] at this
    rw [hno _ (by omega)];simp
   have x2:(a.ed.filter fun e=>z86 a e.src.toNat && z86 a e.dst.toNat)=[]:=List.filter_eq_nil_iff.2 fun e he=>by
    rw [hno _ (z420 hA he).1];simp
   rw [x1,x2];rfl
  have hpos:=hA.1.1
  by_cases hm:muA a=1
  ·left
   have hz:a.ed.length=0∧a.ini.length=0∧a.acc.count true=0∧a.acc.length=1:=by unfold muA at hm;omega
   obtain ⟨z1,z2,z3,z4⟩:=hz
   rw [e1]
   obtain ⟨ini,acc,ed⟩:=a
   simp only at z1 z2 z3 z4
   rw [List.length_eq_zero_iff.1 z1,List.length_eq_zero_iff.1 z2]
   obtain ⟨b,rfl⟩:=List.length_eq_one_iff.1 z4
   cases b with
   |true=>simp at z3
   |false=>rfl
  ·right
   rw [e1]
   have:muA ⟨[],[false],[]⟩=1:=rfl
   unfold muA at hm ⊢
   simp only [y55,y56] at *
   have:List.count true [false]=0:=rfl
   omega
 ·have e1:(z104 a).acc=z137 (z86 a) a.acc a.acc.length:=by unfold z104;simp only;rw [if_neg he]
  have e2:(z104 a).ed.length=(a.ed.filter fun e:Trans=>z86 a e.src.toNat && z86 a e.dst.toNat).length:=by unfold z104;simp only [y46]
  have e3:(z104 a).ini.length=(a.ini.filter fun q:Int=>z86 a q.toNat).length:=by unfold z104;simp only [y46]
  have e4:(z104 a).acc.length=nuA (z86 a) a.acc.length:=by rw [e1,z102]
  by_cases hall:nuA (z86 a) a.acc.length=a.acc.length
  ·left
   have hk:=z948 hall
   have hf1:(a.ini.filter fun q=>z86 a q.toNat)=a.ini:=List.filter_eq_self.2 fun q hq=>by
    have:=z194 hA q hq
    rw [z106] at this
    exact hk _ (by omega)
   have hf2:(a.ed.filter fun e=>z86 a e.src.toNat && z86 a e.dst.toNat)=a.ed:=List.filter_eq_self.2 fun e he=>by
    rw [hk _ (z420 hA he).1,hk _ (z420 hA he).2.1];rfl
   have x1:(z104 a).ini=a.ini:=by
    unfold z104
    simp only
    rw [hf1]
    conv=>rhs;rw [← List.map_id a.ini]
    refine List.map_congr_left fun q hq=>?_
    have:=z194 hA q hq
    rw [z106] at this
    rw [z771 hk (by omega)]
    show ((q.toNat:Nat):Int)=q
    omega
   have x2:(z104 a).ed=a.ed:=by
    unfold z104
    simp only
    rw [hf2]
    conv=>rhs;rw [← List.map_id a.ed]
    refine List.map_congr_left fun e he=>?_
    obtain ⟨y1,y2,y3,y4⟩:=z420 hA he
    rw [z771 hk y1,z771 hk y2,y3,y4]
    rfl
   have x3:(z104 a).acc=a.acc:=by rw [e1,z983 hk]
   cases h:z104 a with
   |mk i c d =>
    rw [h] at x1 x2 x3
    simp only at x1 x2 x3
    rw [x1,x2,x3]
  ·right
   unfold muA
   rw [e2,e3,e4,e1]
   omega
theorem z1232 {l:List Trans} : ∀ {out:List Trans},(l.foldl (fun out e=>if e∈out then out else out++[e]) out).length≤out.length+l.length:=fun {out}=>by
 induction l generalizing out with
 |nil=>simp
 |cons f l ih =>
  rw [List.foldl_cons]
  refine Nat.le_trans ih ?_
  split<;>simp<;>omega
theorem ded_eq {l:List Trans} : ∀ {out:List Trans},(l.foldl (fun out e=>if e∈out then out else out++[e]) out).length=out.length+l.length→l.foldl (fun out e=>if e∈out then out else out++[e]) out=out++l:=fun {out}=>by
 induction l generalizing out with
 |nil=>intro _;simp
 |cons f l ih =>
  intro h
  rw [List.foldl_cons] at h ⊢
  by_cases hf:f∈out
  ·rw [if_pos hf] at h
   have:=z1232 (l:=l) (out:=out)
   simp only [y55] at h
   omega
  ·rw [if_neg hf] at h ⊢
   rw [ih (by rw [h];simp;omega)]
   simp
theorem z422 (l:List Trans):(dedT l).length≤l.length:=by
 have:=z1232 (l:=l) (out:=[])
 unfold dedT;simpa using this
theorem dedT_eq {l:List Trans} (h:(dedT l).length=l.length):dedT l=l:=by
 unfold dedT at h ⊢
 rw [ded_eq (by simpa using h)];rfl
theorem numA_lt {a:Aut} {p:Nat} (hp:p < a.acc.length):0≤(numA a).getD p 0∧(numA a).getD p 0 < (nuA (frsA a) a.acc.length:Int):=by
 rw [z797 a _ (y49 _)]
 exact (z872 (eqA a) a.acc.length).1 _ (by
  show (numA a).getD p 0∈(numA a)
  rw [z20 (by rw [z681];exact hp)]
  exact y41 _)
theorem z523 (l:List Int):(z279 l).length≤l.length:=by
 unfold z279 Lib.compact
 have:∀ (z:List Int) m,(Lib.compactUpTo z.toArray m).length≤m:=by
  intro z m
  induction m with
  |zero=>simp [Lib.compactUpTo]
  |succ m ih=>rw [Lib.compactUpTo_succ];split<;>simp<;>omega
 have:=this (l.mergeSort fun x y=>decide (x≤y)) (l.mergeSort fun x y=>decide (x≤y)).length
 rw [List.length_mergeSort] at this
 rw [List.length_mergeSort];exact this
theorem z775 (a:Aut):(z105 a).acc.length=nuA (frsA a) a.acc.length:=z102 _ _ _
theorem z878 {a:Aut} (hA:AutP a):AutP (z105 a):=by
 have hn:=z159 (frsA a) a.acc.length
 have h1:=hA.1
 have hl:=z775 a
 have hb:∀ p:Int,0≤p→p < a.acc.length→0≤pick (numA a) p∧pick (numA a) p≤(z105 a).acc.length - 1:=fun p h0 h2=>by
  have:=numA_lt (a:=a) (p:=p.toNat) (by omega)
  unfold pick
  rw [hl]
  omega
 refine ⟨⟨?_,by omega⟩,?_,?_,?_⟩
 ·have:=hb 0 (by omega) (by omega)
  omega
 ·have:=z422 (a.ed.map (mvE (numA a)))
  have h2:=hA.2.1
  show (dedT (a.ed.map (mvE (numA a)))).length≤2048
  simp only [y46] at this
  omega
 ·refine ini_of (z312 _) fun x hx=>?_
  obtain ⟨p,hp,rfl⟩:=List.mem_map.1 (z165.1 hx)
  have:=z194 hA p hp
  rw [z106] at this
  exact hb p this.1 this.2
 ·intro e he
  obtain ⟨f,hf,rfl⟩:=List.mem_map.1 (z706.1 he)
  have hP:=hA.2.2.2 f hf
  exact ⟨hb _ hP.1.1 (by have:=hP.1.2;omega),hb _ hP.2.1.1 (by have:=hP.2.1.2;omega),hP.2.2⟩
theorem z953 {a:Aut} (hA:AutP a):z105 a=a∨muA (z105 a) < muA a:=by
 have hn:=z159 (frsA a) a.acc.length
 have hl:=z775 a
 have hed:=z422 (a.ed.map (mvE (numA a)))
 have hin:=z523 (a.ini.map (pick (numA a)))
 have hct:=z825 (frsA a) a.acc a.acc.length (y49 _)
 rw [y53] at hct
 simp only [y46] at hed hin
 have x1:(z105 a).ed=dedT (a.ed.map (mvE (numA a))):=rfl
 have x2:(z105 a).ini=z279 (a.ini.map (pick (numA a))):=rfl
 have x3:(z105 a).acc=z137 (frsA a) a.acc a.acc.length:=rfl
 by_cases hall:nuA (frsA a) a.acc.length=a.acc.length
 ·have hk:=z948 hall
  have hid:∀ q,q < a.acc.length→(numA a).getD q 0=(q:Int):=fun q hq=>by
   have h1:=of_decide_eq_true (hk q hq)
   rw [h1,← z797 a q (by omega),z771 hk hq]
  have hini:a.ini.map (pick (numA a))=a.ini:=by
   conv=>rhs;rw [← List.map_id a.ini]
   refine List.map_congr_left fun q hq=>?_
   have:=z194 hA q hq
   rw [z106] at this
   unfold pick
   rw [hid _ (by omega)]
   show ((q.toNat:Nat):Int)=q
   omega
  have hedm:a.ed.map (mvE (numA a))=a.ed:=by
   conv=>rhs;rw [← List.map_id a.ed]
   refine List.map_congr_left fun e he=>?_
   obtain ⟨y1,y2,y3,y4⟩:=z420 hA he
   unfold mvE pick
   rw [hid _ y1,hid _ y2,y3,y4]
   rfl
  have hs:z279 a.ini=a.ini:=z575 (z312 _) (asc_of hA.2.2.1) fun x=>z165
  have hacc:(z105 a).acc=a.acc:=by rw [x3,z983 hk]
  by_cases hd:(dedT a.ed).length=a.ed.length
  ·left
   have:=dedT_eq hd
   cases h:z105 a with
   |mk i c d =>
    rw [h] at x1 x2 hacc
    simp only at x1 x2 hacc
    rw [x1,x2,hacc,hini,hedm,hs,this]
  ·right
   have h5:=z422 a.ed
   unfold muA
   rw [x1,x2,hacc,hini,hedm,hs]
   omega
 ·right
  unfold muA
  rw [hl,x1,x2,x3]
  omega
noncomputable def z376 (a:Aut):Aut:=z105 (z104 a)
theorem z139 {a:Aut} (hA:AutP a):AutP (z376 a):=z878 (z255 hA)
theorem z390 {a:Aut} (hA:AutP a):z376 a=a∨muA (z376 a) < muA a:=by
 unfold z376
 rcases trim_or hA with h|h
 ·rw [h];exact z953 hA
 ·rcases z953 (z255 hA) with h2|h2
  ·rw [h2];exact .inr h
  ·exact .inr (by omega)
theorem z1097 {a:Aut} (hA:AutP a) (w:Nat→Int):(∃ ρ,ARun a w ρ)↔∃ ρ,ARun (z376 a) w ρ:=(trim_run hA w).trans (z1167 (z255 hA) w)
noncomputable def itS:Nat→Aut→Aut
 |0,a=>a
 |k+1,a=>itS k (z376 a)
noncomputable def smpA (a:Aut):Aut:=itS (muA a) a
theorem z321 {a:Aut} (h:z376 a=a):∀ k,itS k a=a
 |0=>rfl
 |k+1=>by show itS k (z376 a)=a;rw [h];exact z321 h k
theorem itS_more {k:Nat} : ∀ {m:Nat} {a:Aut},AutP a→muA a≤k→k≤m→itS m a=itS k a:=by
 induction k with
 |zero =>
  intro m a hA h0 _
  rcases z390 hA with h|h
  ·exact z321 h m
  ·omega
 |succ k ih =>
  intro m a hA hk hm
  match m,hm with
  |m+1,hm =>
   rcases z390 hA with h|h
   ·rw [z321 h,z321 h]
   ·exact ih (z139 hA) (by omega) (by omega)
theorem z742 {a:Aut} (h:z376 a=a):smpA a=a:=z321 h _
theorem z743 {a:Aut} (hA:AutP a):smpA a=smpA (z376 a):=by
 rcases z390 hA with h|h
 ·rw [h]
 ·unfold smpA
  have h1:=itS_more (k:=muA (z376 a)) (m:=muA a - 1) (z139 hA) (y49 _) (by omega)
  rw [← h1]
  show itS (muA a) a=itS (muA a - 1+1) a
  rw [Nat.sub_add_cancel (by omega)]
theorem z554:∀ (k:Nat) {a:Aut},AutP a→AutP (itS k a)
 |0,_,h=>h
 |k+1,_,h=>z554 k (z139 h)
theorem z892 (w:Nat→Int):∀ (k:Nat) {a:Aut},AutP a→((∃ ρ,ARun a w ρ)↔∃ ρ,ARun (itS k a) w ρ)
 |0,_,_=>Iff.rfl
 |k+1,_,h=>(z1097 h w).trans (z892 w k (z139 h))
theorem z744 {g:Graph} {l:List Tree} {a:Aut} (hg:glB g l=true) (ha:autB a=true):(ftO g l (smpA a)).isSome=(ftO g l a).isSome:=by
 have hA:=z153.1 ha
 have hB:autB (smpA a)=true:=z153.2 (z554 _ hA)
 rw [Bool.eq_iff_iff,z1207 (by rw [hg,hB];rfl),z1207 (by rw [hg,ha];rfl)]
 constructor
 ·rintro ⟨π,ρ,h1,h2⟩
  obtain ⟨ρ',h3⟩:=(z892 (gW g l π) (muA a) hA).2 ⟨ρ,h2⟩
  exact ⟨π,ρ',h1,h3⟩
 ·rintro ⟨π,ρ,h1,h2⟩
  obtain ⟨ρ',h3⟩:=(z892 (gW g l π) (muA a) hA).1 ⟨ρ,h2⟩
  exact ⟨π,ρ',h1,h3⟩
theorem z1223 (a b:List Int) (ha:a.length≤maxLen) (hb:b.length≤maxLen):QQ 26 [ints a,ints b] [] (.bool (decide (a=b))) []:=by
 unfold maxLen at ha hb
 refine z16 z24 func26 rfl rfl 26 ntmps26 (by simp) ?_
 by_cases hl:a.length=b.length
 ·repeat' (first|apply y6 ok;rfl;conv=>whnf|apply z35<;>intro _<;>conv=>whnf)
  all_goals try (exfalso;omega)
  refine z111 (fun k:Nat=>([(0,ints a),(1,ints b),(12,.int a.length),(13,.int k)],[])) (fun k=>k≤a.length∧a.take k=b.take k) (fun k=>a.length - k) 0 (by simp) ⟨[],rfl,by decide,rfl,⟨⟨rfl,rfl⟩,⟨rfl,rfl⟩,⟨rfl,rfl⟩,⟨rfl,rfl⟩,trivial⟩,trivial⟩ ?_
  rintro k ⟨hk1,hk2⟩
  by_cases hkl:k < a.length
  ·have hkb:k < b.length:=by omega
   by_cases he:a[k]=b[k]
   ·repeat' (first|apply y6 ok;rfl;conv=>whnf|apply z27;kernel_rfl;conv=>whnf|apply y40;(first|omega|unfold inI;omega);conv=>whnf|with_reducible apply z13;omega;intro _;conv=>whnf|apply z7<;>intro _<;>conv=>whnf|apply z35<;>intro _<;>conv=>whnf)
    all_goals try (exfalso;omega)
    refine z92 (k+1) [] ⟨by omega,?_⟩ (by omega) ⟨rfl,by decide,rfl,⟨⟨rfl,rfl⟩,⟨rfl,rfl⟩,⟨rfl,rfl⟩,⟨rfl,rfl⟩,trivial⟩,trivial⟩
    rw [y47 hkl,y47 hkb,hk2,he]
   ·have hne:a≠b:=by rintro rfl;exact he rfl
    repeat' (first|apply y6 ok;rfl;conv=>whnf|apply z27;kernel_rfl;conv=>whnf|apply y40;(omega);conv=>whnf|with_reducible apply z13;omega;intro _;conv=>whnf|apply z7<;>intro _<;>conv=>whnf|apply z35<;>intro _<;>conv=>whnf)
    all_goals try (exfalso;omega)
    exact z34 rfl (y80 hne)
  ·repeat' (first|apply y6 ok;rfl;conv=>whnf|apply z27;kernel_rfl;conv=>whnf|apply y40;(omega);conv=>whnf|with_reducible apply z13;omega;intro _;conv=>whnf|apply z7<;>intro _<;>conv=>whnf|apply z35<;>intro _<;>conv=>whnf)
   all_goals try (exfalso;omega)
   rw [y54 (by omega),y54 (by omega)] at hk2
   exact z34 rfl (y79 hk2)
 ·have hne:a≠b:=by rintro rfl;exact hl rfl
  repeat' (first|apply y6 ok;rfl;conv=>whnf|apply z35<;>intro _<;>conv=>whnf)
  all_goals try (exfalso;omega)
  exact z34 rfl (y80 hne)
set_option maxRecDepth 20000 in
theorem z695:KeyT prog 91 4:=by
 refine ⟨by kernel_rfl,by kernel_rfl,?_,by kernel_rfl⟩
 intro i f h
 unfold Program.fieldsOf at h
 rw [underlying91] at h
 match i,h with
 |0,h=>cases h;exact ⟨by decide,rfl,underlying3⟩
 |1,h=>cases h;exact ⟨by decide,rfl,underlying3⟩
 |2,h=>cases h;exact ⟨by decide,rfl,underlying3⟩
 |3,h=>cases h;exact ⟨by decide,rfl,underlying3⟩
 |i+4,h=>simp at h
theorem z1225:Program.eqGuardType prog (Program.depth prog) 91=false:=by kernel_rfl
def Trans.l (t:Trans):List Int:=[t.src,t.care,t.val,t.dst]
theorem Trans.l_inj {s t:Trans} : s.l=t.l↔s=t:=by
 constructor
 ·intro h
  cases s;cases t
  simp only [Trans.l,List.cons.injEq,and_true] at h
  obtain ⟨h1,h2,h3,h4⟩:=h
  subst h1 h2 h3 h4;rfl
 ·intro h;rw [h]
theorem z1224 (a b:List Bool) (ha:a.length≤maxLen) (hb:b.length≤maxLen):QQ 51 [lst 1 enB a,lst 1 enB b] [] (.bool (decide (a=b))) []:=by
 unfold maxLen at ha hb
 refine z16 z24 func51 rfl rfl 26 ntmps51 (by simp) ?_
 by_cases hl:a.length=b.length
 ·repeat' (first|apply y6 ok;rfl;conv=>whnf|apply z27;kernel_rfl;conv=>whnf|apply y40;(first|omega|unfold inI;omega|dsimp only;omega|unfold z129;omega|(try dsimp only);simp only [y46,y45,y44,y43,y55,y56];omega|(simp only [z150] at *;first|omega|unfold inI;omega|unfold z129;omega)|exact z49 (fun _=>rfl)|exact ⟨rfl,z17 rfl z26⟩|exact ⟨rfl,z49 (fun _=>rfl) _⟩|exact ⟨⟨rfl,by omega⟩,z49 (fun _=>rfl) _⟩);conv=>whnf|with_reducible apply z13;omega;intro _;conv=>whnf|with_reducible apply z79;omega;intro _;conv=>whnf|apply z13;omega;intro _;conv=>whnf|apply z124;omega;conv=>whnf|apply z107;conv=>whnf|apply z171;omega;intro _;conv=>whnf|apply z217<;>intro _<;>conv=>whnf|apply z163<;>intro _<;>conv=>whnf|apply z216<;>intro _<;>conv=>whnf|apply z298<;>intro _<;>conv=>whnf|apply z7<;>intro _<;>conv=>whnf|apply z35<;>intro _<;>conv=>whnf|apply z82<;>intro _<;>conv=>whnf|apply z83<;>intro _<;>conv=>whnf)
  all_goals try (exfalso;omega)
  refine z111 (fun k:Nat=>([(0,lst 1 enB a),(1,lst 1 enB b),(12,.int a.length),(13,.int k)],[])) (fun k=>k≤a.length∧a.take k=b.take k) (fun k=>a.length - k) 0 (by simp) ⟨[],rfl,by decide,rfl,⟨⟨rfl,rfl⟩,⟨rfl,rfl⟩,⟨rfl,rfl⟩,⟨rfl,rfl⟩,trivial⟩,trivial⟩ ?_
  rintro k ⟨hk1,hk2⟩
  by_cases hkl:k < a.length
  ·have hkb:k < b.length:=by omega
   by_cases he:a[k]=b[k]
   ·repeat' (first|apply y6 ok;rfl;conv=>whnf|apply z27;kernel_rfl;conv=>whnf|apply y40;(first|omega|unfold inI;omega|dsimp only;omega|unfold z129;omega|(try dsimp only);simp only [y46,y45,y44,y43,y55,y56];omega|(simp only [z150] at *;first|omega|unfold inI;omega|unfold z129;omega)|exact z49 (fun _=>rfl)|exact ⟨rfl,z17 rfl z26⟩|exact ⟨rfl,z49 (fun _=>rfl) _⟩|exact ⟨⟨rfl,by omega⟩,z49 (fun _=>rfl) _⟩);conv=>whnf|with_reducible apply z13;omega;intro _;conv=>whnf|with_reducible apply z79;omega;intro _;conv=>whnf|apply z13;omega;intro _;conv=>whnf|apply z124;omega;conv=>whnf|apply z107;conv=>whnf|apply z171;omega;intro _;conv=>whnf|apply z217<;>intro _<;>conv=>whnf|apply z163<;>intro _<;>conv=>whnf|apply z216<;>intro _<;>conv=>whnf|apply z298<;>intro _<;>conv=>whnf|apply z7<;>intro _<;>conv=>whnf|apply z35<;>intro _<;>conv=>whnf|apply z82<;>intro _<;>conv=>whnf|apply z83<;>intro _<;>conv=>whnf)
    all_goals first|kernel_rfl|exfalso;omega|exfalso;simp_all;done|skip
    refine z92 (k+1) [] ⟨by omega,?_⟩ (by omega) ⟨rfl,by decide,rfl,⟨⟨rfl,rfl⟩,⟨rfl,rfl⟩,⟨rfl,rfl⟩,⟨rfl,rfl⟩,trivial⟩,trivial⟩
    rw [y47 hkl,y47 hkb,hk2,he]
   ·have hne:a≠b:=by rintro rfl;exact he rfl
    repeat' (first|apply y6 ok;rfl;conv=>whnf|apply z27;kernel_rfl;conv=>whnf|apply y40;(first|omega|unfold inI;omega|dsimp only;omega|unfold z129;omega|(try dsimp only);simp only [y46,y45,y44,y43,y55,y56];omega|(simp only [z150] at *;first|omega|unfold inI;omega|unfold z129;omega)|exact z49 (fun _=>rfl)|exact ⟨rfl,z17 rfl z26⟩|exact ⟨rfl,z49 (fun _=>rfl) _⟩|exact ⟨⟨rfl,by omega⟩,z49 (fun _=>rfl) _⟩);conv=>whnf|with_reducible apply z13;omega;intro _;conv=>whnf|with_reducible apply z79;omega;intro _;conv=>whnf|apply z13;omega;intro _;conv=>whnf|apply z124;omega;conv=>whnf|apply z107;conv=>whnf|apply z171;omega;intro _;conv=>whnf|apply z217<;>intro _<;>conv=>whnf|apply z163<;>intro _<;>conv=>whnf|apply z216<;>intro _<;>conv=>whnf|apply z298<;>intro _<;>conv=>whnf|apply z7<;>intro _<;>conv=>whnf|apply z35<;>intro _<;>conv=>whnf|apply z82<;>intro _<;>conv=>whnf|apply z83<;>intro _<;>conv=>whnf)
    all_goals first|kernel_rfl|exfalso;omega|exfalso;simp_all;done|skip
    exact z34 rfl (y80 hne)
  ·repeat' (first|apply y6 ok;rfl;conv=>whnf|apply z27;kernel_rfl;conv=>whnf|apply y40;(first|omega|unfold inI;omega|dsimp only;omega|unfold z129;omega|(try dsimp only);simp only [y46,y45,y44,y43,y55,y56];omega|(simp only [z150] at *;first|omega|unfold inI;omega|unfold z129;omega)|exact z49 (fun _=>rfl)|exact ⟨rfl,z17 rfl z26⟩|exact ⟨rfl,z49 (fun _=>rfl) _⟩|exact ⟨⟨rfl,by omega⟩,z49 (fun _=>rfl) _⟩);conv=>whnf|with_reducible apply z13;omega;intro _;conv=>whnf|with_reducible apply z79;omega;intro _;conv=>whnf|apply z13;omega;intro _;conv=>whnf|apply z124;omega;conv=>whnf|apply z107;conv=>whnf|apply z171;omega;intro _;conv=>whnf|apply z217<;>intro _<;>conv=>whnf|apply z163<;>intro _<;>conv=>whnf|apply z216<;>intro _<;>conv=>whnf|apply z298<;>intro _<;>conv=>whnf|apply z7<;>intro _<;>conv=>whnf|apply z35<;>intro _<;>conv=>whnf|apply z82<;>intro _<;>conv=>whnf|apply z83<;>intro _<;>conv=>whnf)
   all_goals try (exfalso;omega)
   rw [y54 (by omega),y54 (by omega)] at hk2
   exact z34 rfl (y79 hk2)
 ·have hne:a≠b:=by rintro rfl;exact hl rfl
  repeat' (first|apply y6 ok;rfl;conv=>whnf|apply z27;kernel_rfl;conv=>whnf|apply y40;(first|omega|unfold inI;omega|dsimp only;omega|unfold z129;omega|(try dsimp only);simp only [y46,y45,y44,y43,y55,y56];omega|(simp only [z150] at *;first|omega|unfold inI;omega|unfold z129;omega)|exact z49 (fun _=>rfl)|exact ⟨rfl,z17 rfl z26⟩|exact ⟨rfl,z49 (fun _=>rfl) _⟩|exact ⟨⟨rfl,by omega⟩,z49 (fun _=>rfl) _⟩);conv=>whnf|with_reducible apply z13;omega;intro _;conv=>whnf|with_reducible apply z79;omega;intro _;conv=>whnf|apply z13;omega;intro _;conv=>whnf|apply z124;omega;conv=>whnf|apply z107;conv=>whnf|apply z171;omega;intro _;conv=>whnf|apply z217<;>intro _<;>conv=>whnf|apply z163<;>intro _<;>conv=>whnf|apply z216<;>intro _<;>conv=>whnf|apply z298<;>intro _<;>conv=>whnf|apply z7<;>intro _<;>conv=>whnf|apply z35<;>intro _<;>conv=>whnf|apply z82<;>intro _<;>conv=>whnf|apply z83<;>intro _<;>conv=>whnf)
  all_goals try (exfalso;omega)
  exact z34 rfl (y80 hne)
set_option maxRecDepth 20000 in
set_option maxHeartbeats 1600000 in
theorem z1222 (a b:List Trans) (ha:a.length≤maxLen) (hb:b.length≤maxLen):QQ 52 [lst 4 Trans.cs a,lst 4 Trans.cs b] [] (.bool (decide (a=b))) []:=by
 unfold maxLen at ha hb
 have ke:=z695
 have ge:=z1225
 refine z16 z24 func52 rfl rfl 26 ntmps52 (by simp) ?_
 by_cases hl:a.length=b.length
 ·repeat' ((first|apply y6 ok;rfl|apply z27;kernel_rfl|(apply y40;first|omega|unfold inI;omega|dsimp only;omega|(try dsimp only);simp only [y46,y45,y44,y43,y55,y56];omega|exact z49 (fun _=>rfl)|exact ⟨rfl,z17 rfl z26⟩|exact ⟨rfl,z49 (fun _=>rfl) _⟩|exact ⟨⟨rfl,by omega⟩,z49 (fun _=>rfl) _⟩)|(first|with_reducible apply z13;omega|with_reducible apply z79;omega|apply z13;omega);intro _|apply z124;omega|apply z107|apply z171;omega;intro _|(first|apply z217|apply z163|apply z216|apply z298|apply z7|apply z35|apply z82|apply z83)<;>intro _)<;>conv=>whnf)
  all_goals try (exfalso;omega)
  refine z111 (fun k:Nat=>([(0,lst 4 Trans.cs a),(1,lst 4 Trans.cs b),(12,.int a.length),(13,.int k)],[])) (fun k=>k≤a.length∧a.take k=b.take k) (fun k=>a.length - k) 0 (by simp) ⟨[],rfl,by decide,rfl,by repeat' (first|exact True.intro|exact ⟨rfl,rfl⟩|apply y40),by repeat' (first|exact True.intro|exact z43 rfl rfl|exact z37 (by rfl) (by (first|exact z39|exact z54 rfl|exact z6 (fun _=>rfl)|exact z6 y17|apply z90<;>(first|exact z54 rfl|exact z6 (fun _=>rfl))|assumption))|apply y40)⟩ ?_
  rintro k ⟨hk1,hk2⟩
  by_cases hkl:k < a.length
  ·have hkb:k < b.length:=by omega
   have g1:(a.map Trans.cs)[k]?=some (Trans.cs a[k]):=by rw [y48,y42 hkl];rfl
   have g2:(b.map Trans.cs)[k]?=some (Trans.cs b[k]):=by rw [y48,y42 hkb];rfl
   have e1:=y47 hkl
   have e2:=y47 hkb
   have hne:a[k]≠b[k]→a≠b:=fun h e=>by subst e;exact h rfl
   generalize a[k]=s at *
   generalize b[k]=t at *
   by_cases he:s=t
   ·repeat' ((first|apply y6 ok;rfl|apply z27;kernel_rfl|refine z14 (i:=k) rfl g1 ?_|refine z14 (i:=k) rfl g2 ?_|refine y40 ge ?_|refine y40 ke ?_|(apply y40;first|omega|unfold inI;omega|dsimp only;omega|(try dsimp only);simp only [y46,y45,y44,y43,y55,y56];omega|exact z49 (fun _=>rfl)|exact ⟨rfl,z17 rfl z26⟩|exact ⟨rfl,z49 (fun _=>rfl) _⟩|exact ⟨⟨rfl,by omega⟩,z49 (fun _=>rfl) _⟩)|(first|with_reducible apply z13;omega|with_reducible apply z79;omega|apply z13;omega);intro _|apply z124;omega|apply z107|apply z171;omega;intro _|(first|apply z217|apply z163|apply z216|apply z298|apply z7|apply z35|apply z82|apply z83)<;>intro _)<;>conv=>whnf)
    all_goals first|exfalso;omega|exfalso;subst he;exact absurd rfl (by assumption)|skip
    all_goals exact z92 (k+1) [] ⟨by omega,by rw [e1,e2,hk2,he]⟩ (by omega) ⟨rfl,by decide,rfl,by repeat' (first|exact True.intro|exact ⟨rfl,rfl⟩|apply y40),by repeat' (first|exact True.intro|exact z43 rfl rfl|exact z37 (by rfl) (by (first|exact z39|exact z54 rfl|exact z6 (fun _=>rfl)|exact z6 y17|apply z90<;>(first|exact z54 rfl|exact z6 (fun _=>rfl))|assumption))|apply y40)⟩
   ·repeat' ((first|apply y6 ok;rfl|apply z27;kernel_rfl|refine z14 (i:=k) rfl g1 ?_|refine z14 (i:=k) rfl g2 ?_|refine y40 ge ?_|refine y40 ke ?_|(apply y40;first|omega|unfold inI;omega|dsimp only;omega|(try dsimp only);simp only [y46,y45,y44,y43,y55,y56];omega|exact z49 (fun _=>rfl)|exact ⟨rfl,z17 rfl z26⟩|exact ⟨rfl,z49 (fun _=>rfl) _⟩|exact ⟨⟨rfl,by omega⟩,z49 (fun _=>rfl) _⟩)|(first|with_reducible apply z13;omega|with_reducible apply z79;omega|apply z13;omega);intro _|apply z124;omega|apply z107|apply z171;omega;intro _|(first|apply z217|apply z163|apply z216|apply z298|apply z7|apply z35|apply z82|apply z83)<;>intro _)<;>conv=>whnf)
    all_goals first|exfalso;omega|exfalso;exact he (Trans.l_inj.1 (by assumption))|skip
    all_goals exact z34 rfl (y80 (hne he))
  ·repeat' ((first|apply y6 ok;rfl|apply z27;kernel_rfl|(apply y40;first|omega|unfold inI;omega|dsimp only;omega|(try dsimp only);simp only [y46,y45,y44,y43,y55,y56];omega|exact z49 (fun _=>rfl)|exact ⟨rfl,z17 rfl z26⟩|exact ⟨rfl,z49 (fun _=>rfl) _⟩|exact ⟨⟨rfl,by omega⟩,z49 (fun _=>rfl) _⟩)|(first|with_reducible apply z13;omega|with_reducible apply z79;omega|apply z13;omega);intro _|apply z124;omega|apply z107|apply z171;omega;intro _|(first|apply z217|apply z163|apply z216|apply z298|apply z7|apply z35|apply z82|apply z83)<;>intro _)<;>conv=>whnf)
   all_goals try (exfalso;omega)
   rw [y54 (by omega),y54 (by omega)] at hk2
   exact z34 rfl (y79 hk2)
 ·have hne:a≠b:=by rintro rfl;exact hl rfl
  repeat' ((first|apply y6 ok;rfl|apply z27;kernel_rfl|(apply y40;first|omega|unfold inI;omega|dsimp only;omega|(try dsimp only);simp only [y46,y45,y44,y43,y55,y56];omega|exact z49 (fun _=>rfl)|exact ⟨rfl,z17 rfl z26⟩|exact ⟨rfl,z49 (fun _=>rfl) _⟩|exact ⟨⟨rfl,by omega⟩,z49 (fun _=>rfl) _⟩)|(first|with_reducible apply z13;omega|with_reducible apply z79;omega|apply z13;omega);intro _|apply z124;omega|apply z107|apply z171;omega;intro _|(first|apply z217|apply z163|apply z216|apply z298|apply z7|apply z35|apply z82|apply z83)<;>intro _)<;>conv=>whnf)
  all_goals try (exfalso;omega)
  exact z34 rfl (y80 hne)
theorem z1261 (a b:Aut):decide (a=b)=(decide (a.ini=b.ini) && (decide (a.acc=b.acc) && decide (a.ed=b.ed))):=by
 rw [Bool.eq_iff_iff,y68,y68,decide_eq_true_iff,decide_eq_true_iff,decide_eq_true_iff,decide_eq_true_iff]
 constructor
 ·rintro rfl;exact ⟨rfl,rfl,rfl⟩
 ·rintro ⟨h1,h2,h3⟩
  cases a;cases b
  simp only at h1 h2 h3
  subst h1 h2 h3;rfl
theorem z368 (a b:Aut) (ha:a.mx) (hb:b.mx):QQ 14 [.agg a.cs,.agg b.cs] [] (.bool (decide (a=b))) []:=by
 have c1:=z1223 a.ini b.ini ha.1 hb.1
 have c2:=z1224 a.acc b.acc ha.2.1 hb.2.1
 have c3:=z1222 a.ed b.ed ha.2.2.1 hb.2.2.1
 rw [z1261]
 generalize decide (a.ini=b.ini)=b1 at *
 generalize decide (a.acc=b.acc)=b2 at *
 generalize decide (a.ed=b.ed)=b3 at *
 refine z16 z24 func14 rfl rfl 24 ntmps14 (by simp) ?_
 cases b1<;>cases b2<;>cases b3
 all_goals
  repeat' ((first|apply y6 ok;rfl|apply z27;kernel_rfl|(apply y40;first|omega|unfold inI;omega|dsimp only;omega|(try dsimp only);simp only [y46,y45,y44,y43,y55,y56];omega|exact z49 (fun _=>rfl)|exact ⟨rfl,z17 rfl z26⟩|exact ⟨rfl,z49 (fun _=>rfl) _⟩|exact ⟨⟨rfl,by omega⟩,z49 (fun _=>rfl) _⟩)|(first|with_reducible apply z13;omega|with_reducible apply z79;omega|apply z13;omega);intro _|apply z124;omega|apply z107|apply z171;omega;intro _|(first|apply z217|apply z163|apply z216|apply z298|apply z7|apply z35|apply z82|apply z83)<;>intro _|apply z8 c1;rfl;rfl|apply z8 c2;rfl;rfl|apply z8 c3;rfl;rfl)<;>conv=>whnf)
  all_goals first|exfalso;contradiction|exact z34 rfl rfl
set_option maxHeartbeats 1600000 in
theorem z599 (a:Aut) (hA:AutP a):QQ 163 [.agg a.cs] [] (.sref 0 0 a.acc.length) [.cells 1 ((z68 a).map ownEd)]:=by
 obtain ⟨⟨a1,a2⟩,a3,a4,a5⟩:=hA
 refine z16 z24 func163 rfl rfl 41 ntmps163 (by simp) ?_
 repeat' (first|apply y6 ok;rfl;conv=>whnf|apply y40;((dsimp only;omega));conv=>whnf)
 refine y82 (Gl.Reach.weaken (es':=List.replicate a.acc.length [.own 4 []]) 1 rfl (by rw [y43,y43];rfl) z221 rfl) ?_
 conv=>whnf
 refine z111 (fun k:Nat=>([(1,.ptr 0 none 0),(3,.sref 1 0 a.acc.length),(4,.int k)],[.cells 3 [[lst 1 enI a.ini,lst 1 enB a.acc,lst 4 Trans.cs a.ed]],.cells 1 ((z98 a.acc.length ((a.ed.take k).map fun e=>(e.src.toNat,e))).map (ownG 4 Trans.cs))])) (fun k=>k≤a.ed.length) (fun k=>a.ed.length - k) 0 (by omega)
  ⟨[0,1],rfl,by decide,rfl,⟨⟨rfl,rfl⟩,⟨rfl,rfl⟩,⟨rfl,rfl⟩,trivial⟩,⟨z43 rfl rfl,z37 (z45 (z532 _ _ _).symm) (z6 fun _=>rfl),trivial⟩⟩ ?_
 intro k hk
 repeat' (first|(fail_if_success apply z122 5);(fail_if_success apply z96 5);(fail_if_success apply z122 6);(fail_if_success apply z96 6);apply y6 ok;rfl;conv=>whnf|apply z7<;>intro _<;>conv=>whnf)
 ·have hkl:k < a.ed.length:=by omega
  have he:=a5 a.ed[k] (y41 hkl)
  unfold z205 at he
  have hlt:a.ed[k].src.toNat < (z98 a.acc.length ((a.ed.take k).map fun e=>(e.src.toNat,e))).length:=by rw [z100];omega
  have hmap:a.ed[k].src.toNat < ((z98 a.acc.length ((a.ed.take k).map fun e=>(e.src.toNat,e))).map (ownG 4 Trans.cs)).length:=by rw [y46];exact hlt
  have hrl:=z296 hlt
  rw [y46,y45] at hrl
  refine y82 (Gl.Reach.expose (e:=ownG 4 Trans.cs (z98 a.acc.length ((a.ed.take k).map fun e=>(e.src.toNat,e)))[a.ed[k].src.toNat]) 1 a.ed[k].src.toNat 0 rfl (by rw [y48,y42 hlt];rfl) rfl (z168 (fun _=>rfl) _) rfl) ?_
  conv=>whnf
  (apply y6 ok;rfl;conv=>whnf)
  repeat' (first|apply z27;kernel_rfl;conv=>whnf|apply z289;exact Nat.add_zero _;exact hmap;conv=>whnf|apply y40;(first|omega|(try dsimp only);simp only [y46,y45,y44,y43,y55,y56];omega|exact ⟨rfl,z17 rfl z26⟩);conv=>whnf|with_reducible apply z13;omega;intro _;conv=>whnf)
  refine y82 (Gl.Reach.absorb 1 4 a.ed[k].src.toNat 0 rfl (z629 (Nat.add_zero _) (by rw [List.length_set];exact hmap)) rfl rfl (by simp) rfl (z90 (fun e he=>(z6 (fun _=>rfl)) e (List.mem_of_mem_take he)) (z235 rfl z39)) rfl) ?_
  conv=>whnf
  repeat' (first|(fail_if_success apply z122 5);(fail_if_success apply z96 5);(fail_if_success apply z122 6);(fail_if_success apply z96 6);apply y6 ok;rfl;conv=>whnf|apply y40;((unfold inI;omega));conv=>whnf)
  refine z92 (k+1) [0,1] (by omega) (by omega)
   ⟨rfl,by decide,rfl,⟨⟨rfl,rfl⟩,⟨rfl,rfl⟩,⟨rfl,rfl⟩,trivial⟩,⟨z43 rfl rfl,z37 (z45 ?_) (z6 fun _=>rfl),trivial⟩⟩
  have e1:((a.ed.take (k+1)).map fun e=>(e.src.toNat,e))=((a.ed.take k).map fun e=>(e.src.toNat,e))++[(a.ed[k].src.toNat,a.ed[k])]:=by
   rw [y47 hkl,y61];rfl
  rw [e1]
  exact z445 hlt (Nat.add_zero _) (by simp) rfl
 ·obtain rfl:k=a.ed.length:=by omega
  repeat' ((apply y6 ok;rfl;conv=>whnf))
  refine z117 [1] (by decide) rfl rfl rfl ⟨z37 (z45 ?_) (z6 fun _=>rfl),trivial⟩
  rw [y53]
  rfl
theorem z769 {a:Aut} (hA:AutP a):z98 a.acc.length (a.ed.map fun e=>(e.src.toNat,e.dst))=nxA a:=by
 unfold z98 nxA
 refine List.map_congr_left fun q _=>?_
 rw [List.filter_map,List.map_map]
 have:a.ed.filter ((fun p:Nat×Int=>p.1 == q) ∘ fun e=>(e.src.toNat,e.dst))=a.ed.filter fun e=>decide (e.src=(q:Int)):=by
  refine List.filter_congr fun e he=>?_
  have:=(z420 hA he).2.2.1
  rw [Bool.eq_iff_iff,decide_eq_true_iff]
  show (e.src.toNat == q)=true↔_
  rw [beq_iff_eq]
  omega
 rw [this]
 rfl
set_option maxHeartbeats 1600000 in
theorem next_new (a:Aut) (hA:AutP a):QQ 158 [.agg a.cs] [] (.sref 0 0 a.acc.length) [.cells 1 ((nxA a).map z114)]:=by
 have hb:=z769 hA
 obtain ⟨⟨a1,a2⟩,a3,a4,a5⟩:=hA
 refine z16 z24 func158 rfl rfl 32 ntmps158 (by simp) ?_
 repeat' (first|apply y6 ok;rfl;conv=>whnf|apply y40;((dsimp only;omega));conv=>whnf)
 refine y82 (Gl.Reach.weaken (es':=List.replicate a.acc.length [.own 1 []]) 1 rfl (by rw [y43,y43];rfl) z221 rfl) ?_
 conv=>whnf
 refine z111 (fun k:Nat=>([(1,.ptr 0 none 0),(3,.sref 1 0 a.acc.length),(11,lst 4 Trans.cs a.ed),(12,.int a.ed.length),(13,.int k)],[.cells 3 [[lst 1 enI a.ini,lst 1 enB a.acc,lst 4 Trans.cs a.ed]],.cells 1 ((z98 a.acc.length ((a.ed.take k).map fun e=>(e.src.toNat,e.dst))).map (ownG 1 enI))])) (fun k=>k≤a.ed.length) (fun k=>a.ed.length - k) 0 (by omega)
  ⟨[0,1],rfl,by decide,rfl,⟨⟨rfl,rfl⟩,⟨rfl,rfl⟩,⟨rfl,rfl⟩,⟨rfl,rfl⟩,⟨rfl,rfl⟩,trivial⟩,⟨z43 rfl rfl,z37 (z45 (z532 _ _ _).symm) (z6 fun _=>rfl),trivial⟩⟩ ?_
 intro k hk
 repeat' (first|(fail_if_success apply z122 5);(fail_if_success apply z96 5);(fail_if_success apply z122 7);(fail_if_success apply z96 7);apply y6 ok;rfl;conv=>whnf|apply y40;(omega);conv=>whnf|with_reducible apply z13;omega;intro _;conv=>whnf|apply z7<;>intro _<;>conv=>whnf)
 ·have hkl:k < a.ed.length:=by assumption
  have he:=a5 a.ed[k] (y41 hkl)
  unfold z205 at he
  have hlt:a.ed[k].src.toNat < (z98 a.acc.length ((a.ed.take k).map fun e=>(e.src.toNat,e.dst))).length:=by rw [z100];omega
  have hmap:a.ed[k].src.toNat < ((z98 a.acc.length ((a.ed.take k).map fun e=>(e.src.toNat,e.dst))).map (ownG 1 enI)).length:=by rw [y46];exact hlt
  have hrl:=z296 hlt
  rw [y46,y45] at hrl
  refine y82 (Gl.Reach.expose (e:=ownG 1 enI (z98 a.acc.length ((a.ed.take k).map fun e=>(e.src.toNat,e.dst)))[a.ed[k].src.toNat]) 1 a.ed[k].src.toNat 0 rfl (by rw [y48,y42 hlt];rfl) rfl (z168 (fun _=>rfl) _) rfl) ?_
  conv=>whnf
  (apply y6 ok;rfl;conv=>whnf)
  repeat' (first|apply z27;kernel_rfl;conv=>whnf|apply z289;exact Nat.add_zero _;exact hmap;conv=>whnf|apply y40;(first|omega|(try dsimp only);simp only [y46,y45,y44,y43,y55,y56];omega|exact ⟨rfl,z17 rfl z26⟩);conv=>whnf)
  refine y82 (Gl.Reach.absorb 1 5 a.ed[k].src.toNat 0 rfl (z629 (Nat.add_zero _) (by rw [List.length_set];exact hmap)) rfl rfl (by simp) rfl (z90 (fun e he=>(z6 (fun _=>rfl)) e (List.mem_of_mem_take he)) (z235 rfl z39)) rfl) ?_
  conv=>whnf
  repeat' (first|(fail_if_success apply z122 5);(fail_if_success apply z96 5);(fail_if_success apply z122 7);(fail_if_success apply z96 7);apply y6 ok;rfl;conv=>whnf|apply y40;((unfold inI;omega));conv=>whnf)
  refine z92 (k+1) [0,1] (by omega) (by omega)
   ⟨rfl,by decide,rfl,⟨⟨rfl,rfl⟩,⟨rfl,rfl⟩,⟨rfl,rfl⟩,⟨rfl,rfl⟩,⟨rfl,rfl⟩,trivial⟩,⟨z43 rfl rfl,z37 (z45 ?_) (z6 fun _=>rfl),trivial⟩⟩
  have e1:((a.ed.take (k+1)).map fun e=>(e.src.toNat,e.dst))=((a.ed.take k).map fun e=>(e.src.toNat,e.dst))++[(a.ed[k].src.toNat,a.ed[k].dst)]:=by
   rw [y47 hkl,y61];rfl
  rw [e1]
  exact z445 hlt (Nat.add_zero _) (by simp) rfl
 ·obtain rfl:k=a.ed.length:=by omega
  repeat' ((apply y6 ok;rfl;conv=>whnf))
  refine z117 [1] (by decide) rfl rfl rfl ⟨z37 (z45 ?_) (z6 fun _=>rfl),trivial⟩
  rw [y53,hb]
  rfl
theorem nx_rl {a:Aut} (hA:AutP a):∀ r∈nxA a,r.length≤1000000000:=fun r hr=>by
 obtain ⟨q,_,rfl⟩:=List.mem_map.1 hr
 rw [y46]
 have:=List.length_filter_le (fun e:Trans=>decide (e.src=(q:Int))) a.ed
 have:=hA.2.1
 omega
theorem z949 (a:Aut) (hA:AutP a):QQ 158 [.agg a.cs] [] (lst 1 encL (nxA a)) []:=by
 have h:=next_new a hA
 rw [← z106 a] at h
 exact (by refine y7 h [] [0] rfl rfl rfl ?_ ?_<;>(repeat' first|exact y83 _|(apply z55 rfl rfl rfl);(focus ((repeat (exact z158 _));done));(focus (((simp;done));done))|constructor))
theorem z1050 (a:Aut) (hA:AutP a):QQ 109 [lst 1 encL (nxA a)] [] (lst 1 enB (cycB (nxA a))) []:=by
 have h1:=hA.1
 have h:=z633 (nxA a) (z621 hA) (by rw [z106];omega) (nx_rl hA)
 rw [← z423 (nxA a)] at h
 exact (by refine y7 h [] [0] rfl rfl rfl ?_ ?_<;>(repeat' first|exact y83 _|(apply z55 rfl rfl rfl);(focus ((repeat ((exact z48 (fun _=>rfl) _)));done));(focus (((simp;done));done))|constructor))
noncomputable def prtA (a:Aut) (q m:Nat):Bool:=(List.range m).any fun x=>(z241 (nxA a) [(q:Int)]).getD x false && ((cycB (nxA a)).getD x false && a.acc.getD x false)
theorem z1135 (a:Aut) (q m:Nat):prtA a q (m+1)=(prtA a q m || ((z241 (nxA a) [(q:Int)]).getD m false && ((cycB (nxA a)).getD m false && a.acc.getD m false))):=by
 unfold prtA
 rw [y59,List.any_append]
 simp
theorem z1136 {a:Aut} (hA:AutP a) {q:Nat} (hq:q < a.acc.length):prtA a q a.acc.length=z181 a q:=by
 have hn:=z106 a
 rw [Bool.eq_iff_iff,z546]
 unfold prtA
 rw [List.any_eq_true]
 constructor
 ·rintro ⟨x,hx,h⟩
  rw [y58] at hx
  rw [y68,y68,z20 (by rw [z340,hn];exact hx),z20 (by rw [z423,hn];exact hx)] at h
  obtain ⟨h1,h2,h3⟩:=h
  simp only [z241,cycB,List.getElem_map,List.getElem_range] at h1 h2
  exact ⟨x,of_decide_eq_true h1,z188.1 h2,h3⟩
 ·rintro ⟨x,h1,h2,h3⟩
  have hx:0≤x∧x < (a.acc.length:Int):=by
   have hi:InN (nxA a).length [(q:Int)]:=fun y hy=>by
    rw [List.mem_singleton.1 hy,hn];omega
   have:∀ y,RP (nxA a) [(q:Int)] y→0≤y∧y < ((nxA a).length:Int):=fun y hy=>by
    induction hy with
    |base hb=>exact hi _ hb
    |step hs hm ih =>
     rename_i u v
     exact z621 hA ((nxA a).getD u.toNat []) (by rw [z20 (show u.toNat < (nxA a).length by omega)];exact y41 _) v hm
   have:=this x h1
   rwa [hn] at this
  have hxt:x.toNat < a.acc.length:=by omega
  have e:((x.toNat:Nat):Int)=x:=by omega
  refine ⟨x.toNat,List.mem_range.2 hxt,?_⟩
  rw [y68,y68,z20 (by rw [z340,hn];exact hxt),z20 (by rw [z423,hn];exact hxt)]
  simp only [z241,cycB,List.getElem_map,List.getElem_range]
  exact ⟨y79 (by rw [e];exact h1),z188.2 (by rw [e];exact h2),h3⟩
noncomputable def fLv (a:Aut) (q:Nat):Nat→Bool:=fun p=>decide (p < q) && z181 a p
theorem fLv_zero (a:Aut):fLv a 0=fun _=>false:=by
 funext p;simp [fLv]
theorem z1221 (a:Aut) (q:Nat):upd (fLv a q) q (prtA a q 0)=fLv a q:=by
 funext p
 by_cases hp:p=q
 ·subst hp;rw [z36];simp [fLv,prtA]
 ·rw [z52 _ _ hp]
theorem fLv_end (a:Aut) (q:Nat):upd (fLv a q) q (z181 a q)=fLv a (q+1):=by
 funext p
 by_cases hp:p=q
 ·subst hp;rw [z36];simp [fLv]
 ·rw [z52 _ _ hp]
  unfold fLv
  congr 1
  rw [decide_eq_decide];omega
theorem z1088 (f:Nat→Bool) (q:Nat) (x y:Bool):upd (upd f q x) q y=upd f q y:=by
 funext p
 by_cases hp:p=q
 ·subst hp;rw [z36,z36]
 ·rw [z52 _ _ hp,z52 _ _ hp,z52 _ _ hp]
set_option maxHeartbeats 3200000 in
theorem live_new (a:Aut) (hA:AutP a):QQ 159 [.agg a.cs] [] (.sref 0 0 a.acc.length) [.cells 1 ((fnB a.acc.length (z181 a)).map enB)]:=by
 have c1:=z949 a hA
 have c2:=z1050 a hA
 have hn:=z106 a
 have hcl:=z423 (nxA a)
 have h1:=hA.1
 have cR:∀ q:Nat,q < a.acc.length→QQ 157 [lst 1 encL (nxA a),ints [(q:Int)]] [] (.sref 0 0 (nxA a).length) [.cells 1 ((z241 (nxA a) [(q:Int)]).map enB)]:=fun q hq=>z402 (nxA a) [(q:Int)] (z621 hA) (fun y hy=>by rw [List.mem_singleton.1 hy,hn];omega) (by omega) (nx_rl hA) (by simp)
 have hrl:=fun q:Nat=>z340 (nxA a) [(q:Int)]
 have hps:=z1135 a
 have hpl:=fun q hq=>z1136 hA (q:=q) hq
 generalize nxA a=rows at *
 generalize cycB rows=cyc at *
 refine z12 z24 func159 rfl rfl 57 ntmps159 (by simp) ?_
 repeat' ((first|apply y6 ok;rfl|apply y40;(dsimp only;omega)|apply z8 c1;rfl;rfl|apply z8 c2;rfl;rfl)<;>conv=>whnf)
 refine z69 (fun q:Nat=>([(1,.ptr 0 none 0),(3,lst 1 encL rows),(4,lst 1 enB cyc),(5,.sref 1 0 rows.length),(17,.int rows.length),(18,.int q)],[.cells 3 [a.cs],.cells 1 ((fnB rows.length (fLv a q)).map enB)])) (fun q=>q≤rows.length) (fun q=>rows.length - q) 0 (y50 _) (by refine swR [0,1] [] rfl rfl ?_;(repeat' first|exact y83 _|apply y85|refine z11 rfl (z54 rfl) ?_|constructor)<;>((refine z21 ?_;rw [fLv_zero];exact z499 _))) ?_
 intro q hq
 by_cases hql:q < rows.length
 ·have cr:=cR q (by omega)
  have hrq:=hrl q
  have hpq:=hps q
  have hpe:=hpl q (by omega)
  rw [← hn] at hpe
  generalize z241 rows [(q:Int)]=rb at *
  repeat' ((first|apply y6 ok;rfl|apply z7<;>intro _|apply z120 [] [2] [3] cr;(focus ((repeat' first|exact z87|apply z60)<;>rfl));rfl;rfl;(focus ((repeat' first|exact z23|apply z19)<;>(refine z30 ?_;((exact z6 fun _=>rfl)))));((refine .inr ⟨rfl,?_⟩;repeat' first|exact True.intro|apply y40|exact z121 (fun _=>rfl) _)))<;>conv=>whnf)
  all_goals try (exfalso;omega)
  refine z69 (fun m:Nat=>([(1,.ptr 0 none 0),(3,lst 1 encL rows),(4,lst 1 enB cyc),(5,.sref 1 0 rows.length),(17,.int rows.length),(18,.int q),(6,.int q),(24,.sref 2 0 rows.length),(25,.int rows.length),(26,.int m)],[.cells 3 [a.cs],.cells 1 ((fnB rows.length (upd (fLv a q) q (prtA a q m))).map enB),.cells 1 (rb.map enB)])) (fun m=>m≤rows.length) (fun m=>rows.length - m) 0 (y50 _) (by refine swR [0,1,3] [] rfl rfl ?_;(repeat' first|exact y83 _|exact z10 _|apply y85|refine z11 rfl (z6 (fun _=>rfl)) ?_|constructor)<;>((refine z21 ?_;rw [z1221]))) ?_
  intro m hm
  by_cases hml:m < rows.length
  ·have gr:(rb.map enB)[m]?=some (enB (rb.getD m false)):=by rw [y48,y42 (by omega),z20 (by omega)];rfl
   have gc:(cyc.map enB)[m]?=some (enB (cyc.getD m false)):=by rw [y48,y42 (by omega),z20 (by omega)];rfl
   have ga:(a.acc.map enB)[m]?=some (enB (a.acc.getD m false)):=by rw [y48,y42 (by omega),z20 (by omega)];rfl
   have go:=z324 (N:=rows.length) (upd (fLv a q) q (prtA a q m)) hql
   have gs:=z500 (N:=rows.length) (u:=q) (upd (fLv a q) q (prtA a q m)) (prtA a q (m+1))
   rw [z36] at go
   have hpm:=hpq m
   rw [hpm,z1088] at gs
   generalize rb.getD m false=b1 at *
   generalize cyc.getD m false=b2 at *
   generalize a.acc.getD m false=b3 at *
   generalize prtA a q m=b0 at *
   cases b0<;>cases b1<;>cases b2<;>cases b3
   all_goals
    repeat' ((first|apply y6 ok;rfl|refine z14 (i:=m) rfl gr ?_|refine z14 (i:=q) rfl go ?_|refine z14 (i:=m) rfl gc ?_|refine z14 (i:=m) rfl ga ?_|(apply y40;first|omega|unfold inI;omega)|apply z7<;>intro _)<;>conv=>whnf)
    all_goals try (exfalso;omega)
    all_goals refine z29 (m+1) hml (by omega) (by refine swR [0,1,2] [] rfl rfl ?_;(repeat' first|exact y83 _|exact z10 _|apply y85|refine z50 rfl (z6 (fun _=>rfl)) ?_|refine z11 rfl (z6 (fun _=>rfl)) ?_|constructor)<;>((refine z21 ?_;rw [hpm];exact gs)))
  ·obtain rfl:m=rows.length:=by omega
   rw [hpe]
   repeat' ((first|apply y6 ok;rfl|(apply y40;first|omega|unfold inI;omega)|(first|with_reducible apply z13;omega|apply z13;omega);intro _|(first|apply z7|apply z83)<;>intro _)<;>conv=>whnf)
   all_goals try (exfalso;omega)
   all_goals refine z29 (q+1) hql (by omega) (by refine swR [0,1] [] rfl rfl ?_;(repeat' first|exact y83 _|apply y85|refine z11 rfl (z6 (fun _=>rfl)) ?_|constructor)<;>((refine z21 ?_;rw [fLv_end])))
 ·obtain rfl:q=rows.length:=by omega
  have e:fnB rows.length (fLv a rows.length)=fnB a.acc.length (z181 a):=by
   rw [hn]
   unfold fnB
   refine List.map_congr_left fun p hp=>?_
   rw [y58] at hp
   simp [fLv,hp]
  rw [← e,← hn]
  repeat' ((first|apply y6 ok;rfl|apply z7<;>intro _)<;>conv=>whnf)
  all_goals try (exfalso;omega)
  all_goals (refine rsD [1] [] rfl ?_;(repeat' first|exact y83 _|exact z10 _|refine z11 rfl (z6 (fun _=>rfl)) ?_|constructor))
def okX (by' : List Trans) (R:Rel2) (x:Int) (e:Trans):Bool:=!onB e x || by'.any fun f=>onB f x && R e.dst.toNat f.dst.toNat
def ansL (fr by' : List Trans) (R:Rel2):Bool:=(List.range 8).all fun x:Nat=>fr.all (okX by' R (x:Int))
theorem ansL_eq {a:Aut} (hA:AutP a) {i j:Nat} (hi:i < a.acc.length) (hj:j < a.acc.length) (R:Rel2):ansL ((z68 a).getD i []) ((z68 a).getD j []) R=ansA a R i j:=by
 have hs:∀ e∈a.ed,∀ q:Nat,(e.src.toNat == q)=true↔e.src=(q:Int):=fun e he q=>by
  have:=(z420 hA he).2.2.1
  rw [beq_iff_eq];omega
 rw [Bool.eq_iff_iff,z354,z185 hi,z185 hj]
 unfold ansL okX
 simp only [y76,y58,List.mem_filter,Bool.or_eq_true,Bool.not_eq_true',List.any_eq_true,y68]
 constructor
 ·intro h x hx e he h1 h2
  rcases h x hx e ⟨he,(hs e he i).2 h1⟩ with h3|⟨f,⟨hf,h4⟩,h5,h6⟩
  ·rw [h2] at h3;cases h3
  ·exact ⟨f,hf,(hs f hf j).1 h4,h5,h6⟩
 ·rintro h x hx e ⟨he,h1⟩
  cases h2:onB e (x:Int) with
  |false=>exact .inl rfl
  |true =>
   obtain ⟨f,hf,h3,h4,h5⟩:=h x hx e he ((hs e he i).1 h1) h2
   exact .inr ⟨f,⟨hf,(hs f hf j).2 h3⟩,h4,h5⟩
noncomputable def chg (R S:Rel2):Bool:=by classical exact decide (S≠R)
theorem z710 {R S:Rel2} : chg R S=true↔S≠R:=by unfold chg;simp
theorem z709 (R:Rel2):chg R R=false:=by
 cases h:chg R R with
 |false=>rfl
 |true=>exact absurd rfl (z710.1 h)
theorem z1239 {A:Rel2→Rel2} {R S:Rel2} {i j:Nat} (h:LeX S R) (hs:S i j=true) (hc:A S i j=false):z357 A S i j=clr S i j∧chg R (clr S i j)=true:=by
 refine ⟨by unfold z357;rw [hs,hc];rfl,z710.2 fun e=>?_⟩
 have:clr S i j i j=true:=by rw [e];exact h i j hs
 unfold clr at this
 simp at this
theorem z977 {A:Rel2→Rel2} {S:Rel2} {i j:Nat} (h:S i j=false∨A S i j=true):z357 A S i j=S:=by
 unfold z357
 rcases h with h|h<;>rw [h]<;>simp
theorem rel_end {a:Aut} {F:Rel2} {k:Nat} (hk:F=itX (fun R=>z110 (ansA a) a.acc.length R a.acc.length) k (rel0 a)) (hf:z110 (ansA a) a.acc.length F a.acc.length=F):F=relA a:=by
 have hle:LeX F (rel0 a):=by rw [hk];exact z1191 k _
 refine gfX_of (z433 a) (fun i j h=>(z401.1 (hle i j h)).1) hf hle ?_
 rw [hk]
 exact z1192 (z433 a) (fun i j h=>by
  have:=z447 (a:=a) h
  exact z1206 this.1 this.2 h) k _ z1204
def z101 (n:Nat) (R:Rel2):List (List Bool):=(List.range n).map fun i=>fnB n (R i)
theorem z378 (n:Nat) (R:Rel2):(z101 n R).length=n:=by simp [z101]
theorem z379 {n i:Nat} (R:Rel2) (h:i < n):(z101 n R)[i]?=some (fnB n (R i)):=by
 unfold z101;rw [y48,List.getElem?_range h];rfl
theorem z1213 {n j:Nat} (f:Nat→Bool) (b:Bool):(fnB n f).set j b=fnB n (fun k=>if k=j then b else f k):=by
 apply y72 (by simp [fnB])
 intro i h1 h2
 rw [List.getElem_set]
 simp only [fnB,List.getElem_map,List.getElem_range]
 by_cases e:j=i
 ·subst e;simp
 ·rw [if_neg e,if_neg (fun h=>e h.symm)]
theorem z863 {n:Nat} (R:Rel2) (i j:Nat):(z101 n R).set i ((fnB n (R i)).set j false)=z101 n (clr R i j):=by
 apply y72 (by simp [z101])
 intro q h1 h2
 rw [List.getElem_set]
 simp only [z101,List.getElem_map,List.getElem_range]
 by_cases e:i=q
 ·subst e
  rw [if_pos rfl,z1213]
  unfold clr
  congr 1
  funext k
  by_cases hk:k=j<;>simp [hk]
 ·rw [if_neg e]
  unfold clr
  congr 1
  funext k
  rw [if_neg fun h=>e h.1.symm]
structure RelI (a:Aut) (R:Rel2) (c:Bool):Prop where
 it:∃ k,R=itX (fun R=>z110 (ansA a) a.acc.length R a.acc.length) k (rel0 a)
 fx:c=false→z110 (ansA a) a.acc.length R a.acc.length=R
theorem z956 {P:Rel2→Rel2} : ∀ (k:Nat) (R:Rel2),itX P (k+1) R=P (itX P k R)
 |0,_=>rfl
 |k+1,R=>z956 k (P R)
theorem RelI.init (a:Aut):RelI a (rel0 a) true:=⟨⟨0,rfl⟩,fun h=>by cases h⟩
theorem RelI.next {a:Aut} {R:Rel2} {c:Bool} (h:RelI a R c):RelI a (z110 (ansA a) a.acc.length R a.acc.length) (chg R (z110 (ansA a) a.acc.length R a.acc.length)):=by
 obtain ⟨⟨k,hk⟩,_⟩:=h
 refine ⟨⟨k+1,by rw [z956,← hk]⟩,fun hc=>?_⟩
 have:z110 (ansA a) a.acc.length R a.acc.length=R:=y75 fun hn=>by
  rw [z710.2 hn] at hc;cases hc
 rw [this,this]
theorem RelI.mu {a:Aut} (R:Rel2):cntX a.acc.length (z110 (ansA a) a.acc.length R a.acc.length)+(chg R (z110 (ansA a) a.acc.length R a.acc.length)).toNat < cntX a.acc.length R+true.toNat:=by
 by_cases h:z110 (ansA a) a.acc.length R a.acc.length=R
 ·rw [h,z709]
  show _+0 < _+1
  omega
 ·have:=z674 h
  rw [z710.2 h]
  omega
theorem RelI.done {a:Aut} {R:Rel2} (h:RelI a R false):R=relA a:=by
 obtain ⟨k,hk⟩:=h.it
 exact rel_end hk (h.fx rfl)
theorem z304 (f:Nat→Bool) (k:Nat):z435 (((wd f 64:Nat):Int) / 2 ^ k) 1:=by
 have e:((wd f 64:Nat):Int) / 2 ^ k=((wd f 64 / 2 ^ k:Nat):Int):=by rw [Int.natCast_ediv,Int.natCast_pow];rfl
 have h1:=wd_w f (y49 64)
 have h2:=Nat.div_le_self (wd f 64) (2 ^ k)
 have h3:wd f 64 / 2 ^ k < 18446744073709551616:=Nat.lt_of_le_of_lt h2 h1
 rw [e]
 generalize wd f 64 / 2 ^ k=z at *
 exact ⟨by omega,by omega,by omega,by omega⟩
theorem z1253 (f:Nat→Bool) {k:Nat} (h:k < 64):((((wd f 64:Nat):Int) / 2 ^ ((k:Nat):Int).toNat).toNat &&& (1:Int).toNat)=if f k=true then 1 else 0:=by
 have e:((wd f 64:Nat):Int) / 2 ^ k=((wd f 64 / 2 ^ k:Nat):Int):=by rw [Int.natCast_ediv,Int.natCast_pow];rfl
 rw [y74,e,y74]
 exact wd_get f h
theorem bit_t {f:Nat→Bool} {k:Nat} (h:k < 64) (hf:f k=true):((((wd f 64:Nat):Int) / 2 ^ ((k:Nat):Int).toNat).toNat &&& (1:Int).toNat)=1:=by
 rw [z1253 f h,if_pos hf]
theorem bit_f {f:Nat→Bool} {k:Nat} (h:k < 64) (hf:f k=false):((((wd f 64:Nat):Int) / 2 ^ ((k:Nat):Int).toNat).toNat &&& (1:Int).toNat)=0:=by
 rw [z1253 f h,if_neg (by rw [hf];simp)]
theorem wk_two (f g:Nat→Bool):z435 ((wd f 64:Nat):Int) ((wd g 64:Nat):Int):=by
 have h1:=wd_w f (y49 64)
 have h2:=wd_w g (y49 64)
 exact ⟨by omega,by omega,by omega,by omega⟩
theorem and_val (f g:Nat→Bool):(((wd f 64:Nat):Int).toNat &&& ((wd g 64:Nat):Int).toNat)=wd (fun k=>f k && g k) 64:=by
 rw [y74,y74,wd_and]
theorem pow_w {k:Nat} (h:k < 64):2 ^ k < 18446744073709551616:=Nat.lt_of_lt_of_le (Nat.pow_lt_pow_right (by decide) h) (y49 _)
theorem z490 (k:Nat):(1:Int) * 2 ^ ((k:Nat):Int).toNat=((2 ^ k:Nat):Int):=by
 rw [Int.one_mul,y74,Int.natCast_pow];rfl
theorem z1114 {k:Nat} (h:k < 64):0≤((k:Nat):Int)∧((k:Nat):Int)≤63∧0≤(1:Int)∧(1:Int) * 2 ^ ((k:Nat):Int).toNat < 18446744073709551616:=by
 have:=pow_w h
 rw [z490]
 generalize 2 ^ k=z at *
 exact ⟨by omega,by omega,by omega,by omega⟩
theorem z1072 (f:Nat→Bool) {k:Nat} (h:k < 64):z435 ((wd f 64:Nat):Int) ((1:Int) * 2 ^ ((k:Nat):Int).toNat):=by
 have h1:=wd_w f (y49 64)
 have:=pow_w h
 rw [z490]
 generalize 2 ^ k=z at *
 exact ⟨by omega,by omega,by omega,by omega⟩
theorem or_val (f:Nat→Bool) {k:Nat} (h:k < 64):(((wd f 64:Nat):Int).toNat ||| ((1:Int) * 2 ^ ((k:Nat):Int).toNat).toNat)=wd (updB f k true) 64:=by
 rw [z490,y74,y74,wd_or f h]
theorem clr_val (f:Nat→Bool) {k:Nat} (h:k < 64):(BitVec.ofNat 64 (((wd f 64:Nat):Int).toNat) &&& ~~~BitVec.ofNat 64 (((1:Int) * 2 ^ ((k:Nat):Int).toNat).toNat)).toNat=wd (updB f k false) 64:=by
 rw [z490,y74,y74,wd_clear f h]
def cW (f:Nat→Bool):AC:=.raw (.int .u64 ((wd f 64:Nat):Int))
def rowN (g:Nat→Nat→Bool):List AC:=[cW (g 0),cW (g 1),cW (g 2),cW (g 3),cW (g 4),cW (g 5),cW (g 6),cW (g 7)]
theorem row_drop (g:Nat→Nat→Bool) {x:Nat} (h:x < 8):∃ r,(rowN g).drop x=cW (g x)::r:=by
 obtain rfl|rfl|rfl|rfl|rfl|rfl|rfl|rfl:x=0∨x=1∨x=2∨x=3∨x=4∨x=5∨x=6∨x=7:=by omega
 all_goals exact ⟨_,rfl⟩
theorem z344 {g:Nat→Nat→Bool} {x off:Nat} {F:List AC→Prop} (h:x < 8) (ho:off=x) (k:∀ r,F (cW (g x)::r)):z607 off (rowN g) F:=by
 obtain ⟨r,hr⟩:=row_drop g h
 rw [z351,ho,hr]
 exact k r
def Hid (p:Prop):Prop:=p
theorem Hid.out {p:Prop} (h:Hid p):p:=h
def nxN (n:Nat) (G:Nat→Nat→Nat→Bool):List (List AC):=(List.range n).map fun q=>rowN (G q)
def byN (n:Nat) (R:Rel2):List (List AC):=(List.range n).map fun q=>[cW (R q)]
theorem z1152 (n:Nat) (G:Nat→Nat→Nat→Bool):(nxN n G).length=n:=by simp [nxN]
theorem z568 (n:Nat) (R:Rel2):(byN n R).length=n:=by simp [byN]
theorem z871 {n q:Nat} (G:Nat→Nat→Nat→Bool) (h:q < n):(nxN n G)[q]?=some (rowN (G q)):=by
 unfold nxN;rw [y48,List.getElem?_range h];rfl
theorem z569 {n q:Nat} (R:Rel2) (h:q < n):(byN n R)[q]?=some [cW (R q)]:=by
 unfold byN;rw [y48,List.getElem?_range h];rfl
def okS (G:Nat→Nat→Nat→Bool) (R:Rel2) (i j x to:Nat):Bool:=!G i x to || (List.range 64).any fun k=>G j x k && R to k
def simB (n:Nat) (G:Nat→Nat→Nat→Bool) (R:Rel2) (i j:Nat):Bool:=(List.range 8).all fun x=>(List.range n).all (okS G R i j x)
theorem simB_no {n:Nat} {G:Nat→Nat→Nat→Bool} {R:Rel2} {i j x to:Nat} (hx:x < 8) (ht:to < n) (h:okS G R i j x to=false):simB n G R i j=false:=by
 cases hA:simB n G R i j with
 |false=>rfl
 |true =>
  unfold simB at hA
  rw [y76] at hA
  have:=hA x (List.mem_range.2 hx)
  rw [y76] at this
  have:=this to (List.mem_range.2 ht)
  rw [h] at this;cases this
theorem simB_yes {n:Nat} {G:Nat→Nat→Nat→Bool} {R:Rel2} {i j:Nat} (h:∀ x,x < 8→∀ to,to < n→okS G R i j x to=true):simB n G R i j=true:=by
 unfold simB
 rw [y76]
 intro x hx
 rw [y76]
 exact fun to ht=>h x (List.mem_range.1 hx) to (List.mem_range.1 ht)
theorem okS_off {G:Nat→Nat→Nat→Bool} {R:Rel2} {i j x to:Nat} (h:G i x to=false):okS G R i j x to=true:=by unfold okS;rw [h];rfl
theorem okS_on {G:Nat→Nat→Nat→Bool} {R:Rel2} {i j x to:Nat} (h:G i x to=true):(okS G R i j x to=true∧(((wd (G j x) 64:Nat):Int).toNat &&& ((wd (R to) 64:Nat):Int).toNat)≠0)∨(okS G R i j x to=false∧(((wd (G j x) 64:Nat):Int).toNat &&& ((wd (R to) 64:Nat):Int).toNat)=0):=by
 rw [and_val]
 unfold okS
 rw [h,Bool.not_true,Bool.false_or]
 cases hb:(List.range 64).any fun k=>G j x k && R to k with
 |true =>
  refine .inl ⟨rfl,fun h0=>?_⟩
  obtain ⟨k,hk,h1⟩:=List.any_eq_true.1 hb
  rw [(z506 _ _).1 h0 k (List.mem_range.1 hk)] at h1
  cases h1
 |false =>
  refine .inr ⟨rfl,(z506 _ _).2 fun k hk=>?_⟩
  rw [List.any_eq_false] at hb
  exact Bool.eq_false_iff.2 (hb k (List.mem_range.2 hk))
theorem z99 {w:Nat} {es:List (List AC)} {x:AObj} (h:x=.cells w es):ObjLe x (.cells w es):=by rw [h];exact ⟨rfl,z10 _⟩
section
attribute [local irreducible] wd
set_option maxHeartbeats 6400000 in
theorem sim1_new (n:Nat) (hn:n≤64) (G:Nat→Nat→Nat→Bool) (R:Rel2) (i j:Nat) (hi:i < n) (hj:j < n):QQ 212 [.int j,.int i,.ptr 0 none 0,.ptr 1 none 0,.ptr 2 none 0] [.cells 1 [[.int n]],.cells 1 [[.sref 3 0 n]],.cells 1 [[.sref 4 0 n]],.cells 8 (nxN n G),.cells 1 (byN n R)] (.bool (simB n G R i j)) [.cells 1 [[.int n]],.cells 1 [[.sref 3 0 n]],.cells 1 [[.sref 4 0 n]],.cells 8 (nxN n G),.cells 1 (byN n R)]:=by
 have hxl:=z1152 n G
 have hbl:=z568 n R
 have gi:=z871 G hi
 have gj:=z871 G hj
 have gb:=fun to h=>z569 (q:=to) R (n:=n) h
 have hf1:Flat (nxN n G):=z6 fun _=>rfl
 have hf2:Flat (byN n R):=z6 fun _=>rfl
 generalize nxN n G=NX at *
 generalize byN n R=BY at *
 refine z12 z24 func212 rfl rfl 43 ntmps212 (by simp) ?_
 repeat' (((apply y6 ok;rfl))<;>conv=>whnf)
 refine z69 (fun x:Nat=>([(0,.int j),(1,.int i),(2,.ptr 0 none 0),(3,.ptr 1 none 0),(4,.ptr 2 none 0),(10,.int x)],[.cells 1 [[.int n]],.cells 1 [[.sref 3 0 n]],.cells 1 [[.sref 4 0 n]],.cells 8 NX,.cells 1 BY])) (fun x=>x≤8∧∀ y,y < x→∀ to,to < n→okS G R i j y to=true) (fun x=>8 - x) 0 ⟨by omega,fun _ h=>by omega⟩ (by refine SealW.reach [0,1,2,3,4] [] rfl rfl rfl rfl ?_ ?_;(focus (repeat' first|exact y83 _|constructor));exact .cons (z99 rfl) (.cons (z99 rfl) (.cons (z99 rfl) (.cons (z11 rfl hf1 (z10 _)) (.cons (z11 rfl hf2 (z10 _)) .nil))))) ?_
 rintro x ⟨hx,hall⟩
 by_cases hx8:x < 8
 ·repeat' ((first|apply y6 ok;rfl|apply z7<;>intro _)<;>conv=>whnf)
  all_goals try (exfalso;omega)
  refine z69 (fun to:Nat=>([(0,.int j),(1,.int i),(2,.ptr 0 none 0),(3,.ptr 1 none 0),(4,.ptr 2 none 0),(10,.int x),(8,.int x),(13,.int n),(14,.int to)],[.cells 1 [[.int n]],.cells 1 [[.sref 3 0 n]],.cells 1 [[.sref 4 0 n]],.cells 8 NX,.cells 1 BY])) (fun to=>to≤n∧∀ t,t < to→okS G R i j x t=true) (fun to=>n - to) 0 ⟨y50 _,fun _ h=>by omega⟩ (by refine SealW.reach [0,1,2,3,4] [] rfl rfl rfl rfl ?_ ?_;(focus (repeat' first|exact y83 _|constructor));exact .cons (z99 rfl) (.cons (z99 rfl) (.cons (z99 rfl) (.cons (z11 rfl hf1 (z10 _)) (.cons (z11 rfl hf2 (z10 _)) .nil))))) ?_
  rintro to ⟨hto,hta⟩
  by_cases hlt:to < n
  ·have gt:=gb to hlt
   have h64:to < 64:=by omega
   have hnext:okS G R i j x to=true→∀ t,t < to+1→okS G R i j x t=true:=fun h t ht=>by
    by_cases e:t=to
    ·subst e;exact h
    ·exact hta t (by omega)
   have hno:=simB_no (n:=n) (G:=G) (R:=R) (i:=i) (j:=j) hx8 hlt
   cases hg:G i x to with
   |false =>
    have hb:Hid _:=bit_f h64 hg
    have hk:=hnext (okS_off hg)
    clear hno hnext hall hta
    all_goals
     repeat' ((first|apply y6 ok;rfl|apply z27;kernel_rfl|(refine z14 (i:=i) rfl gi ?_;refine z344 hx8 (by simp) ?_;intro _)|(refine y40 (z304 _ _) ?_;rw [hb.out])|(apply y40;first|omega|unfold inI;omega)|apply z7<;>intro _)<;>conv=>whnf)
     all_goals try (exfalso;omega)
     all_goals refine z29 (to+1) ⟨hlt,hk⟩ (by omega) (by refine SealW.reach [0,1,2,3,4] [] rfl rfl rfl rfl ?_ ?_;(focus (repeat' first|exact y83 _|constructor));exact .cons (z99 rfl) (.cons (z99 rfl) (.cons (z99 rfl) (.cons (z11 rfl hf1 (z10 _)) (.cons (z11 rfl hf2 (z10 _)) .nil)))))
   |true =>
    have hb:Hid _:=bit_t h64 hg
    rcases okS_on (j:=j) (R:=R) hg with ⟨hk0,hz⟩|⟨hk0,hz⟩
    ·have hk:=hnext hk0
     clear hno hnext hall hta
     all_goals
      obtain ⟨w,hw,hz⟩:∃ w,Hid ((((wd (G j x) 64:Nat):Int).toNat &&& ((wd (R to) 64:Nat):Int).toNat)=w)∧w≠0:=⟨_,Eq.refl _,hz⟩
      repeat' ((first|apply y6 ok;rfl|apply z27;kernel_rfl|(refine z14 (i:=i) rfl gi ?_;refine z344 hx8 (by simp) ?_;intro _)|(refine z14 (i:=j) rfl gj ?_;refine z344 hx8 (by simp) ?_;intro _)|refine z14 (i:=to) rfl gt ?_|(refine y40 (z304 _ _) ?_;rw [hb.out])|(refine y40 (wk_two _ _) ?_;rw [hw.out])|(apply y40;first|omega|unfold inI;omega)|apply z7<;>intro _)<;>conv=>whnf)
      all_goals try (exfalso;omega)
      all_goals refine z29 (to+1) ⟨hlt,hk⟩ (by omega) (by refine SealW.reach [0,1,2,3,4] [] rfl rfl rfl rfl ?_ ?_;(focus (repeat' first|exact y83 _|constructor));exact .cons (z99 rfl) (.cons (z99 rfl) (.cons (z99 rfl) (.cons (z11 rfl hf1 (z10 _)) (.cons (z11 rfl hf2 (z10 _)) .nil)))))
    ·rw [hno hk0]
     replace hz:Hid _:=hz
     clear hno hnext hall hta
     all_goals
      repeat' ((first|apply y6 ok;rfl|apply z27;kernel_rfl|(refine z14 (i:=i) rfl gi ?_;refine z344 hx8 (by simp) ?_;intro _)|(refine z14 (i:=j) rfl gj ?_;refine z344 hx8 (by simp) ?_;intro _)|refine z14 (i:=to) rfl gt ?_|(refine y40 (z304 _ _) ?_;rw [hb.out])|(refine y40 (wk_two _ _) ?_;rw [hz.out])|apply y40;omega|apply z7<;>intro _)<;>conv=>whnf)
      all_goals try (exfalso;omega)
      all_goals (refine rsL [0,1,2,3,4] [] rfl ?_;refine RetS.done (y83 _) ?_;exact .cons (z99 rfl) (.cons (z99 rfl) (.cons (z99 rfl) (.cons (z11 rfl hf1 (z10 _)) (.cons (z11 rfl hf2 (z10 _)) .nil)))))
  ·obtain rfl:to=n:=by omega
   repeat' ((first|apply y6 ok;rfl|(apply y40;first|omega|unfold inI;omega)|apply z7<;>intro _)<;>conv=>whnf)
   all_goals try (exfalso;omega)
   all_goals refine z29 (x+1) ⟨by omega,fun y hy t ht=>?_⟩ (by omega) (by refine SealW.reach [0,1,2,3,4] [] rfl rfl rfl rfl ?_ ?_;(focus (repeat' first|exact y83 _|constructor));exact .cons (z99 rfl) (.cons (z99 rfl) (.cons (z99 rfl) (.cons (z11 rfl hf1 (z10 _)) (.cons (z11 rfl hf2 (z10 _)) .nil)))))
   by_cases e:y=x
   ·subst e;exact hta t ht
   ·exact hall y (by omega) t ht
 ·obtain rfl:x=8:=by omega
  rw [simB_yes hall]
  repeat' (((apply y6 ok;rfl))<;>conv=>whnf)
  all_goals (refine rsL [0,1,2,3,4] [] rfl ?_;refine RetS.done (y83 _) ?_;exact .cons (z99 rfl) (.cons (z99 rfl) (.cons (z99 rfl) (.cons (z11 rfl hf1 (z10 _)) (.cons (z11 rfl hf2 (z10 _)) .nil)))))
end
end Go.Proofs.YteinbnahinpegaaGreat
namespace Go.Proofs.YteinbnahinpegaaGreat
open Go.Gl Proofs.Tryz
attribute [local irreducible] z18 AWP z38 z41 z40 RetS z42
def pT (e:Trans) (q y to:Nat):Bool:=decide (e.src.toNat=q) && (onB e (y:Int) && decide (e.dst.toNat=to))
def gE (es:List Trans) (q y to:Nat):Bool:=es.any fun e=>pT e q y to
def gX (es:List Trans) (e:Trans) (x q y to:Nat):Bool:=gE es q y to || (decide (y < x) && pT e q y to)
theorem gX_zero (es:List Trans) (e:Trans):gX es e 0=gE es:=by
 funext q y to;simp [gX]
theorem z1153 {n:Nat} {G H:Nat→Nat→Nat→Bool} (h:∀ q y to,y < 8→G q y to=H q y to):nxN n G=nxN n H:=by
 unfold nxN
 refine List.map_congr_left fun q _=>?_
 have:∀ y,y < 8→cW (G q y)=cW (H q y):=fun y hy=>by
  rw [show G q y=H q y from funext fun to=>h q y to hy]
 unfold rowN
 rw [this 0 (by omega),this 1 (by omega),this 2 (by omega),this 3 (by omega),this 4 (by omega),this 5 (by omega),this 6 (by omega),this 7 (by omega)]
theorem gX_last {es:List Trans} {k:Nat} (h:k < es.length) (n:Nat):nxN n (gX (es.take k) es[k] 8)=nxN n (gE (es.take (k+1))):=by
 refine z1153 fun q y to hy=>?_
 unfold gX gE
 rw [y47 h,List.any_append,y79 hy,Bool.true_and]
 simp
theorem gX_off {es:List Trans} {e:Trans} {x:Nat} (h:onB e (x:Int)=false):gX es e (x+1)=gX es e x:=by
 funext q y to
 unfold gX
 congr 1
 by_cases hy:y=x
 ·subst hy
  unfold pT
  rw [h];simp
 ·congr 1
  rw [decide_eq_decide];omega
def setG (G:Nat→Nat→Nat→Bool) (u x v:Nat):Nat→Nat→Nat→Bool:=fun q y=>if q=u∧y=x then updB (G q y) v true else G q y
theorem gX_on {es:List Trans} {e:Trans} {x u v:Nat} (h:onB e (x:Int)=true) (hu:e.src.toNat=u) (hv:e.dst.toNat=v):gX es e (x+1)=setG (gX es e x) u x v:=by
 funext q y to
 unfold setG
 by_cases hy:y=x
 ·subst hy
  by_cases hq:q=u
  ·subst hq
   rw [if_pos ⟨rfl,rfl⟩]
   unfold updB gX pT
   rw [h,hu,hv]
   by_cases ht:to=v
   ·subst ht;simp
   ·rw [if_neg ht]
    have:¬ v=to:=fun e=>ht e.symm
    simp [this]
  ·rw [if_neg fun h=>hq h.1]
   unfold gX pT
   have:¬ u=q:=fun e=>hq e.symm
   rw [hu];simp [this]
 ·rw [if_neg fun h=>hy h.2]
  unfold gX
  congr 2
  rw [decide_eq_decide];omega
theorem row_set (g:Nat→Nat→Bool) (f:Nat→Bool) {x:Nat} (h:x < 8):z257 (rowN g) x [cW f]=rowN fun y=>if y=x then f else g y:=by
 obtain rfl|rfl|rfl|rfl|rfl|rfl|rfl|rfl:x=0∨x=1∨x=2∨x=3∨x=4∨x=5∨x=6∨x=7:=by omega
 all_goals rfl
theorem z1095 {g:Nat→Nat→Bool} {f:Nat→Bool} {x off:Nat} {vs:List AC} {F:List AC→Prop} (h:x < 8) (ho:off=x) (hv:vs=[cW f]) (k:F (rowN fun y=>if y=x then f else g y)):z441 (rowN g) off vs F:=by
 rw [z209,ho,hv,row_set g f h]
 exact k
theorem nxN_set {n u:Nat} (G:Nat→Nat→Nat→Bool) (x v:Nat):(nxN n G).set u (rowN fun y=>if y=x then updB (G u x) v true else G u y)=nxN n (setG G u x v):=by
 apply y72 (by simp [nxN])
 intro q h1 h2
 rw [List.getElem_set]
 simp only [nxN,List.getElem_map,List.getElem_range]
 by_cases e:u=q
 ·subst e
  rw [if_pos rfl]
  congr 1
  funext y
  unfold setG
  by_cases hy:y=x
  ·subst hy;simp
  ·simp [hy]
 ·rw [if_neg e]
  congr 1
  funext y
  unfold setG
  rw [if_neg fun h=>e h.1.symm]
theorem nxN_zero (n:Nat):List.replicate n [AC.raw (.int .u64 0),AC.raw (.int .u64 0),AC.raw (.int .u64 0),AC.raw (.int .u64 0),AC.raw (.int .u64 0),AC.raw (.int .u64 0),AC.raw (.int .u64 0),AC.raw (.int .u64 0)]=nxN n (gE []):=by
 have h:cW (fun _=>false)=AC.raw (.int .u64 0):=by unfold cW;rw [wd_none];rfl
 apply y72 (by simp [nxN])
 intro q h1 h2
 simp only [nxN,List.getElem_replicate,List.getElem_map,rowN]
 have:∀ y,cW (gE [] ((List.range n)[q]'(by simpa [nxN] using h2)) y)=AC.raw (.int .u64 0):=fun y=>h
 simp only [this]
def bF (a:Aut) (i j:Nat):Rel2:=fun p q=>if p < i then rel0 a p q else if p=i then decide (q < j) && rel0 a p q else false
theorem z330 {n:Nat} {R S:Rel2} (h:∀ p q,p < n→q < 64→R p q=S p q):byN n R=byN n S:=by
 unfold byN
 refine List.map_congr_left fun p hp=>?_
 unfold cW
 rw [wd_congr fun q hq=>h p q (List.mem_range.1 hp) hq]
theorem byN_zero (a:Aut) (n:Nat):List.replicate n [AC.raw (.int .u64 0)]=byN n (bF a 0 0):=by
 apply y72 (by simp [byN])
 intro q h1 h2
 simp only [byN,List.getElem_replicate,List.getElem_map,List.getElem_range]
 unfold cW
 rw [(z506 _ _).2 fun k _=>by unfold bF;simp]
 rfl
theorem z1242 {n i:Nat} (R:Rel2) (f:Nat→Bool):(byN n R).set i [cW f]=byN n fun p=>if p=i then f else R p:=by
 apply y72 (by simp [byN])
 intro q h1 h2
 rw [List.getElem_set]
 simp only [byN,List.getElem_map,List.getElem_range]
 by_cases e:i=q
 ·subst e;simp
 ·rw [if_neg e,if_neg fun h=>e h.symm]
theorem bF_on {a:Aut} {i j n:Nat} (h:rel0 a i j=true):(byN n (bF a i j)).set i [cW (updB (bF a i j i) j true)]=byN n (bF a i (j+1)):=by
 rw [z1242]
 refine z330 fun p q _ _=>?_
 by_cases hp:p=i
 ·subst hp
  rw [if_pos rfl]
  simp only [updB,bF,Nat.lt_irrefl,↓reduceIte]
  by_cases hq:q=j
  ·subst hq;rw [if_pos rfl,h];simp
  ·rw [if_neg hq]
   congr 1
   rw [decide_eq_decide];omega
 ·rw [if_neg hp]
  unfold bF
  by_cases h2:p < i
  ·rw [if_pos h2,if_pos h2]
  ·rw [if_neg h2,if_neg hp,if_neg h2,if_neg hp]
theorem bF_off {a:Aut} {i j n:Nat} (h:rel0 a i j=false):byN n (bF a i j)=byN n (bF a i (j+1)):=by
 refine z330 fun p q _ _=>?_
 unfold bF
 by_cases h2:p < i
 ·rw [if_pos h2,if_pos h2]
 ·rw [if_neg h2,if_neg h2]
  by_cases hp:p=i
  ·subst hp
   rw [if_pos rfl,if_pos rfl]
   by_cases hq:q=j
   ·subst hq;rw [h];simp
   ·congr 1
    rw [decide_eq_decide];omega
  ·rw [if_neg hp,if_neg hp]
theorem rel0_out {a:Aut} {p q:Nat} (h:¬ q < a.acc.length):rel0 a p q=false:=by
 unfold rel0
 rw [y80 fun h2=>h h2.2];rfl
theorem bF_row (a:Aut) (i n:Nat):byN n (bF a i a.acc.length)=byN n (bF a (i+1) 0):=by
 refine z330 fun p q _ _=>?_
 unfold bF
 by_cases h2:p < i
 ·rw [if_pos h2,if_pos (by omega)]
 ·rw [if_neg h2]
  by_cases hp:p=i
  ·subst hp
   rw [if_pos rfl,if_pos (by omega)]
   by_cases hq:q < a.acc.length
   ·rw [y79 hq,Bool.true_and]
   ·rw [rel0_out hq];simp
  ·rw [if_neg hp,if_neg (by omega)]
   split
   ·simp
   ·rfl
theorem bF_end (a:Aut):byN a.acc.length (bF a a.acc.length 0)=byN a.acc.length (rel0 a):=by
 refine z330 fun p q hp _=>?_
 unfold bF
 rw [if_pos hp]
theorem byN_clr {n i j:Nat} (R:Rel2):(byN n R).set i [cW (updB (R i) j false)]=byN n (clr R i j):=by
 rw [z1242]
 refine z330 fun p q _ _=>?_
 unfold clr updB
 by_cases hp:p=i
 ·subst hp
  rw [if_pos rfl]
  by_cases hq:q=j
  ·subst hq;simp
  ·simp [hq]
 ·rw [if_neg hp,if_neg fun h=>hp h.1]
theorem simB_eq {a:Aut} (hA:AutP a) (R:Rel2) (i j:Nat):simB a.acc.length (gE a.ed) R i j=ansA a R i j:=by
 have hE:∀ q y to,gE a.ed q y to=true↔∃ e∈a.ed,e.src=(q:Int)∧onB e (y:Int)=true∧e.dst.toNat=to:=fun q y to=>by
  unfold gE pT
  rw [List.any_eq_true]
  constructor
  ·rintro ⟨e,he,h⟩
   rw [y68,y68,decide_eq_true_iff,decide_eq_true_iff] at h
   have:=(z420 hA he).2.2.1
   exact ⟨e,he,by omega,h.2.1,h.2.2⟩
  ·rintro ⟨e,he,h1,h2,h3⟩
   refine ⟨e,he,?_⟩
   rw [y68,y68,decide_eq_true_iff,decide_eq_true_iff]
   exact ⟨by omega,h2,h3⟩
 have h64:=hA.1.2
 rw [Bool.eq_iff_iff,z354]
 unfold simB okS
 simp only [y76,y58,Bool.or_eq_true,Bool.not_eq_true',List.any_eq_true,y68]
 constructor
 ·intro h x hx e he h1 h2
  have hd:=(z420 hA he).2.1
  rcases h x hx e.dst.toNat hd with h3|⟨k,hk,h4,h5⟩
  ·rw [(hE i x e.dst.toNat).2 ⟨e,he,h1,h2,rfl⟩] at h3;cases h3
  ·obtain ⟨f,hf,f1,f2,f3⟩:=(hE j x k).1 h4
   exact ⟨f,hf,f1,f2,by rw [f3];exact h5⟩
 ·intro h x hx to hto
  cases hg:gE a.ed i x to with
  |false=>exact .inl rfl
  |true =>
   obtain ⟨e,he,h1,h2,h3⟩:=(hE i x to).1 hg
   obtain ⟨f,hf,f1,f2,f3⟩:=h x hx e he h1 h2
   have hd:=(z420 hA hf).2.1
   exact .inr ⟨f.dst.toNat,by omega,(hE j x f.dst.toNat).2 ⟨f,hf,f1,f2,rfl⟩,by rw [← h3];exact f3⟩
end Go.Proofs.YteinbnahinpegaaGreat
