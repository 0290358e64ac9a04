/- A part of the proofs over this program: T21, T22, T23, T23R, T31, T32, T23S, T35A, T70, T71, T72, T73, T74, T75, T75K, T75M, T81, T82, T83, T84, T85, T86, T87, T33I, T88, T89, T33, T90, T91. -/
import Derived.Test.YtnfoijopccdjeaaGreatG0
import Derived.Test.YtnfoijopccdjeaaGreatG1
import Derived.Test.YtnfoijopccdjeaaGreatG2
import Derived.Test.YtnfoijopccdjeaaGreatG3
import Derived.Test.YtnfoijopccdjeaaGreatP0
set_option linter.all false
namespace Go.Proofs.YtnfoijopccdjeaaGreat
open Go.Gl
attribute [local irreducible] z16 AWP z29 z32 z30
theorem z547 (l:List Int) (hl:l.length≤maxLen):CallsA Tryz.prog 115 [ints l] [] (.bool (z276 l)) []:=by
 unfold maxLen at hl
 have e:z276 l=(l.all (fun n=>btw n 0 3) && decide ((l.length:Int)=3)):=by
  unfold z276;rw [Bool.and_comm,List.all_eq_not_any_not]
 rw [e]
 refine z7 z9 Tryz.func115 rfl rfl 25 Tryz.ntmps115 (by simp) ?_
 repeat' (((apply y4 ok;rfl))<;>conv=>whnf)
 refine z85 (fun k:Nat=>([(0,ints l),(3,.int k)],[])) (fun k=>k≤l.length∧l.all (fun n=>btw n 0 3)=(l.drop k).all (fun n=>btw n 0 3)) (fun k=>l.length - k) 0 ⟨by omega,rfl⟩ ⟨[],rfl,by decide,rfl,by repeat' (first|exact True.intro|exact ⟨rfl,rfl⟩|apply y50),by repeat' (exact True.intro)⟩ ?_
 intro k hk
 repeat' ((first|(apply y4 ok;rfl)|(apply y50;first|omega|(unfold inI;omega))|(((with_reducible apply z8;omega));intro _)|((apply z5)<;>intro _))<;>conv=>whnf)
 ·refine z21 rfl ?_
  have:btw l[k] 0 3=false:=z308.2 (by omega)
  rw [hk.2,z123 _ _ _ (by assumption),this];rfl
 ·refine z21 rfl ?_
  have:btw l[k] 0 3=false:=z308.2 (by omega)
  rw [hk.2,z123 _ _ _ (by assumption),this];rfl
 ·have:btw l[k] 0 3=true:=z119.2 (by omega)
  exact z78 (k+1) [] ⟨by omega,by rw [hk.2,z123 _ _ _ (by assumption),this];rfl⟩ (by omega) ⟨rfl,by decide,rfl,by repeat' (first|exact True.intro|exact ⟨rfl,rfl⟩|apply y50),by repeat' (exact True.intro)⟩
 ·exact z21 rfl (by rw [hk.2,z99 _ _ _ (by omega),Bool.true_and])
theorem z691 (l:List Int) (hl:l.length≤maxLen) (v:Int):CallsA Tryz.prog 123 [ints l,.int v] [] (.bool (decide (v∈l))) []:=by
 unfold maxLen at hl
 have e:decide (v∈l)=l.any (fun x=>decide (x=v)):=by
  rw [Bool.eq_iff_iff];simp
 rw [e]
 refine z7 z9 Tryz.func123 rfl rfl 18 Tryz.ntmps123 (by simp) ?_
 repeat' (((apply y4 ok;rfl))<;>conv=>whnf)
 refine z85 (fun k:Nat=>([(0,ints l),(1,.int v),(5,.int k)],[])) (fun k=>k≤l.length∧l.any (fun x=>decide (x=v))=(l.drop k).any (fun x=>decide (x=v))) (fun k=>l.length - k) 0 ⟨by omega,rfl⟩ ⟨[],rfl,by decide,rfl,by repeat' (first|exact True.intro|exact ⟨rfl,rfl⟩|apply y50),by repeat' (exact True.intro)⟩ ?_
 intro k hk
 repeat' ((first|(apply y4 ok;rfl)|(apply y50;first|omega|(unfold inI;omega))|(((with_reducible apply z8;omega));intro _)|((apply z5)<;>intro _))<;>conv=>whnf)
 ·rename_i h
  exact z21 rfl (by rw [hk.2,z966 _ _ _ (by assumption),y89 h];rfl)
 ·rename_i h
  exact z78 (k+1) [] ⟨by omega,by rw [hk.2,z966 _ _ _ (by assumption),y90 h];rfl⟩ (by omega) ⟨rfl,by decide,rfl,by repeat' (first|exact True.intro|exact ⟨rfl,rfl⟩|apply y50),by repeat' (exact True.intro)⟩
 ·exact z21 rfl (by rw [hk.2,z810 _ _ _ (by omega)])
theorem Distinct.le {l:List Int} {n:Int} (h:Distinct l n l.length) (h0:0≤n):(l.length:Int)≤n:=by
 have hnd:(l.map Int.toNat).Nodup:=by
  rw [List.nodup_iff_pairwise_ne,List.pairwise_map,List.pairwise_iff_getElem]
  intro i j hi hj hij he
  have h1:=h i hi hi
  have h2:=h j hj hj
  refine h2.2 ?_
  have:l[j]=l[i]:=by omega
  rw [this,List.mem_take_iff_getElem]
  exact ⟨i,by omega,rfl⟩
 have hsub:(l.map Int.toNat) ⊆ List.range n.toNat:=by
  intro x hx
  obtain ⟨y,hy,rfl⟩:=List.mem_map.1 hx
  obtain ⟨i,hi,rfl⟩:=List.mem_iff_getElem.1 hy
  have:=(h i hi hi).1
  rw [y67];omega
 have:=hnd.length_le_of_subset hsub
 simp at this
 omega
def RowOk (g:Graph) (i:Nat):Prop:=∀ (h:i < g.nx.length) (h' : i < g.st.length),1≤g.nx[i].length∧g.nx[i].length≤g.st.length∧z276 g.st[i].b=true∧Distinct g.nx[i] g.st.length g.nx[i].length
def GB (g:Graph):Prop:=(1≤g.st.length∧g.st.length≤60)∧g.nx.length=g.st.length∧∀ i,i < g.nx.length→RowOk g i
theorem z742 {n:Int} {l:List Int} : z848 n l=true↔1≤l.length∧Distinct l n l.length:=by
 unfold z848
 rw [y77,decide_eq_true_eq,Bool.not_eq_true',decide_eq_false_iff_not]
 exact and_congr (by omega) Iff.rfl
theorem z116 (g:Graph):z299 g=true↔GB g:=by
 unfold z299 GB
 simp only [y77,z119,decide_eq_true_eq,Bool.not_eq_true',List.any_eq_false]
 constructor
 ·rintro ⟨h1,h2,h3,h4⟩
  refine ⟨by omega,by omega,fun i hi h h'=>?_⟩
  have h5:=z742.1 (by simpa using h4 _ (y51 h))
  have h6:=h5.2.le (by omega)
  exact ⟨h5.1,by omega,by simpa using h3 _ (y51 h'),h5.2⟩
 ·rintro ⟨h1,h2,h3⟩
  refine ⟨by omega,by omega,fun s hs=>?_,fun l hl=>?_⟩
  ·obtain ⟨i,hi,rfl⟩:=List.mem_iff_getElem.1 hs
   simpa using (h3 i (by omega) (by omega) hi).2.2.1
  ·obtain ⟨i,hi,rfl⟩:=List.mem_iff_getElem.1 hl
   have:=h3 i hi hi (by omega)
   simpa using z742.2 ⟨this.1,this.2.2.2⟩
set_option maxHeartbeats 800000 in
theorem z420 (g:Graph) (hg:g.mx):CallsA Tryz.prog 175 [.agg g.cs] [] (.bool (z299 g)) []:=by
 obtain ⟨hs,hn,hm⟩:=hg
 have hl1:=hs.1
 unfold maxLen at hl1 hn
 have hiff:=z116 g
 refine z7 z9 Tryz.func175 rfl rfl 111 Tryz.ntmps175 (by simp) ?_
 repeat' ((first|(apply y4 ok;rfl)|((first|apply z5|apply z28)<;>intro _))<;>conv=>whnf)
 ·exact z21 rfl (by rw [← y78,hiff];rintro ⟨h1,h2,_⟩;omega)
 ·exact z21 rfl (by rw [← y78,hiff];rintro ⟨h1,h2,_⟩;omega)
 ·exact z21 rfl (by rw [← y78,hiff];rintro ⟨h1,h2,_⟩;omega)
 rename_i b1 b2 b3
 have hne:g.nx.length=g.st.length:=by omega
 refine z85 (fun k:Nat=>([(1,.ptr 0 none 0),(3,.int k)],[.cells 2 [[lst 2 State.cs g.st,lst 1 encL g.nx]]])) (fun k=>k≤g.nx.length∧∀ i,i < k→RowOk g i) (fun k=>g.nx.length - k) 0 ⟨by omega,fun i h=>by omega⟩ ⟨[0],rfl,by decide,rfl,by repeat' (first|exact True.intro|exact ⟨rfl,rfl⟩|apply y50),by repeat' (first|exact True.intro|exact z24 rfl rfl|apply y50)⟩ ?_
 intro k hk
 have bad:k < g.nx.length→¬ RowOk g k→z299 g=false:=fun h1 h2=>by
  rw [← y78,hiff];rintro ⟨_,_,h3⟩;exact h2 (h3 k h1)
 repeat' ((first|(apply y4 ok;rfl)|(apply z17;kernel_rfl)|(apply y50;omega)|(((with_reducible apply z8;omega));intro _)|((first|apply z5|apply z96)<;>intro _)|(apply z0 (z547 _ (hs.2 _ (y51 _)).2);rfl;rfl))<;>conv=>whnf)
 ·refine z21 rfl (bad (by assumption) fun h=>?_)
  have:=h (by assumption) (by omega);omega
 ·refine z21 rfl (bad (by assumption) fun h=>?_)
  have:=h (by assumption) (by omega);omega
 ·rename_i hv
  refine z21 rfl (bad (by assumption) fun h=>?_)
  have:=h (by assumption) (by omega)
  rw [hv] at this;simp at this
 ·rename_i hv
  have hkn:k < g.nx.length:=by assumption
  have hks:k < g.st.length:=by omega
  refine z85 (fun j:Nat=>([(1,.ptr 0 none 0),(3,.int k),(4,.int j)],[.cells 2 [[lst 2 State.cs g.st,lst 1 encL g.nx]]])) (fun j=>j≤g.nx[k].length∧Distinct g.nx[k] g.st.length j) (fun j=>g.nx[k].length - j) 0 ⟨by omega,fun i h hi=>by omega⟩ ⟨[0],rfl,by decide,rfl,by repeat' (first|exact True.intro|exact ⟨rfl,rfl⟩|apply y50),by repeat' (first|exact True.intro|exact z24 rfl rfl|apply y50)⟩ ?_
  intro j hj
  repeat' ((first|(apply y4 ok;rfl)|(apply z17;kernel_rfl)|(apply y50;first|omega|(unfold inI;omega))|(((with_reducible apply z8;omega));intro _)|((apply z5)<;>intro _))<;>conv=>whnf)
  ·refine z21 rfl (bad hkn fun h=>?_)
   have:=((h hkn hks).2.2.2 j (by assumption) (by assumption)).1;omega
  ·refine z21 rfl (bad hkn fun h=>?_)
   have:=((h hkn hks).2.2.2 j (by assumption) (by assumption)).1;omega
  ·apply z0 (z691 (g.nx[k].take j) (by rw [y55];unfold maxLen;omega) g.nx[k][j])
   ·show _=[AC.list 1 _ _,_]
    rw [show AC.list 1 (g.nx[k].take j).length ((g.nx[k].take j).map enI)=_ from (z421 1 enI g.nx[k] j hj.1).symm]
    rfl
   ·rfl
   conv=>whnf
   repeat' ((first|(apply y4 ok;rfl)|(apply z17;kernel_rfl)|(apply y50;(unfold inI;omega))|((apply z5)<;>intro _))<;>conv=>whnf)
   ·rename_i h2
    exact z21 rfl (bad hkn fun h=>((h hkn hks).2.2.2 j (by assumption) (by assumption)).2 h2)
   ·rename_i h2
    refine z78 (j+1) [0] ⟨by omega,fun i hi hik=>?_⟩ (by omega) ⟨rfl,by decide,rfl,by repeat' (first|exact True.intro|exact ⟨rfl,rfl⟩|apply y50),by repeat' (first|exact True.intro|exact z24 rfl rfl|apply y50)⟩
    rcases y76 i j with h3|h3
    ·exact hj.2 i hi h3
    ·obtain rfl:i=j:=by omega
     exact ⟨by omega,h2⟩
  ·refine z78 (k+1) [0] ⟨by omega,fun i hi=>?_⟩ (by omega) ⟨rfl,by decide,rfl,by repeat' (first|exact True.intro|exact ⟨rfl,rfl⟩|apply y50),by repeat' (first|exact True.intro|exact z24 rfl rfl|apply y50)⟩
   rcases y76 i k with h3|h3
   ·exact hk.2 i h3
   ·obtain rfl:i=k:=by omega
    intro _ _
    obtain rfl:j=g.nx[i].length:=by omega
    exact ⟨by omega,by omega,hv,hj.2⟩
 ·exact z21 rfl (by rw [hiff];exact ⟨by omega,hne,fun i hi=>hk.2 i (by omega)⟩)
def Trans.mx (t:Trans):Prop:=inI t.val
def z401 (n:Int) (t:Trans):Prop:=(0≤t.src∧t.src≤n - 1)∧(0≤t.dst∧t.dst≤n - 1)∧(0≤t.care∧t.care≤7)∧0≤t.val∧t.val.toNat &&& t.care.toNat=t.val.toNat
instance {n:Int} {t:Trans} : Decidable (z401 n t):=by unfold z401;infer_instance
def z1194 (n:Int) (t:Trans):Bool:=decide (z401 n t)
theorem z402 {n:Int} {t:Trans} : z1194 n t=true↔z401 n t:=by unfold z1194;exact decide_eq_true_iff
theorem edgeB_no {n:Int} {t:Trans} : z1194 n t=false↔¬ z401 n t:=by rw [← z402,y78]
def IniP (l:List Int) (n:Int) (k:Nat):Prop:=∀ i (h:i < l.length),i < k→(0≤l[i]∧l[i]≤n - 1)∧∀ j (hj:j+1=i),l[j]'(by omega) < l[i]
def AutP (a:Aut):Prop:=(1≤a.acc.length∧a.acc.length≤64)∧a.ed.length≤2048∧IniP a.ini a.acc.length a.ini.length∧∀ e∈a.ed,z401 a.acc.length e
noncomputable instance {a:Aut} : Decidable (AutP a):=Classical.propDecidable _
noncomputable def autB (a:Aut):Bool:=decide (AutP a)
theorem z162 {a:Aut} : autB a=true↔AutP a:=by unfold autB;exact decide_eq_true_iff
theorem z920 {a:Aut} : autB a=false↔¬ AutP a:=by rw [← z162,y78]
theorem IniP.ge {l:List Int} {n:Int} (h:IniP l n l.length):∀ i (hi:i < l.length),(i:Int)≤l[i]:=by
 intro i
 induction i with
 |zero=>intro hi;exact (h 0 hi hi).1.1
 |succ i ih =>
  intro hi
  have h1:=ih (by omega)
  have h2:=(h (i+1) hi hi).2 i rfl
  omega
theorem IniP.le {l:List Int} {n:Int} (h:IniP l n l.length) (h0:0≤n):(l.length:Int)≤n:=by
 rcases Nat.eq_zero_or_pos l.length with e|e
 ·omega
 ·have h1:=h.ge (l.length - 1) (by omega)
  have h2:=(h (l.length - 1) (by omega) (by omega)).1.2
  omega
theorem z1066 {v c:Int} (h0:0≤v) (h1:v≤9223372036854775807) (h2:0≤c) (h3:c≤7):(((BitVec.ofNat 64 v.toNat &&& ~~~BitVec.ofNat 64 c.toNat).toNat:Nat):Int)=0↔v.toNat &&& c.toNat=v.toNat:=by
 obtain ⟨v,rfl⟩:=Int.eq_ofNat_of_zero_le h0
 obtain ⟨c,rfl⟩:=Int.eq_ofNat_of_zero_le h2
 simp only [y83]
 have hv:v < 2 ^ 64:=by omega
 have hc:c < 2 ^ 64:=by omega
 have e:∀ x y:BitVec 64,(x &&& ~~~y)=0#64↔x &&& y=x:=by
  intro x y
  constructor
  ·intro h
   apply BitVec.eq_of_getElem_eq
   intro i hi
   have:=congrArg (fun z=>z[i]) h
   simp at this ⊢
   cases hx:x[i]<;>simp_all
  ·intro h
   apply BitVec.eq_of_getElem_eq
   intro i hi
   have:=congrArg (fun z=>z[i]) h
   simp at this ⊢
   cases hx:x[i]<;>simp_all
 have e2:=e (BitVec.ofNat 64 v) (BitVec.ofNat 64 c)
 constructor
 ·intro h
  have h4:(BitVec.ofNat 64 v &&& ~~~BitVec.ofNat 64 c)=0#64:=BitVec.eq_of_toNat_eq (by simpa using h)
  have h5:=congrArg BitVec.toNat (e2.1 h4)
  simpa [BitVec.toNat_and,Nat.mod_eq_of_lt hv,Nat.mod_eq_of_lt hc] using h5
 ·intro h
  have h4:BitVec.ofNat 64 v &&& BitVec.ofNat 64 c=BitVec.ofNat 64 v:=BitVec.eq_of_toNat_eq (by
   simpa [BitVec.toNat_and,Nat.mod_eq_of_lt hv,Nat.mod_eq_of_lt hc] using h)
  have h5:=congrArg BitVec.toNat (e2.2 h4)
  simpa using h5
theorem z1062 (n:Int) (h0:0≤n) (h1:n≤maxLen) (t:Trans) (ht:t.mx):CallsA Tryz.prog 244 [z20 Trans.cs t,.pt [.int n]] [] (.bool (!z1194 n t)) []:=by
 unfold Trans.mx inI at ht
 unfold maxLen at h1
 refine z7 z9 Tryz.func244 rfl rfl 37 Tryz.ntmps244 (by simp) ?_
 repeat' (first|(apply y4 ok;rfl;conv=>whnf)|(apply y50;(first|(unfold inI;omega)|(simp only [z119] at *;(unfold z161;omega)));conv=>whnf)|(apply z5<;>intro _<;>conv=>whnf)|(apply z96<;>intro _<;>conv=>whnf)|(apply z0 (z223 _ 0 (n - 1));rfl;rfl;conv=>whnf)|(apply z0 (z223 _ 0 7);rfl;rfl;conv=>whnf))
 all_goals (refine z21 rfl ?_;rw [Bool.eq_iff_iff];simp only [z119,z308,z402,edgeB_no,Bool.not_eq_true',decide_eq_false_iff_not,decide_eq_true_eq,Bool.false_eq_true,iff_false,iff_true] at *;unfold z401)
 all_goals try omega
 all_goals (rw [z1066 (by omega) (by omega) (by omega) (by omega)];omega)
theorem takes_ok (t:Trans) (n:Int) (h0:0≤n) (h1:n≤7) (ht:0≤t.care∧t.care≤7):CallsA Tryz.prog 195 [z20 Trans.cs t,.int n] [] (.bool (decide (((n.toNat &&& t.care.toNat:Nat):Int)=t.val))) []:=by
 refine z7 z9 Tryz.func195 rfl rfl 12 Tryz.ntmps195 (by simp) ?_
 repeat' (first|(apply y4 ok;rfl;conv=>whnf)|(apply y50;((unfold z161;omega));conv=>whnf))
 exact z21 rfl rfl
theorem l7On_ok (t:Trans) (n:Int) (h0:0≤n) (h1:n≤7) (ht:0≤t.care∧t.care≤7):CallsA Tryz.prog 233 [z20 Trans.cs t,.int n] [] (.bool (decide (((n.toNat &&& t.care.toNat:Nat):Int)=t.val))) []:=by
 refine z7 z9 Tryz.func233 rfl rfl 12 Tryz.ntmps233 (by simp) ?_
 repeat' (first|(apply y4 ok;rfl;conv=>whnf)|(apply y50;((unfold z161;omega));conv=>whnf))
 exact z21 rfl rfl
def Aut.mx (a:Aut):Prop:=a.ini.length≤maxLen∧a.acc.length≤maxLen∧a.ed.length≤maxLen∧∀ t∈a.ed,t.mx
theorem z465 (c:Int) (l:List Trans) (hl:l.length≤maxLen) (p:Trans→Bool) (f:FuncId) (hf:∀ x∈l,CallsA Tryz.prog f [z20 Trans.cs x,.pt [.int c]] [] (.bool (p x)) []):CallsA Tryz.prog 273 [lst 4 Trans.cs l,.fn (.func f) [] [.pt [.int c]]] [] (.int (idxF p l)) []:=by
 unfold maxLen at hl
 refine z7 z9 Tryz.func273 rfl rfl 19 Tryz.ntmps273 (by simp) ?_
 repeat' ((apply y4 ok;rfl;conv=>whnf))
 refine z85 (fun k:Nat=>([(0,lst 4 Trans.cs l),(1,.fn (.func f) [] [.pt [.int c]]),(7,.int l.length),(8,.int k)],[])) (fun k=>k≤l.length∧∀ j (hj:j < l.length),j < k→p l[j]=false) (fun k=>l.length - k) 0 (by simp)
  ⟨[],rfl,by decide,rfl,⟨⟨rfl,rfl⟩,⟨rfl,rfl⟩,⟨rfl,rfl⟩,⟨rfl,rfl⟩,trivial⟩,trivial⟩ ?_
 intro k hk
 repeat' (first|(apply y4 ok;rfl;conv=>whnf)|(apply y50;(first|omega|(unfold inI;omega));conv=>whnf)|(with_reducible apply z8;omega;intro _;conv=>whnf)|(apply z5<;>intro _<;>conv=>whnf)|(apply z93<;>intro _<;>conv=>whnf)|(apply z0 (hf l[k] (y51 _));rfl;rfl;conv=>whnf))
 ·rename_i h h1
  exact z42 rfl rfl (by rw [z140 (by omega) h1 hk.2];rfl)
 ·rename_i h h1
  refine z78 (k+1) [] ⟨by omega,fun j hj hjk=>?_⟩ (by omega) ⟨rfl,by decide,rfl,⟨⟨rfl,rfl⟩,⟨rfl,rfl⟩,⟨rfl,rfl⟩,⟨rfl,rfl⟩,trivial⟩,trivial⟩
  rcases y76 j k with h2|h2
  ·exact hk.2 j hj h2
  ·obtain rfl:j=k:=by omega
   exact h1
 ·exact z42 rfl rfl (by rw [z129 fun j hj=>hk.2 j hj (by omega)];rfl)
theorem z357 (c:Int) (l:List Trans) (hl:l.length≤maxLen) (p:Trans→Bool) (f:FuncId) (hf:∀ x∈l,CallsA Tryz.prog f [z20 Trans.cs x,.pt [.int c]] [] (.bool (p x)) []):CallsA Tryz.prog 243 [lst 4 Trans.cs l,.fn (.func f) [] [.pt [.int c]]] [] (.bool (l.any p)) []:=by
 refine z7 z9 Tryz.func243 rfl rfl 9 Tryz.ntmps243 (by simp) ?_
 repeat' (first|(apply y4 ok;rfl;conv=>whnf)|(apply z0 (z465 c l hl p f hf);rfl;rfl;conv=>whnf))
 exact z21 rfl (by rw [← z191])
theorem IniP.step {l:List Int} {n:Int} {k:Nat} (h:IniP l n k) (hk:k < l.length) (h1:0≤l[k]∧l[k]≤n - 1) (h2:∀ j (hj:j+1=k),l[j]'(by omega) < l[k]):IniP l n (k+1):=by
 intro i hi hik
 rcases y76 i k with h3|h3
 ·exact h i hi h3
 ·obtain rfl:i=k:=by omega
  exact ⟨h1,h2⟩
def z392 (l:List Int) (k:Nat):Int:=if h:0 < k∧k≤l.length then l[k - 1]'(by omega) else -1
theorem z243 (a:Aut) (ha:a.mx):CallsA Tryz.prog 193 [.agg a.cs] [] (.bool (autB a)) []:=by
 obtain ⟨hi,hc,he,hm⟩:=ha
 have hk:=z357 (a.acc.length:Int) a.ed he (fun t=>!z1194 a.acc.length t) 244 (fun t ht=>z1062 _ (by omega) (by omega) t (hm t ht))
 unfold maxLen at hi hc he
 refine z7 z9 Tryz.func193 rfl rfl 41 Tryz.ntmps193 (by simp) ?_
 repeat' ((apply y4 ok;rfl;conv=>whnf))
 refine z85 (fun k:Nat=>([(1,.ptr 0 none 0),(3,.ptr 1 none 0),(4,.int (z392 a.ini k)),(11,lst 1 enI a.ini),(12,.int a.ini.length),(13,.int k)],[.cells 3 [[lst 1 enI a.ini,lst 1 enB a.acc,lst 4 Trans.cs a.ed]],.cells 1 [[.int a.acc.length]]])) (fun k=>k≤a.ini.length∧IniP a.ini a.acc.length k) (fun k=>a.ini.length - k) 0 ⟨by omega,fun i h hi=>by omega⟩ ⟨[0,1],rfl,by decide,rfl,by repeat' (first|exact True.intro|exact ⟨rfl,rfl⟩|apply y50),by repeat' (first|exact True.intro|exact z24 rfl rfl|apply y50)⟩ ?_
 rintro k ⟨hk1,hk2⟩
 have hlast : -1≤z392 a.ini k∧z392 a.ini k≤a.acc.length - 1:=by
  unfold z392
  split
  ·rename_i h
   have:=(hk2 (k - 1) (by omega) (by omega)).1;omega
  ·omega
 repeat' (first|(apply y4 ok;rfl;conv=>whnf)|(apply y50;(first|omega|(unfold inI;omega));conv=>whnf)|(with_reducible apply z8;omega;intro _;conv=>whnf)|(apply z5<;>intro _<;>conv=>whnf)|(apply z96<;>intro _<;>conv=>whnf)|(apply z93<;>intro _<;>conv=>whnf)|(apply z0 (z223 _ (z392 a.ini k+1) _);rfl;rfl;conv=>whnf)|(apply z0 (z223 _ 1 64);rfl;rfl;conv=>whnf)|(apply z491 [1] (hk);rfl;rfl;rfl;rfl;conv=>whnf))
 ·rename_i hkl hb
  refine z21 rfl (z920.2 fun ⟨_,_,h,_⟩=>?_)
  have h1:=h k hkl hkl
  rw [z308] at hb
  refine hb ⟨?_,h1.1.2⟩
  unfold z392
  split
  ·rename_i hp
   have:=h1.2 (k - 1) (by omega);omega
  ·omega
 ·rename_i hkl hb
  rw [z119] at hb
  refine z78 (k+1) [0,1] ⟨by omega,hk2.step hkl (by omega) fun j hj=>?_⟩ (by omega) ⟨rfl,by decide,rfl,⟨⟨rfl,rfl⟩,⟨rfl,rfl⟩,⟨rfl,?_⟩,⟨rfl,rfl⟩,⟨rfl,rfl⟩,⟨rfl,rfl⟩,trivial⟩,⟨z24 rfl rfl,z24 rfl rfl,trivial⟩⟩
  ·subst hj
   have:=hb.1
   unfold z392 at this
   rw [dif_pos (by omega)] at this
   simp only [Nat.add_sub_cancel] at this
   omega
  ·have:z392 a.ini (k+1)=a.ini[k]:=by unfold z392;rw [dif_pos (by omega)];rfl
   rw [this];rfl
 all_goals (have hfull:IniP a.ini a.acc.length a.ini.length:=by (have:k=a.ini.length:=by omega);rw [← this];exact hk2)
 ·rename_i hb hl
  refine z21 rfl ?_
  rw [z119] at hb
  rw [Bool.eq_iff_iff,z162,Bool.not_eq_true',List.any_eq_false]
  constructor
  ·rintro ⟨_,_,_,h⟩ x hx
   simpa using z402.2 (h x hx)
  ·intro h
   exact ⟨by omega,by omega,hfull,fun e he=>z402.1 (by simpa using h e he)⟩
 ·refine z21 rfl (z920.2 fun hh=>?_)
  have:=hh.2.1;omega
 ·rename_i hb
  refine z21 rfl (z920.2 fun hh=>?_)
  have:=hh.1
  rw [z308] at hb;omega
theorem z207 {P:Program} {f:FuncId} {w:Nat} {res:AC} {objs' : List AObj} (hf:z973 P f) (h:∀ a cap,CallsA P f [.raw (.slice a 0 cap)] [] res objs'):CallsA P f [.list w 0 []] [] res objs':=by
 refine ⟨hf,fun G W vs hW hs hv=>?_⟩
 simp only [VL] at hv
 obtain ⟨⟨v,hv1,hv2⟩,_⟩:=hv
 simp only [V] at hv2
 obtain ⟨a,cap,rfl,_⟩:=hv2
 exact (h a cap).2 G W vs hW hs (by simp only [VL];exact ⟨⟨_,hv1,by simp [V]⟩,trivial⟩)
theorem nils_le {w:Nat} : ACle .nils (.list w 0 []):=fun G h v hv=>by
 simp only [V] at hv ⊢
 exact ⟨none,0,hv,y59 _,rfl,.inl trivial⟩
theorem z852 {o off w:Nat} : ACle (.sref o off 0) (.list w 0 []):=fun G h v hv=>by
 simp only [V] at hv ⊢
 obtain ⟨cap,_,⟨rfl,a,rfl⟩|⟨b,size,w',_,_,rfl⟩⟩:=hv
 ·exact ⟨_,_,rfl,y59 _,rfl,.inl trivial⟩
 ·exact ⟨_,_,rfl,y60 _,rfl,.inl trivial⟩
theorem z297 {P : Program} {f : FuncId} {fn : Func} {c : Code} (hf : P.funcs[f]? = some fn) (hb : fn.body = some c) (hn : (fn.name == "runtime.NumGoroutine") = false) : z973 P f := ⟨fn, c, hf, hn, hb⟩
theorem z637 (l:List Int) (hl:l.length≤1048576) (hp:0 < l.length):CallsA Tryz.prog 208 [ints l] [] (.sref 0 0 l.length) [.cells 1 (l.map enI)]:=by
 refine z7 z9 Tryz.func208 rfl rfl 8 Tryz.ntmps208 (by simp) ?_
 repeat' (first|(apply y4 ok;rfl;conv=>whnf)|(apply y50;(first|omega|(dsimp only;omega)|exact z151 (fun _=>rfl));conv=>whnf))
 exact z97 rfl (z4 fun _=>rfl) (Nat.zero_add _) rfl rfl
theorem z907 (l:List Int) (hl:l.length≤1048576):CallsA Tryz.prog 208 [ints l] [] (ints l) []:=by
 by_cases hp:0 < l.length
 ·have h:=(z637 l hl hp).keep (z170 _ _) (by simp)
  exact h
 ·obtain rfl:l=[]:=y80 (by omega)
  refine z207 (z297 Tryz.func208 rfl (by rfl)) fun ad cap=>?_
  refine z7 z9 Tryz.func208 rfl rfl 8 Tryz.ntmps208 (by simp) ?_
  repeat' (first|(apply y4 ok;rfl;conv=>whnf)|(apply y50;(omega);conv=>whnf)|(apply z93<;>intro _<;>conv=>whnf))
  ·exact z945 rfl rfl nils_le
  ·exact z945 rfl rfl z852
theorem z1052 (l:List Int) (hl:l.length≤1048576):CallsA Tryz.prog 110 [ints l] [] (ints l) []:=by
 refine z7 z9 Tryz.func110 rfl rfl 9 Tryz.ntmps110 (by simp) ?_
 repeat' (first|(apply y4 ok;rfl;conv=>whnf)|(apply y50;(omega);conv=>whnf))
 refine z42 rfl rfl ?_
 show AC.list 1 _ _=ints l
 rw [show AC.list 1 ((l.length:Int).toNat - (0:Int).toNat) (((l.map enI).drop (0:Int).toNat).take ((l.length:Int).toNat - (0:Int).toNat))=_ from z421 1 enI l l.length (y59 _),y62]
 rfl
theorem z455 (l:List Int) (hl:l.length≤1048576):CallsA Tryz.prog 150 [ints l] [] (ints l) []:=by
 refine z7 z9 Tryz.func150 rfl rfl 6 Tryz.ntmps150 (by simp) ?_
 repeat' (first|(apply y4 ok;rfl;conv=>whnf)|(apply z0 (z907 l hl);rfl;rfl;conv=>whnf)|(apply z0 (z1052 l hl);rfl;rfl;conv=>whnf))
 exact z42 rfl rfl rfl
theorem z1091 {x x' y:AC} (h:ACle x x'):ACle (.tup [x,y]) (.tup [x',y]):=fun G hh v hv=>by
 simp only [V,VL] at hv ⊢
 obtain ⟨c,rfl,hc,⟨v1,h1,h2⟩,h3,_⟩:=hv
 exact ⟨c,rfl,hc,⟨v1,h1,h _ _ _ h2⟩,h3,trivial⟩
noncomputable def glB (g:Graph) (l:List Tree):Bool:=z299 g && z118 l
theorem z733 {l:List Int} (h:z276 l=true):ValsOk l:=by
 unfold z276 at h
 rw [y77,decide_eq_true_eq,Bool.not_eq_true',List.any_eq_false] at h
 exact ⟨by omega,fun x hx=>by simpa [z119] using h.2 x hx⟩
theorem GB.vals {g:Graph} (h:GB g):∀ s∈g.st,ValsOk s.b:=fun s hs=>by
 obtain ⟨i,hi,rfl⟩:=List.mem_iff_getElem.1 hs
 exact z733 (h.2.2 i (by have:=h.2.1;omega) (by have:=h.2.1;omega) hi).2.2.1
def Lmx (l:List Tree):Prop:=l.length≤maxLen∧∀ t∈l,t.mx
theorem z419 (g:Graph) (hg:g.mx) (l:List Tree) (hl:Lmx l):CallsA Tryz.prog 124 [.agg g.cs,lst 3 Tree.cs' l] [] (.tup [ints (if glB g l then g.st.map (z49 l) else []),.bool (glB g l)]) []:=by
 refine z7 z9 Tryz.func124 rfl rfl 18 Tryz.ntmps124 (by simp) ?_
 have k1:=z420 g hg
 have k2:=z152 l hl.1 hl.2
 have k3:=fun (h1:z299 g=true) (h2:z118 l=true)=>z778 g ((z116 g).1 h1).vals ((z116 g).1 h1).1.2 l (y8 h2)
 repeat' (first|(apply y4 ok;rfl;conv=>whnf)|(apply z96<;>intro _<;>conv=>whnf)|(apply z0 (k1);rfl;rfl;conv=>whnf)|(apply z0 (k2);rfl;rfl;conv=>whnf)|(apply z0 (k3 (by assumption) (by assumption));rfl;rfl;conv=>whnf))
 ·rename_i h
  have e:glB g l=false:=by unfold glB;rw [h];rfl
  rw [e]
  exact z945 rfl rfl (z1091 z852)
 ·rename_i h1 h2
  have e:glB g l=false:=by unfold glB;rw [h1,h2];rfl
  rw [e]
  exact z945 rfl rfl (z1091 z852)
 ·rename_i h1 h2
  have e:glB g l=true:=by unfold glB;rw [h1,h2];rfl
  rw [e]
  exact z42 rfl rfl rfl
theorem z1053 (g:Graph) (hg:g.mx) (l:List Tree) (hl:Lmx l) (a:Aut) (ha:a.mx):CallsA Tryz.prog 134 [.agg g.cs,lst 3 Tree.cs' l,.agg a.cs] [] (.bool (glB g l && autB a)) []:=by
 refine z7 z9 Tryz.func134 rfl rfl 17 Tryz.ntmps134 (by simp) ?_
 repeat' (first|(apply y4 ok;rfl;conv=>whnf)|(apply z93<;>intro _<;>conv=>whnf)|(apply z0 (z394 g hg);rfl;rfl;conv=>whnf)|(apply z0 (z222 l hl.1 hl.2);rfl;rfl;conv=>whnf)|(apply z0 (z243 a ha);rfl;rfl;conv=>whnf))
 all_goals (refine z21 rfl ?_;(unfold glB;simp [*];done))
theorem z618 (l:List (List Int)):z62 (l.map z122)=l.map encL:=by
 rw [z104,List.map_map]
 refine List.map_congr_left fun r _=>?_
 show [AC.list 1 _ (z62 _)]=_
 rw [z170]
 simp [encL,ints,enI]
theorem z914 {n:Int} {s:Nat} (h:¬ bud n s < 0):bud n s=n - s∧(s:Int)≤n:=by
 unfold bud at h ⊢
 split at h
 ·omega
 ·rename_i h2;rw [if_neg h2];omega
def State.co (s:State):List AC:=[.own 1 (s.a.map enI),.own 1 (s.b.map enI)]
theorem z982 (l:List Int) (hl:l.length≤1048576):CallsA Tryz.prog 59 [ints l] [] (.sref 0 0 l.length) [.cells 1 (l.map enI)]:=by
 refine z7 z9 Tryz.func59 rfl rfl 22 Tryz.ntmps59 (by simp) ?_
 repeat' (first|(apply y4 ok;rfl;conv=>whnf)|(apply y50;((dsimp only;omega));conv=>whnf))
 refine z85 (fun k:Nat=>([(0,ints l),(3,.sref 0 0 l.length),(4,.int k)],[.cells 1 ((l.take k).map enI++List.replicate (l.length - k) [.int 0])])) (fun k=>k≤l.length) (fun k=>l.length - k) 0 (by omega) ⟨[0],rfl,by decide,rfl,by repeat' (first|exact True.intro|exact ⟨rfl,rfl⟩|apply y50),by repeat' (first|exact True.intro|exact z25 (by rfl) (by (first|exact z33|exact z19 rfl))|apply y50)⟩ ?_
 intro k hk
 repeat' (first|(apply y4 ok;rfl;conv=>whnf)|(apply y50;(first|omega|(unfold inI;omega));conv=>whnf)|(with_reducible apply z8;omega;intro _;conv=>whnf)|(apply z323;omega;conv=>whnf)|(apply z5<;>intro _<;>conv=>whnf))
 ·exact z78 (k+1) [0] (by omega) (by omega) ⟨rfl,by decide,rfl,⟨⟨rfl,rfl⟩,⟨rfl,rfl⟩,⟨rfl,rfl⟩,trivial⟩,⟨z947 (by omega) rfl rfl rfl (fun _=>rfl) rfl,trivial⟩⟩
 ·obtain rfl:k=l.length:=by omega
  exact z252 rfl (z4 fun _=>rfl) rfl (z324 _ _ _ _ rfl)
theorem z506 (l:List Tree) (hl:l.length≤1048576) (hel:∀ t∈l,CallsA Tryz.prog 61 [z20 Tree.cs' t] [] (.agg [.int t.kind,.int t.val,.sref 0 0 t.kids.length]) [.cells 3 (t.kids.map Tree.co)]):CallsA Tryz.prog 17 [lst 3 Tree.cs' l] [] (.sref 0 0 l.length) [.cells 3 (l.map Tree.co')]:=by
 refine z7 z9 Tryz.func17 rfl rfl 23 Tryz.ntmps17 (by simp) ?_
 repeat' (first|(apply y4 ok;rfl;conv=>whnf)|(apply y50;((dsimp only;omega));conv=>whnf))
 refine z85 (fun k:Nat=>([(0,lst 3 Tree.cs' l),(3,.sref 0 0 l.length),(4,.int k)],[.cells 3 ((l.take k).map Tree.co'++List.replicate (l.length - k) [.int 0,.int 0,.nils])])) (fun k=>k≤l.length) (fun k=>l.length - k) 0 (by omega) ⟨[0],rfl,by decide,rfl,by repeat' (first|exact True.intro|exact ⟨rfl,rfl⟩|apply y50),by repeat' (first|exact True.intro|exact z25 (by rfl) (by (first|exact z33|exact z19 rfl))|apply y50)⟩ ?_
 intro k hk
 by_cases hkl:k < l.length
 ·repeat' (first|((fail_if_success apply z65 4);(fail_if_success apply z50 4);apply y4 ok;rfl;conv=>whnf)|(apply y50;(omega);conv=>whnf)|(with_reducible apply z8;omega;intro _;conv=>whnf)|(apply z323;omega;conv=>whnf)|(apply z5<;>intro _<;>conv=>whnf)|(apply z35 [] [] [1] (hel l[k] (y51 _));rfl;(focus ((repeat' (exact z14))<;>(fail)));rfl;rfl;rfl;rfl;rfl;(focus ((repeat' (first|exact z12|apply z15))<;>((refine z22 ?_;(exact z4 y19)))));(exact .inl rfl);conv=>whnf))
  ·refine y92 (Gl.Reach.absorb 0 1 k 2 rfl (z148 rfl (by rw [z400 hk];exact hkl)) rfl rfl (by simp) rfl (z4 y19) rfl) ?_
   conv=>whnf
   repeat' (first|(apply y4 ok;rfl;conv=>whnf)|(apply y50;((unfold inI;omega));conv=>whnf))
   exact z78 (k+1) [0] (by omega) (by omega) ⟨rfl,by decide,rfl,⟨⟨rfl,rfl⟩,⟨rfl,rfl⟩,⟨rfl,rfl⟩,trivial⟩,⟨z25 (z39 (z399 hkl rfl rfl)) (z52 (z4 fun _=>rfl) (z19 rfl)),trivial⟩⟩
  ·omega
 ·repeat' (first|(apply y4 ok;rfl;conv=>whnf)|(apply y50;(omega);conv=>whnf)|(with_reducible apply z8;omega;intro _;conv=>whnf)|(apply z5<;>intro _<;>conv=>whnf))
  ·omega
  ·obtain rfl:k=l.length:=by omega
   exact z252 rfl (z4 fun _=>rfl) rfl (z324 _ _ _ _ rfl)
theorem z418 (t:Tree):t.sz≤1048576→CallsA Tryz.prog 61 [z20 Tree.cs' t] [] (.agg [.int t.kind,.int t.val,.sref 0 0 t.kids.length]) [.cells 3 (t.kids.map Tree.co)]:=by
 induction t using y32 with|h t ih=>?_
 intro hm
 rw [y44] at hm
 have hk:=z506 t.kids (by omega) (fun s hs=>ih s hs (by
  have:=z180 Tree.sz hs
  omega))
 rw [← y18] at hk
 rw [y17]
 refine z7 z9 Tryz.func61 rfl rfl 15 Tryz.ntmps61 (by simp) ?_
 repeat' (first|(apply y4 ok;rfl;conv=>whnf)|(apply z35 [] [] [3] (hk);rfl;(focus ((repeat' (exact z14))<;>(fail)));rfl;rfl;rfl;rfl;rfl;(focus ((repeat' (first|exact z12|apply z15))<;>((refine z22 ?_;(exact z4 y19)))));(exact .inl rfl);conv=>whnf))
 exact z70 [3] (by decide) rfl rfl rfl ⟨z25 rfl (z4 y19),trivial⟩
def enM (k:Int) (j:Nat):List AC:=[.int (k+j)]
theorem z350 (l:List Int) (k:Int) (hl:l.length≤1048576) (h0:0≤k) (h1:k≤1000000000000):CallsA Tryz.prog 68 [.sref 0 0 l.length,.int k] [.cells 1 (l.map enI)] (.int (k+l.length)) [.cells 1 ((z389 k l.length).map enI)]:=by
 refine z7 z9 Tryz.func68 rfl rfl 19 Tryz.ntmps68 (by simp) ?_
 repeat' ((apply y4 ok;rfl;conv=>whnf))
 refine z85 (fun i:Nat=>([(0,.sref 0 0 l.length),(1,.int (k+i)),(5,.int i)],[.cells 1 (mixL (enM k) (l.map enI) i)])) (fun i=>i≤l.length) (fun i=>l.length - i) 0 (by omega) ⟨[0],rfl,by decide,rfl,⟨⟨rfl,rfl⟩,⟨rfl,z139 (by simp)⟩,⟨rfl,rfl⟩,trivial⟩,⟨z25 (z39 (z238 _ _).symm) (z112 (fun _=>rfl) (fun _=>rfl)),trivial⟩⟩ ?_
 intro i hi
 repeat' (first|(apply y4 ok;rfl;conv=>whnf)|(refine get_mix (by omega) (by omega) ?_;conv=>whnf)|(apply y50;(first|omega|(unfold inI;omega));conv=>whnf)|(apply z5<;>intro _<;>conv=>whnf))
 ·exact z78 (i+1) [0] (by omega) (by omega) ⟨rfl,by decide,rfl,⟨⟨rfl,rfl⟩,⟨rfl,z139 (by omega)⟩,⟨rfl,rfl⟩,trivial⟩,⟨z25 (z39 (z318 (by simpa using by omega) (by omega) rfl)) (z112 (fun _=>rfl) (fun _=>rfl)),trivial⟩⟩
 ·obtain rfl:i=l.length:=by omega
  refine z70 [0] (by decide) rfl rfl rfl ⟨z25 (z39 ?_) (z4 fun _=>rfl),trivial⟩
  rw [z320 (by simp),z389,List.map_map];rfl
theorem z556 (n:Nat) (k:Int) (hl:n≤1048576) (h0:0≤k) (h1:k≤1000000000000):CallsA Tryz.prog 71 [ints (z389 k n),.int k] [] (.int (k+n)) []:=by
 have hn:=z538 k n
 refine z7 z9 Tryz.func71 rfl rfl 21 Tryz.ntmps71 (by simp) ?_
 repeat' ((apply y4 ok;rfl;conv=>whnf))
 refine z85 (fun i:Nat=>([(0,ints (z389 k n)),(1,.int (k+i)),(5,.int i)],[])) (fun i=>i≤n) (fun i=>n - i) 0 (by omega) ⟨[],rfl,by decide,rfl,⟨⟨rfl,rfl⟩,⟨rfl,z139 (by simp)⟩,⟨rfl,rfl⟩,trivial⟩,trivial⟩ ?_
 intro i hi
 repeat' (first|(apply y4 ok;rfl;conv=>whnf)|(apply y50;(first|omega|(unfold inI;omega));conv=>whnf)|(with_reducible apply z8;omega;intro _;conv=>whnf)|(apply z5<;>intro _<;>conv=>whnf)|(apply z28<;>intro _<;>conv=>whnf))
 ·rename_i h1 h2 h3
  exact absurd (z1150 (by omega)) (by assumption)
 ·exact z78 (i+1) [] (by omega) (by omega) ⟨rfl,by decide,rfl,⟨⟨rfl,rfl⟩,⟨rfl,z139 (by omega)⟩,⟨rfl,rfl⟩,trivial⟩,trivial⟩
 ·obtain rfl:i=n:=by omega
  exact z42 rfl rfl rfl
theorem z449 (l : List Tree) (k : Int) (hl : l.length ≤ 1048576) (hel : ∀ t ∈ l, ∀ k : Int, 0 ≤ k → k + 2 * (t.sz : Int) ≤ 1000000000000 → CallsA Tryz.prog 24 [.sref 0 0 t.kids.length, .int k] [.cells 3 (t.kids.map Tree.co)] (.int (k + 2 * (t.sz : Int))) [.cells 3 (List.replicate t.kids.length [.any, .any, .any])]) (h0 : 0 ≤ k) (h1 : k + 2 * (l.length + (l.map Tree.sz).sum : Nat) ≤ 1000000000000) :
    CallsA Tryz.prog 24 [.sref 0 0 l.length,.int k] [.cells 3 (l.map Tree.co')] (.int (k+2 * (l.length+(l.map Tree.sz).sum:Nat))) [.cells 3 (List.replicate l.length [.any,.any,.any])]:=by
  refine z7 z9 Tryz.func24 rfl rfl 34 Tryz.ntmps24 (by simp) ?_
  repeat' ((apply y4 ok;rfl;conv=>whnf))
  refine z85 (fun i:Nat=>([(0,.sref 0 0 l.length),(1,.int (k+2 * (i+((l.take i).map Tree.sz).sum:Nat))),(5,.int i)],[.cells 3 (mixL (fun _=>[.any,.any,.any]) (l.map Tree.co') i)])) (fun i=>i≤l.length) (fun i=>l.length - i) 0 (by omega) ⟨[0],rfl,by decide,rfl,⟨⟨rfl,rfl⟩,⟨rfl,z139 (by simp)⟩,⟨rfl,rfl⟩,trivial⟩,⟨z25 (z39 (z238 _ _).symm) (z112 (fun _=>rfl) (fun _=>rfl)),trivial⟩⟩ ?_
  intro i hi
  by_cases hil:i < l.length
  · have e:=z172 Tree.sz l i hil
    have e2:=z87 Tree.sz l (i+1)
    have hc:=hel l[i] (y51 _)
    have hm2:i < (mixL (fun _=>[AC.any,.any,.any]) (l.map Tree.co') i).length:=by rw [z387 (by simpa using hi)];simpa using hil
    have hin:((i:Int)).toNat=i:=y83 i
    generalize hF:mixL (fun _=>[AC.any,.any,.any]) (l.map Tree.co') i=F at hm2
    have hg:F[i]?=some (Tree.co' l[i]):=by rw [← hF];exact z319 hil
    repeat' (first|((fail_if_success apply z65 8);(fail_if_success apply z50 8);apply y4 ok;rfl;conv=>whnf)|(apply z225;exact hin;exact hm2;conv=>whnf)|(apply z13;exact hin;exact hg;conv=>whnf)|(apply y50;(first|omega|(unfold inI;omega));conv=>whnf)|(apply z5<;>intro _<;>conv=>whnf))
    · refine y92 (Gl.Reach.exposeD (e:=[.int (k+2 * (i+((l.take i).map Tree.sz).sum:Nat)),.int (k+2 * (i+((l.take i).map Tree.sz).sum:Nat)+1),.own 3 (l[i].kids.map Tree.co)]) 0 i 2 rfl (z148 rfl (by rw [y88];exact hm2)) rfl rfl) ?_
      conv=>whnf
      rw [y56]
      repeat' (first|((fail_if_success apply z65 3);(fail_if_success apply z50 3);apply y4 ok;rfl;conv=>whnf)|(apply z225;exact hin;(rw [y88,y88];exact hm2);conv=>whnf)|(apply y50;(omega);conv=>whnf)|(apply z35 [1] [] [] (hc (k+2 * (i+((l.take i).map Tree.sz).sum:Nat)+1+1) (by omega) (by omega));rfl;(focus ((repeat' (first|exact z14|apply z27))<;>((refine z41 rfl ?_;(exact z4 y19)))));rfl;rfl;rfl;rfl;rfl;(focus ((repeat' (first|exact z12|apply z15))<;>((refine z22 ?_;(exact z19 rfl)))));(exact .inl rfl);conv=>whnf))
      refine y92 (Gl.Reach.forget 0 i [.any,.any,.any] rfl (z148 rfl (by rw [y88,y88];exact hm2)) rfl rfl) ?_
      conv=>whnf
      repeat' (first|(apply y4 ok;rfl;conv=>whnf)|(apply y50;((unfold inI;omega));conv=>whnf))
      exact z78 (i+1) [0] (by omega) (by omega) ⟨rfl,by decide,rfl,⟨⟨rfl,rfl⟩,⟨rfl,z139 (by omega)⟩,⟨rfl,rfl⟩,trivial⟩,⟨z25 (z39 (by rw [List.set_set,List.set_set,Nat.add_zero,hin,List.set_set,← hF,z318 (by simpa using hil) rfl rfl])) (z112 (fun _=>rfl) (fun _=>rfl)),trivial⟩⟩
    · omega
  · repeat' (first|(apply y4 ok;rfl;conv=>whnf)|(apply y50;(omega);conv=>whnf)|(apply z5<;>intro _<;>conv=>whnf))
    · omega
    · obtain rfl:i=l.length:=by omega
      rw [y62]
      exact z70 [0] (by decide) rfl rfl rfl ⟨z25 (z39 (by rw [z320 (by simp),z253])) (z19 rfl),trivial⟩
theorem z540 (t:Tree):t.sz≤1048576→∀ k:Int,0≤k→k+2 * (t.sz:Int)≤1000000000000→CallsA Tryz.prog 24 [.sref 0 0 t.kids.length,.int k] [.cells 3 (t.kids.map Tree.co)] (.int (k+2 * (t.sz:Int))) [.cells 3 (List.replicate t.kids.length [.any,.any,.any])]:=by
 induction t using y32 with|h t ih=>?_
 intro hm k h0 h1
 have hz:=y44 t
 have hk:=z449 t.kids k (by omega) (fun s hs=>ih s hs (by
  have:=z180 Tree.sz hs
  omega)) h0 (by rw [← hz];exact h1)
 rw [← y18,← hz] at hk
 exact hk
theorem z771 (l : List Tree) (k : Int) (hl : l.length ≤ 1048576) (hel : ∀ t ∈ l, t.sz ≤ 1048576) (h0 : 0 ≤ k) (h1 : k + 2 * (l.length + (l.map Tree.sz).sum : Nat) ≤ 1000000000000) :
    CallsA Tryz.prog 24 [.sref 0 0 l.length,.int k] [.cells 3 (l.map Tree.co')] (.int (k+2 * (l.length+(l.map Tree.sz).sum:Nat))) [.cells 3 (List.replicate l.length [.any,.any,.any])] :=
  z449 l k hl (fun t ht=>z540 t (hel t ht)) h0 h1
theorem z1045 (l:List Bool):z62 (l.map enB)=l.map enB:=z170 (fun b=>Value.bool b) l
theorem z1059 {objs:Nat→AObj} {π Bn:List Nat} {o n:Nat} {l:List Bool} (ho:objs o=.cells 1 (l.map enB)) (h1:idx π o=none) (h2:inB Bn o=true) (hl:l.length=n):bor objs π Bn (.sref o 0 n)=lst 1 enB l:=by
 subst hl;exact z143 ho h1 h2 (by simp) (z1045 _)
theorem z1211 {objs:Nat→AObj} {π Bn:List Nat} {o:Nat} {l:List Bool} (ho:objs o=.cells 1 (l.map enB)) (h1:idx π o=none) (h2:inB Bn o=true):bor objs π Bn (.sref o 0 l.length)=lst 1 enB l :=
 z1059 ho h1 h2 rfl
structure Graph.ok (g:Graph):Prop where
 mx:g.mx
 st:g.st.length≤1048576
 nx:g.nx.length≤1048576
 states:∀ s∈g.st,s.small
 rows:∀ r∈g.nx,r.length≤1048576
 sumS:(g.st.map State.sz).sum≤1048576
 sumN:(g.nx.map List.length).sum≤1048576
theorem Graph.ok_of {g:Graph} (hg:g.mx) (h1:g.s1≤1048576) (h2:g.s2≤1048576):g.ok:=by
 unfold Graph.s1 tot at h1
 unfold Graph.s2 tot at h2
 refine ⟨hg,by omega,by omega,fun s hs=>?_,fun r hr=>?_,by omega,by omega⟩
 ·have:=z180 State.sz hs
  unfold State.sz at this h1
  exact ⟨by omega,by omega⟩
 ·have:=z180 List.length hr;omega
structure LabOk (l:List Tree):Prop where
 mx:Lmx l
 len:l.length≤1048576
 el:∀ t∈l,t.sz≤1048576
 sum:(l.map Tree.sz).sum≤1048576
theorem LabOk.of {l:List Tree} (hl:Lmx l) (h:tot Tree.sz l≤1048576):LabOk l:=by
 unfold tot at h
 exact ⟨hl,by omega,fun t ht=>by have:=z180 Tree.sz ht;omega,by omega⟩
theorem z657 {l:List Tree} (h:LabOk l):CallsA Tryz.prog 17 [lst 3 Tree.cs' l] [] (lst 3 Tree.cs' l) []:=z610 l h.len (fun t ht=>z505 t (h.el t ht))
theorem eqExprST {l:List Tree} (h:LabOk l):CallsA Tryz.prog 21 [lst 3 Tree.cs' l,lst 3 Tree.cs' l] [] (.bool true) []:=by
 have:=z636 l l h.mx.1 h.mx.1 (fun s hs t ht=>z563 s (h.mx.2 s hs) t (h.mx.2 t ht))
 rwa [y89 rfl] at this
theorem eqIntST (l:List Int) (h:l.length≤maxLen):CallsA Tryz.prog 64 [ints l,ints l] [] (.bool true) []:=by
 have:=z562 l l h h
 rwa [y89 rfl] at this
theorem szExprST (l:List Tree) (hl:Lmx l) (n:Int) (h0:0≤n) (h1:n≤1048576):CallsA Tryz.prog 14 [lst 3 Tree.cs' l,.int n] [] (.int (bud n (tot Tree.sz l))) []:=z986 l n hl.1 hl.2 h0 h1
def enU (n:Int):List AC:=[.raw (.int .u8 n)]
def rdO (bs:List Int) (p:Int):AObj:=.cells 2 [[lst 1 enU bs,.int p]]
structure BytesOk (bs:List Int):Prop where
 len:bs.length≤2000
 el:∀ x∈bs,0≤x∧x≤255
end Go.Proofs.YtnfoijopccdjeaaGreat
namespace Go.Proofs.YtnfoijopccdjeaaGreat
open Go.Gl
attribute [local irreducible] z16 AWP z29 z32 z30 RetS z36
theorem z88 (t:Tree):t.sz≤maxLen→t.mx:=by
 induction t using y32 with|h t ih=>?_
 intro h
 rw [y34]
 rw [y44] at h
 refine ⟨by omega,fun u hu=>ih u hu ?_⟩
 have:=z180 Tree.sz hu
 omega
abbrev few (p:Int):Prop:=0≤p∧p≤999999000
def leaf (k v:Int):Tree:=.mk k v []
mutual
def subZ (t:Tree):Tree:=match t with
 |.mk k v l=>if k=2∧v=-1 then .mk 0 0 [] else .mk k v (subZs l)
def subZs (l:List Tree):List Tree:=match l with
 |[]=>[]
 |t::r=>subZ t::subZs r
end
def ownT (t:Tree):AC:=.agg [.int t.kind,.int t.val,.sref 0 0 t.kids.length]
theorem z317 {f:FuncId} {args:List AC} {t:Tree} (h:CallsA Tryz.prog f args [] (ownT t) [.cells 3 (t.kids.map Tree.cs')]):CallsA Tryz.prog f args [] (z20 Tree.cs' t) []:=by
 rw [y17]
 exact (by refine y5 (h) [] [0] rfl rfl rfl ?_ ?_<;>(repeat' first|exact y93 _|((apply z66 rfl rfl rfl);(focus ((repeat ((exact z53 (fun _=>rfl) _)));done));(focus (((simp;done));done)))|apply z64|constructor))
theorem Lmx_of {L:List Tree} (h1:L.length≤10) (h2:∀ t∈L,t.sz≤1000):Lmx L:=⟨by unfold maxLen;omega,fun t ht=>z88 t (by have:=h2 t ht;unfold maxLen;omega)⟩
structure State.sm (s:State):Prop where
 a:s.a.length≤100
 b:s.b.length≤100
structure Graph.sm (g:Graph):Prop where
 st:g.st.length≤100
 nx:g.nx.length≤100
 el:∀ s∈g.st,s.sm
 row:∀ r∈g.nx,r.length≤1000
theorem Graph.sm.mx {g:Graph} (h:g.sm):g.mx:=by
 have h1:=h.st
 have h2:=h.nx
 refine ⟨?_,by unfold maxLen;omega,fun l hl=>by have:=h.row l hl;unfold maxLen;omega⟩
 have h3:=h.el
 exact ⟨by unfold maxLen;omega,fun s hs=>⟨by have:=(h3 s hs).a;unfold maxLen;omega,by have:=(h3 s hs).b;unfold maxLen;omega⟩⟩
theorem z783 (g : Graph) (hg : g.sm) (path : List Int) (hp : path.length ≤ 100000) (hin : ∀ x ∈ path, 0 ≤ x ∧ x < g.st.length) (S : List State) (hS : S.length = path.length) (he : ∀ i (h : i < path.length) (h2 : i < S.length), g.st[(path[i]).toNat]? = some S[i]) :
    CallsA Tryz.prog 50 [.agg g.cs,ints path] [] (.sref 0 0 S.length) [.cells 2 (S.map State.cs)]:=by
  refine z6 z9 Tryz.func50 rfl rfl 36 Tryz.ntmps50 (by simp) ?_
  repeat' (((apply y4 ok;rfl))<;>conv=>whnf)
  refine z77 (fun i:Nat=>([(1,ints path),(2,.ptr 0 none 0),(5,.sref 1 0 i),(6,.int i)],[.cells 2 [g.cs],.cells 2 ((S.take i).map State.cs)])) (fun i=>i≤path.length) (fun i=>path.length - i) 0 (by omega) (by refine swR [0,1] [] rfl rfl ?_;(repeat' first|exact y93 _|apply y94|refine z10 rfl (z33) ?_|constructor)) ?_
  intro i hi
  by_cases hip:i < path.length
  · have hl:i < S.length:=by omega
    have hx:=hin path[i] (y51 _)
    have g0:(path.map enI)[i]?=some (enI path[i]):=by rw [y58,y52 hip];rfl
    have g1:=he i hip hl
    have g2:(g.st.map State.cs)[(path[i]).toNat]?=some (State.cs S[i]):=by rw [y58,g1];rfl
    have hs:=hg.el S[i] (List.mem_of_getElem? g1)
    have ha:=hs.a
    have hb:=hs.b
    generalize path[i]=x at *
    repeat' ((first|(apply y4 ok;rfl)|(apply z17;kernel_rfl)|(refine z13 (i:=i) rfl g0 ?_)|(refine z13 (i:=x.toNat) rfl g2 ?_)|(apply y50;first|omega|(unfold inI;omega)|(dsimp only;omega)|((try dsimp only);simp only [y56,y55,y54,y53,y64,y65];omega)|exact z151 (fun _=>rfl)|exact ⟨rfl,z38 rfl z45⟩)|((apply z5)<;>intro _))<;>conv=>whnf)
    all_goals try (exfalso;omega)
    all_goals refine z34 (i+1) (by omega) (by omega) (by refine swR [0,8] [4,6] rfl rfl ?_;(repeat' first|exact y93 _|(refine z541 ?_;omega)|apply y94|((refine z51 rfl ?_ ?_);(focus ((repeat' (first|exact z4 (fun _=>rfl)|apply z40));done)))|refine app_le (by omega) (by omega) ?_|((apply z285 rfl rfl rfl);(focus ((repeat ((exact z53 (fun _=>rfl) _)));done));(focus (((simp;done));done)))|constructor))
  · have e:i=S.length:=by omega
    subst e
    rw [y63 (by omega)]
    repeat' ((first|(apply y4 ok;rfl)|(apply z17;kernel_rfl)|(apply y50;omega)|((first|(with_reducible apply z8;omega)|(with_reducible apply z103;omega));intro _)|((apply z5)<;>intro _))<;>conv=>whnf)
    all_goals try (exfalso;omega)
    all_goals (refine rsD [1] [] rfl ?_;(repeat' first|exact y93 _|exact z11 _|refine z10 rfl (z4 (fun _=>rfl)) ?_|constructor))
structure Edge where
 fr:Int
 to:Int
 gd:Tree
 var:Int
 val:Tree
 sync:Int
def Edge.cs (e:Edge):List AC:=[.int e.fr,.int e.to,.int e.gd.kind,.int e.gd.val,lst 3 Tree.cs' e.gd.kids,.int e.var,.int e.val.kind,.int e.val.val,lst 3 Tree.cs' e.val.kids,.int e.sync]
structure Proc where
 loc:Int
 es:List Edge
def Proc.cs (p:Proc):List AC:=[.int p.loc,lst 10 Edge.cs p.es]
structure Sys where
 init:List Int
 ps:List Proc
def Sys.cs (s:Sys):List AC:=[ints s.init,lst 2 Proc.cs s.ps]
structure Edge.sm (e:Edge):Prop where
 gd:e.gd.sz≤100
 val:e.val.sz≤100
 var : -1≤e.var∧e.var≤2
 sync : -2≤e.sync∧e.sync≤2
structure Proc.sm (p:Proc):Prop where
 loc:0≤p.loc∧p.loc≤100
 len:p.es.length≤10
 el:∀ e∈p.es,e.sm
structure Sys.sm (s:Sys):Prop where
 init:s.init.length≤10
 len:s.ps.length≤10
 el:∀ p∈s.ps,p.sm
structure Edge.s1 (e:Edge):Prop where
 gd:e.gd.sz≤1000
 val:e.val.sz≤1000
structure Proc.s1 (p:Proc):Prop where
 len:p.es.length≤10
 el:∀ e∈p.es,e.s1
structure Sys.s1 (s:Sys):Prop where
 init:s.init.length≤20
 len:s.ps.length≤20
 el:∀ p∈s.ps,p.s1
theorem Edge.sm.s1 {e:Edge} (h:e.sm):e.s1:=⟨by have:=h.gd;omega,by have:=h.val;omega⟩
theorem Proc.sm.s1 {p:Proc} (h:p.sm):p.s1:=⟨h.len,fun e he=>(h.el e he).s1⟩
theorem Sys.sm.s1 {s:Sys} (h:s.sm):s.s1:=⟨by have:=h.init;omega,by have:=h.len;omega,fun p hp=>(h.el p hp).s1⟩
theorem z735 (n:Nat) (e:List AC):z62 (List.replicate n e)=List.replicate n (z281 e):=by
 induction n with
 |zero=>rfl
 |succ n ih=>simp only [List.replicate_succ,z62,ih]
noncomputable def z464 (t:Tree):Bool:=decide (t.kind=0∧t.val=0∧t.kids.length=0)
theorem z787 (t:Tree):CallsA Tryz.prog 220 [z20 Tree.cs' t] [] (.bool (z464 t)) []:=by
 refine z7 z9 Tryz.func220 rfl rfl 17 Tryz.ntmps220 (by simp) ?_
 repeat' ((first|(apply y4 ok;rfl)|((apply z5)<;>intro _))<;>conv=>whnf)
 all_goals refine z21 rfl ?_
 all_goals unfold z464
 all_goals first|(rw [decide_eq_decide];omega)|(rw [decide_eq_false_iff_not];omega)
noncomputable def z159 (e:Edge) (n:Int):Bool:=decide (0≤e.fr∧e.fr < n∧0≤e.to∧e.to < n∧n≤4) && (e.gd.exprB && (decide (-2≤e.sync∧e.sync≤2∧-1≤e.var∧e.var < 3) && (if e.var < 0 then z464 e.val else e.val.exprB)))
set_option maxHeartbeats 1600000 in
theorem z808 (e:Edge) (he:e.s1) (n:Int):CallsA Tryz.prog 168 [.agg e.cs,.int n] [] (.bool (z159 e n)) []:=by
 have h1:=he.gd
 have h2:=he.val
 have c1:=z111 e.gd (z88 _ (by unfold maxLen;omega))
 have c2:=z111 e.val (z88 _ (by unfold maxLen;omega))
 have c3:=z787 e.val
 rw [y17] at c1 c2 c3
 unfold z159
 generalize e.gd.exprB=b1 at *
 generalize e.val.exprB=b2 at *
 generalize z464 e.val=b3 at *
 by_cases ha:0≤e.fr∧e.fr < n∧0≤e.to∧e.to < n∧n≤4
 ·rw [y89 ha]
  by_cases hb : -2≤e.sync∧e.sync≤2∧-1≤e.var∧e.var < 3
  ·rw [y89 hb]
   by_cases hv:e.var < 0
   ·rw [if_pos hv]
    refine z7 z9 Tryz.func168 rfl rfl 71 Tryz.ntmps168 (by simp) ?_
    cases b1<;>cases b3
    all_goals
     repeat' ((first|(apply y4 ok;rfl)|((apply z5)<;>intro _)|(apply z0 (c1);rfl;rfl)|(apply z0 (c3);rfl;rfl))<;>conv=>whnf)
     all_goals first|(exfalso;omega)|exact z21 rfl rfl
   ·rw [if_neg hv]
    refine z7 z9 Tryz.func168 rfl rfl 71 Tryz.ntmps168 (by simp) ?_
    cases b1<;>cases b2
    all_goals
     repeat' ((first|(apply y4 ok;rfl)|((apply z5)<;>intro _)|(apply z0 (c1);rfl;rfl)|(apply z0 (c2);rfl;rfl))<;>conv=>whnf)
     all_goals first|(exfalso;omega)|exact z21 rfl rfl
  ·rw [y90 hb]
   refine z7 z9 Tryz.func168 rfl rfl 71 Tryz.ntmps168 (by simp) ?_
   cases b1
   all_goals
    repeat' ((first|(apply y4 ok;rfl)|((apply z5)<;>intro _)|(apply z0 (c1);rfl;rfl))<;>conv=>whnf)
    all_goals first|(exfalso;omega)|exact z21 rfl rfl
 ·rw [y90 ha]
  refine z7 z9 Tryz.func168 rfl rfl 71 Tryz.ntmps168 (by simp) ?_
  repeat' ((first|(apply y4 ok;rfl)|((first|apply z5|apply z96)<;>intro _)|(apply z0 (c1);rfl;rfl))<;>conv=>whnf)
  all_goals first|(exfalso;omega)|exact z21 rfl rfl
noncomputable def z182 (p:Proc):Bool:=p.es.all (fun e=>z159 e p.loc) && decide (1≤p.loc∧p.loc≤4∧p.es.length≤6)
theorem z785 (p:Proc) (hp:p.s1):CallsA Tryz.prog 114 [.agg p.cs] [] (.bool (z182 p)) []:=by
 have hl:=hp.len
 unfold z182
 refine z7 z9 Tryz.func114 rfl rfl 34 Tryz.ntmps114 (by simp) ?_
 repeat' (((apply y4 ok;rfl))<;>conv=>whnf)
 refine z85 (fun k:Nat=>([(1,.ptr 0 none 0),(3,.int k)],[.cells 2 [p.cs]])) (fun k=>k≤p.es.length∧p.es.all (fun e=>z159 e p.loc)=(p.es.drop k).all (fun e=>z159 e p.loc)) (fun k=>p.es.length - k) 0 ⟨by omega,rfl⟩ ⟨[0],rfl,by decide,rfl,by repeat' (first|exact True.intro|exact ⟨rfl,rfl⟩|apply y50),by repeat' (first|exact True.intro|exact z24 rfl rfl|apply y50)⟩ ?_
 intro k hk
 by_cases hkl:k < p.es.length
 ·have ce:=z808 p.es[k] (hp.el _ (y51 _)) p.loc
  have e:=z123 (fun e=>z159 e p.loc) p.es k hkl
  rw [e] at hk
  have g0:(p.es.map Edge.cs)[k]?=some (Edge.cs p.es[k]):=by rw [y58,y52 hkl];rfl
  generalize z159 p.es[k] p.loc=b at *
  cases b
  all_goals
   repeat' ((first|(apply y4 ok;rfl)|(apply z17;kernel_rfl)|(refine z13 (i:=k) rfl g0 ?_)|(apply y50;first|omega|(unfold inI;omega))|((apply z5)<;>intro _)|(apply z0 (ce);rfl;rfl))<;>conv=>whnf)
   all_goals try (exfalso;omega)
  ·exact z21 rfl (by rw [hk.2];rfl)
  ·exact z78 (k+1) [0] ⟨by omega,by rw [hk.2,Bool.true_and]⟩ (by omega) ⟨rfl,by decide,rfl,by repeat' (first|exact True.intro|exact ⟨rfl,rfl⟩|apply y50),by repeat' (first|exact True.intro|exact z24 rfl rfl|apply y50)⟩
 ·have e:=z99 (fun e=>z159 e p.loc) p.es k (by omega)
  rw [e] at hk
  repeat' ((first|(apply y4 ok;rfl)|(apply y50;omega)|(((with_reducible apply z8;omega));intro _)|((apply z5)<;>intro _))<;>conv=>whnf)
  all_goals first|(exfalso;omega)|(refine z21 rfl ?_;rw [hk.2];simp only [Bool.true_and,Bool.false_and];first|(rw [decide_eq_decide];omega)|(rw [decide_eq_false_iff_not];omega))
noncomputable def sysB (s:Sys):Bool:=s.ps.all z182 && (z276 s.init && decide (1≤s.ps.length∧s.ps.length≤3))
theorem z338 (s:Sys) (hs:s.s1):CallsA Tryz.prog 45 [.agg s.cs] [] (.bool (sysB s)) []:=by
 have hl:=hs.len
 have hi:=hs.init
 have cv:=z547 s.init (by unfold maxLen;omega)
 unfold sysB
 generalize z276 s.init=vb at *
 refine z7 z9 Tryz.func45 rfl rfl 33 Tryz.ntmps45 (by simp) ?_
 repeat' (((apply y4 ok;rfl))<;>conv=>whnf)
 refine z85 (fun k:Nat=>([(1,.ptr 0 none 0),(3,.int k)],[.cells 2 [s.cs]])) (fun k=>k≤s.ps.length∧s.ps.all z182=(s.ps.drop k).all z182) (fun k=>s.ps.length - k) 0 ⟨by omega,rfl⟩ ⟨[0],rfl,by decide,rfl,by repeat' (first|exact True.intro|exact ⟨rfl,rfl⟩|apply y50),by repeat' (first|exact True.intro|exact z24 rfl rfl|apply y50)⟩ ?_
 intro k hk
 by_cases hkl:k < s.ps.length
 ·have ce:=z785 s.ps[k] (hs.el _ (y51 _))
  have e:=z123 z182 s.ps k hkl
  rw [e] at hk
  have g0:(s.ps.map Proc.cs)[k]?=some (Proc.cs s.ps[k]):=by rw [y58,y52 hkl];rfl
  generalize z182 s.ps[k]=b at *
  cases b
  all_goals
   repeat' ((first|(apply y4 ok;rfl)|(refine z13 (i:=k) rfl g0 ?_)|(apply y50;first|omega|(unfold inI;omega))|((apply z5)<;>intro _)|(apply z0 (ce);rfl;rfl))<;>conv=>whnf)
   all_goals try (exfalso;omega)
  ·exact z21 rfl (by rw [hk.2];rfl)
  ·exact z78 (k+1) [0] ⟨by omega,by rw [hk.2,Bool.true_and]⟩ (by omega) ⟨rfl,by decide,rfl,by repeat' (first|exact True.intro|exact ⟨rfl,rfl⟩|apply y50),by repeat' (first|exact True.intro|exact z24 rfl rfl|apply y50)⟩
 ·have e:=z99 z182 s.ps k (by omega)
  rw [e] at hk
  cases vb
  all_goals
   repeat' ((first|(apply y4 ok;rfl)|(apply y50;omega)|(((with_reducible apply z8;omega));intro _)|((apply z5)<;>intro _)|(apply z0 (cv);rfl;rfl))<;>conv=>whnf)
   all_goals first|(exfalso;omega)|(refine z21 rfl ?_;rw [hk.2];simp only [Bool.true_and,Bool.false_and];first|done|(rw [decide_eq_decide];omega)|(rw [decide_eq_false_iff_not];omega))
theorem z791 (s:Sys) (hs:s.s1):CallsA Tryz.prog 119 [.agg s.cs] [] (.tup [.agg (if sysB s then (⟨List.replicate s.ps.length 0,s.init⟩:State) else ⟨[],[]⟩).cs,.bool (sysB s)]) []:=by
 have hl:=hs.len
 have hi:=hs.init
 have c:=z338 s hs
 generalize sysB s=b at *
 refine z6 z9 Tryz.func119 rfl rfl 17 Tryz.ntmps119 (by simp) ?_
 cases b
 all_goals
  repeat' ((first|(apply y4 ok;rfl)|(apply z17;kernel_rfl)|(apply y50;first|(dsimp only;omega)|exact z151 (fun _=>rfl))|(apply z0 (c);rfl;rfl))<;>conv=>whnf)
 ·(refine rsD [] [] rfl ?_;(repeat' first|exact y93 _|exact z61|apply z64|apply z72|constructor))
 ·(refine rsD [] [2,4] rfl ?_;(repeat' first|exact y93 _|(refine z541 ?_;omega)|((apply z66 rfl rfl rfl);(focus ((repeat (first|exact z53 (fun _=>rfl) _|rfl));done));(focus (((simp;done));done)))|apply z64|apply z72|(refine z221 ?_ ?_;(focus (simp;done)))|constructor))
  exact z55 (by rw [z735,if_pos rfl];simp only [List.map_replicate,y83];rfl)
def Sys.pr (s:Sys) (i:Nat):Proc:=s.ps.getD i ⟨0,[]⟩
def Proc.eg (p:Proc) (k:Nat):Edge:=p.es.getD k ⟨0,0,leaf 0 0,0,leaf 0 0,0⟩
theorem y16 {s:Sys} {i:Nat} (h:i < s.ps.length):(s.ps.map Proc.cs)[i]?=some (s.pr i).cs:=by
 unfold Sys.pr;rw [z18 h,y58,y52 h];rfl
theorem y12 {p:Proc} {k:Nat} (h:k < p.es.length):(p.es.map Edge.cs)[k]?=some (p.eg k).cs:=by
 unfold Proc.eg;rw [z18 h,y58,y52 h];rfl
structure Edge.ok (e:Edge) (n:Int):Prop where
 to:0≤e.to∧e.to < n
 gd:e.gd.good
 var : -1≤e.var∧e.var≤2
 val:0≤e.var→e.val.good
 sync : -2≤e.sync∧e.sync≤2
structure Sys.ok (s:Sys):Prop where
 n1:1≤s.ps.length
 n3:s.ps.length≤3
 ne:∀ i,i < s.ps.length→(s.pr i).es.length≤6
 loc:∀ i,i < s.ps.length→(s.pr i).loc≤4
 eg:∀ i k,i < s.ps.length→k < (s.pr i).es.length→((s.pr i).eg k).ok (s.pr i).loc
 init:ValsOk s.init
theorem y15 {s:Sys} (h:sysB s=true):s.ok:=by
 unfold sysB at h
 rw [y77,y77,decide_eq_true_iff,y85] at h
 obtain ⟨h1,h2,h3⟩:=h
 have hp:∀ i,i < s.ps.length→z182 (s.pr i)=true:=fun i hi=>by unfold Sys.pr;rw [z18 hi];exact h1 _ (y51 _)
 have hq:∀ i,i < s.ps.length→(∀ e∈(s.pr i).es,z159 e (s.pr i).loc=true)∧1≤(s.pr i).loc∧(s.pr i).loc≤4∧(s.pr i).es.length≤6:=fun i hi=>by
  have:=hp i hi
  unfold z182 at this
  rw [y77,decide_eq_true_iff,y85] at this
  exact this
 refine ⟨h3.1,h3.2,fun i hi=>(hq i hi).2.2.2,fun i hi=>(hq i hi).2.2.1,fun i k hi hk=>?_,z733 h2⟩
 have he:=(hq i hi).1 ((s.pr i).eg k) (by unfold Proc.eg;rw [z18 hk];exact y51 _)
 unfold z159 at he
 simp only [y77,decide_eq_true_iff] at he
 obtain ⟨a1,a2,a3,a4⟩:=he
 refine ⟨⟨a1.2.2.1,a1.2.2.2.1⟩,y31 a2,⟨a3.2.2.1,by omega⟩,fun hv=>?_,⟨a3.1,a3.2.1⟩⟩
 rw [if_neg (by omega)] at a4
 exact y31 a4
noncomputable def rdyE (e:Edge) (st:State) (i:Nat):Bool:=decide (e.fr=st.a.getD i 0) && decide (e.gd.ev st.b≠0)
structure State.ok (st:State) (s:Sys):Prop where
 a:st.a.length=s.ps.length
 b:ValsOk st.b
theorem z627 (s:Sys) (hs:s.ok) (st:State) (h:st.ok s) (i k:Nat) (hi:i < s.ps.length) (hk:k < (s.pr i).es.length):CallsA Tryz.prog 171 [.agg s.cs,.agg st.cs,.int i,.int k] [] (.bool (rdyE ((s.pr i).eg k) st i)) []:=by
 have gp:=y16 hi
 have ge:=y12 hk
 have hE:=hs.eg i k hi hk
 have h3:=hs.n3
 have ha:=h.a
 have h6:=hs.ne i hi
 generalize (s.pr i).eg k=e at *
 have hb:=h.b.1
 have ga:(st.a.map enI)[i]?=some (enI (st.a.getD i 0)):=by rw [y58,z18 (show i < st.a.length by omega),y52 (by omega)];rfl
 have ce:=z548 st.b h.b e.gd hE.gd
 rw [y17] at ce
 unfold rdyE
 generalize st.a.getD i 0=x at *
 generalize s.pr i=p at *
 refine z7 z9 Tryz.func171 rfl rfl 35 Tryz.ntmps171 (by simp) ?_
 repeat' ((first|(apply y4 ok;rfl)|(apply z17;kernel_rfl)|(refine z13 (i:=i) rfl gp ?_)|(refine z13 (i:=k) rfl ge ?_)|(refine z13 (i:=i) rfl ga ?_)|(apply y50;omega)|((apply z5)<;>intro _)|(apply z0 (ce);rfl;rfl))<;>conv=>whnf)
 all_goals exact z21 rfl (by simp [*])
structure Stp where
 p:Int
 e:Int
 q:Int
 f:Int
def Stp.cs (x:Stp):List AC:=[.int x.p,.int x.e,.int x.q,.int x.f]
structure Stp.ok (x:Stp) (s:Sys):Prop where
 p:0≤x.p∧x.p < s.ps.length
 e:0≤x.e∧x.e < (s.pr x.p.toNat).es.length
 q : -1≤x.q∧x.q < s.ps.length
 f:0≤x.q→0≤x.f∧x.f < (s.pr x.q.toNat).es.length
open Classical in
noncomputable def z429 (s:Sys) (st:State) (i k:Nat) (j m:Nat):List Stp:=if j≠i∧((s.pr j).eg m).sync=-((s.pr i).eg k).sync∧rdyE ((s.pr j).eg m) st j=true then [⟨i,k,j,m⟩] else []
noncomputable def z680 (s:Sys) (st:State) (i k:Nat):List Stp:=cat s.ps.length fun j=>cat (s.pr j).es.length (z429 s st i k j)
theorem partL_ok {s:Sys} {st:State} {i k:Nat} (hi:i < s.ps.length) (hk:k < (s.pr i).es.length):∀ x∈z680 s st i k,x.ok s:=fun x hx=>by
 obtain ⟨j,hj,hx⟩:=z687 hx
 obtain ⟨m,hm,hx⟩:=z687 hx
 unfold z429 at hx
 split at hx
 ·rw [List.mem_singleton.1 hx]
  exact ⟨⟨by show 0≤(i:Int);omega,by show (i:Int) < _;omega⟩,⟨by show 0≤(k:Int);omega,by show (k:Int) < _;simpa using hk⟩,⟨by show -1≤(j:Int);omega,by show (j:Int) < _;omega⟩,fun _=>⟨by show 0≤(m:Int);omega,by show (m:Int) < _;simpa using hm⟩⟩
 ·cases hx
theorem z759 {s:Sys} (hs:s.ok) {st:State} {i k:Nat} : (z680 s st i k).length≤18:=by
 have h3:=hs.n3
 have:=z715 (n:=s.ps.length) (c:=6) (f:=fun j=>cat (s.pr j).es.length (z429 s st i k j)) (fun j hj=>by
  have h6:=hs.ne j hj
  have:=z715 (n:=(s.pr j).es.length) (c:=1) (f:=z429 s st i k j) (fun m _=>by unfold z429;split<;>simp)
  omega)
 unfold z680
 omega
set_option maxHeartbeats 1600000 in
theorem z692 (s:Sys) (hs:s.ok) (st:State) (h:st.ok s) (i k:Nat) (hi:i < s.ps.length) (hk:k < (s.pr i).es.length):CallsA Tryz.prog 172 [.agg s.cs,.agg st.cs,.int i,.int k] [] (lst 4 Stp.cs (z680 s st i k)) []:=by
  have gp:=y16 hi
  have ge:=y12 hk
  have h3:=hs.n3
  have h6:=hs.ne i hi
  have hE:=hs.eg i k hi hk
  have hsy:=hE.sync
  have hfin:z680 s st i k=cat s.ps.length (fun j=>cat (s.pr j).es.length (z429 s st i k j)):=rfl
  have hR1:∀ j m,(j≠i∧((s.pr j).eg m).sync=-((s.pr i).eg k).sync∧rdyE ((s.pr j).eg m) st j=true)→z429 s st i k j m=[⟨i,k,j,m⟩]:=fun _ _ h=>if_pos h
  have hR0:∀ j m,¬(j≠i∧((s.pr j).eg m).sync=-((s.pr i).eg k).sync∧rdyE ((s.pr j).eg m) st j=true)→z429 s st i k j m=[]:=fun _ _ h=>if_neg h
  generalize z680 s st i k=FIN at *
  generalize z429 s st i k=R at *
  generalize (s.pr i).eg k=e at *
  generalize hp:s.pr i=p at *
  refine z6 z9 Tryz.func172 rfl rfl 76 Tryz.ntmps172 (by simp) ?_
  repeat' ((first|(apply y4 ok;rfl)|(refine z13 (i:=i) rfl gp ?_)|(refine z13 (i:=k) rfl ge ?_)|(apply y50;omega))<;>conv=>whnf)
  refine z77 (fun x:Nat×List Stp=>([(2,.int i),(3,.int k),(4,.ptr 0 none 0),(5,.ptr 1 none 0),(9,.sref 2 0 x.2.length),(10,.int e.sync),(11,.int x.1)],[.cells 2 [s.cs],.cells 2 [st.cs],.cells 4 (x.2.map Stp.cs)])) (fun x=>x.1≤s.ps.length∧x.2.length≤6 * x.1∧x.2=cat x.1 fun j=>cat (s.pr j).es.length (R j)) (fun x=>s.ps.length - x.1) (0,[]) ⟨by omega,by simp,rfl⟩ (by refine swR [0,1,2] [] rfl rfl ?_;(repeat' first|exact y93 _|apply y94|refine z10 rfl (z33) ?_|constructor)) ?_
  rintro ⟨j,L⟩ ⟨hj,hLl,hL⟩
  simp only at hj hL hLl
  by_cases hjl:j < s.ps.length
  · have gj:=y16 hjl
    have hj6:=hs.ne j hjl
    repeat' ((first|(apply y4 ok;rfl)|((apply z5)<;>intro _))<;>conv=>whnf)
    all_goals try (exfalso;omega)
    refine z77 (fun x:Nat×List Stp=>([(2,.int i),(3,.int k),(4,.ptr 0 none 0),(5,.ptr 1 none 0),(9,.sref 2 0 x.2.length),(10,.int e.sync),(11,.int j),(12,.int x.1)],[.cells 2 [s.cs],.cells 2 [st.cs],.cells 4 (x.2.map Stp.cs)])) (fun x=>x.1≤(s.pr j).es.length∧x.2.length≤6 * j+x.1∧x.2=L++cat x.1 (R j)) (fun x=>(s.pr j).es.length - x.1) (0,L) ⟨by omega,by simpa using hLl,by rw [z410,y71]⟩ (by refine swR [0,1,2] [] rfl rfl ?_;(repeat' first|exact y93 _|exact z11 _|apply y94|refine z10 rfl (z4 (fun _=>rfl)) ?_|constructor)) ?_
    rintro ⟨m,M⟩ ⟨hm,hMl,hM⟩
    simp only at hm hM hMl
    by_cases hml:m < (s.pr j).es.length
    · have gm:=y12 hml
      have hl:=z627 s hs st h j m hjl hml
      have hR1m:=hR1 j m
      have hR0m:=hR0 j m
      have hcs:=z192 m (R j)
      have hE2:=(hs.eg j m hjl hml).sync
      generalize (s.pr j).eg m=e2 at *
      generalize rdyE e2 st j=rd at *
      generalize hpj:s.pr j=pj at *
      cases rd
      all_goals
        repeat' ((first|(apply y4 ok;rfl)|(refine z13 (i:=j) rfl gj ?_)|(refine z13 (i:=m) rfl gm ?_)|(apply y50;first|omega|(unfold inI;omega)|((try dsimp only);simp only [y56,y55,y54,y53,y64,y65];omega)|exact ⟨rfl,z38 rfl z45⟩)|((first|apply z5|apply z28)<;>intro _)|(apply z0 (hl);rfl;rfl))<;>conv=>whnf)
        all_goals try (exfalso;omega)
      all_goals first
        | (have hz := hR1m ⟨by omega, by omega, rfl⟩
           refine z34 (m+1,M++[⟨i,k,j,m⟩]) ⟨by omega,by simp;omega,by rw [hM,hcs,hz,List.append_assoc]⟩ (by show pj.es.length - (m+1) < pj.es.length - m;omega) (by refine swR [0,1,4] [] rfl rfl ?_;(repeat' first|exact y93 _|(refine z43 ?_;((simp;done)))|apply y94|((refine z51 rfl ?_ ?_);(focus ((repeat' (first|exact z4 (fun _=>rfl)|apply z40));done)))|(refine z73 ?_ ?_;(focus (omega)))|constructor)))
        | (have hz := hR0m (by rintro ⟨z1, z2, z3⟩; first | exact absurd z3 (by decide) | omega)
           refine z34 (m+1,M) ⟨by omega,by simp;omega,by rw [hM,hcs,hz,y71]⟩ (by show pj.es.length - (m+1) < pj.es.length - m;omega) (by refine swR [0,1,2] [] rfl rfl ?_;(repeat' first|exact y93 _|exact z11 _|apply y94|refine z10 rfl (z4 (fun _=>rfl)) ?_|constructor)))
    · repeat' ((first|(apply y4 ok;rfl)|(refine z13 (i:=j) rfl gj ?_)|(apply y50;first|omega|(unfold inI;omega))|(((with_reducible apply z8;omega));intro _)|((first|apply z5|apply z28)<;>intro _))<;>conv=>whnf)
      all_goals try (exfalso;omega)
      have e:m=(s.pr j).es.length:=by omega
      all_goals refine z34 (j+1,M) ⟨by omega,by simp;omega,by rw [hM,hL,e];exact (z192 j fun j=>cat (s.pr j).es.length (R j)).symm⟩ (by show s.ps.length - (j+1) < s.ps.length - j;omega) (by refine swR [0,1,2] [] rfl rfl ?_;(repeat' first|exact y93 _|exact z11 _|apply y94|refine z10 rfl (z4 (fun _=>rfl)) ?_|constructor))
  · have e:j=s.ps.length:=by omega
    have eL:L=FIN:=by rw [hfin,hL,e]
    subst eL
    repeat' ((first|(apply y4 ok;rfl)|((apply z5)<;>intro _))<;>conv=>whnf)
    all_goals try (exfalso;omega)
    all_goals (refine rsD [] [2] rfl ?_;(repeat' first|exact y93 _|((apply z66 rfl rfl rfl);(focus ((repeat ((exact z53 (fun _=>rfl) _)));done));(focus (((simp;done));done)))|constructor))
end Go.Proofs.YtnfoijopccdjeaaGreat
namespace Go.Proofs.YtnfoijopccdjeaaGreat
open Go.Gl
attribute [local irreducible] z16 AWP z29 z32 z30
theorem z91 {objs:Nat→AObj} {π Bn:List Nat} {o:Nat} {l:List Int} (ho:objs o=.cells 1 (l.map enI)) (h1:idx π o=none) (h2:inB Bn o=true):bor objs π Bn (.sref o 0 l.length)=ints l :=
 z143 ho h1 h2 (by simp) (z170 _ _)
end Go.Proofs.YtnfoijopccdjeaaGreat
namespace Go.Proofs.YtnfoijopccdjeaaGreat
open Go.Gl
attribute [local irreducible] z16 AWP z29 z32 z30 RetS z36
noncomputable def z249 (s:Sys) (st:State) (j m:Nat):List Stp:=if ((s.pr j).eg m).sync < 0∨rdyE ((s.pr j).eg m) st j=false then [] else if ((s.pr j).eg m).sync=0 then [⟨j,m,-1,-1⟩] else z680 s st j m
noncomputable def z145 (s:Sys) (st:State):List Stp:=cat s.ps.length fun j=>cat (s.pr j).es.length (z249 s st j)
theorem z663 {s:Sys} {st:State} : ∀ x∈z145 s st,x.ok s:=fun x hx=>by
 obtain ⟨j,hj,hx⟩:=z687 hx
 obtain ⟨m,hm,hx⟩:=z687 hx
 unfold z249 at hx
 split at hx
 ·cases hx
 split at hx
 ·rw [List.mem_singleton.1 hx]
  exact ⟨⟨by show 0≤(j:Int);omega,by show (j:Int) < _;omega⟩,⟨by show 0≤(m:Int);omega,by show (m:Int) < _;simpa using hm⟩,⟨by show -1≤(-1:Int);omega,by show (-1:Int) < _;omega⟩,fun h=>absurd (show (0:Int)≤-1 from h) (by decide)⟩
 ·exact partL_ok hj hm x hx
set_option maxHeartbeats 1600000 in
theorem z1026 (s:Sys) (hs:s.ok) (st:State) (h:st.ok s):CallsA Tryz.prog 120 [.agg s.cs,.agg st.cs] [] (lst 4 Stp.cs (z145 s st)) []:=by
  have h3:=hs.n3
  have hfin:z145 s st=cat s.ps.length (fun j=>cat (s.pr j).es.length (z249 s st j)):=rfl
  have hR0:∀ j m,(((s.pr j).eg m).sync < 0∨rdyE ((s.pr j).eg m) st j=false)→z249 s st j m=[]:=fun _ _ h=>if_pos h
  have hR1:∀ j m,¬(((s.pr j).eg m).sync < 0∨rdyE ((s.pr j).eg m) st j=false)→((s.pr j).eg m).sync=0→z249 s st j m=[⟨j,m,-1,-1⟩]:=fun _ _ h k=>by unfold z249;rw [if_neg h,if_pos k]
  have hR2:∀ j m,¬(((s.pr j).eg m).sync < 0∨rdyE ((s.pr j).eg m) st j=false)→((s.pr j).eg m).sync≠0→z249 s st j m=z680 s st j m:=fun _ _ h k=>by unfold z249;rw [if_neg h,if_neg k]
  generalize z145 s st=FIN at *
  generalize z249 s st=R at *
  refine z6 z9 Tryz.func120 rfl rfl 64 Tryz.ntmps120 (by simp) ?_
  repeat' (((apply y4 ok;rfl))<;>conv=>whnf)
  refine z77 (fun x:Nat×List Stp=>([(2,.ptr 0 none 0),(3,.ptr 1 none 0),(5,.sref 2 0 x.2.length),(6,.int x.1)],[.cells 2 [s.cs],.cells 2 [st.cs],.cells 4 (x.2.map Stp.cs)])) (fun x=>x.1≤s.ps.length∧x.2.length≤108 * x.1∧x.2=cat x.1 fun j=>cat (s.pr j).es.length (R j)) (fun x=>s.ps.length - x.1) (0,[]) ⟨by omega,by simp,rfl⟩ (by refine swR [0,1,2] [] rfl rfl ?_;(repeat' first|exact y93 _|apply y94|refine z10 rfl (z33) ?_|constructor)) ?_
  rintro ⟨j,L⟩ ⟨hj,hLl,hL⟩
  simp only at hj hL hLl
  by_cases hjl:j < s.ps.length
  · have gj:=y16 hjl
    have hj6:=hs.ne j hjl
    repeat' ((first|(apply y4 ok;rfl)|((apply z5)<;>intro _))<;>conv=>whnf)
    all_goals try (exfalso;omega)
    refine z77 (fun x:Nat×List Stp=>([(2,.ptr 0 none 0),(3,.ptr 1 none 0),(5,.sref 2 0 x.2.length),(6,.int j),(7,.int x.1)],[.cells 2 [s.cs],.cells 2 [st.cs],.cells 4 (x.2.map Stp.cs)])) (fun x=>x.1≤(s.pr j).es.length∧x.2.length≤108 * j+18 * x.1∧x.2=L++cat x.1 (R j)) (fun x=>(s.pr j).es.length - x.1) (0,L) ⟨by omega,by simpa using hLl,by rw [z410,y71]⟩ (by refine swR [0,1,2] [] rfl rfl ?_;(repeat' first|exact y93 _|exact z11 _|apply y94|refine z10 rfl (z4 (fun _=>rfl)) ?_|constructor)) ?_
    rintro ⟨m,M⟩ ⟨hm,hMl,hM⟩
    simp only at hm hM hMl
    by_cases hml:m < (s.pr j).es.length
    · have gm:=y12 hml
      have hl:=z627 s hs st h j m hjl hml
      have hP:=z692 s hs st h j m hjl hml
      have hPl:=z759 hs (st:=st) (i:=j) (k:=m)
      have hR0m:=hR0 j m
      have hR1m:=hR1 j m
      have hR2m:=hR2 j m
      have hcs:=z192 m (R j)
      have hE2:=(hs.eg j m hjl hml).sync
      generalize (s.pr j).eg m=e2 at *
      generalize rdyE e2 st j=rd at *
      generalize z680 s st j m=PL at *
      generalize hpj:s.pr j=pj at *
      cases rd
      all_goals
        repeat' ((first|(apply y4 ok;rfl)|(refine z13 (i:=j) rfl gj ?_)|(refine z13 (i:=m) rfl gm ?_)|(apply y50;first|omega|(unfold inI;omega)|((try dsimp only);simp only [y56,y55,y54,y53,y64,y65];omega)|exact z151 (fun _=>rfl)|exact ⟨rfl,z38 rfl z45⟩)|((apply z5)<;>intro _)|(apply z0 (hl);rfl;rfl)|(apply z0 (hP);rfl;rfl))<;>conv=>whnf)
        all_goals try (exfalso;omega)
      all_goals first
        | (have hz := hR2m (by rintro (z1 | z1) <;> first | omega | exact absurd z1 (by decide)) (by omega)
           refine z34 (m+1,M++PL) ⟨by omega,by simp;omega,by rw [hM,hcs,hz,List.append_assoc]⟩ (by show pj.es.length - (m+1) < pj.es.length - m;omega) (by refine swR [0,1,3] [] rfl rfl ?_;(repeat' first|exact y93 _|(refine z43 ?_;((simp;done)))|apply y94|((refine z10 rfl ?_ ?_);(focus ((repeat' (first|exact z4 (fun _=>rfl)|apply z52|apply z40));done)))|(refine appL_le ?_;(omega))|constructor)))
        | (have hz := hR1m (by rintro (z1 | z1) <;> first | omega | exact absurd z1 (by decide)) (by omega)
           refine z34 (m+1,M++[⟨j,m,-1,-1⟩]) ⟨by omega,by simp;omega,by rw [hM,hcs,hz,List.append_assoc]⟩ (by show pj.es.length - (m+1) < pj.es.length - m;omega) (by refine swR [0,1,4] [] rfl rfl ?_;(repeat' first|exact y93 _|(refine z43 ?_;((simp;done)))|apply y94|((refine z51 rfl ?_ ?_);(focus ((repeat' (first|exact z4 (fun _=>rfl)|apply z40));done)))|(refine z73 ?_ ?_;(focus (omega)))|constructor)))
        | (have hz := hR0m (by first | exact .inr rfl | exact .inl (by omega))
           refine z34 (m+1,M) ⟨by omega,by simp;omega,by rw [hM,hcs,hz,y71]⟩ (by show pj.es.length - (m+1) < pj.es.length - m;omega) (by refine swR [0,1,2] [] rfl rfl ?_;(repeat' first|exact y93 _|exact z11 _|apply y94|refine z10 rfl (z4 (fun _=>rfl)) ?_|constructor)))
    · repeat' ((first|(apply y4 ok;rfl)|(refine z13 (i:=j) rfl gj ?_)|(apply y50;first|omega|(unfold inI;omega))|(((with_reducible apply z8;omega));intro _)|((apply z5)<;>intro _))<;>conv=>whnf)
      all_goals try (exfalso;omega)
      have e:m=(s.pr j).es.length:=by omega
      all_goals refine z34 (j+1,M) ⟨by omega,by simp;omega,by rw [hM,hL,e];exact (z192 j fun j=>cat (s.pr j).es.length (R j)).symm⟩ (by show s.ps.length - (j+1) < s.ps.length - j;omega) (by refine swR [0,1,2] [] rfl rfl ?_;(repeat' first|exact y93 _|exact z11 _|apply y94|refine z10 rfl (z4 (fun _=>rfl)) ?_|constructor))
  · have e:j=s.ps.length:=by omega
    have eL:L=FIN:=by rw [hfin,hL,e]
    subst eL
    repeat' ((first|(apply y4 ok;rfl)|((apply z5)<;>intro _))<;>conv=>whnf)
    all_goals try (exfalso;omega)
    all_goals (refine rsD [] [2] rfl ?_;(repeat' first|exact y93 _|((apply z66 rfl rfl rfl);(focus ((repeat ((exact z53 (fun _=>rfl) _)));done));(focus (((simp;done));done)))|constructor))
noncomputable def z107 (st:State) (i:Nat) (e:Edge):State:=⟨st.a.set i e.to,if 0≤e.var then st.b.set e.var.toNat (e.val.ev st.b) else st.b⟩
theorem z470 {s:Sys} {st:State} (h:st.ok s) {i:Nat} {e:Edge} {n:Int} (he:e.ok n):(z107 st i e).ok s:=by
 refine ⟨by simp [z107,h.a],?_⟩
 unfold z107
 dsimp only
 split
 ·refine ⟨by simp [h.b.1],fun x hx=>?_⟩
  rcases List.mem_or_eq_of_mem_set hx with hx|rfl
  ·exact h.b.2 x hx
  ·exact y23 h.b _ (he.val (by assumption))
 ·exact h.b
theorem z784 (st:State) (e:Edge) (n:Int) (he:e.ok n) (i:Nat) (hi:i < st.a.length) (hl:st.a.length≤10) (hv:ValsOk st.b):CallsA Tryz.prog 173 [.agg [.sref 0 0 st.a.length,.sref 1 0 st.b.length],.int i,.agg e.cs] [.cells 1 (st.a.map enI),.cells 1 (st.b.map enI)] (.agg [.sref 0 0 st.a.length,.sref 1 0 st.b.length]) [.cells 1 ((z107 st i e).a.map enI),.cells 1 ((z107 st i e).b.map enI)]:=by
 have hb:=hv.1
 have hvar:=he.var
 by_cases h0:0≤e.var
 ·have c:=z548 st.b hv e.val (he.val h0)
  rw [y17] at c
  have hr:=y23 hv e.val (he.val h0)
  have e1:z107 st i e=⟨st.a.set i e.to,st.b.set e.var.toNat (e.val.ev st.b)⟩:=by unfold z107;rw [if_pos h0]
  rw [e1]
  generalize e.val.ev st.b=x at *
  refine z6 z9 Tryz.func173 rfl rfl 27 Tryz.ntmps173 (by simp) ?_
  repeat' ((first|(apply y4 ok;rfl)|(apply z17;kernel_rfl)|(apply y50;omega)|(((apply z8;omega));intro _)|((apply z5)<;>intro _)|(apply z83 [] [1] [] c;(focus ((repeat' first|exact z48|apply z23)<;>first|exact z91 rfl rfl rfl|rfl));rfl;rfl;(focus ((repeat' exact z12)<;>fail));((refine .inr ⟨rfl,?_⟩;repeat' first|exact True.intro|apply y50))))<;>conv=>whnf)
  all_goals first|(exfalso;omega)|exact h0|(show e.var.toNat < st.b.length;omega)|skip
  all_goals (refine rsD [0,1] [] rfl ?_;(repeat' first|exact y93 _|refine z82 rfl (z4 (fun _=>rfl)) ?_|refine z757 (by omega) ?_|constructor))
 ·have e1:z107 st i e=⟨st.a.set i e.to,st.b⟩:=by unfold z107;rw [if_neg h0]
  rw [e1]
  refine z6 z9 Tryz.func173 rfl rfl 27 Tryz.ntmps173 (by simp) ?_
  repeat' ((first|(apply y4 ok;rfl)|(apply y50;omega)|(((apply z8;omega));intro _)|((apply z5)<;>intro _))<;>conv=>whnf)
  all_goals try (exfalso;omega)
  all_goals (refine rsD [0,1] [] rfl ?_;(repeat' first|exact y93 _|exact z11 _|refine z82 rfl (z4 (fun _=>rfl)) ?_|refine z10 rfl (z4 (fun _=>rfl)) ?_|refine z757 (by omega) ?_|constructor))
noncomputable def z76 (s:Sys) (st:State) (x:Stp):State:=if 0≤x.q then z107 (z107 st x.p.toNat ((s.pr x.p.toNat).eg x.e.toNat)) x.q.toNat ((s.pr x.q.toNat).eg x.f.toNat) else z107 st x.p.toNat ((s.pr x.p.toNat).eg x.e.toNat)
theorem z447 {a:Int} {n:Nat} (h:0≤a) (h2:a < n):∃ m:Nat,a=m∧m < n:=⟨a.toNat,by omega,by omega⟩
theorem z310 {s:Sys} (hs:s.ok) {st:State} (h:st.ok s) {x:Stp} (hx:x.ok s):(z76 s st x).ok s:=by
 have hp:=hx.p
 have he:=hx.e
 have hq:=hx.q
 unfold z76
 have h1:=z470 (i:=x.p.toNat) h (hs.eg x.p.toNat x.e.toNat (by omega) (by omega))
 split
 ·rename_i hq0
  have hf:=hx.f hq0
  exact z470 h1 (hs.eg x.q.toNat x.f.toNat (by omega) (by omega))
 ·exact h1
theorem z366 (st:State) (i:Nat) (e:Edge):(z107 st i e).a.length=st.a.length∧(z107 st i e).b.length=st.b.length:=by
 unfold z107
 constructor
 ·simp
 ·dsimp only;split<;>simp
set_option maxHeartbeats 3200000 in
theorem z1027 (s:Sys) (hs:s.ok) (st:State) (h:st.ok s) (x:Stp) (hx:x.ok s):CallsA Tryz.prog 121 [.agg s.cs,.agg st.cs,.agg x.cs] [] (.agg (z76 s st x).cs) []:=by
 have hn3:=hs.n3
 have ha:=h.a
 have hb:=h.b.1
 obtain ⟨p,e,q,f⟩:=x
 obtain ⟨hp,he,hq,hf⟩:=hx
 simp only at hp he hq hf
 obtain ⟨pi,rfl,hpi⟩:=z447 hp.1 hp.2
 simp only [y83] at he
 obtain ⟨ei,rfl,hei⟩:=z447 he.1 he.2
 have gp:=y16 hpi
 have ge:=y12 hei
 have hE:=hs.eg pi ei hpi hei
 have hP6:=hs.ne pi hpi
 have c1:=z784 st ((s.pr pi).eg ei) _ hE pi (by omega) (by omega) h.b
 have h1:=z470 (i:=pi) h hE
 have hl1:=z366 st pi ((s.pr pi).eg ei)
 rw [show st.a.length=0+st.a.length by omega,show st.b.length=0+st.b.length by omega] at c1
 by_cases hq0:0≤q
 ·have hf:=hf hq0
  obtain ⟨qi,rfl,hqi⟩:=z447 hq0 hq.2
  simp only [y83] at hf
  obtain ⟨fi,rfl,hfi⟩:=z447 hf.1 hf.2
  have gq:=y16 hqi
  have gf:=y12 hfi
  have hF:=hs.eg qi fi hqi hfi
  have hQ6:=hs.ne qi hqi
  have e0:z76 s st ⟨pi,ei,qi,fi⟩=z107 (z107 st pi ((s.pr pi).eg ei)) qi ((s.pr qi).eg fi):=by unfold z76;rw [if_pos hq0];rfl
  have c2:=z784 (z107 st pi ((s.pr pi).eg ei)) ((s.pr qi).eg fi) _ hF qi (by omega) (by omega) h1.b
  have hl2:=z366 (z107 st pi ((s.pr pi).eg ei)) qi ((s.pr qi).eg fi)
  rw [hl1.1,hl1.2,show st.a.length=0+st.a.length by omega,show st.b.length=0+st.b.length by omega] at c2
  rw [e0]
  generalize z107 (z107 st pi ((s.pr pi).eg ei)) qi ((s.pr qi).eg fi)=s2 at *
  generalize z107 st pi ((s.pr pi).eg ei)=s1 at *
  generalize (s.pr pi).eg ei=ed at *
  generalize (s.pr qi).eg fi=fd at *
  generalize s.pr pi=pp at *
  generalize s.pr qi=qq at *
  refine z6 z9 Tryz.func121 rfl rfl 51 Tryz.ntmps121 (by simp) ?_
  repeat' ((first|(apply y4 ok;rfl)|(apply z17;kernel_rfl)|(refine z13 (i:=pi) rfl gp ?_)|(refine z13 (i:=ei) rfl ge ?_)|(refine z13 (i:=qi) rfl gq ?_)|(refine z13 (i:=fi) rfl gf ?_)|(apply y50;first|omega|(dsimp only;omega)|exact z151 (fun _=>rfl))|((first|(apply z95 [5,7] [] c1;rfl;(focus ((repeat' first|exact z14|apply z27)<;>(refine z41 rfl ?_;((exact z4 fun _=>rfl))))))|(apply z95 [5,7] [] c2;rfl;(focus ((repeat' first|exact z14|apply z27)<;>(refine z41 rfl ?_;((exact z4 fun _=>rfl)))))));rfl;(focus ((repeat' first|exact z12|apply z15)<;>(refine z22 ?_;((exact z4 fun _=>rfl)))))))<;>conv=>whnf)
  all_goals (refine rsD [] [5,7] rfl ?_;(repeat' first|(refine z541 ?_;omega)|((apply z66 rfl rfl rfl);(focus ((repeat ((exact z53 (fun _=>rfl) _)));done));(focus (((simp;omega));done)))|apply z64|constructor))
 ·have e0:z76 s st ⟨pi,ei,q,f⟩=z107 st pi ((s.pr pi).eg ei):=by unfold z76;rw [if_neg hq0];rfl
  rw [e0]
  generalize z107 st pi ((s.pr pi).eg ei)=s1 at *
  generalize (s.pr pi).eg ei=ed at *
  generalize s.pr pi=pp at *
  refine z6 z9 Tryz.func121 rfl rfl 51 Tryz.ntmps121 (by simp) ?_
  repeat' ((first|(apply y4 ok;rfl)|(apply z17;kernel_rfl)|(refine z13 (i:=pi) rfl gp ?_)|(refine z13 (i:=ei) rfl ge ?_)|(apply y50;first|omega|(dsimp only;omega)|exact z151 (fun _=>rfl))|((apply z5)<;>intro _)|(apply z95 [5,7] [] c1;rfl;(focus ((repeat' first|exact z14|apply z27)<;>(refine z41 rfl ?_;((exact z4 fun _=>rfl)))));rfl;(focus ((repeat' first|exact z12|apply z15)<;>(refine z22 ?_;((exact z4 fun _=>rfl)))))))<;>conv=>whnf)
  all_goals first|(exfalso;apply hq0;assumption)|skip
  all_goals (refine rsD [] [5,7] rfl ?_;(repeat' first|(refine z541 ?_;omega)|((apply z66 rfl rfl rfl);(focus ((repeat ((exact z53 (fun _=>rfl) _)));done));(focus (((simp;omega));done)))|apply z64|constructor))
end Go.Proofs.YtnfoijopccdjeaaGreat
namespace Go.Proofs.YtnfoijopccdjeaaGreat
open Go.Gl
section
attribute [local irreducible] z16
theorem z546 (a b:List Int) (ha:a.length≤maxLen) (hb:b.length≤maxLen):CallsA Tryz.prog 222 [lst 1 enI a,lst 1 enI b] [] (.bool (decide (a=b))) []:=by
 unfold maxLen at ha hb
 refine z7 z9 Tryz.func222 rfl rfl 26 Tryz.ntmps222 (by simp) ?_
 repeat (refine y4 ok _ _ _ _ _ rfl ?_)
 refine z28 (fun h=>?_) (fun h=>?_)
 ·repeat (refine y4 ok _ _ _ _ _ rfl ?_)
  have hne:a≠b:=by rintro rfl;exact h rfl
  rw [y90 hne]
  exact ⟨[],by decide,rfl,rfl,y3 rfl,trivial⟩
 ·have hl:a.length=b.length:=by omega
  repeat (refine y4 ok _ _ _ _ _ rfl ?_)
  refine z110 (fun k:Nat=>([(0,lst 1 enI a),(1,lst 1 enI b),(5,.int k)],[])) (fun k=>k≤a.length∧a.take k=b.take k) (fun k=>a.length - k) 0 (by simp)
   ⟨[],rfl,by decide,rfl,⟨⟨rfl,rfl⟩,⟨rfl,rfl⟩,⟨rfl,rfl⟩,trivial⟩,trivial⟩ ?_
  intro k hk
  repeat (refine y4 ok _ _ _ _ _ rfl ?_)
  refine z5 (fun h=>?_) (fun h=>?_)
  ·have hka:k < a.length:=by omega
   repeat (first|refine y4 ok _ _ _ _ _ rfl ?_|refine y50 (by omega) ?_)
   refine ⟨_,z94 _ _ _ (by omega),?_⟩
   repeat ((refine y50 (by omega) ?_))
   refine ⟨_,z94 _ _ _ (by omega),?_⟩
   repeat (first|refine y4 ok _ _ _ _ _ rfl ?_|refine z17 (by kernel_rfl) ?_)
   refine z28 (fun h=>?_) (fun h=>?_)
   ·repeat (refine y4 ok _ _ _ _ _ rfl ?_)
    have hne:a≠b:=by rintro rfl;exact h rfl
    rw [y90 hne]
    exact ⟨[],by decide,rfl,rfl,y3 rfl,trivial⟩
   ·repeat (first|refine y4 ok _ _ _ _ _ rfl ?_|refine y50 (by first|omega|(unfold inI;omega)) ?_)
    refine ⟨k+1,[],⟨by omega,?_⟩,by omega,rfl,by decide,rfl,⟨⟨rfl,rfl⟩,⟨rfl,rfl⟩,⟨rfl,rfl⟩,trivial⟩,trivial⟩
    have h' : a[k]=b[k]:=h
    rw [y57 hka,y57 (by omega),hk.2,h']
  ·repeat (refine y4 ok _ _ _ _ _ rfl ?_)
   have he:a=b:=by
    have:=hk.2
    rwa [y63 (by omega),y63 (by omega)] at this
   rw [y89 he]
   exact ⟨[],by decide,rfl,rfl,y3 rfl,trivial⟩
end
attribute [local irreducible] z16 AWP z29 z32 z30
end Go.Proofs.YtnfoijopccdjeaaGreat
namespace Go.Proofs.YtnfoijopccdjeaaGreat
open Go.Gl
attribute [local irreducible] z16 AWP z29 z32 z30 RetS z36
theorem z745 (a b:State) (ha:a.sm) (hb:b.sm):CallsA Tryz.prog 174 [.agg a.cs,.agg b.cs] [] (.bool (decide (a=b))) []:=by
 have h1:=ha.a
 have h2:=ha.b
 have h3:=hb.a
 have h4:=hb.b
 have c1:=z546 a.a b.a (by unfold maxLen;omega) (by unfold maxLen;omega)
 have c2:=z546 a.b b.b (by unfold maxLen;omega) (by unfold maxLen;omega)
 obtain ⟨a1,a2⟩:=a
 obtain ⟨b1,b2⟩:=b
 simp only at *
 have e:decide ((⟨a1,a2⟩:State)=⟨b1,b2⟩)=(decide (a1=b1) && decide (a2=b2)):=by
  by_cases h:a1=b1<;>by_cases k:a2=b2<;>simp [h,k]
 rw [e]
 generalize decide (a1=b1)=p at *
 generalize decide (a2=b2)=q at *
 refine z7 z9 Tryz.func174 rfl rfl 17 Tryz.ntmps174 (by simp) ?_
 cases p
 all_goals
  repeat' ((first|(apply y4 ok;rfl)|(apply z0 (c1);rfl;rfl)|(apply z0 (c2);rfl;rfl))<;>conv=>whnf)
  all_goals exact z21 rfl rfl
def z113 (t:State):List State→Int→Int
 |[],_=>-1
 |x::r,k=>if x=t then k else z113 t r (k+1)
theorem z355 (t:State):∀ (l:List State) (k:Int),0≤k→-1≤z113 t l k∧z113 t l k < k+l.length:=by
 intro l
 induction l with
 |nil=>intro k h;simp only [z113,y65];omega
 |cons x l ih =>
  intro k h
  simp only [z113,y64]
  split
  ·omega
  ·have:=ih (k+1) (by omega);omega
theorem z1039 (t:State) (l:List State) (k:Nat) (h:k < l.length):z113 t (l.drop k) k=if l[k]=t then (k:Int) else z113 t (l.drop (k+1)) ((k+1:Nat):Int):=by
 rw [y86 h,z113];rfl
theorem z1169 (l:List State) (t:State) (hl:l.length≤1000) (hs:∀ s∈l,s.sm) (ht:t.sm):CallsA Tryz.prog 122 [lst 2 State.cs l,.agg t.cs] [] (.int (z113 t l 0)) []:=by
 refine z7 z9 Tryz.func122 rfl rfl 19 Tryz.ntmps122 (by simp) ?_
 repeat' (((apply y4 ok;rfl))<;>conv=>whnf)
 refine z85 (fun k:Nat=>([(0,lst 2 State.cs l),(3,.ptr 0 none 0),(5,.int k)],[.cells 2 [t.cs]])) (fun k=>k≤l.length∧z113 t l 0=z113 t (l.drop k) k) (fun k=>l.length - k) 0 ⟨by omega,rfl⟩ ⟨[0],rfl,by decide,rfl,by repeat' (first|exact True.intro|exact ⟨rfl,rfl⟩|apply y50),by repeat' (first|exact True.intro|exact z24 rfl rfl|apply y50)⟩ ?_
 intro k hk
 by_cases hkl:k < l.length
 ·have c:=z745 l[k] t (hs _ (y51 _)) ht
  have e:=z1039 t l k hkl
  rw [e] at hk
  have g0:(l.map State.cs)[k]?=some (State.cs l[k]):=by rw [y58,y52 hkl];rfl
  by_cases hx:l[k]=t
  ·rw [if_pos hx] at hk
   rw [y89 hx] at c
   generalize l[k]=x at *
   repeat' ((first|(apply y4 ok;rfl)|(apply z17;kernel_rfl)|(refine z13 (i:=k) rfl g0 ?_)|(apply y50;omega)|((apply z5)<;>intro _)|(apply z0 (c);rfl;rfl))<;>conv=>whnf)
   all_goals first|(exfalso;omega)|exact z522 rfl hk.2
  ·rw [if_neg hx] at hk
   rw [y90 hx] at c
   generalize l[k]=x at *
   repeat' ((first|(apply y4 ok;rfl)|(apply z17;kernel_rfl)|(refine z13 (i:=k) rfl g0 ?_)|(apply y50;first|omega|(unfold inI;omega))|((apply z5)<;>intro _)|(apply z0 (c);rfl;rfl))<;>conv=>whnf)
   all_goals try (exfalso;omega)
   exact z78 (k+1) [0] ⟨by omega,hk.2⟩ (by omega) ⟨rfl,by decide,rfl,by repeat' (first|exact True.intro|exact ⟨rfl,rfl⟩|apply y50),by repeat' (first|exact True.intro|exact z24 rfl rfl|apply y50)⟩
 ·have e:l.drop k=[]:=y91 (by omega)
  rw [e] at hk
  repeat' ((first|(apply y4 ok;rfl)|(apply y50;omega)|(((with_reducible apply z8;omega));intro _)|((apply z5)<;>intro _))<;>conv=>whnf)
  all_goals first|(exfalso;omega)|exact z522 rfl hk.2
end Go.Proofs.YtnfoijopccdjeaaGreat
namespace Go.Proofs.YtnfoijopccdjeaaGreat
open Go.Gl
attribute [local irreducible] z16 AWP z29 z32 z30 RetS z36
open Classical in
noncomputable def inn (s:Sys) (st0:State):List Stp→List State→List Int→Option (List State×List Int)
 |[],S,N=>some (S,N)
 |x::r,S,N =>
  if z113 (z76 s st0 x) S 0 < 0 then
   (if 60≤(S.length:Int) then none else inn s st0 r (S++[z76 s st0 x]) (if (S.length:Int)∈N then N else N++[(S.length:Int)]))
  else
   (if 60≤z113 (z76 s st0 x) S 0 then none else inn s st0 r S (if z113 (z76 s st0 x) S 0∈N then N else N++[z113 (z76 s st0 x) S 0]))
open Classical in
noncomputable def z199 (L:List Stp) (N:List Int) (i:Nat):List Int:=if L=[] then N++[(i:Int)] else N
noncomputable def grow (s:Sys):Nat→List State→List (List Int)→Nat→Option Graph
 |0,_,_,_=>none
 |f+1,S,G,i=>match S[i]? with
  |none=>some ⟨S,G⟩
  |some st0=>match inn s st0 (z145 s st0) S [] with
   |none=>none
   |some (S',N)=>grow s f S' (G++[z199 (z145 s st0) N i]) (i+1)
theorem State.ok.sm {s:Sys} (hs:s.ok) {st:State} (h:st.ok s):st.sm:=⟨by have:=h.a;have:=hs.n3;omega,by have:=h.b.1;omega⟩
theorem z510 {s:Sys} (hs:s.ok) {st:State} : (z145 s st).length≤324:=by
 have h3:=hs.n3
 have:=z715 (n:=s.ps.length) (c:=108) (f:=fun j=>cat (s.pr j).es.length (z249 s st j)) (fun j hj=>by
  have h6:=hs.ne j hj
  have:=z715 (n:=(s.pr j).es.length) (c:=18) (f:=z249 s st j) (fun m _=>by
   unfold z249
   split
   ·simp
   split
   ·simp
   ·exact z759 hs)
  omega)
 unfold z145
 omega
structure GInv (s:Sys) (S:List State) (G:List (List Int)) (i:Nat):Prop where
 le:i≤S.length
 n:S.length≤60
 one:1≤S.length
 g:G.length=i
 st:∀ t∈S,t.ok s
 row:∀ r∈G,r.length≤400
theorem inn_inv {s:Sys} (hs:s.ok) {st0:State} (h0:st0.ok s):∀ (L:List Stp),(∀ x∈L,x.ok s)→∀ (S:List State) (N:List Int) (S' : List State) (N' : List Int),S.length≤60→(∀ t∈S,t.ok s)→inn s st0 L S N=some (S',N')→S'.length≤60∧S.length≤S'.length∧(∀ t∈S',t.ok s)∧N'.length≤N.length+L.length∧∀ i,i < S.length→S'[i]?=S[i]?:=by
 intro L
 induction L with
 |nil =>
  intro _ S N S' N' h1 h2 h3
  simp only [inn,Option.some.injEq,Prod.mk.injEq] at h3
  obtain ⟨rfl,rfl⟩:=h3
  exact ⟨h1,y59 _,h2,by simp,fun _ _=>rfl⟩
 |cons x L ih =>
  intro hx S N S' N' h1 h2 h3
  have hxo:=z310 hs h0 (hx x (by simp))
  have ih:=ih fun y hy=>hx y (by simp [hy])
  simp only [inn] at h3
  split at h3
  ·split at h3
   ·cases h3
   ·obtain ⟨a1,a2,a3,a4,a5⟩:=ih _ _ S' N' (by simp;omega) (fun t ht=>by
     rcases List.mem_append.1 ht with h|h
     ·exact h2 t h
     ·rw [List.mem_singleton.1 h];exact hxo) h3
    refine ⟨a1,by simp at a2;omega,a3,?_,fun i hi=>by rw [a5 i (by simp;omega),y72 hi]⟩
    simp only [y64]
    split at a4<;>(try simp at a4)<;>omega
  ·split at h3
   ·cases h3
   ·obtain ⟨a1,a2,a3,a4,a5⟩:=ih _ _ S' N' h1 h2 h3
    refine ⟨a1,a2,a3,?_,a5⟩
    simp only [y64]
    split at a4<;>(try simp at a4)<;>omega
end Go.Proofs.YtnfoijopccdjeaaGreat
