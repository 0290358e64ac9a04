/- A part of the proofs over this program: T22, T23, T23R, T23S, T33I, T37C, T180, T181, T182, T183, T113. -/
import Derived.Test.YtahhobgjcfionaaGreatG0
import Derived.Test.YtahhobgjcfionaaGreatG1
import Derived.Test.YtahhobgjcfionaaGreatG2
import Derived.Test.YtahhobgjcfionaaGreatG3
import Derived.Test.YtahhobgjcfionaaGreatP0
set_option linter.all false
namespace Go.Proofs.YtahhobgjcfionaaGreat
open Go.Gl
attribute [local irreducible] z29 AWP z46 z50 z47
def Trans.mx (t:Trans):Prop:=inI t.val
def z328 (n:Int) (t:Trans):Prop:=(0≤t.src∧t.src≤n - 1)∧(0≤t.dst∧t.dst≤n - 1)∧(0≤t.care∧t.care≤7)∧0≤t.val∧t.val.toNat &&& t.care.toNat=t.val.toNat
instance {n:Int} {t:Trans} : Decidable (z328 n t):=by unfold z328;infer_instance
def z989 (n:Int) (t:Trans):Bool:=decide (z328 n t)
theorem z297 {n:Int} {t:Trans} : z989 n t=true↔z328 n t:=by unfold z989;exact decide_eq_true_iff
theorem edgeB_no {n:Int} {t:Trans} : z989 n t=false↔¬ z328 n t:=by rw [← z297,y64]
def IniP (l:List Int) (n:Int) (k:Nat):Prop:=∀ i (h:i < l.length),i < k→(0≤l[i]∧l[i]≤n - 1)∧∀ j (hj:j+1=i),l[j]'(by omega) < l[i]
def AutP (a:Aut):Prop:=(1≤a.acc.length∧a.acc.length≤64)∧a.ed.length≤2048∧IniP a.ini a.acc.length a.ini.length∧∀ e∈a.ed,z328 a.acc.length e
noncomputable instance {a:Aut} : Decidable (AutP a):=Classical.propDecidable _
noncomputable def autB (a:Aut):Bool:=decide (AutP a)
theorem z96 {a:Aut} : autB a=true↔AutP a:=by unfold autB;exact decide_eq_true_iff
theorem z211 {a:Aut} : autB a=false↔¬ AutP a:=by rw [← z96,y64]
theorem IniP.ge {l:List Int} {n:Int} (h:IniP l n l.length):∀ i (hi:i < l.length),(i:Int)≤l[i]:=by
 intro i
 induction i with
 |zero=>intro hi;exact (h 0 hi hi).1.1
 |succ i ih =>
  intro hi
  have h1:=ih (by omega)
  have h2:=(h (i+1) hi hi).2 i rfl
  omega
theorem IniP.le {l:List Int} {n:Int} (h:IniP l n l.length) (h0:0≤n):(l.length:Int)≤n:=by
 rcases Nat.eq_zero_or_pos l.length with e|e
 ·omega
 ·have h1:=h.ge (l.length - 1) (by omega)
  have h2:=(h (l.length - 1) (by omega) (by omega)).1.2
  omega
theorem z1007 {v c:Int} (h0:0≤v) (h1:v≤9223372036854775807) (h2:0≤c) (h3:c≤7):(((BitVec.ofNat 64 v.toNat &&& ~~~BitVec.ofNat 64 c.toNat).toNat:Nat):Int)=0↔v.toNat &&& c.toNat=v.toNat:=by
 obtain ⟨v,rfl⟩:=Int.eq_ofNat_of_zero_le h0
 obtain ⟨c,rfl⟩:=Int.eq_ofNat_of_zero_le h2
 simp only [y69]
 have hv:v < 2 ^ 64:=by omega
 have hc:c < 2 ^ 64:=by omega
 have e:∀ x y:BitVec 64,(x &&& ~~~y)=0#64↔x &&& y=x:=by
  intro x y
  constructor
  ·intro h
   apply BitVec.eq_of_getElem_eq
   intro i hi
   have:=congrArg (fun z=>z[i]) h
   simp at this ⊢
   cases hx:x[i]<;>simp_all
  ·intro h
   apply BitVec.eq_of_getElem_eq
   intro i hi
   have:=congrArg (fun z=>z[i]) h
   simp at this ⊢
   cases hx:x[i]<;>simp_all
 have e2:=e (BitVec.ofNat 64 v) (BitVec.ofNat 64 c)
 constructor
 ·intro h
  have h4:(BitVec.ofNat 64 v &&& ~~~BitVec.ofNat 64 c)=0#64:=BitVec.eq_of_toNat_eq (by simpa using h)
  have h5:=congrArg BitVec.toNat (e2.1 h4)
  simpa [BitVec.toNat_and,Nat.mod_eq_of_lt hv,Nat.mod_eq_of_lt hc] using h5
 ·intro h
  have h4:BitVec.ofNat 64 v &&& BitVec.ofNat 64 c=BitVec.ofNat 64 v:=BitVec.eq_of_toNat_eq (by
   simpa [BitVec.toNat_and,Nat.mod_eq_of_lt hv,Nat.mod_eq_of_lt hc] using h)
  have h5:=congrArg BitVec.toNat (e2.2 h4)
  simpa using h5
theorem z1003 (n:Int) (h0:0≤n) (h1:n≤maxLen) (t:Trans) (ht:t.mx):CallsA Tryz.prog 158 [z52 Trans.cs t,.pt [.int n]] [] (.bool (!z989 n t)) []:=by
 unfold Trans.mx inI at ht
 unfold maxLen at h1
 refine z13 z15 Tryz.func158 rfl rfl 37 Tryz.ntmps158 (by simp) ?_
 repeat' (first|(apply y76 ok;rfl;conv=>whnf)|(apply y36;(first|(unfold inI;omega)|(simp only [z97] at *;(unfold z106;omega)));conv=>whnf)|(apply z5<;>intro _<;>conv=>whnf)|(apply z74<;>intro _<;>conv=>whnf)|(apply z6 (z326 _ 0 (n - 1));rfl;rfl;conv=>whnf)|(apply z6 (z326 _ 0 7);rfl;rfl;conv=>whnf))
 all_goals (refine z20 rfl ?_;rw [Bool.eq_iff_iff];simp only [z97,z300,z297,edgeB_no,Bool.not_eq_true',decide_eq_false_iff_not,decide_eq_true_eq,Bool.false_eq_true,iff_false,iff_true] at *;unfold z328)
 all_goals try omega
 all_goals (rw [z1007 (by omega) (by omega) (by omega) (by omega)];omega)
theorem z1093 (n:Int) (t:Trans) (ht:t.mx):CallsA Tryz.prog 147 [z52 Trans.cs t,.int n] [] (.bool (z989 n t)) []:=by
 unfold Trans.mx inI at ht
 refine z13 z15 Tryz.func147 rfl rfl 50 Tryz.ntmps147 (by simp) ?_
 repeat' (first|(apply y76 ok;rfl;conv=>whnf)|(apply y36;((unfold z106;omega));conv=>whnf)|(apply z5<;>intro _<;>conv=>whnf))
 all_goals (refine z20 rfl ?_;rw [Bool.eq_iff_iff];simp only [z297,decide_eq_true_eq,Bool.false_eq_true,iff_false] at *;unfold z328)
 all_goals omega
theorem z884 (t:Trans) (n:Int) (h0:0≤n) (h1:n≤7) (ht:0≤t.care∧t.care≤7):CallsA Tryz.prog 138 [z52 Trans.cs t,.int n] [] (.bool (decide (((n.toNat &&& t.care.toNat:Nat):Int)=t.val))) []:=by
 refine z13 z15 Tryz.func138 rfl rfl 12 Tryz.ntmps138 (by simp) ?_
 repeat' (first|(apply y76 ok;rfl;conv=>whnf)|(apply y36;((unfold z106;omega));conv=>whnf))
 exact z20 rfl rfl
theorem l7On_ok (t:Trans) (n:Int) (h0:0≤n) (h1:n≤7) (ht:0≤t.care∧t.care≤7):CallsA Tryz.prog 167 [z52 Trans.cs t,.int n] [] (.bool (decide (((n.toNat &&& t.care.toNat:Nat):Int)=t.val))) []:=by
 refine z13 z15 Tryz.func167 rfl rfl 12 Tryz.ntmps167 (by simp) ?_
 repeat' (first|(apply y76 ok;rfl;conv=>whnf)|(apply y36;((unfold z106;omega));conv=>whnf))
 exact z20 rfl rfl
def Aut.mx (a:Aut):Prop:=a.ini.length≤maxLen∧a.acc.length≤maxLen∧a.ed.length≤maxLen∧∀ t∈a.ed,t.mx
theorem z461 (c:Int) (l:List Trans) (hl:l.length≤maxLen) (p:Trans→Bool) (f:FuncId) (hf:∀ x∈l,CallsA Tryz.prog f [z52 Trans.cs x,.pt [.int c]] [] (.bool (p x)) []):CallsA Tryz.prog 216 [lst 4 Trans.cs l,.fn (.func f) [] [.pt [.int c]]] [] (.int (idxF p l)) []:=by
 unfold maxLen at hl
 refine z13 z15 Tryz.func216 rfl rfl 19 Tryz.ntmps216 (by simp) ?_
 repeat' ((apply y76 ok;rfl;conv=>whnf))
 refine z94 (fun k:Nat=>([(0,lst 4 Trans.cs l),(1,.fn (.func f) [] [.pt [.int c]]),(7,.int l.length),(8,.int k)],[])) (fun k=>k≤l.length∧∀ j (hj:j < l.length),j < k→p l[j]=false) (fun k=>l.length - k) 0 (by simp)
  ⟨[],rfl,by decide,rfl,⟨⟨rfl,rfl⟩,⟨rfl,rfl⟩,⟨rfl,rfl⟩,⟨rfl,rfl⟩,trivial⟩,trivial⟩ ?_
 intro k hk
 repeat' (first|(apply y76 ok;rfl;conv=>whnf)|(apply y36;(first|omega|(unfold inI;omega));conv=>whnf)|(with_reducible apply z8;omega;intro _;conv=>whnf)|(apply z5<;>intro _<;>conv=>whnf)|(apply z87<;>intro _<;>conv=>whnf)|(apply z6 (hf l[k] (y37 _));rfl;rfl;conv=>whnf))
 ·rename_i h h1
  exact z60 rfl rfl (by rw [z204 (by omega) h1 hk.2];rfl)
 ·rename_i h h1
  refine z79 (k+1) [] ⟨by omega,fun j hj hjk=>?_⟩ (by omega) ⟨rfl,by decide,rfl,⟨⟨rfl,rfl⟩,⟨rfl,rfl⟩,⟨rfl,rfl⟩,⟨rfl,rfl⟩,trivial⟩,trivial⟩
  rcases y62 j k with h2|h2
  ·exact hk.2 j hj h2
  ·obtain rfl:j=k:=by omega
   exact h1
 ·exact z60 rfl rfl (by rw [z205 fun j hj=>hk.2 j hj (by omega)];rfl)
theorem z352 (c:Int) (l:List Trans) (hl:l.length≤maxLen) (p:Trans→Bool) (f:FuncId) (hf:∀ x∈l,CallsA Tryz.prog f [z52 Trans.cs x,.pt [.int c]] [] (.bool (p x)) []):CallsA Tryz.prog 157 [lst 4 Trans.cs l,.fn (.func f) [] [.pt [.int c]]] [] (.bool (l.any p)) []:=by
 refine z13 z15 Tryz.func157 rfl rfl 9 Tryz.ntmps157 (by simp) ?_
 repeat' (first|(apply y76 ok;rfl;conv=>whnf)|(apply z6 (z461 c l hl p f hf);rfl;rfl;conv=>whnf))
 exact z20 rfl (by rw [← z258])
theorem IniP.step {l:List Int} {n:Int} {k:Nat} (h:IniP l n k) (hk:k < l.length) (h1:0≤l[k]∧l[k]≤n - 1) (h2:∀ j (hj:j+1=k),l[j]'(by omega) < l[k]):IniP l n (k+1):=by
 intro i hi hik
 rcases y62 i k with h3|h3
 ·exact h i hi h3
 ·obtain rfl:i=k:=by omega
  exact ⟨h1,h2⟩
def z382 (l:List Int) (k:Nat):Int:=if h:0 < k∧k≤l.length then l[k - 1]'(by omega) else -1
theorem z246 (a:Aut) (ha:a.mx):CallsA Tryz.prog 79 [.agg a.cs] [] (.bool (autB a)) []:=by
 obtain ⟨hi,hc,he,hm⟩:=ha
 have hk:=z352 (a.acc.length:Int) a.ed he (fun t=>!z989 a.acc.length t) 158 (fun t ht=>z1003 _ (by omega) (by omega) t (hm t ht))
 unfold maxLen at hi hc he
 refine z13 z15 Tryz.func79 rfl rfl 41 Tryz.ntmps79 (by simp) ?_
 repeat' ((apply y76 ok;rfl;conv=>whnf))
 refine z94 (fun k:Nat=>([(1,.ptr 0 none 0),(3,.ptr 1 none 0),(4,.int (z382 a.ini k)),(11,lst 1 enI a.ini),(12,.int a.ini.length),(13,.int k)],[.cells 3 [[lst 1 enI a.ini,lst 1 enB a.acc,lst 4 Trans.cs a.ed]],.cells 1 [[.int a.acc.length]]])) (fun k=>k≤a.ini.length∧IniP a.ini a.acc.length k) (fun k=>a.ini.length - k) 0 ⟨by omega,fun i h hi=>by omega⟩ ⟨[0,1],rfl,by decide,rfl,by repeat' (first|exact True.intro|exact ⟨rfl,rfl⟩|apply y36),by repeat' (first|exact True.intro|exact z24 rfl rfl|apply y36)⟩ ?_
 rintro k ⟨hk1,hk2⟩
 have hlast : -1≤z382 a.ini k∧z382 a.ini k≤a.acc.length - 1:=by
  unfold z382
  split
  ·rename_i h
   have:=(hk2 (k - 1) (by omega) (by omega)).1;omega
  ·omega
 repeat' (first|(apply y76 ok;rfl;conv=>whnf)|(apply y36;(first|omega|(unfold inI;omega));conv=>whnf)|(with_reducible apply z8;omega;intro _;conv=>whnf)|(apply z5<;>intro _<;>conv=>whnf)|(apply z74<;>intro _<;>conv=>whnf)|(apply z87<;>intro _<;>conv=>whnf)|(apply z6 (z326 _ (z382 a.ini k+1) _);rfl;rfl;conv=>whnf)|(apply z6 (z326 _ 1 64);rfl;rfl;conv=>whnf)|(apply z929 [1] (hk);rfl;rfl;rfl;rfl;conv=>whnf))
 ·rename_i hkl hb
  refine z20 rfl (z211.2 fun ⟨_,_,h,_⟩=>?_)
  have h1:=h k hkl hkl
  rw [z300] at hb
  refine hb ⟨?_,h1.1.2⟩
  unfold z382
  split
  ·rename_i hp
   have:=h1.2 (k - 1) (by omega);omega
  ·omega
 ·rename_i hkl hb
  rw [z97] at hb
  refine z79 (k+1) [0,1] ⟨by omega,hk2.step hkl (by omega) fun j hj=>?_⟩ (by omega) ⟨rfl,by decide,rfl,⟨⟨rfl,rfl⟩,⟨rfl,rfl⟩,⟨rfl,?_⟩,⟨rfl,rfl⟩,⟨rfl,rfl⟩,⟨rfl,rfl⟩,trivial⟩,⟨z24 rfl rfl,z24 rfl rfl,trivial⟩⟩
  ·subst hj
   have:=hb.1
   unfold z382 at this
   rw [dif_pos (by omega)] at this
   simp only [Nat.add_sub_cancel] at this
   omega
  ·have:z382 a.ini (k+1)=a.ini[k]:=by unfold z382;rw [dif_pos (by omega)];rfl
   rw [this];rfl
 all_goals (have hfull:IniP a.ini a.acc.length a.ini.length:=by (have:k=a.ini.length:=by omega);rw [← this];exact hk2)
 ·rename_i hb hl
  refine z20 rfl ?_
  rw [z97] at hb
  rw [Bool.eq_iff_iff,z96,Bool.not_eq_true',List.any_eq_false]
  constructor
  ·rintro ⟨_,_,_,h⟩ x hx
   simpa using z297.2 (h x hx)
  ·intro h
   exact ⟨by omega,by omega,hfull,fun e he=>z297.1 (by simpa using h e he)⟩
 ·refine z20 rfl (z211.2 fun hh=>?_)
  have:=hh.2.1;omega
 ·rename_i hb
  refine z20 rfl (z211.2 fun hh=>?_)
  have:=hh.1
  rw [z300] at hb;omega
theorem z95 (a:Aut) (ha:a.mx):CallsA Tryz.prog 73 [.agg a.cs] [] (.bool (autB a)) []:=by
 obtain ⟨hi,hc,he,hm⟩:=ha
 unfold maxLen at hi hc he
 refine z13 z15 Tryz.func73 rfl rfl 83 Tryz.ntmps73 (by simp) ?_
 repeat' (first|(apply y76 ok;rfl;conv=>whnf)|(apply z5<;>intro _<;>conv=>whnf))
 ·exact z20 rfl (z211.2 fun ⟨h,_⟩=>by omega)
 ·exact z20 rfl (z211.2 fun ⟨h,_⟩=>by omega)
 ·exact z20 rfl (z211.2 fun ⟨h,_,h2,_⟩=>by have:=h2.le (by omega);omega)
 ·exact z20 rfl (z211.2 fun ⟨_,h,_⟩=>by omega)
 refine z94 (fun k:Nat=>([(1,.ptr 0 none 0),(3,.int a.acc.length),(4,.int k)],[.cells 3 [[lst 1 enI a.ini,lst 1 enB a.acc,lst 4 Trans.cs a.ed]]])) (fun k=>k≤a.ini.length∧IniP a.ini a.acc.length k) (fun k=>a.ini.length - k) 0 ⟨by omega,fun i h hi=>by omega⟩ ⟨[0],rfl,by decide,rfl,by repeat' (first|exact True.intro|exact ⟨rfl,rfl⟩|apply y36),by repeat' (first|exact True.intro|exact z24 rfl rfl|apply y36)⟩ ?_
 rintro k ⟨hk1,hk2⟩
 repeat' (first|(apply y76 ok;rfl;conv=>whnf)|(apply z21;kernel_rfl;conv=>whnf)|(apply y36;(first|omega|(unfold inI;omega));conv=>whnf)|(with_reducible apply z8;omega;intro _;conv=>whnf)|(apply z261;omega;intro _;conv=>whnf)|(apply z5<;>intro _<;>conv=>whnf))
 ·refine z20 rfl (z211.2 fun ⟨_,_,h,_⟩=>?_)
  have:=(h k (by assumption) (by assumption)).1;omega
 ·refine z20 rfl (z211.2 fun ⟨_,_,h,_⟩=>?_)
  have:=(h k (by assumption) (by assumption)).1;omega
 ·rename_i hk0 _ _ hb
  refine z20 rfl (z211.2 fun ⟨_,_,h,_⟩=>?_)
  have:=(h k (by assumption) (by assumption)).2 (k - 1) (by omega)
  have e:((k:Int) - 1).toNat=k - 1:=by omega
  simp only [e] at hb
  omega
 ·rename_i hk0 _ _ hb
  refine z79 (k+1) [0] ⟨by omega,hk2.step (by assumption) (by omega) fun j hj=>?_⟩ (by omega) ⟨rfl,by decide,rfl,by repeat' (first|exact True.intro|exact ⟨rfl,rfl⟩|apply y36),by repeat' (first|exact True.intro|exact z24 rfl rfl|apply y36)⟩
  have e:((k:Int) - 1).toNat=k - 1:=by omega
  simp only [e] at hb
  subst hj
  simp only [Nat.add_sub_cancel] at hb
  omega
 ·exact z79 (k+1) [0] ⟨by omega,hk2.step (by assumption) (by omega) fun j hj=>by omega⟩ (by omega) ⟨rfl,by decide,rfl,by repeat' (first|exact True.intro|exact ⟨rfl,rfl⟩|apply y36),by repeat' (first|exact True.intro|exact z24 rfl rfl|apply y36)⟩
 have hfull:IniP a.ini a.acc.length a.ini.length:=by (have:k=a.ini.length:=by omega);rw [← this];exact hk2
 clear hk2 hk1
 refine z94 (fun k:Nat=>([(1,.ptr 0 none 0),(3,.int a.acc.length),(5,.int k)],[.cells 3 [[lst 1 enI a.ini,lst 1 enB a.acc,lst 4 Trans.cs a.ed]]])) (fun k=>k≤a.ed.length∧∀ i (h:i < a.ed.length),i < k→z328 a.acc.length a.ed[i]) (fun k=>a.ed.length - k) 0 ⟨by omega,fun i h hi=>by omega⟩ ⟨[0],rfl,by decide,rfl,by repeat' (first|exact True.intro|exact ⟨rfl,rfl⟩|apply y36),by repeat' (first|exact True.intro|exact z24 rfl rfl|apply y36)⟩ ?_
 rintro k2 ⟨hk1,hk2⟩
 repeat' (first|(apply y76 ok;rfl;conv=>whnf)|(apply y36;(first|omega|(unfold inI;omega));conv=>whnf)|(with_reducible apply z8;omega;intro _;conv=>whnf)|(apply z5<;>intro _<;>conv=>whnf)|(apply z37<;>intro _<;>conv=>whnf)|(apply z6 (z1093 _ a.ed[k2] (hm _ (y37 _)));rfl;rfl;conv=>whnf))
 ·rename_i hb
  exact z20 rfl (z211.2 fun ⟨_,_,_,h⟩=>hb (h _ (y37 _)))
 ·rename_i hb
  refine z79 (k2+1) [0] ⟨by omega,fun i hi hik=>?_⟩ (by omega) ⟨rfl,by decide,rfl,by repeat' (first|exact True.intro|exact ⟨rfl,rfl⟩|apply y36),by repeat' (first|exact True.intro|exact z24 rfl rfl|apply y36)⟩
  rcases y62 i k2 with h3|h3
  ·exact hk2 i hi h3
  ·obtain rfl:i=k2:=by omega
   exact hb
 ·refine z20 rfl (z96.2 ⟨by omega,by omega,hfull,fun e he=>?_⟩)
  obtain ⟨i,hi,rfl⟩:=List.mem_iff_getElem.1 he
  exact hk2 i hi (by omega)
theorem z544 {P:Program} {f:FuncId} {w:Nat} {res:AC} {objs' : List AObj} (hf:z793 P f) (h:∀ a cap,CallsA P f [.raw (.slice a 0 cap)] [] res objs'):CallsA P f [.list w 0 []] [] res objs':=by
 refine ⟨hf,fun G W vs hW hs hv=>?_⟩
 simp only [VL] at hv
 obtain ⟨⟨v,hv1,hv2⟩,_⟩:=hv
 simp only [V] at hv2
 obtain ⟨a,cap,rfl,_⟩:=hv2
 exact (h a cap).2 G W vs hW hs (by simp only [VL];exact ⟨⟨_,hv1,by simp [V]⟩,trivial⟩)
theorem nils_le {w:Nat} : ACle .nils (.list w 0 []):=fun G h v hv=>by
 simp only [V] at hv ⊢
 exact ⟨none,0,hv,y45 _,rfl,.inl trivial⟩
theorem z628 {o off w:Nat} : ACle (.sref o off 0) (.list w 0 []):=fun G h v hv=>by
 simp only [V] at hv ⊢
 obtain ⟨cap,_,⟨rfl,a,rfl⟩|⟨b,size,w',_,_,rfl⟩⟩:=hv
 ·exact ⟨_,_,rfl,y45 _,rfl,.inl trivial⟩
 ·exact ⟨_,_,rfl,y46 _,rfl,.inl trivial⟩
theorem z758 {P : Program} {f : FuncId} {fn : Func} {c : Code} (hf : P.funcs[f]? = some fn) (hb : fn.body = some c) (hn : (fn.name == "runtime.NumGoroutine") = false) : z793 P f := ⟨fn, c, hf, hn, hb⟩
theorem z605 (l:List Int) (hl:l.length≤1048576) (hp:0 < l.length):CallsA Tryz.prog 205 [ints l] [] (.sref 0 0 l.length) [.cells 1 (l.map enI)]:=by
 refine z13 z15 Tryz.func205 rfl rfl 8 Tryz.ntmps205 (by simp) ?_
 repeat' (first|(apply y76 ok;rfl;conv=>whnf)|(apply y36;(first|omega|(dsimp only;omega)|exact z54 (fun _=>rfl));conv=>whnf))
 exact z371 rfl (z4 fun _=>rfl) (Nat.zero_add _) rfl rfl
theorem z864 (l:List Int) (hl:l.length≤1048576):CallsA Tryz.prog 205 [ints l] [] (ints l) []:=by
 by_cases hp:0 < l.length
 ·have h:=(z605 l hl hp).keep (z173 _ _) (by simp)
  exact h
 ·obtain rfl:l=[]:=y66 (by omega)
  refine z544 (z758 Tryz.func205 rfl (by rfl)) fun ad cap=>?_
  refine z13 z15 Tryz.func205 rfl rfl 8 Tryz.ntmps205 (by simp) ?_
  repeat' (first|(apply y76 ok;rfl;conv=>whnf)|(apply y36;(omega);conv=>whnf)|(apply z87<;>intro _<;>conv=>whnf))
  ·exact z727 rfl rfl nils_le
  ·exact z727 rfl rfl z628
theorem z993 (l:List Int) (hl:l.length≤1048576):CallsA Tryz.prog 204 [ints l] [] (ints l) []:=by
 refine z13 z15 Tryz.func204 rfl rfl 9 Tryz.ntmps204 (by simp) ?_
 repeat' (first|(apply y76 ok;rfl;conv=>whnf)|(apply y36;(omega);conv=>whnf))
 refine z60 rfl rfl ?_
 show AC.list 1 _ _=ints l
 rw [show AC.list 1 ((l.length:Int).toNat - (0:Int).toNat) (((l.map enI).drop (0:Int).toNat).take ((l.length:Int).toNat - (0:Int).toNat))=_ from z311 1 enI l l.length (y45 _),y49]
 rfl
theorem z761 (l:List Int) (hl:l.length≤1048576):CallsA Tryz.prog 139 [ints l] [] (ints l) []:=by
 refine z13 z15 Tryz.func139 rfl rfl 6 Tryz.ntmps139 (by simp) ?_
 repeat' (first|(apply y76 ok;rfl;conv=>whnf)|(apply z6 (z864 l hl);rfl;rfl;conv=>whnf)|(apply z6 (z993 l hl);rfl;rfl;conv=>whnf))
 exact z60 rfl rfl rfl
theorem z805 {x x' y:AC} (h:ACle x x'):ACle (.tup [x,y]) (.tup [x',y]):=fun G hh v hv=>by
 simp only [V,VL] at hv ⊢
 obtain ⟨c,rfl,hc,⟨v1,h1,h2⟩,h3,_⟩:=hv
 exact ⟨c,rfl,hc,⟨v1,h1,h _ _ _ h2⟩,h3,trivial⟩
noncomputable def glB (g:Graph) (l:List Tree):Bool:=z206 g && z186 l
theorem z705 {l:List Int} (h:z407 l=true):ValsOk l:=by
 unfold z407 at h
 rw [y63,decide_eq_true_eq,Bool.not_eq_true',List.any_eq_false] at h
 exact ⟨by omega,fun x hx=>by simpa [z97] using h.2 x hx⟩
theorem GB.vals {g:Graph} (h:GB g):∀ s∈g.st,ValsOk s.b:=fun s hs=>by
 obtain ⟨i,hi,rfl⟩:=List.mem_iff_getElem.1 hs
 exact z705 (h.2.2 i (by have:=h.2.1;omega) (by have:=h.2.1;omega) hi).2.2.1
def Lmx (l:List Tree):Prop:=l.length≤maxLen∧∀ t∈l,t.mx
theorem z115 (g:Graph) (hg:g.mx) (l:List Tree) (hl:Lmx l):CallsA Tryz.prog 72 [.agg g.cs,lst 3 Tree.cs' l] [] (.tup [ints (if glB g l then g.st.map (z28 l) else []),.bool (glB g l)]) []:=by
 refine z13 z15 Tryz.func72 rfl rfl 18 Tryz.ntmps72 (by simp) ?_
 have k1:=z411 g hg
 have k2:=z366 l hl.1 hl.2
 have k3:=fun (h1:z206 g=true) (h2:z186 l=true)=>z744 g ((z69 g).1 h1).vals ((z69 g).1 h1).1.2 l (y7 h2)
 repeat' (first|(apply y76 ok;rfl;conv=>whnf)|(apply z74<;>intro _<;>conv=>whnf)|(apply z6 (k1);rfl;rfl;conv=>whnf)|(apply z6 (k2);rfl;rfl;conv=>whnf)|(apply z6 (k3 (by assumption) (by assumption));rfl;rfl;conv=>whnf))
 ·rename_i h
  have e:glB g l=false:=by unfold glB;rw [h];rfl
  rw [e]
  exact z727 rfl rfl (z805 z628)
 ·rename_i h1 h2
  have e:glB g l=false:=by unfold glB;rw [h1,h2];rfl
  rw [e]
  exact z727 rfl rfl (z805 z628)
 ·rename_i h1 h2
  have e:glB g l=true:=by unfold glB;rw [h1,h2];rfl
  rw [e]
  exact z60 rfl rfl rfl
theorem z435 (g:Graph) (hg:g.mx) (l:List Tree) (hl:Lmx l) (a:Aut) (ha:a.mx):CallsA Tryz.prog 67 [.agg g.cs,lst 3 Tree.cs' l,.agg a.cs] [] (.bool (glB g l && autB a)) []:=by
 refine z13 z15 Tryz.func67 rfl rfl 17 Tryz.ntmps67 (by simp) ?_
 repeat' (first|(apply y76 ok;rfl;conv=>whnf)|(apply z87<;>intro _<;>conv=>whnf)|(apply z6 (z259 g hg);rfl;rfl;conv=>whnf)|(apply z6 (z334 l hl.1 hl.2);rfl;rfl;conv=>whnf)|(apply z6 (z246 a ha);rfl;rfl;conv=>whnf))
 all_goals (refine z20 rfl ?_;(unfold glB;simp [*];done))
theorem z146 (l:List (List Int)):z72 (l.map z83)=l.map encL:=by
 rw [z194,List.map_map]
 refine List.map_congr_left fun r _=>?_
 show [AC.list 1 _ (z72 _)]=_
 rw [z173]
 simp [encL,ints,enI]
theorem z988 (l:List Bool):z72 (l.map enB)=l.map enB:=z173 (fun b=>Value.bool b) l
theorem keepB {f:FuncId} {args:List AC} {n:Nat} {l:List Bool} {y:AC} (h:CallsA Tryz.prog f args [] (.tup [.sref 0 0 n,y]) [.cells 1 (l.map enB)]) (hl:l.length=n) (hy:bor (z40 [.cells 1 (l.map enB)]) [] [0] y=y):CallsA Tryz.prog f args [] (.tup [lst 1 enB l,y]) []:=by
 subst hl
 have:=h.keepT (z988 l) (by simp) hy
 exact this
theorem keepI {f:FuncId} {args:List AC} {n:Nat} {l:List Int} (h:CallsA Tryz.prog f args [] (.sref 0 0 n) [.cells 1 (l.map enI)]) (hl:l.length=n):CallsA Tryz.prog f args [] (ints l) []:=by
 subst hl
 exact h.keep (z173 _ _) (by simp)
theorem z102 {objs:Nat→AObj} {π Bn:List Nat} {o:Nat} {l:List Int} (ho:objs o=.cells 1 (l.map enI)) (h1:idx π o=none) (h2:inB Bn o=true):bor objs π Bn (.sref o 0 l.length)=ints l :=
 z266 ho h1 h2 (by simp) (z173 _ _)
theorem z777 {objs:Nat→AObj} {π Bn:List Nat} {o n:Nat} {l:List Int} (ho:objs o=.cells 1 (l.map enI)) (h1:idx π o=none) (h2:inB Bn o=true) (hl:l.length=n):bor objs π Bn (.sref o 0 n)=ints l:=by
 subst hl;exact z102 ho h1 h2
theorem z353 (l:List Int) (hl:l.length≤1048576):CallsA Tryz.prog 204 [.sref 0 0 l.length] [.cells 1 (l.map enI)] (.sref 0 0 l.length) [.cells 1 (l.map enI)]:=by
 refine z13 z15 Tryz.func204 rfl rfl 9 Tryz.ntmps204 (by simp) ?_
 repeat' (first|(apply y76 ok;rfl;conv=>whnf)|(apply y36;(omega);conv=>whnf))
 exact z371 rfl (z4 fun _=>rfl) (by omega) rfl rfl
end Go.Proofs.YtahhobgjcfionaaGreat
namespace Go.Proofs.YtahhobgjcfionaaGreat
open Go.Gl
attribute [local irreducible] z29 AWP z46 z50 z47 RetS z58
def fnL (N:Nat) (f:Nat→Int):List Int:=(List.range N).map f
theorem z107 (N:Nat) (f:Nat→Int):(fnL N f).length=N:=by simp [fnL]
theorem z164 {N u:Nat} (f:Nat→Int) (h:u < N):((fnL N f).map enI)[u]?=some (enI (f u)):=by
 unfold fnL
 rw [y44,y44,List.getElem?_range h];rfl
theorem fnL_set {N u:Nat} (f:Nat→Int) (x:Int):(fnL N f).set u x=fnL N (upd f u x):=by
 apply y67 (by simp [fnL])
 intro i h1 h2
 rw [List.getElem_set]
 simp only [fnL,List.getElem_map,List.getElem_range]
 split
 ·rename_i e;subst e;rw [z32]
 ·rename_i e;rw [z45 _ _ (fun h=>e h.symm)]
theorem z142 {N u:Nat} (f:Nat→Int) (x:Int):((fnL N f).map enI).set u (enI x)=(fnL N (upd f u x)).map enI:=by rw [← fnL_set,List.map_set]
def natL (l:List Nat):List Int:=l.map fun x:Nat=>(x:Int)
theorem z467 (l:List Nat):(natL l).length=l.length:=by simp [natL]
theorem natL_at {l:List Nat} {i:Nat} (h:i < l.length):((natL l).map enI)[i]?=some (enI (l[i]:Nat)):=by
 unfold natL
 rw [y44,y44,y38 h];rfl
theorem z504 {rows:List (List Int)} {u:Nat} (h:u < rows.length):(rows.map encL)[u]?=some (encL (rows.getD u [])):=by
 rw [y44,y38 h,z14 h];rfl
@[reducible] def visF:AC:=.fn (.func 245) [] [.ptr 0 none 0,.ptr 1 none 0,.ptr 3 none 0,.ptr 5 none 0,.ptr 6 none 0,.ptr 7 none 0,.ptr 8 none 0,.ptr 10 none 0]
@[reducible] def z1070 (rows:List (List Int)) (s:TS):List AObj:=[.cells 1 [[.int s.cnt]],.cells 1 [[.sref 2 0 rows.length]],.cells 1 ((fnL rows.length s.num).map enI),.cells 1 [[.sref 4 0 rows.length]],.cells 1 ((fnL rows.length s.low).map enI),.cells 1 [[.own 1 ((natL s.stk).map enI)]],.cells 1 [[lst 1 encL rows]],.cells 1 [[visF]],.cells 1 [[.sref 9 0 rows.length]],.cells 1 ((fnL rows.length s.part).map enI),.cells 1 [[.int s.prt]]]
set_option maxHeartbeats 12800000 in
theorem z940 (rows : List (List Int)) (hr : ∀ r ∈ rows, InN rows.length r) (hN : rows.length ≤ 100000) (hrl : ∀ r ∈ rows, r.length ≤ 1000000000) : ∀ (f : Nat) (s : TS) (g : List Nat) (u : Nat), unvN rows.length s.num ≤ f → TI rows s g → s.num u = 0 → u < rows.length → (∀ x ∈ g, RN rows x u) → s.prt ≤ s.cnt →
  CallsA Tryz.prog 245 [.int (u:Int),.ptr 0 none 0,.ptr 1 none 0,.ptr 3 none 0,.ptr 5 none 0,.ptr 6 none 0,.ptr 7 none 0,.ptr 8 none 0,.ptr 10 none 0] (z1070 rows s) (.tup []) (z1070 rows (z231 rows f u s)):=by
 intro f
 induction f with
 |zero =>
  intro s g u hf _ h0 hu _ _
  have:=z1029 (num:=s.num) hu h0
  omega
 |succ f ih =>
  intro s g u hf hI h0 hu hg hsp
  have hTL:=z1168 hr hf hI h0 hu hg
  have hc0:s.cnt≤100000:=by have:=hI.ct;omega
  have gr:=z504 hu
  have hrow:=z182 hr (u:Int)
  rw [y69] at hrow
  have hrowl:(rows.getD u []).length≤1000000000:=by rw [z14 hu];exact hrl _ (y37 _)
  have hte:z231 rows (f+1) u s=tEnd u ((rows.getD u []).foldl (z364 (z231 rows f) u) (z199 u s)):=rfl
  generalize hR:z231 rows (f+1) u s=R at *
  generalize hrw:rows.getD u []=row at *
  have e1:=z142 (N:=rows.length) (u:=u) s.num (s.cnt+1)
  have e2:=z142 (N:=rows.length) (u:=u) s.low (s.cnt+1)
  have g1:=z164 s.num hu
  have g2:=z164 s.low hu
  have l1:=z107 rows.length s.num
  have l2:=z107 rows.length s.low
  have hsl:s.stk.length≤100000:=by
   have:=z147 rows.length (natL s.stk) ?_ ?_
   ·rw [z467] at this;omega
   ·exact (hI.nd).map _ fun a b h=>by omega
   ·intro x hx
    obtain ⟨y,hy,rfl⟩:=List.mem_map.1 hx
    have:=hI.lt y ((hI.stk y).1 hy).1
    omega
  refine z7 z15 Tryz.func245 rfl rfl 105 Tryz.ntmps245 (by simp) ?_
  repeat' ((first|((fail_if_success apply z104 2);(fail_if_success apply z88 2);apply y76 ok;rfl)|(apply z21;kernel_rfl)|(refine z12 (i:=u) rfl g1 ?_)|(refine z12 (i:=u) rfl g2 ?_)|(apply y36;first|omega|(unfold inI;omega)))<;>conv=>whnf)
  refine y77 (Gl.Reach.expose 5 0 0 rfl rfl rfl (z214 (fun _=>rfl) _) rfl) ?_
  conv=>whnf
  repeat' ((first|((fail_if_success apply z104 3);(fail_if_success apply z88 3);apply y76 ok;rfl)|(refine y36 ?_ ?_;(focus (dsimp only;simp only [y42,z467];omega)))|(refine z12 (i:=u) rfl gr ?_)|(apply y36;first|omega|exact ⟨rfl,z19 rfl z26⟩))<;>conv=>whnf)
  refine y77 (Gl.Reach.absorb 5 13 0 0 rfl rfl rfl rfl (by simp) rfl (z70 (fun e he=>(z4 (fun _=>rfl)) e (List.mem_of_mem_take he)) (z208 rfl z34)) rfl) ?_
  conv=>whnf
  have e3:((natL s.stk).map enI).take ((natL s.stk).map enI).length++[enI (u:Int)]=(natL (s.stk++[u])).map enI:=by
   rw [y49];unfold natL;simp
  obtain ⟨T,hT⟩:∃ T:Nat→TS,T=fun k=>(row.take k).foldl (z364 (z231 rows f) u) (z199 u s):=⟨_,rfl⟩
  have hT0:T 0=z199 u s:=by rw [hT];rfl
  have hTs:∀ k (hk:k < row.length),T (k+1)=z364 (z231 rows f) u (T k) row[k]:=fun k hk=>by
   rw [hT]
   show (row.take (k+1)).foldl _ _=_
   rw [y43 hk,y55];rfl
  have hTn:R=tEnd u (T row.length):=by
   rw [hT,hte]
   show _=tEnd u ((row.take row.length).foldl _ _)
   rw [y49]
  have hTT:∀ k,k≤row.length→TL rows s (T k) g u (row.take k):=fun k hk=>by rw [hT];exact hTL k hk
  clear hT hTL hte hR
  have f1:(T 0).num=upd s.num u (s.cnt+1):=by rw [hT0];rfl
  have f2:(T 0).low=upd s.low u (s.cnt+1):=by rw [hT0];rfl
  have f3:(T 0).stk=s.stk++[u]:=by rw [hT0];rfl
  have f4:(T 0).cnt=s.cnt+1:=by rw [hT0];rfl
  have f5:(T 0).part=s.part:=by rw [hT0];rfl
  have f6:(T 0).prt=s.prt:=by rw [hT0];rfl
  refine z65 (fun k:Nat=>([(0,.int (u:Int)),(1,.ptr 0 none 0),(2,.ptr 1 none 0),(3,.ptr 3 none 0),(4,.ptr 5 none 0),(5,.ptr 6 none 0),(6,.ptr 7 none 0),(7,.ptr 8 none 0),(8,.ptr 10 none 0),(30,ints row),(31,.int row.length),(32,.int k)],[.cells 1 [[.int (T k).cnt]],.cells 1 [[.sref 2 0 rows.length]],.cells 1 ((fnL rows.length (T k).num).map enI),.cells 1 [[.sref 4 0 rows.length]],.cells 1 ((fnL rows.length (T k).low).map enI),.cells 1 [[.own 1 ((natL (T k).stk).map enI)]],.cells 1 [[lst 1 encL rows]],.cells 1 [[visF]],.cells 1 [[.sref 9 0 rows.length]],.cells 1 ((fnL rows.length (T k).part).map enI),.cells 1 [[.int (T k).prt]]])) (fun k=>k≤row.length) (fun k=>row.length - k) 0 (y46 _) (by refine swR [0,1,2,3,4,5,6,7,8,9,10] [] rfl rfl ?_;(repeat' first|exact y78 _|(refine z105 ?_;omega)|apply y79|refine z43 rfl (z4 (fun _=>rfl)) ?_|refine z10 rfl (z4 (fun _=>rfl)) ?_|constructor)<;>(first|(refine z30 ?_;rw [f1];exact e1)|(refine z30 ?_;rw [f2];exact e2)|(rw [f5];exact z9 _)|(rw [f3];refine y8 ?_;rw [← e3];rfl))) ?_
  clear f1 f2 f3 f4 f5 f6 hT0 e1 e2 e3 g1 g2 l1 l2
  intro k hk
  have hL:=hTT k hk
  have hLI:=hL.inv
  have hL2:=hL.num
  have gu1:=z164 (T k).num hu
  have gu2:=z164 (T k).low hu
  have l1:=z107 rows.length (T k).num
  have l2:=z107 rows.length (T k).low
  have l3:=z107 rows.length (T k).part
  by_cases hk2:k < row.length
  ·have hs2:=hTs k hk2
   have gk:(row.map enI)[k]?=some (enI row[k]):=by rw [y44,y38 hk2];rfl
   have hv:=hrow _ (y37 hk2)
   have hvm:row[k]∈rows.getD u []:=by rw [hrw];exact y37 hk2
   generalize row[k]=v at *
   obtain ⟨w,rfl⟩:∃ w:Nat,v=w:=⟨v.toNat,by omega⟩
   have hw:w < rows.length:=by omega
   have gw1:=z164 (T k).num hw
   have gw3:=z164 (T k).part hw
   unfold z364 at hs2
   simp only [y69] at hs2
   have hnx:k+1≤row.length:=hk2
   generalize hS:T k=S at *
   generalize hS2:T (k+1)=S2 at *
   by_cases hw0:S.num w=0
   ·rw [if_pos hw0] at hs2
    have cW:=ih S (u::g) w (by have h1:=hL.cnt;have h2:=hLI.ct;have h3:=hI.ct;omega) hLI hw0 hw (fun x hx=>by
     rcases List.mem_cons.1 hx with rfl|hx
     ·exact .edge hvm
     ·exact (hg x hx).trans (.edge hvm)) (by have:=hL.prt;omega)
    generalize z231 rows f w S=S1 at *
    have hu1:=z164 S1.low hu
    have hw1:=z164 S1.low hw
    have l4:=z107 rows.length S1.low
    have e1:=z142 (N:=rows.length) (u:=u) S1.low (min (S1.low u) (S1.low w))
    have q1:S2.low=upd S1.low u (min (S1.low u) (S1.low w)):=by rw [hs2];rfl
    have q2:S2.num=S1.num:=by rw [hs2];rfl
    have q3:S2.part=S1.part:=by rw [hs2];rfl
    have q4:S2.stk=S1.stk:=by rw [hs2];rfl
    have q5:S2.cnt=S1.cnt:=by rw [hs2];rfl
    have q6:S2.prt=S1.prt:=by rw [hs2];rfl
    repeat' ((first|((fail_if_success apply z104 8);(fail_if_success apply z88 8);apply y76 ok;rfl)|(apply z21;kernel_rfl)|(refine z12 (i:=k) rfl gk ?_)|(refine z12 (i:=w) rfl gw1 ?_)|(apply y36;omega)|(((apply z8;omega));intro _)|((apply z5)<;>intro _)|(apply z159 [0,1,2,3,4,5,6,7,8,9,10] [] cW;rfl;(focus ((repeat' first|exact z59|apply z66)<;>first|rfl|(refine z80 rfl ?_;((exact z4 fun _=>rfl)))));rfl;(focus ((repeat' first|exact z17|apply z16)<;>first|exact z44 rfl rfl|(refine z23 ?_;((exact z4 fun _=>rfl)))))))<;>conv=>whnf)
    all_goals try (exfalso;omega)
    repeat' ((first|(apply y76 ok;rfl)|(apply z21;kernel_rfl)|(refine z12 (i:=u) rfl hu1 ?_)|(refine z12 (i:=w) rfl hw1 ?_)|(apply y36;first|omega|(unfold inI;omega)))<;>conv=>whnf)
    all_goals refine z25 (k+1) hk2 (by omega) ?_
    all_goals dsimp only
    all_goals rw [hS2,q2,q3,q4,q5,q6,q1]
    all_goals exact (by refine swR [0,1,2,3,4,5,6,7,8,9,10] [] rfl rfl ?_;(repeat' first|exact y78 _|exact z9 _|apply y79|refine z43 rfl (z4 (fun _=>rfl)) ?_|refine z10 rfl (z4 (fun _=>rfl)) ?_|constructor)<;>((refine z30 ?_;exact e1)))
   ·rw [if_neg hw0] at hs2
    by_cases hp0:S.part w < 0
    ·rw [if_pos hp0] at hs2
     have e1:=z142 (N:=rows.length) (u:=u) S.low (min (S.low u) (S.num w))
     have q1:S2.low=upd S.low u (min (S.low u) (S.num w)):=by rw [hs2];rfl
     have q2:S2.num=S.num:=by rw [hs2];rfl
     have q3:S2.part=S.part:=by rw [hs2];rfl
     have q4:S2.stk=S.stk:=by rw [hs2];rfl
     have q5:S2.cnt=S.cnt:=by rw [hs2];rfl
     have q6:S2.prt=S.prt:=by rw [hs2];rfl
     repeat' ((first|(apply y76 ok;rfl)|(apply z21;kernel_rfl)|(refine z12 (i:=k) rfl gk ?_)|(refine z12 (i:=w) rfl gw1 ?_)|(refine z12 (i:=w) rfl gw3 ?_)|(refine z12 (i:=u) rfl gu2 ?_)|(apply y36;first|omega|(unfold inI;omega))|(((apply z8;omega));intro _)|((apply z5)<;>intro _))<;>conv=>whnf)
     all_goals try (exfalso;omega)
     all_goals refine z25 (k+1) hk2 (by omega) ?_
     all_goals dsimp only
     all_goals rw [hS2,q2,q3,q4,q5,q6,q1]
     all_goals exact (by refine swR [0,1,2,3,4,5,6,7,8,9,10] [] rfl rfl ?_;(repeat' first|exact y78 _|exact z9 _|apply y79|refine z43 rfl (z4 (fun _=>rfl)) ?_|refine z10 rfl (z4 (fun _=>rfl)) ?_|constructor)<;>((refine z30 ?_;exact e1)))
    ·rw [if_neg hp0] at hs2
     repeat' ((first|(apply y76 ok;rfl)|(apply z21;kernel_rfl)|(refine z12 (i:=k) rfl gk ?_)|(refine z12 (i:=w) rfl gw1 ?_)|(refine z12 (i:=w) rfl gw3 ?_)|(apply y36;first|omega|(unfold inI;omega))|(((apply z8;omega));intro _)|((apply z5)<;>intro _))<;>conv=>whnf)
     all_goals try (exfalso;omega)
     all_goals refine z25 (k+1) hk2 (by omega) ?_
     all_goals dsimp only
     all_goals rw [hS2,hs2]
     all_goals exact (by refine swR [0,1,2,3,4,5,6,7,8,9,10] [] rfl rfl ?_;(repeat' first|exact y78 _|exact z9 _|apply y79|refine z10 rfl (z4 (fun _=>rfl)) ?_|constructor))
  ·obtain rfl:k=row.length:=by omega
   have hpf:=hL.pref
   have hsu:u ∉ s.stk:=fun hm=>((hI.stk u).1 hm).1 h0
   have hnd:=hLI.nd
   have hpp:(T row.length).prt≤100001:=by have h1:=hL.prt;have h2:=hLI.ct;have h3:=hI.ct;have h4:=hL.cnt;omega
   generalize hS:T row.length=S at *
   unfold tEnd at hTn
   by_cases he:S.low u=S.num u
   ·rw [if_pos he] at hTn
    obtain ⟨B,hB⟩:=hpf
    have hcut:=z885 (A:=s.stk) (B:=B) hsu
    have hLl:S.stk.length=s.stk.length+1+B.length:=by rw [hB];simp;omega
    have hLs:S.stk.length≤100000:=by
     have:=z147 rows.length (natL S.stk) ?_ ?_
     ·rw [z467] at this;omega
     ·exact hnd.map _ fun a b h=>by omega
     ·intro x hx
      obtain ⟨y,hy,rfl⟩:=List.mem_map.1 hx
      have:=hLI.lt y ((hLI.stk y).1 hy).1
      omega
    have r1:R.stk=S.stk.take s.stk.length:=by
     rw [hTn];show S.stk.takeWhile _=_
     rw [hB,hcut.1];simp
    have r2:R.part=fun x=>if x∈S.stk.drop s.stk.length then (S.prt:Int) else S.part x:=by
     rw [hTn];show (fun x=>if x∈S.stk.dropWhile _ then _ else _)=_
     rw [hB,hcut.2];simp
    have r3:R.num=S.num:=by rw [hTn];rfl
    have r4:R.low=S.low:=by rw [hTn];rfl
    have r5:R.cnt=S.cnt:=by rw [hTn];rfl
    have r6:R.prt=S.prt+1:=by rw [hTn];rfl
    have hat:∀ j (hj:j < S.stk.length),(S.stk[j]=u↔j=s.stk.length):=by
     intro j hj
     have hu2:S.stk[s.stk.length]'(by omega)=u:=by simp [hB]
     constructor
     ·intro e
      have hne:=List.pairwise_iff_getElem.1 (List.nodup_iff_pairwise_ne.1 hnd)
      rcases Nat.lt_trichotomy j s.stk.length with h|h|h
      ·exact absurd (e.trans hu2.symm) (hne j s.stk.length hj (by omega) h)
      ·exact h
      ·exact absurd (hu2.trans e.symm) (hne s.stk.length j (by omega) hj h)
     ·rintro rfl;exact hu2
    have hlt:∀ j (hj:j < S.stk.length),S.stk[j] < rows.length:=fun j hj=>hLI.lt _ ((hLI.stk _).1 (y37 hj)).1
    have sl:=z467 S.stk
    repeat' ((first|((fail_if_success apply z104 14);(fail_if_success apply z88 14);apply y76 ok;rfl)|(apply z21;kernel_rfl)|(refine z12 (i:=u) rfl gu1 ?_)|(refine z12 (i:=u) rfl gu2 ?_)|(apply y36;omega)|((first|(with_reducible apply z8;omega)|(apply z8;omega));intro _)|((apply z5)<;>intro _))<;>conv=>whnf)
    all_goals try (exfalso;omega)
    refine y77 (Gl.Reach.expose 5 0 0 rfl rfl rfl (z214 (fun _=>rfl) _) rfl) ?_
    obtain ⟨pm,hpm⟩:∃ pm:Nat→Nat→Int,pm=fun m x=>if x∈S.stk.drop m then (S.prt:Int) else S.part x:=⟨_,rfl⟩
    have hpm0:pm S.stk.length=S.part:=by rw [hpm];funext x;simp
    have hpmE:pm s.stk.length=R.part:=by rw [hpm,r2]
    have hpmS:∀ m (hm:m < S.stk.length),pm m=upd (pm (m+1)) S.stk[m] S.prt:=by
     intro m hm
     funext x
     by_cases hx:x=S.stk[m]
     ·rw [hx,z32,hpm]
      dsimp only
      rw [if_pos]
      rw [y71 hm]
      exact List.mem_cons_self
     ·rw [z45 _ _ hx,hpm]
      dsimp only
      rw [y71 hm]
      simp only [List.mem_cons,hx,false_or]
    clear hpm
    refine z65 (fun m:Nat=>([(0,.int (u:Int)),(1,.ptr 0 none 0),(2,.ptr 1 none 0),(3,.ptr 3 none 0),(4,.ptr 5 none 0),(5,.ptr 6 none 0),(6,.ptr 7 none 0),(7,.ptr 8 none 0),(8,.ptr 10 none 0),(12,.int ((natL S.stk).getD m (-1)))],[.cells 1 [[.int S.cnt]],.cells 1 [[.sref 2 0 rows.length]],.cells 1 ((fnL rows.length S.num).map enI),.cells 1 [[.sref 4 0 rows.length]],.cells 1 ((fnL rows.length S.low).map enI),.cells 1 [[.sref 11 0 m]],.cells 1 [[lst 1 encL rows]],.cells 1 [[visF]],.cells 1 [[.sref 9 0 rows.length]],.cells 1 ((fnL rows.length (pm m)).map enI),.cells 1 [[.int S.prt]],.cells 1 ((natL S.stk).map enI)])) (fun m=>s.stk.length≤m∧m≤S.stk.length) (fun m=>m) S.stk.length ⟨by omega,y45 _⟩ (by refine swR [0,1,2,3,4,5,6,7,8,9,10,11] [] rfl rfl ?_;(repeat' first|exact y78 _|exact z9 _|(refine z38 ?_;((simp;omega)))|apply y79|refine z10 rfl (z4 (fun _=>rfl)) ?_|constructor)<;>(first|(rw [hpm0];exact z9 _)|(refine z105 ?_;simp [natL]))) ?_
    rintro m ⟨hm1,hm2⟩
    by_cases hm:m=s.stk.length
    ·subst hm
     have htop:(natL S.stk).getD s.stk.length (-1)=(u:Int):=by
      rw [z14 (by rw [sl];omega)]
      unfold natL
      rw [List.getElem_map,(hat _ (by omega)).2 rfl]
     rw [htop]
     repeat' ((first|((fail_if_success apply z104 18);(fail_if_success apply z88 18);apply y76 ok;rfl)|(apply y36;omega)|(((apply z8;omega));intro _)|((apply z37)<;>intro _))<;>conv=>whnf)
     all_goals try (exfalso;omega)
     refine y77 (Gl.Reach.trunc 11 s.stk.length rfl rfl) ?_
     refine y77 (Gl.Reach.absorb 5 11 0 0 rfl rfl rfl rfl (by simp [natL];omega) rfl (fun e he=>(z4 (fun _=>rfl)) e (List.mem_of_mem_take he)) rfl) ?_
     conv=>whnf
     repeat' ((first|(apply y76 ok;rfl)|(apply y36;(unfold inI;omega)))<;>conv=>whnf)
     have eR:z1070 rows R=[.cells 1 [[.int S.cnt]],.cells 1 [[.sref 2 0 rows.length]],.cells 1 ((fnL rows.length S.num).map enI),.cells 1 [[.sref 4 0 rows.length]],.cells 1 ((fnL rows.length S.low).map enI),.cells 1 [[.own 1 (((natL S.stk).map enI).take s.stk.length)]],.cells 1 [[lst 1 encL rows]],.cells 1 [[visF]],.cells 1 [[.sref 9 0 rows.length]],.cells 1 ((fnL rows.length (pm s.stk.length)).map enI),.cells 1 [[.int ((S.prt+1:Nat):Int)]]]:=by
      unfold z1070
      rw [r1,r3,r4,r5,r6,hpmE]
      simp [natL,List.map_take]
     rw [eR]
     (refine rsD [0,1,2,3,4,5,6,7,8,9,10] [] rfl ?_;(repeat' first|exact y78 _|exact z9 _|apply y79|refine z10 rfl (z4 (fun _=>rfl)) ?_|constructor))
    ·obtain ⟨m,rfl⟩:∃ m',m=m'+1:=⟨m - 1,by omega⟩
     have hmL:m < S.stk.length:=by omega
     have htop:(natL S.stk).getD (m+1) (-1)≠(u:Int):=by
      by_cases h:m+1 < S.stk.length
      ·rw [z14 (by rw [sl];exact h)]
       unfold natL
       rw [List.getElem_map]
       have:=(hat (m+1) h)
       omega
      ·rw [y60,y61 (by rw [sl];omega)]
       show (-1:Int)≠u
       omega
     have hnx:(natL S.stk).getD m (-1)=((S.stk[m]:Nat):Int):=by
      rw [z14 (by rw [sl];exact hmL)]
      unfold natL
      rw [List.getElem_map]
     have gst:=natL_at hmL
     have hwN:=hlt m hmL
     have hps:=hpmS m hmL
     generalize S.stk[m]=w at *
     have gw:=z164 (pm (m+1)) hwN
     have e1:=z142 (N:=rows.length) (u:=w) (pm (m+1)) S.prt
     rw [← hps] at e1
     generalize (natL S.stk).getD (m+1) (-1)=tp at *
     repeat' ((first|(apply y76 ok;rfl)|(refine z12 (i:=m) ?_ gst ?_;(focus (omega)))|(refine z12 (i:=w) rfl gw ?_)|(apply y36;first|omega|(unfold inI;omega))|((apply z37)<;>intro _))<;>conv=>whnf)
     all_goals try (exfalso;omega)
     all_goals refine z25 m ⟨by omega,by omega⟩ (by omega) ?_
     all_goals dsimp only
     all_goals rw [hnx]
     all_goals exact (by refine swR [0,1,2,3,4,5,6,7,8,9,10,11] [] rfl rfl ?_;(repeat' first|exact y78 _|exact z9 _|(refine z38 ?_;(omega))|apply y79|refine z43 rfl (z4 (fun _=>rfl)) ?_|refine z10 rfl (z4 (fun _=>rfl)) ?_|constructor)<;>((refine z30 ?_;exact e1)))
   ·rw [if_neg he] at hTn
    subst hTn
    repeat' ((first|(apply y76 ok;rfl)|(apply z21;kernel_rfl)|(refine z12 (i:=u) rfl gu1 ?_)|(refine z12 (i:=u) rfl gu2 ?_)|(apply y36;omega)|((first|(with_reducible apply z8;omega)|(apply z8;omega));intro _)|((apply z5)<;>intro _))<;>conv=>whnf)
    all_goals try (exfalso;omega)
    all_goals (refine rsD [0,1,2,3,4,5,6,7,8,9,10] [] rfl ?_;(repeat' first|exact y78 _|exact z9 _|apply y79|refine z10 rfl (z4 (fun _=>rfl)) ?_|constructor))
theorem z317 (N:Nat):List.replicate N [AC.int 0]=(fnL N fun _=>0).map enI:=by
 apply y67 (by simp [fnL])
 intro i h1 h2
 simp [fnL,enI]
theorem z763 {N:Nat} {f g:Nat→Int} (h:∀ i,i < N→f i=g i):fnL N f=fnL N g:=List.map_congr_left fun i hi=>h i (List.mem_range.1 hi)
theorem z431 {N i:Nat} (f:Nat→Int) (h:i < (fnL N f).length):(fnL N f)[i]=f i:=by simp [fnL]
set_option maxHeartbeats 12800000 in
theorem z578 (rows:List (List Int)) (hr:∀ r∈rows,InN rows.length r) (hN:rows.length≤100000) (hrl:∀ r∈rows,r.length≤1000000000):CallsA Tryz.prog 206 [lst 1 encL rows] [] (.sref 0 0 rows.length) [.cells 1 ((cmpL rows).map enI)]:=by
 refine z7 z15 Tryz.func206 rfl rfl 77 Tryz.ntmps206 (by simp) ?_
 repeat' ((first|(apply y76 ok;rfl)|(apply z21;kernel_rfl)|(apply y36;(dsimp only;omega)))<;>conv=>whnf)
 obtain ⟨qm,hqm⟩:∃ qm:Nat→Nat→Int,qm=fun i j=>if j < i then -1 else 0:=⟨_,rfl⟩
 have q0:qm 0=fun _=>0:=by rw [hqm];rfl
 have qE:fnL rows.length (qm rows.length)=fnL rows.length fun _=>-1:=z763 fun i hi=>by rw [hqm];dsimp only;rw [if_pos hi]
 have qS:∀ i,qm (i+1)=upd (qm i) i (-1):=fun i=>by
  funext j
  by_cases h:j=i
  ·subst h;rw [z32,hqm];dsimp only;rw [if_pos (by omega)]
  ·rw [z45 _ _ h,hqm];dsimp only;split<;>split<;>first|rfl|omega
 clear hqm
 refine z65 (fun i:Nat=>([(1,.ptr 0 none 0),(3,.int rows.length),(4,.ptr 4 none 0),(5,.ptr 5 none 0),(6,.ptr 6 none 0),(27,.int rows.length),(28,.int i)],[.cells 1 [[lst 1 encL rows]],.cells 1 ((fnL rows.length fun _=>0).map enI),.cells 1 ((fnL rows.length fun _=>0).map enI),.cells 1 ((fnL rows.length (qm i)).map enI),.cells 1 [[.sref 1 0 rows.length]],.cells 1 [[.sref 2 0 rows.length]],.cells 1 [[.sref 3 0 rows.length]]])) (fun i=>i≤rows.length) (fun i=>rows.length - i) 0 (y46 _) (by refine swR [0,1,2,3,4,5,6] [] rfl rfl ?_;(repeat' first|exact y78 _|apply y79|refine z10 rfl (z42 rfl) ?_|constructor)<;>(first|(refine z30 ?_;exact z317 _)|(refine z30 ?_;rw [q0];exact z317 _))) ?_
 intro i hi
 by_cases hi2:i < rows.length
 ·have g1:=z164 (qm i) hi2
  have l1:=z107 rows.length (qm i)
  have e1:=z142 (N:=rows.length) (u:=i) (qm i) (-1)
  rw [← qS] at e1
  repeat' ((first|(apply y76 ok;rfl)|(refine z12 (i:=i) rfl g1 ?_)|(apply y36;first|omega|(unfold inI;omega))|((apply z5)<;>intro _))<;>conv=>whnf)
  all_goals try (exfalso;omega)
  all_goals refine z25 (i+1) hi2 (by omega) (by refine swR [0,1,2,3,4,5,6] [] rfl rfl ?_;(repeat' first|exact y78 _|exact z9 _|apply y79|refine z43 rfl (z4 (fun _=>rfl)) ?_|refine z10 rfl (z4 (fun _=>rfl)) ?_|constructor)<;>((refine z30 ?_;exact e1)))
 obtain rfl:i=rows.length:=by omega
 rw [qE]
 clear qE qS q0
 repeat' ((first|(apply y76 ok;rfl)|(apply y36;omega)|(((apply z8;omega));intro _)|((apply z5)<;>intro _))<;>conv=>whnf)
 all_goals try (exfalso;omega)
 obtain ⟨S,hS⟩:∃ S:Nat→TS,S=fun k=>(List.range k).foldl (tTop rows) z363:=⟨_,rfl⟩
 have hTT:∀ k,k≤rows.length→TT rows (S k) k:=fun k hk=>by rw [hS];exact z626 hr k hk
 have hS0:S 0=z363:=by rw [hS];rfl
 have hSs:∀ k,S (k+1)=tTop rows (S k) k:=fun k=>by
  rw [hS];show (List.range (k+1)).foldl _ _=_
  rw [y54,y55];rfl
 have hSE:S rows.length=tAll rows:=by rw [hS];rfl
 clear hS
 refine z65 (fun k:Nat=>([(1,.ptr 6 none 0),(4,.ptr 1 none 0),(6,.ptr 8 none 0),(11,.ptr 7 none 0),(36,.int rows.length),(37,.int k)],z1070 rows (S k))) (fun k=>k≤rows.length) (fun k=>rows.length - k) 0 (y46 _) (by refine swR [8,4,1,5,2,7,0,10,6,3,9] [] rfl rfl ?_;(repeat' first|exact y78 _|apply y79|refine z10 rfl (z4 (fun _=>rfl)) ?_|constructor)<;>(first|(rw [hS0];exact y78 _)|(rw [hS0];exact z9 _)|(rw [hS0];exact z650))) ?_
 intro k hk
 have hT:=hTT k hk
 have hTn:∀ h:k < rows.length,TT rows (S (k+1)) (k+1):=fun h=>hTT (k+1) h
 by_cases hk2:k < rows.length
 ·have hs2:=hSs k
  generalize hS1:S k=s1 at *
  generalize hS2:S (k+1)=s2 at *
  have g1:=z164 s1.num hk2
  have l1:=z107 rows.length s1.num
  unfold tTop at hs2
  by_cases h0:s1.num k=0
  ·rw [if_pos h0] at hs2
   have cV:=z940 rows hr hN hrl rows.length s1 [] k (by have:=hT.inv.ct;omega) hT.inv h0 hk2 (by simp) hT.prt
   rw [← hs2] at cV
   repeat' ((first|(apply y76 ok;rfl)|(refine z12 (i:=k) rfl g1 ?_)|(apply y36;first|omega|(unfold inI;omega))|((apply z5)<;>intro _)|(apply z159 [0,1,2,3,4,5,6,7,8,9,10] [] cV;rfl;(focus ((repeat' first|exact z59|apply z66)<;>first|rfl|(refine z80 rfl ?_;((exact z4 fun _=>rfl)))));rfl;(focus ((repeat' first|exact z17|apply z16)<;>first|exact z44 rfl rfl|(refine z23 ?_;((exact z4 fun _=>rfl)))))))<;>conv=>whnf)
   all_goals try (exfalso;omega)
   all_goals refine z25 (k+1) hk2 (by omega) ?_
   all_goals dsimp only
   all_goals rw [hS2]
   all_goals exact (by refine swR [0,1,2,3,4,5,6,7,8,9,10] [] rfl rfl ?_;(repeat' first|exact y78 _|exact z9 _|apply y79|refine z10 rfl (z4 (fun _=>rfl)) ?_|constructor))
  ·rw [if_neg h0] at hs2
   repeat' ((first|(apply y76 ok;rfl)|(refine z12 (i:=k) rfl g1 ?_)|(apply y36;first|omega|(unfold inI;omega))|((apply z5)<;>intro _))<;>conv=>whnf)
   all_goals try (exfalso;omega)
   all_goals refine z25 (k+1) hk2 (by omega) ?_
   all_goals dsimp only
   all_goals rw [hS2,hs2]
   all_goals exact (by refine swR [0,1,2,3,4,5,6,7,8,9,10] [] rfl rfl ?_;(repeat' first|exact y78 _|exact z9 _|apply y79|refine z10 rfl (z4 (fun _=>rfl)) ?_|constructor))
 obtain rfl:k=rows.length:=by omega
 rw [hSE]
 clear hTT hS0 hSs hSE hTn hT
 have hcmp:cmpL rows=(List.range rows.length).map fun i=>nmI (fnL rows.length (tAll rows).part) i:=rfl
 obtain ⟨P,hP⟩:∃ P,P=fnL rows.length (tAll rows).part:=⟨_,rfl⟩
 rw [← hP] at hcmp
 have hPl:P.length=rows.length:=by rw [hP,z107]
 generalize tAll rows=s0 at *
 obtain ⟨pm,hpm⟩:∃ pm:Nat→Nat→Int,pm=fun i j=>if j < i then nmI P j else s0.part j:=⟨_,rfl⟩
 have q0:pm 0=s0.part:=by rw [hpm];funext j;simp
 have qE:fnL rows.length (pm rows.length)=cmpL rows:=by
  rw [hcmp]
  exact z763 fun i hi=>by rw [hpm];dsimp only;rw [if_pos hi]
 have qA:∀ i (h:i < rows.length),pm i i=P[i]'(by omega):=fun i h=>by
  rw [hpm];dsimp only;rw [if_neg (by omega)]
  simp only [hP,z431]
 have qS:∀ i,pm (i+1)=upd (pm i) i (nmI P i):=fun i=>by
  funext j
  by_cases h:j=i
  ·subst h;rw [z32,hpm];dsimp only;rw [if_pos (by omega)]
  ·rw [z45 _ _ h,hpm];dsimp only;split<;>split<;>first|rfl|omega
 clear hpm hcmp
 repeat' ((first|(apply y76 ok;rfl)|(apply y36;omega)|(((apply z8;omega));intro _)|((apply z5)<;>intro _))<;>conv=>whnf)
 all_goals try (exfalso;omega)
 refine z65 (fun i:Nat=>([(6,.ptr 1 none 0),(13,.mref 0),(50,.sref 2 0 rows.length),(51,.int rows.length),(52,.int i)],[.mp 0 (z244 0 (metL P i)),.cells 1 [[.sref 2 0 rows.length]],.cells 1 ((fnL rows.length (pm i)).map enI)])) (fun i=>i≤rows.length) (fun i=>rows.length - i) 0 (y46 _) (by refine swR [11,8,9] [] rfl rfl ?_;(repeat' first|exact y78 _|apply y79|refine z10 rfl (z4 (fun _=>rfl)) ?_|constructor)<;>(first|(rw [q0];exact z9 _)|rfl)) ?_
 intro i hi
 by_cases hi2:i < rows.length
 ·have g1:=z164 (pm i) hi2
  have l1:=z107 rows.length (pm i)
  have e1:=z142 (N:=rows.length) (u:=i) (pm i) (nmI P i)
  rw [← qS] at e1
  rw [qA i hi2] at g1
  have hiP:i < P.length:=by omega
  have m1:=z520 P[i] 0 (metL P i)
  have m2:=z520 P[i] 0 (metL P (i+1))
  rw [if_pos (z654 hiP),Nat.zero_add,← nmI_at hiP] at m2
  have m3:=z378 hiP
  have m4:=z540 0 (metL P i)
  by_cases hp:P[i]∈metL P i
  ·rw [if_pos hp] at m1
   have m5:metL P (i+1)=metL P i:=by rw [m3];unfold z165;rw [if_pos hp]
   rw [m5] at m2
   generalize hes:z244 0 (metL P i)=es at *
   generalize hes2:z244 0 (metL P (i+1))=es2 at *
   have m6:es2=es:=by rw [← hes2,m5,hes]
   generalize nmI P i=nm at *
   generalize P[i]=p at *
   repeat' ((first|(apply y76 ok;rfl)|(refine z12 (i:=i) rfl g1 ?_)|(rw [m2])|(apply y36;first|omega|(unfold inI;omega))|((apply z5)<;>intro _))<;>conv=>whnf)
   all_goals try (exfalso;omega)
   all_goals refine z25 (i+1) hi2 (by omega) ?_
   all_goals dsimp only
   all_goals rw [hes2,m6]
   all_goals exact (by refine swR [0,1,2] [] rfl rfl ?_;(repeat' first|exact y78 _|apply y79|refine z43 rfl (z4 (fun _=>rfl)) ?_|constructor)<;>(first|(refine z30 ?_;exact e1)|rfl))
  ·rw [if_neg hp] at m1
   have m5:metL P (i+1)=metL P i++[P[i]]:=by rw [m3];unfold z165;rw [if_neg hp]
   have m6:mput (z244 0 (metL P i)) [P[i]] (z244 0 (metL P i)).length=z244 0 (metL P (i+1)):=by
    rw [z738 _ _ _ hp,m5,z767,z540,Nat.zero_add]
   generalize hes:z244 0 (metL P i)=es at *
   generalize hes2:z244 0 (metL P (i+1))=es2 at *
   generalize nmI P i=nm at *
   generalize P[i]=p at *
   repeat' ((first|(apply y76 ok;rfl)|(refine z12 (i:=i) rfl g1 ?_)|(rw [m6])|(rw [m2])|(rw [m1])|(apply y36;first|omega|(unfold inI;omega))|((apply z5)<;>intro _))<;>conv=>whnf)
   all_goals try (exfalso;omega)
   all_goals refine z25 (i+1) hi2 (by omega) ?_
   all_goals dsimp only
   all_goals rw [hes2]
   all_goals exact (by refine swR [0,1,2] [] rfl rfl ?_;(repeat' first|exact y78 _|apply y79|refine z43 rfl (z4 (fun _=>rfl)) ?_|constructor)<;>(first|(refine z30 ?_;exact e1)|rfl))
 obtain rfl:i=rows.length:=by omega
 rw [qE]
 repeat' ((first|(apply y76 ok;rfl)|(apply y36;omega)|(((apply z8;omega));intro _)|((first|apply z5|apply z74)<;>intro _))<;>conv=>whnf)
 all_goals try (exfalso;omega)
 all_goals (refine rsD [2] [] rfl ?_;(repeat' first|exact y78 _|exact z9 _|refine z10 rfl (z4 (fun _=>rfl)) ?_|constructor))
def fnB (N:Nat) (f:Nat→Bool):List Bool:=(List.range N).map f
theorem z1116 (N:Nat) (f:Nat→Bool):(fnB N f).length=N:=by simp [fnB]
theorem z1117 {N u:Nat} (f:Nat→Bool) (h:u < N):((fnB N f).map enB)[u]?=some (enB (f u)):=by
 unfold fnB
 rw [y44,y44,List.getElem?_range h];rfl
theorem z919 {N u:Nat} (f:Nat→Bool) (x:Bool):((fnB N f).map enB).set u (enB x)=(fnB N (upd f u x)).map enB:=by
 rw [← List.map_set]
 congr 1
 apply y67 (by simp [fnB])
 intro i h1 h2
 rw [List.getElem_set]
 simp only [fnB,List.getElem_map,List.getElem_range]
 split
 ·rename_i e;subst e;rw [z32]
 ·rename_i e;rw [z45 _ _ (fun h=>e h.symm)]
theorem z918 (N:Nat):List.replicate N [AC.bool false]=(fnB N fun _=>false).map enB:=by
 apply y67 (by simp [fnB])
 intro i h1 h2
 simp [fnB,enB]
set_option maxHeartbeats 12800000 in
theorem z603 (rows:List (List Int)) (hr:∀ r∈rows,InN rows.length r) (hN:rows.length≤100000) (hrl:∀ r∈rows,r.length≤1000000000):CallsA Tryz.prog 140 [lst 1 encL rows] [] (.sref 0 0 rows.length) [.cells 1 ((cycB rows).map enB)]:=by
 have cC:=z578 rows hr hN hrl
 have hPl:=z392 rows
 have hPi:=z1137 (rows:=rows)
 have hcy:=fun x hx=>cyc_cnt hr (x:=x) hx
 have hcl:=fun x (hx:x < rows.length)=>z863 hx
 have ccB:cycB rows=fnB rows.length (cycD rows):=rfl
 rw [ccB]
 generalize cmpL rows=P at *
 refine z7 z15 Tryz.func140 rfl rfl 56 Tryz.ntmps140 (by simp) ?_
 repeat' ((first|(apply y76 ok;rfl)|(apply y36;(dsimp only;omega))|(apply z11 [] [0] cC;rfl;rfl;rfl;(focus ((repeat' first|exact z17|apply z16)<;>(refine z23 ?_;((exact z4 fun _=>rfl)))))))<;>conv=>whnf)
 obtain ⟨cm,hcm⟩:∃ cm:Nat→Nat→Int,cm=fun i v=>((cntL P i v:Nat):Int):=⟨_,rfl⟩
 have c0:cm 0=fun _=>0:=by rw [hcm];funext v;simp [cntL]
 have cS:∀ i (h:i < P.length),cm (i+1)=upd (cm i) (P[i]).toNat (cm i (P[i]).toNat+1):=fun i h=>by
  have hp:=hPi _ (y37 h)
  funext v
  rw [hcm]
  dsimp only
  rw [z773 h]
  by_cases e:v=(P[i]).toNat
  ·rw [e,z32,if_pos (by omega)];omega
  ·rw [z45 _ _ e,if_neg (by omega)];omega
 have cE:∀ v,cm rows.length v=((cntL P rows.length v:Nat):Int):=fun v=>by rw [hcm]
 have cB:∀ i v,0≤cm i v∧cm i v≤i:=fun i v=>by rw [hcm];have:=cntL_le P i v;dsimp only;omega
 clear hcm
 refine z65 (fun i:Nat=>([(0,lst 1 encL rows),(3,.sref 0 0 rows.length),(4,.sref 1 0 rows.length),(14,.sref 0 0 rows.length),(15,.int rows.length),(16,.int i)],[.cells 1 (P.map enI),.cells 1 ((fnL rows.length (cm i)).map enI)])) (fun i=>i≤rows.length) (fun i=>rows.length - i) 0 (y46 _) (by refine swR [0,1] [] rfl rfl ?_;(repeat' first|exact y78 _|exact z9 _|((refine z10 rfl ?_ ?_);(focus ((repeat' (first|exact z42 rfl|exact z4 (fun _=>rfl)));done)))|constructor)<;>((refine z30 ?_;rw [c0];exact z317 _))) ?_
 intro i hi
 by_cases hi2:i < rows.length
 ·have hiP:i < P.length:=by omega
  have hp:=hPi _ (y37 hiP)
  have gp:(P.map enI)[i]?=some (enI P[i]):=by rw [y44,y38 hiP];rfl
  have cS2:=cS i hiP
  generalize P[i]=p at *
  obtain ⟨v,rfl⟩:∃ v:Nat,p=v:=⟨p.toNat,by omega⟩
  rw [y69] at cS2
  have hv:v < rows.length:=by omega
  have gv:=z164 (cm i) hv
  have l1:=z107 rows.length (cm i)
  have e1:=z142 (N:=rows.length) (u:=v) (cm i) (cm i v+1)
  rw [← cS2] at e1
  have b1:=cB i v
  repeat' ((first|(apply y76 ok;rfl)|(refine z12 (i:=i) rfl gp ?_)|(refine z12 (i:=v) rfl gv ?_)|(apply y36;first|omega|(unfold inI;omega))|((apply z5)<;>intro _))<;>conv=>whnf)
  all_goals try (exfalso;omega)
  all_goals refine z25 (i+1) hi2 (by omega) (by refine swR [0,1] [] rfl rfl ?_;(repeat' first|exact y78 _|exact z9 _|refine z43 rfl (z4 (fun _=>rfl)) ?_|refine z10 rfl (z4 (fun _=>rfl)) ?_|constructor)<;>((refine z30 ?_;exact e1)))
 obtain rfl:i=rows.length:=by omega
 repeat' ((first|(apply y76 ok;rfl)|(apply y36;first|omega|(dsimp only;omega))|(((apply z8;omega));intro _)|((apply z5)<;>intro _))<;>conv=>whnf)
 all_goals try (exfalso;omega)
 obtain ⟨bm,hbm⟩:∃ bm:Nat→Nat→Bool,bm=fun i j=>if j < i then cycD rows j else false:=⟨_,rfl⟩
 have b0:bm 0=fun _=>false:=by rw [hbm];rfl
 have bE:fnB rows.length (bm rows.length)=fnB rows.length (cycD rows):=List.map_congr_left fun i hi=>by
  have:=List.mem_range.1 hi
  rw [hbm];dsimp only;rw [if_pos this]
 have bS:∀ i,bm (i+1)=upd (bm i) i (cycD rows i):=fun i=>by
  funext j
  by_cases h:j=i
  ·subst h;rw [z32,hbm];dsimp only;rw [if_pos (by omega)]
  ·rw [z45 _ _ h,hbm];dsimp only;split<;>split<;>first|rfl|omega
 clear hbm
 refine z65 (fun i:Nat=>([(0,lst 1 encL rows),(3,.sref 0 0 rows.length),(4,.sref 1 0 rows.length),(7,.sref 2 0 rows.length),(31,.int rows.length),(32,.int i)],[.cells 1 (P.map enI),.cells 1 ((fnL rows.length (cm rows.length)).map enI),.cells 1 ((fnB rows.length (bm i)).map enB)])) (fun i=>i≤rows.length) (fun i=>rows.length - i) 0 (y46 _) (by refine swR [0,1,2] [] rfl rfl ?_;(repeat' first|exact y78 _|exact z9 _|((refine z10 rfl ?_ ?_);(focus ((repeat' (first|exact z42 rfl|exact z4 (fun _=>rfl)));done)))|constructor)<;>((refine z30 ?_;rw [b0];exact z918 _))) ?_
 intro i hi
 by_cases hi2:i < rows.length
 ·have hiP:i < P.length:=by omega
  have hp:=hPi _ (y37 hiP)
  have gp:(P.map enI)[i]?=some (enI P[i]):=by rw [y44,y38 hiP];rfl
  have hc:=hcy i hi2
  have e1:=z919 (N:=rows.length) (u:=i) (bm i) (cycD rows i)
  rw [← bS] at e1
  rw [z14 hiP] at hc
  generalize P[i]=p at *
  obtain ⟨v,rfl⟩:∃ v:Nat,p=v:=⟨p.toNat,by omega⟩
  rw [y69] at hc
  have hv:v < rows.length:=by omega
  have gv:=z164 (cm rows.length) hv
  have l1:=z107 rows.length (cm rows.length)
  have l2:=z1116 rows.length (bm i)
  have g2:=z1117 (bm i) hi2
  have gr:=z504 hi2
  have hrow:(rows.getD i []).length≤1000000000:=by rw [z14 hi2];exact hrl _ (y37 _)
  have cct:=z126 (rows.getD i []) (by unfold maxLen;omega) i
  rw [cE] at gv
  generalize cycD rows i=cy at *
  generalize rows.getD i []=row at *
  generalize cntL P rows.length v=cn at *
  by_cases h1:1 < cn
  ·rw [y73 h1,Bool.true_or] at hc
   subst hc
   repeat' ((first|(apply y76 ok;rfl)|(refine z12 (i:=i) rfl gp ?_)|(refine z12 (i:=v) rfl gv ?_)|(refine z12 (i:=i) rfl g2 ?_)|(refine z12 (i:=i) rfl gr ?_)|(apply y36;first|omega|(unfold inI;omega))|((apply z5)<;>intro _)|(apply z6 (cct);rfl;rfl))<;>conv=>whnf)
   all_goals try (exfalso;omega)
   all_goals refine z25 (i+1) hi2 (by omega) (by refine swR [0,1,2] [] rfl rfl ?_;(repeat' first|exact y78 _|exact z9 _|refine z43 rfl (z4 (fun _=>rfl)) ?_|refine z10 rfl (z4 (fun _=>rfl)) ?_|constructor)<;>((refine z30 ?_;exact e1)))
  ·rw [y74 h1,Bool.false_or] at hc
   rw [← hc] at cct
   repeat' ((first|(apply y76 ok;rfl)|(refine z12 (i:=i) rfl gp ?_)|(refine z12 (i:=v) rfl gv ?_)|(refine z12 (i:=i) rfl g2 ?_)|(refine z12 (i:=i) rfl gr ?_)|(apply y36;first|omega|(unfold inI;omega))|((apply z5)<;>intro _)|(apply z6 (cct);rfl;rfl))<;>conv=>whnf)
   all_goals try (exfalso;omega)
   all_goals refine z25 (i+1) hi2 (by omega) (by refine swR [0,1,2] [] rfl rfl ?_;(repeat' first|exact y78 _|exact z9 _|refine z43 rfl (z4 (fun _=>rfl)) ?_|refine z10 rfl (z4 (fun _=>rfl)) ?_|constructor)<;>((refine z30 ?_;exact e1)))
 obtain rfl:i=rows.length:=by omega
 rw [bE]
 repeat' ((first|(apply y76 ok;rfl)|(apply y36;omega)|((first|(with_reducible apply z8;omega)|(apply z8;omega));intro _)|((apply z5)<;>intro _))<;>conv=>whnf)
 all_goals try (exfalso;omega)
 all_goals (refine rsD [2] [] rfl ?_;(repeat' first|exact y78 _|exact z9 _|refine z10 rfl (z4 (fun _=>rfl)) ?_|constructor))
def inM (Q:List Int) (i:Nat):Bool:=decide ((i:Int)∈Q)
theorem inM_upd (Q:List Int) (w:Nat):inM (Q++[(w:Int)])=upd (inM Q) w true:=by
 funext j
 by_cases h:j=w
 ·subst h;rw [z32];unfold inM;simp
 ·rw [z45 _ _ h];unfold inM;congr 1
  have:¬ (j:Int)=w:=by omega
  simp [this]
theorem inM_nil:inM []=fun _=>false:=by funext j;simp [inM]
@[reducible] def findF:AC:=.fn (.func 169) [] [.ptr 0 none 0,.ptr 2 none 0]
@[reducible] def z1071 (N:Nat) (Q:List Int):List AObj:=[.cells 1 [[.sref 1 0 N]],.cells 1 ((fnB N (inM Q)).map enB),.cells 1 [[.own 1 (Q.map enI)]]]
set_option maxHeartbeats 3200000 in
theorem z764 (N : Nat) (hN : N ≤ 100000) (Q : List Int) (hQ : Q.length ≤ 100000) (v : Int) (hv : 0 ≤ v ∧ v < N) :
    CallsA Tryz.prog 169 [.int v,.ptr 0 none 0,.ptr 2 none 0] (z1071 N Q) (.tup []) (z1071 N (z165 Q v)):=by
  obtain ⟨w,rfl⟩:∃ w:Nat,v=w:=⟨v.toNat,by omega⟩
  have hw:w < N:=by omega
  have g1:=z1117 (inM Q) hw
  have l1:=z1116 N (inM Q)
  unfold z165
  by_cases h:(w:Int)∈Q
  · rw [if_pos h]
    have e:inM Q w=true:=by unfold inM;simp [h]
    rw [e] at g1
    refine z7 z15 Tryz.func169 rfl rfl 16 Tryz.ntmps169 (by simp) ?_
    repeat' ((first|(apply y76 ok;rfl)|(refine z12 (i:=w) rfl g1 ?_)|(apply y36;omega))<;>conv=>whnf)
    all_goals (refine rsD [0,1,2] [] rfl ?_;(repeat' first|exact y78 _|exact z9 _|apply y79|refine z10 rfl (z4 (fun _=>rfl)) ?_|constructor))
  · rw [if_neg h]
    have e:inM Q w=false:=by unfold inM;simp [h]
    rw [e] at g1
    have e1:=z919 (N:=N) (u:=w) (inM Q) true
    rw [← inM_upd] at e1
    have e2:(List.map enI Q).take (List.map enI Q).length++[enI (w:Int)]=(Q++[(w:Int)]).map enI:=by
      rw [y49];simp
    refine z7 z15 Tryz.func169 rfl rfl 16 Tryz.ntmps169 (by simp) ?_
    repeat' ((first|((fail_if_success apply z104 2);(fail_if_success apply z88 2);apply y76 ok;rfl)|(refine z12 (i:=w) rfl g1 ?_)|(apply y36;omega))<;>conv=>whnf)
    all_goals
      refine y77 (Gl.Reach.expose 2 0 0 rfl rfl rfl (z214 (fun _=>rfl) _) rfl) ?_
      conv=>whnf
      repeat' ((first|(apply y76 ok;rfl)|(apply y36;first|((try dsimp only);simp only [y42,y41,y40,y39,y51,y52];omega)|exact ⟨rfl,z19 rfl z26⟩))<;>conv=>whnf)
      refine Gl.RetS.absorb 2 5 0 0 rfl rfl rfl rfl (by simp) rfl (z70 (fun e he=>(z4 (fun _=>rfl)) e (List.mem_of_mem_take he)) (z208 rfl z34)) ?_
      conv=>whnf
      (refine rsD [0,1,2] [] rfl ?_;(repeat' first|exact y78 _|apply y79|refine z43 rfl (z4 (fun _=>rfl)) ?_|constructor))
      all_goals first|(refine z30 ?_;exact e1)|exact y8 (congrArg (AC.own 1) e2)
set_option maxHeartbeats 6400000 in
theorem z733 (rows : List (List Int)) (ini : List Int) (hr : ∀ r ∈ rows, InN rows.length r) (hi : InN rows.length ini) (hN : rows.length ≤ 100000) (hrl : ∀ r ∈ rows, r.length ≤ 1000000000) (hil : ini.length ≤ 1000000000) :
    CallsA Tryz.prog 100 [lst 1 encL rows,ints ini] [] (.sref 0 0 (bfsL rows ini).length) [.cells 1 ((bfsL rows ini).map enI)]:=by
  have hvl:∀ l:List Int,InN rows.length l→(z82 [] l).length≤100000:=fun l hl=>by
    have:=z147 rows.length (z82 [] l) (z144 (by simp)) (z230 (fun x hx=>by cases hx) hl)
    omega
  refine z7 z15 Tryz.func100 rfl rfl 50 Tryz.ntmps100 (by simp) ?_
  repeat' ((first|(apply y76 ok;rfl)|(apply y36;(dsimp only;omega)))<;>conv=>whnf)
  refine z65 (fun i:Nat=>([(0,lst 1 encL rows),(6,.ptr 2 none 0),(7,findF),(17,ints ini),(18,.int ini.length),(19,.int i)],z1071 rows.length (z82 [] (ini.take i)))) (fun i=>i≤ini.length) (fun i=>ini.length - i) 0 (y46 _) (by refine swR [1,0,2] [] rfl rfl ?_;(repeat' first|exact y78 _|apply y79|refine z10 rfl (z42 rfl) ?_|constructor)<;>(first|exact z650|(refine z30 ?_;show _=(fnB rows.length (inM [])).map enB;rw [inM_nil];exact z918 _))) ?_
  intro i hil1
  by_cases hil2:i < ini.length
  · have gk:(ini.map enI)[i]?=some (enI ini[i]):=by rw [y44,y38 hil2];rfl
    have hv:=hi _ (y37 hil2)
    have hQl:=hvl (ini.take i) fun x hx=>hi x (List.mem_of_mem_take hx)
    have e1:=z250 (out:=[]) hil2
    generalize ini[i]=v at *
    have cf:=z764 rows.length hN (z82 [] (ini.take i)) hQl v hv
    rw [← e1] at cf
    repeat' ((first|(apply y76 ok;rfl)|(refine z12 (i:=i) rfl gk ?_)|(apply y36;first|omega|(unfold inI;omega))|((apply z5)<;>intro _)|(apply z159 [0,1,2] [] cf;rfl;(focus ((repeat' first|exact z59|apply z66)<;>first|rfl|(refine z80 rfl ?_;((exact z4 fun _=>rfl)))));rfl;(focus ((repeat' first|exact z17|apply z16)<;>first|exact z44 rfl rfl|(refine z23 ?_;((exact z4 fun _=>rfl)))))))<;>conv=>whnf)
    all_goals try (exfalso;omega)
    all_goals refine z25 (i+1) hil2 (by omega) (by refine swR [0,1,2] [] rfl rfl ?_;(repeat' first|exact y78 _|exact z9 _|apply y79|refine z10 rfl (z4 (fun _=>rfl)) ?_|constructor))
  obtain rfl:i=ini.length:=by omega
  rw [y49]
  repeat' ((first|(apply y76 ok;rfl)|(apply y36;omega)|(((with_reducible apply z8;omega));intro _)|((apply z5)<;>intro _))<;>conv=>whnf)
  all_goals try (exfalso;omega)
  refine z65 (fun i:Nat=>([(0,lst 1 encL rows),(6,.ptr 2 none 0),(7,findF),(10,.int i)],z1071 rows.length (bfs rows ini i))) (fun i=>i≤rows.length) (fun i=>rows.length - i) 0 (y46 _) (by refine swR [0,1,2] [] rfl rfl ?_;(repeat' first|exact y78 _|exact z9 _|apply y79|refine z10 rfl (z4 (fun _=>rfl)) ?_|constructor)) ?_
  intro i hi1
  have hQl:=z302 hr hi i
  have hQi:=z303 hr hi i
  refine y77 (Gl.Reach.expose 2 0 0 rfl rfl rfl (z214 (fun _=>rfl) _) rfl) ?_
  by_cases hi2:i < (bfs rows ini i).length
  · have hx:=hQi _ (y37 hi2)
    have gx:((bfs rows ini i).map enI)[i]?=some (enI (bfs rows ini i)[i]):=by rw [y44,y38 hi2];rfl
    have hnx:bfs rows ini (i+1)=z82 (bfs rows ini i) (rows.getD ((bfs rows ini i)[i]).toNat []):=by rw [bfs,dif_pos hi2]
    have hnd:=z549 (rows:=rows) (ini:=ini) i
    generalize hQ' : bfs rows ini (i+1)=Q' at *
    generalize (bfs rows ini i)[i]=x at *
    generalize hQ:bfs rows ini i=Q at *
    obtain ⟨u,rfl⟩:∃ u:Nat,x=u:=⟨x.toNat,by omega⟩
    rw [y69] at hnx
    have hu:u < rows.length:=by omega
    have gr:=z504 hu
    have hrow:=z182 hr (u:Int)
    rw [y69] at hrow
    have hrowl:(rows.getD u []).length≤1000000000:=by rw [z14 hu];exact hrl _ (y37 _)
    generalize rows.getD u []=row at *
    repeat' ((first|(apply y76 ok;rfl)|(refine z12 (i:=i) rfl gx ?_)|(refine z12 (i:=u) rfl gr ?_)|(apply y36;omega)|((apply z5)<;>intro _))<;>conv=>whnf)
    all_goals first|(exfalso;simp at *;omega)|skip
    all_goals
      refine y77 (Gl.Reach.absorb 2 3 0 0 rfl rfl rfl rfl (by simp) rfl (z4 fun _=>rfl) rfl) ?_
      refine z65 (fun j:Nat=>([(0,lst 1 encL rows),(6,.ptr 2 none 0),(7,findF),(10,.int i),(39,ints row),(40,.int row.length),(41,.int j)],z1071 rows.length (z82 Q (row.take j)))) (fun j=>j≤row.length) (fun j=>row.length - j) 0 (y46 _) (by refine swR [0,1,2] [] rfl rfl ?_;(repeat' first|exact y78 _|exact z9 _|apply y79|refine z10 rfl (z4 (fun _=>rfl)) ?_|constructor)) ?_
      intro j hj
      by_cases hj2:j < row.length
      · have gj:(row.map enI)[j]?=some (enI row[j]):=by rw [y44,y38 hj2];rfl
        have hv:=hrow _ (y37 hj2)
        have hWl:(z82 Q (row.take j)).length≤100000:=by
          have:=z147 rows.length (z82 Q (row.take j)) (z144 hnd) (z230 hQi fun x hx=>hrow x (List.mem_of_mem_take hx))
          omega
        have e1:=z250 (out:=Q) hj2
        generalize row[j]=v at *
        have cf:=z764 rows.length hN (z82 Q (row.take j)) hWl v hv
        rw [← e1] at cf
        repeat' ((first|(apply y76 ok;rfl)|(refine z12 (i:=j) rfl gj ?_)|(apply y36;first|omega|(unfold inI;omega))|((apply z5)<;>intro _)|(apply z159 [0,1,2] [] cf;rfl;(focus ((repeat' first|exact z59|apply z66)<;>first|rfl|(refine z80 rfl ?_;((exact z4 fun _=>rfl)))));rfl;(focus ((repeat' first|exact z17|apply z16)<;>first|exact z44 rfl rfl|(refine z23 ?_;((exact z4 fun _=>rfl)))))))<;>conv=>whnf)
        all_goals try (exfalso;omega)
        all_goals refine z25 (j+1) hj2 (by omega) (by refine swR [0,1,2] [] rfl rfl ?_;(repeat' first|exact y78 _|exact z9 _|apply y79|refine z10 rfl (z4 (fun _=>rfl)) ?_|constructor))
      obtain rfl:j=row.length:=by omega
      rw [y49,← hnx]
      repeat' ((first|(apply y76 ok;rfl)|(apply y36;first|omega|(unfold inI;omega))|(((with_reducible apply z8;omega));intro _)|((apply z5)<;>intro _))<;>conv=>whnf)
      all_goals try (exfalso;omega)
      all_goals refine z25 (i+1) (by omega) (by omega) ?_
      all_goals dsimp only
      all_goals rw [hQ']
      all_goals exact (by refine swR [0,1,2] [] rfl rfl ?_;(repeat' first|exact y78 _|exact z9 _|apply y79|refine z10 rfl (z4 (fun _=>rfl)) ?_|constructor))
  · have hE:=z932 hr hi (i:=i) (by omega) hi1
    rw [← hE]
    repeat' ((first|(apply y76 ok;rfl)|(apply y36;omega)|((apply z5)<;>intro _))<;>conv=>whnf)
    all_goals first|(exfalso;simp at *;omega)|skip
    all_goals (refine rsD [3] [] rfl ?_;(repeat' first|exact z9 _|(refine z38 ?_;((simp;done)))|refine z10 rfl (z4 (fun _=>rfl)) ?_|constructor))
theorem swp_map (l:List Int) (i j:Nat):((l.map enI).set i (enI (l.getD j 0))).set j (enI (l.getD i 0))=(swp l i j).map enI:=by
 unfold swp;rw [List.map_set,List.map_set]
set_option maxHeartbeats 1600000 in
theorem z585 (l:List Int) (h1:1≤l.length) (h2:l.length≤1048576):CallsA Tryz.prog 207 [.sref 0 0 l.length] [.cells 1 (l.map enI)] (.tup []) [.cells 1 ((rvs l).map enI)]:=by
 have hR:revG l.length 0 (l.length - 1) l=rvs l:=rfl
 generalize rvs l=R at *
 generalize hn:l.length=n at *
 refine z7 z15 Tryz.func207 rfl rfl 28 Tryz.ntmps207 (by simp) ?_
 repeat' ((first|(apply y76 ok;rfl)|(apply y36;(unfold inI;omega)))<;>conv=>whnf)
 refine z65 (fun x:Nat×Nat×List Int=>([(0,.sref 0 0 n),(2,.int x.1),(3,.int x.2.1)],[.cells 1 (x.2.2.map enI)])) (fun x=>x.1≤n∧x.2.1 < n∧x.2.2.length=n∧revG (n - x.1) x.1 x.2.1 x.2.2=R) (fun x=>n - x.1) (0,n - 1,l) ⟨by simp,by show n - 1 < n;omega,hn,hR⟩ (by refine swR [0] [] rfl rfl ?_;(repeat' first|exact y78 _|exact z9 _|refine z10 rfl (z4 (fun _=>rfl)) ?_|constructor)<;>((rw [show ((n - 1:Nat):Int)=(n:Int) - 1 by omega];exact y78 _))) ?_
 rintro ⟨i,j,l'⟩ ⟨i1,i2,i3,i4⟩
 dsimp only at i1 i2 i3 i4 ⊢
 by_cases hij:i < j
 ·rw [show n - i=(n - (i+1))+1 by omega,revG,if_pos hij] at i4
  have gi:(l'.map enI)[i]?=some (enI (l'.getD i 0)):=by rw [y44,y38 (by omega),z14 (by omega)];rfl
  have gj:(l'.map enI)[j]?=some (enI (l'.getD j 0)):=by rw [y44,y38 (by omega),z14 (by omega)];rfl
  have gj2:((l'.map enI).set i (enI (l'.getD j 0)))[j]?=some (enI (l'.getD j 0)):=by rw [List.getElem?_set_ne (by omega)];exact gj
  have es:=swp_map l' i j
  repeat' ((first|(apply y76 ok;rfl)|(apply z21;kernel_rfl)|(refine z12 (i:=i) rfl gi ?_)|(refine z12 (i:=j) rfl gj ?_)|(refine z12 (i:=j) rfl gj2 ?_)|(apply y36;first|omega|(unfold inI;omega))|((apply z5)<;>intro _))<;>conv=>whnf)
  all_goals try (exfalso;omega)
  all_goals refine z25 (i+1,j - 1,swp l' i j) ⟨by show i+1≤n;omega,by show j - 1 < n;omega,by show (swp l' i j).length=n;simp [swp,i3],i4⟩ (by show n - (i+1) < n - i;omega) (by refine swR [0] [] rfl rfl ?_;(repeat' first|exact y78 _|((refine z43 rfl ?_ ?_);(focus ((repeat' (first|exact z4 (fun _=>rfl)|(refine z1119 ?_ _ rfl)));done)))|constructor)<;>(first|(rw [show ((j - 1:Nat):Int)=(j:Int) - 1 by omega];exact y78 _)|exact z30 es))
 ·have:revG (n - i) i j l'=l':=by cases n - i<;>simp [revG,hij]
  rw [this] at i4
  subst i4
  repeat' ((first|(apply y76 ok;rfl)|(apply y36;omega)|(((apply z8;omega));intro _)|((apply z5)<;>intro _))<;>conv=>whnf)
  all_goals try (exfalso;omega)
  all_goals (refine rsD [0] [] rfl ?_;(repeat' first|exact y78 _|exact z9 _|refine z10 rfl (z4 (fun _=>rfl)) ?_|constructor))
end Go.Proofs.YtahhobgjcfionaaGreat
