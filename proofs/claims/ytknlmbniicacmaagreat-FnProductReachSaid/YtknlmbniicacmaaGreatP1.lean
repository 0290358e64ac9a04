/- A part of the proofs over this program: T21, T22, T23, T23R, T23S, T33I, T37C, T180, T181, T182, T183, T113. -/
import Derived.Test.YtknlmbniicacmaaGreatG0
import Derived.Test.YtknlmbniicacmaaGreatG1
import Derived.Test.YtknlmbniicacmaaGreatG2
import Derived.Test.YtknlmbniicacmaaGreatG3
import Derived.Test.YtknlmbniicacmaaGreatP0
set_option linter.all false
namespace Go.Proofs.YtknlmbniicacmaaGreat
open Go.Gl
attribute [local irreducible] z31 AWP z48 z52 z50
theorem z699 (l:List Int) (hl:l.length≤maxLen):CallsA Tryz.prog 216 [ints l] [] (.bool (z371 l)) []:=by
  unfold maxLen at hl
  have e:z371 l=(l.all (fun n=>btw n 0 3) && decide ((l.length:Int)=3)):=by
    unfold z371;rw [Bool.and_comm,List.all_eq_not_any_not]
  rw [e]
  refine z17 z18 Tryz.func216 rfl rfl 25 Tryz.ntmps216 (by simp) ?_
  repeat' (((apply AWP.go ok;rfl))<;>conv=>whnf)
  refine z90 (fun k:Nat=>([(0,ints l),(3,.int k)],[])) (fun k=>k≤l.length∧l.all (fun n=>btw n 0 3)=(l.drop k).all (fun n=>btw n 0 3)) (fun k=>l.length - k) 0 ⟨by omega,rfl⟩ ⟨[],rfl,by decide,rfl,by repeat' (first|exact True.intro|exact ⟨rfl,rfl⟩|apply And.intro),by repeat' (exact True.intro)⟩ ?_
  intro k hk
  repeat' ((first|(apply AWP.go ok;rfl)|(apply And.intro;first|omega|(unfold inI;omega))|(((with_reducible apply z11;omega));intro _)|((apply z7)<;>intro _))<;>conv=>whnf)
  · refine z27 rfl ?_
    have:btw l[k] 0 3=false:=z362.2 (by omega)
    rw [hk.2,z142 _ _ _ (by assumption),this];rfl
  · refine z27 rfl ?_
    have:btw l[k] 0 3=false:=z362.2 (by omega)
    rw [hk.2,z142 _ _ _ (by assumption),this];rfl
  · have:btw l[k] 0 3=true:=z144.2 (by omega)
    exact z78 (k+1) [] ⟨by omega,by rw [hk.2,z142 _ _ _ (by assumption),this];rfl⟩ (by omega) ⟨rfl,by decide,rfl,by repeat' (first|exact True.intro|exact ⟨rfl,rfl⟩|apply And.intro),by repeat' (exact True.intro)⟩
  · exact z27 rfl (by rw [hk.2,z137 _ _ _ (by omega),Bool.true_and])
theorem z611 (l:List Int) (hl:l.length≤maxLen) (v:Int):CallsA Tryz.prog 176 [ints l,.int v] [] (.bool (decide (v∈l))) []:=by
  unfold maxLen at hl
  have e:decide (v∈l)=l.any (fun x=>decide (x=v)):=by
    rw [Bool.eq_iff_iff];simp
  rw [e]
  refine z17 z18 Tryz.func176 rfl rfl 18 Tryz.ntmps176 (by simp) ?_
  repeat' (((apply AWP.go ok;rfl))<;>conv=>whnf)
  refine z90 (fun k:Nat=>([(0,ints l),(1,.int v),(5,.int k)],[])) (fun k=>k≤l.length∧l.any (fun x=>decide (x=v))=(l.drop k).any (fun x=>decide (x=v))) (fun k=>l.length - k) 0 ⟨by omega,rfl⟩ ⟨[],rfl,by decide,rfl,by repeat' (first|exact True.intro|exact ⟨rfl,rfl⟩|apply And.intro),by repeat' (exact True.intro)⟩ ?_
  intro k hk
  repeat' ((first|(apply AWP.go ok;rfl)|(apply And.intro;first|omega|(unfold inI;omega))|(((with_reducible apply z11;omega));intro _)|((apply z7)<;>intro _))<;>conv=>whnf)
  · rename_i h
    exact z27 rfl (by rw [hk.2,z858 _ _ _ (by assumption),decide_eq_true h];rfl)
  · rename_i h
    exact z78 (k+1) [] ⟨by omega,by rw [hk.2,z858 _ _ _ (by assumption),decide_eq_false h];rfl⟩ (by omega) ⟨rfl,by decide,rfl,by repeat' (first|exact True.intro|exact ⟨rfl,rfl⟩|apply And.intro),by repeat' (exact True.intro)⟩
  · exact z27 rfl (by rw [hk.2,z713 _ _ _ (by omega)])
theorem Distinct.le {l:List Int} {n:Int} (h:Distinct l n l.length) (h0:0≤n):(l.length:Int)≤n:=by
  have hnd:(l.map Int.toNat).Nodup:=by
    rw [List.nodup_iff_pairwise_ne,List.pairwise_map,List.pairwise_iff_getElem]
    intro i j hi hj hij he
    have h1:=h i hi hi
    have h2:=h j hj hj
    refine h2.2 ?_
    have:l[j]=l[i]:=by omega
    rw [this,List.mem_take_iff_getElem]
    exact ⟨i,by omega,rfl⟩
  have hsub:(l.map Int.toNat) ⊆ List.range n.toNat:=by
    intro x hx
    obtain ⟨y,hy,rfl⟩:=List.mem_map.1 hx
    obtain ⟨i,hi,rfl⟩:=List.mem_iff_getElem.1 hy
    have:=(h i hi hi).1
    rw [List.mem_range];omega
  have:=hnd.length_le_of_subset hsub
  simp at this
  omega
def RowOk (g:Graph) (i:Nat):Prop:=∀ (h:i < g.nx.length) (h' : i < g.st.length),1≤g.nx[i].length∧g.nx[i].length≤g.st.length∧z371 g.st[i].b=true∧Distinct g.nx[i] g.st.length g.nx[i].length
def GB (g:Graph):Prop:=(1≤g.st.length∧g.st.length≤60)∧g.nx.length=g.st.length∧∀ i,i < g.nx.length→RowOk g i
theorem z657 {n:Int} {l:List Int} : z750 n l=true↔1≤l.length∧Distinct l n l.length:=by
  unfold z750
  rw [Bool.and_eq_true,decide_eq_true_eq,Bool.not_eq_true',decide_eq_false_iff_not]
  exact and_congr (by omega) Iff.rfl
theorem z91 (g:Graph):z411 g=true↔GB g:=by
  unfold z411 GB
  simp only [Bool.and_eq_true,z144,decide_eq_true_eq,Bool.not_eq_true',List.any_eq_false]
  constructor
  · rintro ⟨h1,h2,h3,h4⟩
    refine ⟨by omega,by omega,fun i hi h h'=>?_⟩
    have h5:=z657.1 (by simpa using h4 _ (List.getElem_mem h))
    have h6:=h5.2.le (by omega)
    exact ⟨h5.1,by omega,by simpa using h3 _ (List.getElem_mem h'),h5.2⟩
  · rintro ⟨h1,h2,h3⟩
    refine ⟨by omega,by omega,fun s hs=>?_,fun l hl=>?_⟩
    · obtain ⟨i,hi,rfl⟩:=List.mem_iff_getElem.1 hs
      simpa using (h3 i (by omega) (by omega) hi).2.2.1
    · obtain ⟨i,hi,rfl⟩:=List.mem_iff_getElem.1 hl
      have:=h3 i hi hi (by omega)
      simpa using z657.2 ⟨this.1,this.2.2.2⟩
set_option maxHeartbeats 800000 in
theorem z375 (g:Graph) (hg:g.mx):CallsA Tryz.prog 162 [.agg g.cs] [] (.bool (z411 g)) []:=by
  obtain ⟨hs,hn,hm⟩:=hg
  have hl1:=hs.1
  unfold maxLen at hl1 hn
  have hiff:=z91 g
  refine z17 z18 Tryz.func162 rfl rfl 111 Tryz.ntmps162 (by simp) ?_
  repeat' ((first|(apply AWP.go ok;rfl)|((first|apply z7|apply z38)<;>intro _))<;>conv=>whnf)
  · exact z27 rfl (by rw [← Bool.not_eq_true,hiff];rintro ⟨h1,h2,_⟩;omega)
  · exact z27 rfl (by rw [← Bool.not_eq_true,hiff];rintro ⟨h1,h2,_⟩;omega)
  · exact z27 rfl (by rw [← Bool.not_eq_true,hiff];rintro ⟨h1,h2,_⟩;omega)
  rename_i b1 b2 b3
  have hne:g.nx.length=g.st.length:=by omega
  refine z90 (fun k:Nat=>([(1,.ptr 0 none 0),(3,.int k)],[.cells 2 [[lst 2 State.cs g.st,lst 1 encL g.nx]]])) (fun k=>k≤g.nx.length∧∀ i,i < k→RowOk g i) (fun k=>g.nx.length - k) 0 ⟨by omega,fun i h=>by omega⟩ ⟨[0],rfl,by decide,rfl,by repeat' (first|exact True.intro|exact ⟨rfl,rfl⟩|apply And.intro),by repeat' (first|exact True.intro|exact z24 rfl rfl|apply And.intro)⟩ ?_
  intro k hk
  have bad:k < g.nx.length→¬ RowOk g k→z411 g=false:=fun h1 h2=>by
    rw [← Bool.not_eq_true,hiff];rintro ⟨_,_,h3⟩;exact h2 (h3 k h1)
  repeat' ((first|(apply AWP.go ok;rfl)|(apply z34;kernel_rfl)|(apply And.intro;omega)|(((with_reducible apply z11;omega));intro _)|((first|apply z7|apply z82)<;>intro _)|(apply z9 (z699 _ (hs.2 _ (List.getElem_mem _)).2);rfl;rfl))<;>conv=>whnf)
  · refine z27 rfl (bad (by assumption) fun h=>?_)
    have:=h (by assumption) (by omega);omega
  · refine z27 rfl (bad (by assumption) fun h=>?_)
    have:=h (by assumption) (by omega);omega
  · rename_i hv
    refine z27 rfl (bad (by assumption) fun h=>?_)
    have:=h (by assumption) (by omega)
    rw [hv] at this;simp at this
  · rename_i hv
    have hkn:k < g.nx.length:=by assumption
    have hks:k < g.st.length:=by omega
    refine z90 (fun j:Nat=>([(1,.ptr 0 none 0),(3,.int k),(4,.int j)],[.cells 2 [[lst 2 State.cs g.st,lst 1 encL g.nx]]])) (fun j=>j≤g.nx[k].length∧Distinct g.nx[k] g.st.length j) (fun j=>g.nx[k].length - j) 0 ⟨by omega,fun i h hi=>by omega⟩ ⟨[0],rfl,by decide,rfl,by repeat' (first|exact True.intro|exact ⟨rfl,rfl⟩|apply And.intro),by repeat' (first|exact True.intro|exact z24 rfl rfl|apply And.intro)⟩ ?_
    intro j hj
    repeat' ((first|(apply AWP.go ok;rfl)|(apply z34;kernel_rfl)|(apply And.intro;first|omega|(unfold inI;omega))|(((with_reducible apply z11;omega));intro _)|((apply z7)<;>intro _))<;>conv=>whnf)
    · refine z27 rfl (bad hkn fun h=>?_)
      have:=((h hkn hks).2.2.2 j (by assumption) (by assumption)).1;omega
    · refine z27 rfl (bad hkn fun h=>?_)
      have:=((h hkn hks).2.2.2 j (by assumption) (by assumption)).1;omega
    · apply z9 (z611 (g.nx[k].take j) (by rw [List.length_take];unfold maxLen;omega) g.nx[k][j])
      · show _=[AC.list 1 _ _,_]
        rw [show AC.list 1 (g.nx[k].take j).length ((g.nx[k].take j).map enI)=_ from (z280 1 enI g.nx[k] j hj.1).symm]
        rfl
      · rfl
      conv=>whnf
      repeat' ((first|(apply AWP.go ok;rfl)|(apply z34;kernel_rfl)|(apply And.intro;(unfold inI;omega))|((apply z7)<;>intro _))<;>conv=>whnf)
      · rename_i h2
        exact z27 rfl (bad hkn fun h=>((h hkn hks).2.2.2 j (by assumption) (by assumption)).2 h2)
      · rename_i h2
        refine z78 (j+1) [0] ⟨by omega,fun i hi hik=>?_⟩ (by omega) ⟨rfl,by decide,rfl,by repeat' (first|exact True.intro|exact ⟨rfl,rfl⟩|apply And.intro),by repeat' (first|exact True.intro|exact z24 rfl rfl|apply And.intro)⟩
        rcases Nat.lt_or_ge i j with h3|h3
        · exact hj.2 i hi h3
        · obtain rfl:i=j:=by omega
          exact ⟨by omega,h2⟩
    · refine z78 (k+1) [0] ⟨by omega,fun i hi=>?_⟩ (by omega) ⟨rfl,by decide,rfl,by repeat' (first|exact True.intro|exact ⟨rfl,rfl⟩|apply And.intro),by repeat' (first|exact True.intro|exact z24 rfl rfl|apply And.intro)⟩
      rcases Nat.lt_or_ge i k with h3|h3
      · exact hk.2 i h3
      · obtain rfl:i=k:=by omega
        intro _ _
        obtain rfl:j=g.nx[i].length:=by omega
        exact ⟨by omega,by omega,hv,hj.2⟩
  · exact z27 rfl (by rw [hiff];exact ⟨by omega,hne,fun i hi=>hk.2 i (by omega)⟩)
end Go.Proofs.YtknlmbniicacmaaGreat

namespace Go.Proofs.YtknlmbniicacmaaGreat
open Go.Gl
attribute [local irreducible] z31 AWP z48 z52 z50
def Trans.mx (t:Trans):Prop:=inI t.val
def z420 (n:Int) (t:Trans):Prop:=(0≤t.src∧t.src≤n - 1)∧(0≤t.dst∧t.dst≤n - 1)∧(0≤t.care∧t.care≤7)∧0≤t.val∧t.val.toNat &&& t.care.toNat=t.val.toNat
instance {n:Int} {t:Trans} : Decidable (z420 n t):=by unfold z420;infer_instance
def z922 (n:Int) (t:Trans):Bool:=decide (z420 n t)
theorem z270 {n:Int} {t:Trans} : z922 n t=true↔z420 n t:=by unfold z922;exact decide_eq_true_iff
theorem edgeB_no {n:Int} {t:Trans} : z922 n t=false↔¬ z420 n t:=by rw [← z270,Bool.not_eq_true]
def IniP (l:List Int) (n:Int) (k:Nat):Prop:=∀ i (h:i < l.length),i < k→(0≤l[i]∧l[i]≤n - 1)∧∀ j (hj:j+1=i),l[j]'(by omega) < l[i]
def AutP (a:Aut):Prop:=(1≤a.acc.length∧a.acc.length≤64)∧a.ed.length≤2048∧IniP a.ini a.acc.length a.ini.length∧∀ e∈a.ed,z420 a.acc.length e
noncomputable instance {a:Aut} : Decidable (AutP a):=Classical.propDecidable _
noncomputable def autB (a:Aut):Bool:=decide (AutP a)
theorem z108 {a:Aut} : autB a=true↔AutP a:=by unfold autB;exact decide_eq_true_iff
theorem z186 {a:Aut} : autB a=false↔¬ AutP a:=by rw [← z108,Bool.not_eq_true]
theorem IniP.ge {l:List Int} {n:Int} (h:IniP l n l.length):∀ i (hi:i < l.length),(i:Int)≤l[i]:=by
  intro i
  induction i with
  | zero=>intro hi;exact (h 0 hi hi).1.1
  | succ i ih =>
    intro hi
    have h1:=ih (by omega)
    have h2:=(h (i+1) hi hi).2 i rfl
    omega
theorem IniP.le {l:List Int} {n:Int} (h:IniP l n l.length) (h0:0≤n):(l.length:Int)≤n:=by
  rcases Nat.eq_zero_or_pos l.length with e|e
  · omega
  · have h1:=h.ge (l.length - 1) (by omega)
    have h2:=(h (l.length - 1) (by omega) (by omega)).1.2
    omega
theorem z940 {v c:Int} (h0:0≤v) (h1:v≤9223372036854775807) (h2:0≤c) (h3:c≤7):(((BitVec.ofNat 64 v.toNat &&& ~~~BitVec.ofNat 64 c.toNat).toNat:Nat):Int)=0↔v.toNat &&& c.toNat=v.toNat:=by
  obtain ⟨v,rfl⟩:=Int.eq_ofNat_of_zero_le h0
  obtain ⟨c,rfl⟩:=Int.eq_ofNat_of_zero_le h2
  simp only [Int.toNat_natCast]
  have hv:v < 2 ^ 64:=by omega
  have hc:c < 2 ^ 64:=by omega
  have e:∀ x y:BitVec 64,(x &&& ~~~y)=0#64↔x &&& y=x:=by
    intro x y
    constructor
    · intro h
      apply BitVec.eq_of_getElem_eq
      intro i hi
      have:=congrArg (fun z=>z[i]) h
      simp at this ⊢
      cases hx:x[i]<;>simp_all
    · intro h
      apply BitVec.eq_of_getElem_eq
      intro i hi
      have:=congrArg (fun z=>z[i]) h
      simp at this ⊢
      cases hx:x[i]<;>simp_all
  have e2:=e (BitVec.ofNat 64 v) (BitVec.ofNat 64 c)
  constructor
  · intro h
    have h4:(BitVec.ofNat 64 v &&& ~~~BitVec.ofNat 64 c)=0#64:=BitVec.eq_of_toNat_eq (by simpa using h)
    have h5:=congrArg BitVec.toNat (e2.1 h4)
    simpa [BitVec.toNat_and,Nat.mod_eq_of_lt hv,Nat.mod_eq_of_lt hc] using h5
  · intro h
    have h4:BitVec.ofNat 64 v &&& BitVec.ofNat 64 c=BitVec.ofNat 64 v:=BitVec.eq_of_toNat_eq (by
      simpa [BitVec.toNat_and,Nat.mod_eq_of_lt hv,Nat.mod_eq_of_lt hc] using h)
    have h5:=congrArg BitVec.toNat (e2.2 h4)
    simpa using h5
theorem z936 (n:Int) (h0:0≤n) (h1:n≤maxLen) (t:Trans) (ht:t.mx):CallsA Tryz.prog 209 [z51 Trans.cs t,.pt [.int n]] [] (.bool (!z922 n t)) []:=by
  unfold Trans.mx inI at ht
  unfold maxLen at h1
  refine z17 z18 Tryz.func209 rfl rfl 37 Tryz.ntmps209 (by simp) ?_
  repeat' (first|(apply AWP.go ok;rfl;conv=>whnf)|(apply And.intro;(first|(unfold inI;omega)|(simp only [z144] at *;(unfold z148;omega)));conv=>whnf)|(apply z7<;>intro _<;>conv=>whnf)|(apply z82<;>intro _<;>conv=>whnf)|(apply z9 (z389 _ 0 (n - 1));rfl;rfl;conv=>whnf)|(apply z9 (z389 _ 0 7);rfl;rfl;conv=>whnf))
  all_goals (refine z27 rfl ?_;rw [Bool.eq_iff_iff];simp only [z144,z362,z270,edgeB_no,Bool.not_eq_true',decide_eq_false_iff_not,decide_eq_true_eq,Bool.false_eq_true,iff_false,iff_true] at *;unfold z420)
  all_goals try omega
  all_goals (rw [z940 (by omega) (by omega) (by omega) (by omega)];omega)
theorem z1023 (n:Int) (t:Trans) (ht:t.mx):CallsA Tryz.prog 165 [z51 Trans.cs t,.int n] [] (.bool (z922 n t)) []:=by
  unfold Trans.mx inI at ht
  refine z17 z18 Tryz.func165 rfl rfl 50 Tryz.ntmps165 (by simp) ?_
  repeat' (first|(apply AWP.go ok;rfl;conv=>whnf)|(apply And.intro;((unfold z148;omega));conv=>whnf)|(apply z7<;>intro _<;>conv=>whnf))
  all_goals (refine z27 rfl ?_;rw [Bool.eq_iff_iff];simp only [z270,decide_eq_true_eq,Bool.false_eq_true,iff_false] at *;unfold z420)
  all_goals omega
theorem takes_ok (t:Trans) (n:Int) (h0:0≤n) (h1:n≤7) (ht:0≤t.care∧t.care≤7):CallsA Tryz.prog 160 [z51 Trans.cs t,.int n] [] (.bool (decide (((n.toNat &&& t.care.toNat:Nat):Int)=t.val))) []:=by
  refine z17 z18 Tryz.func160 rfl rfl 12 Tryz.ntmps160 (by simp) ?_
  repeat' (first|(apply AWP.go ok;rfl;conv=>whnf)|(apply And.intro;((unfold z148;omega));conv=>whnf))
  exact z27 rfl rfl
theorem l7On_ok (t:Trans) (n:Int) (h0:0≤n) (h1:n≤7) (ht:0≤t.care∧t.care≤7):CallsA Tryz.prog 166 [z51 Trans.cs t,.int n] [] (.bool (decide (((n.toNat &&& t.care.toNat:Nat):Int)=t.val))) []:=by
  refine z17 z18 Tryz.func166 rfl rfl 12 Tryz.ntmps166 (by simp) ?_
  repeat' (first|(apply AWP.go ok;rfl;conv=>whnf)|(apply And.intro;((unfold z148;omega));conv=>whnf))
  exact z27 rfl rfl
def Aut.mx (a:Aut):Prop:=a.ini.length≤maxLen∧a.acc.length≤maxLen∧a.ed.length≤maxLen∧∀ t∈a.ed,t.mx
theorem z419 (c:Int) (l:List Trans) (hl:l.length≤maxLen) (p:Trans→Bool) (f:FuncId) (hf:∀ x∈l,CallsA Tryz.prog f [z51 Trans.cs x,.pt [.int c]] [] (.bool (p x)) []):CallsA Tryz.prog 262 [lst 4 Trans.cs l,.fn (.func f) [] [.pt [.int c]]] [] (.int (idxF p l)) []:=by
  unfold maxLen at hl
  refine z17 z18 Tryz.func262 rfl rfl 19 Tryz.ntmps262 (by simp) ?_
  repeat' ((apply AWP.go ok;rfl;conv=>whnf))
  refine z90 (fun k:Nat=>([(0,lst 4 Trans.cs l),(1,.fn (.func f) [] [.pt [.int c]]),(7,.int l.length),(8,.int k)],[])) (fun k=>k≤l.length∧∀ j (hj:j < l.length),j < k→p l[j]=false) (fun k=>l.length - k) 0 (by simp)
    ⟨[],rfl,by decide,rfl,⟨⟨rfl,rfl⟩,⟨rfl,rfl⟩,⟨rfl,rfl⟩,⟨rfl,rfl⟩,trivial⟩,trivial⟩ ?_
  intro k hk
  repeat' (first|(apply AWP.go ok;rfl;conv=>whnf)|(apply And.intro;(first|omega|(unfold inI;omega));conv=>whnf)|(with_reducible apply z11;omega;intro _;conv=>whnf)|(apply z7<;>intro _<;>conv=>whnf)|(apply z92<;>intro _<;>conv=>whnf)|(apply z9 (hf l[k] (List.getElem_mem _));rfl;rfl;conv=>whnf))
  · rename_i h h1
    exact z54 rfl rfl (by rw [z182 (by omega) h1 hk.2];rfl)
  · rename_i h h1
    refine z78 (k+1) [] ⟨by omega,fun j hj hjk=>?_⟩ (by omega) ⟨rfl,by decide,rfl,⟨⟨rfl,rfl⟩,⟨rfl,rfl⟩,⟨rfl,rfl⟩,⟨rfl,rfl⟩,trivial⟩,trivial⟩
    rcases Nat.lt_or_ge j k with h2|h2
    · exact hk.2 j hj h2
    · obtain rfl:j=k:=by omega
      exact h1
  · exact z54 rfl rfl (by rw [z183 fun j hj=>hk.2 j hj (by omega)];rfl)
theorem z324 (c:Int) (l:List Trans) (hl:l.length≤maxLen) (p:Trans→Bool) (f:FuncId) (hf:∀ x∈l,CallsA Tryz.prog f [z51 Trans.cs x,.pt [.int c]] [] (.bool (p x)) []):CallsA Tryz.prog 208 [lst 4 Trans.cs l,.fn (.func f) [] [.pt [.int c]]] [] (.bool (l.any p)) []:=by
  refine z17 z18 Tryz.func208 rfl rfl 9 Tryz.ntmps208 (by simp) ?_
  repeat' (first|(apply AWP.go ok;rfl;conv=>whnf)|(apply z9 (z419 c l hl p f hf);rfl;rfl;conv=>whnf))
  exact z27 rfl (by rw [← z234])
theorem IniP.step {l:List Int} {n:Int} {k:Nat} (h:IniP l n k) (hk:k < l.length) (h1:0≤l[k]∧l[k]≤n - 1) (h2:∀ j (hj:j+1=k),l[j]'(by omega) < l[k]):IniP l n (k+1):=by
  intro i hi hik
  rcases Nat.lt_or_ge i k with h3|h3
  · exact h i hi h3
  · obtain rfl:i=k:=by omega
    exact ⟨h1,h2⟩
def z351 (l:List Int) (k:Nat):Int:=if h:0 < k∧k≤l.length then l[k - 1]'(by omega) else -1
theorem z397 (a:Aut) (ha:a.mx):CallsA Tryz.prog 150 [.agg a.cs] [] (.bool (autB a)) []:=by
  obtain ⟨hi,hc,he,hm⟩:=ha
  have hk:=z324 (a.acc.length:Int) a.ed he (fun t=>!z922 a.acc.length t) 209 (fun t ht=>z936 _ (by omega) (by omega) t (hm t ht))
  unfold maxLen at hi hc he
  refine z17 z18 Tryz.func150 rfl rfl 41 Tryz.ntmps150 (by simp) ?_
  repeat' ((apply AWP.go ok;rfl;conv=>whnf))
  refine z90 (fun k:Nat=>([(1,.ptr 0 none 0),(3,.ptr 1 none 0),(4,.int (z351 a.ini k)),(11,lst 1 enI a.ini),(12,.int a.ini.length),(13,.int k)],[.cells 3 [[lst 1 enI a.ini,lst 1 enB a.acc,lst 4 Trans.cs a.ed]],.cells 1 [[.int a.acc.length]]])) (fun k=>k≤a.ini.length∧IniP a.ini a.acc.length k) (fun k=>a.ini.length - k) 0 ⟨by omega,fun i h hi=>by omega⟩ ⟨[0,1],rfl,by decide,rfl,by repeat' (first|exact True.intro|exact ⟨rfl,rfl⟩|apply And.intro),by repeat' (first|exact True.intro|exact z24 rfl rfl|apply And.intro)⟩ ?_
  rintro k ⟨hk1,hk2⟩
  have hlast : -1≤z351 a.ini k∧z351 a.ini k≤a.acc.length - 1:=by
    unfold z351
    split
    · rename_i h
      have:=(hk2 (k - 1) (by omega) (by omega)).1;omega
    · omega
  repeat' (first|(apply AWP.go ok;rfl;conv=>whnf)|(apply And.intro;(first|omega|(unfold inI;omega));conv=>whnf)|(with_reducible apply z11;omega;intro _;conv=>whnf)|(apply z7<;>intro _<;>conv=>whnf)|(apply z82<;>intro _<;>conv=>whnf)|(apply z92<;>intro _<;>conv=>whnf)|(apply z9 (z389 _ (z351 a.ini k+1) _);rfl;rfl;conv=>whnf)|(apply z9 (z389 _ 1 64);rfl;rfl;conv=>whnf)|(apply z862 [1] (hk);rfl;rfl;rfl;rfl;conv=>whnf))
  · rename_i hkl hb
    refine z27 rfl (z186.2 fun ⟨_,_,h,_⟩=>?_)
    have h1:=h k hkl hkl
    rw [z362] at hb
    refine hb ⟨?_,h1.1.2⟩
    unfold z351
    split
    · rename_i hp
      have:=h1.2 (k - 1) (by omega);omega
    · omega
  · rename_i hkl hb
    rw [z144] at hb
    refine z78 (k+1) [0,1] ⟨by omega,hk2.step hkl (by omega) fun j hj=>?_⟩ (by omega) ⟨rfl,by decide,rfl,⟨⟨rfl,rfl⟩,⟨rfl,rfl⟩,⟨rfl,?_⟩,⟨rfl,rfl⟩,⟨rfl,rfl⟩,⟨rfl,rfl⟩,trivial⟩,⟨z24 rfl rfl,z24 rfl rfl,trivial⟩⟩
    · subst hj
      have:=hb.1
      unfold z351 at this
      rw [dif_pos (by omega)] at this
      simp only [Nat.add_sub_cancel] at this
      omega
    · have:z351 a.ini (k+1)=a.ini[k]:=by unfold z351;rw [dif_pos (by omega)];rfl
      rw [this];rfl
  all_goals (have hfull:IniP a.ini a.acc.length a.ini.length:=by (have:k=a.ini.length:=by omega);rw [← this];exact hk2)
  · rename_i hb hl
    refine z27 rfl ?_
    rw [z144] at hb
    rw [Bool.eq_iff_iff,z108,Bool.not_eq_true',List.any_eq_false]
    constructor
    · rintro ⟨_,_,_,h⟩ x hx
      simpa using z270.2 (h x hx)
    · intro h
      exact ⟨by omega,by omega,hfull,fun e he=>z270.1 (by simpa using h e he)⟩
  · refine z27 rfl (z186.2 fun hh=>?_)
    have:=hh.2.1;omega
  · rename_i hb
    refine z27 rfl (z186.2 fun hh=>?_)
    have:=hh.1
    rw [z362] at hb;omega
theorem z160 (a:Aut) (ha:a.mx):CallsA Tryz.prog 81 [.agg a.cs] [] (.bool (autB a)) []:=by
  obtain ⟨hi,hc,he,hm⟩:=ha
  unfold maxLen at hi hc he
  refine z17 z18 Tryz.func81 rfl rfl 83 Tryz.ntmps81 (by simp) ?_
  repeat' (first|(apply AWP.go ok;rfl;conv=>whnf)|(apply z7<;>intro _<;>conv=>whnf))
  · exact z27 rfl (z186.2 fun ⟨h,_⟩=>by omega)
  · exact z27 rfl (z186.2 fun ⟨h,_⟩=>by omega)
  · exact z27 rfl (z186.2 fun ⟨h,_,h2,_⟩=>by have:=h2.le (by omega);omega)
  · exact z27 rfl (z186.2 fun ⟨_,h,_⟩=>by omega)
  refine z90 (fun k:Nat=>([(1,.ptr 0 none 0),(3,.int a.acc.length),(4,.int k)],[.cells 3 [[lst 1 enI a.ini,lst 1 enB a.acc,lst 4 Trans.cs a.ed]]])) (fun k=>k≤a.ini.length∧IniP a.ini a.acc.length k) (fun k=>a.ini.length - k) 0 ⟨by omega,fun i h hi=>by omega⟩ ⟨[0],rfl,by decide,rfl,by repeat' (first|exact True.intro|exact ⟨rfl,rfl⟩|apply And.intro),by repeat' (first|exact True.intro|exact z24 rfl rfl|apply And.intro)⟩ ?_
  rintro k ⟨hk1,hk2⟩
  repeat' (first|(apply AWP.go ok;rfl;conv=>whnf)|(apply z34;kernel_rfl;conv=>whnf)|(apply And.intro;(first|omega|(unfold inI;omega));conv=>whnf)|(with_reducible apply z11;omega;intro _;conv=>whnf)|(apply z795;omega;intro _;conv=>whnf)|(apply z7<;>intro _<;>conv=>whnf))
  · refine z27 rfl (z186.2 fun ⟨_,_,h,_⟩=>?_)
    have:=(h k (by assumption) (by assumption)).1;omega
  · refine z27 rfl (z186.2 fun ⟨_,_,h,_⟩=>?_)
    have:=(h k (by assumption) (by assumption)).1;omega
  · rename_i hk0 _ _ hb
    refine z27 rfl (z186.2 fun ⟨_,_,h,_⟩=>?_)
    have:=(h k (by assumption) (by assumption)).2 (k - 1) (by omega)
    have e:((k:Int) - 1).toNat=k - 1:=by omega
    simp only [e] at hb
    omega
  · rename_i hk0 _ _ hb
    refine z78 (k+1) [0] ⟨by omega,hk2.step (by assumption) (by omega) fun j hj=>?_⟩ (by omega) ⟨rfl,by decide,rfl,by repeat' (first|exact True.intro|exact ⟨rfl,rfl⟩|apply And.intro),by repeat' (first|exact True.intro|exact z24 rfl rfl|apply And.intro)⟩
    have e:((k:Int) - 1).toNat=k - 1:=by omega
    simp only [e] at hb
    subst hj
    simp only [Nat.add_sub_cancel] at hb
    omega
  · exact z78 (k+1) [0] ⟨by omega,hk2.step (by assumption) (by omega) fun j hj=>by omega⟩ (by omega) ⟨rfl,by decide,rfl,by repeat' (first|exact True.intro|exact ⟨rfl,rfl⟩|apply And.intro),by repeat' (first|exact True.intro|exact z24 rfl rfl|apply And.intro)⟩
  have hfull:IniP a.ini a.acc.length a.ini.length:=by (have:k=a.ini.length:=by omega);rw [← this];exact hk2
  clear hk2 hk1
  refine z90 (fun k:Nat=>([(1,.ptr 0 none 0),(3,.int a.acc.length),(5,.int k)],[.cells 3 [[lst 1 enI a.ini,lst 1 enB a.acc,lst 4 Trans.cs a.ed]]])) (fun k=>k≤a.ed.length∧∀ i (h:i < a.ed.length),i < k→z420 a.acc.length a.ed[i]) (fun k=>a.ed.length - k) 0 ⟨by omega,fun i h hi=>by omega⟩ ⟨[0],rfl,by decide,rfl,by repeat' (first|exact True.intro|exact ⟨rfl,rfl⟩|apply And.intro),by repeat' (first|exact True.intro|exact z24 rfl rfl|apply And.intro)⟩ ?_
  rintro k2 ⟨hk1,hk2⟩
  repeat' (first|(apply AWP.go ok;rfl;conv=>whnf)|(apply And.intro;(first|omega|(unfold inI;omega));conv=>whnf)|(with_reducible apply z11;omega;intro _;conv=>whnf)|(apply z7<;>intro _<;>conv=>whnf)|(apply z38<;>intro _<;>conv=>whnf)|(apply z9 (z1023 _ a.ed[k2] (hm _ (List.getElem_mem _)));rfl;rfl;conv=>whnf))
  · rename_i hb
    exact z27 rfl (z186.2 fun ⟨_,_,_,h⟩=>hb (h _ (List.getElem_mem _)))
  · rename_i hb
    refine z78 (k2+1) [0] ⟨by omega,fun i hi hik=>?_⟩ (by omega) ⟨rfl,by decide,rfl,by repeat' (first|exact True.intro|exact ⟨rfl,rfl⟩|apply And.intro),by repeat' (first|exact True.intro|exact z24 rfl rfl|apply And.intro)⟩
    rcases Nat.lt_or_ge i k2 with h3|h3
    · exact hk2 i hi h3
    · obtain rfl:i=k2:=by omega
      exact hb
  · refine z27 rfl (z108.2 ⟨by omega,by omega,hfull,fun e he=>?_⟩)
    obtain ⟨i,hi,rfl⟩:=List.mem_iff_getElem.1 he
    exact hk2 i hi (by omega)
end Go.Proofs.YtknlmbniicacmaaGreat

namespace Go.Proofs.YtknlmbniicacmaaGreat
open Go.Gl
attribute [local irreducible] z31 AWP z48 z52 z50
theorem z502 {P:Program} {f:FuncId} {w:Nat} {res:AC} {objs' : List AObj} (hf:z736 P f) (h:∀ a cap,CallsA P f [.raw (.slice a 0 cap)] [] res objs'):CallsA P f [.list w 0 []] [] res objs':=by
  refine ⟨hf,fun G W vs hW hs hv=>?_⟩
  simp only [VL] at hv
  obtain ⟨⟨v,hv1,hv2⟩,_⟩:=hv
  simp only [V] at hv2
  obtain ⟨a,cap,rfl,_⟩:=hv2
  exact (h a cap).2 G W vs hW hs (by simp only [VL];exact ⟨⟨_,hv1,by simp [V]⟩,trivial⟩)
theorem nils_le {w:Nat} : ACle .nils (.list w 0 []):=fun G h v hv=>by
  simp only [V] at hv ⊢
  exact ⟨none,0,hv,Nat.le_refl _,rfl,.inl trivial⟩
theorem z582 {o off w:Nat} : ACle (.sref o off 0) (.list w 0 []):=fun G h v hv=>by
  simp only [V] at hv ⊢
  obtain ⟨cap,_,⟨rfl,a,rfl⟩|⟨b,size,w',_,_,rfl⟩⟩:=hv
  · exact ⟨_,_,rfl,Nat.le_refl _,rfl,.inl trivial⟩
  · exact ⟨_,_,rfl,Nat.zero_le _,rfl,.inl trivial⟩
theorem z702 {P : Program} {f : FuncId} {fn : Func} {c : Code} (hf : P.funcs[f]? = some fn) (hb : fn.body = some c) (hn : (fn.name == "runtime.NumGoroutine") = false) : z736 P f := ⟨fn, c, hf, hn, hb⟩
theorem z562 (l:List Int) (hl:l.length≤1048576) (hp:0 < l.length):CallsA Tryz.prog 215 [ints l] [] (.sref 0 0 l.length) [.cells 1 (l.map enI)]:=by
  refine z17 z18 Tryz.func215 rfl rfl 8 Tryz.ntmps215 (by simp) ?_
  repeat' (first|(apply AWP.go ok;rfl;conv=>whnf)|(apply And.intro;(first|omega|(dsimp only;omega)|exact z93 (fun _=>rfl));conv=>whnf))
  exact z342 rfl (z6 fun _=>rfl) (Nat.zero_add _) rfl rfl
theorem z804 (l:List Int) (hl:l.length≤1048576):CallsA Tryz.prog 215 [ints l] [] (ints l) []:=by
  by_cases hp:0 < l.length
  · have h:=(z562 l hl hp).keep (z154 _ _) (by simp)
    exact h
  · obtain rfl:l=[]:=List.eq_nil_of_length_eq_zero (by omega)
    refine z502 (z702 Tryz.func215 rfl (by rfl)) fun ad cap=>?_
    refine z17 z18 Tryz.func215 rfl rfl 8 Tryz.ntmps215 (by simp) ?_
    repeat' (first|(apply AWP.go ok;rfl;conv=>whnf)|(apply And.intro;(omega);conv=>whnf)|(apply z92<;>intro _<;>conv=>whnf))
    · exact z676 rfl rfl nils_le
    · exact z676 rfl rfl z582
theorem z927 (l:List Int) (hl:l.length≤1048576):CallsA Tryz.prog 100 [ints l] [] (ints l) []:=by
  refine z17 z18 Tryz.func100 rfl rfl 9 Tryz.ntmps100 (by simp) ?_
  repeat' (first|(apply AWP.go ok;rfl;conv=>whnf)|(apply And.intro;(omega);conv=>whnf))
  refine z54 rfl rfl ?_
  show AC.list 1 _ _=ints l
  rw [show AC.list 1 ((l.length:Int).toNat - (0:Int).toNat) (((l.map enI).drop (0:Int).toNat).take ((l.length:Int).toNat - (0:Int).toNat))=_ from z280 1 enI l l.length (Nat.le_refl _),List.take_length]
  rfl
theorem z705 (l:List Int) (hl:l.length≤1048576):CallsA Tryz.prog 161 [ints l] [] (ints l) []:=by
  refine z17 z18 Tryz.func161 rfl rfl 6 Tryz.ntmps161 (by simp) ?_
  repeat' (first|(apply AWP.go ok;rfl;conv=>whnf)|(apply z9 (z804 l hl);rfl;rfl;conv=>whnf)|(apply z9 (z927 l hl);rfl;rfl;conv=>whnf))
  exact z54 rfl rfl rfl
theorem z747 {x x' y:AC} (h:ACle x x'):ACle (.tup [x,y]) (.tup [x',y]):=fun G hh v hv=>by
  simp only [V,VL] at hv ⊢
  obtain ⟨c,rfl,hc,⟨v1,h1,h2⟩,h3,_⟩:=hv
  exact ⟨c,rfl,hc,⟨v1,h1,h _ _ _ h2⟩,h3,trivial⟩
noncomputable def glB (g:Graph) (l:List Tree):Bool:=z411 g && z232 l
theorem z651 {l:List Int} (h:z371 l=true):ValsOk l:=by
  unfold z371 at h
  rw [Bool.and_eq_true,decide_eq_true_eq,Bool.not_eq_true',List.any_eq_false] at h
  exact ⟨by omega,fun x hx=>by simpa [z144] using h.2 x hx⟩
theorem GB.vals {g:Graph} (h:GB g):∀ s∈g.st,ValsOk s.b:=fun s hs=>by
  obtain ⟨i,hi,rfl⟩:=List.mem_iff_getElem.1 hs
  exact z651 (h.2.2 i (by have:=h.2.1;omega) (by have:=h.2.1;omega) hi).2.2.1
def Lmx (l:List Tree):Prop:=l.length≤maxLen∧∀ t∈l,t.mx
theorem z209 (g:Graph) (hg:g.mx) (l:List Tree) (hl:Lmx l):CallsA Tryz.prog 80 [.agg g.cs,lst 3 Tree.cs' l] [] (.tup [ints (if glB g l then g.st.map (z32 l) else []),.bool (glB g l)]) []:=by
  refine z17 z18 Tryz.func80 rfl rfl 18 Tryz.ntmps80 (by simp) ?_
  have k1:=z375 g hg
  have k2:=z337 l hl.1 hl.2
  have k3:=fun (h1:z411 g=true) (h2:z232 l=true)=>z689 g ((z91 g).1 h1).vals ((z91 g).1 h1).1.2 l (LabelsOk.of h2)
  repeat' (first|(apply AWP.go ok;rfl;conv=>whnf)|(apply z82<;>intro _<;>conv=>whnf)|(apply z9 (k1);rfl;rfl;conv=>whnf)|(apply z9 (k2);rfl;rfl;conv=>whnf)|(apply z9 (k3 (by assumption) (by assumption));rfl;rfl;conv=>whnf))
  · rename_i h
    have e:glB g l=false:=by unfold glB;rw [h];rfl
    rw [e]
    exact z676 rfl rfl (z747 z582)
  · rename_i h1 h2
    have e:glB g l=false:=by unfold glB;rw [h1,h2];rfl
    rw [e]
    exact z676 rfl rfl (z747 z582)
  · rename_i h1 h2
    have e:glB g l=true:=by unfold glB;rw [h1,h2];rfl
    rw [e]
    exact z54 rfl rfl rfl
theorem z290 (g:Graph) (hg:g.mx) (l:List Tree) (hl:Lmx l) (a:Aut) (ha:a.mx):CallsA Tryz.prog 75 [.agg g.cs,lst 3 Tree.cs' l,.agg a.cs] [] (.bool (glB g l && autB a)) []:=by
  refine z17 z18 Tryz.func75 rfl rfl 17 Tryz.ntmps75 (by simp) ?_
  repeat' (first|(apply AWP.go ok;rfl;conv=>whnf)|(apply z92<;>intro _<;>conv=>whnf)|(apply z9 (z618 g hg);rfl;rfl;conv=>whnf)|(apply z9 (z533 l hl.1 hl.2);rfl;rfl;conv=>whnf)|(apply z9 (z397 a ha);rfl;rfl;conv=>whnf))
  all_goals (refine z27 rfl ?_;(unfold glB;simp [*];done))
end Go.Proofs.YtknlmbniicacmaaGreat

namespace Go.Proofs.YtknlmbniicacmaaGreat
open Go.Gl
attribute [local irreducible] z31 AWP z48 z52 z50
theorem z150 (l:List (List Int)):z66 (l.map ownRow)=l.map encL:=by
  rw [z171,List.map_map]
  refine List.map_congr_left fun r _=>?_
  show [AC.list 1 _ (z66 _)]=_
  rw [z154]
  simp [encL,ints,enI]
end Go.Proofs.YtknlmbniicacmaaGreat

namespace Go.Proofs.YtknlmbniicacmaaGreat
open Go.Gl
attribute [local irreducible] z31 AWP z48 z52 z50
theorem z921 (l:List Bool):z66 (l.map enB)=l.map enB:=z154 (fun b=>Value.bool b) l
theorem tup_sref {x x' y:AC} (h:ACle x x'):ACle (.tup [x,y]) (.tup [x',y]):=fun G hh v hv=>by
  simp only [V,VL] at hv ⊢
  obtain ⟨c,rfl,hs,⟨u,h1,h2⟩,h3,_⟩:=hv
  exact ⟨c,rfl,hs,⟨u,h1,h _ _ _ h2⟩,h3,trivial⟩
theorem keepB {f:FuncId} {args:List AC} {n:Nat} {l:List Bool} {y:AC} (h:CallsA Tryz.prog f args [] (.tup [.sref 0 0 n,y]) [.cells 1 (l.map enB)]) (hl:l.length=n) (hy:bor (z36 [.cells 1 (l.map enB)]) [] [0] y=y):CallsA Tryz.prog f args [] (.tup [lst 1 enB l,y]) []:=by
  subst hl
  have:=h.keepT (z921 l) (by simp) hy
  exact this
end Go.Proofs.YtknlmbniicacmaaGreat

namespace Go.Proofs.YtknlmbniicacmaaGreat
open Go.Gl
attribute [local irreducible] z31 AWP z48 z52 z50
theorem keepI {f:FuncId} {args:List AC} {n:Nat} {l:List Int} (h:CallsA Tryz.prog f args [] (.sref 0 0 n) [.cells 1 (l.map enI)]) (hl:l.length=n):CallsA Tryz.prog f args [] (ints l) []:=by
  subst hl
  exact h.keep (z154 _ _) (by simp)
theorem z122 {objs:Nat→AObj} {π Bn:List Nat} {o:Nat} {l:List Int} (ho:objs o=.cells 1 (l.map enI)) (h1:idx π o=none) (h2:inB Bn o=true):bor objs π Bn (.sref o 0 l.length)=ints l :=
  z363 ho h1 h2 (by simp) (z154 _ _)
end Go.Proofs.YtknlmbniicacmaaGreat

namespace Go.Proofs.YtknlmbniicacmaaGreat
open Go.Gl
attribute [local irreducible] z31 AWP z48 z52 z50
theorem z325 (l:List Int) (hl:l.length≤1048576):CallsA Tryz.prog 100 [.sref 0 0 l.length] [.cells 1 (l.map enI)] (.sref 0 0 l.length) [.cells 1 (l.map enI)]:=by
  refine z17 z18 Tryz.func100 rfl rfl 9 Tryz.ntmps100 (by simp) ?_
  repeat' (first|(apply AWP.go ok;rfl;conv=>whnf)|(apply And.intro;(omega);conv=>whnf))
  exact z342 rfl (z6 fun _=>rfl) (by omega) rfl rfl
end Go.Proofs.YtknlmbniicacmaaGreat

namespace Go.Proofs.YtknlmbniicacmaaGreat
open Go.Gl
attribute [local irreducible] z31 AWP z48 z52 z50 RetS z57
def fnL (N:Nat) (f:Nat→Int):List Int:=(List.range N).map f
theorem z97 (N:Nat) (f:Nat→Int):(fnL N f).length=N:=by simp [fnL]
theorem z147 {N u:Nat} (f:Nat→Int) (h:u < N):((fnL N f).map enI)[u]?=some (enI (f u)):=by
  unfold fnL
  rw [List.getElem?_map,List.getElem?_map,List.getElem?_range h];rfl
theorem fnL_set {N u:Nat} (f:Nat→Int) (x:Int):(fnL N f).set u x=fnL N (upd f u x):=by
  apply List.ext_getElem (by simp [fnL])
  intro i h1 h2
  rw [List.getElem_set]
  simp only [fnL,List.getElem_map,List.getElem_range]
  split
  · rename_i e;subst e;rw [z28]
  · rename_i e;rw [z43 _ _ (fun h=>e h.symm)]
theorem z130 {N u:Nat} (f:Nat→Int) (x:Int):((fnL N f).map enI).set u (enI x)=(fnL N (upd f u x)).map enI:=by rw [← fnL_set,List.map_set]
def natL (l:List Nat):List Int:=l.map fun x:Nat=>(x:Int)
theorem z426 (l:List Nat):(natL l).length=l.length:=by simp [natL]
theorem natL_at {l:List Nat} {i:Nat} (h:i < l.length):((natL l).map enI)[i]?=some (enI (l[i]:Nat)):=by
  unfold natL
  rw [List.getElem?_map,List.getElem?_map,List.getElem?_eq_getElem h];rfl
theorem z467 {rows:List (List Int)} {u:Nat} (h:u < rows.length):(rows.map encL)[u]?=some (encL (rows.getD u [])):=by
  rw [List.getElem?_map,List.getElem?_eq_getElem h,z19 h];rfl
@[reducible] def visF:AC:=.fn (.func 277) [] [.ptr 0 none 0,.ptr 1 none 0,.ptr 3 none 0,.ptr 5 none 0,.ptr 6 none 0,.ptr 7 none 0,.ptr 8 none 0,.ptr 10 none 0]
@[reducible] def z999 (rows:List (List Int)) (s:TS):List AObj:=[.cells 1 [[.int s.cnt]],.cells 1 [[.sref 2 0 rows.length]],.cells 1 ((fnL rows.length s.num).map enI),.cells 1 [[.sref 4 0 rows.length]],.cells 1 ((fnL rows.length s.low).map enI),.cells 1 [[.own 1 ((natL s.stk).map enI)]],.cells 1 [[lst 1 encL rows]],.cells 1 [[visF]],.cells 1 [[.sref 9 0 rows.length]],.cells 1 ((fnL rows.length s.part).map enI),.cells 1 [[.int s.prt]]]
set_option maxHeartbeats 12800000 in
theorem z873 (rows : List (List Int)) (hr : ∀ r ∈ rows, InN rows.length r) (hN : rows.length ≤ 100000) (hrl : ∀ r ∈ rows, r.length ≤ 1000000000) : ∀ (f : Nat) (s : TS) (g : List Nat) (u : Nat), unvN rows.length s.num ≤ f → TI rows s g → s.num u = 0 → u < rows.length → (∀ x ∈ g, RN rows x u) → s.prt ≤ s.cnt →
    CallsA Tryz.prog 277 [.int (u:Int),.ptr 0 none 0,.ptr 1 none 0,.ptr 3 none 0,.ptr 5 none 0,.ptr 6 none 0,.ptr 7 none 0,.ptr 8 none 0,.ptr 10 none 0] (z999 rows s) (.tup []) (z999 rows (z206 rows f u s)):=by
  intro f
  induction f with
  | zero =>
    intro s g u hf _ h0 hu _ _
    have:=z960 (num:=s.num) hu h0
    omega
  | succ f ih =>
    intro s g u hf hI h0 hu hg hsp
    have hTL:=z1093 hr hf hI h0 hu hg
    have hc0:s.cnt≤100000:=by have:=hI.ct;omega
    have gr:=z467 hu
    have hrow:=z178 hr (u:Int)
    rw [Int.toNat_natCast] at hrow
    have hrowl:(rows.getD u []).length≤1000000000:=by rw [z19 hu];exact hrl _ (List.getElem_mem _)
    have hte:z206 rows (f+1) u s=tEnd u ((rows.getD u []).foldl (z335 (z206 rows f) u) (z177 u s)):=rfl
    generalize hR:z206 rows (f+1) u s=R at *
    generalize hrw:rows.getD u []=row at *
    have e1:=z130 (N:=rows.length) (u:=u) s.num (s.cnt+1)
    have e2:=z130 (N:=rows.length) (u:=u) s.low (s.cnt+1)
    have g1:=z147 s.num hu
    have g2:=z147 s.low hu
    have l1:=z97 rows.length s.num
    have l2:=z97 rows.length s.low
    have hsl:s.stk.length≤100000:=by
      have:=z135 rows.length (natL s.stk) ?_ ?_
      · rw [z426] at this;omega
      · exact (hI.nd).map _ fun a b h=>by omega
      · intro x hx
        obtain ⟨y,hy,rfl⟩:=List.mem_map.1 hx
        have:=hI.lt y ((hI.stk y).1 hy).1
        omega
    refine z10 z18 Tryz.func277 rfl rfl 105 Tryz.ntmps277 (by simp) ?_
    repeat' ((first|((fail_if_success apply z146 2);(fail_if_success apply z112 2);apply AWP.go ok;rfl)|(apply z34;kernel_rfl)|(refine z16 (i:=u) rfl g1 ?_)|(refine z16 (i:=u) rfl g2 ?_)|(apply And.intro;first|omega|(unfold inI;omega)))<;>conv=>whnf)
    all_goals skip
    refine AWP.reach (Gl.Reach.expose 5 0 0 rfl rfl rfl (z231 (fun _=>rfl) _) rfl) ?_
    conv=>whnf
    repeat' ((first|((fail_if_success apply z146 3);(fail_if_success apply z112 3);apply AWP.go ok;rfl)|(refine And.intro ?_ ?_;(focus (dsimp only;simp only [List.length_map,z426];omega)))|(refine z16 (i:=u) rfl gr ?_)|(apply And.intro;first|omega|exact ⟨rfl,z21 rfl z30⟩))<;>conv=>whnf)
    all_goals skip
    refine AWP.reach (Gl.Reach.absorb 5 13 0 0 rfl rfl rfl rfl (by simp) rfl (z99 (fun e he=>(z6 (fun _=>rfl)) e (List.mem_of_mem_take he)) (z216 rfl z37)) rfl) ?_
    conv=>whnf
    have e3:((natL s.stk).map enI).take ((natL s.stk).map enI).length++[enI (u:Int)]=(natL (s.stk++[u])).map enI:=by
      rw [List.take_length];unfold natL;simp
    obtain ⟨T,hT⟩:∃ T:Nat→TS,T=fun k=>(row.take k).foldl (z335 (z206 rows f) u) (z177 u s):=⟨_,rfl⟩
    have hT0:T 0=z177 u s:=by rw [hT];rfl
    have hTs:∀ k (hk:k < row.length),T (k+1)=z335 (z206 rows f) u (T k) row[k]:=fun k hk=>by
      rw [hT]
      show (row.take (k+1)).foldl _ _=_
      rw [List.take_succ_eq_append_getElem hk,List.foldl_append];rfl
    have hTn:R=tEnd u (T row.length):=by
      rw [hT,hte]
      show _=tEnd u ((row.take row.length).foldl _ _)
      rw [List.take_length]
    have hTT:∀ k,k≤row.length→TL rows s (T k) g u (row.take k):=fun k hk=>by rw [hT];exact hTL k hk
    clear hT hTL hte hR
    have f1:(T 0).num=upd s.num u (s.cnt+1):=by rw [hT0];rfl
    have f2:(T 0).low=upd s.low u (s.cnt+1):=by rw [hT0];rfl
    have f3:(T 0).stk=s.stk++[u]:=by rw [hT0];rfl
    have f4:(T 0).cnt=s.cnt+1:=by rw [hT0];rfl
    have f5:(T 0).part=s.part:=by rw [hT0];rfl
    have f6:(T 0).prt=s.prt:=by rw [hT0];rfl
    refine z64 (fun k:Nat=>([(0,.int (u:Int)),(1,.ptr 0 none 0),(2,.ptr 1 none 0),(3,.ptr 3 none 0),(4,.ptr 5 none 0),(5,.ptr 6 none 0),(6,.ptr 7 none 0),(7,.ptr 8 none 0),(8,.ptr 10 none 0),(30,ints row),(31,.int row.length),(32,.int k)],[.cells 1 [[.int (T k).cnt]],.cells 1 [[.sref 2 0 rows.length]],.cells 1 ((fnL rows.length (T k).num).map enI),.cells 1 [[.sref 4 0 rows.length]],.cells 1 ((fnL rows.length (T k).low).map enI),.cells 1 [[.own 1 ((natL (T k).stk).map enI)]],.cells 1 [[lst 1 encL rows]],.cells 1 [[visF]],.cells 1 [[.sref 9 0 rows.length]],.cells 1 ((fnL rows.length (T k).part).map enI),.cells 1 [[.int (T k).prt]]])) (fun k=>k≤row.length) (fun k=>row.length - k) 0 (Nat.zero_le _) (by refine SealW.reach [0,1,2,3,4,5,6,7,8,9,10] [] rfl rfl rfl rfl ?_ ?_<;>(repeat' (first|exact LocLe.refl _|exact F2.nil|apply F2.cons|(refine z96 ?_;omega)|apply ObjLe.box|((first|refine z42 rfl ?_ ?_|refine z13 rfl ?_ ?_);(focus ((repeat' ((exact z6 (fun _=>rfl))));done)))|exact True.intro|apply And.intro))<;>(first|(refine z29 ?_;rw [f1];exact e1)|(refine z29 ?_;rw [f2];exact e2)|(rw [f5];exact z12 _)|(rw [f3];refine LocLe.of_eq ?_;rw [← e3];rfl))) ?_
    clear f1 f2 f3 f4 f5 f6 hT0 e1 e2 e3 g1 g2 l1 l2
    intro k hk
    have hL:=hTT k hk
    have hLI:=hL.inv
    have hL2:=hL.num
    have gu1:=z147 (T k).num hu
    have gu2:=z147 (T k).low hu
    have l1:=z97 rows.length (T k).num
    have l2:=z97 rows.length (T k).low
    have l3:=z97 rows.length (T k).part
    by_cases hk2:k < row.length
    · have hs2:=hTs k hk2
      have gk:(row.map enI)[k]?=some (enI row[k]):=by rw [List.getElem?_map,List.getElem?_eq_getElem hk2];rfl
      have hv:=hrow _ (List.getElem_mem hk2)
      have hvm:row[k]∈rows.getD u []:=by rw [hrw];exact List.getElem_mem hk2
      generalize row[k]=v at *
      obtain ⟨w,rfl⟩:∃ w:Nat,v=w:=⟨v.toNat,by omega⟩
      have hw:w < rows.length:=by omega
      have gw1:=z147 (T k).num hw
      have gw3:=z147 (T k).part hw
      unfold z335 at hs2
      simp only [Int.toNat_natCast] at hs2
      have hnx:k+1≤row.length:=hk2
      generalize hS:T k=S at *
      generalize hS2:T (k+1)=S2 at *
      by_cases hw0:S.num w=0
      · rw [if_pos hw0] at hs2
        have cW:=ih S (u::g) w (by have h1:=hL.cnt;have h2:=hLI.ct;have h3:=hI.ct;omega) hLI hw0 hw (fun x hx=>by
          rcases List.mem_cons.1 hx with rfl|hx
          · exact .edge hvm
          · exact (hg x hx).trans (.edge hvm)) (by have:=hL.prt;omega)
        generalize z206 rows f w S=S1 at *
        have hu1:=z147 S1.low hu
        have hw1:=z147 S1.low hw
        have l4:=z97 rows.length S1.low
        have e1:=z130 (N:=rows.length) (u:=u) S1.low (min (S1.low u) (S1.low w))
        have q1:S2.low=upd S1.low u (min (S1.low u) (S1.low w)):=by rw [hs2];rfl
        have q2:S2.num=S1.num:=by rw [hs2];rfl
        have q3:S2.part=S1.part:=by rw [hs2];rfl
        have q4:S2.stk=S1.stk:=by rw [hs2];rfl
        have q5:S2.cnt=S1.cnt:=by rw [hs2];rfl
        have q6:S2.prt=S1.prt:=by rw [hs2];rfl
        repeat' ((first|((fail_if_success apply z146 8);(fail_if_success apply z112 8);apply AWP.go ok;rfl)|(apply z34;kernel_rfl)|(refine z16 (i:=k) rfl gk ?_)|(refine z16 (i:=w) rfl gw1 ?_)|(apply And.intro;omega)|(((apply z11;omega));intro _)|((apply z7)<;>intro _)|(((apply z8 [0,1,2,3,4,5,6,7,8,9,10] [] [] (cW);rfl;(focus ((repeat' first|exact z4|apply z5)<;>first|rfl|(refine z86 rfl ?_;((exact z6 fun _=>rfl)))))));rfl;rfl;rfl;rfl;rfl;(focus ((repeat' first|exact z15|apply z14)<;>first|exact z20 rfl rfl|(refine z25 ?_;((exact z6 fun _=>rfl)))));(exact .inl rfl)))<;>conv=>whnf)
        all_goals first|(exfalso;omega)|skip
        repeat' ((first|(apply AWP.go ok;rfl)|(apply z34;kernel_rfl)|(refine z16 (i:=u) rfl hu1 ?_)|(refine z16 (i:=w) rfl hw1 ?_)|(apply And.intro;first|omega|(unfold inI;omega)))<;>conv=>whnf)
        all_goals skip
        all_goals refine z23 (k+1) hk2 (by omega) ?_
        all_goals dsimp only
        all_goals rw [hS2,q2,q3,q4,q5,q6,q1]
        all_goals exact (by refine SealW.reach [0,1,2,3,4,5,6,7,8,9,10] [] rfl rfl rfl rfl ?_ ?_<;>(repeat' (first|exact LocLe.refl _|exact F2.nil|apply F2.cons|exact z12 _|apply ObjLe.box|((first|refine z42 rfl ?_ ?_|refine z13 rfl ?_ ?_);(focus ((repeat' ((exact z6 (fun _=>rfl))));done)))|exact True.intro|apply And.intro))<;>((refine z29 ?_;exact e1)))
      · rw [if_neg hw0] at hs2
        by_cases hp0:S.part w < 0
        · rw [if_pos hp0] at hs2
          have e1:=z130 (N:=rows.length) (u:=u) S.low (min (S.low u) (S.num w))
          have q1:S2.low=upd S.low u (min (S.low u) (S.num w)):=by rw [hs2];rfl
          have q2:S2.num=S.num:=by rw [hs2];rfl
          have q3:S2.part=S.part:=by rw [hs2];rfl
          have q4:S2.stk=S.stk:=by rw [hs2];rfl
          have q5:S2.cnt=S.cnt:=by rw [hs2];rfl
          have q6:S2.prt=S.prt:=by rw [hs2];rfl
          repeat' ((first|(apply AWP.go ok;rfl)|(apply z34;kernel_rfl)|(refine z16 (i:=k) rfl gk ?_)|(refine z16 (i:=w) rfl gw1 ?_)|(refine z16 (i:=w) rfl gw3 ?_)|(refine z16 (i:=u) rfl gu2 ?_)|(apply And.intro;first|omega|(unfold inI;omega))|(((apply z11;omega));intro _)|((apply z7)<;>intro _))<;>conv=>whnf)
          all_goals first|(exfalso;omega)|skip
          all_goals refine z23 (k+1) hk2 (by omega) ?_
          all_goals dsimp only
          all_goals rw [hS2,q2,q3,q4,q5,q6,q1]
          all_goals exact (by refine SealW.reach [0,1,2,3,4,5,6,7,8,9,10] [] rfl rfl rfl rfl ?_ ?_<;>(repeat' (first|exact LocLe.refl _|exact F2.nil|apply F2.cons|exact z12 _|apply ObjLe.box|((first|refine z42 rfl ?_ ?_|refine z13 rfl ?_ ?_);(focus ((repeat' ((exact z6 (fun _=>rfl))));done)))|exact True.intro|apply And.intro))<;>((refine z29 ?_;exact e1)))
        · rw [if_neg hp0] at hs2
          repeat' ((first|(apply AWP.go ok;rfl)|(apply z34;kernel_rfl)|(refine z16 (i:=k) rfl gk ?_)|(refine z16 (i:=w) rfl gw1 ?_)|(refine z16 (i:=w) rfl gw3 ?_)|(apply And.intro;first|omega|(unfold inI;omega))|(((apply z11;omega));intro _)|((apply z7)<;>intro _))<;>conv=>whnf)
          all_goals first|(exfalso;omega)|skip
          all_goals refine z23 (k+1) hk2 (by omega) ?_
          all_goals dsimp only
          all_goals rw [hS2,hs2]
          all_goals exact (by refine SealW.reach [0,1,2,3,4,5,6,7,8,9,10] [] rfl rfl rfl rfl ?_ ?_<;>(repeat' (first|exact LocLe.refl _|exact F2.nil|apply F2.cons|exact z12 _|apply ObjLe.box|((refine z13 rfl ?_ ?_);(focus ((repeat' ((exact z6 (fun _=>rfl))));done)))|exact True.intro|apply And.intro)))
    · obtain rfl:k=row.length:=by omega
      have hpf:=hL.pref
      have hsu:u ∉ s.stk:=fun hm=>((hI.stk u).1 hm).1 h0
      have hnd:=hLI.nd
      have hpp:(T row.length).prt≤100001:=by have h1:=hL.prt;have h2:=hLI.ct;have h3:=hI.ct;have h4:=hL.cnt;omega
      generalize hS:T row.length=S at *
      unfold tEnd at hTn
      by_cases he:S.low u=S.num u
      · rw [if_pos he] at hTn
        obtain ⟨B,hB⟩:=hpf
        have hcut:=z824 (A:=s.stk) (B:=B) hsu
        have hLl:S.stk.length=s.stk.length+1+B.length:=by rw [hB];simp;omega
        have hLs:S.stk.length≤100000:=by
          have:=z135 rows.length (natL S.stk) ?_ ?_
          · rw [z426] at this;omega
          · exact hnd.map _ fun a b h=>by omega
          · intro x hx
            obtain ⟨y,hy,rfl⟩:=List.mem_map.1 hx
            have:=hLI.lt y ((hLI.stk y).1 hy).1
            omega
        have r1:R.stk=S.stk.take s.stk.length:=by
          rw [hTn];show S.stk.takeWhile _=_
          rw [hB,hcut.1];simp
        have r2:R.part=fun x=>if x∈S.stk.drop s.stk.length then (S.prt:Int) else S.part x:=by
          rw [hTn];show (fun x=>if x∈S.stk.dropWhile _ then _ else _)=_
          rw [hB,hcut.2];simp
        have r3:R.num=S.num:=by rw [hTn];rfl
        have r4:R.low=S.low:=by rw [hTn];rfl
        have r5:R.cnt=S.cnt:=by rw [hTn];rfl
        have r6:R.prt=S.prt+1:=by rw [hTn];rfl
        have hat:∀ j (hj:j < S.stk.length),(S.stk[j]=u↔j=s.stk.length):=by
          intro j hj
          have hu2:S.stk[s.stk.length]'(by omega)=u:=by simp [hB]
          constructor
          · intro e
            have hne:=List.pairwise_iff_getElem.1 (List.nodup_iff_pairwise_ne.1 hnd)
            rcases Nat.lt_trichotomy j s.stk.length with h|h|h
            · exact absurd (e.trans hu2.symm) (hne j s.stk.length hj (by omega) h)
            · exact h
            · exact absurd (hu2.trans e.symm) (hne s.stk.length j (by omega) hj h)
          · rintro rfl;exact hu2
        have hlt:∀ j (hj:j < S.stk.length),S.stk[j] < rows.length:=fun j hj=>hLI.lt _ ((hLI.stk _).1 (List.getElem_mem hj)).1
        have sl:=z426 S.stk
        repeat' ((first|((fail_if_success apply z146 14);(fail_if_success apply z112 14);apply AWP.go ok;rfl)|(apply z34;kernel_rfl)|(refine z16 (i:=u) rfl gu1 ?_)|(refine z16 (i:=u) rfl gu2 ?_)|(apply And.intro;omega)|((first|(with_reducible apply z11;omega)|(apply z11;omega));intro _)|((apply z7)<;>intro _))<;>conv=>whnf)
        all_goals first|(exfalso;omega)|skip
        refine AWP.reach (Gl.Reach.expose 5 0 0 rfl rfl rfl (z231 (fun _=>rfl) _) rfl) ?_
        obtain ⟨pm,hpm⟩:∃ pm:Nat→Nat→Int,pm=fun m x=>if x∈S.stk.drop m then (S.prt:Int) else S.part x:=⟨_,rfl⟩
        have hpm0:pm S.stk.length=S.part:=by rw [hpm];funext x;simp
        have hpmE:pm s.stk.length=R.part:=by rw [hpm,r2]
        have hpmS:∀ m (hm:m < S.stk.length),pm m=upd (pm (m+1)) S.stk[m] S.prt:=by
          intro m hm
          funext x
          by_cases hx:x=S.stk[m]
          · rw [hx,z28,hpm]
            dsimp only
            rw [if_pos]
            rw [List.drop_eq_getElem_cons hm]
            exact List.mem_cons_self
          · rw [z43 _ _ hx,hpm]
            dsimp only
            rw [List.drop_eq_getElem_cons hm]
            simp only [List.mem_cons,hx,false_or]
        clear hpm
        refine z64 (fun m:Nat=>([(0,.int (u:Int)),(1,.ptr 0 none 0),(2,.ptr 1 none 0),(3,.ptr 3 none 0),(4,.ptr 5 none 0),(5,.ptr 6 none 0),(6,.ptr 7 none 0),(7,.ptr 8 none 0),(8,.ptr 10 none 0),(12,.int ((natL S.stk).getD m (-1)))],[.cells 1 [[.int S.cnt]],.cells 1 [[.sref 2 0 rows.length]],.cells 1 ((fnL rows.length S.num).map enI),.cells 1 [[.sref 4 0 rows.length]],.cells 1 ((fnL rows.length S.low).map enI),.cells 1 [[.sref 11 0 m]],.cells 1 [[lst 1 encL rows]],.cells 1 [[visF]],.cells 1 [[.sref 9 0 rows.length]],.cells 1 ((fnL rows.length (pm m)).map enI),.cells 1 [[.int S.prt]],.cells 1 ((natL S.stk).map enI)])) (fun m=>s.stk.length≤m∧m≤S.stk.length) (fun m=>m) S.stk.length ⟨by omega,Nat.le_refl _⟩ (by refine SealW.reach [0,1,2,3,4,5,6,7,8,9,10,11] [] rfl rfl rfl rfl ?_ ?_<;>(repeat' (first|exact LocLe.refl _|exact F2.nil|apply F2.cons|exact z12 _|(refine z39 ?_;((simp;omega)))|apply ObjLe.box|((refine z13 rfl ?_ ?_);(focus ((repeat' ((exact z6 (fun _=>rfl))));done)))|exact True.intro|apply And.intro))<;>(first|(rw [hpm0];exact z12 _)|(refine z96 ?_;simp [natL]))) ?_
        rintro m ⟨hm1,hm2⟩
        by_cases hm:m=s.stk.length
        · subst hm
          have htop:(natL S.stk).getD s.stk.length (-1)=(u:Int):=by
            rw [z19 (by rw [sl];omega)]
            unfold natL
            rw [List.getElem_map,(hat _ (by omega)).2 rfl]
          rw [htop]
          repeat' ((first|((fail_if_success apply z146 18);(fail_if_success apply z112 18);apply AWP.go ok;rfl)|(apply And.intro;omega)|(((apply z11;omega));intro _)|((apply z38)<;>intro _))<;>conv=>whnf)
          all_goals first|(exfalso;omega)|skip
          refine AWP.reach (Gl.Reach.trunc 11 s.stk.length rfl rfl) ?_
          refine AWP.reach (Gl.Reach.absorb 5 11 0 0 rfl rfl rfl rfl (by simp [natL];omega) rfl (fun e he=>(z6 (fun _=>rfl)) e (List.mem_of_mem_take he)) rfl) ?_
          conv=>whnf
          repeat' ((first|(apply AWP.go ok;rfl)|(apply And.intro;(unfold inI;omega)))<;>conv=>whnf)
          all_goals skip
          have eR:z999 rows R=[.cells 1 [[.int S.cnt]],.cells 1 [[.sref 2 0 rows.length]],.cells 1 ((fnL rows.length S.num).map enI),.cells 1 [[.sref 4 0 rows.length]],.cells 1 ((fnL rows.length S.low).map enI),.cells 1 [[.own 1 (((natL S.stk).map enI).take s.stk.length)]],.cells 1 [[lst 1 encL rows]],.cells 1 [[visF]],.cells 1 [[.sref 9 0 rows.length]],.cells 1 ((fnL rows.length (pm s.stk.length)).map enI),.cells 1 [[.int ((S.prt+1:Nat):Int)]]]:=by
            unfold z999
            rw [r1,r3,r4,r5,r6,hpmE]
            simp [natL,List.map_take]
          rw [eR]
          (refine RetS.lay [0,1,2,3,4,5,6,7,8,9,10] [] rfl rfl rfl ?_;refine RetS.done ?_ ?_<;>(repeat' (first|exact LocLe.refl _|exact F2.nil|apply F2.cons|exact z12 _|apply ObjLe.box|((refine z13 rfl ?_ ?_);(focus ((repeat' ((exact z6 (fun _=>rfl))));done))))))
        · obtain ⟨m,rfl⟩:∃ m',m=m'+1:=⟨m - 1,by omega⟩
          have hmL:m < S.stk.length:=by omega
          have htop:(natL S.stk).getD (m+1) (-1)≠(u:Int):=by
            by_cases h:m+1 < S.stk.length
            · rw [z19 (by rw [sl];exact h)]
              unfold natL
              rw [List.getElem_map]
              have:=(hat (m+1) h)
              omega
            · rw [List.getD_eq_getElem?_getD,List.getElem?_eq_none (by rw [sl];omega)]
              show (-1:Int)≠u
              omega
          have hnx:(natL S.stk).getD m (-1)=((S.stk[m]:Nat):Int):=by
            rw [z19 (by rw [sl];exact hmL)]
            unfold natL
            rw [List.getElem_map]
          have gst:=natL_at hmL
          have hwN:=hlt m hmL
          have hps:=hpmS m hmL
          generalize S.stk[m]=w at *
          have gw:=z147 (pm (m+1)) hwN
          have e1:=z130 (N:=rows.length) (u:=w) (pm (m+1)) S.prt
          rw [← hps] at e1
          generalize (natL S.stk).getD (m+1) (-1)=tp at *
          repeat' ((first|(apply AWP.go ok;rfl)|(refine z16 (i:=m) ?_ gst ?_;(focus (omega)))|(refine z16 (i:=w) rfl gw ?_)|(apply And.intro;first|omega|(unfold inI;omega))|((apply z38)<;>intro _))<;>conv=>whnf)
          all_goals first|(exfalso;omega)|skip
          all_goals refine z23 m ⟨by omega,by omega⟩ (by omega) ?_
          all_goals dsimp only
          all_goals rw [hnx]
          all_goals exact (by refine SealW.reach [0,1,2,3,4,5,6,7,8,9,10,11] [] rfl rfl rfl rfl ?_ ?_<;>(repeat' (first|exact LocLe.refl _|exact F2.nil|apply F2.cons|exact z12 _|(refine z39 ?_;(omega))|apply ObjLe.box|((first|refine z42 rfl ?_ ?_|refine z13 rfl ?_ ?_);(focus ((repeat' ((exact z6 (fun _=>rfl))));done)))|exact True.intro|apply And.intro))<;>((refine z29 ?_;exact e1)))
      · rw [if_neg he] at hTn
        subst hTn
        repeat' ((first|(apply AWP.go ok;rfl)|(apply z34;kernel_rfl)|(refine z16 (i:=u) rfl gu1 ?_)|(refine z16 (i:=u) rfl gu2 ?_)|(apply And.intro;omega)|((first|(with_reducible apply z11;omega)|(apply z11;omega));intro _)|((apply z7)<;>intro _))<;>conv=>whnf)
        all_goals first|(exfalso;omega)|skip
        all_goals (refine RetS.lay [0,1,2,3,4,5,6,7,8,9,10] [] rfl rfl rfl ?_;refine RetS.done ?_ ?_<;>(repeat' (first|exact LocLe.refl _|exact F2.nil|apply F2.cons|exact z12 _|apply ObjLe.box|((refine z13 rfl ?_ ?_);(focus ((repeat' ((exact z6 (fun _=>rfl))));done))))))
end Go.Proofs.YtknlmbniicacmaaGreat

namespace Go.Proofs.YtknlmbniicacmaaGreat
open Go.Gl
attribute [local irreducible] z31 AWP z48 z52 z50 RetS z57
theorem z287 (N:Nat):List.replicate N [AC.int 0]=(fnL N fun _=>0).map enI:=by
  apply List.ext_getElem (by simp [fnL])
  intro i h1 h2
  simp [fnL,enI]
theorem z707 {N:Nat} {f g:Nat→Int} (h:∀ i,i < N→f i=g i):fnL N f=fnL N g:=List.map_congr_left fun i hi=>h i (List.mem_range.1 hi)
theorem z392 {N i:Nat} (f:Nat→Int) (h:i < (fnL N f).length):(fnL N f)[i]=f i:=by simp [fnL]
set_option maxHeartbeats 12800000 in
theorem z541 (rows:List (List Int)) (hr:∀ r∈rows,InN rows.length r) (hN:rows.length≤100000) (hrl:∀ r∈rows,r.length≤1000000000):CallsA Tryz.prog 237 [lst 1 encL rows] [] (.sref 0 0 rows.length) [.cells 1 ((cmpL rows).map enI)]:=by
  refine z10 z18 Tryz.func237 rfl rfl 77 Tryz.ntmps237 (by simp) ?_
  repeat' ((first|(apply AWP.go ok;rfl)|(apply z34;kernel_rfl)|(apply And.intro;(dsimp only;omega)))<;>conv=>whnf)
  all_goals skip
  obtain ⟨qm,hqm⟩:∃ qm:Nat→Nat→Int,qm=fun i j=>if j < i then -1 else 0:=⟨_,rfl⟩
  have q0:qm 0=fun _=>0:=by rw [hqm];rfl
  have qE:fnL rows.length (qm rows.length)=fnL rows.length fun _=>-1:=z707 fun i hi=>by rw [hqm];dsimp only;rw [if_pos hi]
  have qS:∀ i,qm (i+1)=upd (qm i) i (-1):=fun i=>by
    funext j
    by_cases h:j=i
    · subst h;rw [z28,hqm];dsimp only;rw [if_pos (by omega)]
    · rw [z43 _ _ h,hqm];dsimp only;split<;>split<;>first|rfl|omega
  clear hqm
  refine z64 (fun i:Nat=>([(1,.ptr 0 none 0),(3,.int rows.length),(4,.ptr 4 none 0),(5,.ptr 5 none 0),(6,.ptr 6 none 0),(27,.int rows.length),(28,.int i)],[.cells 1 [[lst 1 encL rows]],.cells 1 ((fnL rows.length fun _=>0).map enI),.cells 1 ((fnL rows.length fun _=>0).map enI),.cells 1 ((fnL rows.length (qm i)).map enI),.cells 1 [[.sref 1 0 rows.length]],.cells 1 [[.sref 2 0 rows.length]],.cells 1 [[.sref 3 0 rows.length]]])) (fun i=>i≤rows.length) (fun i=>rows.length - i) 0 (Nat.zero_le _) (by refine SealW.reach [0,1,2,3,4,5,6] [] rfl rfl rfl rfl ?_ ?_<;>(repeat' (first|exact LocLe.refl _|exact F2.nil|apply F2.cons|apply ObjLe.box|((refine z13 rfl ?_ ?_);(focus ((repeat' (exact z65 rfl));done)))|exact True.intro|apply And.intro))<;>(first|(refine z29 ?_;exact z287 _)|(refine z29 ?_;rw [q0];exact z287 _))) ?_
  intro i hi
  by_cases hi2:i < rows.length
  · have g1:=z147 (qm i) hi2
    have l1:=z97 rows.length (qm i)
    have e1:=z130 (N:=rows.length) (u:=i) (qm i) (-1)
    rw [← qS] at e1
    repeat' ((first|(apply AWP.go ok;rfl)|(refine z16 (i:=i) rfl g1 ?_)|(apply And.intro;first|omega|(unfold inI;omega))|((apply z7)<;>intro _))<;>conv=>whnf)
    all_goals first|(exfalso;omega)|skip
    all_goals refine z23 (i+1) hi2 (by omega) (by refine SealW.reach [0,1,2,3,4,5,6] [] rfl rfl rfl rfl ?_ ?_<;>(repeat' (first|exact LocLe.refl _|exact F2.nil|apply F2.cons|exact z12 _|apply ObjLe.box|((first|refine z42 rfl ?_ ?_|refine z13 rfl ?_ ?_);(focus ((repeat' ((exact z6 (fun _=>rfl))));done)))|exact True.intro|apply And.intro))<;>((refine z29 ?_;exact e1)))
  obtain rfl:i=rows.length:=by omega
  rw [qE]
  clear qE qS q0
  repeat' ((first|(apply AWP.go ok;rfl)|(apply And.intro;omega)|(((apply z11;omega));intro _)|((apply z7)<;>intro _))<;>conv=>whnf)
  all_goals first|(exfalso;omega)|skip
  obtain ⟨S,hS⟩:∃ S:Nat→TS,S=fun k=>(List.range k).foldl (tTop rows) tStart:=⟨_,rfl⟩
  have hTT:∀ k,k≤rows.length→TT rows (S k) k:=fun k hk=>by rw [hS];exact z580 hr k hk
  have hS0:S 0=tStart:=by rw [hS];rfl
  have hSs:∀ k,S (k+1)=tTop rows (S k) k:=fun k=>by
    rw [hS];show (List.range (k+1)).foldl _ _=_
    rw [List.range_succ,List.foldl_append];rfl
  have hSE:S rows.length=tAll rows:=by rw [hS];rfl
  clear hS
  refine z64 (fun k:Nat=>([(1,.ptr 6 none 0),(4,.ptr 1 none 0),(6,.ptr 8 none 0),(11,.ptr 7 none 0),(36,.int rows.length),(37,.int k)],z999 rows (S k))) (fun k=>k≤rows.length) (fun k=>rows.length - k) 0 (Nat.zero_le _) (by refine SealW.reach [8,4,1,5,2,7,0,10,6,3,9] [] rfl rfl rfl rfl ?_ ?_<;>(repeat' (first|exact LocLe.refl _|exact F2.nil|apply F2.cons|apply ObjLe.box|((refine z13 rfl ?_ ?_);(focus ((repeat' ((exact z6 (fun _=>rfl))));done)))|exact True.intro|apply And.intro))<;>(first|(rw [hS0];exact LocLe.refl _)|(rw [hS0];exact z12 _)|(rw [hS0];exact z600))) ?_
  intro k hk
  have hT:=hTT k hk
  have hTn:∀ h:k < rows.length,TT rows (S (k+1)) (k+1):=fun h=>hTT (k+1) h
  by_cases hk2:k < rows.length
  · have hs2:=hSs k
    generalize hS1:S k=s1 at *
    generalize hS2:S (k+1)=s2 at *
    have g1:=z147 s1.num hk2
    have l1:=z97 rows.length s1.num
    unfold tTop at hs2
    by_cases h0:s1.num k=0
    · rw [if_pos h0] at hs2
      have cV:=z873 rows hr hN hrl rows.length s1 [] k (by have:=hT.inv.ct;omega) hT.inv h0 hk2 (by simp) hT.prt
      rw [← hs2] at cV
      repeat' ((first|(apply AWP.go ok;rfl)|(refine z16 (i:=k) rfl g1 ?_)|(apply And.intro;first|omega|(unfold inI;omega))|((apply z7)<;>intro _)|(((apply z8 [0,1,2,3,4,5,6,7,8,9,10] [] [] (cV);rfl;(focus ((repeat' first|exact z4|apply z5)<;>first|rfl|(refine z86 rfl ?_;((exact z6 fun _=>rfl)))))));rfl;rfl;rfl;rfl;rfl;(focus ((repeat' first|exact z15|apply z14)<;>first|exact z20 rfl rfl|(refine z25 ?_;((exact z6 fun _=>rfl)))));(exact .inl rfl)))<;>conv=>whnf)
      all_goals first|(exfalso;omega)|skip
      all_goals refine z23 (k+1) hk2 (by omega) ?_
      all_goals dsimp only
      all_goals rw [hS2]
      all_goals exact (by refine SealW.reach [0,1,2,3,4,5,6,7,8,9,10] [] rfl rfl rfl rfl ?_ ?_<;>(repeat' (first|exact LocLe.refl _|exact F2.nil|apply F2.cons|exact z12 _|apply ObjLe.box|((refine z13 rfl ?_ ?_);(focus ((repeat' ((exact z6 (fun _=>rfl))));done)))|exact True.intro|apply And.intro)))
    · rw [if_neg h0] at hs2
      repeat' ((first|(apply AWP.go ok;rfl)|(refine z16 (i:=k) rfl g1 ?_)|(apply And.intro;first|omega|(unfold inI;omega))|((apply z7)<;>intro _))<;>conv=>whnf)
      all_goals first|(exfalso;omega)|skip
      all_goals refine z23 (k+1) hk2 (by omega) ?_
      all_goals dsimp only
      all_goals rw [hS2,hs2]
      all_goals exact (by refine SealW.reach [0,1,2,3,4,5,6,7,8,9,10] [] rfl rfl rfl rfl ?_ ?_<;>(repeat' (first|exact LocLe.refl _|exact F2.nil|apply F2.cons|exact z12 _|apply ObjLe.box|((refine z13 rfl ?_ ?_);(focus ((repeat' ((exact z6 (fun _=>rfl))));done)))|exact True.intro|apply And.intro)))
  obtain rfl:k=rows.length:=by omega
  rw [hSE]
  clear hTT hS0 hSs hSE hTn hT
  have hcmp:cmpL rows=(List.range rows.length).map fun i=>nmI (fnL rows.length (tAll rows).part) i:=rfl
  obtain ⟨P,hP⟩:∃ P,P=fnL rows.length (tAll rows).part:=⟨_,rfl⟩
  rw [← hP] at hcmp
  have hPl:P.length=rows.length:=by rw [hP,z97]
  generalize tAll rows=s0 at *
  obtain ⟨pm,hpm⟩:∃ pm:Nat→Nat→Int,pm=fun i j=>if j < i then nmI P j else s0.part j:=⟨_,rfl⟩
  have q0:pm 0=s0.part:=by rw [hpm];funext j;simp
  have qE:fnL rows.length (pm rows.length)=cmpL rows:=by
    rw [hcmp]
    exact z707 fun i hi=>by rw [hpm];dsimp only;rw [if_pos hi]
  have qA:∀ i (h:i < rows.length),pm i i=P[i]'(by omega):=fun i h=>by
    rw [hpm];dsimp only;rw [if_neg (by omega)]
    simp only [hP,z392]
  have qS:∀ i,pm (i+1)=upd (pm i) i (nmI P i):=fun i=>by
    funext j
    by_cases h:j=i
    · subst h;rw [z28,hpm];dsimp only;rw [if_pos (by omega)]
    · rw [z43 _ _ h,hpm];dsimp only;split<;>split<;>first|rfl|omega
  clear hpm hcmp
  repeat' ((first|(apply AWP.go ok;rfl)|(apply And.intro;omega)|(((apply z11;omega));intro _)|((apply z7)<;>intro _))<;>conv=>whnf)
  all_goals first|(exfalso;omega)|skip
  refine z64 (fun i:Nat=>([(6,.ptr 1 none 0),(13,.mref 0),(50,.sref 2 0 rows.length),(51,.int rows.length),(52,.int i)],[.mp 0 (z220 0 (metL P i)),.cells 1 [[.sref 2 0 rows.length]],.cells 1 ((fnL rows.length (pm i)).map enI)])) (fun i=>i≤rows.length) (fun i=>rows.length - i) 0 (Nat.zero_le _) (by refine SealW.reach [11,8,9] [] rfl rfl rfl rfl ?_ ?_<;>(repeat' (first|exact LocLe.refl _|exact F2.nil|apply F2.cons|apply ObjLe.box|((refine z13 rfl ?_ ?_);(focus ((repeat' ((exact z6 (fun _=>rfl))));done)))|exact True.intro|apply And.intro))<;>(first|(rw [q0];exact z12 _)|rfl)) ?_
  intro i hi
  by_cases hi2:i < rows.length
  · have g1:=z147 (pm i) hi2
    have l1:=z97 rows.length (pm i)
    have e1:=z130 (N:=rows.length) (u:=i) (pm i) (nmI P i)
    rw [← qS] at e1
    rw [qA i hi2] at g1
    have hiP:i < P.length:=by omega
    have m1:=z481 P[i] 0 (metL P i)
    have m2:=z481 P[i] 0 (metL P (i+1))
    rw [if_pos (z602 hiP),Nat.zero_add,← nmI_at hiP] at m2
    have m3:=z347 hiP
    have m4:=z500 0 (metL P i)
    by_cases hp:P[i]∈metL P i
    · rw [if_pos hp] at m1
      have m5:metL P (i+1)=metL P i:=by rw [m3];unfold z149;rw [if_pos hp]
      rw [m5] at m2
      generalize hes:z220 0 (metL P i)=es at *
      generalize hes2:z220 0 (metL P (i+1))=es2 at *
      have m6:es2=es:=by rw [← hes2,m5,hes]
      generalize nmI P i=nm at *
      generalize P[i]=p at *
      repeat' ((first|(apply AWP.go ok;rfl)|(refine z16 (i:=i) rfl g1 ?_)|(rw [m2])|(apply And.intro;first|omega|(unfold inI;omega))|((apply z7)<;>intro _))<;>conv=>whnf)
      all_goals first|(exfalso;omega)|skip
      all_goals refine z23 (i+1) hi2 (by omega) ?_
      all_goals dsimp only
      all_goals rw [hes2,m6]
      all_goals exact (by refine SealW.reach [0,1,2] [] rfl rfl rfl rfl ?_ ?_<;>(repeat' (first|exact LocLe.refl _|exact F2.nil|apply F2.cons|apply ObjLe.box|((refine z42 rfl ?_ ?_);(focus ((repeat' ((exact z6 (fun _=>rfl))));done)))|exact True.intro|apply And.intro))<;>(first|(refine z29 ?_;exact e1)|rfl))
    · rw [if_neg hp] at m1
      have m5:metL P (i+1)=metL P i++[P[i]]:=by rw [m3];unfold z149;rw [if_neg hp]
      have m6:mput (z220 0 (metL P i)) [P[i]] (z220 0 (metL P i)).length=z220 0 (metL P (i+1)):=by
        rw [z686 _ _ _ hp,m5,z711,z500,Nat.zero_add]
      generalize hes:z220 0 (metL P i)=es at *
      generalize hes2:z220 0 (metL P (i+1))=es2 at *
      generalize nmI P i=nm at *
      generalize P[i]=p at *
      repeat' ((first|(apply AWP.go ok;rfl)|(refine z16 (i:=i) rfl g1 ?_)|(rw [m6])|(rw [m2])|(rw [m1])|(apply And.intro;first|omega|(unfold inI;omega))|((apply z7)<;>intro _))<;>conv=>whnf)
      all_goals first|(exfalso;omega)|skip
      all_goals refine z23 (i+1) hi2 (by omega) ?_
      all_goals dsimp only
      all_goals rw [hes2]
      all_goals exact (by refine SealW.reach [0,1,2] [] rfl rfl rfl rfl ?_ ?_<;>(repeat' (first|exact LocLe.refl _|exact F2.nil|apply F2.cons|apply ObjLe.box|((refine z42 rfl ?_ ?_);(focus ((repeat' ((exact z6 (fun _=>rfl))));done)))|exact True.intro|apply And.intro))<;>(first|(refine z29 ?_;exact e1)|rfl))
  obtain rfl:i=rows.length:=by omega
  rw [qE]
  repeat' ((first|(apply AWP.go ok;rfl)|(apply And.intro;omega)|(((apply z11;omega));intro _)|((first|apply z7|apply z82)<;>intro _))<;>conv=>whnf)
  all_goals first|(exfalso;omega)|skip
  all_goals (refine RetS.lay [2] [] rfl rfl rfl ?_;refine RetS.done ?_ ?_<;>(repeat' (first|exact LocLe.refl _|exact F2.nil|apply F2.cons|exact z12 _|((refine z13 rfl ?_ ?_);(focus ((repeat' ((exact z6 (fun _=>rfl))));done))))))
end Go.Proofs.YtknlmbniicacmaaGreat

namespace Go.Proofs.YtknlmbniicacmaaGreat
open Go.Gl
attribute [local irreducible] z31 AWP z48 z52 z50 RetS z57
def fnB (N:Nat) (f:Nat→Bool):List Bool:=(List.range N).map f
theorem z1047 (N:Nat) (f:Nat→Bool):(fnB N f).length=N:=by simp [fnB]
theorem z1048 {N u:Nat} (f:Nat→Bool) (h:u < N):((fnB N f).map enB)[u]?=some (enB (f u)):=by
  unfold fnB
  rw [List.getElem?_map,List.getElem?_map,List.getElem?_range h];rfl
theorem z853 {N u:Nat} (f:Nat→Bool) (x:Bool):((fnB N f).map enB).set u (enB x)=(fnB N (upd f u x)).map enB:=by
  rw [← List.map_set]
  congr 1
  apply List.ext_getElem (by simp [fnB])
  intro i h1 h2
  rw [List.getElem_set]
  simp only [fnB,List.getElem_map,List.getElem_range]
  split
  · rename_i e;subst e;rw [z28]
  · rename_i e;rw [z43 _ _ (fun h=>e h.symm)]
theorem z852 (N:Nat):List.replicate N [AC.bool false]=(fnB N fun _=>false).map enB:=by
  apply List.ext_getElem (by simp [fnB])
  intro i h1 h2
  simp [fnB,enB]
set_option maxHeartbeats 12800000 in
theorem z924 (rows:List (List Int)) (hr:∀ r∈rows,InN rows.length r) (hN:rows.length≤100000) (hrl:∀ r∈rows,r.length≤1000000000):CallsA Tryz.prog 194 [lst 1 encL rows] [] (.sref 0 0 rows.length) [.cells 1 ((cycB rows).map enB)]:=by
  have cC:=z541 rows hr hN hrl
  have hPl:=z359 rows
  have hPi:=z1064 (rows:=rows)
  have hcy:=fun x hx=>cyc_cnt hr (x:=x) hx
  have hcl:=fun x (hx:x < rows.length)=>z803 hx
  have ccB:cycB rows=fnB rows.length (cycD rows):=rfl
  rw [ccB]
  generalize cmpL rows=P at *
  refine z10 z18 Tryz.func194 rfl rfl 56 Tryz.ntmps194 (by simp) ?_
  repeat' ((first|(apply AWP.go ok;rfl)|(apply And.intro;(dsimp only;omega))|(((apply z8 [] [] [0] (cC);rfl;(focus ((repeat' exact z4)<;>fail))));rfl;rfl;rfl;rfl;rfl;(focus ((repeat' first|exact z15|apply z14)<;>(refine z25 ?_;((exact z6 fun _=>rfl)))));(exact .inl rfl)))<;>conv=>whnf)
  all_goals skip
  obtain ⟨cm,hcm⟩:∃ cm:Nat→Nat→Int,cm=fun i v=>((cntL P i v:Nat):Int):=⟨_,rfl⟩
  have c0:cm 0=fun _=>0:=by rw [hcm];funext v;simp [cntL]
  have cS:∀ i (h:i < P.length),cm (i+1)=upd (cm i) (P[i]).toNat (cm i (P[i]).toNat+1):=fun i h=>by
    have hp:=hPi _ (List.getElem_mem h)
    funext v
    rw [hcm]
    dsimp only
    rw [z718 h]
    by_cases e:v=(P[i]).toNat
    · rw [e,z28,if_pos (by omega)];omega
    · rw [z43 _ _ e,if_neg (by omega)];omega
  have cE:∀ v,cm rows.length v=((cntL P rows.length v:Nat):Int):=fun v=>by rw [hcm]
  have cB:∀ i v,0≤cm i v∧cm i v≤i:=fun i v=>by rw [hcm];have:=cntL_le P i v;dsimp only;omega
  clear hcm
  refine z64 (fun i:Nat=>([(0,lst 1 encL rows),(3,.sref 0 0 rows.length),(4,.sref 1 0 rows.length),(14,.sref 0 0 rows.length),(15,.int rows.length),(16,.int i)],[.cells 1 (P.map enI),.cells 1 ((fnL rows.length (cm i)).map enI)])) (fun i=>i≤rows.length) (fun i=>rows.length - i) 0 (Nat.zero_le _) (by refine SealW.reach [0,1] [] rfl rfl rfl rfl ?_ ?_<;>(repeat' (first|exact LocLe.refl _|exact F2.nil|apply F2.cons|exact z12 _|((refine z13 rfl ?_ ?_);(focus ((repeat' (first|exact z65 rfl|exact z6 (fun _=>rfl)));done)))|exact True.intro|apply And.intro))<;>((refine z29 ?_;rw [c0];exact z287 _))) ?_
  intro i hi
  by_cases hi2:i < rows.length
  · have hiP:i < P.length:=by omega
    have hp:=hPi _ (List.getElem_mem hiP)
    have gp:(P.map enI)[i]?=some (enI P[i]):=by rw [List.getElem?_map,List.getElem?_eq_getElem hiP];rfl
    have cS2:=cS i hiP
    generalize P[i]=p at *
    obtain ⟨v,rfl⟩:∃ v:Nat,p=v:=⟨p.toNat,by omega⟩
    rw [Int.toNat_natCast] at cS2
    have hv:v < rows.length:=by omega
    have gv:=z147 (cm i) hv
    have l1:=z97 rows.length (cm i)
    have e1:=z130 (N:=rows.length) (u:=v) (cm i) (cm i v+1)
    rw [← cS2] at e1
    have b1:=cB i v
    repeat' ((first|(apply AWP.go ok;rfl)|(refine z16 (i:=i) rfl gp ?_)|(refine z16 (i:=v) rfl gv ?_)|(apply And.intro;first|omega|(unfold inI;omega))|((apply z7)<;>intro _))<;>conv=>whnf)
    all_goals first|(exfalso;omega)|skip
    all_goals refine z23 (i+1) hi2 (by omega) (by refine SealW.reach [0,1] [] rfl rfl rfl rfl ?_ ?_<;>(repeat' (first|exact LocLe.refl _|exact F2.nil|apply F2.cons|exact z12 _|((first|refine z42 rfl ?_ ?_|refine z13 rfl ?_ ?_);(focus ((repeat' ((exact z6 (fun _=>rfl))));done)))|exact True.intro|apply And.intro))<;>((refine z29 ?_;exact e1)))
  obtain rfl:i=rows.length:=by omega
  repeat' ((first|(apply AWP.go ok;rfl)|(apply And.intro;first|omega|(dsimp only;omega))|(((apply z11;omega));intro _)|((apply z7)<;>intro _))<;>conv=>whnf)
  all_goals first|(exfalso;omega)|skip
  obtain ⟨bm,hbm⟩:∃ bm:Nat→Nat→Bool,bm=fun i j=>if j < i then cycD rows j else false:=⟨_,rfl⟩
  have b0:bm 0=fun _=>false:=by rw [hbm];rfl
  have bE:fnB rows.length (bm rows.length)=fnB rows.length (cycD rows):=List.map_congr_left fun i hi=>by
    have:=List.mem_range.1 hi
    rw [hbm];dsimp only;rw [if_pos this]
  have bS:∀ i,bm (i+1)=upd (bm i) i (cycD rows i):=fun i=>by
    funext j
    by_cases h:j=i
    · subst h;rw [z28,hbm];dsimp only;rw [if_pos (by omega)]
    · rw [z43 _ _ h,hbm];dsimp only;split<;>split<;>first|rfl|omega
  clear hbm
  refine z64 (fun i:Nat=>([(0,lst 1 encL rows),(3,.sref 0 0 rows.length),(4,.sref 1 0 rows.length),(7,.sref 2 0 rows.length),(31,.int rows.length),(32,.int i)],[.cells 1 (P.map enI),.cells 1 ((fnL rows.length (cm rows.length)).map enI),.cells 1 ((fnB rows.length (bm i)).map enB)])) (fun i=>i≤rows.length) (fun i=>rows.length - i) 0 (Nat.zero_le _) (by refine SealW.reach [0,1,2] [] rfl rfl rfl rfl ?_ ?_<;>(repeat' (first|exact LocLe.refl _|exact F2.nil|apply F2.cons|exact z12 _|((refine z13 rfl ?_ ?_);(focus ((repeat' (first|exact z65 rfl|exact z6 (fun _=>rfl)));done)))|exact True.intro|apply And.intro))<;>((refine z29 ?_;rw [b0];exact z852 _))) ?_
  intro i hi
  by_cases hi2:i < rows.length
  · have hiP:i < P.length:=by omega
    have hp:=hPi _ (List.getElem_mem hiP)
    have gp:(P.map enI)[i]?=some (enI P[i]):=by rw [List.getElem?_map,List.getElem?_eq_getElem hiP];rfl
    have hc:=hcy i hi2
    have e1:=z853 (N:=rows.length) (u:=i) (bm i) (cycD rows i)
    rw [← bS] at e1
    rw [z19 hiP] at hc
    generalize P[i]=p at *
    obtain ⟨v,rfl⟩:∃ v:Nat,p=v:=⟨p.toNat,by omega⟩
    rw [Int.toNat_natCast] at hc
    have hv:v < rows.length:=by omega
    have gv:=z147 (cm rows.length) hv
    have l1:=z97 rows.length (cm rows.length)
    have l2:=z1047 rows.length (bm i)
    have g2:=z1048 (bm i) hi2
    have gr:=z467 hi2
    have hrow:(rows.getD i []).length≤1000000000:=by rw [z19 hi2];exact hrl _ (List.getElem_mem _)
    have cct:=z157 (rows.getD i []) (by unfold maxLen;omega) i
    rw [cE] at gv
    generalize cycD rows i=cy at *
    generalize rows.getD i []=row at *
    generalize cntL P rows.length v=cn at *
    by_cases h1:1 < cn
    · rw [decide_eq_true h1,Bool.true_or] at hc
      subst hc
      repeat' ((first|(apply AWP.go ok;rfl)|(refine z16 (i:=i) rfl gp ?_)|(refine z16 (i:=v) rfl gv ?_)|(refine z16 (i:=i) rfl g2 ?_)|(refine z16 (i:=i) rfl gr ?_)|(apply And.intro;first|omega|(unfold inI;omega))|((apply z7)<;>intro _)|(apply z9 (cct);rfl;rfl))<;>conv=>whnf)
      all_goals first|(exfalso;omega)|skip
      all_goals refine z23 (i+1) hi2 (by omega) (by refine SealW.reach [0,1,2] [] rfl rfl rfl rfl ?_ ?_<;>(repeat' (first|exact LocLe.refl _|exact F2.nil|apply F2.cons|exact z12 _|((first|refine z42 rfl ?_ ?_|refine z13 rfl ?_ ?_);(focus ((repeat' ((exact z6 (fun _=>rfl))));done)))|exact True.intro|apply And.intro))<;>((refine z29 ?_;exact e1)))
    · rw [decide_eq_false h1,Bool.false_or] at hc
      rw [← hc] at cct
      repeat' ((first|(apply AWP.go ok;rfl)|(refine z16 (i:=i) rfl gp ?_)|(refine z16 (i:=v) rfl gv ?_)|(refine z16 (i:=i) rfl g2 ?_)|(refine z16 (i:=i) rfl gr ?_)|(apply And.intro;first|omega|(unfold inI;omega))|((apply z7)<;>intro _)|(apply z9 (cct);rfl;rfl))<;>conv=>whnf)
      all_goals first|(exfalso;omega)|skip
      all_goals refine z23 (i+1) hi2 (by omega) (by refine SealW.reach [0,1,2] [] rfl rfl rfl rfl ?_ ?_<;>(repeat' (first|exact LocLe.refl _|exact F2.nil|apply F2.cons|exact z12 _|((first|refine z42 rfl ?_ ?_|refine z13 rfl ?_ ?_);(focus ((repeat' ((exact z6 (fun _=>rfl))));done)))|exact True.intro|apply And.intro))<;>((refine z29 ?_;exact e1)))
  obtain rfl:i=rows.length:=by omega
  rw [bE]
  repeat' ((first|(apply AWP.go ok;rfl)|(apply And.intro;omega)|((first|(with_reducible apply z11;omega)|(apply z11;omega));intro _)|((apply z7)<;>intro _))<;>conv=>whnf)
  all_goals first|(exfalso;omega)|skip
  all_goals (refine RetS.lay [2] [] rfl rfl rfl ?_;refine RetS.done ?_ ?_<;>(repeat' (first|exact LocLe.refl _|exact F2.nil|apply F2.cons|exact z12 _|((refine z13 rfl ?_ ?_);(focus ((repeat' ((exact z6 (fun _=>rfl))));done))))))
end Go.Proofs.YtknlmbniicacmaaGreat

namespace Go.Proofs.YtknlmbniicacmaaGreat
open Go.Gl
attribute [local irreducible] z31 AWP z48 z52 z50 RetS z57
def inM (Q:List Int) (i:Nat):Bool:=decide ((i:Int)∈Q)
theorem inM_upd (Q:List Int) (w:Nat):inM (Q++[(w:Int)])=upd (inM Q) w true:=by
  funext j
  by_cases h:j=w
  · subst h;rw [z28];unfold inM;simp
  · rw [z43 _ _ h];unfold inM;congr 1
    have:¬ (j:Int)=w:=by omega
    simp [this]
theorem inM_nil:inM []=fun _=>false:=by funext j;simp [inM]
@[reducible] def findF:AC:=.fn (.func 185) [] [.ptr 0 none 0,.ptr 2 none 0]
@[reducible] def z1000 (N:Nat) (Q:List Int):List AObj:=[.cells 1 [[.sref 1 0 N]],.cells 1 ((fnB N (inM Q)).map enB),.cells 1 [[.own 1 (Q.map enI)]]]
set_option maxHeartbeats 3200000 in
theorem z708 (N : Nat) (hN : N ≤ 100000) (Q : List Int) (hQ : Q.length ≤ 100000) (v : Int) (hv : 0 ≤ v ∧ v < N) :
    CallsA Tryz.prog 185 [.int v,.ptr 0 none 0,.ptr 2 none 0] (z1000 N Q) (.tup []) (z1000 N (z149 Q v)):=by
  obtain ⟨w,rfl⟩:∃ w:Nat,v=w:=⟨v.toNat,by omega⟩
  have hw:w < N:=by omega
  have g1:=z1048 (inM Q) hw
  have l1:=z1047 N (inM Q)
  unfold z149
  by_cases h:(w:Int)∈Q
  · rw [if_pos h]
    have e:inM Q w=true:=by unfold inM;simp [h]
    rw [e] at g1
    refine z10 z18 Tryz.func185 rfl rfl 16 Tryz.ntmps185 (by simp) ?_
    repeat' ((first|(apply AWP.go ok;rfl)|(refine z16 (i:=w) rfl g1 ?_)|(apply And.intro;omega))<;>conv=>whnf)
    all_goals skip
    all_goals (refine RetS.lay [0,1,2] [] rfl rfl rfl ?_;refine RetS.done ?_ ?_<;>(repeat' (first|exact LocLe.refl _|exact F2.nil|apply F2.cons|exact z12 _|apply ObjLe.box|((refine z13 rfl ?_ ?_);(focus ((repeat' ((exact z6 (fun _=>rfl))));done))))))
  · rw [if_neg h]
    have e:inM Q w=false:=by unfold inM;simp [h]
    rw [e] at g1
    have e1:=z853 (N:=N) (u:=w) (inM Q) true
    rw [← inM_upd] at e1
    have e2:(List.map enI Q).take (List.map enI Q).length++[enI (w:Int)]=(Q++[(w:Int)]).map enI:=by
      rw [List.take_length];simp
    refine z10 z18 Tryz.func185 rfl rfl 16 Tryz.ntmps185 (by simp) ?_
    repeat' ((first|((fail_if_success apply z146 2);(fail_if_success apply z112 2);apply AWP.go ok;rfl)|(refine z16 (i:=w) rfl g1 ?_)|(apply And.intro;omega))<;>conv=>whnf)
    all_goals skip
    all_goals
      refine AWP.reach (Gl.Reach.expose 2 0 0 rfl rfl rfl (z231 (fun _=>rfl) _) rfl) ?_
      conv=>whnf
      repeat' ((first|(apply AWP.go ok;rfl)|(apply And.intro;first|((try dsimp only);simp only [List.length_map,List.length_take,List.length_append,List.length_replicate,List.length_cons,List.length_nil];omega)|exact ⟨rfl,z21 rfl z30⟩))<;>conv=>whnf)
      all_goals skip
      refine Gl.RetS.absorb 2 5 0 0 rfl rfl rfl rfl (by simp) rfl (z99 (fun e he=>(z6 (fun _=>rfl)) e (List.mem_of_mem_take he)) (z216 rfl z37)) ?_
      conv=>whnf
      (refine RetS.lay [0,1,2] [] rfl rfl rfl ?_;refine RetS.done ?_ ?_<;>(repeat' (first|exact LocLe.refl _|exact F2.nil|apply F2.cons|apply ObjLe.box|((refine z42 rfl ?_ ?_);(focus ((repeat' ((exact z6 (fun _=>rfl))));done))))))
      all_goals first|(refine z29 ?_;exact e1)|exact LocLe.of_eq (congrArg (AC.own 1) e2)
set_option maxHeartbeats 6400000 in
theorem z681 (rows : List (List Int)) (ini : List Int) (hr : ∀ r ∈ rows, InN rows.length r) (hi : InN rows.length ini) (hN : rows.length ≤ 100000) (hrl : ∀ r ∈ rows, r.length ≤ 1000000000) (hil : ini.length ≤ 1000000000) :
    CallsA Tryz.prog 110 [lst 1 encL rows,ints ini] [] (.sref 0 0 (bfsL rows ini).length) [.cells 1 ((bfsL rows ini).map enI)]:=by
  have hvl:∀ l:List Int,InN rows.length l→(z72 [] l).length≤100000:=fun l hl=>by
    have:=z135 rows.length (z72 [] l) (z133 (by simp)) (z205 (fun x hx=>by cases hx) hl)
    omega
  refine z10 z18 Tryz.func110 rfl rfl 50 Tryz.ntmps110 (by simp) ?_
  repeat' ((first|(apply AWP.go ok;rfl)|(apply And.intro;(dsimp only;omega)))<;>conv=>whnf)
  all_goals skip
  refine z64 (fun i:Nat=>([(0,lst 1 encL rows),(6,.ptr 2 none 0),(7,findF),(17,ints ini),(18,.int ini.length),(19,.int i)],z1000 rows.length (z72 [] (ini.take i)))) (fun i=>i≤ini.length) (fun i=>ini.length - i) 0 (Nat.zero_le _) (by refine SealW.reach [1,0,2] [] rfl rfl rfl rfl ?_ ?_<;>(repeat' (first|exact LocLe.refl _|exact F2.nil|apply F2.cons|apply ObjLe.box|((refine z13 rfl ?_ ?_);(focus ((repeat' (exact z65 rfl));done)))|exact True.intro|apply And.intro))<;>(first|exact z600|(refine z29 ?_;show _=(fnB rows.length (inM [])).map enB;rw [inM_nil];exact z852 _))) ?_
  intro i hil1
  by_cases hil2:i < ini.length
  · have gk:(ini.map enI)[i]?=some (enI ini[i]):=by rw [List.getElem?_map,List.getElem?_eq_getElem hil2];rfl
    have hv:=hi _ (List.getElem_mem hil2)
    have hQl:=hvl (ini.take i) fun x hx=>hi x (List.mem_of_mem_take hx)
    have e1:=z225 (out:=[]) hil2
    generalize ini[i]=v at *
    have cf:=z708 rows.length hN (z72 [] (ini.take i)) hQl v hv
    rw [← e1] at cf
    repeat' ((first|(apply AWP.go ok;rfl)|(refine z16 (i:=i) rfl gk ?_)|(apply And.intro;first|omega|(unfold inI;omega))|((apply z7)<;>intro _)|(((apply z8 [0,1,2] [] [] (cf);rfl;(focus ((repeat' first|exact z4|apply z5)<;>first|rfl|(refine z86 rfl ?_;((exact z6 fun _=>rfl)))))));rfl;rfl;rfl;rfl;rfl;(focus ((repeat' first|exact z15|apply z14)<;>first|exact z20 rfl rfl|(refine z25 ?_;((exact z6 fun _=>rfl)))));(exact .inl rfl)))<;>conv=>whnf)
    all_goals first|(exfalso;omega)|skip
    all_goals refine z23 (i+1) hil2 (by omega) (by refine SealW.reach [0,1,2] [] rfl rfl rfl rfl ?_ ?_<;>(repeat' (first|exact LocLe.refl _|exact F2.nil|apply F2.cons|exact z12 _|apply ObjLe.box|((refine z13 rfl ?_ ?_);(focus ((repeat' ((exact z6 (fun _=>rfl))));done)))|exact True.intro|apply And.intro)))
  obtain rfl:i=ini.length:=by omega
  rw [List.take_length]
  repeat' ((first|(apply AWP.go ok;rfl)|(apply And.intro;omega)|(((with_reducible apply z11;omega));intro _)|((apply z7)<;>intro _))<;>conv=>whnf)
  all_goals first|(exfalso;omega)|skip
  refine z64 (fun i:Nat=>([(0,lst 1 encL rows),(6,.ptr 2 none 0),(7,findF),(10,.int i)],z1000 rows.length (bfs rows ini i))) (fun i=>i≤rows.length) (fun i=>rows.length - i) 0 (Nat.zero_le _) (by refine SealW.reach [0,1,2] [] rfl rfl rfl rfl ?_ ?_<;>(repeat' (first|exact LocLe.refl _|exact F2.nil|apply F2.cons|exact z12 _|apply ObjLe.box|((refine z13 rfl ?_ ?_);(focus ((repeat' ((exact z6 (fun _=>rfl))));done)))|exact True.intro|apply And.intro))) ?_
  intro i hi1
  have hQl:=z245 hr hi i
  have hQi:=z365 hr hi i
  refine AWP.reach (Gl.Reach.expose 2 0 0 rfl rfl rfl (z231 (fun _=>rfl) _) rfl) ?_
  by_cases hi2:i < (bfs rows ini i).length
  · have hx:=hQi _ (List.getElem_mem hi2)
    have gx:((bfs rows ini i).map enI)[i]?=some (enI (bfs rows ini i)[i]):=by rw [List.getElem?_map,List.getElem?_eq_getElem hi2];rfl
    have hnx:bfs rows ini (i+1)=z72 (bfs rows ini i) (rows.getD ((bfs rows ini i)[i]).toNat []):=by rw [bfs,dif_pos hi2]
    have hnd:=z508 (rows:=rows) (ini:=ini) i
    generalize hQ' : bfs rows ini (i+1)=Q' at *
    generalize (bfs rows ini i)[i]=x at *
    generalize hQ:bfs rows ini i=Q at *
    obtain ⟨u,rfl⟩:∃ u:Nat,x=u:=⟨x.toNat,by omega⟩
    rw [Int.toNat_natCast] at hnx
    have hu:u < rows.length:=by omega
    have gr:=z467 hu
    have hrow:=z178 hr (u:Int)
    rw [Int.toNat_natCast] at hrow
    have hrowl:(rows.getD u []).length≤1000000000:=by rw [z19 hu];exact hrl _ (List.getElem_mem _)
    generalize rows.getD u []=row at *
    repeat' ((first|(apply AWP.go ok;rfl)|(refine z16 (i:=i) rfl gx ?_)|(refine z16 (i:=u) rfl gr ?_)|(apply And.intro;omega)|((apply z7)<;>intro _))<;>conv=>whnf)
    all_goals first|(exfalso;simp at *;omega)|skip
    all_goals
      refine AWP.reach (Gl.Reach.absorb 2 3 0 0 rfl rfl rfl rfl (by simp) rfl (z6 fun _=>rfl) rfl) ?_
      refine z64 (fun j:Nat=>([(0,lst 1 encL rows),(6,.ptr 2 none 0),(7,findF),(10,.int i),(39,ints row),(40,.int row.length),(41,.int j)],z1000 rows.length (z72 Q (row.take j)))) (fun j=>j≤row.length) (fun j=>row.length - j) 0 (Nat.zero_le _) (by refine SealW.reach [0,1,2] [] rfl rfl rfl rfl ?_ ?_<;>(repeat' (first|exact LocLe.refl _|exact F2.nil|apply F2.cons|exact z12 _|apply ObjLe.box|((refine z13 rfl ?_ ?_);(focus ((repeat' ((exact z6 (fun _=>rfl))));done)))|exact True.intro|apply And.intro))) ?_
      intro j hj
      by_cases hj2:j < row.length
      · have gj:(row.map enI)[j]?=some (enI row[j]):=by rw [List.getElem?_map,List.getElem?_eq_getElem hj2];rfl
        have hv:=hrow _ (List.getElem_mem hj2)
        have hWl:(z72 Q (row.take j)).length≤100000:=by
          have:=z135 rows.length (z72 Q (row.take j)) (z133 hnd) (z205 hQi fun x hx=>hrow x (List.mem_of_mem_take hx))
          omega
        have e1:=z225 (out:=Q) hj2
        generalize row[j]=v at *
        have cf:=z708 rows.length hN (z72 Q (row.take j)) hWl v hv
        rw [← e1] at cf
        repeat' ((first|(apply AWP.go ok;rfl)|(refine z16 (i:=j) rfl gj ?_)|(apply And.intro;first|omega|(unfold inI;omega))|((apply z7)<;>intro _)|(((apply z8 [0,1,2] [] [] (cf);rfl;(focus ((repeat' first|exact z4|apply z5)<;>first|rfl|(refine z86 rfl ?_;((exact z6 fun _=>rfl)))))));rfl;rfl;rfl;rfl;rfl;(focus ((repeat' first|exact z15|apply z14)<;>first|exact z20 rfl rfl|(refine z25 ?_;((exact z6 fun _=>rfl)))));(exact .inl rfl)))<;>conv=>whnf)
        all_goals first|(exfalso;omega)|skip
        all_goals refine z23 (j+1) hj2 (by omega) (by refine SealW.reach [0,1,2] [] rfl rfl rfl rfl ?_ ?_<;>(repeat' (first|exact LocLe.refl _|exact F2.nil|apply F2.cons|exact z12 _|apply ObjLe.box|((refine z13 rfl ?_ ?_);(focus ((repeat' ((exact z6 (fun _=>rfl))));done)))|exact True.intro|apply And.intro)))
      obtain rfl:j=row.length:=by omega
      rw [List.take_length,← hnx]
      repeat' ((first|(apply AWP.go ok;rfl)|(apply And.intro;first|omega|(unfold inI;omega))|(((with_reducible apply z11;omega));intro _)|((apply z7)<;>intro _))<;>conv=>whnf)
      all_goals first|(exfalso;omega)|skip
      all_goals refine z23 (i+1) (by omega) (by omega) ?_
      all_goals dsimp only
      all_goals rw [hQ']
      all_goals exact (by refine SealW.reach [0,1,2] [] rfl rfl rfl rfl ?_ ?_<;>(repeat' (first|exact LocLe.refl _|exact F2.nil|apply F2.cons|exact z12 _|apply ObjLe.box|((refine z13 rfl ?_ ?_);(focus ((repeat' ((exact z6 (fun _=>rfl))));done)))|exact True.intro|apply And.intro)))
  · have hE:=z865 hr hi (i:=i) (by omega) hi1
    rw [← hE]
    repeat' ((first|(apply AWP.go ok;rfl)|(apply And.intro;omega)|((apply z7)<;>intro _))<;>conv=>whnf)
    all_goals first|(exfalso;simp at *;omega)|skip
    all_goals (refine RetS.lay [3] [] rfl rfl rfl ?_;refine RetS.done ?_ ?_<;>(repeat' (first|exact F2.nil|apply F2.cons|exact z12 _|(refine z39 ?_;((simp;done)))|((refine z13 rfl ?_ ?_);(focus ((repeat' ((exact z6 (fun _=>rfl))));done))))))
end Go.Proofs.YtknlmbniicacmaaGreat

namespace Go.Proofs.YtknlmbniicacmaaGreat
open Go.Gl
attribute [local irreducible] z31 AWP z48 z52 z50 RetS z57
theorem swp_map (l:List Int) (i j:Nat):((l.map enI).set i (enI (l.getD j 0))).set j (enI (l.getD i 0))=(swp l i j).map enI:=by
  unfold swp;rw [List.map_set,List.map_set]
set_option maxHeartbeats 1600000 in
theorem z547 (l:List Int) (h1:1≤l.length) (h2:l.length≤1048576):CallsA Tryz.prog 238 [.sref 0 0 l.length] [.cells 1 (l.map enI)] (.tup []) [.cells 1 ((rvs l).map enI)]:=by
  have hR:revG l.length 0 (l.length - 1) l=rvs l:=rfl
  generalize rvs l=R at *
  generalize hn:l.length=n at *
  refine z10 z18 Tryz.func238 rfl rfl 28 Tryz.ntmps238 (by simp) ?_
  repeat' ((first|(apply AWP.go ok;rfl)|(apply And.intro;(unfold inI;omega)))<;>conv=>whnf)
  refine z64 (fun x:Nat×Nat×List Int=>([(0,.sref 0 0 n),(2,.int x.1),(3,.int x.2.1)],[.cells 1 (x.2.2.map enI)])) (fun x=>x.1≤n∧x.2.1 < n∧x.2.2.length=n∧revG (n - x.1) x.1 x.2.1 x.2.2=R) (fun x=>n - x.1) (0,n - 1,l) ⟨by simp,by show n - 1 < n;omega,hn,hR⟩ (by refine SealW.reach [0] [] rfl rfl rfl rfl ?_ ?_<;>(repeat' (first|exact LocLe.refl _|exact F2.nil|apply F2.cons|exact z12 _|((refine z13 rfl ?_ ?_);(focus ((repeat' ((exact z6 (fun _=>rfl))));done)))|exact True.intro|apply And.intro))<;>((rw [show ((n - 1:Nat):Int)=(n:Int) - 1 by omega];exact LocLe.refl _))) ?_
  rintro ⟨i,j,l'⟩ ⟨i1,i2,i3,i4⟩
  dsimp only at i1 i2 i3 i4 ⊢
  by_cases hij:i < j
  · rw [show n - i=(n - (i+1))+1 by omega,revG,if_pos hij] at i4
    have gi:(l'.map enI)[i]?=some (enI (l'.getD i 0)):=by rw [List.getElem?_map,List.getElem?_eq_getElem (by omega),z19 (by omega)];rfl
    have gj:(l'.map enI)[j]?=some (enI (l'.getD j 0)):=by rw [List.getElem?_map,List.getElem?_eq_getElem (by omega),z19 (by omega)];rfl
    have gj2:((l'.map enI).set i (enI (l'.getD j 0)))[j]?=some (enI (l'.getD j 0)):=by rw [List.getElem?_set_ne (by omega)];exact gj
    have es:=swp_map l' i j
    repeat' ((first|(apply AWP.go ok;rfl)|(apply z34;kernel_rfl)|(refine z16 (i:=i) rfl gi ?_)|(refine z16 (i:=j) rfl gj ?_)|(refine z16 (i:=j) rfl gj2 ?_)|(apply And.intro;first|omega|(unfold inI;omega))|((apply z7)<;>intro _))<;>conv=>whnf)
    all_goals first|(exfalso;omega)|skip
    all_goals refine z23 (i+1,j - 1,swp l' i j) ⟨by show i+1≤n;omega,by show j - 1 < n;omega,by show (swp l' i j).length=n;simp [swp,i3],i4⟩ (by show n - (i+1) < n - i;omega) (by refine SealW.reach [0] [] rfl rfl rfl rfl ?_ ?_<;>(repeat' (first|exact LocLe.refl _|exact F2.nil|apply F2.cons|((refine z42 rfl ?_ ?_);(focus ((repeat' (first|exact z6 (fun _=>rfl)|(refine z1050 ?_ _ rfl)));done)))|exact True.intro|apply And.intro))<;>(first|(rw [show ((j - 1:Nat):Int)=(j:Int) - 1 by omega];exact LocLe.refl _)|exact z29 es))
  · have:revG (n - i) i j l'=l':=by cases n - i<;>simp [revG,hij]
    rw [this] at i4
    subst i4
    repeat' ((first|(apply AWP.go ok;rfl)|(apply And.intro;omega)|(((apply z11;omega));intro _)|((apply z7)<;>intro _))<;>conv=>whnf)
    all_goals first|(exfalso;omega)|skip
    all_goals (refine RetS.lay [0] [] rfl rfl rfl ?_;refine RetS.done ?_ ?_<;>(repeat' (first|exact LocLe.refl _|exact F2.nil|apply F2.cons|exact z12 _|((refine z13 rfl ?_ ?_);(focus ((repeat' ((exact z6 (fun _=>rfl))));done))))))
end Go.Proofs.YtknlmbniicacmaaGreat

