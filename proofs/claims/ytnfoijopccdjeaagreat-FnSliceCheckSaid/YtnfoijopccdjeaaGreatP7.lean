/- A part of the proofs over this program: T270, T271, T244, T95, T246, T247, T251W, T258, T273, T287, T250W, T272, T293, T294, T295, T288, T296. -/
import Derived.Test.YtnfoijopccdjeaaGreatG0
import Derived.Test.YtnfoijopccdjeaaGreatG1
import Derived.Test.YtnfoijopccdjeaaGreatG2
import Derived.Test.YtnfoijopccdjeaaGreatG3
import Derived.Test.YtnfoijopccdjeaaGreatP0
import Derived.Test.YtnfoijopccdjeaaGreatP1
import Derived.Test.YtnfoijopccdjeaaGreatP2
import Derived.Test.YtnfoijopccdjeaaGreatP3
import Derived.Test.YtnfoijopccdjeaaGreatP4
import Derived.Test.YtnfoijopccdjeaaGreatP5
import Derived.Test.YtnfoijopccdjeaaGreatP6
set_option linter.all false
namespace Go.Proofs.YtnfoijopccdjeaaGreat
open Go.Gl
attribute [local irreducible] z18 AWP z30 z36 z32
def Nx (s:Sys) (a b:State):Prop:=(∃ x∈z133 s a,b=z73 s a x)∨(z133 s a=[]∧b=a)
inductive Rch (s:Sys) (a:State):State→Prop
 |base:Rch s a a
 |next {b c:State} : Rch s a b→Nx s b c→Rch s a c
theorem Nx.ok {s:Sys} (hs:s.ok) {a b:State} (ha:a.ok s) (h:Nx s a b):b.ok s:=by
 rcases h with ⟨x,hx,rfl⟩|⟨_,rfl⟩
 ·exact z307 hs ha (z313 x hx)
 ·exact ha
theorem Nx.ex (s:Sys) (a:State):∃ b,Nx s a b:=by
 cases h:z133 s a with
 |nil=>exact ⟨a,.inr ⟨h,rfl⟩⟩
 |cons x l=>exact ⟨_,.inl ⟨x,by rw [h];simp,rfl⟩⟩
theorem z610 (t:State):∀ (l:List State) (k:Int),0≤k→(z111 t l k=-1∧t ∉ l)∨∃ m:Nat,z111 t l k=k+m∧l[m]?=some t:=by
 intro l
 induction l with
 |nil=>intro k _;exact .inl ⟨rfl,by simp⟩
 |cons x l ih =>
  intro k hk
  simp only [z111]
  by_cases hx:x=t
  ·rw [if_pos hx]
   exact .inr ⟨0,by simp,by simp [hx]⟩
  ·rw [if_neg hx]
   rcases ih (k+1) (by omega) with ⟨h1,h2⟩|⟨m,h1,h2⟩
   ·exact .inl ⟨h1,by simp [h2];exact fun h=>hx h.symm⟩
   ·exact .inr ⟨m+1,by rw [h1];omega,by simpa using h2⟩
theorem nd_idx {α:Type} {l:List α} (h:l.Nodup) {i j:Nat} {x:α} (hi:l[i]?=some x) (hj:l[j]?=some x):i=j:=by
 obtain ⟨h1,e1⟩:=List.getElem?_eq_some_iff.1 hi
 obtain ⟨h2,e2⟩:=List.getElem?_eq_some_iff.1 hj
 exact (List.getElem_inj h).1 (e1.trans e2.symm)
theorem z539 {t:State} {l:List State} (h:l.Nodup) {m:Nat} (hm:l[m]?=some t):z111 t l 0=m:=by
 rcases z610 t l 0 (by omega) with ⟨_,h2⟩|⟨k,h1,h2⟩
 ·exact absurd (List.mem_of_getElem? hm) h2
 ·rw [h1,nd_idx h hm h2];omega
open Classical in
theorem z653 {N:List Int} {v w:Int} : w∈(if v∈N then N else N++[v])↔w∈N∨w=v:=by
 split
 ·rename_i h
  exact ⟨.inl,fun k=>k.elim id fun e=>e ▸ h⟩
 ·simp
open Classical in
theorem nd_put {N:List Int} {v:Int} (h:N.Nodup):(if v∈N then N else N++[v]).Nodup:=by
 split
 ·exact h
 ·rename_i hv
  rw [y75]
  exact ⟨h,by simp,fun a ha b hb e=>by rw [List.mem_singleton.1 hb] at e;exact hv (e ▸ ha)⟩
theorem z348 {α:Type} {S R:List α} {i:Nat} {x:α} (h:S[i]?=some x):(S++R)[i]?=some x:=by
 rw [y65 (List.getElem?_eq_some_iff.1 h).1];exact h
theorem z1126 {α:Type} {S:List α} {x:α} (h:S.Nodup) (hx:x ∉ S):(S++[x]).Nodup:=by
 rw [y75]
 exact ⟨h,by simp,fun a ha b hb e=>by rw [List.mem_singleton.1 hb] at e;exact hx (e ▸ ha)⟩
structure InnF (s:Sys) (st0:State) (n0:Nat) (P:List Stp) (S:List State) (N:List Int):Prop where
 snd:S.Nodup
 nnd:N.Nodup
 sin:∀ n∈N,0≤n∧∃ x∈P,S[n.toNat]?=some (z73 s st0 x)
 all:∀ x∈P,∃ n∈N,0≤n∧S[n.toNat]?=some (z73 s st0 x)
 new:∀ j:Nat,n0≤j→j < S.length→(j:Int)∈N
theorem InnF.put {s:Sys} {st0:State} {n0:Nat} {P:List Stp} {S:List State} {N:List Int} {x:Stp} {m:Nat} {R:List State} (h:InnF s st0 n0 P S N) (hS:(S++R).Nodup) (hm:(S++R)[m]?=some (z73 s st0 x)) (hn:∀ j:Nat,S.length≤j→j < (S++R).length→j=m):InnF s st0 n0 (P++[x]) (S++R) (open Classical in if (m:Int)∈N then N else N++[(m:Int)]):=by
 refine ⟨hS,nd_put h.nnd,fun n hn=>?_,fun y hy=>?_,fun j h1 h2=>z653.2 ?_⟩
 ·rcases z653.1 hn with hn|rfl
  ·obtain ⟨a,y,hy,e⟩:=h.sin n hn
   exact ⟨a,y,by simp [hy],z348 e⟩
  ·exact ⟨by omega,x,by simp,by simpa using hm⟩
 ·rcases List.mem_append.1 hy with hy|hy
  ·obtain ⟨n,a,b,e⟩:=h.all y hy
   exact ⟨n,z653.2 (.inl a),b,z348 e⟩
  ·rw [List.mem_singleton.1 hy]
   exact ⟨m,z653.2 (.inr rfl),by omega,by simpa using hm⟩
 ·by_cases hj:j < S.length
  ·exact .inl (h.new j h1 hj)
  ·exact .inr (by rw [hn j (by omega) h2])
theorem inn_F {s : Sys} {st0 : State} {n0 : Nat} : ∀ (L P : List Stp) (S : List State) (N : List Int), InnF s st0 n0 P S N → S.length ≤ 60 → match inn s st0 L S N with
  |some (S',N')=>InnF s st0 n0 (P++L) S' N'∧(∃ R,S'=S++R∧∀ t∈R,∃ x∈L,t=z73 s st0 x)
  |none=>∃ R,(S++R).Nodup∧61≤(S++R).length∧∀ t∈R,∃ x∈L,t=z73 s st0 x:=by
 intro L
 induction L with
 |nil =>
  intro P S N h _
  simp only [inn,y64]
  exact ⟨h,[],by simp,by simp⟩
 |cons x L ih =>
  intro P S N h h60
  have ih:=ih (P++[x])
  rw [List.append_assoc] at ih
  simp only [inn]
  rcases z610 (z73 s st0 x) S 0 (by omega) with ⟨h1,h2⟩|⟨m,h1,h2⟩
  ·rw [if_pos (by omega)]
   by_cases hq:60≤(S.length:Int)
   ·rw [if_pos hq]
    exact ⟨[z73 s st0 x],z1126 h.snd h2,by simp;omega,by simp⟩
   ·rw [if_neg hq]
    have hp:=h.put (x:=x) (m:=S.length) (R:=[z73 s st0 x]) (z1126 h.snd h2) (by simp) (fun j a b=>by simp at b;omega)
    have:=ih _ _ hp (by simp;omega)
    split at this
    ·rename_i S' N' e
     try rw [e]
     obtain ⟨a,R,rfl,c⟩:=this
     refine ⟨a,z73 s st0 x::R,by simp,fun t ht=>?_⟩
     rcases List.mem_cons.1 ht with rfl|ht
     ·exact ⟨x,by simp,rfl⟩
     ·obtain ⟨y,hy,e⟩:=c t ht
      exact ⟨y,by simp [hy],e⟩
    ·rename_i e
     try rw [e]
     obtain ⟨R,a,b,c⟩:=this
     refine ⟨z73 s st0 x::R,by simpa using a,by simpa using b,fun t ht=>?_⟩
     rcases List.mem_cons.1 ht with rfl|ht
     ·exact ⟨x,by simp,rfl⟩
     ·obtain ⟨y,hy,e⟩:=c t ht
      exact ⟨y,by simp [hy],e⟩
  ·have hml:=(List.getElem?_eq_some_iff.1 h2).1
   rw [h1,Int.zero_add,if_neg (by omega),if_neg (by omega)]
   have hp:=h.put (x:=x) (m:=m) (R:=[]) (by simpa using h.snd) (by simpa using h2) (fun j a b=>by simp at b;omega)
   rw [y64] at hp
   have:=ih _ _ hp h60
   split at this
   ·rename_i S' N' e
    try rw [e]
    obtain ⟨a,R,rfl,c⟩:=this
    refine ⟨a,R,rfl,fun t ht=>?_⟩
    obtain ⟨y,hy,e⟩:=c t ht
    exact ⟨y,by simp [hy],e⟩
   ·rename_i e
    try rw [e]
    obtain ⟨R,a,b,c⟩:=this
    refine ⟨R,a,b,fun t ht=>?_⟩
    obtain ⟨y,hy,e⟩:=c t ht
    exact ⟨y,by simp [hy],e⟩
theorem inn_len {s:Sys} {st0:State} : ∀ {L:List Stp} {S:List State} {N:List Int} {S' : List State} {N' : List Int},S.length≤60→inn s st0 L S N=some (S',N')→S'.length≤60:=by
 intro L
 induction L with
 |nil =>
  intro S N S' N' h e
  simp only [inn,Option.some.injEq,Prod.mk.injEq] at e
  rw [← e.1];exact h
 |cons x L ih =>
  intro S N S' N' h e
  simp only [inn] at e
  split at e
  ·split at e
   ·cases e
   ·exact ih (by simp;omega) e
  ·split at e
   ·cases e
   ·exact ih h e
structure RowF (s:Sys) (S:List State) (a:State) (r:List Int):Prop where
 nd:r.Nodup
 ne:r≠[]
 sin:∀ n∈r,0≤n∧∃ b,S[n.toNat]?=some b∧Nx s a b
 all:∀ b,Nx s a b→∃ n∈r,0≤n∧S[n.toNat]?=some b
theorem RowF.app {s:Sys} {S R:List State} {a:State} {r:List Int} (h:RowF s S a r):RowF s (S++R) a r :=
 ⟨h.nd,h.ne,fun n hn=>by obtain ⟨x,b,y,z⟩:=h.sin n hn;exact ⟨x,b,z348 y,z⟩,fun b hb=>by obtain ⟨n,x,y,z⟩:=h.all b hb;exact ⟨n,x,y,z348 z⟩⟩
structure GF (s:Sys) (st1:State) (S:List State) (G:List (List Int)) (i:Nat):Prop where
 snd:S.Nodup
 i0:S[0]?=some st1
 gl:G.length=i
 le:i≤S.length
 n60:S.length≤60
 rch:∀ t∈S,Rch s st1 t
 row:∀ k,k < i→∀ a,S[k]?=some a→RowF s S a (G.getD k [])
 par:∀ j:Nat,1≤j→j < S.length→∃ k,k < i∧(j:Int)∈G.getD k []
 ord:∀ c,c < i→∀ n∈G.getD c [],∀ j:Nat,1≤j→(j:Int)≤n→∃ k,k≤c∧(j:Int)∈G.getD k []
theorem z221 {α:Type} {G:List α} {r d:α} {k:Nat} (h:k < G.length):(G++[r]).getD k d=G.getD k d:=by
 rw [y67,y67,y65 h]
theorem z295 {α:Type} {G:List α} {r d:α} : (G++[r]).getD G.length d=r:=by
 rw [y67];simp
theorem GF.step {s:Sys} {st1:State} {S R:List State} {G:List (List Int)} {i:Nat} {st0:State} {N:List Int} (h:GF s st1 S G i) (hst:S[i]?=some st0) (hi:InnF s st0 S.length (z133 s st0) (S++R) N) (hR:∀ t∈R,∃ x∈z133 s st0,t=z73 s st0 x) (hl:(S++R).length≤60):GF s st1 (S++R) (G++[z188 (z133 s st0) N i]) (i+1):=by
 have hgl:=h.gl
 have hil:=(List.getElem?_eq_some_iff.1 hst).1
 have hrow:RowF s (S++R) st0 (z188 (z133 s st0) N i):=by
  unfold z188
  by_cases hz:z133 s st0=[]
  ·rw [if_pos hz]
   have hN:N=[]:=by
    cases N with
    |nil=>rfl
    |cons n N=>obtain ⟨_,x,hx,_⟩:=hi.sin n (by simp);rw [hz] at hx;cases hx
   rw [hN]
   refine ⟨by simp,by simp,fun n hn=>?_,fun b hb=>?_⟩
   ·simp only [List.nil_append,y54] at hn
    subst hn
    exact ⟨by omega,st0,z348 (by simpa using hst),.inr ⟨hz,rfl⟩⟩
   ·rcases hb with ⟨x,hx,_⟩|⟨_,rfl⟩
    ·rw [hz] at hx;cases hx
    ·exact ⟨i,by simp,by omega,z348 (by simpa using hst)⟩
  ·rw [if_neg hz]
   refine ⟨hi.nnd,fun e=>?_,fun n hn=>?_,fun b hb=>?_⟩
   ·obtain ⟨x,hx⟩:=List.exists_mem_of_ne_nil _ hz
    obtain ⟨n,hn,_⟩:=hi.all x hx
    rw [e] at hn;cases hn
   ·obtain ⟨a,x,hx,e⟩:=hi.sin n hn
    exact ⟨a,_,e,.inl ⟨x,hx,rfl⟩⟩
   ·rcases hb with ⟨x,hx,rfl⟩|⟨e,_⟩
    ·exact hi.all x hx
    ·exact absurd e hz
 have hnew:∀ j:Nat,S.length≤j→j < (S++R).length→(j:Int)∈z188 (z133 s st0) N i:=fun j a b=>by
  have:=hi.new j a b
  unfold z188
  split
  ·exact List.mem_append_left _ this
  ·exact this
 have hpar:∀ j:Nat,1≤j→j < (S++R).length→∃ k,k < i+1∧(j:Int)∈(G++[z188 (z133 s st0) N i]).getD k []:=fun j a b=>by
  by_cases hj:j < S.length
  ·obtain ⟨k,hk,e⟩:=h.par j a hj
   exact ⟨k,by omega,by rw [z221 (by omega)];exact e⟩
  ·exact ⟨i,by omega,by rw [← hgl,z295,hgl];exact hnew j (by omega) b⟩
 refine ⟨hi.snd,z348 h.i0,by simp [hgl],by simp;omega,hl,fun t ht=>?_,fun k hk a ha=>?_,hpar,fun c hc n hn j a b=>?_⟩
 ·rcases List.mem_append.1 ht with ht|ht
  ·exact h.rch t ht
  ·obtain ⟨x,hx,rfl⟩:=hR t ht
   exact .next (h.rch st0 (List.mem_of_getElem? hst)) (.inl ⟨x,hx,rfl⟩)
 ·by_cases hki:k < i
  ·have ha' : S[k]?=some a:=by rw [← ha,y65 (by omega)]
   rw [z221 (by omega)]
   exact (h.row k hki a ha').app
  ·have e:k=i:=by omega
   subst e
   have ha' : S[k]?=some a:=by rw [← ha,y65 (by omega)]
   rw [hst] at ha'
   simp only [Option.some.injEq] at ha'
   subst ha'
   rw [show (G++[z188 (z133 s st0) N k]).getD k []=z188 (z133 s st0) N k by rw [← hgl,z295,hgl]]
   exact hrow
 ·by_cases hci:c < i
  ·rw [z221 (by omega)] at hn
   obtain ⟨k,hk,e⟩:=h.ord c hci n hn j a b
   exact ⟨k,hk,by rw [z221 (by omega)];exact e⟩
  ·have e:c=i:=by omega
   subst e
   rw [show (G++[z188 (z133 s st0) N c]).getD c []=z188 (z133 s st0) N c by rw [← hgl,z295,hgl]] at hn
   obtain ⟨p,t,q,_⟩:=hrow.sin n hn
   have:=(List.getElem?_eq_some_iff.1 q).1
   obtain ⟨k,hk,e⟩:=hpar j a (by omega)
   exact ⟨k,by omega,e⟩
theorem grow_F {s : Sys} {st1 : State} : ∀ (f : Nat) (S : List State) (G : List (List Int)) (i : Nat), GF s st1 S G i → 61 ≤ f + i → match grow s f S G i with
  |some g=>GF s st1 g.st g.nx g.st.length
  |none=>∃ T:List State,T.Nodup∧61≤T.length∧∀ t∈T,Rch s st1 t:=by
 intro f
 induction f with
 |zero=>intro S G i h hf;have:=h.le;have:=h.n60;omega
 |succ f ih =>
  intro S G i h hf
  simp only [grow]
  cases hst:S[i]? with
  |none =>
   have:S.length≤i:=List.getElem?_eq_none_iff.1 hst
   have e:i=S.length:=by have:=h.le;omega
   subst e
   exact h
  |some st0 =>
   dsimp only
   have:=inn_F (s:=s) (st0:=st0) (n0:=S.length) (z133 s st0) [] S [] ⟨h.snd,by simp,by simp,by simp,fun j a b=>absurd b (by omega)⟩ h.n60
   rw [List.nil_append] at this
   split at this
   ·rename_i S' N' e
    rw [e]
    obtain ⟨a,R,rfl,c⟩:=this
    dsimp only
    have hl:(S++R).length≤60:=by
     have:=inn_len (L:=z133 s st0) (S:=S) (N:=[]) h.n60 e
     exact this
    exact ih _ _ _ (h.step hst a c hl) (by omega)
   ·rename_i e
    rw [e]
    obtain ⟨R,a,b,c⟩:=this
    refine ⟨S++R,a,b,fun t ht=>?_⟩
    rcases List.mem_append.1 ht with ht|ht
    ·exact h.rch t ht
    ·obtain ⟨x,hx,rfl⟩:=c t ht
     exact .next (h.rch st0 (List.mem_of_getElem? hst)) (.inl ⟨x,hx,rfl⟩)
end Go.Proofs.YtnfoijopccdjeaaGreat
namespace Go.Proofs.YtnfoijopccdjeaaGreat
open Go.Gl
attribute [local irreducible] z18 AWP z30 z36 z32
noncomputable def ini (s:Sys):State:=⟨List.replicate s.ps.length 0,s.init⟩
theorem z1154 {s:Sys} (hs:s.ok):(ini s).ok s:=⟨by simp [ini],hs.init⟩
theorem Rch.ok {s:Sys} (hs:s.ok) {t:State} (h:Rch s (ini s) t):t.ok s:=by
 induction h with
 |base=>exact z1154 hs
 |next _ hn ih=>exact Nx.ok hs ih hn
theorem z1197 {s : Sys} (hs : sysB s = true) : match z90 s with
  |some g=>GF s (ini s) g.st g.nx g.st.length
  |none=>∃ T:List State,T.Nodup∧61≤T.length∧∀ t∈T,Rch s (ini s) t:=by
 unfold z90
 rw [if_pos hs]
 exact grow_F (s:=s) (st1:=ini s) 61 [ini s] [] 0 ⟨by simp,rfl,rfl,by simp,by simp,fun t ht=>by rw [List.mem_singleton.1 ht];exact .base,fun k hk=>absurd hk (by omega),fun j a b=>by simp at b;omega,fun c hc=>absurd hc (by omega)⟩ (by omega)
theorem z325 {s:Sys} {g:Graph} (h:z90 s=some g):sysB s=true∧GF s (ini s) g.st g.nx g.st.length:=by
 have hs:sysB s=true:=by
  unfold z90 at h
  split at h
  ·assumption
  ·cases h
 have:=z1197 hs
 rw [h] at this
 exact ⟨hs,this⟩
theorem z961 {l:List Int} (h:ValsOk l):z280 l=true:=by
 unfold z280
 rw [y70,decide_eq_true_eq,Bool.not_eq_true',List.any_eq_false]
 exact ⟨by have:=h.1;omega,fun x hx=>by simpa [z116] using h.2 x hx⟩
theorem z873 {l:List Int} {n:Int} (h:l.Nodup) (hr:∀ x∈l,0≤x∧x < n):Distinct l n l.length:=by
 intro i hi _
 have:=hr l[i] (y44 _)
 refine ⟨⟨this.1,by omega⟩,fun hm=>?_⟩
 obtain ⟨j,hj,e⟩:=List.mem_take_iff_getElem.1 hm
 have:=(List.getElem_inj h).1 e
 omega
theorem GF.at' {s:Sys} {st1:State} {g:Graph} (h:GF s st1 g.st g.nx g.st.length) {i:Nat} (hi:i < g.st.length):RowF s g.st g.st[i] (g.nx.getD i []):=h.row i hi _ (y45 hi)
theorem z483 {s:Sys} {g:Graph} (h:z90 s=some g):GB g:=by
 obtain ⟨hs,hF⟩:=z325 h
 have hn:=hF.n60
 have hg:=hF.gl
 have h0:=(List.getElem?_eq_some_iff.1 hF.i0).1
 refine ⟨⟨by omega,hn⟩,hg,fun i hi h1 h2=>?_⟩
 have hr:=hF.at' h2
 rw [z19 h1] at hr
 have hd:=z873 (n:=g.st.length) hr.nd fun x hx=>by
  obtain ⟨a,b,c,_⟩:=hr.sin x hx
  have:=(List.getElem?_eq_some_iff.1 c).1
  exact ⟨a,by omega⟩
 have hl:=hd.le (by omega)
 have h00:g.nx[i].length≠0:=fun h=>hr.ne (y73 h)
 exact ⟨by omega,by omega,z961 (Rch.ok (y14 hs) (hF.rch _ (y44 _))).b,hd⟩
def Run (s:Sys) (σ:Nat→State):Prop:=σ 0=ini s∧∀ k,Nx s (σ k) (σ (k+1))
theorem z1194 {s:Sys} {g:Graph} (h:z90 s=some g) {π:Nat→Int} (hp:GPath g π):∃ σ,Run s σ∧∀ k,g.st[(π k).toNat]?=some (σ k):=by
 obtain ⟨hs,hF⟩:=z325 h
 have hin:=hp.inn (z483 h)
 refine ⟨fun k=>g.st.getD (π k).toNat ⟨[],[]⟩,⟨?_,fun k=>?_⟩,fun k=>?_⟩
 ·show g.st.getD (π 0).toNat _=_
  rw [hp.1,y67,show ((0:Int)).toNat=0 from rfl,hF.i0];rfl
 ·have a:=hin k
  have ha:(π k).toNat < g.st.length:=by omega
  obtain ⟨_,b,e,hb⟩:=(hF.at' ha).sin _ (hp.2 k)
  show Nx s (g.st.getD (π k).toNat _) (g.st.getD (π (k+1)).toNat _)
  rw [z19 ha,y67,e]
  exact hb
 ·have a:=hin k
  show g.st[(π k).toNat]?=some (g.st.getD (π k).toNat ⟨[],[]⟩)
  rw [y67,y45 (show (π k).toNat < g.st.length by omega)];rfl
theorem z508 {s:Sys} {g:Graph} (h:z90 s=some g) {σ:Nat→State} (hr:Run s σ):∃ π,GPath g π∧∀ k,g.st[(π k).toNat]?=some (σ k):=by
 obtain ⟨hs,hF⟩:=z325 h
 have hm:∀ k,∃ i:Nat,g.st[i]?=some (σ k):=fun k=>by
  induction k with
  |zero=>exact ⟨0,by rw [hr.1];exact hF.i0⟩
  |succ k ih =>
   obtain ⟨i,hi⟩:=ih
   have hil:=(List.getElem?_eq_some_iff.1 hi).1
   obtain ⟨n,_,_,e⟩:=(hF.row i hil _ hi).all _ (hr.2 k)
   exact ⟨n.toNat,e⟩
 have hz:∀ k,g.st[(z111 (σ k) g.st 0).toNat]?=some (σ k):=fun k=>by
  obtain ⟨i,hi⟩:=hm k
  rw [z539 hF.snd hi];simpa using hi
 refine ⟨fun k=>z111 (σ k) g.st 0,⟨?_,fun k=>?_⟩,hz⟩
 ·show z111 (σ 0) g.st 0=0
  rw [hr.1,z539 hF.snd hF.i0];rfl
 ·have hil:=(List.getElem?_eq_some_iff.1 (hz k)).1
  obtain ⟨n,hn,n0,e⟩:=(hF.row _ hil _ (hz k)).all _ (hr.2 k)
  show z111 (σ (k+1)) g.st 0∈g.nx.getD (z111 (σ k) g.st 0).toNat []
  rw [z539 hF.snd e,Int.toNat_of_nonneg n0]
  exact hn
theorem z613 {s:Sys} {g:Graph} (h:z90 s=some g) (l:List Tree) (w:Nat→Int):(∃ π,GPath g π∧gW g l π=w)↔∃ σ,Run s σ∧(fun k=>z59 l (σ k))=w:=by
 have key:∀ (π:Nat→Int) (σ:Nat→State),(∀ k,g.st[(π k).toNat]?=some (σ k))→gW g l π=fun k=>z59 l (σ k):=fun π σ e=>by
  funext k
  unfold gW
  rw [y67,y51,e k];rfl
 constructor
 ·rintro ⟨π,hp,rfl⟩
  obtain ⟨σ,hs,e⟩:=z1194 h hp
  exact ⟨σ,hs,(key π σ e).symm⟩
 ·rintro ⟨σ,hs,rfl⟩
  obtain ⟨π,hp,e⟩:=z508 h hs
  exact ⟨π,hp,key π σ e⟩
end Go.Proofs.YtnfoijopccdjeaaGreat
namespace Go.Proofs.YtnfoijopccdjeaaGreat
open Go.Gl
attribute [local irreducible] z18 AWP z30 z36 z32 RetS z38
set_option maxHeartbeats 3200000 in
theorem z1181 (bs:List Int) (hb:CodeOk bs):∃ (g:Graph) (l:List Tree) (f:Tree),(g.d∧Lab.d l∧f.sz≤22)∧CallsA Tryz.prog 30 [lst 1 enU bs] [] (.tup [.agg g.cs,lst 3 Tree.cs' l,z24 Tree.cs' f]) []:=by
 have co:=z603 bs hb.len
 have hbt:=hb.take
 generalize bs.take 2000=b0 at *
 obtain ⟨l,p1,⟨l1,l2,l3,l4⟩,c1⟩:=z854 b0 hbt 0 ⟨by omega,by omega⟩
 obtain ⟨f0,p2,⟨a1,a2,a3⟩,c2⟩:=z748 b0 hbt p1 ⟨by omega,by omega⟩
 obtain ⟨f,p3,⟨b1,b2,b3⟩,cm⟩:=z856 b0 hbt p2 ⟨by omega,by omega⟩ f0 (by omega)
 obtain ⟨g0,g,p4,p5,cg0,cg,hg,q1,q2⟩:=mutG_ok b0 hbt p3 ⟨by omega,by omega⟩
 refine ⟨g,l,f,⟨hg,⟨l1,l2⟩,by omega⟩,?_⟩
 rw [y16 f] at *
 rw [y16 f0] at *
 refine z7 z16 Tryz.func30 rfl rfl 22 Tryz.ntmps30 (by simp) ?_
 repeat' ((first|(apply y4 ok;rfl)|(apply z26;kernel_rfl)|((first|(apply z25 [] [2] co;rfl;rfl)|(apply z25 [2] [] c1;rfl;rfl)|(apply z25 [2] [] c2;rfl;rfl)|(apply z25 [2] [] cm;rfl;rfl)|(apply z25 [2] [] cg0;rfl;rfl)|(apply z25 [2] [] cg;rfl;rfl));rfl))<;>conv=>whnf)
 all_goals (refine rsD [] [] rfl ?_;(repeat' first|exact y85 _|constructor))
theorem z669 (g:Graph) (hg:g.mx) (l:List Tree) (hl:Lmx l) (f:Tree) (hf:f.mx):CallsA Tryz.prog 11 [.agg g.cs,lst 3 Tree.cs' l,z24 Tree.cs' f] [] (.tup [.int (vdI g l f),.agg (vdT g l f).cs]) []:=(by refine y5 (z576 g hg l hl f hf) [] [0,1] rfl rfl rfl ?_ ?_<;>(repeat' first|exact y85 _|((apply z37 rfl rfl rfl);(focus ((repeat ((exact z23 (fun _=>rfl) _)));done));(focus (((simp;done));done)))|apply z46|apply z93|constructor))
end Go.Proofs.YtnfoijopccdjeaaGreat
namespace Go.Proofs.YtnfoijopccdjeaaGreat
open Go.Gl
attribute [local irreducible] z18 AWP z30 z36 z32
end Go.Proofs.YtnfoijopccdjeaaGreat
namespace Go.Proofs.YtnfoijopccdjeaaGreat
open Go.Gl
attribute [local irreducible] z18 AWP z30 z36 z32 RetS z38
theorem vdT_none {g:Graph} {l:List Tree} {f:Tree} (h:vdI g l f≠1):vdT g l f=⟨[],[]⟩:=by
 unfold vdI at h
 unfold vdT
 split
 ·rename_i h1
  rw [if_pos h1] at h
  split
  ·rename_i h2
   rw [if_pos h2] at h
   refine z937 ?_
   by_cases h5:(ftO g l (ngA f)).isSome=true
   ·rw [if_pos h5] at h;exact absurd rfl h
   ·exact (y71 _).mp h5
  ·rfl
 ·rfl
theorem vdT_in {g:Graph} {l:List Tree} {f:Tree} : ∀ x∈(vdT g l f).all,0≤x∧x < g.st.length:=fun x hx=>by
 by_cases h:vdI g l f=1
 ·have ht:=vd_trace h
  unfold trB at ht
  simp only [y70] at ht
  obtain ⟨i,hi,rfl⟩:=List.mem_iff_getElem.1 hx
  exact z1109 ht.2.1 i hi
 ·rw [vdT_none h] at hx;cases hx
noncomputable def csO (s:Sys) (l:List Tree) (f:Tree):Option Graph:=if (sysB s && (z85 l && f.fmB))=true then z90 s else none
noncomputable def csV (s:Sys) (l:List Tree) (f:Tree):Int:=if (sysB s && (z85 l && f.fmB))=true then (match z90 s with|none=>2|some g=>vdI g l f) else 3
noncomputable def csA (s:Sys) (l:List Tree) (f:Tree):List State:=match csO s l f with|none=>[]|some g=>stsL g (vdT g l f).stem
noncomputable def csB (s:Sys) (l:List Tree) (f:Tree):List State:=match csO s l f with|none=>[]|some g=>stsL g (vdT g l f).loop
theorem build_sm {s:Sys} {g:Graph} (h:z90 s=some g):(∀ t∈g.st,t.sm)∧g.st.length≤60∧g.nx.length≤60∧g.sm:=by
 obtain ⟨hsB,hF⟩:=z325 h
 have hs:=y14 hsB
 have h1:=hF.n60
 have h2:=hF.gl
 have h3:∀ t∈g.st,t.sm:=fun t ht=>(Rch.ok hs (hF.rch t ht)).sm hs
 exact ⟨h3,h1,by omega,⟨by omega,by omega,h3,fun r hr=>by
  obtain ⟨i,hi,rfl⟩:=List.mem_iff_getElem.1 hr
  have:=(GB.row (z483 h) i hi).2.1
  omega⟩⟩
set_option maxHeartbeats 3200000 in
theorem z389 (s:Sys) (hs:s.s1) (l:List Tree) (hl:Lmx l) (f:Tree) (hf:f.mx):CallsA Tryz.prog 8 [.agg s.cs,lst 3 Tree.cs' l,z24 Tree.cs' f] [] (.tup [.int (csV s l f),lst 2 State.cs (csA s l f),lst 2 State.cs (csB s l f)]) []:=by
 have c1:=z206 s hs
 have c2:=z138 l hl.1 hl.2
 have c3:=z113 f hf
 cases hv:(sysB s && (z85 l && f.fmB)) with
 |false =>
  have e1:csV s l f=3:=by unfold csV;rw [hv];rfl
  have e0:csO s l f=none:=by unfold csO;rw [hv];rfl
  have e2:csA s l f=[]:=by unfold csA;rw [e0]
  have e3:csB s l f=[]:=by unfold csB;rw [e0]
  rw [e1,e2,e3]
  rw [y16 f] at *
  generalize sysB s=b1 at *
  generalize z85 l=b2 at *
  generalize f.fmB=b3 at *
  refine z7 z16 Tryz.func8 rfl rfl 49 Tryz.ntmps8 (by simp) ?_
  cases b1<;>cases b2<;>cases b3
  all_goals first|(exfalso;revert hv;decide)|skip
  all_goals
   repeat' ((first|(apply y4 ok;rfl)|(apply z6 (c1);rfl;rfl)|(apply z6 (c2);rfl;rfl)|(apply z6 (c3);rfl;rfl))<;>conv=>whnf)
   all_goals (refine rsD [] [] rfl ?_;(repeat' first|exact y85 _|exact z41|apply z93|constructor))
 |true =>
  obtain ⟨hsB,h2⟩:=Bool.and_eq_true_iff.1 hv
  obtain ⟨hLB,hfB⟩:=Bool.and_eq_true_iff.1 h2
  rw [hsB] at c1
  rw [hLB] at c2
  rw [hfB] at c3
  have c4:=z765 s hsB
  cases hb:z90 s with
  |none =>
   have e1:csV s l f=2:=by unfold csV;rw [hv,hb];rfl
   have e0:csO s l f=none:=by unfold csO;rw [hv,hb];rfl
   have e2:csA s l f=[]:=by unfold csA;rw [e0]
   have e3:csB s l f=[]:=by unfold csB;rw [e0]
   rw [hb] at c4
   rw [e1,e2,e3]
   rw [y16 f] at *
   generalize (none:Option Graph).getD ⟨[],[]⟩=g0 at *
   refine z7 z16 Tryz.func8 rfl rfl 49 Tryz.ntmps8 (by simp) ?_
   repeat' ((first|(apply y4 ok;rfl)|(apply z6 (c1);rfl;rfl)|(apply z6 (c2);rfl;rfl)|(apply z6 (c3);rfl;rfl)|(apply z6 (c4);rfl;rfl))<;>conv=>whnf)
   all_goals (refine rsD [] [] rfl ?_;(repeat' first|exact y85 _|exact z41|apply z93|constructor))
  |some g =>
   have e1:csV s l f=vdI g l f:=by unfold csV;rw [hv,hb];rfl
   have e0:csO s l f=some g:=by unfold csO;rw [hv,hb];rfl
   have e2:csA s l f=stsL g (vdT g l f).stem:=by unfold csA;rw [e0]
   have e3:csB s l f=stsL g (vdT g l f).loop:=by unfold csB;rw [e0]
   rw [hb] at c4
   rw [e1,e2,e3]
   obtain ⟨q1,q2,q3,q4⟩:=build_sm hb
   have hin:=vdT_in (g:=g) (l:=l) (f:=f)
   obtain ⟨z1,z2⟩:=vdT_le (g:=g) (l:=l) (f:=f)
   have c5:=z669 g q4.mx l hl f hf
   have c6:=z292 g q1 (by omega) (vdT g l f).stem (fun x hx=>hin x (by unfold Trace.all;simp [hx])) (by omega)
   have c7:=z292 g q1 (by omega) (vdT g l f).loop (fun x hx=>hin x (by unfold Trace.all;simp [hx])) (by omega)
   rw [show (some g).getD ⟨[],[]⟩=g from rfl,show (some g).isSome=true from rfl] at c4
   generalize stsL g (vdT g l f).stem=A at *
   generalize stsL g (vdT g l f).loop=B at *
   generalize vdT g l f=t at *
   generalize vdI g l f=v at *
   rw [y16 f] at *
   refine z7 z16 Tryz.func8 rfl rfl 49 Tryz.ntmps8 (by simp) ?_
   repeat' ((first|(apply y4 ok;rfl)|(apply z26;kernel_rfl)|(apply z6 (c1);rfl;rfl)|(apply z6 (c2);rfl;rfl)|(apply z6 (c3);rfl;rfl)|(apply z6 (c4);rfl;rfl)|(apply z6 (c5);rfl;rfl)|(apply z6 (c6);rfl;rfl)|(apply z6 (c7);rfl;rfl))<;>conv=>whnf)
   all_goals (refine rsD [] [] rfl ?_;(repeat' first|exact y85 _|constructor))
end Go.Proofs.YtnfoijopccdjeaaGreat
namespace Go.Proofs.YtnfoijopccdjeaaGreat
open Go.Gl
attribute [local irreducible] z18 AWP z30 z36 z32
theorem vd_words {g h:Graph} {l:List Tree} (e:glB g l=glB h l) (hw:glB g l=true→∀ w,(∃ π,GPath g π∧gW g l π=w)↔∃ π,GPath h π∧gW h l π=w) (f:Tree):vdI g l f=vdI h l f:=by
 unfold vdI
 rw [← e]
 by_cases h1:(glB g l && f.fmB)=true
 ·obtain ⟨h2,h3⟩:=Bool.and_eq_true_iff.1 h1
  rw [if_pos h1,if_pos h1]
  by_cases h4:ngS f=true
  ·rw [if_pos h4,if_pos h4]
   have hb:(ftO g l (ngA f)).isSome=(ftO h l (ngA f)).isSome:=by
    rw [Bool.eq_iff_iff,z1049 h2 h4,z1049 (by rw [← e];exact h2) h4]
    constructor
    ·rintro ⟨π,hp,hn⟩
     obtain ⟨σ,hs,ew⟩:=(hw h2 _).1 ⟨π,hp,rfl⟩
     exact ⟨σ,hs,by rw [ew];exact hn⟩
    ·rintro ⟨π,hp,hn⟩
     obtain ⟨σ,hs,ew⟩:=(hw h2 _).2 ⟨π,hp,rfl⟩
     exact ⟨σ,hs,by rw [ew];exact hn⟩
   rw [hb]
  ·rw [if_neg h4,if_neg h4]
 ·rw [if_neg h1,if_neg h1]
def Proc.mg (p:Proc) (o:List Bool):List Bool:=p.es.foldl (fun o e=>e.gd.mark o) o
open Classical in
noncomputable def Edge.mv (o:List Bool) (e:Edge):List Bool:=if 0≤e.var∧o.getD e.var.toNat false=true then e.val.mark o else o
noncomputable def Sys.rnd (s:Sys) (o:List Bool):List Bool:=s.ps.foldl (fun o p=>p.es.foldl Edge.mv o) o
def Sys.rel0 (s:Sys) (l:List Tree):List Bool:=s.ps.foldl (fun o p=>p.mg o) (l.foldl (fun o t=>t.mark o) [false,false,false])
noncomputable def Sys.rel (s:Sys) (l:List Tree):List Bool:=s.rnd (s.rnd (s.rnd (s.rel0 l)))
theorem z1128 (o:List Bool) (e:Edge):leB o (Edge.mv o e):=by
 unfold Edge.mv
 split
 ·exact Tree.mark_le _ _
 ·exact leB.refl _
theorem mg_le (o:List Bool) (p:Proc):leB o (p.mg o):=z105 (f:=fun o (e:Edge)=>e.gd.mark o) (fun o e=>e.gd.mark_le o) _ _
theorem z726 (s:Sys) (o:List Bool):leB o (s.rnd o):=z105 (f:=fun o (p:Proc)=>p.es.foldl Edge.mv o) (fun o p=>z105 z1128 _ _) _ _
theorem z1102 (s:Sys) (l:List Tree):leB (l.foldl (fun o t=>t.mark o) [false,false,false]) (s.rel0 l):=z105 (f:=fun o (p:Proc)=>p.mg o) mg_le _ _
theorem z1100 (s:Sys) (l:List Tree):leB (s.rel0 l) (s.rel l):=(z726 s _).trans ((z726 s _).trans (z726 s _))
theorem z467 (s:Sys) (l:List Tree):(s.rel0 l).length=3:=by rw [← (z1102 s l).1,← (y29 l _).1];rfl
theorem z513 (s:Sys) (l:List Tree):(s.rel l).length=3:=by rw [← (z1100 s l).1,z467]
theorem z671 {α:Type} {f:List Bool→α→List Bool} (h:∀ o x,leB o (f o x)) {L:List α} {x:α} (hx:x∈L) (o:List Bool):∃ o',leB o o'∧leB (f o' x) (L.foldl f o):=by
 induction L generalizing o with
 |nil=>cases hx
 |cons y L ih =>
  rcases List.mem_cons.1 hx with rfl|hx
  ·exact ⟨o,leB.refl o,z105 h L _⟩
  ·obtain ⟨o',a,b⟩:=ih hx (f o y)
   exact ⟨o',(h o y).trans a,b⟩
structure Cov (s:Sys) (l:List Tree) (v:List Bool):Prop where
 len:v.length=3
 lab:∀ t∈l,t.good→∀ b c:List Int,(∀ i:Nat,v.getD i false=true→b.getD i 0=c.getD i 0)→t.ev b=t.ev c
 gd:∀ i k,i < s.ps.length→k < (s.pr i).es.length→((s.pr i).eg k).gd.good→∀ b c:List Int,(∀ i:Nat,v.getD i false=true→b.getD i 0=c.getD i 0)→((s.pr i).eg k).gd.ev b=((s.pr i).eg k).gd.ev c
 val:∀ i k,i < s.ps.length→k < (s.pr i).es.length→0≤((s.pr i).eg k).var→v.getD ((s.pr i).eg k).var.toNat false=true→((s.pr i).eg k).val.good→∀ b c:List Int,(∀ i:Nat,v.getD i false=true→b.getD i 0=c.getD i 0)→((s.pr i).eg k).val.ev b=((s.pr i).eg k).val.ev c
theorem z733 {s:Sys} {i:Nat} (h:i < s.ps.length):s.pr i∈s.ps:=by unfold Sys.pr;rw [z19 h];exact y44 _
theorem z775 {p:Proc} {k:Nat} (h:k < p.es.length):p.eg k∈p.es:=by unfold Proc.eg;rw [z19 h];exact y44 _
theorem z1101 (s:Sys) (l:List Tree):Cov s l (s.rel l):=by
 have hlen:=z513 s l
 have hle:=z1100 s l
 have h3:([false,false,false]:List Bool).length=3:=rfl
 refine ⟨hlen,fun t ht hg b c he=>?_,fun i k hi hk hg b c he=>?_,fun i k hi hk h0 hv hg b c he=>?_⟩
 ·obtain ⟨o',a,a2⟩:=z671 (f:=fun o (t:Tree)=>t.mark o) (fun o t=>t.mark_le o) ht [false,false,false]
  refine t.mark_ev hg o' (by rw [← a.1];exact h3) b c fun i hi=>he i (hle.2 i ((z1102 s l).2 i (a2.2 i hi)))
 ·obtain ⟨o',a,a2⟩:=z671 (f:=fun o (p:Proc)=>p.mg o) mg_le (z733 hi) (l.foldl (fun o t=>t.mark o) [false,false,false])
  obtain ⟨o2,a3,a4⟩:=z671 (f:=fun o (e:Edge)=>e.gd.mark o) (fun o e=>e.gd.mark_le o) (z775 hk) o'
  refine ((s.pr i).eg k).gd.mark_ev hg o2 ?_ b c fun j hj=>he j (hle.2 j (a2.2 j (a4.2 j hj)))
  rw [← a3.1,← a.1,← (y29 l _).1];rfl
 ·have hfix:s.rnd (s.rel l)=s.rel l:=z704 (z726 s) (z467 s l)
  have f1:=z768 (f:=fun o (p:Proc)=>p.es.foldl Edge.mv o) (fun o p=>z105 z1128 _ _) s.ps (s.rel l) hfix _ (z733 hi)
  have f2:=z768 z1128 _ _ f1 _ (z775 hk)
  unfold Edge.mv at f2
  rw [if_pos ⟨h0,hv⟩] at f2
  exact ((s.pr i).eg k).val.mark_ev hg _ hlen b c fun j hj=>he j (by rw [f2] at hj;exact hj)
open Classical in
noncomputable def slE (v:List Bool) (e:Edge):Edge:=if 0≤e.var∧v.getD e.var.toNat false=false then ⟨e.fr,e.to,e.gd,-1,leaf 0 0,e.sync⟩ else e
noncomputable def slP (v:List Bool) (p:Proc):Proc:=⟨p.loc,p.es.map (slE v)⟩
noncomputable def slS (v:List Bool) (s:Sys):Sys:=⟨s.init,s.ps.map (slP v)⟩
def prjB (v:List Bool) (z b:List Int):List Int:=[if v.getD 0 false then b.getD 0 0 else z.getD 0 0,if v.getD 1 false then b.getD 1 0 else z.getD 1 0,if v.getD 2 false then b.getD 2 0 else z.getD 2 0]
def prjS (v:List Bool) (s:Sys) (st:State):State:=⟨st.a,prjB v s.init st.b⟩
theorem z645 {v:List Bool} (hv:v.length=3) {z b:List Int} (i:Nat) (h:v.getD i false=true):(prjB v z b).getD i 0=b.getD i 0:=by
 match i with
 |0=>show (if v.getD 0 false then _ else _)=_;rw [h];rfl
 |1=>show (if v.getD 1 false then _ else _)=_;rw [h];rfl
 |2=>show (if v.getD 2 false then _ else _)=_;rw [h];rfl
 |i+3=>rw [y67,y68 (by omega)] at h;simp at h
theorem z1107 (v:List Bool) {z:List Int} (h:z.length=3):prjB v z z=z:=by
 match z,h with
 |[a,b,c],_=>simp [prjB]
theorem z919 {v:List Bool} {z b:List Int} (hb:b.length=3) {i:Nat} (hi:i < 3) (x:Int):prjB v z (b.set i x)=if v.getD i false=true then (prjB v z b).set i x else prjB v z b:=by
 match b,hb with
 |[a,b,c],_ =>
  have:i=0∨i=1∨i=2:=by omega
  rcases this with rfl|rfl|rfl
  all_goals
   unfold prjB
   generalize v.getD 0 false=p at *
   generalize v.getD 1 false=q at *
   generalize v.getD 2 false=r at *
   cases p<;>cases q<;>cases r<;>rfl
variable {s:Sys} {v:List Bool}
theorem z343:(slS v s).ps.length=s.ps.length:=by simp [slS]
theorem z915 {i:Nat} (hi:i < s.ps.length):(slS v s).pr i=slP v (s.pr i):=by
 unfold Sys.pr slS
 rw [z19 (by simpa using hi),z19 hi,List.getElem_map]
theorem z834 {p:Proc} : (slP v p).es.length=p.es.length:=by simp [slP]
theorem z1084 {p:Proc} {k:Nat} (hk:k < p.es.length):(slP v p).eg k=slE v (p.eg k):=by
 unfold Proc.eg slP
 rw [z19 (by simpa using hk),z19 hk,List.getElem_map]
theorem z1086 (e:Edge):(slE v e).fr=e.fr∧(slE v e).to=e.to∧(slE v e).gd=e.gd∧(slE v e).sync=e.sync:=by unfold slE;split<;>exact ⟨rfl,rfl,rfl,rfl⟩
theorem z404 {α:Type} {n:Nat} {f g:Nat→List α} (h:∀ i,i < n→f i=g i):cat n f=cat n g:=by
 induction n with
 |zero=>rfl
 |succ n ih=>rw [z160,z160,ih fun i hi=>h i (by omega),h n (by omega)]
theorem sl_rdy {l:List Tree} (hs:s.ok) (hc:Cov s l v) {st:State} {j m:Nat} (i:Nat) (hj:j < s.ps.length) (hm:m < (s.pr j).es.length):rdyE (((slS v s).pr j).eg m) (prjS v s st) i=rdyE ((s.pr j).eg m) st i:=by
 rw [z915 hj,z1084 hm]
 unfold rdyE
 rw [(z1086 _).1,(z1086 _).2.2.1]
 show (decide (((s.pr j).eg m).fr=st.a.getD i 0) && decide (((s.pr j).eg m).gd.ev (prjB v s.init st.b)≠0))=_
 rw [hc.gd j m hj hm (hs.eg j m hj hm).gd _ _ fun i hi=>z645 hc.len (z:=s.init) (b:=st.b) i hi]
theorem z832 {j m:Nat} (hj:j < s.ps.length) (hm:m < (s.pr j).es.length):(((slS v s).pr j).eg m).sync=((s.pr j).eg m).sync:=by
 rw [z915 hj,z1084 hm];exact (z1086 _).2.2.2
theorem sl_steps {l:List Tree} (hs:s.ok) (hc:Cov s l v) (st:State):z133 (slS v s) (prjS v s st)=z133 s st:=by
 have hl:∀ {j},j < s.ps.length→((slS v s).pr j).es.length=(s.pr j).es.length:=fun hj=>by rw [z915 hj,z834]
 have hp:∀ {i k},i < s.ps.length→k < (s.pr i).es.length→z453 (slS v s) (prjS v s st) i k=z453 s st i k:=fun {i k} hi hk=>by
  unfold z453
  rw [z343]
  refine z404 fun j hj=>?_
  rw [hl hj]
  refine z404 fun m hm=>?_
  unfold z382
  rw [sl_rdy hs hc j hj hm,z832 hj hm,z832 hi hk]
 unfold z133
 rw [z343]
 refine z404 fun j hj=>?_
 rw [hl hj]
 refine z404 fun m hm=>?_
 unfold z238
 rw [sl_rdy hs hc j hj hm,z832 hj hm,hp hj hm]
theorem z831 {l:List Tree} (hs:s.ok) (hc:Cov s l v) {st:State} (hst:st.ok s) {j m:Nat} (i:Nat) (hj:j < s.ps.length) (hm:m < (s.pr j).es.length):z86 (prjS v s st) i (((slS v s).pr j).eg m)=prjS v s (z86 st i ((s.pr j).eg m)):=by
 rw [z915 hj,z1084 hm]
 have hE:=hs.eg j m hj hm
 have hval:=hc.val j m hj hm
 generalize (s.pr j).eg m=e at *
 have hb:=hst.b.1
 have hvr:=hE.var
 by_cases hrel:0≤e.var∧v.getD e.var.toNat false=false
 ·have h3:e.var.toNat < 3:=by omega
  have e1:slE v e=⟨e.fr,e.to,e.gd,-1,leaf 0 0,e.sync⟩:=if_pos hrel
  rw [e1]
  have e2:z86 (prjS v s st) i ⟨e.fr,e.to,e.gd,-1,leaf 0 0,e.sync⟩=⟨st.a.set i e.to,prjB v s.init st.b⟩:=by
   unfold z86
   rw [if_neg (show ¬ (0:Int)≤-1 by omega)];rfl
  have e3:z86 st i e=⟨st.a.set i e.to,st.b.set e.var.toNat (e.val.ev st.b)⟩:=by
   unfold z86
   rw [if_pos hrel.1]
  rw [e2,e3]
  show _=State.mk (st.a.set i e.to) (prjB v s.init (st.b.set e.var.toNat (e.val.ev st.b)))
  rw [z919 hb h3,if_neg (by rw [hrel.2];simp)]
 ·have e1:slE v e=e:=if_neg hrel
  rw [e1]
  by_cases h0:0≤e.var
  ·have h3:e.var.toNat < 3:=by omega
   have hv:v.getD e.var.toNat false=true:=by
    cases h:v.getD e.var.toNat false
    ·exact absurd ⟨h0,h⟩ hrel
    ·rfl
   have e2:z86 (prjS v s st) i e=⟨st.a.set i e.to,(prjB v s.init st.b).set e.var.toNat (e.val.ev (prjB v s.init st.b))⟩:=by
    unfold z86
    rw [if_pos h0];rfl
   have e3:z86 st i e=⟨st.a.set i e.to,st.b.set e.var.toNat (e.val.ev st.b)⟩:=by
    unfold z86
    rw [if_pos h0]
   rw [e2,e3,hval h0 hv (hE.val h0) _ _ fun i hi=>z645 hc.len (z:=s.init) (b:=st.b) i hi]
   show _=State.mk (st.a.set i e.to) (prjB v s.init (st.b.set e.var.toNat (e.val.ev st.b)))
   rw [z919 hb h3,if_pos hv]
  ·have e2:z86 (prjS v s st) i e=⟨st.a.set i e.to,prjB v s.init st.b⟩:=by
    unfold z86
    rw [if_neg h0];rfl
   have e3:z86 st i e=⟨st.a.set i e.to,st.b⟩:=by
    unfold z86
    rw [if_neg h0]
   rw [e2,e3];rfl
theorem z914 {l:List Tree} (hs:s.ok) (hc:Cov s l v) {st:State} (hst:st.ok s) {x:Stp} (hx:x.ok s):z73 (slS v s) (prjS v s st) x=prjS v s (z73 s st x):=by
 obtain ⟨h1,h2,h3,h4⟩:=hx
 have hp:x.p.toNat < s.ps.length:=by omega
 have he:x.e.toNat < (s.pr x.p.toNat).es.length:=by omega
 unfold z73
 by_cases hq:0≤x.q
 ·have hf:=h4 hq
  rw [if_pos hq,if_pos hq,z831 hs hc hst x.p.toNat hp he]
  exact z831 hs hc (z363 hst (hs.eg _ _ hp he)) x.q.toNat (by omega) (by omega)
 ·rw [if_neg hq,if_neg hq]
  exact z831 hs hc hst x.p.toNat hp he
theorem z833 {l:List Tree} (hs:s.ok) (hc:Cov s l v) {st:State} (hst:st.ok s) (c:State):Nx (slS v s) (prjS v s st) c↔∃ b,Nx s st b∧prjS v s b=c:=by
 unfold Nx
 rw [sl_steps hs hc]
 constructor
 ·rintro (⟨x,hx,rfl⟩|⟨h,rfl⟩)
  ·exact ⟨_,.inl ⟨x,hx,rfl⟩,(z914 hs hc hst (z313 x hx)).symm⟩
  ·exact ⟨st,.inr ⟨h,rfl⟩,rfl⟩
 ·rintro ⟨b,⟨x,hx,rfl⟩|⟨h,rfl⟩,rfl⟩
  ·exact .inl ⟨x,hx,(z914 hs hc hst (z313 x hx)).symm⟩
  ·exact .inr ⟨h,rfl⟩
theorem z1083 (hs:s.ok):ini (slS v s)=prjS v s (ini s):=by
 unfold ini prjS
 rw [z343,z1107 v hs.init.1];rfl
theorem Run.ok (hs:s.ok) {σ:Nat→State} (h:Run s σ):∀ k,(σ k).ok s
 |0=>by rw [h.1];exact z1154 hs
 |k+1=>Nx.ok hs (Run.ok hs h k) (h.2 k)
theorem z1082 {l:List Tree} (hs:s.ok) (hc:Cov s l v) (τ:Nat→State):Run (slS v s) τ↔∃ σ,Run s σ∧∀ k,prjS v s (σ k)=τ k:=by
 constructor
 ·intro h
  classical
  let σ:Nat→State:=fun k=>Nat.rec (ini s) (fun k a=>if h:∃ b,Nx s a b∧prjS v s b=τ (k+1) then h.choose else a) k
  have step:∀ k,(σ k).ok s→prjS v s (σ k)=τ k→Nx s (σ k) (σ (k+1))∧prjS v s (σ (k+1))=τ (k+1):=fun k hok e=>by
   have hx:∃ b,Nx s (σ k) b∧prjS v s b=τ (k+1):=(z833 hs hc hok _).1 (by rw [e];exact h.2 k)
   have e2:σ (k+1)=hx.choose:=dif_pos hx
   rw [e2]
   exact hx.choose_spec
  have all:∀ k,(σ k).ok s∧prjS v s (σ k)=τ k:=fun k=>by
   induction k with
   |zero=>exact ⟨z1154 hs,by rw [h.1,z1083 hs];rfl⟩
   |succ k ih=>exact ⟨Nx.ok hs ih.1 (step k ih.1 ih.2).1,(step k ih.1 ih.2).2⟩
  exact ⟨σ,⟨rfl,fun k=>(step k (all k).1 (all k).2).1⟩,fun k=>(all k).2⟩
 ·rintro ⟨σ,h,e⟩
  refine ⟨by rw [← e 0,h.1,z1083 hs],fun k=>?_⟩
  rw [← e k,z833 hs hc (Run.ok hs h k)]
  exact ⟨_,h.2 k,e (k+1)⟩
theorem sl_rch {l:List Tree} (hs:s.ok) (hc:Cov s l v) {t:State} (h:Rch (slS v s) (ini (slS v s)) t):∃ u,Rch s (ini s) u∧prjS v s u=t:=by
 induction h with
 |base=>exact ⟨ini s,.base,(z1083 hs).symm⟩
 |next _ hn ih =>
  obtain ⟨u,hu,rfl⟩:=ih
  obtain ⟨b,hb,e⟩:=(z833 hs hc (hu.ok hs) _).1 hn
  exact ⟨b,.next hu hb,e⟩
theorem GF.mem {st1:State} {g:Graph} (h:GF s st1 g.st g.nx g.st.length) {t:State} (ht:Rch s st1 t):t∈g.st:=by
 induction ht with
 |base=>exact List.mem_of_getElem? h.i0
 |next _ hn ih =>
  obtain ⟨i,hi,rfl⟩:=List.mem_iff_getElem.1 ih
  obtain ⟨n,_,_,e⟩:=(h.at' hi).all _ hn
  exact List.mem_of_getElem? e
theorem z1081 {l:List Tree} (h:sysB s=true):sysB (slS v s)=true:=by
 unfold sysB at *
 rw [y70,y78] at *
 refine ⟨fun p hp=>?_,by rw [z343];exact h.2⟩
 obtain ⟨q,hq,rfl⟩:=List.mem_map.1 hp
 have hq:=h.1 q hq
 unfold z257 at *
 rw [y70,y78] at *
 refine ⟨fun e he=>?_,by rw [z834];exact hq.2⟩
 obtain ⟨f,hf,rfl⟩:=List.mem_map.1 he
 have hf:=hq.1 f hf
 unfold slE
 split
 ·unfold z209 at *
  simp only [y70,decide_eq_true_iff] at *
  obtain ⟨a1,a2,a3,a4⟩:=hf
  refine ⟨a1,a2,⟨a3.1,a3.2.1,by omega,by omega⟩,?_⟩
  rw [if_pos (by omega)]
  simp [z420,leaf,Tree.kind,Tree.val,Tree.kids]
 ·exact hf
theorem sl_build {l:List Tree} (hc:Cov s l v) {g:Graph} (h:z90 s=some g):∃ g',z90 (slS v s)=some g':=by
 obtain ⟨hsB,hF⟩:=z325 h
 have hs:=y14 hsB
 have:=z1197 (z1081 (v:=v) (l:=l) hsB)
 cases e:z90 (slS v s) with
 |some g'=>exact ⟨g',rfl⟩
 |none =>
  rw [e] at this
  obtain ⟨T,h1,h2,h3⟩:=this
  have:=h1.length_le_of_subset (l₂:=g.st.map (prjS v s)) fun t ht=>by
   obtain ⟨u,hu,rfl⟩:=sl_rch hs hc (h3 t ht)
   exact List.mem_map_of_mem (hF.mem hu)
  have:=hF.n60
  simp at *
  omega
theorem z1138 {b c:List Int} : ∀ (l:List Tree) (k n:Nat),(∀ t∈l,t.ev b=t.ev c)→ltr b l k n=ltr c l k n:=by
 intro l
 induction l with
 |nil=>intro k n _;rfl
 |cons t l ih=>intro k n h;simp only [ltr];rw [h t (by simp)];exact ih _ _ fun u hu=>h u (by simp [hu])
theorem sl_words {l:List Tree} (hc:Cov s l v) (hL:z172 l) {g g' : Graph} (h:z90 s=some g) (h' : z90 (slS v s)=some g') (w:Nat→Int):(∃ π,GPath g π∧gW g l π=w)↔∃ π,GPath g' π∧gW g' l π=w:=by
 have hs:=y14 (z325 h).1
 have hlt:∀ st,z59 l (prjS v s st)=z59 l st:=fun st=>by
  unfold z59
  show ((ltr (prjB v s.init st.b) l 0 0:Nat):Int)=_
  rw [z1138 l 0 0 fun t ht=>hc.lab t ht (hL.2 t ht) _ _ fun i hi=>z645 hc.len (z:=s.init) (b:=st.b) i hi]
 rw [z613 h,z613 h']
 constructor
 ·rintro ⟨σ,hr,rfl⟩
  exact ⟨fun k=>prjS v s (σ k),(z1082 hs hc _).2 ⟨σ,hr,fun _=>rfl⟩,funext fun k=>hlt _⟩
 ·rintro ⟨τ,hr,rfl⟩
  obtain ⟨σ,hr,e⟩:=(z1082 hs hc τ).1 hr
  exact ⟨σ,hr,funext fun k=>by rw [← e k,hlt]⟩
theorem z974 (l:List Tree) (hL:z85 l=true) {g g' : Graph} (h:z90 s=some g) (h' : z90 (slS (s.rel l) s)=some g') (f:Tree):vdI g l f=vdI g' l f:=by
 have e1:glB g l=true:=by unfold glB;rw [(z150 g).2 (z483 h),hL];rfl
 have e2:glB g' l=true:=by unfold glB;rw [(z150 g').2 (z483 h'),hL];rfl
 exact vd_words (e1.trans e2.symm) (fun _ w=>sl_words (z1101 s l) (y8 hL) h h' w) f
end Go.Proofs.YtnfoijopccdjeaaGreat
namespace Go.Proofs.YtnfoijopccdjeaaGreat
open Go.Gl
attribute [local irreducible] z18 AWP z30 z36 z32 RetS z38
theorem z147 (l:List Tree) (o:List Bool):(l.foldl (fun o t=>t.mark o) o).length=o.length:=(y29 l o).1.symm
theorem z317 {l:List Tree} {i:Nat} (h:i < l.length) (o:List Bool):(l.take (i+1)).foldl (fun o t=>t.mark o) o=l[i].mark ((l.take i).foldl (fun o t=>t.mark o) o):=by
 rw [y50 h,y62];rfl
set_option maxHeartbeats 1600000 in
theorem z813 (t:Tree):t.good→t.sz≤1000→∀ o:List Bool,o.length=3→CallsA Tryz.prog 207 [z24 Tree.cs' t,.sref 0 0 3] [.cells 1 (o.map enB)] (.tup []) [.cells 1 ((t.mark o).map enB)]:=by
 induction t using y26 with|h t ih=>?_
 intro hg hz o ho
 obtain ⟨_,h2,h3,h4⟩:=y24 hg
 have hks:∀ u∈t.kids,u.sz≤1000:=fun u hu=>by
  have:=z244 Tree.sz hu
  rw [y38] at hz;omega
 have hkl:t.kids.length≤1000:=by rw [y38] at hz;omega
 have hl1:(if t.kind=2 then o.set t.val.toNat true else o).length=3:=by split<;>simp [ho]
 rw [y27,y28,y16 t]
 obtain ⟨k,v,l⟩:=t
 simp only [Tree.kind,Tree.val,Tree.kids] at *
 have hstep:∀ (i:Nat) (hi:i < l.length) (o:List Bool),o.length=3→CallsA Tryz.prog 207 [z24 Tree.cs' l[i],.sref 0 0 3] [.cells 1 (o.map enB)] (.tup []) [.cells 1 ((l[i].mark o).map enB)]:=fun i hi o ho=>ih _ (y44 _) (h4 _ (y44 _)) (hks _ (y44 _)) o ho
 have hv:k=2→v≤2:=fun e=>by rw [e] at h3;simpa [z290] using h3
 have go:∀ o1:List Bool,o1.length=3→o1=(if k=2 then o.set v.toNat true else o)→CallsA Tryz.prog 207 [.agg [.int k,.int v,lst 3 Tree.cs' l],.sref 0 0 3] [.cells 1 (o.map enB)] (.tup []) [.cells 1 ((l.foldl (fun o t=>t.mark o) o1).map enB)]:=by
  intro o1 ho1 e1
  by_cases hk2:k=2
  all_goals
   first|rw [if_pos hk2] at e1|rw [if_neg hk2] at e1
   refine z7 z16 Tryz.func207 rfl rfl 24 Tryz.ntmps207 (by simp) ?_
   repeat' ((first|(apply y4 ok;rfl)|(apply y43;omega)|(((apply z13;omega));intro _)|((apply z5)<;>intro _))<;>conv=>whnf)
   all_goals try (exfalso;omega)
   refine z58 (fun i:Nat=>([(1,.sref 0 0 3),(14,lst 3 Tree.cs' l),(15,.int l.length),(16,.int i)],[.cells 1 (((l.take i).foldl (fun o t=>t.mark o) o1).map enB)])) (fun i=>i≤l.length) (fun i=>l.length - i) 0 (y53 _) (by refine swR [0] [] rfl rfl ?_;(repeat' first|exact y85 _|refine z50 rfl (z4 (fun _=>rfl)) ?_|refine z10 rfl (z4 (fun _=>rfl)) ?_|constructor)<;>((refine z45 ?_;rw [e1];simp [List.map_set]<;>rfl))) ?_
   intro i hi
   by_cases hil:i < l.length
   ·have hc:=hstep i hil ((l.take i).foldl (fun o t=>t.mark o) o1) (by rw [z147];exact ho1)
    have hs:=z317 hil o1
    have hlen:=z147 (l.take i) o1
    rw [← hs] at hc
    generalize (l.take i).foldl (fun o t=>t.mark o) o1=M at *
    generalize hM2:(l.take (i+1)).foldl (fun o t=>t.mark o) o1=M2 at *
    repeat' ((first|(apply y4 ok;rfl)|(apply y43;first|omega|(unfold inI;omega))|(((with_reducible apply z13;omega));intro _)|((apply z5)<;>intro _)|(apply z77 [0] [] hc;rfl;(focus ((repeat' first|exact z28|apply z35)<;>(refine z54 rfl ?_;((exact z4 fun _=>rfl)))));rfl;(focus ((repeat' first|exact z12|apply z11)<;>(refine z17 ?_;((exact z4 fun _=>rfl)))))))<;>conv=>whnf)
    all_goals try (exfalso;omega)
    all_goals refine z21 (i+1) hil (by omega) (by refine swR [0] [] rfl rfl ?_;(repeat' first|exact y85 _|refine z10 rfl (z4 (fun _=>rfl)) ?_|constructor)<;>((rw [hM2];exact z9 _)))
   ·have e:i=l.length:=by omega
    subst e
    rw [y55]
    repeat' ((first|(apply y4 ok;rfl)|(apply y43;omega)|(((with_reducible apply z13;omega));intro _)|((apply z5)<;>intro _))<;>conv=>whnf)
    all_goals try (exfalso;omega)
    all_goals (refine rsD [0] [] rfl ?_;(repeat' first|exact y85 _|exact z9 _|refine z10 rfl (z4 (fun _=>rfl)) ?_|constructor))
 exact go _ hl1 rfl
set_option maxHeartbeats 1600000 in
theorem z528 (t:Tree):t.good→t.sz≤1000→∀ o:List Bool,o.length=3→CallsA Tryz.prog 154 [.sref 0 0 3,z24 Tree.cs' t] [.cells 1 (o.map enB)] (.sref 0 0 3) [.cells 1 ((t.mark o).map enB)]:=by
 induction t using y26 with|h t ih=>?_
 intro hg hz o ho
 obtain ⟨_,h2,h3,h4⟩:=y24 hg
 have hks:∀ u∈t.kids,u.sz≤1000:=fun u hu=>by
  have:=z244 Tree.sz hu
  rw [y38] at hz;omega
 have hkl:t.kids.length≤1000:=by rw [y38] at hz;omega
 have hl1:(if t.kind=2 then o.set t.val.toNat true else o).length=3:=by split<;>simp [ho]
 rw [y27,y28,y16 t]
 obtain ⟨k,v,l⟩:=t
 simp only [Tree.kind,Tree.val,Tree.kids] at *
 have hstep:∀ (i:Nat) (hi:i < l.length) (o:List Bool),o.length=3→CallsA Tryz.prog 154 [.sref 0 0 3,z24 Tree.cs' l[i]] [.cells 1 (o.map enB)] (.sref 0 0 3) [.cells 1 ((l[i].mark o).map enB)]:=fun i hi o ho=>ih _ (y44 _) (h4 _ (y44 _)) (hks _ (y44 _)) o ho
 have hv:k=2→v≤2:=fun e=>by rw [e] at h3;simpa [z290] using h3
 have go:∀ o1:List Bool,o1.length=3→o1=(if k=2 then o.set v.toNat true else o)→CallsA Tryz.prog 154 [.sref 0 0 3,.agg [.int k,.int v,lst 3 Tree.cs' l]] [.cells 1 (o.map enB)] (.sref 0 0 3) [.cells 1 ((l.foldl (fun o t=>t.mark o) o1).map enB)]:=by
  intro o1 ho1 e1
  by_cases hk2:k=2
  all_goals
   first|rw [if_pos hk2] at e1|rw [if_neg hk2] at e1
   refine z7 z16 Tryz.func154 rfl rfl 28 Tryz.ntmps154 (by simp) ?_
   repeat' ((first|(apply y4 ok;rfl)|(apply y43;omega)|(((apply z13;omega));intro _)|((apply z5)<;>intro _))<;>conv=>whnf)
   all_goals try (exfalso;omega)
   refine z58 (fun i:Nat=>([(0,.sref 0 0 3),(3,.ptr 1 none 0),(5,.int i)],[.cells 1 (((l.take i).foldl (fun o t=>t.mark o) o1).map enB),.cells 3 [[.int k,.int v,lst 3 Tree.cs' l]]])) (fun i=>i≤l.length) (fun i=>l.length - i) 0 (y53 _) (by refine swR [0,1] [] rfl rfl ?_;(repeat' first|exact y85 _|apply y86|refine z50 rfl (z4 (fun _=>rfl)) ?_|refine z10 rfl (z4 (fun _=>rfl)) ?_|constructor)<;>((refine z45 ?_;rw [e1];simp [List.map_set]<;>rfl))) ?_
   intro i hi
   by_cases hil:i < l.length
   ·have hc:=hstep i hil ((l.take i).foldl (fun o t=>t.mark o) o1) (by rw [z147];exact ho1)
    have hs:=z317 hil o1
    have hlen:=z147 (l.take i) o1
    rw [← hs] at hc
    generalize (l.take i).foldl (fun o t=>t.mark o) o1=M at *
    generalize hM2:(l.take (i+1)).foldl (fun o t=>t.mark o) o1=M2 at *
    repeat' ((first|(apply y4 ok;rfl)|(apply y43;first|omega|(unfold inI;omega))|(((with_reducible apply z13;omega));intro _)|((apply z5)<;>intro _)|(apply z77 [0] [] hc;rfl;(focus ((repeat' first|exact z28|apply z35)<;>(refine z54 rfl ?_;((exact z4 fun _=>rfl)))));rfl;(focus ((repeat' first|exact z12|apply z11)<;>(refine z17 ?_;((exact z4 fun _=>rfl)))))))<;>conv=>whnf)
    all_goals try (exfalso;omega)
    all_goals refine z21 (i+1) hil (by omega) (by refine swR [0,1] [] rfl rfl ?_;(repeat' first|exact y85 _|apply y86|refine z10 rfl (z4 (fun _=>rfl)) ?_|constructor)<;>((rw [hM2];exact z9 _)))
   ·have e:i=l.length:=by omega
    subst e
    rw [y55]
    repeat' ((first|(apply y4 ok;rfl)|(apply y43;omega)|(((with_reducible apply z13;omega));intro _)|((apply z5)<;>intro _))<;>conv=>whnf)
    all_goals try (exfalso;omega)
    all_goals (refine rsD [0] [] rfl ?_;(repeat' first|exact y85 _|exact z9 _|refine z10 rfl (z4 (fun _=>rfl)) ?_|constructor))
 exact go _ hl1 rfl
theorem foldE {α:Type} {p:Proc} {k:Nat} (h:k < p.es.length) (f:α→Edge→α) (o:α):(p.es.take (k+1)).foldl f o=f ((p.es.take k).foldl f o) (p.eg k):=by
 rw [y50 h,y62]
 unfold Proc.eg
 rw [z19 h];rfl
theorem foldP {α:Type} {s:Sys} {i:Nat} (h:i < s.ps.length) (f:α→Proc→α) (o:α):(s.ps.take (i+1)).foldl f o=f ((s.ps.take i).foldl f o) (s.pr i):=by
 rw [y50 h,y62]
 unfold Sys.pr
 rw [z19 h];rfl
theorem z1163 (l:List Edge) (o:List Bool):(l.foldl (fun o e=>e.gd.mark o) o).length=o.length:=(z105 (f:=fun o (e:Edge)=>e.gd.mark o) (fun o e=>e.gd.mark_le o) l o).1.symm
theorem z1135 (l:List Proc) (o:List Bool):(l.foldl (fun o p=>p.mg o) o).length=o.length:=(z105 (f:=fun o (p:Proc)=>p.mg o) mg_le l o).1.symm
theorem z1127 (l:List Edge) (o:List Bool):(l.foldl Edge.mv o).length=o.length:=(z105 z1128 l o).1.symm
theorem z1096 (l:List Proc) (o:List Bool):(l.foldl (fun o p=>p.es.foldl Edge.mv o) o).length=o.length:=(z105 (f:=fun o (p:Proc)=>p.es.foldl Edge.mv o) (fun o p=>z105 z1128 _ _) l o).1.symm
noncomputable def rdN (s:Sys) (o:List Bool):Nat→List Bool
 |0=>o
 |r+1=>s.rnd (rdN s o r)
theorem z841 (s:Sys) (o:List Bool):∀ r,(rdN s o r).length=o.length
 |0=>rfl
 |r+1=>by show (s.rnd (rdN s o r)).length=_;rw [← (z726 s _).1,z841 s o r]
theorem rel_eq (s:Sys) (l:List Tree):s.rel l=rdN s (s.rel0 l) 3:=rfl
set_option maxHeartbeats 12800000 in
theorem z455 (s:Sys) (hs:s.ok) (hs1:s.s1) (l:List Tree) (hl:z172 l) (hz:∀ t∈l,t.sz≤1000):CallsA Tryz.prog 149 [.agg s.cs,lst 3 Tree.cs' l] [] (.sref 0 0 3) [.cells 1 ((s.rel l).map enB)]:=by
 have hn3:=hs.n3
 have hl3:=hl.1
 have hgz:∀ i k,i < s.ps.length→k < (s.pr i).es.length→((s.pr i).eg k).s1:=fun i k hi hk=>(hs1.el _ (z733 hi)).el _ (z775 hk)
 refine z7 z16 Tryz.func149 rfl rfl 81 Tryz.ntmps149 (by simp) ?_
 repeat' ((first|(apply y4 ok;rfl)|(apply y43;(dsimp only;omega)))<;>conv=>whnf)
 refine z58 (fun i:Nat=>([(2,.ptr 0 none 0),(5,.sref 1 0 3),(17,lst 3 Tree.cs' l),(18,.int l.length),(19,.int i)],[.cells 2 [s.cs],.cells 1 (((l.take i).foldl (fun o t=>t.mark o) [false,false,false]).map enB)])) (fun i=>i≤l.length) (fun i=>l.length - i) 0 (y53 _) (by refine swR [0,1] [] rfl rfl ?_;(repeat' first|exact y85 _|apply y86|refine z10 rfl (z69 rfl) ?_|constructor)) ?_
 intro i hi
 by_cases hil:i < l.length
 ·have hlen:=z147 (l.take i) [false,false,false]
  have hm:=z813 l[i] (hl.2 _ (y44 hil)) (hz _ (y44 hil)) ((l.take i).foldl (fun o t=>t.mark o) [false,false,false]) (by rw [hlen];rfl)
  rw [← z317 hil] at hm
  generalize (l.take i).foldl (fun o t=>t.mark o) [false,false,false]=M at *
  generalize hM2:(l.take (i+1)).foldl (fun o t=>t.mark o) [false,false,false]=M2 at *
  repeat' ((first|(apply y4 ok;rfl)|(apply y43;first|omega|(unfold inI;omega))|(((with_reducible apply z13;omega));intro _)|((apply z5)<;>intro _)|(apply z77 [1] [] hm;rfl;(focus ((repeat' first|exact z28|apply z35)<;>(refine z54 rfl ?_;((exact z4 fun _=>rfl)))));rfl;(focus ((repeat' first|exact z12|apply z11)<;>(refine z17 ?_;((exact z4 fun _=>rfl)))))))<;>conv=>whnf)
  all_goals try (exfalso;omega)
  all_goals refine z21 (i+1) hil (by omega) (by refine swR [0,1] [] rfl rfl ?_;(repeat' first|exact y85 _|apply y86|refine z10 rfl (z4 (fun _=>rfl)) ?_|constructor)<;>((rw [hM2];exact z9 _)))
 have e0:i=l.length:=by omega
 subst e0
 rw [y55]
 have ho1:=z147 l [false,false,false]
 have hr0:s.rel0 l=s.ps.foldl (fun o p=>p.mg o) (l.foldl (fun o t=>t.mark o) [false,false,false]):=rfl
 rw [rel_eq]
 have hR0:=z467 s l
 generalize l.foldl (fun o t=>t.mark o) [false,false,false]=O1 at *
 have ho1:O1.length=3:=ho1
 repeat' ((first|(apply y4 ok;rfl)|(apply y43;omega)|(((with_reducible apply z13;omega));intro _)|((apply z5)<;>intro _))<;>conv=>whnf)
 all_goals try (exfalso;omega)
 refine z58 (fun i:Nat=>([(2,.ptr 0 none 0),(5,.sref 1 0 3),(28,lst 2 Proc.cs s.ps),(29,.int s.ps.length),(30,.int i)],[.cells 2 [s.cs],.cells 1 (((s.ps.take i).foldl (fun o p=>p.mg o) O1).map enB)])) (fun i=>i≤s.ps.length) (fun i=>s.ps.length - i) 0 (y53 _) (by refine swR [0,1] [] rfl rfl ?_;(repeat' first|exact y85 _|exact z9 _|apply y86|refine z10 rfl (z4 (fun _=>rfl)) ?_|constructor)) ?_
 intro i hi
 by_cases hil:i < s.ps.length
 ·have gp:=y15 hil
  have hp6:=hs.ne i hil
  have hml:=z1135 (s.ps.take i) O1
  have hF:=foldP hil (fun o p=>p.mg o) O1
  generalize (s.ps.take i).foldl (fun o p=>p.mg o) O1=M at *
  generalize hM2:(s.ps.take (i+1)).foldl (fun o p=>p.mg o) O1=M2 at *
  repeat' ((first|(apply y4 ok;rfl)|(refine z15 (i:=i) rfl gp ?_)|(apply y43;omega)|((apply z5)<;>intro _))<;>conv=>whnf)
  all_goals try (exfalso;omega)
  refine z58 (fun k:Nat=>([(2,.ptr 0 none 0),(5,.sref 1 0 3),(28,lst 2 Proc.cs s.ps),(29,.int s.ps.length),(30,.int i),(35,lst 10 Edge.cs (s.pr i).es),(36,.int (s.pr i).es.length),(37,.int k)],[.cells 2 [s.cs],.cells 1 ((((s.pr i).es.take k).foldl (fun o e=>e.gd.mark o) M).map enB)])) (fun k=>k≤(s.pr i).es.length) (fun k=>(s.pr i).es.length - k) 0 (y53 _) (by refine swR [0,1] [] rfl rfl ?_;(repeat' first|exact y85 _|exact z9 _|apply y86|refine z10 rfl (z4 (fun _=>rfl)) ?_|constructor)) ?_
  intro k hk
  by_cases hkl:k < (s.pr i).es.length
  ·have ge:=y11 hkl
   have hgl:=z1163 ((s.pr i).es.take k) M
   have hm:=z813 ((s.pr i).eg k).gd (hs.eg i k hil hkl).gd (hgz i k hil hkl).gd (((s.pr i).es.take k).foldl (fun o e=>e.gd.mark o) M) (by omega)
   rw [← foldE hkl (fun o e=>e.gd.mark o) M,y16] at hm
   generalize ((s.pr i).es.take k).foldl (fun o e=>e.gd.mark o) M=N at *
   generalize hN2:((s.pr i).es.take (k+1)).foldl (fun o e=>e.gd.mark o) M=N2 at *
   generalize (s.pr i).eg k=e at *
   repeat' ((first|(apply y4 ok;rfl)|(refine z15 (i:=k) rfl ge ?_)|(apply y43;first|omega|(unfold inI;omega))|((apply z5)<;>intro _)|(apply z77 [1] [] hm;rfl;(focus ((repeat' first|exact z28|apply z35)<;>(refine z54 rfl ?_;((exact z4 fun _=>rfl)))));rfl;(focus ((repeat' first|exact z12|apply z11)<;>(refine z17 ?_;((exact z4 fun _=>rfl)))))))<;>conv=>whnf)
   all_goals try (exfalso;omega)
   all_goals refine z21 (k+1) hkl (by omega) (by refine swR [0,1] [] rfl rfl ?_;(repeat' first|exact y85 _|apply y86|refine z10 rfl (z4 (fun _=>rfl)) ?_|constructor)<;>((rw [hN2];exact z9 _)))
  ·have ek:k=(s.pr i).es.length:=by omega
   have e2:(((s.pr i).es.take k).foldl (fun o e=>e.gd.mark o) M)=M2:=by rw [ek,y55];exact hF.symm
   rw [e2]
   repeat' ((first|(apply y4 ok;rfl)|(apply y43;first|omega|(unfold inI;omega))|(((with_reducible apply z13;omega));intro _)|((apply z5)<;>intro _))<;>conv=>whnf)
   all_goals try (exfalso;omega)
   all_goals refine z21 (i+1) hil (by omega) (by refine swR [0,1] [] rfl rfl ?_;(repeat' first|exact y85 _|apply y86|refine z10 rfl (z4 (fun _=>rfl)) ?_|constructor)<;>((rw [hM2];exact z9 _)))
 have e0:i=s.ps.length:=by omega
 subst e0
 rw [y55,← hr0]
 generalize s.rel0 l=O2 at *
 repeat' ((first|(apply y4 ok;rfl)|(apply y43;omega)|(((with_reducible apply z13;omega));intro _)|((apply z5)<;>intro _))<;>conv=>whnf)
 all_goals try (exfalso;omega)
 refine z58 (fun r:Nat=>([(2,.ptr 0 none 0),(5,.sref 1 0 3),(47,.int r)],[.cells 2 [s.cs],.cells 1 ((rdN s O2 r).map enB)])) (fun r=>r≤3) (fun r=>3 - r) 0 (y53 _) (by refine swR [0,1] [] rfl rfl ?_;(repeat' first|exact y85 _|exact z9 _|apply y86|refine z10 rfl (z4 (fun _=>rfl)) ?_|constructor)) ?_
 intro r hr
 by_cases hr3:r < 3
 ·have hrl:=z841 s O2 r
  have hrs:rdN s O2 (r+1)=s.ps.foldl (fun o p=>p.es.foldl Edge.mv o) (rdN s O2 r):=rfl
  generalize rdN s O2 r=A at *
  generalize hA2:rdN s O2 (r+1)=A2 at *
  repeat' ((first|(apply y4 ok;rfl)|((apply z5)<;>intro _))<;>conv=>whnf)
  all_goals try (exfalso;omega)
  refine z58 (fun i:Nat=>([(2,.ptr 0 none 0),(5,.sref 1 0 3),(47,.int r),(50,lst 2 Proc.cs s.ps),(51,.int s.ps.length),(52,.int i)],[.cells 2 [s.cs],.cells 1 (((s.ps.take i).foldl (fun o p=>p.es.foldl Edge.mv o) A).map enB)])) (fun i=>i≤s.ps.length) (fun i=>s.ps.length - i) 0 (y53 _) (by refine swR [0,1] [] rfl rfl ?_;(repeat' first|exact y85 _|exact z9 _|apply y86|refine z10 rfl (z4 (fun _=>rfl)) ?_|constructor)) ?_
  intro i hi
  by_cases hil:i < s.ps.length
  ·have gp:=y15 hil
   have hp6:=hs.ne i hil
   have hml:=z1096 (s.ps.take i) A
   have hF:=foldP hil (fun o p=>p.es.foldl Edge.mv o) A
   generalize (s.ps.take i).foldl (fun o p=>p.es.foldl Edge.mv o) A=M at *
   generalize hM2:(s.ps.take (i+1)).foldl (fun o p=>p.es.foldl Edge.mv o) A=M2 at *
   repeat' ((first|(apply y4 ok;rfl)|(refine z15 (i:=i) rfl gp ?_)|(apply y43;omega)|((apply z5)<;>intro _))<;>conv=>whnf)
   all_goals try (exfalso;omega)
   refine z58 (fun k:Nat=>([(2,.ptr 0 none 0),(5,.sref 1 0 3),(47,.int r),(50,lst 2 Proc.cs s.ps),(51,.int s.ps.length),(52,.int i),(57,lst 10 Edge.cs (s.pr i).es),(58,.int (s.pr i).es.length),(59,.int k)],[.cells 2 [s.cs],.cells 1 ((((s.pr i).es.take k).foldl Edge.mv M).map enB)])) (fun k=>k≤(s.pr i).es.length) (fun k=>(s.pr i).es.length - k) 0 (y53 _) (by refine swR [0,1] [] rfl rfl ?_;(repeat' first|exact y85 _|exact z9 _|apply y86|refine z10 rfl (z4 (fun _=>rfl)) ?_|constructor)) ?_
   intro k hk
   by_cases hkl:k < (s.pr i).es.length
   ·have ge:=y11 hkl
    have hgl:=z1127 ((s.pr i).es.take k) M
    have hE:=hs.eg i k hil hkl
    have hvar:=hE.var
    have hmv:=foldE hkl Edge.mv M
    have hm:=fun h0=>z813 ((s.pr i).eg k).val (hE.val h0) (hgz i k hil hkl).val (((s.pr i).es.take k).foldl Edge.mv M) (by omega)
    generalize ((s.pr i).es.take k).foldl Edge.mv M=N at *
    generalize hN2:((s.pr i).es.take (k+1)).foldl Edge.mv M=N2 at *
    generalize (s.pr i).eg k=e at *
    have hN3:N.length=3:=by omega
    by_cases h0:0≤e.var
    ·have hv3:e.var.toNat < N.length:=by omega
     have gN:(N.map enB)[e.var.toNat]?=some (enB (N.getD e.var.toNat false)):=by rw [y51,y45 hv3,z19 hv3];rfl
     have hm:=hm h0
     rw [y16] at hm
     cases hb:N.getD e.var.toNat false with
     |true =>
      have e1:N2=e.val.mark N:=by rw [hmv];unfold Edge.mv;rw [if_pos ⟨h0,hb⟩]
      rw [← e1] at hm
      rw [hb] at gN
      repeat' ((first|(apply y4 ok;rfl)|(refine z15 (i:=k) rfl ge ?_)|(refine z15 (i:=e.var.toNat) rfl gN ?_)|(apply y43;first|omega|(unfold inI;omega))|((apply z5)<;>intro _)|(apply z77 [1] [] hm;rfl;(focus ((repeat' first|exact z28|apply z35)<;>(refine z54 rfl ?_;((exact z4 fun _=>rfl)))));rfl;(focus ((repeat' first|exact z12|apply z11)<;>(refine z17 ?_;((exact z4 fun _=>rfl)))))))<;>conv=>whnf)
      all_goals try (exfalso;omega)
      all_goals refine z21 (k+1) hkl (by omega) (by refine swR [0,1] [] rfl rfl ?_;(repeat' first|exact y85 _|apply y86|refine z10 rfl (z4 (fun _=>rfl)) ?_|constructor)<;>((rw [hN2];exact z9 _)))
     |false =>
      have e1:N2=N:=by rw [hmv];unfold Edge.mv;rw [if_neg (by rw [hb];simp)]
      rw [hb] at gN
      rw [← e1] at gN
      rw [← e1]
      repeat' ((first|(apply y4 ok;rfl)|(refine z15 (i:=k) rfl ge ?_)|(refine z15 (i:=e.var.toNat) rfl gN ?_)|(apply y43;first|omega|(unfold inI;omega))|((apply z5)<;>intro _))<;>conv=>whnf)
      all_goals try (exfalso;omega)
      all_goals refine z21 (k+1) hkl (by omega) (by refine swR [0,1] [] rfl rfl ?_;(repeat' first|exact y85 _|apply y86|refine z10 rfl (z4 (fun _=>rfl)) ?_|constructor)<;>((rw [hN2];exact z9 _)))
    ·have e1:N2=N:=by rw [hmv];unfold Edge.mv;rw [if_neg (fun h=>h0 h.1)]
     rw [← e1]
     repeat' ((first|(apply y4 ok;rfl)|(refine z15 (i:=k) rfl ge ?_)|(apply y43;first|omega|(unfold inI;omega))|(((apply z13;omega));intro _)|((first|apply z5|apply z91)<;>intro _))<;>conv=>whnf)
     all_goals try (exfalso;omega)
     all_goals refine z21 (k+1) hkl (by omega) (by refine swR [0,1] [] rfl rfl ?_;(repeat' first|exact y85 _|apply y86|refine z10 rfl (z4 (fun _=>rfl)) ?_|constructor)<;>((rw [hN2];exact z9 _)))
   ·have ek:k=(s.pr i).es.length:=by omega
    have e2:(((s.pr i).es.take k).foldl Edge.mv M)=M2:=by rw [ek,y55];exact hF.symm
    rw [e2]
    repeat' ((first|(apply y4 ok;rfl)|(apply y43;first|omega|(unfold inI;omega))|((first|(with_reducible apply z13;omega)|(apply z13;omega));intro _)|((first|apply z5|apply z91)<;>intro _))<;>conv=>whnf)
    all_goals try (exfalso;omega)
    all_goals refine z21 (i+1) hil (by omega) (by refine swR [0,1] [] rfl rfl ?_;(repeat' first|exact y85 _|apply y86|refine z10 rfl (z4 (fun _=>rfl)) ?_|constructor)<;>((rw [hM2];exact z9 _)))
  ·have e0:i=s.ps.length:=by omega
   subst e0
   rw [y55,← hrs]
   repeat' ((first|(apply y4 ok;rfl)|(apply y43;first|omega|(unfold inI;omega))|(((with_reducible apply z13;omega));intro _)|((apply z5)<;>intro _))<;>conv=>whnf)
   all_goals try (exfalso;omega)
   all_goals refine z21 (r+1) (by omega) (by omega) (by refine swR [0,1] [] rfl rfl ?_;(repeat' first|exact y85 _|apply y86|refine z10 rfl (z4 (fun _=>rfl)) ?_|constructor)<;>((rw [hA2];exact z9 _)))
 ·have e0:r=3:=by omega
  subst e0
  repeat' (((apply y4 ok;rfl))<;>conv=>whnf)
  all_goals (refine rsD [1] [] rfl ?_;(repeat' first|exact y85 _|exact z9 _|refine z10 rfl (z4 (fun _=>rfl)) ?_|constructor))
theorem z535 (s:Sys) (hs1:s.s1) (l:List Tree) (hl:Lmx l) (hz:∀ t∈l,t.sz≤1000) (h1:sysB s=true) (h2:z85 l=true):CallsA Tryz.prog 79 [.agg s.cs,lst 3 Tree.cs' l] [] (.tup [.sref 0 0 3,.bool true]) [.cells 1 ((s.rel l).map enB)]:=by
 have c1:=z206 s hs1
 have c2:=z138 l hl.1 hl.2
 have c3:=z455 s (y14 h1) hs1 l (y8 h2) hz
 rw [h1] at c1
 rw [h2] at c2
 generalize s.rel l=v at *
 refine z7 z16 Tryz.func79 rfl rfl 17 Tryz.ntmps79 (by simp) ?_
 repeat' ((first|(apply y4 ok;rfl)|(apply z6 (c1);rfl;rfl)|(apply z6 (c2);rfl;rfl)|(apply z8 [] [1] c3;rfl;rfl;rfl;(focus ((repeat' first|exact z12|apply z11)<;>(refine z17 ?_;((exact z4 fun _=>rfl)))))))<;>conv=>whnf)
 all_goals (refine rsD [1] [] rfl ?_;(repeat' first|exact y85 _|exact z9 _|refine z10 rfl (z4 (fun _=>rfl)) ?_|constructor))
theorem z572 (s:Sys) (hs1:s.s1) (l:List Tree) (hl:Lmx l) (hz:∀ t∈l,t.sz≤1000) (h1:sysB s=true) (h2:z85 l=true):CallsA Tryz.prog 79 [.agg s.cs,lst 3 Tree.cs' l] [] (.tup [lst 1 enB (s.rel l),.bool true]) []:=by
 have h:=z535 s hs1 l hl hz h1 h2
 rw [show (AC.tup [.sref 0 0 3,.bool true])=.tup [.sref 0 0 (s.rel l).length,.bool true] by rw [z513]] at h
 exact (by refine y5 (h) [] [0] rfl rfl rfl ?_ ?_<;>(repeat' first|exact y85 _|((apply z37 rfl rfl rfl);(focus ((repeat ((exact z23 (fun _=>rfl) _)));done));(focus (((simp;done));done)))|apply z93|constructor))
theorem z573 (s:Sys) (hs1:s.s1) (l:List Tree) (hl:Lmx l) (h:(sysB s && z85 l)=false):CallsA Tryz.prog 79 [.agg s.cs,lst 3 Tree.cs' l] [] (.tup [.nils,.bool false]) []:=by
 have c1:=z206 s hs1
 have c2:=z138 l hl.1 hl.2
 generalize sysB s=b1 at *
 generalize z85 l=b2 at *
 refine z7 z16 Tryz.func79 rfl rfl 17 Tryz.ntmps79 (by simp) ?_
 cases b1<;>cases b2
 all_goals first|(exfalso;revert h;decide)|skip
 all_goals
  repeat' ((first|(apply y4 ok;rfl)|(apply z6 (c1);rfl;rfl)|(apply z6 (c2);rfl;rfl))<;>conv=>whnf)
  all_goals (refine rsD [] [] rfl ?_;(repeat' first|exact y85 _|constructor))
theorem z565 (s:Sys) (hs1:s.s1) (l:List Tree) (hl:Lmx l) (h:(sysB s && z85 l)=false):CallsA Tryz.prog 81 [.agg s.cs,lst 3 Tree.cs' l] [] (.tup [lst 1 enB [],.bool false]) []:=by
 have c1:=z227 s hs1
 have c2:=z214 l hl.1 hl.2
 generalize sysB s=b1 at *
 generalize z85 l=b2 at *
 refine z7 z16 Tryz.func81 rfl rfl 112 Tryz.ntmps81 (by simp) ?_
 cases b1<;>cases b2
 all_goals first|(exfalso;revert h;decide)|skip
 all_goals
  repeat' ((first|(apply y4 ok;rfl)|(apply z6 (c1);rfl;rfl)|(apply z6 (c2);rfl;rfl))<;>conv=>whnf)
  all_goals (refine rsD [] [1] rfl ?_;(repeat' first|exact y85 _|constructor))
set_option maxHeartbeats 12800000 in
theorem z497 (s:Sys) (hs1:s.s1) (l:List Tree) (hlm:Lmx l) (hz:∀ t∈l,t.sz≤1000) (h1:sysB s=true) (h2:z85 l=true):CallsA Tryz.prog 81 [.agg s.cs,lst 3 Tree.cs' l] [] (.tup [.sref 0 0 3,.bool true]) [.cells 1 ((s.rel l).map enB)]:=by
 have hs:=y14 h1
 have hl:=y8 h2
 have hn3:=hs.n3
 have hl3:=hl.1
 have hgz:∀ i k,i < s.ps.length→k < (s.pr i).es.length→((s.pr i).eg k).s1:=fun i k hi hk=>(hs1.el _ (z733 hi)).el _ (z775 hk)
 have c1:=z227 s hs1
 have c2:=z214 l hlm.1 hlm.2
 rw [h1] at c1
 rw [h2] at c2
 refine z7 z16 Tryz.func81 rfl rfl 112 Tryz.ntmps81 (by simp) ?_
 repeat' ((first|(apply y4 ok;rfl)|(apply y43;(dsimp only;omega))|(apply z6 (c1);rfl;rfl)|(apply z6 (c2);rfl;rfl))<;>conv=>whnf)
 refine z58 (fun i:Nat=>([(1,lst 3 Tree.cs' l),(2,.ptr 0 none 0),(6,.sref 1 0 3),(7,.int i)],[.cells 2 [s.cs],.cells 1 (((l.take i).foldl (fun o t=>t.mark o) [false,false,false]).map enB)])) (fun i=>i≤l.length) (fun i=>l.length - i) 0 (y53 _) (by refine swR [0,1] [] rfl rfl ?_;(repeat' first|exact y85 _|apply y86|refine z10 rfl (z69 rfl) ?_|constructor)) ?_
 intro i hi
 by_cases hil:i < l.length
 ·have hlen:=z147 (l.take i) [false,false,false]
  have hm:=z528 l[i] (hl.2 _ (y44 hil)) (hz _ (y44 hil)) ((l.take i).foldl (fun o t=>t.mark o) [false,false,false]) (by rw [hlen];rfl)
  rw [← z317 hil] at hm
  generalize (l.take i).foldl (fun o t=>t.mark o) [false,false,false]=M at *
  generalize hM2:(l.take (i+1)).foldl (fun o t=>t.mark o) [false,false,false]=M2 at *
  repeat' ((first|(apply y4 ok;rfl)|(apply y43;first|omega|(unfold inI;omega))|(((with_reducible apply z13;omega));intro _)|((apply z5)<;>intro _)|(apply z77 [1] [] hm;rfl;(focus ((repeat' first|exact z28|apply z35)<;>(refine z54 rfl ?_;((exact z4 fun _=>rfl)))));rfl;(focus ((repeat' first|exact z12|apply z11)<;>(refine z17 ?_;((exact z4 fun _=>rfl)))))))<;>conv=>whnf)
  all_goals try (exfalso;omega)
  all_goals refine z21 (i+1) hil (by omega) (by refine swR [0,1] [] rfl rfl ?_;(repeat' first|exact y85 _|apply y86|refine z10 rfl (z4 (fun _=>rfl)) ?_|constructor)<;>((rw [hM2];exact z9 _)))
 have e0:i=l.length:=by omega
 subst e0
 rw [y55]
 have ho1:=z147 l [false,false,false]
 have hr0:s.rel0 l=s.ps.foldl (fun o p=>p.mg o) (l.foldl (fun o t=>t.mark o) [false,false,false]):=rfl
 rw [rel_eq]
 have hR0:=z467 s l
 generalize l.foldl (fun o t=>t.mark o) [false,false,false]=O1 at *
 have ho1:O1.length=3:=ho1
 repeat' ((first|(apply y4 ok;rfl)|(apply y43;omega)|(((with_reducible apply z13;omega));intro _)|((apply z5)<;>intro _))<;>conv=>whnf)
 all_goals try (exfalso;omega)
 refine z58 (fun i:Nat=>([(2,.ptr 0 none 0),(6,.sref 1 0 3),(8,.int i)],[.cells 2 [s.cs],.cells 1 (((s.ps.take i).foldl (fun o p=>p.mg o) O1).map enB)])) (fun i=>i≤s.ps.length) (fun i=>s.ps.length - i) 0 (y53 _) (by refine swR [0,1] [] rfl rfl ?_;(repeat' first|exact y85 _|exact z9 _|apply y86|refine z10 rfl (z4 (fun _=>rfl)) ?_|constructor)) ?_
 intro i hi
 by_cases hil:i < s.ps.length
 ·have gp:=y15 hil
  have hp6:=hs.ne i hil
  have hml:=z1135 (s.ps.take i) O1
  have hF:=foldP hil (fun o p=>p.mg o) O1
  generalize (s.ps.take i).foldl (fun o p=>p.mg o) O1=M at *
  generalize hM2:(s.ps.take (i+1)).foldl (fun o p=>p.mg o) O1=M2 at *
  repeat' ((first|(apply y4 ok;rfl)|((apply z5)<;>intro _))<;>conv=>whnf)
  all_goals try (exfalso;omega)
  refine z58 (fun k:Nat=>([(2,.ptr 0 none 0),(6,.sref 1 0 3),(8,.int i),(9,.int k)],[.cells 2 [s.cs],.cells 1 ((((s.pr i).es.take k).foldl (fun o e=>e.gd.mark o) M).map enB)])) (fun k=>k≤(s.pr i).es.length) (fun k=>(s.pr i).es.length - k) 0 (y53 _) (by refine swR [0,1] [] rfl rfl ?_;(repeat' first|exact y85 _|exact z9 _|apply y86|refine z10 rfl (z4 (fun _=>rfl)) ?_|constructor)) ?_
  intro k hk
  by_cases hkl:k < (s.pr i).es.length
  ·have ge:=y11 hkl
   have hgl:=z1163 ((s.pr i).es.take k) M
   have hm:=z528 ((s.pr i).eg k).gd (hs.eg i k hil hkl).gd (hgz i k hil hkl).gd (((s.pr i).es.take k).foldl (fun o e=>e.gd.mark o) M) (by omega)
   rw [← foldE hkl (fun o e=>e.gd.mark o) M,y16] at hm
   generalize ((s.pr i).es.take k).foldl (fun o e=>e.gd.mark o) M=N at *
   generalize hN2:((s.pr i).es.take (k+1)).foldl (fun o e=>e.gd.mark o) M=N2 at *
   generalize (s.pr i).eg k=e at *
   repeat' ((first|(apply y4 ok;rfl)|(refine z15 (i:=i) rfl gp ?_)|(refine z15 (i:=k) rfl ge ?_)|(apply y43;first|omega|(unfold inI;omega))|((apply z5)<;>intro _)|(apply z77 [1] [] hm;rfl;(focus ((repeat' first|exact z28|apply z35)<;>(refine z54 rfl ?_;((exact z4 fun _=>rfl)))));rfl;(focus ((repeat' first|exact z12|apply z11)<;>(refine z17 ?_;((exact z4 fun _=>rfl)))))))<;>conv=>whnf)
   all_goals try (exfalso;omega)
   all_goals refine z21 (k+1) hkl (by omega) (by refine swR [0,1] [] rfl rfl ?_;(repeat' first|exact y85 _|apply y86|refine z10 rfl (z4 (fun _=>rfl)) ?_|constructor)<;>((rw [hN2];exact z9 _)))
  ·have ek:k=(s.pr i).es.length:=by omega
   have e2:(((s.pr i).es.take k).foldl (fun o e=>e.gd.mark o) M)=M2:=by rw [ek,y55];exact hF.symm
   rw [e2]
   repeat' ((first|(apply y4 ok;rfl)|(refine z15 (i:=i) rfl gp ?_)|(apply y43;first|omega|(unfold inI;omega))|(((with_reducible apply z13;omega));intro _)|((apply z5)<;>intro _))<;>conv=>whnf)
   all_goals try (exfalso;omega)
   all_goals refine z21 (i+1) hil (by omega) (by refine swR [0,1] [] rfl rfl ?_;(repeat' first|exact y85 _|apply y86|refine z10 rfl (z4 (fun _=>rfl)) ?_|constructor)<;>((rw [hM2];exact z9 _)))
 have e0:i=s.ps.length:=by omega
 subst e0
 rw [y55,← hr0]
 generalize s.rel0 l=O2 at *
 repeat' ((first|(apply y4 ok;rfl)|((apply z5)<;>intro _))<;>conv=>whnf)
 all_goals try (exfalso;omega)
 refine z58 (fun r:Nat=>([(2,.ptr 0 none 0),(6,.sref 1 0 3),(10,.int r)],[.cells 2 [s.cs],.cells 1 ((rdN s O2 r).map enB)])) (fun r=>r≤3) (fun r=>3 - r) 0 (y53 _) (by refine swR [0,1] [] rfl rfl ?_;(repeat' first|exact y85 _|exact z9 _|apply y86|refine z10 rfl (z4 (fun _=>rfl)) ?_|constructor)) ?_
 intro r hr
 by_cases hr3:r < 3
 ·have hrl:=z841 s O2 r
  have hrs:rdN s O2 (r+1)=s.ps.foldl (fun o p=>p.es.foldl Edge.mv o) (rdN s O2 r):=rfl
  generalize rdN s O2 r=A at *
  generalize hA2:rdN s O2 (r+1)=A2 at *
  repeat' ((first|(apply y4 ok;rfl)|((apply z5)<;>intro _))<;>conv=>whnf)
  all_goals try (exfalso;omega)
  refine z58 (fun i:Nat=>([(2,.ptr 0 none 0),(6,.sref 1 0 3),(10,.int r),(11,.int i)],[.cells 2 [s.cs],.cells 1 (((s.ps.take i).foldl (fun o p=>p.es.foldl Edge.mv o) A).map enB)])) (fun i=>i≤s.ps.length) (fun i=>s.ps.length - i) 0 (y53 _) (by refine swR [0,1] [] rfl rfl ?_;(repeat' first|exact y85 _|exact z9 _|apply y86|refine z10 rfl (z4 (fun _=>rfl)) ?_|constructor)) ?_
  intro i hi
  by_cases hil:i < s.ps.length
  ·have gp:=y15 hil
   have hp6:=hs.ne i hil
   have hml:=z1096 (s.ps.take i) A
   have hF:=foldP hil (fun o p=>p.es.foldl Edge.mv o) A
   generalize (s.ps.take i).foldl (fun o p=>p.es.foldl Edge.mv o) A=M at *
   generalize hM2:(s.ps.take (i+1)).foldl (fun o p=>p.es.foldl Edge.mv o) A=M2 at *
   repeat' ((first|(apply y4 ok;rfl)|(apply y43;omega)|((apply z5)<;>intro _))<;>conv=>whnf)
   all_goals try (exfalso;omega)
   refine z58 (fun k:Nat=>([(2,.ptr 0 none 0),(6,.sref 1 0 3),(10,.int r),(11,.int i),(12,.int k)],[.cells 2 [s.cs],.cells 1 ((((s.pr i).es.take k).foldl Edge.mv M).map enB)])) (fun k=>k≤(s.pr i).es.length) (fun k=>(s.pr i).es.length - k) 0 (y53 _) (by refine swR [0,1] [] rfl rfl ?_;(repeat' first|exact y85 _|exact z9 _|apply y86|refine z10 rfl (z4 (fun _=>rfl)) ?_|constructor)) ?_
   intro k hk
   by_cases hkl:k < (s.pr i).es.length
   ·have ge:=y11 hkl
    have hgl:=z1127 ((s.pr i).es.take k) M
    have hE:=hs.eg i k hil hkl
    have hvar:=hE.var
    have hmv:=foldE hkl Edge.mv M
    have hm:=fun h0=>z528 ((s.pr i).eg k).val (hE.val h0) (hgz i k hil hkl).val (((s.pr i).es.take k).foldl Edge.mv M) (by omega)
    generalize ((s.pr i).es.take k).foldl Edge.mv M=N at *
    generalize hN2:((s.pr i).es.take (k+1)).foldl Edge.mv M=N2 at *
    generalize (s.pr i).eg k=e at *
    have hN3:N.length=3:=by omega
    by_cases h0:0≤e.var
    ·have hv3:e.var.toNat < N.length:=by omega
     have gN:(N.map enB)[e.var.toNat]?=some (enB (N.getD e.var.toNat false)):=by rw [y51,y45 hv3,z19 hv3];rfl
     have hm:=hm h0
     rw [y16] at hm
     cases hb:N.getD e.var.toNat false with
     |true =>
      have e1:N2=e.val.mark N:=by rw [hmv];unfold Edge.mv;rw [if_pos ⟨h0,hb⟩]
      rw [← e1] at hm
      rw [hb] at gN
      repeat' ((first|(apply y4 ok;rfl)|(refine z15 (i:=i) rfl gp ?_)|(refine z15 (i:=k) rfl ge ?_)|(refine z15 (i:=e.var.toNat) rfl gN ?_)|(apply y43;first|omega|(unfold inI;omega))|((apply z5)<;>intro _)|(apply z77 [1] [] hm;rfl;(focus ((repeat' first|exact z28|apply z35)<;>(refine z54 rfl ?_;((exact z4 fun _=>rfl)))));rfl;(focus ((repeat' first|exact z12|apply z11)<;>(refine z17 ?_;((exact z4 fun _=>rfl)))))))<;>conv=>whnf)
      all_goals try (exfalso;omega)
      all_goals refine z21 (k+1) hkl (by omega) (by refine swR [0,1] [] rfl rfl ?_;(repeat' first|exact y85 _|apply y86|refine z10 rfl (z4 (fun _=>rfl)) ?_|constructor)<;>((rw [hN2];exact z9 _)))
     |false =>
      have e1:N2=N:=by rw [hmv];unfold Edge.mv;rw [if_neg (by rw [hb];simp)]
      rw [hb] at gN
      rw [← e1] at gN
      rw [← e1]
      repeat' ((first|(apply y4 ok;rfl)|(refine z15 (i:=i) rfl gp ?_)|(refine z15 (i:=k) rfl ge ?_)|(refine z15 (i:=e.var.toNat) rfl gN ?_)|(apply y43;first|omega|(unfold inI;omega))|((apply z5)<;>intro _))<;>conv=>whnf)
      all_goals try (exfalso;omega)
      all_goals refine z21 (k+1) hkl (by omega) (by refine swR [0,1] [] rfl rfl ?_;(repeat' first|exact y85 _|apply y86|refine z10 rfl (z4 (fun _=>rfl)) ?_|constructor)<;>((rw [hN2];exact z9 _)))
    ·have e1:N2=N:=by rw [hmv];unfold Edge.mv;rw [if_neg (fun h=>h0 h.1)]
     rw [← e1]
     repeat' ((first|(apply y4 ok;rfl)|(refine z15 (i:=i) rfl gp ?_)|(refine z15 (i:=k) rfl ge ?_)|(apply y43;first|omega|(unfold inI;omega))|(((apply z13;omega));intro _)|((first|apply z5|apply z91)<;>intro _))<;>conv=>whnf)
     all_goals try (exfalso;omega)
     all_goals refine z21 (k+1) hkl (by omega) (by refine swR [0,1] [] rfl rfl ?_;(repeat' first|exact y85 _|apply y86|refine z10 rfl (z4 (fun _=>rfl)) ?_|constructor)<;>((rw [hN2];exact z9 _)))
   ·have ek:k=(s.pr i).es.length:=by omega
    have e2:(((s.pr i).es.take k).foldl Edge.mv M)=M2:=by rw [ek,y55];exact hF.symm
    rw [e2]
    repeat' ((first|(apply y4 ok;rfl)|(refine z15 (i:=i) rfl gp ?_)|(apply y43;first|omega|(unfold inI;omega))|((first|(with_reducible apply z13;omega)|(apply z13;omega));intro _)|((first|apply z5|apply z91)<;>intro _))<;>conv=>whnf)
    all_goals try (exfalso;omega)
    all_goals refine z21 (i+1) hil (by omega) (by refine swR [0,1] [] rfl rfl ?_;(repeat' first|exact y85 _|apply y86|refine z10 rfl (z4 (fun _=>rfl)) ?_|constructor)<;>((rw [hM2];exact z9 _)))
  ·have e0:i=s.ps.length:=by omega
   subst e0
   rw [y55,← hrs]
   repeat' ((first|(apply y4 ok;rfl)|(apply y43;(unfold inI;omega))|((apply z5)<;>intro _))<;>conv=>whnf)
   all_goals try (exfalso;omega)
   all_goals refine z21 (r+1) (by omega) (by omega) (by refine swR [0,1] [] rfl rfl ?_;(repeat' first|exact y85 _|apply y86|refine z10 rfl (z4 (fun _=>rfl)) ?_|constructor)<;>((rw [hA2];exact z9 _)))
 ·have e0:r=3:=by omega
  subst e0
  repeat' (((apply y4 ok;rfl))<;>conv=>whnf)
  all_goals (refine rsD [1] [] rfl ?_;(repeat' first|exact y85 _|exact z9 _|refine z10 rfl (z4 (fun _=>rfl)) ?_|constructor))
theorem z564 (s:Sys) (hs1:s.s1) (l:List Tree) (hl:Lmx l) (hz:∀ t∈l,t.sz≤1000) (h1:sysB s=true) (h2:z85 l=true):CallsA Tryz.prog 81 [.agg s.cs,lst 3 Tree.cs' l] [] (.tup [lst 1 enB (s.rel l),.bool true]) []:=by
 have h:=z497 s hs1 l hl hz h1 h2
 rw [show (AC.tup [.sref 0 0 3,.bool true])=.tup [.sref 0 0 (s.rel l).length,.bool true] by rw [z513]] at h
 exact (by refine y5 (h) [] [0] rfl rfl rfl ?_ ?_<;>(repeat' first|exact y85 _|((apply z37 rfl rfl rfl);(focus ((repeat ((exact z23 (fun _=>rfl) _)));done));(focus (((simp;done));done)))|apply z93|constructor))
def z39 (p:Proc):List AC:=[.int p.loc,.own 10 (p.es.map Edge.cs)]
def subE (e:Edge):Edge:=⟨e.fr,e.to,subZ e.gd,e.var,subZ e.val,e.sync⟩
def subP (p:Proc):Proc:=⟨p.loc,p.es.map subE⟩
def subS (s:Sys):Sys:=⟨s.init,s.ps.map subP⟩
theorem subS_s1 {s:Sys} (h:s.s1):(subS s).s1:=by
 refine ⟨h.init,by simpa [subS] using h.len,fun p hp=>?_⟩
 obtain ⟨q,hq,rfl⟩:=List.mem_map.1 hp
 have h2:=h.el q hq
 refine ⟨by simpa [subP] using h2.len,fun e he=>?_⟩
 obtain ⟨f,hf,rfl⟩:=List.mem_map.1 he
 have h3:=h2.el f hf
 exact ⟨Nat.le_trans (z819 _) h3.gd,Nat.le_trans (z819 _) h3.val⟩
set_option maxHeartbeats 6400000 in
theorem z1001 (s:Sys) (hs:s.s1):CallsA Tryz.prog 82 [.agg s.cs] [] (.agg [.sref 0 0 s.init.length,.sref 1 0 s.ps.length]) [.cells 1 (s.init.map enI),.cells 2 (s.ps.map fun p=>z39 (subP p))]:=by
 have hl:=hs.len
 have hi:=hs.init
 refine z7 z16 Tryz.func82 rfl rfl 70 Tryz.ntmps82 (by simp) ?_
 repeat' ((first|(apply y4 ok;rfl)|(apply y43;first|(dsimp only;omega)|exact z120 (fun _=>rfl)))<;>conv=>whnf)
 refine y84 (y87 2 rfl) ?_
 refine z58 (fun i:Nat=>([(1,.ptr 0 none 0),(2,.ptr 1 none 0),(3,.ptr 3 none 0),(4,.int i)],[.cells 2 [s.cs],.cells 2 [[.nils,.nils]],.cells 1 (s.init.map enI),.cells 2 [[.sref 2 0 s.init.length,.sref 4 0 i]],.cells 2 ((s.ps.take i).map fun p=>z39 (subP p))])) (fun i=>i≤s.ps.length) (fun i=>s.ps.length - i) 0 (by omega) (by refine swR [0,1,3,4,5] [] rfl rfl ?_;(repeat' first|exact y85 _|exact z47|exact z9 _|(refine z60 ?_;(omega))|apply y86|((refine z10 rfl ?_ ?_);(focus ((repeat' (first|exact z31|exact z4 (fun _=>rfl)));done)))|constructor)) ?_
 intro i hi
 by_cases hil:i < s.ps.length
 ·have gp:(s.ps.map Proc.cs)[i]?=some (Proc.cs s.ps[i]):=by rw [y51,y45 hil];rfl
  have hp:=hs.el _ (y44 hil)
  have hpl:=hp.len
  repeat' ((first|(apply y4 ok;rfl)|(refine z15 (i:=i) rfl gp ?_)|(apply y43;omega)|((apply z5)<;>intro _))<;>conv=>whnf)
  all_goals try (exfalso;omega)
  refine y84 (y87 10 rfl) ?_
  refine z58 (fun k:Nat=>([(1,.ptr 0 none 0),(2,.ptr 1 none 0),(3,.ptr 3 none 0),(4,.int i),(5,.ptr 5 none 0),(6,.int k)],[.cells 2 [s.cs],.cells 2 [[.nils,.nils]],.cells 1 (s.init.map enI),.cells 2 [[.sref 2 0 s.init.length,.sref 4 0 i]],.cells 2 ((s.ps.take i).map fun p=>z39 (subP p)),.cells 2 [[.int s.ps[i].loc,.sref 6 0 k]],.cells 10 ((s.ps[i].es.take k).map fun e=>(subE e).cs)])) (fun k=>k≤s.ps[i].es.length) (fun k=>s.ps[i].es.length - k) 0 (by omega) (by refine swR [0,1,2,3,4,5,6] [] rfl rfl ?_;(repeat' first|exact y85 _|exact z47|exact z9 _|apply y86|((refine z10 rfl ?_ ?_);(focus ((repeat' (first|exact z31|exact z4 (fun _=>rfl)));done)))|constructor)) ?_
  intro k hk
  by_cases hkl:k < s.ps[i].es.length
  ·have ge:(s.ps[i].es.map Edge.cs)[k]?=some (Edge.cs s.ps[i].es[k]):=by rw [y51,y45 hkl];rfl
   have he:=hp.el _ (y44 hkl)
   have h1:=he.gd
   have h2:=he.val
   have c1:=z601 s.ps[i].es[k].gd (by omega)
   have c2:=z601 s.ps[i].es[k].val (by omega)
   rw [y16,y16] at c1 c2
   repeat' ((first|(apply y4 ok;rfl)|(refine z15 (i:=i) rfl gp ?_)|(refine z15 (i:=k) rfl ge ?_)|(apply y43;first|omega|(unfold inI;omega)|((try dsimp only);simp only [y49,y48,y47,y46,y57,y58];omega)|exact ⟨rfl,z20 rfl z29⟩)|((apply z5)<;>intro _)|(apply z6 (c1);rfl;rfl)|(apply z6 (c2);rfl;rfl))<;>conv=>whnf)
   all_goals try (exfalso;omega)
   all_goals refine z21 (k+1) (by omega) (by omega) (by refine swR [0,1,2,3,4,5,9] [] rfl rfl ?_;(repeat' first|exact y85 _|exact z9 _|apply y86|((first|refine z40 rfl ?_ ?_|refine z10 rfl ?_ ?_);(focus ((repeat' (first|exact z4 (fun _=>rfl)|apply z22));done)))|refine z106 (by omega) (by omega) ?_|constructor))
  ·have ek:k=s.ps[i].es.length:=by omega
   subst ek
   rw [y55]
   have eown:z39 (subP s.ps[i])=[.int s.ps[i].loc,.own 10 (s.ps[i].es.map fun e=>(subE e).cs)]:=by
    unfold z39 subP
    dsimp only
    rw [List.map_map];rfl
   repeat' ((first|(apply y4 ok;rfl)|(refine z15 (i:=i) rfl gp ?_)|(apply y43;first|omega|(unfold inI;omega)|((try dsimp only);simp only [y49,y48,y47,y46,y57,y58];omega)|exact ⟨rfl,z20 rfl z29⟩)|(((with_reducible apply z13;omega));intro _)|((apply z5)<;>intro _))<;>conv=>whnf)
   all_goals try (exfalso;omega)
   all_goals refine z21 (i+1) (by omega) (by omega) (by
    refine Gl.Reach.trans (Gl.Reach.absorb (e:=[.int s.ps[i].loc,.sref 6 0 s.ps[i].es.length]) 8 6 i 1 rfl (z828 _ _ i (by simp;omega)) rfl rfl (by simp) rfl (z4 fun _=>rfl) rfl) ?_
    exact (by refine swR [0,1,2,3,8] [] rfl rfl ?_;(repeat' first|exact y85 _|exact z9 _|apply y86|((first|refine z50 rfl ?_ ?_|refine z10 rfl ?_ ?_);(focus ((repeat' (first|exact z4 (fun _=>rfl)|apply z92|apply z22));done)))|(refine z10 rfl ?_ ?_;(focus (refine z192 ?_ ?_ rfl<;>first|(simp;omega)|(apply z22;exact z4 fun _=>rfl))))|(refine z342 ?_ ?_;(focus (simp;omega)))|refine z106 (by omega) (by omega) ?_|constructor)<;>((unfold subP;dsimp only;rw [List.map_map];exact y85 _))))
 ·have e:i=s.ps.length:=by omega
  subst e
  rw [y55]
  repeat' ((first|(apply y4 ok;rfl)|(apply y43;omega)|(((with_reducible apply z13;omega));intro _)|((apply z5)<;>intro _))<;>conv=>whnf)
  all_goals try (exfalso;omega)
  all_goals (refine rsD [2,4] [] rfl ?_;(repeat' first|exact y85 _|exact z9 _|refine z10 rfl (z4 (fun _=>rfl)) ?_|constructor))
theorem clE_full (l:List Tree) (hl:l.length≤1048576) (hp:0 < l.length):CallsA Tryz.prog 255 [lst 3 Tree.cs' l] [] (.sref 0 0 l.length) [.cells 3 (l.map Tree.cs')]:=by
 refine z14 z16 Tryz.func255 rfl rfl 8 Tryz.ntmps255 (by simp) ?_
 repeat' ((first|(apply y4 ok;rfl)|(apply y43;first|omega|(dsimp only;omega)|exact z120 (fun _=>rfl)))<;>conv=>whnf)
 exact z71 rfl (z4 fun _=>rfl) (Nat.zero_add _) rfl rfl
theorem clE_new0 (l:List Tree) (hl:l.length≤1048576):CallsA Tryz.prog 255 [lst 3 Tree.cs' l] [] (.sref 0 0 l.length) [.cells 3 (l.map Tree.cs')]:=by
 by_cases hp:0 < l.length
 ·exact clE_full l hl hp
 ·obtain rfl:l=[]:=y73 (by omega)
  refine z127 (z178 Tryz.func255 rfl (by rfl)) fun ad cap=>?_
  cases ad with
  |none =>
   refine CallsA.nils (res:=.nils) (l:=[.cells 3 []]) ?_ (by simp) z259
   refine z14 z16 Tryz.func255 rfl rfl 8 Tryz.ntmps255 (by simp) ?_
   repeat' (((apply y4 ok;rfl))<;>conv=>whnf)
   all_goals exact z49 rfl rfl rfl
  |some p =>
   refine z14 z16 Tryz.func255 rfl rfl 8 Tryz.ntmps255 (by simp) ?_
   repeat' ((first|(apply y4 ok;rfl)|(apply y43;omega))<;>conv=>whnf)
   all_goals (exact z71 rfl z31 rfl rfl rfl)
theorem clE_clip (l:List Tree) (hl:l.length≤1048576):CallsA Tryz.prog 254 [.sref 0 0 l.length] [.cells 3 (l.map Tree.cs')] (.sref 0 0 l.length) [.cells 3 (l.map Tree.cs')]:=by
 refine z14 z16 Tryz.func254 rfl rfl 9 Tryz.ntmps254 (by simp) ?_
 repeat' ((first|(apply y4 ok;rfl)|(apply y43;omega))<;>conv=>whnf)
 exact z71 rfl (z4 fun _=>rfl) (by omega) rfl rfl
theorem clE_new (l:List Tree) (hl:l.length≤1048576):CallsA Tryz.prog 213 [lst 3 Tree.cs' l] [] (.sref 0 0 l.length) [.cells 3 (l.map Tree.cs')]:=by
 refine z14 z16 Tryz.func213 rfl rfl 6 Tryz.ntmps213 (by simp) ?_
 repeat' ((first|(apply y4 ok;rfl)|((first|(apply z8 [] [0] (clE_new0 l hl);rfl;rfl)|(apply z77 [0] [] (clE_clip l hl);rfl;(focus ((repeat' first|exact z28|apply z35)<;>(refine z54 rfl ?_;((exact z4 fun _=>rfl)))))));rfl;(focus ((repeat' first|exact z12|apply z11)<;>(refine z17 ?_;((exact z4 fun _=>rfl)))))))<;>conv=>whnf)
 exact z71 rfl (z4 fun _=>rfl) rfl rfl rfl
theorem clP_full (l:List Proc) (hl:l.length≤1048576) (hp:0 < l.length):CallsA Tryz.prog 210 [lst 2 Proc.cs l] [] (.sref 0 0 l.length) [.cells 2 (l.map Proc.cs)]:=by
 refine z14 z16 Tryz.func210 rfl rfl 8 Tryz.ntmps210 (by simp) ?_
 repeat' ((first|(apply y4 ok;rfl)|(apply y43;first|omega|(dsimp only;omega)|exact z120 (fun _=>rfl)))<;>conv=>whnf)
 exact z71 rfl (z4 fun _=>rfl) (Nat.zero_add _) rfl rfl
theorem clP_new0 (l:List Proc) (hl:l.length≤1048576):CallsA Tryz.prog 210 [lst 2 Proc.cs l] [] (.sref 0 0 l.length) [.cells 2 (l.map Proc.cs)]:=by
 by_cases hp:0 < l.length
 ·exact clP_full l hl hp
 ·obtain rfl:l=[]:=y73 (by omega)
  refine z127 (z178 Tryz.func210 rfl (by rfl)) fun ad cap=>?_
  cases ad with
  |none =>
   refine CallsA.nils (res:=.nils) (l:=[.cells 2 []]) ?_ (by simp) z259
   refine z14 z16 Tryz.func210 rfl rfl 8 Tryz.ntmps210 (by simp) ?_
   repeat' (((apply y4 ok;rfl))<;>conv=>whnf)
   all_goals exact z49 rfl rfl rfl
  |some p =>
   refine z14 z16 Tryz.func210 rfl rfl 8 Tryz.ntmps210 (by simp) ?_
   repeat' ((first|(apply y4 ok;rfl)|(apply y43;omega))<;>conv=>whnf)
   all_goals (exact z71 rfl z31 rfl rfl rfl)
theorem clP_clip (l:List Proc) (hl:l.length≤1048576):CallsA Tryz.prog 209 [.sref 0 0 l.length] [.cells 2 (l.map Proc.cs)] (.sref 0 0 l.length) [.cells 2 (l.map Proc.cs)]:=by
 refine z14 z16 Tryz.func209 rfl rfl 9 Tryz.ntmps209 (by simp) ?_
 repeat' ((first|(apply y4 ok;rfl)|(apply y43;omega))<;>conv=>whnf)
 exact z71 rfl (z4 fun _=>rfl) (by omega) rfl rfl
theorem clP_new (l:List Proc) (hl:l.length≤1048576):CallsA Tryz.prog 151 [lst 2 Proc.cs l] [] (.sref 0 0 l.length) [.cells 2 (l.map Proc.cs)]:=by
 refine z14 z16 Tryz.func151 rfl rfl 6 Tryz.ntmps151 (by simp) ?_
 repeat' ((first|(apply y4 ok;rfl)|((first|(apply z8 [] [0] (clP_new0 l hl);rfl;rfl)|(apply z77 [0] [] (clP_clip l hl);rfl;(focus ((repeat' first|exact z28|apply z35)<;>(refine z54 rfl ?_;((exact z4 fun _=>rfl)))))));rfl;(focus ((repeat' first|exact z12|apply z11)<;>(refine z17 ?_;((exact z4 fun _=>rfl)))))))<;>conv=>whnf)
 exact z71 rfl (z4 fun _=>rfl) rfl rfl rfl
theorem clG_full (l:List Edge) (hl:l.length≤1048576) (hp:0 < l.length):CallsA Tryz.prog 212 [lst 10 Edge.cs l] [] (.sref 0 0 l.length) [.cells 10 (l.map Edge.cs)]:=by
 refine z14 z16 Tryz.func212 rfl rfl 8 Tryz.ntmps212 (by simp) ?_
 repeat' ((first|(apply y4 ok;rfl)|(apply y43;first|omega|(dsimp only;omega)|exact z120 (fun _=>rfl)))<;>conv=>whnf)
 exact z71 rfl (z4 fun _=>rfl) (Nat.zero_add _) rfl rfl
theorem clG_new0 (l:List Edge) (hl:l.length≤1048576):CallsA Tryz.prog 212 [lst 10 Edge.cs l] [] (.sref 0 0 l.length) [.cells 10 (l.map Edge.cs)]:=by
 by_cases hp:0 < l.length
 ·exact clG_full l hl hp
 ·obtain rfl:l=[]:=y73 (by omega)
  refine z127 (z178 Tryz.func212 rfl (by rfl)) fun ad cap=>?_
  cases ad with
  |none =>
   refine CallsA.nils (res:=.nils) (l:=[.cells 10 []]) ?_ (by simp) z259
   refine z14 z16 Tryz.func212 rfl rfl 8 Tryz.ntmps212 (by simp) ?_
   repeat' (((apply y4 ok;rfl))<;>conv=>whnf)
   all_goals exact z49 rfl rfl rfl
  |some p =>
   refine z14 z16 Tryz.func212 rfl rfl 8 Tryz.ntmps212 (by simp) ?_
   repeat' ((first|(apply y4 ok;rfl)|(apply y43;omega))<;>conv=>whnf)
   all_goals (exact z71 rfl z31 rfl rfl rfl)
theorem clG_clip (l:List Edge) (hl:l.length≤1048576):CallsA Tryz.prog 211 [.sref 0 0 l.length] [.cells 10 (l.map Edge.cs)] (.sref 0 0 l.length) [.cells 10 (l.map Edge.cs)]:=by
 refine z14 z16 Tryz.func211 rfl rfl 9 Tryz.ntmps211 (by simp) ?_
 repeat' ((first|(apply y4 ok;rfl)|(apply y43;omega))<;>conv=>whnf)
 exact z71 rfl (z4 fun _=>rfl) (by omega) rfl rfl
theorem clG_new (l:List Edge) (hl:l.length≤1048576):CallsA Tryz.prog 152 [lst 10 Edge.cs l] [] (.sref 0 0 l.length) [.cells 10 (l.map Edge.cs)]:=by
 refine z14 z16 Tryz.func152 rfl rfl 6 Tryz.ntmps152 (by simp) ?_
 repeat' ((first|(apply y4 ok;rfl)|((first|(apply z8 [] [0] (clG_new0 l hl);rfl;rfl)|(apply z77 [0] [] (clG_clip l hl);rfl;(focus ((repeat' first|exact z28|apply z35)<;>(refine z54 rfl ?_;((exact z4 fun _=>rfl)))))));rfl;(focus ((repeat' first|exact z12|apply z11)<;>(refine z17 ?_;((exact z4 fun _=>rfl)))))))<;>conv=>whnf)
 exact z71 rfl (z4 fun _=>rfl) rfl rfl rfl
theorem z1189 (t:Tree) (h:t.sz≤1000000):CallsA Tryz.prog 153 [z24 Tree.cs' t] [] (ownT t) [.cells 3 (t.kids.map Tree.cs')]:=by
 induction t using y26 with|h t ih=>?_
 have hkl:t.kids.length≤1000000:=by rw [y38] at h;omega
 have hks:∀ u∈t.kids,u.sz≤1000000:=fun u hu=>by
  have:=z244 Tree.sz hu
  rw [y38] at h;omega
 rw [y16 t]
 obtain ⟨k,v,l⟩:=t
 simp only [Tree.kind,Tree.val,Tree.kids] at *
 have hcs:∀ (i:Nat) (hi:i < l.length),CallsA Tryz.prog 153 [z24 Tree.cs' l[i]] [] (z24 Tree.cs' l[i]) []:=fun i hi =>
  z258 (ih _ (y44 _) (hks _ (y44 _)))
 have cC:=clE_new l (by omega)
 unfold ownT
 simp only [Tree.kind,Tree.val,Tree.kids] at *
 refine z7 z16 Tryz.func153 rfl rfl 30 Tryz.ntmps153 (by simp) ?_
 repeat' ((first|(apply y4 ok;rfl)|(apply z26;kernel_rfl)|(apply z8 [] [2] cC;rfl;rfl;rfl;(focus ((repeat' first|exact z12|apply z11)<;>(refine z17 ?_;((exact z4 fun _=>rfl)))))))<;>conv=>whnf)
 refine z58 (fun i:Nat=>([(1,.ptr 0 none 0),(2,.ptr 1 none 0),(3,.ptr 3 none 0),(15,lst 3 Tree.cs' l),(16,.int l.length),(17,.int i)],[.cells 3 [[.int k,.int v,lst 3 Tree.cs' l]],.cells 3 [[.int 0,.int 0,.nils]],.cells 3 (l.map Tree.cs'),.cells 3 [[.int k,.int v,.sref 2 0 l.length]]])) (fun i=>i≤l.length) (fun i=>l.length - i) 0 (by omega) (by refine swR [0,1,2,3] [] rfl rfl ?_;(repeat' first|exact y85 _|exact z9 _|apply y86|refine z10 rfl (z4 (fun _=>rfl)) ?_|constructor)) ?_
 intro i hi
 by_cases hil:i < l.length
 ·have hc:=hcs i hil
  have gk:(l.map Tree.cs')[i]?=some (Tree.cs' l[i]):=by rw [y51,y45 hil];rfl
  have hset:(l.map Tree.cs').set i (Tree.cs' l[i])=l.map Tree.cs':=by
   apply y74 (by simp)
   intro j h1 h2
   rw [List.getElem_set]
   split
   ·rename_i e;subst e;simp
   ·rfl
  generalize l[i]=x at *
  repeat' ((first|(apply y4 ok;rfl)|(apply z26;kernel_rfl)|(refine z15 (i:=i) rfl gk ?_)|(apply y43;first|omega|(unfold inI;omega))|((apply z5)<;>intro _)|(apply z6 (hc);rfl;rfl))<;>conv=>whnf)
  all_goals try (exfalso;omega)
  all_goals refine z21 (i+1) (by omega) (by omega) (by refine swR [0,1,2,3] [] rfl rfl ?_;(repeat' first|exact y85 _|apply y86|refine z50 rfl (z4 (fun _=>rfl)) ?_|constructor)<;>((refine z45 ?_;exact hset)))
 ·have e:i=l.length:=by omega
  subst e
  repeat' ((first|(apply y4 ok;rfl)|(apply y43;omega)|(((with_reducible apply z13;omega));intro _)|((apply z5)<;>intro _))<;>conv=>whnf)
  all_goals try (exfalso;omega)
  all_goals (refine rsD [2] [] rfl ?_;(repeat' first|exact y85 _|exact z9 _|refine z10 rfl (z4 (fun _=>rfl)) ?_|constructor))
theorem z951 (t:Tree) (h:t.sz≤1000000):CallsA Tryz.prog 153 [z24 Tree.cs' t] [] (z24 Tree.cs' t) []:=z258 (z1189 t h)
end Go.Proofs.YtnfoijopccdjeaaGreat
